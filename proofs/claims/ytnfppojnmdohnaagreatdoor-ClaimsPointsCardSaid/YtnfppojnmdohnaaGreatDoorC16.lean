/- The code of the abstract machine for the functions that the statement ClaimsPoints reaches. No condition. -/
import Derived.Test.YtnfppojnmdohnaaGreatDoorQ3
set_option linter.unusedVariables false
set_option linter.unusedSimpArgs false
namespace Go.AM
open Go
abbrev Zty:AV:=.int .i64 0
abbrev Mv (d a:Nat):AOper:=o d (.mv (.t a))
abbrev Ld (d a:Nat):AOper:=o d (.load none (.t a))
abbrev Fa (d i a:Nat):AOper:=o d (.fadr i (.t a))
abbrev Nk (d a:Nat):AOper:=o d (.nilck (.t a))
abbrev Bt (d:Nat) (x:BinOp) (a b:Nat):AOper:=o d (.bin x (.t a) (.t b))
abbrev Ci (n:Int):Arg:=.c (.int .i64 n)
abbrev Bc (d:Nat) (x:BinOp) (a:Nat) (n:Int):AOper:=o d (.bin x (.t a) (Ci n))
abbrev Gm (d a t:Nat) (g:Bool):AOper:=og d (.mv (.t a)) t g
abbrev Gl (d a t:Nat) (g:Bool):AOper:=og d (.load none (.t a)) t g
abbrev Ga (d i a t:Nat) (g:Bool):AOper:=og d (.fadr i (.t a)) t g
abbrev Gk (d a t:Nat) (g:Bool):AOper:=og d (.nilck (.t a)) t g
abbrev Gt (d:Nat) (x:BinOp) (a b t:Nat) (g:Bool):AOper:=og d (.bin x (.t a) (.t b)) t g
abbrev Gc (d:Nat) (x:BinOp) (a:Nat) (n:Int) (t:Nat) (g:Bool):AOper:=og d (.bin x (.t a) (Ci n)) t g
abbrev So (n a b:Nat):AOper:=⟨none,.store n (.t a) (.t b),none⟩
abbrev cT:Arg:=.c (.bool true)
abbrev cF:Arg:=.c (.bool false)
abbrev Zf8 (d:Nat) (n:Int):AOper:=o d (.mv (Ci n))
abbrev Zfc (d:Nat):AOper:=o d (.mv cF)
abbrev Zf9 (d z a:Nat):AOper:=o d (.load (some z) (.t a))
abbrev Zhy (d k a:Nat):AOper:=o d (.len k (.t a))
abbrev Zfd (d a b:Nat):AOper:=o d (.pick (.t a) (.t b) cF)
abbrev Pk (d a b:Nat):AOper:=o d (.pick (.t a) cT (.t b))
abbrev Zfe (d z a b:Nat):AOper:=o d (.iadr z (.t a) (.t b))
abbrev Zff (d z a:Nat):AOper:=o d (.ibox z (.t a))
abbrev Zfb (d f:Nat) (l:List Arg):AOper:=o d (.call true f l)
abbrev Zf7 (l:List Nat) (r:List AOper):ACode:=.keep l (.region r)
abbrev Zfa:ACode:=.skip
abbrev Zr1:AV:=.agg [.int .i64 0,.int .i64 0]
abbrev Zr2:AV:=.agg [.str emp,.str emp,.str emp,.int .i64 0,.int .i64 0,.str emp,.int .i64 0,.int .i64 0,.int .i64 0,.int .i64 0,.int .i64 0,.int .i64 0,.isl false false 1 [],.int .i64 0,.int .i64 0,.str emp]
abbrev Zr3:AV:=.agg [.str emp,.int .i64 0,.int .i64 0,.isl false false 2 [],.isl false false 3 [],.int .i64 0]
abbrev Zr4:AV:=.agg [.str emp,.int .i64 0,.str emp,.int .i64 0,.int .i64 0,.int .i64 0,.int .i64 0]
abbrev Zr5:AV:=.agg [.isl false false 6 [],.isl false false 5 [],.isl false false 4 [],.isl false false 16 [],.isl false false 6 [],.isl false false 2 [],.isl false false 2 []]
abbrev Zr6:AV:=.agg [.int .i64 0,.int .i64 0,.int .i64 0,.int .i64 0,.int .i64 0,.str emp,.str emp,.str emp,.isl false false 1 [],.isl false false 3 [],.int .i64 0,.str emp,.int .i64 0,.int .i64 0,.int .i64 0,.int .i64 0,.isl false false 2 [],.isl false false 7 []]
abbrev Zr7:AV:=.agg [.str emp,.int .i64 0,.isl false false 2 [],.isl false false 3 [],.int .i64 0]
abbrev Zr8:AV:=.agg [.str emp,.str emp,.str emp,.int .i64 0,.int .i64 0,.int .i64 0]
abbrev Zr9:AV:=.agg [.str emp,.int .i64 0,.isl false false 2 [],.int .i64 0]
abbrev RW:AV:=.agg [.int .i64 0,.int .i64 0,.int .i64 0,.int .i64 0,.int .i64 0,.int .i64 0]
abbrev RX:AV:=.agg [.str emp,.int .i64 0,.str emp]
abbrev RY:AV:=.agg [.int .i64 0,.int .i64 0,.int .i64 0,.str emp]
def c16L0b:ACode:=.keep [2,4,5,7,8,9,10,12]<|.seq (.seq (Zf7 [2,4,5,7,9,10,12,53] [Mv 49 12,Fa 50 0 4,Ld 51 50,Zhy 52 1 51,Bt 53 .lss 49 52])<|.cond (.t 53) Zfa (.exit 0))<|.seq (.keep [2,4,5,7,8,9,10,12]<|.block 1<|.seq (Zf7 [2,4,5,7,9,10,12,13] [Fa 56 0 4,Ld 57 56,Mv 58 12,Zfe 59 6 57 58,Zf9 60 6 59,o 13 (.box 6 (.c Zr3)),So 6 13 60])<|.seq (Zf7 [2,4,5,7,9,10,12,84] [Fa 61 1 13,Ld 62 61,Bc 63 .eql 62 1,Mv 64 63,Ga 65 5 13 64 true,Gl 66 65 64 true,Gc 67 .eql 66 (-1) 64 true,Zfd 68 64 67,Mv 69 68,Ga 70 3 13 69 true,Gl 71 70 69 true,og 72 (.load (some 2) (.t 5)) 69 true,og 73 (.call true 53 [(.t 71),(.t 72)]) 69 true,Gc 74 .geq 73 0 69 true,Zfd 75 69 74,Mv 76 75,Gm 77 10 76 true,og 78 (.load (some 7) (.t 4)) 76 true,Ga 79 2 13 76 true,Gl 80 79 76 true,og 81 (.call true 23 [(.t 78),(.t 80)]) 76 true,og 82 (.call true 54 [(.t 77),(.t 81)]) 76 true,og 83 (.un .not (.t 82)) 76 true,Zfd 84 76 83])<|.cond (.t 84) (.seq (.region [Zfc 8])<|.ret) Zfa)<|Zf7 [2,4,5,7,9,10,12] [Mv 54 12,Bc 55 .add 54 1,Mv 12 55]
def c16L0:ACode:=.loop [2,4,5,7,9,10,12] c16L0b
def c16L1b:ACode:=.keep [2,4,5,7,9,10,14,15,16]<|.seq (.seq (Zf7 [2,4,5,7,9,10,14,15,16,95] [Mv 91 16,Fa 92 0 4,Ld 93 92,Zhy 94 1 93,Bt 95 .lss 91 94])<|.cond (.t 95) Zfa (.exit 4))<|.seq (.keep [2,4,5,7,9,10,14,15,16]<|.block 5<|.seq (Zf7 [2,4,5,7,9,10,14,15,16,17] [Fa 98 0 4,Ld 99 98,Mv 100 16,Zfe 101 6 99 100,Zf9 102 6 101,o 17 (.box 6 (.c Zr3)),So 6 17 102])<|.keep [2,4,5,7,9,10,14,15,16]<|.draw [[],[],[],[],[],[],[],[],[],[],[],[],[],[],[],[],[],[],[],[],[],[],[],[],[],[]] [Mv 103 15,Mv 104 103,Ga 105 1 17 104 false,Gl 106 105 104 false,Gc 107 .eql 106 1 104 false,Gm 108 107 104 false,Ga 109 5 17 108 true,Gl 110 109 108 true,Gc 111 .eql 110 (-1) 108 true,og 112 (.pick (.t 108) (.t 111) cF) 104 false,Gm 113 112 104 false,Ga 114 3 17 113 true,Gl 115 114 113 true,og 116 (.load (some 2) (.t 5)) 113 true,og 117 (.call true 53 [(.t 115),(.t 116)]) 113 true,Gc 118 .geq 117 0 113 true,og 119 (.pick (.t 113) (.t 118) cF) 104 false,Gm 120 119 104 false,og 121 (.load (some 7) (.t 4)) 120 true,Ga 122 2 17 120 true,Gl 123 122 120 true,og 124 (.call true 23 [(.t 121),(.t 123)]) 120 true,Gm 125 10 120 true,Gm 126 14 120 true,og 127 (.iadr 1 (.t 125) (.t 126)) 120 true,Gl 128 127 120 true] [Gt 129 .eql 124 128 120 true,og 130 (.pick (.t 120) (.t 129) cF) 104 false,Pk 131 104 130,Mv 15 131])<|Zf7 [2,4,5,7,9,10,14,15,16] [Mv 96 16,Bc 97 .add 96 1,Mv 16 97]
def c16L1:ACode:=.loop [2,4,5,7,9,10,14,15,16] c16L1b
def c16L2b:ACode:=.keep [2,4,5,7,8,9,10,14]<|.seq (.seq (Zf7 [2,4,5,7,9,10,14,88] [Mv 85 14,Mv 86 10,Zhy 87 1 86,Bt 88 .lss 85 87])<|.cond (.t 88) Zfa (.exit 2))<|.seq (.keep [2,4,5,7,8,9,10,14]<|.block 3<|.seq (.region [Zfc 15])<|.seq (.seq (.region [Zf8 16 0])<|.keep [2,4,5,7,9,10,14,15]<|.block 4<|c16L1)<|.seq (.keep [2,4,5,7,9,10,14,149]<|.draw [[],[],[],[],[],[],[],[],[],[],[],[],[],[],[]] [Mv 132 15,o 133 (.un .not (.t 132)),Mv 134 133,Gm 135 14 134 false,Gc 136 .gtr 135 0 134 false,Gm 137 136 134 false,Gm 138 10 137 true,Gm 139 14 137 true,Gc 140 .sub 139 1 137 true,og 141 (.iadr 1 (.t 138) (.t 140)) 137 true,Gl 142 141 137 true,Gm 143 10 137 true,Gm 144 14 137 true,og 145 (.iadr 1 (.t 143) (.t 144)) 137 true,Gl 146 145 137 true] [Gt 147 .geq 142 146 137 true,og 148 (.pick (.t 137) (.t 147) cF) 134 false,Pk 149 134 148])<|.cond (.t 149) (.seq (.region [Zfc 8])<|.ret) Zfa)<|Zf7 [2,4,5,7,9,10,14] [Mv 89 14,Bc 90 .add 89 1,Mv 14 90]
def c16L2:ACode:=.loop [2,4,5,7,9,10,14] c16L2b
def c16L3b:ACode:=.keep [4,8,9,10,18,21,23,24]<|.seq (.seq (.region [Mv 195 24,Bc 196 .lss 195 64])<|.cond (.t 196) Zfa (.exit 6))<|.seq (.keep [4,8,9,10,18,21,23,24]<|.block 7<|.seq (Zf7 [4,9,10,18,21,23,24,215] [Mv 199 21,Mv 200 24,Zfb 201 54 [(.t 199),(.t 200)],Mv 202 10,Mv 203 24,Zfb 204 54 [(.t 202),(.t 203)],Mv 205 204,Gm 206 23 205 false,Gm 207 206 205 false,Gm 208 24 207 true,og 209 (.load (some 7) (.t 4)) 207 true,Gm 210 18 207 true,og 211 (.call true 23 [(.t 209),(.t 210)]) 207 true,Gt 212 .eql 208 211 207 true,og 213 (.pick (.t 207) (.t 212) cF) 205 false,Pk 214 205 213,o 215 (.eqv true false [0] (.t 201) (.t 214))])<|.cond (.t 215) (.seq (.region [Zfc 8])<|.ret) Zfa)<|Zf7 [4,9,10,18,21,23,24] [Mv 197 24,Bc 198 .add 197 1,Mv 24 198]
def c16L3:ACode:=.loop [4,9,10,18,21,23,24] c16L3b
def c16:ACode:=.seq (Zf7 [2,4,5,7] [Zff 4 7 0,Zff 5 2 1,Zff 7 18 3,Zfc 8])<|
.seq (.region [Zfb 25 19 [],Mv 9 25])<|
.seq (.seq (Zf7 [2,4,5,7,9,29] [Zf9 26 7 4,Zf9 27 18 7,Zfb 28 20 [(.t 26),(.t 27)],o 29 (.un .not (.t 28))])<|.cond (.t 29) (.seq (.region [Mv 30 9,Mv 8 30])<|.ret) Zfa)<|
.seq (Zf7 [2,4,5,7,9,10,11] [Zf9 32 7 4,Zf9 33 2 5,Zfb 34 21 [(.t 32),(.t 33)],Mv 31 34,o 35 (.ext (.t 31) 0),o 36 (.ext (.t 31) 1),Mv 10 35,Mv 11 36])<|
.seq (.seq (.region [Mv 37 11,Bc 38 .neq 37 0])<|.cond (.t 38) (.seq (Zf7 [8] [Mv 39 9,Mv 40 39,Gm 41 11 40 true,Gc 42 .eql 41 1 40 true,Zfd 43 40 42,Mv 44 43,Gm 45 10 44 true,og 46 (.len 1 (.t 45)) 44 true,Gc 47 .eql 46 0 44 true,Zfd 48 44 47,Mv 8 48])<|.ret) Zfa)<|
.seq (.seq (.region [Zf8 12 0])<|.keep [2,4,5,7,8,9,10]<|.block 0<|c16L0)<|
.seq (.seq (.region [Zf8 14 0])<|.keep [2,4,5,7,8,9,10]<|.block 2<|c16L2)<|
.seq (Zf7 [4,5,7,9,10,18] [Mv 150 2,o 151 (.conv (some .i64) (.t 150)),Bc 152 .rem 151 64,Mv 18 152])<|
.seq (Zf7 [4,5,7,9,10,18,19,20] [Zf9 154 7 4,Mv 155 18,Zf9 156 18 7,Zfb 157 34 [(.t 154),(.t 155),(.t 156)],Mv 153 157,o 158 (.ext (.t 153) 0),o 159 (.ext (.t 153) 1),o 19 (.box 7 (.c Zr5)),So 7 19 158,Mv 20 159])<|
.seq (.seq (Zf7 [4,5,7,9,10,18,19,175] [Mv 160 20,Bc 161 .neq 160 0,Mv 162 161,Ga 163 0 7 162 false,Gl 164 163 162 false,Gc 165 .neq 164 1 162 false,Pk 166 162 165,Mv 167 166,Ga 168 0 19 167 false,Gl 169 168 167 false,og 170 (.len 1 (.t 169)) 167 false,Ga 171 0 4 167 false,Gl 172 171 167 false,og 173 (.len 1 (.t 172)) 167 false,Gt 174 .eql 170 173 167 false,Pk 175 167 174])<|.cond (.t 175) (.seq (.region [Mv 176 9,Mv 8 176])<|.ret) Zfa)<|
.seq (Zf7 [4,5,7,9,10,18,21,22] [Zf9 178 7 19,Zf9 179 2 5,Zfb 180 21 [(.t 178),(.t 179)],Mv 177 180,o 181 (.ext (.t 177) 0),o 182 (.ext (.t 177) 1),Mv 21 181,Mv 22 182])<|
.seq (.seq (.region [Mv 183 22,Bc 184 .neq 183 0])<|.cond (.t 184) (.seq (.region [Zfc 8])<|.ret) Zfa)<|
.seq (Zf7 [4,9,10,18,21,23] [Fa 185 2 7,Ld 186 185,Bc 187 .eql 186 1,Mv 188 187,Ga 189 16 7 188 true,Gl 190 189 188 true,og 191 (.load (some 2) (.t 5)) 188 true,og 192 (.call true 53 [(.t 190),(.t 191)]) 188 true,Gc 193 .geq 192 0 188 true,Zfd 194 188 193,Mv 23 194])<|
.seq (.seq (.region [Zf8 24 0])<|.keep [8,9]<|.block 6<|c16L3)<|
.seq (.region [Mv 216 9,Mv 8 216])<|
.ret
def a16:AFun:=⟨[.tmp 8],c16⟩
def c19:ACode:=.seq (.region [Zfc 0])<|
.seq (Zf7 [1] [Zfb 13 56 [],o 1 (.box 7 (.c Zr5)),So 7 1 13])<|
.seq (Zf7 [1,2] [o 14 (.build [.int .i64 0,.int .i64 0,.int .i64 0,.int .i64 0,.int .i64 0,.str emp,.str emp,.str emp,.isl false false 1 [],.isl false false 3 [],.int .i64 0,.str emp,.int .i64 0,.int .i64 0,.int .i64 0,.int .i64 0,.isl false false 2 [],.isl false false 7 []] [(0,1,(Ci 12)),(5,1,(.c (.str (B [115]))))]),o 2 (.box 18 (.c Zr6)),So 18 2 14])<|
.seq (Zf7 [1,2,3] [o 15 (.build [.int .i64 0,.int .i64 0,.int .i64 0,.int .i64 0,.int .i64 0,.str emp,.str emp,.str emp,.isl false false 1 [],.isl false false 3 [],.int .i64 0,.str emp,.int .i64 0,.int .i64 0,.int .i64 0,.int .i64 0,.isl false false 2 [],.isl false false 7 []] [(0,1,(Ci 14)),(2,1,(Ci 2)),(3,1,(Ci 1))]),o 3 (.box 18 (.c Zr6)),So 18 3 15])<|
.seq (Zf7 [1,2,3,4,5] [Zf9 17 7 1,o 18 (.build [.int .i64 0,.int .i64 0] [(0,1,(Ci 6)),(1,1,(Ci 1))]),Zfb 19 21 [(.t 17),(.t 18)],Mv 16 19,o 20 (.ext (.t 16) 0),o 21 (.ext (.t 16) 1),Mv 4 20,Mv 5 21])<|
.seq (Zf7 [1,2,3,4,5,6,7] [Zf9 23 7 1,o 24 (.build [.int .i64 0,.int .i64 0] [(0,1,(Ci 20)),(1,1,(Ci 1))]),Zfb 25 21 [(.t 23),(.t 24)],Mv 22 25,o 26 (.ext (.t 22) 0),o 27 (.ext (.t 22) 1),Mv 6 26,Mv 7 27])<|
.seq (.keep [1,2,3,8]<|.draw [[],[],[],[],[],[],[],[],[],[],[],[],[],[],[],[],[],[],[],[],[],[],[],[],[],[],[],[],[],[],[]] [Mv 28 5,Bc 29 .eql 28 0,Mv 30 29,Gm 31 4 30 true,og 32 (.bsl true false 1 (.int .i64 0) 2 [(0,(Ci 1)),(1,(Ci 2))]) 30 true,og 33 (.call true 25 [(.t 31),(.t 32)]) 30 true,Zfd 34 30 33,Mv 35 34,Gm 36 7 35 true,Gc 37 .eql 36 0 35 true,Zfd 38 35 37,Mv 39 38,Gm 40 6 39 true,og 41 (.len 1 (.t 40)) 39 true,Gc 42 .eql 41 0 39 true,Zfd 43 39 42,Mv 44 43,og 45 (.load (some 7) (.t 1)) 44 true,og 46 (.call true 57 [(Ci 1)]) 44 true,og 47 (.call true 28 [(.t 45),(Ci 1),(.t 46)]) 44 true,Gc 48 .eql 47 0 44 true,Zfd 49 44 48,Mv 50 49,og 51 (.load (some 7) (.t 1)) 50 true,og 52 (.call true 57 [(Ci 6)]) 50 true,og 53 (.call true 28 [(.t 51),(Ci 1),(.t 52)]) 50 true,Gc 54 .eql 53 19 50 true,Zfd 55 50 54,Mv 56 55,og 57 (.load (some 7) (.t 1)) 56 true,og 58 (.call true 57 [(Ci 12)]) 56 true] [og 59 (.call true 28 [(.t 57),(Ci 1),(.t 58)]) 56 true,Gc 60 .eql 59 18 56 true,Zfd 61 56 60,Mv 8 61])<|
.seq (Zf7 [1,2,8,9] [Zf9 62 7 1,Zf9 63 18 2,Zfb 64 28 [(.t 62),(Ci 2),(.t 63)],Bc 65 .eql 64 18,Mv 66 65,og 67 (.load (some 7) (.t 1)) 66 true,og 68 (.load (some 18) (.t 2)) 66 true,og 69 (.call true 28 [(.t 67),(Ci 1),(.t 68)]) 66 true,Gc 70 .eql 69 0 66 true,Zfd 71 66 70,Mv 72 71,og 73 (.load (some 7) (.t 1)) 72 true,og 74 (.build [.int .i64 0,.int .i64 0,.int .i64 0,.int .i64 0,.int .i64 0,.str emp,.str emp,.str emp,.isl false false 1 [],.isl false false 3 [],.int .i64 0,.str emp,.int .i64 0,.int .i64 0,.int .i64 0,.int .i64 0,.isl false false 2 [],.isl false false 7 []] [(0,1,(Ci 15)),(5,1,(.c (.str (B [104])))),(7,1,(.c (.str (B [120]))))]) 72 true,og 75 (.call true 28 [(.t 73),(Ci 3),(.t 74)]) 72 true,Gc 76 .eql 75 18 72 true,Zfd 77 72 76,Mv 78 77,og 79 (.load (some 7) (.t 1)) 78 true,og 80 (.load (some 18) (.t 3)) 78 true,og 81 (.call true 28 [(.t 79),(Ci 0),(.t 80)]) 78 true,Gc 82 .eql 81 0 78 true,Zfd 83 78 82,Mv 84 83,og 85 (.load (some 7) (.t 1)) 84 true,og 86 (.load (some 18) (.t 3)) 84 true,og 87 (.call true 28 [(.t 85),(Ci 1),(.t 86)]) 84 true,Gc 88 .eql 87 18 84 true,Zfd 89 84 88,Mv 9 89])<|
.seq (Zf7 [1,2,8,9] [o 90 (.build [.int .i64 0,.int .i64 0] [(0,1,(Ci 2)),(1,1,(Ci 1))]),o 91 (.bsl true false 2 Zr1 1 [(0,(.t 90))]),Fa 92 6 1,So 1 92 91])<|
.seq (.keep [1,2,8,9,10]<|.draw [[],[],[],[],[],[],[],[],[],[],[],[],[],[],[],[]] [Zf9 93 7 1,Zfb 94 26 [(.t 93),(Ci 2),(Ci 1)],Mv 95 94,og 96 (.load (some 7) (.t 1)) 95 true,og 97 (.call true 26 [(.t 96),(Ci 1),(Ci 2)]) 95 true,og 98 (.un .not (.t 97)) 95 true,Zfd 99 95 98,Mv 100 99,og 101 (.load (some 7) (.t 1)) 100 true,og 102 (.call true 57 [(Ci 6)]) 100 true,og 103 (.call true 28 [(.t 101),(Ci 2),(.t 102)]) 100 true,Gc 104 .eql 103 0 100 true,Zfd 105 100 104,Mv 106 105,og 107 (.load (some 7) (.t 1)) 106 true,og 108 (.call true 57 [(Ci 6)]) 106 true] [og 109 (.call true 28 [(.t 107),(Ci 1),(.t 108)]) 106 true,Gc 110 .eql 109 19 106 true,Zfd 111 106 110,Mv 10 111])<|
.seq (Zf7 [1,2,8,9,10] [o 112 (.build [.int .i64 0,.int .i64 0] [(0,1,(Ci 1)),(1,1,(Ci 2))]),o 113 (.bsl true false 2 Zr1 1 [(0,(.t 112))]),Fa 114 5 1,So 1 114 113])<|
.seq (Zf7 [1,2,8,9,10,11,12] [Zf9 116 7 1,o 117 (.build [.int .i64 0,.int .i64 0] [(0,1,(Ci 6)),(1,1,(Ci 1))]),Zfb 118 21 [(.t 116),(.t 117)],Mv 115 118,o 119 (.ext (.t 115) 0),o 120 (.ext (.t 115) 1),Mv 11 119,Mv 12 120])<|
.seq (Zf7 [0] [Mv 121 8,Mv 122 121,Gm 123 9 122 true,Zfd 124 122 123,Mv 125 124,Gm 126 10 125 true,Zfd 127 125 126,Mv 128 127,Gm 129 12 128 true,Gc 130 .eql 129 0 128 true,Zfd 131 128 130,Mv 132 131,og 133 (.rel (.t 11)) 132 true,og 134 (.bsl true false 1 (.int .i64 0) 1 [(0,(Ci 1))]) 132 true,og 135 (.call true 25 [(.t 133),(.t 134)]) 132 true,Zfd 136 132 135,Mv 137 136,og 138 (.load (some 7) (.t 1)) 137 true,og 139 (.call true 23 [(.t 138),(Ci 2)]) 137 true,Gc 140 .eql 139 1 137 true,Zfd 141 137 140,Mv 142 141,og 143 (.load (some 7) (.t 1)) 142 true,og 144 (.load (some 18) (.t 2)) 142 true,og 145 (.call true 28 [(.t 143),(Ci 2),(.t 144)]) 142 true,Gc 146 .eql 145 0 142 true,Zfd 147 142 146,Mv 0 147])<|
.ret
def a19:AFun:=⟨[.tmp 0],c19⟩
def c20:ACode:=.seq (Zf7 [2,3] [Zff 2 7 0,Zff 3 18 1,Zfc 4])<|
.seq (Zf7 [4] [Zf9 5 7 2,Zfb 6 58 [(.t 5)],Mv 7 6,og 8 (.load (some 18) (.t 3)) 7 true,og 9 (.call true 59 [(.t 8)]) 7 true,Zfd 10 7 9,Mv 4 10])<|
.ret
def a20:AFun:=⟨[.tmp 4],c20⟩
def c21:ACode:=.seq (Zf7 [2,3] [Zff 2 7 0,Zff 3 2 1,o 4 (.mv (.c (.isl false false 1 []))),Zf8 5 0])<|
.seq (Zf7 [3,6,7] [Zf9 9 7 2,Zfb 10 60 [(.t 9)],Mv 8 10,o 11 (.ext (.t 8) 0),o 12 (.ext (.t 8) 1),Mv 6 11,Mv 7 12])<|
.seq (.seq (Zf7 [3,6,19] [Mv 13 7,o 14 (.un .not (.t 13)),Mv 15 14,og 16 (.load (some 2) (.t 3)) 15 false,og 17 (.call true 61 [(.t 16)]) 15 false,og 18 (.un .not (.t 17)) 15 false,Pk 19 15 18])<|.cond (.t 19) (.seq (.region [o 4 (.mv (.c (.isl false false 1 []))),Zf8 5 1])<|.ret) Zfa)<|
.seq (Zf7 [4,5] [Mv 20 6,Zf9 21 2 3,Zfb 22 62 [(.t 20),(.t 21)],Mv 4 22,Zf8 5 0])<|
.ret
def a21:AFun:=⟨[.tmp 4,.tmp 5],c21⟩
def c23:ACode:=.seq (.region [Zff 2 7 0,Zf8 4 0])<|
.seq (Zf7 [1,5,6] [Zf9 8 7 2,Zfb 9 60 [(.t 8)],Mv 7 9,o 10 (.ext (.t 7) 0),o 11 (.ext (.t 7) 1),Mv 5 10,Mv 6 11])<|
.seq (.seq (Zf7 [1,5,18] [Mv 12 6,o 13 (.un .not (.t 12)),Mv 14 13,Gm 15 1 14 false,og 16 (.call true 65 [(.t 15)]) 14 false,og 17 (.un .not (.t 16)) 14 false,Pk 18 14 17])<|.cond (.t 18) (.seq (.region [Zf8 4 (-1)])<|.ret) Zfa)<|
.seq (Zf7 [4] [Mv 19 5,Mv 20 1,Zfb 21 66 [(.t 19),(.t 20)],Mv 4 21])<|
.ret
def a23:AFun:=⟨[.tmp 4],c23⟩
def c25L0b:ACode:=.keep [0,1,4,5]<|.seq (.seq (Zf7 [0,1,5,14] [Mv 11 5,Mv 12 0,Zhy 13 1 12,Bt 14 .lss 11 13])<|.cond (.t 14) Zfa (.exit 0))<|.seq (.keep [0,1,4,5]<|.block 1<|.seq (.keep [0,1,5,25]<|.draw [[],[],[],[],[],[],[],[]] [Mv 17 0,Mv 18 5,Zfe 19 1 17 18,Ld 20 19,Mv 21 1,Mv 22 5,Zfe 23 1 21 22,Ld 24 23] [Bt 25 .neq 20 24])<|.cond (.t 25) (.seq (.region [Zfc 4])<|.ret) Zfa)<|Zf7 [0,1,5] [Mv 15 5,Bc 16 .add 15 1,Mv 5 16]
def c25L0:ACode:=.loop [0,1,5] c25L0b
def c25:ACode:=.seq (.region [Zfc 4])<|
.seq (.seq (Zf7 [0,1,10] [Mv 6 0,Zhy 7 1 6,Mv 8 1,Zhy 9 1 8,Bt 10 .neq 7 9])<|.cond (.t 10) (.seq (.region [Zfc 4])<|.ret) Zfa)<|
.seq (.seq (.region [Zf8 5 0])<|.keep [4]<|.block 0<|c25L0)<|
.seq (.region [o 4 (.mv cT)])<|
.ret
def a25:AFun:=⟨[.tmp 4],c25⟩
def c26:ACode:=.seq (.region [Zff 3 7 0,Zfc 6])<|
.seq (Zf7 [1,2,7,8] [Zf9 10 7 3,Zfb 11 60 [(.t 10)],Mv 9 11,o 12 (.ext (.t 9) 0),o 13 (.ext (.t 9) 1),Mv 7 12,Mv 8 13])<|
.seq (Zf7 [6] [Mv 14 8,Mv 15 14,Gm 16 1 15 true,og 17 (.call true 65 [(.t 16)]) 15 true,Zfd 18 15 17,Mv 19 18,Gm 20 2 19 true,og 21 (.call true 65 [(.t 20)]) 19 true,Zfd 22 19 21,Mv 23 22,Gm 24 7 23 true,Gm 25 7 23 true,Gm 26 1 23 true,og 27 (.call true 66 [(.t 25),(.t 26)]) 23 true,Gm 28 7 23 true,Gm 29 2 23 true,og 30 (.call true 66 [(.t 28),(.t 29)]) 23 true,og 31 (.call true 69 [(.t 24),(.t 27),(.t 30)]) 23 true,Zfd 32 23 31,Mv 6 32])<|
.ret
def a26:AFun:=⟨[.tmp 6],c26⟩
def c28L0b:ACode:=.keep [6,46,47,48]<|.seq (.region [Bt 49 .lss 48 47])<|.seq (.cond (.t 49) Zfa (.exit 0))<|.seq (.keep [6,46,47,48]<|.block 1<|.seq (Zf7 [11,46,47,48] [Zfe 50 1 46 48,Ld 51 50,Mv 11 51])<|.seq (Zf7 [12,46,47,48] [Mv 52 11,o 53 (.callv true (.t 52) []),Mv 12 53])<|.seq (.region [Mv 54 12,Bc 55 .neq 54 0])<|.cond (.t 55) (.seq (.region [Mv 56 12,Mv 6 56])<|.ret) Zfa)<|.region [Bc 57 .add 48 1,Mv 48 57]
def c28L0:ACode:=.loop [46,47,48] c28L0b
def c28:ACode:=.seq (Zf7 [1,3,5] [Zff 3 7 0,Zff 5 18 2,Zf8 6 0])<|
.seq (Zf7 [1,5,7,8] [Zf9 14 7 3,Zfb 15 60 [(.t 14)],Mv 13 15,o 16 (.ext (.t 13) 0),o 17 (.ext (.t 13) 1),Mv 7 16,Mv 8 17])<|
.seq (.seq (Zf7 [1,5,7,29] [Mv 18 8,o 19 (.un .not (.t 18)),Mv 20 19,Gm 21 1 20 false,og 22 (.call true 65 [(.t 21)]) 20 false,og 23 (.un .not (.t 22)) 20 false,Pk 24 20 23,Mv 25 24,og 26 (.load (some 18) (.t 5)) 25 false,og 27 (.call true 31 [(.t 26)]) 25 false,og 28 (.un .not (.t 27)) 25 false,Pk 29 25 28])<|.cond (.t 29) (.seq (.region [Zf8 6 1])<|.ret) Zfa)<|
.seq (.keep [9]<|.draw [[],[],[],[],[],[]] [Mv 30 7,Zf9 31 18 5,Mv 32 1,Mv 33 7,Mv 34 1,Zfb 35 66 [(.t 33),(.t 34)]] [o 36 (.build [.nilp,.int .i64 0,.int .i64 0,.int .i64 0,.int .i64 0,.int .i64 0,.str emp,.str emp,.str emp,.isl false false 1 [],.isl false false 3 [],.int .i64 0,.str emp,.int .i64 0,.int .i64 0,.int .i64 0,.int .i64 0,.isl false false 2 [],.isl false false 7 [],.int .i64 0,.int .i64 0] [(0,1,(.t 30)),(1,18,(.t 31)),(19,1,(.t 32)),(20,1,(.t 35))]),Zff 37 21 36,Mv 9 37])<|
.seq (.seq (Zf7 [46,47,48] [Mv 38 9,o 39 (.mkf (.func 71) [(.t 38)] []),Mv 40 9,o 41 (.mkf (.func 72) [(.t 40)] []),Mv 42 9,o 43 (.mkf (.func 73) [(.t 42)] []),Mv 44 9,o 45 (.mkf (.func 74) [(.t 44)] []),o 46 (.bsl true false 1 (.nilfn) 4 [(0,(.t 39)),(1,(.t 41)),(2,(.t 43)),(3,(.t 45))]),Zhy 47 1 46,Zf8 48 0])<|.keep [6]<|.block 0<|c28L0)<|
.seq (.region [Zf8 6 0])<|
.ret
def a28:AFun:=⟨[.tmp 6],c28⟩
def c30L0b:ACode:=.keep [1,2,15,16,17]<|.seq (.region [Bt 18 .lss 17 16])<|.seq (.cond (.t 18) Zfa (.exit 0))<|.seq (.keep [1,2,15,16,17]<|.block 1<|.seq (Zf7 [1,4,15,16,17] [Zfe 19 6 15 17,Zf9 20 6 19,o 4 (.box 6 (.c Zr3)),So 6 4 20])<|.seq (Zf7 [1,15,16,17,43] [Fa 21 2 4,Ld 22 21,Fa 23 5 4,Ld 24 23,Zfb 25 81 [(.t 22),(.t 24),(Ci 0)],o 26 (.un .not (.t 25)),Mv 27 26,Ga 28 4 4 27 false,Gl 29 28 27 false,og 30 (.call true 82 [(.t 29)]) 27 false,og 31 (.un .not (.t 30)) 27 false,Pk 32 27 31,Mv 33 32,Ga 34 0 4 33 false,Gl 35 34 33 false,Ga 36 1 4 33 false,Gl 37 36 33 false,Ga 38 3 4 33 false,Gl 39 38 33 false,og 40 (.build [.int .i64 0,.int .i64 0,.int .i64 0,.int .i64 0,.int .i64 0,.str emp,.str emp,.str emp,.isl false false 1 [],.isl false false 3 [],.int .i64 0,.str emp,.int .i64 0,.int .i64 0,.int .i64 0,.int .i64 0,.isl false false 2 [],.isl false false 7 []] [(5,1,(.t 35)),(2,1,(.t 37)),(16,1,(.t 39))]) 33 false,og 41 (.call true 83 [(Ci 1),(.t 40)]) 33 false,og 42 (.un .not (.t 41)) 33 false,Pk 43 33 42])<|.cond (.t 43) (.seq (.region [Zfc 2])<|.ret) Zfa)<|.region [Bc 44 .add 17 1,Mv 17 44]
def c30L0:ACode:=.loop [1,15,16,17] c30L0b
def c30L1b:ACode:=.keep [1,2,46,47,48]<|.seq (.region [Bt 49 .lss 48 47])<|.seq (.cond (.t 49) Zfa (.exit 2))<|.seq (.keep [1,2,46,47,48]<|.block 3<|.seq (Zf7 [1,6,46,47,48] [Zfe 50 5 46 48,Zf9 51 5 50,o 6 (.box 5 (.c Zr7)),So 5 6 51])<|.seq (Zf7 [1,46,47,48,72] [Fa 52 1 6,Ld 53 52,Fa 54 4 6,Ld 55 54,Zfb 56 81 [(.t 53),(.t 55),(Ci 0)],o 57 (.un .not (.t 56)),Mv 58 57,Ga 59 3 6 58 false,Gl 60 59 58 false,og 61 (.call true 82 [(.t 60)]) 58 false,og 62 (.un .not (.t 61)) 58 false,Pk 63 58 62,Mv 64 63,Ga 65 0 6 64 false,Gl 66 65 64 false,Ga 67 2 6 64 false,Gl 68 67 64 false,og 69 (.build [.int .i64 0,.int .i64 0,.int .i64 0,.int .i64 0,.int .i64 0,.str emp,.str emp,.str emp,.isl false false 1 [],.isl false false 3 [],.int .i64 0,.str emp,.int .i64 0,.int .i64 0,.int .i64 0,.int .i64 0,.isl false false 2 [],.isl false false 7 []] [(5,1,(.t 66)),(16,1,(.t 68))]) 64 false,og 70 (.call true 83 [(Ci 2),(.t 69)]) 64 false,og 71 (.un .not (.t 70)) 64 false,Pk 72 64 71])<|.cond (.t 72) (.seq (.region [Zfc 2])<|.ret) Zfa)<|.region [Bc 73 .add 48 1,Mv 48 73]
def c30L1:ACode:=.loop [1,46,47,48] c30L1b
def c30L2b:ACode:=.keep [1,2,75,76,77]<|.seq (.region [Bt 78 .lss 77 76])<|.seq (.cond (.t 78) Zfa (.exit 4))<|.seq (.keep [1,2,75,76,77]<|.block 5<|.seq (Zf7 [1,8,75,76,77] [Zfe 79 4 75 77,Zf9 80 4 79,o 8 (.box 4 (.c Zr9)),So 4 8 80])<|.seq (Zf7 [1,75,76,77,95] [Fa 81 1 8,Ld 82 81,Fa 83 3 8,Ld 84 83,Zfb 85 81 [(.t 82),(.t 84),(Ci 0)],o 86 (.un .not (.t 85)),Mv 87 86,Ga 88 0 8 87 false,Gl 89 88 87 false,Ga 90 2 8 87 false,Gl 91 90 87 false,og 92 (.build [.int .i64 0,.int .i64 0,.int .i64 0,.int .i64 0,.int .i64 0,.str emp,.str emp,.str emp,.isl false false 1 [],.isl false false 3 [],.int .i64 0,.str emp,.int .i64 0,.int .i64 0,.int .i64 0,.int .i64 0,.isl false false 2 [],.isl false false 7 []] [(5,1,(.t 89)),(16,1,(.t 91))]) 87 false,og 93 (.call true 83 [(Ci 5),(.t 92)]) 87 false,og 94 (.un .not (.t 93)) 87 false,Pk 95 87 94])<|.cond (.t 95) (.seq (.region [Zfc 2])<|.ret) Zfa)<|.region [Bc 96 .add 77 1,Mv 77 96]
def c30L2:ACode:=.loop [1,75,76,77] c30L2b
def c30L3b:ACode:=.keep [1,2,98,99,100]<|.seq (.region [Bt 101 .lss 100 99])<|.seq (.cond (.t 101) Zfa (.exit 6))<|.seq (.keep [1,2,98,99,100]<|.block 7<|.seq (Zf7 [1,9,10,98,99,100] [Mv 102 100,Zfe 103 16 98 100,Zf9 104 16 103,o 10 (.box 16 (.c Zr2)),Mv 9 102,So 16 10 104])<|.seq (Zf7 [1,98,99,100,118] [Fa 105 3 10,Ld 106 105,Fa 107 11 10,Ld 108 107,Fa 109 10 10,Ld 110 109,Zfb 111 81 [(.t 106),(.t 108),(.t 110)],o 112 (.un .not (.t 111)),Mv 113 112,og 114 (.load (some 7) (.t 1)) 113 false,Gm 115 9 113 false,og 116 (.call true 84 [(.t 114),(.t 115)]) 113 false,og 117 (.un .not (.t 116)) 113 false,Pk 118 113 117])<|.cond (.t 118) (.seq (.region [Zfc 2])<|.ret) Zfa)<|.region [Bc 119 .add 100 1,Mv 100 119]
def c30L3:ACode:=.loop [1,98,99,100] c30L3b
def c30L4b:ACode:=.keep [1,2,121,122,123]<|.seq (.region [Bt 124 .lss 123 122])<|.seq (.cond (.t 124) Zfa (.exit 8))<|.seq (.keep [1,2,121,122,123]<|.block 9<|.seq (Zf7 [1,12,121,122,123] [Zfe 125 6 121 123,Zf9 126 6 125,o 12 (.box 6 (.c Zr8)),So 6 12 126])<|.seq (Zf7 [1,12,13,121,122,123] [Zf9 127 7 1,Fa 128 1 12,Ld 129 128,Zfb 130 44 [(.t 127),(.t 129)],Mv 13 130])<|.seq (.seq (Zf7 [1,12,13,121,122,123,151] [Mv 131 13,Bc 132 .lss 131 0,Mv 133 132,Ga 134 4 12 133 false,Gl 135 134 133 false,Ga 136 3 12 133 false,Gl 137 136 133 false,og 138 (.call true 81 [(Ci 0),(.t 135),(.t 137)]) 133 false,og 139 (.un .not (.t 138)) 133 false,Pk 140 133 139,Mv 141 140,Ga 142 0 12 141 false,Gl 143 142 141 false,Ga 144 1 12 141 false,Gl 145 144 141 false,Ga 146 2 12 141 false,Gl 147 146 141 false,og 148 (.build [.int .i64 0,.int .i64 0,.int .i64 0,.int .i64 0,.int .i64 0,.str emp,.str emp,.str emp,.isl false false 1 [],.isl false false 3 [],.int .i64 0,.str emp,.int .i64 0,.int .i64 0,.int .i64 0,.int .i64 0,.isl false false 2 [],.isl false false 7 []] [(5,1,(.t 143)),(6,1,(.t 145)),(7,1,(.t 147))]) 141 false,og 149 (.call true 83 [(Ci 7),(.t 148)]) 141 false,og 150 (.un .not (.t 149)) 141 false,Pk 151 141 150])<|.cond (.t 151) (.seq (.region [Zfc 2])<|.ret) Zfa)<|.seq (Zf7 [1,121,122,123,183] [Fa 152 4 12,Ld 153 152,Bc 154 .eql 153 (-1),Mv 155 154,Ga 156 5 12 155 true,Gl 157 156 155 true,Gc 158 .neq 157 0 155 true,Gm 159 158 155 true,Ga 160 3 1 159 false,Gl 161 160 159 false,Gm 162 13 159 false,og 163 (.iadr 16 (.t 161) (.t 162)) 159 false,Ga 164 11 163 159 false,Gl 165 164 159 false,Gc 166 .neq 165 (-1) 159 false,og 167 (.pick (.t 159) cT (.t 166)) 155 true,Zfd 168 155 167,Mv 169 168,Ga 170 4 12 169 false,Gl 171 170 169 false,Gc 172 .neq 171 (-1) 169 false,Gm 173 172 169 false,Ga 174 5 12 173 true,Gl 175 174 173 true,Gc 176 .neq 175 12 173 true,og 177 (.pick (.t 173) (.t 176) cF) 169 false,Gm 178 177 169 false,Ga 179 5 12 178 true,Gl 180 179 178 true,Gc 181 .neq 180 11 178 true,og 182 (.pick (.t 178) (.t 181) cF) 169 false,Pk 183 169 182])<|.cond (.t 183) (.seq (.region [Zfc 2])<|.ret) Zfa)<|.region [Bc 184 .add 123 1,Mv 123 184]
def c30L4:ACode:=.loop [1,121,122,123] c30L4b
def c30:ACode:=.seq (.region [Zff 1 7 0,Zfc 2])<|
.seq (.seq (Zf7 [1,15,16,17] [Fa 14 0 1,Ld 15 14,Zhy 16 1 15,Zf8 17 0])<|.keep [1,2]<|.block 0<|c30L0)<|
.seq (.seq (Zf7 [1,46,47,48] [Fa 45 1 1,Ld 46 45,Zhy 47 1 46,Zf8 48 0])<|.keep [1,2]<|.block 2<|c30L1)<|
.seq (.seq (Zf7 [1,75,76,77] [Fa 74 2 1,Ld 75 74,Zhy 76 1 75,Zf8 77 0])<|.keep [1,2]<|.block 4<|c30L2)<|
.seq (.seq (Zf7 [1,98,99,100] [Fa 97 3 1,Ld 98 97,Zhy 99 1 98,Zf8 100 0])<|.keep [1,2]<|.block 6<|c30L3)<|
.seq (.seq (Zf7 [1,121,122,123] [Fa 120 4 1,Ld 121 120,Zhy 122 1 121,Zf8 123 0])<|.keep [1,2]<|.block 8<|c30L4)<|
.seq (Zf7 [2] [Zf9 185 7 1,Zfb 186 86 [(.t 185)],Zfb 187 85 [(.t 186)],Mv 188 187,og 189 (.load (some 7) (.t 1)) 188 true,og 190 (.call true 87 [(.t 189)]) 188 true,Zfd 191 188 190,Mv 192 191,og 193 (.load (some 7) (.t 1)) 192 true,og 194 (.call true 88 [(.t 193)]) 192 true,Zfd 195 192 194,Mv 2 195])<|
.ret
def a30:AFun:=⟨[.tmp 2],c30⟩
def c31:ACode:=.seq (.region [Zff 1 18 0,Zfc 2])<|
.seq (.seq (Zf7 [1,13] [Fa 4 0 1,Ld 5 4,Zfb 6 89 [(.t 5),(Ci 1),(Ci 15)],o 7 (.un .not (.t 6)),Mv 8 7,Ga 9 1 1 8 false,Gl 10 9 8 false,og 11 (.call true 89 [(.t 10),(Ci 0),(Ci 100000)]) 8 false,og 12 (.un .not (.t 11)) 8 false,Pk 13 8 12])<|.cond (.t 13) (.seq (.region [Zfc 2])<|.ret) Zfa)<|
.seq (Zf7 [1,3] [Zf9 14 18 1,Zfb 15 90 [(.t 14)],o 3 (.box 18 (.c Zr6)),So 18 3 15])<|
.seq (.seq (Zf7 [1,3,51] [Fa 16 2 3,Ld 17 16,Bc 18 .neq 17 0,Mv 19 18,Ga 20 3 3 19 false,Gl 21 20 19 false,Gc 22 .neq 21 0 19 false,Pk 23 19 22,Mv 24 23,Ga 25 4 3 24 false,Gl 26 25 24 false,Gc 27 .neq 26 0 24 false,Pk 28 24 27,Mv 29 28,Ga 30 5 3 29 false,Gl 31 30 29 false,Ga 32 6 3 29 false,Gl 33 32 29 false,Gt 34 .add 31 33 29 false,Ga 35 7 3 29 false,Gl 36 35 29 false,Gt 37 .add 34 36 29 false,og 38 (.bin .neq (.t 37) (.c (.str emp))) 29 false,Pk 39 29 38,Mv 40 39,Ga 41 10 3 40 false,og 42 (.load (some 4) (.t 41)) 40 false,og 43 (.build [.int .i64 0,.str emp,.int .i64 0,.int .i64 0] []) 40 false,og 44 (.eqv true true [1,2,1,1] (.t 42) (.t 43)) 40 false,Pk 45 40 44,Mv 46 45,Ga 47 14 3 46 false,og 48 (.load (some 2) (.t 47)) 46 false,og 49 (.build [.int .i64 0,.int .i64 0] []) 46 false,og 50 (.eqv true true [1,1] (.t 48) (.t 49)) 46 false,Pk 51 46 50])<|.cond (.t 51) (.seq (.region [Zfc 2])<|.ret) Zfa)<|
.seq (.keep [2]<|.draw [[],[],[],[],[],[],[],[],[],[],[],[],[],[],[],[],[],[],[],[],[],[]] [Fa 52 8 3,Ld 53 52,Zhy 54 1 53,Fa 55 9 3,Ld 56 55,Zhy 57 1 56,Bt 58 .add 54 57,Fa 59 16 3,Ld 60 59,Zhy 61 1 60,Bt 62 .add 58 61,Fa 63 17 3,Ld 64 63,Zhy 65 1 64,Bt 66 .add 62 65,Bc 67 .eql 66 0,Mv 68 67,og 69 (.call true 91 []) 68 true,Ga 70 0 1 68 true,Gl 71 70 68 true,og 72 (.aidx none 1 16 (.t 69) (.t 71)) 68 true,og 73 (.load (some 18) (.t 1)) 68 true] [og 74 (.callv true (.t 72) [(.t 73)]) 68 true,Zfd 75 68 74,Mv 2 75])<|
.ret
def a31:AFun:=⟨[.tmp 2],c31⟩
def s34p0:ACode:=(Zf7 [1,3,5,6] [Zff 3 7 0,Zff 5 18 2,o 6 (.box 7 (.c Zr5)),Zf8 7 0])
def s34p1:ACode:=(.seq (Zf7 [1,3,5,6,23] [Zf9 11 7 3,Zfb 12 30 [(.t 11)],o 13 (.un .not (.t 12)),Mv 14 13,Gm 15 1 14 false,og 16 (.call true 81 [(.t 15),(Ci 0),(Ci 0)]) 14 false,og 17 (.un .not (.t 16)) 14 false,Pk 18 14 17,Mv 19 18,og 20 (.load (some 18) (.t 5)) 19 false,og 21 (.call true 31 [(.t 20)]) 19 false,og 22 (.un .not (.t 21)) 19 false,Pk 23 19 22])<|.cond (.t 23) (.seq (Zf7 [6,7] [o 24 (.build [.isl false false 6 [],.isl false false 5 [],.isl false false 4 [],.isl false false 16 [],.isl false false 6 [],.isl false false 2 [],.isl false false 2 []] []),So 7 6 24,Zf8 7 1])<|.ret) Zfa)
def s34p2:ACode:=(Zf7 [1,3,5,6,8] [o 25 (.build [.nilfn,.nilfn,.nilfn,.nilfn,.nilfn,.nilfn,.nilfn,.nilfn,.nilfn,.nilfn,.nilfn,.nilfn,.nilfn,.nilfn,.nilfn,.nilfn] [(1,1,(.f 94)),(2,1,(.f 95)),(3,1,(.f 96)),(4,1,(.f 97)),(5,1,(.f 98)),(6,1,(.f 99)),(7,1,(.f 100)),(8,1,(.f 101)),(9,1,(.f 102)),(10,1,(.f 103)),(11,1,(.f 104)),(12,1,(.f 105)),(13,1,(.f 106)),(14,1,(.f 107)),(15,1,(.f 108))]),o 8 (.box 16 (.c (.agg [.nilfn,.nilfn,.nilfn,.nilfn,.nilfn,.nilfn,.nilfn,.nilfn,.nilfn,.nilfn,.nilfn,.nilfn,.nilfn,.nilfn,.nilfn,.nilfn]))),So 16 8 25])
def s34p3:ACode:=(.keep [5,6,8,9]<|.draw [[],[],[],[],[]] [Zf9 26 7 3,Mv 27 1,Zf9 28 18 5,Zf9 29 7 3,Zfb 30 86 [(.t 29)]] [o 31 (.build [.isl false false 6 [],.isl false false 5 [],.isl false false 4 [],.isl false false 16 [],.isl false false 6 [],.isl false false 2 [],.isl false false 2 [],.int .i64 0,.int .i64 0,.int .i64 0,.int .i64 0,.int .i64 0,.int .i64 0,.str emp,.str emp,.str emp,.isl false false 1 [],.isl false false 3 [],.int .i64 0,.str emp,.int .i64 0,.int .i64 0,.int .i64 0,.int .i64 0,.isl false false 2 [],.isl false false 7 [],.isl false false 1 []] [(0,7,(.t 26)),(7,1,(.t 27)),(8,18,(.t 28)),(26,1,(.t 30))]),o 32 (.box 27 (.t 31)),Mv 9 32])
def s34p4:ACode:=(.seq (Zf7 [6,9,10] [Fa 33 0 5,Ld 34 33,o 35 (.aadr 1 16 (.t 8) (.t 34)),Ld 36 35,Mv 37 9,o 38 (.callv false (.t 36) [(.t 37)]),Mv 10 38])<|.seq (.region [Mv 39 10,Bc 40 .neq 39 0])<|.cond (.t 40) (.seq (Zf7 [6,7] [o 41 (.build [.isl false false 6 [],.isl false false 5 [],.isl false false 4 [],.isl false false 16 [],.isl false false 6 [],.isl false false 2 [],.isl false false 2 []] []),Mv 42 10,So 7 6 41,Mv 7 42])<|.ret) Zfa)
def s34p5:ACode:=(.seq (Zf7 [6,9,48] [Mv 43 9,Nk 44 43,Fa 45 0 44,Zf9 46 7 45,Zfb 47 87 [(.t 46)],o 48 (.un .not (.t 47))])<|.cond (.t 48) (.seq (Zf7 [6,7] [o 49 (.build [.isl false false 6 [],.isl false false 5 [],.isl false false 4 [],.isl false false 16 [],.isl false false 6 [],.isl false false 2 [],.isl false false 2 []] []),So 7 6 49,Zf8 7 8])<|.ret) Zfa)
def s34p6:ACode:=(Zf7 [6,7] [Mv 50 9,Nk 51 50,Fa 52 0 51,Zf9 53 7 52,So 7 6 53,Zf8 7 0])
def c34:ACode:=.seq s34p0 (.seq s34p1 (.seq s34p2 (.seq s34p3 (.seq s34p4 (.seq s34p5 (.seq s34p6 .ret))))))
def a34:AFun:=⟨[.cell 6 (some 7),.tmp 7],c34⟩
def c44:ACode:=.seq (Zf7 [2,3] [Zff 2 7 0,Zff 3 1 1,Zf8 4 0])<|
.seq (Zf7 [4] [Fa 5 3 2,Ld 6 5,o 7 (.mkf (.func 112) [] [(.t 3)]),Zfb 8 111 [(.t 6),(.t 7)],Mv 4 8])<|
.ret
def a44:AFun:=⟨[.tmp 4],c44⟩
def c53:ACode:=.seq (.region [Zff 3 2 1,Zf8 4 0])<|
.seq (.keep [0,3,5,6]<|.draw [[],[],[],[],[],[],[],[],[0,1,2,3,4,5,6,7],[]] [Mv 7 0,Fa 8 0 3,Ld 9 8,o 10 (.bin .mul (Ci 2) (.t 9)),Fa 11 1 3,Ld 12 11,o 13 (.bin .mul (Ci 2) (.t 12)),o 14 (.build [.int .i64 0,.int .i64 0] [(0,1,(.t 10)),(1,1,(.t 13))]),o 6 (.box 2 (.c Zr1)),Mv 5 7] [So 2 6 14])<|
.seq (.keep [4]<|.block 0<|.seq (Zf7 [5,6,15] [o 16 (.rel (.t 0)),Zfb 17 126 [(.t 16)],o 18 (.un .not (.t 17)),Mv 19 18,og 20 (.load (some 2) (.t 3)) 19 false,og 21 (.call true 127 [(.t 20)]) 19 false,Pk 22 19 21,Mv 23 22,Gm 24 5 23 false,og 25 (.load (some 2) (.t 6)) 23 false,og 26 (.call true 128 [(.t 24),(.t 25)]) 23 false,Pk 27 23 26,Mv 15 27])<|.cond (.t 15) (.seq (.region [Zf8 4 (-1)])<|.ret) (.seq (Zf7 [28] [o 29 (.rel (.t 5)),Zf9 30 2 6,Zfb 31 129 [(.t 29),(.t 30)],Mv 28 31])<|.cond (.t 28) (.seq (.region [Zf8 4 1])<|.ret) Zfa))<|
.seq (.region [Zf8 4 0])<|
.ret
def a53:AFun:=⟨[.tmp 4],c53⟩
def c54L0b:ACode:=.keep [0,1,4,5]<|.seq (.seq (Zf7 [0,1,5,9] [Mv 6 5,Mv 7 0,Zhy 8 1 7,Bt 9 .lss 6 8])<|.cond (.t 9) Zfa (.exit 0))<|.seq (.keep [0,1,4,5]<|.block 1<|.seq (Zf7 [0,1,5,17] [Mv 12 0,Mv 13 5,Zfe 14 1 12 13,Ld 15 14,Mv 16 1,Bt 17 .eql 15 16])<|.cond (.t 17) (.seq (.region [o 4 (.mv cT)])<|.ret) Zfa)<|Zf7 [0,1,5] [Mv 10 5,Bc 11 .add 10 1,Mv 5 11]
def c54L0:ACode:=.loop [0,1,5] c54L0b
def c54:ACode:=.seq (.region [Zfc 4])<|
.seq (.seq (.region [Zf8 5 0])<|.keep [4]<|.block 0<|c54L0)<|
.seq (.region [Zfc 4])<|
.ret
def a54:AFun:=⟨[.tmp 4],c54⟩
def c55L0b:ACode:=.keep [3,28,29,30]<|.seq (.region [Bt 31 .lss 30 29])<|.seq (.cond (.t 31) Zfa (.exit 1))<|.seq (.keep [3,28,29,30]<|.block 2<|.seq (Zf7 [3,5,28,29,30] [Zfe 32 7 28 30,Zf9 33 7 32,o 5 (.box 7 (.c Zr4)),So 7 5 33])<|Zf7 [3,28,29,30] [Mv 34 3,Fa 35 5 5,Zf9 36 2 35,o 37 (.bsl true false 2 Zr1 1 [(0,(.t 36))]),o 38 (.app false 2 16 (.t 34) (.t 37)),Mv 3 38])<|.region [Bc 39 .add 30 1,Mv 30 39]
def c55L0:ACode:=.loop [3,28,29,30] c55L0b
def c55:ACode:=.seq (.region [Zff 1 18 0,o 2 (.mv (.c (.isl false false 2 [])))])<|
.seq (.seq (Zf7 [1,8] [Zf9 6 18 1,Zfb 7 31 [(.t 6)],o 8 (.un .not (.t 7))])<|.cond (.t 8) (.seq (.region [o 2 (.mv (.c (.isl false false 2 [])))])<|.ret) Zfa)<|
.seq (.seq (.region [Fa 9 0 1,Ld 10 9])<|.keep [2]<|.block 0<|.seq (.seq (.region [Bc 12 .eql 10 1,Mv 11 12])<|.cond (.t 11) Zfa (.seq (.region [Bc 13 .eql 10 2,Mv 11 13])<|.cond (.t 11) Zfa (.region [Bc 14 .eql 10 5,Mv 11 14])))<|.cond (.t 11) (.seq (Zf7 [2] [Fa 15 16 1,Ld 16 15,o 17 (.slc 2 (.t 16) none (some (Ci 1)) none),Zfb 18 130 [(.t 17)],Mv 2 18])<|.ret) (.seq (.seq (.region [Bc 20 .eql 10 6,Mv 19 20])<|.cond (.t 19) Zfa (.region [Bc 21 .eql 10 10,Mv 19 21]))<|.cond (.t 19) (.seq (Zf7 [2] [Fa 22 14 1,Zf9 23 2 22,o 24 (.bsl true false 2 Zr1 1 [(0,(.t 23))]),Mv 2 24])<|.ret) (.seq (.region [Bc 26 .eql 10 9,Mv 25 26])<|.cond (.t 25) (.seq (.region [o 3 (.own 2)])<|.seq (.seq (Zf7 [3,28,29,30] [Fa 27 17 1,Ld 28 27,Zhy 29 1 28,Zf8 30 0])<|.keep [3]<|.block 1<|c55L0)<|.seq (.region [Mv 40 3,Mv 2 40])<|.ret) Zfa)))<|
.seq (.region [o 2 (.mv (.c (.isl false false 2 [])))])<|
.ret
def a55:AFun:=⟨[.tmp 2],c55⟩
def c56:ACode:=.seq (.region [o 0 (.box 7 (.c Zr5))])<|
.seq (Zf7 [0,1] [Zfb 2 131 [(Ci 0),(Ci 9)],o 3 (.build [.str emp,.int .i64 0,.int .i64 0,.isl false false 2 [],.isl false false 3 [],.int .i64 0] [(0,1,(.c (.str (B [97])))),(1,1,(Ci 1)),(2,1,(Ci 1)),(3,1,(.t 2)),(5,1,(Ci (-1)))]),Zfb 4 131 [(Ci 5),(Ci 15)],o 5 (.build [.str emp,.int .i64 0,.int .i64 0,.isl false false 2 [],.isl false false 3 [],.int .i64 0] [(0,1,(.c (.str (B [98])))),(1,1,(Ci 1)),(2,1,(Ci 2)),(3,1,(.t 4)),(5,1,(Ci (-1)))]),o 6 (.bsl true false 6 Zr3 2 [(0,(.t 3)),(1,(.t 5))]),o 7 (.build [.isl false false 6 [],.isl false false 5 [],.isl false false 4 [],.isl false false 16 [],.isl false false 6 [],.isl false false 2 [],.isl false false 2 []] [(0,1,(.t 6))]),o 1 (.box 7 (.c Zr5)),So 7 1 7])<|
.seq (Zf7 [0,1] [o 8 (.build [.int .i64 0,.int .i64 0] []),o 9 (.build [.int .i64 0,.int .i64 0] [(0,1,(Ci 9))]),o 10 (.bsl true false 2 Zr1 2 [(0,(.t 8)),(1,(.t 9))]),o 11 (.build [.str emp,.int .i64 0,.isl false false 2 [],.isl false false 3 [],.int .i64 0] [(0,1,(.c (.str (B [115])))),(1,1,(Ci 1)),(2,1,(.t 10)),(4,1,(Ci (-1)))]),o 12 (.bsl true false 5 Zr7 1 [(0,(.t 11))]),Fa 13 1 1,So 1 13 12])<|
.seq (.region [Zf9 14 7 1,So 7 0 14])<|
.ret
def a56:AFun:=⟨[.cell 0 (some 7)],c56⟩
def c57:ACode:=.seq (.region [o 2 (.box 18 (.c Zr6))])<|
.seq (Zf7 [2] [Mv 3 0,o 4 (.build [.int .i64 0,.int .i64 0] [(0,1,(.t 3)),(1,1,(Ci 1))]),Mv 5 0,Bc 6 .add 5 1,o 7 (.build [.int .i64 0,.int .i64 0] [(0,1,(.t 6)),(1,1,(Ci 1))]),Mv 8 0,o 9 (.build [.int .i64 0,.int .i64 0] [(0,1,(.t 8)),(1,1,(Ci 2))]),o 10 (.bsl true false 2 Zr1 3 [(0,(.t 4)),(1,(.t 7)),(2,(.t 9))]),o 11 (.build [.int .i64 0,.int .i64 0,.int .i64 0,.int .i64 0,.int .i64 0,.str emp,.str emp,.str emp,.isl false false 1 [],.isl false false 3 [],.int .i64 0,.str emp,.int .i64 0,.int .i64 0,.int .i64 0,.int .i64 0,.isl false false 2 [],.isl false false 7 []] [(0,1,(Ci 5)),(5,1,(.c (.str (B [104,111,117,115,101])))),(16,1,(.t 10))]),So 18 2 11])<|
.ret
def a57:AFun:=⟨[.cell 2 (some 18)],c57⟩
def c58L0b:ACode:=.keep [1,2,3]<|.seq (.seq (Zf7 [1,3,53] [Mv 49 3,Fa 50 0 1,Ld 51 50,Zhy 52 1 51,Bt 53 .lss 49 52])<|.cond (.t 53) Zfa (.exit 0))<|.seq (.keep [1,2,3]<|.block 1<|.seq (Zf7 [1,3,84] [Fa 56 0 1,Ld 57 56,Mv 58 3,Zfe 59 6 57 58,Fa 60 0 59,Ld 61 60,o 62 (.bsl true false 1 (.str emp) 1 [(0,(.t 61))]),Zfb 63 132 [(.t 62)],o 64 (.un .not (.t 63)),Mv 65 64,Ga 66 0 1 65 false,Gl 67 66 65 false,Gm 68 3 65 false,og 69 (.iadr 6 (.t 67) (.t 68)) 65 false,Ga 70 4 69 65 false,Gl 71 70 65 false,og 72 (.call true 133 [(.t 71)]) 65 false,og 73 (.un .not (.t 72)) 65 false,Pk 74 65 73,Mv 75 74,Ga 76 0 1 75 false,Gl 77 76 75 false,Gm 78 3 75 false,og 79 (.iadr 6 (.t 77) (.t 78)) 75 false,Ga 80 3 79 75 false,Gl 81 80 75 false,og 82 (.len 1 (.t 81)) 75 false,Gc 83 .gtr 82 12 75 false,Pk 84 75 83])<|.cond (.t 84) (.seq (.region [Zfc 2])<|.ret) Zfa)<|Zf7 [1,3] [Mv 54 3,Bc 55 .add 54 1,Mv 3 55]
def c58L0:ACode:=.loop [1,3] c58L0b
def c58L1b:ACode:=.keep [1,2,4]<|.seq (.seq (Zf7 [1,4,89] [Mv 85 4,Fa 86 1 1,Ld 87 86,Zhy 88 1 87,Bt 89 .lss 85 88])<|.cond (.t 89) Zfa (.exit 2))<|.seq (.keep [1,2,4]<|.block 3<|.seq (Zf7 [1,4,120] [Fa 92 1 1,Ld 93 92,Mv 94 4,Zfe 95 5 93 94,Fa 96 0 95,Ld 97 96,o 98 (.bsl true false 1 (.str emp) 1 [(0,(.t 97))]),Zfb 99 132 [(.t 98)],o 100 (.un .not (.t 99)),Mv 101 100,Ga 102 1 1 101 false,Gl 103 102 101 false,Gm 104 4 101 false,og 105 (.iadr 5 (.t 103) (.t 104)) 101 false,Ga 106 3 105 101 false,Gl 107 106 101 false,og 108 (.call true 133 [(.t 107)]) 101 false,og 109 (.un .not (.t 108)) 101 false,Pk 110 101 109,Mv 111 110,Ga 112 1 1 111 false,Gl 113 112 111 false,Gm 114 4 111 false,og 115 (.iadr 5 (.t 113) (.t 114)) 111 false,Ga 116 2 115 111 false,Gl 117 116 111 false,og 118 (.len 1 (.t 117)) 111 false,Gc 119 .gtr 118 12 111 false,Pk 120 111 119])<|.cond (.t 120) (.seq (.region [Zfc 2])<|.ret) Zfa)<|Zf7 [1,4] [Mv 90 4,Bc 91 .add 90 1,Mv 4 91]
def c58L1:ACode:=.loop [1,4] c58L1b
def c58L2b:ACode:=.keep [1,2,5]<|.seq (.seq (Zf7 [1,5,125] [Mv 121 5,Fa 122 2 1,Ld 123 122,Zhy 124 1 123,Bt 125 .lss 121 124])<|.cond (.t 125) Zfa (.exit 4))<|.seq (.keep [1,2,5]<|.block 5<|.seq (Zf7 [1,5,146] [Fa 128 2 1,Ld 129 128,Mv 130 5,Zfe 131 4 129 130,Fa 132 0 131,Ld 133 132,o 134 (.bsl true false 1 (.str emp) 1 [(0,(.t 133))]),Zfb 135 132 [(.t 134)],o 136 (.un .not (.t 135)),Mv 137 136,Ga 138 2 1 137 false,Gl 139 138 137 false,Gm 140 5 137 false,og 141 (.iadr 4 (.t 139) (.t 140)) 137 false,Ga 142 2 141 137 false,Gl 143 142 137 false,og 144 (.len 1 (.t 143)) 137 false,Gc 145 .gtr 144 12 137 false,Pk 146 137 145])<|.cond (.t 146) (.seq (.region [Zfc 2])<|.ret) Zfa)<|Zf7 [1,5] [Mv 126 5,Bc 127 .add 126 1,Mv 5 127]
def c58L2:ACode:=.loop [1,5] c58L2b
def c58L3b:ACode:=.keep [1,2,6]<|.seq (.seq (Zf7 [1,6,151] [Mv 147 6,Fa 148 3 1,Ld 149 148,Zhy 150 1 149,Bt 151 .lss 147 150])<|.cond (.t 151) Zfa (.exit 6))<|.seq (.keep [1,2,6]<|.block 7<|.seq (Zf7 [1,6,7] [Fa 154 3 1,Ld 155 154,Mv 156 6,Zfe 157 16 155 156,Zf9 158 16 157,o 7 (.box 16 (.c Zr2)),So 16 7 158])<|.seq (Zf7 [1,6,184] [Fa 159 0 7,Ld 160 159,Fa 161 1 7,Ld 162 161,Fa 163 2 7,Ld 164 163,Fa 165 4 7,Fa 166 1 165,Ld 167 166,Fa 168 15 7,Ld 169 168,o 170 (.bsl true false 1 (.str emp) 5 [(0,(.t 160)),(1,(.t 162)),(2,(.t 164)),(3,(.t 167)),(4,(.t 169))]),Zfb 171 132 [(.t 170)],o 172 (.un .not (.t 171)),Mv 173 172,Ga 174 12 7 173 false,Gl 175 174 173 false,og 176 (.len 1 (.t 175)) 173 false,Gc 177 .gtr 176 10 173 false,Pk 178 173 177,Mv 179 178,Ga 180 12 7 179 false,Gl 181 180 179 false,og 182 (.call true 132 [(.t 181)]) 179 false,og 183 (.un .not (.t 182)) 179 false,Pk 184 179 183])<|.cond (.t 184) (.seq (.region [Zfc 2])<|.ret) Zfa)<|Zf7 [1,6] [Mv 152 6,Bc 153 .add 152 1,Mv 6 153]
def c58L3:ACode:=.loop [1,6] c58L3b
def c58L4b:ACode:=.keep [1,2,8]<|.seq (.seq (Zf7 [1,8,189] [Mv 185 8,Fa 186 4 1,Ld 187 186,Zhy 188 1 187,Bt 189 .lss 185 188])<|.cond (.t 189) Zfa (.exit 8))<|.seq (.keep [1,2,8]<|.block 9<|.seq (.keep [1,8,212]<|.draw [[],[],[],[],[],[],[],[],[],[],[],[],[],[],[],[],[],[]] [Fa 192 4 1,Ld 193 192,Mv 194 8,Zfe 195 6 193 194,Fa 196 0 195,Ld 197 196,Fa 198 4 1,Ld 199 198,Mv 200 8,Zfe 201 6 199 200,Fa 202 1 201,Ld 203 202,Fa 204 4 1,Ld 205 204,Mv 206 8,Zfe 207 6 205 206,Fa 208 2 207,Ld 209 208] [o 210 (.bsl true false 1 (.str emp) 3 [(0,(.t 197)),(1,(.t 203)),(2,(.t 209))]),Zfb 211 132 [(.t 210)],o 212 (.un .not (.t 211))])<|.cond (.t 212) (.seq (.region [Zfc 2])<|.ret) Zfa)<|Zf7 [1,8] [Mv 190 8,Bc 191 .add 190 1,Mv 8 191]
def c58L4:ACode:=.loop [1,8] c58L4b
def c58:ACode:=.seq (.region [Zff 1 7 0,Zfc 2])<|
.seq (.seq (Zf7 [1,48] [Fa 9 0 1,Ld 10 9,Zhy 11 1 10,Bc 12 .gtr 11 8,Mv 13 12,Ga 14 1 1 13 false,Gl 15 14 13 false,og 16 (.len 1 (.t 15)) 13 false,Gc 17 .gtr 16 8 13 false,Pk 18 13 17,Mv 19 18,Ga 20 2 1 19 false,Gl 21 20 19 false,og 22 (.len 1 (.t 21)) 19 false,Gc 23 .gtr 22 8 19 false,Pk 24 19 23,Mv 25 24,Ga 26 3 1 25 false,Gl 27 26 25 false,og 28 (.len 1 (.t 27)) 25 false,Gc 29 .gtr 28 16 25 false,Pk 30 25 29,Mv 31 30,Ga 32 4 1 31 false,Gl 33 32 31 false,og 34 (.len 1 (.t 33)) 31 false,Gc 35 .gtr 34 10 31 false,Pk 36 31 35,Mv 37 36,Ga 38 5 1 37 false,Gl 39 38 37 false,og 40 (.len 1 (.t 39)) 37 false,Gc 41 .gtr 40 10 37 false,Pk 42 37 41,Mv 43 42,Ga 44 6 1 43 false,Gl 45 44 43 false,og 46 (.len 1 (.t 45)) 43 false,Gc 47 .gtr 46 10 43 false,Pk 48 43 47])<|.cond (.t 48) (.seq (.region [Zfc 2])<|.ret) Zfa)<|
.seq (.seq (.region [Zf8 3 0])<|.keep [1,2]<|.block 0<|c58L0)<|
.seq (.seq (.region [Zf8 4 0])<|.keep [1,2]<|.block 2<|c58L1)<|
.seq (.seq (.region [Zf8 5 0])<|.keep [1,2]<|.block 4<|c58L2)<|
.seq (.seq (.region [Zf8 6 0])<|.keep [1,2]<|.block 6<|c58L3)<|
.seq (.seq (.region [Zf8 8 0])<|.keep [2]<|.block 8<|c58L4)<|
.seq (.region [o 2 (.mv cT)])<|
.ret
def a58:AFun:=⟨[.tmp 2],c58⟩
def c59L0b:ACode:=.keep [1,2,3]<|.seq (.seq (Zf7 [1,3,12] [Mv 4 3,Fa 5 17 1,Ld 6 5,Zhy 7 1 6,Bt 8 .lss 4 7,Mv 9 8,Gm 10 3 9 true,Gc 11 .lss 10 10 9 true,Zfd 12 9 11])<|.cond (.t 12) Zfa (.exit 0))<|.seq (.keep [1,2,3]<|.block 1<|.seq (.keep [1,3,30]<|.draw [[],[],[],[],[],[],[],[],[],[],[],[],[]] [Fa 15 17 1,Ld 16 15,Mv 17 3,Zfe 18 7 16 17,Fa 19 0 18,Ld 20 19,Fa 21 17 1,Ld 22 21,Mv 23 3,Zfe 24 7 22 23,Fa 25 1 24,Fa 26 1 25,Ld 27 26] [o 28 (.bsl true false 1 (.str emp) 2 [(0,(.t 20)),(1,(.t 27))]),Zfb 29 132 [(.t 28)],o 30 (.un .not (.t 29))])<|.cond (.t 30) (.seq (.region [Zfc 2])<|.ret) Zfa)<|Zf7 [1,3] [Mv 13 3,Bc 14 .add 13 1,Mv 3 14]
def c59L0:ACode:=.loop [1,3] c59L0b
def c59:ACode:=.seq (.region [Zff 1 18 0,Zfc 2])<|
.seq (.seq (.region [Zf8 3 0])<|.keep [1,2]<|.block 0<|c59L0)<|
.seq (Zf7 [2] [Fa 31 5 1,Ld 32 31,Fa 33 6 1,Ld 34 33,Fa 35 7 1,Ld 36 35,Fa 37 10 1,Fa 38 1 37,Ld 39 38,o 40 (.bsl true false 1 (.str emp) 4 [(0,(.t 32)),(1,(.t 34)),(2,(.t 36)),(3,(.t 39))]),Zfb 41 132 [(.t 40)],Mv 42 41,Ga 43 8 1 42 true,Gl 44 43 42 true,og 45 (.len 1 (.t 44)) 42 true,Gc 46 .leq 45 10 42 true,Zfd 47 42 46,Mv 48 47,Ga 49 8 1 48 true,Gl 50 49 48 true,og 51 (.call true 132 [(.t 50)]) 48 true,Zfd 52 48 51,Mv 53 52,Ga 54 9 1 53 true,Gl 55 54 53 true,og 56 (.call true 133 [(.t 55)]) 53 true,Zfd 57 53 56,Mv 58 57,Ga 59 16 1 58 true,Gl 60 59 58 true,og 61 (.len 1 (.t 60)) 58 true,Gc 62 .leq 61 12 58 true,Zfd 63 58 62,Mv 64 63,Ga 65 17 1 64 true,Gl 66 65 64 true,og 67 (.len 1 (.t 66)) 64 true,Gc 68 .leq 67 10 64 true,Zfd 69 64 68,Mv 2 69])<|
.ret
def a59:AFun:=⟨[.tmp 2],c59⟩
def c60L0b:ACode:=.keep [1,4,9,10,11]<|.seq (.region [Bt 12 .lss 11 10])<|.seq (.cond (.t 12) Zfa (.exit 0))<|.seq (.keep [1,4,9,10,11]<|.block 1<|.seq (Zf7 [1,4,6,9,10,11] [Zfe 13 2 9 11,Zf9 14 2 13,o 6 (.box 2 (.c Zr1)),So 2 6 14])<|Zf7 [1,4,9,10,11] [Mv 15 4,o 16 (.aadr 1 2 (.t 6) (Ci 1)),Ld 17 16,o 18 (.aadr 1 2 (.t 6) (Ci 0)),Ld 19 18,⟨none,.mupd false [1] (.t 15) (.t 17) (.t 19),none⟩])<|.region [Bc 20 .add 11 1,Mv 11 20]
def c60L0:ACode:=.loop [1,4,9,10,11] c60L0b
def c60:ACode:=.seq (Zf7 [1] [Zff 1 7 0,o 2 (.mv (.c (.nilp))),Zfc 3])<|
.seq (.region [o 7 (.mkm),Mv 4 7])<|
.seq (.seq (Zf7 [1,4,9,10,11] [Fa 8 5 1,Ld 9 8,Zhy 10 1 9,Zf8 11 0])<|.keep [1,4]<|.block 0<|c60L0)<|
.seq (.keep [2,3]<|.draw [[],[],[],[],[3],[3]] [Zf9 21 7 1,Mv 22 4,o 23 (.build [.isl false false 6 [],.isl false false 5 [],.isl false false 4 [],.isl false false 16 [],.isl false false 6 [],.isl false false 2 [],.isl false false 2 [],.nilmap] [(0,7,(.t 21)),(7,1,(.t 22))]),Zff 24 8 23,Zf9 25 7 1,Zfb 26 30 [(.t 25)]] [Mv 2 24,Mv 3 26])<|
.ret
def a60:AFun:=⟨[.tmp 2,.tmp 3],c60⟩
def c61:ACode:=.seq (.region [Zff 1 2 0,Zfc 2])<|
.seq (Zf7 [2] [Fa 3 0 1,Ld 4 3,Fa 5 1 1,Ld 6 5,o 7 (.mm false (.t 4) (.t 6)),Bc 8 .geq 7 0,Mv 9 8,Ga 10 0 1 9 true,Gl 11 10 9 true,Ga 12 1 1 9 true,Gl 13 12 9 true,og 14 (.mm true (.t 11) (.t 13)) 9 true,Gc 15 .leq 14 32767 9 true,Zfd 16 9 15,Mv 2 16])<|
.ret
def a61:AFun:=⟨[.tmp 2],c61⟩
def c62L0b:ACode:=.keep [0,3,5,13,14,15]<|.seq (.region [Bt 16 .lss 15 14])<|.seq (.cond (.t 16) Zfa (.exit 0))<|.seq (.keep [0,3,5,13,14,15]<|.block 1<|.seq (Zf7 [0,3,5,7,13,14,15] [Zfe 17 6 13 15,Zf9 18 6 17,o 7 (.box 6 (.c Zr3)),So 6 7 18])<|.seq (Zf7 [0,3,5,7,13,14,15,27] [Zf9 19 6 7,Zfb 20 134 [(.t 19)],Mv 21 20,Ga 22 3 7 21 true,Gl 23 22 21 true,og 24 (.load (some 2) (.t 3)) 21 true,og 25 (.call true 53 [(.t 23),(.t 24)]) 21 true,Gc 26 .geq 25 0 21 true,Zfd 27 21 26])<|.cond (.t 27) (Zf7 [0,3,5,13,14,15] [Mv 28 5,Mv 29 0,Fa 30 2 7,Ld 31 30,Zfb 32 66 [(.t 29),(.t 31)],⟨none,.mupd false [1] (.t 28) (.t 32) cT,none⟩]) Zfa)<|.region [Bc 33 .add 15 1,Mv 15 33]
def c62L0:ACode:=.loop [0,3,5,13,14,15] c62L0b
def c62:ACode:=.seq (.region [Zff 3 2 1,o 4 (.mv (.c (.isl false false 1 [])))])<|
.seq (.region [o 8 (.mkm),Mv 5 8])<|
.seq (.seq (Zf7 [0,3,5,13,14,15] [Mv 9 0,Nk 10 9,Fa 11 0 10,Fa 12 0 11,Ld 13 12,Zhy 14 1 13,Zf8 15 0])<|.keep [5]<|.block 0<|c62L0)<|
.seq (Zf7 [4] [Mv 34 5,o 35 (.call false 136 [(.t 34)]),o 36 (.call false 135 [(.t 35)]),Mv 4 36])<|
.ret
def a62:AFun:=⟨[.tmp 4],c62⟩
def c65:ACode:=.seq (.region [Zfc 2])<|
.seq (Zf7 [2] [Mv 3 0,Bc 4 .geq 3 0,Mv 5 4,Gm 6 0 5 true,Gc 7 .lss 6 64 5 true,Zfd 8 5 7,Mv 2 8])<|
.ret
def a65:AFun:=⟨[.tmp 2],c65⟩
def c66L0b:ACode:=.keep [0,1,5,6]<|.seq (.seq (.region [Mv 16 6])<|.cond (.t 16) Zfa (.exit 0))<|.seq (.keep [0,1]<|.block 1<|.region [Mv 26 5,Mv 1 26])<|Zf7 [0,1,5,6] [Mv 18 0,Nk 19 18,Fa 20 7 19,Ld 21 20,Mv 22 1,o 23 (.lkp false [1] true (.int .i64 0) (.t 21) (.t 22)),Mv 17 23,o 24 (.ext (.t 17) 0),o 25 (.ext (.t 17) 1),Mv 5 24,Mv 6 25]
def c66L0:ACode:=.loop [0,1,5,6] c66L0b
def c66:ACode:=.seq (.region [Zf8 4 0])<|
.seq (.seq (Zf7 [0,1,5,6] [Mv 8 0,Nk 9 8,Fa 10 7 9,Ld 11 10,Mv 12 1,o 13 (.lkp false [1] true (.int .i64 0) (.t 11) (.t 12)),Mv 7 13,o 14 (.ext (.t 7) 0),o 15 (.ext (.t 7) 1),Mv 5 14,Mv 6 15])<|.keep [1]<|.block 0<|c66L0)<|
.seq (.region [Mv 27 1,Mv 4 27])<|
.ret
def a66:AFun:=⟨[.tmp 4],c66⟩
def c69R0a:ACode:=.region [o 8 (.box 2 (.c Zr1)),So 2 8 18]
def c69R0b:ACode:=.keep []<|.block 1<|.seq (.keep [4,5,6,9,10]<|.draw [[],[],[],[],[],[],[]] [Ld 19 3,o 20 (.aadr 1 2 (.t 8) (Ci 0)),Ld 21 20,Zfb 22 66 [(.t 19),(.t 21)],Ld 23 3,o 24 (.aadr 1 2 (.t 8) (Ci 1)),Ld 25 24] [Zfb 26 66 [(.t 23),(.t 25)],Mv 9 22,Mv 10 26])<|.keep []<|.block 2<|.seq (Zf7 [4,5,6,9,10,27] [Mv 28 9,Ld 29 4,Bt 30 .eql 28 29,Mv 31 30,Gm 32 10 31 true,Gl 33 5 31 true,Gt 34 .eql 32 33 31 true,Zfd 35 31 34,Mv 27 35])<|.cond (.t 27) (.seq (Zf7 [] [Ld 36 4,Ld 37 5,Bt 38 .neq 36 37,So 1 6 38])<|.ret) (.seq (Zf7 [6,39] [Mv 40 9,Ld 41 5,Bt 42 .eql 40 41,Mv 43 42,Gm 44 10 43 true,Gl 45 4 43 true,Gt 46 .eql 44 45 43 true,Zfd 47 43 46,Mv 39 47])<|.cond (.t 39) (.seq (.region [⟨none,.store 1 (.t 6) cF,none⟩])<|.ret) Zfa)
def c69:ACode:=.seq (Zf7 [3,4,5,6] [Zff 3 1 0,Zff 4 1 1,Zff 5 1 2,o 6 (.box 1 cF)])<|
.seq (.seq (Zf7 [3,4,5,6,16] [Ld 11 3,Nk 12 11,Fa 13 0 12,Fa 14 6 13,Ld 15 14,o 16 (.call false 139 [(.t 15)])])<|.keep [6]<|.block 0<|.rangeFunc (.t 16) [17,18] c69R0a c69R0b)<|
.seq (.region [⟨none,.store 1 (.t 6) cF,none⟩])<|
.ret
def a69:AFun:=⟨[.cell 6 none],c69⟩
def c71:ACode:=.seq (.region [Zf8 2 0])<|
.seq (.seq (.keep [40]<|.draw [[],[],[],[],[],[],[],[],[],[],[],[],[],[],[],[],[],[],[],[],[],[],[],[],[],[],[],[],[],[],[],[],[],[],[]] [Mv 3 0,Nk 4 3,Fa 5 1 4,Fa 6 0 5,Ld 7 6,Bc 8 .eql 7 14,Mv 9 8,Gm 10 0 9 true,Gk 11 10 9 true,Ga 12 19 11 9 true,Gl 13 12 9 true,Gc 14 .neq 13 0 9 true,Zfd 15 9 14,Mv 16 15,Gm 17 0 16 false,Gk 18 17 16 false,Ga 19 1 18 16 false,Ga 20 0 19 16 false,Gl 21 20 16 false,Gc 22 .eql 21 13 16 false,Gm 23 22 16 false,Gm 24 0 23 true,Gk 25 24 23 true,Ga 26 0 25 23 true,Gl 27 26 23 true,Gm 28 0 23 true,Gk 29 28 23 true,Ga 30 1 29 23 true,Ga 31 3 30 23 true,Gl 32 31 23 true,og 33 (.call true 66 [(.t 27),(.t 32)]) 23 true,Gm 34 0 23 true,Gk 35 34 23 true,Ga 36 20 35 23 true,Gl 37 36 23 true] [Gt 38 .neq 33 37 23 true,og 39 (.pick (.t 23) (.t 38) cF) 16 false,Pk 40 16 39])<|.cond (.t 40) (.seq (.region [Zf8 2 18])<|.ret) Zfa)<|
.seq (.region [Zf8 2 0])<|
.ret
def a71:AFun:=⟨[.tmp 2],c71⟩
def c72R0a:ACode:=.region [Mv 3 13]
def c72R0b:ACode:=.keep []<|.block 1<|.seq (.keep [2,24]<|.draw [[],[],[],[],[],[],[],[],[],[]] [Ld 14 1,Nk 15 14,Fa 16 0 15,Ld 17 16,Mv 18 3,Zfb 19 66 [(.t 17),(.t 18)],Ld 20 1,Nk 21 20,Fa 22 20 21,Ld 23 22] [Bt 24 .neq 19 23])<|.cond (.t 24) (.seq (.region [⟨none,.store 1 (.t 2) (Ci 18),none⟩])<|.ret) Zfa
def c72:ACode:=.seq (.region [Zff 1 1 0,o 2 (.box 1 (Ci 0))])<|
.seq (.seq (.keep [1,2,12]<|.draw [[],[],[],[],[],[],[],[]] [Ld 4 1,Nk 5 4,Fa 6 0 5,Ld 7 6,Ld 8 1,Nk 9 8,Fa 10 1 9,Zf9 11 18 10] [o 12 (.call false 140 [(.t 7),(.t 11)])])<|.keep [2]<|.block 0<|.rangeFunc (.t 12) [13] c72R0a c72R0b)<|
.seq (.region [⟨none,.store 1 (.t 2) (Ci 0),none⟩])<|
.ret
def a72:AFun:=⟨[.cell 2 none],c72⟩
def c73:ACode:=.seq (.region [Zff 1 1 0,Zf8 2 0])<|
.seq (.region [o 4 (.mkf (.func 141) [] [(.t 1)]),Mv 3 4])<|
.seq (.seq (Zf7 [23] [Ld 5 1,Nk 6 5,Fa 7 1 6,Fa 8 0 7,Ld 9 8,Bc 10 .eql 9 15,Mv 11 10,Gl 12 1 11 true,Gk 13 12 11 true,Ga 14 0 13 11 true,Gl 15 14 11 true,Gk 16 15 11 true,Ga 17 0 16 11 true,Ga 18 0 17 11 true,Gl 19 18 11 true,Gm 20 3 11 true,og 21 (.call true 142 [(.t 19),(.t 20)]) 11 true,og 22 (.un .not (.t 21)) 11 true,Zfd 23 11 22])<|.cond (.t 23) (.seq (.region [Zf8 2 18])<|.ret) Zfa)<|
.seq (.region [Zf8 2 0])<|
.ret
def a73:AFun:=⟨[.tmp 2],c73⟩
def c74L0b:ACode:=.keep [1,2,50,51,52]<|.seq (.region [Bt 53 .lss 52 51])<|.seq (.cond (.t 53) Zfa (.exit 1))<|.seq (.keep [1,2,50,51,52]<|.block 2<|.seq (Zf7 [1,5,50,51,52] [Zfe 54 2 50 52,Zf9 55 2 54,o 5 (.box 2 (.c Zr1)),So 2 5 55])<|.seq (.keep [1,6,50,51,52]<|.draw [[],[],[],[],[]] [Ld 56 1,Nk 57 56,Fa 58 0 57,Ld 59 58,Zf9 60 2 5] [Zfb 61 62 [(.t 59),(.t 60)],Mv 6 61])<|.seq (.seq (Zf7 [1,6,50,51,52,68] [Mv 62 6,Ld 63 1,Nk 64 63,Fa 65 20 64,Ld 66 65,Zfb 67 144 [(.t 62),(.t 66)],o 68 (.un .not (.t 67))])<|.cond (.t 68) (.seq (.region [Zf8 2 18])<|.ret) Zfa)<|.seq (Zf7 [1,50,51,52,71] [o 69 (.rel (.t 6)),o 70 (.mkf (.func 146) [] [(.t 1)]),Zfb 71 145 [(.t 69),(.t 70)]])<|.cond (.t 71) (.seq (.region [Zf8 2 19])<|.ret) Zfa)<|.region [Bc 72 .add 52 1,Mv 52 72]
def c74L0:ACode:=.loop [1,50,51,52] c74L0b
def c74:ACode:=.seq (.region [Zff 1 1 0,Zf8 2 0])<|
.seq (.seq (Zf7 [1,12] [Ld 7 1,Nk 8 7,Fa 9 1 8,Fa 10 0 9,Ld 11 10,Bc 12 .eql 11 1])<|.cond (.t 12) (.seq (Zf7 [1,3] [Ld 13 1,Nk 14 13,Fa 15 0 14,Ld 16 15,Nk 17 16,Fa 18 0 17,Fa 19 0 18,Ld 20 19,o 21 (.mkf (.func 143) [] [(.t 1)]),Zfb 22 142 [(.t 20),(.t 21)],Mv 3 22])<|.keep [1,2]<|.block 0<|.seq (.region [Mv 24 3,Mv 23 24])<|.cond (.t 23) (.seq (.region [Zf8 2 0])<|.ret) (.seq (Zf7 [1,25] [Ld 26 1,Nk 27 26,Fa 28 1 27,Fa 29 2 28,Ld 30 29,Bc 31 .eql 30 1,Mv 32 31,Gl 33 1 32 true,Gk 34 33 32 true,Ga 35 19 34 32 true,Gl 36 35 32 true,Gc 37 .eql 36 0 32 true,Zfd 38 32 37,Mv 25 38])<|.cond (.t 25) (.seq (.region [Zf8 2 18])<|.ret) (.seq (Zf7 [1,39] [Ld 40 1,Nk 41 40,Fa 42 1 41,Fa 43 2 42,Ld 44 43,Bc 45 .eql 44 1,Mv 39 45])<|.cond (.t 39) (.seq (.region [Zf8 2 0])<|.ret) Zfa))) Zfa)<|
.seq (.seq (Zf7 [1,50,51,52] [Ld 46 1,Nk 47 46,Fa 48 1 47,Zf9 49 18 48,Zfb 50 55 [(.t 49)],Zhy 51 1 50,Zf8 52 0])<|.keep [2]<|.block 1<|c74L0)<|
.seq (.region [Zf8 2 0])<|
.ret
def a74:AFun:=⟨[.tmp 2],c74⟩
def c81:ACode:=.seq (.region [Zfc 6])<|
.seq (Zf7 [6] [Mv 7 0,Zfb 8 161 [(.t 7),(Ci 0),(Ci 63)],Mv 9 8,Gm 10 1 9 true,og 11 (.call true 161 [(.t 10),(Ci (-1)),(Ci 100000)]) 9 true,Zfd 12 9 11,Mv 13 12,Gm 14 2 13 true,og 15 (.call true 161 [(.t 14),(Ci 0),(Ci 100000)]) 13 true,Zfd 16 13 15,Mv 6 16])<|
.ret
def a81:AFun:=⟨[.tmp 6],c81⟩
def c82:ACode:=.seq (.region [Zfc 2])<|
.seq (Zf7 [2] [Mv 3 0,Zhy 4 1 3,Bc 5 .eql 4 0,Mv 6 5,og 7 (.rel (.t 0)) 6 false,og 8 (.build [.int .i64 0,.int .i64 0,.int .i64 0,.int .i64 0,.int .i64 0,.str emp,.str emp,.str emp,.isl false false 1 [],.isl false false 3 [],.int .i64 0,.str emp,.int .i64 0,.int .i64 0,.int .i64 0,.int .i64 0,.isl false false 2 [],.isl false false 7 []] [(0,1,(Ci 3)),(5,1,(.c (.str (B [120])))),(9,1,(.t 7))]) 6 false,og 9 (.call true 31 [(.t 8)]) 6 false,Pk 10 6 9,Mv 2 10])<|
.ret
def a82:AFun:=⟨[.tmp 2],c82⟩
def c83:ACode:=.seq (.region [o 3 (.box 18 (.t 1)),Zfc 4])<|
.seq (Zf7 [3] [Mv 5 0,Fa 6 0 3,So 1 6 5])<|
.seq (Zf7 [4] [Zf9 7 18 3,Zfb 8 31 [(.t 7)],Mv 4 8])<|
.ret
def a83:AFun:=⟨[.tmp 4],c83⟩
def c84L0b:ACode:=.keep [1,2,4,5,6,22,23,24]<|.seq (.region [Bt 25 .lss 24 23])<|.seq (.cond (.t 25) Zfa (.exit 0))<|.seq (.keep [1,2,4,5,6,22,23,24]<|.block 1<|.seq (Zf7 [1,2,5,6,8,22,23,24] [Zfe 26 1 22 24,Ld 27 26,Mv 8 27])<|.seq (Zf7 [1,2,5,6,22,23,24,32] [Zf9 28 7 2,Mv 29 8,Zfb 30 44 [(.t 28),(.t 29)],Mv 31 1,Bt 32 .leq 30 31])<|.cond (.t 32) (.seq (.region [Zfc 4])<|.ret) Zfa)<|.region [Bc 33 .add 24 1,Mv 24 33]
def c84L0:ACode:=.loop [1,2,5,6,22,23,24] c84L0b
def s84p0:ACode:=(.region [Zff 2 7 0,Zfc 4])
def s84p1:ACode:=(Zf7 [1,2,5] [Fa 13 3 2,Ld 14 13,Mv 15 1,Zfe 16 16 14 15,Zf9 17 16 16,o 5 (.box 16 (.c Zr2)),So 16 5 17])
def s84p2:ACode:=(Zf7 [1,2,5,6] [Fa 18 11 5,Ld 19 18,Bc 20 .eql 19 (-1),Mv 6 20])
def s84p3:ACode:=(.seq (Zf7 [1,2,5,6,22,23,24] [Fa 21 12 5,Ld 22 21,Zhy 23 1 22,Zf8 24 0])<|.keep [2,4,5,6]<|.block 0<|c84L0)
def s84p4:ACode:=(Zf7 [2,5,6,9] [Fa 34 12 5,Ld 35 34,Zhy 36 1 35,Mv 9 36])
def s84p5:ACode:=(.keep [2,5,6,9,10]<|.draw [[],[0],[0],[],[0,3],[0,3],[0,3],[0,3],[0,3],[0,3],[0,3],[1,2,3],[0,3,11],[0,3,11],[0,3,11],[0,3,11],[0,3,11],[0,3,11],[0,3,11],[1,2,3,7,8,9,10,11],[0,3,11,19],[0,3,11,19],[0,3,11,19],[0,3,11,19],[0,3,11,19],[0,3,11,19],[0,3,11,19],[1,2,3,7,8,9,10,11,15,16,17,18,19]] [o 37 (.mkm),Mv 38 9,Bc 39 .eql 38 0,⟨none,.ins false [1] (.t 37) (Ci 12) (.t 39),none⟩,Mv 40 9,Bc 41 .eql 40 0,Mv 42 41,Ga 43 15 5 42 true,Gl 44 43 42 true,og 45 (.bin .eql (.t 44) (.c (.str emp))) 42 true,Zfd 46 42 45,⟨none,.ins false [1] (.t 37) (Ci 11) (.t 46),none⟩,Mv 47 9,Zfb 48 161 [(.t 47),(Ci 2),(Ci 8)],Mv 49 48,Ga 50 15 5 49 true,Gl 51 50 49 true,og 52 (.bin .eql (.t 51) (.c (.str emp))) 49 true,Zfd 53 49 52,⟨none,.ins false [1] (.t 37) (Ci 9) (.t 53),none⟩,Mv 54 9,Bc 55 .eql 54 1,Mv 56 55,Ga 57 15 5 56 true,Gl 58 57 56 true,og 59 (.bin .eql (.t 58) (.c (.str emp))) 56 true,Zfd 60 56 59,⟨none,.ins false [1] (.t 37) (Ci 10) (.t 60),none⟩] [Mv 61 37,Mv 10 61])
def s84p6:ACode:=(.seq (Zf7 [2,5,6,90] [Mv 62 6,Fa 63 13 5,Ld 64 63,Bc 65 .eql 64 0,o 66 (.eqv true false [0] (.t 62) (.t 65)),Mv 67 66,Gm 68 6 67 false,Gm 69 68 67 false,Gm 70 9 69 true,Gc 71 .gtr 70 0 69 true,og 72 (.pick (.t 69) (.t 71) cF) 67 false,Pk 73 67 72,Mv 74 73,Gm 75 6 74 false,og 76 (.un .not (.t 75)) 74 false,Gm 77 76 74 false,Gm 78 10 77 true,Ga 79 13 5 77 true,Gl 80 79 77 true,og 81 (.lkp false [1] false (.bool false) (.t 78) (.t 80)) 77 true,og 82 (.un .not (.t 81)) 77 true,og 83 (.pick (.t 77) (.t 82) cF) 74 false,Pk 84 74 83,Mv 85 84,Ga 86 12 5 85 false,Gl 87 86 85 false,og 88 (.call true 85 [(.t 87)]) 85 false,og 89 (.un .not (.t 88)) 85 false,Pk 90 85 89])<|.cond (.t 90) (.seq (.region [Zfc 4])<|.ret) Zfa)
def s84p7:ACode:=(.seq (Zf7 [2,5,6,93] [Fa 91 15 5,Ld 92 91,o 93 (.bin .neq (.t 92) (.c (.str emp)))])<|.cond (.t 93) (.seq (Zf7 [4] [Fa 94 1 5,Ld 95 94,o 96 (.bin .eql (.t 95) (.c (.str emp))),Mv 97 96,Ga 98 2 5 97 true,Gl 99 98 97 true,og 100 (.bin .eql (.t 99) (.c (.str emp))) 97 true,Zfd 101 97 100,Mv 102 101,Ga 103 4 5 102 true,og 104 (.load (some 4) (.t 103)) 102 true,og 105 (.build [.int .i64 0,.str emp,.int .i64 0,.int .i64 0] []) 102 true,og 106 (.eqv false true [1,2,1,1] (.t 104) (.t 105)) 102 true,Zfd 107 102 106,Mv 108 107,Ga 109 8 5 108 true,og 110 (.load (some 2) (.t 109)) 108 true,og 111 (.build [.int .i64 0,.int .i64 0] []) 108 true,og 112 (.eqv false true [1,1] (.t 110) (.t 111)) 108 true,Zfd 113 108 112,Mv 114 113,Ga 115 0 5 114 true,Gl 116 115 114 true,Ga 117 14 5 114 true,Gl 118 117 114 true,Ga 119 15 5 114 true,Gl 120 119 114 true,og 121 (.build [.int .i64 0,.int .i64 0,.int .i64 0,.int .i64 0,.int .i64 0,.str emp,.str emp,.str emp,.isl false false 1 [],.isl false false 3 [],.int .i64 0,.str emp,.int .i64 0,.int .i64 0,.int .i64 0,.int .i64 0,.isl false false 2 [],.isl false false 7 []] [(5,1,(.t 116)),(4,1,(.t 118)),(7,1,(.t 120))]) 114 true,og 122 (.call true 83 [(Ci 15),(.t 121)]) 114 true,Zfd 123 114 122,Mv 4 123])<|.ret) Zfa)
def s84p8:ACode:=(.keep [2,5,6,11,12]<|.draw [[],[],[],[],[],[],[]] [Zf9 124 7 2,Fa 125 1 5,Ld 126 125,Zfb 127 162 [(.t 124),(.t 126)],Zf9 128 7 2,Fa 129 2 5,Ld 130 129] [Zfb 131 163 [(.t 128),(.t 130)],Mv 11 127,Mv 12 131])
def s84p9:ACode:=(.seq (Zf7 [5,163] [Fa 132 14 5,Ld 133 132,Bc 134 .neq 133 0,Mv 135 134,Gm 136 11 135 false,Gc 137 .lss 136 0 135 false,Pk 138 135 137,Mv 139 138,Gm 140 12 139 false,Gc 141 .lss 140 0 139 false,Pk 142 139 141,Mv 143 142,Gm 144 6 143 false,Gm 145 144 143 false,Ga 146 2 2 145 true,Gl 147 146 145 true,Gm 148 11 145 true,og 149 (.iadr 4 (.t 147) (.t 148)) 145 true,Ga 150 3 149 145 true,Gl 151 150 145 true,Gc 152 .neq 151 (-1) 145 true,Gm 153 152 145 true,Ga 154 1 2 153 false,Gl 155 154 153 false,Gm 156 12 153 false,og 157 (.iadr 5 (.t 155) (.t 156)) 153 false,Ga 158 4 157 153 false,Gl 159 158 153 false,Gc 160 .neq 159 (-1) 153 false,og 161 (.pick (.t 153) cT (.t 160)) 145 true,og 162 (.pick (.t 145) (.t 161) cF) 143 false,Pk 163 143 162])<|.cond (.t 163) (.seq (.region [Zfc 4])<|.ret) Zfa)
def s84p10:ACode:=(Zf7 [4] [Fa 164 0 5,Ld 165 164,Fa 166 1 5,Ld 167 166,Fa 168 2 5,Ld 169 168,Fa 170 4 5,Zf9 171 4 170,Fa 172 8 5,Zf9 173 2 172,o 174 (.build [.int .i64 0,.int .i64 0,.int .i64 0,.int .i64 0,.int .i64 0,.str emp,.str emp,.str emp,.isl false false 1 [],.isl false false 3 [],.int .i64 0,.str emp,.int .i64 0,.int .i64 0,.int .i64 0,.int .i64 0,.isl false false 2 [],.isl false false 7 []] [(5,1,(.t 165)),(6,1,(.t 167)),(7,1,(.t 169)),(10,4,(.t 171)),(14,2,(.t 173))]),Zfb 175 83 [(Ci 6),(.t 174)],Mv 4 175])
def c84:ACode:=.seq s84p0 (.seq s84p1 (.seq s84p2 (.seq s84p3 (.seq s84p4 (.seq s84p5 (.seq s84p6 (.seq s84p7 (.seq s84p8 (.seq s84p9 (.seq s84p10 .ret))))))))))
def a84:AFun:=⟨[.tmp 4],c84⟩
def c85:ACode:=.seq (.region [Zfc 2])<|
.seq (Zf7 [0] [o 4 (.rel (.t 0)),o 5 (.call false 164 [(.t 4)]),Mv 0 5])<|
.seq (Zf7 [0,3] [Mv 6 0,Zhy 7 1 6,Mv 3 7])<|
.seq (.region [Mv 8 0,o 9 (.call false 165 [(.t 8)])])<|
.seq (Zf7 [2] [Mv 10 0,o 11 (.call false 166 [(.t 10)]),Zhy 12 1 11,Mv 13 3,Bt 14 .eql 12 13,Mv 2 14])<|
.ret
def a85:AFun:=⟨[.tmp 2],c85⟩
def c86L0b:ACode:=.keep [1,3,15,16,17]<|.seq (.region [Bt 18 .lss 17 16])<|.seq (.cond (.t 18) Zfa (.exit 0))<|.seq (.keep [1,3,15,16,17]<|.block 1<|.seq (Zf7 [1,3,5,15,16,17] [Zfe 19 6 15 17,Zf9 20 6 19,o 5 (.box 6 (.c Zr3)),So 6 5 20])<|Zf7 [1,3,15,16,17] [Mv 21 3,Fa 22 0 5,Ld 23 22,o 24 (.bsl true false 1 (.str emp) 1 [(0,(.t 23))]),o 25 (.app false 1 16 (.t 21) (.t 24)),Mv 3 25])<|.region [Bc 26 .add 17 1,Mv 17 26]
def c86L0:ACode:=.loop [1,3,15,16,17] c86L0b
def c86L1b:ACode:=.keep [1,3,28,29,30]<|.seq (.region [Bt 31 .lss 30 29])<|.seq (.cond (.t 31) Zfa (.exit 2))<|.seq (.keep [1,3,28,29,30]<|.block 3<|.seq (Zf7 [1,3,7,28,29,30] [Zfe 32 5 28 30,Zf9 33 5 32,o 7 (.box 5 (.c Zr7)),So 5 7 33])<|Zf7 [1,3,28,29,30] [Mv 34 3,Fa 35 0 7,Ld 36 35,o 37 (.bsl true false 1 (.str emp) 1 [(0,(.t 36))]),o 38 (.app false 1 16 (.t 34) (.t 37)),Mv 3 38])<|.region [Bc 39 .add 30 1,Mv 30 39]
def c86L1:ACode:=.loop [1,3,28,29,30] c86L1b
def c86L2b:ACode:=.keep [1,3,41,42,43]<|.seq (.region [Bt 44 .lss 43 42])<|.seq (.cond (.t 44) Zfa (.exit 4))<|.seq (.keep [1,3,41,42,43]<|.block 5<|.seq (Zf7 [1,3,9,41,42,43] [Zfe 45 4 41 43,Zf9 46 4 45,o 9 (.box 4 (.c Zr9)),So 4 9 46])<|Zf7 [1,3,41,42,43] [Mv 47 3,Fa 48 0 9,Ld 49 48,o 50 (.bsl true false 1 (.str emp) 1 [(0,(.t 49))]),o 51 (.app false 1 16 (.t 47) (.t 50)),Mv 3 51])<|.region [Bc 52 .add 43 1,Mv 43 52]
def c86L2:ACode:=.loop [1,3,41,42,43] c86L2b
def c86L3b:ACode:=.keep [1,3,54,55,56]<|.seq (.region [Bt 57 .lss 56 55])<|.seq (.cond (.t 57) Zfa (.exit 6))<|.seq (.keep [1,3,54,55,56]<|.block 7<|.seq (Zf7 [1,3,11,54,55,56] [Zfe 58 16 54 56,Zf9 59 16 58,o 11 (.box 16 (.c Zr2)),So 16 11 59])<|Zf7 [1,3,54,55,56] [Mv 60 3,Fa 61 0 11,Ld 62 61,o 63 (.bsl true false 1 (.str emp) 1 [(0,(.t 62))]),o 64 (.app false 1 16 (.t 60) (.t 63)),Mv 3 64])<|.region [Bc 65 .add 56 1,Mv 56 65]
def c86L3:ACode:=.loop [1,3,54,55,56] c86L3b
def c86L4b:ACode:=.keep [3,67,68,69]<|.seq (.region [Bt 70 .lss 69 68])<|.seq (.cond (.t 70) Zfa (.exit 8))<|.seq (.keep [3,67,68,69]<|.block 9<|.seq (Zf7 [3,13,67,68,69] [Zfe 71 6 67 69,Zf9 72 6 71,o 13 (.box 6 (.c Zr8)),So 6 13 72])<|Zf7 [3,67,68,69] [Mv 73 3,Fa 74 0 13,Ld 75 74,o 76 (.bsl true false 1 (.str emp) 1 [(0,(.t 75))]),o 77 (.app false 1 16 (.t 73) (.t 76)),Mv 3 77])<|.region [Bc 78 .add 69 1,Mv 69 78]
def c86L4:ACode:=.loop [3,67,68,69] c86L4b
def c86:ACode:=.seq (.region [Zff 1 7 0,o 2 (.mv (.c (.isl false false 1 [])))])<|
.seq (.region [o 3 (.own 1)])<|
.seq (.seq (Zf7 [1,3,15,16,17] [Fa 14 0 1,Ld 15 14,Zhy 16 1 15,Zf8 17 0])<|.keep [1,3]<|.block 0<|c86L0)<|
.seq (.seq (Zf7 [1,3,28,29,30] [Fa 27 1 1,Ld 28 27,Zhy 29 1 28,Zf8 30 0])<|.keep [1,3]<|.block 2<|c86L1)<|
.seq (.seq (Zf7 [1,3,41,42,43] [Fa 40 2 1,Ld 41 40,Zhy 42 1 41,Zf8 43 0])<|.keep [1,3]<|.block 4<|c86L2)<|
.seq (.seq (Zf7 [1,3,54,55,56] [Fa 53 3 1,Ld 54 53,Zhy 55 1 54,Zf8 56 0])<|.keep [1,3]<|.block 6<|c86L3)<|
.seq (.seq (Zf7 [3,67,68,69] [Fa 66 4 1,Ld 67 66,Zhy 68 1 67,Zf8 69 0])<|.keep [3]<|.block 8<|c86L4)<|
.seq (.region [Mv 79 3,Mv 2 79])<|
.ret
def a86:AFun:=⟨[.tmp 2],c86⟩
def c87L0b:ACode:=.keep [2,3,9,10,11]<|.seq (.region [Bt 12 .lss 11 10])<|.seq (.cond (.t 12) Zfa (.exit 0))<|.seq (.keep [2,3,9,10,11]<|.block 1<|.seq (Zf7 [3,5,9,10,11] [Zfe 13 16 9 11,Zf9 14 16 13,o 5 (.box 16 (.c Zr2)),So 16 5 14])<|.seq (Zf7 [3,5,6,9,10,11] [Fa 15 2 5,Ld 16 15,Fa 17 4 5,Zf9 18 4 17,o 19 (.build [.str emp,.int .i64 0,.str emp,.int .i64 0,.int .i64 0] [(0,1,(.t 16)),(1,4,(.t 18))]),o 6 (.box 5 (.c (.agg [.str emp,.int .i64 0,.str emp,.int .i64 0,.int .i64 0]))),So 5 6 19])<|.seq (.seq (Zf7 [3,6,9,10,11,27] [Fa 20 11 5,Ld 21 20,Bc 22 .neq 21 (-1),Mv 23 22,Ga 24 15 5 23 false,Gl 25 24 23 false,og 26 (.bin .neq (.t 25) (.c (.str emp))) 23 false,Pk 27 23 26])<|.cond (.t 27) (.exit 1) Zfa)<|.seq (.seq (Zf7 [3,6,9,10,11,30] [Mv 28 3,Zf9 29 5 6,o 30 (.lkp true [2,1,2,1,1] false (.bool false) (.t 28) (.t 29))])<|.cond (.t 30) (.seq (.region [Zfc 2])<|.ret) Zfa)<|Zf7 [3,9,10,11] [Mv 31 3,Zf9 32 5 6,⟨none,.mupd true [2,1,2,1,1] (.t 31) (.t 32) cT,none⟩])<|.region [Bc 33 .add 11 1,Mv 11 33]
def c87L0:ACode:=.loop [3,9,10,11] c87L0b
def c87:ACode:=.seq (.region [Zff 1 7 0,Zfc 2])<|
.seq (.region [o 7 (.mkm),Mv 3 7])<|
.seq (.seq (Zf7 [3,9,10,11] [Fa 8 3 1,Ld 9 8,Zhy 10 1 9,Zf8 11 0])<|.keep [2]<|.block 0<|c87L0)<|
.seq (.region [o 2 (.mv cT)])<|
.ret
def a87:AFun:=⟨[.tmp 2],c87⟩
def c88L0b:ACode:=.keep [1,2,3,4,17,18,19,24,25,26]<|.seq (.region [Bt 27 .lss 26 25])<|.seq (.cond (.t 27) Zfa (.exit 2))<|.seq (.keep [1,2,3,4,17,18,19,24,25,26]<|.block 3<|.seq (Zf7 [1,3,4,7,17,18,19,24,25,26] [Zfe 28 2 24 26,Zf9 29 2 28,o 7 (.box 2 (.c Zr1)),So 2 7 29])<|.seq (.seq (Zf7 [1,3,4,7,17,18,19,24,25,26,56] [o 30 (.aadr 1 2 (.t 7) (Ci 0)),Ld 31 30,Zfb 32 81 [(.t 31),(Ci 0),(Ci 0)],o 33 (.un .not (.t 32)),Mv 34 33,og 35 (.aadr 1 2 (.t 7) (Ci 1)) 34 false,Gl 36 35 34 false,og 37 (.call true 81 [(.t 36),(Ci 0),(Ci 0)]) 34 false,og 38 (.un .not (.t 37)) 34 false,Pk 39 34 38,Mv 40 39,og 41 (.aadr 1 2 (.t 7) (Ci 0)) 40 false,Gl 42 41 40 false,og 43 (.aadr 1 2 (.t 7) (Ci 1)) 40 false,Gl 44 43 40 false,Gt 45 .eql 42 44 40 false,Pk 46 40 45,Mv 47 46,Gm 48 4 47 false,Gc 49 .eql 48 0 47 false,Gm 50 49 47 false,Gm 51 3 50 true,og 52 (.aadr 1 2 (.t 7) (Ci 1)) 50 true,Gl 53 52 50 true,og 54 (.lkp false [1] false (.bool false) (.t 51) (.t 53)) 50 true,og 55 (.pick (.t 50) (.t 54) cF) 47 false,Pk 56 47 55])<|.cond (.t 56) (.seq (.region [Zfc 2])<|.ret) Zfa)<|Zf7 [1,3,4,17,18,19,24,25,26] [Mv 57 3,o 58 (.aadr 1 2 (.t 7) (Ci 1)),Ld 59 58,Mv 60 3,o 61 (.aadr 1 2 (.t 7) (Ci 1)),Ld 62 61,o 63 (.lkp false [1] false (.bool false) (.t 60) (.t 62)),Mv 64 63,Gm 65 4 64 false,Gc 66 .eql 65 0 64 false,Pk 67 64 66,⟨none,.mupd false [1] (.t 57) (.t 59) (.t 67),none⟩])<|.region [Bc 68 .add 26 1,Mv 26 68]
def c88L0:ACode:=.loop [1,3,4,17,18,19,24,25,26] c88L0b
def c88L1b:ACode:=.keep [1,2,3,17,18,19]<|.seq (.region [Bt 20 .lss 19 18])<|.seq (.cond (.t 20) Zfa (.exit 0))<|.seq (.keep [1,2,3,17,18,19]<|.block 1<|.seq (Zf7 [1,3,4,5,17,18,19] [Mv 21 19,Zfe 22 1 17 19,Ld 23 22,Mv 4 21,Mv 5 23])<|.seq (Zf7 [1,3,4,17,18,19,24,25,26] [Mv 24 5,Zhy 25 1 24,Zf8 26 0])<|.keep [1,2,3,17,18,19]<|.block 2<|c88L0)<|.region [Bc 69 .add 19 1,Mv 19 69]
def c88L1:ACode:=.loop [1,3,17,18,19] c88L1b
def c88L2b:ACode:=.keep [1,2,10,11,71,72,73]<|.seq (.seq (.region [Mv 79 10,Bc 80 .geq 79 0])<|.cond (.t 80) Zfa (.exit 6))<|.seq (.keep [1,2,10,11,71,72,73]<|.block 7<|.seq (Zf7 [1,10,11,71,72,73,90] [Mv 86 11,Fa 87 5 1,Ld 88 87,Zhy 89 1 88,Bt 90 .gtr 86 89])<|.cond (.t 90) (.seq (.region [Zfc 2])<|.ret) Zfa)<|Zf7 [1,10,11,71,72,73] [Zf9 81 7 1,Mv 82 10,Zfb 83 167 [(.t 81),(.t 82)],Mv 84 11,Bc 85 .add 84 1,Mv 10 83,Mv 11 85]
def c88L2:ACode:=.loop [1,10,11,71,72,73] c88L2b
def c88L3b:ACode:=.keep [1,2,71,72,73]<|.seq (.region [Bt 74 .lss 73 72])<|.seq (.cond (.t 74) Zfa (.exit 4))<|.seq (.keep [1,2,71,72,73]<|.block 5<|.seq (Zf7 [1,9,71,72,73] [Zfe 75 2 71 73,Zf9 76 2 75,o 9 (.box 2 (.c Zr1)),So 2 9 76])<|.seq (Zf7 [1,10,11,71,72,73] [o 77 (.aadr 1 2 (.t 9) (Ci 1)),Ld 78 77,Mv 10 78,Zf8 11 0])<|.keep [1,2,71,72,73]<|.block 6<|c88L2)<|.region [Bc 91 .add 73 1,Mv 73 91]
def c88L3:ACode:=.loop [1,71,72,73] c88L3b
def c88:ACode:=.seq (.region [Zff 1 7 0,Zfc 2])<|
.seq (.region [o 12 (.mkm),Mv 3 12])<|
.seq (.seq (Zf7 [1,3,17,18,19] [Fa 13 5 1,Ld 14 13,Fa 15 6 1,Ld 16 15,o 17 (.bsl true false 1 (.isl false false 2 []) 2 [(0,(.t 14)),(1,(.t 16))]),Zhy 18 1 17,Zf8 19 0])<|.keep [1,2]<|.block 0<|c88L1)<|
.seq (.seq (Zf7 [1,71,72,73] [Fa 70 5 1,Ld 71 70,Zhy 72 1 71,Zf8 73 0])<|.keep [2]<|.block 4<|c88L3)<|
.seq (.region [o 2 (.mv cT)])<|
.ret
def a88:AFun:=⟨[.tmp 2],c88⟩
def c89:ACode:=.seq (.region [Zfc 6])<|
.seq (Zf7 [6] [Mv 7 0,Mv 8 1,Bt 9 .geq 7 8,Mv 10 9,Gm 11 0 10 true,Gm 12 2 10 true,Gt 13 .leq 11 12 10 true,Zfd 14 10 13,Mv 6 14])<|
.ret
def a89:AFun:=⟨[.tmp 6],c89⟩
def c90:ACode:=.seq (.region [o 1 (.box 18 (.t 0)),o 2 (.box 18 (.c Zr6))])<|
.seq (Zf7 [1,2,3] [Fa 5 0 1,Ld 6 5,o 3 (.box 1 (Ci 0)),So 1 3 6])<|
.seq (.region [o 7 (.mkf (.func 168) [] [(.t 3)]),Mv 4 7])<|
.seq (.seq (Zf7 [1,2,3,4,11] [Mv 8 4,o 9 (.bsl true false 1 (.int .i64 0) 2 [(0,(Ci 13)),(1,(Ci 14))]),o 10 (.callv true (.t 8) [(.t 9)]),o 11 (.un .not (.t 10))])<|.cond (.t 11) (.region [Fa 12 5 1,⟨none,.store 1 (.t 12) (.c (.str emp)),none⟩]) (Zf7 [1,2,3,4] [Fa 13 2 1,⟨none,.store 1 (.t 13) (Ci 0),none⟩,Fa 14 3 1,⟨none,.store 1 (.t 14) (Ci 0),none⟩]))<|
.seq (.seq (Zf7 [1,2,3,4,17] [Mv 15 4,o 16 (.bsl true false 1 (.int .i64 0) 1 [(0,(Ci 1))]),o 17 (.callv true (.t 15) [(.t 16)])])<|.cond (.t 17) (.region [Fa 18 2 1,⟨none,.store 1 (.t 18) (Ci 0),none⟩]) Zfa)<|
.seq (.seq (Zf7 [1,2,3,4,21] [Mv 19 4,o 20 (.bsl true false 1 (.int .i64 0) 3 [(0,(Ci 1)),(1,(Ci 2)),(2,(Ci 5))]),o 21 (.callv true (.t 19) [(.t 20)])])<|.cond (.t 21) (.region [Fa 22 16 1,⟨none,.store 1 (.t 22) (.c (.isl false false 2 [])),none⟩]) Zfa)<|
.seq (.seq (Zf7 [1,2,3,4,25] [Mv 23 4,o 24 (.bsl true false 1 (.int .i64 0) 3 [(0,(Ci 4)),(1,(Ci 6)),(2,(Ci 7))]),o 25 (.callv true (.t 23) [(.t 24)])])<|.cond (.t 25) (.region [Fa 26 6 1,⟨none,.store 1 (.t 26) (.c (.str emp)),none⟩]) Zfa)<|
.seq (.seq (Zf7 [1,2,3,4,29] [Mv 27 4,o 28 (.bsl true false 1 (.int .i64 0) 3 [(0,(Ci 6)),(1,(Ci 7)),(2,(Ci 15))]),o 29 (.callv true (.t 27) [(.t 28)])])<|.cond (.t 29) (.region [Fa 30 7 1,⟨none,.store 1 (.t 30) (.c (.str emp)),none⟩]) Zfa)<|
.seq (.seq (Zf7 [1,2,3,4,33] [Mv 31 4,o 32 (.bsl true false 1 (.int .i64 0) 2 [(0,(Ci 6)),(1,(Ci 10))]),o 33 (.callv true (.t 31) [(.t 32)])])<|.cond (.t 33) (Zf7 [1,2,3,4] [o 34 (.build [.int .i64 0,.str emp,.int .i64 0,.int .i64 0] []),o 35 (.build [.int .i64 0,.int .i64 0] []),Fa 36 10 1,So 4 36 34,Fa 37 14 1,So 2 37 35]) Zfa)<|
.seq (.seq (Zf7 [1,2,3,40] [Mv 38 4,o 39 (.bsl true false 1 (.int .i64 0) 2 [(0,(Ci 8)),(1,(Ci 9))]),o 40 (.callv true (.t 38) [(.t 39)])])<|.cond (.t 40) (.region [Fa 41 17 1,⟨none,.store 1 (.t 41) (.c (.isl false false 7 [])),none⟩]) Zfa)<|
.seq (.seq (.region [Ld 42 3])<|.keep [1,2]<|.block 0<|.seq (.region [Bc 44 .eql 42 3,Mv 43 44])<|.cond (.t 43) (.region [Fa 45 9 1,⟨none,.store 1 (.t 45) (.c (.isl false false 3 [])),none⟩]) (.seq (.region [Bc 47 .eql 42 10,Mv 46 47])<|.cond (.t 46) (.region [Fa 48 8 1,⟨none,.store 1 (.t 48) (.c (.isl false false 1 [])),none⟩]) (.seq (.region [Bc 50 .eql 42 15,Mv 49 50])<|.cond (.t 49) (.region [Fa 51 4 1,⟨none,.store 1 (.t 51) (Ci 0),none⟩]) Zfa)))<|
.seq (.region [Zf9 52 18 1,So 18 2 52])<|
.ret
def a90:AFun:=⟨[.cell 2 (some 18)],c90⟩
def c91:ACode:=.seq (.region [o 0 (.box 16 (.c (.agg [.nilfn,.nilfn,.nilfn,.nilfn,.nilfn,.nilfn,.nilfn,.nilfn,.nilfn,.nilfn,.nilfn,.nilfn,.nilfn,.nilfn,.nilfn,.nilfn])))])<|
.seq (.region [o 1 (.box 1 (.c (.nilfn))),⟨none,.store 1 (.t 1) (.f 169),none⟩])<|
.seq (.region [o 2 (.mv (.f 171))])<|
.seq (Zf7 [0] [o 3 (.mkf (.func 173) [] [(.t 1)]),o 4 (.mkf (.func 174) [] [(.t 1)]),o 5 (.mkf (.func 176) [] [(.t 1)]),o 6 (.mkf (.func 180) [] [(.t 1)]),o 7 (.mkf (.func 185) [] [(.t 1)]),Ld 8 1,Ld 9 1,Mv 10 2,Mv 11 2,o 12 (.mkf (.func 190) [] [(.t 1)]),o 13 (.build [.nilfn,.nilfn,.nilfn,.nilfn,.nilfn,.nilfn,.nilfn,.nilfn,.nilfn,.nilfn,.nilfn,.nilfn,.nilfn,.nilfn,.nilfn,.nilfn] [(1,1,(.t 3)),(2,1,(.t 4)),(3,1,(.t 5)),(4,1,(.f 178)),(5,1,(.t 6)),(6,1,(.f 181)),(7,1,(.f 183)),(8,1,(.t 7)),(9,1,(.f 188)),(10,1,(.f 189)),(11,1,(.t 8)),(12,1,(.t 9)),(13,1,(.t 10)),(14,1,(.t 11)),(15,1,(.t 12))]),So 16 0 13])<|
.ret
def a91:AFun:=⟨[.cell 0 (some 16)],c91⟩
def c94:ACode:=.seq (.region [Zff 1 1 0,Zf8 2 0])<|
.seq (.keep [1,3]<|.draw [[],[],[],[],[],[],[],[],[]] [Ld 4 1,Nk 5 4,Fa 6 0 5,Zf9 7 7 6,Ld 8 1,Nk 9 8,Fa 10 8 9,Fa 11 5 10,Ld 12 11] [Zfb 13 192 [(.t 7),(.t 12)],Mv 3 13])<|
.seq (.keep [1,2,3]<|.block 0<|.seq (.keep [1,3,14]<|.draw [[],[],[],[],[],[],[],[],[]] [Mv 15 3,Bc 16 .lss 15 0,Mv 17 16,Gl 18 1 17 true,Gl 19 1 17 true,Gk 20 19 17 true,Ga 21 8 20 17 true,Ga 22 5 21 17 true,Gl 23 22 17 true] [og 24 (.call true 193 [(.t 18),(.t 23)]) 17 true,Zfd 25 17 24,Mv 14 25])<|.cond (.t 14) (.seq (.region [Zf8 2 8])<|.ret) (.seq (Zf7 [1,3,26] [Mv 27 3,Bc 28 .lss 27 0,Mv 26 28])<|.cond (.t 26) (.seq (.keep []<|.draw [[],[],[],[],[],[],[],[],[],[],[],[],[],[],[],[],[],[],[],[],[],[],[],[],[],[],[],[],[0]] [Ld 29 1,Ld 30 1,Nk 31 30,Fa 32 0 31,Fa 33 0 32,Ld 34 33,Zfb 35 194 [(.t 34)],Ld 36 1,Nk 37 36,Fa 38 8 37,Fa 39 5 38,Ld 40 39,Ld 41 1,Nk 42 41,Fa 43 8 42,Fa 44 2 43,Ld 45 44,Ld 46 1,Nk 47 46,Fa 48 7 47,Ld 49 48,Ld 50 1,Nk 51 50,Fa 52 8 51,Fa 53 16 52,Ld 54 53,o 55 (.build [.str emp,.int .i64 0,.int .i64 0,.isl false false 2 [],.isl false false 3 [],.int .i64 0] [(0,1,(.t 40)),(1,1,(.t 45)),(2,1,(.t 49)),(3,1,(.t 54)),(5,1,(Ci (-1)))]),o 56 (.bsl true false 6 Zr3 1 [(0,(.t 55))]),o 57 (.app true 6 88 (.t 35) (.t 56))] [Nk 58 29,Fa 59 0 58,Fa 60 0 59,So 1 60 57])<|.seq (.region [Zf8 2 0])<|.ret) (.seq (.keep [1,3,61]<|.draw [[],[],[],[],[],[],[],[],[],[],[],[],[],[],[],[],[],[],[],[],[],[],[],[],[]] [Ld 62 1,Nk 63 62,Fa 64 0 63,Fa 65 0 64,Ld 66 65,Mv 67 3,Zfe 68 6 66 67,Fa 69 5 68,Ld 70 69,Bc 71 .neq 70 (-1),Mv 72 71,Gl 73 1 72 false,Gk 74 73 72 false,Ga 75 0 74 72 false,Ga 76 0 75 72 false,Gl 77 76 72 false,Gm 78 3 72 false,og 79 (.iadr 6 (.t 77) (.t 78)) 72 false,Ga 80 1 79 72 false,Gl 81 80 72 false,Gl 82 1 72 false,Gk 83 82 72 false,Ga 84 8 83 72 false,Ga 85 2 84 72 false,Gl 86 85 72 false] [Gt 87 .neq 81 86 72 false,Pk 88 72 87,Mv 61 88])<|.cond (.t 61) (.seq (.region [Zf8 2 11])<|.ret) Zfa)))<|
.seq (.keep []<|.draw [[],[],[],[],[],[],[],[],[]] [Ld 89 1,Ld 90 1,Nk 91 90,Fa 92 0 91,Fa 93 0 92,Ld 94 93,Mv 95 3,o 96 (.mkf (.func 196) [] [(.t 1)]),Zfb 97 195 [(.t 94),(.t 95),(.t 96)]] [Nk 98 89,Fa 99 0 98,Fa 100 0 99,So 1 100 97])<|
.seq (.region [Zf8 2 0])<|
.ret
def a94:AFun:=⟨[.tmp 2],c94⟩
def c95:ACode:=.seq (.region [Zf8 2 0])<|
.seq (.seq (Zf7 [0,9] [Mv 3 0,Mv 4 0,Nk 5 4,Fa 6 8 5,Fa 7 5 6,Ld 8 7,Zfb 9 193 [(.t 3),(.t 8)]])<|.cond (.t 9) (.seq (.region [Zf8 2 8])<|.ret) Zfa)<|
.seq (.keep []<|.draw [[],[],[],[],[],[],[],[],[],[],[],[],[],[],[],[],[],[],[],[],[],[],[],[0]] [Mv 10 0,Mv 11 0,Nk 12 11,Fa 13 0 12,Fa 14 1 13,Ld 15 14,Zfb 16 197 [(.t 15)],Mv 17 0,Nk 18 17,Fa 19 8 18,Fa 20 5 19,Ld 21 20,Mv 22 0,Nk 23 22,Fa 24 7 23,Ld 25 24,Mv 26 0,Nk 27 26,Fa 28 8 27,Fa 29 16 28,Ld 30 29,o 31 (.build [.str emp,.int .i64 0,.isl false false 2 [],.isl false false 3 [],.int .i64 0] [(0,1,(.t 21)),(1,1,(.t 25)),(2,1,(.t 30)),(4,1,(Ci (-1)))]),o 32 (.bsl true false 5 Zr7 1 [(0,(.t 31))]),o 33 (.app true 5 80 (.t 16) (.t 32))] [Nk 34 10,Fa 35 0 34,Fa 36 1 35,So 1 36 33])<|
.seq (.region [Zf8 2 0])<|
.ret
def a95:AFun:=⟨[.tmp 2],c95⟩
def c96:ACode:=.seq (.region [Zff 1 1 0,Zf8 2 0])<|
.seq (.keep [1,3,4]<|.draw [[],[],[],[],[],[],[],[],[],[],[],[],[],[],[],[],[],[],[]] [Ld 5 1,Nk 6 5,Fa 7 0 6,Zf9 8 7 7,Ld 9 1,Nk 10 9,Fa 11 8 10,Fa 12 5 11,Ld 13 12,Zfb 14 192 [(.t 8),(.t 13)],Ld 15 1,Nk 16 15,Fa 17 0 16,Zf9 18 7 17,Ld 19 1,Nk 20 19,Fa 21 8 20,Fa 22 5 21,Ld 23 22] [Zfb 24 163 [(.t 18),(.t 23)],Mv 3 14,Mv 4 24])<|
.seq (.keep [2]<|.block 0<|.seq (Zf7 [1,3,4,37] [Mv 38 3,Bc 39 .lss 38 0,Mv 40 39,Gm 41 4 40 true,Gc 42 .lss 41 0 40 true,Zfd 43 40 42,Mv 37 43])<|.cond (.t 37) (.seq (.region [Zf8 2 10])<|.ret) (.seq (Zf7 [1,3,4,44] [Mv 45 3,Bc 46 .geq 45 0,Mv 47 46,Gl 48 1 47 true,Gk 49 48 47 true,Ga 50 0 49 47 true,Ga 51 0 50 47 true,Gl 52 51 47 true,Gm 53 3 47 true,og 54 (.iadr 6 (.t 52) (.t 53)) 47 true,Ga 55 5 54 47 true,Gl 56 55 47 true,Gc 57 .neq 56 (-1) 47 true,Zfd 58 47 57,Mv 59 58,Gm 60 4 59 false,Gc 61 .geq 60 0 59 false,Gm 62 61 59 false,Gl 63 1 62 true,Gk 64 63 62 true,Ga 65 0 64 62 true,Ga 66 1 65 62 true,Gl 67 66 62 true,Gm 68 4 62 true,og 69 (.iadr 5 (.t 67) (.t 68)) 62 true,Ga 70 4 69 62 true,Gl 71 70 62 true,Gc 72 .neq 71 (-1) 62 true,og 73 (.pick (.t 62) (.t 72) cF) 59 false,Pk 74 59 73,Mv 44 74])<|.cond (.t 44) (.seq (.region [Zf8 2 11])<|.ret) (.seq (Zf7 [1,3,4,75] [Mv 76 3,Bc 77 .geq 76 0,Mv 75 77])<|.cond (.t 75) (.keep []<|.draw [[],[],[],[],[],[],[],[],[]] [Ld 78 1,Ld 79 1,Nk 80 79,Fa 81 0 80,Fa 82 0 81,Ld 83 82,Mv 84 3,o 85 (.mkf (.func 198) [] [(.t 1)]),Zfb 86 195 [(.t 83),(.t 84),(.t 85)]] [Nk 87 78,Fa 88 0 87,Fa 89 0 88,So 1 89 86]) (.keep []<|.draw [[],[],[],[],[],[],[],[],[]] [Ld 25 1,Ld 26 1,Nk 27 26,Fa 28 0 27,Fa 29 1 28,Ld 30 29,Mv 31 4,o 32 (.mkf (.func 200) [] [(.t 1)]),Zfb 33 199 [(.t 30),(.t 31),(.t 32)]] [Nk 34 25,Fa 35 0 34,Fa 36 1 35,So 1 36 33]))))<|
.seq (.region [Zf8 2 0])<|
.ret
def a96:AFun:=⟨[.tmp 2],c96⟩
def c97:ACode:=.seq (.region [Zf8 2 0])<|
.seq (.keep [0,3,4]<|.draw [[],[],[],[],[],[],[],[],[],[],[],[],[],[],[],[],[],[],[]] [Mv 7 0,Nk 8 7,Fa 9 0 8,Zf9 10 7 9,Mv 11 0,Nk 12 11,Fa 13 8 12,Fa 14 5 13,Ld 15 14,Zfb 16 163 [(.t 10),(.t 15)],Mv 17 0,Nk 18 17,Fa 19 0 18,Zf9 20 7 19,Mv 21 0,Nk 22 21,Fa 23 8 22,Fa 24 6 23,Ld 25 24] [Zfb 26 163 [(.t 20),(.t 25)],Mv 3 16,Mv 4 26])<|
.seq (.keep [0,2,3,4]<|.block 0<|.seq (Zf7 [0,3,4,27] [Mv 28 3,Bc 29 .lss 28 0,Mv 30 29,Gm 31 4 30 false,Gc 32 .lss 31 0 30 false,Pk 33 30 32,Mv 27 33])<|.cond (.t 27) (.seq (.region [Zf8 2 10])<|.ret) (.seq (Zf7 [0,3,4,34] [Mv 35 0,Nk 36 35,Fa 37 0 36,Fa 38 1 37,Ld 39 38,Mv 40 3,Zfe 41 5 39 40,Fa 42 4 41,Ld 43 42,Bc 44 .neq 43 (-1),Mv 45 44,Gm 46 0 45 false,Gk 47 46 45 false,Ga 48 0 47 45 false,Ga 49 1 48 45 false,Gl 50 49 45 false,Gm 51 4 45 false,og 52 (.iadr 5 (.t 50) (.t 51)) 45 false,Ga 53 4 52 45 false,Gl 54 53 45 false,Gc 55 .neq 54 (-1) 45 false,Pk 56 45 55,Mv 34 56])<|.cond (.t 34) (.seq (.region [Zf8 2 11])<|.ret) Zfa))<|
.seq (.keep [0,3,4,5,6]<|.draw [[],[],[],[],[],[],[],[],[],[],[],[],[],[],[],[],[],[],[0,1,2,3,4,5,6,7,8,9,10,11,12,13,14,15,16,17],[0,1,2,3,4,5,6,7,8,9,10,11,12,13,14,15,16,17,18],[9,10,11,12,13,14,15,16,17]] [Mv 57 0,Nk 58 57,Fa 59 0 58,Fa 60 1 59,Ld 61 60,Mv 62 3,Zfe 63 5 61 62,Fa 64 3 63,Ld 65 64,Mv 66 0,Nk 67 66,Fa 68 0 67,Fa 69 1 68,Ld 70 69,Mv 71 4,Zfe 72 5 70 71,Fa 73 3 72,Ld 74 73,o 5 (.box 1 (.c (.isl false true 3 []))),o 6 (.box 1 (.c (.isl false true 3 []))),So 1 5 65] [So 1 6 74])<|
.seq (Zf7 [0,4,5] [Mv 75 0,Mv 76 0,Nk 77 76,Fa 78 0 77,Fa 79 1 78,Ld 80 79,Mv 81 3,o 82 (.mkf (.func 201) [] [(.t 6)]),Zfb 83 199 [(.t 80),(.t 81),(.t 82)],Nk 84 75,Fa 85 0 84,Fa 86 1 85,So 1 86 83])<|
.seq (Zf7 [] [Mv 87 0,Mv 88 0,Nk 89 88,Fa 90 0 89,Fa 91 1 90,Ld 92 91,Mv 93 4,o 94 (.mkf (.func 202) [] [(.t 5)]),Zfb 95 199 [(.t 92),(.t 93),(.t 94)],Nk 96 87,Fa 97 0 96,Fa 98 1 97,So 1 98 95])<|
.seq (.region [Zf8 2 0])<|
.ret
def a97:AFun:=⟨[.tmp 2],c97⟩
def c98:ACode:=.seq (.region [Zf8 2 0])<|
.seq (.seq (Zf7 [0,9] [Mv 3 0,Mv 4 0,Nk 5 4,Fa 6 8 5,Fa 7 5 6,Ld 8 7,Zfb 9 193 [(.t 3),(.t 8)]])<|.cond (.t 9) (.seq (.region [Zf8 2 8])<|.ret) Zfa)<|
.seq (.keep []<|.draw [[],[],[],[],[],[],[],[],[],[],[],[],[],[],[],[],[],[],[],[],[],[],[],[0]] [Mv 10 0,Mv 11 0,Nk 12 11,Fa 13 0 12,Fa 14 2 13,Ld 15 14,Zfb 16 203 [(.t 15)],Mv 17 0,Nk 18 17,Fa 19 8 18,Fa 20 5 19,Ld 21 20,Mv 22 0,Nk 23 22,Fa 24 7 23,Ld 25 24,Mv 26 0,Nk 27 26,Fa 28 8 27,Fa 29 16 28,Ld 30 29,o 31 (.build [.str emp,.int .i64 0,.isl false false 2 [],.int .i64 0] [(0,1,(.t 21)),(1,1,(.t 25)),(2,1,(.t 30)),(3,1,(Ci (-1)))]),o 32 (.bsl true false 4 Zr9 1 [(0,(.t 31))]),o 33 (.app true 4 56 (.t 16) (.t 32))] [Nk 34 10,Fa 35 0 34,Fa 36 2 35,So 1 36 33])<|
.seq (.region [Zf8 2 0])<|
.ret
def a98:AFun:=⟨[.tmp 2],c98⟩
def c99:ACode:=.seq (.region [Zf8 2 0])<|
.seq (.keep [0,3,4]<|.draw [[],[],[],[],[],[],[],[],[],[],[],[],[],[],[],[],[],[],[]] [Mv 5 0,Nk 6 5,Fa 7 0 6,Zf9 8 7 7,Mv 9 0,Nk 10 9,Fa 11 8 10,Fa 12 6 11,Ld 13 12,Zfb 14 162 [(.t 8),(.t 13)],Mv 15 0,Nk 16 15,Fa 17 0 16,Zf9 18 7 17,Mv 19 0,Nk 20 19,Fa 21 8 20,Fa 22 7 21,Ld 23 22] [Zfb 24 163 [(.t 18),(.t 23)],Mv 3 14,Mv 4 24])<|
.seq (.keep [0,2]<|.block 0<|.seq (Zf7 [0,3,4,25] [Mv 26 0,Mv 27 0,Nk 28 27,Fa 29 8 28,Fa 30 5 29,Ld 31 30,Zfb 32 193 [(.t 26),(.t 31)],Mv 25 32])<|.cond (.t 25) (.seq (.region [Zf8 2 8])<|.ret) (.seq (Zf7 [0,3,4,33] [Mv 34 3,Bc 35 .lss 34 0,Mv 36 35,Gm 37 4 36 false,Gc 38 .lss 37 0 36 false,Pk 39 36 38,Mv 33 39])<|.cond (.t 33) (.seq (.region [Zf8 2 10])<|.ret) (.seq (Zf7 [0,40] [Mv 41 0,Nk 42 41,Fa 43 0 42,Fa 44 2 43,Ld 45 44,Mv 46 3,Zfe 47 4 45 46,Fa 48 3 47,Ld 49 48,Bc 50 .neq 49 (-1),Mv 51 50,Gm 52 0 51 false,Gk 53 52 51 false,Ga 54 0 53 51 false,Ga 55 1 54 51 false,Gl 56 55 51 false,Gm 57 4 51 false,og 58 (.iadr 5 (.t 56) (.t 57)) 51 false,Ga 59 4 58 51 false,Gl 60 59 51 false,Gc 61 .neq 60 (-1) 51 false,Pk 62 51 61,Mv 40 62])<|.cond (.t 40) (.seq (.region [Zf8 2 11])<|.ret) Zfa)))<|
.seq (.keep []<|.draw [[],[],[],[],[],[],[],[],[],[],[],[],[],[],[],[],[],[],[],[],[],[],[],[],[],[],[]] [Mv 63 0,Mv 64 0,Nk 65 64,Fa 66 8 65,Fa 67 5 66,Ld 68 67,Mv 69 0,Nk 70 69,Fa 71 8 70,Fa 72 6 71,Ld 73 72,Mv 74 0,Nk 75 74,Fa 76 8 75,Fa 77 7 76,Ld 78 77,Mv 79 0,Nk 80 79,Fa 81 8 80,Fa 82 10 81,Zf9 83 4 82,Mv 84 0,Nk 85 84,Fa 86 8 85,Fa 87 14 86,Zf9 88 2 87,o 89 (.build [.str emp,.str emp,.str emp,.int .i64 0,.int .i64 0,.str emp,.int .i64 0,.int .i64 0,.int .i64 0,.int .i64 0,.int .i64 0,.int .i64 0,.isl false false 1 [],.int .i64 0,.int .i64 0,.str emp] [(0,1,(.t 68)),(1,1,(.t 73)),(2,1,(.t 78)),(4,4,(.t 83)),(8,2,(.t 88))])] [o 90 (.call false 204 [(.t 63),(.t 89)])])<|
.seq (.region [Zf8 2 0])<|
.ret
def a99:AFun:=⟨[.tmp 2],c99⟩
def c100:ACode:=.seq (.region [Zf8 2 0])<|
.seq (.keep [0,3]<|.draw [[],[],[],[],[],[],[],[],[]] [Mv 4 0,Nk 5 4,Fa 6 0 5,Zf9 7 7 6,Mv 8 0,Nk 9 8,Fa 10 8 9,Fa 11 6 10,Ld 12 11] [Zfb 13 44 [(.t 7),(.t 12)],Mv 3 13])<|
.seq (.keep [0,2]<|.block 0<|.seq (Zf7 [0,3,14] [Mv 15 0,Mv 16 0,Nk 17 16,Fa 18 8 17,Fa 19 5 18,Ld 20 19,Zfb 21 193 [(.t 15),(.t 20)],Mv 14 21])<|.cond (.t 14) (.seq (.region [Zf8 2 8])<|.ret) (.seq (Zf7 [0,3,22] [Mv 23 3,Bc 24 .lss 23 0,Mv 22 24])<|.cond (.t 22) (.seq (.region [Zf8 2 10])<|.ret) (.seq (Zf7 [0,25] [Mv 26 0,Nk 27 26,Fa 28 0 27,Fa 29 3 28,Ld 30 29,Mv 31 3,Zfe 32 16 30 31,Fa 33 11 32,Ld 34 33,Bc 35 .neq 34 (-1),Mv 25 35])<|.cond (.t 25) (.seq (.region [Zf8 2 11])<|.ret) Zfa)))<|
.seq (.keep []<|.draw [[],[],[],[],[],[],[],[],[],[],[],[],[],[],[],[],[],[],[],[],[],[],[],[],[],[],[],[],[],[0]] [Mv 36 0,Mv 37 0,Nk 38 37,Fa 39 0 38,Fa 40 4 39,Ld 41 40,Zfb 42 205 [(.t 41)],Mv 43 0,Nk 44 43,Fa 45 8 44,Fa 46 5 45,Ld 47 46,Mv 48 0,Nk 49 48,Fa 50 8 49,Fa 51 6 50,Ld 52 51,Mv 53 0,Nk 54 53,Fa 55 8 54,Fa 56 7 55,Ld 57 56,Mv 58 0,Nk 59 58,Fa 60 8 59,Fa 61 1 60,Ld 62 61,o 63 (.build [.str emp,.str emp,.str emp,.int .i64 0,.int .i64 0,.int .i64 0] [(0,1,(.t 47)),(1,1,(.t 52)),(2,1,(.t 57)),(3,1,(.t 62)),(4,1,(Ci (-1)))]),o 64 (.bsl true false 6 Zr8 1 [(0,(.t 63))]),o 65 (.app true 6 72 (.t 42) (.t 64))] [Nk 66 36,Fa 67 0 66,Fa 68 4 67,So 1 68 65])<|
.seq (.region [Zf8 2 0])<|
.ret
def a100:AFun:=⟨[.tmp 2],c100⟩
def c101L0b:ACode:=.keep [1,54,55,56]<|.seq (.region [Bt 57 .lss 56 55])<|.seq (.cond (.t 57) Zfa (.exit 0))<|.seq (.keep [1,54,55,56]<|.block 1<|.seq (Zf7 [1,7,54,55,56] [Zfe 58 7 54 56,Zf9 59 7 58,o 7 (.box 7 (.c Zr4)),So 7 7 59])<|.keep [1,54,55,56]<|.draw [[],[],[],[],[],[],[],[],[],[],[],[],[],[],[]] [Ld 60 1,Ld 61 1,Nk 62 61,Fa 63 0 62,Fa 64 3 63,Ld 65 64,Ld 66 1,Nk 67 66,Fa 68 0 67,Zf9 69 7 68,Fa 70 0 7,Ld 71 70,Zfb 72 44 [(.t 69),(.t 71)],o 73 (.mkf (.func 210) [] [(.t 7)]),Zfb 74 209 [(.t 65),(.t 72),(.t 73)]] [Nk 75 60,Fa 76 0 75,Fa 77 3 76,So 1 77 74])<|.region [Bc 78 .add 56 1,Mv 56 78]
def c101L0:ACode:=.loop [1,54,55,56] c101L0b
def c101:ACode:=.seq (.region [Zff 1 1 0,Zf8 2 0])<|
.seq (.keep [1,3]<|.draw [[],[],[],[],[],[],[],[],[]] [Ld 8 1,Nk 9 8,Fa 10 0 9,Zf9 11 7 10,Ld 12 1,Nk 13 12,Fa 14 8 13,Fa 15 5 14,Ld 16 15] [Zfb 17 163 [(.t 11),(.t 16)],Mv 3 17])<|
.seq (.region [o 18 (.mkf (.func 206) [] [(.t 1)]),Mv 4 18])<|
.seq (.seq (Zf7 [1,3,29] [Mv 19 3,Bc 20 .lss 19 0,Mv 21 20,Gl 22 1 21 false,Gk 23 22 21 false,Ga 24 8 23 21 false,Ga 25 17 24 21 false,Gl 26 25 21 false,Gm 27 4 21 false,og 28 (.call true 207 [(.t 26),(.t 27)]) 21 false,Pk 29 21 28])<|.cond (.t 29) (.seq (.region [Zf8 2 10])<|.ret) Zfa)<|
.seq (.region [o 30 (.mkf (.func 208) [] [(.t 1)]),Mv 5 30])<|
.seq (.seq (Zf7 [1,49] [Ld 31 1,Nk 32 31,Fa 33 0 32,Fa 34 1 33,Ld 35 34,Mv 36 3,Zfe 37 5 35 36,Fa 38 4 37,Ld 39 38,Bc 40 .neq 39 (-1),Mv 41 40,Gl 42 1 41 false,Gk 43 42 41 false,Ga 44 8 43 41 false,Ga 45 17 44 41 false,Gl 46 45 41 false,Gm 47 5 41 false,og 48 (.call true 207 [(.t 46),(.t 47)]) 41 false,Pk 49 41 48])<|.cond (.t 49) (.seq (.region [Zf8 2 11])<|.ret) Zfa)<|
.seq (.seq (Zf7 [1,54,55,56] [Ld 50 1,Nk 51 50,Fa 52 8 51,Fa 53 17 52,Ld 54 53,Zhy 55 1 54,Zf8 56 0])<|.keep []<|.block 0<|c101L0)<|
.seq (.region [Zf8 2 0])<|
.ret
def a101:AFun:=⟨[.tmp 2],c101⟩
def c102L0b:ACode:=.keep [0,2,3,14,15,16]<|.seq (.region [Bt 17 .lss 16 15])<|.seq (.cond (.t 17) Zfa (.exit 0))<|.seq (.keep [0,2,3,14,15,16]<|.block 1<|.seq (Zf7 [0,3,5,14,15,16] [Zfe 18 7 14 16,Zf9 19 7 18,o 5 (.box 7 (.c Zr4)),So 7 5 19])<|.seq (.seq (Zf7 [0,3,5,14,15,16,23] [Mv 20 0,Fa 21 0 5,Ld 22 21,Zfb 23 193 [(.t 20),(.t 22)]])<|.cond (.t 23) (.seq (.region [Zf8 2 8])<|.ret) Zfa)<|Zf7 [0,3,14,15,16] [Mv 24 3,Fa 25 0 5,Ld 26 25,o 27 (.bsl true false 1 (.str emp) 1 [(0,(.t 26))]),o 28 (.app false 1 16 (.t 24) (.t 27)),Mv 3 28])<|.region [Bc 29 .add 16 1,Mv 16 29]
def c102L0:ACode:=.loop [0,3,14,15,16] c102L0b
def c102L1b:ACode:=.keep [0,3,6,7,78,79,80]<|.seq (.region [Bt 81 .lss 80 79])<|.seq (.cond (.t 81) Zfa (.exit 3))<|.seq (.keep [0,3,6,7,78,79,80]<|.block 4<|.seq (Zf7 [0,3,6,7,9,78,79,80] [Zfe 82 7 78 80,Zf9 83 7 82,o 9 (.box 7 (.c Zr4)),So 7 9 83])<|Zf7 [0,3,6,7,78,79,80] [Mv 84 0,Fa 85 0 9,Ld 86 85,Fa 87 1 7,Ld 88 87,Fa 89 2 7,Ld 90 89,Fa 91 1 9,Zf9 92 4 91,Fa 93 5 9,Zf9 94 2 93,o 95 (.build [.str emp,.str emp,.str emp,.int .i64 0,.int .i64 0,.str emp,.int .i64 0,.int .i64 0,.int .i64 0,.int .i64 0,.int .i64 0,.int .i64 0,.isl false false 1 [],.int .i64 0,.int .i64 0,.str emp] [(0,1,(.t 86)),(1,1,(.t 88)),(2,1,(.t 90)),(4,4,(.t 92)),(8,2,(.t 94))]),o 96 (.call false 204 [(.t 84),(.t 95)])])<|.region [Bc 97 .add 80 1,Mv 80 97]
def c102L1:ACode:=.loop [0,3,6,7,78,79,80] c102L1b
def c102:ACode:=.seq (.region [Zf8 2 0])<|
.seq (.region [o 3 (.own 1)])<|
.seq (.seq (Zf7 [0,3,14,15,16] [Mv 10 0,Nk 11 10,Fa 12 8 11,Fa 13 17 12,Ld 14 13,Zhy 15 1 14,Zf8 16 0])<|.keep [0,2,3]<|.block 0<|c102L0)<|
.seq (.keep [0,3,6]<|.draw [[],[],[],[],[],[],[],[],[]] [Mv 30 0,Nk 31 30,Fa 32 0 31,Zf9 33 7 32,Mv 34 0,Nk 35 34,Fa 36 8 35,Fa 37 5 36,Ld 38 37] [Zfb 39 44 [(.t 33),(.t 38)],Mv 6 39])<|
.seq (.keep [0,2,3,6]<|.block 2<|.seq (Zf7 [0,3,6,40] [Mv 41 6,Bc 42 .lss 41 0,Mv 40 42])<|.cond (.t 40) (.seq (.region [Zf8 2 10])<|.ret) (.seq (Zf7 [0,3,6,43] [Mv 44 0,Nk 45 44,Fa 46 0 45,Fa 47 3 46,Ld 48 47,Mv 49 6,Zfe 50 16 48 49,Fa 51 11 50,Ld 52 51,Bc 53 .neq 52 (-1),Mv 54 53,Gm 55 0 54 false,Gk 56 55 54 false,Ga 57 0 56 54 false,Ga 58 3 57 54 false,Gl 59 58 54 false,Gm 60 6 54 false,og 61 (.iadr 16 (.t 59) (.t 60)) 54 false,Ga 62 15 61 54 false,Gl 63 62 54 false,og 64 (.bin .neq (.t 63) (.c (.str emp))) 54 false,Pk 65 54 64,Mv 43 65])<|.cond (.t 43) (.seq (.region [Zf8 2 11])<|.ret) Zfa))<|
.seq (Zf7 [0,3,6,7] [Mv 66 0,Nk 67 66,Fa 68 0 67,Fa 69 3 68,Ld 70 69,Mv 71 6,Zfe 72 16 70 71,Zf9 73 16 72,o 7 (.box 16 (.c Zr2)),So 16 7 73])<|
.seq (.seq (Zf7 [0,3,6,7,78,79,80] [Mv 74 0,Nk 75 74,Fa 76 8 75,Fa 77 17 76,Ld 78 77,Zhy 79 1 78,Zf8 80 0])<|.keep [0,3,6]<|.block 3<|c102L1)<|
.seq (Zf7 [] [Mv 98 0,Mv 99 6,o 100 (.rel (.t 3)),o 101 (.call false 211 [(.t 98),(.t 99),(.t 100)])])<|
.seq (.region [Zf8 2 0])<|
.ret
def a102:AFun:=⟨[.tmp 2],c102⟩
def c103L0b:ACode:=.keep [0,3,23,24,25]<|.seq (.region [Bt 26 .lss 25 24])<|.seq (.cond (.t 26) Zfa (.exit 0))<|.seq (.keep [0,3,23,24,25]<|.block 1<|.seq (Zf7 [0,3,5,23,24,25] [Zfe 27 1 23 25,Ld 28 27,Mv 5 28])<|Zf7 [0,3,23,24,25] [Mv 29 3,Mv 30 0,Nk 31 30,Fa 32 0 31,Zf9 33 7 32,Mv 34 5,Zfb 35 44 [(.t 33),(.t 34)],o 36 (.bsl true false 1 (.int .i64 0) 1 [(0,(.t 35))]),o 37 (.app false 1 8 (.t 29) (.t 36)),Mv 3 37])<|.region [Bc 38 .add 25 1,Mv 25 38]
def c103L0:ACode:=.loop [0,3,23,24,25] c103L0b
def c103L1b:ACode:=.keep [0,2,3,6,51,52,53]<|.seq (.region [Bt 54 .lss 53 52])<|.seq (.cond (.t 54) Zfa (.exit 2))<|.seq (.keep [0,2,3,6,51,52,53]<|.block 3<|.seq (Zf7 [0,3,6,8,51,52,53] [Zfe 55 1 51 53,Ld 56 55,Mv 8 56])<|.seq (Zf7 [0,3,6,9,51,52,53] [Mv 57 0,Nk 58 57,Fa 59 0 58,Fa 60 3 59,Ld 61 60,Mv 62 8,Zfe 63 16 61 62,Zf9 64 16 63,o 9 (.box 16 (.c Zr2)),So 16 9 64])<|.seq (Zf7 [0,3,6,51,52,53,79] [Fa 65 11 9,Ld 66 65,Bc 67 .neq 66 (-1),Mv 68 67,Ga 69 15 9 68 false,Gl 70 69 68 false,og 71 (.bin .neq (.t 70) (.c (.str emp))) 68 false,Pk 72 68 71,Mv 73 72,Ga 74 2 9 73 false,Gl 75 74 73 false,Ga 76 2 6 73 false,Gl 77 76 73 false,Gt 78 .neq 75 77 73 false,Pk 79 73 78])<|.cond (.t 79) (.seq (.region [Zf8 2 11])<|.ret) Zfa)<|.region [Bc 80 .add 53 1,Mv 53 80]
def c103L1:ACode:=.loop [0,3,6,51,52,53] c103L1b
def c103L2b:ACode:=.keep [0,103,104,105]<|.seq (.region [Bt 106 .lss 105 104])<|.seq (.cond (.t 106) Zfa (.exit 4))<|.seq (.keep [0,103,104,105]<|.block 5<|.seq (Zf7 [0,11,103,104,105] [Zfe 107 1 103 105,Ld 108 107,Mv 11 108])<|Zf7 [0,103,104,105] [Mv 109 0,Mv 110 11,Mv 111 0,Nk 112 111,Fa 113 8 112,Fa 114 5 113,Ld 115 114,o 116 (.bsl true false 1 (.str emp) 1 [(0,(.t 115))]),o 117 (.call false 211 [(.t 109),(.t 110),(.t 116)])])<|.region [Bc 118 .add 105 1,Mv 105 118]
def c103L2:ACode:=.loop [0,103,104,105] c103L2b
def c103:ACode:=.seq (.region [Zf8 2 0])<|
.seq (.seq (Zf7 [0,18] [Mv 12 0,Mv 13 0,Nk 14 13,Fa 15 8 14,Fa 16 5 15,Ld 17 16,Zfb 18 193 [(.t 12),(.t 17)]])<|.cond (.t 18) (.seq (.region [Zf8 2 8])<|.ret) Zfa)<|
.seq (.region [o 3 (.own 1)])<|
.seq (.seq (Zf7 [0,3,23,24,25] [Mv 19 0,Nk 20 19,Fa 21 8 20,Fa 22 8 21,Ld 23 22,Zhy 24 1 23,Zf8 25 0])<|.keep [0,3]<|.block 0<|c103L0)<|
.seq (.seq (.region [Mv 39 3,Zfb 40 144 [(.t 39),(Ci (-1))]])<|.cond (.t 40) (.seq (.region [Zf8 2 10])<|.ret) Zfa)<|
.seq (.keep [0,3,6]<|.draw [[],[],[],[],[],[],[],[],[],[],[0,1,2,3,4,5,6,7,8,9]] [Mv 41 0,Nk 42 41,Fa 43 0 42,Fa 44 3 43,Ld 45 44,Mv 46 3,o 47 (.iadr 1 (.t 46) (Ci 0)),Ld 48 47,Zfe 49 16 45 48,Zf9 50 16 49,o 6 (.box 16 (.c Zr2))] [So 16 6 50])<|
.seq (.seq (Zf7 [0,3,6,51,52,53] [Mv 51 3,Zhy 52 1 51,Zf8 53 0])<|.keep [0,2,3,6]<|.block 2<|c103L1)<|
.seq (.keep [0,3]<|.draw [[],[],[],[],[],[],[],[],[],[],[],[],[],[],[],[],[],[],[],[],[]] [Mv 81 0,Mv 82 0,Nk 83 82,Fa 84 8 83,Fa 85 5 84,Ld 86 85,Fa 87 1 6,Ld 88 87,Fa 89 2 6,Ld 90 89,Mv 91 0,Nk 92 91,Fa 93 8 92,Fa 94 10 93,Zf9 95 4 94,Mv 96 0,Nk 97 96,Fa 98 8 97,Fa 99 14 98,Zf9 100 2 99,o 101 (.build [.str emp,.str emp,.str emp,.int .i64 0,.int .i64 0,.str emp,.int .i64 0,.int .i64 0,.int .i64 0,.int .i64 0,.int .i64 0,.int .i64 0,.isl false false 1 [],.int .i64 0,.int .i64 0,.str emp] [(0,1,(.t 86)),(1,1,(.t 88)),(2,1,(.t 90)),(4,4,(.t 95)),(8,2,(.t 100))])] [o 102 (.call false 204 [(.t 81),(.t 101)])])<|
.seq (.seq (Zf7 [0,103,104,105] [Mv 103 3,Zhy 104 1 103,Zf8 105 0])<|.keep []<|.block 4<|c103L2)<|
.seq (.region [Zf8 2 0])<|
.ret
def a103:AFun:=⟨[.tmp 2],c103⟩
def c104L0b:ACode:=.keep [1,46,47,48]<|.seq (.region [Bt 49 .lss 48 47])<|.seq (.cond (.t 49) Zfa (.exit 1))<|.seq (.keep [1,46,47,48]<|.block 2<|.seq (Zf7 [1,4,5,46,47,48] [Mv 50 48,Zfe 51 16 46 48,Zf9 52 16 51,o 5 (.box 16 (.c Zr2)),Mv 4 50,So 16 5 52])<|.seq (.keep [1,4,46,47,48,65]<|.draw [[],[],[],[],[],[],[]] [Fa 53 1 5,Ld 54 53,Ld 55 1,Nk 56 55,Fa 57 8 56,Fa 58 5 57,Ld 59 58] [Bt 60 .eql 54 59,Mv 61 60,Ga 62 11 5 61 true,Gl 63 62 61 true,Gc 64 .eql 63 (-1) 61 true,Zfd 65 61 64])<|.cond (.t 65) (Zf7 [1,46,47,48] [Ld 66 1,Mv 67 4,o 68 (.call false 211 [(.t 66),(.t 67),(.c (.isl false false 1 []))])]) Zfa)<|.region [Bc 69 .add 48 1,Mv 48 69]
def c104L0:ACode:=.loop [1,46,47,48] c104L0b
def c104:ACode:=.seq (.region [Zff 1 1 0,Zf8 2 0])<|
.seq (.keep [1,3]<|.draw [[],[],[],[],[],[],[],[],[]] [Ld 6 1,Nk 7 6,Fa 8 0 7,Zf9 9 7 8,Ld 10 1,Nk 11 10,Fa 12 8 11,Fa 13 5 12,Ld 14 13] [Zfb 15 162 [(.t 9),(.t 14)],Mv 3 15])<|
.seq (.keep [1,2,3]<|.block 0<|.seq (Zf7 [1,3,16] [Mv 17 3,Bc 18 .lss 17 0,Mv 16 18])<|.cond (.t 16) (.seq (.region [Zf8 2 10])<|.ret) (.seq (Zf7 [1,3,19] [Ld 20 1,Nk 21 20,Fa 22 0 21,Fa 23 2 22,Ld 24 23,Mv 25 3,Zfe 26 4 24 25,Fa 27 3 26,Ld 28 27,Bc 29 .neq 28 (-1),Mv 19 29])<|.cond (.t 19) (.seq (.region [Zf8 2 11])<|.ret) Zfa))<|
.seq (.keep [1]<|.draw [[],[],[],[],[],[],[],[],[]] [Ld 30 1,Ld 31 1,Nk 32 31,Fa 33 0 32,Fa 34 2 33,Ld 35 34,Mv 36 3,o 37 (.mkf (.func 213) [] [(.t 1)]),Zfb 38 212 [(.t 35),(.t 36),(.t 37)]] [Nk 39 30,Fa 40 0 39,Fa 41 2 40,So 1 41 38])<|
.seq (.seq (Zf7 [1,46,47,48] [Ld 42 1,Nk 43 42,Fa 44 0 43,Fa 45 3 44,Ld 46 45,Zhy 47 1 46,Zf8 48 0])<|.keep []<|.block 1<|c104L0)<|
.seq (.region [Zf8 2 0])<|
.ret
def a104:AFun:=⟨[.tmp 2],c104⟩
def s105p0:ACode:=(.region [Zff 1 1 0,Zf8 2 0])
def s105p1:ACode:=(Zf7 [1,3] [Ld 8 1,Nk 9 8,Fa 10 8 9,Fa 11 5 10,Ld 12 11,o 3 (.box 1 (.c (.str emp))),So 1 3 12])
def s105p2:ACode:=(.seq (.keep [1,3,4]<|.draw [[],[],[],[],[]] [Ld 13 1,Nk 14 13,Fa 15 0 14,Zf9 16 7 15,Ld 17 3] [Zfb 18 192 [(.t 16),(.t 17)],Mv 4 18])<|.seq (Zf7 [1,3,4,32] [Mv 19 4,Bc 20 .geq 19 0,Mv 21 20,Gl 22 1 21 true,Gk 23 22 21 true,Ga 24 0 23 21 true,Ga 25 0 24 21 true,Gl 26 25 21 true,Gm 27 4 21 true,og 28 (.iadr 6 (.t 26) (.t 27)) 21 true,Ga 29 5 28 21 true,Gl 30 29 21 true,Gc 31 .eql 30 (-1) 21 true,Zfd 32 21 31])<|.cond (.t 32) (.seq (.keep []<|.draw [[],[],[],[],[],[],[],[],[]] [Ld 33 1,Ld 34 1,Nk 35 34,Fa 36 0 35,Fa 37 0 36,Ld 38 37,Mv 39 4,o 40 (.mkf (.func 214) [] [(.t 1)]),Zfb 41 195 [(.t 38),(.t 39),(.t 40)]] [Nk 42 33,Fa 43 0 42,Fa 44 0 43,So 1 44 41])<|.seq (.region [Zf8 2 0])<|.ret) Zfa)
def s105p3:ACode:=(.seq (.keep [1,3,5]<|.draw [[],[],[],[],[]] [Ld 45 1,Nk 46 45,Fa 47 0 46,Zf9 48 7 47,Ld 49 3] [Zfb 50 163 [(.t 48),(.t 49)],Mv 5 50])<|.seq (Zf7 [1,3,5,64] [Mv 51 5,Bc 52 .geq 51 0,Mv 53 52,Gl 54 1 53 true,Gk 55 54 53 true,Ga 56 0 55 53 true,Ga 57 1 56 53 true,Gl 58 57 53 true,Gm 59 5 53 true,og 60 (.iadr 5 (.t 58) (.t 59)) 53 true,Ga 61 4 60 53 true,Gl 62 61 53 true,Gc 63 .eql 62 (-1) 53 true,Zfd 64 53 63])<|.cond (.t 64) (.seq (.seq (Zf7 [1,5,71] [Ld 65 1,Nk 66 65,Fa 67 0 66,Fa 68 3 67,Ld 69 68,o 70 (.mkf (.func 216) [] [(.t 3)]),Zfb 71 215 [(.t 69),(.t 70)]])<|.cond (.t 71) (.seq (.region [Zf8 2 11])<|.ret) Zfa)<|.seq (.keep []<|.draw [[],[],[],[],[],[],[],[],[]] [Ld 72 1,Ld 73 1,Nk 74 73,Fa 75 0 74,Fa 76 1 75,Ld 77 76,Mv 78 5,o 79 (.mkf (.func 217) [] [(.t 1)]),Zfb 80 199 [(.t 77),(.t 78),(.t 79)]] [Nk 81 72,Fa 82 0 81,Fa 83 1 82,So 1 83 80])<|.seq (.region [Zf8 2 0])<|.ret) Zfa)
def s105p4:ACode:=(.seq (.keep [1,3,6]<|.draw [[],[],[],[],[]] [Ld 84 1,Nk 85 84,Fa 86 0 85,Zf9 87 7 86,Ld 88 3] [Zfb 89 44 [(.t 87),(.t 88)],Mv 6 89])<|.seq (Zf7 [1,3,6,103] [Mv 90 6,Bc 91 .geq 90 0,Mv 92 91,Gl 93 1 92 true,Gk 94 93 92 true,Ga 95 0 94 92 true,Ga 96 3 95 92 true,Gl 97 96 92 true,Gm 98 6 92 true,og 99 (.iadr 16 (.t 97) (.t 98)) 92 true,Ga 100 11 99 92 true,Gl 101 100 92 true,Gc 102 .eql 101 (-1) 92 true,Zfd 103 92 102])<|.cond (.t 103) (.seq (Zf7 [] [Ld 104 1,Mv 105 6,o 106 (.call false 211 [(.t 104),(.t 105),(.c (.isl false false 1 []))])])<|.seq (.region [Zf8 2 0])<|.ret) Zfa)
def s105p5:ACode:=(.seq (.keep [1,3,7]<|.draw [[],[],[],[],[]] [Ld 107 1,Nk 108 107,Fa 109 0 108,Zf9 110 7 109,Ld 111 3] [Zfb 112 218 [(.t 110),(.t 111)],Mv 7 112])<|.seq (Zf7 [1,3,7,126] [Mv 113 7,Bc 114 .geq 113 0,Mv 115 114,Gl 116 1 115 true,Gk 117 116 115 true,Ga 118 0 117 115 true,Ga 119 4 118 115 true,Gl 120 119 115 true,Gm 121 7 115 true,og 122 (.iadr 6 (.t 120) (.t 121)) 115 true,Ga 123 4 122 115 true,Gl 124 123 115 true,Gc 125 .eql 124 (-1) 115 true,Zfd 126 115 125])<|.cond (.t 126) (.seq (.keep []<|.draw [[],[],[],[],[],[],[],[],[]] [Ld 127 1,Ld 128 1,Nk 129 128,Fa 130 0 129,Fa 131 4 130,Ld 132 131,Mv 133 7,o 134 (.mkf (.func 220) [] [(.t 1)]),Zfb 135 219 [(.t 132),(.t 133),(.t 134)]] [Nk 136 127,Fa 137 0 136,Fa 138 4 137,So 1 138 135])<|.seq (.region [Zf8 2 0])<|.ret) Zfa)
def s105p6:ACode:=(.seq (.keep [150]<|.draw [[],[],[],[],[],[],[],[],[]] [Ld 139 1,Ld 140 3,Zfb 141 193 [(.t 139),(.t 140)],Mv 142 141,Gl 143 1 142 true,Gk 144 143 142 true,Ga 145 0 144 142 true,og 146 (.load (some 7) (.t 145)) 142 true,Gl 147 3 142 true] [og 148 (.call true 162 [(.t 146),(.t 147)]) 142 true,Gc 149 .lss 148 0 142 true,Zfd 150 142 149])<|.cond (.t 150) (.seq (.region [Zf8 2 11])<|.ret) Zfa)
def s105p7:ACode:=(.region [Zf8 2 10])
def c105:ACode:=.seq s105p0 (.seq s105p1 (.seq s105p2 (.seq s105p3 (.seq s105p4 (.seq s105p5 (.seq s105p6 (.seq s105p7 .ret)))))))
def a105:AFun:=⟨[.tmp 2],c105⟩
def c106L0b:ACode:=.keep [0,2,3]<|.seq (.seq (.region [Mv 20 3,Bc 21 .geq 20 0])<|.cond (.t 21) Zfa (.exit 0))<|.seq (.keep [0,2,3]<|.block 1<|.seq (Zf7 [0,3,34] [Mv 28 3,Mv 29 0,Nk 30 29,Fa 31 8 30,Fa 32 3 31,Ld 33 32,Bt 34 .eql 28 33])<|.cond (.t 34) (.seq (.region [Zf8 2 12])<|.ret) Zfa)<|Zf7 [0,3] [Mv 22 0,Nk 23 22,Fa 24 0 23,Zf9 25 7 24,Mv 26 3,Zfb 27 167 [(.t 25),(.t 26)],Mv 3 27]
def c106L0:ACode:=.loop [0,3] c106L0b
def c106:ACode:=.seq (.region [Zf8 2 0])<|
.seq (.seq (.keep [0,14]<|.draw [[],[],[],[],[],[],[],[],[]] [Mv 4 0,Nk 5 4,Fa 6 0 5,Zf9 7 7 6,Mv 8 0,Nk 9 8,Fa 10 8 9,Fa 11 3 10,Ld 12 11] [Zfb 13 167 [(.t 7),(.t 12)],Bc 14 .geq 13 0])<|.cond (.t 14) (.seq (.region [Zf8 2 11])<|.ret) Zfa)<|
.seq (.seq (Zf7 [0,3] [Mv 15 0,Nk 16 15,Fa 17 8 16,Fa 18 2 17,Ld 19 18,Mv 3 19])<|.keep [0,2]<|.block 0<|c106L0)<|
.seq (.keep []<|.draw [[],[],[],[],[],[],[],[],[],[],[],[],[],[],[],[],[],[],[],[0]] [Mv 35 0,Mv 36 0,Nk 37 36,Fa 38 0 37,Fa 39 5 38,Ld 40 39,Zfb 41 221 [(.t 40)],Mv 42 0,Nk 43 42,Fa 44 8 43,Fa 45 2 44,Ld 46 45,Mv 47 0,Nk 48 47,Fa 49 8 48,Fa 50 3 49,Ld 51 50,o 52 (.build [.int .i64 0,.int .i64 0] [(0,1,(.t 46)),(1,1,(.t 51))]),o 53 (.bsl true false 2 Zr1 1 [(0,(.t 52))]),o 54 (.app true 2 16 (.t 41) (.t 53))] [Nk 55 35,Fa 56 0 55,Fa 57 5 56,So 1 57 54])<|
.seq (.region [Zf8 2 0])<|
.ret
def a106:AFun:=⟨[.tmp 2],c106⟩
def c107:ACode:=.seq (.region [Zf8 2 0])<|
.seq (.keep []<|.draw [[],[],[],[],[],[],[],[],[],[],[],[],[],[],[],[],[],[],[],[0]] [Mv 3 0,Mv 4 0,Nk 5 4,Fa 6 0 5,Fa 7 6 6,Ld 8 7,Zfb 9 221 [(.t 8)],Mv 10 0,Nk 11 10,Fa 12 8 11,Fa 13 2 12,Ld 14 13,Mv 15 0,Nk 16 15,Fa 17 8 16,Fa 18 3 17,Ld 19 18,o 20 (.build [.int .i64 0,.int .i64 0] [(0,1,(.t 14)),(1,1,(.t 19))]),o 21 (.bsl true false 2 Zr1 1 [(0,(.t 20))]),o 22 (.app true 2 16 (.t 9) (.t 21))] [Nk 23 3,Fa 24 0 23,Fa 25 6 24,So 1 25 22])<|
.seq (.region [Zf8 2 0])<|
.ret
def a107:AFun:=⟨[.tmp 2],c107⟩
def c108:ACode:=.seq (.region [Zf8 2 0])<|
.seq (.seq (Zf7 [0,9] [Mv 3 0,Mv 4 0,Nk 5 4,Fa 6 8 5,Fa 7 5 6,Ld 8 7,Zfb 9 193 [(.t 3),(.t 8)]])<|.cond (.t 9) (.seq (.region [Zf8 2 8])<|.ret) Zfa)<|
.seq (.keep []<|.draw [[],[],[],[],[],[],[],[],[],[],[],[],[],[],[],[],[]] [Mv 10 0,Mv 11 0,Nk 12 11,Fa 13 8 12,Fa 14 5 13,Ld 15 14,Mv 16 0,Nk 17 16,Fa 18 8 17,Fa 19 4 18,Ld 20 19,Mv 21 0,Nk 22 21,Fa 23 8 22,Fa 24 7 23,Ld 25 24,o 26 (.build [.str emp,.str emp,.str emp,.int .i64 0,.int .i64 0,.str emp,.int .i64 0,.int .i64 0,.int .i64 0,.int .i64 0,.int .i64 0,.int .i64 0,.isl false false 1 [],.int .i64 0,.int .i64 0,.str emp] [(0,1,(.t 15)),(14,1,(.t 20)),(15,1,(.t 25))])] [o 27 (.call false 204 [(.t 10),(.t 26)])])<|
.seq (.region [Zf8 2 0])<|
.ret
def a108:AFun:=⟨[.tmp 2],c108⟩
def c111:ACode:=.seq (.region [Zf8 4 0])<|
.seq (Zf7 [4] [o 5 (.rel (.t 0)),Mv 6 1,Zfb 7 222 [(.t 5),(.t 6)],Mv 4 7])<|
.ret
def a111:AFun:=⟨[.tmp 4],c111⟩
def c112:ACode:=.seq (.region [Zff 2 16 0,Zfc 3])<|
.seq (Zf7 [3] [Fa 4 0 2,Ld 5 4,Ld 6 1,Bt 7 .eql 5 6,Mv 3 7])<|
.ret
def a112:AFun:=⟨[.tmp 3],c112⟩
def c126:ACode:=.seq (.region [Zfc 2])<|
.seq (.region [Mv 4 0,Mv 3 4])<|
.seq (Zf7 [2] [Mv 5 3,Zhy 6 1 5,Bc 7 .geq 6 3,Mv 8 7,Gm 9 3 8 true,og 10 (.len 1 (.t 9)) 8 true,Gc 11 .leq 10 40 8 true,Zfd 12 8 11,Mv 13 12,Gm 14 3 13 true,og 15 (.call true 234 [(.t 14),(.f 127)]) 13 true,og 16 (.un .not (.t 15)) 13 true,Zfd 17 13 16,Mv 18 17,Gm 19 3 18 true,og 20 (.call true 235 [(.t 19)]) 18 true,Gc 21 .gtr 20 0 18 true,Zfd 22 18 21,Mv 23 22,og 24 (.rel (.t 3)) 23 true,og 25 (.call true 236 [(.t 24)]) 23 true,Zfd 26 23 25,Mv 2 26])<|
.ret
def a126:AFun:=⟨[.tmp 2],c126⟩
def c127:ACode:=.seq (.region [Zff 1 2 0,Zfc 2])<|
.seq (Zf7 [2] [Zf9 3 2 1,Zfb 4 61 [(.t 3)],o 5 (.un .not (.t 4)),Mv 2 5])<|
.ret
def a127:AFun:=⟨[.tmp 2],c127⟩
def c128:ACode:=.seq (.region [Zff 3 2 1,Zfc 4])<|
.seq (Zf7 [5,6] [o 8 (.rel (.t 0)),Zf9 9 2 3,Zfb 10 237 [(.t 8),(.t 9)],Mv 7 10,o 11 (.ext (.t 7) 0),o 12 (.ext (.t 7) 1),Mv 5 11,Mv 6 12])<|
.seq (Zf7 [4] [Mv 13 5,Bc 14 .eql 13 0,Mv 15 14,Gm 16 6 15 true,og 17 (.un .not (.t 16)) 15 true,Zfd 18 15 17,Mv 4 18])<|
.ret
def a128:AFun:=⟨[.tmp 4],c128⟩
def c129:ACode:=.seq (.region [Zff 3 2 1,Zfc 4])<|
.seq (Zf7 [5,6] [o 8 (.rel (.t 0)),Zf9 9 2 3,Zfb 10 237 [(.t 8),(.t 9)],Mv 7 10,o 11 (.ext (.t 7) 0),o 12 (.ext (.t 7) 1),Mv 5 11,Mv 6 12])<|
.seq (Zf7 [4] [Mv 13 5,Bc 14 .neq 13 0,Mv 15 14,Gm 16 6 15 true,og 17 (.un .not (.t 16)) 15 true,Zfd 18 15 17,Mv 4 18])<|
.ret
def a129:AFun:=⟨[.tmp 4],c129⟩
def c131:ACode:=.seq (.region [o 4 (.mv (.c (.isl false false 2 [])))])<|
.seq (Zf7 [4] [Mv 5 0,o 6 (.build [.int .i64 0,.int .i64 0] [(0,1,(.t 5))]),Mv 7 1,o 8 (.build [.int .i64 0,.int .i64 0] [(0,1,(.t 7))]),Mv 9 1,o 10 (.build [.int .i64 0,.int .i64 0] [(0,1,(.t 9)),(1,1,(Ci 9))]),Mv 11 0,o 12 (.build [.int .i64 0,.int .i64 0] [(0,1,(.t 11)),(1,1,(Ci 9))]),o 13 (.bsl true false 2 Zr1 4 [(0,(.t 6)),(1,(.t 8)),(2,(.t 10)),(3,(.t 12))]),Mv 4 13])<|
.ret
def a131:AFun:=⟨[.tmp 4],c131⟩
def c132L0b:ACode:=.keep [0,2,3]<|.seq (.seq (Zf7 [0,3,7] [Mv 4 3,Mv 5 0,Zhy 6 1 5,Bt 7 .lss 4 6])<|.cond (.t 7) Zfa (.exit 0))<|.seq (.keep [0,2,3]<|.block 1<|.seq (Zf7 [0,3,15] [Mv 10 0,Mv 11 3,Zfe 12 1 10 11,Ld 13 12,Zhy 14 0 13,Bc 15 .gtr 14 100])<|.cond (.t 15) (.seq (.region [Zfc 2])<|.ret) Zfa)<|Zf7 [0,3] [Mv 8 3,Bc 9 .add 8 1,Mv 3 9]
def c132L0:ACode:=.loop [0,3] c132L0b
def c132:ACode:=.seq (.region [Zfc 2])<|
.seq (.seq (.region [Zf8 3 0])<|.keep [2]<|.block 0<|c132L0)<|
.seq (.region [o 2 (.mv cT)])<|
.ret
def a132:AFun:=⟨[.tmp 2],c132⟩
def c133L0b:ACode:=.keep [0,2,3]<|.seq (.seq (Zf7 [0,3,11] [Mv 4 3,Mv 5 0,Zhy 6 1 5,Bt 7 .lss 4 6,Mv 8 7,Gm 9 3 8 true,Gc 10 .lss 9 10 8 true,Zfd 11 8 10])<|.cond (.t 11) Zfa (.exit 0))<|.seq (.keep [0,2,3]<|.block 1<|.seq (.keep [0,3,26]<|.draw [[],[],[],[],[],[],[],[],[],[]] [Mv 14 0,Mv 15 3,Zfe 16 3 14 15,Fa 17 0 16,Ld 18 17,Mv 19 0,Mv 20 3,Zfe 21 3 19 20,Fa 22 2 21,Ld 23 22] [o 24 (.bsl true false 1 (.str emp) 2 [(0,(.t 18)),(1,(.t 23))]),Zfb 25 132 [(.t 24)],o 26 (.un .not (.t 25))])<|.cond (.t 26) (.seq (.region [Zfc 2])<|.ret) Zfa)<|Zf7 [0,3] [Mv 12 3,Bc 13 .add 12 1,Mv 3 13]
def c133L0:ACode:=.loop [0,3] c133L0b
def c133:ACode:=.seq (.region [Zfc 2])<|
.seq (.seq (.region [Zf8 3 0])<|.keep [0,2]<|.block 0<|c133L0)<|
.seq (Zf7 [2] [Mv 27 0,Zhy 28 1 27,Bc 29 .leq 28 10,Mv 2 29])<|
.ret
def a133:AFun:=⟨[.tmp 2],c133⟩
def c134:ACode:=.seq (.region [Zff 1 6 0,Zfc 2])<|
.seq (Zf7 [2] [Fa 3 1 1,Ld 4 3,Bc 5 .eql 4 1,Mv 6 5,Ga 7 5 1 6 true,Gl 8 7 6 true,Gc 9 .eql 8 (-1) 6 true,Zfd 10 6 9,Mv 2 10])<|
.ret
def a134:AFun:=⟨[.tmp 2],c134⟩
def c136:ACode:=.seq (.region [Zff 1 1 0,o 2 (.mv (.c (.nilfn)))])<|
.seq (.region [o 3 (.mkf (.func 240) [] [(.t 1)]),Mv 2 3])<|
.ret
def a136:AFun:=⟨[.tmp 2],c136⟩
def c139:ACode:=.seq (.region [Zff 1 1 0,o 2 (.mv (.c (.nilfn)))])<|
.seq (.region [o 3 (.mkf (.func 243) [] [(.t 1)]),Mv 2 3])<|
.ret
def a139:AFun:=⟨[.tmp 2],c139⟩
def c140L0b:ACode:=.keep [2,3,5,6,35,36,37]<|.seq (.region [Bt 38 .lss 37 36])<|.seq (.cond (.t 38) Zfa (.exit 0))<|.seq (.keep [2,3,5,6,35,36,37]<|.block 1<|.seq (Zf7 [2,3,5,6,8,35,36,37] [Zfe 39 7 35 37,Zf9 40 7 39,o 8 (.box 7 (.c Zr4)),So 7 8 40])<|Zf7 [2,3,5,6,35,36,37] [Ld 41 6,Fa 42 0 8,Ld 43 42,o 44 (.bsl true false 1 (.str emp) 1 [(0,(.t 43))]),o 45 (.app true 1 16 (.t 41) (.t 44)),So 1 6 45])<|.region [Bc 46 .add 37 1,Mv 37 46]
def c140L0:ACode:=.loop [2,3,5,6,35,36,37] c140L0b
def c140L1b:ACode:=.keep [2,3,5,6,54,55,56]<|.seq (.region [Bt 57 .lss 56 55])<|.seq (.cond (.t 57) Zfa (.exit 2))<|.seq (.keep [2,3,5,6,54,55,56]<|.block 3<|.seq (Zf7 [2,3,5,6,10,54,55,56] [Zfe 58 6 54 56,Zf9 59 6 58,o 10 (.box 6 (.c Zr8)),So 6 10 59])<|.seq (Zf7 [2,3,5,6,10,54,55,56,64] [Fa 60 0 10,Ld 61 60,Fa 62 5 3,Ld 63 62,Bt 64 .eql 61 63])<|.cond (.t 64) (Zf7 [2,3,5,6,54,55,56] [Ld 65 6,Fa 66 1 10,Ld 67 66,o 68 (.bsl true false 1 (.str emp) 1 [(0,(.t 67))]),o 69 (.app true 1 16 (.t 65) (.t 68)),So 1 6 69]) Zfa)<|.region [Bc 70 .add 56 1,Mv 56 70]
def c140L1:ACode:=.loop [2,3,5,6,54,55,56] c140L1b
def s140p0:ACode:=(Zf7 [2,3] [Zff 2 1 0,Zff 3 18 1,o 4 (.mv (.c (.nilfn)))])
def s140p1:ACode:=(Zf7 [2,3,5] [o 11 (.mkf (.func 244) [] [(.t 3)]),o 5 (.box 1 (.c (.nilfn))),So 1 5 11])
def s140p2:ACode:=(Zf7 [2,3,5,6] [Fa 12 8 3,Ld 13 12,o 14 (.call false 164 [(.t 13)]),o 6 (.box 1 (.c (.isl false true 1 []))),So 1 6 14])
def s140p3:ACode:=(.seq (Zf7 [2,3,5,6,17] [Ld 15 5,o 16 (.bsl true false 1 (.int .i64 0) 2 [(0,(Ci 9)),(1,(Ci 12))]),o 17 (.callv true (.t 15) [(.t 16)])])<|.cond (.t 17) (Zf7 [2,3,5,6] [Ld 18 6,Fa 19 5 3,Ld 20 19,o 21 (.bsl true false 1 (.str emp) 1 [(0,(.t 20))]),o 22 (.app true 1 16 (.t 18) (.t 21)),So 1 6 22]) Zfa)
def s140p4:ACode:=(.seq (Zf7 [2,3,5,6,25] [Ld 23 5,o 24 (.bsl true false 1 (.int .i64 0) 1 [(0,(Ci 7))]),o 25 (.callv true (.t 23) [(.t 24)])])<|.cond (.t 25) (Zf7 [2,3,5,6] [Ld 26 6,Fa 27 6 3,Ld 28 27,o 29 (.bsl true false 1 (.str emp) 1 [(0,(.t 28))]),o 30 (.app true 1 16 (.t 26) (.t 29)),So 1 6 30]) Zfa)
def s140p5:ACode:=(.seq (Zf7 [2,3,5,6,33] [Ld 31 5,o 32 (.bsl true false 1 (.int .i64 0) 1 [(0,(Ci 8))]),o 33 (.callv true (.t 31) [(.t 32)])])<|.cond (.t 33) (.seq (Zf7 [2,3,5,6,35,36,37] [Fa 34 17 3,Ld 35 34,Zhy 36 1 35,Zf8 37 0])<|.keep [2,3,5,6]<|.block 0<|c140L0) Zfa)
def s140p6:ACode:=(.seq (Zf7 [2,3,5,6,49] [Ld 47 5,o 48 (.bsl true false 1 (.int .i64 0) 1 [(0,(Ci 12))]),o 49 (.callv true (.t 47) [(.t 48)])])<|.cond (.t 49) (.seq (Zf7 [2,3,5,6,54,55,56] [Ld 50 2,Nk 51 50,Fa 52 0 51,Fa 53 4 52,Ld 54 53,Zhy 55 1 54,Zf8 56 0])<|.keep [2,3,5,6]<|.block 2<|c140L1) Zfa)
def s140p7:ACode:=(.region [o 71 (.mkf (.func 245) [] [(.t 2),(.t 5),(.t 3),(.t 6)]),Mv 4 71])
def c140:ACode:=.seq s140p0 (.seq s140p1 (.seq s140p2 (.seq s140p3 (.seq s140p4 (.seq s140p5 (.seq s140p6 (.seq s140p7 .ret)))))))
def a140:AFun:=⟨[.tmp 4],c140⟩
def c141:ACode:=.seq (.region [Zff 2 6 0,Zfc 3])<|
.seq (.keep [3]<|.draw [[],[],[],[],[],[],[],[],[],[],[],[],[],[]] [Zf9 4 6 2,Zfb 5 134 [(.t 4)],Mv 6 5,Gl 7 1 6 true,Gk 8 7 6 true,Ga 9 0 8 6 true,Gl 10 9 6 true,Ga 11 2 2 6 true,Gl 12 11 6 true,og 13 (.call true 66 [(.t 10),(.t 12)]) 6 true,Gl 14 1 6 true,Gk 15 14 6 true,Ga 16 20 15 6 true,Gl 17 16 6 true] [Gt 18 .eql 13 17 6 true,Zfd 19 6 18,Mv 3 19])<|
.ret
def a141:AFun:=⟨[.tmp 3],c141⟩
def c142:ACode:=.seq (.region [Zfc 4])<|
.seq (Zf7 [4] [o 5 (.rel (.t 0)),Mv 6 1,Zfb 7 247 [(.t 5),(.t 6)],Bc 8 .geq 7 0,Mv 4 8])<|
.ret
def a142:AFun:=⟨[.tmp 4],c142⟩
def c143:ACode:=.seq (.region [Zff 2 6 0,Zfc 3])<|
.seq (.keep [3]<|.draw [[],[],[],[],[],[],[]] [Fa 4 0 2,Ld 5 4,Ld 6 1,Nk 7 6,Fa 8 1 7,Fa 9 5 8,Ld 10 9] [Bt 11 .eql 5 10,Mv 3 11])<|
.ret
def a143:AFun:=⟨[.tmp 3],c143⟩
def c144:ACode:=.seq (.region [Zfc 4])<|
.seq (Zf7 [4] [o 5 (.rel (.t 0)),Mv 6 1,Zfb 7 248 [(.t 5),(.t 6)],Bc 8 .geq 7 0,Mv 4 8])<|
.ret
def a144:AFun:=⟨[.tmp 4],c144⟩
def c145:ACode:=.seq (.region [Zfc 4])<|
.seq (Zf7 [4] [o 5 (.rel (.t 0)),Mv 6 1,Zfb 7 249 [(.t 5),(.t 6)],Bc 8 .geq 7 0,Mv 4 8])<|
.ret
def a145:AFun:=⟨[.tmp 4],c145⟩
def c146:ACode:=.seq (.region [Zfc 3])<|
.seq (.keep [3]<|.draw [[],[],[],[],[],[],[],[],[],[],[],[],[],[],[],[]] [Mv 4 0,Ld 5 1,Nk 6 5,Fa 7 20 6,Ld 8 7,Bt 9 .neq 4 8,Mv 10 9,Gl 11 1 10 true,Gk 12 11 10 true,Ga 13 0 12 10 true,Gl 14 13 10 true,Gl 15 1 10 true,Gk 16 15 10 true,Ga 17 20 16 10 true,Gl 18 17 10 true,Gm 19 0 10 true] [og 20 (.call true 69 [(.t 14),(.t 18),(.t 19)]) 10 true,og 21 (.un .not (.t 20)) 10 true,Zfd 22 10 21,Mv 3 22])<|
.ret
def a146:AFun:=⟨[.tmp 3],c146⟩
def c161:ACode:=.seq (.region [Zfc 6])<|
.seq (Zf7 [6] [Mv 7 0,Mv 8 1,Bt 9 .geq 7 8,Mv 10 9,Gm 11 0 10 true,Gm 12 2 10 true,Gt 13 .leq 11 12 10 true,Zfd 14 10 13,Mv 6 14])<|
.ret
def a161:AFun:=⟨[.tmp 6],c161⟩
def c162:ACode:=.seq (Zf7 [2,3] [Zff 2 7 0,Zff 3 1 1,Zf8 4 0])<|
.seq (Zf7 [4] [Fa 5 2 2,Ld 6 5,o 7 (.mkf (.func 262) [] [(.t 3)]),Zfb 8 261 [(.t 6),(.t 7)],Mv 4 8])<|
.ret
def a162:AFun:=⟨[.tmp 4],c162⟩
def c163:ACode:=.seq (Zf7 [2,3] [Zff 2 7 0,Zff 3 1 1,Zf8 4 0])<|
.seq (Zf7 [4] [Fa 5 1 2,Ld 6 5,o 7 (.mkf (.func 264) [] [(.t 3)]),Zfb 8 263 [(.t 6),(.t 7)],Mv 4 8])<|
.ret
def a163:AFun:=⟨[.tmp 4],c163⟩
def c167:ACode:=.seq (Zf7 [2,3] [Zff 2 7 0,Zff 3 1 1,Zf8 4 0])<|
.seq (.seq (Zf7 [2,5] [Fa 6 5 2,Ld 7 6,o 8 (.mkf (.func 268) [] [(.t 3)]),Zfb 9 267 [(.t 7),(.t 8)],Mv 5 9])<|.seq (.region [Mv 10 5,Bc 11 .geq 10 0])<|.cond (.t 11) (.seq (Zf7 [4] [Fa 12 5 2,Ld 13 12,Mv 14 5,Zfe 15 2 13 14,o 16 (.aadr 1 2 (.t 15) (Ci 0)),Ld 17 16,Mv 4 17])<|.ret) Zfa)<|
.seq (.region [Zf8 4 (-1)])<|
.ret
def a167:AFun:=⟨[.tmp 4],c167⟩
def c168:ACode:=.seq (.region [Zfc 3])<|
.seq (Zf7 [3] [o 4 (.rel (.t 0)),Ld 5 1,Zfb 6 144 [(.t 4),(.t 5)],Mv 3 6])<|
.ret
def a168:AFun:=⟨[.tmp 3],c168⟩
def c169:ACode:=.seq (.region [Zff 1 18 0,Zfc 2])<|
.seq (Zf7 [2] [Fa 3 5 1,Ld 4 3,Zfb 5 170 [(.t 4)],Mv 2 5])<|
.ret
def a169:AFun:=⟨[.tmp 2],c169⟩
def c170:ACode:=.seq (.region [Zfc 2])<|
.seq (Zf7 [0,3,4] [Mv 7 0,Zfb 8 233 [(.t 7)],Mv 6 8,o 9 (.ext (.t 6) 0),o 10 (.ext (.t 6) 1),o 11 (.ext (.t 6) 2),Mv 3 9,Mv 4 10,Mv 5 11])<|
.seq (Zf7 [2] [Mv 12 4,Bc 13 .eql 12 0,Mv 14 13,Gm 15 3 14 true,og 16 (.len 1 (.t 15)) 14 true,Gc 17 .eql 16 1 14 true,Zfd 18 14 17,Mv 19 18,Gm 20 3 19 true,og 21 (.iadr 4 (.t 20) (Ci 0)) 19 true,Ga 22 0 21 19 true,Gl 23 22 19 true,Gc 24 .eql 23 1 19 true,Zfd 25 19 24,Mv 26 25,Gm 27 3 26 true,og 28 (.iadr 4 (.t 27) (Ci 0)) 26 true,Ga 29 3 28 26 true,Gl 30 29 26 true,Gm 31 0 26 true,Gt 32 .eql 30 31 26 true,Zfd 33 26 32,Mv 2 33])<|
.ret
def a170:AFun:=⟨[.tmp 2],c170⟩
def c171:ACode:=.seq (.region [Zff 1 18 0,Zfc 2])<|
.seq (Zf7 [2] [Fa 3 2 1,Ld 4 3,Fa 5 3 1,Ld 6 5,Zfb 7 172 [(.t 4),(.t 6)],Mv 2 7])<|
.ret
def a171:AFun:=⟨[.tmp 2],c171⟩
def c172:ACode:=.seq (.region [Zfc 4])<|
.seq (Zf7 [4] [Mv 5 0,Zfb 6 89 [(.t 5),(Ci 0),(Ci 63)],Mv 7 6,Gm 8 1 7 true,og 9 (.call true 89 [(.t 8),(Ci 0),(Ci 63)]) 7 true,Zfd 10 7 9,Mv 11 10,Gm 12 0 11 true,Gm 13 1 11 true,Gt 14 .neq 12 13 11 true,Zfd 15 11 14,Mv 4 15])<|
.ret
def a172:AFun:=⟨[.tmp 4],c172⟩
def c173:ACode:=.seq (.region [Zff 2 18 0,Zfc 3])<|
.seq (Zf7 [3] [Ld 4 1,Zf9 5 18 2,o 6 (.callv true (.t 4) [(.t 5)]),Mv 7 6,Ga 8 2 2 7 true,Gl 9 8 7 true,og 10 (.call true 89 [(.t 9),(Ci 1),(Ci 3)]) 7 true,Zfd 11 7 10,Mv 12 11,Ga 13 16 2 12 true,Gl 14 13 12 true,og 15 (.call true 126 [(.t 14)]) 12 true,Zfd 16 12 15,Mv 3 16])<|
.ret
def a173:AFun:=⟨[.tmp 3],c173⟩
def c174:ACode:=.seq (.region [Zff 2 18 0,Zfc 3])<|
.seq (Zf7 [3] [Ld 4 1,Zf9 5 18 2,o 6 (.callv true (.t 4) [(.t 5)]),Mv 7 6,Ga 8 16 2 7 true,Gl 9 8 7 true,og 10 (.call true 175 [(.t 9)]) 7 true,Zfd 11 7 10,Mv 3 11])<|
.ret
def a174:AFun:=⟨[.tmp 3],c174⟩
def c175L0b:ACode:=.keep [0,2,5,6,7]<|.seq (.region [Bt 8 .lss 7 6])<|.seq (.cond (.t 8) Zfa (.exit 0))<|.seq (.keep [0,2,5,6,7]<|.block 1<|.seq (Zf7 [0,3,4,5,6,7] [Mv 9 7,Zfe 10 2 5 7,Zf9 11 2 10,o 4 (.box 2 (.c Zr1)),Mv 3 9,So 2 4 11])<|.seq (.keep [0,5,6,7,27]<|.draw [[],[],[],[],[],[],[],[],[],[],[],[],[]] [Zf9 12 2 4,Zfb 13 61 [(.t 12)],o 14 (.un .not (.t 13)),Mv 15 14,Gm 16 3 15 false,Gc 17 .gtr 16 0 15 false,Gm 18 17 15 false,og 19 (.load (some 2) (.t 4)) 18 true,Gm 20 0 18 true,Gm 21 3 18 true,Gc 22 .sub 21 1 18 true,og 23 (.iadr 2 (.t 20) (.t 22)) 18 true,og 24 (.load (some 2) (.t 23)) 18 true] [og 25 (.eqv false true [1,1] (.t 19) (.t 24)) 18 true,og 26 (.pick (.t 18) (.t 25) cF) 15 false,Pk 27 15 26])<|.cond (.t 27) (.seq (.region [Zfc 2])<|.ret) Zfa)<|.region [Bc 28 .add 7 1,Mv 7 28]
def c175L0:ACode:=.loop [0,5,6,7] c175L0b
def c175:ACode:=.seq (.region [Zfc 2])<|
.seq (.seq (Zf7 [0,5,6,7] [Mv 5 0,Zhy 6 1 5,Zf8 7 0])<|.keep [0,2]<|.block 0<|c175L0)<|
.seq (Zf7 [2] [Mv 29 0,Zhy 30 1 29,Bc 31 .geq 30 2,Mv 32 31,Gm 33 0 32 true,og 34 (.len 1 (.t 33)) 32 true,Gc 35 .leq 34 40 32 true,Zfd 36 32 35,Mv 2 36])<|
.ret
def a175:AFun:=⟨[.tmp 2],c175⟩
def c176:ACode:=.seq (.region [Zff 2 18 0,Zfc 3])<|
.seq (Zf7 [3] [Ld 4 1,Zf9 5 18 2,o 6 (.callv true (.t 4) [(.t 5)]),Mv 7 6,Ga 8 9 2 7 true,Gl 9 8 7 true,og 10 (.call true 177 [(.t 9)]) 7 true,Zfd 11 7 10,Mv 3 11])<|
.ret
def a176:AFun:=⟨[.tmp 3],c176⟩
def c177L0b:ACode:=.keep [0,2,3,6,7,8]<|.seq (.region [Bt 9 .lss 8 7])<|.seq (.cond (.t 9) Zfa (.exit 0))<|.seq (.keep [0,2,3,6,7,8]<|.block 1<|.seq (Zf7 [0,3,5,6,7,8] [Zfe 10 3 6 8,Zf9 11 3 10,o 5 (.box 3 (.c RX)),So 3 5 11])<|.seq (.seq (Zf7 [0,3,5,6,7,8,27] [Fa 12 0 5,Ld 13 12,Zfb 14 170 [(.t 13)],o 15 (.un .not (.t 14)),Mv 16 15,Ga 17 1 5 16 false,Gl 18 17 16 false,og 19 (.call true 89 [(.t 18),(Ci 0),(Ci 7)]) 16 false,og 20 (.un .not (.t 19)) 16 false,Pk 21 16 20,Mv 22 21,Ga 23 2 5 22 false,Gl 24 23 22 false,og 25 (.call true 269 [(.t 24)]) 22 false,og 26 (.un .not (.t 25)) 22 false,Pk 27 22 26])<|.cond (.t 27) (.seq (.region [Zfc 2])<|.ret) Zfa)<|.seq (.region [Fa 28 2 5,⟨none,.store 1 (.t 28) (.c (.str emp)),none⟩])<|Zf7 [0,3,6,7,8] [Mv 29 3,Zf9 30 3 5,o 31 (.bsl true false 3 RX 1 [(0,(.t 30))]),o 32 (.app false 3 40 (.t 29) (.t 31)),Mv 3 32])<|.region [Bc 33 .add 8 1,Mv 8 33]
def c177L0:ACode:=.loop [0,3,6,7,8] c177L0b
def c177:ACode:=.seq (.region [Zfc 2])<|
.seq (.region [o 3 (.own 3)])<|
.seq (.seq (Zf7 [0,3,6,7,8] [Mv 6 0,Zhy 7 1 6,Zf8 8 0])<|.keep [0,2,3]<|.block 0<|c177L0)<|
.seq (Zf7 [2] [Mv 34 0,Zhy 35 1 34,Zfb 36 89 [(.t 35),(Ci 1),(Ci 8)],Mv 37 36,og 38 (.rel (.t 3)) 37 true,og 39 (.call true 270 [(.t 38)]) 37 true,Zfd 40 37 39,Mv 2 40])<|
.ret
def a177:AFun:=⟨[.tmp 2],c177⟩
def c178:ACode:=.seq (.region [Zff 1 18 0,Zfc 2])<|
.seq (Zf7 [2] [Fa 3 5 1,Ld 4 3,Fa 5 6 1,Ld 6 5,o 7 (.bsl true false 1 (.str emp) 2 [(0,(.t 4)),(1,(.t 6))]),Zfb 8 179 [(.t 7)],Mv 2 8])<|
.ret
def a178:AFun:=⟨[.tmp 2],c178⟩
def c179:ACode:=.seq (.region [Zfc 2])<|
.seq (Zf7 [2] [Mv 3 0,Zfb 4 271 [(.t 3)],Mv 5 4,og 6 (.rel (.t 0)) 5 true,og 7 (.call true 272 [(.t 6),(.f 273)]) 5 true,og 8 (.un .not (.t 7)) 5 true,Zfd 9 5 8,Mv 2 9])<|
.ret
def a179:AFun:=⟨[.tmp 2],c179⟩
def c180:ACode:=.seq (.region [Zff 2 18 0,Zfc 3])<|
.seq (Zf7 [3] [Ld 4 1,Zf9 5 18 2,o 6 (.callv true (.t 4) [(.t 5)]),Mv 7 6,Ga 8 16 2 7 true,Gl 9 8 7 true,og 10 (.call true 126 [(.t 9)]) 7 true,Zfd 11 7 10,Mv 3 11])<|
.ret
def a180:AFun:=⟨[.tmp 3],c180⟩
def c181:ACode:=.seq (.region [Zff 1 18 0,Zfc 2])<|
.seq (Zf7 [2] [Fa 3 5 1,Ld 4 3,Fa 5 6 1,Ld 6 5,Fa 7 7 1,Ld 8 7,o 9 (.bsl true false 1 (.str emp) 3 [(0,(.t 4)),(1,(.t 6)),(2,(.t 8))]),Zfb 10 179 [(.t 9)],Mv 11 10,Ga 12 10 1 11 true,og 13 (.load (some 4) (.t 12)) 11 true,og 14 (.call true 182 [(.t 13)]) 11 true,Zfd 15 11 14,Mv 16 15,Ga 17 14 1 16 true,og 18 (.load (some 2) (.t 17)) 16 true,og 19 (.call true 61 [(.t 18)]) 16 true,Zfd 20 16 19,Mv 2 20])<|
.ret
def a181:AFun:=⟨[.tmp 2],c181⟩
def c182:ACode:=.seq (.region [Zff 1 4 0,Zfc 2])<|
.seq (Zf7 [2] [Fa 3 0 1,Ld 4 3,Bc 5 .geq 4 1,Mv 6 5,Ga 7 0 1 6 true,Gl 8 7 6 true,Gc 9 .leq 8 9999 6 true,Zfd 10 6 9,Mv 11 10,Ga 12 1 1 11 true,Gl 13 12 11 true,og 14 (.call true 274 [(.t 13)]) 11 true,Zfd 15 11 14,Mv 16 15,Ga 17 2 1 16 true,Gl 18 17 16 true,Ga 19 3 1 16 true,Gl 20 19 16 true,og 21 (.call true 275 [(.t 18),(.t 20)]) 16 true,Gc 22 .geq 21 0 16 true,Zfd 23 16 22,Mv 2 23])<|
.ret
def a182:AFun:=⟨[.tmp 2],c182⟩
def c183:ACode:=.seq (.region [Zff 1 18 0,Zfc 2])<|
.seq (Zf7 [2] [Fa 3 5 1,Ld 4 3,Fa 5 6 1,Ld 6 5,o 7 (.bsl true false 1 (.str emp) 2 [(0,(.t 4)),(1,(.t 6))]),Zfb 8 179 [(.t 7)],Mv 9 8,Ga 10 7 1 9 true,Gl 11 10 9 true,og 12 (.call true 184 [(.t 11),(Ci 24)]) 9 true,Zfd 13 9 12,Mv 2 13])<|
.ret
def a183:AFun:=⟨[.tmp 2],c183⟩
def c184:ACode:=.seq (.region [Zfc 4])<|
.seq (.region [o 5 (.mv (.f 276))])<|
.seq (Zf7 [4] [Mv 6 0,o 7 (.bin .neq (.t 6) (.c (.str emp))),Mv 8 7,Gm 9 0 8 true,og 10 (.len 0 (.t 9)) 8 true,Gm 11 1 8 true,Gt 12 .leq 10 11 8 true,Zfd 13 8 12,Mv 14 13,Gm 15 0 14 true,Gm 16 5 14 true,og 17 (.call true 277 [(.t 15),(.t 16)]) 14 true,og 18 (.un .not (.t 17)) 14 true,Zfd 19 14 18,Mv 4 19])<|
.ret
def a184:AFun:=⟨[.tmp 4],c184⟩
def c185:ACode:=.seq (.region [Zff 2 18 0,Zfc 3])<|
.seq (Zf7 [3] [Ld 4 1,Zf9 5 18 2,o 6 (.callv true (.t 4) [(.t 5)]),Mv 7 6,Ga 8 17 2 7 true,Gl 9 8 7 true,og 10 (.len 1 (.t 9)) 7 true,og 11 (.call true 89 [(.t 10),(Ci 1),(Ci 40)]) 7 true,Zfd 12 7 11,Mv 13 12,Ga 14 17 2 13 true,Gl 15 14 13 true,og 16 (.call true 186 [(.t 15),(.c (.isl false true 1 []))]) 13 true,Zfd 17 13 16,Mv 18 17,Ga 19 17 2 18 true,Gl 20 19 18 true,og 21 (.call true 187 [(.t 20),cT]) 18 true,Zfd 22 18 21,Mv 3 22])<|
.ret
def a185:AFun:=⟨[.tmp 3],c185⟩
def c186L0b:ACode:=.keep [1,4,5,8,9,10]<|.seq (.region [Bt 11 .lss 10 9])<|.seq (.cond (.t 11) Zfa (.exit 0))<|.seq (.keep [1,4,5,8,9,10]<|.block 1<|.seq (Zf7 [1,5,7,8,9,10] [Zfe 12 7 8 10,Zf9 13 7 12,o 7 (.box 7 (.c Zr4)),So 7 7 13])<|.seq (.seq (Zf7 [1,5,7,8,9,10,17] [Fa 14 1 7,Zf9 15 4 14,Zfb 16 182 [(.t 15)],o 17 (.un .not (.t 16))])<|.cond (.t 17) (.seq (.region [Zfc 4])<|.ret) Zfa)<|.keep [1,5,8,9,10]<|.draw [[],[],[],[],[],[4],[4],[4],[4]] [Mv 18 1,Fa 19 0 7,Ld 20 19,o 21 (.bsl true false 1 (.str emp) 1 [(0,(.t 20))]),o 22 (.app false 1 16 (.t 18) (.t 21)),Mv 23 5,Fa 24 1 7,Zf9 25 4 24,o 26 (.bsl true false 4 (.agg [.int .i64 0,.str emp,.int .i64 0,.int .i64 0]) 1 [(0,(.t 25))])] [o 27 (.app false 4 40 (.t 23) (.t 26)),Mv 1 22,Mv 5 27])<|.region [Bc 28 .add 10 1,Mv 10 28]
def c186L0:ACode:=.loop [1,5,8,9,10] c186L0b
def c186:ACode:=.seq (.region [Zfc 4])<|
.seq (.region [o 5 (.own 4)])<|
.seq (.seq (Zf7 [1,5,8,9,10] [Mv 8 0,Zhy 9 1 8,Zf8 10 0])<|.keep [1,4,5]<|.block 0<|c186L0)<|
.seq (Zf7 [4] [o 29 (.rel (.t 1)),Zfb 30 179 [(.t 29)],Mv 31 30,og 32 (.rel (.t 5)) 31 true,og 33 (.call true 278 [(.t 32)]) 31 true,Zfd 34 31 33,Mv 4 34])<|
.ret
def a186:AFun:=⟨[.tmp 4],c186⟩
def c187:ACode:=.seq (.region [Zff 3 1 1,Zfc 4])<|
.seq (Zf7 [4] [o 5 (.rel (.t 0)),o 6 (.mkf (.func 279) [] [(.t 3)]),Zfb 7 207 [(.t 5),(.t 6)],o 8 (.un .not (.t 7)),Mv 4 8])<|
.ret
def a187:AFun:=⟨[.tmp 4],c187⟩
def c188:ACode:=.seq (.region [Zff 1 18 0,Zfc 2])<|
.seq (Zf7 [2] [Fa 3 17 1,Ld 4 3,Zhy 5 1 4,Zfb 6 89 [(.t 5),(Ci 2),(Ci 8)],Mv 7 6,Ga 8 17 1 7 true,Gl 9 8 7 true,Ga 10 5 1 7 true,Gl 11 10 7 true,og 12 (.bsl false false 1 (.str emp) 1 [(0,(.t 11))]) 7 true,og 13 (.call true 186 [(.t 9),(.t 12)]) 7 true,Zfd 14 7 13,Mv 15 14,Ga 16 17 1 15 true,Gl 17 16 15 true,og 18 (.call true 187 [(.t 17),cF]) 15 true,Zfd 19 15 18,Mv 2 19])<|
.ret
def a188:AFun:=⟨[.tmp 2],c188⟩
def c189:ACode:=.seq (.region [Zff 1 18 0,Zfc 2])<|
.seq (Zf7 [2] [Fa 3 8 1,Ld 4 3,Zhy 5 1 4,Zfb 6 89 [(.t 5),(Ci 2),(Ci 8)],Mv 7 6,Ga 8 5 1 7 true,Gl 9 8 7 true,og 10 (.bsl false false 1 (.str emp) 1 [(0,(.t 9))]) 7 true,Ga 11 8 1 7 true,Gl 12 11 7 true,og 13 (.app false 1 16 (.t 10) (.t 12)) 7 true,og 14 (.call true 179 [(.t 13)]) 7 true,Zfd 15 7 14,Mv 16 15,Ga 17 10 1 16 true,og 18 (.load (some 4) (.t 17)) 16 true,og 19 (.call true 182 [(.t 18)]) 16 true,Zfd 20 16 19,Mv 21 20,Ga 22 14 1 21 true,og 23 (.load (some 2) (.t 22)) 21 true,og 24 (.call true 61 [(.t 23)]) 21 true,Zfd 25 21 24,Mv 2 25])<|
.ret
def a189:AFun:=⟨[.tmp 2],c189⟩
def c190:ACode:=.seq (.region [Zff 2 18 0,Zfc 3])<|
.seq (Zf7 [3] [Ld 4 1,Zf9 5 18 2,o 6 (.callv true (.t 4) [(.t 5)]),Mv 7 6,Ga 8 4 2 7 true,Gl 9 8 7 true,og 10 (.call true 89 [(.t 9),(Ci 0),(Ci 63)]) 7 true,Zfd 11 7 10,Mv 12 11,Ga 13 7 2 12 true,Gl 14 13 12 true,og 15 (.call true 191 [(.t 14)]) 12 true,Zfd 16 12 15,Mv 3 16])<|
.ret
def a190:AFun:=⟨[.tmp 3],c190⟩
def c191:ACode:=.seq (.region [Zfc 2])<|
.seq (.region [o 3 (.mv (.f 280))])<|
.seq (Zf7 [2] [Mv 4 0,o 5 (.bin .neq (.t 4) (.c (.str emp))),Mv 6 5,Gm 7 0 6 true,og 8 (.len 0 (.t 7)) 6 true,Gc 9 .leq 8 60 6 true,Zfd 10 6 9,Mv 11 10,Gm 12 0 11 true,Gm 13 3 11 true,og 14 (.call true 277 [(.t 12),(.t 13)]) 11 true,og 15 (.un .not (.t 14)) 11 true,Zfd 16 11 15,Mv 2 16])<|
.ret
def a191:AFun:=⟨[.tmp 2],c191⟩
def c192:ACode:=.seq (Zf7 [2,3] [Zff 2 7 0,Zff 3 1 1,Zf8 4 0])<|
.seq (Zf7 [4] [Fa 5 0 2,Ld 6 5,o 7 (.mkf (.func 282) [] [(.t 3)]),Zfb 8 281 [(.t 6),(.t 7)],Mv 4 8])<|
.ret
def a192:AFun:=⟨[.tmp 4],c192⟩
def c193:ACode:=.seq (.region [Zfc 4])<|
.seq (Zf7 [4] [Mv 5 0,Nk 6 5,Fa 7 26 6,Ld 8 7,Mv 9 1,Zfb 10 246 [(.t 8),(.t 9)],Mv 4 10])<|
.ret
def a193:AFun:=⟨[.tmp 4],c193⟩
def c194:ACode:=.seq (.region [o 2 (.mv (.c (.isl false false 6 [])))])<|
.seq (Zf7 [2] [Mv 3 0,Mv 4 0,Zhy 5 1 4,Mv 6 0,Zhy 7 1 6,o 8 (.slc 6 (.t 3) none (some (.t 5)) (some (.t 7))),Mv 2 8])<|
.ret
def a194:AFun:=⟨[.tmp 2],c194⟩
def c195:ACode:=.seq (.region [o 6 (.mv (.c (.isl false false 6 [])))])<|
.seq (Zf7 [1,2,7] [o 8 (.rel (.t 0)),o 9 (.call false 283 [(.t 8)]),Mv 7 9])<|
.seq (Zf7 [7] [Mv 10 2,Mv 11 7,Mv 12 1,Zfe 13 6 11 12,o 14 (.callv false (.t 10) [(.t 13)])])<|
.seq (.region [Mv 15 7,Mv 6 15])<|
.ret
def a195:AFun:=⟨[.tmp 6],c195⟩
def c196:ACode:=Zf7 [] [Mv 3 0,Ld 4 1,Nk 5 4,Fa 6 8 5,Fa 7 16 6,Ld 8 7,Nk 9 3,Fa 10 3 9,So 1 10 8]
def a196:AFun:=⟨[],c196⟩
def c197:ACode:=.seq (.region [o 2 (.mv (.c (.isl false false 5 [])))])<|
.seq (Zf7 [2] [Mv 3 0,Mv 4 0,Zhy 5 1 4,Mv 6 0,Zhy 7 1 6,o 8 (.slc 5 (.t 3) none (some (.t 5)) (some (.t 7))),Mv 2 8])<|
.ret
def a197:AFun:=⟨[.tmp 2],c197⟩
def c198:ACode:=Zf7 [] [Mv 3 0,Ld 4 1,Nk 5 4,Fa 6 8 5,Fa 7 9 6,Ld 8 7,Nk 9 3,Fa 10 4 9,So 1 10 8]
def a198:AFun:=⟨[],c198⟩
def c199:ACode:=.seq (.region [o 6 (.mv (.c (.isl false false 5 [])))])<|
.seq (Zf7 [1,2,7] [o 8 (.rel (.t 0)),o 9 (.call false 284 [(.t 8)]),Mv 7 9])<|
.seq (Zf7 [7] [Mv 10 2,Mv 11 7,Mv 12 1,Zfe 13 5 11 12,o 14 (.callv false (.t 10) [(.t 13)])])<|
.seq (.region [Mv 15 7,Mv 6 15])<|
.ret
def a199:AFun:=⟨[.tmp 6],c199⟩
def c200:ACode:=Zf7 [] [Mv 3 0,Ld 4 1,Nk 5 4,Fa 6 8 5,Fa 7 9 6,Ld 8 7,Nk 9 3,Fa 10 3 9,So 1 10 8]
def a200:AFun:=⟨[],c200⟩
def c201:ACode:=Zf7 [] [Mv 3 0,Ld 4 1,Nk 5 3,Fa 6 3 5,So 1 6 4]
def a201:AFun:=⟨[],c201⟩
def c202:ACode:=Zf7 [] [Mv 3 0,Ld 4 1,Nk 5 3,Fa 6 3 5,So 1 6 4]
def a202:AFun:=⟨[],c202⟩
def c203:ACode:=.seq (.region [o 2 (.mv (.c (.isl false false 4 [])))])<|
.seq (Zf7 [2] [Mv 3 0,Mv 4 0,Zhy 5 1 4,Mv 6 0,Zhy 7 1 6,o 8 (.slc 4 (.t 3) none (some (.t 5)) (some (.t 7))),Mv 2 8])<|
.ret
def a203:AFun:=⟨[.tmp 2],c203⟩
def c204:ACode:=.seq (.region [o 3 (.box 16 (.t 1))])<|
.seq (.keep [0,3]<|.draw [[],[],[],[],[],[],[],[],[],[],[4,5,6,7,8]] [Mv 4 0,Nk 5 4,Fa 6 7 5,Ld 7 6,Mv 8 0,Nk 9 8,Fa 10 8 9,Fa 11 1 10,Ld 12 11,Fa 13 3 3,So 1 13 7] [Fa 14 10 3,So 1 14 12,Fa 15 11 3,⟨none,.store 1 (.t 15) (Ci (-1)),none⟩])<|
.keep []<|.draw [[],[],[],[],[],[],[],[],[],[0]] [Mv 16 0,Mv 17 0,Nk 18 17,Fa 19 0 18,Fa 20 3 19,Ld 21 20,Zfb 22 285 [(.t 21)],Zf9 23 16 3,o 24 (.bsl true false 16 Zr2 1 [(0,(.t 23))]),o 25 (.app true 16 184 (.t 22) (.t 24))] [Nk 26 16,Fa 27 0 26,Fa 28 3 27,So 1 28 25]
def a204:AFun:=⟨[],c204⟩
def c205:ACode:=.seq (.region [o 2 (.mv (.c (.isl false false 6 [])))])<|
.seq (Zf7 [2] [Mv 3 0,Mv 4 0,Zhy 5 1 4,Mv 6 0,Zhy 7 1 6,o 8 (.slc 6 (.t 3) none (some (.t 5)) (some (.t 7))),Mv 2 8])<|
.ret
def a205:AFun:=⟨[.tmp 2],c205⟩
def c206:ACode:=.seq (.region [Zff 2 7 0,Zfc 3])<|
.seq (.keep [3]<|.draw [[],[],[],[],[],[]] [Ld 4 1,Nk 5 4,Fa 6 0 5,Zf9 7 7 6,Fa 8 0 2,Ld 9 8] [Zfb 10 44 [(.t 7),(.t 9)],Bc 11 .lss 10 0,Mv 3 11])<|
.ret
def a206:AFun:=⟨[.tmp 3],c206⟩
def c207:ACode:=.seq (.region [Zfc 4])<|
.seq (Zf7 [4] [o 5 (.rel (.t 0)),Mv 6 1,Zfb 7 286 [(.t 5),(.t 6)],Bc 8 .geq 7 0,Mv 4 8])<|
.ret
def a207:AFun:=⟨[.tmp 4],c207⟩
def c208:ACode:=.seq (.region [Zff 2 7 0,Zfc 3])<|
.seq (.keep [1,4]<|.draw [[],[],[],[],[],[],[],[],[],[],[],[],[],[],[0,1,2,3,4,5,6,7,8,9,10,11,12,13]] [Ld 5 1,Nk 6 5,Fa 7 0 6,Fa 8 3 7,Ld 9 8,Ld 10 1,Nk 11 10,Fa 12 0 11,Zf9 13 7 12,Fa 14 0 2,Ld 15 14,Zfb 16 44 [(.t 13),(.t 15)],Zfe 17 16 9 16,Zf9 18 16 17,o 4 (.box 16 (.c Zr2))] [So 16 4 18])<|
.seq (.keep [3]<|.draw [[],[],[],[],[],[],[],[],[],[],[]] [Fa 19 11 4,Ld 20 19,Bc 21 .neq 20 (-1),Mv 22 21,Ga 23 2 4 22 false,Gl 24 23 22 false,Gl 25 1 22 false,Gk 26 25 22 false,Ga 27 8 26 22 false,Ga 28 5 27 22 false,Gl 29 28 22 false] [Gt 30 .neq 24 29 22 false,Pk 31 22 30,Mv 3 31])<|
.ret
def a208:AFun:=⟨[.tmp 3],c208⟩
def c209:ACode:=.seq (.region [o 6 (.mv (.c (.isl false false 16 [])))])<|
.seq (Zf7 [1,2,7] [o 8 (.rel (.t 0)),o 9 (.call false 287 [(.t 8)]),Mv 7 9])<|
.seq (Zf7 [7] [Mv 10 2,Mv 11 7,Mv 12 1,Zfe 13 16 11 12,o 14 (.callv false (.t 10) [(.t 13)])])<|
.seq (.region [Mv 15 7,Mv 6 15])<|
.ret
def a209:AFun:=⟨[.tmp 6],c209⟩
def c210:ACode:=Zf7 [] [Mv 3 0,Fa 4 1 1,Zf9 5 4 4,Nk 6 3,Fa 7 4 6,So 4 7 5]
def a210:AFun:=⟨[],c210⟩
def c211L0b:ACode:=.keep [3,5,6,34,35,36]<|.seq (.region [Bt 37 .lss 36 35])<|.seq (.cond (.t 37) Zfa (.exit 0))<|.seq (.keep [3,5,6,34,35,36]<|.block 1<|.seq (Zf7 [3,5,6,7,8,34,35,36] [Mv 38 36,Zfe 39 6 34 36,Zf9 40 6 39,o 8 (.box 6 (.c Zr8)),Mv 7 38,So 6 8 40])<|.seq (.seq (Zf7 [3,5,6,7,34,35,36,49] [Fa 41 1 8,Ld 42 41,Mv 43 6,Bt 44 .neq 42 43,Mv 45 44,Ga 46 4 8 45 false,Gl 47 46 45 false,Gc 48 .neq 47 (-1) 45 false,Pk 49 45 48])<|.cond (.t 49) (.exit 1) Zfa)<|.keep [3,5,6,34,35,36]<|.draw [[],[],[],[],[],[],[],[],[]] [Ld 50 3,Ld 51 3,Nk 52 51,Fa 53 0 52,Fa 54 4 53,Ld 55 54,Mv 56 7,o 57 (.mkf (.func 289) [] [(.t 5),(.t 3)]),Zfb 58 219 [(.t 55),(.t 56),(.t 57)]] [Nk 59 50,Fa 60 0 59,Fa 61 4 60,So 1 61 58])<|.region [Bc 62 .add 36 1,Mv 36 62]
def c211L0:ACode:=.loop [3,5,6,34,35,36] c211L0b
def c211:ACode:=.seq (.region [Zff 3 1 0,Zff 5 1 2])<|
.seq (Zf7 [1,3,5,6] [Ld 9 3,Nk 10 9,Fa 11 0 10,Fa 12 3 11,Ld 13 12,Mv 14 1,Zfe 15 16 13 14,Fa 16 0 15,Ld 17 16,Mv 6 17])<|
.seq (.keep [3,5,6]<|.draw [[],[],[],[],[],[],[],[],[]] [Ld 18 3,Ld 19 3,Nk 20 19,Fa 21 0 20,Fa 22 3 21,Ld 23 22,Mv 24 1,o 25 (.mkf (.func 288) [] [(.t 3),(.t 5)]),Zfb 26 209 [(.t 23),(.t 24),(.t 25)]] [Nk 27 18,Fa 28 0 27,Fa 29 3 28,So 1 29 26])<|
.seq (Zf7 [3,5,6,34,35,36] [Ld 30 3,Nk 31 30,Fa 32 0 31,Fa 33 4 32,Ld 34 33,Zhy 35 1 34,Zf8 36 0])<|
.keep []<|.block 0<|c211L0
def a211:AFun:=⟨[],c211⟩
def c212:ACode:=.seq (.region [o 6 (.mv (.c (.isl false false 4 [])))])<|
.seq (Zf7 [1,2,7] [o 8 (.rel (.t 0)),o 9 (.call false 290 [(.t 8)]),Mv 7 9])<|
.seq (Zf7 [7] [Mv 10 2,Mv 11 7,Mv 12 1,Zfe 13 4 11 12,o 14 (.callv false (.t 10) [(.t 13)])])<|
.seq (.region [Mv 15 7,Mv 6 15])<|
.ret
def a212:AFun:=⟨[.tmp 6],c212⟩
def c213:ACode:=Zf7 [] [Mv 3 0,Ld 4 1,Nk 5 4,Fa 6 8 5,Fa 7 1 6,Ld 8 7,Nk 9 3,Fa 10 3 9,So 1 10 8]
def a213:AFun:=⟨[],c213⟩
def c214:ACode:=Zf7 [] [Mv 3 0,Ld 4 1,Nk 5 4,Fa 6 8 5,Fa 7 1 6,Ld 8 7,Nk 9 3,Fa 10 5 9,So 1 10 8]
def a214:AFun:=⟨[],c214⟩
def c215:ACode:=.seq (.region [Zfc 4])<|
.seq (Zf7 [4] [o 5 (.rel (.t 0)),Mv 6 1,Zfb 7 222 [(.t 5),(.t 6)],Bc 8 .geq 7 0,Mv 4 8])<|
.ret
def a215:AFun:=⟨[.tmp 4],c215⟩
def c216:ACode:=.seq (.region [Zff 2 16 0,Zfc 3])<|
.seq (Zf7 [3] [Fa 4 2 2,Ld 5 4,Ld 6 1,Bt 7 .eql 5 6,Mv 8 7,Ga 9 11 2 8 true,Gl 10 9 8 true,Gc 11 .eql 10 (-1) 8 true,Zfd 12 8 11,Mv 3 12])<|
.ret
def a216:AFun:=⟨[.tmp 3],c216⟩
def c217:ACode:=Zf7 [] [Mv 3 0,Ld 4 1,Nk 5 4,Fa 6 8 5,Fa 7 1 6,Ld 8 7,Nk 9 3,Fa 10 4 9,So 1 10 8]
def a217:AFun:=⟨[],c217⟩
def c218:ACode:=.seq (Zf7 [2,3] [Zff 2 7 0,Zff 3 1 1,Zf8 4 0])<|
.seq (Zf7 [4] [Fa 5 4 2,Ld 6 5,o 7 (.mkf (.func 292) [] [(.t 3)]),Zfb 8 291 [(.t 6),(.t 7)],Mv 4 8])<|
.ret
def a218:AFun:=⟨[.tmp 4],c218⟩
def c219:ACode:=.seq (.region [o 6 (.mv (.c (.isl false false 6 [])))])<|
.seq (Zf7 [1,2,7] [o 8 (.rel (.t 0)),o 9 (.call false 293 [(.t 8)]),Mv 7 9])<|
.seq (Zf7 [7] [Mv 10 2,Mv 11 7,Mv 12 1,Zfe 13 6 11 12,o 14 (.callv false (.t 10) [(.t 13)])])<|
.seq (.region [Mv 15 7,Mv 6 15])<|
.ret
def a219:AFun:=⟨[.tmp 6],c219⟩
def c220:ACode:=.keep []<|.draw [[],[],[],[],[],[],[],[],[],[],[],[],[],[],[1]] [Mv 3 0,Mv 4 0,Ld 5 1,Nk 6 5,Fa 7 8 6,Fa 8 1 7,Ld 9 8,Ld 10 1,Nk 11 10,Fa 12 8 11,Fa 13 0 12,Ld 14 13,Nk 15 3,Fa 16 4 15,So 1 16 9] [Nk 17 4,Fa 18 5 17,So 1 18 14]
def a220:AFun:=⟨[],c220⟩
def c221:ACode:=.seq (.region [o 2 (.mv (.c (.isl false false 2 [])))])<|
.seq (Zf7 [2] [Mv 3 0,Mv 4 0,Zhy 5 1 4,Mv 6 0,Zhy 7 1 6,o 8 (.slc 2 (.t 3) none (some (.t 5)) (some (.t 7))),Mv 2 8])<|
.ret
def a221:AFun:=⟨[.tmp 2],c221⟩
def c222L0b:ACode:=.keep [0,1,4,7,8]<|.seq (.region [Bt 9 .lss 8 7])<|.seq (.cond (.t 9) Zfa (.exit 0))<|.seq (.keep [0,1,4,7,8]<|.block 1<|.seq (.region [Mv 10 8,Mv 5 10])<|.seq (Zf7 [0,1,5,7,8,16] [Mv 11 1,Mv 12 0,Mv 13 5,Zfe 14 16 12 13,Zf9 15 16 14,o 16 (.callv true (.t 11) [(.t 15)])])<|.cond (.t 16) (.seq (.region [Mv 17 5,Mv 4 17])<|.ret) Zfa)<|.region [Bc 18 .add 8 1,Mv 8 18]
def c222L0:ACode:=.loop [0,1,7,8] c222L0b
def c222:ACode:=.seq (.region [Zf8 4 0])<|
.seq (.seq (Zf7 [0,1,7,8] [Mv 6 0,Zhy 7 1 6,Zf8 8 0])<|.keep [4]<|.block 0<|c222L0)<|
.seq (.region [Zf8 4 (-1)])<|
.ret
def a222:AFun:=⟨[.tmp 4],c222⟩
def c233L0b:ACode:=.keep [0,2,3,4,5,6,7]<|.seq (.seq (Zf7 [0,5,6,7,21] [Mv 18 7,Mv 19 0,Zhy 20 0 19,Bt 21 .lss 18 20])<|.cond (.t 21) Zfa (.exit 0))<|.seq (.keep [0,2,3,4,5,6,7]<|.block 1<|.seq (Zf7 [0,5,6,7,8,9,10] [Mv 25 7,Zfb 26 297 [(.t 5),(.t 25)],Mv 24 26,o 27 (.ext (.t 24) 0),o 28 (.ext (.t 24) 1),o 29 (.ext (.t 24) 2),o 8 (.box 4 (.c RY)),So 4 8 27,Mv 9 28,Mv 10 29])<|.seq (.seq (Zf7 [0,5,6,7,8,9,10,36] [Mv 30 10,Bc 31 .eql 30 0,Mv 32 31,Gm 33 6 32 true,og 34 (.len 1 (.t 33)) 32 true,Gc 35 .eql 34 5000 32 true,Zfd 36 32 35])<|.cond (.t 36) (.region [Zf8 10 2]) Zfa)<|.seq (.seq (.region [Mv 37 10,Bc 38 .neq 37 0])<|.cond (.t 38) (.seq (Zf7 [2,3,4] [Mv 39 10,Mv 40 7,o 2 (.mv (.c (.isl false false 4 []))),Mv 3 39,Mv 4 40])<|.ret) Zfa)<|.seq (Zf7 [0,5,6,9] [Mv 41 6,Zf9 42 4 8,o 43 (.bsl true false 4 RY 1 [(0,(.t 42))]),o 44 (.app false 4 40 (.t 41) (.t 43)),Mv 6 44])<|.region [Mv 45 9,Mv 7 45])<|Zf7 [0,5,6,7] [Mv 22 7,Zfb 23 296 [(.t 5),(.t 22)],Mv 7 23]
def c233L0:ACode:=.loop [0,5,6,7] c233L0b
def c233:ACode:=.seq (Zf7 [0] [o 2 (.mv (.c (.isl false false 4 []))),Zf8 3 0,Zf8 4 0])<|
.seq (.seq (Zf7 [0,13] [Mv 11 0,Zhy 12 0 11,Bc 13 .gtr 12 20000])<|.cond (.t 13) (.seq (Zf7 [2,3,4] [o 2 (.mv (.c (.isl false false 4 []))),Zf8 3 2,Zf8 4 (-1)])<|.ret) Zfa)<|
.seq (Zf7 [0,5] [Mv 14 0,Zfb 15 295 [],o 16 (.build [.str emp,Zty,Zty,Zty,Zty,Zty,Zty,Zty,Zty,Zty,Zty,Zty,Zty,Zty,Zty,Zty,Zty,Zty,Zty,Zty,Zty,Zty,Zty,Zty,Zty,Zty,Zty,Zty,Zty,Zty,Zty,Zty,Zty,Zty,Zty,Zty,Zty,Zty,Zty,Zty,Zty,Zty,Zty,Zty,Zty,Zty,Zty,Zty,Zty,Zty,Zty,Zty,Zty,Zty,Zty,Zty,Zty,Zty,Zty,Zty,Zty,Zty,Zty,Zty,Zty,Zty,Zty,Zty,Zty,Zty,Zty,Zty,Zty,Zty,Zty,Zty,Zty,Zty,Zty,Zty,Zty,Zty,Zty,Zty,Zty,Zty,Zty,Zty,Zty,Zty,Zty,Zty,Zty,Zty,Zty,Zty,Zty,Zty,Zty,Zty,Zty,Zty,Zty,Zty,Zty,Zty,Zty,Zty,Zty,Zty,Zty,Zty,Zty,Zty,Zty,Zty,Zty,Zty,Zty,Zty,Zty,Zty,Zty,Zty,Zty,Zty,Zty,Zty,Zty,Zty,Zty,Zty,Zty,Zty,Zty,Zty,Zty,Zty,Zty,Zty,Zty,Zty,Zty,Zty,Zty,Zty,Zty,Zty,Zty,Zty,Zty,Zty,Zty,Zty,Zty,Zty,Zty,Zty,Zty,Zty,Zty,Zty,Zty,Zty,Zty,Zty,Zty,Zty,Zty,Zty,Zty,Zty,Zty,Zty,Zty,Zty,Zty,Zty,Zty,Zty,Zty,Zty,Zty,Zty,Zty,Zty,Zty,Zty,Zty,Zty,Zty,Zty,Zty,Zty,Zty,Zty,Zty,Zty,Zty,Zty,Zty,Zty,Zty,Zty,Zty,Zty,Zty,Zty,Zty,Zty,Zty,Zty,Zty,Zty,Zty,Zty,Zty,Zty,Zty,Zty,Zty,Zty,Zty,Zty,Zty,Zty,Zty,Zty,Zty,Zty,Zty,Zty,Zty,Zty,Zty,Zty,Zty,Zty,Zty,Zty,Zty,Zty,Zty,Zty,Zty,Zty,Zty,Zty,Zty,Zty,Zty,Zty,Zty,Zty,Zty,Zty,.int .i64 0] [(0,1,(.t 14)),(1,256,(.t 15))]),o 5 (.box 257 (.c (.agg [.str emp,Zty,Zty,Zty,Zty,Zty,Zty,Zty,Zty,Zty,Zty,Zty,Zty,Zty,Zty,Zty,Zty,Zty,Zty,Zty,Zty,Zty,Zty,Zty,Zty,Zty,Zty,Zty,Zty,Zty,Zty,Zty,Zty,Zty,Zty,Zty,Zty,Zty,Zty,Zty,Zty,Zty,Zty,Zty,Zty,Zty,Zty,Zty,Zty,Zty,Zty,Zty,Zty,Zty,Zty,Zty,Zty,Zty,Zty,Zty,Zty,Zty,Zty,Zty,Zty,Zty,Zty,Zty,Zty,Zty,Zty,Zty,Zty,Zty,Zty,Zty,Zty,Zty,Zty,Zty,Zty,Zty,Zty,Zty,Zty,Zty,Zty,Zty,Zty,Zty,Zty,Zty,Zty,Zty,Zty,Zty,Zty,Zty,Zty,Zty,Zty,Zty,Zty,Zty,Zty,Zty,Zty,Zty,Zty,Zty,Zty,Zty,Zty,Zty,Zty,Zty,Zty,Zty,Zty,Zty,Zty,Zty,Zty,Zty,Zty,Zty,Zty,Zty,Zty,Zty,Zty,Zty,Zty,Zty,Zty,Zty,Zty,Zty,Zty,Zty,Zty,Zty,Zty,Zty,Zty,Zty,Zty,Zty,Zty,Zty,Zty,Zty,Zty,Zty,Zty,Zty,Zty,Zty,Zty,Zty,Zty,Zty,Zty,Zty,Zty,Zty,Zty,Zty,Zty,Zty,Zty,Zty,Zty,Zty,Zty,Zty,Zty,Zty,Zty,Zty,Zty,Zty,Zty,Zty,Zty,Zty,Zty,Zty,Zty,Zty,Zty,Zty,Zty,Zty,Zty,Zty,Zty,Zty,Zty,Zty,Zty,Zty,Zty,Zty,Zty,Zty,Zty,Zty,Zty,Zty,Zty,Zty,Zty,Zty,Zty,Zty,Zty,Zty,Zty,Zty,Zty,Zty,Zty,Zty,Zty,Zty,Zty,Zty,Zty,Zty,Zty,Zty,Zty,Zty,Zty,Zty,Zty,Zty,Zty,Zty,Zty,Zty,Zty,Zty,Zty,Zty,Zty,Zty,Zty,Zty,Zty,Zty,Zty,Zty,Zty,Zty,.int .i64 0]))),So 257 5 16])<|
.seq (.region [o 6 (.own 4)])<|
.seq (.seq (.region [Zfb 17 296 [(.t 5),(Ci 0)],Mv 7 17])<|.keep [2,3,4,6]<|.block 0<|c233L0)<|
.seq (Zf7 [2,3,4] [Mv 46 6,Mv 2 46,Zf8 3 0,Zf8 4 0])<|
.ret
def a233:AFun:=⟨[.tmp 2,.tmp 3,.tmp 4],c233⟩
def c234:ACode:=.seq (.region [Zfc 4])<|
.seq (Zf7 [4] [o 5 (.rel (.t 0)),Mv 6 1,Zfb 7 298 [(.t 5),(.t 6)],Bc 8 .geq 7 0,Mv 4 8])<|
.ret
def a234:AFun:=⟨[.tmp 4],c234⟩
def c235R0a:ACode:=.seq (.region [o 4 (.box 2 (.c Zr1)),So 2 4 8])<|.region [o 5 (.box 2 (.c Zr1)),So 2 5 9]
def c235R0b:ACode:=.keep []<|.block 1<|Zf7 [] [Ld 10 3,Fa 11 0 4,Ld 12 11,Fa 13 1 5,Ld 14 13,Bt 15 .mul 12 14,Fa 16 0 5,Ld 17 16,Fa 18 1 4,Ld 19 18,Bt 20 .mul 17 19,Bt 21 .sub 15 20,Bt 22 .add 10 21,So 1 3 22]
def c235:ACode:=.seq (.region [Zf8 2 0])<|
.seq (.region [o 3 (.box 1 (Ci 0)),⟨none,.store 1 (.t 3) (Ci 0),none⟩])<|
.seq (.seq (.region [o 6 (.rel (.t 0)),o 7 (.call false 299 [(.t 6)])])<|.keep [3]<|.block 0<|.rangeFunc (.t 7) [8,9] c235R0a c235R0b)<|
.seq (.region [Ld 23 3,Mv 2 23])<|
.ret
def a235:AFun:=⟨[.tmp 2],c235⟩
def c236L0b:ACode:=.keep [0,2,3,4,5,6,7,11,12]<|.seq (.seq (Zf7 [0,3,4,5,6,7,11,12,46] [Mv 39 7,Mv 40 3,Mv 41 4,Mv 42 3,Bt 43 .add 41 42,Bc 44 .sub 43 1,o 45 (.mm false (.t 40) (.t 44)),Bt 46 .lss 39 45])<|.cond (.t 46) Zfa (.exit 2))<|.seq (.keep [0,2,3,4,5,6,7,11,12]<|.block 3<|.seq (.keep [0,3,4,5,6,7,11,12,63]<|.draw [[],[],[],[],[],[],[],[],[],[],[],[],[]] [Zf9 49 2 5,Zf9 50 2 6,Mv 51 0,Mv 52 7,Zfe 53 2 51 52,Zf9 54 2 53,Mv 55 0,Mv 56 7,Bc 57 .add 56 1,Mv 58 3,Bt 59 .rem 57 58,Zfe 60 2 55 59,Zf9 61 2 60] [Zfb 62 301 [(.t 49),(.t 50),(.t 54),(.t 61)],Bc 63 .gtr 62 0])<|.cond (.t 63) (.seq (.region [Zfc 2])<|.ret) Zfa)<|Zf7 [0,3,4,5,6,7,11,12] [Mv 47 7,Bc 48 .add 47 1,Mv 7 48]
def c236L0:ACode:=.loop [0,3,4,5,6,7,11,12] c236L0b
def c236L1b:ACode:=.keep [0,2,3,11,12]<|.seq (.region [Bt 13 .lss 12 11])<|.seq (.cond (.t 13) Zfa (.exit 0))<|.seq (.keep [0,2,3,11,12]<|.block 1<|.seq (.region [Mv 14 12,Mv 4 14])<|.seq (.keep [0,3,4,5,6,11,12]<|.draw [[],[],[],[],[],[],[],[],[],[],[],[0,1,2,3,4,5,6,7,8,9,10],[0,1,2,3,4,5,6,7,8,9,10,11],[4,5,6,7,8,9,10]] [Mv 15 0,Mv 16 4,Zfe 17 2 15 16,Zf9 18 2 17,Mv 19 0,Mv 20 4,Bc 21 .add 20 1,Mv 22 3,Bt 23 .rem 21 22,Zfe 24 2 19 23,Zf9 25 2 24,o 5 (.box 2 (.c Zr1)),o 6 (.box 2 (.c Zr1)),So 2 5 18] [So 2 6 25])<|.seq (.seq (.keep [0,3,4,5,6,11,12,36]<|.draw [[],[],[],[],[],[],[],[],[]] [Zf9 26 2 5,Zf9 27 2 6,Mv 28 0,Mv 29 4,Bc 30 .add 29 2,Mv 31 3,Bt 32 .rem 30 31,Zfe 33 2 28 32,Zf9 34 2 33] [Zfb 35 300 [(.t 26),(.t 27),(.t 34)],Bc 36 .eql 35 0])<|.cond (.t 36) (.seq (.region [Zfc 2])<|.ret) Zfa)<|.seq (Zf7 [0,3,4,5,6,7,11,12] [Mv 37 4,Bc 38 .add 37 2,Mv 7 38])<|.keep [0,2,3,11,12]<|.block 2<|c236L0)<|.region [Bc 64 .add 12 1,Mv 12 64]
def c236L1:ACode:=.loop [0,3,11,12] c236L1b
def c236:ACode:=.seq (.region [Zfc 2])<|
.seq (Zf7 [0,3] [Mv 8 0,Zhy 9 1 8,Mv 3 9])<|
.seq (.seq (Zf7 [0,3,11,12] [Mv 10 0,Zhy 11 1 10,Zf8 12 0])<|.keep [2]<|.block 0<|c236L1)<|
.seq (.region [o 2 (.mv cT)])<|
.ret
def a236:AFun:=⟨[.tmp 2],c236⟩
def c237R0a:ACode:=.seq (.region [o 6 (.box 2 (.c Zr1)),So 2 6 15])<|.region [o 7 (.box 2 (.c Zr1)),So 2 7 16]
def c237R0b:ACode:=.keep []<|.block 1<|.seq (.keep [4,5,8,9,10,11]<|.draw [[],[],[],[],[],[],[],[],[],[],[],[],[],[],[],[],[],[],[],[],[],[],[],[],[],[],[]] [Fa 17 0 6,Ld 18 17,o 19 (.bin .mul (Ci 2) (.t 18)),Fa 20 0 3,Ld 21 20,Bt 22 .sub 19 21,Fa 23 1 6,Ld 24 23,o 25 (.bin .mul (Ci 2) (.t 24)),Fa 26 1 3,Ld 27 26,Bt 28 .sub 25 27,Fa 29 0 7,Ld 30 29,o 31 (.bin .mul (Ci 2) (.t 30)),Fa 32 0 3,Ld 33 32,Bt 34 .sub 31 33,Fa 35 1 7,Ld 36 35,o 37 (.bin .mul (Ci 2) (.t 36)),Fa 38 1 3,Ld 39 38,Bt 40 .sub 37 39,Mv 8 22,Mv 9 28,Mv 10 34] [Mv 11 40])<|.seq (Zf7 [4,5,8,9,10,11,12] [Mv 41 8,Mv 42 11,Bt 43 .mul 41 42,Mv 44 9,Mv 45 10,Bt 46 .mul 44 45,Bt 47 .sub 43 46,Mv 12 47])<|.seq (Zf7 [4,9,11,12] [Ld 48 5,Mv 49 48,Gm 50 12 49 false,Gc 51 .eql 50 0 49 false,Gm 52 51 49 false,Gm 53 8 52 true,Gm 54 10 52 true,Gt 55 .mul 53 54 52 true,Gm 56 9 52 true,Gm 57 11 52 true,Gt 58 .mul 56 57 52 true,Gt 59 .add 55 58 52 true,Gc 60 .leq 59 0 52 true,og 61 (.pick (.t 52) (.t 60) cF) 49 false,Pk 62 49 61,So 1 5 62])<|.keep []<|.block 2<|.seq (Zf7 [4,9,11,12,63] [Mv 64 9,Bc 65 .leq 64 0,Mv 66 65,Gm 67 11 66 true,Gc 68 .gtr 67 0 66 true,Zfd 69 66 68,Mv 70 69,Gm 71 12 70 true,Gc 72 .gtr 71 0 70 true,Zfd 73 70 72,Mv 63 73])<|.cond (.t 63) (Zf7 [] [Ld 74 4,Bc 75 .add 74 1,So 1 4 75]) (.seq (Zf7 [4,76] [Mv 77 9,Bc 78 .gtr 77 0,Mv 79 78,Gm 80 11 79 true,Gc 81 .leq 80 0 79 true,Zfd 82 79 81,Mv 83 82,Gm 84 12 83 true,Gc 85 .lss 84 0 83 true,Zfd 86 83 85,Mv 76 86])<|.cond (.t 76) (Zf7 [] [Ld 87 4,Bc 88 .sub 87 1,So 1 4 88]) Zfa)
def c237:ACode:=.seq (Zf7 [0,3,4,5] [Zff 3 2 1,o 4 (.box 1 (Ci 0)),o 5 (.box 1 cF)])<|
.seq (.seq (.region [o 13 (.rel (.t 0)),o 14 (.call false 299 [(.t 13)])])<|.keep [4,5]<|.block 0<|.rangeFunc (.t 14) [15,16] c237R0a c237R0b)<|
.seq (.keep [4,5]<|.draw [[],[],[1]] [Ld 89 4,Ld 90 5,So 1 4 89] [So 1 5 90])<|
.ret
def a237:AFun:=⟨[.cell 4 none,.cell 5 none],c237⟩
def c243L0b:ACode:=.keep [0,1,3]<|.seq (.seq (.region [Mv 7 3,Bc 8 .geq 7 0])<|.cond (.t 8) Zfa (.exit 0))<|.seq (.keep [0,1,3]<|.block 1<|.seq (Zf7 [0,1,3,18] [Mv 11 0,Mv 12 3,Ld 13 1,Mv 14 3,Zfe 15 2 13 14,Zf9 16 2 15,o 17 (.callv false (.t 11) [(.t 12),(.t 16)]),o 18 (.un .not (.t 17))])<|.cond (.t 18) (.ret) Zfa)<|Zf7 [0,1,3] [Mv 9 3,Bc 10 .sub 9 1,Mv 3 10]
def c243L0:ACode:=.loop [0,1,3] c243L0b
def c243:ACode:=.seq (Zf7 [0,1,3] [Ld 4 1,Zhy 5 1 4,Bc 6 .sub 5 1,Mv 3 6])<|
.keep []<|.block 0<|c243L0
def a243:AFun:=⟨[],c243⟩
def c244:ACode:=.seq (.region [Zfc 3])<|
.seq (Zf7 [3] [o 4 (.rel (.t 0)),Fa 5 0 1,Ld 6 5,Zfb 7 144 [(.t 4),(.t 6)],Mv 3 7])<|
.ret
def a244:AFun:=⟨[.tmp 3],c244⟩
def c245L0b:ACode:=.keep [0,1,2,3,4,20,21,22]<|.seq (.region [Bt 23 .lss 22 21])<|.seq (.cond (.t 23) Zfa (.exit 0))<|.seq (.keep [0,1,2,3,4,20,21,22]<|.block 1<|.seq (Zf7 [0,1,2,3,4,7,20,21,22] [Zfe 24 6 20 22,Zf9 25 6 24,o 7 (.box 6 (.c Zr3)),So 6 7 25])<|.seq (Zf7 [0,1,2,3,4,20,21,22,42] [Ld 26 2,o 27 (.bsl true false 1 (.int .i64 0) 3 [(0,(Ci 1)),(1,(Ci 3)),(2,(Ci 12))]),o 28 (.callv true (.t 26) [(.t 27)]),Mv 29 28,Ga 30 0 7 29 true,Gl 31 30 29 true,Ga 32 5 3 29 true,Gl 33 32 29 true,Gt 34 .eql 31 33 29 true,Zfd 35 29 34,Mv 36 35,Gm 37 0 36 true,Ga 38 2 7 36 true,Gl 39 38 36 true,og 40 (.callv false (.t 37) [(.t 39)]) 36 true,og 41 (.un .not (.t 40)) 36 true,Zfd 42 36 41])<|.cond (.t 42) (.ret) Zfa)<|.region [Bc 43 .add 22 1,Mv 22 43]
def c245L0:ACode:=.loop [0,1,2,3,4,20,21,22] c245L0b
def c245L1b:ACode:=.keep [0,1,2,3,4,48,49,50]<|.seq (.region [Bt 51 .lss 50 49])<|.seq (.cond (.t 51) Zfa (.exit 2))<|.seq (.keep [0,1,2,3,4,48,49,50]<|.block 3<|.seq (Zf7 [0,1,2,3,4,9,48,49,50] [Zfe 52 5 48 50,Zf9 53 5 52,o 9 (.box 5 (.c Zr7)),So 5 9 53])<|.seq (Zf7 [0,1,2,3,4,9,10,48,49,50] [Ld 54 2,o 55 (.bsl true false 1 (.int .i64 0) 4 [(0,(Ci 3)),(1,(Ci 4)),(2,(Ci 8)),(3,(Ci 12))]),o 56 (.callv true (.t 54) [(.t 55)]),Mv 57 56,Ga 58 0 9 57 true,Gl 59 58 57 true,Ga 60 5 3 57 true,Gl 61 60 57 true,Gt 62 .eql 59 61 57 true,Zfd 63 57 62,Mv 10 63])<|.seq (Zf7 [0,1,2,3,4,9,10,11,48,49,50] [Ld 64 2,o 65 (.bsl true false 1 (.int .i64 0) 1 [(0,(Ci 4))]),o 66 (.callv true (.t 64) [(.t 65)]),Mv 67 66,Ga 68 0 9 67 true,Gl 69 68 67 true,Ga 70 6 3 67 true,Gl 71 70 67 true,Gt 72 .eql 69 71 67 true,Zfd 73 67 72,Mv 74 73,Gl 75 2 74 false,og 76 (.bsl true false 1 (.int .i64 0) 1 [(0,(Ci 6))]) 74 false,og 77 (.callv true (.t 75) [(.t 76)]) 74 false,Gm 78 77 74 false,Ga 79 0 9 78 true,Gl 80 79 78 true,Ga 81 7 3 78 true,Gl 82 81 78 true,Gt 83 .eql 80 82 78 true,og 84 (.pick (.t 78) (.t 83) cF) 74 false,Pk 85 74 84,Mv 11 85])<|.seq (Zf7 [0,1,2,3,4,48,49,50,96] [Mv 86 10,Mv 87 86,Gm 88 11 87 false,Pk 89 87 88,Mv 90 89,Gm 91 0 90 true,Ga 92 1 9 90 true,Gl 93 92 90 true,og 94 (.callv false (.t 91) [(.t 93)]) 90 true,og 95 (.un .not (.t 94)) 90 true,Zfd 96 90 95])<|.cond (.t 96) (.ret) Zfa)<|.region [Bc 97 .add 50 1,Mv 50 97]
def c245L1:ACode:=.loop [0,1,2,3,4,48,49,50] c245L1b
def c245L2b:ACode:=.keep [0,1,2,3,4,102,103,104]<|.seq (.region [Bt 105 .lss 104 103])<|.seq (.cond (.t 105) Zfa (.exit 4))<|.seq (.keep [0,1,2,3,4,102,103,104]<|.block 5<|.seq (Zf7 [0,1,2,3,4,13,102,103,104] [Zfe 106 4 102 104,Zf9 107 4 106,o 13 (.box 4 (.c Zr9)),So 4 13 107])<|.seq (Zf7 [0,1,2,3,4,102,103,104,136] [Ld 108 2,o 109 (.bsl true false 1 (.int .i64 0) 1 [(0,(Ci 11))]),o 110 (.callv true (.t 108) [(.t 109)]),Mv 111 110,Ga 112 0 13 111 true,Gl 113 112 111 true,Ga 114 5 3 111 true,Gl 115 114 111 true,Gt 116 .eql 113 115 111 true,Zfd 117 111 116,Mv 118 117,Gl 119 2 118 false,og 120 (.bsl true false 1 (.int .i64 0) 1 [(0,(Ci 6))]) 118 false,og 121 (.callv true (.t 119) [(.t 120)]) 118 false,Gm 122 121 118 false,Ga 123 0 13 122 true,Gl 124 123 122 true,Ga 125 6 3 122 true,Gl 126 125 122 true,Gt 127 .eql 124 126 122 true,og 128 (.pick (.t 122) (.t 127) cF) 118 false,Pk 129 118 128,Mv 130 129,Gm 131 0 130 true,Ga 132 1 13 130 true,Gl 133 132 130 true,og 134 (.callv false (.t 131) [(.t 133)]) 130 true,og 135 (.un .not (.t 134)) 130 true,Zfd 136 130 135])<|.cond (.t 136) (.ret) Zfa)<|.region [Bc 137 .add 104 1,Mv 104 137]
def c245L2:ACode:=.loop [0,1,2,3,4,102,103,104] c245L2b
def c245L3b:ACode:=.keep [0,4,142,143,144]<|.seq (.region [Bt 145 .lss 144 143])<|.seq (.cond (.t 145) Zfa (.exit 6))<|.seq (.keep [0,4,142,143,144]<|.block 7<|.seq (Zf7 [0,4,15,142,143,144] [Zfe 146 16 142 144,Zf9 147 16 146,o 15 (.box 16 (.c Zr2)),So 16 15 147])<|.seq (Zf7 [0,4,142,143,144,158] [Ld 148 4,Fa 149 0 15,Ld 150 149,Zfb 151 246 [(.t 148),(.t 150)],Mv 152 151,Gm 153 0 152 true,Ga 154 3 15 152 true,Gl 155 154 152 true,og 156 (.callv false (.t 153) [(.t 155)]) 152 true,og 157 (.un .not (.t 156)) 152 true,Zfd 158 152 157])<|.cond (.t 158) (.ret) Zfa)<|.region [Bc 159 .add 144 1,Mv 144 159]
def c245L3:ACode:=.loop [0,4,142,143,144] c245L3b
def c245:ACode:=.seq (.seq (Zf7 [0,1,2,3,4,20,21,22] [Ld 16 1,Nk 17 16,Fa 18 0 17,Fa 19 0 18,Ld 20 19,Zhy 21 1 20,Zf8 22 0])<|.keep [0,1,2,3,4]<|.block 0<|c245L0)<|
.seq (.seq (Zf7 [0,1,2,3,4,48,49,50] [Ld 44 1,Nk 45 44,Fa 46 0 45,Fa 47 1 46,Ld 48 47,Zhy 49 1 48,Zf8 50 0])<|.keep [0,1,2,3,4]<|.block 2<|c245L1)<|
.seq (.seq (Zf7 [0,1,2,3,4,102,103,104] [Ld 98 1,Nk 99 98,Fa 100 0 99,Fa 101 2 100,Ld 102 101,Zhy 103 1 102,Zf8 104 0])<|.keep [0,1,4]<|.block 4<|c245L2)<|
.seq (Zf7 [0,4,142,143,144] [Ld 138 1,Nk 139 138,Fa 140 0 139,Fa 141 3 140,Ld 142 141,Zhy 143 1 142,Zf8 144 0])<|
.keep []<|.block 6<|c245L3
def a245:AFun:=⟨[],c245⟩
def c246:ACode:=.seq (.region [Zfc 4])<|
.seq (Zf7 [4] [o 5 (.rel (.t 0)),Mv 6 1,Zfb 7 305 [(.t 5),(.t 6)],Bc 8 .geq 7 0,Mv 4 8])<|
.ret
def a246:AFun:=⟨[.tmp 4],c246⟩
def c247L0b:ACode:=.keep [0,1,4,7,8]<|.seq (.region [Bt 9 .lss 8 7])<|.seq (.cond (.t 9) Zfa (.exit 0))<|.seq (.keep [0,1,4,7,8]<|.block 1<|.seq (.region [Mv 10 8,Mv 5 10])<|.seq (Zf7 [0,1,5,7,8,16] [Mv 11 1,Mv 12 0,Mv 13 5,Zfe 14 6 12 13,Zf9 15 6 14,o 16 (.callv true (.t 11) [(.t 15)])])<|.cond (.t 16) (.seq (.region [Mv 17 5,Mv 4 17])<|.ret) Zfa)<|.region [Bc 18 .add 8 1,Mv 8 18]
def c247L0:ACode:=.loop [0,1,7,8] c247L0b
def c247:ACode:=.seq (.region [Zf8 4 0])<|
.seq (.seq (Zf7 [0,1,7,8] [Mv 6 0,Zhy 7 1 6,Zf8 8 0])<|.keep [4]<|.block 0<|c247L0)<|
.seq (.region [Zf8 4 (-1)])<|
.ret
def a247:AFun:=⟨[.tmp 4],c247⟩
def c248L0b:ACode:=.keep [0,1,4,7,8]<|.seq (.region [Bt 9 .lss 8 7])<|.seq (.cond (.t 9) Zfa (.exit 0))<|.seq (.keep [0,1,4,7,8]<|.block 1<|.seq (.region [Mv 10 8,Mv 5 10])<|.seq (Zf7 [0,1,5,7,8,16] [Mv 11 1,Mv 12 0,Mv 13 5,Zfe 14 1 12 13,Ld 15 14,Bt 16 .eql 11 15])<|.cond (.t 16) (.seq (.region [Mv 17 5,Mv 4 17])<|.ret) Zfa)<|.region [Bc 18 .add 8 1,Mv 8 18]
def c248L0:ACode:=.loop [0,1,7,8] c248L0b
def c248:ACode:=.seq (.region [Zf8 4 0])<|
.seq (.seq (Zf7 [0,1,7,8] [Mv 6 0,Zhy 7 1 6,Zf8 8 0])<|.keep [4]<|.block 0<|c248L0)<|
.seq (.region [Zf8 4 (-1)])<|
.ret
def a248:AFun:=⟨[.tmp 4],c248⟩
def c249L0b:ACode:=.keep [0,1,4,7,8]<|.seq (.region [Bt 9 .lss 8 7])<|.seq (.cond (.t 9) Zfa (.exit 0))<|.seq (.keep [0,1,4,7,8]<|.block 1<|.seq (.region [Mv 10 8,Mv 5 10])<|.seq (Zf7 [0,1,5,7,8,16] [Mv 11 1,Mv 12 0,Mv 13 5,Zfe 14 1 12 13,Ld 15 14,o 16 (.callv true (.t 11) [(.t 15)])])<|.cond (.t 16) (.seq (.region [Mv 17 5,Mv 4 17])<|.ret) Zfa)<|.region [Bc 18 .add 8 1,Mv 8 18]
def c249L0:ACode:=.loop [0,1,7,8] c249L0b
def c249:ACode:=.seq (.region [Zf8 4 0])<|
.seq (.seq (Zf7 [0,1,7,8] [Mv 6 0,Zhy 7 1 6,Zf8 8 0])<|.keep [4]<|.block 0<|c249L0)<|
.seq (.region [Zf8 4 (-1)])<|
.ret
def a249:AFun:=⟨[.tmp 4],c249⟩
def c261:ACode:=.seq (.region [Zf8 4 0])<|
.seq (Zf7 [4] [o 5 (.rel (.t 0)),Mv 6 1,Zfb 7 309 [(.t 5),(.t 6)],Mv 4 7])<|
.ret
def a261:AFun:=⟨[.tmp 4],c261⟩
def c262:ACode:=.seq (.region [Zff 2 4 0,Zfc 3])<|
.seq (Zf7 [3] [Fa 4 0 2,Ld 5 4,Ld 6 1,Bt 7 .eql 5 6,Mv 3 7])<|
.ret
def a262:AFun:=⟨[.tmp 3],c262⟩
def c263:ACode:=.seq (.region [Zf8 4 0])<|
.seq (Zf7 [4] [o 5 (.rel (.t 0)),Mv 6 1,Zfb 7 310 [(.t 5),(.t 6)],Mv 4 7])<|
.ret
def a263:AFun:=⟨[.tmp 4],c263⟩
def c264:ACode:=.seq (.region [Zff 2 5 0,Zfc 3])<|
.seq (Zf7 [3] [Fa 4 0 2,Ld 5 4,Ld 6 1,Bt 7 .eql 5 6,Mv 3 7])<|
.ret
def a264:AFun:=⟨[.tmp 3],c264⟩
def c267:ACode:=.seq (.region [Zf8 4 0])<|
.seq (Zf7 [4] [o 5 (.rel (.t 0)),Mv 6 1,Zfb 7 322 [(.t 5),(.t 6)],Mv 4 7])<|
.ret
def a267:AFun:=⟨[.tmp 4],c267⟩
def c268:ACode:=.seq (.region [Zff 2 2 0,Zfc 3])<|
.seq (Zf7 [3] [o 4 (.aadr 1 2 (.t 2) (Ci 1)),Ld 5 4,Ld 6 1,Bt 7 .eql 5 6,Mv 3 7])<|
.ret
def a268:AFun:=⟨[.tmp 3],c268⟩
def c269:ACode:=.seq (.region [Zfc 2])<|
.seq (Zf7 [2] [Mv 3 0,Zhy 4 0 3,Bc 5 .leq 4 60,Mv 6 5,Gm 7 0 6 true,og 8 (.call true 323 [(.t 7),(.c (.str (B [32])))]) 6 true,og 9 (.call true 272 [(.t 8),(.f 324)]) 6 true,og 10 (.un .not (.t 9)) 6 true,Zfd 11 6 10,Mv 2 11])<|
.ret
def a269:AFun:=⟨[.tmp 2],c269⟩
def c270L0b:ACode:=.keep [0,3,7,8,9]<|.seq (.region [Bt 10 .lss 9 8])<|.seq (.cond (.t 10) Zfa (.exit 0))<|.seq (.keep [0,3,7,8,9]<|.block 1<|.seq (Zf7 [0,3,5,7,8,9] [Zfe 11 3 7 9,Zf9 12 3 11,o 5 (.box 3 (.c RX)),So 3 5 12])<|Zf7 [0,3,7,8,9] [Mv 13 3,Zf9 14 3 5,⟨none,.mupd true [2,1,2] (.t 13) (.t 14) cT,none⟩])<|.region [Bc 15 .add 9 1,Mv 9 15]
def c270L0:ACode:=.loop [0,3,7,8,9] c270L0b
def c270:ACode:=.seq (.region [Zfc 2])<|
.seq (.region [o 6 (.mkm),Mv 3 6])<|
.seq (.seq (Zf7 [0,3,7,8,9] [Mv 7 0,Zhy 8 1 7,Zf8 9 0])<|.keep [0,3]<|.block 0<|c270L0)<|
.seq (Zf7 [2] [Mv 16 3,Zhy 17 2 16,Mv 18 0,Zhy 19 1 18,Bt 20 .eql 17 19,Mv 2 20])<|
.ret
def a270:AFun:=⟨[.tmp 2],c270⟩
def c271L0b:ACode:=.keep [0,3,7,8,9]<|.seq (.region [Bt 10 .lss 9 8])<|.seq (.cond (.t 10) Zfa (.exit 0))<|.seq (.keep [0,3,7,8,9]<|.block 1<|.seq (Zf7 [0,3,5,7,8,9] [Zfe 11 1 7 9,Ld 12 11,Mv 5 12])<|Zf7 [0,3,7,8,9] [Mv 13 3,Mv 14 5,⟨none,.mupd false [2] (.t 13) (.t 14) cT,none⟩])<|.region [Bc 15 .add 9 1,Mv 9 15]
def c271L0:ACode:=.loop [0,3,7,8,9] c271L0b
def c271:ACode:=.seq (.region [Zfc 2])<|
.seq (.region [o 6 (.mkm),Mv 3 6])<|
.seq (.seq (Zf7 [0,3,7,8,9] [Mv 7 0,Zhy 8 1 7,Zf8 9 0])<|.keep [0,3]<|.block 0<|c271L0)<|
.seq (Zf7 [2] [Mv 16 3,Zhy 17 2 16,Mv 18 0,Zhy 19 1 18,Bt 20 .eql 17 19,Mv 2 20])<|
.ret
def a271:AFun:=⟨[.tmp 2],c271⟩
def c272:ACode:=.seq (.region [Zfc 4])<|
.seq (Zf7 [4] [o 5 (.rel (.t 0)),Mv 6 1,Zfb 7 325 [(.t 5),(.t 6)],Bc 8 .geq 7 0,Mv 4 8])<|
.ret
def a272:AFun:=⟨[.tmp 4],c272⟩
def c273:ACode:=.seq (.region [Zfc 2])<|
.seq (Zf7 [2] [Mv 3 0,Zfb 4 170 [(.t 3)],o 5 (.un .not (.t 4)),Mv 2 5])<|
.ret
def a273:AFun:=⟨[.tmp 2],c273⟩
def c274:ACode:=.seq (.region [Zfc 2])<|
.seq (Zf7 [2] [Mv 3 0,o 4 (.bin .eql (.t 3) (.c (.str emp))),Mv 5 4,Gm 6 0 5 false,og 7 (.len 0 (.t 6)) 5 false,Gc 8 .eql 7 1 5 false,Gm 9 8 5 false,Gm 10 0 9 true,og 11 (.sidx (.t 10) (Ci 0)) 9 true,og 12 (.bin .geq (.t 11) (.c (.int .u8 97))) 9 true,og 13 (.pick (.t 9) (.t 12) cF) 5 false,Gm 14 13 5 false,Gm 15 0 14 true,og 16 (.sidx (.t 15) (Ci 0)) 14 true,og 17 (.bin .leq (.t 16) (.c (.int .u8 122))) 14 true,og 18 (.pick (.t 14) (.t 17) cF) 5 false,Pk 19 5 18,Mv 2 19])<|
.ret
def a274:AFun:=⟨[.tmp 2],c274⟩
def c275L0b:ACode:=.keep [0,1,4,7,8]<|.seq (.region [Bc 9 .lss 8 28])<|.seq (.cond (.t 9) Zfa (.exit 0))<|.seq (.keep [0,1,4,7,8]<|.block 1<|.seq (Zf7 [0,1,5,6,7,8] [Mv 10 8,o 11 (.aidx (some 2) 2 28 (.t 7) (.t 8)),o 6 (.box 2 (.c Zr1)),Mv 5 10,So 2 6 11])<|.seq (Zf7 [0,1,5,7,8,16] [Zf9 12 2 6,Mv 13 0,Mv 14 1,o 15 (.build [.int .i64 0,.int .i64 0] [(0,1,(.t 13)),(1,1,(.t 14))]),o 16 (.eqv false true [1,1] (.t 12) (.t 15))])<|.cond (.t 16) (.seq (.region [Mv 17 5,Mv 4 17])<|.ret) Zfa)<|.region [Bc 18 .add 8 1,Mv 8 18]
def c275L0:ACode:=.loop [0,1,7,8] c275L0b
def c275:ACode:=.seq (.region [Zf8 4 0])<|
.seq (.seq (.region [Zfb 7 326 [],Zf8 8 0])<|.keep [4]<|.block 0<|c275L0)<|
.seq (.region [Zf8 4 (-1)])<|
.ret
def a275:AFun:=⟨[.tmp 4],c275⟩
def c276:ACode:=.seq (.region [Zfc 2])<|
.seq (Zf7 [2] [Mv 3 0,o 4 (.bin .lss (.t 3) (.c (.int .i32 33))),Mv 5 4,Gm 6 0 5 false,og 7 (.bin .gtr (.t 6) (.c (.int .i32 126))) 5 false,Pk 8 5 7,Mv 9 8,Gm 10 0 9 false,og 11 (.bin .eql (.t 10) (.c (.int .i32 34))) 9 false,Pk 12 9 11,Mv 2 12])<|
.ret
def a276:AFun:=⟨[.tmp 2],c276⟩
def c277:ACode:=.seq (.region [Zfc 4])<|
.seq (Zf7 [4] [Mv 5 0,Mv 6 1,Zfb 7 327 [(.t 5),(.t 6)],Bc 8 .geq 7 0,Mv 4 8])<|
.ret
def a277:AFun:=⟨[.tmp 4],c277⟩
def c278L0b:ACode:=.keep [0,3,7,8,9]<|.seq (.region [Bt 10 .lss 9 8])<|.seq (.cond (.t 10) Zfa (.exit 0))<|.seq (.keep [0,3,7,8,9]<|.block 1<|.seq (Zf7 [0,3,5,7,8,9] [Zfe 11 4 7 9,Zf9 12 4 11,o 5 (.box 4 (.c (.agg [.int .i64 0,.str emp,.int .i64 0,.int .i64 0]))),So 4 5 12])<|Zf7 [0,3,7,8,9] [Mv 13 3,Zf9 14 4 5,⟨none,.mupd true [1,2,1,1] (.t 13) (.t 14) cT,none⟩])<|.region [Bc 15 .add 9 1,Mv 9 15]
def c278L0:ACode:=.loop [0,3,7,8,9] c278L0b
def c278:ACode:=.seq (.region [Zfc 2])<|
.seq (.region [o 6 (.mkm),Mv 3 6])<|
.seq (.seq (Zf7 [0,3,7,8,9] [Mv 7 0,Zhy 8 1 7,Zf8 9 0])<|.keep [0,3]<|.block 0<|c278L0)<|
.seq (Zf7 [2] [Mv 16 3,Zhy 17 2 16,Mv 18 0,Zhy 19 1 18,Bt 20 .eql 17 19,Mv 2 20])<|
.ret
def a278:AFun:=⟨[.tmp 2],c278⟩
def c279:ACode:=.seq (.region [Zff 2 7 0,Zfc 3])<|
.seq (Zf7 [3] [Fa 4 5 2,Zf9 5 2 4,Zfb 6 61 [(.t 5)],o 7 (.un .not (.t 6)),Mv 8 7,Gl 9 1 8 false,Gm 10 9 8 false,Ga 11 5 2 10 true,og 12 (.load (some 2) (.t 11)) 10 true,og 13 (.build [.int .i64 0,.int .i64 0] []) 10 true,og 14 (.eqv true true [1,1] (.t 12) (.t 13)) 10 true,og 15 (.pick (.t 10) (.t 14) cF) 8 false,Pk 16 8 15,Mv 3 16])<|
.ret
def a279:AFun:=⟨[.tmp 3],c279⟩
def c280:ACode:=.seq (.region [Zfc 2])<|
.seq (Zf7 [2] [Mv 3 0,o 4 (.bin .lss (.t 3) (.c (.int .i32 48))),Mv 5 4,Gm 6 0 5 false,og 7 (.bin .gtr (.t 6) (.c (.int .i32 57))) 5 false,Pk 8 5 7,Mv 9 8,Gm 10 0 9 true,og 11 (.bin .lss (.t 10) (.c (.int .i32 97))) 9 true,Gm 12 11 9 true,Gm 13 0 12 false,og 14 (.bin .gtr (.t 13) (.c (.int .i32 122))) 12 false,og 15 (.pick (.t 12) cT (.t 14)) 9 true,Zfd 16 9 15,Mv 17 16,Gm 18 0 17 true,og 19 (.bin .lss (.t 18) (.c (.int .i32 65))) 17 true,Gm 20 19 17 true,Gm 21 0 20 false,og 22 (.bin .gtr (.t 21) (.c (.int .i32 90))) 20 false,og 23 (.pick (.t 20) cT (.t 22)) 17 true,Zfd 24 17 23,Mv 2 24])<|
.ret
def a280:AFun:=⟨[.tmp 2],c280⟩
def c281:ACode:=.seq (.region [Zf8 4 0])<|
.seq (Zf7 [4] [o 5 (.rel (.t 0)),Mv 6 1,Zfb 7 247 [(.t 5),(.t 6)],Mv 4 7])<|
.ret
def a281:AFun:=⟨[.tmp 4],c281⟩
def c282:ACode:=.seq (.region [Zff 2 6 0,Zfc 3])<|
.seq (Zf7 [3] [Fa 4 0 2,Ld 5 4,Ld 6 1,Bt 7 .eql 5 6,Mv 3 7])<|
.ret
def a282:AFun:=⟨[.tmp 3],c282⟩
def c285:ACode:=.seq (.region [o 2 (.mv (.c (.isl false false 16 [])))])<|
.seq (Zf7 [2] [Mv 3 0,Mv 4 0,Zhy 5 1 4,Mv 6 0,Zhy 7 1 6,o 8 (.slc 16 (.t 3) none (some (.t 5)) (some (.t 7))),Mv 2 8])<|
.ret
def a285:AFun:=⟨[.tmp 2],c285⟩
def c286L0b:ACode:=.keep [0,1,4,7,8]<|.seq (.region [Bt 9 .lss 8 7])<|.seq (.cond (.t 9) Zfa (.exit 0))<|.seq (.keep [0,1,4,7,8]<|.block 1<|.seq (.region [Mv 10 8,Mv 5 10])<|.seq (Zf7 [0,1,5,7,8,16] [Mv 11 1,Mv 12 0,Mv 13 5,Zfe 14 7 12 13,Zf9 15 7 14,o 16 (.callv true (.t 11) [(.t 15)])])<|.cond (.t 16) (.seq (.region [Mv 17 5,Mv 4 17])<|.ret) Zfa)<|.region [Bc 18 .add 8 1,Mv 8 18]
def c286L0:ACode:=.loop [0,1,7,8] c286L0b
def c286:ACode:=.seq (.region [Zf8 4 0])<|
.seq (.seq (Zf7 [0,1,7,8] [Mv 6 0,Zhy 7 1 6,Zf8 8 0])<|.keep [4]<|.block 0<|c286L0)<|
.seq (.region [Zf8 4 (-1)])<|
.ret
def a286:AFun:=⟨[.tmp 4],c286⟩
def c288:ACode:=.keep []<|.draw [[],[],[],[],[],[],[],[],[],[],[],[],[],[],[],[],[1,2,13],[],[],[2,13]] [Mv 4 0,Mv 5 0,Mv 6 0,Ld 7 1,Nk 8 7,Fa 9 8 8,Fa 10 1 9,Ld 11 10,Ld 12 1,Nk 13 12,Fa 14 8 13,Fa 15 0 14,Ld 16 15,Ld 17 2,Nk 18 4,Fa 19 11 18,So 1 19 11,Nk 20 5,Fa 21 13 20,So 1 21 16] [Nk 22 6,Fa 23 12 22,So 1 23 17]
def a288:AFun:=⟨[],c288⟩
def c289:ACode:=.seq (Zf7 [0,1,2,6] [Ld 4 1,Zhy 5 1 4,Bc 6 .gtr 5 0])<|
.cond (.t 6) (Zf7 [] [Mv 7 0,Ld 8 1,o 9 (.iadr 1 (.t 8) (Ci 0)),Ld 10 9,Nk 11 7,Fa 12 1 11,So 1 12 10]) (.keep []<|.draw [[],[],[],[],[],[],[],[],[],[],[],[],[],[],[1]] [Mv 13 0,Mv 14 0,Ld 15 2,Nk 16 15,Fa 17 8 16,Fa 18 1 17,Ld 19 18,Ld 20 2,Nk 21 20,Fa 22 8 21,Fa 23 0 22,Ld 24 23,Nk 25 13,Fa 26 4 25,So 1 26 19] [Nk 27 14,Fa 28 5 27,So 1 28 24])
def a289:AFun:=⟨[],c289⟩
def c291:ACode:=.seq (.region [Zf8 4 0])<|
.seq (Zf7 [4] [o 5 (.rel (.t 0)),Mv 6 1,Zfb 7 328 [(.t 5),(.t 6)],Mv 4 7])<|
.ret
def a291:AFun:=⟨[.tmp 4],c291⟩
def c292:ACode:=.seq (.region [Zff 2 6 0,Zfc 3])<|
.seq (Zf7 [3] [Fa 4 0 2,Ld 5 4,Ld 6 1,Bt 7 .eql 5 6,Mv 3 7])<|
.ret
def a292:AFun:=⟨[.tmp 3],c292⟩
def c295:ACode:=.seq (.region [o 0 (.box 256 (.c (.agg [Zty,Zty,Zty,Zty,Zty,Zty,Zty,Zty,Zty,Zty,Zty,Zty,Zty,Zty,Zty,Zty,Zty,Zty,Zty,Zty,Zty,Zty,Zty,Zty,Zty,Zty,Zty,Zty,Zty,Zty,Zty,Zty,Zty,Zty,Zty,Zty,Zty,Zty,Zty,Zty,Zty,Zty,Zty,Zty,Zty,Zty,Zty,Zty,Zty,Zty,Zty,Zty,Zty,Zty,Zty,Zty,Zty,Zty,Zty,Zty,Zty,Zty,Zty,Zty,Zty,Zty,Zty,Zty,Zty,Zty,Zty,Zty,Zty,Zty,Zty,Zty,Zty,Zty,Zty,Zty,Zty,Zty,Zty,Zty,Zty,Zty,Zty,Zty,Zty,Zty,Zty,Zty,Zty,Zty,Zty,Zty,Zty,Zty,Zty,Zty,Zty,Zty,Zty,Zty,Zty,Zty,Zty,Zty,Zty,Zty,Zty,Zty,Zty,Zty,Zty,Zty,Zty,Zty,Zty,Zty,Zty,Zty,Zty,Zty,Zty,Zty,Zty,Zty,Zty,Zty,Zty,Zty,Zty,Zty,Zty,Zty,Zty,Zty,Zty,Zty,Zty,Zty,Zty,Zty,Zty,Zty,Zty,Zty,Zty,Zty,Zty,Zty,Zty,Zty,Zty,Zty,Zty,Zty,Zty,Zty,Zty,Zty,Zty,Zty,Zty,Zty,Zty,Zty,Zty,Zty,Zty,Zty,Zty,Zty,Zty,Zty,Zty,Zty,Zty,Zty,Zty,Zty,Zty,Zty,Zty,Zty,Zty,Zty,Zty,Zty,Zty,Zty,Zty,Zty,Zty,Zty,Zty,Zty,Zty,Zty,Zty,Zty,Zty,Zty,Zty,Zty,Zty,Zty,Zty,Zty,Zty,Zty,Zty,Zty,Zty,Zty,Zty,Zty,Zty,Zty,Zty,Zty,Zty,Zty,Zty,Zty,Zty,Zty,Zty,Zty,Zty,Zty,Zty,Zty,Zty,Zty,Zty,Zty,Zty,Zty,Zty,Zty,Zty,Zty,Zty,Zty,Zty,Zty,Zty,Zty,Zty,Zty,Zty,Zty,Zty,.int .i64 0])))])<|
.seq (.region [o 1 (.box 256 (.c (.agg [Zty,Zty,Zty,Zty,Zty,Zty,Zty,Zty,Zty,Zty,Zty,Zty,Zty,Zty,Zty,Zty,Zty,Zty,Zty,Zty,Zty,Zty,Zty,Zty,Zty,Zty,Zty,Zty,Zty,Zty,Zty,Zty,Zty,Zty,Zty,Zty,Zty,Zty,Zty,Zty,Zty,Zty,Zty,Zty,Zty,Zty,Zty,Zty,Zty,Zty,Zty,Zty,Zty,Zty,Zty,Zty,Zty,Zty,Zty,Zty,Zty,Zty,Zty,Zty,Zty,Zty,Zty,Zty,Zty,Zty,Zty,Zty,Zty,Zty,Zty,Zty,Zty,Zty,Zty,Zty,Zty,Zty,Zty,Zty,Zty,Zty,Zty,Zty,Zty,Zty,Zty,Zty,Zty,Zty,Zty,Zty,Zty,Zty,Zty,Zty,Zty,Zty,Zty,Zty,Zty,Zty,Zty,Zty,Zty,Zty,Zty,Zty,Zty,Zty,Zty,Zty,Zty,Zty,Zty,Zty,Zty,Zty,Zty,Zty,Zty,Zty,Zty,Zty,Zty,Zty,Zty,Zty,Zty,Zty,Zty,Zty,Zty,Zty,Zty,Zty,Zty,Zty,Zty,Zty,Zty,Zty,Zty,Zty,Zty,Zty,Zty,Zty,Zty,Zty,Zty,Zty,Zty,Zty,Zty,Zty,Zty,Zty,Zty,Zty,Zty,Zty,Zty,Zty,Zty,Zty,Zty,Zty,Zty,Zty,Zty,Zty,Zty,Zty,Zty,Zty,Zty,Zty,Zty,Zty,Zty,Zty,Zty,Zty,Zty,Zty,Zty,Zty,Zty,Zty,Zty,Zty,Zty,Zty,Zty,Zty,Zty,Zty,Zty,Zty,Zty,Zty,Zty,Zty,Zty,Zty,Zty,Zty,Zty,Zty,Zty,Zty,Zty,Zty,Zty,Zty,Zty,Zty,Zty,Zty,Zty,Zty,Zty,Zty,Zty,Zty,Zty,Zty,Zty,Zty,Zty,Zty,Zty,Zty,Zty,Zty,Zty,Zty,Zty,Zty,Zty,Zty,Zty,Zty,Zty,Zty,Zty,Zty,Zty,Zty,Zty,.int .i64 0])))])<|
.seq (.region [o 3 (.mkf (.func 329) [] [(.t 1)]),Mv 2 3])<|
.seq (.region [Mv 4 2,o 5 (.callv false (.t 4) [(.c (.str (B [97,98,99,100,101,102,103,104,105,106,107,108,109,110,111,112,113,114,115,116,117,118,119,120,121,122,65,66,67,68,69,70,71,72,73,74,75,76,77,78,79,80,81,82,83,84,85,86,87,88,89,90]))),(Ci 3)])])<|
.seq (.region [Mv 6 2,o 7 (.callv false (.t 6) [(.c (.str (B [48,49,50,51,52,53,54,55,56,57]))),(Ci 4)])])<|
.seq (.region [Mv 8 2,o 9 (.callv false (.t 8) [(.c (.str (B [95]))),(Ci 5)])])<|
.seq (.region [Mv 10 2,o 11 (.callv false (.t 10) [(.c (.str (B [32,9,10]))),(Ci 1)])])<|
.seq (.region [Mv 12 2,o 13 (.callv false (.t 12) [(.c (.str (B [35]))),(Ci 2)])])<|
.seq (.region [Mv 14 2,o 15 (.callv false (.t 14) [(.c (.str (B [34]))),(Ci 6)])])<|
.seq (.region [Mv 16 2,o 17 (.callv false (.t 16) [(.c (.str (B [33]))),(Ci 7)])])<|
.seq (.region [Mv 18 2,o 19 (.callv false (.t 18) [(.c (.str (B [60,62]))),(Ci 8)])])<|
.seq (.region [Mv 20 2,o 21 (.callv false (.t 20) [(.c (.str (B [59,44,46,58,40,41,91,93,123,125,61,43,45]))),(Ci 9)])])<|
.seq (.region [Zf9 22 256 1,So 256 0 22])<|
.ret
def a295:AFun:=⟨[.cell 0 (some 256)],c295⟩
def c296L0b:ACode:=.keep [0,1,4]<|.seq (.seq (Zf7 [0,1,13] [Mv 10 0,Mv 11 1,Zfb 12 331 [(.t 10),(.t 11)],Bc 13 .eql 12 2])<|.cond (.t 13) Zfa (.exit 0))<|.seq (.keep [0,1,4]<|.block 1<|.seq (Zf7 [0,1,5] [Mv 18 0,Nk 19 18,Fa 20 0 19,Ld 21 20,Mv 22 1,o 23 (.ssl (.t 21) (some (.t 22)) none),Zfb 24 332 [(.t 23),(.c (.int .u8 10))],Mv 5 24])<|.seq (.seq (.region [Mv 25 5,Bc 26 .lss 25 0])<|.cond (.t 26) (.seq (Zf7 [4] [Mv 27 0,Nk 28 27,Fa 29 0 28,Ld 30 29,Zhy 31 0 30,Mv 4 31])<|.ret) Zfa)<|Zf7 [0,1] [Mv 32 1,Mv 33 5,Bt 34 .add 32 33,Mv 1 34])<|Zf7 [0,1] [Mv 14 0,Mv 15 1,o 16 (.bsl true false 1 (.int .i64 0) 1 [(0,(Ci 1))]),Zfb 17 330 [(.t 14),(.t 15),(.t 16)],Mv 1 17]
def c296L0:ACode:=.loop [0,1] c296L0b
def c296:ACode:=.seq (.region [Zf8 4 0])<|
.seq (.seq (Zf7 [0,1] [Mv 6 0,Mv 7 1,o 8 (.bsl true false 1 (.int .i64 0) 1 [(0,(Ci 1))]),Zfb 9 330 [(.t 6),(.t 7),(.t 8)],Mv 1 9])<|.keep [1,4]<|.block 0<|c296L0)<|
.seq (.region [Mv 35 1,Mv 4 35])<|
.ret
def a296:AFun:=⟨[.tmp 4],c296⟩
def c297:ACode:=.seq (Zf7 [0,1,4] [o 4 (.box 4 (.c RY)),Zf8 5 0,Zf8 6 0])<|
.seq (.seq (Zf7 [0,1,4,7] [Mv 15 0,Mv 16 1,Zfb 17 331 [(.t 15),(.t 16)],Mv 7 17])<|.seq (.region [Mv 18 7])<|.keep [4,5,6]<|.block 0<|.seq (.keep [0,1,4,5,6]<|.block 5<|.seq (.keep [0,1,4,5,6,7]<|.block 4<|.seq (.keep [0,1,4,5,6,7]<|.block 3<|.seq (.keep [0,1,4,5,6,7]<|.block 2<|.seq (.keep [0,1,4,7]<|.block 1<|.seq (.seq (.seq (.region [Bc 20 .eql 18 3,Mv 19 20])<|.cond (.t 19) (.exit 1) Zfa)<|.seq (.seq (.region [Bc 22 .eql 18 4,Mv 21 22])<|.cond (.t 21) (.exit 2) Zfa)<|.seq (.seq (.region [Bc 24 .eql 18 6,Mv 23 24])<|.cond (.t 23) (.exit 3) Zfa)<|.seq (.seq (.seq (.region [Bc 26 .eql 18 7,Mv 25 26])<|.cond (.t 25) Zfa (.region [Bc 27 .eql 18 8,Mv 25 27]))<|.cond (.t 25) (.exit 4) Zfa)<|.seq (.region [Bc 29 .eql 18 9,Mv 28 29])<|.cond (.t 28) (.exit 5) Zfa)<|.exit 0)<|.seq (.seq (Zf7 [0,1,4,8] [Mv 30 0,Mv 31 1,o 32 (.bsl true false 1 (.int .i64 0) 3 [(0,(Ci 3)),(1,(Ci 4)),(2,(Ci 5))]),Zfb 33 330 [(.t 30),(.t 31),(.t 32)],Mv 8 33])<|.seq (.seq (Zf7 [0,1,4,8,37] [Mv 34 8,Mv 35 1,Bt 36 .sub 34 35,Bc 37 .gtr 36 24])<|.cond (.t 37) (.seq (Zf7 [4,5,6] [o 38 (.build [.int .i64 0,.int .i64 0,.int .i64 0,.str emp] []),So 4 4 38,Zf8 5 0,Zf8 6 2])<|.ret) Zfa)<|.seq (Zf7 [4,5,6] [Mv 39 1,Mv 40 0,Nk 41 40,Fa 42 0 41,Ld 43 42,Mv 44 1,Mv 45 8,o 46 (.ssl (.t 43) (some (.t 44)) (some (.t 45))),o 47 (.build [.int .i64 0,.int .i64 0,.int .i64 0,.str emp] [(0,1,(Ci 1)),(1,1,(.t 39)),(3,1,(.t 46))]),Mv 48 8,So 4 4 47,Mv 5 48,Zf8 6 0])<|.ret)<|.exit 0)<|.seq (.seq (Zf7 [0,1,4,9] [Mv 49 0,Mv 50 1,o 51 (.bsl true false 1 (.int .i64 0) 1 [(0,(Ci 4))]),Zfb 52 330 [(.t 49),(.t 50),(.t 51)],Mv 9 52])<|.seq (.seq (Zf7 [0,1,4,9,10] [Mv 53 0,Mv 54 9,Zfb 55 331 [(.t 53),(.t 54)],Mv 10 55])<|.seq (Zf7 [0,1,4,9,67] [Mv 56 9,Mv 57 1,Bt 58 .sub 56 57,Bc 59 .gtr 58 13,Mv 60 59,Gm 61 10 60 false,Gc 62 .eql 61 3 60 false,Pk 63 60 62,Mv 64 63,Gm 65 10 64 false,Gc 66 .eql 65 5 64 false,Pk 67 64 66])<|.cond (.t 67) (.seq (Zf7 [4,5,6] [o 68 (.build [.int .i64 0,.int .i64 0,.int .i64 0,.str emp] []),So 4 4 68,Zf8 5 0,Zf8 6 4])<|.ret) Zfa)<|.seq (Zf7 [0,1,4,9,11] [Mv 70 0,Nk 71 70,Fa 72 0 71,Ld 73 72,Mv 74 1,Mv 75 9,o 76 (.ssl (.t 73) (some (.t 74)) (some (.t 75))),Zfb 77 333 [(.t 76)],Mv 69 77,o 78 (.ext (.t 69) 0),o 79 (.ext (.t 69) 1),Mv 11 78,Mv 12 79])<|.seq (Zf7 [4,5,6] [Mv 80 1,Mv 81 11,Mv 82 0,Nk 83 82,Fa 84 0 83,Ld 85 84,Mv 86 1,Mv 87 9,o 88 (.ssl (.t 85) (some (.t 86)) (some (.t 87))),o 89 (.build [.int .i64 0,.int .i64 0,.int .i64 0,.str emp] [(0,1,(Ci 2)),(1,1,(.t 80)),(2,1,(.t 81)),(3,1,(.t 88))]),Mv 90 9,So 4 4 89,Mv 5 90,Zf8 6 0])<|.ret)<|.exit 0)<|.seq (.seq (Zf7 [1,4,13] [Mv 91 0,Nk 92 91,Fa 93 0 92,Ld 94 93,Mv 95 1,Bc 96 .add 95 1,o 97 (.ssl (.t 94) (some (.t 96)) none),Mv 13 97])<|.seq (Zf7 [1,4,13,14] [Mv 98 13,Zfb 99 334 [(.t 98),(.c (.str (B [34,10])))],Mv 14 99])<|.seq (.seq (Zf7 [1,4,13,14,107] [Mv 100 14,Bc 101 .lss 100 0,Mv 102 101,Gm 103 13 102 false,Gm 104 14 102 false,og 105 (.sidx (.t 103) (.t 104)) 102 false,og 106 (.bin .eql (.t 105) (.c (.int .u8 10))) 102 false,Pk 107 102 106])<|.cond (.t 107) (.seq (Zf7 [4,5,6] [o 108 (.build [.int .i64 0,.int .i64 0,.int .i64 0,.str emp] []),So 4 4 108,Zf8 5 0,Zf8 6 6])<|.ret) Zfa)<|.seq (.seq (.region [Mv 109 14,Bc 110 .gtr 109 400])<|.cond (.t 110) (.seq (Zf7 [4,5,6] [o 111 (.build [.int .i64 0,.int .i64 0,.int .i64 0,.str emp] []),So 4 4 111,Zf8 5 0,Zf8 6 2])<|.ret) Zfa)<|.seq (Zf7 [4,5,6] [Mv 112 1,Mv 113 13,Mv 114 14,o 115 (.ssl (.t 113) none (some (.t 114))),o 116 (.build [.int .i64 0,.int .i64 0,.int .i64 0,.str emp] [(0,1,(Ci 3)),(1,1,(.t 112)),(3,1,(.t 115))]),Mv 117 1,Mv 118 14,Bt 119 .add 117 118,Bc 120 .add 119 2,So 4 4 116,Mv 5 120,Zf8 6 0])<|.ret)<|.exit 0)<|.seq (.seq (Zf7 [0,1,4,7,128] [Mv 121 0,Nk 122 121,Fa 123 0 122,Ld 124 123,Mv 125 1,Bc 126 .add 125 1,o 127 (.ssl (.t 124) (some (.t 126)) none),Zfb 128 335 [(.t 127),(.c (.str (B [61])))]])<|.cond (.t 128) (.seq (Zf7 [4,5,6] [Mv 129 1,Mv 130 0,Nk 131 130,Fa 132 0 131,Ld 133 132,Mv 134 1,Mv 135 1,Bc 136 .add 135 2,o 137 (.ssl (.t 133) (some (.t 134)) (some (.t 136))),o 138 (.build [.int .i64 0,.int .i64 0,.int .i64 0,.str emp] [(0,1,(Ci 4)),(1,1,(.t 129)),(3,1,(.t 137))]),Mv 139 1,Bc 140 .add 139 2,So 4 4 138,Mv 5 140,Zf8 6 0])<|.ret) Zfa)<|.seq (.region [Mv 141 7,Bc 142 .eql 141 7])<|.cond (.t 142) (.seq (Zf7 [4,5,6] [o 143 (.build [.int .i64 0,.int .i64 0,.int .i64 0,.str emp] []),So 4 4 143,Zf8 5 0,Zf8 6 3])<|.ret) Zfa)<|.seq (.seq (Zf7 [4,5,6] [Mv 144 1,Mv 145 0,Nk 146 145,Fa 147 0 146,Ld 148 147,Mv 149 1,Mv 150 1,Bc 151 .add 150 1,o 152 (.ssl (.t 148) (some (.t 149)) (some (.t 151))),o 153 (.build [.int .i64 0,.int .i64 0,.int .i64 0,.str emp] [(0,1,(Ci 4)),(1,1,(.t 144)),(3,1,(.t 152))]),Mv 154 1,Bc 155 .add 154 1,So 4 4 153,Mv 5 155,Zf8 6 0])<|.ret)<|.exit 0)<|
.seq (Zf7 [4,5,6] [o 156 (.build [.int .i64 0,.int .i64 0,.int .i64 0,.str emp] []),So 4 4 156,Zf8 5 0,Zf8 6 3])<|
.ret
def a297:AFun:=⟨[.cell 4 (some 4),.tmp 5,.tmp 6],c297⟩
def c298L0b:ACode:=.keep [0,1,4,7,8]<|.seq (.region [Bt 9 .lss 8 7])<|.seq (.cond (.t 9) Zfa (.exit 0))<|.seq (.keep [0,1,4,7,8]<|.block 1<|.seq (.region [Mv 10 8,Mv 5 10])<|.seq (Zf7 [0,1,5,7,8,16] [Mv 11 1,Mv 12 0,Mv 13 5,Zfe 14 2 12 13,Zf9 15 2 14,o 16 (.callv true (.t 11) [(.t 15)])])<|.cond (.t 16) (.seq (.region [Mv 17 5,Mv 4 17])<|.ret) Zfa)<|.region [Bc 18 .add 8 1,Mv 8 18]
def c298L0:ACode:=.loop [0,1,7,8] c298L0b
def c298:ACode:=.seq (.region [Zf8 4 0])<|
.seq (.seq (Zf7 [0,1,7,8] [Mv 6 0,Zhy 7 1 6,Zf8 8 0])<|.keep [4]<|.block 0<|c298L0)<|
.seq (.region [Zf8 4 (-1)])<|
.ret
def a298:AFun:=⟨[.tmp 4],c298⟩
def c299:ACode:=.seq (.region [Zff 1 1 0,o 2 (.mv (.c (.nilfn)))])<|
.seq (.region [o 3 (.mkf (.func 336) [] [(.t 1)]),Mv 2 3])<|
.ret
def a299:AFun:=⟨[.tmp 2],c299⟩
def c300:ACode:=.seq (Zf7 [3,4,5] [Zff 3 2 0,Zff 4 2 1,Zff 5 2 2,Zf8 6 0])<|
.seq (.seq (Zf7 [3,4,5,12] [Zf9 7 2 3,Zf9 8 2 4,Zf9 9 2 5,o 10 (.bsl true false 2 Zr1 3 [(0,(.t 7)),(1,(.t 8)),(2,(.t 9))]),Zfb 11 337 [(.t 10)],o 12 (.un .not (.t 11))])<|.cond (.t 12) (.seq (.region [Zf8 6 0])<|.ret) Zfa)<|
.seq (.keep [6]<|.draw [[],[],[],[]] [Zf9 13 2 3,Zf9 14 2 4,Zfb 15 338 [(.t 13),(.t 14)],Zf9 16 2 5] [Zfb 17 339 [(.t 15),(.t 16)],Mv 6 17])<|
.ret
def a300:AFun:=⟨[.tmp 6],c300⟩
def c301:ACode:=.seq (Zf7 [4,5,6,7] [Zff 4 2 0,Zff 5 2 1,Zff 6 2 2,Zff 7 2 3,Zf8 8 0])<|
.seq (.seq (.keep [4,5,6,7,9,10]<|.draw [[],[],[],[],[],[],[0,1,2,3,4,5],[0,1,2,3,4,5,6]] [Zf9 11 2 4,Zf9 12 2 5,Zfb 13 338 [(.t 11),(.t 12)],Zf9 14 2 6,Zf9 15 2 7,Zfb 16 338 [(.t 14),(.t 15)],o 9 (.box 6 (.c RW)),o 10 (.box 6 (.c RW))] [So 6 9 13,So 6 10 16])<|.keep [8]<|.block 0<|.seq (Zf7 [4,5,6,7,9,10,17] [Zf9 18 2 4,Zf9 19 2 5,Zf9 20 2 6,Zf9 21 2 7,o 22 (.bsl true false 2 Zr1 4 [(0,(.t 18)),(1,(.t 19)),(2,(.t 20)),(3,(.t 21))]),Zfb 23 337 [(.t 22)],o 24 (.un .not (.t 23)),Mv 17 24])<|.cond (.t 17) (.seq (.region [Zf8 8 0])<|.ret) (.seq (Zf7 [4,5,6,7,9,10,25] [Zf9 26 2 4,Zf9 27 2 6,Zf9 28 2 7,Zfb 29 340 [(.t 26),(.t 27),(.t 28)],Mv 30 29,og 31 (.load (some 2) (.t 5)) 30 false,og 32 (.load (some 2) (.t 6)) 30 false,og 33 (.load (some 2) (.t 7)) 30 false,og 34 (.call true 340 [(.t 31),(.t 32),(.t 33)]) 30 false,Pk 35 30 34,Mv 36 35,og 37 (.load (some 2) (.t 6)) 36 false,og 38 (.load (some 2) (.t 4)) 36 false,og 39 (.load (some 2) (.t 5)) 36 false,og 40 (.call true 340 [(.t 37),(.t 38),(.t 39)]) 36 false,Pk 41 36 40,Mv 42 41,og 43 (.load (some 2) (.t 7)) 42 false,og 44 (.load (some 2) (.t 4)) 42 false,og 45 (.load (some 2) (.t 5)) 42 false,og 46 (.call true 340 [(.t 43),(.t 44),(.t 45)]) 42 false,Pk 47 42 46,Mv 25 47])<|.cond (.t 25) (.seq (.region [Zf8 8 1])<|.ret) (.seq (Zf7 [48] [Zf9 49 6 9,o 50 (.mkf (.func 339) [(.t 49)] []),Zf9 51 2 6,Zf9 52 2 7,Zfb 53 341 [(.t 50),(.t 51),(.t 52)],Mv 54 53,og 55 (.load (some 6) (.t 10)) 54 true,og 56 (.mkf (.func 339) [(.t 55)] []) 54 true,og 57 (.load (some 2) (.t 4)) 54 true,og 58 (.load (some 2) (.t 5)) 54 true,og 59 (.call true 341 [(.t 56),(.t 57),(.t 58)]) 54 true,Zfd 60 54 59,Mv 48 60])<|.cond (.t 48) (.seq (.region [Zf8 8 2])<|.ret) Zfa)))<|
.seq (.region [Zf8 8 0])<|
.ret
def a301:AFun:=⟨[.tmp 8],c301⟩
def c305L0b:ACode:=.keep [0,1,4,7,8]<|.seq (.region [Bt 9 .lss 8 7])<|.seq (.cond (.t 9) Zfa (.exit 0))<|.seq (.keep [0,1,4,7,8]<|.block 1<|.seq (.region [Mv 10 8,Mv 5 10])<|.seq (Zf7 [0,1,5,7,8,16] [Mv 11 1,Mv 12 0,Mv 13 5,Zfe 14 1 12 13,Ld 15 14,Bt 16 .eql 11 15])<|.cond (.t 16) (.seq (.region [Mv 17 5,Mv 4 17])<|.ret) Zfa)<|.region [Bc 18 .add 8 1,Mv 8 18]
def c305L0:ACode:=.loop [0,1,7,8] c305L0b
def c305:ACode:=.seq (.region [Zf8 4 0])<|
.seq (.seq (Zf7 [0,1,7,8] [Mv 6 0,Zhy 7 1 6,Zf8 8 0])<|.keep [4]<|.block 0<|c305L0)<|
.seq (.region [Zf8 4 (-1)])<|
.ret
def a305:AFun:=⟨[.tmp 4],c305⟩
def c309L0b:ACode:=.keep [0,1,4,7,8]<|.seq (.region [Bt 9 .lss 8 7])<|.seq (.cond (.t 9) Zfa (.exit 0))<|.seq (.keep [0,1,4,7,8]<|.block 1<|.seq (.region [Mv 10 8,Mv 5 10])<|.seq (Zf7 [0,1,5,7,8,16] [Mv 11 1,Mv 12 0,Mv 13 5,Zfe 14 4 12 13,Zf9 15 4 14,o 16 (.callv true (.t 11) [(.t 15)])])<|.cond (.t 16) (.seq (.region [Mv 17 5,Mv 4 17])<|.ret) Zfa)<|.region [Bc 18 .add 8 1,Mv 8 18]
def c309L0:ACode:=.loop [0,1,7,8] c309L0b
def c309:ACode:=.seq (.region [Zf8 4 0])<|
.seq (.seq (Zf7 [0,1,7,8] [Mv 6 0,Zhy 7 1 6,Zf8 8 0])<|.keep [4]<|.block 0<|c309L0)<|
.seq (.region [Zf8 4 (-1)])<|
.ret
def a309:AFun:=⟨[.tmp 4],c309⟩
def c310L0b:ACode:=.keep [0,1,4,7,8]<|.seq (.region [Bt 9 .lss 8 7])<|.seq (.cond (.t 9) Zfa (.exit 0))<|.seq (.keep [0,1,4,7,8]<|.block 1<|.seq (.region [Mv 10 8,Mv 5 10])<|.seq (Zf7 [0,1,5,7,8,16] [Mv 11 1,Mv 12 0,Mv 13 5,Zfe 14 5 12 13,Zf9 15 5 14,o 16 (.callv true (.t 11) [(.t 15)])])<|.cond (.t 16) (.seq (.region [Mv 17 5,Mv 4 17])<|.ret) Zfa)<|.region [Bc 18 .add 8 1,Mv 8 18]
def c310L0:ACode:=.loop [0,1,7,8] c310L0b
def c310:ACode:=.seq (.region [Zf8 4 0])<|
.seq (.seq (Zf7 [0,1,7,8] [Mv 6 0,Zhy 7 1 6,Zf8 8 0])<|.keep [4]<|.block 0<|c310L0)<|
.seq (.region [Zf8 4 (-1)])<|
.ret
def a310:AFun:=⟨[.tmp 4],c310⟩
def c322L0b:ACode:=.keep [0,1,4,7,8]<|.seq (.region [Bt 9 .lss 8 7])<|.seq (.cond (.t 9) Zfa (.exit 0))<|.seq (.keep [0,1,4,7,8]<|.block 1<|.seq (.region [Mv 10 8,Mv 5 10])<|.seq (Zf7 [0,1,5,7,8,16] [Mv 11 1,Mv 12 0,Mv 13 5,Zfe 14 2 12 13,Zf9 15 2 14,o 16 (.callv true (.t 11) [(.t 15)])])<|.cond (.t 16) (.seq (.region [Mv 17 5,Mv 4 17])<|.ret) Zfa)<|.region [Bc 18 .add 8 1,Mv 8 18]
def c322L0:ACode:=.loop [0,1,7,8] c322L0b
def c322:ACode:=.seq (.region [Zf8 4 0])<|
.seq (.seq (Zf7 [0,1,7,8] [Mv 6 0,Zhy 7 1 6,Zf8 8 0])<|.keep [4]<|.block 0<|c322L0)<|
.seq (.region [Zf8 4 (-1)])<|
.ret
def a322:AFun:=⟨[.tmp 4],c322⟩
def c324:ACode:=.seq (.region [Zfc 2])<|
.seq (Zf7 [2] [Mv 3 0,Zfb 4 184 [(.t 3),(Ci 60)],o 5 (.un .not (.t 4)),Mv 2 5])<|
.ret
def a324:AFun:=⟨[.tmp 2],c324⟩
def c325L0b:ACode:=.keep [0,1,4,7,8]<|.seq (.region [Bt 9 .lss 8 7])<|.seq (.cond (.t 9) Zfa (.exit 0))<|.seq (.keep [0,1,4,7,8]<|.block 1<|.seq (.region [Mv 10 8,Mv 5 10])<|.seq (Zf7 [0,1,5,7,8,16] [Mv 11 1,Mv 12 0,Mv 13 5,Zfe 14 1 12 13,Ld 15 14,o 16 (.callv true (.t 11) [(.t 15)])])<|.cond (.t 16) (.seq (.region [Mv 17 5,Mv 4 17])<|.ret) Zfa)<|.region [Bc 18 .add 8 1,Mv 8 18]
def c325L0:ACode:=.loop [0,1,7,8] c325L0b
def c325:ACode:=.seq (.region [Zf8 4 0])<|
.seq (.seq (Zf7 [0,1,7,8] [Mv 6 0,Zhy 7 1 6,Zf8 8 0])<|.keep [4]<|.block 0<|c325L0)<|
.seq (.region [Zf8 4 (-1)])<|
.ret
def a325:AFun:=⟨[.tmp 4],c325⟩
def c326:ACode:=.seq (.region [o 0 (.box 56 (.c (.agg [Zty,Zty,Zty,Zty,Zty,Zty,Zty,Zty,Zty,Zty,Zty,Zty,Zty,Zty,Zty,Zty,Zty,Zty,Zty,Zty,Zty,Zty,Zty,Zty,Zty,Zty,Zty,Zty,Zty,Zty,Zty,Zty,Zty,Zty,Zty,Zty,Zty,Zty,Zty,Zty,Zty,Zty,Zty,Zty,Zty,Zty,Zty,Zty,Zty,Zty,Zty,Zty,Zty,Zty,Zty,.int .i64 0])))])<|
.seq (Zf7 [0] [o 1 (.build [.int .i64 0,.int .i64 0] [(0,1,(Ci 0)),(1,1,(Ci 0))]),o 2 (.build [.int .i64 0,.int .i64 0] [(0,1,(Ci 1)),(1,1,(Ci 9))]),o 3 (.build [.int .i64 0,.int .i64 0] [(0,1,(Ci 1)),(1,1,(Ci 8))]),o 4 (.build [.int .i64 0,.int .i64 0] [(0,1,(Ci 1)),(1,1,(Ci 7))]),o 5 (.build [.int .i64 0,.int .i64 0] [(0,1,(Ci 1)),(1,1,(Ci 6))]),o 6 (.build [.int .i64 0,.int .i64 0] [(0,1,(Ci 1)),(1,1,(Ci 5))]),o 7 (.build [.int .i64 0,.int .i64 0] [(0,1,(Ci 2)),(1,1,(Ci 9))]),o 8 (.build [.int .i64 0,.int .i64 0] [(0,1,(Ci 1)),(1,1,(Ci 4))]),o 9 (.build [.int .i64 0,.int .i64 0] [(0,1,(Ci 2)),(1,1,(Ci 7))]),o 10 (.build [.int .i64 0,.int .i64 0] [(0,1,(Ci 1)),(1,1,(Ci 3))]),o 11 (.build [.int .i64 0,.int .i64 0] [(0,1,(Ci 3)),(1,1,(Ci 8))]),o 12 (.build [.int .i64 0,.int .i64 0] [(0,1,(Ci 2)),(1,1,(Ci 5))]),o 13 (.build [.int .i64 0,.int .i64 0] [(0,1,(Ci 3)),(1,1,(Ci 7))]),o 14 (.build [.int .i64 0,.int .i64 0] [(0,1,(Ci 4)),(1,1,(Ci 9))]),o 15 (.build [.int .i64 0,.int .i64 0] [(0,1,(Ci 1)),(1,1,(Ci 2))]),o 16 (.build [.int .i64 0,.int .i64 0] [(0,1,(Ci 5)),(1,1,(Ci 9))]),o 17 (.build [.int .i64 0,.int .i64 0] [(0,1,(Ci 4)),(1,1,(Ci 7))]),o 18 (.build [.int .i64 0,.int .i64 0] [(0,1,(Ci 3)),(1,1,(Ci 5))]),o 19 (.build [.int .i64 0,.int .i64 0] [(0,1,(Ci 5)),(1,1,(Ci 8))]),o 20 (.build [.int .i64 0,.int .i64 0] [(0,1,(Ci 2)),(1,1,(Ci 3))]),o 21 (.build [.int .i64 0,.int .i64 0] [(0,1,(Ci 5)),(1,1,(Ci 7))]),o 22 (.build [.int .i64 0,.int .i64 0] [(0,1,(Ci 3)),(1,1,(Ci 4))]),o 23 (.build [.int .i64 0,.int .i64 0] [(0,1,(Ci 7)),(1,1,(Ci 9))]),o 24 (.build [.int .i64 0,.int .i64 0] [(0,1,(Ci 4)),(1,1,(Ci 5))]),o 25 (.build [.int .i64 0,.int .i64 0] [(0,1,(Ci 5)),(1,1,(Ci 6))]),o 26 (.build [.int .i64 0,.int .i64 0] [(0,1,(Ci 6)),(1,1,(Ci 7))]),o 27 (.build [.int .i64 0,.int .i64 0] [(0,1,(Ci 7)),(1,1,(Ci 8))]),o 28 (.build [.int .i64 0,.int .i64 0] [(0,1,(Ci 8)),(1,1,(Ci 9))]),o 29 (.build [Zty,Zty,Zty,Zty,Zty,Zty,Zty,Zty,Zty,Zty,Zty,Zty,Zty,Zty,Zty,Zty,Zty,Zty,Zty,Zty,Zty,Zty,Zty,Zty,Zty,Zty,Zty,Zty,Zty,Zty,Zty,Zty,Zty,Zty,Zty,Zty,Zty,Zty,Zty,Zty,Zty,Zty,Zty,Zty,Zty,Zty,Zty,Zty,Zty,Zty,Zty,Zty,Zty,Zty,Zty,.int .i64 0] [(0,2,(.t 1)),(2,2,(.t 2)),(4,2,(.t 3)),(6,2,(.t 4)),(8,2,(.t 5)),(10,2,(.t 6)),(12,2,(.t 7)),(14,2,(.t 8)),(16,2,(.t 9)),(18,2,(.t 10)),(20,2,(.t 11)),(22,2,(.t 12)),(24,2,(.t 13)),(26,2,(.t 14)),(28,2,(.t 15)),(30,2,(.t 16)),(32,2,(.t 17)),(34,2,(.t 18)),(36,2,(.t 19)),(38,2,(.t 20)),(40,2,(.t 21)),(42,2,(.t 22)),(44,2,(.t 23)),(46,2,(.t 24)),(48,2,(.t 25)),(50,2,(.t 26)),(52,2,(.t 27)),(54,2,(.t 28))]),So 56 0 29])<|
.ret
def a326:AFun:=⟨[.cell 0 (some 56)],c326⟩
def c327:ACode:=.seq (.region [Zf8 4 0])<|
.seq (Zf7 [4] [Mv 5 0,Mv 6 1,Zfb 7 358 [(.t 5),(.t 6),cT],Mv 4 7])<|
.ret
def a327:AFun:=⟨[.tmp 4],c327⟩
def c328L0b:ACode:=.keep [0,1,4,7,8]<|.seq (.region [Bt 9 .lss 8 7])<|.seq (.cond (.t 9) Zfa (.exit 0))<|.seq (.keep [0,1,4,7,8]<|.block 1<|.seq (.region [Mv 10 8,Mv 5 10])<|.seq (Zf7 [0,1,5,7,8,16] [Mv 11 1,Mv 12 0,Mv 13 5,Zfe 14 6 12 13,Zf9 15 6 14,o 16 (.callv true (.t 11) [(.t 15)])])<|.cond (.t 16) (.seq (.region [Mv 17 5,Mv 4 17])<|.ret) Zfa)<|.region [Bc 18 .add 8 1,Mv 8 18]
def c328L0:ACode:=.loop [0,1,7,8] c328L0b
def c328:ACode:=.seq (.region [Zf8 4 0])<|
.seq (.seq (Zf7 [0,1,7,8] [Mv 6 0,Zhy 7 1 6,Zf8 8 0])<|.keep [4]<|.block 0<|c328L0)<|
.seq (.region [Zf8 4 (-1)])<|
.ret
def a328:AFun:=⟨[.tmp 4],c328⟩
def c329L0b:ACode:=.keep [0,1,2,5]<|.seq (.seq (Zf7 [0,1,2,5,9] [Mv 6 5,Mv 7 0,Zhy 8 0 7,Bt 9 .lss 6 8])<|.cond (.t 9) Zfa (.exit 0))<|.seq (.keep [0,1,2,5]<|.block 1<|Zf7 [0,1,2,5] [Mv 12 0,Mv 13 5,o 14 (.sidx (.t 12) (.t 13)),Mv 15 1,o 16 (.aadr 1 256 (.t 2) (.t 14)),So 1 16 15])<|Zf7 [0,1,2,5] [Mv 10 5,Bc 11 .add 10 1,Mv 5 11]
def c329L0:ACode:=.loop [0,1,2,5] c329L0b
def c329:ACode:=.seq (.region [Zf8 5 0])<|
.keep []<|.block 0<|c329L0
def a329:AFun:=⟨[],c329⟩
def c330L0b:ACode:=.keep [0,1,2]<|.seq (.seq (Zf7 [0,1,2,20] [Mv 7 1,Mv 8 0,Nk 9 8,Fa 10 0 9,Ld 11 10,Zhy 12 0 11,Bt 13 .lss 7 12,Mv 14 13,Gm 15 2 14 true,Gm 16 0 14 true,Gm 17 1 14 true,og 18 (.call true 331 [(.t 16),(.t 17)]) 14 true,og 19 (.call true 144 [(.t 15),(.t 18)]) 14 true,Zfd 20 14 19])<|.cond (.t 20) Zfa (.exit 0))<|.keep [0,1,2]<|.block 1<|Zf7 [0,1,2] [Mv 21 1,Bc 22 .add 21 1,Mv 1 22]
def c330L0:ACode:=.loop [0,1,2] c330L0b
def c330:ACode:=.seq (.region [Zf8 6 0])<|
.seq (.keep [1]<|.block 0<|c330L0)<|
.seq (.region [Mv 23 1,Mv 6 23])<|
.ret
def a330:AFun:=⟨[.tmp 6],c330⟩
def c331:ACode:=.seq (.region [Zf8 4 0])<|
.seq (.seq (Zf7 [0,1,11] [Mv 5 1,Mv 6 0,Nk 7 6,Fa 8 0 7,Ld 9 8,Zhy 10 0 9,Bt 11 .geq 5 10])<|.cond (.t 11) (.seq (.region [Zf8 4 0])<|.ret) Zfa)<|
.seq (.keep [4]<|.draw [[],[],[],[],[],[],[],[],[]] [Mv 12 0,Mv 13 0,Nk 14 13,Fa 15 0 14,Ld 16 15,Mv 17 1,o 18 (.sidx (.t 16) (.t 17)),Nk 19 12,Fa 20 1 19] [o 21 (.aadr 1 256 (.t 20) (.t 18)),Ld 22 21,Mv 4 22])<|
.ret
def a331:AFun:=⟨[.tmp 4],c331⟩
def c335:ACode:=.seq (.region [Zfc 4])<|
.seq (Zf7 [4] [Mv 5 0,Mv 6 1,Zfb 7 366 [(.t 5),(.t 6)],Mv 4 7])<|
.ret
def a335:AFun:=⟨[.tmp 4],c335⟩
def c336L0b:ACode:=.keep [0,1,5,6,7]<|.seq (.region [Bt 8 .lss 7 6])<|.seq (.cond (.t 8) Zfa (.exit 0))<|.seq (.keep [0,1,5,6,7]<|.block 1<|.seq (Zf7 [0,1,3,4,5,6,7] [Mv 9 7,Zfe 10 2 5 7,Zf9 11 2 10,o 4 (.box 2 (.c Zr1)),Mv 3 9,So 2 4 11])<|.seq (.keep [0,1,5,6,7,23]<|.draw [[],[],[],[],[],[],[],[],[],[]] [Mv 12 0,Zf9 13 2 4,Ld 14 1,Mv 15 3,Bc 16 .add 15 1,Ld 17 1,Zhy 18 1 17,Bt 19 .rem 16 18,Zfe 20 2 14 19,Zf9 21 2 20] [o 22 (.callv false (.t 12) [(.t 13),(.t 21)]),o 23 (.un .not (.t 22))])<|.cond (.t 23) (.ret) Zfa)<|.region [Bc 24 .add 7 1,Mv 7 24]
def c336L0:ACode:=.loop [0,1,5,6,7] c336L0b
def c336:ACode:=.seq (Zf7 [0,1,5,6,7] [Ld 5 1,Zhy 6 1 5,Zf8 7 0])<|
.keep []<|.block 0<|c336L0
def a336:AFun:=⟨[],c336⟩
def c337L0b:ACode:=.keep [2,5,6,7]<|.seq (.region [Bt 8 .lss 7 6])<|.seq (.cond (.t 8) Zfa (.exit 0))<|.seq (.keep [2,5,6,7]<|.block 1<|.seq (Zf7 [4,5,6,7] [Zfe 9 2 5 7,Zf9 10 2 9,o 4 (.box 2 (.c Zr1)),So 2 4 10])<|.seq (Zf7 [5,6,7,13] [Zf9 11 2 4,Zfb 12 61 [(.t 11)],o 13 (.un .not (.t 12))])<|.cond (.t 13) (.seq (.region [Zfc 2])<|.ret) Zfa)<|.region [Bc 14 .add 7 1,Mv 7 14]
def c337L0:ACode:=.loop [5,6,7] c337L0b
def c337:ACode:=.seq (.region [Zfc 2])<|
.seq (.seq (Zf7 [5,6,7] [Mv 5 0,Zhy 6 1 5,Zf8 7 0])<|.keep [2]<|.block 0<|c337L0)<|
.seq (.region [o 2 (.mv cT)])<|
.ret
def a337:AFun:=⟨[.tmp 2],c337⟩
def c338:ACode:=.seq (Zf7 [2,3,4] [Zff 2 2 0,Zff 3 2 1,o 4 (.box 6 (.c RW))])<|
.seq (.keep [4]<|.draw [[],[],[],[],[],[]] [Zf9 5 2 2,Zf9 6 2 3,o 7 (.build [.int .i64 0,.int .i64 0,.int .i64 0,.int .i64 0] [(0,2,(.t 5)),(2,2,(.t 6))]),Zf9 8 2 2,Zf9 9 2 3,Zfb 10 367 [(.t 8),(.t 9)]] [o 11 (.build [.int .i64 0,.int .i64 0,.int .i64 0,.int .i64 0,.int .i64 0,.int .i64 0] [(0,4,(.t 7)),(4,2,(.t 10))]),So 6 4 11])<|
.ret
def a338:AFun:=⟨[.cell 4 (some 6)],c338⟩
def c339:ACode:=.seq (Zf7 [2,3] [Zff 2 6 0,Zff 3 2 1,Zf8 4 0])<|
.seq (.keep [5]<|.draw [[],[],[],[],[],[],[]] [Fa 6 4 2,Zf9 7 2 6,Fa 8 0 2,Fa 9 0 8,Zf9 10 2 9,Zf9 11 2 3,Zfb 12 367 [(.t 10),(.t 11)]] [Zfb 13 368 [(.t 7),(.t 12)],Mv 5 13])<|
.seq (.keep [4]<|.block 0<|.seq (Zf7 [5,14] [Mv 15 5,Bc 16 .gtr 15 0,Mv 14 16])<|.cond (.t 14) (.seq (.region [Zf8 4 1])<|.ret) (.seq (Zf7 [17] [Mv 18 5,Bc 19 .lss 18 0,Mv 17 19])<|.cond (.t 17) (.seq (.region [Zf8 4 (-1)])<|.ret) Zfa))<|
.seq (.region [Zf8 4 0])<|
.ret
def a339:AFun:=⟨[.tmp 4],c339⟩
def c340:ACode:=.seq (Zf7 [3,4,5] [Zff 3 2 0,Zff 4 2 1,Zff 5 2 2,Zfc 6])<|
.seq (.seq (Zf7 [3,4,5,13] [Zf9 8 2 3,Zf9 9 2 4,Zf9 10 2 5,o 11 (.bsl true false 2 Zr1 3 [(0,(.t 8)),(1,(.t 9)),(2,(.t 10))]),Zfb 12 337 [(.t 11)],o 13 (.un .not (.t 12))])<|.cond (.t 13) (.seq (.region [Zfc 6])<|.ret) Zfa)<|
.seq (.seq (Zf7 [3,4,5,21] [Zf9 14 2 3,Zf9 15 2 4,o 16 (.eqv false true [1,1] (.t 14) (.t 15)),Mv 17 16,og 18 (.load (some 2) (.t 3)) 17 false,og 19 (.load (some 2) (.t 5)) 17 false,og 20 (.eqv false true [1,1] (.t 18) (.t 19)) 17 false,Pk 21 17 20])<|.cond (.t 21) (.seq (.region [o 6 (.mv cT)])<|.ret) Zfa)<|
.seq (Zf7 [3,4,5,7] [Zf9 22 2 4,Zf9 23 2 5,Zfb 24 338 [(.t 22),(.t 23)],o 7 (.box 6 (.c RW)),So 6 7 24])<|
.seq (.keep [6]<|.draw [[],[],[],[],[],[],[],[],[],[]] [Zf9 25 6 7,Zf9 26 2 3,Zfb 27 339 [(.t 25),(.t 26)],Bc 28 .eql 27 0,Mv 29 28,og 30 (.load (some 2) (.t 3)) 29 true,og 31 (.load (some 2) (.t 4)) 29 true,og 32 (.call true 367 [(.t 30),(.t 31)]) 29 true,og 33 (.load (some 2) (.t 3)) 29 true,og 34 (.load (some 2) (.t 5)) 29 true] [og 35 (.call true 367 [(.t 33),(.t 34)]) 29 true,og 36 (.call true 369 [(.t 32),(.t 35)]) 29 true,Gc 37 .lss 36 0 29 true,Zfd 38 29 37,Mv 6 38])<|
.ret
def a340:AFun:=⟨[.tmp 6],c340⟩
def c341:ACode:=.seq (Zf7 [0,4,5] [Zff 4 2 1,Zff 5 2 2,Zfc 6])<|
.seq (.keep [6]<|.draw [[],[],[],[],[]] [Mv 7 0,Zf9 8 2 4,o 9 (.callv true (.t 7) [(.t 8)]),Mv 10 0,Zf9 11 2 5] [o 12 (.callv true (.t 10) [(.t 11)]),Bt 13 .mul 9 12,Bc 14 .lss 13 0,Mv 6 14])<|
.ret
def a341:AFun:=⟨[.tmp 6],c341⟩
def c358L0b:ACode:=.keep [1,2,6,10]<|.seq (.region [o 11 (.nxt (.t 10)),o 12 (.ext (.t 11) 0)])<|.seq (.cond (.t 12) Zfa (.exit 0))<|.keep [1,2,6,10]<|.block 1<|.seq (Zf7 [1,2,7,8,10] [o 13 (.ext (.t 11) 1),o 14 (.ext (.t 11) 2),Mv 7 13,Mv 8 14])<|.seq (Zf7 [1,2,7,10,19] [Mv 15 1,Mv 16 8,o 17 (.callv true (.t 15) [(.t 16)]),Mv 18 2,o 19 (.eqv false false [0] (.t 17) (.t 18))])<|.cond (.t 19) (.seq (.region [Mv 20 7,Mv 6 20])<|.ret) Zfa
def c358L0:ACode:=.loop [1,2,10] c358L0b
def c358:ACode:=.seq (.region [Zf8 6 0])<|
.seq (.seq (.region [Mv 9 0,o 10 (.rng (.t 9))])<|.keep [6]<|.block 0<|c358L0)<|
.seq (.region [Zf8 6 (-1)])<|
.ret
def a358:AFun:=⟨[.tmp 6],c358⟩
def c366:ACode:=.seq (.region [Zfc 4])<|
.seq (Zf7 [4] [Mv 5 0,Zhy 6 0 5,Mv 7 1,Zhy 8 0 7,Bt 9 .geq 6 8,Mv 10 9,Gm 11 0 10 true,Gm 12 1 10 true,og 13 (.len 0 (.t 12)) 10 true,og 14 (.ssl (.t 11) none (some (.t 13))) 10 true,Gm 15 1 10 true,Gt 16 .eql 14 15 10 true,Zfd 17 10 16,Mv 4 17])<|
.ret
def a366:AFun:=⟨[.tmp 4],c366⟩
def c367:ACode:=.seq (Zf7 [2,3,4] [Zff 2 2 0,Zff 3 2 1,o 4 (.box 2 (.c Zr1))])<|
.seq (Zf7 [4] [Fa 5 0 3,Ld 6 5,Fa 7 0 2,Ld 8 7,Bt 9 .sub 6 8,Fa 10 1 3,Ld 11 10,Fa 12 1 2,Ld 13 12,Bt 14 .sub 11 13,o 15 (.build [.int .i64 0,.int .i64 0] [(0,1,(.t 9)),(1,1,(.t 14))]),So 2 4 15])<|
.ret
def a367:AFun:=⟨[.cell 4 (some 2)],c367⟩
def c368:ACode:=.seq (Zf7 [2,3] [Zff 2 2 0,Zff 3 2 1,Zf8 4 0])<|
.seq (Zf7 [4] [Fa 5 0 2,Ld 6 5,Fa 7 1 3,Ld 8 7,Bt 9 .mul 6 8,Fa 10 1 2,Ld 11 10,Fa 12 0 3,Ld 13 12,Bt 14 .mul 11 13,Bt 15 .sub 9 14,Mv 4 15])<|
.ret
def a368:AFun:=⟨[.tmp 4],c368⟩
def c369:ACode:=.seq (Zf7 [2,3] [Zff 2 2 0,Zff 3 2 1,Zf8 4 0])<|
.seq (Zf7 [4] [Fa 5 0 2,Ld 6 5,Fa 7 0 3,Ld 8 7,Bt 9 .mul 6 8,Fa 10 1 2,Ld 11 10,Fa 12 1 3,Ld 13 12,Bt 14 .mul 11 13,Bt 15 .add 9 14,Mv 4 15])<|
.ret
def a369:AFun:=⟨[.tmp 4],c369⟩
def FN0:List (Nat×AFun):=[(16,a16),(19,a19),(20,a20),(21,a21),(23,a23),(25,a25),(26,a26),(28,a28),(30,a30),(31,a31),(34,a34),(44,a44),(53,a53),(54,a54)]
def FN1:List (Nat×AFun):=[(55,a55),(56,a56),(57,a57),(58,a58),(59,a59),(60,a60),(61,a61),(62,a62),(65,a65),(66,a66),(69,a69),(71,a71),(72,a72),(73,a73)]
def FN2:List (Nat×AFun):=[(74,a74),(81,a81),(82,a82),(83,a83),(84,a84),(85,a85),(86,a86),(87,a87),(88,a88),(89,a89),(90,a90),(91,a91),(94,a94),(95,a95)]
def FN3:List (Nat×AFun):=[(96,a96),(97,a97),(98,a98),(99,a99),(100,a100),(101,a101),(102,a102),(103,a103),(104,a104),(105,a105),(106,a106),(107,a107),(108,a108),(111,a111)]
def FN4:List (Nat×AFun):=[(112,a112),(126,a126),(127,a127),(128,a128),(129,a129),(131,a131),(132,a132),(133,a133),(134,a134),(136,a136),(139,a139),(140,a140),(141,a141),(142,a142)]
def FN5:List (Nat×AFun):=[(143,a143),(144,a144),(145,a145),(146,a146),(161,a161),(162,a162),(163,a163),(167,a167),(168,a168),(169,a169),(170,a170),(171,a171),(172,a172),(173,a173)]
def FN6:List (Nat×AFun):=[(174,a174),(175,a175),(176,a176),(177,a177),(178,a178),(179,a179),(180,a180),(181,a181),(182,a182),(183,a183),(184,a184),(185,a185),(186,a186),(187,a187)]
def FN7:List (Nat×AFun):=[(188,a188),(189,a189),(190,a190),(191,a191),(192,a192),(193,a193),(194,a194),(195,a195),(196,a196),(197,a197),(198,a198),(199,a199),(200,a200),(201,a201)]
def FN8:List (Nat×AFun):=[(202,a202),(203,a203),(204,a204),(205,a205),(206,a206),(207,a207),(208,a208),(209,a209),(210,a210),(211,a211),(212,a212),(213,a213),(214,a214),(215,a215)]
def FN9:List (Nat×AFun):=[(216,a216),(217,a217),(218,a218),(219,a219),(220,a220),(221,a221),(222,a222),(233,a233),(234,a234),(235,a235),(236,a236),(237,a237),(243,a243),(244,a244)]
def ZjY:List (Nat×AFun):=[(245,a245),(246,a246),(247,a247),(248,a248),(249,a249),(261,a261),(262,a262),(263,a263),(264,a264),(267,a267),(268,a268),(269,a269),(270,a270),(271,a271)]
def ZjZ:List (Nat×AFun):=[(272,a272),(273,a273),(274,a274),(275,a275),(276,a276),(277,a277),(278,a278),(279,a279),(280,a280),(281,a281),(282,a282),(285,a285),(286,a286),(288,a288)]
def Zk0:List (Nat×AFun):=[(289,a289),(291,a291),(292,a292),(295,a295),(296,a296),(297,a297),(298,a298),(299,a299),(300,a300),(301,a301),(305,a305),(309,a309),(310,a310),(322,a322)]
def Zsg:List (Nat×AFun):=[(324,a324),(325,a325),(326,a326),(327,a327),(328,a328),(329,a329),(330,a330),(331,a331),(335,a335),(336,a336),(337,a337),(338,a338),(339,a339),(340,a340)]
def Zsh:List (Nat×AFun):=[(341,a341),(358,a358),(366,a366),(367,a367),(368,a368),(369,a369)]
def ZjW (f:Nat) (l:List (Nat×AFun)):Option AFun:=l.foldr (fun p r=>bif Nat.beq f p.1 then some p.2 else r) none
def N0 (f:Nat):Option AFun:=bif Nat.blt f 55 then ZjW f FN0 else bif Nat.blt f 74 then ZjW f FN1 else bif Nat.blt f 96 then ZjW f FN2 else bif Nat.blt f 112 then ZjW f FN3 else bif Nat.blt f 143 then ZjW f FN4 else bif Nat.blt f 174 then ZjW f FN5 else bif Nat.blt f 188 then ZjW f FN6 else bif Nat.blt f 202 then ZjW f FN7 else bif Nat.blt f 216 then ZjW f FN8 else bif Nat.blt f 245 then ZjW f FN9 else bif Nat.blt f 272 then ZjW f ZjY else bif Nat.blt f 289 then ZjW f ZjZ else bif Nat.blt f 324 then ZjW f Zk0 else bif Nat.blt f 341 then ZjW f Zsg else ZjW f Zsh
end Go.AM
