import Derived.Test.YtflgmingejdfnaaGreatDoorTak
import Derived.Test.YtflgmingejdfnaaGreatDoorTaa
import Derived.Test.YtflgmingejdfnaaGreatDoorTag
set_option linter.all false
set_option maxRecDepth 100000
open Bool renaming and_eq_true→ye,false_eq_true→yq
open Go renaming FloatKind→w8,IntKind→yG,Program→yJ
open List renaming mem_cons→wm,mem_cons_of_mem→xU,mem_cons_self→wJ
open Nat renaming beq→yk,blt→yA,eq_of_beq_eq_true→yh
open Option.some renaming injEq→yb
namespace VE
section
def sX:VC:=.g [qT 228 227 226] (.q (.cond (.t 228) .skip (.exit 2)) (.q (.aC 3 (.g [qm 229 227,qm 30 229] (.g [qm 231 0,qm 232 30,qm 233 29,fS 234 18 231 232 233,qm 230 234,qe 235 0 230,qe 236 1 230,qm 31 235,qm 32 236] (.h [qm 237 32,qN 238 237 0,qm 239 238,Rf 240 239 (.m 31),Rf 241 239 (.q 263 [.t 240]),Rf 242 239 (.y .neq 241 0),qp 243 239 242] 243 (.e [qf 6]) (.aG [qm 244 28,qm 245 31,aA 246 264 244 245,qm 28 246]))))) (.aG [qa 247 227 1,qm 227 247])))
def Bg:VC:=.g [qT 224 223 222] (.q (.cond (.t 224) .skip (.exit 0)) (.q (.aC 1 (.g [qm 225 223,qm 29 225] (.g [qm 226 7,qk 227 0] (.q (.aC 2 (.loop [0,7,16,18,28,29,222,223,226,227] sX)) (.kp [0,7,16,18,28,222,223]))))) (.aG [qa 248 223 1,qm 223 248])))
def sY:VC:=.g [qT 269 268 267] (.q (.cond (.t 269) .skip (.exit 6)) (.q (.aC 7 (.g [qi 270 1 266 268,ql 271 1 270,qm 37 271] (.aG [qm 272 35,qm 273 37,Rq 274 (.un .neg (.t 273)),Rq 275 (.bw 1 1 [.i 0] [(0,1,.t 274)]),Rq 276 (.cy 1 8 (.t 272) (.t 275)),qm 35 276]))) (.aG [qa 277 268 1,qm 268 277])))
def Bh:VC:=.g [qT 261 260 259] (.q (.cond (.t 261) .skip (.exit 4)) (.q (.aC 5 (.g [qm 262 260,qm 34 262] (.g [qz 35] (.q (.g [qm 263 0,qm 264 34,qi 265 1 263 264,ql 266 1 265,qn 267 1 266,qk 268 0] (.q (.aC 6 (.loop [0,16,18,33,35,259,260,266,267,268] sY)) (.kp [0,16,18,33,35,259,260]))) (.q (.fz [35]) (.aG [qm 278 33,qm 279 35,Rq 280 (.bw 1 1 [.aa] [(0,1,.t 279)]),Rq 281 (.cy 1 24 (.t 278) (.t 280)),qm 33 281])))))) (.aG [qa 282 260 1,qm 260 282])))
def nO:ax:=⟨[.t 6],.g [qf 6] (.h [jD 42 1,Rq 43 (.un .not (.t 42)),qm 44 43,Rf 45 44 (.m 0),Rf 46 44 (.len 1 (.t 45)),Rf 47 44 (.y .gtr 46 5),qp 48 44 47,qm 49 48,Rf 50 49 (.m 0),Rf 51 49 (.q 3 [.t 50]),Rf 52 49 (.y .neq 51 0),qp 53 49 52,qm 54 53,Rf 55 54 (.m 1),Rf 56 54 (.y .lss 55 (-20)),qp 57 54 56,qm 58 57,Rf 59 58 (.m 1),Rf 60 58 (.y .gtr 59 20),qp 61 58 60,qm 62 61,Rf 63 62 (.m 2),Rf 64 62 (.y .lss 63 (-20)),qp 65 62 64,qm 66 65,Rf 67 66 (.m 2),Rf 68 66 (.y .gtr 67 20),qp 69 66 68] 69 (.e [jD 70 1,qm 6 70]) (.g [qm 71 0,qn 72 1 71,qm 7 72] (.g [qm 74 0,qm 75 1,qm 76 2,fS 77 18 74 75 76,qm 73 77,qe 78 0 73,qe 79 1 73,qm 8 78,qm 9 79] (.g [qm 81 0,qm 82 1,Rq 83 (.un .neg (.t 82)),qm 84 2,Rq 85 (.un .neg (.t 84)),fS 86 18 81 83 85,qm 80 86,qe 87 0 80,qe 88 1 80,qm 10 87,qm 11 88] (.g [qm 90 0,qm 91 1,qm 92 7,qA 93 91 92,qm 94 2,qm 95 7,Rq 96 (.bin .mul (.k 2) (.t 95)),Rq 97 (.z .sub 94 96),fS
 98 18 90 93 97,qm 89 98,qe 99 0 89,qe 100 1 89,qm 12 99,qm 13 100] (.g [qm 102 0,qm 103 7,Rq 104 (.bin .mul (.k 3) (.t 103)),qm 105 7,Rq 106 (.un .neg (.t 105)),fS 107 18 102 104 106,qm 101 107,qe 108 0 101,qe 109 1 101,qm 14 108,qm 15 109] (.g [qm 111 0,ao 112 16 111,qm 110 112,qe 113 0 110,qe 114 1 110,qm 16 113,qm 17 114] (.g [qm 116 0,ao 117 17 116,qm 115 117,qe 118 0 115,qe 119 1 115,qm 18 118,qm 19 119] (.g [qm 121 0,qm 122 1,qm 123 2,fS 124 20 121 122 123,qm 120 124,qe 125 0 120,qe 126 1 120,qm 20 125,qm 21 126] (.h [qm 127 9,qm 128 11,qA 129 127 128,qm 130 13,qA 131 129 130,qm 132 15,qA 133 131 132,qm 134 17,qA 135 133 134,qm 136 19,qA 137 135 136,qm 138 21,qA 139 137 138,qN 140 139 0,qm 141 140,Rf 142 141 (.m 8),Rf 143 141 (.m 16),Rf 144 141 (.m 18),Rf 145 141 (.bw 3 1 [.str [],.str [],.str []] [(0,1,.t 142),(1,1,.t 143),(2,1,.t 144)]),Rf 146 141 (.q 261 [.t 145]),Rf 147 141
 (.y .neq 146 0),qp 148 141 147,qm 149 148,Rf 150 149 (.m 8),Rf 151 149 (.q 262 [.t 150]),Rf 152 149 (.y .lss 151 0),qp 153 149 152,qm 154 153,Rf 155 154 (.m 18),Rf 156 154 (.q 262 [.t 155]),Rf 157 154 (.y .lss 156 0),qp 158 154 157,qm 159 158,Rf 160 159 (.m 10),Rf 161 159 (.m 8),Rf 162 159 (.z .neq 160 161),qp 163 159 162,qm 164 163,Rf 165 164 (.m 12),Rf 166 164 (.m 8),Rf 167 164 (.z .neq 165 166),qp 168 164 167,qm 169 168,Rf 170 169 (.m 14),Rf 171 169 (.bin .neq (.t 170) (.s [48])),qp 172 169 171,qm 173 172,Rf 174 173 (.m 20),Rf 175 173 (.q 3 [.t 174]),Rf 176 173 (.y .neq 175 0),qp 177 173 176,qm 178 177,Rf 179 178 (.m 20),Rf 180 178 (.len 1 (.t 179)),Rf 181 178 (.m 7),Rf 182 178 (.z .neq 180 181),qp 183 178 182] 183 (.e [qf 6]) (.g [qm 185 20,ao 186 16 185,qm 184 186,qe 187 0 184,qe 188 1 184,qm 22 187,qm 23 188] (.g [qm 190 20,ao 191 17 190,qm 189 191,qe 192 0 189,qe 193 1 189,qm 24 192,qm
 25 193] (.g [qm 195 20,qm 196 1,qm 197 2,fS 198 18 195 196 197,qm 194 198,qe 199 0 194,qe 200 1 194,qm 26 199,qm 27 200] (.h [qm 201 23,qm 202 25,qA 203 201 202,qm 204 27,qA 205 203 204,qN 206 205 0,qm 207 206,Rf 208 207 (.m 22),Rf 209 207 (.m 16),Rf 210 207 (.z .neq 208 209),qp 211 207 210,qm 212 211,Rf 213 212 (.m 24),Rf 214 212 (.m 18),Rf 215 212 (.z .neq 213 214),qp 216 212 215,qm 217 216,Rf 218 217 (.m 26),Rf 219 217 (.m 8),Rf 220 217 (.z .neq 218 219),qp 221 217 220] 221 (.e [qf 6]) (.g [Rq 28 (.br (.s [48]))] (.q (.g [qm 222 7,qk 223 0] (.q (.aC 0 (.loop [0,7,16,18,28,222,223] Bg)) (.kp [0,7,16,18,28]))) (.h [qm 249 28,qm 250 7,qm 251 7,Rq 252 (.z .mul 250 251),ao 253 265 252,aA 254 266 249 253,qm 255 18,Rq 256 (.q 267 [.s [50],.t 255]),Rq 257 (.z .neq 254 256)] 257 (.e [qf 6]) (.g [qz 33] (.q (.g [qm 258 0,qn 259 1 258,qk 260 0] (.q (.aC 4 (.loop [0,16,18,33,259,260] Bh))
 (.kp [16,18,33]))) (.g [qm 284 33,ao 285 16 284,qm 283 285,qe 286 0 283,qe 287 1 283,qm 38 286,qm 39 287] (.g [qm 289 33,ao 290 17 289,qm 288 290,qe 291 0 288,qe 292 1 288,qm 40 291,qm 41 292] (.e [qm 293 39,qm 294 41,qA 295 293 294,qE 296 295 0,qm 297 296,Rt 298 297 (.m 38),Rt 299 297 (.m 16),Rt 300 297 (.q 268 [.t 299]),Rt 301 297 (.z .eql 298 300),qq 302 297 301,qm 303 302,Rt 304 303 (.m 40),Rt 305 303 (.m 18),Rt 306 303 (.z .eql 304 305),qq 307 303 306,qm 6 307]))))))))))))))))))))))⟩
def sZ:VC:=.q (.g [qm 5 3,qm 6 0,qn 7 1 6,qT 8 5 7] (.cond (.t 8) .skip (.exit 0))) (.q (.aC 1 (.g [qm 11 0,qm 12 3,qi 13 1 11 12,ql 14 1 13,ao 15 263 14,qm 4 15] (.g [qm 16 4,qN 17 16 0] (.i 17 (.e [qm 18 4,qm 2 18]))))) (.aG [qm 9 3,qa 10 9 1,qm 3 10]))
def B1:ax:=⟨[.t 2],.g [qk 2 0] (.q (.g [qk 3 0] (.q (.aC 0 (.loop [0,3] sZ)) (.kp []))) (.e [qk 2 0]))⟩
def B2:ax:=⟨[.t 2],.g [qk 2 0] (.h [qm 3 0,Rq 4 (.bin .eql (.t 3) (.s [48]))] 4 (.e [qk 2 0]) (.h [qm 5 0,qn 6 0 5,Rq 7 (.y .gtr 6 0),qm 8 7,Rt 9 8 (.m 0),Rt 10 8 (.iA (.t 9) (.k 0)),Rt 11 8 (.bin .eql (.t 10) (.c (.int .u8 45))),qq 12 8 11] 12 (.e [qk 2 (-1)]) (.e [qk 2 1])))⟩
def cB:ax:=⟨[.t 2],.g [qk 2 0] (.g [qm 8 0,qm 3 8] (.h [qm 9 3,qn 10 0 9,Rq 11 (.y .gtr 10 0),qm 12 11,Rt 13 12 (.m 3),Rt 14 12 (.iA (.t 13) (.k 0)),Rt 15 12 (.bin .eql (.t 14) (.c (.int .u8 45))),qq 16 12 15] 16 (.aG [qm 17 3,Rq 18 (.cY .str (.t 17) (some (.k 1)) none),qm 3 18]) (.g [qm 19 3,ao 20 272 19,qm 4 20] (.h [qm 21 3,qm 22 4,Rq 23 (.cY .str (.t 21) none (some (.t 22))),ao 24 273 23,Rq 25 (.un .not (.t 24)),qm 26 25,Rf 27 26 (.m 0),Rf 28 26 (.iA (.t 27) (.k 0)),Rf 29 26 (.bin .eql (.t 28) (.c (.int .u8 45))),Rf 30 26 (.m 29),Rt 31 30 (.m 3),Rt 32 30 (.m 4),Rt 33 30 (.cY .str (.t 31) none (some (.t 32))),Rt 34 30 (.bin .eql (.t 33) (.s [48])),Rf 35 26 (.pick (.t 30) (.t 34) (.c (.bool false))),qp 36 26 35] 36 (.e [qk 2 1]) (.h [qm 37 4,qm 38 3,qn 39 0 38,qT 40 37 39,qm 41 40,Rt 42 41 (.m 3),Rt 43 41 (.m 4),Rt 44 41 (.y .add 43 1),Rt 45 41 (.cY .str (.t 42) (some (.t 44)) none),Rt 46
 41 (.q 273 [.t 45]),Rt 47 41 (.un .not (.t 46)),Rt 48 41 (.m 47),Rf 49 48 (.m 3),Rf 50 48 (.m 4),Rf 51 48 (.y .add 50 1),Rf 52 48 (.cY .str (.t 49) (some (.t 51)) none),Rf 53 48 (.bin .eql (.t 52) (.s [48])),Rt 54 41 (.pick (.t 48) (.c (.bool true)) (.t 53)),Rt 55 41 (.m 54),Rf 56 55 (.m 3),Rf 57 55 (.m 4),Rf 58 55 (.y .add 57 1),Rf 59 55 (.cY .str (.t 56) (some (.t 58)) none),Rf 60 55 (.bin .eql (.t 59) (.s [49])),Rt 61 41 (.pick (.t 55) (.c (.bool true)) (.t 60)),qq 62 41 61] 62 (.e [qk 2 1]) (.h [qm 63 4,Rq 64 (.y .gtr 63 600),qm 65 64,Rf 66 65 (.m 3),Rf 67 65 (.len 0 (.t 66)),Rf 68 65 (.m 4),Rf 69 65 (.z .sub 67 68),Rf 70 65 (.y .sub 69 1),Rf 71 65 (.y .gtr 70 600),qp 72 65 71] 72 (.e [qk 2 4]) (.h [qm 73 4,qm 74 3,qn 75 0 74,qT 76 73 75] 76 (.g [qm 78 3,ao 79 274 78,qm 77 79,qe 80 0 77,qe 81 1 77,Rq 5 (.box 2 (.c (.agg [.bool false,.aa]))),Rq 6 (.box 2 (.c (.agg [.bool false,.aa]))),qs
 2 5 80,qs 2 6 81] (.g [qo 82 1 5,ql 83 1 82,qo 84 1 6,ql 85 1 84,aA 86 275 83 85,qm 7 86] (.g [qm 87 7,qn 88 1 87,qN 89 88 1,qm 90 89,Rf 91 90 (.m 7),Rf 92 90 (.bt 1 (.t 91) (.k 0)),Rf 93 90 (.ld 1 false (.t 92)),Rf 94 90 (.y .neq 93 1),qp 95 90 94] (.i 95 (.e [qk 2 1]))))) (.e [qk 2 0]))))))))⟩
def B3:ax:=⟨[.t 4],.g [Rq 4 (.br (.s []))] (.g [qm 16 0,ao 17 276 16,qm 15 17,qe 18 0 15,qe 19 1 15,qe 20 2 15,qm 5 18,qm 6 19,qm 7 20] (.g [qm 22 1,ao 23 276 22,qm 21 23,qe 24 0 21,qe 25 1 21,qe 26 2 21,qm 8 24,qm 9 25,qm 10 26] (.h [qm 27 7,qm 28 27,Rt 29 28 (.m 10),qq 30 28 29] 30 (.e [qm 31 5,qm 32 9,Rq 33 (.z .mul 31 32),qm 34 8,qm 35 6,Rq 36 (.z .mul 34 35),qA 37 33 36,qm 38 6,qm 39 9,Rq 40 (.z .mul 38 39),aA 41 277 37 40,qm 4 41]) (.g [qm 43 0,ao 44 274 43,qm 42 44,qe 45 0 42,qe 46 1 42,Rq 11 (.box 2 (.c (.agg [.bool false,.aa]))),Rq 12 (.box 2 (.c (.agg [.bool false,.aa]))),qs 2 11 45,qs 2 12 46] (.g [qm 48 1,ao 49 274 48,qm 47 49,qe 50 0 47,qe 51 1 47,Rq 13 (.box 2 (.c (.agg [.bool false,.aa]))),Rq 14 (.box 2 (.c (.agg [.bool false,.aa]))),qs 2 13 50,qs 2 14 51] (.e [qL 52 2 11,qL 53 2 14,aA 54 278 52 53,qL 55 2 13,qL 56 2 12,aA 57 278 55 56,aA 58 279 54 57,qL 59 2 12,qL 60
 2 14,aA 61 278 59 60,aA 62 280 58 61,qm 4 62]))))))⟩
def Fj:ax:=⟨[.t 2],.g [Rq 2 (.br (.s []))] (.e [qm 3 0,ao 4 281 3,ao 5 282 4,qm 2 5])⟩
def Fk:ax:=⟨[.t 4],.g [Rq 4 (.br (.s []))] (.e [qm 5 0,qm 6 1,ao 7 283 6,aA 8 267 5 7,qm 4 8])⟩
def B4:ax:=⟨[.t 4],.g [Rq 4 (.br (.s []))] (.g [qm 16 0,ao 17 276 16,qm 15 17,qe 18 0 15,qe 19 1 15,qe 20 2 15,qm 5 18,qm 6 19,qm 7 20] (.g [qm 22 1,ao 23 276 22,qm 21 23,qe 24 0 21,qe 25 1 21,qe 26 2 21,qm 8 24,qm 9 25,qm 10 26] (.h [qm 27 7,qm 28 27,Rt 29 28 (.m 10),qq 30 28 29] 30 (.e [qm 31 5,qm 32 8,Rq 33 (.z .mul 31 32),qm 34 6,qm 35 9,Rq 36 (.z .mul 34 35),aA 37 277 33 36,qm 4 37]) (.g [qm 39 0,ao 40 274 39,qm 38 40,qe 41 0 38,qe 42 1 38,Rq 11 (.box 2 (.c (.agg [.bool false,.aa]))),Rq 12 (.box 2 (.c (.agg [.bool false,.aa]))),qs 2 11 41,qs 2 12 42] (.g [qm 44 1,ao 45 274 44,qm 43 45,qe 46 0 43,qe 47 1 43,Rq 13 (.box 2 (.c (.agg [.bool false,.aa]))),Rq 14 (.box 2 (.c (.agg [.bool false,.aa]))),qs 2 13 46,qs 2 14 47] (.e [qL 48 2 11,qL 49 2 13,aA 50 278 48 49,qL 51 2 12,qL 52 2 14,aA 53 278 51 52,aA 54 280 50 53,qm 4 54]))))))⟩
def B5:ax:=⟨[.t 2],.g [Rq 2 (.br (.s []))] (.h [qm 3 0,ao 4 262 3,Rq 5 (.y .lss 4 0)] 5 (.e [qm 6 0,Rq 7 (.cY .str (.t 6) (some (.k 1)) none),qm 2 7]) (.h [qm 8 0,ao 9 262 8,qE 10 9 0] 10 (.e [qm 11 0,qm 2 11]) (.e [qm 12 0,Rq 13 (.bin .add (.s [45]) (.t 12)),qm 2 13])))⟩
def Ug:ax:=⟨[.t 4],.g [Rq 4 (.br (.s []))] (.e [qm 5 0,qm 6 1,ao 7 268 6,aA 8 264 5 7,qm 4 8])⟩
def s5:VC:=.q (.g [qm 4 3,qm 5 0,qn 6 0 5,qT 7 4 6] (.cond (.t 7) .skip (.exit 0))) (.q (.aC 1 (.g [qm 10 0,qm 11 3,Rq 12 (.iA (.t 10) (.t 11)),Rq 13 (.bin .eql (.t 12) (.c (.int .u8 47)))] (.i 13 (.e [qm 14 3,qm 2 14])))) (.aG [qm 8 3,qa 9 8 1,qm 3 9]))
def B6:ax:=⟨[.t 2],.g [qk 2 0] (.q (.g [qk 3 0] (.q (.aC 0 (.loop [0,3] s5)) (.kp [0]))) (.e [qm 15 0,qn 16 0 15,qm 2 16]))⟩
def rC:ax:=⟨[.t 2],.g [qf 2] (.h [qm 3 0,qn 4 0 3,qE 5 4 0,qm 6 5,Rf 7 6 (.m 0),Rf 8 6 (.len 0 (.t 7)),Rf 9 6 (.y .gtr 8 1),Rf 10 6 (.m 9),Rt 11 10 (.m 0),Rt 12 10 (.iA (.t 11) (.k 0)),Rt 13 10 (.bin .eql (.t 12) (.c (.int .u8 48))),Rf 14 6 (.pick (.t 10) (.t 13) (.c (.bool false))),qp 15 6 14] 15 (.e [qf 2]) (.e [qm 16 0,ao 17 287 16,qm 2 17]))⟩
def Fl:ax:=⟨[.cell 2 2 true,.cell 3 2 true],.g [Rq 2 (.box 2 (.c (.agg [.bool false,.aa]))),Rq 3 (.box 2 (.c (.agg [.bool false,.aa])))] (.g [qm 6 0,qm 4 6] (.g [qm 7 4,ao 8 272 7,qm 5 8] (.h [qm 9 5,qm 10 4,qn 11 0 10,Rq 12 (.z .eql 9 11)] 12 (.e [qm 13 4,ao 14 288 13,Rq 15 (.q 281 [.k 1]),qs 2 2 14,qs 2 3 15]) (.e [qm 16 4,qm 17 5,Rq 18 (.cY .str (.t 16) none (some (.t 17))),ao 19 288 18,qm 20 4,qm 21 5,qa 22 21 1,Rq 23 (.cY .str (.t 20) (some (.t 22)) none),ao 24 288 23,qs 2 2 19,qs 2 3 24]))))⟩
def Bi:VC:=.q (.g [qm 7 1,qn 8 1 7,Rq 9 (.y .gtr 8 0)] (.cond (.t 9) .skip (.exit 0))) (.aC 1 (.g [qm 11 0,qm 12 1,aA 13 289 11 12,qm 10 13,qe 14 0 10,qe 15 1 10,qm 5 14,qm 6 15] (.aG [qm 16 1,qm 17 6,qm 0 16,qm 1 17])))
def Fm:ax:=⟨[.t 4],.g [qz 4] (.q (.q (.aC 0 (.loop [0,1] Bi)) (.kp [0])) (.e [qm 18 0,qm 4 18]))⟩
def kF:ax:=⟨[.t 2,.t 3,.t 4],.g [qk 2 0,qk 3 0,qf 4] (.g [qm 10 0,qm 5 10] (.h [qm 11 5,qn 12 0 11,Rq 13 (.y .gtr 12 20)] 13 (.e [qk 2 0,qk 3 0,qf 4]) (.g [qm 14 5,qn 15 0 14,Rq 16 (.y .gtr 15 0),qm 17 16,Rt 18 17 (.m 5),Rt 19 17 (.iA (.t 18) (.k 0)),Rt 20 17 (.bin .eql (.t 19) (.c (.int .u8 45))),qq 21 17 20,qm 6 21] (.h [qm 22 6] 22 (.aG [qm 23 5,Rq 24 (.cY .str (.t 23) (some (.k 1)) none),qm 5 24]) (.g [qm 25 5,ao 26 272 25,qm 7 26] (.h [qm 27 7,Rq 28 (.y .gtr 27 9),qm 29 28,Rf 30 29 (.m 5),Rf 31 29 (.len 0 (.t 30)),Rf 32 29 (.m 7),Rf 33 29 (.z .sub 31 32),Rf 34 29 (.y .gtr 33 10),qp 35 29 34] 35 (.e [qk 2 0,qk 3 0,qf 4]) (.g [qm 36 5,qm 37 7,Rq 38 (.cY .str (.t 36) none (some (.t 37))),ao 39 290 38,qm 8 39,qk 9 1] (.h [qm 40 7,qm 41 5,qn 42 0 41,qT 43 40 42] 43 (.aG [qm 44 5,qm 45 7,qa 46 45 1,Rq 47 (.cY .str (.t 44) (some (.t 46)) none),ao 48 290 47,qm 9 48]) (.h [qm 49 6] 49 (.aG [qm
 50 8,Rq 51 (.bin .sub (.k 0) (.t 50)),qm 8 51]) (.e [qm 52 8,qm 53 9,qm 2 52,qm 3 53,Rq 4 (.br (.c (.bool true)))]))))))))))⟩
def rD:ax:=⟨[.t 4],.g [Rq 4 (.br (.s []))] (.h [qm 7 0,Rq 8 (.y .lss 7 (-4000000000000000000)),qm 9 8,Rf 10 9 (.m 0),Rf 11 9 (.y .gtr 10 4000000000000000000),qp 12 9 11,qm 13 12,Rf 14 13 (.m 1),Rf 15 13 (.y .lss 14 (-4000000000000000000)),qp 16 13 15,qm 17 16,Rf 18 17 (.m 1),Rf 19 17 (.y .gtr 18 4000000000000000000),qp 20 17 19] 20 (.e [qm 21 0,ao 22 281 21,qm 23 1,ao 24 281 23,aA 25 280 22 24,qm 4 25]) (.h [qm 26 1,Rq 27 (.y .lss 26 0)] 27 (.aG [qm 28 0,Rq 29 (.bin .sub (.k 0) (.t 28)),qm 30 1,Rq 31 (.bin .sub (.k 0) (.t 30)),qm 0 29,qm 1 31]) (.g [qm 32 0,qm 33 0,Rq 34 (.bin .sub (.k 0) (.t 33)),Rq 35 (.mx [.t 32,.t 34]),qm 36 1,aA 37 291 35 36,qm 5 37] (.g [qm 38 0,qm 39 5,Rq 40 (.z .quo 38 39),qm 41 1,qm 42 5,Rq 43 (.z .quo 41 42),qm 0 40,qm 1 43] (.g [Rq 6 (.br (.s []))] (.h [qm 44 0,Rq 45 (.y .lss 44 0)] 45 (.aG [Rq 6 (.br (.s [45]))]) (.g [qm 46 6,qm 47 0,qm 48 0,Rq 49 (.bin .sub (.k
 0) (.t 48)),Rq 50 (.mx [.t 47,.t 49]),Rq 51 (.q 292 [.t 50,.k 1]),qA 52 46 51,qm 6 52] (.h [qm 53 1,Rq 54 (.y .gtr 53 1)] 54 (.aG [qm 55 6,Rq 56 (.bin .add (.t 55) (.s [47])),qm 57 1,Rq 58 (.q 292 [.t 57,.k 1]),qA 59 56 58,qm 6 59]) (.e [qm 60 6,qm 4 60])))))))))⟩
def Fo:ax:=⟨[.cell 4 2 true],.g [qb 2 2 0,qb 3 2 1,Rq 4 (.box 2 (.c (.agg [.bool false,.aa])))] (.e [qo 5 0 2,ql 6 1 5,qo 7 0 3,ql 8 1 7,Rq 9 (.eq true .b (.t 6) (.t 8)),qo 10 1 2,ql 11 1 10,qo 12 1 3,ql 13 1 12,aA 14 293 11 13,aA 15 294 9 14,qs 2 4 15])⟩
def zC:ax:=⟨[.cell 4 2 true],.g [qb 2 2 0,qb 3 2 1,Rq 4 (.box 2 (.c (.agg [.bool false,.aa])))] (.h [qo 5 0 2,ql 6 1 5,qo 7 0 3,ql 8 1 7,Rq 9 (.eq false .b (.t 6) (.t 8))] 9 (.e [qo 10 0 2,ql 11 1 10,qo 12 1 2,ql 13 1 12,qo 14 1 3,ql 15 1 14,aA 16 295 13 15,aA 17 294 11 16,qs 2 4 17]) (.h [qo 18 1 2,ql 19 1 18,qo 20 1 3,ql 21 1 20,aA 22 296 19 21,Rq 23 (.y .geq 22 0)] 23 (.e [qo 24 0 2,ql 25 1 24,qo 26 1 2,ql 27 1 26,qo 28 1 3,ql 29 1 28,aA 30 297 27 29,aA 31 294 25 30,qs 2 4 31]) (.e [qo 32 0 3,ql 33 1 32,qo 34 1 3,ql 35 1 34,qo 36 1 2,ql 37 1 36,aA 38 297 35 37,aA 39 294 33 38,qs 2 4 39])))⟩
def jR:ax:=⟨[.t 4],.g [qb 2 2 0,qb 3 2 1,Rq 4 (.br (.s []))] (.h [qo 11 0 3,ql 12 1 11] 12 (.aG [qL 13 2 2,ao 14 298 13,qL 15 2 3,ao 16 298 15,qs 2 2 14,qs 2 3 16]) (.g [qo 17 1 2,ql 18 1 17,qo 19 1 3,ql 20 1 19,aA 21 275 18 20,qm 5 21] (.g [qo 23 1 2,ql 24 1 23,qm 25 5,aA 26 289 24 25,qm 22 26,qe 27 0 22,qe 28 1 22,qm 6 27,qm 7 28] (.g [qo 30 1 3,ql 31 1 30,qm 32 5,aA 33 289 31 32,qm 29 33,qe 34 0 29,qe 35 1 29,qm 8 34,qm 9 35] (.g [qo 36 0 2,ql 37 1 36,qm 38 6,aA 39 294 37 38,ao 40 282 39,qm 10 40] (.h [qm 41 8,qn 42 1 41,qE 43 42 1,qm 44 43,Rt 45 44 (.m 8),Rt 46 44 (.bt 1 (.t 45) (.k 0)),Rt 47 44 (.ld 1 false (.t 46)),Rt 48 44 (.y .eql 47 1),qq 49 44 48] 49 (.e [qm 50 10,qm 4 50]) (.e [qm 51 10,Rq 52 (.bin .add (.t 51) (.s [47])),qm 53 8,Rq 54 (.q 294 [.c (.bool false),.t 53]),ao 55 282 54,qA 56 52 55,qm 4 56])))))))⟩
def ml:VC:=.q (.g [qm 8 0,qN 9 8 0] (.cond (.t 9) .skip (.exit 0))) (.aC 1 (.g [qm 10 0,Rq 11 (.y .rem 10 1000000000),qm 5 11] (.h [qm 12 5,Rq 13 (.y .lss 12 0)] 13 (.aG [qm 14 5,Rq 15 (.bin .sub (.k 0) (.t 14)),qm 5 15]) (.g [qm 16 3,qm 17 5,Rq 18 (.bw 1 1 [.i 0] [(0,1,.t 17)]),Rq 19 (.cy 1 8 (.t 16) (.t 18)),qm 3 19] (.aG [qm 20 0,Rq 21 (.y .quo 20 1000000000),qm 0 21])))))
def Fp:ax:=⟨[.cell 2 2 true],.g [Rq 2 (.box 2 (.c (.agg [.bool false,.aa])))] (.g [qz 3] (.g [qm 6 0,Rq 7 (.y .lss 6 0),qm 4 7] (.q (.q (.aC 0 (.loop [0,2,3,4] ml)) (.kp [2,3,4])) (.e [qm 22 4,qm 23 3,aA 24 294 22 23,qs 2 2 24]))))⟩
def Bj:VC:=.q (.g [qm 22 4,Rq 23 (.y .geq 22 0)] (.cond (.t 23) .skip (.exit 0))) (.q (.aC 1 (.aG [qm 26 3,qo 27 1 1,ql 28 1 27,qm 29 4,qi 30 1 28 29,ql 31 1 30,Rq 32 (.q 292 [.t 31,.k 9]),qA 33 26 32,qm 3 33])) (.aG [qm 24 4,Rq 25 (.y .sub 24 1),qm 4 25]))
def B7:ax:=⟨[.t 2],.g [qb 1 2 0,Rq 2 (.br (.s []))] (.h [qo 5 1 1,ql 6 1 5,qn 7 1 6,qE 8 7 0] 8 (.e [Rq 2 (.br (.s [48]))]) (.g [qo 9 1 1,ql 10 1 9,qo 11 1 1,ql 12 1 11,qn 13 1 12,Rq 14 (.y .sub 13 1),qi 15 1 10 14,ql 16 1 15,Rq 17 (.q 292 [.t 16,.k 1]),qm 3 17] (.q (.g [qo 18 1 1,ql 19 1 18,qn 20 1 19,Rq 21 (.y .sub 20 2),qm 4 21] (.q (.aC 0 (.loop [1,3,4] Bj)) (.kp [1,3]))) (.h [qo 34 0 1,ql 35 1 34] 35 (.e [qm 36 3,Rq 37 (.bin .add (.s [45]) (.t 36)),qm 2 37]) (.e [qm 38 3,qm 2 38])))))⟩
def B8:ax:=⟨[.t 2],.g [Rq 2 (.br (.s []))] (.g [qm 6 0,ao 7 274 6,qm 5 7,qe 8 0 5,qe 9 1 5,Rq 3 (.box 2 (.c (.agg [.bool false,.aa]))),Rq 4 (.box 2 (.c (.agg [.bool false,.aa]))),qs 2 3 8,qs 2 4 9] (.e [qL 10 2 4,qL 11 2 3,aA 12 280 10 11,qm 2 12]))⟩
def Uh:ax:=⟨[.t 2],.g [Rq 2 (.br (.s []))] (.e [qm 3 0,qm 4 0,ao 5 272 4,Rq 6 (.cY .str (.t 3) none (some (.t 5))),qm 2 6])⟩
def Ui:ax:=⟨[.t 2],.g [Rq 2 (.br (.s []))] (.h [qm 3 0,ao 4 262 3,Rq 5 (.y .lss 4 0)] 5 (.e [qm 6 0,Rq 7 (.cY .str (.t 6) (some (.k 1)) none),qm 2 7]) (.e [qm 8 0,qm 2 8]))⟩
def Uj:ax:=⟨[.t 2],.g [Rq 2 (.br (.s []))] (.g [qm 4 0,ao 5 272 4,qm 3 5] (.h [qm 6 3,qm 7 0,qn 8 0 7,Rq 9 (.z .eql 6 8)] 9 (.e [Rq 2 (.br (.s [49]))]) (.e [qm 10 0,qm 11 3,qa 12 11 1,Rq 13 (.cY .str (.t 10) (some (.t 12)) none),qm 2 13])))⟩
def qH:VC:=.q (.g [qm 4 3,qm 5 0,qn 6 0 5,qT 7 4 6] (.cond (.t 7) .skip (.exit 0))) (.q (.aC 1 (.g [qm 10 0,qm 11 3,Rq 12 (.iA (.t 10) (.t 11)),Rq 13 (.bin .lss (.t 12) (.c (.int .u8 48))),qm 14 13,Rf 15 14 (.m 0),Rf 16 14 (.m 3),Rf 17 14 (.iA (.t 15) (.t 16)),Rf 18 14 (.bin .gtr (.t 17) (.c (.int .u8 57))),qp 19 14 18] (.i 19 (.e [qf 2])))) (.aG [qm 8 3,qa 9 8 1,qm 3 9]))
def B9:ax:=⟨[.t 2],.g [qf 2] (.q (.g [qk 3 0] (.q (.aC 0 (.loop [0,3] qH)) (.kp []))) (.e [Rq 2 (.br (.c (.bool true)))]))⟩
def nB:VC:=.q (.g [qm 16 0,qn 17 0 16,Rq 18 (.y .gtr 17 9)] (.cond (.t 18) .skip (.exit 0))) (.aC 1 (.g [qm 19 4,qm 20 0,qm 21 0,qn 22 0 21,Rq 23 (.y .sub 22 9),Rq 24 (.cY .str (.t 20) (some (.t 23)) none),ao 25 290 24,Rq 26 (.bw 1 1 [.i 0] [(0,1,.t 25)]),Rq 27 (.cy 1 8 (.t 19) (.t 26)),qm 4 27] (.aG [qm 28 0,qm 29 0,qn 30 0 29,Rq 31 (.y .sub 30 9),Rq 32 (.cY .str (.t 28) none (some (.t 31))),qm 0 32])))
def Fs:ax:=⟨[.cell 2 2 true],.g [Rq 2 (.box 2 (.c (.agg [.bool false,.aa])))] (.g [qm 5 0,qn 6 0 5,Rq 7 (.y .gtr 6 0),qm 8 7,Rt 9 8 (.m 0),Rt 10 8 (.iA (.t 9) (.k 0)),Rt 11 8 (.bin .eql (.t 10) (.c (.int .u8 45))),qq 12 8 11,qm 3 12] (.h [qm 13 3] 13 (.aG [qm 14 0,Rq 15 (.cY .str (.t 14) (some (.k 1)) none),qm 0 15]) (.g [qz 4] (.q (.q (.aC 0 (.loop [0,2,3,4] nB)) (.kp [0,2,3,4])) (.e [qm 33 3,qm 34 4,qm 35 0,ao 36 290 35,Rq 37 (.bw 1 1 [.i 0] [(0,1,.t 36)]),Rq 38 (.cy 1 8 (.t 34) (.t 37)),aA 39 294 33 38,qs 2 2 39])))))⟩
def Bk:VC:=.q (.g [qm 63 11,qn 64 1 63,qm 65 0,qn 66 1 65,qa 67 66 1,qT 68 64 67] (.cond (.t 68) .skip (.exit 0))) (.aC 1 (.aG [qm 69 11,Rq 70 (.bw 1 1 [.i 0] [(0,1,.k 0)]),Rq 71 (.cy 1 8 (.t 69) (.t 70)),qm 11 71]))
def s6:VC:=.q (.g [qm 90 16,qm 91 10,qT 92 90 91] (.cond (.t 92) .skip (.exit 4))) (.q (.aC 5 (.g [qm 95 14,qm 96 9,qm 97 16,qi 98 1 96 97,ql 99 1 98,Rq 100 (.z .mul 95 99),qm 101 15,qA 102 100 101,qm 17 102] (.g [qm 103 11,qm 104 16,qm 105 13,qA 106 104 105,qi 107 1 103 106,ql 108 1 107,qm 109 17,Rq 110 (.y .rem 109 1000000000),Rq 111 (.z .sub 108 110),qm 18 111] (.g [qm 112 17,Rq 113 (.y .quo 112 1000000000),qm 15 113] (.h [qm 114 18,Rq 115 (.y .lss 114 0)] 115 (.g [qm 116 18,qa 117 116 1000000000,qm 18 117] (.aG [qm 118 15,qa 119 118 1,qm 15 119])) (.aG [qm 120 11,qm 121 16,qm 122 13,qA 123 121 122,qm 124 18,qi 125 1 120 123,qs 1 125 124])))))) (.aG [qm 93 16,qa 94 93 1,qm 16 94]))
def Bl:VC:=.q (.g [qm 148 20,qm 149 10,qT 150 148 149] (.cond (.t 150) .skip (.exit 6))) (.q (.aC 7 (.g [qm 153 11,qm 154 20,qm 155 13,qA 156 154 155,qi 157 1 153 156,ql 158 1 157,qm 159 9,qm 160 20,qi 161 1 159 160,ql 162 1 161,qA 163 158 162,qm 164 19,qA 165 163 164,qm 21 165] (.g [qm 166 11,qm 167 20,qm 168 13,qA 169 167 168,qm 170 21,Rq 171 (.y .rem 170 1000000000),qi 172 1 166 169,qs 1 172 171] (.aG [qm 173 21,Rq 174 (.y .quo 173 1000000000),qm 19 174])))) (.aG [qm 151 20,qa 152 151 1,qm 20 152]))
def Bm:VC:=.q (.g [qm 82 13,Rq 83 (.y .geq 82 0)] (.cond (.t 83) .skip (.exit 2))) (.q (.aC 3 (.g [qm 86 11,qm 87 9,qm 88 13,Rq 89 (.call .heap (.F 301) [.t 86,.t 87,.t 88]),qm 14 89] (.g [qk 15 0] (.q (.g [qk 16 0] (.q (.aC 4 (.loop [8,9,10,11,12,13,14,15,16] s6)) (.kp [8,9,10,11,12,13,14,15]))) (.g [qm 126 11,qm 127 13,qm 128 10,qA 129 127 128,qm 130 11,qm 131 13,qm 132 10,qA 133 131 132,qi 134 1 130 133,ql 135 1 134,qm 136 15,Rq 137 (.z .sub 135 136),qi 138 1 126 129,qs 1 138 137] (.h [qm 139 11,qm 140 13,qm 141 10,qA 142 140 141,qi 143 1 139 142,ql 144 1 143,Rq 145 (.y .lss 144 0)] 145 (.g [qm 146 14,Rq 147 (.y .sub 146 1),qm 14 147] (.g [qk 19 0] (.q (.g [qk 20 0] (.q (.aC 6 (.loop [8,9,10,11,12,13,14,19,20] Bl)) (.kp [8,9,10,11,12,13,14,19]))) (.aG [qm 175 11,qm 176 13,qm 177 10,qA 178 176 177,qm 179 11,qm 180 13,qm 181 10,qA 182 180 181,qi 183 1 179 182,ql 184 1 183,qm 185 19,qA 186
 184 185,qi 187 1 175 178,qs 1 187 186])))) (.aG [qm 188 12,qm 189 13,qm 190 14,qi 191 1 188 189,qs 1 191 190]))))))) (.aG [qm 84 13,Rq 85 (.y .sub 84 1),qm 13 85]))
def mB:ax:=⟨[.t 4,.t 5],.g [qz 4,qz 5] (.h [qm 24 0,qm 25 1,aA 26 296 24 25,Rq 27 (.y .lss 26 0)] 27 (.e [qm 28 0,qz 4,qm 5 28]) (.h [qm 29 1,qn 30 1 29,qE 31 30 1] 31 (.g [qm 33 0,qm 34 1,Rq 35 (.bt 1 (.t 34) (.k 0)),ql 36 1 35,aA 37 299 33 36,qm 32 37,qe 38 0 32,qe 39 1 32,qm 6 38,qm 7 39] (.e [qm 40 6,qm 41 7,Rq 42 (.bw 1 1 [.i 0] [(0,1,.t 41)]),ao 43 300 42,qm 4 40,qm 5 43])) (.g [qm 44 1,qm 45 1,qn 46 1 45,Rq 47 (.y .sub 46 1),qi 48 1 44 47,ql 49 1 48,qa 50 49 1,Rq 51 (.bin .quo (.k 1000000000) (.t 50)),Rq 52 (.bw 1 1 [.i 0] [(0,1,.t 51)]),qm 8 52] (.g [qm 53 1,qm 54 8,aA 55 293 53 54,qm 9 55] (.g [qm 56 9,qn 57 1 56,qm 10 57] (.g [Rq 58 (.bw 0 1 [] []),qm 59 0,qm 60 8,aA 61 293 59 60,Rq 62 (.cy 1 8 (.t 58) (.t 61)),qm 11 62] (.q (.q (.aC 0 (.loop [0,8,9,10,11] Bk)) (.kp [8,9,10,11])) (.g [qm 72 11,qn 73 1 72,qm 74 10,Rq 75 (.z .sub 73 74),Rq 76 (.eY 1 8 [.i 0] (.t 75) (.t 75)),qm
 12 76] (.q (.g [qm 77 11,qn 78 1 77,qm 79 10,Rq 80 (.z .sub 78 79),Rq 81 (.y .sub 80 1),qm 13 81] (.q (.aC 2 (.loop [8,9,10,11,12,13] Bm)) (.kp [8,10,11,12]))) (.g [qm 193 11,qm 194 10,Rq 195 (.cY (.sl 1) (.t 193) none (some (.t 194))),ao 196 300 195,qm 197 8,Rq 198 (.bt 1 (.t 197) (.k 0)),ql 199 1 198,aA 200 299 196 199,qm 192 200,qe 201 0 192,qe 202 1 192,qm 22 201,qm 23 202] (.e [qm 203 12,ao 204 300 203,qm 205 22,qm 4 204,qm 5 205])))))))))))⟩
def Bn:VC:=.q (.g [qm 5 4,qm 6 0,qn 7 0 6,qT 8 5 7] (.cond (.t 8) .skip (.exit 0))) (.q (.aC 1 (.aG [qm 11 3,Rq 12 (.bin .mul (.k 10) (.t 11)),qm 13 0,qm 14 4,Rq 15 (.iA (.t 13) (.t 14)),Rq 16 (.cv (.toInt .i64) (.t 15)),qA 17 12 16,Rq 18 (.y .sub 17 48),qm 3 18])) (.aG [qm 9 4,qa 10 9 1,qm 4 10]))
def zD:ax:=⟨[.t 2],.g [qk 2 0] (.g [qk 3 0] (.q (.g [qk 4 0] (.q (.aC 0 (.loop [0,3,4] Bn)) (.kp [3]))) (.e [qm 19 3,qm 2 19])))⟩
def Bo:VC:=.q (.g [qm 5 1,Rq 6 (.y .gtr 5 0)] (.cond (.t 6) .skip (.exit 0))) (.aC 1 (.aG [qm 7 1,qm 8 0,qm 9 1,Rq 10 (.z .rem 8 9),qm 0 7,qm 1 10]))
def Ca:ax:=⟨[.t 4],.g [qk 4 0] (.q (.q (.aC 0 (.loop [0,1] Bo)) (.kp [0])) (.e [qm 11 0,qm 4 11]))⟩
def jL:VC:=.q (.g [qm 6 0,Rq 7 (.y .gtr 6 0),qm 8 7,Rf 9 8 (.m 5),Rf 10 8 (.len 0 (.t 9)),Rf 11 8 (.m 1),Rf 12 8 (.z .lss 10 11),qp 13 8 12] (.cond (.t 13) .skip (.exit 0))) (.aC 1 (.g [qm 14 0,Rq 15 (.y .rem 14 10),qm 16 0,Rq 17 (.y .rem 16 10),qa 18 17 1,Rq 19 (.cY .str (.s [48,49,50,51,52,53,54,55,56,57]) (some (.t 15)) (some (.t 18))),qm 20 5,qA 21 19 20,qm 5 21] (.aG [qm 22 0,Rq 23 (.y .quo 22 10),qm 0 23])))
def nP:ax:=⟨[.t 4],.g [Rq 4 (.br (.s []))] (.g [Rq 5 (.br (.s []))] (.q (.q (.aC 0 (.loop [0,1,5] jL)) (.kp [5])) (.e [qm 24 5,qm 4 24])))⟩
def Bp:VC:=.q (.g [qm 22 8,qm 23 1,qn 24 1 23,qT 25 22 24] (.cond (.t 25) .skip (.exit 2))) (.q (.aC 3 (.g [qm 28 5,qm 29 6,qm 30 8,qA 31 29 30,qi 32 1 28 31,ql 33 1 32,qm 34 0,qm 35 6,qi 36 1 34 35,ql 37 1 36,qm 38 1,qm 39 8,qi 40 1 38 39,ql 41 1 40,Rq 42 (.z .mul 37 41),qA 43 33 42,qm 44 7,qA 45 43 44,qm 9 45] (.g [qm 46 5,qm 47 6,qm 48 8,qA 49 47 48,qm 50 9,Rq 51 (.y .rem 50 1000000000),qi 52 1 46 49,qs 1 52 51] (.aG [qm 53 9,Rq 54 (.y .quo 53 1000000000),qm 7 54])))) (.aG [qm 26 8,qa 27 26 1,qm 8 27]))
def Bq:VC:=.q (.g [qm 16 6,qm 17 0,qn 18 1 17,qT 19 16 18] (.cond (.t 19) .skip (.exit 0))) (.q (.aC 1 (.g [qk 7 0] (.q (.g [qk 8 0] (.q (.aC 2 (.loop [0,1,5,6,7,8] Bp)) (.kp [0,1,5,6,7]))) (.aG [qm 55 5,qm 56 6,qm 57 1,qn 58 1 57,qA 59 56 58,qm 60 5,qm 61 6,qm 62 1,qn 63 1 62,qA 64 61 63,qi 65 1 60 64,ql 66 1 65,qm 67 7,qA 68 66 67,qi 69 1 55 59,qs 1 69 68])))) (.aG [qm 20 6,qa 21 20 1,qm 6 21]))
def o5:ax:=⟨[.t 4],.g [qz 4] (.g [qm 10 0,qn 11 1 10,qm 12 1,qn 13 1 12,qA 14 11 13,Rq 15 (.eY 1 8 [.i 0] (.t 14) (.t 14)),qm 5 15] (.q (.g [qk 6 0] (.q (.aC 0 (.loop [0,1,5,6] Bq)) (.kp [5]))) (.e [qm 70 5,ao 71 300 70,qm 4 71])))⟩
def o6:ax:=⟨[.cell 4 2 true],.g [Rq 4 (.box 2 (.c (.agg [.bool false,.aa])))] (.g [qm 5 1,ao 6 300 5,qm 1 6] (.e [qm 7 0,qm 8 7,Rt 9 8 (.m 1),Rt 10 8 (.len 1 (.t 9)),Rt 11 8 (.y .gtr 10 0),qq 12 8 11,qm 13 1,Rq 14 (.cp [.bool false,.aa] [(0,1,.t 12),(1,1,.t 13)]),qs 2 4 14]))⟩
def kz:VC:=.q (.g [qm 9 7,qm 10 0,qn 11 1 10,qT 12 9 11,qm 13 12,Rf 14 13 (.m 7),Rf 15 13 (.m 1),Rf 16 13 (.len 1 (.t 15)),Rf 17 13 (.z .lss 14 16),qp 18 13 17,qm 19 18,Rf 20 19 (.m 6),Rf 21 19 (.y .gtr 20 0),qp 22 19 21] (.cond (.t 22) .skip (.exit 0))) (.q (.aC 1 (.g [qm 25 0,qm 26 7,aA 27 302 25 26,qm 28 1,qm 29 7,aA 30 302 28 29,qA 31 27 30,qm 32 6,qA 33 31 32,qm 8 33] (.g [qm 34 5,qm 35 8,Rq 36 (.y .rem 35 1000000000),Rq 37 (.bw 1 1 [.i 0] [(0,1,.t 36)]),Rq 38 (.cy 1 8 (.t 34) (.t 37)),qm 5 38] (.aG [qm 39 8,Rq 40 (.y .quo 39 1000000000),qm 6 40])))) (.aG [qm 23 7,qa 24 23 1,qm 7 24]))
def Cb:ax:=⟨[.t 4],.g [qz 4] (.g [qz 5] (.g [qk 6 0] (.q (.g [qk 7 0] (.q (.aC 0 (.loop [0,1,5,6,7] kz)) (.kp [5]))) (.e [qm 41 5,qm 4 41]))))⟩
def qI:VC:=.q (.g [qm 19 5,Rq 20 (.y .geq 19 0)] (.cond (.t 20) .skip (.exit 0))) (.q (.aC 1 (.h [qm 23 0,qm 24 5,qi 25 1 23 24,ql 26 1 25,qm 27 1,qm 28 5,qi 29 1 27 28,ql 30 1 29,qT 31 26 30] 31 (.e [qk 4 (-1)]) (.g [qm 32 0,qm 33 5,qi 34 1 32 33,ql 35 1 34,qm 36 1,qm 37 5,qi 38 1 36 37,ql 39 1 38,Rq 40 (.z .gtr 35 39)] (.i 40 (.e [qk 4 1]))))) (.aG [qm 21 5,Rq 22 (.y .sub 21 1),qm 5 22]))
def mC:ax:=⟨[.t 4],.g [qk 4 0] (.h [qm 6 0,qn 7 1 6,qm 8 1,qn 9 1 8,Rq 10 (.z .neq 7 9)] 10 (.h [qm 11 0,qn 12 1 11,qm 13 1,qn 14 1 13,qT 15 12 14] 15 (.e [qk 4 (-1)]) (.e [qk 4 1])) (.q (.g [qm 16 0,qn 17 1 16,Rq 18 (.y .sub 17 1),qm 5 18] (.q (.aC 0 (.loop [0,1,5] qI)) (.kp []))) (.e [qk 4 0])))⟩
def mo:VC:=.q (.g [qm 9 7,qm 10 0,qn 11 1 10,qT 12 9 11] (.cond (.t 12) .skip (.exit 0))) (.q (.aC 1 (.g [qm 15 0,qm 16 7,qi 17 1 15 16,ql 18 1 17,qm 19 1,qm 20 7,aA 21 302 19 20,Rq 22 (.z .sub 18 21),qm 23 6,Rq 24 (.z .sub 22 23),qm 8 24] (.g [qk 6 0] (.h [qm 25 8,Rq 26 (.y .lss 25 0)] 26 (.g [qm 27 8,qa 28 27 1000000000,qm 8 28] (.aG [qk 6 1])) (.aG [qm 29 5,qm 30 8,Rq 31 (.bw 1 1 [.i 0] [(0,1,.t 30)]),Rq 32 (.cy 1 8 (.t 29) (.t 31)),qm 5 32]))))) (.aG [qm 13 7,qa 14 13 1,qm 7 14]))
def Cc:ax:=⟨[.t 4],.g [qz 4] (.g [qz 5] (.g [qk 6 0] (.q (.g [qk 7 0] (.q (.aC 0 (.loop [0,1,5,6,7] mo)) (.kp [5]))) (.e [qm 33 5,ao 34 300 33,qm 4 34]))))⟩
def Ft:ax:=⟨[.cell 2 2 true],.g [qb 1 2 0,Rq 2 (.box 2 (.c (.agg [.bool false,.aa])))] (.e [qo 3 0 1,ql 4 1 3,Rq 5 (.un .not (.t 4)),qo 6 1 1,ql 7 1 6,aA 8 294 5 7,qs 2 2 8])⟩
def Br:VC:=.q (.g [qm 16 8,Rq 17 (.y .geq 16 0)] (.cond (.t 17) .skip (.exit 0))) (.q (.aC 1 (.g [qm 20 7,Rq 21 (.y .mul 20 1000000000),qm 22 0,qm 23 8,qi 24 1 22 23,ql 25 1 24,qA 26 21 25,qm 9 26] (.g [qm 27 6,qm 28 8,qm 29 9,qm 30 1,Rq 31 (.z .quo 29 30),qi 32 1 27 28,qs 1 32 31] (.aG [qm 33 9,qm 34 1,Rq 35 (.z .rem 33 34),qm 7 35])))) (.aG [qm 18 8,Rq 19 (.y .sub 18 1),qm 8 19]))
def o7:ax:=⟨[.t 4,.t 5],.g [qz 4,qk 5 0] (.g [qm 10 0,qn 11 1 10,Rq 12 (.eY 1 8 [.i 0] (.t 11) (.t 11)),qm 6 12] (.g [qk 7 0] (.q (.g [qm 13 0,qn 14 1 13,Rq 15 (.y .sub 14 1),qm 8 15] (.q (.aC 0 (.loop [0,1,6,7,8] Br)) (.kp [6,7]))) (.e [qm 36 6,ao 37 300 36,qm 38 7,qm 4 37,qm 5 38]))))⟩
def qJ:VC:=.q (.g [qm 3 0,qn 4 1 3,Rq 5 (.y .gtr 4 0),qm 6 5,Rt 7 6 (.m 0),Rt 8 6 (.m 0),Rt 9 6 (.len 1 (.t 8)),Rt 10 6 (.y .sub 9 1),Rt 11 6 (.bt 1 (.t 7) (.t 10)),Rt 12 6 (.ld 1 false (.t 11)),Rt 13 6 (.y .eql 12 0),qq 14 6 13] (.cond (.t 14) .skip (.exit 0))) (.aC 1 (.aG [qm 15 0,qm 16 0,qn 17 1 16,Rq 18 (.y .sub 17 1),Rq 19 (.cY (.sl 1) (.t 15) none (some (.t 18))),qm 0 19]))
def iL:ax:=⟨[.t 2],.g [qz 2] (.q (.q (.aC 0 (.loop [0] qJ)) (.kp [0])) (.e [qm 20 0,qm 2 20]))⟩
def oM:VC:=.q (.g [qm 42 9,Rq 43 (.y .geq 42 1000000000),qm 44 43,Rf 45 44 (.m 9),Rf 46 44 (.m 1),Rf 47 44 (.m 7),Rf 48 44 (.y .sub 47 2),Rf 49 44 (.bt 1 (.t 46) (.t 48)),Rf 50 44 (.ld 1 false (.t 49)),Rf 51 44 (.z .mul 45 50),Rf 52 44 (.m 10),Rf 53 44 (.y .mul 52 1000000000),Rf 54 44 (.m 0),Rf 55 44 (.m 2),Rf 56 44 (.m 7),Rf 57 44 (.z .add 55 56),Rf 58 44 (.y .sub 57 2),Rf 59 44 (.bt 1 (.t 54) (.t 58)),Rf 60 44 (.ld 1 false (.t 59)),Rf 61 44 (.z .add 53 60),Rf 62 44 (.z .gtr 51 61),qp 63 44 62] (.cond (.t 63) .skip (.exit 0))) (.aC 1 (.g [qm 64 9,Rq 65 (.y .sub 64 1),qm 9 65] (.g [qm 66 10,qm 67 1,qm 68 7,Rq 69 (.y .sub 68 1),qi 70 1 67 69,ql 71 1 70,qA 72 66 71,qm 10 72] (.g [qm 73 10,Rq 74 (.y .geq 73 1000000000)] (.i 74 (.e [qm 75 9,qm 6 75]))))))
def nQ:ax:=⟨[.t 6],.g [qk 6 0] (.g [qm 11 1,qn 12 1 11,qm 7 12] (.g [qm 13 0,qm 14 2,qm 15 7,qA 16 14 15,qi 17 1 13 16,ql 18 1 17,Rq 19 (.y .mul 18 1000000000),qm 20 0,qm 21 2,qm 22 7,qA 23 21 22,Rq 24 (.y .sub 23 1),qi 25 1 20 24,ql 26 1 25,qA 27 19 26,qm 8 27] (.g [qm 28 8,qm 29 1,qm 30 7,Rq 31 (.y .sub 30 1),qi 32 1 29 31,ql 33 1 32,Rq 34 (.z .quo 28 33),qm 35 8,qm 36 1,qm 37 7,Rq 38 (.y .sub 37 1),qi 39 1 36 38,ql 40 1 39,Rq 41 (.z .rem 35 40),qm 9 34,qm 10 41] (.q (.q (.aC 0 (.loop [0,1,2,7,9,10] oM)) (.kp [9])) (.e [qm 76 9,qm 6 76])))))⟩
def mD:ax:=⟨[.t 4],.g [qk 4 0] (.h [qm 5 1,qm 6 0,qn 7 1 6,qT 8 5 7] 8 (.e [qm 9 0,qm 10 1,qi 11 1 9 10,ql 12 1 11,qm 4 12]) (.e [qk 4 0]))⟩
end
section
def Uk:ax:=⟨[.t 2],.g [qb 1 3 0,qk 2 0] (.e [qo 3 0 1,qL 4 2 3,ao 5 308 4,qo 6 2 1,ql 7 1 6,ao 8 307 7,Rq 9 (.bw 2 1 [.i 0,.i 0] [(0,1,.t 5),(1,1,.t 8)]),ao 10 42 9,qm 2 10])⟩
def Ul:ax:=⟨[.t 2],.g [qk 2 0] (.e [qm 3 0,Rq 4 (.q 314 [.t 3,.k 0]),qm 2 4])⟩
def Um:ax:=⟨[.t 2],.g [qb 1 2 0,qk 2 0] (.e [qo 3 0 1,ql 4 1 3,qo 5 1 1,ql 6 1 5,Rq 7 (.bw 2 1 [.str [],.str []] [(0,1,.t 4),(1,1,.t 6)]),ao 8 261 7,qm 2 8])⟩
def aje:ax:=⟨[.t 4],.g [qb 2 3 0,qf 4] (.e [qo 5 2 2,ql 6 1 5,Rq 7 (.bin .eql (.t 6) (.s [48])),qm 8 7,Rf 9 8 (.m 1),Rf 10 8 (.off 2 (.t 2)),Rf 11 8 (.ld 1 false (.t 10)),Rf 12 8 (.q 315 [.t 9,.t 11]),Rf 13 8 (.y .lss 12 0),qp 14 8 13,qm 4 14])⟩
def Un:ax:=⟨[.t 4],.g [qk 4 0] (.g [qm 6 0,ao 7 263 6,qm 5 7] (.h [qm 8 5,qE 9 8 0,qm 10 9,Rt 11 10 (.m 0),Rt 12 10 (.q 262 [.t 11]),Rt 13 10 (.m 1),Rt 14 10 (.z .lss 12 13),qq 15 10 14] 15 (.aG [qk 5 3]) (.e [qm 16 5,qm 4 16])))⟩
def ajf:ax:=⟨[.t 4],.g [qk 4 0] (.e [qm 5 0,qm 6 1,aA 7 271 5 6,ao 8 262 7,qm 4 8])⟩
def ajg:ax:=⟨[.t 2],.g [qb 1 8 0,qk 2 0] (.e [qo 3 0 1,ql 4 1 3,ao 5 3 4,qo 6 1 1,ql 7 1 6,ao 8 307 7,qo 9 2 1,ql 10 1 9,Rq 11 (.q 314 [.t 10,.k 1]),qo 12 3 1,ql 13 1 12,ao 14 263 13,qo 15 4 1,qL 16 2 15,ao 17 308 16,qo 18 6 1,qL 19 2 18,ao 20 308 19,Rq 21 (.bw 6 1 [.i 0,.i 0,.i 0,.i 0,.i 0,.i 0] [(0,1,.t 5),(1,1,.t 8),(2,1,.t 11),(3,1,.t 14),(4,1,.t 17),(5,1,.t 20)]),ao 22 42 21,qm 2 22])⟩
def ajh:ax:=⟨[.t 2],.g [qf 2] (.e [qm 3 0,ao 4 272 3,qm 5 0,qn 6 0 5,Rq 7 (.z .eql 4 6),qm 2 7])⟩
def afn:VC:=.q (.g [qm 22 6,Rq 23 (.y .geq 22 0)] (.cond (.t 23) .skip (.exit 0))) (.q (.aC 1 (.g [qo 26 1 4,ql 27 1 26,qm 28 6,qi 29 1 27 28,ql 30 1 29,qm 7 30] (.h [qo 31 0 4,ql 32 1 31] 32 (.aG [qm 33 7,Rq 34 (.bin .sub (.k 0) (.t 33)),qm 7 34]) (.h [qm 35 5,Rq 36 (.y .gtr 35 9223372036),qm 37 36,Rf 38 37 (.m 5),Rf 39 37 (.y .lss 38 (-9223372036)),qp 40 37 39,qm 41 40,Rf 42 41 (.m 5),Rf 43 41 (.y .eql 42 9223372036),Rf 44 41 (.m 43),Rt 45 44 (.m 7),Rt 46 44 (.y .gtr 45 854775807),Rf 47 41 (.pick (.t 44) (.t 46) (.c (.bool false))),qp 48 41 47,qm 49 48,Rf 50 49 (.m 5),Rf 51 49 (.y .eql 50 (-9223372036)),Rf 52 49 (.m 51),Rt 53 52 (.m 7),Rt 54 52 (.y .lss 53 (-854775808)),Rf 55 49 (.pick (.t 52) (.t 54) (.c (.bool false))),qp 56 49 55] 56 (.e [qk 2 0,qf 3]) (.aG [qm 57 5,Rq 58 (.y .mul 57 1000000000),qm 59 7,qA 60 58 59,qm 5 60]))))) (.aG [qm 24 6,Rq 25 (.y .sub 24 1),qm 6 25]))
def aji:ax:=⟨[.t 2,.t 3],.g [qk 2 0,qf 3] (.h [qm 8 0,ao 9 338 8,Rq 10 (.un .not (.t 9)),qm 11 10,Rf 12 11 (.m 0),Rf 13 11 (.len 0 (.t 12)),Rf 14 11 (.y .gtr 13 20),qp 15 11 14] 15 (.e [qk 2 0,qf 3]) (.g [qm 16 0,ao 17 288 16,Rq 4 (.box 2 (.c (.agg [.bool false,.aa]))),qs 2 4 17] (.g [qk 5 0] (.q (.g [qo 18 1 4,ql 19 1 18,qn 20 1 19,Rq 21 (.y .sub 20 1),qm 6 21] (.q (.aC 0 (.loop [4,5,6] afn)) (.kp [5]))) (.e [qm 61 5,qm 2 61,Rq 3 (.br (.c (.bool true)))])))))⟩
def ajj:ax:=⟨[.t 4],.g [qb 2 3 0,qf 4] (.e [qo 5 0 2,qL 6 2 5,qm 7 1,aA 8 358 6 7,qm 9 8,Rt 10 9 (.off 2 (.t 2)),Rt 11 9 (.ld 1 false (.t 10)),Rt 12 9 (.m 1),Rt 13 9 (.q 359 [.t 11,.t 12]),qq 14 9 13,qm 15 14,Rt 16 15 (.ld 3 true (.t 2)),Rt 17 15 (.q 306 [.t 16]),Rt 18 15 (.y .eql 17 0),qq 19 15 18,qm 4 19])⟩
def ajk:ax:=⟨[.t 4],.g [qb 2 2 0,qf 4] (.e [qo 5 0 2,ql 6 1 5,qm 7 1,aA 8 359 6 7,qm 9 8,Rt 10 9 (.off 1 (.t 2)),Rt 11 9 (.ld 1 false (.t 10)),Rt 12 9 (.m 1),Rt 13 9 (.q 359 [.t 11,.t 12]),qq 14 9 13,qm 4 14])⟩
def ajl:ax:=⟨[.t 4],.g [qf 4] (.e [qm 5 0,qn 6 0 5,qm 7 1,Rq 8 (.bin .mul (.k 2) (.t 7)),qa 9 8 2,Rq 10 (.z .leq 6 9),qm 11 10,Rt 12 11 (.m 0),Rt 13 11 (.q 263 [.t 12]),Rt 14 11 (.y .eql 13 0),qq 15 11 14,qm 16 15,Rt 17 16 (.m 0),Rt 18 16 (.q 284 [.t 17]),Rt 19 16 (.q 285 [.t 18]),Rt 20 16 (.len 0 (.t 19)),Rt 21 16 (.m 1),Rt 22 16 (.z .leq 20 21),qq 23 16 22,qm 24 23,Rt 25 24 (.m 0),Rt 26 24 (.q 286 [.t 25]),Rt 27 24 (.len 0 (.t 26)),Rt 28 24 (.m 1),Rt 29 24 (.z .leq 27 28),qq 30 24 29,qm 4 30])⟩
def ajm:ax:=⟨[.t 6],.g [qb 3 8 0,qb 4 6 1,qb 5 2 2,qf 6] (.h [jD 32 1,Rq 33 (.un .not (.t 32)),qm 34 33,Rf 35 34 (.ld 8 true (.t 3)),Rf 36 34 (.q 361 [.t 35,.k 5,.k 6]),Rf 37 34 (.un .not (.t 36)),qp 38 34 37,qm 39 38,Rf 40 39 (.off 0 (.t 4)),Rf 41 39 (.ld 3 true (.t 40)),Rf 42 39 (.q 357 [.t 41,.k 6]),Rf 43 39 (.un .not (.t 42)),qp 44 39 43,qm 45 44,Rf 46 45 (.off 3 (.t 4)),Rf 47 45 (.ld 2 true (.t 46)),Rf 48 45 (.q 358 [.t 47,.k 6]),Rf 49 45 (.un .not (.t 48)),qp 50 45 49,qm 51 50,Rf 52 51 (.off 0 (.t 4)),Rf 53 51 (.ld 3 true (.t 52)),Rf 54 51 (.off 1 (.t 3)),Rf 55 51 (.ld 1 false (.t 54)),Rf 56 51 (.q 309 [.t 53,.t 55]),Rf 57 51 (.un .not (.t 56)),qp 58 51 57] 58 (.e [jD 59 1,qm 6 59]) (.g [Rq 60 (.pn 2 1 (.t 5) (.k 0)),ql 61 1 60,Rq 62 (.cv (.toInt .i64) (.t 61)),Rq 63 (.y .rem 62 100),Rq 64 (.pn 2 1 (.t 5) (.k 1)),ql 65 1 64,Rq 66 (.cv (.toInt .i64) (.t 65)),Rq 67 (.y .rem 66 100),qm 7 63,qm
 8 67] (.g [qL 69 8 3,qm 70 7,aA 71 362 69 70,qm 68 71,qe 72 0 68,qe 73 1 68,Rq 9 (.box 8 (.c (.agg [.aa,.str [],.str [],.str [],.str [],.str [],.str [],.str []]))),qs 8 9 72,qm 10 73] (.g [qL 75 8 9,qm 76 8,aA 77 362 75 76,qm 74 77,qe 78 0 74,qe 79 1 74,Rq 11 (.box 8 (.c (.agg [.aa,.str [],.str [],.str [],.str [],.str [],.str [],.str []]))),qs 8 11 78,qm 12 79] (.g [qL 81 8 3,qm 82 7,qm 83 8,qA 84 82 83,aA 85 362 81 84,qm 80 85,qe 86 0 80,qe 87 1 80,Rq 13 (.box 8 (.c (.agg [.aa,.str [],.str [],.str [],.str [],.str [],.str [],.str []]))),qs 8 13 86,qm 14 87] (.g [qL 89 8 9,qm 90 7,Rq 91 (.un .neg (.t 90)),aA 92 362 89 91,qm 88 92,qe 93 0 88,qe 94 1 88,Rq 15 (.box 8 (.c (.agg [.aa,.str [],.str [],.str [],.str [],.str [],.str [],.str []]))),qs 8 15 93,qm 16 94] (.h [qm 95 10,qm 96 12,qA 97 95 96,qm 98 14,qA 99 97 98,qm 100 16,qA 101 99 100,qN 102 101 0,qm 103 102,Rf 104 103 (.ld 8
 true (.t 11)),Rf 105 103 (.ld 8 true (.t 13)),Rf 106 103 (.q 363 [.t 104,.t 105]),Rf 107 103 (.un .not (.t 106)),qp 108 103 107,qm 109 108,Rf 110 109 (.ld 8 true (.t 15)),Rf 111 109 (.ld 8 true (.t 3)),Rf 112 109 (.q 363 [.t 110,.t 111]),Rf 113 109 (.un .not (.t 112)),qp 114 109 113] 114 (.e [qf 6]) (.g [qL 116 8 9,qo 117 0 4,qL 118 3 117,qo 119 3 4,qL 120 2 119,qm 121 8,zX 122 24 116 118 120 121,qm 115 122,qe 123 0 115,qe 124 1 115,qm 17 123,qm 18 124] (.g [qL 126 8 3,qo 127 0 4,qL 128 3 127,qo 129 3 4,qL 130 2 129,qm 131 7,qm 132 8,qA 133 131 132,zX 134 24 126 128 130 133,qm 125 134,qe 135 0 125,qe 136 1 125,qm 19 135,qm 20 136] (.h [qm 137 18,qm 138 20,qA 139 137 138,qN 140 139 0,qm 141 140,Rf 142 141 (.m 17),Rf 143 141 (.m 19),Rf 144 141 (.z .neq 142 143),qp 145 141 144,qm 146 145,Rf 147 146 (.m 17),Rf 148 146 (.q 263 [.t 147]),Rf 149 146 (.y .neq 148 0),qp 150 146 149] 150 (.e [qf 6])
 (.h [qo 151 6 3,qo 152 0 151,ql 153 1 152,ao 154 338 153,Rq 155 (.un .not (.t 154)),qm 156 155,Rf 157 156 (.off 6 (.t 3)),Rf 158 156 (.off 1 (.t 157)),Rf 159 156 (.ld 1 false (.t 158)),Rf 160 156 (.q 338 [.t 159]),Rf 161 156 (.un .not (.t 160)),qp 162 156 161] 162 (.e [Rq 6 (.br (.c (.bool true)))]) (.g [qo 164 6 3,qo 165 0 164,ql 166 1 165,ao 167 340 166,qm 163 167,qe 168 0 163,qe 169 1 163,qm 21 168,qm 22 169] (.g [qo 171 6 3,qo 172 1 171,ql 173 1 172,ao 174 340 173,qm 170 174,qe 175 0 170,qe 176 1 170,qm 23 175,qm 24 176] (.g [qo 178 0 3,ql 179 1 178,qm 180 8,Rq 181 (.un .neg (.t 180)),qm 182 21,Rq 183 (.z .mul 181 182),qm 184 8,Rq 185 (.un .neg (.t 184)),qm 186 23,Rq 187 (.z .mul 185 186),fS 188 20 179 183 187,qm 177 188,qe 189 0 177,qe 190 1 177,qm 25 189,qm 26 190] (.g [qL 191 8 3,Rq 27 (.box 8 (.c (.agg [.aa,.str [],.str [],.str [],.str [],.str [],.str [],.str []]))),qs 8 27
 191] (.g [qm 192 25,Rq 193 (.q 14 [.s [48],.s [48]]),qo 194 0 27,qs 1 194 192,qo 195 6 27,qs 2 195 193] (.g [qL 197 8 3,qo 198 0 4,qL 199 3 198,qo 200 3 4,qL 201 2 200,qm 202 8,zX 203 24 197 199 201 202,qm 196 203,qe 204 0 196,qe 205 1 196,qm 28 204,qm 29 205] (.g [qL 207 8 27,qo 208 0 4,qL 209 3 208,qo 210 3 4,qL 211 2 210,Rq 212 (.q 24 [.t 207,.t 209,.t 211,.k 5]),qm 206 212,qe 213 0 206,qe 214 1 206,qm 30 213,qm 31 214] (.e [qm 215 26,qm 216 29,qA 217 215 216,qm 218 31,qA 219 217 218,qE 220 219 0,qm 221 220,Rt 222 221 (.m 28),Rt 223 221 (.m 30),Rt 224 221 (.z .eql 222 223),qq 225 221 224,qm 6 225])))))))))))))))))))⟩
def ajn:ax:=⟨[.t 6],.g [qb 3 8 0,qf 6] (.h [qo 7 0 3,ql 8 1 7,qn 9 1 8,qm 10 1,Rq 11 (.z .gtr 9 10),qm 12 11,Rf 13 12 (.off 0 (.t 3)),Rf 14 12 (.ld 1 false (.t 13)),Rf 15 12 (.q 3 [.t 14]),Rf 16 12 (.y .neq 15 0),qp 17 12 16,qm 18 17,Rf 19 18 (.off 1 (.t 3)),Rf 20 18 (.ld 1 false (.t 19)),Rf 21 18 (.off 2 (.t 3)),Rf 22 18 (.ld 1 false (.t 21)),Rf 23 18 (.off 3 (.t 3)),Rf 24 18 (.ld 1 false (.t 23)),Rf 25 18 (.bw 3 1 [.str [],.str [],.str []] [(0,1,.t 20),(1,1,.t 22),(2,1,.t 24)]),Rf 26 18 (.m 2),Rf 27 18 (.q 364 [.t 25,.k 3,.t 26]),Rf 28 18 (.un .not (.t 27)),qp 29 18 28,qm 30 29,Rf 31 30 (.off 4 (.t 3)),Rf 32 30 (.ld 2 true (.t 31)),Rf 33 30 (.m 2),Rf 34 30 (.q 358 [.t 32,.t 33]),Rf 35 30 (.un .not (.t 34)),qp 36 30 35,qm 37 36,Rf 38 37 (.off 6 (.t 3)),Rf 39 37 (.ld 2 true (.t 38)),Rf 40 37 (.m 2),Rf 41 37 (.q 358 [.t 39,.t 40]),Rf 42 37 (.un .not (.t 41)),qp 43 37 42] 43 (.e [qf 6]) (.e [qL 44 8 3,ao
 45 335 44,qE 46 45 0,qm 6 46]))⟩
def ajo:ax:=⟨[.cell 4 8 true,.t 5],.g [qb 2 8 0,Rq 4 (.box 8 (.c (.agg [.aa,.str [],.str [],.str [],.str [],.str [],.str [],.str []]))),qk 5 0] (.q (.g [qL 10 8 2,ao 11 115 10,qm 12 1,ao 13 51 12,Rq 14 (.bw 2 1 [.i 0,.i 0] [(0,1,.t 11),(1,1,.t 13)]),ao 15 33 14,qm 6 15] (.g [qm 16 6,qN 17 16 0] (.i 17 (.e [Rq 18 (.cp [.aa,.str [],.str [],.str [],.str [],.str [],.str [],.str []] []),qm 19 6,qs 8 4 18,qm 5 19])))) (.g [qo 21 4 2,qL 22 2 21,ao 23 54 22,qo 24 6 2,qL 25 2 24,ao 26 54 25,qm 27 1,ao 28 69 27,aA 29 75 26 28,aA 30 112 23 29,ao 31 65 30,qm 20 31,qe 32 0 20,qe 33 1 20,Rq 7 (.box 2 (.c (.agg [.str [],.str []]))),qs 2 7 32,qm 8 33] (.h [qm 34 8,qN 35 34 0] 35 (.e [Rq 36 (.cp [.aa,.str [],.str [],.str [],.str [],.str [],.str [],.str []] []),qm 37 8,qs 8 4 36,qm 5 37]) (.g [qL 38 8 2,Rq 9 (.box 8 (.c (.agg [.aa,.str [],.str [],.str [],.str [],.str [],.str [],.str []]))),qs 8
 9 38] (.g [qL 39 2 7,qo 40 4 9,qs 2 40 39] (.g [qo 41 0 2,ql 42 1 41,qn 43 1 42,Rq 44 (.iM (.f 365) [] [.t 2]),aA 45 40 43 44,qo 46 0 9,qs 1 46 45] (.e [qL 47 8 9,qs 8 4 47,qk 5 0])))))))⟩
def ajp:ax:=⟨[.t 4],.g [qb 2 8 0,qb 3 8 1,qf 4] (.e [qo 5 0 2,ql 6 1 5,qo 7 0 3,ql 8 1 7,aA 9 21 6 8,qm 10 9,Rt 11 10 (.off 1 (.t 2)),Rt 12 10 (.ld 1 false (.t 11)),Rt 13 10 (.off 1 (.t 3)),Rt 14 10 (.ld 1 false (.t 13)),Rt 15 10 (.z .eql 12 14),qq 16 10 15,qm 17 16,Rt 18 17 (.off 2 (.t 2)),Rt 19 17 (.ld 1 false (.t 18)),Rt 20 17 (.off 2 (.t 3)),Rt 21 17 (.ld 1 false (.t 20)),Rt 22 17 (.z .eql 19 21),qq 23 17 22,qm 24 23,Rt 25 24 (.off 3 (.t 2)),Rt 26 24 (.ld 1 false (.t 25)),Rt 27 24 (.off 3 (.t 3)),Rt 28 24 (.ld 1 false (.t 27)),Rt 29 24 (.z .eql 26 28),qq 30 24 29,qm 31 30,Rt 32 31 (.off 4 (.t 2)),Rt 33 31 (.ld 2 true (.t 32)),Rt 34 31 (.off 4 (.t 3)),Rt 35 31 (.ld 2 true (.t 34)),Rt 36 31 (.eq false (.ag [2,2]) (.t 33) (.t 35)),qq 37 31 36,qm 38 37,Rt 39 38 (.off 6 (.t 2)),Rt 40 38 (.ld 2 true (.t 39)),Rt 41 38 (.off 6 (.t 3)),Rt 42 38 (.ld 2 true (.t 41)),Rt 43 38 (.eq false (.ag [2,2]) (.t 40)
 (.t 42)),qq 44 38 43,qm 4 44])⟩
def afo:VC:=.q (.g [qm 12 7,qm 13 0,qn 14 1 13,qT 15 12 14] (.cond (.t 15) .skip (.exit 0))) (.q (.aC 1 (.g [qm 18 0,qm 19 7,qi 20 1 18 19,ql 21 1 20,qm 22 2,aA 23 359 21 22,Rq 24 (.un .not (.t 23))] (.i 24 (.e [qf 6])))) (.aG [qm 16 7,qa 17 16 1,qm 7 17]))
def ajq:ax:=⟨[.t 6],.g [qf 6] (.h [qm 8 0,qn 9 1 8,qm 10 1,Rq 11 (.z .gtr 9 10)] 11 (.e [qf 6]) (.q (.g [qk 7 0] (.q (.aC 0 (.loop [0,2,7] afo)) (.kp []))) (.e [Rq 6 (.br (.c (.bool true)))])))⟩
def ajr:ax:=⟨[.t 5],.g [qk 5 0] (.e [qo 6 0 2,ql 7 1 6,qm 8 1,qi 9 1 7 8,ql 10 1 9,qm 11 0,qi 12 1 10 11,ql 13 1 12,qm 5 13])⟩
end
section
inductive Tr (α:Type) where
 | l
 | n (k:Nat) (v:α) (a b:Tr α)
def Tr.find {α:Type}:Tr α->Nat->Option α
 | .l,_=>none
 | .n k v a b,i=>bif yk i k then some v else bif yA i k then a.find i else b.find i
end
section
open Go (IntKind FloatKind)
def EQ:yG->Nat
 | .i8=>0 | .i16=>1 | .i32=>2 | .i64=>3 | .u8=>4 | .u16=>5 | .u32=>6 | .u64=>7
def KW:Int->Int->Bool
 | .ofNat a,.ofNat b=>yk a b
 | .negSucc a,.negSucc b=>yk a b
 | _,_=>false
def Gg:Bool->Bool->Bool
 | true,true | false,false=>true
 | _,_=>false
def VP:w8->w8->Bool
 | .f32,.f32 | .f64,.f64=>true
 | _,_=>false
mutual
def eQ:AV->AV->Bool
 | .int k a,.int k' b=>yk (EQ k) (EQ k')&&KW a b
 | .bool a,.bool b=>Gg a b
 | .cx k a,.cx k' b=>VP k k'&&yk a b
 | .str a,.str b=>dA a b
 | .gW,.gW=>true
 | .ay a,.ay b=>jb a b
 | .aa,.aa=>true
 | .aB e n a,.aB e' n' b=>Gg e e'&&(yk n n'&&jb a b)
 | .bX e s n a,.bX e' s' n' b=>Gg e e'&&(yk s s'&&(yk n n'&&jb a b))
 | .fn (.f g) a b,.fn (.f g') a' b'=>yk g g'&&(jb a a'&&jb b b')
 | .fk,.fk=>true
 | .gH,.gH=>true
 | .gj a b,.gj a' b'=>jb a a'&&jb b b'
 | .agg a,.agg b=>jb a b
 | .aw a,.aw b=>jb a b
 | .undef,.undef=>true
 | _,_=>false
def jb:List AV->List AV->Bool
 | [],[]=>true
 | a::x,b::y=>eQ a b&&jb x y
 | _,_=>false
end
def hI:Int->Nat
 | .ofNat n=>n
 | .negSucc n=>n+n
def hS:List Nat->Nat
 | []=>1
 | b::r=>(b+257*hS r)%65521
mutual
def hV:AV->Nat
 | .int _ n=>hI n
 | .bool b=>bif b then 1 else 2
 | .cx _ n=>n
 | .str s=>hS s
 | .aB _ n cs=>n+hL cs
 | .agg cs=>hL cs
 | .aw cs=>hL cs
 | _=>5
def hL:List AV->Nat
 | []=>7
 | v::r=>(hV v+263*hL r)%65521
end
abbrev Te:=Tr (List AV×AV)
abbrev av:=List Te
def qK (h:Nat) (ap:List AV):av->Option AV
 | []=>none
 | t::l=>match t.find h with
  | some (a,r)=>bif jb a ap then some r else qK h ap l
  | none=>qK h ap l
def RM (ap:List AV) (l:av):Option AV:=qK (hL ap) ap l
abbrev Te.o (h:Nat) (a:List AV) (r:AV):Te:= .n h (a,r) .l .l
abbrev Te.m (h:Nat) (a:List AV) (r:AV) (x y:Te):Te:= .n h (a,r) x y
def qM (n:Nat):List (Tr av)->Option av
 | []=>none
 | t::r=>match t.find n with
  | none=>qM n r
  | some l=>match qM n r with | none=>some l | some m=>some (l++m)
def Fu (L:Lib) (T:List (Tr av)) (ex:Nat):Lib:=
 ⟨fun i=>match L.pure i with
  | some sp=>some sp
  | none=>bif yk i ex then none else match qM i T with | some l=>some (fun ap=>RM ap l) | none=>none,L.heap⟩
def Cd (P:aF) (L:Lib) (f:Nat):Te->Bool
 | .l=>true
 | .n _ e x y=>(match Kl P L 100000 f e.1 with | some r'=>eQ r' e.2 | none=>false)&&(Cd P L f x&&Cd P L f y)
def ER (P:aF) (L:Lib) (f:Nat):av->Bool
 | []=>true
 | t::l=>Cd P L f t&&ER P L f l
def fI (P:aF) (L:Lib) (T:List (Tr av)):List (Nat×av)->Bool
 | []=>true
 | (f,l)::C=>ER P (Fu L T f) f l&&fI P L T C
end
section
open Go
def Zd {a b:yG} (h:yk (EQ a) (EQ b)=true):a=b:=by
 cases a<;>cases b<;>first | rfl | (exact absurd h (by decide))
def aa3 {a b:Int} (h:KW a b=true):a=b:=by
 cases a<;>cases b<;>simp only [KW,reduceCtorEq] at h<;>rw [yh h]
def H9 {a b:Bool} (h:Gg a b=true):a=b:=by
 cases a<;>cases b<;>first | rfl | (exact absurd h (by decide))
def aa4 {a b:w8} (h:VP a b=true):a=b:=by
 cases a<;>cases b<;>first | rfl | (exact absurd h (by decide))
mutual
def Oi:∀(a b:AV),eQ a b=true->a=b
 | .int k a,b,h=>by
  cases b<;>simp only [eQ,ye,yq] at h
  rw [Zd h.1,aa3 h.2]
 | .bool a,b,h=>by
  cases b<;>simp only [eQ,yq] at h
  rw [H9 h]
 | .cx k a,b,h=>by
  cases b<;>simp only [eQ,ye,yq] at h
  rw [aa4 h.1,yh h.2]
 | .str a,b,h=>by
  cases b<;>simp only [eQ,yq] at h
  rw [H2 h]
 | .gW,b,h=>by cases b<;>simp only [eQ,yq] at h;rfl
 | .ptr _ _,b,h=>by cases b<;>simp only [eQ,yq] at h
 | .ay a,b,h=>by
  cases b<;>simp only [eQ,yq] at h
  rw [kZ _ _ h]
 | .aa,b,h=>by cases b<;>simp only [eQ,yq] at h;rfl
 | .aB e n a,b,h=>by
  cases b<;>simp only [eQ,ye,yq] at h
  rw [H9 h.1,yh h.2.1,kZ _ _ h.2.2]
 | .bX e s n a,b,h=>by
  cases b<;>simp only [eQ,ye,yq] at h
  rw [H9 h.1,yh h.2.1,yh h.2.2.1,kZ _ _ h.2.2.2]
 | .au _ _ _,b,h=>by cases b<;>simp only [eQ,yq] at h
 | .fn (.f g) x y,b,h=>by
  cases b<;>try (simp only [eQ,yq] at h;done)
  rename_i fr _ _;cases fr<;>simp only [eQ,ye,yq] at h
  rw [yh h.1,kZ _ _ h.2.1,kZ _ _ h.2.2]
 | .fn (.y _) _ _,b,h=>by cases b<;>simp only [eQ,yq] at h
 | .fk,b,h=>by cases b<;>simp only [eQ,yq] at h;rfl
 | .gH,b,h=>by cases b<;>simp only [eQ,yq] at h;rfl
 | .map _,b,h=>by cases b<;>simp only [eQ,yq] at h
 | .gj x y,b,h=>by
  cases b<;>simp only [eQ,ye,yq] at h
  rw [kZ _ _ h.1,kZ _ _ h.2]
 | .it _,b,h=>by cases b<;>simp only [eQ,yq] at h
 | .agg a,b,h=>by
  cases b<;>simp only [eQ,yq] at h
  rw [kZ _ _ h]
 | .aw a,b,h=>by
  cases b<;>simp only [eQ,yq] at h
  rw [kZ _ _ h]
 | .undef,b,h=>by cases b<;>simp only [eQ,yq] at h;rfl
def kZ:∀(a b:List AV),jb a b=true->a=b
 | [],b,h=>by cases b<;>simp only [jb,yq] at h;rfl
 | x::a,b,h=>by
  cases b<;>simp only [jb,ye,yq] at h
  rw [Oi _ _ h.1,kZ _ _ h.2]
end
def Tr.Has {α:Type} (x:α):Tr α->Prop
 | .l=>False
 | .n _ v a b=>v=x\/a.Has x\/b.Has x
def Tr.Ia {α:Type} {h:Nat} {x:α}:∀{t:Tr α},t.find h=some x->t.Has x
 | .l,hf=>by simp [Tr.find] at hf
 | .n k v a b,hf=>by
  simp only [Tr.find] at hf
  cases h1:yk h k with
  | true=>rw [h1] at hf;simp only [yi,yb] at hf;exact .inl hf
  | false=>
   rw [h1] at hf
   cases h2:yA h k with
   | true=>rw [h2] at hf;exact .inr (.inl (Tr.Ia hf))
   | false=>rw [h2] at hf;exact .inr (.inr (Tr.Ia hf))
def Gh (ap:List AV) (r:AV) (l:av):Prop:=∃t,t∈l/\t.Has (ap,r)
def MG {h:Nat} {ap:List AV} {r:AV}:∀{l:av},qK h ap l=some r->Gh ap r l
 | [],hf=>by simp [qK] at hf
 | t::l,hf=>by
  have tail:qK h ap l=some r->Gh ap r (t::l):=fun q=>by
   obtain ⟨t',h1,h2⟩:=MG q;exact ⟨t',xU _ h1,h2⟩
  simp only [qK] at hf
  split at hf
  ·rename_i a q he
   cases hb:jb a ap with
   | true=>
    rw [hb] at hf;simp only [yi,yb] at hf;rw [kZ _ _ hb,hf] at he;exact ⟨t,wJ,Tr.Ia he⟩
   | false=>
    grind
  ·grind
def Ze {ap:List AV} {r:AV} {l:av} (h:RM ap l=some r):Gh ap r l:=MG h
def iw (O:a8) (f:Nat) (l:av):Prop:=∀ap r,Gh ap r l->dQ O f ap r
def iw.nil {O:a8} {f:Nat}:iw O f []:=fun _ _ h=>by obtain ⟨t,h,_⟩:=h;cases h
def iw.cy {O:a8} {f:Nat} {a b:av} (ha:iw O f a) (hb:iw O f b):iw O f (a++b):=fun v r h=>by
 obtain ⟨t,h,h2⟩:=h;exact (List.mem_append.1 h).elim (fun h=>ha v r ⟨t,h,h2⟩) (fun h=>hb v r ⟨t,h,h2⟩)
def iw.one {O:a8} {f k:Nat} {ap:List AV} {r:AV} (h:dQ O f ap r):iw O f [.n k (ap,r) .l .l]:=fun v q hm=>by
 obtain ⟨t,h1,h2⟩:=hm;rcases wm.1 h1 with e | e
 ·subst e;rcases h2 with h2 | h2 | h2
  ·grind
  ·exact h2.elim
  ·exact h2.elim
 ·cases e
def Tr.iO {α:Type} (p:Nat->α->Prop):Tr α->Prop
 | .l=>True
 | .n k v a b=>p k v/\a.iO p/\b.iO p
def Tr.gE {α:Type} {p:Nat->α->Prop}:Tr.iO p .l:=trivial
def Tr.iq {α:Type} {p:Nat->α->Prop} {k:Nat} {v:α} {a b:Tr α} (h:p k v) (ha:a.iO p) (hb:b.iO p):Tr.iO p (.n k v a b):=⟨h,ha,hb⟩
def Tr.qu {α:Type} {p:Nat->α->Prop} {i:Nat} {v:α}:∀{t:Tr α},t.iO p->t.find i=some v->p i v
 | .l,_,h=>by simp [Tr.find] at h
 | .n k w a b,ha,h=>by
  simp only [Tr.find] at h
  cases hb:yk i k with
  | true=>
   rw [hb] at h;simp only [yi,yb] at h;subst h;rw [yh hb];exact ha.1
  | false=>
   rw [hb] at h
   cases hc:yA i k with
   | true=>rw [hc] at h;exact Tr.qu ha.2.1 h
   | false=>rw [hc] at h;exact Tr.qu ha.2.2 h
abbrev a8.oI (O:a8) (L:Lib):a8:={O with aK:=L}
def Oj {O:a8} {L:Lib} {m:Mp} {S:Nat->Prop} {w:World} {id:Nat} {o:Obj}:dR (O.oI L) m S w id o↔dR O m S w id o:=by
 cases o<;>exact Iff.rfl
def Ok {O:a8} {L:Lib} {m:Mp} {S:Nat->Prop} {w:World} {hp:Hp} {ct:Nat}:aJ (O.oI L) m S w hp ct↔aJ O m S w hp ct:=
 ⟨fun h=>⟨fun id o p h1 h2=>Oj.1 (h.obj id o p h1 h2),h.lt,h.inj,h.slt,h.blt,h.low,h.iK,h.eK,h.aV⟩,
  fun h=>⟨fun id o p h1 h2=>Oj.2 (h.obj id o p h1 h2),h.lt,h.inj,h.slt,h.blt,h.low,h.iK,h.eK,h.aV⟩⟩
def Zf {O:a8} {L:Lib} {n:Nat} {hp:Hp} {ct:Nat} {ap:List AV} {v:AV} {ai:Hp} {aO:Nat} (h:qX O n hp ct ap v ai aO):qX (O.oI L) n hp ct ap v ai aO:=by
 intro m S w args h1 h2;have post:∀e w',oC O m S w hp ct v ai aO e w'->oC (O.oI L) m S w hp ct v ai aO e w':=by
  rintro e w' ⟨u,m',S',k1,k2,k3,k4,k5⟩;exact ⟨u,m',S',k1,Ok.2 k2,k3,k4,k5⟩
 exact oH.mono (h m S w args (Ok.1 h1) h2) post
def dw (O:a8) (T:List (Tr av)):Prop:=∀t,t∈T->t.iO (iw O)
def dw.nil {O:a8}:dw O []:=fun _ h=>by cases h
def dw.cons {O:a8} {t:Tr av} {T:List (Tr av)} (h:t.iO (iw O)) (hT:dw O T):dw O (t::T):=fun u hu=>by
 rcases wm.1 hu with e | e
 ·grind
 ·exact hT u e
def HC {O:a8} {n:Nat}:∀{T:List (Tr av)} {l:av},dw O T->qM n T=some l->iw O n l
 | [],_,_,h=>by simp [qM] at h
 | t::T,l,hT,h=>by
  have VQ:dw O T:=fun u hu=>hT u (xU _ hu)
  simp only [qM] at h
  split at h
  ·exact HC VQ h
  ·rename_i l1 h1;have c1:=Tr.qu (hT t wJ) h1
   split at h
   ·grind
   ·rename_i m h2;simp only [yb] at h;subst h;exact iw.cy c1 (HC VQ h2)
def Pd {O:a8} (hO:ek O) {T:List (Tr av)} (hT:dw O T) (ex:Nat):ek (O.oI (Fu O.aK T ex)) where
 hint:=hO.hint
 mixed:=hO.mixed
 prog:=hO.prog
 aK n sp ap r h hs:=by
  simp only [Fu] at h
  cases hl:O.aK.pure n with
  | some sp'=>
   simp only [hl,yb] at h;subst h;exact hO.aK n _ ap r hl hs
  | none=>
   simp only [hl] at h
   cases hb:yk n ex with
   | true=>rw [hb] at h;cases h
   | false=>
    rw [hb] at h;simp only [yr] at h
    cases hf:qM n T with
    | none=>simp [hf] at h
    | some l=>
     simp only [hf,yb] at h;subst h;exact HC hT hf ap r (Ze hs)
 E9 n sp hp ct ap v ai aO h hs:=Zf (hO.E9 n sp hp ct ap v ai aO h hs)
def HE {O:a8} {L:Lib} (hO:ek (O.oI L)) {f:Nat} {ap:List AV} {r:AV}:∀{t:Te},Cd O.prog L f t=true->t.Has (ap,r)->dQ O f ap r
 | .l,_,h=>h.elim
 | .n k e x y,h,hm=>by
  simp only [Cd,ye] at h;rcases hm with e1 | hm | hm
  ·subst e1;have h1:=h.1
   split at h1
   ·rename_i r' hr;have e:r'=r:=Oi _ _ h1;rw [<-e];exact sound hO hr
   ·cases h1
  ·exact HE hO h.2.1 hm
  ·exact HE hO h.2.2 hm
def MH {O:a8} {L:Lib} (hO:ek (O.oI L)) {f:Nat}:∀{l:av},ER O.prog L f l=true->iw O f l
 | [],_=>iw.nil
 | t::l,h=>by
  simp only [ER,ye] at h;intro v q hm;obtain ⟨t',h1,h2⟩:=hm;rcases wm.1 h1 with e | e
  ·subst e;exact HE hO h.1 h2
  ·exact MH hO h.2 v q ⟨t',e,h2⟩
def chunk_ok {O:a8} (hO:ek O) {T:List (Tr av)} (hT:dw O T):∀{C:List (Nat×av)},fI O.prog O.aK T C=true->∀f l,(f,l)∈C->iw O f l
 | [],_,f,l,h=>by cases h
 | (g,l')::C,h,f,l,hm=>by
  simp only [fI,ye] at h;rcases wm.1 hm with e | hm
  ·injection e with e1 e2
   subst e1;subst e2;exact MH (Pd hO hT f) h.1
  ·exact chunk_ok hO hT h.2 f l hm
def ib {O:a8} {P:aF} {L:Lib} (hO:ek O) (hp:O.prog=P) (hl:O.aK=L) {T:List (Tr av)} (hT:dw O T) {C:List (Nat×av)} (h:fI P L T C=true) (i:Nat) {f:Nat} {l:av} (hi:C[i]? =some (f,l)):iw O f l:=by
 subst hp;subst hl;exact chunk_ok hO hT h f l (List.mem_of_getElem? hi)
def aN {α:Type} {p:Nat->α->Prop} {k:Nat} {v:α} {a b:Tr α} (h:p k v) (ha:a.iO p) (hb:b.iO p):Tr.iO p (.n k v a b):=Tr.iq h ha hb
def aL {α:Type} {p:Nat->α->Prop}:Tr.iO p .l:=Tr.gE
end
section
open Go
structure HD where
 n:Nat
 live:List (Nat×List Nat)
 out:List (Nat×List Nat)
 mode:List (Nat×Md)
 fz:List (Nat×List Nat)
 deriving Inhabited
def BL {α:Type} (i:Nat):List (Nat×α)->Option α
 | []=>none
 | (j,a)::l=>bif yk j i then some a else BL i l
def afp (bH:Nat->Option Nat) (d:HD):Hint where
 n:=d.n
 bH:=bH
 live:=fun l=>match BL l d.live with | some x=>x | none=>[]
 out:=fun l=>BL l d.out
 mode:=fun k=>match BL k d.mode with | some x=>x | none=> .pure
 fz:=fun i=>match BL i d.fz with | some x=>x | none=>[]
def ES (bH:Tr Nat) (t:Tr HD) (i:Nat):Hint:=afp bH.find (match t.find i with | some d=>d | none=>⟨0,[],[],[],[]⟩)
def nR (t:Tr Nat) (i:Nat):Nat:=match t.find i with | some f=>f | none=>0
def BM (ae:Tr Nat):Tr Nat->Bool
 | .l=>true
 | .n f g a b=>yk (nR ae g) f&&(BM ae a&&BM ae b)
def Hf {ae:Tr Nat}:∀{t:Tr Nat},BM ae t=true->t.iO (fun f g=>nR ae g=f)
 | .l,_=>trivial
 | .n f g a b,h=>by
  simp only [BM,ye] at h;exact ⟨yh h.1,Hf h.2.1,Hf h.2.2⟩
def I2 (P:yJ) (ae:Tr Nat) (bH:Tr Nat) (hd:Tr HD) (i:Nat) (F:ax):Prop:=
 ∃fn,P.funcs[nR ae i]? =some fn/\sW P (ES bH hd i) fn=some F/\fn.name≠ "runtime.NumGoroutine"
def Zg {P:yJ} {ae bH:Tr Nat} {hd:Tr HD} {i:Nat} {F:ax} (h:(P.funcs[nR ae i]?).bind (sW P (ES bH hd i))=some F) (h2:(P.funcs[nR ae i]?).map (fun fn=>decide (fn.name= "runtime.NumGoroutine"))=some false):I2 P ae bH hd i F:=by
 unfold I2
 cases hq:P.funcs[nR ae i]? with
 | none=>rw [hq] at h;cases h
 | some fn=>
  rw [hq] at h h2;refine ⟨fn,rfl,h,fun e=>?_⟩;simp only [Option.map_some,yb,e,yz] at h2;cases h2
end
end VE
