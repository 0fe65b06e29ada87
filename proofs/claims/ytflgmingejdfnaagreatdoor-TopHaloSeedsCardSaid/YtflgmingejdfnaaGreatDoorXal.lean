import Derived.Test.YtflgmingejdfnaaGreatDoorProg
import Derived.KernelRfl
import Derived.Test.YtflgmingejdfnaaGreatDoorXak
import Derived.Test.YtflgmingejdfnaaGreatDoorXaa
import Derived.Test.YtflgmingejdfnaaGreatDoorXag
set_option linter.all false
set_option maxRecDepth 100000
open Bool renaming and_eq_true→yf,false_eq_true→yt
open Go renaming FloatKind→w8,IntKind→yJ,Program→yM
open List renaming mem_cons→wc,mem_cons_of_mem→xT,mem_cons_self→wP
open Nat renaming beq→yq,blt→yB,eq_of_beq_eq_true→yk
open Option.some renaming injEq→yb
namespace VE
section
def s8:VC:=.g [Rq 94 (.y .lss 93 9)] (.q (.cond (.t 94) .skip (.exit 0)) (.q (.aw 1 (.g [qm 95 93,qm 11 95] (.g [qm 96 7,qm 97 11,Rq 98 (.y .quo 97 3),qi 99 1 96 98,ql 100 1 99,qm 101 11,Rq 102 (.y .rem 101 3),qi 103 1 100 102,ql 104 1 103,qm 105 9,qm 106 11,Rq 107 (.y .quo 106 6),qi 108 1 105 107,ql 109 1 108,qm 110 11,Rq 111 (.y .rem 110 6),qi 112 1 109 111,ql 113 1 112,Rq 114 (.z .neq 104 113)] (.i 114 (.e [qf 6]))))) (.aB [qa 115 93 1,qm 93 115])))
def Bk:VC:=.g [qT 188 187 186] (.q (.cond (.t 188) .skip (.exit 4)) (.q (.aw 5 (.g [qi 189 1 185 187,ql 190 1 189,qm 28 190] (.aB [qm 191 24,qm 192 28,qA 193 191 192,qm 24 193]))) (.aB [qa 194 187 1,qm 187 194])))
def Bl:VC:=.g [qT 182 181 180] (.q (.cond (.t 182) .skip (.exit 2)) (.q (.aw 3 (.g [qi 183 1 179 181,ql 184 1 183,qm 26 184] (.g [qm 185 26,qn 186 1 185,qk 187 0] (.q (.aw 4 (.loop [7,20,22,24,179,180,181,185,186,187] Bk)) (.kp [7,20,22,24,179,180,181]))))) (.aB [qa 195 181 1,qm 181 195])))
def za:VC:=.g [qT 205 204 203] (.q (.cond (.t 205) .skip (.exit 8)) (.q (.aw 9 (.g [qi 206 1 202 204,ql 207 1 206,qm 34 207] (.aB [qm 208 32,qm 209 34,Rq 210 (.un .neg (.t 209)),Rq 211 (.cd 1 1 [.i 0] [(0,1,.t 210)]),Rq 212 (.cC 1 8 (.t 208) (.t 211)),qm 32 212]))) (.aB [qa 213 204 1,qm 204 213])))
def Bm:VC:=.g [qT 199 198 197] (.q (.cond (.t 199) .skip (.exit 6)) (.q (.aw 7 (.g [qi 200 1 196 198,ql 201 1 200,qm 31 201] (.g [qz 32] (.q (.g [qm 202 31,qn 203 1 202,qk 204 0] (.q (.aw 8 (.loop [7,20,22,24,29,32,196,197,198,202,203,204] za)) (.kp [7,20,22,24,29,32,196,197,198]))) (.q (.fz [32]) (.aB [qm 214 29,qm 215 32,Rq 216 (.cd 1 1 [.ab] [(0,1,.t 215)]),Rq 217 (.cC 1 24 (.t 214) (.t 216)),qm 29 217])))))) (.aB [qa 218 198 1,qm 198 218])))
def po:av:=⟨[.t 6],.g [qf 6] (.h [qm 39 1,qn 40 1 39,Rq 41 (.y .gtr 40 9),qm 42 41,Rf 43 42 (.m 0),Rf 44 42 (.m 1),Rf 45 42 (.q 6 [.t 43,.k 6,.t 44]),Rf 46 42 (.y .neq 45 0),qp 47 42 46,qm 48 47,Rf 49 48 (.m 2),Rf 50 48 (.len 1 (.t 49)),Rf 51 48 (.y .gtr 50 3),qp 52 48 51,qm 53 52,Rf 54 53 (.m 2),Rf 55 53 (.q 10 [.t 54]),Rf 56 53 (.y .neq 55 0),qp 57 53 56] 57 (.e [qc0 58 481,qm 6 58]) (.g [qm 60 0,qm 61 1,Rq 62 (.q 5 [.t 60,.k 3,.t 61]),qm 59 62,qe 63 0 59,qe 64 1 59,qm 7 63,qm 8 64] (.g [qm 66 0,qm 67 1,Rq 68 (.q 5 [.t 66,.k 6,.t 67]),qm 65 68,qe 69 0 65,qe 70 1 65,qm 9 69,qm 10 70] (.h [qm 71 8,qm 72 10,qA 73 71 72,qN 74 73 0,qm 75 74,Rf 76 75 (.m 7),Rf 77 75 (.q 3 [.t 76]),Rf 78 75 (.m 9),Rf 79 75 (.q 3 [.t 78]),Rf 80 75 (.z .add 77 79),Rf 81 75 (.y .neq 80 0),qp 82 75 81,qm 83 82,Rf 84 83 (.m 7),Rf 85 83 (.len 1 (.t 84)),Rf 86 83 (.y .neq 85 3),qp 87 83 86,qm 88 87,Rf 89 88 (.m 9),Rf 90 88 (.len
 1 (.t 89)),Rf 91 88 (.y .neq 90 6),qp 92 88 91] 92 (.e [qf 6]) (.q (.g [qk 93 0] (.q (.aw 0 (.loop [2,7,9,93] s8)) (.kp [2,7]))) (.g [qm 117 7,qm 118 2,aD 119 9 117 118,qm 116 119,qe 120 0 116,qe 121 1 116,qm 12 120,qm 13 121] (.h [qm 122 13,qN 123 122 0] 123 (.e [qm 124 13,qE 125 124 4,qm 126 125,Rt 127 126 (.q 481 []),qq 128 126 127,qm 6 128]) (.g [qm 130 12,Rq 131 (.q 20 [.t 130,.k 1,.k 2]),qm 129 131,qe 132 0 129,qe 133 1 129,qm 14 132,qm 15 133] (.g [qm 135 7,Rq 136 (.q 20 [.t 135,.k 1,.k 2]),qm 134 136,qe 137 0 134,qe 138 1 134,qm 16 137,qm 17 138] (.g [qm 140 16,qm 141 2,aD 142 9 140 141,qm 139 142,qe 143 0 139,qe 144 1 139,qm 18 143,qm 19 144] (.g [qm 146 7,ap 147 16 146,qm 145 147,qe 148 0 145,qe 149 1 145,qm 20 148,qm 21 149] (.g [qm 151 12,ap 152 16 151,qm 150 152,qe 153 0 150,qe 154 1 150,qm 22 153,qm 23 154] (.h [qm 155 15,qm 156 17,qA 157 155 156,qm 158 19,qA 159 157
 158,qm 160 21,qA 161 159 160,qm 162 23,qA 163 161 162,qN 164 163 0,qm 165 164,Rf 166 165 (.m 14),Rf 167 165 (.m 18),Rf 168 165 (.q 21 [.t 166,.t 167]),Rf 169 165 (.un .not (.t 168)),qp 170 165 169,qm 171 170,Rf 172 171 (.m 20),Rf 173 171 (.q 263 [.t 172]),Rf 174 171 (.m 22),Rf 175 171 (.q 263 [.t 174]),Rf 176 171 (.z .add 173 175),Rf 177 171 (.y .neq 176 0),qp 178 171 177] 178 (.e [qf 6]) (.g [qk 24 0] (.q (.g [qm 179 2,qn 180 1 179,qk 181 0] (.q (.aw 2 (.loop [7,20,22,24,179,180,181] Bl)) (.kp [7,20,22,24]))) (.g [qz 29] (.q (.g [qm 196 7,qn 197 1 196,qk 198 0] (.q (.aw 6 (.loop [7,20,22,24,29,196,197,198] Bm)) (.kp [7,20,22,24,29]))) (.g [qm 220 7,Rq 221 (.q 18 [.t 220,.k 1,.k 1]),qm 219 221,qe 222 0 219,qe 223 1 219,qm 35 222,qm 36 223] (.g [qm 225 29,Rq 226 (.q 18 [.t 225,.k 1,.k 1]),qm 224 226,qe 227 0 224,qe 228 1 224,qm 37 227,qm 38 228] (.e [qm 229 36,qm 230 38,qA 231 229
 230,qE 232 231 0,qm 233 232,Rt 234 233 (.m 35),Rt 235 233 (.m 37),Rt 236 233 (.z .eql 234 235),qq 237 233 236,qm 238 237,Rt 239 238 (.m 22),Rt 240 238 (.m 24),Rt 241 238 (.q 265 [.t 240]),Rt 242 238 (.m 20),Rt 243 238 (.q 267 [.t 241,.t 242]),Rt 244 238 (.z .eql 239 243),qq 245 238 244,qm 246 245,Rt 247 246 (.q 481 []),qq 248 246 247,qm 6 248]))))))))))))))))))))⟩
end
section
def aeX:VC:=.q (.g [qm 5 3,qm 6 0,qn 7 1 6,qT 8 5 7] (.cond (.t 8) .skip (.exit 0))) (.q (.aw 1 (.g [qm 11 0,qm 12 3,qi 13 1 11 12,ql 14 1 13,ap 15 263 14,qm 4 15] (.g [qm 16 4,qN 17 16 0] (.i 17 (.e [qm 18 4,qm 2 18]))))) (.aB [qm 9 3,qa 10 9 1,qm 3 10]))
def TL:av:=⟨[.t 2],.g [qk 2 0] (.q (.g [qk 3 0] (.q (.aw 0 (.loop [0,3] aeX)) (.kp []))) (.e [qk 2 0]))⟩
def TN:av:=⟨[.t 2],.g [qk 2 0] (.h [qm 3 0,Rq 4 (.bin .eql (.t 3) (.s [48]))] 4 (.e [qk 2 0]) (.h [qm 5 0,qn 6 0 5,Rq 7 (.y .gtr 6 0),qm 8 7,Rt 9 8 (.m 0),Rt 10 8 (.ik (.t 9) (.k 0)),Rt 11 8 (.bin .eql (.t 10) (.c (.int .u8 45))),qq 12 8 11] 12 (.e [qk 2 (-1)]) (.e [qk 2 1])))⟩
def cA:av:=⟨[.t 2],.g [qk 2 0] (.g [qm 8 0,qm 3 8] (.h [qm 9 3,qn 10 0 9,Rq 11 (.y .gtr 10 0),qm 12 11,Rt 13 12 (.m 3),Rt 14 12 (.ik (.t 13) (.k 0)),Rt 15 12 (.bin .eql (.t 14) (.c (.int .u8 45))),qq 16 12 15] 16 (.aB [qm 17 3,Rq 18 (.cV .str (.t 17) (some (.k 1)) none),qm 3 18]) (.g [qm 19 3,ap 20 272 19,qm 4 20] (.h [qm 21 3,qm 22 4,Rq 23 (.cV .str (.t 21) none (some (.t 22))),ap 24 273 23,Rq 25 (.un .not (.t 24)),qm 26 25,Rf 27 26 (.m 0),Rf 28 26 (.ik (.t 27) (.k 0)),Rf 29 26 (.bin .eql (.t 28) (.c (.int .u8 45))),Rf 30 26 (.m 29),Rt 31 30 (.m 3),Rt 32 30 (.m 4),Rt 33 30 (.cV .str (.t 31) none (some (.t 32))),Rt 34 30 (.bin .eql (.t 33) (.s [48])),Rf 35 26 (.pick (.t 30) (.t 34) (.c (.bool false))),qp 36 26 35] 36 (.e [qk 2 1]) (.h [qm 37 4,qm 38 3,qn 39 0 38,qT 40 37 39,qm 41 40,Rt 42 41 (.m 3),Rt 43 41 (.m 4),Rt 44 41 (.y .add 43 1),Rt 45 41 (.cV .str (.t 42) (some (.t 44)) none),Rt 46
 41 (.q 273 [.t 45]),Rt 47 41 (.un .not (.t 46)),Rt 48 41 (.m 47),Rf 49 48 (.m 3),Rf 50 48 (.m 4),Rf 51 48 (.y .add 50 1),Rf 52 48 (.cV .str (.t 49) (some (.t 51)) none),Rf 53 48 (.bin .eql (.t 52) (.s [48])),Rt 54 41 (.pick (.t 48) (.c (.bool true)) (.t 53)),Rt 55 41 (.m 54),Rf 56 55 (.m 3),Rf 57 55 (.m 4),Rf 58 55 (.y .add 57 1),Rf 59 55 (.cV .str (.t 56) (some (.t 58)) none),Rf 60 55 (.bin .eql (.t 59) (.s [49])),Rt 61 41 (.pick (.t 55) (.c (.bool true)) (.t 60)),qq 62 41 61] 62 (.e [qk 2 1]) (.h [qm 63 4,Rq 64 (.y .gtr 63 600),qm 65 64,Rf 66 65 (.m 3),Rf 67 65 (.len 0 (.t 66)),Rf 68 65 (.m 4),Rf 69 65 (.z .sub 67 68),Rf 70 65 (.y .sub 69 1),Rf 71 65 (.y .gtr 70 600),qp 72 65 71] 72 (.e [qk 2 4]) (.h [qm 73 4,qm 74 3,qn 75 0 74,qT 76 73 75] 76 (.g [qm 78 3,ap 79 274 78,qm 77 79,qe 80 0 77,qe 81 1 77,Rq 5 (.box 2 (.c (.agg [.bool false,.ab]))),Rq 6 (.box 2 (.c (.agg [.bool false,.ab]))),qs
 2 5 80,qs 2 6 81] (.g [qo 82 1 5,ql 83 1 82,qo 84 1 6,ql 85 1 84,aD 86 275 83 85,qm 7 86] (.g [qm 87 7,qn 88 1 87,qN 89 88 1,qm 90 89,Rf 91 90 (.m 7),Rf 92 90 (.a7 1 (.t 91) (.k 0)),Rf 93 90 (.ld 1 false (.t 92)),Rf 94 90 (.y .neq 93 1),qp 95 90 94] (.i 95 (.e [qk 2 1]))))) (.e [qk 2 0]))))))))⟩
def TO:av:=⟨[.t 4],.g [Rq 4 (.br (.s []))] (.g [qm 16 0,ap 17 276 16,qm 15 17,qe 18 0 15,qe 19 1 15,qe 20 2 15,qm 5 18,qm 6 19,qm 7 20] (.g [qm 22 1,ap 23 276 22,qm 21 23,qe 24 0 21,qe 25 1 21,qe 26 2 21,qm 8 24,qm 9 25,qm 10 26] (.h [qm 27 7,qm 28 27,Rt 29 28 (.m 10),qq 30 28 29] 30 (.e [qm 31 5,qm 32 9,Rq 33 (.z .mul 31 32),qm 34 8,qm 35 6,Rq 36 (.z .mul 34 35),qA 37 33 36,qm 38 6,qm 39 9,Rq 40 (.z .mul 38 39),aD 41 277 37 40,qm 4 41]) (.g [qm 43 0,ap 44 274 43,qm 42 44,qe 45 0 42,qe 46 1 42,Rq 11 (.box 2 (.c (.agg [.bool false,.ab]))),Rq 12 (.box 2 (.c (.agg [.bool false,.ab]))),qs 2 11 45,qs 2 12 46] (.g [qm 48 1,ap 49 274 48,qm 47 49,qe 50 0 47,qe 51 1 47,Rq 13 (.box 2 (.c (.agg [.bool false,.ab]))),Rq 14 (.box 2 (.c (.agg [.bool false,.ab]))),qs 2 13 50,qs 2 14 51] (.e [qL 52 2 11,qL 53 2 14,aD 54 278 52 53,qL 55 2 13,qL 56 2 12,aD 57 278 55 56,aD 58 279 54 57,qL 59 2 12,qL 60
 2 14,aD 61 278 59 60,aD 62 280 58 61,qm 4 62]))))))⟩
def Fm:av:=⟨[.t 2],.g [Rq 2 (.br (.s []))] (.e [qm 3 0,ap 4 281 3,ap 5 282 4,qm 2 5])⟩
def aiH:av:=⟨[.t 4],.g [Rq 4 (.br (.s []))] (.e [qm 5 0,qm 6 1,ap 7 283 6,aD 8 267 5 7,qm 4 8])⟩
def B5:av:=⟨[.t 4],.g [Rq 4 (.br (.s []))] (.g [qm 16 0,ap 17 276 16,qm 15 17,qe 18 0 15,qe 19 1 15,qe 20 2 15,qm 5 18,qm 6 19,qm 7 20] (.g [qm 22 1,ap 23 276 22,qm 21 23,qe 24 0 21,qe 25 1 21,qe 26 2 21,qm 8 24,qm 9 25,qm 10 26] (.h [qm 27 7,qm 28 27,Rt 29 28 (.m 10),qq 30 28 29] 30 (.e [qm 31 5,qm 32 8,Rq 33 (.z .mul 31 32),qm 34 6,qm 35 9,Rq 36 (.z .mul 34 35),aD 37 277 33 36,qm 4 37]) (.g [qm 39 0,ap 40 274 39,qm 38 40,qe 41 0 38,qe 42 1 38,Rq 11 (.box 2 (.c (.agg [.bool false,.ab]))),Rq 12 (.box 2 (.c (.agg [.bool false,.ab]))),qs 2 11 41,qs 2 12 42] (.g [qm 44 1,ap 45 274 44,qm 43 45,qe 46 0 43,qe 47 1 43,Rq 13 (.box 2 (.c (.agg [.bool false,.ab]))),Rq 14 (.box 2 (.c (.agg [.bool false,.ab]))),qs 2 13 46,qs 2 14 47] (.e [qL 48 2 11,qL 49 2 13,aD 50 278 48 49,qL 51 2 12,qL 52 2 14,aD 53 278 51 52,aD 54 280 50 53,qm 4 54]))))))⟩
def TP:av:=⟨[.t 2],.g [Rq 2 (.br (.s []))] (.h [qm 3 0,ap 4 262 3,Rq 5 (.y .lss 4 0)] 5 (.e [qm 6 0,Rq 7 (.cV .str (.t 6) (some (.k 1)) none),qm 2 7]) (.h [qm 8 0,ap 9 262 8,qE 10 9 0] 10 (.e [qm 11 0,qm 2 11]) (.e [qm 12 0,Rq 13 (.bin .add (.s [45]) (.t 12)),qm 2 13])))⟩
def TQ:av:=⟨[.t 4],.g [Rq 4 (.br (.s []))] (.e [qm 5 0,qm 6 1,ap 7 268 6,aD 8 264 5 7,qm 4 8])⟩
def zc:VC:=.q (.g [qm 4 3,qm 5 0,qn 6 0 5,qT 7 4 6] (.cond (.t 7) .skip (.exit 0))) (.q (.aw 1 (.g [qm 10 0,qm 11 3,Rq 12 (.ik (.t 10) (.t 11)),Rq 13 (.bin .eql (.t 12) (.c (.int .u8 47)))] (.i 13 (.e [qm 14 3,qm 2 14])))) (.aB [qm 8 3,qa 9 8 1,qm 3 9]))
def B6:av:=⟨[.t 2],.g [qk 2 0] (.q (.g [qk 3 0] (.q (.aw 0 (.loop [0,3] zc)) (.kp [0]))) (.e [qm 15 0,qn 16 0 15,qm 2 16]))⟩
def rJ:av:=⟨[.t 2],.g [qf 2] (.h [qm 3 0,qn 4 0 3,qE 5 4 0,qm 6 5,Rf 7 6 (.m 0),Rf 8 6 (.len 0 (.t 7)),Rf 9 6 (.y .gtr 8 1),Rf 10 6 (.m 9),Rt 11 10 (.m 0),Rt 12 10 (.ik (.t 11) (.k 0)),Rt 13 10 (.bin .eql (.t 12) (.c (.int .u8 48))),Rf 14 6 (.pick (.t 10) (.t 13) (.c (.bool false))),qp 15 6 14] 15 (.e [qf 2]) (.e [qm 16 0,ap 17 287 16,qm 2 17]))⟩
def Fo:av:=⟨[.cell 2 2 true,.cell 3 2 true],.g [Rq 2 (.box 2 (.c (.agg [.bool false,.ab]))),Rq 3 (.box 2 (.c (.agg [.bool false,.ab])))] (.g [qm 6 0,qm 4 6] (.g [qm 7 4,ap 8 272 7,qm 5 8] (.h [qm 9 5,qm 10 4,qn 11 0 10,Rq 12 (.z .eql 9 11)] 12 (.e [qm 13 4,ap 14 288 13,Rq 15 (.q 281 [.k 1]),qs 2 2 14,qs 2 3 15]) (.e [qm 16 4,qm 17 5,Rq 18 (.cV .str (.t 16) none (some (.t 17))),ap 19 288 18,qm 20 4,qm 21 5,qa 22 21 1,Rq 23 (.cV .str (.t 20) (some (.t 22)) none),ap 24 288 23,qs 2 2 19,qs 2 3 24]))))⟩
def Bn:VC:=.q (.g [qm 7 1,qn 8 1 7,Rq 9 (.y .gtr 8 0)] (.cond (.t 9) .skip (.exit 0))) (.aw 1 (.g [qm 11 0,qm 12 1,aD 13 289 11 12,qm 10 13,qe 14 0 10,qe 15 1 10,qm 5 14,qm 6 15] (.aB [qm 16 1,qm 17 6,qm 0 16,qm 1 17])))
def Fp:av:=⟨[.t 4],.g [qz 4] (.q (.q (.aw 0 (.loop [0,1] Bn)) (.kp [0])) (.e [qm 18 0,qm 4 18]))⟩
def kH:av:=⟨[.t 2,.t 3,.t 4],.g [qk 2 0,qk 3 0,qf 4] (.g [qm 10 0,qm 5 10] (.h [qm 11 5,qn 12 0 11,Rq 13 (.y .gtr 12 20)] 13 (.e [qk 2 0,qk 3 0,qf 4]) (.g [qm 14 5,qn 15 0 14,Rq 16 (.y .gtr 15 0),qm 17 16,Rt 18 17 (.m 5),Rt 19 17 (.ik (.t 18) (.k 0)),Rt 20 17 (.bin .eql (.t 19) (.c (.int .u8 45))),qq 21 17 20,qm 6 21] (.h [qm 22 6] 22 (.aB [qm 23 5,Rq 24 (.cV .str (.t 23) (some (.k 1)) none),qm 5 24]) (.g [qm 25 5,ap 26 272 25,qm 7 26] (.h [qm 27 7,Rq 28 (.y .gtr 27 9),qm 29 28,Rf 30 29 (.m 5),Rf 31 29 (.len 0 (.t 30)),Rf 32 29 (.m 7),Rf 33 29 (.z .sub 31 32),Rf 34 29 (.y .gtr 33 10),qp 35 29 34] 35 (.e [qk 2 0,qk 3 0,qf 4]) (.g [qm 36 5,qm 37 7,Rq 38 (.cV .str (.t 36) none (some (.t 37))),ap 39 290 38,qm 8 39,qk 9 1] (.h [qm 40 7,qm 41 5,qn 42 0 41,qT 43 40 42] 43 (.aB [qm 44 5,qm 45 7,qa 46 45 1,Rq 47 (.cV .str (.t 44) (some (.t 46)) none),ap 48 290 47,qm 9 48]) (.h [qm 49 6] 49 (.aB [qm
 50 8,Rq 51 (.bin .sub (.k 0) (.t 50)),qm 8 51]) (.e [qm 52 8,qm 53 9,qm 2 52,qm 3 53,Rq 4 (.br (.c (.bool true)))]))))))))))⟩
def rK:av:=⟨[.t 4],.g [Rq 4 (.br (.s []))] (.h [qm 7 0,Rq 8 (.y .lss 7 (-4000000000000000000)),qm 9 8,Rf 10 9 (.m 0),Rf 11 9 (.y .gtr 10 4000000000000000000),qp 12 9 11,qm 13 12,Rf 14 13 (.m 1),Rf 15 13 (.y .lss 14 (-4000000000000000000)),qp 16 13 15,qm 17 16,Rf 18 17 (.m 1),Rf 19 17 (.y .gtr 18 4000000000000000000),qp 20 17 19] 20 (.e [qm 21 0,ap 22 281 21,qm 23 1,ap 24 281 23,aD 25 280 22 24,qm 4 25]) (.h [qm 26 1,Rq 27 (.y .lss 26 0)] 27 (.aB [qm 28 0,Rq 29 (.bin .sub (.k 0) (.t 28)),qm 30 1,Rq 31 (.bin .sub (.k 0) (.t 30)),qm 0 29,qm 1 31]) (.g [qm 32 0,qm 33 0,Rq 34 (.bin .sub (.k 0) (.t 33)),Rq 35 (.mx [.t 32,.t 34]),qm 36 1,aD 37 291 35 36,qm 5 37] (.g [qm 38 0,qm 39 5,Rq 40 (.z .quo 38 39),qm 41 1,qm 42 5,Rq 43 (.z .quo 41 42),qm 0 40,qm 1 43] (.g [Rq 6 (.br (.s []))] (.h [qm 44 0,Rq 45 (.y .lss 44 0)] 45 (.aB [Rq 6 (.br (.s [45]))]) (.g [qm 46 6,qm 47 0,qm 48 0,Rq 49 (.bin .sub (.k
 0) (.t 48)),Rq 50 (.mx [.t 47,.t 49]),Rq 51 (.q 292 [.t 50,.k 1]),qA 52 46 51,qm 6 52] (.h [qm 53 1,Rq 54 (.y .gtr 53 1)] 54 (.aB [qm 55 6,Rq 56 (.bin .add (.t 55) (.s [47])),qm 57 1,Rq 58 (.q 292 [.t 57,.k 1]),qA 59 56 58,qm 6 59]) (.e [qm 60 6,qm 4 60])))))))))⟩
def Fs:av:=⟨[.cell 4 2 true],.g [qb 2 2 0,qb 3 2 1,Rq 4 (.box 2 (.c (.agg [.bool false,.ab])))] (.e [qo 5 0 2,ql 6 1 5,qo 7 0 3,ql 8 1 7,Rq 9 (.eq true .b (.t 6) (.t 8)),qo 10 1 2,ql 11 1 10,qo 12 1 3,ql 13 1 12,aD 14 293 11 13,aD 15 294 9 14,qs 2 4 15])⟩
def TR:av:=⟨[.cell 4 2 true],.g [qb 2 2 0,qb 3 2 1,Rq 4 (.box 2 (.c (.agg [.bool false,.ab])))] (.h [qo 5 0 2,ql 6 1 5,qo 7 0 3,ql 8 1 7,Rq 9 (.eq false .b (.t 6) (.t 8))] 9 (.e [qo 10 0 2,ql 11 1 10,qo 12 1 2,ql 13 1 12,qo 14 1 3,ql 15 1 14,aD 16 295 13 15,aD 17 294 11 16,qs 2 4 17]) (.h [qo 18 1 2,ql 19 1 18,qo 20 1 3,ql 21 1 20,aD 22 296 19 21,Rq 23 (.y .geq 22 0)] 23 (.e [qo 24 0 2,ql 25 1 24,qo 26 1 2,ql 27 1 26,qo 28 1 3,ql 29 1 28,aD 30 297 27 29,aD 31 294 25 30,qs 2 4 31]) (.e [qo 32 0 3,ql 33 1 32,qo 34 1 3,ql 35 1 34,qo 36 1 2,ql 37 1 36,aD 38 297 35 37,aD 39 294 33 38,qs 2 4 39])))⟩
def jK:av:=⟨[.t 4],.g [qb 2 2 0,qb 3 2 1,Rq 4 (.br (.s []))] (.h [qo 11 0 3,ql 12 1 11] 12 (.aB [qL 13 2 2,ap 14 298 13,qL 15 2 3,ap 16 298 15,qs 2 2 14,qs 2 3 16]) (.g [qo 17 1 2,ql 18 1 17,qo 19 1 3,ql 20 1 19,aD 21 275 18 20,qm 5 21] (.g [qo 23 1 2,ql 24 1 23,qm 25 5,aD 26 289 24 25,qm 22 26,qe 27 0 22,qe 28 1 22,qm 6 27,qm 7 28] (.g [qo 30 1 3,ql 31 1 30,qm 32 5,aD 33 289 31 32,qm 29 33,qe 34 0 29,qe 35 1 29,qm 8 34,qm 9 35] (.g [qo 36 0 2,ql 37 1 36,qm 38 6,aD 39 294 37 38,ap 40 282 39,qm 10 40] (.h [qm 41 8,qn 42 1 41,qE 43 42 1,qm 44 43,Rt 45 44 (.m 8),Rt 46 44 (.a7 1 (.t 45) (.k 0)),Rt 47 44 (.ld 1 false (.t 46)),Rt 48 44 (.y .eql 47 1),qq 49 44 48] 49 (.e [qm 50 10,qm 4 50]) (.e [qm 51 10,Rq 52 (.bin .add (.t 51) (.s [47])),qm 53 8,Rq 54 (.q 294 [.c (.bool false),.t 53]),ap 55 282 54,qA 56 52 55,qm 4 56])))))))⟩
def mw:VC:=.q (.g [qm 8 0,qN 9 8 0] (.cond (.t 9) .skip (.exit 0))) (.aw 1 (.g [qm 10 0,Rq 11 (.y .rem 10 1000000000),qm 5 11] (.h [qm 12 5,Rq 13 (.y .lss 12 0)] 13 (.aB [qm 14 5,Rq 15 (.bin .sub (.k 0) (.t 14)),qm 5 15]) (.g [qm 16 3,qm 17 5,Rq 18 (.cd 1 1 [.i 0] [(0,1,.t 17)]),Rq 19 (.cC 1 8 (.t 16) (.t 18)),qm 3 19] (.aB [qm 20 0,Rq 21 (.y .quo 20 1000000000),qm 0 21])))))
def Ft:av:=⟨[.cell 2 2 true],.g [Rq 2 (.box 2 (.c (.agg [.bool false,.ab])))] (.g [qz 3] (.g [qm 6 0,Rq 7 (.y .lss 6 0),qm 4 7] (.q (.q (.aw 0 (.loop [0,2,3,4] mw)) (.kp [2,3,4])) (.e [qm 22 4,qm 23 3,aD 24 294 22 23,qs 2 2 24]))))⟩
def Bo:VC:=.q (.g [qm 22 4,Rq 23 (.y .geq 22 0)] (.cond (.t 23) .skip (.exit 0))) (.q (.aw 1 (.aB [qm 26 3,qo 27 1 1,ql 28 1 27,qm 29 4,qi 30 1 28 29,ql 31 1 30,Rq 32 (.q 292 [.t 31,.k 9]),qA 33 26 32,qm 3 33])) (.aB [qm 24 4,Rq 25 (.y .sub 24 1),qm 4 25]))
def B7:av:=⟨[.t 2],.g [qb 1 2 0,Rq 2 (.br (.s []))] (.h [qo 5 1 1,ql 6 1 5,qn 7 1 6,qE 8 7 0] 8 (.e [Rq 2 (.br (.s [48]))]) (.g [qo 9 1 1,ql 10 1 9,qo 11 1 1,ql 12 1 11,qn 13 1 12,Rq 14 (.y .sub 13 1),qi 15 1 10 14,ql 16 1 15,Rq 17 (.q 292 [.t 16,.k 1]),qm 3 17] (.q (.g [qo 18 1 1,ql 19 1 18,qn 20 1 19,Rq 21 (.y .sub 20 2),qm 4 21] (.q (.aw 0 (.loop [1,3,4] Bo)) (.kp [1,3]))) (.h [qo 34 0 1,ql 35 1 34] 35 (.e [qm 36 3,Rq 37 (.bin .add (.s [45]) (.t 36)),qm 2 37]) (.e [qm 38 3,qm 2 38])))))⟩
def aiI:av:=⟨[.t 2],.g [Rq 2 (.br (.s []))] (.g [qm 6 0,ap 7 274 6,qm 5 7,qe 8 0 5,qe 9 1 5,Rq 3 (.box 2 (.c (.agg [.bool false,.ab]))),Rq 4 (.box 2 (.c (.agg [.bool false,.ab]))),qs 2 3 8,qs 2 4 9] (.e [qL 10 2 4,qL 11 2 3,aD 12 280 10 11,qm 2 12]))⟩
def TS:av:=⟨[.t 2],.g [Rq 2 (.br (.s []))] (.e [qm 3 0,qm 4 0,ap 5 272 4,Rq 6 (.cV .str (.t 3) none (some (.t 5))),qm 2 6])⟩
def TU:av:=⟨[.t 2],.g [Rq 2 (.br (.s []))] (.h [qm 3 0,ap 4 262 3,Rq 5 (.y .lss 4 0)] 5 (.e [qm 6 0,Rq 7 (.cV .str (.t 6) (some (.k 1)) none),qm 2 7]) (.e [qm 8 0,qm 2 8]))⟩
def TV:av:=⟨[.t 2],.g [Rq 2 (.br (.s []))] (.g [qm 4 0,ap 5 272 4,qm 3 5] (.h [qm 6 3,qm 7 0,qn 8 0 7,Rq 9 (.z .eql 6 8)] 9 (.e [Rq 2 (.br (.s [49]))]) (.e [qm 10 0,qm 11 3,qa 12 11 1,Rq 13 (.cV .str (.t 10) (some (.t 12)) none),qm 2 13])))⟩
def qR:VC:=.q (.g [qm 4 3,qm 5 0,qn 6 0 5,qT 7 4 6] (.cond (.t 7) .skip (.exit 0))) (.q (.aw 1 (.g [qm 10 0,qm 11 3,Rq 12 (.ik (.t 10) (.t 11)),Rq 13 (.bin .lss (.t 12) (.c (.int .u8 48))),qm 14 13,Rf 15 14 (.m 0),Rf 16 14 (.m 3),Rf 17 14 (.ik (.t 15) (.t 16)),Rf 18 14 (.bin .gtr (.t 17) (.c (.int .u8 57))),qp 19 14 18] (.i 19 (.e [qf 2])))) (.aB [qm 8 3,qa 9 8 1,qm 3 9]))
def B8:av:=⟨[.t 2],.g [qf 2] (.q (.g [qk 3 0] (.q (.aw 0 (.loop [0,3] qR)) (.kp []))) (.e [Rq 2 (.br (.c (.bool true)))]))⟩
def nC:VC:=.q (.g [qm 16 0,qn 17 0 16,Rq 18 (.y .gtr 17 9)] (.cond (.t 18) .skip (.exit 0))) (.aw 1 (.g [qm 19 4,qm 20 0,qm 21 0,qn 22 0 21,Rq 23 (.y .sub 22 9),Rq 24 (.cV .str (.t 20) (some (.t 23)) none),ap 25 290 24,Rq 26 (.cd 1 1 [.i 0] [(0,1,.t 25)]),Rq 27 (.cC 1 8 (.t 19) (.t 26)),qm 4 27] (.aB [qm 28 0,qm 29 0,qn 30 0 29,Rq 31 (.y .sub 30 9),Rq 32 (.cV .str (.t 28) none (some (.t 31))),qm 0 32])))
def Fu:av:=⟨[.cell 2 2 true],.g [Rq 2 (.box 2 (.c (.agg [.bool false,.ab])))] (.g [qm 5 0,qn 6 0 5,Rq 7 (.y .gtr 6 0),qm 8 7,Rt 9 8 (.m 0),Rt 10 8 (.ik (.t 9) (.k 0)),Rt 11 8 (.bin .eql (.t 10) (.c (.int .u8 45))),qq 12 8 11,qm 3 12] (.h [qm 13 3] 13 (.aB [qm 14 0,Rq 15 (.cV .str (.t 14) (some (.k 1)) none),qm 0 15]) (.g [qz 4] (.q (.q (.aw 0 (.loop [0,2,3,4] nC)) (.kp [0,2,3,4])) (.e [qm 33 3,qm 34 4,qm 35 0,ap 36 290 35,Rq 37 (.cd 1 1 [.i 0] [(0,1,.t 36)]),Rq 38 (.cC 1 8 (.t 34) (.t 37)),aD 39 294 33 38,qs 2 2 39])))))⟩
def Bp:VC:=.q (.g [qm 63 11,qn 64 1 63,qm 65 0,qn 66 1 65,qa 67 66 1,qT 68 64 67] (.cond (.t 68) .skip (.exit 0))) (.aw 1 (.aB [qm 69 11,Rq 70 (.cd 1 1 [.i 0] [(0,1,.k 0)]),Rq 71 (.cC 1 8 (.t 69) (.t 70)),qm 11 71]))
def zd:VC:=.q (.g [qm 90 16,qm 91 10,qT 92 90 91] (.cond (.t 92) .skip (.exit 4))) (.q (.aw 5 (.g [qm 95 14,qm 96 9,qm 97 16,qi 98 1 96 97,ql 99 1 98,Rq 100 (.z .mul 95 99),qm 101 15,qA 102 100 101,qm 17 102] (.g [qm 103 11,qm 104 16,qm 105 13,qA 106 104 105,qi 107 1 103 106,ql 108 1 107,qm 109 17,Rq 110 (.y .rem 109 1000000000),Rq 111 (.z .sub 108 110),qm 18 111] (.g [qm 112 17,Rq 113 (.y .quo 112 1000000000),qm 15 113] (.h [qm 114 18,Rq 115 (.y .lss 114 0)] 115 (.g [qm 116 18,qa 117 116 1000000000,qm 18 117] (.aB [qm 118 15,qa 119 118 1,qm 15 119])) (.aB [qm 120 11,qm 121 16,qm 122 13,qA 123 121 122,qm 124 18,qi 125 1 120 123,qs 1 125 124])))))) (.aB [qm 93 16,qa 94 93 1,qm 16 94]))
def Bq:VC:=.q (.g [qm 148 20,qm 149 10,qT 150 148 149] (.cond (.t 150) .skip (.exit 6))) (.q (.aw 7 (.g [qm 153 11,qm 154 20,qm 155 13,qA 156 154 155,qi 157 1 153 156,ql 158 1 157,qm 159 9,qm 160 20,qi 161 1 159 160,ql 162 1 161,qA 163 158 162,qm 164 19,qA 165 163 164,qm 21 165] (.g [qm 166 11,qm 167 20,qm 168 13,qA 169 167 168,qm 170 21,Rq 171 (.y .rem 170 1000000000),qi 172 1 166 169,qs 1 172 171] (.aB [qm 173 21,Rq 174 (.y .quo 173 1000000000),qm 19 174])))) (.aB [qm 151 20,qa 152 151 1,qm 20 152]))
def Br:VC:=.q (.g [qm 82 13,Rq 83 (.y .geq 82 0)] (.cond (.t 83) .skip (.exit 2))) (.q (.aw 3 (.g [qm 86 11,qm 87 9,qm 88 13,Rq 89 (.call .heap (.F 301) [.t 86,.t 87,.t 88]),qm 14 89] (.g [qk 15 0] (.q (.g [qk 16 0] (.q (.aw 4 (.loop [8,9,10,11,12,13,14,15,16] zd)) (.kp [8,9,10,11,12,13,14,15]))) (.g [qm 126 11,qm 127 13,qm 128 10,qA 129 127 128,qm 130 11,qm 131 13,qm 132 10,qA 133 131 132,qi 134 1 130 133,ql 135 1 134,qm 136 15,Rq 137 (.z .sub 135 136),qi 138 1 126 129,qs 1 138 137] (.h [qm 139 11,qm 140 13,qm 141 10,qA 142 140 141,qi 143 1 139 142,ql 144 1 143,Rq 145 (.y .lss 144 0)] 145 (.g [qm 146 14,Rq 147 (.y .sub 146 1),qm 14 147] (.g [qk 19 0] (.q (.g [qk 20 0] (.q (.aw 6 (.loop [8,9,10,11,12,13,14,19,20] Bq)) (.kp [8,9,10,11,12,13,14,19]))) (.aB [qm 175 11,qm 176 13,qm 177 10,qA 178 176 177,qm 179 11,qm 180 13,qm 181 10,qA 182 180 181,qi 183 1 179 182,ql 184 1 183,qm 185 19,qA 186
 184 185,qi 187 1 175 178,qs 1 187 186])))) (.aB [qm 188 12,qm 189 13,qm 190 14,qi 191 1 188 189,qs 1 191 190]))))))) (.aB [qm 84 13,Rq 85 (.y .sub 84 1),qm 13 85]))
def mJ:av:=⟨[.t 4,.t 5],.g [qz 4,qz 5] (.h [qm 24 0,qm 25 1,aD 26 296 24 25,Rq 27 (.y .lss 26 0)] 27 (.e [qm 28 0,qz 4,qm 5 28]) (.h [qm 29 1,qn 30 1 29,qE 31 30 1] 31 (.g [qm 33 0,qm 34 1,Rq 35 (.a7 1 (.t 34) (.k 0)),ql 36 1 35,aD 37 299 33 36,qm 32 37,qe 38 0 32,qe 39 1 32,qm 6 38,qm 7 39] (.e [qm 40 6,qm 41 7,Rq 42 (.cd 1 1 [.i 0] [(0,1,.t 41)]),ap 43 300 42,qm 4 40,qm 5 43])) (.g [qm 44 1,qm 45 1,qn 46 1 45,Rq 47 (.y .sub 46 1),qi 48 1 44 47,ql 49 1 48,qa 50 49 1,Rq 51 (.bin .quo (.k 1000000000) (.t 50)),Rq 52 (.cd 1 1 [.i 0] [(0,1,.t 51)]),qm 8 52] (.g [qm 53 1,qm 54 8,aD 55 293 53 54,qm 9 55] (.g [qm 56 9,qn 57 1 56,qm 10 57] (.g [Rq 58 (.cd 0 1 [] []),qm 59 0,qm 60 8,aD 61 293 59 60,Rq 62 (.cC 1 8 (.t 58) (.t 61)),qm 11 62] (.q (.q (.aw 0 (.loop [0,8,9,10,11] Bp)) (.kp [8,9,10,11])) (.g [qm 72 11,qn 73 1 72,qm 74 10,Rq 75 (.z .sub 73 74),Rq 76 (.eT 1 8 [.i 0] (.t 75) (.t 75)),qm
 12 76] (.q (.g [qm 77 11,qn 78 1 77,qm 79 10,Rq 80 (.z .sub 78 79),Rq 81 (.y .sub 80 1),qm 13 81] (.q (.aw 2 (.loop [8,9,10,11,12,13] Br)) (.kp [8,10,11,12]))) (.g [qm 193 11,qm 194 10,Rq 195 (.cV (.sl 1) (.t 193) none (some (.t 194))),ap 196 300 195,qm 197 8,Rq 198 (.a7 1 (.t 197) (.k 0)),ql 199 1 198,aD 200 299 196 199,qm 192 200,qe 201 0 192,qe 202 1 192,qm 22 201,qm 23 202] (.e [qm 203 12,ap 204 300 203,qm 205 22,qm 4 204,qm 5 205])))))))))))⟩
def Bs:VC:=.q (.g [qm 5 4,qm 6 0,qn 7 0 6,qT 8 5 7] (.cond (.t 8) .skip (.exit 0))) (.q (.aw 1 (.aB [qm 11 3,Rq 12 (.bin .mul (.k 10) (.t 11)),qm 13 0,qm 14 4,Rq 15 (.ik (.t 13) (.t 14)),Rq 16 (.cv (.toInt .i64) (.t 15)),qA 17 12 16,Rq 18 (.y .sub 17 48),qm 3 18])) (.aB [qm 9 4,qa 10 9 1,qm 4 10]))
def zI:av:=⟨[.t 2],.g [qk 2 0] (.g [qk 3 0] (.q (.g [qk 4 0] (.q (.aw 0 (.loop [0,3,4] Bs)) (.kp [3]))) (.e [qm 19 3,qm 2 19])))⟩
def Bt:VC:=.q (.g [qm 5 1,Rq 6 (.y .gtr 5 0)] (.cond (.t 6) .skip (.exit 0))) (.aw 1 (.aB [qm 7 1,qm 8 0,qm 9 1,Rq 10 (.z .rem 8 9),qm 0 7,qm 1 10]))
def B9:av:=⟨[.t 4],.g [qk 4 0] (.q (.q (.aw 0 (.loop [0,1] Bt)) (.kp [0])) (.e [qm 11 0,qm 4 11]))⟩
def jD:VC:=.q (.g [qm 6 0,Rq 7 (.y .gtr 6 0),qm 8 7,Rf 9 8 (.m 5),Rf 10 8 (.len 0 (.t 9)),Rf 11 8 (.m 1),Rf 12 8 (.z .lss 10 11),qp 13 8 12] (.cond (.t 13) .skip (.exit 0))) (.aw 1 (.g [qm 14 0,Rq 15 (.y .rem 14 10),qm 16 0,Rq 17 (.y .rem 16 10),qa 18 17 1,Rq 19 (.cV .str (.s [48,49,50,51,52,53,54,55,56,57]) (some (.t 15)) (some (.t 18))),qm 20 5,qA 21 19 20,qm 5 21] (.aB [qm 22 0,Rq 23 (.y .quo 22 10),qm 0 23])))
def nR:av:=⟨[.t 4],.g [Rq 4 (.br (.s []))] (.g [Rq 5 (.br (.s []))] (.q (.q (.aw 0 (.loop [0,1,5] jD)) (.kp [5])) (.e [qm 24 5,qm 4 24])))⟩
def Bu:VC:=.q (.g [qm 22 8,qm 23 1,qn 24 1 23,qT 25 22 24] (.cond (.t 25) .skip (.exit 2))) (.q (.aw 3 (.g [qm 28 5,qm 29 6,qm 30 8,qA 31 29 30,qi 32 1 28 31,ql 33 1 32,qm 34 0,qm 35 6,qi 36 1 34 35,ql 37 1 36,qm 38 1,qm 39 8,qi 40 1 38 39,ql 41 1 40,Rq 42 (.z .mul 37 41),qA 43 33 42,qm 44 7,qA 45 43 44,qm 9 45] (.g [qm 46 5,qm 47 6,qm 48 8,qA 49 47 48,qm 50 9,Rq 51 (.y .rem 50 1000000000),qi 52 1 46 49,qs 1 52 51] (.aB [qm 53 9,Rq 54 (.y .quo 53 1000000000),qm 7 54])))) (.aB [qm 26 8,qa 27 26 1,qm 8 27]))
def Bv:VC:=.q (.g [qm 16 6,qm 17 0,qn 18 1 17,qT 19 16 18] (.cond (.t 19) .skip (.exit 0))) (.q (.aw 1 (.g [qk 7 0] (.q (.g [qk 8 0] (.q (.aw 2 (.loop [0,1,5,6,7,8] Bu)) (.kp [0,1,5,6,7]))) (.aB [qm 55 5,qm 56 6,qm 57 1,qn 58 1 57,qA 59 56 58,qm 60 5,qm 61 6,qm 62 1,qn 63 1 62,qA 64 61 63,qi 65 1 60 64,ql 66 1 65,qm 67 7,qA 68 66 67,qi 69 1 55 59,qs 1 69 68])))) (.aB [qm 20 6,qa 21 20 1,qm 6 21]))
def pq:av:=⟨[.t 4],.g [qz 4] (.g [qm 10 0,qn 11 1 10,qm 12 1,qn 13 1 12,qA 14 11 13,Rq 15 (.eT 1 8 [.i 0] (.t 14) (.t 14)),qm 5 15] (.q (.g [qk 6 0] (.q (.aw 0 (.loop [0,1,5,6] Bv)) (.kp [5]))) (.e [qm 70 5,ap 71 300 70,qm 4 71])))⟩
def rL:av:=⟨[.cell 4 2 true],.g [Rq 4 (.box 2 (.c (.agg [.bool false,.ab])))] (.g [qm 5 1,ap 6 300 5,qm 1 6] (.e [qm 7 0,qm 8 7,Rt 9 8 (.m 1),Rt 10 8 (.len 1 (.t 9)),Rt 11 8 (.y .gtr 10 0),qq 12 8 11,qm 13 1,Rq 14 (.df [.bool false,.ab] [(0,1,.t 12),(1,1,.t 13)]),qs 2 4 14]))⟩
def aeY:VC:=.q (.g [qm 9 7,qm 10 0,qn 11 1 10,qT 12 9 11,qm 13 12,Rf 14 13 (.m 7),Rf 15 13 (.m 1),Rf 16 13 (.len 1 (.t 15)),Rf 17 13 (.z .lss 14 16),qp 18 13 17,qm 19 18,Rf 20 19 (.m 6),Rf 21 19 (.y .gtr 20 0),qp 22 19 21] (.cond (.t 22) .skip (.exit 0))) (.q (.aw 1 (.g [qm 25 0,qm 26 7,aD 27 302 25 26,qm 28 1,qm 29 7,aD 30 302 28 29,qA 31 27 30,qm 32 6,qA 33 31 32,qm 8 33] (.g [qm 34 5,qm 35 8,Rq 36 (.y .rem 35 1000000000),Rq 37 (.cd 1 1 [.i 0] [(0,1,.t 36)]),Rq 38 (.cC 1 8 (.t 34) (.t 37)),qm 5 38] (.aB [qm 39 8,Rq 40 (.y .quo 39 1000000000),qm 6 40])))) (.aB [qm 23 7,qa 24 23 1,qm 7 24]))
def TW:av:=⟨[.t 4],.g [qz 4] (.g [qz 5] (.g [qk 6 0] (.q (.g [qk 7 0] (.q (.aw 0 (.loop [0,1,5,6,7] aeY)) (.kp [5]))) (.e [qm 41 5,qm 4 41]))))⟩
def qS:VC:=.q (.g [qm 19 5,Rq 20 (.y .geq 19 0)] (.cond (.t 20) .skip (.exit 0))) (.q (.aw 1 (.h [qm 23 0,qm 24 5,qi 25 1 23 24,ql 26 1 25,qm 27 1,qm 28 5,qi 29 1 27 28,ql 30 1 29,qT 31 26 30] 31 (.e [qk 4 (-1)]) (.g [qm 32 0,qm 33 5,qi 34 1 32 33,ql 35 1 34,qm 36 1,qm 37 5,qi 38 1 36 37,ql 39 1 38,Rq 40 (.z .gtr 35 39)] (.i 40 (.e [qk 4 1]))))) (.aB [qm 21 5,Rq 22 (.y .sub 21 1),qm 5 22]))
def nS:av:=⟨[.t 4],.g [qk 4 0] (.h [qm 6 0,qn 7 1 6,qm 8 1,qn 9 1 8,Rq 10 (.z .neq 7 9)] 10 (.h [qm 11 0,qn 12 1 11,qm 13 1,qn 14 1 13,qT 15 12 14] 15 (.e [qk 4 (-1)]) (.e [qk 4 1])) (.q (.g [qm 16 0,qn 17 1 16,Rq 18 (.y .sub 17 1),qm 5 18] (.q (.aw 0 (.loop [0,1,5] qS)) (.kp []))) (.e [qk 4 0])))⟩
def aeZ:VC:=.q (.g [qm 9 7,qm 10 0,qn 11 1 10,qT 12 9 11] (.cond (.t 12) .skip (.exit 0))) (.q (.aw 1 (.g [qm 15 0,qm 16 7,qi 17 1 15 16,ql 18 1 17,qm 19 1,qm 20 7,aD 21 302 19 20,Rq 22 (.z .sub 18 21),qm 23 6,Rq 24 (.z .sub 22 23),qm 8 24] (.g [qk 6 0] (.h [qm 25 8,Rq 26 (.y .lss 25 0)] 26 (.g [qm 27 8,qa 28 27 1000000000,qm 8 28] (.aB [qk 6 1])) (.aB [qm 29 5,qm 30 8,Rq 31 (.cd 1 1 [.i 0] [(0,1,.t 30)]),Rq 32 (.cC 1 8 (.t 29) (.t 31)),qm 5 32]))))) (.aB [qm 13 7,qa 14 13 1,qm 7 14]))
def TX:av:=⟨[.t 4],.g [qz 4] (.g [qz 5] (.g [qk 6 0] (.q (.g [qk 7 0] (.q (.aw 0 (.loop [0,1,5,6,7] aeZ)) (.kp [5]))) (.e [qm 33 5,ap 34 300 33,qm 4 34]))))⟩
def Fv:av:=⟨[.cell 2 2 true],.g [qb 1 2 0,Rq 2 (.box 2 (.c (.agg [.bool false,.ab])))] (.e [qo 3 0 1,ql 4 1 3,Rq 5 (.un .not (.t 4)),qo 6 1 1,ql 7 1 6,aD 8 294 5 7,qs 2 2 8])⟩
def Bw:VC:=.q (.g [qm 16 8,Rq 17 (.y .geq 16 0)] (.cond (.t 17) .skip (.exit 0))) (.q (.aw 1 (.g [qm 20 7,Rq 21 (.y .mul 20 1000000000),qm 22 0,qm 23 8,qi 24 1 22 23,ql 25 1 24,qA 26 21 25,qm 9 26] (.g [qm 27 6,qm 28 8,qm 29 9,qm 30 1,Rq 31 (.z .quo 29 30),qi 32 1 27 28,qs 1 32 31] (.aB [qm 33 9,qm 34 1,Rq 35 (.z .rem 33 34),qm 7 35])))) (.aB [qm 18 8,Rq 19 (.y .sub 18 1),qm 8 19]))
def pw:av:=⟨[.t 4,.t 5],.g [qz 4,qk 5 0] (.g [qm 10 0,qn 11 1 10,Rq 12 (.eT 1 8 [.i 0] (.t 11) (.t 11)),qm 6 12] (.g [qk 7 0] (.q (.g [qm 13 0,qn 14 1 13,Rq 15 (.y .sub 14 1),qm 8 15] (.q (.aw 0 (.loop [0,1,6,7,8] Bw)) (.kp [6,7]))) (.e [qm 36 6,ap 37 300 36,qm 38 7,qm 4 37,qm 5 38]))))⟩
def qU:VC:=.q (.g [qm 3 0,qn 4 1 3,Rq 5 (.y .gtr 4 0),qm 6 5,Rt 7 6 (.m 0),Rt 8 6 (.m 0),Rt 9 6 (.len 1 (.t 8)),Rt 10 6 (.y .sub 9 1),Rt 11 6 (.a7 1 (.t 7) (.t 10)),Rt 12 6 (.ld 1 false (.t 11)),Rt 13 6 (.y .eql 12 0),qq 14 6 13] (.cond (.t 14) .skip (.exit 0))) (.aw 1 (.aB [qm 15 0,qm 16 0,qn 17 1 16,Rq 18 (.y .sub 17 1),Rq 19 (.cV (.sl 1) (.t 15) none (some (.t 18))),qm 0 19]))
def jn:av:=⟨[.t 2],.g [qz 2] (.q (.q (.aw 0 (.loop [0] qU)) (.kp [0])) (.e [qm 20 0,qm 2 20]))⟩
def oX:VC:=.q (.g [qm 42 9,Rq 43 (.y .geq 42 1000000000),qm 44 43,Rf 45 44 (.m 9),Rf 46 44 (.m 1),Rf 47 44 (.m 7),Rf 48 44 (.y .sub 47 2),Rf 49 44 (.a7 1 (.t 46) (.t 48)),Rf 50 44 (.ld 1 false (.t 49)),Rf 51 44 (.z .mul 45 50),Rf 52 44 (.m 10),Rf 53 44 (.y .mul 52 1000000000),Rf 54 44 (.m 0),Rf 55 44 (.m 2),Rf 56 44 (.m 7),Rf 57 44 (.z .add 55 56),Rf 58 44 (.y .sub 57 2),Rf 59 44 (.a7 1 (.t 54) (.t 58)),Rf 60 44 (.ld 1 false (.t 59)),Rf 61 44 (.z .add 53 60),Rf 62 44 (.z .gtr 51 61),qp 63 44 62] (.cond (.t 63) .skip (.exit 0))) (.aw 1 (.g [qm 64 9,Rq 65 (.y .sub 64 1),qm 9 65] (.g [qm 66 10,qm 67 1,qm 68 7,Rq 69 (.y .sub 68 1),qi 70 1 67 69,ql 71 1 70,qA 72 66 71,qm 10 72] (.g [qm 73 10,Rq 74 (.y .geq 73 1000000000)] (.i 74 (.e [qm 75 9,qm 6 75]))))))
def nT:av:=⟨[.t 6],.g [qk 6 0] (.g [qm 11 1,qn 12 1 11,qm 7 12] (.g [qm 13 0,qm 14 2,qm 15 7,qA 16 14 15,qi 17 1 13 16,ql 18 1 17,Rq 19 (.y .mul 18 1000000000),qm 20 0,qm 21 2,qm 22 7,qA 23 21 22,Rq 24 (.y .sub 23 1),qi 25 1 20 24,ql 26 1 25,qA 27 19 26,qm 8 27] (.g [qm 28 8,qm 29 1,qm 30 7,Rq 31 (.y .sub 30 1),qi 32 1 29 31,ql 33 1 32,Rq 34 (.z .quo 28 33),qm 35 8,qm 36 1,qm 37 7,Rq 38 (.y .sub 37 1),qi 39 1 36 38,ql 40 1 39,Rq 41 (.z .rem 35 40),qm 9 34,qm 10 41] (.q (.q (.aw 0 (.loop [0,1,2,7,9,10] oX)) (.kp [9])) (.e [qm 76 9,qm 6 76])))))⟩
def TY:av:=⟨[.t 4],.g [qk 4 0] (.h [qm 5 1,qm 6 0,qn 7 1 6,qT 8 5 7] 8 (.e [qm 9 0,qm 10 1,qi 11 1 9 10,ql 12 1 11,qm 4 12]) (.e [qk 4 0]))⟩
end
section
def TZ:av:=⟨[.t 2],.g [qb 1 3 0,qk 2 0] (.e [qo 3 0 1,qL 4 2 3,ap 5 308 4,qo 6 2 1,ql 7 1 6,ap 8 307 7,Rq 9 (.cd 2 1 [.i 0,.i 0] [(0,1,.t 5),(1,1,.t 8)]),ap 10 42 9,qm 2 10])⟩
def Ua:av:=⟨[.t 2],.g [qk 2 0] (.e [qm 3 0,Rq 4 (.q 314 [.t 3,.k 0]),qm 2 4])⟩
def Ub:av:=⟨[.t 2],.g [qb 1 2 0,qk 2 0] (.e [qo 3 0 1,ql 4 1 3,qo 5 1 1,ql 6 1 5,Rq 7 (.cd 2 1 [.str [],.str []] [(0,1,.t 4),(1,1,.t 6)]),ap 8 261 7,qm 2 8])⟩
def aiJ:av:=⟨[.t 4],.g [qb 2 3 0,qf 4] (.e [qo 5 2 2,ql 6 1 5,Rq 7 (.bin .eql (.t 6) (.s [48])),qm 8 7,Rf 9 8 (.m 1),Rf 10 8 (.off 2 (.t 2)),Rf 11 8 (.ld 1 false (.t 10)),Rf 12 8 (.q 315 [.t 9,.t 11]),Rf 13 8 (.y .lss 12 0),qp 14 8 13,qm 4 14])⟩
def Uc:av:=⟨[.t 4],.g [qk 4 0] (.g [qm 6 0,ap 7 263 6,qm 5 7] (.h [qm 8 5,qE 9 8 0,qm 10 9,Rt 11 10 (.m 0),Rt 12 10 (.q 262 [.t 11]),Rt 13 10 (.m 1),Rt 14 10 (.z .lss 12 13),qq 15 10 14] 15 (.aB [qk 5 3]) (.e [qm 16 5,qm 4 16])))⟩
def aiK:av:=⟨[.t 4],.g [qk 4 0] (.e [qm 5 0,qm 6 1,aD 7 271 5 6,ap 8 262 7,qm 4 8])⟩
def aiL:av:=⟨[.t 2],.g [qb 1 8 0,qk 2 0] (.e [qo 3 0 1,ql 4 1 3,ap 5 3 4,qo 6 1 1,ql 7 1 6,ap 8 307 7,qo 9 2 1,ql 10 1 9,Rq 11 (.q 314 [.t 10,.k 1]),qo 12 3 1,ql 13 1 12,ap 14 263 13,qo 15 4 1,qL 16 2 15,ap 17 308 16,qo 18 6 1,qL 19 2 18,ap 20 308 19,Rq 21 (.cd 6 1 [.i 0,.i 0,.i 0,.i 0,.i 0,.i 0] [(0,1,.t 5),(1,1,.t 8),(2,1,.t 11),(3,1,.t 14),(4,1,.t 17),(5,1,.t 20)]),ap 22 42 21,qm 2 22])⟩
def aiM:av:=⟨[.t 4],.g [qb 2 3 0,qf 4] (.e [qo 5 0 2,qL 6 2 5,qm 7 1,aD 8 358 6 7,qm 9 8,Rt 10 9 (.off 2 (.t 2)),Rt 11 9 (.ld 1 false (.t 10)),Rt 12 9 (.m 1),Rt 13 9 (.q 359 [.t 11,.t 12]),qq 14 9 13,qm 15 14,Rt 16 15 (.ld 3 true (.t 2)),Rt 17 15 (.q 306 [.t 16]),Rt 18 15 (.y .eql 17 0),qq 19 15 18,qm 4 19])⟩
def aiN:av:=⟨[.t 4],.g [qb 2 2 0,qf 4] (.e [qo 5 0 2,ql 6 1 5,qm 7 1,aD 8 359 6 7,qm 9 8,Rt 10 9 (.off 1 (.t 2)),Rt 11 9 (.ld 1 false (.t 10)),Rt 12 9 (.m 1),Rt 13 9 (.q 359 [.t 11,.t 12]),qq 14 9 13,qm 4 14])⟩
def aiO:av:=⟨[.t 4],.g [qf 4] (.e [qm 5 0,qn 6 0 5,qm 7 1,Rq 8 (.bin .mul (.k 2) (.t 7)),qa 9 8 2,Rq 10 (.z .leq 6 9),qm 11 10,Rt 12 11 (.m 0),Rt 13 11 (.q 263 [.t 12]),Rt 14 11 (.y .eql 13 0),qq 15 11 14,qm 16 15,Rt 17 16 (.m 0),Rt 18 16 (.q 284 [.t 17]),Rt 19 16 (.q 285 [.t 18]),Rt 20 16 (.len 0 (.t 19)),Rt 21 16 (.m 1),Rt 22 16 (.z .leq 20 21),qq 23 16 22,qm 24 23,Rt 25 24 (.m 0),Rt 26 24 (.q 286 [.t 25]),Rt 27 24 (.len 0 (.t 26)),Rt 28 24 (.m 1),Rt 29 24 (.z .leq 27 28),qq 30 24 29,qm 4 30])⟩
def aiP:av:=⟨[.t 6],.g [qb 3 8 0,qf 6] (.h [qo 7 0 3,ql 8 1 7,qn 9 1 8,qm 10 1,Rq 11 (.z .gtr 9 10),qm 12 11,Rf 13 12 (.off 0 (.t 3)),Rf 14 12 (.ld 1 false (.t 13)),Rf 15 12 (.q 3 [.t 14]),Rf 16 12 (.y .neq 15 0),qp 17 12 16,qm 18 17,Rf 19 18 (.off 1 (.t 3)),Rf 20 18 (.ld 1 false (.t 19)),Rf 21 18 (.off 2 (.t 3)),Rf 22 18 (.ld 1 false (.t 21)),Rf 23 18 (.off 3 (.t 3)),Rf 24 18 (.ld 1 false (.t 23)),Rf 25 18 (.cd 3 1 [.str [],.str [],.str []] [(0,1,.t 20),(1,1,.t 22),(2,1,.t 24)]),Rf 26 18 (.m 2),Rf 27 18 (.q 364 [.t 25,.k 3,.t 26]),Rf 28 18 (.un .not (.t 27)),qp 29 18 28,qm 30 29,Rf 31 30 (.off 4 (.t 3)),Rf 32 30 (.ld 2 true (.t 31)),Rf 33 30 (.m 2),Rf 34 30 (.q 358 [.t 32,.t 33]),Rf 35 30 (.un .not (.t 34)),qp 36 30 35,qm 37 36,Rf 38 37 (.off 6 (.t 3)),Rf 39 37 (.ld 2 true (.t 38)),Rf 40 37 (.m 2),Rf 41 37 (.q 358 [.t 39,.t 40]),Rf 42 37 (.un .not (.t 41)),qp 43 37 42] 43 (.e [qf 6]) (.e [qL 44 8 3,ap
 45 335 44,qE 46 45 0,qm 6 46]))⟩
def aiQ:av:=⟨[.cell 4 8 true,.t 5],.g [qb 2 8 0,Rq 4 (.box 8 (.c (.agg [.ab,.str [],.str [],.str [],.str [],.str [],.str [],.str []]))),qk 5 0] (.q (.g [qL 10 8 2,ap 11 115 10,qm 12 1,ap 13 51 12,Rq 14 (.cd 2 1 [.i 0,.i 0] [(0,1,.t 11),(1,1,.t 13)]),ap 15 33 14,qm 6 15] (.g [qm 16 6,qN 17 16 0] (.i 17 (.e [Rq 18 (.df [.ab,.str [],.str [],.str [],.str [],.str [],.str [],.str []] []),qm 19 6,qs 8 4 18,qm 5 19])))) (.g [qo 21 4 2,qL 22 2 21,ap 23 54 22,qo 24 6 2,qL 25 2 24,ap 26 54 25,qm 27 1,ap 28 69 27,aD 29 75 26 28,aD 30 112 23 29,ap 31 65 30,qm 20 31,qe 32 0 20,qe 33 1 20,Rq 7 (.box 2 (.c (.agg [.str [],.str []]))),qs 2 7 32,qm 8 33] (.h [qm 34 8,qN 35 34 0] 35 (.e [Rq 36 (.df [.ab,.str [],.str [],.str [],.str [],.str [],.str [],.str []] []),qm 37 8,qs 8 4 36,qm 5 37]) (.g [qL 38 8 2,Rq 9 (.box 8 (.c (.agg [.ab,.str [],.str [],.str [],.str [],.str [],.str [],.str []]))),qs 8
 9 38] (.g [qL 39 2 7,qo 40 4 9,qs 2 40 39] (.g [qo 41 0 2,ql 42 1 41,qn 43 1 42,Rq 44 (.jr (.f 365) [] [.t 2]),aD 45 40 43 44,qo 46 0 9,qs 1 46 45] (.e [qL 47 8 9,qs 8 4 47,qk 5 0])))))))⟩
def aiR:av:=⟨[.t 4],.g [qb 2 8 0,qb 3 8 1,qf 4] (.e [qo 5 0 2,ql 6 1 5,qo 7 0 3,ql 8 1 7,aD 9 21 6 8,qm 10 9,Rt 11 10 (.off 1 (.t 2)),Rt 12 10 (.ld 1 false (.t 11)),Rt 13 10 (.off 1 (.t 3)),Rt 14 10 (.ld 1 false (.t 13)),Rt 15 10 (.z .eql 12 14),qq 16 10 15,qm 17 16,Rt 18 17 (.off 2 (.t 2)),Rt 19 17 (.ld 1 false (.t 18)),Rt 20 17 (.off 2 (.t 3)),Rt 21 17 (.ld 1 false (.t 20)),Rt 22 17 (.z .eql 19 21),qq 23 17 22,qm 24 23,Rt 25 24 (.off 3 (.t 2)),Rt 26 24 (.ld 1 false (.t 25)),Rt 27 24 (.off 3 (.t 3)),Rt 28 24 (.ld 1 false (.t 27)),Rt 29 24 (.z .eql 26 28),qq 30 24 29,qm 31 30,Rt 32 31 (.off 4 (.t 2)),Rt 33 31 (.ld 2 true (.t 32)),Rt 34 31 (.off 4 (.t 3)),Rt 35 31 (.ld 2 true (.t 34)),Rt 36 31 (.eq false (.ag [2,2]) (.t 33) (.t 35)),qq 37 31 36,qm 38 37,Rt 39 38 (.off 6 (.t 2)),Rt 40 38 (.ld 2 true (.t 39)),Rt 41 38 (.off 6 (.t 3)),Rt 42 38 (.ld 2 true (.t 41)),Rt 43 38 (.eq false (.ag [2,2]) (.t 40)
 (.t 42)),qq 44 38 43,qm 4 44])⟩
def ae0:VC:=.q (.g [qm 12 7,qm 13 0,qn 14 1 13,qT 15 12 14] (.cond (.t 15) .skip (.exit 0))) (.q (.aw 1 (.g [qm 18 0,qm 19 7,qi 20 1 18 19,ql 21 1 20,qm 22 2,aD 23 359 21 22,Rq 24 (.un .not (.t 23))] (.i 24 (.e [qf 6])))) (.aB [qm 16 7,qa 17 16 1,qm 7 17]))
def aiS:av:=⟨[.t 6],.g [qf 6] (.h [qm 8 0,qn 9 1 8,qm 10 1,Rq 11 (.z .gtr 9 10)] 11 (.e [qf 6]) (.q (.g [qk 7 0] (.q (.aw 0 (.loop [0,2,7] ae0)) (.kp []))) (.e [Rq 6 (.br (.c (.bool true)))])))⟩
def aiT:av:=⟨[.t 5],.g [qk 5 0] (.e [qo 6 0 2,ql 7 1 6,qm 8 1,qi 9 1 7 8,ql 10 1 9,qm 11 0,qi 12 1 10 11,ql 13 1 12,qm 5 13])⟩
end
section
inductive Tr (α:Type) where
 | l
 | n (k:Nat) (v:α) (a b:Tr α)
def Tr.find {α:Type}:Tr α->Nat->Option α
 | .l,_=>none
 | .n k v a b,i=>bif yq i k then some v else bif yB i k then a.find i else b.find i
end
section
open Go (IntKind FloatKind)
def ET:yJ->Nat
 | .i8=>0 | .i16=>1 | .i32=>2 | .i64=>3 | .u8=>4 | .u16=>5 | .u32=>6 | .u64=>7
def KG:Int->Int->Bool
 | .ofNat a,.ofNat b=>yq a b
 | .negSucc a,.negSucc b=>yq a b
 | _,_=>false
def Gh:Bool->Bool->Bool
 | true,true | false,false=>true
 | _,_=>false
def Vx:w8->w8->Bool
 | .f32,.f32 | .f64,.f64=>true
 | _,_=>false
mutual
def eK:AV->AV->Bool
 | .int k a,.int k' b=>yq (ET k) (ET k')&&KG a b
 | .bool a,.bool b=>Gh a b
 | .cu k a,.cu k' b=>Vx k k'&&yq a b
 | .str a,.str b=>dI a b
 | .gM,.gM=>true
 | .aO a,.aO b=>iU a b
 | .ab,.ab=>true
 | .aC e n a,.aC e' n' b=>Gh e e'&&(yq n n'&&iU a b)
 | .bS e s n a,.bS e' s' n' b=>Gh e e'&&(yq s s'&&(yq n n'&&iU a b))
 | .fn (.f g) a b,.fn (.f g') a' b'=>yq g g'&&(iU a a'&&iU b b')
 | .eZ,.eZ=>true
 | .gm,.gm=>true
 | .fS a b,.fS a' b'=>iU a a'&&iU b b'
 | .agg a,.agg b=>iU a b
 | .ay a,.ay b=>iU a b
 | .undef,.undef=>true
 | _,_=>false
def iU:List AV->List AV->Bool
 | [],[]=>true
 | a::x,b::y=>eK a b&&iU x y
 | _,_=>false
end
def hI:Int->Nat
 | .ofNat n=>n
 | .negSucc n=>n+n
def hS:List Nat->Nat
 | []=>1
 | b::r=>(b+257*hS r)%65521
mutual
def hV:AV->Nat
 | .int _ n=>hI n
 | .bool b=>bif b then 1 else 2
 | .cu _ n=>n
 | .str s=>hS s
 | .aC _ n cs=>n+hL cs
 | .agg cs=>hL cs
 | .ay cs=>hL cs
 | _=>5
def hL:List AV->Nat
 | []=>7
 | v::r=>(hV v+263*hL r)%65521
end
abbrev Te:=Tr (List AV×AV)
abbrev au:=List Te
def qV (h:Nat) (vals:List AV):au->Option AV
 | []=>none
 | t::l=>match t.find h with
  | some (a,r)=>bif iU a vals then some r else qV h vals l
  | none=>qV h vals l
def R0 (vals:List AV) (l:au):Option AV:=qV (hL vals) vals l
abbrev Te.o (h:Nat) (a:List AV) (r:AV):Te:= .n h (a,r) .l .l
abbrev Te.m (h:Nat) (a:List AV) (r:AV) (x y:Te):Te:= .n h (a,r) x y
def qW (n:Nat):List (Tr au)->Option au
 | []=>none
 | t::r=>match t.find n with
  | none=>qW n r
  | some l=>match qW n r with | none=>some l | some m=>some (l++m)
def Fw (L:Lib) (T:List (Tr au)) (ex:Nat):Lib:=
 ⟨fun i=>match L.pure i with
  | some sp=>some sp
  | none=>bif yq i ex then none else match qW i T with | some l=>some (fun vals=>R0 vals l) | none=>none,L.heap⟩
def Ca (P:aA) (L:Lib) (f:Nat):Te->Bool
 | .l=>true
 | .n _ e x y=>(match JZ P L 100000 f e.1 with | some r'=>eK r' e.2 | none=>false)&&(Ca P L f x&&Ca P L f y)
def EU (P:aA) (L:Lib) (f:Nat):au->Bool
 | []=>true
 | t::l=>Ca P L f t&&EU P L f l
def eP (P:aA) (L:Lib) (T:List (Tr au)):List (Nat×au)->Bool
 | []=>true
 | (f,l)::C=>EU P (Fw L T f) f l&&eP P L T C
end
section
open Go
def YX {a b:yJ} (h:yq (ET a) (ET b)=true):a=b:=by
 cases a<;>cases b<;>first | rfl | (exact absurd h (by decide))
def aaJ {a b:Int} (h:KG a b=true):a=b:=by
 cases a<;>cases b<;>simp only [KG,reduceCtorEq] at h<;>rw [yk h]
def H9 {a b:Bool} (h:Gh a b=true):a=b:=by
 cases a<;>cases b<;>first | rfl | (exact absurd h (by decide))
def aaK {a b:w8} (h:Vx a b=true):a=b:=by
 cases a<;>cases b<;>first | rfl | (exact absurd h (by decide))
mutual
def N5:∀(a b:AV),eK a b=true->a=b
 | .int k a,b,h=>by
  cases b<;>simp only [eK,yf,yt] at h
  rw [YX h.1,aaJ h.2]
 | .bool a,b,h=>by
  cases b<;>simp only [eK,yt] at h
  rw [H9 h]
 | .cu k a,b,h=>by
  cases b<;>simp only [eK,yf,yt] at h
  rw [aaK h.1,yk h.2]
 | .str a,b,h=>by
  cases b<;>simp only [eK,yt] at h
  rw [H2 h]
 | .gM,b,h=>by cases b<;>simp only [eK,yt] at h;rfl
 | .ptr _ _,b,h=>by cases b<;>simp only [eK,yt] at h
 | .aO a,b,h=>by
  cases b<;>simp only [eK,yt] at h
  rw [lm _ _ h]
 | .ab,b,h=>by cases b<;>simp only [eK,yt] at h;rfl
 | .aC e n a,b,h=>by
  cases b<;>simp only [eK,yf,yt] at h
  rw [H9 h.1,yk h.2.1,lm _ _ h.2.2]
 | .bS e s n a,b,h=>by
  cases b<;>simp only [eK,yf,yt] at h
  rw [H9 h.1,yk h.2.1,yk h.2.2.1,lm _ _ h.2.2.2]
 | .aq _ _ _,b,h=>by cases b<;>simp only [eK,yt] at h
 | .fn (.f g) x y,b,h=>by
  cases b<;>try (simp only [eK,yt] at h;done)
  rename_i fr _ _;cases fr<;>simp only [eK,yf,yt] at h
  rw [yk h.1,lm _ _ h.2.1,lm _ _ h.2.2]
 | .fn (.y _) _ _,b,h=>by cases b<;>simp only [eK,yt] at h
 | .eZ,b,h=>by cases b<;>simp only [eK,yt] at h;rfl
 | .gm,b,h=>by cases b<;>simp only [eK,yt] at h;rfl
 | .map _,b,h=>by cases b<;>simp only [eK,yt] at h
 | .fS x y,b,h=>by
  cases b<;>simp only [eK,yf,yt] at h
  rw [lm _ _ h.1,lm _ _ h.2]
 | .it _,b,h=>by cases b<;>simp only [eK,yt] at h
 | .agg a,b,h=>by
  cases b<;>simp only [eK,yt] at h
  rw [lm _ _ h]
 | .ay a,b,h=>by
  cases b<;>simp only [eK,yt] at h
  rw [lm _ _ h]
 | .undef,b,h=>by cases b<;>simp only [eK,yt] at h;rfl
def lm:∀(a b:List AV),iU a b=true->a=b
 | [],b,h=>by cases b<;>simp only [iU,yt] at h;rfl
 | x::a,b,h=>by
  cases b<;>simp only [iU,yf,yt] at h
  rw [N5 _ _ h.1,lm _ _ h.2]
end
def Tr.Has {α:Type} (x:α):Tr α->Prop
 | .l=>False
 | .n _ v a b=>v=x\/a.Has x\/b.Has x
def Tr.Ia {α:Type} {h:Nat} {x:α}:∀{t:Tr α},t.find h=some x->t.Has x
 | .l,hf=>by simp [Tr.find] at hf
 | .n k v a b,hf=>by
  simp only [Tr.find] at hf
  cases h1:yq h k with
  | true=>rw [h1] at hf;simp only [ym,yb] at hf;exact .inl hf
  | false=>
   rw [h1] at hf
   cases h2:yB h k with
   | true=>rw [h2] at hf;exact .inr (.inl (Tr.Ia hf))
   | false=>rw [h2] at hf;exact .inr (.inr (Tr.Ia hf))
def Gi (vals:List AV) (r:AV) (l:au):Prop:=∃t,t∈l/\t.Has (vals,r)
def Mn {h:Nat} {vals:List AV} {r:AV}:∀{l:au},qV h vals l=some r->Gi vals r l
 | [],hf=>by simp [qV] at hf
 | t::l,hf=>by
  have tail:qV h vals l=some r->Gi vals r (t::l):=fun q=>by
   obtain ⟨t',h1,h2⟩:=Mn q;exact ⟨t',xT _ h1,h2⟩
  simp only [qV] at hf
  split at hf
  ·rename_i a q he
   cases hb:iU a vals with
   | true=>
    rw [hb] at hf;simp only [ym,yb] at hf;rw [lm _ _ hb,hf] at he;exact ⟨t,wP,Tr.Ia he⟩
   | false=>
    grind
  ·grind
def YY {vals:List AV} {r:AV} {l:au} (h:R0 vals l=some r):Gi vals r l:=Mn h
def ib (O:aZ) (f:Nat) (l:au):Prop:=∀vals r,Gi vals r l->dO O f vals r
def ib.nil {O:aZ} {f:Nat}:ib O f []:=fun _ _ h=>by obtain ⟨t,h,_⟩:=h;cases h
def ib.cC {O:aZ} {f:Nat} {a b:au} (ha:ib O f a) (hb:ib O f b):ib O f (a++b):=fun v r h=>by
 obtain ⟨t,h,h2⟩:=h;exact (List.mem_append.1 h).elim (fun h=>ha v r ⟨t,h,h2⟩) (fun h=>hb v r ⟨t,h,h2⟩)
def ib.one {O:aZ} {f k:Nat} {vals:List AV} {r:AV} (h:dO O f vals r):ib O f [.n k (vals,r) .l .l]:=fun v q hm=>by
 obtain ⟨t,h1,h2⟩:=hm;rcases wc.1 h1 with e | e
 ·subst e;rcases h2 with h2 | h2 | h2
  ·grind
  ·exact h2.elim
  ·exact h2.elim
 ·cases e
def Tr.iG {α:Type} (p:Nat->α->Prop):Tr α->Prop
 | .l=>True
 | .n k v a b=>p k v/\a.iG p/\b.iG p
def Tr.gi {α:Type} {p:Nat->α->Prop}:Tr.iG p .l:=trivial
def Tr.hY {α:Type} {p:Nat->α->Prop} {k:Nat} {v:α} {a b:Tr α} (h:p k v) (ha:a.iG p) (hb:b.iG p):Tr.iG p (.n k v a b):=⟨h,ha,hb⟩
def Tr.qD {α:Type} {p:Nat->α->Prop} {i:Nat} {v:α}:∀{t:Tr α},t.iG p->t.find i=some v->p i v
 | .l,_,h=>by simp [Tr.find] at h
 | .n k w a b,ha,h=>by
  simp only [Tr.find] at h
  cases hb:yq i k with
  | true=>
   rw [hb] at h;simp only [ym,yb] at h;subst h;rw [yk hb];exact ha.1
  | false=>
   rw [hb] at h
   cases hc:yB i k with
   | true=>rw [hc] at h;exact Tr.qD ha.2.1 h
   | false=>rw [hc] at h;exact Tr.qD ha.2.2 h
abbrev aZ.oT (O:aZ) (L:Lib):aZ:={O with aI:=L}
def N6 {O:aZ} {L:Lib} {m:Mp} {S:Nat->Prop} {w:World} {id:Nat} {o:Obj}:dQ (O.oT L) m S w id o↔dQ O m S w id o:=by
 cases o<;>exact Iff.rfl
def N7 {O:aZ} {L:Lib} {m:Mp} {S:Nat->Prop} {w:World} {hp:Hp} {ct:Nat}:aH (O.oT L) m S w hp ct↔aH O m S w hp ct:=
 ⟨fun h=>⟨fun id o p h1 h2=>N6.1 (h.obj id o p h1 h2),h.lt,h.inj,h.slt,h.blt,h.low,h.iB,h.eG,h.aU⟩,
  fun h=>⟨fun id o p h1 h2=>N6.2 (h.obj id o p h1 h2),h.lt,h.inj,h.slt,h.blt,h.low,h.iB,h.eG,h.aU⟩⟩
def YZ {O:aZ} {L:Lib} {n:Nat} {hp:Hp} {ct:Nat} {vals:List AV} {v:AV} {ai:Hp} {aK:Nat} (h:rk O n hp ct vals v ai aK):rk (O.oT L) n hp ct vals v ai aK:=by
 intro m S w args h1 h2;have post:∀e w',oN O m S w hp ct v ai aK e w'->oN (O.oT L) m S w hp ct v ai aK e w':=by
  rintro e w' ⟨u,m',S',k1,k2,k3,k4,k5⟩;exact ⟨u,m',S',k1,N7.2 k2,k3,k4,k5⟩
 exact oS.mono (h m S w args (N7.1 h1) h2) post
def cZ (O:aZ) (T:List (Tr au)):Prop:=∀t,t∈T->t.iG (ib O)
def cZ.nil {O:aZ}:cZ O []:=fun _ h=>by cases h
def cZ.cons {O:aZ} {t:Tr au} {T:List (Tr au)} (h:t.iG (ib O)) (hT:cZ O T):cZ O (t::T):=fun u hu=>by
 rcases wc.1 hu with e | e
 ·grind
 ·exact hT u e
def HB {O:aZ} {n:Nat}:∀{T:List (Tr au)} {l:au},cZ O T->qW n T=some l->ib O n l
 | [],_,_,h=>by simp [qW] at h
 | t::T,l,hT,h=>by
  have Vy:cZ O T:=fun u hu=>hT u (xT _ hu)
  simp only [qW] at h
  split at h
  ·exact HB Vy h
  ·rename_i l1 h1;have c1:=Tr.qD (hT t wP) h1
   split at h
   ·grind
   ·rename_i m h2;simp only [yb] at h;subst h;exact ib.cC c1 (HB Vy h2)
def O7 {O:aZ} (hO:dX O) {T:List (Tr au)} (hT:cZ O T) (ex:Nat):dX (O.oT (Fw O.aI T ex)) where
 hint:=hO.hint
 mixed:=hO.mixed
 prog:=hO.prog
 aI n sp vals r h hs:=by
  simp only [Fw] at h
  cases hl:O.aI.pure n with
  | some sp'=>
   simp only [hl,yb] at h;subst h;exact hO.aI n _ vals r hl hs
  | none=>
   simp only [hl] at h
   cases hb:yq n ex with
   | true=>rw [hb] at h;cases h
   | false=>
    rw [hb] at h;simp only [yu] at h
    cases hf:qW n T with
    | none=>simp [hf] at h
    | some l=>
     simp only [hf,yb] at h;subst h;exact HB hT hf vals r (YY hs)
 Fc n sp hp ct vals v ai aK h hs:=YZ (hO.Fc n sp hp ct vals v ai aK h hs)
def HC {O:aZ} {L:Lib} (hO:dX (O.oT L)) {f:Nat} {vals:List AV} {r:AV}:∀{t:Te},Ca O.prog L f t=true->t.Has (vals,r)->dO O f vals r
 | .l,_,h=>h.elim
 | .n k e x y,h,hm=>by
  simp only [Ca,yf] at h;rcases hm with e1 | hm | hm
  ·subst e1;have h1:=h.1
   split at h1
   ·rename_i r' hr;have e:r'=r:=N5 _ _ h1;rw [<-e];exact sound hO hr
   ·cases h1
  ·exact HC hO h.2.1 hm
  ·exact HC hO h.2.2 hm
def Mo {O:aZ} {L:Lib} (hO:dX (O.oT L)) {f:Nat}:∀{l:au},EU O.prog L f l=true->ib O f l
 | [],_=>ib.nil
 | t::l,h=>by
  simp only [EU,yf] at h;intro v q hm;obtain ⟨t',h1,h2⟩:=hm;rcases wc.1 h1 with e | e
  ·subst e;exact HC hO h.1 h2
  ·exact Mo hO h.2 v q ⟨t',e,h2⟩
def chunk_ok {O:aZ} (hO:dX O) {T:List (Tr au)} (hT:cZ O T):∀{C:List (Nat×au)},eP O.prog O.aI T C=true->∀f l,(f,l)∈C->ib O f l
 | [],_,f,l,h=>by cases h
 | (g,l')::C,h,f,l,hm=>by
  simp only [eP,yf] at h;rcases wc.1 hm with e | hm
  ·injection e with e1 e2
   subst e1;subst e2;exact Mo (O7 hO hT f) h.1
  ·exact chunk_ok hO hT h.2 f l hm
def fJ {O:aZ} {P:aA} {L:Lib} (hO:dX O) (hp:O.prog=P) (hl:O.aI=L) {T:List (Tr au)} (hT:cZ O T) {C:List (Nat×au)} (h:eP P L T C=true) (i:Nat) {f:Nat} {l:au} (hi:C[i]? =some (f,l)):ib O f l:=by
 subst hp;subst hl;exact chunk_ok hO hT h f l (List.mem_of_getElem? hi)
def aN {α:Type} {p:Nat->α->Prop} {k:Nat} {v:α} {a b:Tr α} (h:p k v) (ha:a.iG p) (hb:b.iG p):Tr.iG p (.n k v a b):=Tr.hY h ha hb
def aL {α:Type} {p:Nat->α->Prop}:Tr.iG p .l:=Tr.gi
end
section
open Go
structure HD where
 n:Nat
 live:List (Nat×List Nat)
 out:List (Nat×List Nat)
 mode:List (Nat×Md)
 fz:List (Nat×List Nat)
 deriving Inhabited
def BR {α:Type} (i:Nat):List (Nat×α)->Option α
 | []=>none
 | (j,a)::l=>bif yq j i then some a else BR i l
def ae1 (bE:Nat->Option Nat) (d:HD):Hint where
 n:=d.n
 bE:=bE
 live:=fun l=>match BR l d.live with | some x=>x | none=>[]
 out:=fun l=>BR l d.out
 mode:=fun k=>match BR k d.mode with | some x=>x | none=> .pure
 fz:=fun i=>match BR i d.fz with | some x=>x | none=>[]
def EV (bE:Tr Nat) (t:Tr HD) (i:Nat):Hint:=ae1 bE.find (match t.find i with | some d=>d | none=>⟨0,[],[],[],[]⟩)
def nU (t:Tr Nat) (i:Nat):Nat:=match t.find i with | some f=>f | none=>0
def BS (ae:Tr Nat):Tr Nat->Bool
 | .l=>true
 | .n f g a b=>yq (nU ae g) f&&(BS ae a&&BS ae b)
def Hc {ae:Tr Nat}:∀{t:Tr Nat},BS ae t=true->t.iG (fun f g=>nU ae g=f)
 | .l,_=>trivial
 | .n f g a b,h=>by
  simp only [BS,yf] at h;exact ⟨yk h.1,Hc h.2.1,Hc h.2.2⟩
def IR (P:yM) (ae:Tr Nat) (bE:Tr Nat) (hd:Tr HD) (i:Nat) (F:av):Prop:=
 ∃fn,P.funcs[nU ae i]? =some fn/\s7 P (EV bE hd i) fn=some F/\fn.name≠ "runtime.NumGoroutine"
def Y0 {P:yM} {ae bE:Tr Nat} {hd:Tr HD} {i:Nat} {F:av} (h:(P.funcs[nU ae i]?).bind (s7 P (EV bE hd i))=some F) (h2:(P.funcs[nU ae i]?).map (fun fn=>decide (fn.name= "runtime.NumGoroutine"))=some false):IR P ae bE hd i F:=by
 unfold IR
 cases hq:P.funcs[nU ae i]? with
 | none=>rw [hq] at h;cases h
 | some fn=>
  rw [hq] at h h2;refine ⟨fn,rfl,h,fun e=>?_⟩;simp only [Option.map_some,yb,e,yE] at h2;cases h2
end
section
namespace mY
open Go
open Go.Proofs
def ae:Tr Nat:=(.n 139 233 (.n 74 145 (.n 44 109 (.n 29 65 (.n 16 40 (.n 6 52 (.n 4 88 (.n 3 38 .l .l) (.n 5 54 .l .l)) (.n 10 53 (.n 9 55 .l .l) .l)) (.n 24 15 (.n 20 19 (.n 18 39 .l .l) (.n 21 56 .l .l)) (.n 28 64 (.n 26 62 .l .l) .l))) (.n 36 127 (.n 33 70 (.n 31 125 (.n 30 102 .l .l) (.n 32 131 .l .l)) (.n 35 126 (.n 34 124 .l .l) .l)) (.n 40 78 (.n 38 129 (.n 37 128 .l .l) (.n 39 130 .l .l)) (.n 42 100 (.n 41 132 .l .l) .l)))) (.n 60 93 (.n 53 94 (.n 50 112 (.n 46 108 (.n 45 106 .l .l) (.n 49 113 .l .l)) (.n 52 107 (.n 51 72 .l .l) .l)) (.n 57 81 (.n 55 134 (.n 54 73 .l .l) (.n 56 135 .l .l)) (.n 59 123 (.n 58 89 .l .l) .l))) (.n 67 82 (.n 64 139 (.n 62 137 (.n 61 136 .l .l) (.n 63 138 .l .l)) (.n 66 80 (.n 65 77 .l .l) .l)) (.n 70 141 (.n 69 76 (.n 68 140 .l .l) .l) (.n 73 144 (.n 71 142 .l .l) .l))))) (.n 109 208 (.n 96 133 (.n 81 149 (.n 78 96 (.n 76 92 (.n 75 75 .l .l) (.n 77 146 .l .l)) (.n 80 148 (.n 79 147 .l .l) .l)) (.n 88 155 (.n 83 97 (.n 82 150 .l .l) (.n 86 153 .l .l)) (.n 95 201 (.n 94 202 .l .l) .l))) (.n 103 204 (.n 100 188 (.n 98 184 (.n 97 90 .l .l) (.n 99 185 .l .l)) (.n 102 186 (.n 101 187 .l .l) .l)) (.n 106 207 (.n 105 206 (.n 104 205 .l .l) .l) (.n 108 200 (.n 107 170 .l .l) .l)))) (.n 123 181 (.n 116 171 (.n 113 168 (.n 111 166 (.n 110 209 .l .l) (.n 112 74 .l .l)) (.n 115 71 (.n 114 169 .l .l) .l)) (.n 120 178 (.n 118 210 (.n 117 167 .l .l) (.n 119 211 .l .l)) (.n 122 180 (.n 121 179 .l .l) .l))) (.n 133 203 (.n 129 218 (.n 125 212 (.n 124 213 .l .l) (.n 128 217 .l .l)) (.n 132 248 (.n 130 219 .l .l) .l)) (.n 136 230 (.n 135 229 (.n 134 176 .l .l) .l) (.n 138 232 (.n 137 231 .l .l) .l)))))) (.n 282 120 (.n 168 271 (.n 153 253 (.n 146 237 (.n 143 239 (.n 141 235 (.n 140 234 .l .l) (.n 142 240 .l .l)) (.n 145 241 (.n 144 242 .l .l) .l)) (.n 150 250 (.n 148 238 (.n 147 236 .l .l) (.n 149 249 .l .l)) (.n 152 252 (.n 151 220 .l .l) .l))) (.n 160 224 (.n 157 257 (.n 155 255 (.n 154 254 .l .l) (.n 156 256 .l .l)) (.n 159 259 (.n 158 258 .l .l) .l)) (.n 165 268 (.n 163 262 (.n 162 261 .l .l) (.n 164 263 .l .l)) (.n 167 270 (.n 166 269 .l .l) .l)))) (.n 267 47 (.n 175 296 (.n 172 264 (.n 170 277 (.n 169 272 .l .l) (.n 171 278 .l .l)) (.n 174 305 (.n 173 288 .l .l) .l)) (.n 264 44 (.n 262 43 (.n 261 42 .l .l) (.n 263 16 .l .l)) (.n 266 45 (.n 265 46 .l .l) .l))) (.n 276 114 (.n 273 84 (.n 271 51 (.n 268 48 .l .l) (.n 272 83 .l .l)) (.n 275 86 (.n 274 85 .l .l) .l)) (.n 279 117 (.n 278 118 (.n 277 115 .l .l) .l) (.n 281 121 (.n 280 116 .l .l) .l))))) (.n 335 67 (.n 296 193 (.n 289 173 (.n 286 165 (.n 284 164 (.n 283 119 .l .l) (.n 285 163 .l .l)) (.n 288 87 (.n 287 172 .l .l) .l)) (.n 293 195 (.n 291 189 (.n 290 174 .l .l) (.n 292 190 .l .l)) (.n 295 192 (.n 294 175 .l .l) .l))) (.n 306 30 (.n 300 222 (.n 298 191 (.n 297 194 .l .l) (.n 299 221 .l .l)) (.n 302 243 (.n 301 223 .l .l) .l)) (.n 309 12 (.n 308 31 (.n 307 101 .l .l) .l) (.n 315 69 (.n 314 162 .l .l) .l)))) (.n 484 196 (.n 364 66 (.n 361 9 (.n 358 11 (.n 357 10 .l .l) (.n 359 68 .l .l)) (.n 363 14 (.n 362 13 .l .l) .l)) (.n 481 49 (.n 479 6 (.n 365 79 .l .l) (.n 480 7 .l .l)) (.n 483 122 (.n 482 50 .l .l) .l))) (.n 491 279 (.n 488 244 (.n 486 197 (.n 485 198 .l .l) (.n 487 199 .l .l)) (.n 490 245 (.n 489 247 .l .l) .l)) (.n 494 306 (.n 493 246 (.n 492 280 .l .l) .l) (.n 496 281 (.n 495 282 .l .l) .l)))))))
def bE:Tr Nat:=(.n 150 82 (.n 86 275 (.n 53 10 (.n 38 3 (.n 13 362 (.n 10 357 (.n 7 480 (.n 6 479 .l .l) (.n 9 361 .l .l)) (.n 12 309 (.n 11 358 .l .l) .l)) (.n 19 20 (.n 15 24 (.n 14 363 .l .l) (.n 16 263 .l .l)) (.n 31 308 (.n 30 306 .l .l) .l))) (.n 46 265 (.n 43 262 (.n 40 16 (.n 39 18 .l .l) (.n 42 261 .l .l)) (.n 45 266 (.n 44 264 .l .l) .l)) (.n 50 482 (.n 48 268 (.n 47 267 .l .l) (.n 49 481 .l .l)) (.n 52 6 (.n 51 271 .l .l) .l)))) (.n 73 54 (.n 66 364 (.n 62 26 (.n 55 9 (.n 54 5 .l .l) (.n 56 21 .l .l)) (.n 65 29 (.n 64 28 .l .l) .l)) (.n 70 33 (.n 68 359 (.n 67 335 .l .l) (.n 69 315 .l .l)) (.n 72 51 (.n 71 115 .l .l) .l))) (.n 80 66 (.n 77 65 (.n 75 75 (.n 74 112 .l .l) (.n 76 69 .l .l)) (.n 79 365 (.n 78 40 .l .l) .l)) (.n 83 272 (.n 82 67 (.n 81 57 .l .l) .l) (.n 85 274 (.n 84 273 .l .l) .l))))) (.n 122 483 (.n 107 52 (.n 94 53 (.n 90 97 (.n 88 4 (.n 87 288 .l .l) (.n 89 58 .l .l)) (.n 93 60 (.n 92 76 .l .l) .l)) (.n 101 307 (.n 97 83 (.n 96 78 .l .l) (.n 100 42 .l .l)) (.n 106 45 (.n 102 30 .l .l) .l))) (.n 116 280 (.n 113 49 (.n 109 44 (.n 108 46 .l .l) (.n 112 50 .l .l)) (.n 115 277 (.n 114 276 .l .l) .l)) (.n 119 283 (.n 118 278 (.n 117 279 .l .l) .l) (.n 121 281 (.n 120 282 .l .l) .l)))) (.n 136 61 (.n 129 38 (.n 126 35 (.n 124 34 (.n 123 59 .l .l) (.n 125 31 .l .l)) (.n 128 37 (.n 127 36 .l .l) .l)) (.n 133 96 (.n 131 32 (.n 130 39 .l .l) (.n 132 41 .l .l)) (.n 135 56 (.n 134 55 .l .l) .l))) (.n 144 73 (.n 140 68 (.n 138 63 (.n 137 62 .l .l) (.n 139 64 .l .l)) (.n 142 71 (.n 141 70 .l .l) .l)) (.n 147 79 (.n 146 77 (.n 145 74 .l .l) .l) (.n 149 81 (.n 148 80 .l .l) .l)))))) (.n 220 151 (.n 190 292 (.n 173 289 (.n 166 111 (.n 163 285 (.n 155 88 (.n 153 86 .l .l) (.n 162 314 .l .l)) (.n 165 286 (.n 164 284 .l .l) .l)) (.n 170 107 (.n 168 113 (.n 167 117 .l .l) (.n 169 114 .l .l)) (.n 172 287 (.n 171 116 .l .l) .l))) (.n 181 123 (.n 178 120 (.n 175 294 (.n 174 290 .l .l) (.n 176 134 .l .l)) (.n 180 122 (.n 179 121 .l .l) .l)) (.n 187 101 (.n 185 99 (.n 184 98 .l .l) (.n 186 102 .l .l)) (.n 189 291 (.n 188 100 .l .l) .l)))) (.n 204 103 (.n 197 486 (.n 194 297 (.n 192 295 (.n 191 298 .l .l) (.n 193 296 .l .l)) (.n 196 484 (.n 195 293 .l .l) .l)) (.n 201 95 (.n 199 487 (.n 198 485 .l .l) (.n 200 108 .l .l)) (.n 203 133 (.n 202 94 .l .l) .l))) (.n 211 119 (.n 208 109 (.n 206 105 (.n 205 104 .l .l) (.n 207 106 .l .l)) (.n 210 118 (.n 209 110 .l .l) .l)) (.n 217 128 (.n 213 124 (.n 212 125 .l .l) .l) (.n 219 130 (.n 218 129 .l .l) .l))))) (.n 252 152 (.n 238 148 (.n 231 137 (.n 224 160 (.n 222 300 (.n 221 299 .l .l) (.n 223 301 .l .l)) (.n 230 136 (.n 229 135 .l .l) .l)) (.n 235 141 (.n 233 139 (.n 232 138 .l .l) (.n 234 140 .l .l)) (.n 237 146 (.n 236 147 .l .l) .l))) (.n 245 490 (.n 242 144 (.n 240 142 (.n 239 143 .l .l) (.n 241 145 .l .l)) (.n 244 488 (.n 243 302 .l .l) .l)) (.n 248 132 (.n 247 489 (.n 246 493 .l .l) .l) (.n 250 150 (.n 249 149 .l .l) .l)))) (.n 270 167 (.n 259 159 (.n 256 156 (.n 254 154 (.n 253 153 .l .l) (.n 255 155 .l .l)) (.n 258 158 (.n 257 157 .l .l) .l)) (.n 264 172 (.n 262 163 (.n 261 162 .l .l) (.n 263 164 .l .l)) (.n 269 166 (.n 268 165 .l .l) .l))) (.n 281 496 (.n 278 171 (.n 272 169 (.n 271 168 .l .l) (.n 277 170 .l .l)) (.n 280 492 (.n 279 491 .l .l) .l)) (.n 296 175 (.n 288 173 (.n 282 495 .l .l) .l) (.n 306 494 (.n 305 174 .l .l) .l)))))))
def hd:Tr HD:=(.n 130 ⟨23,[(0,[2,3,4])],[(0,[2,4])],[],[]⟩ (.n 68 ⟨8,[],[],[],[]⟩ (.n 40 ⟨32,[],[],[(1,.dyn)],[]⟩ (.n 28 ⟨27,[(1,[0,1,5])],[(1,[])],[],[]⟩ (.n 16 ⟨15,[],[],[],[]⟩ (.n 6 ⟨47,[(4,[2,7,8])],[(4,[7])],[],[]⟩ (.n 4 ⟨15,[],[],[],[]⟩ (.n 3 ⟨40,[(2,[0,3]),(5,[0,3,4])],[(2,[]),(5,[0,3])],[],[]⟩ .l .l) (.n 5 ⟨48,[],[],[(9,.heap)],[]⟩ .l .l)) (.n 10 ⟨44,[(3,[0,3]),(6,[0,3,4])],[(3,[]),(6,[0,3])],[],[]⟩ (.n 9 ⟨42,[],[],[],[]⟩ .l .l) .l)) (.n 21 ⟨27,[(1,[0,1,5])],[(1,[])],[],[]⟩ (.n 20 ⟨24,[],[],[],[]⟩ (.n 18 ⟨25,[],[],[],[]⟩ .l .l) .l) (.n 26 ⟨101,[(2,[0,2,3,11,12,69,70,71]),(4,[0,2,3,11,12,14,69,70,71,75,76,77])],[(2,[12]),(4,[0,2,3,11,12,69,70,71])],[],[(18,[17])]⟩ (.n 24 ⟨27,[],[],[],[]⟩ .l .l) .l))) (.n 34 ⟨16,[],[],[],[]⟩ (.n 31 ⟨7,[],[],[],[]⟩ (.n 30 ⟨15,[],[],[],[]⟩ (.n 29 ⟨26,[(1,[0,1,5])],[(1,[])],[],[]⟩ .l .l) .l) (.n 33 ⟨15,[(0,[5,6,7])],[(0,[])],[],[]⟩ (.n 32 ⟨32,[(0,[0,3,9,10,11])],[(0,[])],[],[]⟩ .l .l) .l)) (.n 37 ⟨21,[(0,[0,2,9,10,11])],[(0,[0])],[],[]⟩ (.n 36 ⟨5,[],[],[],[]⟩ (.n 35 ⟨22,[(0,[1,5,8,9,10])],[(0,[5])],[],[]⟩ .l .l) .l) (.n 39 ⟨38,[(0,[4,8,9,18,19,20])],[(0,[9])],[],[]⟩ (.n 38 ⟨8,[],[],[],[]⟩ .l .l) .l)))) (.n 56 ⟨41,[(0,[1,2,4,5,11,12])],[(0,[4,5])],[],[]⟩ (.n 50 ⟨9,[],[],[],[]⟩ (.n 45 ⟨25,[],[],[],[]⟩ (.n 42 ⟨19,[(0,[0,3])],[(0,[])],[],[]⟩ (.n 41 ⟨39,[],[],[],[]⟩ .l .l) (.n 44 ⟨13,[],[],[],[]⟩ .l .l)) (.n 49 ⟨16,[],[],[],[]⟩ (.n 46 ⟨16,[],[],[],[]⟩ .l .l) .l)) (.n 53 ⟨11,[],[],[],[]⟩ (.n 52 ⟨28,[],[],[],[]⟩ (.n 51 ⟨5,[],[],[],[]⟩ .l .l) .l) (.n 55 ⟨28,[],[],[],[]⟩ (.n 54 ⟨10,[],[],[],[]⟩ .l .l) .l))) (.n 62 ⟨22,[],[],[],[]⟩ (.n 59 ⟨26,[(1,[0,1,5])],[(1,[])],[],[]⟩ (.n 58 ⟨16,[],[],[],[]⟩ (.n 57 ⟨8,[],[],[],[]⟩ .l .l) .l) (.n 61 ⟨17,[],[],[],[]⟩ (.n 60 ⟨11,[],[],[],[]⟩ .l .l) .l)) (.n 65 ⟨9,[],[],[],[]⟩ (.n 64 ⟨29,[],[],[],[]⟩ (.n 63 ⟨15,[],[],[],[]⟩ .l .l) .l) (.n 67 ⟨25,[],[],[],[]⟩ (.n 66 ⟨30,[],[],[],[]⟩ .l .l) .l))))) (.n 102 ⟨9,[],[],[],[]⟩ (.n 82 ⟨137,[(0,[3,4,6,7,11,12,32,33,34]),(3,[3,4,6,7,11,12,14,15,16,32,33,34,54,55]),(6,[3,4,6,7,11,12,14,15,32,33,34,89,90]),(9,[11,27,118,119])],[(0,[4,11]),(3,[3,4,6,7,11,12,14,15,32,33,34]),(6,[3,4,6,7,11,12,15,32,33,34]),(9,[27])],[],[]⟩ (.n 76 ⟨9,[],[],[],[]⟩ (.n 73 ⟨8,[],[],[],[]⟩ (.n 70 ⟨9,[],[],[],[]⟩ (.n 69 ⟨6,[],[],[],[]⟩ .l .l) (.n 71 ⟨16,[],[],[],[]⟩ .l .l)) (.n 75 ⟨14,[],[],[],[]⟩ (.n 74 ⟨34,[],[],[],[]⟩ .l .l) .l)) (.n 79 ⟨22,[(0,[1,5,8,9,10])],[(0,[5])],[],[]⟩ (.n 78 ⟨9,[],[],[],[]⟩ (.n 77 ⟨22,[(0,[1,5,8,9,10])],[(0,[5])],[],[]⟩ .l .l) .l) (.n 81 ⟨8,[],[],[],[]⟩ (.n 80 ⟨10,[],[],[],[]⟩ .l .l) .l))) (.n 96 ⟨4,[],[],[],[]⟩ (.n 88 ⟨23,[(0,[3,9,10,11])],[(0,[3])],[],[]⟩ (.n 86 ⟨76,[],[],[],[]⟩ (.n 83 ⟨8,[],[],[],[]⟩ .l .l) .l) (.n 95 ⟨9,[],[],[],[]⟩ (.n 94 ⟨13,[],[],[],[]⟩ .l .l) .l)) (.n 99 ⟨69,[(1,[3,4,5,6]),(6,[6,10,11])],[(1,[3,6]),(6,[10])],[],[]⟩ (.n 98 ⟨13,[],[],[],[]⟩ (.n 97 ⟨20,[],[],[],[]⟩ .l .l) .l) (.n 101 ⟨34,[],[],[],[]⟩ (.n 100 ⟨66,[],[],[],[]⟩ .l .l) .l)))) (.n 115 ⟨23,[],[],[],[]⟩ (.n 108 ⟨6,[],[],[],[]⟩ (.n 105 ⟨22,[],[],[],[]⟩ (.n 104 ⟨32,[],[],[],[]⟩ (.n 103 ⟨34,[],[],[],[]⟩ .l .l) .l) (.n 107 ⟨11,[],[],[],[]⟩ (.n 106 ⟨21,[(0,[2,3,6,9,10,11])],[(0,[3,6])],[],[]⟩ .l .l) .l)) (.n 112 ⟨16,[],[],[],[]⟩ (.n 111 ⟨6,[],[],[],[]⟩ (.n 110 ⟨41,[(0,[0,2,3,4])],[(0,[2,3,4])],[],[]⟩ .l .l) .l) (.n 114 ⟨10,[],[],[],[]⟩ (.n 113 ⟨11,[],[],[],[]⟩ .l .l) .l))) (.n 121 ⟨22,[(0,[1,5,8,9,10])],[(0,[5])],[],[]⟩ (.n 118 ⟨29,[],[],[],[]⟩ (.n 117 ⟨5,[],[],[],[]⟩ (.n 116 ⟨32,[],[],[],[]⟩ .l .l) .l) (.n 120 ⟨22,[(0,[1,5,8,9,10])],[(0,[5])],[],[]⟩ (.n 119 ⟨67,[],[],[],[]⟩ .l .l) .l)) (.n 124 ⟨7,[],[],[],[]⟩ (.n 123 ⟨23,[(0,[3,9,10,11])],[(0,[3])],[],[]⟩ (.n 122 ⟨9,[],[],[],[]⟩ .l .l) .l) (.n 129 ⟨19,[],[],[],[]⟩ (.n 125 ⟨15,[(0,[5,6,7])],[(0,[])],[],[]⟩ .l .l) .l)))))) (.n 285 ⟨9,[],[],[],[]⟩ (.n 168 ⟨40,[(0,[1,5,12,13,14])],[(0,[5])],[],[]⟩ (.n 150 ⟨9,[],[],[],[]⟩ (.n 144 ⟨80,[(0,[1,5,20,21,22]),(2,[1,5,6,7,8,20,21,22,27,28,29])],[(0,[5]),(2,[1,5,6,8,20,21,22])],[],[]⟩ (.n 136 ⟨24,[],[],[],[]⟩ (.n 133 ⟨20,[(0,[0,1,5,6]),(2,[0,1,3,5,6,9,10])],[(0,[]),(2,[0,1,5,6])],[(0,.heap)],[]⟩ (.n 132 ⟨19,[(0,[0,1,7,8])],[(0,[])],[],[]⟩ .l .l) (.n 134 ⟨12,[],[],[],[]⟩ .l .l)) (.n 142 ⟨10,[],[],[],[]⟩ (.n 137 ⟨137,[(2,[0,1,6,7,8]),(4,[9,10,11,12,13,14]),(6,[9,11,12,13,96,97])],[(2,[6,7]),(4,[9,11,12,13]),(6,[11,12,13])],[(5,.own),(7,.own),(8,.heap)],[]⟩ .l .l) .l)) (.n 147 ⟨26,[],[],[],[]⟩ (.n 146 ⟨7,[],[],[],[]⟩ (.n 145 ⟨50,[],[],[],[]⟩ .l .l) .l) (.n 149 ⟨14,[],[],[],[]⟩ (.n 148 ⟨21,[],[],[],[]⟩ .l .l) .l))) (.n 159 ⟨41,[(0,[0,1,5,6,13,14])],[(0,[5])],[],[]⟩ (.n 156 ⟨9,[],[],[],[]⟩ (.n 155 ⟨23,[(0,[1,2,4,5])],[(0,[4,5])],[],[]⟩ (.n 151 ⟨13,[],[],[],[]⟩ .l .l) .l) (.n 158 ⟨41,[(2,[0,1,5])],[(2,[])],[],[]⟩ (.n 157 ⟨54,[(1,[0,1,5,6,21,22])],[(1,[0,5,6])],[],[]⟩ .l .l) .l)) (.n 164 ⟨84,[],[],[],[]⟩ (.n 163 ⟨9,[],[],[],[]⟩ (.n 160 ⟨19,[(0,[0,1,7,8])],[(0,[])],[],[]⟩ .l .l) .l) (.n 166 ⟨21,[(0,[0,3])],[(0,[0,3])],[],[]⟩ (.n 165 ⟨135,[(3,[2,8,9,10,11,13,14,15,16]),(6,[2,8,9,10,14,15,16,17,18])],[(3,[2,8,9,10,11,13,14,15]),(6,[2,8,14,15,17,18])],[],[]⟩ .l .l) .l)))) (.n 273 ⟨18,[],[],[],[]⟩ (.n 265 ⟨6,[],[],[],[]⟩ (.n 262 ⟨13,[],[],[],[]⟩ (.n 172 ⟨25,[],[],[],[]⟩ (.n 169 ⟨186,[(1,[0,1,5,6,7,8]),(4,[0,1,5,6,11,12,104,105]),(7,[0,1,5,6,17,156,157])],[(1,[0,1,5,6]),(4,[0,1,5,6,11,12]),(7,[0,5,6,17])],[],[]⟩ .l .l) (.n 261 ⟨19,[(0,[0,3])],[(0,[])],[],[]⟩ .l .l)) (.n 264 ⟨63,[],[],[],[]⟩ (.n 263 ⟨96,[],[],[],[]⟩ .l .l) .l)) (.n 268 ⟨14,[],[],[],[]⟩ (.n 267 ⟨55,[],[],[],[]⟩ (.n 266 ⟨9,[],[],[],[]⟩ .l .l) .l) (.n 272 ⟨17,[(0,[0,3])],[(0,[0])],[],[]⟩ (.n 271 ⟨9,[],[],[],[]⟩ .l .l) .l))) (.n 279 ⟨40,[],[],[],[]⟩ (.n 276 ⟨54,[],[],[],[]⟩ (.n 275 ⟨19,[(0,[0,1])],[(0,[0])],[],[]⟩ (.n 274 ⟨25,[],[],[],[]⟩ .l .l) .l) (.n 278 ⟨16,[],[],[],[]⟩ (.n 277 ⟨61,[],[],[],[]⟩ .l .l) .l)) (.n 282 ⟨39,[(1,[1,3,4])],[(1,[1,3])],[],[]⟩ (.n 281 ⟨25,[(0,[0,2,3,4])],[(0,[2,3,4])],[],[]⟩ (.n 280 ⟨57,[],[],[],[]⟩ .l .l) .l) (.n 284 ⟨7,[],[],[],[]⟩ (.n 283 ⟨13,[],[],[],[]⟩ .l .l) .l))))) (.n 357 ⟨20,[],[],[],[]⟩ (.n 298 ⟨9,[],[],[],[]⟩ (.n 292 ⟨25,[(0,[0,1,5])],[(0,[5])],[],[]⟩ (.n 289 ⟨206,[(2,[0,8,9,10,11]),(4,[8,9,10,11,12,13]),(6,[8,9,10,11,12,13,14,15,16]),(10,[8,9,10,11,12,13,14,19,20])],[(2,[8,9,10,11]),(4,[8,10,11,12]),(6,[8,9,10,11,12,13,14,15]),(10,[8,9,10,11,12,13,14,19])],[(5,.heap)],[]⟩ (.n 287 ⟨20,[(0,[0,3])],[(0,[])],[],[]⟩ (.n 286 ⟨14,[],[],[],[]⟩ .l .l) (.n 288 ⟨40,[(1,[0,2,3,4])],[(1,[0,2,3,4])],[],[]⟩ .l .l)) (.n 291 ⟨12,[(0,[0,1])],[(0,[0])],[],[]⟩ (.n 290 ⟨20,[(0,[0,3,4])],[(0,[3])],[],[]⟩ .l .l) .l)) (.n 295 ⟨42,[(0,[0,1,5,6,7])],[(0,[5])],[],[]⟩ (.n 294 ⟨15,[],[],[],[]⟩ (.n 293 ⟨72,[(0,[0,1,5,6]),(2,[0,1,5,6,7,8])],[(0,[5]),(2,[0,1,5,6,7])],[],[]⟩ .l .l) .l) (.n 297 ⟨35,[(0,[0,1,5,6,7])],[(0,[5])],[],[]⟩ (.n 296 ⟨41,[(2,[0,1,5])],[(2,[])],[],[]⟩ .l .l) .l))) (.n 307 ⟨5,[],[],[],[]⟩ (.n 301 ⟨77,[(0,[0,1,2,7,9,10])],[(0,[9])],[],[]⟩ (.n 300 ⟨21,[(0,[0])],[(0,[0])],[],[]⟩ (.n 299 ⟨39,[(0,[0,1,6,7,8])],[(0,[6,7])],[],[]⟩ .l .l) .l) (.n 306 ⟨11,[],[],[],[]⟩ (.n 302 ⟨13,[],[],[],[]⟩ .l .l) .l)) (.n 314 ⟨17,[],[],[],[]⟩ (.n 309 ⟨15,[],[],[],[]⟩ (.n 308 ⟨9,[],[],[],[]⟩ .l .l) .l) (.n 335 ⟨23,[],[],[],[]⟩ (.n 315 ⟨9,[],[],[],[]⟩ .l .l) .l)))) (.n 485 ⟨5,[],[],[],[]⟩ (.n 364 ⟨25,[(1,[0,2,7])],[(1,[])],[],[]⟩ (.n 361 ⟨47,[],[],[],[]⟩ (.n 359 ⟨31,[],[],[],[]⟩ (.n 358 ⟨15,[],[],[],[]⟩ .l .l) .l) (.n 363 ⟨45,[],[],[],[]⟩ (.n 362 ⟨48,[],[],[],[]⟩ .l .l) .l)) (.n 481 ⟨60,[],[],[],[]⟩ (.n 480 ⟨249,[(2,[2,7,9,93]),(7,[7,20,22,24,179,180,181]),(9,[7,20,22,24,179,180,181,185,186,187]),(11,[7,20,22,24,29,196,197,198]),(13,[7,20,22,24,29,32,196,197,198,202,203,204])],[(2,[2,7]),(7,[7,20,22,24]),(9,[7,20,22,24,179,180,181]),(11,[7,20,22,24,29]),(13,[7,20,22,24,29,32,196,197,198])],[],[(43,[32])]⟩ (.n 365 ⟨14,[],[],[],[]⟩ .l .l) .l) (.n 484 ⟨6,[],[],[],[]⟩ (.n 483 ⟨26,[],[],[],[]⟩ .l .l) .l))) (.n 491 ⟨10,[],[],[],[]⟩ (.n 488 ⟨47,[(2,[5,33,34,35])],[(2,[])],[],[]⟩ (.n 487 ⟨6,[],[],[],[]⟩ (.n 486 ⟨4,[],[],[],[]⟩ .l .l) .l) (.n 490 ⟨19,[(0,[0,1,7,8])],[(0,[])],[(1,.heap)],[]⟩ (.n 489 ⟨22,[(0,[1,5,8,9,10])],[(0,[5])],[],[]⟩ .l .l) .l)) (.n 494 ⟨21,[(0,[1,8,9,10])],[(0,[])],[],[]⟩ (.n 493 ⟨8,[],[],[],[]⟩ (.n 492 ⟨11,[],[],[],[]⟩ .l .l) .l) (.n 496 ⟨22,[(0,[1,5,8,9,10])],[(0,[5])],[],[]⟩ (.n 495 ⟨8,[],[],[],[]⟩ .l .l) .l)))))))
def ae2:BS ae bE=true:=by decide+kernel
noncomputable def cc (i:Nat):av:=match (Tryz.prog.funcs[nU ae i]?).bind (s7 Tryz.prog (EV bE hd i)) with
 | some F=>F
 | none=>⟨[],.skip⟩
end mY
end
end VE
