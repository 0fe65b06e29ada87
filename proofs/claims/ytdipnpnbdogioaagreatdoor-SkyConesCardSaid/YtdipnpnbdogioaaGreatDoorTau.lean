import Derived.Test.YtdipnpnbdogioaaGreatDoorTas
import Derived.Test.YtdipnpnbdogioaaGreatDoorTaa
import Derived.Test.YtdipnpnbdogioaaGreatDoorTao
set_option linter.all false
set_option maxRecDepth 100000
section
namespace VE
def zJE:Fnc:=⟨[.t 2],
.seq (
.reg [qb 1 3 0,qf 2]) (
.seq (
.reg [qo 3 0 1,qo 4 0 3,ql 5 1 4,qo 6 0 1,qo 7 1 6,ql 8 1 7,qo 9 2 1,ql 10 1 9,Rq 11 (.mksl 3 1 [.str [],.str [],.str []] [(0,1,(.t 5)),(1,1,(.t 8)),(2,1,(.t 10))]),qc1 12 305 11,qm 2 12]) (
.ret))⟩
def zDz:VC:=
.seq (
.seq (
.reg [qm 4 3,qm 5 0,qn 6 1 5,qT 7 4 6]) (
.cond (.t 7) (
 .skip) (
 .exit 0))) (
.seq (
.blk 1 (
.seq (
.reg [qm 10 0,qm 11 3,qi 12 1 10 11,ql 13 1 12,qn 14 0 13,Rq 15 (.bin .gtr (.t 14) (.c (.int .i64 40)))]) (
.cond (.t 15) (
 .seq (
 .reg [qf 2]) (
 .ret)) (
 .skip)))) (
.reg [qm 8 3,qa 9 8 1,qm 3 9]))
def zI7:Fnc:=⟨[.t 2],
.seq (
.reg [qf 2]) (
.seq (
.seq (
.reg [qk 3 0]) (
.seq (
.blk 0 (
.loop [0,3] zDz)) (
.kp []))) (
.seq (
.reg [Rq 2 (.mov (.c (.bool true)))]) (
.ret)))⟩
def zDL:Fnc:=⟨[.t 2],
.seq (
.reg [qb 1 3 0,qk 2 0]) (
.seq (
.reg [qo 3 0 1,qL 4 2 3,qc1 5 308 4,qo 6 2 1,ql 7 1 6,qc1 8 307 7,Rq 9 (.mksl 2 1 [.int .i64 0,.int .i64 0] [(0,1,(.t 5)),(1,1,(.t 8))]),qc1 10 42 9,qm 2 10]) (
.ret))⟩
def zEJ:Fnc:=⟨[.t 2],
.seq (
.reg [qk 2 0]) (
.seq (
.reg [qm 3 0,Rq 4 (.call .pure (.c (.fn (.f 314) [] [])) [(.t 3),(.c (.int .i64 0))]),qm 2 4]) (
.ret))⟩
def zDi:Fnc:=⟨[.t 2],
.seq (
.reg [qb 1 2 0,qk 2 0]) (
.seq (
.reg [qo 3 0 1,ql 4 1 3,qo 5 1 1,ql 6 1 5,Rq 7 (.mksl 2 1 [.str [],.str []] [(0,1,(.t 4)),(1,1,(.t 6))]),qc1 8 261 7,qm 2 8]) (
.ret))⟩
def zJh:Fnc:=⟨[.t 4],
.seq (
.reg [qb 2 3 0,qf 4]) (
.seq (
.reg [qo 5 2 2,ql 6 1 5,Rq 7 (.bin .eql (.t 6) (.c (.str [48]))),qm 8 7,Rf 9 8 (.mov (.t 1)),Rf 10 8 (.off 2 (.t 2)),Rf 11 8 (.ld 1 false (.t 10)),Rf 12 8 (.call .pure (.c (.fn (.f 315) [] [])) [(.t 9),(.t 11)]),Rf 13 8 (.bin .lss (.t 12) (.c (.int .i64 0))),qp 14 8 13,qm 4 14]) (
.ret))⟩
def zJz:Fnc:=⟨[.t 8],
.seq (
.reg [qb 4 2 0,qb 7 2 3,qf 8]) (
.seq (
.seq (
.reg [qm 9 2,qE 10 9 0]) (
.cond (.t 10) (
 .reg [qo 11 0 7,ql 12 1 11,qo 13 1 7,ql 14 1 13,Rq 15 (.mksl 2 1 [.str [],.str []] [(0,1,(.t 12)),(1,1,(.t 14))]),qc1 16 316 15,qm 2 16]) (
 .skip))) (
.seq (
.seq (
.reg [qm 17 2,qN 18 17 0]) (
.cond (.t 18) (
 .seq (
 .reg [qL 19 2 4,Rq 20 (.mkagg [.str [],.str []] []),Rq 21 (.eq false (.ag [2,2]) (.t 19) (.t 20)),qm 22 21,Rt 23 22 (.mov (.t 1)),Rt 24 22 (.mov (.t 2)),Rt 25 22 (.bin .eql (.t 23) (.t 24)),qq 26 22 25,qm 8 26]) (
 .ret)) (
 .skip))) (
.seq (
.reg [qm 27 1,qE 28 27 0,qm 29 28,Rt 30 29 (.ld 2 true (.t 4)),Rt 31 29 (.ld 2 true (.t 7)),Rt 32 29 (.eq false (.ag [2,2]) (.t 30) (.t 31)),qq 33 29 32,qm 8 33]) (
.ret))))⟩
def zKr:Fnc:=⟨[.cell 6 2 true],
.seq (
.reg [qb 3 3 0,qb 5 2 2,Rq 6 (.box 2 (.c (.agg [.str [],.str []])))]) (
.seq (
.reg [Rq 7 (.mov (.c (.str [49])))]) (
.seq (
.seq (
.reg [qo 8 2 3,ql 9 1 8,Rq 10 (.bin .neq (.t 9) (.c (.str [48])))]) (
.cond (.t 10) (
 .reg [qm 11 1,qo 12 2 3,ql 13 1 12,qc2 14 266 11 13,Rq 15 (.call .pure (.c (.fn (.f 271) [] [])) [(.c (.str [49])),(.t 14)]),qm 7 15]) (
 .skip))) (
.seq (
.reg [qm 16 7,qL 17 2 5,qc2 18 317 16 17,qm 19 1,qo 20 0 3,qL 21 2 20,qc3 22 318 18 19 21,qs 2 6 22]) (
.ret))))⟩
def zJu:Fnc:=⟨[.t 4],
.seq (
.reg [qb 2 3 0,qk 4 0]) (
.seq (
.reg [qm 6 1,Rq 7 (.call .pure (.c (.fn (.f 314) [] [])) [(.t 6),(.c (.int .i64 0))]),qm 5 7]) (
.seq (
.seq (
.reg [qm 8 5,qE 9 8 0,qm 10 9,Rt 11 10 (.mov (.t 1)),Rt 12 10 (.off 2 (.t 2)),Rt 13 10 (.ld 1 false (.t 12)),Rt 14 10 (.call .pure (.c (.fn (.f 267) [] [])) [(.c (.str [50])),(.t 13)]),Rt 15 10 (.call .pure (.c (.fn (.f 315) [] [])) [(.t 11),(.t 14)]),Rt 16 10 (.bin .geq (.t 15) (.c (.int .i64 0))),qq 17 10 16]) (
.cond (.t 17) (
 .reg [qk 5 3]) (
 .skip))) (
.seq (
.reg [qm 18 5,qm 4 18]) (
.ret))))⟩
def zJO:Fnc:=⟨[.cell 8 2 true],
.seq (
.reg [qb 4 3 0,qb 6 2 2,qb 7 2 3,Rq 8 (.box 2 (.c (.agg [.str [],.str []])))]) (
.seq (
.reg [qm 11 1,qc1 12 319 11,qm 9 12]) (
.seq (
.reg [qo 13 2 4,ql 14 1 13,qm 15 9,qc2 16 271 14 15,qc1 17 283 16,qo 18 2 4,ql 19 1 18,qm 20 9,qc2 21 264 19 20,qc1 22 283 21,qc2 23 271 17 22,qm 10 23]) (
.seq (
.reg [qm 24 10,qL 25 2 7,qL 26 2 6,Rq 27 (.call .pure (.c (.fn (.f 318) [] [])) [(.t 25),(.c (.str [45,49])),(.t 26)]),qc2 28 317 24 27,qs 2 8 28]) (
.ret))))⟩
def zxC:Fnc:=⟨[.t 4],
.seq (
.reg [qk 4 0]) (
.seq (
.reg [qm 6 0,qc1 7 263 6,qm 5 7]) (
.seq (
.seq (
.reg [qm 8 5,qE 9 8 0,qm 10 9,Rt 11 10 (.mov (.t 0)),Rt 12 10 (.call .pure (.c (.fn (.f 262) [] [])) [(.t 11)]),Rt 13 10 (.mov (.t 1)),Rt 14 10 (.bin .lss (.t 12) (.t 13)),qq 15 10 14]) (
.cond (.t 15) (
 .reg [qk 5 3]) (
 .skip))) (
.seq (
.reg [qm 16 5,qm 4 16]) (
.ret))))⟩
def zKL:Fnc:=⟨[.t 4],
.seq (
.reg [qk 4 0]) (
.seq (
.reg [qm 5 0,qm 6 1,qc2 7 271 5 6,qc1 8 262 7,qm 4 8]) (
.ret))⟩
def zE4:VC:=
.seq (
.seq (
.reg [qm 4 3,qm 5 0,qn 6 1 5,qT 7 4 6]) (
.cond (.t 7) (
 .skip) (
 .exit 0))) (
.seq (
.blk 1 (
.seq (
.reg [qm 10 0,qm 11 3,qi 12 1 10 11,ql 13 1 12,qc1 14 269 13,qN 15 14 0]) (
.cond (.t 15) (
 .seq (
 .reg [qk 2 4]) (
 .ret)) (
 .skip)))) (
.reg [qm 8 3,qa 9 8 1,qm 3 9]))
def zKa:Fnc:=⟨[.t 2],
.seq (
.reg [qk 2 0]) (
.seq (
.seq (
.reg [qk 3 0]) (
.seq (
.blk 0 (
.loop [0,3] zE4)) (
.kp []))) (
.seq (
.reg [qk 2 0]) (
.ret)))⟩
def zJc:Fnc:=⟨[.cell 4 2 true],
.seq (
.reg [qb 3 2 1,Rq 4 (.box 2 (.c (.agg [.str [],.str []])))]) (
.seq (
.reg [Rq 5 (.mkagg [.str [],.str []] [(0,1,(.c (.str [48]))),(1,1,(.c (.str [48])))]),qm 6 0,qL 7 2 3,qc3 8 318 5 6 7,qs 2 4 8]) (
.ret))⟩
def zKE:Fnc:=⟨[.cell 6 2 true],
.seq (
.reg [qb 3 2 0,qb 5 2 2,Rq 6 (.box 2 (.c (.agg [.str [],.str []])))]) (
.seq (
.reg [qo 7 0 3,ql 8 1 7,qm 9 1,qo 10 0 5,ql 11 1 10,qc2 12 267 9 11,qc2 13 264 8 12,qo 14 1 3,ql 15 1 14,qm 16 1,qo 17 1 5,ql 18 1 17,qc2 19 267 16 18,qc2 20 264 15 19,Rq 21 (.mkagg [.str [],.str []] [(0,1,(.t 13)),(1,1,(.t 20))]),qs 2 6 21]) (
.ret))⟩
def zDk:Fnc:=⟨[.t 2],
.seq (
.reg [Rq 2 (.mov (.c (.str [])))]) (
.seq (
.reg [qm 3 0,Rq 4 (.call .pure (.c (.fn (.f 267) [] [])) [(.t 3),(.c (.str [49,47,50]))]),qm 2 4]) (
.ret))⟩
def c356:Fnc:=⟨[.t 6],
.seq (
.reg [qb 3 6 0,qb 4 2 1,qf 6]) (
.seq (
.reg [qo 33 0 3,qL 34 3 33,Rq 7 (.box 3 (.c (.agg [.str [],.str [],.str []]))),qs 3 7 34]) (
.seq (
.seq (
.reg [qc0 35 1,Rq 36 (.un .not (.t 35)),qm 37 36,Rf 38 37 (.ld 3 true (.t 7)),Rf 39 37 (.call .pure (.c (.fn (.f 357) [] [])) [(.t 38),(.c (.int .i64 6))]),Rf 40 37 (.un .not (.t 39)),qp 41 37 40,qm 42 41,Rf 43 42 (.off 3 (.t 3)),Rf 44 42 (.ld 2 true (.t 43)),Rf 45 42 (.call .pure (.c (.fn (.f 358) [] [])) [(.t 44),(.c (.int .i64 6))]),Rf 46 42 (.un .not (.t 45)),qp 47 42 46,qm 48 47,Rf 49 48 (.ld 2 true (.t 4)),Rf 50 48 (.call .pure (.c (.fn (.f 358) [] [])) [(.t 49),(.c (.int .i64 6))]),Rf 51 48 (.un .not (.t 50)),qp 52 48 51]) (
.cond (.t 52) (
 .seq (
 .reg [qc0 53 1,qm 6 53]) (
 .ret)) (
 .skip))) (
.seq (
.reg [qo 55 0 3,qL 56 3 55,qo 57 3 3,qL 58 2 57,Rq 59 (.call .pure (.c (.fn (.f 22) [] [])) [(.t 56),(.c (.str [48])),(.t 58)]),qm 54 59,qe 60 0 54,qe 61 1 54,Rq 8 (.box 2 (.c (.agg [.str [],.str []]))),qs 2 8 60,qm 9 61]) (
.seq (
.seq (
.reg [qm 62 9,qN 63 62 0,qm 64 63,Rf 65 64 (.ld 2 true (.t 8)),Rf 66 64 (.off 3 (.t 3)),Rf 67 64 (.ld 2 true (.t 66)),Rf 68 64 (.eq true (.ag [2,2]) (.t 65) (.t 67)),qp 69 64 68]) (
.cond (.t 69) (
 .seq (
 .reg [qf 6]) (
 .ret)) (
 .skip))) (
.seq (
.reg [qm 70 2,Rq 71 (.cv (.toInt .i64) (.t 70)),Rq 72 (.bin .rem (.t 71) (.c (.int .i64 255))),Rq 73 (.call .pure (.c (.fn (.f 277) [] [])) [(.t 72),(.c (.int .i64 255))]),qm 10 73]) (
.seq (
.seq (
.reg [qo 74 2 7,ql 75 1 74,Rq 76 (.bin .eql (.t 75) (.c (.str [48])))]) (
.cond (.t 76) (
 .seq (
 .reg [qo 78 0 3,qL 79 3 78,qm 80 10,qo 81 3 3,qL 82 2 81,qc3 83 22 79 80 82,qm 77 83,qe 84 0 77,qe 85 1 77,Rq 11 (.box 2 (.c (.agg [.str [],.str []]))),qs 2 11 84,qm 12 85]) (
 .seq (
 .reg [qo 87 0 3,qL 88 3 87,qm 89 10,qL 90 2 4,qc3 91 22 88 89 90,qm 86 91,qe 92 0 86,qe 93 1 86,Rq 13 (.box 2 (.c (.agg [.str [],.str []]))),qs 2 13 92,qm 14 93]) (
 .seq (
 .reg [qm 94 12,qm 95 14,qA 96 94 95,qE 97 96 0,qm 98 97,Rt 99 98 (.ld 2 true (.t 11)),Rt 100 98 (.call .pure (.c (.fn (.f 308) [] [])) [(.t 99)]),Rt 101 98 (.ld 2 true (.t 13)),Rt 102 98 (.call .pure (.c (.fn (.f 308) [] [])) [(.t 101)]),Rt 103 98 (.bin .add (.t 100) (.t 102)),Rt 104 98 (.bin .eql (.t 103) (.c (.int .i64 0))),qq 105 98 104,qm 106 105,Rt 107 106 (.off 0 (.t 11)),Rt 108 106 (.ld 1 false (.t 107)),Rt 109 106 (.off 0 (.t 13)),Rt 110 106 (.ld 1 false (.t 109)),Rt 111 106 (.call .pure (.c (.fn (.f 271) [] [])) [(.t 108),(.t 110)]),Rt 112 106 (.off 3 (.t 3)),Rt 113 106 (.off 0 (.t 112)),Rt 114 106 (.ld 1 false (.t 113)),Rt 115 106 (.off 0 (.t 4)),Rt 116 106 (.ld 1 false (.t 115)),Rt 117 106 (.call .pure (.c (.fn (.f 271) [] [])) [(.t 114),(.t 116)]),Rt 118 106 (.bin .eql (.t 111) (.t 117)),qq 119 106 118,qm 120 119,Rt 121 120 (.off 1 (.t 11)),Rt 122 120 (.ld 1 false (.t 121)),Rt 123 120 (.off 1 (.t 13)),Rt 124 120 (.ld 1 false (.t 123)),Rt 125 120 (.call .pure (.c (.fn (.f 271) [] [])) [(.t 122),(.t 124)]),Rt 126 120 (.off 3 (.t 3)),Rt 127 120 (.off 1 (.t 126)),Rt 128 120 (.ld 1 false (.t 127)),Rt 129 120 (.off 1 (.t 4)),Rt 130 120 (.ld 1 false (.t 129)),Rt 131 120 (.call .pure (.c (.fn (.f 271) [] [])) [(.t 128),(.t 130)]),Rt 132 120 (.bin .eql (.t 125) (.t 131)),qq 133 120 132,qm 6 133]) (
 .ret)))) (
 .skip))) (
.seq (
.reg [qo 134 2 7,ql 135 1 134,qo 136 0 7,qo 137 0 136,ql 138 1 137,qc2 139 267 135 138,qo 140 2 7,ql 141 1 140,qo 142 0 7,qo 143 1 142,ql 144 1 143,qc2 145 267 141 144,qc2 146 14 139 145,Rq 15 (.box 2 (.c (.agg [.str [],.str []]))),qs 2 15 146]) (
.seq (
.reg [qo 148 0 3,qL 149 3 148,qo 150 2 7,ql 151 1 150,qc1 152 319 151,qo 153 3 3,qL 154 2 153,qc3 155 22 149 152 154,qm 147 155,qe 156 0 147,qe 157 1 147,Rq 16 (.box 2 (.c (.agg [.str [],.str []]))),qs 2 16 156,qm 17 157]) (
.seq (
.seq (
.reg [qm 158 17,qN 159 158 0,qm 160 159,Rf 161 160 (.ld 2 true (.t 16)),Rf 162 160 (.off 3 (.t 3)),Rf 163 160 (.off 0 (.t 162)),Rf 164 160 (.ld 1 false (.t 163)),Rf 165 160 (.off 0 (.t 15)),Rf 166 160 (.ld 1 false (.t 165)),Rf 167 160 (.call .pure (.c (.fn (.f 264) [] [])) [(.t 164),(.t 166)]),Rf 168 160 (.call .pure (.c (.fn (.f 319) [] [])) [(.t 167)]),Rf 169 160 (.off 3 (.t 3)),Rf 170 160 (.off 1 (.t 169)),Rf 171 160 (.ld 1 false (.t 170)),Rf 172 160 (.off 1 (.t 15)),Rf 173 160 (.ld 1 false (.t 172)),Rf 174 160 (.call .pure (.c (.fn (.f 264) [] [])) [(.t 171),(.t 173)]),Rf 175 160 (.call .pure (.c (.fn (.f 319) [] [])) [(.t 174)]),Rf 176 160 (.call .pure (.c (.fn (.f 14) [] [])) [(.t 168),(.t 175)]),Rf 177 160 (.eq true (.ag [2,2]) (.t 161) (.t 176)),qp 178 160 177]) (
.cond (.t 178) (
 .seq (
 .reg [qf 6]) (
 .ret)) (
 .skip))) (
.seq (
.reg [qo 180 0 3,qL 181 3 180,qm 182 10,qo 183 2 7,ql 184 1 183,qc2 185 267 182 184,qo 186 3 3,qL 187 2 186,qc3 188 22 181 185 187,qm 179 188,qe 189 0 179,qe 190 1 179,Rq 18 (.box 2 (.c (.agg [.str [],.str []]))),qs 2 18 189,qm 19 190]) (
.seq (
.reg [qo 192 0 3,qL 193 3 192,qm 194 10,qo 195 2 7,ql 196 1 195,qc2 197 267 194 196,qL 198 2 4,qc3 199 22 193 197 198,qm 191 199,qe 200 0 191,qe 201 1 191,Rq 20 (.box 2 (.c (.agg [.str [],.str []]))),qs 2 20 200,qm 21 201]) (
.seq (
.reg [qo 203 0 3,qL 204 3 203,qo 205 2 7,ql 206 1 205,qo 207 3 3,qL 208 2 207,qc3 209 22 204 206 208,qm 202 209,qe 210 0 202,qe 211 1 202,Rq 22 (.box 2 (.c (.agg [.str [],.str []]))),qs 2 22 210,qm 23 211]) (
.seq (
.reg [qo 213 0 3,qL 214 3 213,qL 215 2 4,qo 216 3 3,qL 217 2 216,Rq 218 (.call .pure (.c (.fn (.f 25) [] [])) [(.t 214),(.c (.str [48])),(.t 215),(.t 217)]),qm 212 218,qe 219 0 212,qe 220 1 212,Rq 24 (.box 2 (.c (.agg [.str [],.str []]))),qs 2 24 219,qm 25 220]) (
.seq (
.seq (
.reg [qm 221 19,qm 222 21,qA 223 221 222,qm 224 25,qA 225 223 224,qN 226 225 0,qm 227 226,Rf 228 227 (.mov (.t 23)),Rf 229 227 (.bin .neq (.t 228) (.c (.int .i64 31))),qp 230 227 229,qm 231 230,Rf 232 231 (.ld 2 true (.t 24)),Rf 233 231 (.call .pure (.c (.fn (.f 14) [] [])) [(.c (.str [48])),(.c (.str [48]))]),Rf 234 231 (.eq true (.ag [2,2]) (.t 232) (.t 233)),qp 235 231 234,qm 236 235,Rf 237 236 (.ld 2 true (.t 18)),Rf 238 236 (.call .pure (.c (.fn (.f 308) [] [])) [(.t 237)]),Rf 239 236 (.ld 2 true (.t 20)),Rf 240 236 (.call .pure (.c (.fn (.f 308) [] [])) [(.t 239)]),Rf 241 236 (.bin .add (.t 238) (.t 240)),Rf 242 236 (.bin .neq (.t 241) (.c (.int .i64 0))),qp 243 236 242]) (
.cond (.t 243) (
 .seq (
 .reg [qf 6]) (
 .ret)) (
 .skip))) (
.seq (
.reg [qm 244 10,Rq 245 (.call .pure (.c (.fn (.f 271) [] [])) [(.c (.str [49])),(.t 244)]),qm 26 245]) (
.seq (
.seq (
.reg [qo 246 0 18,ql 247 1 246,qo 248 0 20,ql 249 1 248,qc2 250 271 247 249,qm 251 26,qo 252 3 3,qo 253 0 252,ql 254 1 253,qo 255 0 4,ql 256 1 255,qc2 257 271 254 256,qc2 258 267 251 257,Rq 259 (.bin .neq (.t 250) (.t 258)),qm 260 259,Rf 261 260 (.off 1 (.t 18)),Rf 262 260 (.ld 1 false (.t 261)),Rf 263 260 (.off 1 (.t 20)),Rf 264 260 (.ld 1 false (.t 263)),Rf 265 260 (.call .pure (.c (.fn (.f 271) [] [])) [(.t 262),(.t 264)]),Rf 266 260 (.mov (.t 26)),Rf 267 260 (.off 3 (.t 3)),Rf 268 260 (.off 1 (.t 267)),Rf 269 260 (.ld 1 false (.t 268)),Rf 270 260 (.off 1 (.t 4)),Rf 271 260 (.ld 1 false (.t 270)),Rf 272 260 (.call .pure (.c (.fn (.f 271) [] [])) [(.t 269),(.t 271)]),Rf 273 260 (.call .pure (.c (.fn (.f 267) [] [])) [(.t 266),(.t 272)]),Rf 274 260 (.bin .neq (.t 265) (.t 273)),qp 275 260 274]) (
.cond (.t 275) (
 .seq (
 .reg [qf 6]) (
 .ret)) (
 .skip))) (
.seq (
.reg [qo 277 0 3,qL 278 3 277,qo 279 2 7,ql 280 1 279,Rq 281 (.call .pure (.c (.fn (.f 14) [] [])) [(.c (.str [48])),(.c (.str [48]))]),qo 282 3 3,qL 283 2 282,qc4 284 25 278 280 281 283,qm 276 284,qe 285 0 276,qe 286 1 276,Rq 27 (.box 2 (.c (.agg [.str [],.str []]))),qs 2 27 285,qm 28 286]) (
.seq (
.reg [qo 288 0 3,qL 289 3 288,qo 290 2 7,ql 291 1 290,Rq 292 (.call .pure (.c (.fn (.f 14) [] [])) [(.c (.str [48])),(.c (.str [48]))]),qL 293 2 4,qc4 294 25 289 291 292 293,qm 287 294,qe 295 0 287,qe 296 1 287,Rq 29 (.box 2 (.c (.agg [.str [],.str []]))),qs 2 29 295,qm 30 296]) (
.seq (
.reg [qo 298 0 3,qL 299 3 298,qo 300 2 7,ql 301 1 300,qL 302 2 4,qo 303 3 3,qL 304 2 303,qc4 305 25 299 301 302 304,qm 297 305,qe 306 0 297,qe 307 1 297,Rq 31 (.box 2 (.c (.agg [.str [],.str []]))),qs 2 31 306,qm 32 307]) (
.seq (
.reg [qm 308 28,qm 309 30,qA 310 308 309,qm 311 32,qA 312 310 311,qE 313 312 0,qm 314 313,Rt 315 314 (.ld 2 true (.t 27)),Rt 316 314 (.call .pure (.c (.fn (.f 308) [] [])) [(.t 315)]),Rt 317 314 (.ld 2 true (.t 29)),Rt 318 314 (.call .pure (.c (.fn (.f 308) [] [])) [(.t 317)]),Rt 319 314 (.bin .add (.t 316) (.t 318)),Rt 320 314 (.bin .eql (.t 319) (.c (.int .i64 0))),qq 321 314 320,qm 322 321,Rt 323 322 (.ld 2 true (.t 31)),Rt 324 322 (.off 0 (.t 27)),Rt 325 322 (.ld 1 false (.t 324)),Rt 326 322 (.off 0 (.t 29)),Rt 327 322 (.ld 1 false (.t 326)),Rt 328 322 (.call .pure (.c (.fn (.f 271) [] [])) [(.t 325),(.t 327)]),Rt 329 322 (.off 1 (.t 27)),Rt 330 322 (.ld 1 false (.t 329)),Rt 331 322 (.off 1 (.t 29)),Rt 332 322 (.ld 1 false (.t 331)),Rt 333 322 (.call .pure (.c (.fn (.f 271) [] [])) [(.t 330),(.t 332)]),Rt 334 322 (.call .pure (.c (.fn (.f 14) [] [])) [(.t 328),(.t 333)]),Rt 335 322 (.eq false (.ag [2,2]) (.t 323) (.t 334)),qq 336 322 335,qm 6 336]) (
.ret)))))))))))))))))))))⟩
def zym:Fnc:=⟨[.t 4],
.seq (
.reg [qb 2 3 0,qf 4]) (
.seq (
.reg [qo 5 0 2,qL 6 2 5,qm 7 1,qc2 8 358 6 7,qm 9 8,Rt 10 9 (.off 2 (.t 2)),Rt 11 9 (.ld 1 false (.t 10)),Rt 12 9 (.mov (.t 1)),Rt 13 9 (.call .pure (.c (.fn (.f 359) [] [])) [(.t 11),(.t 12)]),qq 14 9 13,qm 15 14,Rt 16 15 (.ld 3 true (.t 2)),Rt 17 15 (.call .pure (.c (.fn (.f 306) [] [])) [(.t 16)]),Rt 18 15 (.bin .eql (.t 17) (.c (.int .i64 0))),qq 19 15 18,qm 4 19]) (
.ret))⟩
def zA6:Fnc:=⟨[.t 4],
.seq (
.reg [qb 2 2 0,qf 4]) (
.seq (
.reg [qo 5 0 2,ql 6 1 5,qm 7 1,qc2 8 359 6 7,qm 9 8,Rt 10 9 (.off 1 (.t 2)),Rt 11 9 (.ld 1 false (.t 10)),Rt 12 9 (.mov (.t 1)),Rt 13 9 (.call .pure (.c (.fn (.f 359) [] [])) [(.t 11),(.t 12)]),qq 14 9 13,qm 4 14]) (
.ret))⟩
def zoZ:Fnc:=⟨[.t 4],
.seq (
.reg [qf 4]) (
.seq (
.reg [qm 5 0,qn 6 0 5,qm 7 1,Rq 8 (.bin .mul (.c (.int .i64 2)) (.t 7)),qa 9 8 2,Rq 10 (.bin .leq (.t 6) (.t 9)),qm 11 10,Rt 12 11 (.mov (.t 0)),Rt 13 11 (.call .pure (.c (.fn (.f 263) [] [])) [(.t 12)]),Rt 14 11 (.bin .eql (.t 13) (.c (.int .i64 0))),qq 15 11 14,qm 16 15,Rt 17 16 (.mov (.t 0)),Rt 18 16 (.call .pure (.c (.fn (.f 284) [] [])) [(.t 17)]),Rt 19 16 (.call .pure (.c (.fn (.f 285) [] [])) [(.t 18)]),Rt 20 16 (.len 0 (.t 19)),Rt 21 16 (.mov (.t 1)),Rt 22 16 (.bin .leq (.t 20) (.t 21)),qq 23 16 22,qm 24 23,Rt 25 24 (.mov (.t 0)),Rt 26 24 (.call .pure (.c (.fn (.f 286) [] [])) [(.t 25)]),Rt 27 24 (.len 0 (.t 26)),Rt 28 24 (.mov (.t 1)),Rt 29 24 (.bin .leq (.t 27) (.t 28)),qq 30 24 29,qm 4 30]) (
.ret))⟩
end VE
end
section
namespace VE
inductive Tr (α:Type) where
 | l
 | n (k:Nat) (v:α) (a b:Tr α)
def Tr.find {α:Type}:Tr α→Nat→Option α
 | .l,_=>none
 | .n k v a b,i=>bif Nat.beq i k then some v else bif Nat.blt i k then a.find i else b.find i
end VE
end
section
namespace VE
open Go (IntKind FloatKind)
def zqP:IntKind→Nat
 | .i8=>0 | .i16=>1 | .i32=>2 | .i64=>3 | .u8=>4 | .u16=>5 | .u32=>6 | .u64=>7
def eqI:Int→Int→Bool
 | .ofNat a,.ofNat b=>Nat.beq a b
 | .negSucc a,.negSucc b=>Nat.beq a b
 | _,_=>false
def eqB:Bool→Bool→Bool
 | true,true | false,false=>true
 | _,_=>false
def eqF:FloatKind→FloatKind→Bool
 | .f32,.f32 | .f64,.f64=>true
 | _,_=>false
mutual
def eqD:AV→AV→Bool
 | .int k a,.int k' b=>Nat.beq (zqP k) (zqP k')&&eqI a b
 | .bool a,.bool b=>eqB a b
 | .flt k a,.flt k' b=>eqF k k'&&Nat.beq a b
 | .str a,.str b=>eqL a b
 | .nilp,.nilp=>true
 | .vptr a,.vptr b=>zgW a b
 | .nils,.nils=>true
 | .vsl e n a,.vsl e' n' b=>eqB e e'&&(Nat.beq n n'&&zgW a b)
 | .fsl e s n a,.fsl e' s' n' b=>eqB e e'&&(Nat.beq s s'&&(Nat.beq n n'&&zgW a b))
 | .fn (.f g) a b,.fn (.f g') a' b'=>Nat.beq g g'&&(zgW a a'&&zgW b b')
 | .nilf,.nilf=>true
 | .nilm,.nilm=>true
 | .vmap a b,.vmap a' b'=>zgW a a'&&zgW b b'
 | .agg a,.agg b=>zgW a b
 | .tup a,.tup b=>zgW a b
 | .undef,.undef=>true
 | _,_=>false
def zgW:List AV→List AV→Bool
 | [],[]=>true
 | a::x,b::y=>eqD a b&&zgW x y
 | _,_=>false
end
def hI:Int→Nat
 | .ofNat n=>n
 | .negSucc n=>n+n
def hS:List Nat→Nat
 | []=>1
 | b::r=>(b+257*hS r)%65521
mutual
def hV:AV→Nat
 | .int _ n=>hI n
 | .bool b=>bif b then 1 else 2
 | .flt _ n=>n
 | .str s=>hS s
 | .vsl _ n cs=>n+hL cs
 | .agg cs=>hL cs
 | .tup cs=>hL cs
 | _=>5
def hL:List AV→Nat
 | []=>7
 | v::r=>(hV v+263*hL r)%65521
end
abbrev Te:=Tr (List AV×AV)
abbrev Ent:=List Te
def zg2 (h:Nat) (vals:List AV):Ent→Option AV
 | []=>none
 | t::l=>match t.find h with
  | some (a,r)=>bif zgW a vals then some r else zg2 h vals l
  | none=>zg2 h vals l
def zCc (vals:List AV) (l:Ent):Option AV:=zg2 (hL vals) vals l
abbrev Te.o (h:Nat) (a:List AV) (r:AV):Te:= .n h (a,r) .l .l
abbrev Te.m (h:Nat) (a:List AV) (r:AV) (x y:Te):Te:= .n h (a,r) x y
def zhk (n:Nat):List (Tr Ent)→Option Ent
 | []=>none
 | t::r=>match t.find n with
  | none=>zhk n r
  | some l=>match zhk n r with | none=>some l | some m=>some (l++m)
def zA7 (L:Lib) (T:List (Tr Ent)) (ex:Nat):Lib:=
 ⟨fun i=>match L.pure i with
  | some sp=>some sp
  | none=>bif Nat.beq i ex then none else match zhk i T with | some l=>some (fun vals=>zCc vals l) | none=>none,L.heap⟩
def zvr (P:zQ) (L:Lib) (f:Nat):Te→Bool
 | .l=>true
 | .n _ e x y=>(match evF P L 100000 f e.1 with | some r'=>eqD r' e.2 | none=>false)&&(zvr P L f x&&zvr P L f y)
def zrl (P:zQ) (L:Lib) (f:Nat):Ent→Bool
 | []=>true
 | t::l=>zvr P L f t&&zrl P L f l
def za1 (P:zQ) (L:Lib) (T:List (Tr Ent)):List (Nat×Ent)→Bool
 | []=>true
 | (f,l)::C=>zrl P (zA7 L T f) f l&&za1 P L T C
end VE
end
section
namespace VE
open Go
theorem ztS {a b:IntKind} (h:Nat.beq (zqP a) (zqP b)=true):a=b:=by
 cases a<;>cases b<;>first | rfl | (exact absurd h (by decide))
theorem zv3 {a b:Int} (h:eqI a b=true):a=b:=by
 cases a<;>cases b<;>simp only [eqI,reduceCtorEq] at h<;>rw [Nat.eq_of_beq_eq_true h]
theorem zkl {a b:Bool} (h:eqB a b=true):a=b:=by
 cases a<;>cases b<;>first | rfl | (exact absurd h (by decide))
theorem zxU {a b:FloatKind} (h:eqF a b=true):a=b:=by
 cases a<;>cases b<;>first | rfl | (exact absurd h (by decide))
mutual
theorem zoc:∀(a b:AV),eqD a b=true→a=b
 | .int k a,b,h=>by
  cases b<;>simp only [eqD,Bool.and_eq_true,Bool.false_eq_true] at h
  rw [ztS h.1,zv3 h.2]
 | .bool a,b,h=>by
  cases b<;>simp only [eqD,Bool.false_eq_true] at h
  rw [zkl h]
 | .flt k a,b,h=>by
  cases b<;>simp only [eqD,Bool.and_eq_true,Bool.false_eq_true] at h
  rw [zxU h.1,Nat.eq_of_beq_eq_true h.2]
 | .str a,b,h=>by
  cases b<;>simp only [eqD,Bool.false_eq_true] at h
  rw [zkG h]
 | .nilp,b,h=>by cases b<;>simp only [eqD,Bool.false_eq_true] at h;rfl
 | .ptr _ _,b,h=>by cases b<;>simp only [eqD,Bool.false_eq_true] at h
 | .vptr a,b,h=>by
  cases b<;>simp only [eqD,Bool.false_eq_true] at h
  rw [zbB _ _ h]
 | .nils,b,h=>by cases b<;>simp only [eqD,Bool.false_eq_true] at h;rfl
 | .vsl e n a,b,h=>by
  cases b<;>simp only [eqD,Bool.and_eq_true,Bool.false_eq_true] at h
  rw [zkl h.1,Nat.eq_of_beq_eq_true h.2.1,zbB _ _ h.2.2]
 | .fsl e s n a,b,h=>by
  cases b<;>simp only [eqD,Bool.and_eq_true,Bool.false_eq_true] at h
  rw [zkl h.1,Nat.eq_of_beq_eq_true h.2.1,Nat.eq_of_beq_eq_true h.2.2.1,zbB _ _ h.2.2.2]
 | .osl _ _ _,b,h=>by cases b<;>simp only [eqD,Bool.false_eq_true] at h
 | .fn (.f g) x y,b,h=>by
  cases b<;>try (simp only [eqD,Bool.false_eq_true] at h;done)
  rename_i fr _ _;cases fr<;>simp only [eqD,Bool.and_eq_true,Bool.false_eq_true] at h
  rw [Nat.eq_of_beq_eq_true h.1,zbB _ _ h.2.1,zbB _ _ h.2.2]
 | .fn (.y _) _ _,b,h=>by cases b<;>simp only [eqD,Bool.false_eq_true] at h
 | .nilf,b,h=>by cases b<;>simp only [eqD,Bool.false_eq_true] at h;rfl
 | .nilm,b,h=>by cases b<;>simp only [eqD,Bool.false_eq_true] at h;rfl
 | .map _,b,h=>by cases b<;>simp only [eqD,Bool.false_eq_true] at h
 | .vmap x y,b,h=>by
  cases b<;>simp only [eqD,Bool.and_eq_true,Bool.false_eq_true] at h
  rw [zbB _ _ h.1,zbB _ _ h.2]
 | .it _,b,h=>by cases b<;>simp only [eqD,Bool.false_eq_true] at h
 | .agg a,b,h=>by
  cases b<;>simp only [eqD,Bool.false_eq_true] at h
  rw [zbB _ _ h]
 | .tup a,b,h=>by
  cases b<;>simp only [eqD,Bool.false_eq_true] at h
  rw [zbB _ _ h]
 | .undef,b,h=>by cases b<;>simp only [eqD,Bool.false_eq_true] at h;rfl
theorem zbB:∀(a b:List AV),zgW a b=true→a=b
 | [],b,h=>by cases b<;>simp only [zgW,Bool.false_eq_true] at h;rfl
 | x::a,b,h=>by
  cases b<;>simp only [zgW,Bool.and_eq_true,Bool.false_eq_true] at h
  rw [zoc _ _ h.1,zbB _ _ h.2]
end
def Tr.Has {α:Type} (x:α):Tr α→Prop
 | .l=>False
 | .n _ v a b=>v=x∨a.Has x∨b.Has x
theorem Tr.find_has {α:Type} {h:Nat} {x:α}:∀{t:Tr α},t.find h=some x→t.Has x
 | .l,hf=>by simp [Tr.find] at hf
 | .n k v a b,hf=>by
  simp only [Tr.find] at hf
  cases h1:Nat.beq h k with
  | true=>rw [h1] at hf;simp only [cond_true,Option.some.injEq] at hf;exact .inl hf
  | false=>
   rw [h1] at hf;simp only [cond_false] at hf
   cases h2:Nat.blt h k with
   | true=>rw [h2] at hf;exact .inr (.inl (Tr.find_has hf))
   | false=>rw [h2] at hf;exact .inr (.inr (Tr.find_has hf))
def InE (vals:List AV) (r:AV) (l:Ent):Prop:=∃t,t∈l∧t.Has (vals,r)
theorem zlx {h:Nat} {vals:List AV} {r:AV}:∀{l:Ent},zg2 h vals l=some r→InE vals r l
 | [],hf=>by simp [zg2] at hf
 | t::l,hf=>by
  have tail:zg2 h vals l=some r→InE vals r (t::l):=fun q=>by
   obtain ⟨t',h1,h2⟩:=zlx q;exact ⟨t',List.mem_cons_of_mem _ h1,h2⟩
  simp only [zg2] at hf
  split at hf
  ·rename_i a q he
   cases hb:zgW a vals with
   | true=>
    rw [hb] at hf;simp only [cond_true,Option.some.injEq] at hf;rw [zbB _ _ hb,hf] at he;exact ⟨t,List.mem_cons_self,Tr.find_has he⟩
   | false=>
    rw [hb] at hf;exact tail hf
  ·exact tail hf
theorem ztA {vals:List AV} {r:AV} {l:Ent} (h:zCc vals l=some r):InE vals r l:=zlx h
def AllC (Λ:Link) (f:Nat) (l:Ent):Prop:=∀vals r,InE vals r l→PureC Λ f vals r
theorem AllC.nil {Λ:Link} {f:Nat}:AllC Λ f []:=fun _ _ h=>by obtain ⟨t,h,_⟩:=h;cases h
theorem AllC.app {Λ:Link} {f:Nat} {a b:Ent} (ha:AllC Λ f a) (hb:AllC Λ f b):AllC Λ f (a++b):=fun v r h=>by
 obtain ⟨t,h,h2⟩:=h;exact (List.mem_append.1 h).elim (fun h=>ha v r ⟨t,h,h2⟩) (fun h=>hb v r ⟨t,h,h2⟩)
theorem AllC.one {Λ:Link} {f k:Nat} {vals:List AV} {r:AV} (h:PureC Λ f vals r):AllC Λ f [.n k (vals,r) .l .l]:=fun v q hm=>by
 obtain ⟨t,h1,h2⟩:=hm;rcases List.mem_cons.1 h1 with e | e
 ·subst e;rcases h2 with h2 | h2 | h2
  ·injection h2 with e1 e2
   subst e1;subst e2;exact h
  ·exact h2.elim
  ·exact h2.elim
 ·cases e
def Tr.All {α:Type} (p:Nat→α→Prop):Tr α→Prop
 | .l=>True
 | .n k v a b=>p k v∧a.All p∧b.All p
theorem Tr.all_l {α:Type} {p:Nat→α→Prop}:Tr.All p .l:=trivial
theorem Tr.all_n {α:Type} {p:Nat→α→Prop} {k:Nat} {v:α} {a b:Tr α} (h:p k v) (ha:a.All p) (hb:b.All p):Tr.All p (.n k v a b):=⟨h,ha,hb⟩
theorem Tr.all_find {α:Type} {p:Nat→α→Prop} {i:Nat} {v:α}:∀{t:Tr α},t.All p→t.find i=some v→p i v
 | .l,_,h=>by simp [Tr.find] at h
 | .n k w a b,ha,h=>by
  simp only [Tr.find] at h
  cases hb:Nat.beq i k with
  | true=>
   rw [hb] at h;simp only [cond_true,Option.some.injEq] at h;subst h;rw [Nat.eq_of_beq_eq_true hb];exact ha.1
  | false=>
   rw [hb] at h;simp only [cond_false] at h
   cases hc:Nat.blt i k with
   | true=>rw [hc] at h;exact Tr.all_find ha.2.1 h
   | false=>rw [hc] at h;exact Tr.all_find ha.2.2 h
abbrev Link.withLib (Λ:Link) (L:Lib):Link:={Λ with lib:=L}
theorem orel_lib {Λ:Link} {L:Lib} {m:Mp} {S:Nat→Prop} {w:World} {id:Nat} {o:Obj}:zc5 (Λ.withLib L) m S w id o↔zc5 Λ m S w id o:=by
 cases o<;>exact Iff.rfl
theorem hrel_lib {Λ:Link} {L:Lib} {m:Mp} {S:Nat→Prop} {w:World} {hp:Hp} {ct:Nat}:zW (Λ.withLib L) m S w hp ct↔zW Λ m S w hp ct:=
 ⟨fun h=>⟨fun id o p h1 h2=>orel_lib.1 (h.obj id o p h1 h2),h.lt,h.inj,h.slt,h.blt,h.low,h.good,h.goodS,h.hlt⟩,
  fun h=>⟨fun id o p h1 h2=>orel_lib.2 (h.obj id o p h1 h2),h.lt,h.inj,h.slt,h.blt,h.low,h.good,h.goodS,h.hlt⟩⟩
theorem zlU {Λ:Link} {L:Lib} {n:Nat} {hp:Hp} {ct:Nat} {vals:List AV} {v:AV} {hp':Hp} {ct':Nat} (h:ziY Λ n hp ct vals v hp' ct'):ziY (Λ.withLib L) n hp ct vals v hp' ct':=by
 intro m S w args h1 h2;have post:∀e w',zc4 Λ m S w hp ct v hp' ct' e w'→zc4 (Λ.withLib L) m S w hp ct v hp' ct' e w':=by
  rintro e w' ⟨u,m',S',k1,k2,k3,k4,k5⟩;exact ⟨u,m',S',k1,hrel_lib.2 k2,k3,k4,k5⟩
 exact Invoked.mono (h m S w args (hrel_lib.1 h1) h2) post
def AllT (Λ:Link) (T:List (Tr Ent)):Prop:=∀t,t∈T→t.All (AllC Λ)
theorem AllT.nil {Λ:Link}:AllT Λ []:=fun _ h=>by cases h
theorem AllT.cons {Λ:Link} {t:Tr Ent} {T:List (Tr Ent)} (h:t.All (AllC Λ)) (hT:AllT Λ T):AllT Λ (t::T):=fun u hu=>by
 rcases List.mem_cons.1 hu with e | e
 ·subst e;exact h
 ·exact hT u e
theorem zis {Λ:Link} {n:Nat}:∀{T:List (Tr Ent)} {l:Ent},AllT Λ T→zhk n T=some l→AllC Λ n l
 | [],_,_,h=>by simp [zhk] at h
 | t::T,l,hT,h=>by
  have hT':AllT Λ T:=fun u hu=>hT u (List.mem_cons_of_mem _ hu)
  simp only [zhk] at h
  split at h
  ·exact zis hT' h
  ·rename_i l1 h1;have c1:=Tr.all_find (hT t List.mem_cons_self) h1
   split at h
   ·simp only [Option.some.injEq] at h;subst h;exact c1
   ·rename_i m h2;simp only [Option.some.injEq] at h;subst h;exact AllC.app c1 (zis hT' h2)
theorem zrh {Λ:Link} (hΛ:zaz Λ) {T:List (Tr Ent)} (hT:AllT Λ T) (ex:Nat):zaz (Λ.withLib (zA7 Λ.lib T ex)) where
 hint:=hΛ.hint
 mixed:=hΛ.mixed
 prog:=hΛ.prog
 lib n sp vals r h hs:=by
  show PureC Λ n vals r
  simp only [zA7] at h
  cases hl:Λ.lib.pure n with
  | some sp'=>
   simp only [hl,Option.some.injEq] at h;subst h;exact hΛ.lib n _ vals r hl hs
  | none=>
   simp only [hl] at h
   cases hb:Nat.beq n ex with
   | true=>rw [hb] at h;cases h
   | false=>
    rw [hb] at h;simp only [cond_false] at h
    cases hf:zhk n T with
    | none=>simp [hf] at h
    | some l=>
     simp only [hf,Option.some.injEq] at h;subst h;exact zis hT hf vals r (ztA hs)
 libH n sp hp ct vals v hp' ct' h hs:=zlU (hΛ.libH n sp hp ct vals v hp' ct' h hs)
theorem ziG {Λ:Link} {L:Lib} (hΛ:zaz (Λ.withLib L)) {f:Nat} {vals:List AV} {r:AV}:∀{t:Te},zvr Λ.prog L f t=true→t.Has (vals,r)→PureC Λ f vals r
 | .l,_,h=>h.elim
 | .n k e x y,h,hm=>by
  simp only [zvr,Bool.and_eq_true] at h;rcases hm with e1 | hm | hm
  ·subst e1;have h1:=h.1
   split at h1
   ·rename_i r' hr;have e:r'=r:=zoc _ _ h1;rw [←e];exact zxw hΛ hr
   ·cases h1
  ·exact ziG hΛ h.2.1 hm
  ·exact ziG hΛ h.2.2 hm
theorem zkK {Λ:Link} {L:Lib} (hΛ:zaz (Λ.withLib L)) {f:Nat}:∀{l:Ent},zrl Λ.prog L f l=true→AllC Λ f l
 | [],_=>AllC.nil
 | t::l,h=>by
  simp only [zrl,Bool.and_eq_true] at h;intro v q hm;obtain ⟨t',h1,h2⟩:=hm;rcases List.mem_cons.1 h1 with e | e
  ·subst e;exact ziG hΛ h.1 h2
  ·exact zkK hΛ h.2 v q ⟨t',e,h2⟩
theorem zoT {Λ:Link} (hΛ:zaz Λ) {T:List (Tr Ent)} (hT:AllT Λ T):∀{C:List (Nat×Ent)},za1 Λ.prog Λ.lib T C=true→∀f l,(f,l)∈C→AllC Λ f l
 | [],_,f,l,h=>by cases h
 | (g,l')::C,h,f,l,hm=>by
  simp only [za1,Bool.and_eq_true] at h;rcases List.mem_cons.1 hm with e | hm
  ·injection e with e1 e2
   subst e1;subst e2;exact zkK (zrh hΛ hT f) h.1
  ·exact zoT hΛ hT h.2 f l hm
theorem za3 {Λ:Link} {P:zQ} {L:Lib} (hΛ:zaz Λ) (hp:Λ.prog=P) (hl:Λ.lib=L) {T:List (Tr Ent)} (hT:AllT Λ T) {C:List (Nat×Ent)} (h:za1 P L T C=true) (i:Nat) {f:Nat} {l:Ent} (hi:C[i]? =some (f,l)):AllC Λ f l:=by
 subst hp;subst hl;exact zoT hΛ hT h f l (List.mem_of_getElem? hi)
theorem aN {α:Type} {p:Nat→α→Prop} {k:Nat} {v:α} {a b:Tr α} (h:p k v) (ha:a.All p) (hb:b.All p):Tr.All p (.n k v a b):=Tr.all_n h ha hb
theorem aL {α:Type} {p:Nat→α→Prop}:Tr.All p .l:=Tr.all_l
end VE
end
section
namespace VE
open Go
structure HD where
 n:Nat
 live:List (Nat×List Nat)
 out:List (Nat×List Nat)
 mode:List (Nat×Md)
 fz:List (Nat×List Nat)
 deriving Inhabited
def zog {α:Type} (i:Nat):List (Nat×α)→Option α
 | []=>none
 | (j,a)::l=>bif Nat.beq j i then some a else zog i l
def zEp (ren:Nat→Option Nat) (d:HD):zbY where
 n:=d.n
 ren:=ren
 live:=fun l=>match zog l d.live with | some x=>x | none=>[]
 out:=fun l=>zog l d.out
 mode:=fun k=>match zog k d.mode with | some x=>x | none=> .pure
 fz:=fun i=>match zog i d.fz with | some x=>x | none=>[]
def zr1 (ren:Tr Nat) (t:Tr HD) (i:Nat):zbY:=zEp ren.find (match t.find i with | some d=>d | none=>⟨0,[],[],[],[]⟩)
def zm3 (t:Tr Nat) (i:Nat):Nat:=match t.find i with | some f=>f | none=>0
def zoC (fid:Tr Nat):Tr Nat→Bool
 | .l=>true
 | .n f g a b=>Nat.beq (zm3 fid g) f&&(zoC fid a&&zoC fid b)
theorem zhj {fid:Tr Nat}:∀{t:Tr Nat},zoC fid t=true→t.All (fun f g=>zm3 fid g=f)
 | .l,_=>trivial
 | .n f g a b,h=>by
  simp only [zoC,Bool.and_eq_true] at h;exact ⟨Nat.eq_of_beq_eq_true h.1,zhj h.2.1,zhj h.2.2⟩
def zpW (P:Program) (fid:Tr Nat) (ren:Tr Nat) (hd:Tr HD) (i:Nat) (F:Fnc):Prop:=
 ∃fn,P.funcs[zm3 fid i]? =some fn∧zid P (zr1 ren hd i) fn=some F∧fn.name≠ "runtime.NumGoroutine"
theorem zta {P:Program} {fid ren:Tr Nat} {hd:Tr HD} {i:Nat} {F:Fnc} (h:(P.funcs[zm3 fid i]?).bind (zid P (zr1 ren hd i))=some F) (h2:(P.funcs[zm3 fid i]?).map (fun fn=>decide (fn.name= "runtime.NumGoroutine"))=some false):zpW P fid ren hd i F:=by
 unfold zpW
 cases hq:P.funcs[zm3 fid i]? with
 | none=>rw [hq] at h;cases h
 | some fn=>
  rw [hq] at h h2;refine ⟨fn,rfl,h,fun e=>?_⟩;simp only [Option.map_some,Option.some.injEq,e,decide_true] at h2;cases h2
end VE
end
