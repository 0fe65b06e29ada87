import Derived.Test.YtfohkkaphnfgoabGreatDoorProg
import Derived.KernelRfl
import Derived.Test.YtfohkkaphnfgoabGreatDoorTah
import Derived.Test.YtfohkkaphnfgoabGreatDoorTaa
import Derived.Test.YtfohkkaphnfgoabGreatDoorTae
set_option linter.all false
set_option maxRecDepth 100000
open Bool renaming and_eq_true→yf,false_eq_true→yC
open Go renaming FloatKind→vD,IntKind→yZ,Program→y9
open List renaming mem_cons→wg,mem_cons_of_mem→wv,mem_cons_self→vj
open Nat renaming beq→yt,blt→yI,eq_of_beq_eq_true→yk
open Option.some renaming injEq→yc
namespace VE
section
def Ci:aB:=⟨[.t 8],.g [qf 8] (.h [qm 9 2,qE 10 9 0] 10 (.aP [qm 11 3,av 12 269 11,qm 2 12]) (.h [qm 13 2,qN 14 13 0] 14 (.e [qm 15 0,Rq 16 (.bin .eql (.t 15) (.s [])),qm 17 16,Rt 18 17 (.m 1),Rt 19 17 (.m 2),Rt 20 17 (.z .eql 18 19),qq 21 17 20,qm 8 21]) (.e [qm 22 1,qE 23 22 0,qm 24 23,Rt 25 24 (.m 0),Rt 26 24 (.m 3),Rt 27 24 (.z .eql 25 26),qq 28 24 27,qm 8 28])))⟩
def MT:aB:=⟨[.t 2],.g [qk 2 0] (.e [qm 3 0,Rq 4 (.q 30 [.t 3,.k (-999999999),.k 999999999]),qm 2 4])⟩
def DS:VC:=.q (.g [qm 5 3,qm 6 0,qn 7 1 6,qT 8 5 7] (.cond (.t 8) .skip (.exit 0))) (.q (.aJ 1 (.g [qm 11 0,qm 12 3,qi 13 1 11 12,ql 14 1 13,av 15 263 14,qm 4 15] (.g [qm 16 4,qN 17 16 0] (.i 17 (.e [qm 18 4,qm 2 18]))))) (.aP [qm 9 3,qa 10 9 1,qm 3 10]))
def MU:aB:=⟨[.t 2],.g [qk 2 0] (.q (.g [qk 3 0] (.q (.aJ 0 (.loop [0,3] DS)) (.kp []))) (.e [qk 2 0]))⟩
def It:aB:=⟨[.t 2],.g [qk 2 0] (.h [qm 3 0,Rq 4 (.bin .eql (.t 3) (.s [48]))] 4 (.e [qk 2 0]) (.h [qm 5 0,qn 6 0 5,Rq 7 (.y .gtr 6 0),qm 8 7,Rt 9 8 (.m 0),Rt 10 8 (.j0 (.t 9) (.k 0)),Rt 11 8 (.bin .eql (.t 10) (.c (.int .u8 45))),qq 12 8 11] 12 (.e [qk 2 (-1)]) (.e [qk 2 1])))⟩
def df:aB:=⟨[.t 2],.g [qk 2 0] (.g [qm 8 0,qm 3 8] (.h [qm 9 3,qn 10 0 9,Rq 11 (.y .gtr 10 0),qm 12 11,Rt 13 12 (.m 3),Rt 14 12 (.j0 (.t 13) (.k 0)),Rt 15 12 (.bin .eql (.t 14) (.c (.int .u8 45))),qq 16 12 15] 16 (.aP [qm 17 3,Rq 18 (.dO .str (.t 17) (some (.k 1)) none),qm 3 18]) (.g [qm 19 3,av 20 272 19,qm 4 20] (.h [qm 21 3,qm 22 4,Rq 23 (.dO .str (.t 21) none (some (.t 22))),av 24 273 23,Rq 25 (.un .not (.t 24)),qm 26 25,Rf 27 26 (.m 0),Rf 28 26 (.j0 (.t 27) (.k 0)),Rf 29 26 (.bin .eql (.t 28) (.c (.int .u8 45))),Rf 30 26 (.m 29),Rt 31 30 (.m 3),Rt 32 30 (.m 4),Rt 33 30 (.dO .str (.t 31) none (some (.t 32))),Rt 34 30 (.bin .eql (.t 33) (.s [48])),Rf 35 26 (.pick (.t 30) (.t 34) (.c (.bool false))),qp 36 26 35] 36 (.e [qk 2 1]) (.h [qm 37 4,qm 38 3,qn 39 0 38,qT 40 37 39,qm 41 40,Rt 42 41 (.m 3),Rt 43 41 (.m 4),Rt 44 41 (.y .add 43 1),Rt 45 41 (.dO .str (.t 42) (some (.t 44)) none),Rt 46
 41 (.q 273 [.t 45]),Rt 47 41 (.un .not (.t 46)),Rt 48 41 (.m 47),Rf 49 48 (.m 3),Rf 50 48 (.m 4),Rf 51 48 (.y .add 50 1),Rf 52 48 (.dO .str (.t 49) (some (.t 51)) none),Rf 53 48 (.bin .eql (.t 52) (.s [48])),Rt 54 41 (.pick (.t 48) (.c (.bool true)) (.t 53)),Rt 55 41 (.m 54),Rf 56 55 (.m 3),Rf 57 55 (.m 4),Rf 58 55 (.y .add 57 1),Rf 59 55 (.dO .str (.t 56) (some (.t 58)) none),Rf 60 55 (.bin .eql (.t 59) (.s [49])),Rt 61 41 (.pick (.t 55) (.c (.bool true)) (.t 60)),qq 62 41 61] 62 (.e [qk 2 1]) (.h [qm 63 4,Rq 64 (.y .gtr 63 600),qm 65 64,Rf 66 65 (.m 3),Rf 67 65 (.len 0 (.t 66)),Rf 68 65 (.m 4),Rf 69 65 (.z .sub 67 68),Rf 70 65 (.y .sub 69 1),Rf 71 65 (.y .gtr 70 600),qp 72 65 71] 72 (.e [qk 2 4]) (.h [qm 73 4,qm 74 3,qn 75 0 74,qT 76 73 75] 76 (.g [qm 78 3,av 79 274 78,qm 77 79,qe 80 0 77,qe 81 1 77,Rq 5 (.box 2 (.c (.agg [.bool false,.ab]))),Rq 6 (.box 2 (.c (.agg [.bool false,.ab]))),qs
 2 5 80,qs 2 6 81] (.g [qo 82 1 5,ql 83 1 82,qo 84 1 6,ql 85 1 84,aM 86 275 83 85,qm 7 86] (.g [qm 87 7,qn 88 1 87,qN 89 88 1,qm 90 89,Rf 91 90 (.m 7),Rf 92 90 (.a8 1 (.t 91) (.k 0)),Rf 93 90 (.ld 1 false (.t 92)),Rf 94 90 (.y .neq 93 1),qp 95 90 94] (.i 95 (.e [qk 2 1]))))) (.e [qk 2 0]))))))))⟩
def Iu:aB:=⟨[.t 4],.g [Rq 4 (.bK (.s []))] (.g [qm 16 0,av 17 276 16,qm 15 17,qe 18 0 15,qe 19 1 15,qe 20 2 15,qm 5 18,qm 6 19,qm 7 20] (.g [qm 22 1,av 23 276 22,qm 21 23,qe 24 0 21,qe 25 1 21,qe 26 2 21,qm 8 24,qm 9 25,qm 10 26] (.h [qm 27 7,qm 28 27,Rt 29 28 (.m 10),qq 30 28 29] 30 (.e [qm 31 5,qm 32 9,Rq 33 (.z .mul 31 32),qm 34 8,qm 35 6,Rq 36 (.z .mul 34 35),qA 37 33 36,qm 38 6,qm 39 9,Rq 40 (.z .mul 38 39),aM 41 277 37 40,qm 4 41]) (.g [qm 43 0,av 44 274 43,qm 42 44,qe 45 0 42,qe 46 1 42,Rq 11 (.box 2 (.c (.agg [.bool false,.ab]))),Rq 12 (.box 2 (.c (.agg [.bool false,.ab]))),qs 2 11 45,qs 2 12 46] (.g [qm 48 1,av 49 274 48,qm 47 49,qe 50 0 47,qe 51 1 47,Rq 13 (.box 2 (.c (.agg [.bool false,.ab]))),Rq 14 (.box 2 (.c (.agg [.bool false,.ab]))),qs 2 13 50,qs 2 14 51] (.e [qL 52 2 11,qL 53 2 14,aM 54 278 52 53,qL 55 2 13,qL 56 2 12,aM 57 278 55 56,aM 58 279 54 57,qL 59 2 12,qL 60
 2 14,aM 61 278 59 60,aM 62 280 58 61,qm 4 62]))))))⟩
def Ew:aB:=⟨[.t 2],.g [Rq 2 (.bK (.s []))] (.e [qm 3 0,av 4 281 3,av 5 282 4,qm 2 5])⟩
def MV:aB:=⟨[.t 4],.g [Rq 4 (.bK (.s []))] (.e [qm 5 0,qm 6 1,av 7 283 6,aM 8 267 5 7,qm 4 8])⟩
def Iv:aB:=⟨[.t 4],.g [Rq 4 (.bK (.s []))] (.g [qm 16 0,av 17 276 16,qm 15 17,qe 18 0 15,qe 19 1 15,qe 20 2 15,qm 5 18,qm 6 19,qm 7 20] (.g [qm 22 1,av 23 276 22,qm 21 23,qe 24 0 21,qe 25 1 21,qe 26 2 21,qm 8 24,qm 9 25,qm 10 26] (.h [qm 27 7,qm 28 27,Rt 29 28 (.m 10),qq 30 28 29] 30 (.e [qm 31 5,qm 32 8,Rq 33 (.z .mul 31 32),qm 34 6,qm 35 9,Rq 36 (.z .mul 34 35),aM 37 277 33 36,qm 4 37]) (.g [qm 39 0,av 40 274 39,qm 38 40,qe 41 0 38,qe 42 1 38,Rq 11 (.box 2 (.c (.agg [.bool false,.ab]))),Rq 12 (.box 2 (.c (.agg [.bool false,.ab]))),qs 2 11 41,qs 2 12 42] (.g [qm 44 1,av 45 274 44,qm 43 45,qe 46 0 43,qe 47 1 43,Rq 13 (.box 2 (.c (.agg [.bool false,.ab]))),Rq 14 (.box 2 (.c (.agg [.bool false,.ab]))),qs 2 13 46,qs 2 14 47] (.e [qL 48 2 11,qL 49 2 13,aM 50 278 48 49,qL 51 2 12,qL 52 2 14,aM 53 278 51 52,aM 54 280 50 53,qm 4 54]))))))⟩
def Iw:aB:=⟨[.t 2],.g [Rq 2 (.bK (.s []))] (.h [qm 3 0,av 4 262 3,Rq 5 (.y .lss 4 0)] 5 (.e [qm 6 0,Rq 7 (.dO .str (.t 6) (some (.k 1)) none),qm 2 7]) (.h [qm 8 0,av 9 262 8,qE 10 9 0] 10 (.e [qm 11 0,qm 2 11]) (.e [qm 12 0,Rq 13 (.bin .add (.s [45]) (.t 12)),qm 2 13])))⟩
def Ix:aB:=⟨[.t 2],.g [qk 2 0] (.h [qm 3 0,av 4 284 3,av 5 285 4,qn 6 0 5,Rq 7 (.y .gtr 6 600),qm 8 7,Rf 9 8 (.m 0),Rf 10 8 (.q 286 [.t 9]),Rf 11 8 (.len 0 (.t 10)),Rf 12 8 (.y .gtr 11 600),qp 13 8 12] 13 (.e [qk 2 4]) (.e [qk 2 0]))⟩
def Sf:aB:=⟨[.t 4],.g [Rq 4 (.bK (.s []))] (.e [qm 5 0,qm 6 1,av 7 268 6,aM 8 264 5 7,qm 4 8])⟩
def DT:VC:=.q (.g [qm 4 3,qm 5 0,qn 6 0 5,qT 7 4 6] (.cond (.t 7) .skip (.exit 0))) (.q (.aJ 1 (.g [qm 10 0,qm 11 3,Rq 12 (.j0 (.t 10) (.t 11)),Rq 13 (.bin .eql (.t 12) (.c (.int .u8 47)))] (.i 13 (.e [qm 14 3,qm 2 14])))) (.aP [qm 8 3,qa 9 8 1,qm 3 9]))
def Iy:aB:=⟨[.t 2],.g [qk 2 0] (.q (.g [qk 3 0] (.q (.aJ 0 (.loop [0,3] DT)) (.kp [0]))) (.e [qm 15 0,qn 16 0 15,qm 2 16]))⟩
def Cj:aB:=⟨[.t 2],.g [qf 2] (.h [qm 3 0,qn 4 0 3,qE 5 4 0,qm 6 5,Rf 7 6 (.m 0),Rf 8 6 (.len 0 (.t 7)),Rf 9 6 (.y .gtr 8 1),Rf 10 6 (.m 9),Rt 11 10 (.m 0),Rt 12 10 (.j0 (.t 11) (.k 0)),Rt 13 10 (.bin .eql (.t 12) (.c (.int .u8 48))),Rf 14 6 (.pick (.t 10) (.t 13) (.c (.bool false))),qp 15 6 14] 15 (.e [qf 2]) (.e [qm 16 0,av 17 287 16,qm 2 17]))⟩
def MW:aB:=⟨[.cell 2 2 true,.cell 3 2 true],.g [Rq 2 (.box 2 (.c (.agg [.bool false,.ab]))),Rq 3 (.box 2 (.c (.agg [.bool false,.ab])))] (.g [qm 6 0,qm 4 6] (.g [qm 7 4,av 8 272 7,qm 5 8] (.h [qm 9 5,qm 10 4,qn 11 0 10,Rq 12 (.z .eql 9 11)] 12 (.e [qm 13 4,av 14 288 13,Rq 15 (.q 281 [.k 1]),qs 2 2 14,qs 2 3 15]) (.e [qm 16 4,qm 17 5,Rq 18 (.dO .str (.t 16) none (some (.t 17))),av 19 288 18,qm 20 4,qm 21 5,qa 22 21 1,Rq 23 (.dO .str (.t 20) (some (.t 22)) none),av 24 288 23,qs 2 2 19,qs 2 3 24]))))⟩
def Hy:VC:=.q (.g [qm 7 1,qn 8 1 7,Rq 9 (.y .gtr 8 0)] (.cond (.t 9) .skip (.exit 0))) (.aJ 1 (.g [qm 11 0,qm 12 1,aM 13 289 11 12,qm 10 13,qe 14 0 10,qe 15 1 10,qm 5 14,qm 6 15] (.aP [qm 16 1,qm 17 6,qm 0 16,qm 1 17])))
def MX:aB:=⟨[.t 4],.g [qz 4] (.q (.q (.aJ 0 (.loop [0,1] Hy)) (.kp [0])) (.e [qm 18 0,qm 4 18]))⟩
def nZ:aB:=⟨[.t 2,.t 3,.t 4],.g [qk 2 0,qk 3 0,qf 4] (.g [qm 10 0,qm 5 10] (.h [qm 11 5,qn 12 0 11,Rq 13 (.y .gtr 12 20)] 13 (.e [qk 2 0,qk 3 0,qf 4]) (.g [qm 14 5,qn 15 0 14,Rq 16 (.y .gtr 15 0),qm 17 16,Rt 18 17 (.m 5),Rt 19 17 (.j0 (.t 18) (.k 0)),Rt 20 17 (.bin .eql (.t 19) (.c (.int .u8 45))),qq 21 17 20,qm 6 21] (.h [qm 22 6] 22 (.aP [qm 23 5,Rq 24 (.dO .str (.t 23) (some (.k 1)) none),qm 5 24]) (.g [qm 25 5,av 26 272 25,qm 7 26] (.h [qm 27 7,Rq 28 (.y .gtr 27 9),qm 29 28,Rf 30 29 (.m 5),Rf 31 29 (.len 0 (.t 30)),Rf 32 29 (.m 7),Rf 33 29 (.z .sub 31 32),Rf 34 29 (.y .gtr 33 10),qp 35 29 34] 35 (.e [qk 2 0,qk 3 0,qf 4]) (.g [qm 36 5,qm 37 7,Rq 38 (.dO .str (.t 36) none (some (.t 37))),av 39 290 38,qm 8 39,qk 9 1] (.h [qm 40 7,qm 41 5,qn 42 0 41,qT 43 40 42] 43 (.aP [qm 44 5,qm 45 7,qa 46 45 1,Rq 47 (.dO .str (.t 44) (some (.t 46)) none),av 48 290 47,qm 9 48]) (.h [qm 49 6] 49 (.aP [qm
 50 8,Rq 51 (.bin .sub (.k 0) (.t 50)),qm 8 51]) (.e [qm 52 8,qm 53 9,qm 2 52,qm 3 53,Rq 4 (.bK (.c (.bool true)))]))))))))))⟩
def Cl:aB:=⟨[.t 4],.g [Rq 4 (.bK (.s []))] (.h [qm 7 0,Rq 8 (.y .lss 7 (-4000000000000000000)),qm 9 8,Rf 10 9 (.m 0),Rf 11 9 (.y .gtr 10 4000000000000000000),qp 12 9 11,qm 13 12,Rf 14 13 (.m 1),Rf 15 13 (.y .lss 14 (-4000000000000000000)),qp 16 13 15,qm 17 16,Rf 18 17 (.m 1),Rf 19 17 (.y .gtr 18 4000000000000000000),qp 20 17 19] 20 (.e [qm 21 0,av 22 281 21,qm 23 1,av 24 281 23,aM 25 280 22 24,qm 4 25]) (.h [qm 26 1,Rq 27 (.y .lss 26 0)] 27 (.aP [qm 28 0,Rq 29 (.bin .sub (.k 0) (.t 28)),qm 30 1,Rq 31 (.bin .sub (.k 0) (.t 30)),qm 0 29,qm 1 31]) (.g [qm 32 0,qm 33 0,Rq 34 (.bin .sub (.k 0) (.t 33)),Rq 35 (.mx [.t 32,.t 34]),qm 36 1,aM 37 291 35 36,qm 5 37] (.g [qm 38 0,qm 39 5,Rq 40 (.z .quo 38 39),qm 41 1,qm 42 5,Rq 43 (.z .quo 41 42),qm 0 40,qm 1 43] (.g [Rq 6 (.bK (.s []))] (.h [qm 44 0,Rq 45 (.y .lss 44 0)] 45 (.aP [Rq 6 (.bK (.s [45]))]) (.g [qm 46 6,qm 47 0,qm 48 0,Rq 49 (.bin .sub (.k
 0) (.t 48)),Rq 50 (.mx [.t 47,.t 49]),Rq 51 (.q 292 [.t 50,.k 1]),qA 52 46 51,qm 6 52] (.h [qm 53 1,Rq 54 (.y .gtr 53 1)] 54 (.aP [qm 55 6,Rq 56 (.bin .add (.t 55) (.s [47])),qm 57 1,Rq 58 (.q 292 [.t 57,.k 1]),qA 59 56 58,qm 6 59]) (.e [qm 60 6,qm 4 60])))))))))⟩
def MY:aB:=⟨[.cell 4 2 true],.g [qb 2 2 0,qb 3 2 1,Rq 4 (.box 2 (.c (.agg [.bool false,.ab])))] (.e [qo 5 0 2,ql 6 1 5,qo 7 0 3,ql 8 1 7,Rq 9 (.eq true .b (.t 6) (.t 8)),qo 10 1 2,ql 11 1 10,qo 12 1 3,ql 13 1 12,aM 14 293 11 13,aM 15 294 9 14,qs 2 4 15])⟩
def Ey:aB:=⟨[.cell 4 2 true],.g [qb 2 2 0,qb 3 2 1,Rq 4 (.box 2 (.c (.agg [.bool false,.ab])))] (.h [qo 5 0 2,ql 6 1 5,qo 7 0 3,ql 8 1 7,Rq 9 (.eq false .b (.t 6) (.t 8))] 9 (.e [qo 10 0 2,ql 11 1 10,qo 12 1 2,ql 13 1 12,qo 14 1 3,ql 15 1 14,aM 16 295 13 15,aM 17 294 11 16,qs 2 4 17]) (.h [qo 18 1 2,ql 19 1 18,qo 20 1 3,ql 21 1 20,aM 22 296 19 21,Rq 23 (.y .geq 22 0)] 23 (.e [qo 24 0 2,ql 25 1 24,qo 26 1 2,ql 27 1 26,qo 28 1 3,ql 29 1 28,aM 30 297 27 29,aM 31 294 25 30,qs 2 4 31]) (.e [qo 32 0 3,ql 33 1 32,qo 34 1 3,ql 35 1 34,qo 36 1 2,ql 37 1 36,aM 38 297 35 37,aM 39 294 33 38,qs 2 4 39])))⟩
def mN:aB:=⟨[.t 4],.g [qb 2 2 0,qb 3 2 1,Rq 4 (.bK (.s []))] (.h [qo 11 0 3,ql 12 1 11] 12 (.aP [qL 13 2 2,av 14 298 13,qL 15 2 3,av 16 298 15,qs 2 2 14,qs 2 3 16]) (.g [qo 17 1 2,ql 18 1 17,qo 19 1 3,ql 20 1 19,aM 21 275 18 20,qm 5 21] (.g [qo 23 1 2,ql 24 1 23,qm 25 5,aM 26 289 24 25,qm 22 26,qe 27 0 22,qe 28 1 22,qm 6 27,qm 7 28] (.g [qo 30 1 3,ql 31 1 30,qm 32 5,aM 33 289 31 32,qm 29 33,qe 34 0 29,qe 35 1 29,qm 8 34,qm 9 35] (.g [qo 36 0 2,ql 37 1 36,qm 38 6,aM 39 294 37 38,av 40 282 39,qm 10 40] (.h [qm 41 8,qn 42 1 41,qE 43 42 1,qm 44 43,Rt 45 44 (.m 8),Rt 46 44 (.a8 1 (.t 45) (.k 0)),Rt 47 44 (.ld 1 false (.t 46)),Rt 48 44 (.y .eql 47 1),qq 49 44 48] 49 (.e [qm 50 10,qm 4 50]) (.e [qm 51 10,Rq 52 (.bin .add (.t 51) (.s [47])),qm 53 8,Rq 54 (.q 294 [.c (.bool false),.t 53]),av 55 282 54,qA 56 52 55,qm 4 56])))))))⟩
def pT:VC:=.q (.g [qm 8 0,qN 9 8 0] (.cond (.t 9) .skip (.exit 0))) (.aJ 1 (.g [qm 10 0,Rq 11 (.y .rem 10 1000000000),qm 5 11] (.h [qm 12 5,Rq 13 (.y .lss 12 0)] 13 (.aP [qm 14 5,Rq 15 (.bin .sub (.k 0) (.t 14)),qm 5 15]) (.g [qm 16 3,qm 17 5,Rq 18 (.bH 1 1 [.i 0] [(0,1,.t 17)]),Rq 19 (.dl 1 8 (.t 16) (.t 18)),qm 3 19] (.aP [qm 20 0,Rq 21 (.y .quo 20 1000000000),qm 0 21])))))
def MZ:aB:=⟨[.cell 2 2 true],.g [Rq 2 (.box 2 (.c (.agg [.bool false,.ab])))] (.g [qz 3] (.g [qm 6 0,Rq 7 (.y .lss 6 0),qm 4 7] (.q (.q (.aJ 0 (.loop [0,2,3,4] pT)) (.kp [2,3,4])) (.e [qm 22 4,qm 23 3,aM 24 294 22 23,qs 2 2 24]))))⟩
def Hz:VC:=.q (.g [qm 22 4,Rq 23 (.y .geq 22 0)] (.cond (.t 23) .skip (.exit 0))) (.q (.aJ 1 (.aP [qm 26 3,qo 27 1 1,ql 28 1 27,qm 29 4,qi 30 1 28 29,ql 31 1 30,Rq 32 (.q 292 [.t 31,.k 9]),qA 33 26 32,qm 3 33])) (.aP [qm 24 4,Rq 25 (.y .sub 24 1),qm 4 25]))
def Iz:aB:=⟨[.t 2],.g [qb 1 2 0,Rq 2 (.bK (.s []))] (.h [qo 5 1 1,ql 6 1 5,qn 7 1 6,qE 8 7 0] 8 (.e [Rq 2 (.bK (.s [48]))]) (.g [qo 9 1 1,ql 10 1 9,qo 11 1 1,ql 12 1 11,qn 13 1 12,Rq 14 (.y .sub 13 1),qi 15 1 10 14,ql 16 1 15,Rq 17 (.q 292 [.t 16,.k 1]),qm 3 17] (.q (.g [qo 18 1 1,ql 19 1 18,qn 20 1 19,Rq 21 (.y .sub 20 2),qm 4 21] (.q (.aJ 0 (.loop [1,3,4] Hz)) (.kp [1,3]))) (.h [qo 34 0 1,ql 35 1 34] 35 (.e [qm 36 3,Rq 37 (.bin .add (.s [45]) (.t 36)),qm 2 37]) (.e [qm 38 3,qm 2 38])))))⟩
def IA:aB:=⟨[.t 2],.g [Rq 2 (.bK (.s []))] (.g [qm 6 0,av 7 274 6,qm 5 7,qe 8 0 5,qe 9 1 5,Rq 3 (.box 2 (.c (.agg [.bool false,.ab]))),Rq 4 (.box 2 (.c (.agg [.bool false,.ab]))),qs 2 3 8,qs 2 4 9] (.e [qL 10 2 4,qL 11 2 3,aM 12 280 10 11,qm 2 12]))⟩
def Sg:aB:=⟨[.t 2],.g [Rq 2 (.bK (.s []))] (.e [qm 3 0,qm 4 0,av 5 272 4,Rq 6 (.dO .str (.t 3) none (some (.t 5))),qm 2 6])⟩
def M0:aB:=⟨[.t 2],.g [Rq 2 (.bK (.s []))] (.h [qm 3 0,av 4 262 3,Rq 5 (.y .lss 4 0)] 5 (.e [qm 6 0,Rq 7 (.dO .str (.t 6) (some (.k 1)) none),qm 2 7]) (.e [qm 8 0,qm 2 8]))⟩
def M1:aB:=⟨[.t 2],.g [Rq 2 (.bK (.s []))] (.g [qm 4 0,av 5 272 4,qm 3 5] (.h [qm 6 3,qm 7 0,qn 8 0 7,Rq 9 (.z .eql 6 8)] 9 (.e [Rq 2 (.bK (.s [49]))]) (.e [qm 10 0,qm 11 3,qa 12 11 1,Rq 13 (.dO .str (.t 10) (some (.t 12)) none),qm 2 13])))⟩
def BM:VC:=.q (.g [qm 4 3,qm 5 0,qn 6 0 5,qT 7 4 6] (.cond (.t 7) .skip (.exit 0))) (.q (.aJ 1 (.g [qm 10 0,qm 11 3,Rq 12 (.j0 (.t 10) (.t 11)),Rq 13 (.bin .lss (.t 12) (.c (.int .u8 48))),qm 14 13,Rf 15 14 (.m 0),Rf 16 14 (.m 3),Rf 17 14 (.j0 (.t 15) (.t 16)),Rf 18 14 (.bin .gtr (.t 17) (.c (.int .u8 57))),qp 19 14 18] (.i 19 (.e [qf 2])))) (.aP [qm 8 3,qa 9 8 1,qm 3 9]))
def IB:aB:=⟨[.t 2],.g [qf 2] (.q (.g [qk 3 0] (.q (.aJ 0 (.loop [0,3] BM)) (.kp []))) (.e [Rq 2 (.bK (.c (.bool true)))]))⟩
def rV:VC:=.q (.g [qm 16 0,qn 17 0 16,Rq 18 (.y .gtr 17 9)] (.cond (.t 18) .skip (.exit 0))) (.aJ 1 (.g [qm 19 4,qm 20 0,qm 21 0,qn 22 0 21,Rq 23 (.y .sub 22 9),Rq 24 (.dO .str (.t 20) (some (.t 23)) none),av 25 290 24,Rq 26 (.bH 1 1 [.i 0] [(0,1,.t 25)]),Rq 27 (.dl 1 8 (.t 19) (.t 26)),qm 4 27] (.aP [qm 28 0,qm 29 0,qn 30 0 29,Rq 31 (.y .sub 30 9),Rq 32 (.dO .str (.t 28) none (some (.t 31))),qm 0 32])))
def M2:aB:=⟨[.cell 2 2 true],.g [Rq 2 (.box 2 (.c (.agg [.bool false,.ab])))] (.g [qm 5 0,qn 6 0 5,Rq 7 (.y .gtr 6 0),qm 8 7,Rt 9 8 (.m 0),Rt 10 8 (.j0 (.t 9) (.k 0)),Rt 11 8 (.bin .eql (.t 10) (.c (.int .u8 45))),qq 12 8 11,qm 3 12] (.h [qm 13 3] 13 (.aP [qm 14 0,Rq 15 (.dO .str (.t 14) (some (.k 1)) none),qm 0 15]) (.g [qz 4] (.q (.q (.aJ 0 (.loop [0,2,3,4] rV)) (.kp [0,2,3,4])) (.e [qm 33 3,qm 34 4,qm 35 0,av 36 290 35,Rq 37 (.bH 1 1 [.i 0] [(0,1,.t 36)]),Rq 38 (.dl 1 8 (.t 34) (.t 37)),aM 39 294 33 38,qs 2 2 39])))))⟩
def HA:VC:=.q (.g [qm 63 11,qn 64 1 63,qm 65 0,qn 66 1 65,qa 67 66 1,qT 68 64 67] (.cond (.t 68) .skip (.exit 0))) (.aJ 1 (.aP [qm 69 11,Rq 70 (.bH 1 1 [.i 0] [(0,1,.k 0)]),Rq 71 (.dl 1 8 (.t 69) (.t 70)),qm 11 71]))
def DU:VC:=.q (.g [qm 90 16,qm 91 10,qT 92 90 91] (.cond (.t 92) .skip (.exit 4))) (.q (.aJ 5 (.g [qm 95 14,qm 96 9,qm 97 16,qi 98 1 96 97,ql 99 1 98,Rq 100 (.z .mul 95 99),qm 101 15,qA 102 100 101,qm 17 102] (.g [qm 103 11,qm 104 16,qm 105 13,qA 106 104 105,qi 107 1 103 106,ql 108 1 107,qm 109 17,Rq 110 (.y .rem 109 1000000000),Rq 111 (.z .sub 108 110),qm 18 111] (.g [qm 112 17,Rq 113 (.y .quo 112 1000000000),qm 15 113] (.h [qm 114 18,Rq 115 (.y .lss 114 0)] 115 (.g [qm 116 18,qa 117 116 1000000000,qm 18 117] (.aP [qm 118 15,qa 119 118 1,qm 15 119])) (.aP [qm 120 11,qm 121 16,qm 122 13,qA 123 121 122,qm 124 18,qi 125 1 120 123,qs 1 125 124])))))) (.aP [qm 93 16,qa 94 93 1,qm 16 94]))
def HB:VC:=.q (.g [qm 148 20,qm 149 10,qT 150 148 149] (.cond (.t 150) .skip (.exit 6))) (.q (.aJ 7 (.g [qm 153 11,qm 154 20,qm 155 13,qA 156 154 155,qi 157 1 153 156,ql 158 1 157,qm 159 9,qm 160 20,qi 161 1 159 160,ql 162 1 161,qA 163 158 162,qm 164 19,qA 165 163 164,qm 21 165] (.g [qm 166 11,qm 167 20,qm 168 13,qA 169 167 168,qm 170 21,Rq 171 (.y .rem 170 1000000000),qi 172 1 166 169,qs 1 172 171] (.aP [qm 173 21,Rq 174 (.y .quo 173 1000000000),qm 19 174])))) (.aP [qm 151 20,qa 152 151 1,qm 20 152]))
def HC:VC:=.q (.g [qm 82 13,Rq 83 (.y .geq 82 0)] (.cond (.t 83) .skip (.exit 2))) (.q (.aJ 3 (.g [qm 86 11,qm 87 9,qm 88 13,Rq 89 (.call .heap (.F 301) [.t 86,.t 87,.t 88]),qm 14 89] (.g [qk 15 0] (.q (.g [qk 16 0] (.q (.aJ 4 (.loop [8,9,10,11,12,13,14,15,16] DU)) (.kp [8,9,10,11,12,13,14,15]))) (.g [qm 126 11,qm 127 13,qm 128 10,qA 129 127 128,qm 130 11,qm 131 13,qm 132 10,qA 133 131 132,qi 134 1 130 133,ql 135 1 134,qm 136 15,Rq 137 (.z .sub 135 136),qi 138 1 126 129,qs 1 138 137] (.h [qm 139 11,qm 140 13,qm 141 10,qA 142 140 141,qi 143 1 139 142,ql 144 1 143,Rq 145 (.y .lss 144 0)] 145 (.g [qm 146 14,Rq 147 (.y .sub 146 1),qm 14 147] (.g [qk 19 0] (.q (.g [qk 20 0] (.q (.aJ 6 (.loop [8,9,10,11,12,13,14,19,20] HB)) (.kp [8,9,10,11,12,13,14,19]))) (.aP [qm 175 11,qm 176 13,qm 177 10,qA 178 176 177,qm 179 11,qm 180 13,qm 181 10,qA 182 180 181,qi 183 1 179 182,ql 184 1 183,qm 185 19,qA 186
 184 185,qi 187 1 175 178,qs 1 187 186])))) (.aP [qm 188 12,qm 189 13,qm 190 14,qi 191 1 188 189,qs 1 191 190]))))))) (.aP [qm 84 13,Rq 85 (.y .sub 84 1),qm 13 85]))
def qj:aB:=⟨[.t 4,.t 5],.g [qz 4,qz 5] (.h [qm 24 0,qm 25 1,aM 26 296 24 25,Rq 27 (.y .lss 26 0)] 27 (.e [qm 28 0,qz 4,qm 5 28]) (.h [qm 29 1,qn 30 1 29,qE 31 30 1] 31 (.g [qm 33 0,qm 34 1,Rq 35 (.a8 1 (.t 34) (.k 0)),ql 36 1 35,aM 37 299 33 36,qm 32 37,qe 38 0 32,qe 39 1 32,qm 6 38,qm 7 39] (.e [qm 40 6,qm 41 7,Rq 42 (.bH 1 1 [.i 0] [(0,1,.t 41)]),av 43 300 42,qm 4 40,qm 5 43])) (.g [qm 44 1,qm 45 1,qn 46 1 45,Rq 47 (.y .sub 46 1),qi 48 1 44 47,ql 49 1 48,qa 50 49 1,Rq 51 (.bin .quo (.k 1000000000) (.t 50)),Rq 52 (.bH 1 1 [.i 0] [(0,1,.t 51)]),qm 8 52] (.g [qm 53 1,qm 54 8,aM 55 293 53 54,qm 9 55] (.g [qm 56 9,qn 57 1 56,qm 10 57] (.g [Rq 58 (.bH 0 1 [] []),qm 59 0,qm 60 8,aM 61 293 59 60,Rq 62 (.dl 1 8 (.t 58) (.t 61)),qm 11 62] (.q (.q (.aJ 0 (.loop [0,8,9,10,11] HA)) (.kp [8,9,10,11])) (.g [qm 72 11,qn 73 1 72,qm 74 10,Rq 75 (.z .sub 73 74),Rq 76 (.fZ 1 8 [.i 0] (.t 75) (.t 75)),qm
 12 76] (.q (.g [qm 77 11,qn 78 1 77,qm 79 10,Rq 80 (.z .sub 78 79),Rq 81 (.y .sub 80 1),qm 13 81] (.q (.aJ 2 (.loop [8,9,10,11,12,13] HC)) (.kp [8,10,11,12]))) (.g [qm 193 11,qm 194 10,Rq 195 (.dO (.sl 1) (.t 193) none (some (.t 194))),av 196 300 195,qm 197 8,Rq 198 (.a8 1 (.t 197) (.k 0)),ql 199 1 198,aM 200 299 196 199,qm 192 200,qe 201 0 192,qe 202 1 192,qm 22 201,qm 23 202] (.e [qm 203 12,av 204 300 203,qm 205 22,qm 4 204,qm 5 205])))))))))))⟩
def HE:VC:=.q (.g [qm 5 4,qm 6 0,qn 7 0 6,qT 8 5 7] (.cond (.t 8) .skip (.exit 0))) (.q (.aJ 1 (.aP [qm 11 3,Rq 12 (.bin .mul (.k 10) (.t 11)),qm 13 0,qm 14 4,Rq 15 (.j0 (.t 13) (.t 14)),Rq 16 (.cv (.toInt .i64) (.t 15)),qA 17 12 16,Rq 18 (.y .sub 17 48),qm 3 18])) (.aP [qm 9 4,qa 10 9 1,qm 4 10]))
def Ez:aB:=⟨[.t 2],.g [qk 2 0] (.g [qk 3 0] (.q (.g [qk 4 0] (.q (.aJ 0 (.loop [0,3,4] HE)) (.kp [3]))) (.e [qm 19 3,qm 2 19])))⟩
def HF:VC:=.q (.g [qm 5 1,Rq 6 (.y .gtr 5 0)] (.cond (.t 6) .skip (.exit 0))) (.aJ 1 (.aP [qm 7 1,qm 8 0,qm 9 1,Rq 10 (.z .rem 8 9),qm 0 7,qm 1 10]))
def IC:aB:=⟨[.t 4],.g [qk 4 0] (.q (.q (.aJ 0 (.loop [0,1] HF)) (.kp [0])) (.e [qm 11 0,qm 4 11]))⟩
def mG:VC:=.q (.g [qm 6 0,Rq 7 (.y .gtr 6 0),qm 8 7,Rf 9 8 (.m 5),Rf 10 8 (.len 0 (.t 9)),Rf 11 8 (.m 1),Rf 12 8 (.z .lss 10 11),qp 13 8 12] (.cond (.t 13) .skip (.exit 0))) (.aJ 1 (.g [qm 14 0,Rq 15 (.y .rem 14 10),qm 16 0,Rq 17 (.y .rem 16 10),qa 18 17 1,Rq 19 (.dO .str (.s [48,49,50,51,52,53,54,55,56,57]) (some (.t 15)) (some (.t 18))),qm 20 5,qA 21 19 20,qm 5 21] (.aP [qm 22 0,Rq 23 (.y .quo 22 10),qm 0 23])))
def sB:aB:=⟨[.t 4],.g [Rq 4 (.bK (.s []))] (.g [Rq 5 (.bK (.s []))] (.q (.q (.aJ 0 (.loop [0,1,5] mG)) (.kp [5])) (.e [qm 24 5,qm 4 24])))⟩
def HG:VC:=.q (.g [qm 22 8,qm 23 1,qn 24 1 23,qT 25 22 24] (.cond (.t 25) .skip (.exit 2))) (.q (.aJ 3 (.g [qm 28 5,qm 29 6,qm 30 8,qA 31 29 30,qi 32 1 28 31,ql 33 1 32,qm 34 0,qm 35 6,qi 36 1 34 35,ql 37 1 36,qm 38 1,qm 39 8,qi 40 1 38 39,ql 41 1 40,Rq 42 (.z .mul 37 41),qA 43 33 42,qm 44 7,qA 45 43 44,qm 9 45] (.g [qm 46 5,qm 47 6,qm 48 8,qA 49 47 48,qm 50 9,Rq 51 (.y .rem 50 1000000000),qi 52 1 46 49,qs 1 52 51] (.aP [qm 53 9,Rq 54 (.y .quo 53 1000000000),qm 7 54])))) (.aP [qm 26 8,qa 27 26 1,qm 8 27]))
def HH:VC:=.q (.g [qm 16 6,qm 17 0,qn 18 1 17,qT 19 16 18] (.cond (.t 19) .skip (.exit 0))) (.q (.aJ 1 (.g [qk 7 0] (.q (.g [qk 8 0] (.q (.aJ 2 (.loop [0,1,5,6,7,8] HG)) (.kp [0,1,5,6,7]))) (.aP [qm 55 5,qm 56 6,qm 57 1,qn 58 1 57,qA 59 56 58,qm 60 5,qm 61 6,qm 62 1,qn 63 1 62,qA 64 61 63,qi 65 1 60 64,ql 66 1 65,qm 67 7,qA 68 66 67,qi 69 1 55 59,qs 1 69 68])))) (.aP [qm 20 6,qa 21 20 1,qm 6 21]))
def Ao:aB:=⟨[.t 4],.g [qz 4] (.g [qm 10 0,qn 11 1 10,qm 12 1,qn 13 1 12,qA 14 11 13,Rq 15 (.fZ 1 8 [.i 0] (.t 14) (.t 14)),qm 5 15] (.q (.g [qk 6 0] (.q (.aJ 0 (.loop [0,1,5,6] HH)) (.kp [5]))) (.e [qm 70 5,av 71 300 70,qm 4 71])))⟩
def Ap:aB:=⟨[.cell 4 2 true],.g [Rq 4 (.box 2 (.c (.agg [.bool false,.ab])))] (.g [qm 5 1,av 6 300 5,qm 1 6] (.e [qm 7 0,qm 8 7,Rt 9 8 (.m 1),Rt 10 8 (.len 1 (.t 9)),Rt 11 8 (.y .gtr 10 0),qq 12 8 11,qm 13 1,Rq 14 (.dc [.bool false,.ab] [(0,1,.t 12),(1,1,.t 13)]),qs 2 4 14]))⟩
def nO:VC:=.q (.g [qm 9 7,qm 10 0,qn 11 1 10,qT 12 9 11,qm 13 12,Rf 14 13 (.m 7),Rf 15 13 (.m 1),Rf 16 13 (.len 1 (.t 15)),Rf 17 13 (.z .lss 14 16),qp 18 13 17,qm 19 18,Rf 20 19 (.m 6),Rf 21 19 (.y .gtr 20 0),qp 22 19 21] (.cond (.t 22) .skip (.exit 0))) (.q (.aJ 1 (.g [qm 25 0,qm 26 7,aM 27 302 25 26,qm 28 1,qm 29 7,aM 30 302 28 29,qA 31 27 30,qm 32 6,qA 33 31 32,qm 8 33] (.g [qm 34 5,qm 35 8,Rq 36 (.y .rem 35 1000000000),Rq 37 (.bH 1 1 [.i 0] [(0,1,.t 36)]),Rq 38 (.dl 1 8 (.t 34) (.t 37)),qm 5 38] (.aP [qm 39 8,Rq 40 (.y .quo 39 1000000000),qm 6 40])))) (.aP [qm 23 7,qa 24 23 1,qm 7 24]))
def ID:aB:=⟨[.t 4],.g [qz 4] (.g [qz 5] (.g [qk 6 0] (.q (.g [qk 7 0] (.q (.aJ 0 (.loop [0,1,5,6,7] nO)) (.kp [5]))) (.e [qm 41 5,qm 4 41]))))⟩
def BN:VC:=.q (.g [qm 19 5,Rq 20 (.y .geq 19 0)] (.cond (.t 20) .skip (.exit 0))) (.q (.aJ 1 (.h [qm 23 0,qm 24 5,qi 25 1 23 24,ql 26 1 25,qm 27 1,qm 28 5,qi 29 1 27 28,ql 30 1 29,qT 31 26 30] 31 (.e [qk 4 (-1)]) (.g [qm 32 0,qm 33 5,qi 34 1 32 33,ql 35 1 34,qm 36 1,qm 37 5,qi 38 1 36 37,ql 39 1 38,Rq 40 (.z .gtr 35 39)] (.i 40 (.e [qk 4 1]))))) (.aP [qm 21 5,Rq 22 (.y .sub 21 1),qm 5 22]))
def qt:aB:=⟨[.t 4],.g [qk 4 0] (.h [qm 6 0,qn 7 1 6,qm 8 1,qn 9 1 8,Rq 10 (.z .neq 7 9)] 10 (.h [qm 11 0,qn 12 1 11,qm 13 1,qn 14 1 13,qT 15 12 14] 15 (.e [qk 4 (-1)]) (.e [qk 4 1])) (.q (.g [qm 16 0,qn 17 1 16,Rq 18 (.y .sub 17 1),qm 5 18] (.q (.aJ 0 (.loop [0,1,5] BN)) (.kp []))) (.e [qk 4 0])))⟩
def pU:VC:=.q (.g [qm 9 7,qm 10 0,qn 11 1 10,qT 12 9 11] (.cond (.t 12) .skip (.exit 0))) (.q (.aJ 1 (.g [qm 15 0,qm 16 7,qi 17 1 15 16,ql 18 1 17,qm 19 1,qm 20 7,aM 21 302 19 20,Rq 22 (.z .sub 18 21),qm 23 6,Rq 24 (.z .sub 22 23),qm 8 24] (.g [qk 6 0] (.h [qm 25 8,Rq 26 (.y .lss 25 0)] 26 (.g [qm 27 8,qa 28 27 1000000000,qm 8 28] (.aP [qk 6 1])) (.aP [qm 29 5,qm 30 8,Rq 31 (.bH 1 1 [.i 0] [(0,1,.t 30)]),Rq 32 (.dl 1 8 (.t 29) (.t 31)),qm 5 32]))))) (.aP [qm 13 7,qa 14 13 1,qm 7 14]))
def IE:aB:=⟨[.t 4],.g [qz 4] (.g [qz 5] (.g [qk 6 0] (.q (.g [qk 7 0] (.q (.aJ 0 (.loop [0,1,5,6,7] pU)) (.kp [5]))) (.e [qm 33 5,av 34 300 33,qm 4 34]))))⟩
def M3:aB:=⟨[.cell 2 2 true],.g [qb 1 2 0,Rq 2 (.box 2 (.c (.agg [.bool false,.ab])))] (.e [qo 3 0 1,ql 4 1 3,Rq 5 (.un .not (.t 4)),qo 6 1 1,ql 7 1 6,aM 8 294 5 7,qs 2 2 8])⟩
def HI:VC:=.q (.g [qm 16 8,Rq 17 (.y .geq 16 0)] (.cond (.t 17) .skip (.exit 0))) (.q (.aJ 1 (.g [qm 20 7,Rq 21 (.y .mul 20 1000000000),qm 22 0,qm 23 8,qi 24 1 22 23,ql 25 1 24,qA 26 21 25,qm 9 26] (.g [qm 27 6,qm 28 8,qm 29 9,qm 30 1,Rq 31 (.z .quo 29 30),qi 32 1 27 28,qs 1 32 31] (.aP [qm 33 9,qm 34 1,Rq 35 (.z .rem 33 34),qm 7 35])))) (.aP [qm 18 8,Rq 19 (.y .sub 18 1),qm 8 19]))
def Aq:aB:=⟨[.t 4,.t 5],.g [qz 4,qk 5 0] (.g [qm 10 0,qn 11 1 10,Rq 12 (.fZ 1 8 [.i 0] (.t 11) (.t 11)),qm 6 12] (.g [qk 7 0] (.q (.g [qm 13 0,qn 14 1 13,Rq 15 (.y .sub 14 1),qm 8 15] (.q (.aJ 0 (.loop [0,1,6,7,8] HI)) (.kp [6,7]))) (.e [qm 36 6,av 37 300 36,qm 38 7,qm 4 37,qm 5 38]))))⟩
def BO:VC:=.q (.g [qm 3 0,qn 4 1 3,Rq 5 (.y .gtr 4 0),qm 6 5,Rt 7 6 (.m 0),Rt 8 6 (.m 0),Rt 9 6 (.len 1 (.t 8)),Rt 10 6 (.y .sub 9 1),Rt 11 6 (.a8 1 (.t 7) (.t 10)),Rt 12 6 (.ld 1 false (.t 11)),Rt 13 6 (.y .eql 12 0),qq 14 6 13] (.cond (.t 14) .skip (.exit 0))) (.aJ 1 (.aP [qm 15 0,qm 16 0,qn 17 1 16,Rq 18 (.y .sub 17 1),Rq 19 (.dO (.sl 1) (.t 15) none (some (.t 18))),qm 0 19]))
def kJ:aB:=⟨[.t 2],.g [qz 2] (.q (.q (.aJ 0 (.loop [0] BO)) (.kp [0])) (.e [qm 20 0,qm 2 20]))⟩
def zU:VC:=.q (.g [qm 42 9,Rq 43 (.y .geq 42 1000000000),qm 44 43,Rf 45 44 (.m 9),Rf 46 44 (.m 1),Rf 47 44 (.m 7),Rf 48 44 (.y .sub 47 2),Rf 49 44 (.a8 1 (.t 46) (.t 48)),Rf 50 44 (.ld 1 false (.t 49)),Rf 51 44 (.z .mul 45 50),Rf 52 44 (.m 10),Rf 53 44 (.y .mul 52 1000000000),Rf 54 44 (.m 0),Rf 55 44 (.m 2),Rf 56 44 (.m 7),Rf 57 44 (.z .add 55 56),Rf 58 44 (.y .sub 57 2),Rf 59 44 (.a8 1 (.t 54) (.t 58)),Rf 60 44 (.ld 1 false (.t 59)),Rf 61 44 (.z .add 53 60),Rf 62 44 (.z .gtr 51 61),qp 63 44 62] (.cond (.t 63) .skip (.exit 0))) (.aJ 1 (.g [qm 64 9,Rq 65 (.y .sub 64 1),qm 9 65] (.g [qm 66 10,qm 67 1,qm 68 7,Rq 69 (.y .sub 68 1),qi 70 1 67 69,ql 71 1 70,qA 72 66 71,qm 10 72] (.g [qm 73 10,Rq 74 (.y .geq 73 1000000000)] (.i 74 (.e [qm 75 9,qm 6 75]))))))
def sC:aB:=⟨[.t 6],.g [qk 6 0] (.g [qm 11 1,qn 12 1 11,qm 7 12] (.g [qm 13 0,qm 14 2,qm 15 7,qA 16 14 15,qi 17 1 13 16,ql 18 1 17,Rq 19 (.y .mul 18 1000000000),qm 20 0,qm 21 2,qm 22 7,qA 23 21 22,Rq 24 (.y .sub 23 1),qi 25 1 20 24,ql 26 1 25,qA 27 19 26,qm 8 27] (.g [qm 28 8,qm 29 1,qm 30 7,Rq 31 (.y .sub 30 1),qi 32 1 29 31,ql 33 1 32,Rq 34 (.z .quo 28 33),qm 35 8,qm 36 1,qm 37 7,Rq 38 (.y .sub 37 1),qi 39 1 36 38,ql 40 1 39,Rq 41 (.z .rem 35 40),qm 9 34,qm 10 41] (.q (.q (.aJ 0 (.loop [0,1,2,7,9,10] zU)) (.kp [9])) (.e [qm 76 9,qm 6 76])))))⟩
def qu:aB:=⟨[.t 4],.g [qk 4 0] (.h [qm 5 1,qm 6 0,qn 7 1 6,qT 8 5 7] 8 (.e [qm 9 0,qm 10 1,qi 11 1 9 10,ql 12 1 11,qm 4 12]) (.e [qk 4 0]))⟩
end
section
def Sh:aB:=⟨[.t 2],.g [qb 1 3 0,qf 2] (.e [qo 3 0 1,qo 4 0 3,ql 5 1 4,qo 6 0 1,qo 7 1 6,ql 8 1 7,qo 9 2 1,ql 10 1 9,Rq 11 (.bH 3 1 [.str [],.str [],.str []] [(0,1,.t 5),(1,1,.t 8),(2,1,.t 10)]),av 12 305 11,qm 2 12])⟩
def DV:VC:=.q (.g [qm 4 3,qm 5 0,qn 6 1 5,qT 7 4 6] (.cond (.t 7) .skip (.exit 0))) (.q (.aJ 1 (.g [qm 10 0,qm 11 3,qi 12 1 10 11,ql 13 1 12,qn 14 0 13,Rq 15 (.y .gtr 14 40)] (.i 15 (.e [qf 2])))) (.aP [qm 8 3,qa 9 8 1,qm 3 9]))
def Cm:aB:=⟨[.t 2],.g [qf 2] (.q (.g [qk 3 0] (.q (.aJ 0 (.loop [0,3] DV)) (.kp []))) (.e [Rq 2 (.bK (.c (.bool true)))]))⟩
def Si:aB:=⟨[.t 2],.g [qb 1 3 0,qk 2 0] (.e [qo 3 0 1,qL 4 2 3,av 5 308 4,qo 6 2 1,ql 7 1 6,av 8 307 7,Rq 9 (.bH 2 1 [.i 0,.i 0] [(0,1,.t 5),(1,1,.t 8)]),av 10 42 9,qm 2 10])⟩
def Sj:aB:=⟨[.t 2],.g [qk 2 0] (.e [qm 3 0,Rq 4 (.q 314 [.t 3,.k 0]),qm 2 4])⟩
def Sk:aB:=⟨[.t 2],.g [qb 1 2 0,qk 2 0] (.e [qo 3 0 1,ql 4 1 3,qo 5 1 1,ql 6 1 5,Rq 7 (.bH 2 1 [.str [],.str []] [(0,1,.t 4),(1,1,.t 6)]),av 8 261 7,qm 2 8])⟩
def EA:aB:=⟨[.t 4],.g [qb 2 3 0,qf 4] (.e [qo 5 2 2,ql 6 1 5,Rq 7 (.bin .eql (.t 6) (.s [48])),qm 8 7,Rf 9 8 (.m 1),Rf 10 8 (.off 2 (.t 2)),Rf 11 8 (.ld 1 false (.t 10)),Rf 12 8 (.q 315 [.t 9,.t 11]),Rf 13 8 (.y .lss 12 0),qp 14 8 13,qm 4 14])⟩
def M4:aB:=⟨[.cell 6 2 true],.g [qb 3 3 0,qb 5 2 2,Rq 6 (.box 2 (.c (.agg [.str [],.str []])))] (.g [Rq 7 (.bK (.s [49]))] (.h [qo 8 2 3,ql 9 1 8,Rq 10 (.bin .neq (.t 9) (.s [48]))] 10 (.aP [qm 11 1,qo 12 2 3,ql 13 1 12,aM 14 266 11 13,Rq 15 (.q 271 [.s [49],.t 14]),qm 7 15]) (.e [qm 16 7,qL 17 2 5,aM 18 317 16 17,qm 19 1,qo 20 0 3,qL 21 2 20,lU 22 318 18 19 21,qs 2 6 22])))⟩
def IF:aB:=⟨[.t 4],.g [qk 4 0] (.g [qm 6 0,av 7 263 6,qm 5 7] (.h [qm 8 5,qE 9 8 0,qm 10 9,Rt 11 10 (.m 0),Rt 12 10 (.q 262 [.t 11]),Rt 13 10 (.m 1),Rt 14 10 (.z .lss 12 13),qq 15 10 14] 15 (.aP [qk 5 3]) (.e [qm 16 5,qm 4 16])))⟩
def IG:aB:=⟨[.t 4],.g [qk 4 0] (.e [qm 5 0,qm 6 1,aM 7 271 5 6,av 8 262 7,qm 4 8])⟩
def DW:VC:=.q (.g [qm 4 3,qm 5 0,qn 6 1 5,qT 7 4 6] (.cond (.t 7) .skip (.exit 0))) (.q (.aJ 1 (.g [qm 10 0,qm 11 3,qi 12 1 10 11,ql 13 1 12,av 14 269 13,qN 15 14 0] (.i 15 (.e [qk 2 4])))) (.aP [qm 8 3,qa 9 8 1,qm 3 9]))
def EB:aB:=⟨[.t 2],.g [qk 2 0] (.q (.g [qk 3 0] (.q (.aJ 0 (.loop [0,3] DW)) (.kp []))) (.e [qk 2 0]))⟩
def Sl:aB:=⟨[.cell 4 2 true],.g [qb 3 2 1,Rq 4 (.box 2 (.c (.agg [.str [],.str []])))] (.e [Rq 5 (.dc [.str [],.str []] [(0,1,.s [48]),(1,1,.s [48])]),qm 6 0,qL 7 2 3,lU 8 318 5 6 7,qs 2 4 8])⟩
def Sm:aB:=⟨[.cell 6 2 true],.g [qb 3 2 0,qb 5 2 2,Rq 6 (.box 2 (.c (.agg [.str [],.str []])))] (.e [qo 7 0 3,ql 8 1 7,qm 9 1,qo 10 0 5,ql 11 1 10,aM 12 267 9 11,aM 13 264 8 12,qo 14 1 3,ql 15 1 14,qm 16 1,qo 17 1 5,ql 18 1 17,aM 19 267 16 18,aM 20 264 15 19,Rq 21 (.dc [.str [],.str []] [(0,1,.t 13),(1,1,.t 20)]),qs 2 6 21])⟩
def BP:VC:=.g [qT 8 7 6] (.q (.cond (.t 8) .skip (.exit 0)) (.q (.aJ 1 (.g [qm 9 7,qm 4 9] (.aP [qm 10 3,qm 11 0,qm 12 4,qi 13 8 11 12,qL 14 8 13,Rq 15 (.bH 1 8 [.ab,.str [],.str [],.str [],.str [],.str [],.str [],.str []] [(0,8,.t 14)]),Rq 16 (.dl 8 136 (.t 10) (.t 15)),qm 3 16]))) (.aP [qa 17 7 1,qm 7 17])))
def M5:aB:=⟨[.t 2],.g [qz 2] (.g [qz 3] (.q (.g [qm 5 0,qn 6 1 5,qk 7 0] (.q (.aJ 0 (.loop [0,3,6,7] BP)) (.kp [3]))) (.e [qm 18 3,qm 2 18])))⟩
def BQ:VC:=.q (.g [qm 19 5,qm 20 0,qn 21 1 20,qT 22 19 21] (.cond (.t 22) .skip (.exit 0))) (.q (.aJ 1 (.g [qm 25 0,qm 26 5,qi 27 8 25 26,qL 28 8 27,qm 29 1,aM 30 327 28 29,Rq 31 (.un .not (.t 30))] (.i 31 (.e [qf 4])))) (.aP [qm 23 5,qa 24 23 1,qm 5 24]))
def Cn:aB:=⟨[.t 4],.g [qf 4] (.h [qm 6 0,qn 7 1 6,Rq 8 (.y .gtr 7 3),qm 9 8,Rt 10 9 (.m 0),Rt 11 9 (.len 1 (.t 10)),Rt 12 9 (.y .leq 11 4),qq 13 9 12,qm 14 13,Rf 15 14 (.m 0),Rf 16 14 (.len 1 (.t 15)),Rf 17 14 (.y .gtr 16 6),qp 18 14 17] 18 (.e [qf 4]) (.q (.g [qk 5 0] (.q (.aJ 0 (.loop [0,1,5] BQ)) (.kp []))) (.e [Rq 4 (.bK (.c (.bool true)))])))⟩
def EC:aB:=⟨[.t 4],.g [qb 2 8 0,qf 4] (.e [qo 5 0 2,ql 6 1 5,qm 7 1,aM 8 2 6 7,qm 9 8,Rt 10 9 (.off 1 (.t 2)),Rt 11 9 (.ld 1 false (.t 10)),Rt 12 9 (.off 2 (.t 2)),Rt 13 9 (.ld 1 false (.t 12)),Rt 14 9 (.off 3 (.t 2)),Rt 15 9 (.ld 1 false (.t 14)),Rt 16 9 (.off 4 (.t 2)),Rt 17 9 (.off 0 (.t 16)),Rt 18 9 (.ld 1 false (.t 17)),Rt 19 9 (.off 4 (.t 2)),Rt 20 9 (.off 1 (.t 19)),Rt 21 9 (.ld 1 false (.t 20)),Rt 22 9 (.off 6 (.t 2)),Rt 23 9 (.off 0 (.t 22)),Rt 24 9 (.ld 1 false (.t 23)),Rt 25 9 (.off 6 (.t 2)),Rt 26 9 (.off 1 (.t 25)),Rt 27 9 (.ld 1 false (.t 26)),Rt 28 9 (.bH 7 1 [.str [],.str [],.str [],.str [],.str [],.str [],.str []] [(0,1,.t 11),(1,1,.t 13),(2,1,.t 15),(3,1,.t 18),(4,1,.t 21),(5,1,.t 24),(6,1,.t 27)]),Rt 29 9 (.q 305 [.t 28]),qq 30 9 29,qm 4 30])⟩
def DX:VC:=.q (.g [qm 8 3,qm 9 0,qn 10 1 9,qT 11 8 10] (.cond (.t 11) .skip (.exit 0))) (.q (.aJ 1 (.g [qm 14 0,qm 15 3,qi 16 8 14 15,qL 17 8 16,av 18 335 17,qm 4 18] (.g [qm 19 4,qN 20 19 0] (.i 20 (.e [qm 21 4,qm 2 21]))))) (.aP [qm 12 3,qa 13 12 1,qm 3 13]))
def II:aB:=⟨[.t 2],.g [qk 2 0] (.h [qm 5 0,qn 6 1 5,Rq 7 (.y .gtr 6 4)] 7 (.e [qk 2 5]) (.q (.g [qk 3 0] (.q (.aJ 0 (.loop [0,3] DX)) (.kp []))) (.e [qk 2 0])))⟩
def DY:VC:=.q (.g [qm 8 3,qm 9 0,qn 10 1 9,qT 11 8 10] (.cond (.t 11) .skip (.exit 0))) (.q (.aJ 1 (.g [qm 14 0,qm 15 3,qi 16 2 14 15,qL 17 2 16,av 18 308 17,qm 4 18] (.g [qm 19 4,qN 20 19 0] (.i 20 (.e [qm 21 4,qm 2 21]))))) (.aP [qm 12 3,qa 13 12 1,qm 3 13]))
def IJ:aB:=⟨[.t 2],.g [qk 2 0] (.h [qm 5 0,qn 6 1 5,Rq 7 (.y .gtr 6 256)] 7 (.e [qk 2 5]) (.q (.g [qk 3 0] (.q (.aJ 0 (.loop [0,3] DY)) (.kp []))) (.e [qk 2 0])))⟩
def M6:aB:=⟨[.cell 8 2 true],.g [qb 4 8 0,qb 5 3 1,qb 6 2 2,Rq 8 (.box 2 (.c (.agg [.str [],.str []])))] (.e [qo 9 2 4,ql 10 1 9,qL 11 3 5,qo 12 1 4,ql 13 1 12,qL 14 2 6,lU 15 311 11 13 14,aM 16 317 10 15,qo 17 4 4,qL 18 2 17,Rq 19 (.q 318 [.t 16,.s [49],.t 18]),qm 20 3,av 21 265 20,qo 22 6 4,qL 23 2 22,lU 24 318 19 21 23,qs 2 8 24])⟩
def Sn:aB:=⟨[.cell 4 12 true],.g [qb 3 2 1,Rq 4 (.box 12 (.c (.agg [.i 0,.i 0,.str [],.i 0,.i 0,.str [],.i 0,.i 0,.str [],.i 0,.i 0,.str []])))] (.g [qo 15 0 3,ql 16 1 15,av 17 336 16,qo 18 1 3,ql 19 1 18,av 20 336 19,qm 5 17,qm 6 20] (.g [qo 21 0 3,ql 22 1 21,qm 23 5,aM 24 271 22 23,qo 25 1 3,ql 26 1 25,qm 27 6,aM 28 271 26 27,qm 7 24,qm 8 28] (.g [qm 29 5,qm 30 0,aM 31 337 29 30,qm 32 6,qm 33 0,aM 34 337 32 33,qm 9 31,qm 10 34] (.g [qm 35 9,qa 36 35 1,qm 37 0,Rq 38 (.z .rem 36 37),qm 39 10,qa 40 39 1,qm 41 0,Rq 42 (.z .rem 40 41),qm 11 38,qm 12 42] (.g [qm 43 7,Rq 44 (.q 271 [.s [49],.t 43]),qm 45 8,Rq 46 (.q 271 [.s [49],.t 45]),qm 13 44,qm 14 46] (.e [qm 47 9,qm 48 10,qm 49 13,qm 50 14,aM 51 267 49 50,Rq 52 (.dc [.i 0,.i 0,.str []] [(0,1,.t 47),(1,1,.t 48),(2,1,.t 51)]),qm 53 11,qm 54 10,qm 55 7,qm 56 14,aM 57 267 55 56,Rq 58 (.dc [.i 0,.i 0,.str []] [(0,1,.t 53),(1,1,.t 54),(2,1,.t
 57)]),qm 59 9,qm 60 12,qm 61 13,qm 62 8,aM 63 267 61 62,Rq 64 (.dc [.i 0,.i 0,.str []] [(0,1,.t 59),(1,1,.t 60),(2,1,.t 63)]),qm 65 11,qm 66 12,qm 67 7,qm 68 8,aM 69 267 67 68,Rq 70 (.dc [.i 0,.i 0,.str []] [(0,1,.t 65),(1,1,.t 66),(2,1,.t 69)]),Rq 71 (.dc [.i 0,.i 0,.str [],.i 0,.i 0,.str [],.i 0,.i 0,.str [],.i 0,.i 0,.str []] [(0,3,.t 52),(3,3,.t 58),(6,3,.t 64),(9,3,.t 70)]),qs 12 4 71]))))))⟩
def IK:aB:=⟨[.t 2],.g [qb 1 8 0,qk 2 0] (.e [qo 3 0 1,ql 4 1 3,av 5 3 4,qo 6 1 1,ql 7 1 6,av 8 307 7,qo 9 2 1,ql 10 1 9,Rq 11 (.q 314 [.t 10,.k 1]),qo 12 3 1,ql 13 1 12,av 14 263 13,qo 15 4 1,qL 16 2 15,av 17 308 16,qo 18 6 1,qL 19 2 18,av 20 308 19,Rq 21 (.bH 6 1 [.i 0,.i 0,.i 0,.i 0,.i 0,.i 0] [(0,1,.t 5),(1,1,.t 8),(2,1,.t 11),(3,1,.t 14),(4,1,.t 17),(5,1,.t 20)]),av 22 42 21,qm 2 22])⟩
def ED:aB:=⟨[.t 2],.g [Rq 2 (.bK (.s []))] (.h [qm 5 0,av 6 338 5] 6 (.e [qm 7 0,qm 2 7]) (.g [qm 9 0,av 10 274 9,qm 8 10,qe 11 0 8,qe 12 1 8,Rq 3 (.box 2 (.c (.agg [.bool false,.ab]))),Rq 4 (.box 2 (.c (.agg [.bool false,.ab]))),qs 2 3 11,qs 2 4 12] (.e [qL 13 2 3,qL 14 2 4,aM 15 339 13 14,av 16 282 15,qm 2 16])))⟩
def M7:aB:=⟨[.t 4],.g [qk 4 0] (.g [qm 8 1,av 9 265 8,qm 5 9] (.g [qm 11 0,qm 12 5,qm 13 0,qm 14 5,aM 15 266 13 14,av 16 336 15,aM 17 267 12 16,aM 18 271 11 17,av 19 340 18,qm 10 19,qe 20 0 10,qe 21 1 10,qm 6 20,qm 7 21] (.e [qm 22 6,qm 4 22])))⟩
def As:aB:=⟨[.t 2],.g [qf 2] (.e [qm 3 0,av 4 272 3,qm 5 0,qn 6 0 5,Rq 7 (.z .eql 4 6),qm 2 7])⟩
def At:aB:=⟨[.cell 4 2 true],.g [qb 2 2 0,qb 3 2 1,Rq 4 (.box 2 (.c (.agg [.bool false,.ab])))] (.g [qo 8 1 2,ql 9 1 8,qo 10 1 3,ql 11 1 10,aM 12 289 9 11,qm 7 12,qe 13 0 7,qe 14 1 7,qm 5 13,qm 6 14] (.h [qo 15 0 2,ql 16 1 15,qm 17 16,Rt 18 17 (.m 6),Rt 19 17 (.len 1 (.t 18)),Rt 20 17 (.y .gtr 19 0),qq 21 17 20] 21 (.aP [qm 22 5,Rq 23 (.bH 1 1 [.i 0] [(0,1,.k 1)]),aM 24 295 22 23,qm 5 24]) (.e [qo 25 0 2,ql 26 1 25,qm 27 5,aM 28 294 26 27,qs 2 4 28])))⟩
def QN:VC:=.q (.g [qm 22 6,Rq 23 (.y .geq 22 0)] (.cond (.t 23) .skip (.exit 0))) (.q (.aJ 1 (.g [qo 26 1 4,ql 27 1 26,qm 28 6,qi 29 1 27 28,ql 30 1 29,qm 7 30] (.h [qo 31 0 4,ql 32 1 31] 32 (.aP [qm 33 7,Rq 34 (.bin .sub (.k 0) (.t 33)),qm 7 34]) (.h [qm 35 5,Rq 36 (.y .gtr 35 9223372036),qm 37 36,Rf 38 37 (.m 5),Rf 39 37 (.y .lss 38 (-9223372036)),qp 40 37 39,qm 41 40,Rf 42 41 (.m 5),Rf 43 41 (.y .eql 42 9223372036),Rf 44 41 (.m 43),Rt 45 44 (.m 7),Rt 46 44 (.y .gtr 45 854775807),Rf 47 41 (.pick (.t 44) (.t 46) (.c (.bool false))),qp 48 41 47,qm 49 48,Rf 50 49 (.m 5),Rf 51 49 (.y .eql 50 (-9223372036)),Rf 52 49 (.m 51),Rt 53 52 (.m 7),Rt 54 52 (.y .lss 53 (-854775808)),Rf 55 49 (.pick (.t 52) (.t 54) (.c (.bool false))),qp 56 49 55] 56 (.e [qk 2 0,qf 3]) (.aP [qm 57 5,Rq 58 (.y .mul 57 1000000000),qm 59 7,qA 60 58 59,qm 5 60]))))) (.aP [qm 24 6,Rq 25 (.y .sub 24 1),qm 6 25]))
def EE:aB:=⟨[.t 2,.t 3],.g [qk 2 0,qf 3] (.h [qm 8 0,av 9 338 8,Rq 10 (.un .not (.t 9)),qm 11 10,Rf 12 11 (.m 0),Rf 13 11 (.len 0 (.t 12)),Rf 14 11 (.y .gtr 13 20),qp 15 11 14] 15 (.e [qk 2 0,qf 3]) (.g [qm 16 0,av 17 288 16,Rq 4 (.box 2 (.c (.agg [.bool false,.ab]))),qs 2 4 17] (.g [qk 5 0] (.q (.g [qo 18 1 4,ql 19 1 18,qn 20 1 19,Rq 21 (.y .sub 20 1),qm 6 21] (.q (.aJ 0 (.loop [4,5,6] QN)) (.kp [5]))) (.e [qm 61 5,qm 2 61,Rq 3 (.bK (.c (.bool true)))])))))⟩
def Au:aB:=⟨[.t 8],.g [qf 8] (.h [qm 9 2,qE 10 9 0] 10 (.aP [qm 11 3,av 12 316 11,qm 2 12]) (.h [qm 13 2,qN 14 13 0] 14 (.e [qm 15 0,qn 16 1 15,qE 17 16 0,qm 18 17,Rt 19 18 (.m 1),Rt 20 18 (.m 2),Rt 21 18 (.z .eql 19 20),qq 22 18 21,qm 8 22]) (.e [qm 23 1,qE 24 23 0,qm 25 24,Rt 26 25 (.m 0),Rt 27 25 (.m 3),Rt 28 25 (.q 29 [.t 26,.t 27]),qq 29 25 28,qm 8 29])))⟩
def EF:aB:=⟨[.t 8,.t 9],.g [qb 4 1 0,qb 5 3 1,qb 7 1 3,qz 8,qk 9 0] (.q (.g [ql 11 1 4,av 12 76 11,qL 13 3 5,av 14 60 13,qm 15 2,av 16 78 15,ql 17 1 7,av 18 51 17,Rq 19 (.bH 4 1 [.i 0,.i 0,.i 0,.i 0] [(0,1,.t 12),(1,1,.t 14),(2,1,.t 16),(3,1,.t 18)]),av 20 33 19,qm 10 20] (.g [qm 21 10,qN 22 21 0] (.i 22 (.e [qm 23 10,qz 8,qm 9 23])))) (.e [qm 24 2,Rq 25 (.oc (.f 368) [] [.t 4,.t 5,.t 7]),aM 26 369 24 25,av 27 83 26,qe 28 0 27,qe 29 1 27,qm 8 28,qm 9 29]))⟩
def IL:aB:=⟨[.cell 5 4 true],.g [qb 4 2 0,Rq 5 (.box 4 (.c (.agg [.i 0,.ab,.i 0,.ab])))] (.e [ql 6 1 1,qL 7 3 2,qL 8 2 4,ql 9 1 3,oA 10 370 6 7 8 9,qs 4 5 10])⟩
def BR:VC:=.g [qT 11 10 9] (.q (.cond (.t 11) .skip (.exit 0)) (.q (.aJ 1 (.g [qi 12 2 8 10,qL 13 2 12,Rq 7 (.box 2 (.c (.agg [.str [],.str []]))),qs 2 7 13] (.aP [qm 14 5,qm 15 1,qL 16 2 7,Rq 17 (.call .pure (.t 15) [.t 16]),Rq 18 (.bH 1 4 [.i 0,.ab,.i 0,.ab] [(0,4,.t 17)]),Rq 19 (.dl 4 64 (.t 14) (.t 18)),qm 5 19]))) (.aP [qa 20 10 1,qm 10 20])))
def IM:aB:=⟨[.t 4],.g [qz 4] (.g [qz 5] (.q (.g [qm 8 0,qn 9 1 8,qk 10 0] (.q (.aJ 0 (.loop [1,5,8,9,10] BR)) (.kp [5]))) (.e [qm 21 5,qm 4 21])))⟩
def DZ:VC:=.g [qT 16 15 14] (.q (.cond (.t 16) .skip (.exit 0)) (.q (.aJ 1 (.g [qi 17 8 13 15,qL 18 8 17,Rq 11 (.box 8 (.c (.agg [.ab,.str [],.str [],.str [],.str [],.str [],.str [],.str []]))),qs 8 11 18] (.g [qL 19 3 5,qo 20 1 11,ql 21 1 20,av 22 62 21,aM 23 63 19 22] (.i 23 (.aP [qL 24 4 9,qL 25 8 11,qL 26 3 5,qL 27 2 6,qm 28 3,oA 29 67 25 26 27 28,aM 30 74 24 29,qs 4 9 30]))))) (.aP [qa 31 15 1,qm 15 31])))
def Co:aB:=⟨[.cell 8 4 true],.g [qb 5 3 1,qb 6 2 2,Rq 8 (.box 4 (.c (.agg [.i 0,.ab,.i 0,.ab])))] (.g [Rq 12 (.q 69 [.k 0]),Rq 9 (.box 4 (.c (.agg [.i 0,.ab,.i 0,.ab]))),qs 4 9 12] (.q (.g [qm 13 0,qn 14 1 13,qk 15 0] (.q (.aJ 0 (.loop [3,5,6,8,9,13,14,15] DZ)) (.kp [8,9]))) (.e [qL 32 4 9,qs 4 8 32])))⟩
def qv:aB:=⟨[.t 6],.g [qb 4 6 1,qf 6] (.g [qm 15 0,av 16 321 15,qo 17 0 4,qL 18 3 17,Rq 8 (.box 3 (.c (.agg [.str [],.str [],.str []]))),qm 7 16,qs 3 8 18] (.h [oz 19 1,Rq 20 (.un .not (.t 19)),qm 21 20,Rf 22 21 (.m 7),Rf 23 21 (.q 322 [.t 22,.k 5]),Rf 24 21 (.un .not (.t 23)),qp 25 21 24,qm 26 25,Rf 27 26 (.ld 3 true (.t 8)),Rf 28 26 (.q 304 [.t 27]),Rf 29 26 (.un .not (.t 28)),qp 30 26 29,qm 31 30,Rf 32 31 (.off 3 (.t 4)),Rf 33 31 (.off 0 (.t 32)),Rf 34 31 (.ld 1 false (.t 33)),Rf 35 31 (.off 3 (.t 4)),Rf 36 31 (.off 1 (.t 35)),Rf 37 31 (.ld 1 false (.t 36)),Rf 38 31 (.bH 2 1 [.str [],.str []] [(0,1,.t 34),(1,1,.t 37)]),Rf 39 31 (.q 305 [.t 38]),Rf 40 31 (.un .not (.t 39)),qp 41 31 40,qm 42 41,Rf 43 42 (.m 2),Rf 44 42 (.q 372 [.t 43,.k 6]),Rf 45 42 (.un .not (.t 44)),qp 46 42 45] 46 (.e [oz 47 1,qm 6 47]) (.g [qm 49 0,qo 50 0 4,qL 51 3 50,qo 52 3 4,qL 53 2 52,qo 54 5 4,ql 55 1 54,oA 56 373 49
 51 53 55,qm 48 56,qe 57 0 48,qe 58 1 48,qm 9 57,qm 10 58] (.g [qm 60 0,qo 61 0 4,qL 62 3 61,qm 63 2,qo 64 5 4,ql 65 1 64,oA 66 367 60 62 63 65,qm 59 66,qe 67 0 59,qe 68 1 59,qm 11 67,qm 12 68] (.g [qm 69 7,av 70 328 69,qL 71 3 8,av 72 306 71,Rq 73 (.bH 2 1 [.i 0,.i 0] [(0,1,.t 70),(1,1,.t 72)]),av 74 11 73,qm 13 74] (.g [qm 75 13,qo 76 3 4,qL 77 2 76,av 78 308 77,qo 79 5 4,ql 80 1 79,av 81 258 80,Rq 82 (.bH 3 1 [.i 0,.i 0,.i 0] [(0,1,.t 75),(1,1,.t 78),(2,1,.t 81)]),av 83 11 82,qm 14 83] (.h [qm 84 14,qN 85 84 0,qm 86 85,Rt 87 86 (.m 9),Rt 88 86 (.m 10),Rt 89 86 (.m 14),Rt 90 86 (.q 255 [.t 87,.t 88,.t 89,.s []]),Rt 91 86 (.un .not (.t 90)),qq 92 86 91,qm 93 92,Rf 94 93 (.m 14),Rf 95 93 (.y .eql 94 0),Rf 96 93 (.m 95),Rt 97 96 (.m 9),Rt 98 96 (.m 10),Rt 99 96 (.m 7),Rt 100 96 (.ld 3 true (.t 8)),Rt 101 96 (.off 3 (.t 4)),Rt 102 96 (.ld 2 true (.t 101)),Rt 103 96 (.off 5 (.t 4)),Rt
 104 96 (.ld 1 false (.t 103)),Rt 105 96 (.q 374 [.t 99,.t 100,.t 102,.t 104]),Rt 106 96 (.q 255 [.t 97,.t 98,.k 0,.t 105]),Rt 107 96 (.un .not (.t 106)),Rf 108 93 (.pick (.t 96) (.t 107) (.c (.bool false))),qp 109 93 108] 109 (.e [qf 6]) (.g [qm 110 13,qm 111 2,av 112 330 111,qo 113 5 4,ql 114 1 113,av 115 258 114,Rq 116 (.bH 3 1 [.i 0,.i 0,.i 0] [(0,1,.t 110),(1,1,.t 112),(2,1,.t 115)]),av 117 11 116,qm 13 117] (.h [qm 118 13,qN 119 118 0] 119 (.e [qm 120 11,qm 121 12,qm 122 13,Rq 123 (.q 345 [.t 120,.t 121,.t 122,.c .ab]),qm 6 123]) (.e [qm 124 11,qm 125 12,qm 126 7,qL 127 3 8,qm 128 2,qo 129 5 4,ql 130 1 129,oA 131 375 126 127 128 130,Rq 132 (.q 345 [.t 124,.t 125,.k 0,.t 131]),qm 6 132]))))))))))⟩
def BS:VC:=.q (.g [qm 20 5,qm 21 0,qn 22 1 21,qT 23 20 22] (.cond (.t 23) .skip (.exit 0))) (.q (.aJ 1 (.g [qm 26 0,qm 27 5,qi 28 2 26 27,qo 29 0 28,ql 30 1 29,qm 31 0,qm 32 5,qi 33 2 31 32,qo 34 1 33,ql 35 1 34,Rq 36 (.bH 2 1 [.str [],.str []] [(0,1,.t 30),(1,1,.t 35)]),av 37 305 36,Rq 38 (.un .not (.t 37))] (.i 38 (.e [qf 4])))) (.aP [qm 24 5,qa 25 24 1,qm 5 25]))
def Cp:aB:=⟨[.t 4],.g [qf 4] (.h [qm 6 0,qn 7 1 6,qm 8 1,Rq 9 (.z .gtr 7 8),qm 10 9,Rt 11 10 (.m 0),Rt 12 10 (.len 1 (.t 11)),Rt 13 10 (.y .leq 12 256),qq 14 10 13,qm 15 14,Rf 16 15 (.m 0),Rf 17 15 (.len 1 (.t 16)),Rf 18 15 (.y .gtr 17 258),qp 19 15 18] 19 (.e [qf 4]) (.q (.g [qk 5 0] (.q (.aJ 0 (.loop [0,5] BS)) (.kp []))) (.e [Rq 4 (.bK (.c (.bool true)))])))⟩
def IN:aB:=⟨[.t 8,.t 9],.g [qb 5 3 1,qb 6 2 2,Rq 8 (.bK (.s [])),qk 9 0] (.q (.g [qm 11 0,av 12 76 11,qL 13 3 5,av 14 60 13,qL 15 2 6,av 16 53 15,qm 17 3,av 18 51 17,Rq 19 (.bH 4 1 [.i 0,.i 0,.i 0,.i 0] [(0,1,.t 12),(1,1,.t 14),(2,1,.t 16),(3,1,.t 18)]),av 20 33 19,qm 10 20] (.g [qm 21 10,qN 22 21 0] (.i 22 (.e [qm 23 10,Rq 8 (.bK (.s [])),qm 9 23])))) (.e [qm 24 0,qL 25 3 5,qL 26 2 6,qm 27 3,oA 28 370 24 25 26 27,av 29 57 28,qe 30 0 29,qe 31 1 29,qm 8 30,qm 9 31]))⟩
def D0:VC:=.q (.g [qm 11 10,qm 12 0,qn 13 1 12,qT 14 11 13] (.cond (.t 14) .skip (.exit 0))) (.q (.aJ 1 (.g [qL 17 3 5,qm 18 0,qm 19 10,qi 20 8 18 19,qo 21 1 20,ql 22 1 21,aM 23 309 17 22] (.i 23 (.aP [qm 24 9,qm 25 0,qm 26 10,qi 27 8 25 26,qL 28 8 27,qL 29 3 5,qL 30 2 6,qm 31 3,oA 32 376 28 29 30 31,aM 33 264 24 32,qm 9 33])))) (.aP [qm 15 10,qa 16 15 1,qm 10 16]))
def IP:aB:=⟨[.t 8],.g [qb 5 3 1,qb 6 2 2,Rq 8 (.bK (.s []))] (.g [Rq 9 (.bK (.s [48]))] (.q (.g [qk 10 0] (.q (.aJ 0 (.loop [0,3,5,6,9,10] D0)) (.kp [9]))) (.e [qm 34 9,qm 8 34])))⟩
def BT:VC:=.q (.g [qm 11 10,qm 12 2,qn 13 1 12,qT 14 11 13] (.cond (.t 14) .skip (.exit 0))) (.q (.aJ 1 (.aP [qm 17 9,qm 18 0,qL 19 3 5,qm 20 2,qm 21 10,qi 22 2 20 21,qL 23 2 22,qm 24 3,oA 25 374 18 19 23 24,Rq 26 (.bH 1 1 [.str []] [(0,1,.t 25)]),Rq 27 (.dl 1 16 (.t 17) (.t 26)),qm 9 27])) (.aP [qm 15 10,qa 16 15 1,qm 10 16]))
def M8:aB:=⟨[.t 8],.g [qb 5 3 1,qz 8] (.g [qz 9] (.q (.g [qk 10 0] (.q (.aJ 0 (.loop [0,2,3,5,9,10] BT)) (.kp [9]))) (.e [qm 28 9,qm 8 28])))⟩
def So:aB:=⟨[.t 8],.g [qb 4 8 0,qb 5 3 1,qb 6 2 2,Rq 8 (.bK (.s []))] (.e [qo 9 3 4,ql 10 1 9,qo 11 0 4,ql 12 1 11,qL 13 8 4,qL 14 3 5,qL 15 2 6,qm 16 3,oA 17 333 13 14 15 16,aM 18 377 12 17,aM 19 267 10 18,qm 8 19])⟩
def HJ:VC:=.q (.g [qm 12 7,Rq 13 (.y .lss 12 4)] (.cond (.t 13) .skip (.exit 0))) (.q (.aJ 1 (.aP [qm 16 6,qm 17 7,Rq 18 (.sP 4 3 (.t 5) (.t 17)),qo 19 2 18,ql 20 1 19,qm 21 0,qm 22 7,Rq 23 (.sP 4 3 (.t 5) (.t 22)),qo 24 1 23,ql 25 1 24,qi 26 1 21 25,ql 27 1 26,qm 28 7,Rq 29 (.sP 4 3 (.t 5) (.t 28)),qo 30 0 29,ql 31 1 30,qi 32 1 27 31,ql 33 1 32,av 34 265 33,aM 35 267 20 34,aM 36 264 16 35,qm 6 36])) (.aP [qm 14 7,qa 15 14 1,qm 7 15]))
def Sr:aB:=⟨[.t 4],.g [qb 3 2 1,Rq 4 (.bK (.s []))] (.g [qm 8 0,qn 9 1 8,qL 10 2 3,aM 11 334 9 10,Rq 5 (.box 12 (.c (.agg [.i 0,.i 0,.str [],.i 0,.i 0,.str [],.i 0,.i 0,.str [],.i 0,.i 0,.str []]))),qs 12 5 11] (.g [Rq 6 (.bK (.s [48]))] (.q (.g [qk 7 0] (.q (.aJ 0 (.loop [0,5,6,7] HJ)) (.kp [6]))) (.e [qm 37 6,qm 4 37]))))⟩
end
section
inductive Tr (α:Type) where
 | l
 | n (k:Nat) (v:α) (a b:Tr α)
def Tr.find {α:Type}:Tr α->Nat->Option α
 | .l,_=>none
 | .n k v a b,i=>bif yt i k then some v else bif yI i k then a.find i else b.find i
end
section
open Go (IntKind FloatKind)
def Mb:yZ->Nat
 | .i8=>0 | .i16=>1 | .i32=>2 | .i64=>3 | .u8=>4 | .u16=>5 | .u32=>6 | .u64=>7
def UB:Int->Int->Bool
 | .ofNat a,.ofNat b=>yt a b
 | .negSucc a,.negSucc b=>yt a b
 | _,_=>false
def Of:Bool->Bool->Bool
 | true,true | false,false=>true
 | _,_=>false
def eqF:vD->vD->Bool
 | .f32,.f32 | .f64,.f64=>true
 | _,_=>false
mutual
def gl:AV->AV->Bool
 | .int k a,.int k' b=>yt (Mb k) (Mb k')&&UB a b
 | .bool a,.bool b=>Of a b
 | .dh k a,.dh k' b=>eqF k k'&&yt a b
 | .str a,.str b=>cE a b
 | .jU,.jU=>true
 | .aO a,.aO b=>lL a b
 | .ab,.ab=>true
 | .aH e n a,.aH e' n' b=>Of e e'&&(yt n n'&&lL a b)
 | .cp e s n a,.cp e' s' n' b=>Of e e'&&(yt s s'&&(yt n n'&&lL a b))
 | .fn (.f g) a b,.fn (.f g') a' b'=>yt g g'&&(lL a a'&&lL b b')
 | .ib,.ib=>true
 | .jz,.jz=>true
 | .jj a b,.jj a' b'=>lL a a'&&lL b b'
 | .agg a,.agg b=>lL a b
 | .aq a,.aq b=>lL a b
 | .undef,.undef=>true
 | _,_=>false
def lL:List AV->List AV->Bool
 | [],[]=>true
 | a::x,b::y=>gl a b&&lL x y
 | _,_=>false
end
def hI:Int->Nat
 | .ofNat n=>n
 | .negSucc n=>n+n
def hS:List Nat->Nat
 | []=>1
 | b::r=>(b+257*hS r)%65521
mutual
def hV:AV->Nat
 | .int _ n=>hI n
 | .bool b=>bif b then 1 else 2
 | .dh _ n=>n
 | .str s=>hS s
 | .aH _ n cs=>n+hL cs
 | .agg cs=>hL cs
 | .aq cs=>hL cs
 | _=>5
def hL:List AV->Nat
 | []=>7
 | v::r=>(hV v+263*hL r)%65521
end
abbrev Te:=Tr (List AV×AV)
abbrev aC:=List Te
def BU (h:Nat) (ak:List AV):aC->Option AV
 | []=>none
 | t::l=>match t.find h with
  | some (a,r)=>bif lL a ak then some r else BU h ak l
  | none=>BU h ak l
def abG (ak:List AV) (l:aC):Option AV:=BU (hL ak) ak l
abbrev Te.o (h:Nat) (a:List AV) (r:AV):Te:= .n h (a,r) .l .l
abbrev Te.m (h:Nat) (a:List AV) (r:AV) (x y:Te):Te:= .n h (a,r) x y
def BV (n:Nat):List (Tr aC)->Option aC
 | []=>none
 | t::r=>match t.find n with
  | none=>BV n r
  | some l=>match BV n r with | none=>some l | some m=>some (l++m)
def M9 (L:Lib) (T:List (Tr aC)) (ex:Nat):Lib:=
 ⟨fun i=>match L.pure i with
  | some sp=>some sp
  | none=>bif yt i ex then none else match BV i T with | some l=>some (fun ak=>abG ak l) | none=>none,L.heap⟩
def IQ (P:aI) (L:Lib) (f:Nat):Te->Bool
 | .l=>true
 | .n _ e x y=>(match TH P L 100000 f e.1 with | some r'=>gl r' e.2 | none=>false)&&(IQ P L f x&&IQ P L f y)
def Mc (P:aI) (L:Lib) (f:Nat):aC->Bool
 | []=>true
 | t::l=>IQ P L f t&&Mc P L f l
def iy (P:aI) (L:Lib) (T:List (Tr aC)):List (Nat×aC)->Bool
 | []=>true
 | (f,l)::C=>Mc P (M9 L T f) f l&&iy P L T C
end
section
open Go
def aim {a b:yZ} (h:yt (Mb a) (Mb b)=true):a=b:=by
 cases a<;>cases b<;>first | rfl | (exact absurd h (by decide))
def akj {a b:Int} (h:UB a b=true):a=b:=by
 cases a<;>cases b<;>simp only [UB,reduceCtorEq] at h<;>rw [yk h]
def P1 {a b:Bool} (h:Of a b=true):a=b:=by
 cases a<;>cases b<;>first | rfl | (exact absurd h (by decide))
def akk {a b:vD} (h:eqF a b=true):a=b:=by
 cases a<;>cases b<;>first | rfl | (exact absurd h (by decide))
mutual
def Yr:∀(a b:AV),gl a b=true->a=b
 | .int k a,b,h=>by
  cases b<;>simp only [gl,yf,yC] at h
  rw [aim h.1,akj h.2]
 | .bool a,b,h=>by
  cases b<;>simp only [gl,yC] at h
  rw [P1 h]
 | .dh k a,b,h=>by
  cases b<;>simp only [gl,yf,yC] at h
  rw [akk h.1,yk h.2]
 | .str a,b,h=>by
  cases b<;>simp only [gl,yC] at h
  rw [PW h]
 | .jU,b,h=>by cases b<;>simp only [gl,yC] at h;rfl
 | .ptr _ _,b,h=>by cases b<;>simp only [gl,yC] at h
 | .aO a,b,h=>by
  cases b<;>simp only [gl,yC] at h
  rw [oK _ _ h]
 | .ab,b,h=>by cases b<;>simp only [gl,yC] at h;rfl
 | .aH e n a,b,h=>by
  cases b<;>simp only [gl,yf,yC] at h
  rw [P1 h.1,yk h.2.1,oK _ _ h.2.2]
 | .cp e s n a,b,h=>by
  cases b<;>simp only [gl,yf,yC] at h
  rw [P1 h.1,yk h.2.1,yk h.2.2.1,oK _ _ h.2.2.2]
 | .aE _ _ _,b,h=>by cases b<;>simp only [gl,yC] at h
 | .fn (.f g) x y,b,h=>by
  cases b<;>try (simp only [gl,yC] at h;done)
  rename_i fr _ _;cases fr<;>simp only [gl,yf,yC] at h
  rw [yk h.1,oK _ _ h.2.1,oK _ _ h.2.2]
 | .fn (.y _) _ _,b,h=>by cases b<;>simp only [gl,yC] at h
 | .ib,b,h=>by cases b<;>simp only [gl,yC] at h;rfl
 | .jz,b,h=>by cases b<;>simp only [gl,yC] at h;rfl
 | .map _,b,h=>by cases b<;>simp only [gl,yC] at h
 | .jj x y,b,h=>by
  cases b<;>simp only [gl,yf,yC] at h
  rw [oK _ _ h.1,oK _ _ h.2]
 | .it _,b,h=>by cases b<;>simp only [gl,yC] at h
 | .agg a,b,h=>by
  cases b<;>simp only [gl,yC] at h
  rw [oK _ _ h]
 | .aq a,b,h=>by
  cases b<;>simp only [gl,yC] at h
  rw [oK _ _ h]
 | .undef,b,h=>by cases b<;>simp only [gl,yC] at h;rfl
def oK:∀(a b:List AV),lL a b=true->a=b
 | [],b,h=>by cases b<;>simp only [lL,yC] at h;rfl
 | x::a,b,h=>by
  cases b<;>simp only [lL,yf,yC] at h
  rw [Yr _ _ h.1,oK _ _ h.2]
end
def Tr.Has {α:Type} (x:α):Tr α->Prop
 | .l=>False
 | .n _ v a b=>v=x\/a.Has x\/b.Has x
def Tr.P2 {α:Type} {h:Nat} {x:α}:∀{t:Tr α},t.find h=some x->t.Has x
 | .l,hf=>by simp [Tr.find] at hf
 | .n k v a b,hf=>by
  simp only [Tr.find] at hf
  cases h1:yt h k with
  | true=>rw [h1] at hf;simp only [yy,yc] at hf;exact .inl hf
  | false=>
   rw [h1] at hf
   cases h2:yI h k with
   | true=>rw [h2] at hf;exact .inr (.inl (Tr.P2 hf))
   | false=>rw [h2] at hf;exact .inr (.inr (Tr.P2 hf))
def Og (ak:List AV) (r:AV) (l:aC):Prop:=∃t,t∈l/\t.Has (ak,r)
def WX {h:Nat} {ak:List AV} {r:AV}:∀{l:aC},BU h ak l=some r->Og ak r l
 | [],hf=>by simp [BU] at hf
 | t::l,hf=>by
  have tail:BU h ak l=some r->Og ak r (t::l):=fun q=>by
   obtain ⟨t',h1,h2⟩:=WX q;exact ⟨t',wv _ h1,h2⟩
  simp only [BU] at hf
  split at hf
  ·rename_i a q he
   cases hb:lL a ak with
   | true=>
    rw [hb] at hf;simp only [yy,yc] at hf;rw [oK _ _ hb,hf] at he;exact ⟨t,vj,Tr.P2 he⟩
   | false=>
    grind
  ·grind
def ain {ak:List AV} {r:AV} {l:aC} (h:abG ak l=some r):Og ak r l:=WX h
def jX (O:bq) (f:Nat) (l:aC):Prop:=∀ak r,Og ak r l->ez O f ak r
def jX.nil {O:bq} {f:Nat}:jX O f []:=fun _ _ h=>by obtain ⟨t,h,_⟩:=h;cases h
def jX.dl {O:bq} {f:Nat} {a b:aC} (ha:jX O f a) (hb:jX O f b):jX O f (a++b):=fun v r h=>by
 obtain ⟨t,h,h2⟩:=h;exact (List.mem_append.1 h).elim (fun h=>ha v r ⟨t,h,h2⟩) (fun h=>hb v r ⟨t,h,h2⟩)
def jX.one {O:bq} {f k:Nat} {ak:List AV} {r:AV} (h:ez O f ak r):jX O f [.n k (ak,r) .l .l]:=fun v q hm=>by
 obtain ⟨t,h1,h2⟩:=hm;rcases wg.1 h1 with e | e
 ·subst e;rcases h2 with h2 | h2 | h2
  ·grind
  ·exact h2.elim
  ·exact h2.elim
 ·cases e
def Tr.kS {α:Type} (p:Nat->α->Prop):Tr α->Prop
 | .l=>True
 | .n k v a b=>p k v/\a.kS p/\b.kS p
def Tr.je {α:Type} {p:Nat->α->Prop}:Tr.kS p .l:=trivial
def Tr.jP {α:Type} {p:Nat->α->Prop} {k:Nat} {v:α} {a b:Tr α} (h:p k v) (ha:a.kS p) (hb:b.kS p):Tr.kS p (.n k v a b):=⟨h,ha,hb⟩
def Tr.Bt {α:Type} {p:Nat->α->Prop} {i:Nat} {v:α}:∀{t:Tr α},t.kS p->t.find i=some v->p i v
 | .l,_,h=>by simp [Tr.find] at h
 | .n k w a b,ha,h=>by
  simp only [Tr.find] at h
  cases hb:yt i k with
  | true=>
   rw [hb] at h;simp only [yy,yc] at h;subst h;rw [yk hb];exact ha.1
  | false=>
   rw [hb] at h
   cases hc:yI i k with
   | true=>rw [hc] at h;exact Tr.Bt ha.2.1 h
   | false=>rw [hc] at h;exact Tr.Bt ha.2.2 h
abbrev bq.rO (O:bq) (L:Lib):bq:={O with aT:=L}
def Ys {O:bq} {L:Lib} {m:Mp} {S:Nat->Prop} {w:World} {id:Nat} {o:Obj}:fg (O.rO L) m S w id o↔fg O m S w id o:=by
 cases o<;>exact Iff.rfl
def Yt {O:bq} {L:Lib} {m:Mp} {S:Nat->Prop} {w:World} {hp:Hp} {ct:Nat}:aV (O.rO L) m S w hp ct↔aV O m S w hp ct:=
 ⟨fun h=>⟨fun id o p h1 h2=>Ys.1 (h.obj id o p h1 h2),h.lt,h.inj,h.slt,h.blt,h.low,h.kH,h.fF,h.a6⟩,
  fun h=>⟨fun id o p h1 h2=>Ys.2 (h.obj id o p h1 h2),h.lt,h.inj,h.slt,h.blt,h.low,h.kH,h.fF,h.a6⟩⟩
def XJ {O:bq} {L:Lib} {n:Nat} {hp:Hp} {ct:Nat} {ak:List AV} {v:AV} {an:Hp} {a7:Nat} (h:Aa O n hp ct ak v an a7):Aa (O.rO L) n hp ct ak v an a7:=by
 intro m S w args h1 h2;have post:∀e w',rF O m S w hp ct v an a7 e w'->rF (O.rO L) m S w hp ct v an a7 e w':=by
  rintro e w' ⟨u,m',S',k1,k2,k3,k4,k5⟩;exact ⟨u,m',S',k1,Yt.2 k2,k3,k4,k5⟩
 exact zM.mono (h m S w args (Yt.1 h1) h2) post
def et (O:bq) (T:List (Tr aC)):Prop:=∀t,t∈T->t.kS (jX O)
def et.nil {O:bq}:et O []:=fun _ h=>by cases h
def et.cons {O:bq} {t:Tr aC} {T:List (Tr aC)} (h:t.kS (jX O)) (hT:et O T):et O (t::T):=fun u hu=>by
 rcases wg.1 hu with e | e
 ·grind
 ·exact hT u e
def PD {O:bq} {n:Nat}:∀{T:List (Tr aC)} {l:aC},et O T->BV n T=some l->jX O n l
 | [],_,_,h=>by simp [BV] at h
 | t::T,l,hT,h=>by
  have hT':et O T:=fun u hu=>hT u (wv _ hu)
  simp only [BV] at h
  split at h
  ·exact PD hT' h
  ·rename_i l1 h1;have c1:=Tr.Bt (hT t vj) h1
   split at h
   ·grind
   ·rename_i m h2;simp only [yc] at h;subst h;exact jX.dl c1 (PD hT' h2)
def Zm {O:bq} (hO:ej O) {T:List (Tr aC)} (hT:et O T) (ex:Nat):ej (O.rO (M9 O.aT T ex)) where
 hint:=hO.hint
 mixed:=hO.mixed
 prog:=hO.prog
 aT n sp ak r h hs:=by
  simp only [M9] at h
  cases hl:O.aT.pure n with
  | some Oh=>
   simp only [hl,yc] at h;subst h;exact hO.aT n _ ak r hl hs
  | none=>
   simp only [hl] at h
   cases hb:yt n ex with
   | true=>rw [hb] at h;cases h
   | false=>
    rw [hb] at h;simp only [yM] at h
    cases hf:BV n T with
    | none=>simp [hf] at h
    | some l=>
     simp only [hf,yc] at h;subst h;exact PD hT hf ak r (ain hs)
 Ek n sp hp ct ak v an a7 h hs:=XJ (hO.Ek n sp hp ct ak v an a7 h hs)
def PE {O:bq} {L:Lib} (hO:ej (O.rO L)) {f:Nat} {ak:List AV} {r:AV}:∀{t:Te},IQ O.prog L f t=true->t.Has (ak,r)->ez O f ak r
 | .l,_,h=>h.elim
 | .n k e x y,h,hm=>by
  simp only [IQ,yf] at h;rcases hm with e1 | hm | hm
  ·subst e1;have h1:=h.1
   split at h1
   ·rename_i r' hr;have e:r'=r:=Yr _ _ h1;rw [<-e];exact sound hO hr
   ·cases h1
  ·exact PE hO h.2.1 hm
  ·exact PE hO h.2.2 hm
def WY {O:bq} {L:Lib} (hO:ej (O.rO L)) {f:Nat}:∀{l:aC},Mc O.prog L f l=true->jX O f l
 | [],_=>jX.nil
 | t::l,h=>by
  simp only [Mc,yf] at h;intro v q hm;obtain ⟨t',h1,h2⟩:=hm;rcases wg.1 h1 with e | e
  ·subst e;exact PE hO h.1 h2
  ·exact WY hO h.2 v q ⟨t',e,h2⟩
def chunk_ok {O:bq} (hO:ej O) {T:List (Tr aC)} (hT:et O T):∀{C:List (Nat×aC)},iy O.prog O.aT T C=true->∀f l,(f,l)∈C->jX O f l
 | [],_,f,l,h=>by cases h
 | (g,l')::C,h,f,l,hm=>by
  simp only [iy,yf] at h;rcases wg.1 hm with e | hm
  ·injection e with e1 e2
   subst e1;subst e2;exact WY (Zm hO hT f) h.1
  ·exact chunk_ok hO hT h.2 f l hm
def jH {O:bq} {P:aI} {L:Lib} (hO:ej O) (hp:O.prog=P) (hl:O.aT=L) {T:List (Tr aC)} (hT:et O T) {C:List (Nat×aC)} (h:iy P L T C=true) (i:Nat) {f:Nat} {l:aC} (hi:C[i]? =some (f,l)):jX O f l:=by
 subst hp;subst hl;exact chunk_ok hO hT h f l (List.mem_of_getElem? hi)
def aN {α:Type} {p:Nat->α->Prop} {k:Nat} {v:α} {a b:Tr α} (h:p k v) (ha:a.kS p) (hb:b.kS p):Tr.kS p (.n k v a b):=Tr.jP h ha hb
def aL {α:Type} {p:Nat->α->Prop}:Tr.kS p .l:=Tr.je
end
section
open Go
structure HD where
 n:Nat
 live:List (Nat×List Nat)
 out:List (Nat×List Nat)
 mode:List (Nat×Md)
 fz:List (Nat×List Nat)
 deriving Inhabited
def H4 {α:Type} (i:Nat):List (Nat×α)->Option α
 | []=>none
 | (j,a)::l=>bif yt j i then some a else H4 i l
def aox (cd:Nat->Option Nat) (d:HD):Hint where
 n:=d.n
 cd:=cd
 live:=fun l=>match H4 l d.live with | some x=>x | none=>[]
 out:=fun l=>H4 l d.out
 mode:=fun k=>match H4 k d.mode with | some x=>x | none=> .pure
 fz:=fun i=>match H4 i d.fz with | some x=>x | none=>[]
def Me (cd:Tr Nat) (t:Tr HD) (i:Nat):Hint:=aox cd.find (match t.find i with | some d=>d | none=>⟨0,[],[],[],[]⟩)
def sD (t:Tr Nat) (i:Nat):Nat:=match t.find i with | some f=>f | none=>0
def H5 (ah:Tr Nat):Tr Nat->Bool
 | .l=>true
 | .n f g a b=>yt (sD ah g) f&&(H5 ah a&&H5 ah b)
def Pj {ah:Tr Nat}:∀{t:Tr Nat},H5 ah t=true->t.kS (fun f g=>sD ah g=f)
 | .l,_=>trivial
 | .n f g a b,h=>by
  simp only [H5,yf] at h;exact ⟨yk h.1,Pj h.2.1,Pj h.2.2⟩
def QO (P:y9) (ah:Tr Nat) (cd:Tr Nat) (hd:Tr HD) (i:Nat) (F:aB):Prop:=
 ∃fn,P.funcs[sD ah i]? =some fn/\DL P (Me cd hd i) fn=some F/\fn.name≠ "runtime.NumGoroutine"
def aio {P:y9} {ah cd:Tr Nat} {hd:Tr HD} {i:Nat} {F:aB} (h:(P.funcs[sD ah i]?).bind (DL P (Me cd hd i))=some F) (h2:(P.funcs[sD ah i]?).map (fun fn=>decide (fn.name= "runtime.NumGoroutine"))=some false):QO P ah cd hd i F:=by
 unfold QO
 cases hq:P.funcs[sD ah i]? with
 | none=>rw [hq] at h;cases h
 | some fn=>
  rw [hq] at h h2;refine ⟨fn,rfl,h,fun e=>?_⟩;simp only [Option.map_some,yc,e,yo] at h2;cases h2
end
section
namespace qY
open Go
open Go.Proofs
def ah:Tr Nat:=(.n 132 215 (.n 70 96 (.n 38 82 (.n 22 32 (.n 14 22 (.n 4 62 (.n 2 119 (.n 1 5 .l .l) (.n 3 126 .l .l)) (.n 9 30 (.n 5 29 .l .l) (.n 11 12 .l .l))) (.n 18 26 (.n 16 23 (.n 15 24 .l .l) (.n 17 25 .l .l)) (.n 20 28 (.n 19 27 .l .l) (.n 21 31 .l .l)))) (.n 30 56 (.n 26 36 (.n 24 33 (.n 23 34 .l .l) (.n 25 35 .l .l)) (.n 28 38 (.n 27 37 .l .l) (.n 29 39 .l .l))) (.n 34 77 (.n 32 84 (.n 31 78 .l .l) (.n 33 41 .l .l)) (.n 36 80 (.n 35 79 .l .l) (.n 37 81 .l .l))))) (.n 55 72 (.n 47 66 (.n 42 52 (.n 40 75 (.n 39 83 .l .l) (.n 41 85 .l .l)) (.n 45 63 (.n 44 64 .l .l) (.n 46 65 .l .l))) (.n 51 45 (.n 49 69 (.n 48 67 .l .l) (.n 50 68 .l .l)) (.n 53 44 (.n 52 70 .l .l) (.n 54 73 .l .l)))) (.n 63 90 (.n 59 87 (.n 57 46 (.n 56 74 .l .l) (.n 58 76 .l .l)) (.n 61 88 (.n 60 43 .l .l) (.n 62 89 .l .l))) (.n 67 94 (.n 65 92 (.n 64 91 .l .l) (.n 66 93 .l .l)) (.n 69 97 (.n 68 95 .l .l) .l))))) (.n 101 145 (.n 86 110 (.n 78 48 (.n 74 102 (.n 72 99 (.n 71 98 .l .l) (.n 73 101 .l .l)) (.n 76 42 (.n 75 100 .l .l) (.n 77 103 .l .l))) (.n 82 107 (.n 80 105 (.n 79 104 .l .l) (.n 81 106 .l .l)) (.n 84 108 (.n 83 49 .l .l) (.n 85 109 .l .l)))) (.n 94 153 (.n 90 115 (.n 88 112 (.n 87 111 .l .l) (.n 89 113 .l .l)) (.n 92 116 (.n 91 117 .l .l) (.n 93 118 .l .l))) (.n 98 142 (.n 96 86 (.n 95 152 .l .l) (.n 97 71 .l .l)) (.n 100 146 (.n 99 143 .l .l) .l)))) (.n 117 163 (.n 109 156 (.n 105 150 (.n 103 148 (.n 102 144 .l .l) (.n 104 149 .l .l)) (.n 107 122 (.n 106 151 .l .l) (.n 108 155 .l .l))) (.n 113 160 (.n 111 157 (.n 110 158 .l .l) (.n 112 159 .l .l)) (.n 115 121 (.n 114 161 .l .l) (.n 116 162 .l .l)))) (.n 125 166 (.n 121 123 (.n 119 165 (.n 118 164 .l .l) (.n 120 120 .l .l)) (.n 123 125 (.n 122 124 .l .l) (.n 124 167 .l .l))) (.n 129 172 (.n 127 168 (.n 126 169 .l .l) (.n 128 171 .l .l)) (.n 131 114 (.n 130 173 .l .l) .l)))))) (.n 278 138 (.n 163 227 (.n 148 208 (.n 140 204 (.n 136 200 (.n 134 147 (.n 133 154 .l .l) (.n 135 199 .l .l)) (.n 138 202 (.n 137 201 .l .l) (.n 139 203 .l .l))) (.n 144 212 (.n 142 210 (.n 141 205 .l .l) (.n 143 209 .l .l)) (.n 146 207 (.n 145 211 .l .l) (.n 147 206 .l .l)))) (.n 156 221 (.n 152 217 (.n 150 214 (.n 149 213 .l .l) (.n 151 174 .l .l)) (.n 154 219 (.n 153 218 .l .l) (.n 155 220 .l .l))) (.n 160 175 (.n 158 223 (.n 157 222 .l .l) (.n 159 224 .l .l)) (.n 162 226 (.n 161 170 .l .l) .l)))) (.n 262 176 (.n 171 250 (.n 167 242 (.n 165 240 (.n 164 228 .l .l) (.n 166 241 .l .l)) (.n 169 244 (.n 168 243 .l .l) (.n 170 249 .l .l))) (.n 175 264 (.n 173 256 (.n 172 229 .l .l) (.n 174 276 .l .l)) (.n 258 16 (.n 255 17 .l .l) (.n 261 55 .l .l)))) (.n 271 180 (.n 266 238 (.n 264 59 (.n 263 128 .l .l) (.n 265 195 .l .l)) (.n 268 231 (.n 267 139 .l .l) (.n 269 57 .l .l))) (.n 275 179 (.n 273 178 (.n 272 177 .l .l) (.n 274 135 .l .l)) (.n 277 134 (.n 276 133 .l .l) .l))))) (.n 311 198 (.n 294 189 (.n 286 131 (.n 282 188 (.n 280 136 (.n 279 137 .l .l) (.n 281 182 .l .l)) (.n 284 130 (.n 283 268 .l .l) (.n 285 129 .l .l))) (.n 290 181 (.n 288 185 (.n 287 230 .l .l) (.n 289 187 .l .l)) (.n 292 184 (.n 291 183 .l .l) (.n 293 193 .l .l)))) (.n 302 235 (.n 298 186 (.n 296 191 (.n 295 190 .l .l) (.n 297 192 .l .l)) (.n 300 233 (.n 299 232 .l .l) (.n 301 234 .l .l))) (.n 307 54 (.n 305 8 (.n 304 7 .l .l) (.n 306 14 .l .l)) (.n 309 58 (.n 308 15 .l .l) .l)))) (.n 338 265 (.n 327 40 (.n 317 197 (.n 315 132 (.n 314 127 .l .l) (.n 316 61 .l .l)) (.n 321 4 (.n 318 196 .l .l) (.n 322 6 .l .l))) (.n 334 194 (.n 330 19 (.n 328 13 .l .l) (.n 333 141 .l .l)) (.n 336 236 (.n 335 53 .l .l) (.n 337 237 .l .l)))) (.n 371 3 (.n 367 11 (.n 340 267 (.n 339 266 .l .l) (.n 345 20 .l .l)) (.n 369 50 (.n 368 51 .l .l) (.n 370 47 .l .l))) (.n 375 21 (.n 373 10 (.n 372 9 .l .l) (.n 374 18 .l .l)) (.n 377 140 (.n 376 60 .l .l) .l)))))))
def cd:Tr Nat:=(.n 127 314 (.n 65 46 (.n 34 23 (.n 18 374 (.n 10 373 (.n 6 322 (.n 4 321 (.n 3 371 .l .l) (.n 5 1 .l .l)) (.n 8 305 (.n 7 304 .l .l) (.n 9 372 .l .l))) (.n 14 306 (.n 12 11 (.n 11 367 .l .l) (.n 13 328 .l .l)) (.n 16 258 (.n 15 308 .l .l) (.n 17 255 .l .l)))) (.n 26 18 (.n 22 14 (.n 20 345 (.n 19 330 .l .l) (.n 21 375 .l .l)) (.n 24 15 (.n 23 16 .l .l) (.n 25 17 .l .l))) (.n 30 9 (.n 28 20 (.n 27 19 .l .l) (.n 29 5 .l .l)) (.n 32 22 (.n 31 21 .l .l) (.n 33 24 .l .l))))) (.n 50 369 (.n 42 76 (.n 38 28 (.n 36 26 (.n 35 25 .l .l) (.n 37 27 .l .l)) (.n 40 327 (.n 39 29 .l .l) (.n 41 33 .l .l))) (.n 46 57 (.n 44 53 (.n 43 60 .l .l) (.n 45 51 .l .l)) (.n 48 78 (.n 47 370 .l .l) (.n 49 83 .l .l)))) (.n 58 309 (.n 54 307 (.n 52 42 (.n 51 368 .l .l) (.n 53 335 .l .l)) (.n 56 30 (.n 55 261 .l .l) (.n 57 269 .l .l))) (.n 62 4 (.n 60 376 (.n 59 264 .l .l) (.n 61 316 .l .l)) (.n 64 44 (.n 63 45 .l .l) .l))))) (.n 96 70 (.n 81 37 (.n 73 54 (.n 69 49 (.n 67 48 (.n 66 47 .l .l) (.n 68 50 .l .l)) (.n 71 97 (.n 70 52 .l .l) (.n 72 55 .l .l))) (.n 77 34 (.n 75 40 (.n 74 56 .l .l) (.n 76 58 .l .l)) (.n 79 35 (.n 78 31 .l .l) (.n 80 36 .l .l)))) (.n 89 62 (.n 85 41 (.n 83 39 (.n 82 38 .l .l) (.n 84 32 .l .l)) (.n 87 59 (.n 86 96 .l .l) (.n 88 61 .l .l))) (.n 93 66 (.n 91 64 (.n 90 63 .l .l) (.n 92 65 .l .l)) (.n 95 68 (.n 94 67 .l .l) .l)))) (.n 112 88 (.n 104 79 (.n 100 75 (.n 98 71 (.n 97 69 .l .l) (.n 99 72 .l .l)) (.n 102 74 (.n 101 73 .l .l) (.n 103 77 .l .l))) (.n 108 84 (.n 106 81 (.n 105 80 .l .l) (.n 107 82 .l .l)) (.n 110 86 (.n 109 85 .l .l) (.n 111 87 .l .l)))) (.n 120 120 (.n 116 92 (.n 114 131 (.n 113 89 .l .l) (.n 115 90 .l .l)) (.n 118 93 (.n 117 91 .l .l) (.n 119 2 .l .l))) (.n 124 122 (.n 122 107 (.n 121 115 .l .l) (.n 123 121 .l .l)) (.n 126 3 (.n 125 123 .l .l) .l)))))) (.n 189 294 (.n 158 110 (.n 143 99 (.n 135 274 (.n 131 286 (.n 129 285 (.n 128 263 .l .l) (.n 130 284 .l .l)) (.n 133 276 (.n 132 315 .l .l) (.n 134 277 .l .l))) (.n 139 267 (.n 137 279 (.n 136 280 .l .l) (.n 138 278 .l .l)) (.n 141 333 (.n 140 377 .l .l) (.n 142 98 .l .l)))) (.n 151 106 (.n 147 134 (.n 145 101 (.n 144 102 .l .l) (.n 146 100 .l .l)) (.n 149 104 (.n 148 103 .l .l) (.n 150 105 .l .l))) (.n 155 108 (.n 153 94 (.n 152 95 .l .l) (.n 154 133 .l .l)) (.n 157 111 (.n 156 109 .l .l) .l)))) (.n 174 151 (.n 166 125 (.n 162 116 (.n 160 113 (.n 159 112 .l .l) (.n 161 114 .l .l)) (.n 164 118 (.n 163 117 .l .l) (.n 165 119 .l .l))) (.n 170 161 (.n 168 127 (.n 167 124 .l .l) (.n 169 126 .l .l)) (.n 172 129 (.n 171 128 .l .l) (.n 173 130 .l .l)))) (.n 182 281 (.n 178 273 (.n 176 262 (.n 175 160 .l .l) (.n 177 272 .l .l)) (.n 180 271 (.n 179 275 .l .l) (.n 181 290 .l .l))) (.n 186 298 (.n 184 292 (.n 183 291 .l .l) (.n 185 288 .l .l)) (.n 188 282 (.n 187 289 .l .l) .l))))) (.n 221 156 (.n 205 141 (.n 197 317 (.n 193 293 (.n 191 296 (.n 190 295 .l .l) (.n 192 297 .l .l)) (.n 195 265 (.n 194 334 .l .l) (.n 196 318 .l .l))) (.n 201 137 (.n 199 135 (.n 198 311 .l .l) (.n 200 136 .l .l)) (.n 203 139 (.n 202 138 .l .l) (.n 204 140 .l .l)))) (.n 213 149 (.n 209 143 (.n 207 146 (.n 206 147 .l .l) (.n 208 148 .l .l)) (.n 211 145 (.n 210 142 .l .l) (.n 212 144 .l .l))) (.n 218 153 (.n 215 132 (.n 214 150 .l .l) (.n 217 152 .l .l)) (.n 220 155 (.n 219 154 .l .l) .l)))) (.n 238 266 (.n 230 287 (.n 226 162 (.n 223 158 (.n 222 157 .l .l) (.n 224 159 .l .l)) (.n 228 164 (.n 227 163 .l .l) (.n 229 172 .l .l))) (.n 234 301 (.n 232 299 (.n 231 268 .l .l) (.n 233 300 .l .l)) (.n 236 336 (.n 235 302 .l .l) (.n 237 337 .l .l)))) (.n 256 173 (.n 243 168 (.n 241 166 (.n 240 165 .l .l) (.n 242 167 .l .l)) (.n 249 170 (.n 244 169 .l .l) (.n 250 171 .l .l))) (.n 267 340 (.n 265 338 (.n 264 175 .l .l) (.n 266 339 .l .l)) (.n 276 174 (.n 268 283 .l .l) .l)))))))
def hd:Tr HD:=(.n 124 ⟨7,[],[],[],[]⟩ (.n 65 ⟨9,[],[],[],[]⟩ (.n 35 ⟨22,[(0,[1,5,8,9,10])],[(0,[5])],[],[]⟩ (.n 21 ⟨27,[(1,[0,1,5])],[(1,[])],[],[]⟩ (.n 14 ⟨8,[],[],[],[]⟩ (.n 4 ⟨15,[],[],[],[]⟩ (.n 2 ⟨32,[(1,[0,5])],[(1,[])],[],[]⟩ (.n 1 ⟨240,[],[],[],[]⟩ .l .l) (.n 3 ⟨40,[(2,[0,3]),(5,[0,3,4])],[(2,[]),(5,[0,3])],[],[]⟩ .l .l)) (.n 9 ⟨42,[],[],[],[]⟩ (.n 5 ⟨48,[],[],[(9,.heap)],[]⟩ .l .l) (.n 11 ⟨5,[],[],[],[]⟩ .l .l))) (.n 18 ⟨25,[],[],[],[]⟩ (.n 16 ⟨15,[],[],[],[]⟩ (.n 15 ⟨4,[],[],[],[]⟩ .l .l) (.n 17 ⟨26,[],[],[],[]⟩ .l .l)) (.n 20 ⟨24,[],[],[],[]⟩ (.n 19 ⟨26,[],[],[],[]⟩ .l .l) .l))) (.n 28 ⟨27,[(1,[0,1,5])],[(1,[])],[],[]⟩ (.n 25 ⟨67,[],[],[],[]⟩ (.n 23 ⟨5,[],[],[],[]⟩ (.n 22 ⟨36,[],[],[],[]⟩ .l .l) (.n 24 ⟨27,[],[],[],[]⟩ .l .l)) (.n 27 ⟨100,[(2,[1,5,9,10,46,47]),(4,[1,5,9,10,11,46,47,50,51,52])],[(2,[1,5,9,10]),(4,[1,5,9,10,46,47])],[],[]⟩ (.n 26 ⟨101,[(2,[0,2,3,11,12,69,70,71]),(4,[0,2,3,11,12,14,69,70,71,75,76,77])],[(2,[12]),(4,[0,2,3,11,12,69,70,71])],[],[(18,[17])]⟩ .l .l) .l)) (.n 32 ⟨32,[(0,[0,3,9,10,11])],[(0,[])],[],[]⟩ (.n 30 ⟨15,[],[],[],[]⟩ (.n 29 ⟨26,[(1,[0,1,5])],[(1,[])],[],[]⟩ .l .l) (.n 31 ⟨7,[],[],[],[]⟩ .l .l)) (.n 34 ⟨16,[],[],[],[]⟩ (.n 33 ⟨15,[(0,[5,6,7])],[(0,[])],[],[]⟩ .l .l) .l)))) (.n 51 ⟨5,[],[],[],[]⟩ (.n 44 ⟨13,[],[],[],[]⟩ (.n 39 ⟨38,[(0,[4,8,9,18,19,20])],[(0,[9])],[],[]⟩ (.n 37 ⟨21,[(0,[0,2,9,10,11])],[(0,[0])],[],[]⟩ (.n 36 ⟨5,[],[],[],[]⟩ .l .l) (.n 38 ⟨8,[],[],[],[]⟩ .l .l)) (.n 41 ⟨39,[],[],[],[]⟩ (.n 40 ⟨32,[],[],[(1,.dyn)],[]⟩ .l .l) (.n 42 ⟨19,[(0,[0,3])],[(0,[])],[],[]⟩ .l .l))) (.n 48 ⟨21,[],[],[],[]⟩ (.n 46 ⟨16,[],[],[],[]⟩ (.n 45 ⟨25,[],[],[],[]⟩ .l .l) (.n 47 ⟨13,[],[],[],[]⟩ .l .l)) (.n 50 ⟨9,[],[],[],[]⟩ (.n 49 ⟨16,[],[],[],[]⟩ .l .l) .l))) (.n 58 ⟨16,[],[],[],[]⟩ (.n 55 ⟨28,[],[],[],[]⟩ (.n 53 ⟨11,[],[],[],[]⟩ (.n 52 ⟨28,[],[],[],[]⟩ .l .l) (.n 54 ⟨10,[],[],[],[]⟩ .l .l)) (.n 57 ⟨8,[],[],[],[]⟩ (.n 56 ⟨41,[(0,[1,2,4,5,11,12])],[(0,[4,5])],[],[]⟩ .l .l) .l)) (.n 62 ⟨22,[],[],[],[]⟩ (.n 60 ⟨11,[],[],[],[]⟩ (.n 59 ⟨26,[(1,[0,1,5])],[(1,[])],[],[]⟩ .l .l) (.n 61 ⟨17,[],[],[],[]⟩ .l .l)) (.n 64 ⟨29,[],[],[],[]⟩ (.n 63 ⟨15,[],[],[],[]⟩ .l .l) .l))))) (.n 95 ⟨9,[],[],[],[]⟩ (.n 80 ⟨10,[],[],[],[]⟩ (.n 73 ⟨8,[],[],[],[]⟩ (.n 69 ⟨6,[],[],[],[]⟩ (.n 67 ⟨25,[],[],[],[]⟩ (.n 66 ⟨30,[],[],[],[]⟩ .l .l) (.n 68 ⟨8,[],[],[],[]⟩ .l .l)) (.n 71 ⟨16,[],[],[],[]⟩ (.n 70 ⟨9,[],[],[],[]⟩ .l .l) (.n 72 ⟨16,[],[],[],[]⟩ .l .l))) (.n 77 ⟨22,[(0,[1,5,8,9,10])],[(0,[5])],[],[]⟩ (.n 75 ⟨14,[],[],[],[]⟩ (.n 74 ⟨34,[],[],[],[]⟩ .l .l) (.n 76 ⟨9,[],[],[],[]⟩ .l .l)) (.n 79 ⟨22,[(0,[1,5,8,9,10])],[(0,[5])],[],[]⟩ (.n 78 ⟨9,[],[],[],[]⟩ .l .l) .l))) (.n 87 ⟨22,[(0,[1,5,8,9,10])],[(0,[5])],[],[]⟩ (.n 84 ⟨20,[],[],[],[]⟩ (.n 82 ⟨137,[(0,[3,4,6,7,11,12,32,33,34]),(3,[3,4,6,7,11,12,14,15,16,32,33,34,54,55]),(6,[3,4,6,7,11,12,14,15,32,33,34,89,90]),(9,[11,27,118,119])],[(0,[4,11]),(3,[3,4,6,7,11,12,14,15,32,33,34]),(6,[3,4,6,7,11,12,15,32,33,34]),(9,[27])],[],[]⟩ (.n 81 ⟨8,[],[],[],[]⟩ .l .l) (.n 83 ⟨8,[],[],[],[]⟩ .l .l)) (.n 86 ⟨76,[],[],[],[]⟩ (.n 85 ⟨22,[(0,[1,5,8,9,10])],[(0,[5])],[],[]⟩ .l .l) .l)) (.n 91 ⟨7,[],[],[],[]⟩ (.n 89 ⟨46,[(0,[0,1,4,11,12,13]),(2,[0,1,4,5,6,7,11,12,13,18,19,20])],[(0,[4]),(2,[0,1,4,7,11,12,13])],[],[(14,[7])]⟩ (.n 88 ⟨23,[(0,[3,9,10,11])],[(0,[3])],[],[]⟩ .l .l) (.n 90 ⟨143,[(0,[0,1,5,6,19,20]),(2,[5,6,49,50]),(4,[5,6,8,49,50,53,54]),(7,[5,6,8,9,10,11,49,50,53,54]),(9,[5,6,12,119,120])],[(0,[5,6]),(2,[5,6]),(4,[5,6,49,50]),(7,[5,6,8,49,50,53,54]),(9,[12])],[],[]⟩ .l .l)) (.n 94 ⟨13,[],[],[],[]⟩ (.n 92 ⟨22,[(0,[1,5,8,9,10])],[(0,[5])],[],[]⟩ .l .l) .l)))) (.n 110 ⟨41,[(0,[0,2,3,4])],[(0,[2,3,4])],[],[]⟩ (.n 102 ⟨9,[],[],[],[]⟩ (.n 99 ⟨69,[(1,[3,4,5,6]),(6,[6,10,11])],[(1,[3,6]),(6,[10])],[],[]⟩ (.n 97 ⟨20,[],[],[],[]⟩ (.n 96 ⟨4,[],[],[],[]⟩ .l .l) (.n 98 ⟨13,[],[],[],[]⟩ .l .l)) (.n 101 ⟨34,[],[],[],[]⟩ (.n 100 ⟨66,[],[],[],[]⟩ .l .l) .l)) (.n 106 ⟨21,[(0,[2,3,6,9,10,11])],[(0,[3,6])],[],[]⟩ (.n 104 ⟨32,[],[],[],[]⟩ (.n 103 ⟨34,[],[],[],[]⟩ .l .l) (.n 105 ⟨22,[],[],[],[]⟩ .l .l)) (.n 108 ⟨6,[],[],[],[]⟩ (.n 107 ⟨11,[],[],[],[]⟩ .l .l) .l))) (.n 117 ⟨5,[],[],[],[]⟩ (.n 114 ⟨10,[],[],[],[]⟩ (.n 112 ⟨16,[],[],[],[]⟩ (.n 111 ⟨6,[],[],[],[]⟩ .l .l) (.n 113 ⟨11,[],[],[],[]⟩ .l .l)) (.n 116 ⟨32,[],[],[],[]⟩ (.n 115 ⟨23,[],[],[],[]⟩ .l .l) .l)) (.n 121 ⟨22,[(0,[1,5,8,9,10])],[(0,[5])],[],[]⟩ (.n 119 ⟨67,[],[],[],[]⟩ (.n 118 ⟨29,[],[],[],[]⟩ .l .l) (.n 120 ⟨22,[(0,[1,5,8,9,10])],[(0,[5])],[],[]⟩ .l .l)) (.n 123 ⟨23,[(0,[3,9,10,11])],[(0,[3])],[],[]⟩ (.n 122 ⟨9,[],[],[],[]⟩ .l .l) .l)))))) (.n 283 ⟨13,[],[],[],[]⟩ (.n 164 ⟨84,[],[],[],[]⟩ (.n 146 ⟨7,[],[],[],[]⟩ (.n 133 ⟨20,[(0,[0,1,5,6]),(2,[0,1,3,5,6,9,10])],[(0,[]),(2,[0,1,5,6])],[(0,.heap)],[]⟩ (.n 129 ⟨19,[],[],[],[]⟩ (.n 126 ⟨24,[],[],[],[]⟩ (.n 125 ⟨15,[(0,[5,6,7])],[(0,[])],[],[]⟩ .l .l) (.n 127 ⟨21,[(0,[1,8,9,10])],[(0,[])],[],[]⟩ .l .l)) (.n 131 ⟨26,[(0,[0,1,4,5,9,10])],[(0,[4,5])],[],[]⟩ (.n 130 ⟨23,[(0,[2,3,4])],[(0,[2,4])],[],[]⟩ .l .l) (.n 132 ⟨19,[(0,[0,1,7,8])],[(0,[])],[],[]⟩ .l .l))) (.n 142 ⟨10,[],[],[],[]⟩ (.n 136 ⟨24,[],[],[],[]⟩ (.n 134 ⟨12,[],[],[],[]⟩ .l .l) (.n 137 ⟨137,[(2,[0,1,6,7,8]),(4,[9,10,11,12,13,14]),(6,[9,11,12,13,96,97])],[(2,[6,7]),(4,[9,11,12,13]),(6,[11,12,13])],[(5,.own),(7,.own),(8,.heap)],[]⟩ .l .l)) (.n 145 ⟨50,[],[],[],[]⟩ (.n 144 ⟨80,[(0,[1,5,20,21,22]),(2,[1,5,6,7,8,20,21,22,27,28,29])],[(0,[5]),(2,[1,5,6,8,20,21,22])],[],[]⟩ .l .l) .l))) (.n 156 ⟨9,[],[],[],[]⟩ (.n 150 ⟨9,[],[],[],[]⟩ (.n 148 ⟨21,[],[],[],[]⟩ (.n 147 ⟨26,[],[],[],[]⟩ .l .l) (.n 149 ⟨14,[],[],[],[]⟩ .l .l)) (.n 155 ⟨23,[(0,[1,2,4,5])],[(0,[4,5])],[],[]⟩ (.n 151 ⟨13,[],[],[],[]⟩ .l .l) .l)) (.n 160 ⟨19,[(0,[0,1,7,8])],[(0,[])],[],[]⟩ (.n 158 ⟨41,[(2,[0,1,5])],[(2,[])],[],[]⟩ (.n 157 ⟨54,[(1,[0,1,5,6,21,22])],[(1,[0,5,6])],[],[]⟩ .l .l) (.n 159 ⟨41,[(0,[0,1,5,6,13,14])],[(0,[5])],[],[]⟩ .l .l)) (.n 163 ⟨9,[],[],[],[]⟩ (.n 161 ⟨18,[(0,[6,7,8])],[(0,[])],[],[]⟩ .l .l) .l)))) (.n 268 ⟨14,[],[],[],[]⟩ (.n 261 ⟨19,[(0,[0,3])],[(0,[])],[],[]⟩ (.n 169 ⟨186,[(1,[0,1,5,6,7,8]),(4,[0,1,5,6,11,12,104,105]),(7,[0,1,5,6,17,156,157])],[(1,[0,1,5,6]),(4,[0,1,5,6,11,12]),(7,[0,5,6,17])],[],[]⟩ (.n 166 ⟨21,[(0,[0,3])],[(0,[0,3])],[],[]⟩ (.n 165 ⟨135,[(3,[2,8,9,10,11,13,14,15,16]),(6,[2,8,9,10,14,15,16,17,18])],[(3,[2,8,9,10,11,13,14,15]),(6,[2,8,14,15,17,18])],[],[]⟩ .l .l) (.n 168 ⟨40,[(0,[1,5,12,13,14])],[(0,[5])],[],[]⟩ .l .l)) (.n 255 ⟨29,[],[],[],[]⟩ (.n 172 ⟨25,[],[],[],[]⟩ .l .l) (.n 258 ⟨5,[],[],[],[]⟩ .l .l))) (.n 265 ⟨6,[],[],[],[]⟩ (.n 263 ⟨96,[],[],[],[]⟩ (.n 262 ⟨13,[],[],[],[]⟩ .l .l) (.n 264 ⟨63,[],[],[],[]⟩ .l .l)) (.n 267 ⟨55,[],[],[],[]⟩ (.n 266 ⟨9,[],[],[],[]⟩ .l .l) .l))) (.n 276 ⟨54,[],[],[],[]⟩ (.n 273 ⟨18,[],[],[],[]⟩ (.n 271 ⟨9,[],[],[],[]⟩ (.n 269 ⟨14,[],[],[],[]⟩ .l .l) (.n 272 ⟨17,[(0,[0,3])],[(0,[0])],[],[]⟩ .l .l)) (.n 275 ⟨19,[(0,[0,1])],[(0,[0])],[],[]⟩ (.n 274 ⟨25,[],[],[],[]⟩ .l .l) .l)) (.n 280 ⟨57,[],[],[],[]⟩ (.n 278 ⟨16,[],[],[],[]⟩ (.n 277 ⟨61,[],[],[],[]⟩ .l .l) (.n 279 ⟨40,[],[],[],[]⟩ .l .l)) (.n 282 ⟨39,[(1,[1,3,4])],[(1,[1,3])],[],[]⟩ (.n 281 ⟨25,[(0,[0,2,3,4])],[(0,[2,3,4])],[],[]⟩ .l .l) .l))))) (.n 316 ⟨16,[(0,[0,3])],[(0,[])],[],[]⟩ (.n 298 ⟨9,[],[],[],[]⟩ (.n 291 ⟨12,[(0,[0,1])],[(0,[0])],[],[]⟩ (.n 287 ⟨20,[(0,[0,3])],[(0,[])],[],[]⟩ (.n 285 ⟨9,[],[],[],[]⟩ (.n 284 ⟨7,[],[],[],[]⟩ .l .l) (.n 286 ⟨14,[],[],[],[]⟩ .l .l)) (.n 289 ⟨206,[(2,[0,8,9,10,11]),(4,[8,9,10,11,12,13]),(6,[8,9,10,11,12,13,14,15,16]),(10,[8,9,10,11,12,13,14,19,20])],[(2,[8,9,10,11]),(4,[8,10,11,12]),(6,[8,9,10,11,12,13,14,15]),(10,[8,9,10,11,12,13,14,19])],[(5,.heap)],[]⟩ (.n 288 ⟨40,[(1,[0,2,3,4])],[(1,[0,2,3,4])],[],[]⟩ .l .l) (.n 290 ⟨20,[(0,[0,3,4])],[(0,[3])],[],[]⟩ .l .l))) (.n 295 ⟨42,[(0,[0,1,5,6,7])],[(0,[5])],[],[]⟩ (.n 293 ⟨72,[(0,[0,1,5,6]),(2,[0,1,5,6,7,8])],[(0,[5]),(2,[0,1,5,6,7])],[],[]⟩ (.n 292 ⟨25,[(0,[0,1,5])],[(0,[5])],[],[]⟩ .l .l) (.n 294 ⟨15,[],[],[],[]⟩ .l .l)) (.n 297 ⟨35,[(0,[0,1,5,6,7])],[(0,[5])],[],[]⟩ (.n 296 ⟨41,[(2,[0,1,5])],[(2,[])],[],[]⟩ .l .l) .l))) (.n 306 ⟨11,[],[],[],[]⟩ (.n 302 ⟨13,[],[],[],[]⟩ (.n 300 ⟨21,[(0,[0])],[(0,[0])],[],[]⟩ (.n 299 ⟨39,[(0,[0,1,6,7,8])],[(0,[6,7])],[],[]⟩ .l .l) (.n 301 ⟨77,[(0,[0,1,2,7,9,10])],[(0,[9])],[],[]⟩ .l .l)) (.n 305 ⟨16,[(0,[0,3])],[(0,[])],[],[]⟩ (.n 304 ⟨13,[],[],[],[]⟩ .l .l) .l)) (.n 311 ⟨23,[],[],[],[]⟩ (.n 308 ⟨9,[],[],[],[]⟩ (.n 307 ⟨5,[],[],[],[]⟩ .l .l) (.n 309 ⟨15,[],[],[],[]⟩ .l .l)) (.n 315 ⟨9,[],[],[],[]⟩ (.n 314 ⟨17,[],[],[],[]⟩ .l .l) .l)))) (.n 339 ⟨29,[],[],[],[]⟩ (.n 330 ⟨22,[(1,[0,3])],[(1,[])],[],[]⟩ (.n 322 ⟨32,[(1,[0,1,5])],[(1,[])],[],[]⟩ (.n 318 ⟨22,[],[],[],[]⟩ (.n 317 ⟨9,[],[],[],[]⟩ .l .l) (.n 321 ⟨19,[(0,[0,3,6,7])],[(0,[3])],[],[]⟩ .l .l)) (.n 328 ⟨22,[(1,[0,3])],[(1,[])],[],[]⟩ (.n 327 ⟨31,[],[],[],[]⟩ .l .l) .l)) (.n 336 ⟨17,[],[],[],[]⟩ (.n 334 ⟨72,[],[],[],[]⟩ (.n 333 ⟨25,[],[],[],[]⟩ .l .l) (.n 335 ⟨23,[],[],[],[]⟩ .l .l)) (.n 338 ⟨8,[],[],[],[]⟩ (.n 337 ⟨23,[],[],[],[]⟩ .l .l) .l))) (.n 371 ⟨133,[],[],[],[]⟩ (.n 368 ⟨11,[],[],[],[]⟩ (.n 345 ⟨30,[],[],[],[]⟩ (.n 340 ⟨62,[(1,[4,5,6])],[(1,[5])],[],[]⟩ .l .l) (.n 367 ⟨30,[],[],[],[]⟩ .l .l)) (.n 370 ⟨33,[(0,[3,5,6,8,9,13,14,15])],[(0,[8,9])],[],[]⟩ (.n 369 ⟨22,[(0,[1,5,8,9,10])],[(0,[5])],[],[]⟩ .l .l) .l)) (.n 375 ⟨29,[(0,[0,2,3,5,9,10])],[(0,[9])],[],[]⟩ (.n 373 ⟨32,[],[],[],[]⟩ (.n 372 ⟨39,[(1,[0,5])],[(1,[])],[],[]⟩ .l .l) (.n 374 ⟨35,[(0,[0,3,5,6,9,10])],[(0,[9])],[],[]⟩ .l .l)) (.n 377 ⟨38,[(0,[0,5,6,7])],[(0,[6])],[],[]⟩ (.n 376 ⟨20,[],[],[],[]⟩ .l .l) .l)))))))
def aoy:H5 ah cd=true:=by decide+kernel
noncomputable def cc (i:Nat):aB:=match (Tryz.prog.funcs[sD ah i]?).bind (DL Tryz.prog (Me cd hd i)) with
 | some F=>F
 | none=>⟨[],.skip⟩
end qY
end
section
open qY (cc)
noncomputable def Rr:Tr aB:=(.n 124 Ep (.n 65 c65 (.n 35 (cc 35) (.n 21 (cc 21) (.n 14 (cc 14) (.n 4 c4 (.n 2 c2 (.n 1 c1 .l .l) (.n 3 c3 .l .l)) (.n 9 c9 (.n 5 c5 .l .l) (.n 11 hJ .l .l))) (.n 18 (cc 18) (.n 16 (cc 16) (.n 15 (cc 15) .l .l) (.n 17 (cc 17) .l .l)) (.n 20 c20 (.n 19 (cc 19) .l .l) .l))) (.n 28 (cc 28) (.n 25 (cc 25) (.n 23 (cc 23) (.n 22 (cc 22) .l .l) (.n 24 c24 .l .l)) (.n 27 (cc 27) (.n 26 (cc 26) .l .l) .l)) (.n 32 Uo (.n 30 qX (.n 29 JF .l .l) (.n 31 A0 .l .l)) (.n 34 CN (.n 33 JG .l .l) .l)))) (.n 51 N8 (.n 44 (cc 44) (.n 39 (cc 39) (.n 37 (cc 37) (.n 36 (cc 36) .l .l) (.n 38 (cc 38) .l .l)) (.n 41 c41 (.n 40 c40 .l .l) (.n 42 JH .l .l))) (.n 48 (cc 48) (.n 46 N7 (.n 45 (cc 45) .l .l) (.n 47 (cc 47) .l .l)) (.n 50 Up (.n 49 c49 .l .l) .l))) (.n 58 c58 (.n 55 N9 (.n 53 Uq (.n 52 (cc 52) .l .l) (.n 54 Ur .l .l)) (.n 57 Oa (.n 56 Us .l .l) .l)) (.n 62 Ob (.n 60 Ut (.n 59 (cc 59) .l .l) (.n 61 JI .l .l)) (.n 64 Oc (.n 63 JJ .l .l) .l))))) (.n 95 Od (.n 80 (cc 80) (.n 73 Uz (.n 69 Uw (.n 67 Uu (.n 66 c66 .l .l) (.n 68 Uv .l .l)) (.n 71 Uy (.n 70 Ux .l .l) (.n 72 (cc 72) .l .l))) (.n 77 (cc 77) (.n 75 UA (.n 74 JK .l .l) (.n 76 JL .l .l)) (.n 79 (cc 79) (.n 78 JM .l .l) .l))) (.n 87 (cc 87) (.n 84 (cc 84) (.n 82 (cc 82) (.n 81 (cc 81) .l .l) (.n 83 JN .l .l)) (.n 86 eR (.n 85 (cc 85) .l .l) .l)) (.n 91 (cc 91) (.n 89 (cc 89) (.n 88 (cc 88) .l .l) (.n 90 (cc 90) .l .l)) (.n 94 E5 (.n 92 (cc 92) .l .l) .l)))) (.n 110 MH (.n 102 R5 (.n 99 CO (.n 97 c97 (.n 96 c96 .l .l) (.n 98 Oe .l .l)) (.n 101 ml (.n 100 lJ .l .l) .l)) (.n 106 MF (.n 104 MD (.n 103 Ih .l .l) (.n 105 ME .l .l)) (.n 108 R6 (.n 107 MG .l .l) .l))) (.n 117 MJ (.n 114 adn (.n 112 R8 (.n 111 R7 .l .l) (.n 113 adm .l .l)) (.n 116 MI (.n 115 R9 .l .l) .l)) (.n 121 Ij (.n 119 c119 (.n 118 Ch .l .l) (.n 120 Ii .l .l)) (.n 123 Il (.n 122 Ik .l .l) .l)))))) (.n 283 IA (.n 164 lK (.n 146 Sb (.n 133 ado (.n 129 Er (.n 126 (cc 126) (.n 125 MK .l .l) (.n 127 (cc 127) .l .l)) (.n 131 (cc 131) (.n 130 Sa .l .l) (.n 132 Im .l .l))) (.n 142 ML (.n 136 Io (.n 134 Es .l .l) (.n 137 Ip .l .l)) (.n 145 sA (.n 144 MM .l .l) .l))) (.n 156 Se (.n 150 Et (.n 148 Sc (.n 147 Iq .l .l) (.n 149 Sd .l .l)) (.n 155 MO (.n 151 MN .l .l) .l)) (.n 160 Ev (.n 158 Eu (.n 157 Ir .l .l) (.n 159 MP .l .l)) (.n 163 MQ (.n 161 (cc 161) .l .l) .l)))) (.n 268 Iw (.n 261 MU (.n 169 qh (.n 166 An (.n 165 Is .l .l) (.n 168 MR .l .l)) (.n 255 Ci (.n 172 MS .l .l) (.n 258 MT .l .l))) (.n 265 Ew (.n 263 df (.n 262 It .l .l) (.n 264 Iu .l .l)) (.n 267 Iv (.n 266 MV .l .l) .l))) (.n 276 nZ (.n 273 Cj (.n 271 Sf (.n 269 Ix .l .l) (.n 272 Iy .l .l)) (.n 275 MX (.n 274 MW .l .l) .l)) (.n 280 mN (.n 278 MY (.n 277 Cl .l .l) (.n 279 Ey .l .l)) (.n 282 Iz (.n 281 MZ .l .l) .l))))) (.n 316 EB (.n 298 M3 (.n 291 IC (.n 287 IB (.n 285 M0 (.n 284 Sg .l .l) (.n 286 M1 .l .l)) (.n 289 qj (.n 288 M2 .l .l) (.n 290 Ez .l .l))) (.n 295 ID (.n 293 Ao (.n 292 sB .l .l) (.n 294 Ap .l .l)) (.n 297 IE (.n 296 qt .l .l) .l))) (.n 306 Si (.n 302 qu (.n 300 kJ (.n 299 Aq .l .l) (.n 301 sC .l .l)) (.n 305 Cm (.n 304 Sh .l .l) .l)) (.n 311 M4 (.n 308 Sk (.n 307 Sj .l .l) (.n 309 EA .l .l)) (.n 315 IG (.n 314 IF .l .l) .l)))) (.n 339 At (.n 330 IJ (.n 322 Cn (.n 318 Sm (.n 317 Sl .l .l) (.n 321 M5 .l .l)) (.n 328 II (.n 327 EC .l .l) .l)) (.n 336 ED (.n 334 Sn (.n 333 M6 .l .l) (.n 335 IK .l .l)) (.n 338 As (.n 337 M7 .l .l) .l))) (.n 371 qv (.n 368 IL (.n 345 Au (.n 340 EE .l .l) (.n 367 EF .l .l)) (.n 370 Co (.n 369 IM .l .l) .l)) (.n 375 M8 (.n 373 IN (.n 372 Cp .l .l) (.n 374 IP .l .l)) (.n 377 Sr (.n 376 So .l .l) .l)))))))
def adp:Tr (List AV->Option AV):=(.n 153 Kx (.n 138 zu (.n 128 KH (.n 109 MA .l .l) (.n 135 HY .l .l)) (.n 143 pR (.n 139 zN .l .l) (.n 152 KI .l .l))) (.n 171 mF (.n 162 trimS (.n 154 HZ .l .l) (.n 167 Ec .l .l)) (.n 175 Hl (.n 173 zR .l .l) .l)))
noncomputable def prog:aI:=Rr.find
def aT:Lib:=⟨adp.find,fun _=>none⟩
end
section
namespace qY
open Go
open Go.Proofs
def amo:Rr.kS (QO Tryz.prog ah cd hd):=by
 delta Rr
 repeat' first | exact Tr.je | refine Tr.jP (aio (by kernel_rfl) (by kernel_rfl)) ?_ ?_
end qY
end
end VE
