import Derived.Test.YtmedhadbdofioaaGreatDoorTak
import Derived.Test.YtmedhadbdofioaaGreatDoorTaa
import Derived.Test.YtmedhadbdofioaaGreatDoorTag
set_option linter.all false
set_option maxRecDepth 100000
open Bool renaming and_eq_true→yg,false_eq_true→yD
open Go renaming FloatKind→vP,IntKind→yV,Program→y6
open List renaming mem_cons→wk,mem_cons_of_mem→wY,mem_cons_self→uE
open Nat renaming beq→yu,blt→yK,eq_of_beq_eq_true→yp
open Option.some renaming injEq→yc
namespace VE
section
def C6:aD:=⟨[.t 8],.g [qf 8] (.h [qm 9 2,qE 10 9 0] 10 (.aP [qm 11 3,aq 12 269 11,qm 2 12]) (.h [qm 13 2,qN 14 13 0] 14 (.e [qm 15 0,Rq 16 (.bin .eql (.t 15) (.s [])),qm 17 16,Rt 18 17 (.m 1),Rt 19 17 (.m 2),Rt 20 17 (.z .eql 18 19),qq 21 17 20,qm 8 21]) (.e [qm 22 1,qE 23 22 0,qm 24 23,Rt 25 24 (.m 0),Rt 26 24 (.m 3),Rt 27 24 (.z .eql 25 26),qq 28 24 27,qm 8 28])))⟩
def Oh:aD:=⟨[.t 2],.g [qk 2 0] (.e [qm 3 0,Rq 4 (.q 30 [.t 3,.k (-999999999),.k 999999999]),qm 2 4])⟩
def EE:VC:=.q (.g [qm 5 3,qm 6 0,qn 7 1 6,qT 8 5 7] (.cond (.t 8) .skip (.exit 0))) (.q (.aK 1 (.g [qm 11 0,qm 12 3,qi 13 1 11 12,ql 14 1 13,aq 15 263 14,qm 4 15] (.g [qm 16 4,qN 17 16 0] (.i 17 (.e [qm 18 4,qm 2 18]))))) (.aP [qm 9 3,qa 10 9 1,qm 3 10]))
def Oi:aD:=⟨[.t 2],.g [qk 2 0] (.q (.g [qk 3 0] (.q (.aK 0 (.loop [0,3] EE)) (.kp []))) (.e [qk 2 0]))⟩
def Jv:aD:=⟨[.t 2],.g [qk 2 0] (.h [qm 3 0,Rq 4 (.bin .eql (.t 3) (.s [48]))] 4 (.e [qk 2 0]) (.h [qm 5 0,qn 6 0 5,Rq 7 (.y .gtr 6 0),qm 8 7,Rt 9 8 (.m 0),Rt 10 8 (.lz (.t 9) (.k 0)),Rt 11 8 (.bin .eql (.t 10) (.c (.int .u8 45))),qq 12 8 11] 12 (.e [qk 2 (-1)]) (.e [qk 2 1])))⟩
def dH:aD:=⟨[.t 2],.g [qk 2 0] (.g [qm 8 0,qm 3 8] (.h [qm 9 3,qn 10 0 9,Rq 11 (.y .gtr 10 0),qm 12 11,Rt 13 12 (.m 3),Rt 14 12 (.lz (.t 13) (.k 0)),Rt 15 12 (.bin .eql (.t 14) (.c (.int .u8 45))),qq 16 12 15] 16 (.aP [qm 17 3,Rq 18 (.ez .str (.t 17) (some (.k 1)) none),qm 3 18]) (.g [qm 19 3,aq 20 272 19,qm 4 20] (.h [qm 21 3,qm 22 4,Rq 23 (.ez .str (.t 21) none (some (.t 22))),aq 24 273 23,Rq 25 (.un .not (.t 24)),qm 26 25,Rf 27 26 (.m 0),Rf 28 26 (.lz (.t 27) (.k 0)),Rf 29 26 (.bin .eql (.t 28) (.c (.int .u8 45))),Rf 30 26 (.m 29),Rt 31 30 (.m 3),Rt 32 30 (.m 4),Rt 33 30 (.ez .str (.t 31) none (some (.t 32))),Rt 34 30 (.bin .eql (.t 33) (.s [48])),Rf 35 26 (.pick (.t 30) (.t 34) (.c (.bool false))),qp 36 26 35] 36 (.e [qk 2 1]) (.h [qm 37 4,qm 38 3,qn 39 0 38,qT 40 37 39,qm 41 40,Rt 42 41 (.m 3),Rt 43 41 (.m 4),Rt 44 41 (.y .add 43 1),Rt 45 41 (.ez .str (.t 42) (some (.t 44)) none),Rt 46
 41 (.q 273 [.t 45]),Rt 47 41 (.un .not (.t 46)),Rt 48 41 (.m 47),Rf 49 48 (.m 3),Rf 50 48 (.m 4),Rf 51 48 (.y .add 50 1),Rf 52 48 (.ez .str (.t 49) (some (.t 51)) none),Rf 53 48 (.bin .eql (.t 52) (.s [48])),Rt 54 41 (.pick (.t 48) (.c (.bool true)) (.t 53)),Rt 55 41 (.m 54),Rf 56 55 (.m 3),Rf 57 55 (.m 4),Rf 58 55 (.y .add 57 1),Rf 59 55 (.ez .str (.t 56) (some (.t 58)) none),Rf 60 55 (.bin .eql (.t 59) (.s [49])),Rt 61 41 (.pick (.t 55) (.c (.bool true)) (.t 60)),qq 62 41 61] 62 (.e [qk 2 1]) (.h [qm 63 4,Rq 64 (.y .gtr 63 600),qm 65 64,Rf 66 65 (.m 3),Rf 67 65 (.len 0 (.t 66)),Rf 68 65 (.m 4),Rf 69 65 (.z .sub 67 68),Rf 70 65 (.y .sub 69 1),Rf 71 65 (.y .gtr 70 600),qp 72 65 71] 72 (.e [qk 2 4]) (.h [qm 73 4,qm 74 3,qn 75 0 74,qT 76 73 75] 76 (.g [qm 78 3,aq 79 274 78,qm 77 79,qe 80 0 77,qe 81 1 77,Rq 5 (.box 2 (.c (.agg [.bool false,.ab]))),Rq 6 (.box 2 (.c (.agg [.bool false,.ab]))),qs
 2 5 80,qs 2 6 81] (.g [qo 82 1 5,ql 83 1 82,qo 84 1 6,ql 85 1 84,aF 86 275 83 85,qm 7 86] (.g [qm 87 7,qn 88 1 87,qN 89 88 1,qm 90 89,Rf 91 90 (.m 7),Rf 92 90 (.bk 1 (.t 91) (.k 0)),Rf 93 90 (.ld 1 false (.t 92)),Rf 94 90 (.y .neq 93 1),qp 95 90 94] (.i 95 (.e [qk 2 1]))))) (.e [qk 2 0]))))))))⟩
def Jw:aD:=⟨[.t 4],.g [Rq 4 (.bQ (.s []))] (.g [qm 16 0,aq 17 276 16,qm 15 17,qe 18 0 15,qe 19 1 15,qe 20 2 15,qm 5 18,qm 6 19,qm 7 20] (.g [qm 22 1,aq 23 276 22,qm 21 23,qe 24 0 21,qe 25 1 21,qe 26 2 21,qm 8 24,qm 9 25,qm 10 26] (.h [qm 27 7,qm 28 27,Rt 29 28 (.m 10),qq 30 28 29] 30 (.e [qm 31 5,qm 32 9,Rq 33 (.z .mul 31 32),qm 34 8,qm 35 6,Rq 36 (.z .mul 34 35),qA 37 33 36,qm 38 6,qm 39 9,Rq 40 (.z .mul 38 39),aF 41 277 37 40,qm 4 41]) (.g [qm 43 0,aq 44 274 43,qm 42 44,qe 45 0 42,qe 46 1 42,Rq 11 (.box 2 (.c (.agg [.bool false,.ab]))),Rq 12 (.box 2 (.c (.agg [.bool false,.ab]))),qs 2 11 45,qs 2 12 46] (.g [qm 48 1,aq 49 274 48,qm 47 49,qe 50 0 47,qe 51 1 47,Rq 13 (.box 2 (.c (.agg [.bool false,.ab]))),Rq 14 (.box 2 (.c (.agg [.bool false,.ab]))),qs 2 13 50,qs 2 14 51] (.e [qL 52 2 11,qL 53 2 14,aF 54 278 52 53,qL 55 2 13,qL 56 2 12,aF 57 278 55 56,aF 58 279 54 57,qL 59 2 12,qL 60
 2 14,aF 61 278 59 60,aF 62 280 58 61,qm 4 62]))))))⟩
def Fk:aD:=⟨[.t 2],.g [Rq 2 (.bQ (.s []))] (.e [qm 3 0,aq 4 281 3,aq 5 282 4,qm 2 5])⟩
def TY:aD:=⟨[.t 4],.g [Rq 4 (.bQ (.s []))] (.e [qm 5 0,qm 6 1,aq 7 283 6,aF 8 267 5 7,qm 4 8])⟩
def Jx:aD:=⟨[.t 4],.g [Rq 4 (.bQ (.s []))] (.g [qm 16 0,aq 17 276 16,qm 15 17,qe 18 0 15,qe 19 1 15,qe 20 2 15,qm 5 18,qm 6 19,qm 7 20] (.g [qm 22 1,aq 23 276 22,qm 21 23,qe 24 0 21,qe 25 1 21,qe 26 2 21,qm 8 24,qm 9 25,qm 10 26] (.h [qm 27 7,qm 28 27,Rt 29 28 (.m 10),qq 30 28 29] 30 (.e [qm 31 5,qm 32 8,Rq 33 (.z .mul 31 32),qm 34 6,qm 35 9,Rq 36 (.z .mul 34 35),aF 37 277 33 36,qm 4 37]) (.g [qm 39 0,aq 40 274 39,qm 38 40,qe 41 0 38,qe 42 1 38,Rq 11 (.box 2 (.c (.agg [.bool false,.ab]))),Rq 12 (.box 2 (.c (.agg [.bool false,.ab]))),qs 2 11 41,qs 2 12 42] (.g [qm 44 1,aq 45 274 44,qm 43 45,qe 46 0 43,qe 47 1 43,Rq 13 (.box 2 (.c (.agg [.bool false,.ab]))),Rq 14 (.box 2 (.c (.agg [.bool false,.ab]))),qs 2 13 46,qs 2 14 47] (.e [qL 48 2 11,qL 49 2 13,aF 50 278 48 49,qL 51 2 12,qL 52 2 14,aF 53 278 51 52,aF 54 280 50 53,qm 4 54]))))))⟩
def Jy:aD:=⟨[.t 2],.g [Rq 2 (.bQ (.s []))] (.h [qm 3 0,aq 4 262 3,Rq 5 (.y .lss 4 0)] 5 (.e [qm 6 0,Rq 7 (.ez .str (.t 6) (some (.k 1)) none),qm 2 7]) (.h [qm 8 0,aq 9 262 8,qE 10 9 0] 10 (.e [qm 11 0,qm 2 11]) (.e [qm 12 0,Rq 13 (.bin .add (.s [45]) (.t 12)),qm 2 13])))⟩
def Jz:aD:=⟨[.t 2],.g [qk 2 0] (.h [qm 3 0,aq 4 284 3,aq 5 285 4,qn 6 0 5,Rq 7 (.y .gtr 6 600),qm 8 7,Rf 9 8 (.m 0),Rf 10 8 (.q 286 [.t 9]),Rf 11 8 (.len 0 (.t 10)),Rf 12 8 (.y .gtr 11 600),qp 13 8 12] 13 (.e [qk 2 4]) (.e [qk 2 0]))⟩
def TZ:aD:=⟨[.t 4],.g [Rq 4 (.bQ (.s []))] (.e [qm 5 0,qm 6 1,aq 7 268 6,aF 8 264 5 7,qm 4 8])⟩
def EF:VC:=.q (.g [qm 4 3,qm 5 0,qn 6 0 5,qT 7 4 6] (.cond (.t 7) .skip (.exit 0))) (.q (.aK 1 (.g [qm 10 0,qm 11 3,Rq 12 (.lz (.t 10) (.t 11)),Rq 13 (.bin .eql (.t 12) (.c (.int .u8 47)))] (.i 13 (.e [qm 14 3,qm 2 14])))) (.aP [qm 8 3,qa 9 8 1,qm 3 9]))
def JA:aD:=⟨[.t 2],.g [qk 2 0] (.q (.g [qk 3 0] (.q (.aK 0 (.loop [0,3] EF)) (.kp [0]))) (.e [qm 15 0,qn 16 0 15,qm 2 16]))⟩
def C7:aD:=⟨[.t 2],.g [qf 2] (.h [qm 3 0,qn 4 0 3,qE 5 4 0,qm 6 5,Rf 7 6 (.m 0),Rf 8 6 (.len 0 (.t 7)),Rf 9 6 (.y .gtr 8 1),Rf 10 6 (.m 9),Rt 11 10 (.m 0),Rt 12 10 (.lz (.t 11) (.k 0)),Rt 13 10 (.bin .eql (.t 12) (.c (.int .u8 48))),Rf 14 6 (.pick (.t 10) (.t 13) (.c (.bool false))),qp 15 6 14] 15 (.e [qf 2]) (.e [qm 16 0,aq 17 287 16,qm 2 17]))⟩
def Oj:aD:=⟨[.cell 2 2 true,.cell 3 2 true],.g [Rq 2 (.box 2 (.c (.agg [.bool false,.ab]))),Rq 3 (.box 2 (.c (.agg [.bool false,.ab])))] (.g [qm 6 0,qm 4 6] (.g [qm 7 4,aq 8 272 7,qm 5 8] (.h [qm 9 5,qm 10 4,qn 11 0 10,Rq 12 (.z .eql 9 11)] 12 (.e [qm 13 4,aq 14 288 13,Rq 15 (.q 281 [.k 1]),qs 2 2 14,qs 2 3 15]) (.e [qm 16 4,qm 17 5,Rq 18 (.ez .str (.t 16) none (some (.t 17))),aq 19 288 18,qm 20 4,qm 21 5,qa 22 21 1,Rq 23 (.ez .str (.t 20) (some (.t 22)) none),aq 24 288 23,qs 2 2 19,qs 2 3 24]))))⟩
def IG:VC:=.q (.g [qm 7 1,qn 8 1 7,Rq 9 (.y .gtr 8 0)] (.cond (.t 9) .skip (.exit 0))) (.aK 1 (.g [qm 11 0,qm 12 1,aF 13 289 11 12,qm 10 13,qe 14 0 10,qe 15 1 10,qm 5 14,qm 6 15] (.aP [qm 16 1,qm 17 6,qm 0 16,qm 1 17])))
def Ok:aD:=⟨[.t 4],.g [qz 4] (.q (.q (.aK 0 (.loop [0,1] IG)) (.kp [0])) (.e [qm 18 0,qm 4 18]))⟩
def oV:aD:=⟨[.t 2,.t 3,.t 4],.g [qk 2 0,qk 3 0,qf 4] (.g [qm 10 0,qm 5 10] (.h [qm 11 5,qn 12 0 11,Rq 13 (.y .gtr 12 20)] 13 (.e [qk 2 0,qk 3 0,qf 4]) (.g [qm 14 5,qn 15 0 14,Rq 16 (.y .gtr 15 0),qm 17 16,Rt 18 17 (.m 5),Rt 19 17 (.lz (.t 18) (.k 0)),Rt 20 17 (.bin .eql (.t 19) (.c (.int .u8 45))),qq 21 17 20,qm 6 21] (.h [qm 22 6] 22 (.aP [qm 23 5,Rq 24 (.ez .str (.t 23) (some (.k 1)) none),qm 5 24]) (.g [qm 25 5,aq 26 272 25,qm 7 26] (.h [qm 27 7,Rq 28 (.y .gtr 27 9),qm 29 28,Rf 30 29 (.m 5),Rf 31 29 (.len 0 (.t 30)),Rf 32 29 (.m 7),Rf 33 29 (.z .sub 31 32),Rf 34 29 (.y .gtr 33 10),qp 35 29 34] 35 (.e [qk 2 0,qk 3 0,qf 4]) (.g [qm 36 5,qm 37 7,Rq 38 (.ez .str (.t 36) none (some (.t 37))),aq 39 290 38,qm 8 39,qk 9 1] (.h [qm 40 7,qm 41 5,qn 42 0 41,qT 43 40 42] 43 (.aP [qm 44 5,qm 45 7,qa 46 45 1,Rq 47 (.ez .str (.t 44) (some (.t 46)) none),aq 48 290 47,qm 9 48]) (.h [qm 49 6] 49 (.aP [qm
 50 8,Rq 51 (.bin .sub (.k 0) (.t 50)),qm 8 51]) (.e [qm 52 8,qm 53 9,qm 2 52,qm 3 53,Rq 4 (.bQ (.c (.bool true)))]))))))))))⟩
def C8:aD:=⟨[.t 4],.g [Rq 4 (.bQ (.s []))] (.h [qm 7 0,Rq 8 (.y .lss 7 (-4000000000000000000)),qm 9 8,Rf 10 9 (.m 0),Rf 11 9 (.y .gtr 10 4000000000000000000),qp 12 9 11,qm 13 12,Rf 14 13 (.m 1),Rf 15 13 (.y .lss 14 (-4000000000000000000)),qp 16 13 15,qm 17 16,Rf 18 17 (.m 1),Rf 19 17 (.y .gtr 18 4000000000000000000),qp 20 17 19] 20 (.e [qm 21 0,aq 22 281 21,qm 23 1,aq 24 281 23,aF 25 280 22 24,qm 4 25]) (.h [qm 26 1,Rq 27 (.y .lss 26 0)] 27 (.aP [qm 28 0,Rq 29 (.bin .sub (.k 0) (.t 28)),qm 30 1,Rq 31 (.bin .sub (.k 0) (.t 30)),qm 0 29,qm 1 31]) (.g [qm 32 0,qm 33 0,Rq 34 (.bin .sub (.k 0) (.t 33)),Rq 35 (.mx [.t 32,.t 34]),qm 36 1,aF 37 291 35 36,qm 5 37] (.g [qm 38 0,qm 39 5,Rq 40 (.z .quo 38 39),qm 41 1,qm 42 5,Rq 43 (.z .quo 41 42),qm 0 40,qm 1 43] (.g [Rq 6 (.bQ (.s []))] (.h [qm 44 0,Rq 45 (.y .lss 44 0)] 45 (.aP [Rq 6 (.bQ (.s [45]))]) (.g [qm 46 6,qm 47 0,qm 48 0,Rq 49 (.bin .sub (.k
 0) (.t 48)),Rq 50 (.mx [.t 47,.t 49]),Rq 51 (.q 292 [.t 50,.k 1]),qA 52 46 51,qm 6 52] (.h [qm 53 1,Rq 54 (.y .gtr 53 1)] 54 (.aP [qm 55 6,Rq 56 (.bin .add (.t 55) (.s [47])),qm 57 1,Rq 58 (.q 292 [.t 57,.k 1]),qA 59 56 58,qm 6 59]) (.e [qm 60 6,qm 4 60])))))))))⟩
def Ol:aD:=⟨[.cell 4 2 true],.g [qb 2 2 0,qb 3 2 1,Rq 4 (.box 2 (.c (.agg [.bool false,.ab])))] (.e [qo 5 0 2,ql 6 1 5,qo 7 0 3,ql 8 1 7,Rq 9 (.eq true .b (.t 6) (.t 8)),qo 10 1 2,ql 11 1 10,qo 12 1 3,ql 13 1 12,aF 14 293 11 13,aF 15 294 9 14,qs 2 4 15])⟩
def Fl:aD:=⟨[.cell 4 2 true],.g [qb 2 2 0,qb 3 2 1,Rq 4 (.box 2 (.c (.agg [.bool false,.ab])))] (.h [qo 5 0 2,ql 6 1 5,qo 7 0 3,ql 8 1 7,Rq 9 (.eq false .b (.t 6) (.t 8))] 9 (.e [qo 10 0 2,ql 11 1 10,qo 12 1 2,ql 13 1 12,qo 14 1 3,ql 15 1 14,aF 16 295 13 15,aF 17 294 11 16,qs 2 4 17]) (.h [qo 18 1 2,ql 19 1 18,qo 20 1 3,ql 21 1 20,aF 22 296 19 21,Rq 23 (.y .geq 22 0)] 23 (.e [qo 24 0 2,ql 25 1 24,qo 26 1 2,ql 27 1 26,qo 28 1 3,ql 29 1 28,aF 30 297 27 29,aF 31 294 25 30,qs 2 4 31]) (.e [qo 32 0 3,ql 33 1 32,qo 34 1 3,ql 35 1 34,qo 36 1 2,ql 37 1 36,aF 38 297 35 37,aF 39 294 33 38,qs 2 4 39])))⟩
def nM:aD:=⟨[.t 4],.g [qb 2 2 0,qb 3 2 1,Rq 4 (.bQ (.s []))] (.h [qo 11 0 3,ql 12 1 11] 12 (.aP [qL 13 2 2,aq 14 298 13,qL 15 2 3,aq 16 298 15,qs 2 2 14,qs 2 3 16]) (.g [qo 17 1 2,ql 18 1 17,qo 19 1 3,ql 20 1 19,aF 21 275 18 20,qm 5 21] (.g [qo 23 1 2,ql 24 1 23,qm 25 5,aF 26 289 24 25,qm 22 26,qe 27 0 22,qe 28 1 22,qm 6 27,qm 7 28] (.g [qo 30 1 3,ql 31 1 30,qm 32 5,aF 33 289 31 32,qm 29 33,qe 34 0 29,qe 35 1 29,qm 8 34,qm 9 35] (.g [qo 36 0 2,ql 37 1 36,qm 38 6,aF 39 294 37 38,aq 40 282 39,qm 10 40] (.h [qm 41 8,qn 42 1 41,qE 43 42 1,qm 44 43,Rt 45 44 (.m 8),Rt 46 44 (.bk 1 (.t 45) (.k 0)),Rt 47 44 (.ld 1 false (.t 46)),Rt 48 44 (.y .eql 47 1),qq 49 44 48] 49 (.e [qm 50 10,qm 4 50]) (.e [qm 51 10,Rq 52 (.bin .add (.t 51) (.s [47])),qm 53 8,Rq 54 (.q 294 [.c (.bool false),.t 53]),aq 55 282 54,qA 56 52 55,qm 4 56])))))))⟩
def ru:VC:=.q (.g [qm 8 0,qN 9 8 0] (.cond (.t 9) .skip (.exit 0))) (.aK 1 (.g [qm 10 0,Rq 11 (.y .rem 10 1000000000),qm 5 11] (.h [qm 12 5,Rq 13 (.y .lss 12 0)] 13 (.aP [qm 14 5,Rq 15 (.bin .sub (.k 0) (.t 14)),qm 5 15]) (.g [qm 16 3,qm 17 5,Rq 18 (.bN 1 1 [.i 0] [(0,1,.t 17)]),Rq 19 (.dL 1 8 (.t 16) (.t 18)),qm 3 19] (.aP [qm 20 0,Rq 21 (.y .quo 20 1000000000),qm 0 21])))))
def Om:aD:=⟨[.cell 2 2 true],.g [Rq 2 (.box 2 (.c (.agg [.bool false,.ab])))] (.g [qz 3] (.g [qm 6 0,Rq 7 (.y .lss 6 0),qm 4 7] (.q (.q (.aK 0 (.loop [0,2,3,4] ru)) (.kp [2,3,4])) (.e [qm 22 4,qm 23 3,aF 24 294 22 23,qs 2 2 24]))))⟩
def II:VC:=.q (.g [qm 22 4,Rq 23 (.y .geq 22 0)] (.cond (.t 23) .skip (.exit 0))) (.q (.aK 1 (.aP [qm 26 3,qo 27 1 1,ql 28 1 27,qm 29 4,qi 30 1 28 29,ql 31 1 30,Rq 32 (.q 292 [.t 31,.k 9]),qA 33 26 32,qm 3 33])) (.aP [qm 24 4,Rq 25 (.y .sub 24 1),qm 4 25]))
def JB:aD:=⟨[.t 2],.g [qb 1 2 0,Rq 2 (.bQ (.s []))] (.h [qo 5 1 1,ql 6 1 5,qn 7 1 6,qE 8 7 0] 8 (.e [Rq 2 (.bQ (.s [48]))]) (.g [qo 9 1 1,ql 10 1 9,qo 11 1 1,ql 12 1 11,qn 13 1 12,Rq 14 (.y .sub 13 1),qi 15 1 10 14,ql 16 1 15,Rq 17 (.q 292 [.t 16,.k 1]),qm 3 17] (.q (.g [qo 18 1 1,ql 19 1 18,qn 20 1 19,Rq 21 (.y .sub 20 2),qm 4 21] (.q (.aK 0 (.loop [1,3,4] II)) (.kp [1,3]))) (.h [qo 34 0 1,ql 35 1 34] 35 (.e [qm 36 3,Rq 37 (.bin .add (.s [45]) (.t 36)),qm 2 37]) (.e [qm 38 3,qm 2 38])))))⟩
def Ua:aD:=⟨[.t 2],.g [Rq 2 (.bQ (.s []))] (.g [qm 6 0,aq 7 274 6,qm 5 7,qe 8 0 5,qe 9 1 5,Rq 3 (.box 2 (.c (.agg [.bool false,.ab]))),Rq 4 (.box 2 (.c (.agg [.bool false,.ab]))),qs 2 3 8,qs 2 4 9] (.e [qL 10 2 4,qL 11 2 3,aF 12 280 10 11,qm 2 12]))⟩
def Ub:aD:=⟨[.t 2],.g [Rq 2 (.bQ (.s []))] (.e [qm 3 0,qm 4 0,aq 5 272 4,Rq 6 (.ez .str (.t 3) none (some (.t 5))),qm 2 6])⟩
def On:aD:=⟨[.t 2],.g [Rq 2 (.bQ (.s []))] (.h [qm 3 0,aq 4 262 3,Rq 5 (.y .lss 4 0)] 5 (.e [qm 6 0,Rq 7 (.ez .str (.t 6) (some (.k 1)) none),qm 2 7]) (.e [qm 8 0,qm 2 8]))⟩
def Oo:aD:=⟨[.t 2],.g [Rq 2 (.bQ (.s []))] (.g [qm 4 0,aq 5 272 4,qm 3 5] (.h [qm 6 3,qm 7 0,qn 8 0 7,Rq 9 (.z .eql 6 8)] 9 (.e [Rq 2 (.bQ (.s [49]))]) (.e [qm 10 0,qm 11 3,qa 12 11 1,Rq 13 (.ez .str (.t 10) (some (.t 12)) none),qm 2 13])))⟩
def CF:VC:=.q (.g [qm 4 3,qm 5 0,qn 6 0 5,qT 7 4 6] (.cond (.t 7) .skip (.exit 0))) (.q (.aK 1 (.g [qm 10 0,qm 11 3,Rq 12 (.lz (.t 10) (.t 11)),Rq 13 (.bin .lss (.t 12) (.c (.int .u8 48))),qm 14 13,Rf 15 14 (.m 0),Rf 16 14 (.m 3),Rf 17 14 (.lz (.t 15) (.t 16)),Rf 18 14 (.bin .gtr (.t 17) (.c (.int .u8 57))),qp 19 14 18] (.i 19 (.e [qf 2])))) (.aP [qm 8 3,qa 9 8 1,qm 3 9]))
def JC:aD:=⟨[.t 2],.g [qf 2] (.q (.g [qk 3 0] (.q (.aK 0 (.loop [0,3] CF)) (.kp []))) (.e [Rq 2 (.bQ (.c (.bool true)))]))⟩
def zi:VC:=.q (.g [qm 16 0,qn 17 0 16,Rq 18 (.y .gtr 17 9)] (.cond (.t 18) .skip (.exit 0))) (.aK 1 (.g [qm 19 4,qm 20 0,qm 21 0,qn 22 0 21,Rq 23 (.y .sub 22 9),Rq 24 (.ez .str (.t 20) (some (.t 23)) none),aq 25 290 24,Rq 26 (.bN 1 1 [.i 0] [(0,1,.t 25)]),Rq 27 (.dL 1 8 (.t 19) (.t 26)),qm 4 27] (.aP [qm 28 0,qm 29 0,qn 30 0 29,Rq 31 (.y .sub 30 9),Rq 32 (.ez .str (.t 28) none (some (.t 31))),qm 0 32])))
def Oq:aD:=⟨[.cell 2 2 true],.g [Rq 2 (.box 2 (.c (.agg [.bool false,.ab])))] (.g [qm 5 0,qn 6 0 5,Rq 7 (.y .gtr 6 0),qm 8 7,Rt 9 8 (.m 0),Rt 10 8 (.lz (.t 9) (.k 0)),Rt 11 8 (.bin .eql (.t 10) (.c (.int .u8 45))),qq 12 8 11,qm 3 12] (.h [qm 13 3] 13 (.aP [qm 14 0,Rq 15 (.ez .str (.t 14) (some (.k 1)) none),qm 0 15]) (.g [qz 4] (.q (.q (.aK 0 (.loop [0,2,3,4] zi)) (.kp [0,2,3,4])) (.e [qm 33 3,qm 34 4,qm 35 0,aq 36 290 35,Rq 37 (.bN 1 1 [.i 0] [(0,1,.t 36)]),Rq 38 (.dL 1 8 (.t 34) (.t 37)),aF 39 294 33 38,qs 2 2 39])))))⟩
def IJ:VC:=.q (.g [qm 63 11,qn 64 1 63,qm 65 0,qn 66 1 65,qa 67 66 1,qT 68 64 67] (.cond (.t 68) .skip (.exit 0))) (.aK 1 (.aP [qm 69 11,Rq 70 (.bN 1 1 [.i 0] [(0,1,.k 0)]),Rq 71 (.dL 1 8 (.t 69) (.t 70)),qm 11 71]))
def EG:VC:=.q (.g [qm 90 16,qm 91 10,qT 92 90 91] (.cond (.t 92) .skip (.exit 4))) (.q (.aK 5 (.g [qm 95 14,qm 96 9,qm 97 16,qi 98 1 96 97,ql 99 1 98,Rq 100 (.z .mul 95 99),qm 101 15,qA 102 100 101,qm 17 102] (.g [qm 103 11,qm 104 16,qm 105 13,qA 106 104 105,qi 107 1 103 106,ql 108 1 107,qm 109 17,Rq 110 (.y .rem 109 1000000000),Rq 111 (.z .sub 108 110),qm 18 111] (.g [qm 112 17,Rq 113 (.y .quo 112 1000000000),qm 15 113] (.h [qm 114 18,Rq 115 (.y .lss 114 0)] 115 (.g [qm 116 18,qa 117 116 1000000000,qm 18 117] (.aP [qm 118 15,qa 119 118 1,qm 15 119])) (.aP [qm 120 11,qm 121 16,qm 122 13,qA 123 121 122,qm 124 18,qi 125 1 120 123,qs 1 125 124])))))) (.aP [qm 93 16,qa 94 93 1,qm 16 94]))
def IK:VC:=.q (.g [qm 148 20,qm 149 10,qT 150 148 149] (.cond (.t 150) .skip (.exit 6))) (.q (.aK 7 (.g [qm 153 11,qm 154 20,qm 155 13,qA 156 154 155,qi 157 1 153 156,ql 158 1 157,qm 159 9,qm 160 20,qi 161 1 159 160,ql 162 1 161,qA 163 158 162,qm 164 19,qA 165 163 164,qm 21 165] (.g [qm 166 11,qm 167 20,qm 168 13,qA 169 167 168,qm 170 21,Rq 171 (.y .rem 170 1000000000),qi 172 1 166 169,qs 1 172 171] (.aP [qm 173 21,Rq 174 (.y .quo 173 1000000000),qm 19 174])))) (.aP [qm 151 20,qa 152 151 1,qm 20 152]))
def IL:VC:=.q (.g [qm 82 13,Rq 83 (.y .geq 82 0)] (.cond (.t 83) .skip (.exit 2))) (.q (.aK 3 (.g [qm 86 11,qm 87 9,qm 88 13,Rq 89 (.call .heap (.F 301) [.t 86,.t 87,.t 88]),qm 14 89] (.g [qk 15 0] (.q (.g [qk 16 0] (.q (.aK 4 (.loop [8,9,10,11,12,13,14,15,16] EG)) (.kp [8,9,10,11,12,13,14,15]))) (.g [qm 126 11,qm 127 13,qm 128 10,qA 129 127 128,qm 130 11,qm 131 13,qm 132 10,qA 133 131 132,qi 134 1 130 133,ql 135 1 134,qm 136 15,Rq 137 (.z .sub 135 136),qi 138 1 126 129,qs 1 138 137] (.h [qm 139 11,qm 140 13,qm 141 10,qA 142 140 141,qi 143 1 139 142,ql 144 1 143,Rq 145 (.y .lss 144 0)] 145 (.g [qm 146 14,Rq 147 (.y .sub 146 1),qm 14 147] (.g [qk 19 0] (.q (.g [qk 20 0] (.q (.aK 6 (.loop [8,9,10,11,12,13,14,19,20] IK)) (.kp [8,9,10,11,12,13,14,19]))) (.aP [qm 175 11,qm 176 13,qm 177 10,qA 178 176 177,qm 179 11,qm 180 13,qm 181 10,qA 182 180 181,qi 183 1 179 182,ql 184 1 183,qm 185 19,qA 186
 184 185,qi 187 1 175 178,qs 1 187 186])))) (.aP [qm 188 12,qm 189 13,qm 190 14,qi 191 1 188 189,qs 1 191 190]))))))) (.aP [qm 84 13,Rq 85 (.y .sub 84 1),qm 13 85]))
def rL:aD:=⟨[.t 4,.t 5],.g [qz 4,qz 5] (.h [qm 24 0,qm 25 1,aF 26 296 24 25,Rq 27 (.y .lss 26 0)] 27 (.e [qm 28 0,qz 4,qm 5 28]) (.h [qm 29 1,qn 30 1 29,qE 31 30 1] 31 (.g [qm 33 0,qm 34 1,Rq 35 (.bk 1 (.t 34) (.k 0)),ql 36 1 35,aF 37 299 33 36,qm 32 37,qe 38 0 32,qe 39 1 32,qm 6 38,qm 7 39] (.e [qm 40 6,qm 41 7,Rq 42 (.bN 1 1 [.i 0] [(0,1,.t 41)]),aq 43 300 42,qm 4 40,qm 5 43])) (.g [qm 44 1,qm 45 1,qn 46 1 45,Rq 47 (.y .sub 46 1),qi 48 1 44 47,ql 49 1 48,qa 50 49 1,Rq 51 (.bin .quo (.k 1000000000) (.t 50)),Rq 52 (.bN 1 1 [.i 0] [(0,1,.t 51)]),qm 8 52] (.g [qm 53 1,qm 54 8,aF 55 293 53 54,qm 9 55] (.g [qm 56 9,qn 57 1 56,qm 10 57] (.g [Rq 58 (.bN 0 1 [] []),qm 59 0,qm 60 8,aF 61 293 59 60,Rq 62 (.dL 1 8 (.t 58) (.t 61)),qm 11 62] (.q (.q (.aK 0 (.loop [0,8,9,10,11] IJ)) (.kp [8,9,10,11])) (.g [qm 72 11,qn 73 1 72,qm 74 10,Rq 75 (.z .sub 73 74),Rq 76 (.ig 1 8 [.i 0] (.t 75) (.t 75)),qm
 12 76] (.q (.g [qm 77 11,qn 78 1 77,qm 79 10,Rq 80 (.z .sub 78 79),Rq 81 (.y .sub 80 1),qm 13 81] (.q (.aK 2 (.loop [8,9,10,11,12,13] IL)) (.kp [8,10,11,12]))) (.g [qm 193 11,qm 194 10,Rq 195 (.ez (.sl 1) (.t 193) none (some (.t 194))),aq 196 300 195,qm 197 8,Rq 198 (.bk 1 (.t 197) (.k 0)),ql 199 1 198,aF 200 299 196 199,qm 192 200,qe 201 0 192,qe 202 1 192,qm 22 201,qm 23 202] (.e [qm 203 12,aq 204 300 203,qm 205 22,qm 4 204,qm 5 205])))))))))))⟩
def IM:VC:=.q (.g [qm 5 4,qm 6 0,qn 7 0 6,qT 8 5 7] (.cond (.t 8) .skip (.exit 0))) (.q (.aK 1 (.aP [qm 11 3,Rq 12 (.bin .mul (.k 10) (.t 11)),qm 13 0,qm 14 4,Rq 15 (.lz (.t 13) (.t 14)),Rq 16 (.cv (.toInt .i64) (.t 15)),qA 17 12 16,Rq 18 (.y .sub 17 48),qm 3 18])) (.aP [qm 9 4,qa 10 9 1,qm 4 10]))
def Fm:aD:=⟨[.t 2],.g [qk 2 0] (.g [qk 3 0] (.q (.g [qk 4 0] (.q (.aK 0 (.loop [0,3,4] IM)) (.kp [3]))) (.e [qm 19 3,qm 2 19])))⟩
def IN:VC:=.q (.g [qm 5 1,Rq 6 (.y .gtr 5 0)] (.cond (.t 6) .skip (.exit 0))) (.aK 1 (.aP [qm 7 1,qm 8 0,qm 9 1,Rq 10 (.z .rem 8 9),qm 0 7,qm 1 10]))
def JD:aD:=⟨[.t 4],.g [qk 4 0] (.q (.q (.aK 0 (.loop [0,1] IN)) (.kp [0])) (.e [qm 11 0,qm 4 11]))⟩
def nF:VC:=.q (.g [qm 6 0,Rq 7 (.y .gtr 6 0),qm 8 7,Rf 9 8 (.m 5),Rf 10 8 (.len 0 (.t 9)),Rf 11 8 (.m 1),Rf 12 8 (.z .lss 10 11),qp 13 8 12] (.cond (.t 13) .skip (.exit 0))) (.aK 1 (.g [qm 14 0,Rq 15 (.y .rem 14 10),qm 16 0,Rq 17 (.y .rem 16 10),qa 18 17 1,Rq 19 (.ez .str (.s [48,49,50,51,52,53,54,55,56,57]) (some (.t 15)) (some (.t 18))),qm 20 5,qA 21 19 20,qm 5 21] (.aP [qm 22 0,Rq 23 (.y .quo 22 10),qm 0 23])))
def zM:aD:=⟨[.t 4],.g [Rq 4 (.bQ (.s []))] (.g [Rq 5 (.bQ (.s []))] (.q (.q (.aK 0 (.loop [0,1,5] nF)) (.kp [5])) (.e [qm 24 5,qm 4 24])))⟩
def IP:VC:=.q (.g [qm 22 8,qm 23 1,qn 24 1 23,qT 25 22 24] (.cond (.t 25) .skip (.exit 2))) (.q (.aK 3 (.g [qm 28 5,qm 29 6,qm 30 8,qA 31 29 30,qi 32 1 28 31,ql 33 1 32,qm 34 0,qm 35 6,qi 36 1 34 35,ql 37 1 36,qm 38 1,qm 39 8,qi 40 1 38 39,ql 41 1 40,Rq 42 (.z .mul 37 41),qA 43 33 42,qm 44 7,qA 45 43 44,qm 9 45] (.g [qm 46 5,qm 47 6,qm 48 8,qA 49 47 48,qm 50 9,Rq 51 (.y .rem 50 1000000000),qi 52 1 46 49,qs 1 52 51] (.aP [qm 53 9,Rq 54 (.y .quo 53 1000000000),qm 7 54])))) (.aP [qm 26 8,qa 27 26 1,qm 8 27]))
def IQ:VC:=.q (.g [qm 16 6,qm 17 0,qn 18 1 17,qT 19 16 18] (.cond (.t 19) .skip (.exit 0))) (.q (.aK 1 (.g [qk 7 0] (.q (.g [qk 8 0] (.q (.aK 2 (.loop [0,1,5,6,7,8] IP)) (.kp [0,1,5,6,7]))) (.aP [qm 55 5,qm 56 6,qm 57 1,qn 58 1 57,qA 59 56 58,qm 60 5,qm 61 6,qm 62 1,qn 63 1 62,qA 64 61 63,qi 65 1 60 64,ql 66 1 65,qm 67 7,qA 68 66 67,qi 69 1 55 59,qs 1 69 68])))) (.aP [qm 20 6,qa 21 20 1,qm 6 21]))
def Bt:aD:=⟨[.t 4],.g [qz 4] (.g [qm 10 0,qn 11 1 10,qm 12 1,qn 13 1 12,qA 14 11 13,Rq 15 (.ig 1 8 [.i 0] (.t 14) (.t 14)),qm 5 15] (.q (.g [qk 6 0] (.q (.aK 0 (.loop [0,1,5,6] IQ)) (.kp [5]))) (.e [qm 70 5,aq 71 300 70,qm 4 71])))⟩
def Bu:aD:=⟨[.cell 4 2 true],.g [Rq 4 (.box 2 (.c (.agg [.bool false,.ab])))] (.g [qm 5 1,aq 6 300 5,qm 1 6] (.e [qm 7 0,qm 8 7,Rt 9 8 (.m 1),Rt 10 8 (.len 1 (.t 9)),Rt 11 8 (.y .gtr 10 0),qq 12 8 11,qm 13 1,Rq 14 (.cC [.bool false,.ab] [(0,1,.t 12),(1,1,.t 13)]),qs 2 4 14]))⟩
def oN:VC:=.q (.g [qm 9 7,qm 10 0,qn 11 1 10,qT 12 9 11,qm 13 12,Rf 14 13 (.m 7),Rf 15 13 (.m 1),Rf 16 13 (.len 1 (.t 15)),Rf 17 13 (.z .lss 14 16),qp 18 13 17,qm 19 18,Rf 20 19 (.m 6),Rf 21 19 (.y .gtr 20 0),qp 22 19 21] (.cond (.t 22) .skip (.exit 0))) (.q (.aK 1 (.g [qm 25 0,qm 26 7,aF 27 302 25 26,qm 28 1,qm 29 7,aF 30 302 28 29,qA 31 27 30,qm 32 6,qA 33 31 32,qm 8 33] (.g [qm 34 5,qm 35 8,Rq 36 (.y .rem 35 1000000000),Rq 37 (.bN 1 1 [.i 0] [(0,1,.t 36)]),Rq 38 (.dL 1 8 (.t 34) (.t 37)),qm 5 38] (.aP [qm 39 8,Rq 40 (.y .quo 39 1000000000),qm 6 40])))) (.aP [qm 23 7,qa 24 23 1,qm 7 24]))
def JE:aD:=⟨[.t 4],.g [qz 4] (.g [qz 5] (.g [qk 6 0] (.q (.g [qk 7 0] (.q (.aK 0 (.loop [0,1,5,6,7] oN)) (.kp [5]))) (.e [qm 41 5,qm 4 41]))))⟩
def CG:VC:=.q (.g [qm 19 5,Rq 20 (.y .geq 19 0)] (.cond (.t 20) .skip (.exit 0))) (.q (.aK 1 (.h [qm 23 0,qm 24 5,qi 25 1 23 24,ql 26 1 25,qm 27 1,qm 28 5,qi 29 1 27 28,ql 30 1 29,qT 31 26 30] 31 (.e [qk 4 (-1)]) (.g [qm 32 0,qm 33 5,qi 34 1 32 33,ql 35 1 34,qm 36 1,qm 37 5,qi 38 1 36 37,ql 39 1 38,Rq 40 (.z .gtr 35 39)] (.i 40 (.e [qk 4 1]))))) (.aP [qm 21 5,Rq 22 (.y .sub 21 1),qm 5 22]))
def rM:aD:=⟨[.t 4],.g [qk 4 0] (.h [qm 6 0,qn 7 1 6,qm 8 1,qn 9 1 8,Rq 10 (.z .neq 7 9)] 10 (.h [qm 11 0,qn 12 1 11,qm 13 1,qn 14 1 13,qT 15 12 14] 15 (.e [qk 4 (-1)]) (.e [qk 4 1])) (.q (.g [qm 16 0,qn 17 1 16,Rq 18 (.y .sub 17 1),qm 5 18] (.q (.aK 0 (.loop [0,1,5] CG)) (.kp []))) (.e [qk 4 0])))⟩
def rz:VC:=.q (.g [qm 9 7,qm 10 0,qn 11 1 10,qT 12 9 11] (.cond (.t 12) .skip (.exit 0))) (.q (.aK 1 (.g [qm 15 0,qm 16 7,qi 17 1 15 16,ql 18 1 17,qm 19 1,qm 20 7,aF 21 302 19 20,Rq 22 (.z .sub 18 21),qm 23 6,Rq 24 (.z .sub 22 23),qm 8 24] (.g [qk 6 0] (.h [qm 25 8,Rq 26 (.y .lss 25 0)] 26 (.g [qm 27 8,qa 28 27 1000000000,qm 8 28] (.aP [qk 6 1])) (.aP [qm 29 5,qm 30 8,Rq 31 (.bN 1 1 [.i 0] [(0,1,.t 30)]),Rq 32 (.dL 1 8 (.t 29) (.t 31)),qm 5 32]))))) (.aP [qm 13 7,qa 14 13 1,qm 7 14]))
def JF:aD:=⟨[.t 4],.g [qz 4] (.g [qz 5] (.g [qk 6 0] (.q (.g [qk 7 0] (.q (.aK 0 (.loop [0,1,5,6,7] rz)) (.kp [5]))) (.e [qm 33 5,aq 34 300 33,qm 4 34]))))⟩
def Ot:aD:=⟨[.cell 2 2 true],.g [qb 1 2 0,Rq 2 (.box 2 (.c (.agg [.bool false,.ab])))] (.e [qo 3 0 1,ql 4 1 3,Rq 5 (.un .not (.t 4)),qo 6 1 1,ql 7 1 6,aF 8 294 5 7,qs 2 2 8])⟩
def IR:VC:=.q (.g [qm 16 8,Rq 17 (.y .geq 16 0)] (.cond (.t 17) .skip (.exit 0))) (.q (.aK 1 (.g [qm 20 7,Rq 21 (.y .mul 20 1000000000),qm 22 0,qm 23 8,qi 24 1 22 23,ql 25 1 24,qA 26 21 25,qm 9 26] (.g [qm 27 6,qm 28 8,qm 29 9,qm 30 1,Rq 31 (.z .quo 29 30),qi 32 1 27 28,qs 1 32 31] (.aP [qm 33 9,qm 34 1,Rq 35 (.z .rem 33 34),qm 7 35])))) (.aP [qm 18 8,Rq 19 (.y .sub 18 1),qm 8 19]))
def Bv:aD:=⟨[.t 4,.t 5],.g [qz 4,qk 5 0] (.g [qm 10 0,qn 11 1 10,Rq 12 (.ig 1 8 [.i 0] (.t 11) (.t 11)),qm 6 12] (.g [qk 7 0] (.q (.g [qm 13 0,qn 14 1 13,Rq 15 (.y .sub 14 1),qm 8 15] (.q (.aK 0 (.loop [0,1,6,7,8] IR)) (.kp [6,7]))) (.e [qm 36 6,aq 37 300 36,qm 38 7,qm 4 37,qm 5 38]))))⟩
def CH:VC:=.q (.g [qm 3 0,qn 4 1 3,Rq 5 (.y .gtr 4 0),qm 6 5,Rt 7 6 (.m 0),Rt 8 6 (.m 0),Rt 9 6 (.len 1 (.t 8)),Rt 10 6 (.y .sub 9 1),Rt 11 6 (.bk 1 (.t 7) (.t 10)),Rt 12 6 (.ld 1 false (.t 11)),Rt 13 6 (.y .eql 12 0),qq 14 6 13] (.cond (.t 14) .skip (.exit 0))) (.aK 1 (.aP [qm 15 0,qm 16 0,qn 17 1 16,Rq 18 (.y .sub 17 1),Rq 19 (.ez (.sl 1) (.t 15) none (some (.t 18))),qm 0 19]))
def lT:aD:=⟨[.t 2],.g [qz 2] (.q (.q (.aK 0 (.loop [0] CH)) (.kp [0])) (.e [qm 20 0,qm 2 20]))⟩
def A7:VC:=.q (.g [qm 42 9,Rq 43 (.y .geq 42 1000000000),qm 44 43,Rf 45 44 (.m 9),Rf 46 44 (.m 1),Rf 47 44 (.m 7),Rf 48 44 (.y .sub 47 2),Rf 49 44 (.bk 1 (.t 46) (.t 48)),Rf 50 44 (.ld 1 false (.t 49)),Rf 51 44 (.z .mul 45 50),Rf 52 44 (.m 10),Rf 53 44 (.y .mul 52 1000000000),Rf 54 44 (.m 0),Rf 55 44 (.m 2),Rf 56 44 (.m 7),Rf 57 44 (.z .add 55 56),Rf 58 44 (.y .sub 57 2),Rf 59 44 (.bk 1 (.t 54) (.t 58)),Rf 60 44 (.ld 1 false (.t 59)),Rf 61 44 (.z .add 53 60),Rf 62 44 (.z .gtr 51 61),qp 63 44 62] (.cond (.t 63) .skip (.exit 0))) (.aK 1 (.g [qm 64 9,Rq 65 (.y .sub 64 1),qm 9 65] (.g [qm 66 10,qm 67 1,qm 68 7,Rq 69 (.y .sub 68 1),qi 70 1 67 69,ql 71 1 70,qA 72 66 71,qm 10 72] (.g [qm 73 10,Rq 74 (.y .geq 73 1000000000)] (.i 74 (.e [qm 75 9,qm 6 75]))))))
def zN:aD:=⟨[.t 6],.g [qk 6 0] (.g [qm 11 1,qn 12 1 11,qm 7 12] (.g [qm 13 0,qm 14 2,qm 15 7,qA 16 14 15,qi 17 1 13 16,ql 18 1 17,Rq 19 (.y .mul 18 1000000000),qm 20 0,qm 21 2,qm 22 7,qA 23 21 22,Rq 24 (.y .sub 23 1),qi 25 1 20 24,ql 26 1 25,qA 27 19 26,qm 8 27] (.g [qm 28 8,qm 29 1,qm 30 7,Rq 31 (.y .sub 30 1),qi 32 1 29 31,ql 33 1 32,Rq 34 (.z .quo 28 33),qm 35 8,qm 36 1,qm 37 7,Rq 38 (.y .sub 37 1),qi 39 1 36 38,ql 40 1 39,Rq 41 (.z .rem 35 40),qm 9 34,qm 10 41] (.q (.q (.aK 0 (.loop [0,1,2,7,9,10] A7)) (.kp [9])) (.e [qm 76 9,qm 6 76])))))⟩
def rN:aD:=⟨[.t 4],.g [qk 4 0] (.h [qm 5 1,qm 6 0,qn 7 1 6,qT 8 5 7] 8 (.e [qm 9 0,qm 10 1,qi 11 1 9 10,ql 12 1 11,qm 4 12]) (.e [qk 4 0]))⟩
end
section
def Uc:aD:=⟨[.t 2],.g [qb 1 3 0,qf 2] (.e [qo 3 0 1,qo 4 0 3,ql 5 1 4,qo 6 0 1,qo 7 1 6,ql 8 1 7,qo 9 2 1,ql 10 1 9,Rq 11 (.bN 3 1 [.str [],.str [],.str []] [(0,1,.t 5),(1,1,.t 8),(2,1,.t 10)]),aq 12 305 11,qm 2 12])⟩
def EH:VC:=.q (.g [qm 4 3,qm 5 0,qn 6 1 5,qT 7 4 6] (.cond (.t 7) .skip (.exit 0))) (.q (.aK 1 (.g [qm 10 0,qm 11 3,qi 12 1 10 11,ql 13 1 12,qn 14 0 13,Rq 15 (.y .gtr 14 40)] (.i 15 (.e [qf 2])))) (.aP [qm 8 3,qa 9 8 1,qm 3 9]))
def JG:aD:=⟨[.t 2],.g [qf 2] (.q (.g [qk 3 0] (.q (.aK 0 (.loop [0,3] EH)) (.kp []))) (.e [Rq 2 (.bQ (.c (.bool true)))]))⟩
def Ud:aD:=⟨[.t 2],.g [qb 1 3 0,qk 2 0] (.e [qo 3 0 1,qL 4 2 3,aq 5 308 4,qo 6 2 1,ql 7 1 6,aq 8 307 7,Rq 9 (.bN 2 1 [.i 0,.i 0] [(0,1,.t 5),(1,1,.t 8)]),aq 10 42 9,qm 2 10])⟩
def Ue:aD:=⟨[.t 2],.g [qk 2 0] (.e [qm 3 0,Rq 4 (.q 314 [.t 3,.k 0]),qm 2 4])⟩
def Uf:aD:=⟨[.t 2],.g [qb 1 2 0,qk 2 0] (.e [qo 3 0 1,ql 4 1 3,qo 5 1 1,ql 6 1 5,Rq 7 (.bN 2 1 [.str [],.str []] [(0,1,.t 4),(1,1,.t 6)]),aq 8 261 7,qm 2 8])⟩
def Fo:aD:=⟨[.t 4],.g [qb 2 3 0,qf 4] (.e [qo 5 2 2,ql 6 1 5,Rq 7 (.bin .eql (.t 6) (.s [48])),qm 8 7,Rf 9 8 (.m 1),Rf 10 8 (.off 2 (.t 2)),Rf 11 8 (.ld 1 false (.t 10)),Rf 12 8 (.q 315 [.t 9,.t 11]),Rf 13 8 (.y .lss 12 0),qp 14 8 13,qm 4 14])⟩
def zO:aD:=⟨[.t 8],.g [qb 4 2 0,qb 7 2 3,qf 8] (.h [qm 9 2,qE 10 9 0] 10 (.aP [qo 11 0 7,ql 12 1 11,qo 13 1 7,ql 14 1 13,Rq 15 (.bN 2 1 [.str [],.str []] [(0,1,.t 12),(1,1,.t 14)]),aq 16 316 15,qm 2 16]) (.h [qm 17 2,qN 18 17 0] 18 (.e [qL 19 2 4,Rq 20 (.cC [.str [],.str []] []),Rq 21 (.eq false (.ag [2,2]) (.t 19) (.t 20)),qm 22 21,Rt 23 22 (.m 1),Rt 24 22 (.m 2),Rt 25 22 (.z .eql 23 24),qq 26 22 25,qm 8 26]) (.e [qm 27 1,qE 28 27 0,qm 29 28,Rt 30 29 (.ld 2 true (.t 4)),Rt 31 29 (.ld 2 true (.t 7)),Rt 32 29 (.eq false (.ag [2,2]) (.t 30) (.t 31)),qq 33 29 32,qm 8 33])))⟩
def Ou:aD:=⟨[.cell 6 2 true],.g [qb 3 3 0,qb 5 2 2,Rq 6 (.box 2 (.c (.agg [.str [],.str []])))] (.g [Rq 7 (.bQ (.s [49]))] (.h [qo 8 2 3,ql 9 1 8,Rq 10 (.bin .neq (.t 9) (.s [48]))] 10 (.aP [qm 11 1,qo 12 2 3,ql 13 1 12,aF 14 266 11 13,Rq 15 (.q 271 [.s [49],.t 14]),qm 7 15]) (.e [qm 16 7,qL 17 2 5,aF 18 317 16 17,qm 19 1,qo 20 0 3,qL 21 2 20,kG 22 318 18 19 21,qs 2 6 22])))⟩
def JH:aD:=⟨[.t 4],.g [qk 4 0] (.g [qm 6 0,aq 7 263 6,qm 5 7] (.h [qm 8 5,qE 9 8 0,qm 10 9,Rt 11 10 (.m 0),Rt 12 10 (.q 262 [.t 11]),Rt 13 10 (.m 1),Rt 14 10 (.z .lss 12 13),qq 15 10 14] 15 (.aP [qk 5 3]) (.e [qm 16 5,qm 4 16])))⟩
def JI:aD:=⟨[.t 4],.g [qk 4 0] (.e [qm 5 0,qm 6 1,aF 7 271 5 6,aq 8 262 7,qm 4 8])⟩
def EI:VC:=.q (.g [qm 4 3,qm 5 0,qn 6 1 5,qT 7 4 6] (.cond (.t 7) .skip (.exit 0))) (.q (.aK 1 (.g [qm 10 0,qm 11 3,qi 12 1 10 11,ql 13 1 12,aq 14 269 13,qN 15 14 0] (.i 15 (.e [qk 2 4])))) (.aP [qm 8 3,qa 9 8 1,qm 3 9]))
def C9:aD:=⟨[.t 2],.g [qk 2 0] (.q (.g [qk 3 0] (.q (.aK 0 (.loop [0,3] EI)) (.kp []))) (.e [qk 2 0]))⟩
def Ug:aD:=⟨[.cell 4 2 true],.g [qb 3 2 1,Rq 4 (.box 2 (.c (.agg [.str [],.str []])))] (.e [Rq 5 (.cC [.str [],.str []] [(0,1,.s [48]),(1,1,.s [48])]),qm 6 0,qL 7 2 3,kG 8 318 5 6 7,qs 2 4 8])⟩
def Uh:aD:=⟨[.cell 6 2 true],.g [qb 3 2 0,qb 5 2 2,Rq 6 (.box 2 (.c (.agg [.str [],.str []])))] (.e [qo 7 0 3,ql 8 1 7,qm 9 1,qo 10 0 5,ql 11 1 10,aF 12 267 9 11,aF 13 264 8 12,qo 14 1 3,ql 15 1 14,qm 16 1,qo 17 1 5,ql 18 1 17,aF 19 267 16 18,aF 20 264 15 19,Rq 21 (.cC [.str [],.str []] [(0,1,.t 13),(1,1,.t 20)]),qs 2 6 21])⟩
def JJ:aD:=⟨[.t 4],.g [qb 2 8 0,qf 4] (.e [qo 5 0 2,ql 6 1 5,qm 7 1,aF 8 2 6 7,qm 9 8,Rt 10 9 (.off 1 (.t 2)),Rt 11 9 (.ld 1 false (.t 10)),Rt 12 9 (.off 2 (.t 2)),Rt 13 9 (.ld 1 false (.t 12)),Rt 14 9 (.off 3 (.t 2)),Rt 15 9 (.ld 1 false (.t 14)),Rt 16 9 (.off 4 (.t 2)),Rt 17 9 (.off 0 (.t 16)),Rt 18 9 (.ld 1 false (.t 17)),Rt 19 9 (.off 4 (.t 2)),Rt 20 9 (.off 1 (.t 19)),Rt 21 9 (.ld 1 false (.t 20)),Rt 22 9 (.off 6 (.t 2)),Rt 23 9 (.off 0 (.t 22)),Rt 24 9 (.ld 1 false (.t 23)),Rt 25 9 (.off 6 (.t 2)),Rt 26 9 (.off 1 (.t 25)),Rt 27 9 (.ld 1 false (.t 26)),Rt 28 9 (.bN 7 1 [.str [],.str [],.str [],.str [],.str [],.str [],.str []] [(0,1,.t 11),(1,1,.t 13),(2,1,.t 15),(3,1,.t 18),(4,1,.t 21),(5,1,.t 24),(6,1,.t 27)]),Rt 29 9 (.q 305 [.t 28]),qq 30 9 29,qm 4 30])⟩
def Ov:aD:=⟨[.cell 8 2 true],.g [qb 4 8 0,qb 5 3 1,qb 6 2 2,Rq 8 (.box 2 (.c (.agg [.str [],.str []])))] (.e [qo 9 2 4,ql 10 1 9,qL 11 3 5,qo 12 1 4,ql 13 1 12,qL 14 2 6,kG 15 311 11 13 14,aF 16 317 10 15,qo 17 4 4,qL 18 2 17,Rq 19 (.q 318 [.t 16,.s [49],.t 18]),qm 20 3,aq 21 265 20,qo 22 6 4,qL 23 2 22,kG 24 318 19 21 23,qs 2 8 24])⟩
def Ui:aD:=⟨[.cell 4 12 true],.g [qb 3 2 1,Rq 4 (.box 12 (.c (.agg [.i 0,.i 0,.str [],.i 0,.i 0,.str [],.i 0,.i 0,.str [],.i 0,.i 0,.str []])))] (.g [qo 15 0 3,ql 16 1 15,aq 17 336 16,qo 18 1 3,ql 19 1 18,aq 20 336 19,qm 5 17,qm 6 20] (.g [qo 21 0 3,ql 22 1 21,qm 23 5,aF 24 271 22 23,qo 25 1 3,ql 26 1 25,qm 27 6,aF 28 271 26 27,qm 7 24,qm 8 28] (.g [qm 29 5,qm 30 0,aF 31 337 29 30,qm 32 6,qm 33 0,aF 34 337 32 33,qm 9 31,qm 10 34] (.g [qm 35 9,qa 36 35 1,qm 37 0,Rq 38 (.z .rem 36 37),qm 39 10,qa 40 39 1,qm 41 0,Rq 42 (.z .rem 40 41),qm 11 38,qm 12 42] (.g [qm 43 7,Rq 44 (.q 271 [.s [49],.t 43]),qm 45 8,Rq 46 (.q 271 [.s [49],.t 45]),qm 13 44,qm 14 46] (.e [qm 47 9,qm 48 10,qm 49 13,qm 50 14,aF 51 267 49 50,Rq 52 (.cC [.i 0,.i 0,.str []] [(0,1,.t 47),(1,1,.t 48),(2,1,.t 51)]),qm 53 11,qm 54 10,qm 55 7,qm 56 14,aF 57 267 55 56,Rq 58 (.cC [.i 0,.i 0,.str []] [(0,1,.t 53),(1,1,.t 54),(2,1,.t
 57)]),qm 59 9,qm 60 12,qm 61 13,qm 62 8,aF 63 267 61 62,Rq 64 (.cC [.i 0,.i 0,.str []] [(0,1,.t 59),(1,1,.t 60),(2,1,.t 63)]),qm 65 11,qm 66 12,qm 67 7,qm 68 8,aF 69 267 67 68,Rq 70 (.cC [.i 0,.i 0,.str []] [(0,1,.t 65),(1,1,.t 66),(2,1,.t 69)]),Rq 71 (.cC [.i 0,.i 0,.str [],.i 0,.i 0,.str [],.i 0,.i 0,.str [],.i 0,.i 0,.str []] [(0,3,.t 52),(3,3,.t 58),(6,3,.t 64),(9,3,.t 70)]),qs 12 4 71]))))))⟩
def Ow:aD:=⟨[.t 2],.g [qb 1 8 0,qk 2 0] (.e [qo 3 0 1,ql 4 1 3,aq 5 3 4,qo 6 1 1,ql 7 1 6,aq 8 307 7,qo 9 2 1,ql 10 1 9,Rq 11 (.q 314 [.t 10,.k 1]),qo 12 3 1,ql 13 1 12,aq 14 263 13,qo 15 4 1,qL 16 2 15,aq 17 308 16,qo 18 6 1,qL 19 2 18,aq 20 308 19,Rq 21 (.bN 6 1 [.i 0,.i 0,.i 0,.i 0,.i 0,.i 0] [(0,1,.t 5),(1,1,.t 8),(2,1,.t 11),(3,1,.t 14),(4,1,.t 17),(5,1,.t 20)]),aq 22 42 21,qm 2 22])⟩
def Fp:aD:=⟨[.t 2],.g [Rq 2 (.bQ (.s []))] (.h [qm 5 0,aq 6 338 5] 6 (.e [qm 7 0,qm 2 7]) (.g [qm 9 0,aq 10 274 9,qm 8 10,qe 11 0 8,qe 12 1 8,Rq 3 (.box 2 (.c (.agg [.bool false,.ab]))),Rq 4 (.box 2 (.c (.agg [.bool false,.ab]))),qs 2 3 11,qs 2 4 12] (.e [qL 13 2 3,qL 14 2 4,aF 15 339 13 14,aq 16 282 15,qm 2 16])))⟩
def Ox:aD:=⟨[.t 4],.g [qk 4 0] (.g [qm 8 1,aq 9 265 8,qm 5 9] (.g [qm 11 0,qm 12 5,qm 13 0,qm 14 5,aF 15 266 13 14,aq 16 336 15,aF 17 267 12 16,aF 18 271 11 17,aq 19 340 18,qm 10 19,qe 20 0 10,qe 21 1 10,qm 6 20,qm 7 21] (.e [qm 22 6,qm 4 22])))⟩
def Bw:aD:=⟨[.t 2],.g [qf 2] (.e [qm 3 0,aq 4 272 3,qm 5 0,qn 6 0 5,Rq 7 (.z .eql 4 6),qm 2 7])⟩
def Bx:aD:=⟨[.cell 4 2 true],.g [qb 2 2 0,qb 3 2 1,Rq 4 (.box 2 (.c (.agg [.bool false,.ab])))] (.g [qo 8 1 2,ql 9 1 8,qo 10 1 3,ql 11 1 10,aF 12 289 9 11,qm 7 12,qe 13 0 7,qe 14 1 7,qm 5 13,qm 6 14] (.h [qo 15 0 2,ql 16 1 15,qm 17 16,Rt 18 17 (.m 6),Rt 19 17 (.len 1 (.t 18)),Rt 20 17 (.y .gtr 19 0),qq 21 17 20] 21 (.aP [qm 22 5,Rq 23 (.bN 1 1 [.i 0] [(0,1,.k 1)]),aF 24 295 22 23,qm 5 24]) (.e [qo 25 0 2,ql 26 1 25,qm 27 5,aF 28 294 26 27,qs 2 4 28])))⟩
def SG:VC:=.q (.g [qm 22 6,Rq 23 (.y .geq 22 0)] (.cond (.t 23) .skip (.exit 0))) (.q (.aK 1 (.g [qo 26 1 4,ql 27 1 26,qm 28 6,qi 29 1 27 28,ql 30 1 29,qm 7 30] (.h [qo 31 0 4,ql 32 1 31] 32 (.aP [qm 33 7,Rq 34 (.bin .sub (.k 0) (.t 33)),qm 7 34]) (.h [qm 35 5,Rq 36 (.y .gtr 35 9223372036),qm 37 36,Rf 38 37 (.m 5),Rf 39 37 (.y .lss 38 (-9223372036)),qp 40 37 39,qm 41 40,Rf 42 41 (.m 5),Rf 43 41 (.y .eql 42 9223372036),Rf 44 41 (.m 43),Rt 45 44 (.m 7),Rt 46 44 (.y .gtr 45 854775807),Rf 47 41 (.pick (.t 44) (.t 46) (.c (.bool false))),qp 48 41 47,qm 49 48,Rf 50 49 (.m 5),Rf 51 49 (.y .eql 50 (-9223372036)),Rf 52 49 (.m 51),Rt 53 52 (.m 7),Rt 54 52 (.y .lss 53 (-854775808)),Rf 55 49 (.pick (.t 52) (.t 54) (.c (.bool false))),qp 56 49 55] 56 (.e [qk 2 0,qf 3]) (.aP [qm 57 5,Rq 58 (.y .mul 57 1000000000),qm 59 7,qA 60 58 59,qm 5 60]))))) (.aP [qm 24 6,Rq 25 (.y .sub 24 1),qm 6 25]))
def Fs:aD:=⟨[.t 2,.t 3],.g [qk 2 0,qf 3] (.h [qm 8 0,aq 9 338 8,Rq 10 (.un .not (.t 9)),qm 11 10,Rf 12 11 (.m 0),Rf 13 11 (.len 0 (.t 12)),Rf 14 11 (.y .gtr 13 20),qp 15 11 14] 15 (.e [qk 2 0,qf 3]) (.g [qm 16 0,aq 17 288 16,Rq 4 (.box 2 (.c (.agg [.bool false,.ab]))),qs 2 4 17] (.g [qk 5 0] (.q (.g [qo 18 1 4,ql 19 1 18,qn 20 1 19,Rq 21 (.y .sub 20 1),qm 6 21] (.q (.aK 0 (.loop [4,5,6] SG)) (.kp [5]))) (.e [qm 61 5,qm 2 61,Rq 3 (.bQ (.c (.bool true)))])))))⟩
def Ft:aD:=⟨[.cell 4 8 true,.t 5],.g [qb 2 8 0,Rq 4 (.box 8 (.c (.agg [.ab,.str [],.str [],.str [],.str [],.str [],.str [],.str []]))),qk 5 0] (.q (.g [qL 10 8 2,aq 11 115 10,qm 12 1,aq 13 51 12,Rq 14 (.bN 2 1 [.i 0,.i 0] [(0,1,.t 11),(1,1,.t 13)]),aq 15 33 14,qm 6 15] (.g [qm 16 6,qN 17 16 0] (.i 17 (.e [Rq 18 (.cC [.ab,.str [],.str [],.str [],.str [],.str [],.str [],.str []] []),qm 19 6,qs 8 4 18,qm 5 19])))) (.g [qo 21 4 2,qL 22 2 21,aq 23 54 22,qo 24 6 2,qL 25 2 24,aq 26 54 25,qm 27 1,aq 28 69 27,aF 29 75 26 28,aF 30 112 23 29,aq 31 65 30,qm 20 31,qe 32 0 20,qe 33 1 20,Rq 7 (.box 2 (.c (.agg [.str [],.str []]))),qs 2 7 32,qm 8 33] (.h [qm 34 8,qN 35 34 0] 35 (.e [Rq 36 (.cC [.ab,.str [],.str [],.str [],.str [],.str [],.str [],.str []] []),qm 37 8,qs 8 4 36,qm 5 37]) (.g [qL 38 8 2,Rq 9 (.box 8 (.c (.agg [.ab,.str [],.str [],.str [],.str [],.str [],.str [],.str []]))),qs 8
 9 38] (.g [qL 39 2 7,qo 40 4 9,qs 2 40 39] (.g [qo 41 0 2,ql 42 1 41,qn 43 1 42,Rq 44 (.pk (.f 365) [] [.t 2]),aF 45 40 43 44,qo 46 0 9,qs 1 46 45] (.e [qL 47 8 9,qs 8 4 47,qk 5 0])))))))⟩
def Oy:aD:=⟨[.t 4],.g [qb 2 8 0,qb 3 8 1,qf 4] (.e [qo 5 0 2,ql 6 1 5,qo 7 0 3,ql 8 1 7,aF 9 21 6 8,qm 10 9,Rt 11 10 (.off 1 (.t 2)),Rt 12 10 (.ld 1 false (.t 11)),Rt 13 10 (.off 1 (.t 3)),Rt 14 10 (.ld 1 false (.t 13)),Rt 15 10 (.z .eql 12 14),qq 16 10 15,qm 17 16,Rt 18 17 (.off 2 (.t 2)),Rt 19 17 (.ld 1 false (.t 18)),Rt 20 17 (.off 2 (.t 3)),Rt 21 17 (.ld 1 false (.t 20)),Rt 22 17 (.z .eql 19 21),qq 23 17 22,qm 24 23,Rt 25 24 (.off 3 (.t 2)),Rt 26 24 (.ld 1 false (.t 25)),Rt 27 24 (.off 3 (.t 3)),Rt 28 24 (.ld 1 false (.t 27)),Rt 29 24 (.z .eql 26 28),qq 30 24 29,qm 31 30,Rt 32 31 (.off 4 (.t 2)),Rt 33 31 (.ld 2 true (.t 32)),Rt 34 31 (.off 4 (.t 3)),Rt 35 31 (.ld 2 true (.t 34)),Rt 36 31 (.eq false (.ag [2,2]) (.t 33) (.t 35)),qq 37 31 36,qm 38 37,Rt 39 38 (.off 6 (.t 2)),Rt 40 38 (.ld 2 true (.t 39)),Rt 41 38 (.off 6 (.t 3)),Rt 42 38 (.ld 2 true (.t 41)),Rt 43 38 (.eq false (.ag [2,2]) (.t 40)
 (.t 42)),qq 44 38 43,qm 4 44])⟩
def JK:aD:=⟨[.t 5],.g [qk 5 0] (.e [qo 6 0 2,ql 7 1 6,qm 8 1,qi 9 1 7 8,ql 10 1 9,qm 11 0,qi 12 1 10 11,ql 13 1 12,qm 5 13])⟩
def Uj:aD:=⟨[.t 8],.g [qb 4 8 0,qb 5 3 1,qb 6 2 2,Rq 8 (.bQ (.s []))] (.e [qo 9 3 4,ql 10 1 9,qo 11 0 4,ql 12 1 11,qL 13 8 4,qL 14 3 5,qL 15 2 6,qm 16 3,oe 17 333 13 14 15 16,aF 18 377 12 17,aF 19 267 10 18,qm 8 19])⟩
def IS:VC:=.q (.g [qm 12 7,Rq 13 (.y .lss 12 4)] (.cond (.t 13) .skip (.exit 0))) (.q (.aK 1 (.aP [qm 16 6,qm 17 7,Rq 18 (.nZ 4 3 (.t 5) (.t 17)),qo 19 2 18,ql 20 1 19,qm 21 0,qm 22 7,Rq 23 (.nZ 4 3 (.t 5) (.t 22)),qo 24 1 23,ql 25 1 24,qi 26 1 21 25,ql 27 1 26,qm 28 7,Rq 29 (.nZ 4 3 (.t 5) (.t 28)),qo 30 0 29,ql 31 1 30,qi 32 1 27 31,ql 33 1 32,aq 34 265 33,aF 35 267 20 34,aF 36 264 16 35,qm 6 36])) (.aP [qm 14 7,qa 15 14 1,qm 7 15]))
def Uk:aD:=⟨[.t 4],.g [qb 3 2 1,Rq 4 (.bQ (.s []))] (.g [qm 8 0,qn 9 1 8,qL 10 2 3,aF 11 334 9 10,Rq 5 (.box 12 (.c (.agg [.i 0,.i 0,.str [],.i 0,.i 0,.str [],.i 0,.i 0,.str [],.i 0,.i 0,.str []]))),qs 12 5 11] (.g [Rq 6 (.bQ (.s [48]))] (.q (.g [qk 7 0] (.q (.aK 0 (.loop [0,5,6,7] IS)) (.kp [6]))) (.e [qm 37 6,qm 4 37]))))⟩
def EJ:VC:=.g [Rq 217 (.y .lss 216 4)] (.q (.cond (.t 217) .skip (.exit 0)) (.q (.aK 1 (.g [qm 218 216,qm 20 218] (.g [qm 219 20,Rq 220 (.nZ 4 3 (.t 19) (.t 219)),qo 221 2 220,ql 222 1 221,aq 223 269 222,qN 224 223 0] (.i 224 (.e [qL 225 12 10,Rq 226 (.cC [.i 0,.i 0,.str [],.i 0,.i 0,.str [],.i 0,.i 0,.str [],.i 0,.i 0,.str []] []),Rq 227 (.eq false (.ag [1,1,2,1,1,2,1,1,2,1,1,2]) (.t 225) (.t 226)),qm 228 227,Rt 229 228 (.m 11),Rt 230 228 (.y .eql 229 4),qq 231 228 230,qm 4 231]))))) (.aP [qa 232 216 1,qm 216 232])))
def IT:VC:=.g [Rq 234 (.y .lss 233 4)] (.q (.cond (.t 234) .skip (.exit 2)) (.q (.aK 3 (.g [qm 235 233,qm 21 235] (.g [qm 236 21,Rq 237 (.nZ 4 3 (.t 10) (.t 236)),qL 238 3 237,qm 239 21,Rq 240 (.nZ 4 3 (.t 19) (.t 239)),qL 241 3 240,Rq 242 (.eq true (.ag [1,1,2]) (.t 238) (.t 241))] (.i 242 (.e [qf 4]))))) (.aP [qa 243 233 1,qm 233 243])))
def ic:aD:=⟨[.t 4],.g [qb 2 8 0,qb 3 6 1,qf 4] (.h [pJ 22 1,Rq 23 (.un .not (.t 22)),qm 24 23,Rf 25 24 (.ld 8 true (.t 2)),Rf 26 24 (.q 327 [.t 25,.k 6]),Rf 27 24 (.un .not (.t 26)),qp 28 24 27,qm 29 28,Rf 30 29 (.off 0 (.t 3)),Rf 31 29 (.ld 3 true (.t 30)),Rf 32 29 (.q 304 [.t 31]),Rf 33 29 (.un .not (.t 32)),qp 34 29 33,qm 35 34,Rf 36 35 (.off 3 (.t 3)),Rf 37 35 (.off 0 (.t 36)),Rf 38 35 (.ld 1 false (.t 37)),Rf 39 35 (.off 3 (.t 3)),Rf 40 35 (.off 1 (.t 39)),Rf 41 35 (.ld 1 false (.t 40)),Rf 42 35 (.bN 2 1 [.str [],.str []] [(0,1,.t 38),(1,1,.t 41)]),Rf 43 35 (.q 305 [.t 42]),Rf 44 35 (.un .not (.t 43)),qp 45 35 44] 45 (.e [pJ 46 1,qm 4 46]) (.g [qL 47 8 2,qo 48 0 3,qL 49 3 48,Rq 5 (.box 8 (.c (.agg [.ab,.str [],.str [],.str [],.str [],.str [],.str [],.str []]))),Rq 6 (.box 3 (.c (.agg [.str [],.str [],.str []]))),⟨none,none,.jA [(3,true,48)] 8 (.t 5) (.t 47)⟩,qs 3 6 49] (.g [qL 50 8 5,aq
 51 335 50,qm 7 51] (.h [qL 52 8 2,aq 53 115 52,qm 54 7,Rq 55 (.z .neq 53 54)] 55 (.e [qf 4]) (.g [qL 57 8 2,qo 58 0 3,qL 59 3 58,qo 60 3 3,qL 61 2 60,qo 62 5 3,ql 63 1 62,oe 64 379 57 59 61 63,qm 56 64,qe 65 0 56,qe 66 1 56,Rq 8 (.box 2 (.c (.agg [.str [],.str []]))),qs 2 8 65,qm 9 66] (.g [qL 68 8 2,qo 69 0 3,qL 70 3 69,qo 71 3 3,qL 72 2 71,qo 73 5 3,ql 74 1 73,oe 75 380 68 70 72 74,qm 67 75,qe 76 0 67,qe 77 1 67,Rq 10 (.box 12 (.c (.agg [.i 0,.i 0,.str [],.i 0,.i 0,.str [],.i 0,.i 0,.str [],.i 0,.i 0,.str []]))),qs 12 10 76,qm 11 77] (.g [qL 79 8 2,qo 80 0 3,qL 81 3 80,qo 82 3 3,qL 83 2 82,qo 84 5 3,ql 85 1 84,oe 86 24 79 81 83 85,qm 78 86,qe 87 0 78,qe 88 1 78,qm 12 87,qm 13 88] (.g [qL 90 8 2,qo 91 5 3,ql 92 1 91,aF 93 362 90 92,qm 89 93,qe 94 0 89,qe 95 1 89,Rq 14 (.box 8 (.c (.agg [.ab,.str [],.str [],.str [],.str [],.str [],.str [],.str []]))),qs 8 14 94,qm 15 95] (.g [qm 96
 7,qo 97 5 3,ql 98 1 97,aq 99 258 98,Rq 100 (.bN 2 1 [.i 0,.i 0] [(0,1,.t 96),(1,1,.t 99)]),aq 101 11 100,qm 16 101] (.g [Rq 17 (.box 8 (.c (.agg [.ab,.str [],.str [],.str [],.str [],.str [],.str [],.str []])))] (.h [qm 102 16,qE 103 102 0] 103 (.g [qL 104 8 5,qo 105 5 3,ql 106 1 105,aF 107 381 104 106,qs 8 17 107] (.aP [qo 108 4 17,qo 109 0 108,ql 110 1 109,qo 111 4 17,qo 112 1 111,ql 113 1 112,Rq 114 (.bN 2 1 [.str [],.str []] [(0,1,.t 110),(1,1,.t 113)]),aq 115 316 114,qm 16 115])) (.h [qm 116 16,qN 117 116 0,qm 118 117,Rt 119 118 (.m 15),Rt 120 118 (.m 16),Rt 121 118 (.z .neq 119 120),Rt 122 118 (.m 121),Rf 123 122 (.ld 8 true (.t 14)),Rf 124 122 (.cC [.ab,.str [],.str [],.str [],.str [],.str [],.str [],.str []] []),Rf 125 122 (.q 363 [.t 123,.t 124]),Rf 126 122 (.un .not (.t 125)),Rt 127 118 (.pick (.t 122) (.c (.bool true)) (.t 126)),qq 128 118 127,qm 129 128,Rf 130 129
 (.m 16),Rf 131 129 (.y .eql 130 0),Rf 132 129 (.m 131),Rt 133 132 (.m 15),Rt 134 132 (.y .neq 133 0),Rt 135 132 (.m 134),Rf 136 135 (.ld 8 true (.t 14)),Rf 137 135 (.ld 8 true (.t 17)),Rf 138 135 (.q 363 [.t 136,.t 137]),Rf 139 135 (.un .not (.t 138)),Rt 140 132 (.pick (.t 135) (.c (.bool true)) (.t 139)),Rf 141 129 (.pick (.t 132) (.t 140) (.c (.bool false))),qp 142 129 141] 142 (.e [qf 4]) (.g [qm 143 7,qL 144 3 6,aq 145 306 144,qo 146 3 3,qL 147 2 146,aq 148 308 147,qo 149 5 3,ql 150 1 149,aq 151 258 150,Rq 152 (.bN 4 1 [.i 0,.i 0,.i 0,.i 0] [(0,1,.t 143),(1,1,.t 145),(2,1,.t 148),(3,1,.t 151)]),aq 153 11 152,qm 7 153] (.h [qm 154 7,qE 155 154 0,qm 156 155,Rt 157 156 (.ld 3 true (.t 6)),Rt 158 156 (.off 1 (.t 5)),Rt 159 156 (.ld 1 false (.t 158)),Rt 160 156 (.q 309 [.t 157,.t 159]),Rt 161 156 (.un .not (.t 160)),qq 162 156 161] 162 (.aP [qk 7 31]) (.h [qm 163 7,qN 164 163 0] 164
 (.e [qL 165 2 8,qm 166 9,qm 167 7,Rq 168 (.cC [.str [],.str []] []),oe 169 310 165 166 167 168,qm 170 169,Rt 171 170 (.ld 12 true (.t 10)),Rt 172 170 (.cC [.i 0,.i 0,.str [],.i 0,.i 0,.str [],.i 0,.i 0,.str [],.i 0,.i 0,.str []] []),Rt 173 170 (.eq false (.ag [1,1,2,1,1,2,1,1,2,1,1,2]) (.t 171) (.t 172)),qq 174 170 173,qm 175 174,Rt 176 175 (.m 11),Rt 177 175 (.m 7),Rt 178 175 (.z .eql 176 177),qq 179 175 178,qm 180 179,Rt 181 180 (.m 12),Rt 182 180 (.m 13),Rt 183 180 (.m 7),Rt 184 180 (.q 255 [.t 181,.t 182,.t 183,.s []]),qq 185 180 184,qm 4 185]) (.g [qL 186 8 5,qL 187 3 6,qo 188 3 3,qL 189 2 188,qo 190 5 3,ql 191 1 190,oe 192 333 186 187 189 191,Rq 18 (.box 2 (.c (.agg [.str [],.str []]))),qs 2 18 192] (.h [qL 193 2 8,qm 194 9,qL 195 2 18,Rq 196 (.q 310 [.t 193,.t 194,.k 0,.t 195]),Rq 197 (.un .not (.t 196)),qm 198 197,Rf 199 198 (.m 12),Rf 200 198 (.m 13),Rf 201 198 (.ld 8 true
 (.t 5)),Rf 202 198 (.ld 3 true (.t 6)),Rf 203 198 (.off 3 (.t 3)),Rf 204 198 (.ld 2 true (.t 203)),Rf 205 198 (.off 5 (.t 3)),Rf 206 198 (.ld 1 false (.t 205)),Rf 207 198 (.q 376 [.t 201,.t 202,.t 204,.t 206]),Rf 208 198 (.q 255 [.t 199,.t 200,.k 0,.t 207]),Rf 209 198 (.un .not (.t 208)),qp 210 198 209] 210 (.e [qf 4]) (.g [qo 211 0 5,ql 212 1 211,qn 213 1 212,qL 214 2 18,aF 215 334 213 214,Rq 19 (.box 12 (.c (.agg [.i 0,.i 0,.str [],.i 0,.i 0,.str [],.i 0,.i 0,.str [],.i 0,.i 0,.str []]))),qs 12 19 215] (.q (.g [qk 216 0] (.q (.aK 0 (.loop [10,11,19,216] EJ)) (.kp [10,11,19]))) (.q (.g [qk 233 0] (.q (.aK 2 (.loop [10,11,19,233] IT)) (.kp [11]))) (.e [qm 244 11,qE 245 244 0,qm 4 245])))))))))))))))))))))⟩
def JL:aD:=⟨[.cell 8 2 true,.t 9],.g [qb 4 8 0,qb 5 3 1,qb 6 2 2,Rq 8 (.box 2 (.c (.agg [.str [],.str []]))),qk 9 0] (.q (.g [qL 11 8 4,qL 12 3 5,qL 13 2 6,qm 14 3,oe 15 66 11 12 13 14,qm 10 15] (.g [qm 16 10,qN 17 16 0] (.i 17 (.e [Rq 18 (.cC [.str [],.str []] []),qm 19 10,qs 2 8 18,qm 9 19])))) (.e [qL 20 8 4,qL 21 3 5,qL 22 2 6,qm 23 3,oe 24 116 20 21 22 23,aq 25 65 24,qe 26 0 25,qe 27 1 25,qs 2 8 26,qm 9 27]))⟩
def CI:VC:=.g [Rq 38 (.y .lss 37 4)] (.q (.cond (.t 38) .skip (.exit 0)) (.q (.aK 1 (.g [qm 39 37,Rq 40 (.qJ 4 4 true (.t 36) (.t 37)),Rq 14 (.box 4 (.c (.agg [.i 0,.ab,.i 0,.ab]))),qm 13 39,qs 4 14 40] (.h [qL 41 4 14,aq 42 107 41] 42 (.e [Rq 43 (.cC [.i 0,.i 0,.str [],.i 0,.i 0,.str [],.i 0,.i 0,.str [],.i 0,.i 0,.str []] []),qs 12 8 43,qk 9 4]) (.g [qL 45 10 11,qm 46 13,qo 47 0 4,ql 48 1 47,qn 49 1 48,kG 50 105 45 46 49,qm 44 50,qe 51 0 44,qe 52 1 44,qm 15 51,qm 16 52] (.aP [qm 53 13,qm 54 15,qm 55 16,qL 56 4 14,aq 57 46 56,Rq 58 (.cC [.i 0,.i 0,.str []] [(0,1,.t 54),(1,1,.t 55),(2,1,.t 57)]),Rq 59 (.nZ 4 3 (.t 12) (.t 53)),qs 3 59 58]))))) (.aP [qa 60 37 1,qm 37 60])))
def JM:aD:=⟨[.cell 8 12 true,.t 9],.g [qb 4 8 0,qb 5 3 1,qb 6 2 2,Rq 8 (.box 12 (.c (.agg [.i 0,.i 0,.str [],.i 0,.i 0,.str [],.i 0,.i 0,.str [],.i 0,.i 0,.str []]))),qk 9 0] (.q (.g [qL 17 8 4,qL 18 3 5,qL 19 2 6,qm 20 3,oe 21 66 17 18 19 20,qm 10 21] (.g [qm 22 10,qN 23 22 0] (.i 23 (.e [Rq 24 (.cC [.i 0,.i 0,.str [],.i 0,.i 0,.str [],.i 0,.i 0,.str [],.i 0,.i 0,.str []] []),qm 25 10,qs 12 8 24,qm 9 25])))) (.g [qL 26 8 4,qL 27 3 5,qL 28 2 6,qm 29 3,oe 30 116 26 27 28 29,qo 31 0 4,ql 32 1 31,qn 33 1 32,aF 34 55 30 33,Rq 11 (.box 10 (.c (.agg [.i 0,.i 0,.i 0,.ab,.i 0,.ab,.i 0,.ab,.i 0,.ab]))),qs 10 11 34] (.g [Rq 12 (.box 12 (.c (.agg [.i 0,.i 0,.str [],.i 0,.i 0,.str [],.i 0,.i 0,.str [],.i 0,.i 0,.str []])))] (.q (.g [qL 35 10 11,aq 36 104 35,qk 37 0] (.q (.aK 0 (.loop [4,8,11,12,36,37] CI)) (.kp [8,12]))) (.e [qL 61 12 12,qs 12 8 61,qk 9 0])))))⟩
def Oz:aD:=⟨[.cell 4 8 true],.g [qb 2 8 0,Rq 4 (.box 8 (.c (.agg [.ab,.str [],.str [],.str [],.str [],.str [],.str [],.str []])))] (.g [qo 5 4 2,qL 6 2 5,qm 7 1,aq 8 265 7,qo 9 6 2,qL 10 2 9,kG 11 318 6 8 10,qo 12 4 2,qs 2 12 11] (.e [qL 13 8 2,qs 8 4 13]))⟩
end
section
inductive Tr (α:Type) where
 | l
 | n (k:Nat) (v:α) (a b:Tr α)
def Tr.find {α:Type}:Tr α->Nat->Option α
 | .l,_=>none
 | .n k v a b,i=>bif yu i k then some v else bif yK i k then a.find i else b.find i
end
section
open Go (IntKind FloatKind)
def Nw:yV->Nat
 | .i8=>0 | .i16=>1 | .i32=>2 | .i64=>3 | .u8=>4 | .u16=>5 | .u32=>6 | .u64=>7
def Wg:Int->Int->Bool
 | .ofNat a,.ofNat b=>yu a b
 | .negSucc a,.negSucc b=>yu a b
 | _,_=>false
def PO:Bool->Bool->Bool
 | true,true | false,false=>true
 | _,_=>false
def eqF:vP->vP->Bool
 | .f32,.f32 | .f64,.f64=>true
 | _,_=>false
mutual
def gX:AV->AV->Bool
 | .int k a,.int k' b=>yu (Nw k) (Nw k')&&Wg a b
 | .bool a,.bool b=>PO a b
 | .dE k a,.dE k' b=>eqF k k'&&yu a b
 | .str a,.str b=>cA a b
 | .kB,.kB=>true
 | .aI a,.aI b=>mH a b
 | .ab,.ab=>true
 | .aE e n a,.aE e' n' b=>PO e e'&&(yu n n'&&mH a b)
 | .cJ e s n a,.cJ e' s' n' b=>PO e e'&&(yu s s'&&(yu n n'&&mH a b))
 | .fn (.f g) a b,.fn (.f g') a' b'=>yu g g'&&(mH a a'&&mH b b')
 | .iA,.iA=>true
 | .jP,.jP=>true
 | .jy a b,.jy a' b'=>mH a a'&&mH b b'
 | .agg a,.agg b=>mH a b
 | .ap a,.ap b=>mH a b
 | .undef,.undef=>true
 | _,_=>false
def mH:List AV->List AV->Bool
 | [],[]=>true
 | a::x,b::y=>gX a b&&mH x y
 | _,_=>false
end
def hI:Int->Nat
 | .ofNat n=>n
 | .negSucc n=>n+n
def hS:List Nat->Nat
 | []=>1
 | b::r=>(b+257*hS r)%65521
mutual
def hV:AV->Nat
 | .int _ n=>hI n
 | .bool b=>bif b then 1 else 2
 | .dE _ n=>n
 | .str s=>hS s
 | .aE _ n cs=>n+hL cs
 | .agg cs=>hL cs
 | .ap cs=>hL cs
 | _=>5
def hL:List AV->Nat
 | []=>7
 | v::r=>(hV v+263*hL r)%65521
end
abbrev Te:=Tr (List AV×AV)
abbrev aC:=List Te
def CJ (h:Nat) (vals:List AV):aC->Option AV
 | []=>none
 | t::l=>match t.find h with
  | some (a,r)=>bif mH a vals then some r else CJ h vals l
  | none=>CJ h vals l
def ad0 (vals:List AV) (l:aC):Option AV:=CJ (hL vals) vals l
abbrev Te.o (h:Nat) (a:List AV) (r:AV):Te:= .n h (a,r) .l .l
abbrev Te.m (h:Nat) (a:List AV) (r:AV) (x y:Te):Te:= .n h (a,r) x y
def CK (n:Nat):List (Tr aC)->Option aC
 | []=>none
 | t::r=>match t.find n with
  | none=>CK n r
  | some l=>match CK n r with | none=>some l | some m=>some (l++m)
def OA (L:Lib) (T:List (Tr aC)) (ex:Nat):Lib:=
 ⟨fun i=>match L.pure i with
  | some sp=>some sp
  | none=>bif yu i ex then none else match CK i T with | some l=>some (fun vals=>ad0 vals l) | none=>none,L.heap⟩
def JN (P:aG) (L:Lib) (f:Nat):Te->Bool
 | .l=>true
 | .n _ e x y=>(match Vt P L 100000 f e.1 with | some r'=>gX r' e.2 | none=>false)&&(JN P L f x&&JN P L f y)
def Nx (P:aG) (L:Lib) (f:Nat):aC->Bool
 | []=>true
 | t::l=>JN P L f t&&Nx P L f l
def iZ (P:aG) (L:Lib) (T:List (Tr aC)):List (Nat×aC)->Bool
 | []=>true
 | (f,l)::C=>Nx P (OA L T f) f l&&iZ P L T C
end
section
open Go
def akG {a b:yV} (h:yu (Nw a) (Nw b)=true):a=b:=by
 cases a<;>cases b<;>first | rfl | (exact absurd h (by decide))
def amN {a b:Int} (h:Wg a b=true):a=b:=by
 cases a<;>cases b<;>simp only [Wg,reduceCtorEq] at h<;>rw [yp h]
def RU {a b:Bool} (h:PO a b=true):a=b:=by
 cases a<;>cases b<;>first | rfl | (exact absurd h (by decide))
def amO {a b:vP} (h:eqF a b=true):a=b:=by
 cases a<;>cases b<;>first | rfl | (exact absurd h (by decide))
mutual
def aat:∀(a b:AV),gX a b=true->a=b
 | .int k a,b,h=>by
  cases b<;>simp only [gX,yg,yD] at h
  rw [akG h.1,amN h.2]
 | .bool a,b,h=>by
  cases b<;>simp only [gX,yD] at h
  rw [RU h]
 | .dE k a,b,h=>by
  cases b<;>simp only [gX,yg,yD] at h
  rw [amO h.1,yp h.2]
 | .str a,b,h=>by
  cases b<;>simp only [gX,yD] at h
  rw [RO h]
 | .kB,b,h=>by cases b<;>simp only [gX,yD] at h;rfl
 | .ptr _ _,b,h=>by cases b<;>simp only [gX,yD] at h
 | .aI a,b,h=>by
  cases b<;>simp only [gX,yD] at h
  rw [pU _ _ h]
 | .ab,b,h=>by cases b<;>simp only [gX,yD] at h;rfl
 | .aE e n a,b,h=>by
  cases b<;>simp only [gX,yg,yD] at h
  rw [RU h.1,yp h.2.1,pU _ _ h.2.2]
 | .cJ e s n a,b,h=>by
  cases b<;>simp only [gX,yg,yD] at h
  rw [RU h.1,yp h.2.1,yp h.2.2.1,pU _ _ h.2.2.2]
 | .an _ _ _,b,h=>by cases b<;>simp only [gX,yD] at h
 | .fn (.f g) x y,b,h=>by
  cases b<;>try (simp only [gX,yD] at h;done)
  rename_i fr _ _;cases fr<;>simp only [gX,yg,yD] at h
  rw [yp h.1,pU _ _ h.2.1,pU _ _ h.2.2]
 | .fn (.y _) _ _,b,h=>by cases b<;>simp only [gX,yD] at h
 | .iA,b,h=>by cases b<;>simp only [gX,yD] at h;rfl
 | .jP,b,h=>by cases b<;>simp only [gX,yD] at h;rfl
 | .map _,b,h=>by cases b<;>simp only [gX,yD] at h
 | .jy x y,b,h=>by
  cases b<;>simp only [gX,yg,yD] at h
  rw [pU _ _ h.1,pU _ _ h.2]
 | .it _,b,h=>by cases b<;>simp only [gX,yD] at h
 | .agg a,b,h=>by
  cases b<;>simp only [gX,yD] at h
  rw [pU _ _ h]
 | .ap a,b,h=>by
  cases b<;>simp only [gX,yD] at h
  rw [pU _ _ h]
 | .undef,b,h=>by cases b<;>simp only [gX,yD] at h;rfl
def pU:∀(a b:List AV),mH a b=true->a=b
 | [],b,h=>by cases b<;>simp only [mH,yD] at h;rfl
 | x::a,b,h=>by
  cases b<;>simp only [mH,yg,yD] at h
  rw [aat _ _ h.1,pU _ _ h.2]
end
def Tr.Has {α:Type} (x:α):Tr α->Prop
 | .l=>False
 | .n _ v a b=>v=x\/a.Has x\/b.Has x
def Tr.RW {α:Type} {h:Nat} {x:α}:∀{t:Tr α},t.find h=some x->t.Has x
 | .l,hf=>by simp [Tr.find] at hf
 | .n k v a b,hf=>by
  simp only [Tr.find] at hf
  cases h1:yu h k with
  | true=>rw [h1] at hf;simp only [ym,yc] at hf;exact .inl hf
  | false=>
   rw [h1] at hf
   cases h2:yK h k with
   | true=>rw [h2] at hf;exact .inr (.inl (Tr.RW hf))
   | false=>rw [h2] at hf;exact .inr (.inr (Tr.RW hf))
def PP (vals:List AV) (r:AV) (l:aC):Prop:=∃t,t∈l/\t.Has (vals,r)
def YL {h:Nat} {vals:List AV} {r:AV}:∀{l:aC},CJ h vals l=some r->PP vals r l
 | [],hf=>by simp [CJ] at hf
 | t::l,hf=>by
  have tail:CJ h vals l=some r->PP vals r (t::l):=fun q=>by
   obtain ⟨t',h1,h2⟩:=YL q;exact ⟨t',wY _ h1,h2⟩
  simp only [CJ] at hf
  split at hf
  ·rename_i a q he
   cases hb:mH a vals with
   | true=>
    rw [hb] at hf;simp only [ym,yc] at hf;rw [pU _ _ hb,hf] at he;exact ⟨t,uE,Tr.RW he⟩
   | false=>
    grind
  ·grind
def akH {vals:List AV} {r:AV} {l:aC} (h:ad0 vals l=some r):PP vals r l:=YL h
def lf (O:bA) (f:Nat) (l:aC):Prop:=∀vals r,PP vals r l->eX O f vals r
def lf.nil {O:bA} {f:Nat}:lf O f []:=fun _ _ h=>by obtain ⟨t,h,_⟩:=h;cases h
def lf.dL {O:bA} {f:Nat} {a b:aC} (ha:lf O f a) (hb:lf O f b):lf O f (a++b):=fun v r h=>by
 obtain ⟨t,h,h2⟩:=h;exact (List.mem_append.1 h).elim (fun h=>ha v r ⟨t,h,h2⟩) (fun h=>hb v r ⟨t,h,h2⟩)
def lf.one {O:bA} {f k:Nat} {vals:List AV} {r:AV} (h:eX O f vals r):lf O f [.n k (vals,r) .l .l]:=fun v q hm=>by
 obtain ⟨t,h1,h2⟩:=hm;rcases wk.1 h1 with e | e
 ·subst e;rcases h2 with h2 | h2 | h2
  ·grind
  ·exact h2.elim
  ·exact h2.elim
 ·cases e
def Tr.lZ {α:Type} (p:Nat->α->Prop):Tr α->Prop
 | .l=>True
 | .n k v a b=>p k v/\a.lZ p/\b.lZ p
def Tr.jJ {α:Type} {p:Nat->α->Prop}:Tr.lZ p .l:=trivial
def Tr.kS {α:Type} {p:Nat->α->Prop} {k:Nat} {v:α} {a b:Tr α} (h:p k v) (ha:a.lZ p) (hb:b.lZ p):Tr.lZ p (.n k v a b):=⟨h,ha,hb⟩
def Tr.Cp {α:Type} {p:Nat->α->Prop} {i:Nat} {v:α}:∀{t:Tr α},t.lZ p->t.find i=some v->p i v
 | .l,_,h=>by simp [Tr.find] at h
 | .n k w a b,ha,h=>by
  simp only [Tr.find] at h
  cases hb:yu i k with
  | true=>
   rw [hb] at h;simp only [ym,yc] at h;subst h;rw [yp hb];exact ha.1
  | false=>
   rw [hb] at h
   cases hc:yK i k with
   | true=>rw [hc] at h;exact Tr.Cp ha.2.1 h
   | false=>rw [hc] at h;exact Tr.Cp ha.2.2 h
abbrev bA.sX (O:bA) (L:Lib):bA:={O with aU:=L}
def aau {O:bA} {L:Lib} {m:Mp} {S:Nat->Prop} {w:World} {id:Nat} {o:Obj}:fM (O.sX L) m S w id o↔fM O m S w id o:=by
 cases o<;>exact Iff.rfl
def aav {O:bA} {L:Lib} {m:Mp} {S:Nat->Prop} {w:World} {hp:Hp} {ct:Nat}:bf (O.sX L) m S w hp ct↔bf O m S w hp ct:=
 ⟨fun h=>⟨fun id o p h1 h2=>aau.1 (h.obj id o p h1 h2),h.lt,h.inj,h.slt,h.blt,h.low,h.lR,h.gA,h.bi⟩,
  fun h=>⟨fun id o p h1 h2=>aau.2 (h.obj id o p h1 h2),h.lt,h.inj,h.slt,h.blt,h.low,h.lR,h.gA,h.bi⟩⟩
def Zy {O:bA} {L:Lib} {n:Nat} {hp:Hp} {ct:Nat} {vals:List AV} {v:AV} {ao:Hp} {bg:Nat} (h:Be O n hp ct vals v ao bg):Be (O.sX L) n hp ct vals v ao bg:=by
 intro m S w args h1 h2;have post:∀e w',sO O m S w hp ct v ao bg e w'->sO (O.sX L) m S w hp ct v ao bg e w':=by
  rintro e w' ⟨u,m',S',k1,k2,k3,k4,k5⟩;exact ⟨u,m',S',k1,aav.2 k2,k3,k4,k5⟩
 exact AY.mono (h m S w args (aav.1 h1) h2) post
def eT (O:bA) (T:List (Tr aC)):Prop:=∀t,t∈T->t.lZ (lf O)
def eT.nil {O:bA}:eT O []:=fun _ h=>by cases h
def eT.cons {O:bA} {t:Tr aC} {T:List (Tr aC)} (h:t.lZ (lf O)) (hT:eT O T):eT O (t::T):=fun u hu=>by
 rcases wk.1 hu with e | e
 ·grind
 ·exact hT u e
def Rj {O:bA} {n:Nat}:∀{T:List (Tr aC)} {l:aC},eT O T->CK n T=some l->lf O n l
 | [],_,_,h=>by simp [CK] at h
 | t::T,l,hT,h=>by
  have hT':eT O T:=fun u hu=>hT u (wY _ hu)
  simp only [CK] at h
  split at h
  ·exact Rj hT' h
  ·rename_i l1 h1;have c1:=Tr.Cp (hT t uE) h1
   split at h
   ·grind
   ·rename_i m h2;simp only [yc] at h;subst h;exact lf.dL c1 (Rj hT' h2)
def abu {O:bA} (hO:eP O) {T:List (Tr aC)} (hT:eT O T) (ex:Nat):eP (O.sX (OA O.aU T ex)) where
 hint:=hO.hint
 mixed:=hO.mixed
 prog:=hO.prog
 aU n sp vals r h hs:=by
  simp only [OA] at h
  cases hl:O.aU.pure n with
  | some PQ=>
   simp only [hl,yc] at h;subst h;exact hO.aU n _ vals r hl hs
  | none=>
   simp only [hl] at h
   cases hb:yu n ex with
   | true=>rw [hb] at h;cases h
   | false=>
    rw [hb] at h;simp only [yA] at h
    cases hf:CK n T with
    | none=>simp [hf] at h
    | some l=>
     simp only [hf,yc] at h;subst h;exact Rj hT hf vals r (akH hs)
 E8 n sp hp ct vals v ao bg h hs:=Zy (hO.E8 n sp hp ct vals v ao bg h hs)
def Rk {O:bA} {L:Lib} (hO:eP (O.sX L)) {f:Nat} {vals:List AV} {r:AV}:∀{t:Te},JN O.prog L f t=true->t.Has (vals,r)->eX O f vals r
 | .l,_,h=>h.elim
 | .n k e x y,h,hm=>by
  simp only [JN,yg] at h;rcases hm with e1 | hm | hm
  ·subst e1;have h1:=h.1
   split at h1
   ·rename_i r' hr;have e:r'=r:=aat _ _ h1;rw [<-e];exact sound hO hr
   ·cases h1
  ·exact Rk hO h.2.1 hm
  ·exact Rk hO h.2.2 hm
def YM {O:bA} {L:Lib} (hO:eP (O.sX L)) {f:Nat}:∀{l:aC},Nx O.prog L f l=true->lf O f l
 | [],_=>lf.nil
 | t::l,h=>by
  simp only [Nx,yg] at h;intro v q hm;obtain ⟨t',h1,h2⟩:=hm;rcases wk.1 h1 with e | e
  ·subst e;exact Rk hO h.1 h2
  ·exact YM hO h.2 v q ⟨t',e,h2⟩
def chunk_ok {O:bA} (hO:eP O) {T:List (Tr aC)} (hT:eT O T):∀{C:List (Nat×aC)},iZ O.prog O.aU T C=true->∀f l,(f,l)∈C->lf O f l
 | [],_,f,l,h=>by cases h
 | (g,l')::C,h,f,l,hm=>by
  simp only [iZ,yg] at h;rcases wk.1 hm with e | hm
  ·injection e with e1 e2
   subst e1;subst e2;exact YM (abu hO hT f) h.1
  ·exact chunk_ok hO hT h.2 f l hm
def kK {O:bA} {P:aG} {L:Lib} (hO:eP O) (hp:O.prog=P) (hl:O.aU=L) {T:List (Tr aC)} (hT:eT O T) {C:List (Nat×aC)} (h:iZ P L T C=true) (i:Nat) {f:Nat} {l:aC} (hi:C[i]? =some (f,l)):lf O f l:=by
 subst hp;subst hl;exact chunk_ok hO hT h f l (List.mem_of_getElem? hi)
def aN {α:Type} {p:Nat->α->Prop} {k:Nat} {v:α} {a b:Tr α} (h:p k v) (ha:a.lZ p) (hb:b.lZ p):Tr.lZ p (.n k v a b):=Tr.kS h ha hb
def aL {α:Type} {p:Nat->α->Prop}:Tr.lZ p .l:=Tr.jJ
end
section
open Go
structure HD where
 n:Nat
 live:List (Nat×List Nat)
 out:List (Nat×List Nat)
 mode:List (Nat×Md)
 fz:List (Nat×List Nat)
 deriving Inhabited
def Je {α:Type} (i:Nat):List (Nat×α)->Option α
 | []=>none
 | (j,a)::l=>bif yu j i then some a else Je i l
def aq0 (cr:Nat->Option Nat) (d:HD):Hint where
 n:=d.n
 cr:=cr
 live:=fun l=>match Je l d.live with | some x=>x | none=>[]
 out:=fun l=>Je l d.out
 mode:=fun k=>match Je k d.mode with | some x=>x | none=> .pure
 fz:=fun i=>match Je i d.fz with | some x=>x | none=>[]
def Ny (cr:Tr Nat) (t:Tr HD) (i:Nat):Hint:=aq0 cr.find (match t.find i with | some d=>d | none=>⟨0,[],[],[],[]⟩)
def zP (t:Tr Nat) (i:Nat):Nat:=match t.find i with | some f=>f | none=>0
def Jf (ai:Tr Nat):Tr Nat->Bool
 | .l=>true
 | .n f g a b=>yu (zP ai g) f&&(Jf ai a&&Jf ai b)
def QT {ai:Tr Nat}:∀{t:Tr Nat},Jf ai t=true->t.lZ (fun f g=>zP ai g=f)
 | .l,_=>trivial
 | .n f g a b,h=>by
  simp only [Jf,yg] at h;exact ⟨yp h.1,QT h.2.1,QT h.2.2⟩
def SH (P:y6) (ai:Tr Nat) (cr:Tr Nat) (hd:Tr HD) (i:Nat) (F:aD):Prop:=
 ∃fn,P.funcs[zP ai i]? =some fn/\Ey P (Ny cr hd i) fn=some F/\fn.name≠ "runtime.NumGoroutine"
def akI {P:y6} {ai cr:Tr Nat} {hd:Tr HD} {i:Nat} {F:aD} (h:(P.funcs[zP ai i]?).bind (Ey P (Ny cr hd i))=some F) (h2:(P.funcs[zP ai i]?).map (fun fn=>decide (fn.name= "runtime.NumGoroutine"))=some false):SH P ai cr hd i F:=by
 unfold SH
 cases hq:P.funcs[zP ai i]? with
 | none=>rw [hq] at h;cases h
 | some fn=>
  rw [hq] at h h2;refine ⟨fn,rfl,h,fun e=>?_⟩;simp only [Option.map_some,yc,e,yq] at h2;cases h2
end
end VE
