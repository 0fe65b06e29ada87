import Derived.Test.YtflgmingejdfnaaGreatDoorProg
import Derived.KernelRfl
import Derived.Test.YtflgmingejdfnaaGreatDoorVak
import Derived.Test.YtflgmingejdfnaaGreatDoorVaa
import Derived.Test.YtflgmingejdfnaaGreatDoorVag
set_option linter.all false
set_option maxRecDepth 100000
open Bool renaming and_eq_true→yf,false_eq_true→yC
open Go renaming FloatKind→vU,IntKind→yU,Program→y5
open List renaming mem_cons→wo,mem_cons_of_mem→wk,mem_cons_self→wJ
open Nat renaming beq→yr,blt→yG,eq_of_beq_eq_true→yo
open Option.some renaming injEq→yc
namespace VE
section
def Ec:VC:=.q (.g [qm 5 3,qm 6 0,qn 7 1 6,qT 8 5 7] (.cond (.t 8) .skip (.exit 0))) (.q (.aO 1 (.g [qm 11 0,qm 12 3,qi 13 1 11 12,ql 14 1 13,aB 15 263 14,qm 4 15] (.g [qm 16 4,qN 17 16 0] (.i 17 (.e [qm 18 4,qm 2 18]))))) (.aV [qm 9 3,qa 10 9 1,qm 3 10]))
def Nl:aI:=⟨[.t 2],.g [qk 2 0] (.q (.g [qk 3 0] (.q (.aO 0 (.loop [0,3] Ec)) (.kp []))) (.e [qk 2 0]))⟩
def IT:aI:=⟨[.t 2],.g [qk 2 0] (.h [qm 3 0,Rq 4 (.bin .eql (.t 3) (.s [48]))] 4 (.e [qk 2 0]) (.h [qm 5 0,qn 6 0 5,Rq 7 (.y .gtr 6 0),qm 8 7,Rt 9 8 (.m 0),Rt 10 8 (.kU (.t 9) (.k 0)),Rt 11 8 (.bin .eql (.t 10) (.c (.int .u8 45))),qq 12 8 11] 12 (.e [qk 2 (-1)]) (.e [qk 2 1])))⟩
def dF:aI:=⟨[.t 2],.g [qk 2 0] (.g [qm 8 0,qm 3 8] (.h [qm 9 3,qn 10 0 9,Rq 11 (.y .gtr 10 0),qm 12 11,Rt 13 12 (.m 3),Rt 14 12 (.kU (.t 13) (.k 0)),Rt 15 12 (.bin .eql (.t 14) (.c (.int .u8 45))),qq 16 12 15] 16 (.aV [qm 17 3,Rq 18 (.ef .str (.t 17) (some (.k 1)) none),qm 3 18]) (.g [qm 19 3,aB 20 272 19,qm 4 20] (.h [qm 21 3,qm 22 4,Rq 23 (.ef .str (.t 21) none (some (.t 22))),aB 24 273 23,Rq 25 (.un .not (.t 24)),qm 26 25,Rf 27 26 (.m 0),Rf 28 26 (.kU (.t 27) (.k 0)),Rf 29 26 (.bin .eql (.t 28) (.c (.int .u8 45))),Rf 30 26 (.m 29),Rt 31 30 (.m 3),Rt 32 30 (.m 4),Rt 33 30 (.ef .str (.t 31) none (some (.t 32))),Rt 34 30 (.bin .eql (.t 33) (.s [48])),Rf 35 26 (.pick (.t 30) (.t 34) (.c (.bool false))),qp 36 26 35] 36 (.e [qk 2 1]) (.h [qm 37 4,qm 38 3,qn 39 0 38,qT 40 37 39,qm 41 40,Rt 42 41 (.m 3),Rt 43 41 (.m 4),Rt 44 41 (.y .add 43 1),Rt 45 41 (.ef .str (.t 42) (some (.t 44)) none),Rt 46
 41 (.q 273 [.t 45]),Rt 47 41 (.un .not (.t 46)),Rt 48 41 (.m 47),Rf 49 48 (.m 3),Rf 50 48 (.m 4),Rf 51 48 (.y .add 50 1),Rf 52 48 (.ef .str (.t 49) (some (.t 51)) none),Rf 53 48 (.bin .eql (.t 52) (.s [48])),Rt 54 41 (.pick (.t 48) (.c (.bool true)) (.t 53)),Rt 55 41 (.m 54),Rf 56 55 (.m 3),Rf 57 55 (.m 4),Rf 58 55 (.y .add 57 1),Rf 59 55 (.ef .str (.t 56) (some (.t 58)) none),Rf 60 55 (.bin .eql (.t 59) (.s [49])),Rt 61 41 (.pick (.t 55) (.c (.bool true)) (.t 60)),qq 62 41 61] 62 (.e [qk 2 1]) (.h [qm 63 4,Rq 64 (.y .gtr 63 600),qm 65 64,Rf 66 65 (.m 3),Rf 67 65 (.len 0 (.t 66)),Rf 68 65 (.m 4),Rf 69 65 (.z .sub 67 68),Rf 70 65 (.y .sub 69 1),Rf 71 65 (.y .gtr 70 600),qp 72 65 71] 72 (.e [qk 2 4]) (.h [qm 73 4,qm 74 3,qn 75 0 74,qT 76 73 75] 76 (.g [qm 78 3,aB 79 274 78,qm 77 79,qe 80 0 77,qe 81 1 77,Rq 5 (.box 2 (.c (.agg [.bool false,.ab]))),Rq 6 (.box 2 (.c (.agg [.bool false,.ab]))),qs
 2 5 80,qs 2 6 81] (.g [qo 82 1 5,ql 83 1 82,qo 84 1 6,ql 85 1 84,aP 86 275 83 85,qm 7 86] (.g [qm 87 7,qn 88 1 87,qN 89 88 1,qm 90 89,Rf 91 90 (.m 7),Rf 92 90 (.bj 1 (.t 91) (.k 0)),Rf 93 90 (.ld 1 false (.t 92)),Rf 94 90 (.y .neq 93 1),qp 95 90 94] (.i 95 (.e [qk 2 1]))))) (.e [qk 2 0]))))))))⟩
def IU:aI:=⟨[.t 4],.g [Rq 4 (.cg (.s []))] (.g [qm 16 0,aB 17 276 16,qm 15 17,qe 18 0 15,qe 19 1 15,qe 20 2 15,qm 5 18,qm 6 19,qm 7 20] (.g [qm 22 1,aB 23 276 22,qm 21 23,qe 24 0 21,qe 25 1 21,qe 26 2 21,qm 8 24,qm 9 25,qm 10 26] (.h [qm 27 7,qm 28 27,Rt 29 28 (.m 10),qq 30 28 29] 30 (.e [qm 31 5,qm 32 9,Rq 33 (.z .mul 31 32),qm 34 8,qm 35 6,Rq 36 (.z .mul 34 35),qA 37 33 36,qm 38 6,qm 39 9,Rq 40 (.z .mul 38 39),aP 41 277 37 40,qm 4 41]) (.g [qm 43 0,aB 44 274 43,qm 42 44,qe 45 0 42,qe 46 1 42,Rq 11 (.box 2 (.c (.agg [.bool false,.ab]))),Rq 12 (.box 2 (.c (.agg [.bool false,.ab]))),qs 2 11 45,qs 2 12 46] (.g [qm 48 1,aB 49 274 48,qm 47 49,qe 50 0 47,qe 51 1 47,Rq 13 (.box 2 (.c (.agg [.bool false,.ab]))),Rq 14 (.box 2 (.c (.agg [.bool false,.ab]))),qs 2 13 50,qs 2 14 51] (.e [qL 52 2 11,qL 53 2 14,aP 54 278 52 53,qL 55 2 13,qL 56 2 12,aP 57 278 55 56,aP 58 279 54 57,qL 59 2 12,qL 60
 2 14,aP 61 278 59 60,aP 62 280 58 61,qm 4 62]))))))⟩
def IV:aI:=⟨[.t 2],.g [Rq 2 (.cg (.s []))] (.h [qm 3 0,aB 4 262 3,Rq 5 (.y .lss 4 0)] 5 (.e [qm 6 0,Rq 7 (.ef .str (.t 6) (some (.k 1)) none),qm 2 7]) (.h [qm 8 0,aB 9 262 8,qE 10 9 0] 10 (.e [qm 11 0,qm 2 11]) (.e [qm 12 0,Rq 13 (.bin .add (.s [45]) (.t 12)),qm 2 13])))⟩
def SR:aI:=⟨[.t 4],.g [Rq 4 (.cg (.s []))] (.e [qm 5 0,qm 6 1,aB 7 268 6,aP 8 264 5 7,qm 4 8])⟩
def Ed:VC:=.q (.g [qm 4 3,qm 5 0,qn 6 0 5,qT 7 4 6] (.cond (.t 7) .skip (.exit 0))) (.q (.aO 1 (.g [qm 10 0,qm 11 3,Rq 12 (.kU (.t 10) (.t 11)),Rq 13 (.bin .eql (.t 12) (.c (.int .u8 47)))] (.i 13 (.e [qm 14 3,qm 2 14])))) (.aV [qm 8 3,qa 9 8 1,qm 3 9]))
def IW:aI:=⟨[.t 2],.g [qk 2 0] (.q (.g [qk 3 0] (.q (.aO 0 (.loop [0,3] Ed)) (.kp [0]))) (.e [qm 15 0,qn 16 0 15,qm 2 16]))⟩
def CQ:aI:=⟨[.t 2],.g [qf 2] (.h [qm 3 0,qn 4 0 3,qE 5 4 0,qm 6 5,Rf 7 6 (.m 0),Rf 8 6 (.len 0 (.t 7)),Rf 9 6 (.y .gtr 8 1),Rf 10 6 (.m 9),Rt 11 10 (.m 0),Rt 12 10 (.kU (.t 11) (.k 0)),Rt 13 10 (.bin .eql (.t 12) (.c (.int .u8 48))),Rf 14 6 (.pick (.t 10) (.t 13) (.c (.bool false))),qp 15 6 14] 15 (.e [qf 2]) (.e [qm 16 0,aB 17 287 16,qm 2 17]))⟩
def Nn:aI:=⟨[.cell 2 2 true,.cell 3 2 true],.g [Rq 2 (.box 2 (.c (.agg [.bool false,.ab]))),Rq 3 (.box 2 (.c (.agg [.bool false,.ab])))] (.g [qm 6 0,qm 4 6] (.g [qm 7 4,aB 8 272 7,qm 5 8] (.h [qm 9 5,qm 10 4,qn 11 0 10,Rq 12 (.z .eql 9 11)] 12 (.e [qm 13 4,aB 14 288 13,Rq 15 (.q 281 [.k 1]),qs 2 2 14,qs 2 3 15]) (.e [qm 16 4,qm 17 5,Rq 18 (.ef .str (.t 16) none (some (.t 17))),aB 19 288 18,qm 20 4,qm 21 5,qa 22 21 1,Rq 23 (.ef .str (.t 20) (some (.t 22)) none),aB 24 288 23,qs 2 2 19,qs 2 3 24]))))⟩
def H7:VC:=.q (.g [qm 7 1,qn 8 1 7,Rq 9 (.y .gtr 8 0)] (.cond (.t 9) .skip (.exit 0))) (.aO 1 (.g [qm 11 0,qm 12 1,aP 13 289 11 12,qm 10 13,qe 14 0 10,qe 15 1 10,qm 5 14,qm 6 15] (.aV [qm 16 1,qm 17 6,qm 0 16,qm 1 17])))
def No:aI:=⟨[.t 4],.g [qz 4] (.q (.q (.aO 0 (.loop [0,1] H7)) (.kp [0])) (.e [qm 18 0,qm 4 18]))⟩
def oP:aI:=⟨[.t 2,.t 3,.t 4],.g [qk 2 0,qk 3 0,qf 4] (.g [qm 10 0,qm 5 10] (.h [qm 11 5,qn 12 0 11,Rq 13 (.y .gtr 12 20)] 13 (.e [qk 2 0,qk 3 0,qf 4]) (.g [qm 14 5,qn 15 0 14,Rq 16 (.y .gtr 15 0),qm 17 16,Rt 18 17 (.m 5),Rt 19 17 (.kU (.t 18) (.k 0)),Rt 20 17 (.bin .eql (.t 19) (.c (.int .u8 45))),qq 21 17 20,qm 6 21] (.h [qm 22 6] 22 (.aV [qm 23 5,Rq 24 (.ef .str (.t 23) (some (.k 1)) none),qm 5 24]) (.g [qm 25 5,aB 26 272 25,qm 7 26] (.h [qm 27 7,Rq 28 (.y .gtr 27 9),qm 29 28,Rf 30 29 (.m 5),Rf 31 29 (.len 0 (.t 30)),Rf 32 29 (.m 7),Rf 33 29 (.z .sub 31 32),Rf 34 29 (.y .gtr 33 10),qp 35 29 34] 35 (.e [qk 2 0,qk 3 0,qf 4]) (.g [qm 36 5,qm 37 7,Rq 38 (.ef .str (.t 36) none (some (.t 37))),aB 39 290 38,qm 8 39,qk 9 1] (.h [qm 40 7,qm 41 5,qn 42 0 41,qT 43 40 42] 43 (.aV [qm 44 5,qm 45 7,qa 46 45 1,Rq 47 (.ef .str (.t 44) (some (.t 46)) none),aB 48 290 47,qm 9 48]) (.h [qm 49 6] 49 (.aV [qm
 50 8,Rq 51 (.bin .sub (.k 0) (.t 50)),qm 8 51]) (.e [qm 52 8,qm 53 9,qm 2 52,qm 3 53,Rq 4 (.cg (.c (.bool true)))]))))))))))⟩
def CR:aI:=⟨[.t 4],.g [Rq 4 (.cg (.s []))] (.h [qm 7 0,Rq 8 (.y .lss 7 (-4000000000000000000)),qm 9 8,Rf 10 9 (.m 0),Rf 11 9 (.y .gtr 10 4000000000000000000),qp 12 9 11,qm 13 12,Rf 14 13 (.m 1),Rf 15 13 (.y .lss 14 (-4000000000000000000)),qp 16 13 15,qm 17 16,Rf 18 17 (.m 1),Rf 19 17 (.y .gtr 18 4000000000000000000),qp 20 17 19] 20 (.e [qm 21 0,aB 22 281 21,qm 23 1,aB 24 281 23,aP 25 280 22 24,qm 4 25]) (.h [qm 26 1,Rq 27 (.y .lss 26 0)] 27 (.aV [qm 28 0,Rq 29 (.bin .sub (.k 0) (.t 28)),qm 30 1,Rq 31 (.bin .sub (.k 0) (.t 30)),qm 0 29,qm 1 31]) (.g [qm 32 0,qm 33 0,Rq 34 (.bin .sub (.k 0) (.t 33)),Rq 35 (.mx [.t 32,.t 34]),qm 36 1,aP 37 291 35 36,qm 5 37] (.g [qm 38 0,qm 39 5,Rq 40 (.z .quo 38 39),qm 41 1,qm 42 5,Rq 43 (.z .quo 41 42),qm 0 40,qm 1 43] (.g [Rq 6 (.cg (.s []))] (.h [qm 44 0,Rq 45 (.y .lss 44 0)] 45 (.aV [Rq 6 (.cg (.s [45]))]) (.g [qm 46 6,qm 47 0,qm 48 0,Rq 49 (.bin .sub (.k
 0) (.t 48)),Rq 50 (.mx [.t 47,.t 49]),Rq 51 (.q 292 [.t 50,.k 1]),qA 52 46 51,qm 6 52] (.h [qm 53 1,Rq 54 (.y .gtr 53 1)] 54 (.aV [qm 55 6,Rq 56 (.bin .add (.t 55) (.s [47])),qm 57 1,Rq 58 (.q 292 [.t 57,.k 1]),qA 59 56 58,qm 6 59]) (.e [qm 60 6,qm 4 60])))))))))⟩
def Np:aI:=⟨[.cell 4 2 true],.g [qb 2 2 0,qb 3 2 1,Rq 4 (.box 2 (.c (.agg [.bool false,.ab])))] (.e [qo 5 0 2,ql 6 1 5,qo 7 0 3,ql 8 1 7,Rq 9 (.eq true .b (.t 6) (.t 8)),qo 10 1 2,ql 11 1 10,qo 12 1 3,ql 13 1 12,aP 14 293 11 13,aP 15 294 9 14,qs 2 4 15])⟩
def ES:aI:=⟨[.cell 4 2 true],.g [qb 2 2 0,qb 3 2 1,Rq 4 (.box 2 (.c (.agg [.bool false,.ab])))] (.h [qo 5 0 2,ql 6 1 5,qo 7 0 3,ql 8 1 7,Rq 9 (.eq false .b (.t 6) (.t 8))] 9 (.e [qo 10 0 2,ql 11 1 10,qo 12 1 2,ql 13 1 12,qo 14 1 3,ql 15 1 14,aP 16 295 13 15,aP 17 294 11 16,qs 2 4 17]) (.h [qo 18 1 2,ql 19 1 18,qo 20 1 3,ql 21 1 20,aP 22 296 19 21,Rq 23 (.y .geq 22 0)] 23 (.e [qo 24 0 2,ql 25 1 24,qo 26 1 2,ql 27 1 26,qo 28 1 3,ql 29 1 28,aP 30 297 27 29,aP 31 294 25 30,qs 2 4 31]) (.e [qo 32 0 3,ql 33 1 32,qo 34 1 3,ql 35 1 34,qo 36 1 2,ql 37 1 36,aP 38 297 35 37,aP 39 294 33 38,qs 2 4 39])))⟩
def nI:aI:=⟨[.t 4],.g [qb 2 2 0,qb 3 2 1,Rq 4 (.cg (.s []))] (.h [qo 11 0 3,ql 12 1 11] 12 (.aV [qL 13 2 2,aB 14 298 13,qL 15 2 3,aB 16 298 15,qs 2 2 14,qs 2 3 16]) (.g [qo 17 1 2,ql 18 1 17,qo 19 1 3,ql 20 1 19,aP 21 275 18 20,qm 5 21] (.g [qo 23 1 2,ql 24 1 23,qm 25 5,aP 26 289 24 25,qm 22 26,qe 27 0 22,qe 28 1 22,qm 6 27,qm 7 28] (.g [qo 30 1 3,ql 31 1 30,qm 32 5,aP 33 289 31 32,qm 29 33,qe 34 0 29,qe 35 1 29,qm 8 34,qm 9 35] (.g [qo 36 0 2,ql 37 1 36,qm 38 6,aP 39 294 37 38,aB 40 282 39,qm 10 40] (.h [qm 41 8,qn 42 1 41,qE 43 42 1,qm 44 43,Rt 45 44 (.m 8),Rt 46 44 (.bj 1 (.t 45) (.k 0)),Rt 47 44 (.ld 1 false (.t 46)),Rt 48 44 (.y .eql 47 1),qq 49 44 48] 49 (.e [qm 50 10,qm 4 50]) (.e [qm 51 10,Rq 52 (.bin .add (.t 51) (.s [47])),qm 53 8,Rq 54 (.q 294 [.c (.bool false),.t 53]),aB 55 282 54,qA 56 52 55,qm 4 56])))))))⟩
def abt:VC:=.q (.g [qm 8 0,qN 9 8 0] (.cond (.t 9) .skip (.exit 0))) (.aO 1 (.g [qm 10 0,Rq 11 (.y .rem 10 1000000000),qm 5 11] (.h [qm 12 5,Rq 13 (.y .lss 12 0)] 13 (.aV [qm 14 5,Rq 15 (.bin .sub (.k 0) (.t 14)),qm 5 15]) (.g [qm 16 3,qm 17 5,Rq 18 (.bV 1 1 [.i 0] [(0,1,.t 17)]),Rq 19 (.dH 1 8 (.t 16) (.t 18)),qm 3 19] (.aV [qm 20 0,Rq 21 (.y .quo 20 1000000000),qm 0 21])))))
def SS:aI:=⟨[.cell 2 2 true],.g [Rq 2 (.box 2 (.c (.agg [.bool false,.ab])))] (.g [qz 3] (.g [qm 6 0,Rq 7 (.y .lss 6 0),qm 4 7] (.q (.q (.aO 0 (.loop [0,2,3,4] abt)) (.kp [2,3,4])) (.e [qm 22 4,qm 23 3,aP 24 294 22 23,qs 2 2 24]))))⟩
def H8:VC:=.q (.g [qm 22 4,Rq 23 (.y .geq 22 0)] (.cond (.t 23) .skip (.exit 0))) (.q (.aO 1 (.aV [qm 26 3,qo 27 1 1,ql 28 1 27,qm 29 4,qi 30 1 28 29,ql 31 1 30,Rq 32 (.q 292 [.t 31,.k 9]),qA 33 26 32,qm 3 33])) (.aV [qm 24 4,Rq 25 (.y .sub 24 1),qm 4 25]))
def IX:aI:=⟨[.t 2],.g [qb 1 2 0,Rq 2 (.cg (.s []))] (.h [qo 5 1 1,ql 6 1 5,qn 7 1 6,qE 8 7 0] 8 (.e [Rq 2 (.cg (.s [48]))]) (.g [qo 9 1 1,ql 10 1 9,qo 11 1 1,ql 12 1 11,qn 13 1 12,Rq 14 (.y .sub 13 1),qi 15 1 10 14,ql 16 1 15,Rq 17 (.q 292 [.t 16,.k 1]),qm 3 17] (.q (.g [qo 18 1 1,ql 19 1 18,qn 20 1 19,Rq 21 (.y .sub 20 2),qm 4 21] (.q (.aO 0 (.loop [1,3,4] H8)) (.kp [1,3]))) (.h [qo 34 0 1,ql 35 1 34] 35 (.e [qm 36 3,Rq 37 (.bin .add (.s [45]) (.t 36)),qm 2 37]) (.e [qm 38 3,qm 2 38])))))⟩
def SU:aI:=⟨[.t 2],.g [Rq 2 (.cg (.s []))] (.e [qm 3 0,qm 4 0,aB 5 272 4,Rq 6 (.ef .str (.t 3) none (some (.t 5))),qm 2 6])⟩
def Nq:aI:=⟨[.t 2],.g [Rq 2 (.cg (.s []))] (.h [qm 3 0,aB 4 262 3,Rq 5 (.y .lss 4 0)] 5 (.e [qm 6 0,Rq 7 (.ef .str (.t 6) (some (.k 1)) none),qm 2 7]) (.e [qm 8 0,qm 2 8]))⟩
def Nr:aI:=⟨[.t 2],.g [Rq 2 (.cg (.s []))] (.g [qm 4 0,aB 5 272 4,qm 3 5] (.h [qm 6 3,qm 7 0,qn 8 0 7,Rq 9 (.z .eql 6 8)] 9 (.e [Rq 2 (.cg (.s [49]))]) (.e [qm 10 0,qm 11 3,qa 12 11 1,Rq 13 (.ef .str (.t 10) (some (.t 12)) none),qm 2 13])))⟩
def Cr:VC:=.q (.g [qm 4 3,qm 5 0,qn 6 0 5,qT 7 4 6] (.cond (.t 7) .skip (.exit 0))) (.q (.aO 1 (.g [qm 10 0,qm 11 3,Rq 12 (.kU (.t 10) (.t 11)),Rq 13 (.bin .lss (.t 12) (.c (.int .u8 48))),qm 14 13,Rf 15 14 (.m 0),Rf 16 14 (.m 3),Rf 17 14 (.kU (.t 15) (.t 16)),Rf 18 14 (.bin .gtr (.t 17) (.c (.int .u8 57))),qp 19 14 18] (.i 19 (.e [qf 2])))) (.aV [qm 8 3,qa 9 8 1,qm 3 9]))
def IY:aI:=⟨[.t 2],.g [qf 2] (.q (.g [qk 3 0] (.q (.aO 0 (.loop [0,3] Cr)) (.kp []))) (.e [Rq 2 (.cg (.c (.bool true)))]))⟩
def zb:VC:=.q (.g [qm 16 0,qn 17 0 16,Rq 18 (.y .gtr 17 9)] (.cond (.t 18) .skip (.exit 0))) (.aO 1 (.g [qm 19 4,qm 20 0,qm 21 0,qn 22 0 21,Rq 23 (.y .sub 22 9),Rq 24 (.ef .str (.t 20) (some (.t 23)) none),aB 25 290 24,Rq 26 (.bV 1 1 [.i 0] [(0,1,.t 25)]),Rq 27 (.dH 1 8 (.t 19) (.t 26)),qm 4 27] (.aV [qm 28 0,qm 29 0,qn 30 0 29,Rq 31 (.y .sub 30 9),Rq 32 (.ef .str (.t 28) none (some (.t 31))),qm 0 32])))
def Ns:aI:=⟨[.cell 2 2 true],.g [Rq 2 (.box 2 (.c (.agg [.bool false,.ab])))] (.g [qm 5 0,qn 6 0 5,Rq 7 (.y .gtr 6 0),qm 8 7,Rt 9 8 (.m 0),Rt 10 8 (.kU (.t 9) (.k 0)),Rt 11 8 (.bin .eql (.t 10) (.c (.int .u8 45))),qq 12 8 11,qm 3 12] (.h [qm 13 3] 13 (.aV [qm 14 0,Rq 15 (.ef .str (.t 14) (some (.k 1)) none),qm 0 15]) (.g [qz 4] (.q (.q (.aO 0 (.loop [0,2,3,4] zb)) (.kp [0,2,3,4])) (.e [qm 33 3,qm 34 4,qm 35 0,aB 36 290 35,Rq 37 (.bV 1 1 [.i 0] [(0,1,.t 36)]),Rq 38 (.dH 1 8 (.t 34) (.t 37)),aP 39 294 33 38,qs 2 2 39])))))⟩
def H9:VC:=.q (.g [qm 63 11,qn 64 1 63,qm 65 0,qn 66 1 65,qa 67 66 1,qT 68 64 67] (.cond (.t 68) .skip (.exit 0))) (.aO 1 (.aV [qm 69 11,Rq 70 (.bV 1 1 [.i 0] [(0,1,.k 0)]),Rq 71 (.dH 1 8 (.t 69) (.t 70)),qm 11 71]))
def Ee:VC:=.q (.g [qm 90 16,qm 91 10,qT 92 90 91] (.cond (.t 92) .skip (.exit 4))) (.q (.aO 5 (.g [qm 95 14,qm 96 9,qm 97 16,qi 98 1 96 97,ql 99 1 98,Rq 100 (.z .mul 95 99),qm 101 15,qA 102 100 101,qm 17 102] (.g [qm 103 11,qm 104 16,qm 105 13,qA 106 104 105,qi 107 1 103 106,ql 108 1 107,qm 109 17,Rq 110 (.y .rem 109 1000000000),Rq 111 (.z .sub 108 110),qm 18 111] (.g [qm 112 17,Rq 113 (.y .quo 112 1000000000),qm 15 113] (.h [qm 114 18,Rq 115 (.y .lss 114 0)] 115 (.g [qm 116 18,qa 117 116 1000000000,qm 18 117] (.aV [qm 118 15,qa 119 118 1,qm 15 119])) (.aV [qm 120 11,qm 121 16,qm 122 13,qA 123 121 122,qm 124 18,qi 125 1 120 123,qs 1 125 124])))))) (.aV [qm 93 16,qa 94 93 1,qm 16 94]))
def Ia:VC:=.q (.g [qm 148 20,qm 149 10,qT 150 148 149] (.cond (.t 150) .skip (.exit 6))) (.q (.aO 7 (.g [qm 153 11,qm 154 20,qm 155 13,qA 156 154 155,qi 157 1 153 156,ql 158 1 157,qm 159 9,qm 160 20,qi 161 1 159 160,ql 162 1 161,qA 163 158 162,qm 164 19,qA 165 163 164,qm 21 165] (.g [qm 166 11,qm 167 20,qm 168 13,qA 169 167 168,qm 170 21,Rq 171 (.y .rem 170 1000000000),qi 172 1 166 169,qs 1 172 171] (.aV [qm 173 21,Rq 174 (.y .quo 173 1000000000),qm 19 174])))) (.aV [qm 151 20,qa 152 151 1,qm 20 152]))
def Ib:VC:=.q (.g [qm 82 13,Rq 83 (.y .geq 82 0)] (.cond (.t 83) .skip (.exit 2))) (.q (.aO 3 (.g [qm 86 11,qm 87 9,qm 88 13,Rq 89 (.call .heap (.F 301) [.t 86,.t 87,.t 88]),qm 14 89] (.g [qk 15 0] (.q (.g [qk 16 0] (.q (.aO 4 (.loop [8,9,10,11,12,13,14,15,16] Ee)) (.kp [8,9,10,11,12,13,14,15]))) (.g [qm 126 11,qm 127 13,qm 128 10,qA 129 127 128,qm 130 11,qm 131 13,qm 132 10,qA 133 131 132,qi 134 1 130 133,ql 135 1 134,qm 136 15,Rq 137 (.z .sub 135 136),qi 138 1 126 129,qs 1 138 137] (.h [qm 139 11,qm 140 13,qm 141 10,qA 142 140 141,qi 143 1 139 142,ql 144 1 143,Rq 145 (.y .lss 144 0)] 145 (.g [qm 146 14,Rq 147 (.y .sub 146 1),qm 14 147] (.g [qk 19 0] (.q (.g [qk 20 0] (.q (.aO 6 (.loop [8,9,10,11,12,13,14,19,20] Ia)) (.kp [8,9,10,11,12,13,14,19]))) (.aV [qm 175 11,qm 176 13,qm 177 10,qA 178 176 177,qm 179 11,qm 180 13,qm 181 10,qA 182 180 181,qi 183 1 179 182,ql 184 1 183,qm 185 19,qA 186
 184 185,qi 187 1 175 178,qs 1 187 186])))) (.aV [qm 188 12,qm 189 13,qm 190 14,qi 191 1 188 189,qs 1 191 190]))))))) (.aV [qm 84 13,Rq 85 (.y .sub 84 1),qm 13 85]))
def rB:aI:=⟨[.t 4,.t 5],.g [qz 4,qz 5] (.h [qm 24 0,qm 25 1,aP 26 296 24 25,Rq 27 (.y .lss 26 0)] 27 (.e [qm 28 0,qz 4,qm 5 28]) (.h [qm 29 1,qn 30 1 29,qE 31 30 1] 31 (.g [qm 33 0,qm 34 1,Rq 35 (.bj 1 (.t 34) (.k 0)),ql 36 1 35,aP 37 299 33 36,qm 32 37,qe 38 0 32,qe 39 1 32,qm 6 38,qm 7 39] (.e [qm 40 6,qm 41 7,Rq 42 (.bV 1 1 [.i 0] [(0,1,.t 41)]),aB 43 300 42,qm 4 40,qm 5 43])) (.g [qm 44 1,qm 45 1,qn 46 1 45,Rq 47 (.y .sub 46 1),qi 48 1 44 47,ql 49 1 48,qa 50 49 1,Rq 51 (.bin .quo (.k 1000000000) (.t 50)),Rq 52 (.bV 1 1 [.i 0] [(0,1,.t 51)]),qm 8 52] (.g [qm 53 1,qm 54 8,aP 55 293 53 54,qm 9 55] (.g [qm 56 9,qn 57 1 56,qm 10 57] (.g [Rq 58 (.bV 0 1 [] []),qm 59 0,qm 60 8,aP 61 293 59 60,Rq 62 (.dH 1 8 (.t 58) (.t 61)),qm 11 62] (.q (.q (.aO 0 (.loop [0,8,9,10,11] H9)) (.kp [8,9,10,11])) (.g [qm 72 11,qn 73 1 72,qm 74 10,Rq 75 (.z .sub 73 74),Rq 76 (.gP 1 8 [.i 0] (.t 75) (.t 75)),qm
 12 76] (.q (.g [qm 77 11,qn 78 1 77,qm 79 10,Rq 80 (.z .sub 78 79),Rq 81 (.y .sub 80 1),qm 13 81] (.q (.aO 2 (.loop [8,9,10,11,12,13] Ib)) (.kp [8,10,11,12]))) (.g [qm 193 11,qm 194 10,Rq 195 (.ef (.sl 1) (.t 193) none (some (.t 194))),aB 196 300 195,qm 197 8,Rq 198 (.bj 1 (.t 197) (.k 0)),ql 199 1 198,aP 200 299 196 199,qm 192 200,qe 201 0 192,qe 202 1 192,qm 22 201,qm 23 202] (.e [qm 203 12,aB 204 300 203,qm 205 22,qm 4 204,qm 5 205])))))))))))⟩
def Ic:VC:=.q (.g [qm 5 4,qm 6 0,qn 7 0 6,qT 8 5 7] (.cond (.t 8) .skip (.exit 0))) (.q (.aO 1 (.aV [qm 11 3,Rq 12 (.bin .mul (.k 10) (.t 11)),qm 13 0,qm 14 4,Rq 15 (.kU (.t 13) (.t 14)),Rq 16 (.cv (.toInt .i64) (.t 15)),qA 17 12 16,Rq 18 (.y .sub 17 48),qm 3 18])) (.aV [qm 9 4,qa 10 9 1,qm 4 10]))
def ET:aI:=⟨[.t 2],.g [qk 2 0] (.g [qk 3 0] (.q (.g [qk 4 0] (.q (.aO 0 (.loop [0,3,4] Ic)) (.kp [3]))) (.e [qm 19 3,qm 2 19])))⟩
def Ie:VC:=.q (.g [qm 5 1,Rq 6 (.y .gtr 5 0)] (.cond (.t 6) .skip (.exit 0))) (.aO 1 (.aV [qm 7 1,qm 8 0,qm 9 1,Rq 10 (.z .rem 8 9),qm 0 7,qm 1 10]))
def IZ:aI:=⟨[.t 4],.g [qk 4 0] (.q (.q (.aO 0 (.loop [0,1] Ie)) (.kp [0])) (.e [qm 11 0,qm 4 11]))⟩
def nB:VC:=.q (.g [qm 6 0,Rq 7 (.y .gtr 6 0),qm 8 7,Rf 9 8 (.m 5),Rf 10 8 (.len 0 (.t 9)),Rf 11 8 (.m 1),Rf 12 8 (.z .lss 10 11),qp 13 8 12] (.cond (.t 13) .skip (.exit 0))) (.aO 1 (.g [qm 14 0,Rq 15 (.y .rem 14 10),qm 16 0,Rq 17 (.y .rem 16 10),qa 18 17 1,Rq 19 (.ef .str (.s [48,49,50,51,52,53,54,55,56,57]) (some (.t 15)) (some (.t 18))),qm 20 5,qA 21 19 20,qm 5 21] (.aV [qm 22 0,Rq 23 (.y .quo 22 10),qm 0 23])))
def zA:aI:=⟨[.t 4],.g [Rq 4 (.cg (.s []))] (.g [Rq 5 (.cg (.s []))] (.q (.q (.aO 0 (.loop [0,1,5] nB)) (.kp [5])) (.e [qm 24 5,qm 4 24])))⟩
def Ig:VC:=.q (.g [qm 22 8,qm 23 1,qn 24 1 23,qT 25 22 24] (.cond (.t 25) .skip (.exit 2))) (.q (.aO 3 (.g [qm 28 5,qm 29 6,qm 30 8,qA 31 29 30,qi 32 1 28 31,ql 33 1 32,qm 34 0,qm 35 6,qi 36 1 34 35,ql 37 1 36,qm 38 1,qm 39 8,qi 40 1 38 39,ql 41 1 40,Rq 42 (.z .mul 37 41),qA 43 33 42,qm 44 7,qA 45 43 44,qm 9 45] (.g [qm 46 5,qm 47 6,qm 48 8,qA 49 47 48,qm 50 9,Rq 51 (.y .rem 50 1000000000),qi 52 1 46 49,qs 1 52 51] (.aV [qm 53 9,Rq 54 (.y .quo 53 1000000000),qm 7 54])))) (.aV [qm 26 8,qa 27 26 1,qm 8 27]))
def Ih:VC:=.q (.g [qm 16 6,qm 17 0,qn 18 1 17,qT 19 16 18] (.cond (.t 19) .skip (.exit 0))) (.q (.aO 1 (.g [qk 7 0] (.q (.g [qk 8 0] (.q (.aO 2 (.loop [0,1,5,6,7,8] Ig)) (.kp [0,1,5,6,7]))) (.aV [qm 55 5,qm 56 6,qm 57 1,qn 58 1 57,qA 59 56 58,qm 60 5,qm 61 6,qm 62 1,qn 63 1 62,qA 64 61 63,qi 65 1 60 64,ql 66 1 65,qm 67 7,qA 68 66 67,qi 69 1 55 59,qs 1 69 68])))) (.aV [qm 20 6,qa 21 20 1,qm 6 21]))
def Bf:aI:=⟨[.t 4],.g [qz 4] (.g [qm 10 0,qn 11 1 10,qm 12 1,qn 13 1 12,qA 14 11 13,Rq 15 (.gP 1 8 [.i 0] (.t 14) (.t 14)),qm 5 15] (.q (.g [qk 6 0] (.q (.aO 0 (.loop [0,1,5,6] Ih)) (.kp [5]))) (.e [qm 70 5,aB 71 300 70,qm 4 71])))⟩
def Bg:aI:=⟨[.cell 4 2 true],.g [Rq 4 (.box 2 (.c (.agg [.bool false,.ab])))] (.g [qm 5 1,aB 6 300 5,qm 1 6] (.e [qm 7 0,qm 8 7,Rt 9 8 (.m 1),Rt 10 8 (.len 1 (.t 9)),Rt 11 8 (.y .gtr 10 0),qq 12 8 11,qm 13 1,Rq 14 (.dj [.bool false,.ab] [(0,1,.t 12),(1,1,.t 13)]),qs 2 4 14]))⟩
def oG:VC:=.q (.g [qm 9 7,qm 10 0,qn 11 1 10,qT 12 9 11,qm 13 12,Rf 14 13 (.m 7),Rf 15 13 (.m 1),Rf 16 13 (.len 1 (.t 15)),Rf 17 13 (.z .lss 14 16),qp 18 13 17,qm 19 18,Rf 20 19 (.m 6),Rf 21 19 (.y .gtr 20 0),qp 22 19 21] (.cond (.t 22) .skip (.exit 0))) (.q (.aO 1 (.g [qm 25 0,qm 26 7,aP 27 302 25 26,qm 28 1,qm 29 7,aP 30 302 28 29,qA 31 27 30,qm 32 6,qA 33 31 32,qm 8 33] (.g [qm 34 5,qm 35 8,Rq 36 (.y .rem 35 1000000000),Rq 37 (.bV 1 1 [.i 0] [(0,1,.t 36)]),Rq 38 (.dH 1 8 (.t 34) (.t 37)),qm 5 38] (.aV [qm 39 8,Rq 40 (.y .quo 39 1000000000),qm 6 40])))) (.aV [qm 23 7,qa 24 23 1,qm 7 24]))
def I0:aI:=⟨[.t 4],.g [qz 4] (.g [qz 5] (.g [qk 6 0] (.q (.g [qk 7 0] (.q (.aO 0 (.loop [0,1,5,6,7] oG)) (.kp [5]))) (.e [qm 41 5,qm 4 41]))))⟩
def Cs:VC:=.q (.g [qm 19 5,Rq 20 (.y .geq 19 0)] (.cond (.t 20) .skip (.exit 0))) (.q (.aO 1 (.h [qm 23 0,qm 24 5,qi 25 1 23 24,ql 26 1 25,qm 27 1,qm 28 5,qi 29 1 27 28,ql 30 1 29,qT 31 26 30] 31 (.e [qk 4 (-1)]) (.g [qm 32 0,qm 33 5,qi 34 1 32 33,ql 35 1 34,qm 36 1,qm 37 5,qi 38 1 36 37,ql 39 1 38,Rq 40 (.z .gtr 35 39)] (.i 40 (.e [qk 4 1]))))) (.aV [qm 21 5,Rq 22 (.y .sub 21 1),qm 5 22]))
def rC:aI:=⟨[.t 4],.g [qk 4 0] (.h [qm 6 0,qn 7 1 6,qm 8 1,qn 9 1 8,Rq 10 (.z .neq 7 9)] 10 (.h [qm 11 0,qn 12 1 11,qm 13 1,qn 14 1 13,qT 15 12 14] 15 (.e [qk 4 (-1)]) (.e [qk 4 1])) (.q (.g [qm 16 0,qn 17 1 16,Rq 18 (.y .sub 17 1),qm 5 18] (.q (.aO 0 (.loop [0,1,5] Cs)) (.kp []))) (.e [qk 4 0])))⟩
def rb:VC:=.q (.g [qm 9 7,qm 10 0,qn 11 1 10,qT 12 9 11] (.cond (.t 12) .skip (.exit 0))) (.q (.aO 1 (.g [qm 15 0,qm 16 7,qi 17 1 15 16,ql 18 1 17,qm 19 1,qm 20 7,aP 21 302 19 20,Rq 22 (.z .sub 18 21),qm 23 6,Rq 24 (.z .sub 22 23),qm 8 24] (.g [qk 6 0] (.h [qm 25 8,Rq 26 (.y .lss 25 0)] 26 (.g [qm 27 8,qa 28 27 1000000000,qm 8 28] (.aV [qk 6 1])) (.aV [qm 29 5,qm 30 8,Rq 31 (.bV 1 1 [.i 0] [(0,1,.t 30)]),Rq 32 (.dH 1 8 (.t 29) (.t 31)),qm 5 32]))))) (.aV [qm 13 7,qa 14 13 1,qm 7 14]))
def I1:aI:=⟨[.t 4],.g [qz 4] (.g [qz 5] (.g [qk 6 0] (.q (.g [qk 7 0] (.q (.aO 0 (.loop [0,1,5,6,7] rb)) (.kp [5]))) (.e [qm 33 5,aB 34 300 33,qm 4 34]))))⟩
def Nt:aI:=⟨[.cell 2 2 true],.g [qb 1 2 0,Rq 2 (.box 2 (.c (.agg [.bool false,.ab])))] (.e [qo 3 0 1,ql 4 1 3,Rq 5 (.un .not (.t 4)),qo 6 1 1,ql 7 1 6,aP 8 294 5 7,qs 2 2 8])⟩
def Ii:VC:=.q (.g [qm 16 8,Rq 17 (.y .geq 16 0)] (.cond (.t 17) .skip (.exit 0))) (.q (.aO 1 (.g [qm 20 7,Rq 21 (.y .mul 20 1000000000),qm 22 0,qm 23 8,qi 24 1 22 23,ql 25 1 24,qA 26 21 25,qm 9 26] (.g [qm 27 6,qm 28 8,qm 29 9,qm 30 1,Rq 31 (.z .quo 29 30),qi 32 1 27 28,qs 1 32 31] (.aV [qm 33 9,qm 34 1,Rq 35 (.z .rem 33 34),qm 7 35])))) (.aV [qm 18 8,Rq 19 (.y .sub 18 1),qm 8 19]))
def Bh:aI:=⟨[.t 4,.t 5],.g [qz 4,qk 5 0] (.g [qm 10 0,qn 11 1 10,Rq 12 (.gP 1 8 [.i 0] (.t 11) (.t 11)),qm 6 12] (.g [qk 7 0] (.q (.g [qm 13 0,qn 14 1 13,Rq 15 (.y .sub 14 1),qm 8 15] (.q (.aO 0 (.loop [0,1,6,7,8] Ii)) (.kp [6,7]))) (.e [qm 36 6,aB 37 300 36,qm 38 7,qm 4 37,qm 5 38]))))⟩
def Ct:VC:=.q (.g [qm 3 0,qn 4 1 3,Rq 5 (.y .gtr 4 0),qm 6 5,Rt 7 6 (.m 0),Rt 8 6 (.m 0),Rt 9 6 (.len 1 (.t 8)),Rt 10 6 (.y .sub 9 1),Rt 11 6 (.bj 1 (.t 7) (.t 10)),Rt 12 6 (.ld 1 false (.t 11)),Rt 13 6 (.y .eql 12 0),qq 14 6 13] (.cond (.t 14) .skip (.exit 0))) (.aO 1 (.aV [qm 15 0,qm 16 0,qn 17 1 16,Rq 18 (.y .sub 17 1),Rq 19 (.ef (.sl 1) (.t 15) none (some (.t 18))),qm 0 19]))
def lG:aI:=⟨[.t 2],.g [qz 2] (.q (.q (.aO 0 (.loop [0] Ct)) (.kp [0])) (.e [qm 20 0,qm 2 20]))⟩
def AS:VC:=.q (.g [qm 42 9,Rq 43 (.y .geq 42 1000000000),qm 44 43,Rf 45 44 (.m 9),Rf 46 44 (.m 1),Rf 47 44 (.m 7),Rf 48 44 (.y .sub 47 2),Rf 49 44 (.bj 1 (.t 46) (.t 48)),Rf 50 44 (.ld 1 false (.t 49)),Rf 51 44 (.z .mul 45 50),Rf 52 44 (.m 10),Rf 53 44 (.y .mul 52 1000000000),Rf 54 44 (.m 0),Rf 55 44 (.m 2),Rf 56 44 (.m 7),Rf 57 44 (.z .add 55 56),Rf 58 44 (.y .sub 57 2),Rf 59 44 (.bj 1 (.t 54) (.t 58)),Rf 60 44 (.ld 1 false (.t 59)),Rf 61 44 (.z .add 53 60),Rf 62 44 (.z .gtr 51 61),qp 63 44 62] (.cond (.t 63) .skip (.exit 0))) (.aO 1 (.g [qm 64 9,Rq 65 (.y .sub 64 1),qm 9 65] (.g [qm 66 10,qm 67 1,qm 68 7,Rq 69 (.y .sub 68 1),qi 70 1 67 69,ql 71 1 70,qA 72 66 71,qm 10 72] (.g [qm 73 10,Rq 74 (.y .geq 73 1000000000)] (.i 74 (.e [qm 75 9,qm 6 75]))))))
def zB:aI:=⟨[.t 6],.g [qk 6 0] (.g [qm 11 1,qn 12 1 11,qm 7 12] (.g [qm 13 0,qm 14 2,qm 15 7,qA 16 14 15,qi 17 1 13 16,ql 18 1 17,Rq 19 (.y .mul 18 1000000000),qm 20 0,qm 21 2,qm 22 7,qA 23 21 22,Rq 24 (.y .sub 23 1),qi 25 1 20 24,ql 26 1 25,qA 27 19 26,qm 8 27] (.g [qm 28 8,qm 29 1,qm 30 7,Rq 31 (.y .sub 30 1),qi 32 1 29 31,ql 33 1 32,Rq 34 (.z .quo 28 33),qm 35 8,qm 36 1,qm 37 7,Rq 38 (.y .sub 37 1),qi 39 1 36 38,ql 40 1 39,Rq 41 (.z .rem 35 40),qm 9 34,qm 10 41] (.q (.q (.aO 0 (.loop [0,1,2,7,9,10] AS)) (.kp [9])) (.e [qm 76 9,qm 6 76])))))⟩
def rD:aI:=⟨[.t 4],.g [qk 4 0] (.h [qm 5 1,qm 6 0,qn 7 1 6,qT 8 5 7] 8 (.e [qm 9 0,qm 10 1,qi 11 1 9 10,ql 12 1 11,qm 4 12]) (.e [qk 4 0]))⟩
end
section
def SV:aI:=⟨[.t 2],.g [qb 1 3 0,qk 2 0] (.e [qo 3 0 1,qL 4 2 3,aB 5 308 4,qo 6 2 1,ql 7 1 6,aB 8 307 7,Rq 9 (.bV 2 1 [.i 0,.i 0] [(0,1,.t 5),(1,1,.t 8)]),aB 10 42 9,qm 2 10])⟩
def SW:aI:=⟨[.t 2],.g [qk 2 0] (.e [qm 3 0,Rq 4 (.q 314 [.t 3,.k 0]),qm 2 4])⟩
def SX:aI:=⟨[.t 2],.g [qb 1 2 0,qk 2 0] (.e [qo 3 0 1,ql 4 1 3,qo 5 1 1,ql 6 1 5,Rq 7 (.bV 2 1 [.str [],.str []] [(0,1,.t 4),(1,1,.t 6)]),aB 8 261 7,qm 2 8])⟩
def EU:aI:=⟨[.t 4],.g [qb 2 3 0,qf 4] (.e [qo 5 2 2,ql 6 1 5,Rq 7 (.bin .eql (.t 6) (.s [48])),qm 8 7,Rf 9 8 (.m 1),Rf 10 8 (.off 2 (.t 2)),Rf 11 8 (.ld 1 false (.t 10)),Rf 12 8 (.q 315 [.t 9,.t 11]),Rf 13 8 (.y .lss 12 0),qp 14 8 13,qm 4 14])⟩
def I2:aI:=⟨[.t 4],.g [qk 4 0] (.g [qm 6 0,aB 7 263 6,qm 5 7] (.h [qm 8 5,qE 9 8 0,qm 10 9,Rt 11 10 (.m 0),Rt 12 10 (.q 262 [.t 11]),Rt 13 10 (.m 1),Rt 14 10 (.z .lss 12 13),qq 15 10 14] 15 (.aV [qk 5 3]) (.e [qm 16 5,qm 4 16])))⟩
def I3:aI:=⟨[.t 4],.g [qk 4 0] (.e [qm 5 0,qm 6 1,aP 7 271 5 6,aB 8 262 7,qm 4 8])⟩
def Nv:aI:=⟨[.t 2],.g [qb 1 8 0,qk 2 0] (.e [qo 3 0 1,ql 4 1 3,aB 5 3 4,qo 6 1 1,ql 7 1 6,aB 8 307 7,qo 9 2 1,ql 10 1 9,Rq 11 (.q 314 [.t 10,.k 1]),qo 12 3 1,ql 13 1 12,aB 14 263 13,qo 15 4 1,qL 16 2 15,aB 17 308 16,qo 18 6 1,qL 19 2 18,aB 20 308 19,Rq 21 (.bV 6 1 [.i 0,.i 0,.i 0,.i 0,.i 0,.i 0] [(0,1,.t 5),(1,1,.t 8),(2,1,.t 11),(3,1,.t 14),(4,1,.t 17),(5,1,.t 20)]),aB 22 42 21,qm 2 22])⟩
def Bi:aI:=⟨[.t 2],.g [qf 2] (.e [qm 3 0,aB 4 272 3,qm 5 0,qn 6 0 5,Rq 7 (.z .eql 4 6),qm 2 7])⟩
def Ma:VC:=.q (.g [qm 22 6,Rq 23 (.y .geq 22 0)] (.cond (.t 23) .skip (.exit 0))) (.q (.aO 1 (.g [qo 26 1 4,ql 27 1 26,qm 28 6,qi 29 1 27 28,ql 30 1 29,qm 7 30] (.h [qo 31 0 4,ql 32 1 31] 32 (.aV [qm 33 7,Rq 34 (.bin .sub (.k 0) (.t 33)),qm 7 34]) (.h [qm 35 5,Rq 36 (.y .gtr 35 9223372036),qm 37 36,Rf 38 37 (.m 5),Rf 39 37 (.y .lss 38 (-9223372036)),qp 40 37 39,qm 41 40,Rf 42 41 (.m 5),Rf 43 41 (.y .eql 42 9223372036),Rf 44 41 (.m 43),Rt 45 44 (.m 7),Rt 46 44 (.y .gtr 45 854775807),Rf 47 41 (.pick (.t 44) (.t 46) (.c (.bool false))),qp 48 41 47,qm 49 48,Rf 50 49 (.m 5),Rf 51 49 (.y .eql 50 (-9223372036)),Rf 52 49 (.m 51),Rt 53 52 (.m 7),Rt 54 52 (.y .lss 53 (-854775808)),Rf 55 49 (.pick (.t 52) (.t 54) (.c (.bool false))),qp 56 49 55] 56 (.e [qk 2 0,qf 3]) (.aV [qm 57 5,Rq 58 (.y .mul 57 1000000000),qm 59 7,qA 60 58 59,qm 5 60]))))) (.aV [qm 24 6,Rq 25 (.y .sub 24 1),qm 6 25]))
def Bj:aI:=⟨[.t 2,.t 3],.g [qk 2 0,qf 3] (.h [qm 8 0,aB 9 338 8,Rq 10 (.un .not (.t 9)),qm 11 10,Rf 12 11 (.m 0),Rf 13 11 (.len 0 (.t 12)),Rf 14 11 (.y .gtr 13 20),qp 15 11 14] 15 (.e [qk 2 0,qf 3]) (.g [qm 16 0,aB 17 288 16,Rq 4 (.box 2 (.c (.agg [.bool false,.ab]))),qs 2 4 17] (.g [qk 5 0] (.q (.g [qo 18 1 4,ql 19 1 18,qn 20 1 19,Rq 21 (.y .sub 20 1),qm 6 21] (.q (.aO 0 (.loop [4,5,6] Ma)) (.kp [5]))) (.e [qm 61 5,qm 2 61,Rq 3 (.cg (.c (.bool true)))])))))⟩
def EV:aI:=⟨[.t 4],.g [qb 2 3 0,qf 4] (.e [qo 5 0 2,qL 6 2 5,qm 7 1,aP 8 358 6 7,qm 9 8,Rt 10 9 (.off 2 (.t 2)),Rt 11 9 (.ld 1 false (.t 10)),Rt 12 9 (.m 1),Rt 13 9 (.q 359 [.t 11,.t 12]),qq 14 9 13,qm 15 14,Rt 16 15 (.ld 3 true (.t 2)),Rt 17 15 (.q 306 [.t 16]),Rt 18 15 (.y .eql 17 0),qq 19 15 18,qm 4 19])⟩
def EW:aI:=⟨[.t 4],.g [qb 2 2 0,qf 4] (.e [qo 5 0 2,ql 6 1 5,qm 7 1,aP 8 359 6 7,qm 9 8,Rt 10 9 (.off 1 (.t 2)),Rt 11 9 (.ld 1 false (.t 10)),Rt 12 9 (.m 1),Rt 13 9 (.q 359 [.t 11,.t 12]),qq 14 9 13,qm 4 14])⟩
def oQ:aI:=⟨[.t 4],.g [qf 4] (.e [qm 5 0,qn 6 0 5,qm 7 1,Rq 8 (.bin .mul (.k 2) (.t 7)),qa 9 8 2,Rq 10 (.z .leq 6 9),qm 11 10,Rt 12 11 (.m 0),Rt 13 11 (.q 263 [.t 12]),Rt 14 11 (.y .eql 13 0),qq 15 11 14,qm 16 15,Rt 17 16 (.m 0),Rt 18 16 (.q 284 [.t 17]),Rt 19 16 (.q 285 [.t 18]),Rt 20 16 (.len 0 (.t 19)),Rt 21 16 (.m 1),Rt 22 16 (.z .leq 20 21),qq 23 16 22,qm 24 23,Rt 25 24 (.m 0),Rt 26 24 (.q 286 [.t 25]),Rt 27 24 (.len 0 (.t 26)),Rt 28 24 (.m 1),Rt 29 24 (.z .leq 27 28),qq 30 24 29,qm 4 30])⟩
def zC:aI:=⟨[.t 6],.g [qb 3 8 0,qb 4 6 1,qb 5 2 2,qf 6] (.h [px 32 1,Rq 33 (.un .not (.t 32)),qm 34 33,Rf 35 34 (.ld 8 true (.t 3)),Rf 36 34 (.q 361 [.t 35,.k 5,.k 6]),Rf 37 34 (.un .not (.t 36)),qp 38 34 37,qm 39 38,Rf 40 39 (.off 0 (.t 4)),Rf 41 39 (.ld 3 true (.t 40)),Rf 42 39 (.q 357 [.t 41,.k 6]),Rf 43 39 (.un .not (.t 42)),qp 44 39 43,qm 45 44,Rf 46 45 (.off 3 (.t 4)),Rf 47 45 (.ld 2 true (.t 46)),Rf 48 45 (.q 358 [.t 47,.k 6]),Rf 49 45 (.un .not (.t 48)),qp 50 45 49,qm 51 50,Rf 52 51 (.off 0 (.t 4)),Rf 53 51 (.ld 3 true (.t 52)),Rf 54 51 (.off 1 (.t 3)),Rf 55 51 (.ld 1 false (.t 54)),Rf 56 51 (.q 309 [.t 53,.t 55]),Rf 57 51 (.un .not (.t 56)),qp 58 51 57] 58 (.e [px 59 1,qm 6 59]) (.g [Rq 60 (.Bw 2 1 (.t 5) (.k 0)),ql 61 1 60,Rq 62 (.cv (.toInt .i64) (.t 61)),Rq 63 (.y .rem 62 100),Rq 64 (.Bw 2 1 (.t 5) (.k 1)),ql 65 1 64,Rq 66 (.cv (.toInt .i64) (.t 65)),Rq 67 (.y .rem 66 100),qm 7 63,qm
 8 67] (.g [qL 69 8 3,qm 70 7,aP 71 362 69 70,qm 68 71,qe 72 0 68,qe 73 1 68,Rq 9 (.box 8 (.c (.agg [.ab,.str [],.str [],.str [],.str [],.str [],.str [],.str []]))),qs 8 9 72,qm 10 73] (.g [qL 75 8 9,qm 76 8,aP 77 362 75 76,qm 74 77,qe 78 0 74,qe 79 1 74,Rq 11 (.box 8 (.c (.agg [.ab,.str [],.str [],.str [],.str [],.str [],.str [],.str []]))),qs 8 11 78,qm 12 79] (.g [qL 81 8 3,qm 82 7,qm 83 8,qA 84 82 83,aP 85 362 81 84,qm 80 85,qe 86 0 80,qe 87 1 80,Rq 13 (.box 8 (.c (.agg [.ab,.str [],.str [],.str [],.str [],.str [],.str [],.str []]))),qs 8 13 86,qm 14 87] (.g [qL 89 8 9,qm 90 7,Rq 91 (.un .neg (.t 90)),aP 92 362 89 91,qm 88 92,qe 93 0 88,qe 94 1 88,Rq 15 (.box 8 (.c (.agg [.ab,.str [],.str [],.str [],.str [],.str [],.str [],.str []]))),qs 8 15 93,qm 16 94] (.h [qm 95 10,qm 96 12,qA 97 95 96,qm 98 14,qA 99 97 98,qm 100 16,qA 101 99 100,qN 102 101 0,qm 103 102,Rf 104 103 (.ld 8
 true (.t 11)),Rf 105 103 (.ld 8 true (.t 13)),Rf 106 103 (.q 363 [.t 104,.t 105]),Rf 107 103 (.un .not (.t 106)),qp 108 103 107,qm 109 108,Rf 110 109 (.ld 8 true (.t 15)),Rf 111 109 (.ld 8 true (.t 3)),Rf 112 109 (.q 363 [.t 110,.t 111]),Rf 113 109 (.un .not (.t 112)),qp 114 109 113] 114 (.e [qf 6]) (.g [qL 116 8 9,qo 117 0 4,qL 118 3 117,qo 119 3 4,qL 120 2 119,qm 121 8,Fm 122 24 116 118 120 121,qm 115 122,qe 123 0 115,qe 124 1 115,qm 17 123,qm 18 124] (.g [qL 126 8 3,qo 127 0 4,qL 128 3 127,qo 129 3 4,qL 130 2 129,qm 131 7,qm 132 8,qA 133 131 132,Fm 134 24 126 128 130 133,qm 125 134,qe 135 0 125,qe 136 1 125,qm 19 135,qm 20 136] (.h [qm 137 18,qm 138 20,qA 139 137 138,qN 140 139 0,qm 141 140,Rf 142 141 (.m 17),Rf 143 141 (.m 19),Rf 144 141 (.z .neq 142 143),qp 145 141 144,qm 146 145,Rf 147 146 (.m 17),Rf 148 146 (.q 263 [.t 147]),Rf 149 146 (.y .neq 148 0),qp 150 146 149] 150 (.e [qf 6])
 (.h [qo 151 6 3,qo 152 0 151,ql 153 1 152,aB 154 338 153,Rq 155 (.un .not (.t 154)),qm 156 155,Rf 157 156 (.off 6 (.t 3)),Rf 158 156 (.off 1 (.t 157)),Rf 159 156 (.ld 1 false (.t 158)),Rf 160 156 (.q 338 [.t 159]),Rf 161 156 (.un .not (.t 160)),qp 162 156 161] 162 (.e [Rq 6 (.cg (.c (.bool true)))]) (.g [qo 164 6 3,qo 165 0 164,ql 166 1 165,aB 167 340 166,qm 163 167,qe 168 0 163,qe 169 1 163,qm 21 168,qm 22 169] (.g [qo 171 6 3,qo 172 1 171,ql 173 1 172,aB 174 340 173,qm 170 174,qe 175 0 170,qe 176 1 170,qm 23 175,qm 24 176] (.g [qo 178 0 3,ql 179 1 178,qm 180 8,Rq 181 (.un .neg (.t 180)),qm 182 21,Rq 183 (.z .mul 181 182),qm 184 8,Rq 185 (.un .neg (.t 184)),qm 186 23,Rq 187 (.z .mul 185 186),nZ 188 20 179 183 187,qm 177 188,qe 189 0 177,qe 190 1 177,qm 25 189,qm 26 190] (.g [qL 191 8 3,Rq 27 (.box 8 (.c (.agg [.ab,.str [],.str [],.str [],.str [],.str [],.str [],.str []]))),qs 8 27
 191] (.g [qm 192 25,Rq 193 (.q 14 [.s [48],.s [48]]),qo 194 0 27,qs 1 194 192,qo 195 6 27,qs 2 195 193] (.g [qL 197 8 3,qo 198 0 4,qL 199 3 198,qo 200 3 4,qL 201 2 200,qm 202 8,Fm 203 24 197 199 201 202,qm 196 203,qe 204 0 196,qe 205 1 196,qm 28 204,qm 29 205] (.g [qL 207 8 27,qo 208 0 4,qL 209 3 208,qo 210 3 4,qL 211 2 210,Rq 212 (.q 24 [.t 207,.t 209,.t 211,.k 5]),qm 206 212,qe 213 0 206,qe 214 1 206,qm 30 213,qm 31 214] (.e [qm 215 26,qm 216 29,qA 217 215 216,qm 218 31,qA 219 217 218,qE 220 219 0,qm 221 220,Rt 222 221 (.m 28),Rt 223 221 (.m 30),Rt 224 221 (.z .eql 222 223),qq 225 221 224,qm 6 225])))))))))))))))))))⟩
def Bk:aI:=⟨[.t 6],.g [qb 3 8 0,qf 6] (.h [qo 7 0 3,ql 8 1 7,qn 9 1 8,qm 10 1,Rq 11 (.z .gtr 9 10),qm 12 11,Rf 13 12 (.off 0 (.t 3)),Rf 14 12 (.ld 1 false (.t 13)),Rf 15 12 (.q 3 [.t 14]),Rf 16 12 (.y .neq 15 0),qp 17 12 16,qm 18 17,Rf 19 18 (.off 1 (.t 3)),Rf 20 18 (.ld 1 false (.t 19)),Rf 21 18 (.off 2 (.t 3)),Rf 22 18 (.ld 1 false (.t 21)),Rf 23 18 (.off 3 (.t 3)),Rf 24 18 (.ld 1 false (.t 23)),Rf 25 18 (.bV 3 1 [.str [],.str [],.str []] [(0,1,.t 20),(1,1,.t 22),(2,1,.t 24)]),Rf 26 18 (.m 2),Rf 27 18 (.q 364 [.t 25,.k 3,.t 26]),Rf 28 18 (.un .not (.t 27)),qp 29 18 28,qm 30 29,Rf 31 30 (.off 4 (.t 3)),Rf 32 30 (.ld 2 true (.t 31)),Rf 33 30 (.m 2),Rf 34 30 (.q 358 [.t 32,.t 33]),Rf 35 30 (.un .not (.t 34)),qp 36 30 35,qm 37 36,Rf 38 37 (.off 6 (.t 3)),Rf 39 37 (.ld 2 true (.t 38)),Rf 40 37 (.m 2),Rf 41 37 (.q 358 [.t 39,.t 40]),Rf 42 37 (.un .not (.t 41)),qp 43 37 42] 43 (.e [qf 6]) (.e [qL 44 8 3,aB
 45 335 44,qE 46 45 0,qm 6 46]))⟩
def EX:aI:=⟨[.cell 4 8 true,.t 5],.g [qb 2 8 0,Rq 4 (.box 8 (.c (.agg [.ab,.str [],.str [],.str [],.str [],.str [],.str [],.str []]))),qk 5 0] (.q (.g [qL 10 8 2,aB 11 115 10,qm 12 1,aB 13 51 12,Rq 14 (.bV 2 1 [.i 0,.i 0] [(0,1,.t 11),(1,1,.t 13)]),aB 15 33 14,qm 6 15] (.g [qm 16 6,qN 17 16 0] (.i 17 (.e [Rq 18 (.dj [.ab,.str [],.str [],.str [],.str [],.str [],.str [],.str []] []),qm 19 6,qs 8 4 18,qm 5 19])))) (.g [qo 21 4 2,qL 22 2 21,aB 23 54 22,qo 24 6 2,qL 25 2 24,aB 26 54 25,qm 27 1,aB 28 69 27,aP 29 75 26 28,aP 30 112 23 29,aB 31 65 30,qm 20 31,qe 32 0 20,qe 33 1 20,Rq 7 (.box 2 (.c (.agg [.str [],.str []]))),qs 2 7 32,qm 8 33] (.h [qm 34 8,qN 35 34 0] 35 (.e [Rq 36 (.dj [.ab,.str [],.str [],.str [],.str [],.str [],.str [],.str []] []),qm 37 8,qs 8 4 36,qm 5 37]) (.g [qL 38 8 2,Rq 9 (.box 8 (.c (.agg [.ab,.str [],.str [],.str [],.str [],.str [],.str [],.str []]))),qs 8
 9 38] (.g [qL 39 2 7,qo 40 4 9,qs 2 40 39] (.g [qo 41 0 2,ql 42 1 41,qn 43 1 42,Rq 44 (.oW (.f 365) [] [.t 2]),aP 45 40 43 44,qo 46 0 9,qs 1 46 45] (.e [qL 47 8 9,qs 8 4 47,qk 5 0])))))))⟩
def Nw:aI:=⟨[.t 4],.g [qb 2 8 0,qb 3 8 1,qf 4] (.e [qo 5 0 2,ql 6 1 5,qo 7 0 3,ql 8 1 7,aP 9 21 6 8,qm 10 9,Rt 11 10 (.off 1 (.t 2)),Rt 12 10 (.ld 1 false (.t 11)),Rt 13 10 (.off 1 (.t 3)),Rt 14 10 (.ld 1 false (.t 13)),Rt 15 10 (.z .eql 12 14),qq 16 10 15,qm 17 16,Rt 18 17 (.off 2 (.t 2)),Rt 19 17 (.ld 1 false (.t 18)),Rt 20 17 (.off 2 (.t 3)),Rt 21 17 (.ld 1 false (.t 20)),Rt 22 17 (.z .eql 19 21),qq 23 17 22,qm 24 23,Rt 25 24 (.off 3 (.t 2)),Rt 26 24 (.ld 1 false (.t 25)),Rt 27 24 (.off 3 (.t 3)),Rt 28 24 (.ld 1 false (.t 27)),Rt 29 24 (.z .eql 26 28),qq 30 24 29,qm 31 30,Rt 32 31 (.off 4 (.t 2)),Rt 33 31 (.ld 2 true (.t 32)),Rt 34 31 (.off 4 (.t 3)),Rt 35 31 (.ld 2 true (.t 34)),Rt 36 31 (.eq false (.ag [2,2]) (.t 33) (.t 35)),qq 37 31 36,qm 38 37,Rt 39 38 (.off 6 (.t 2)),Rt 40 38 (.ld 2 true (.t 39)),Rt 41 38 (.off 6 (.t 3)),Rt 42 38 (.ld 2 true (.t 41)),Rt 43 38 (.eq false (.ag [2,2]) (.t 40)
 (.t 42)),qq 44 38 43,qm 4 44])⟩
def Ef:VC:=.q (.g [qm 12 7,qm 13 0,qn 14 1 13,qT 15 12 14] (.cond (.t 15) .skip (.exit 0))) (.q (.aO 1 (.g [qm 18 0,qm 19 7,qi 20 1 18 19,ql 21 1 20,qm 22 2,aP 23 359 21 22,Rq 24 (.un .not (.t 23))] (.i 24 (.e [qf 6])))) (.aV [qm 16 7,qa 17 16 1,qm 7 17]))
def Nx:aI:=⟨[.t 6],.g [qf 6] (.h [qm 8 0,qn 9 1 8,qm 10 1,Rq 11 (.z .gtr 9 10)] 11 (.e [qf 6]) (.q (.g [qk 7 0] (.q (.aO 0 (.loop [0,2,7] Ef)) (.kp []))) (.e [Rq 6 (.cg (.c (.bool true)))])))⟩
def I4:aI:=⟨[.t 5],.g [qk 5 0] (.e [qo 6 0 2,ql 7 1 6,qm 8 1,qi 9 1 7 8,ql 10 1 9,qm 11 0,qi 12 1 10 11,ql 13 1 12,qm 5 13])⟩
end
section
inductive Tr (α:Type) where
 | l
 | n (k:Nat) (v:α) (a b:Tr α)
def Tr.find {α:Type}:Tr α->Nat->Option α
 | .l,_=>none
 | .n k v a b,i=>bif yr i k then some v else bif yG i k then a.find i else b.find i
end
section
open Go (IntKind FloatKind)
def MA:yU->Nat
 | .i8=>0 | .i16=>1 | .i32=>2 | .i64=>3 | .u8=>4 | .u16=>5 | .u32=>6 | .u64=>7
def U7:Int->Int->Bool
 | .ofNat a,.ofNat b=>yr a b
 | .negSucc a,.negSucc b=>yr a b
 | _,_=>false
def OJ:Bool->Bool->Bool
 | true,true | false,false=>true
 | _,_=>false
def eqF:vU->vU->Bool
 | .f32,.f32 | .f64,.f64=>true
 | _,_=>false
mutual
def gF:AV->AV->Bool
 | .int k a,.int k' b=>yr (MA k) (MA k')&&U7 a b
 | .bool a,.bool b=>OJ a b
 | .dB k a,.dB k' b=>eqF k k'&&yr a b
 | .str a,.str b=>cI a b
 | .jT,.jT=>true
 | .aF a,.aF b=>mw a b
 | .ab,.ab=>true
 | .aE e n a,.aE e' n' b=>OJ e e'&&(yr n n'&&mw a b)
 | .cG e s n a,.cG e' s' n' b=>OJ e e'&&(yr s s'&&(yr n n'&&mw a b))
 | .fn (.f g) a b,.fn (.f g') a' b'=>yr g g'&&(mw a a'&&mw b b')
 | .hO,.hO=>true
 | .jz,.jz=>true
 | .jf a b,.jf a' b'=>mw a a'&&mw b b'
 | .agg a,.agg b=>mw a b
 | .aq a,.aq b=>mw a b
 | .undef,.undef=>true
 | _,_=>false
def mw:List AV->List AV->Bool
 | [],[]=>true
 | a::x,b::y=>gF a b&&mw x y
 | _,_=>false
end
def hI:Int->Nat
 | .ofNat n=>n
 | .negSucc n=>n+n
def hS:List Nat->Nat
 | []=>1
 | b::r=>(b+257*hS r)%65521
mutual
def hV:AV->Nat
 | .int _ n=>hI n
 | .bool b=>bif b then 1 else 2
 | .dB _ n=>n
 | .str s=>hS s
 | .aE _ n cs=>n+hL cs
 | .agg cs=>hL cs
 | .aq cs=>hL cs
 | _=>5
def hL:List AV->Nat
 | []=>7
 | v::r=>(hV v+263*hL r)%65521
end
abbrev Te:=Tr (List AV×AV)
abbrev aC:=List Te
def Cu (h:Nat) (vals:List AV):aC->Option AV
 | []=>none
 | t::l=>match t.find h with
  | some (a,r)=>bif mw a vals then some r else Cu h vals l
  | none=>Cu h vals l
def adp (vals:List AV) (l:aC):Option AV:=Cu (hL vals) vals l
abbrev Te.o (h:Nat) (a:List AV) (r:AV):Te:= .n h (a,r) .l .l
abbrev Te.m (h:Nat) (a:List AV) (r:AV) (x y:Te):Te:= .n h (a,r) x y
def Cv (n:Nat):List (Tr aC)->Option aC
 | []=>none
 | t::r=>match t.find n with
  | none=>Cv n r
  | some l=>match Cv n r with | none=>some l | some m=>some (l++m)
def Ny (L:Lib) (T:List (Tr aC)) (ex:Nat):Lib:=
 ⟨fun i=>match L.pure i with
  | some sp=>some sp
  | none=>bif yr i ex then none else match Cv i T with | some l=>some (fun vals=>adp vals l) | none=>none,L.heap⟩
def I5 (P:aK) (L:Lib) (f:Nat):Te->Bool
 | .l=>true
 | .n _ e x y=>(match Ui P L 100000 f e.1 with | some r'=>gF r' e.2 | none=>false)&&(I5 P L f x&&I5 P L f y)
def MB (P:aK) (L:Lib) (f:Nat):aC->Bool
 | []=>true
 | t::l=>I5 P L f t&&MB P L f l
def iG (P:aK) (L:Lib) (T:List (Tr aC)):List (Nat×aC)->Bool
 | []=>true
 | (f,l)::C=>MB P (Ny L T f) f l&&iG P L T C
end
section
open Go
def ajP {a b:yU} (h:yr (MA a) (MA b)=true):a=b:=by
 cases a<;>cases b<;>first | rfl | (exact absurd h (by decide))
def alU {a b:Int} (h:U7 a b=true):a=b:=by
 cases a<;>cases b<;>simp only [U7,reduceCtorEq] at h<;>rw [yo h]
def QD {a b:Bool} (h:OJ a b=true):a=b:=by
 cases a<;>cases b<;>first | rfl | (exact absurd h (by decide))
def alV {a b:vU} (h:eqF a b=true):a=b:=by
 cases a<;>cases b<;>first | rfl | (exact absurd h (by decide))
mutual
def ZL:∀(a b:AV),gF a b=true->a=b
 | .int k a,b,h=>by
  cases b<;>simp only [gF,yf,yC] at h
  rw [ajP h.1,alU h.2]
 | .bool a,b,h=>by
  cases b<;>simp only [gF,yC] at h
  rw [QD h]
 | .dB k a,b,h=>by
  cases b<;>simp only [gF,yf,yC] at h
  rw [alV h.1,yo h.2]
 | .str a,b,h=>by
  cases b<;>simp only [gF,yC] at h
  rw [Qy h]
 | .jT,b,h=>by cases b<;>simp only [gF,yC] at h;rfl
 | .ptr _ _,b,h=>by cases b<;>simp only [gF,yC] at h
 | .aF a,b,h=>by
  cases b<;>simp only [gF,yC] at h
  rw [pI _ _ h]
 | .ab,b,h=>by cases b<;>simp only [gF,yC] at h;rfl
 | .aE e n a,b,h=>by
  cases b<;>simp only [gF,yf,yC] at h
  rw [QD h.1,yo h.2.1,pI _ _ h.2.2]
 | .cG e s n a,b,h=>by
  cases b<;>simp only [gF,yf,yC] at h
  rw [QD h.1,yo h.2.1,yo h.2.2.1,pI _ _ h.2.2.2]
 | .ak _ _ _,b,h=>by cases b<;>simp only [gF,yC] at h
 | .fn (.f g) x y,b,h=>by
  cases b<;>try (simp only [gF,yC] at h;done)
  rename_i fr _ _;cases fr<;>simp only [gF,yf,yC] at h
  rw [yo h.1,pI _ _ h.2.1,pI _ _ h.2.2]
 | .fn (.y _) _ _,b,h=>by cases b<;>simp only [gF,yC] at h
 | .hO,b,h=>by cases b<;>simp only [gF,yC] at h;rfl
 | .jz,b,h=>by cases b<;>simp only [gF,yC] at h;rfl
 | .map _,b,h=>by cases b<;>simp only [gF,yC] at h
 | .jf x y,b,h=>by
  cases b<;>simp only [gF,yf,yC] at h
  rw [pI _ _ h.1,pI _ _ h.2]
 | .it _,b,h=>by cases b<;>simp only [gF,yC] at h
 | .agg a,b,h=>by
  cases b<;>simp only [gF,yC] at h
  rw [pI _ _ h]
 | .aq a,b,h=>by
  cases b<;>simp only [gF,yC] at h
  rw [pI _ _ h]
 | .undef,b,h=>by cases b<;>simp only [gF,yC] at h;rfl
def pI:∀(a b:List AV),mw a b=true->a=b
 | [],b,h=>by cases b<;>simp only [mw,yC] at h;rfl
 | x::a,b,h=>by
  cases b<;>simp only [mw,yf,yC] at h
  rw [ZL _ _ h.1,pI _ _ h.2]
end
def Tr.Has {α:Type} (x:α):Tr α->Prop
 | .l=>False
 | .n _ v a b=>v=x\/a.Has x\/b.Has x
def Tr.QE {α:Type} {h:Nat} {x:α}:∀{t:Tr α},t.find h=some x->t.Has x
 | .l,hf=>by simp [Tr.find] at hf
 | .n k v a b,hf=>by
  simp only [Tr.find] at hf
  cases h1:yr h k with
  | true=>rw [h1] at hf;simp only [ym,yc] at hf;exact .inl hf
  | false=>
   rw [h1] at hf
   cases h2:yG h k with
   | true=>rw [h2] at hf;exact .inr (.inl (Tr.QE hf))
   | false=>rw [h2] at hf;exact .inr (.inr (Tr.QE hf))
def OK (vals:List AV) (r:AV) (l:aC):Prop:=∃t,t∈l/\t.Has (vals,r)
def X0 {h:Nat} {vals:List AV} {r:AV}:∀{l:aC},Cu h vals l=some r->OK vals r l
 | [],hf=>by simp [Cu] at hf
 | t::l,hf=>by
  have tail:Cu h vals l=some r->OK vals r (t::l):=fun q=>by
   obtain ⟨t',h1,h2⟩:=X0 q;exact ⟨t',wk _ h1,h2⟩
  simp only [Cu] at hf
  split at hf
  ·rename_i a q he
   cases hb:mw a vals with
   | true=>
    rw [hb] at hf;simp only [ym,yc] at hf;rw [pI _ _ hb,hf] at he;exact ⟨t,wJ,Tr.QE he⟩
   | false=>
    grind
  ·grind
def ajQ {vals:List AV} {r:AV} {l:aC} (h:adp vals l=some r):OK vals r l:=X0 h
def kQ (O:bw) (f:Nat) (l:aC):Prop:=∀vals r,OK vals r l->eN O f vals r
def kQ.nil {O:bw} {f:Nat}:kQ O f []:=fun _ _ h=>by obtain ⟨t,h,_⟩:=h;cases h
def kQ.dH {O:bw} {f:Nat} {a b:aC} (ha:kQ O f a) (hb:kQ O f b):kQ O f (a++b):=fun v r h=>by
 obtain ⟨t,h,h2⟩:=h;exact (List.mem_append.1 h).elim (fun h=>ha v r ⟨t,h,h2⟩) (fun h=>hb v r ⟨t,h,h2⟩)
def kQ.one {O:bw} {f k:Nat} {vals:List AV} {r:AV} (h:eN O f vals r):kQ O f [.n k (vals,r) .l .l]:=fun v q hm=>by
 obtain ⟨t,h1,h2⟩:=hm;rcases wo.1 h1 with e | e
 ·subst e;rcases h2 with h2 | h2 | h2
  ·grind
  ·exact h2.elim
  ·exact h2.elim
 ·cases e
def Tr.lQ {α:Type} (p:Nat->α->Prop):Tr α->Prop
 | .l=>True
 | .n k v a b=>p k v/\a.lQ p/\b.lQ p
def Tr.jv {α:Type} {p:Nat->α->Prop}:Tr.lQ p .l:=trivial
def Tr.kJ {α:Type} {p:Nat->α->Prop} {k:Nat} {v:α} {a b:Tr α} (h:p k v) (ha:a.lQ p) (hb:b.lQ p):Tr.lQ p (.n k v a b):=⟨h,ha,hb⟩
def Tr.Cd {α:Type} {p:Nat->α->Prop} {i:Nat} {v:α}:∀{t:Tr α},t.lQ p->t.find i=some v->p i v
 | .l,_,h=>by simp [Tr.find] at h
 | .n k w a b,ha,h=>by
  simp only [Tr.find] at h
  cases hb:yr i k with
  | true=>
   rw [hb] at h;simp only [ym,yc] at h;subst h;rw [yo hb];exact ha.1
  | false=>
   rw [hb] at h
   cases hc:yG i k with
   | true=>rw [hc] at h;exact Tr.Cd ha.2.1 h
   | false=>rw [hc] at h;exact Tr.Cd ha.2.2 h
abbrev bw.sP (O:bw) (L:Lib):bw:={O with aU:=L}
def ZM {O:bw} {L:Lib} {m:Mp} {S:Nat->Prop} {w:World} {id:Nat} {o:Obj}:fB (O.sP L) m S w id o↔fB O m S w id o:=by
 cases o<;>exact Iff.rfl
def ZN {O:bw} {L:Lib} {m:Mp} {S:Nat->Prop} {w:World} {hp:Hp} {ct:Nat}:aZ (O.sP L) m S w hp ct↔aZ O m S w hp ct:=
 ⟨fun h=>⟨fun id o p h1 h2=>ZM.1 (h.obj id o p h1 h2),h.lt,h.inj,h.slt,h.blt,h.low,h.lE,h.fP,h.bi⟩,
  fun h=>⟨fun id o p h1 h2=>ZM.2 (h.obj id o p h1 h2),h.lt,h.inj,h.slt,h.blt,h.low,h.lE,h.fP,h.bi⟩⟩
def YP {O:bw} {L:Lib} {n:Nat} {hp:Hp} {ct:Nat} {vals:List AV} {v:AV} {ao:Hp} {bh:Nat} (h:A0 O n hp ct vals v ao bh):A0 (O.sP L) n hp ct vals v ao bh:=by
 intro m S w args h1 h2;have post:∀e w',sH O m S w hp ct v ao bh e w'->sH (O.sP L) m S w hp ct v ao bh e w':=by
  rintro e w' ⟨u,m',S',k1,k2,k3,k4,k5⟩;exact ⟨u,m',S',k1,ZN.2 k2,k3,k4,k5⟩
 exact AK.mono (h m S w args (ZN.1 h1) h2) post
def eL (O:bw) (T:List (Tr aC)):Prop:=∀t,t∈T->t.lQ (kQ O)
def eL.nil {O:bw}:eL O []:=fun _ h=>by cases h
def eL.cons {O:bw} {t:Tr aC} {T:List (Tr aC)} (h:t.lQ (kQ O)) (hT:eL O T):eL O (t::T):=fun u hu=>by
 rcases wo.1 hu with e | e
 ·grind
 ·exact hT u e
def Qa {O:bw} {n:Nat}:∀{T:List (Tr aC)} {l:aC},eL O T->Cv n T=some l->kQ O n l
 | [],_,_,h=>by simp [Cv] at h
 | t::T,l,hT,h=>by
  have hT':eL O T:=fun u hu=>hT u (wk _ hu)
  simp only [Cv] at h
  split at h
  ·exact Qa hT' h
  ·rename_i l1 h1;have c1:=Tr.Cd (hT t wJ) h1
   split at h
   ·grind
   ·rename_i m h2;simp only [yc] at h;subst h;exact kQ.dH c1 (Qa hT' h2)
def aaN {O:bw} (hO:eH O) {T:List (Tr aC)} (hT:eL O T) (ex:Nat):eH (O.sP (Ny O.aU T ex)) where
 hint:=hO.hint
 mixed:=hO.mixed
 prog:=hO.prog
 aU n sp vals r h hs:=by
  simp only [Ny] at h
  cases hl:O.aU.pure n with
  | some OL=>
   simp only [hl,yc] at h;subst h;exact hO.aU n _ vals r hl hs
  | none=>
   simp only [hl] at h
   cases hb:yr n ex with
   | true=>rw [hb] at h;cases h
   | false=>
    rw [hb] at h;simp only [yB] at h
    cases hf:Cv n T with
    | none=>simp [hf] at h
    | some l=>
     simp only [hf,yc] at h;subst h;exact Qa hT hf vals r (ajQ hs)
 EH n sp hp ct vals v ao bh h hs:=YP (hO.EH n sp hp ct vals v ao bh h hs)
def Qb {O:bw} {L:Lib} (hO:eH (O.sP L)) {f:Nat} {vals:List AV} {r:AV}:∀{t:Te},I5 O.prog L f t=true->t.Has (vals,r)->eN O f vals r
 | .l,_,h=>h.elim
 | .n k e x y,h,hm=>by
  simp only [I5,yf] at h;rcases hm with e1 | hm | hm
  ·subst e1;have h1:=h.1
   split at h1
   ·rename_i r' hr;have e:r'=r:=ZL _ _ h1;rw [<-e];exact sound hO hr
   ·cases h1
  ·exact Qb hO h.2.1 hm
  ·exact Qb hO h.2.2 hm
def X1 {O:bw} {L:Lib} (hO:eH (O.sP L)) {f:Nat}:∀{l:aC},MB O.prog L f l=true->kQ O f l
 | [],_=>kQ.nil
 | t::l,h=>by
  simp only [MB,yf] at h;intro v q hm;obtain ⟨t',h1,h2⟩:=hm;rcases wo.1 h1 with e | e
  ·subst e;exact Qb hO h.1 h2
  ·exact X1 hO h.2 v q ⟨t',e,h2⟩
def chunk_ok {O:bw} (hO:eH O) {T:List (Tr aC)} (hT:eL O T):∀{C:List (Nat×aC)},iG O.prog O.aU T C=true->∀f l,(f,l)∈C->kQ O f l
 | [],_,f,l,h=>by cases h
 | (g,l')::C,h,f,l,hm=>by
  simp only [iG,yf] at h;rcases wo.1 hm with e | hm
  ·injection e with e1 e2
   subst e1;subst e2;exact X1 (aaN hO hT f) h.1
  ·exact chunk_ok hO hT h.2 f l hm
def kB {O:bw} {P:aK} {L:Lib} (hO:eH O) (hp:O.prog=P) (hl:O.aU=L) {T:List (Tr aC)} (hT:eL O T) {C:List (Nat×aC)} (h:iG P L T C=true) (i:Nat) {f:Nat} {l:aC} (hi:C[i]? =some (f,l)):kQ O f l:=by
 subst hp;subst hl;exact chunk_ok hO hT h f l (List.mem_of_getElem? hi)
def aN {α:Type} {p:Nat->α->Prop} {k:Nat} {v:α} {a b:Tr α} (h:p k v) (ha:a.lQ p) (hb:b.lQ p):Tr.lQ p (.n k v a b):=Tr.kJ h ha hb
def aL {α:Type} {p:Nat->α->Prop}:Tr.lQ p .l:=Tr.jv
end
section
open Go
structure HD where
 n:Nat
 live:List (Nat×List Nat)
 out:List (Nat×List Nat)
 mode:List (Nat×Md)
 fz:List (Nat×List Nat)
 deriving Inhabited
def IC {α:Type} (i:Nat):List (Nat×α)->Option α
 | []=>none
 | (j,a)::l=>bif yr j i then some a else IC i l
def aqb (cm:Nat->Option Nat) (d:HD):Hint where
 n:=d.n
 cm:=cm
 live:=fun l=>match IC l d.live with | some x=>x | none=>[]
 out:=fun l=>IC l d.out
 mode:=fun k=>match IC k d.mode with | some x=>x | none=> .pure
 fz:=fun i=>match IC i d.fz with | some x=>x | none=>[]
def MC (cm:Tr Nat) (t:Tr HD) (i:Nat):Hint:=aqb cm.find (match t.find i with | some d=>d | none=>⟨0,[],[],[],[]⟩)
def zD (t:Tr Nat) (i:Nat):Nat:=match t.find i with | some f=>f | none=>0
def ID (ah:Tr Nat):Tr Nat->Bool
 | .l=>true
 | .n f g a b=>yr (zD ah g) f&&(ID ah a&&ID ah b)
def PN {ah:Tr Nat}:∀{t:Tr Nat},ID ah t=true->t.lQ (fun f g=>zD ah g=f)
 | .l,_=>trivial
 | .n f g a b,h=>by
  simp only [ID,yf] at h;exact ⟨yo h.1,PN h.2.1,PN h.2.2⟩
def RB (P:y5) (ah:Tr Nat) (cm:Tr Nat) (hd:Tr HD) (i:Nat) (F:aI):Prop:=
 ∃fn,P.funcs[zD ah i]? =some fn/\D6 P (MC cm hd i) fn=some F/\fn.name≠ "runtime.NumGoroutine"
def ajR {P:y5} {ah cm:Tr Nat} {hd:Tr HD} {i:Nat} {F:aI} (h:(P.funcs[zD ah i]?).bind (D6 P (MC cm hd i))=some F) (h2:(P.funcs[zD ah i]?).map (fun fn=>decide (fn.name= "runtime.NumGoroutine"))=some false):RB P ah cm hd i F:=by
 unfold RB
 cases hq:P.funcs[zD ah i]? with
 | none=>rw [hq] at h;cases h
 | some fn=>
  rw [hq] at h h2;refine ⟨fn,rfl,h,fun e=>?_⟩;simp only [Option.map_some,yc,e,yq] at h2;cases h2
end
section
namespace r9
open Go
open Go.Proofs
def ah:Tr Nat:=(.n 120 178 (.n 65 77 (.n 36 127 (.n 22 59 (.n 15 57 (.n 5 54 (.n 3 38 (.n 1 8 .l .l) (.n 4 88 .l .l)) (.n 14 20 (.n 9 55 .l .l) .l)) (.n 19 58 (.n 17 41 (.n 16 40 .l .l) (.n 18 39 .l .l)) (.n 21 56 (.n 20 19 .l .l) .l))) (.n 29 65 (.n 26 62 (.n 24 15 (.n 23 60 .l .l) (.n 25 61 .l .l)) (.n 28 64 (.n 27 63 .l .l) .l)) (.n 33 70 (.n 31 125 (.n 30 102 .l .l) (.n 32 131 .l .l)) (.n 35 126 (.n 34 124 .l .l) .l)))) (.n 51 72 (.n 44 109 (.n 40 78 (.n 38 129 (.n 37 128 .l .l) (.n 39 130 .l .l)) (.n 42 100 (.n 41 132 .l .l) .l)) (.n 48 111 (.n 46 108 (.n 45 106 .l .l) (.n 47 110 .l .l)) (.n 50 112 (.n 49 113 .l .l) .l))) (.n 58 89 (.n 55 134 (.n 53 94 (.n 52 107 .l .l) (.n 54 73 .l .l)) (.n 57 81 (.n 56 135 .l .l) .l)) (.n 62 137 (.n 60 93 (.n 59 123 .l .l) (.n 61 136 .l .l)) (.n 64 139 (.n 63 138 .l .l) .l))))) (.n 93 161 (.n 79 147 (.n 72 143 (.n 69 76 (.n 67 82 (.n 66 80 .l .l) (.n 68 140 .l .l)) (.n 71 142 (.n 70 141 .l .l) .l)) (.n 76 92 (.n 74 145 (.n 73 144 .l .l) (.n 75 75 .l .l)) (.n 78 96 (.n 77 146 .l .l) .l))) (.n 86 153 (.n 83 97 (.n 81 149 (.n 80 148 .l .l) (.n 82 150 .l .l)) (.n 85 152 (.n 84 151 .l .l) .l)) (.n 90 158 (.n 88 155 (.n 87 154 .l .l) (.n 89 156 .l .l)) (.n 92 159 (.n 91 160 .l .l) .l)))) (.n 107 170 (.n 100 188 (.n 97 90 (.n 95 201 (.n 94 202 .l .l) (.n 96 133 .l .l)) (.n 99 185 (.n 98 184 .l .l) .l)) (.n 104 205 (.n 102 186 (.n 101 187 .l .l) (.n 103 204 .l .l)) (.n 106 207 (.n 105 206 .l .l) .l))) (.n 114 169 (.n 111 166 (.n 109 208 (.n 108 200 .l .l) (.n 110 209 .l .l)) (.n 113 168 (.n 112 74 .l .l) .l)) (.n 117 167 (.n 116 171 (.n 115 71 .l .l) .l) (.n 119 211 (.n 118 210 .l .l) .l)))))) (.n 175 296 (.n 148 238 (.n 134 176 (.n 127 214 (.n 124 213 (.n 122 180 (.n 121 179 .l .l) (.n 123 181 .l .l)) (.n 126 215 (.n 125 212 .l .l) .l)) (.n 131 157 (.n 129 218 (.n 128 217 .l .l) (.n 130 219 .l .l)) (.n 133 203 (.n 132 248 .l .l) .l))) (.n 141 235 (.n 138 232 (.n 136 230 (.n 135 229 .l .l) (.n 137 231 .l .l)) (.n 140 234 (.n 139 233 .l .l) .l)) (.n 145 241 (.n 143 239 (.n 142 240 .l .l) (.n 144 242 .l .l)) (.n 147 236 (.n 146 237 .l .l) .l)))) (.n 162 261 (.n 155 255 (.n 152 252 (.n 150 250 (.n 149 249 .l .l) (.n 151 220 .l .l)) (.n 154 254 (.n 153 253 .l .l) .l)) (.n 159 259 (.n 157 257 (.n 156 256 .l .l) (.n 158 258 .l .l)) (.n 161 216 (.n 160 224 .l .l) .l))) (.n 169 272 (.n 166 269 (.n 164 263 (.n 163 262 .l .l) (.n 165 268 .l .l)) (.n 168 271 (.n 167 270 .l .l) .l)) (.n 172 264 (.n 171 278 (.n 170 277 .l .l) .l) (.n 174 305 (.n 173 288 .l .l) .l))))) (.n 294 175 (.n 279 117 (.n 272 83 (.n 264 44 (.n 262 43 (.n 261 42 .l .l) (.n 263 16 .l .l)) (.n 271 51 (.n 268 48 .l .l) .l)) (.n 276 114 (.n 274 85 (.n 273 84 .l .l) (.n 275 86 .l .l)) (.n 278 118 (.n 277 115 .l .l) .l))) (.n 287 172 (.n 284 164 (.n 281 121 (.n 280 116 .l .l) (.n 282 120 .l .l)) (.n 286 165 (.n 285 163 .l .l) .l)) (.n 291 189 (.n 289 173 (.n 288 87 .l .l) (.n 290 174 .l .l)) (.n 293 195 (.n 292 190 .l .l) .l)))) (.n 315 69 (.n 301 223 (.n 298 191 (.n 296 193 (.n 295 192 .l .l) (.n 297 194 .l .l)) (.n 300 222 (.n 299 221 .l .l) .l)) (.n 308 31 (.n 306 30 (.n 302 243 .l .l) (.n 307 101 .l .l)) (.n 314 162 (.n 309 12 .l .l) .l))) (.n 360 3 (.n 357 10 (.n 338 17 (.n 335 67 .l .l) (.n 340 18 .l .l)) (.n 359 68 (.n 358 11 .l .l) .l)) (.n 363 14 (.n 362 13 (.n 361 9 .l .l) .l) (.n 365 79 (.n 364 66 .l .l) .l)))))))
def cm:Tr Nat:=(.n 148 80 (.n 84 273 (.n 56 21 (.n 20 14 (.n 13 362 (.n 10 357 (.n 8 1 (.n 3 360 .l .l) (.n 9 361 .l .l)) (.n 12 309 (.n 11 358 .l .l) .l)) (.n 17 338 (.n 15 24 (.n 14 363 .l .l) (.n 16 263 .l .l)) (.n 19 20 (.n 18 340 .l .l) .l))) (.n 42 261 (.n 39 18 (.n 31 308 (.n 30 306 .l .l) (.n 38 3 .l .l)) (.n 41 17 (.n 40 16 .l .l) .l)) (.n 51 271 (.n 44 264 (.n 43 262 .l .l) (.n 48 268 .l .l)) (.n 55 9 (.n 54 5 .l .l) .l)))) (.n 70 33 (.n 63 27 (.n 60 23 (.n 58 19 (.n 57 15 .l .l) (.n 59 22 .l .l)) (.n 62 26 (.n 61 25 .l .l) .l)) (.n 67 335 (.n 65 29 (.n 64 28 .l .l) (.n 66 364 .l .l)) (.n 69 315 (.n 68 359 .l .l) .l))) (.n 77 65 (.n 74 112 (.n 72 51 (.n 71 115 .l .l) (.n 73 54 .l .l)) (.n 76 69 (.n 75 75 .l .l) .l)) (.n 81 57 (.n 79 365 (.n 78 40 .l .l) (.n 80 66 .l .l)) (.n 83 272 (.n 82 67 .l .l) .l))))) (.n 120 282 (.n 102 30 (.n 92 76 (.n 88 4 (.n 86 275 (.n 85 274 .l .l) (.n 87 288 .l .l)) (.n 90 97 (.n 89 58 .l .l) .l)) (.n 97 83 (.n 94 53 (.n 93 60 .l .l) (.n 96 78 .l .l)) (.n 101 307 (.n 100 42 .l .l) .l))) (.n 112 50 (.n 109 44 (.n 107 52 (.n 106 45 .l .l) (.n 108 46 .l .l)) (.n 111 48 (.n 110 47 .l .l) .l)) (.n 116 280 (.n 114 276 (.n 113 49 .l .l) (.n 115 277 .l .l)) (.n 118 278 (.n 117 279 .l .l) .l)))) (.n 135 56 (.n 128 37 (.n 125 31 (.n 123 59 (.n 121 281 .l .l) (.n 124 34 .l .l)) (.n 127 36 (.n 126 35 .l .l) .l)) (.n 132 41 (.n 130 39 (.n 129 38 .l .l) (.n 131 32 .l .l)) (.n 134 55 (.n 133 96 .l .l) .l))) (.n 142 71 (.n 139 64 (.n 137 62 (.n 136 61 .l .l) (.n 138 63 .l .l)) (.n 141 70 (.n 140 68 .l .l) .l)) (.n 145 74 (.n 144 73 (.n 143 72 .l .l) .l) (.n 147 79 (.n 146 77 .l .l) .l)))))) (.n 210 118 (.n 176 134 (.n 162 314 (.n 155 88 (.n 152 85 (.n 150 82 (.n 149 81 .l .l) (.n 151 84 .l .l)) (.n 154 87 (.n 153 86 .l .l) .l)) (.n 159 92 (.n 157 131 (.n 156 89 .l .l) (.n 158 90 .l .l)) (.n 161 93 (.n 160 91 .l .l) .l))) (.n 169 114 (.n 166 111 (.n 164 284 (.n 163 285 .l .l) (.n 165 286 .l .l)) (.n 168 113 (.n 167 117 .l .l) .l)) (.n 173 289 (.n 171 116 (.n 170 107 .l .l) (.n 172 287 .l .l)) (.n 175 294 (.n 174 290 .l .l) .l)))) (.n 193 296 (.n 186 102 (.n 181 123 (.n 179 121 (.n 178 120 .l .l) (.n 180 122 .l .l)) (.n 185 99 (.n 184 98 .l .l) .l)) (.n 190 292 (.n 188 100 (.n 187 101 .l .l) (.n 189 291 .l .l)) (.n 192 295 (.n 191 298 .l .l) .l))) (.n 204 103 (.n 201 95 (.n 195 293 (.n 194 297 .l .l) (.n 200 108 .l .l)) (.n 203 133 (.n 202 94 .l .l) .l)) (.n 207 106 (.n 206 105 (.n 205 104 .l .l) .l) (.n 209 110 (.n 208 109 .l .l) .l))))) (.n 242 144 (.n 224 160 (.n 217 128 (.n 214 127 (.n 212 125 (.n 211 119 .l .l) (.n 213 124 .l .l)) (.n 216 161 (.n 215 126 .l .l) .l)) (.n 221 299 (.n 219 130 (.n 218 129 .l .l) (.n 220 151 .l .l)) (.n 223 301 (.n 222 300 .l .l) .l))) (.n 235 141 (.n 232 138 (.n 230 136 (.n 229 135 .l .l) (.n 231 137 .l .l)) (.n 234 140 (.n 233 139 .l .l) .l)) (.n 239 143 (.n 237 146 (.n 236 147 .l .l) (.n 238 148 .l .l)) (.n 241 145 (.n 240 142 .l .l) .l)))) (.n 262 163 (.n 254 154 (.n 250 150 (.n 248 132 (.n 243 302 .l .l) (.n 249 149 .l .l)) (.n 253 153 (.n 252 152 .l .l) .l)) (.n 258 158 (.n 256 156 (.n 255 155 .l .l) (.n 257 157 .l .l)) (.n 261 162 (.n 259 159 .l .l) .l))) (.n 272 169 (.n 269 166 (.n 264 172 (.n 263 164 .l .l) (.n 268 165 .l .l)) (.n 271 168 (.n 270 167 .l .l) .l)) (.n 288 173 (.n 278 171 (.n 277 170 .l .l) .l) (.n 305 174 (.n 296 175 .l .l) .l)))))))
def hd:Tr HD:=(.n 112 ⟨16,[],[],[],[]⟩ (.n 60 ⟨11,[],[],[],[]⟩ (.n 34 ⟨16,[],[],[],[]⟩ (.n 21 ⟨27,[(1,[0,1,5])],[(1,[])],[],[]⟩ (.n 15 ⟨4,[],[],[],[]⟩ (.n 5 ⟨48,[],[],[(9,.heap)],[]⟩ (.n 3 ⟨40,[(2,[0,3]),(5,[0,3,4])],[(2,[]),(5,[0,3])],[],[]⟩ (.n 1 ⟨240,[],[],[],[]⟩ .l .l) (.n 4 ⟨15,[],[],[],[]⟩ .l .l)) (.n 14 ⟨8,[],[],[],[]⟩ (.n 9 ⟨42,[],[],[],[]⟩ .l .l) .l)) (.n 18 ⟨25,[],[],[],[]⟩ (.n 17 ⟨26,[],[],[],[]⟩ (.n 16 ⟨15,[],[],[],[]⟩ .l .l) .l) (.n 20 ⟨24,[],[],[],[]⟩ (.n 19 ⟨26,[],[],[],[]⟩ .l .l) .l))) (.n 28 ⟨27,[(1,[0,1,5])],[(1,[])],[],[]⟩ (.n 25 ⟨67,[],[],[],[]⟩ (.n 23 ⟨5,[],[],[],[]⟩ (.n 22 ⟨36,[],[],[],[]⟩ .l .l) (.n 24 ⟨27,[],[],[],[]⟩ .l .l)) (.n 27 ⟨100,[(2,[1,5,9,10,46,47]),(4,[1,5,9,10,11,46,47,50,51,52])],[(2,[1,5,9,10]),(4,[1,5,9,10,46,47])],[],[]⟩ (.n 26 ⟨101,[(2,[0,2,3,11,12,69,70,71]),(4,[0,2,3,11,12,14,69,70,71,75,76,77])],[(2,[12]),(4,[0,2,3,11,12,69,70,71])],[],[(18,[17])]⟩ .l .l) .l)) (.n 31 ⟨7,[],[],[],[]⟩ (.n 30 ⟨15,[],[],[],[]⟩ (.n 29 ⟨26,[(1,[0,1,5])],[(1,[])],[],[]⟩ .l .l) .l) (.n 33 ⟨15,[(0,[5,6,7])],[(0,[])],[],[]⟩ (.n 32 ⟨32,[(0,[0,3,9,10,11])],[(0,[])],[],[]⟩ .l .l) .l)))) (.n 48 ⟨21,[],[],[],[]⟩ (.n 41 ⟨39,[],[],[],[]⟩ (.n 38 ⟨8,[],[],[],[]⟩ (.n 36 ⟨5,[],[],[],[]⟩ (.n 35 ⟨22,[(0,[1,5,8,9,10])],[(0,[5])],[],[]⟩ .l .l) (.n 37 ⟨21,[(0,[0,2,9,10,11])],[(0,[0])],[],[]⟩ .l .l)) (.n 40 ⟨32,[],[],[(1,.dyn)],[]⟩ (.n 39 ⟨38,[(0,[4,8,9,18,19,20])],[(0,[9])],[],[]⟩ .l .l) .l)) (.n 45 ⟨25,[],[],[],[]⟩ (.n 44 ⟨13,[],[],[],[]⟩ (.n 42 ⟨19,[(0,[0,3])],[(0,[])],[],[]⟩ .l .l) .l) (.n 47 ⟨13,[],[],[],[]⟩ (.n 46 ⟨16,[],[],[],[]⟩ .l .l) .l))) (.n 54 ⟨10,[],[],[],[]⟩ (.n 51 ⟨5,[],[],[],[]⟩ (.n 50 ⟨9,[],[],[],[]⟩ (.n 49 ⟨16,[],[],[],[]⟩ .l .l) .l) (.n 53 ⟨11,[],[],[],[]⟩ (.n 52 ⟨28,[],[],[],[]⟩ .l .l) .l)) (.n 57 ⟨8,[],[],[],[]⟩ (.n 56 ⟨41,[(0,[1,2,4,5,11,12])],[(0,[4,5])],[],[]⟩ (.n 55 ⟨28,[],[],[],[]⟩ .l .l) .l) (.n 59 ⟨26,[(1,[0,1,5])],[(1,[])],[],[]⟩ (.n 58 ⟨16,[],[],[],[]⟩ .l .l) .l))))) (.n 85 ⟨22,[(0,[1,5,8,9,10])],[(0,[5])],[],[]⟩ (.n 73 ⟨8,[],[],[],[]⟩ (.n 67 ⟨25,[],[],[],[]⟩ (.n 64 ⟨29,[],[],[],[]⟩ (.n 62 ⟨22,[],[],[],[]⟩ (.n 61 ⟨17,[],[],[],[]⟩ .l .l) (.n 63 ⟨15,[],[],[],[]⟩ .l .l)) (.n 66 ⟨30,[],[],[],[]⟩ (.n 65 ⟨9,[],[],[],[]⟩ .l .l) .l)) (.n 70 ⟨9,[],[],[],[]⟩ (.n 69 ⟨6,[],[],[],[]⟩ (.n 68 ⟨8,[],[],[],[]⟩ .l .l) .l) (.n 72 ⟨16,[],[],[],[]⟩ (.n 71 ⟨16,[],[],[],[]⟩ .l .l) .l))) (.n 79 ⟨22,[(0,[1,5,8,9,10])],[(0,[5])],[],[]⟩ (.n 76 ⟨9,[],[],[],[]⟩ (.n 75 ⟨14,[],[],[],[]⟩ (.n 74 ⟨34,[],[],[],[]⟩ .l .l) .l) (.n 78 ⟨9,[],[],[],[]⟩ (.n 77 ⟨22,[(0,[1,5,8,9,10])],[(0,[5])],[],[]⟩ .l .l) .l)) (.n 82 ⟨137,[(0,[3,4,6,7,11,12,32,33,34]),(3,[3,4,6,7,11,12,14,15,16,32,33,34,54,55]),(6,[3,4,6,7,11,12,14,15,32,33,34,89,90]),(9,[11,27,118,119])],[(0,[4,11]),(3,[3,4,6,7,11,12,14,15,32,33,34]),(6,[3,4,6,7,11,12,15,32,33,34]),(9,[27])],[],[]⟩ (.n 81 ⟨8,[],[],[],[]⟩ (.n 80 ⟨10,[],[],[],[]⟩ .l .l) .l) (.n 84 ⟨20,[],[],[],[]⟩ (.n 83 ⟨8,[],[],[],[]⟩ .l .l) .l)))) (.n 99 ⟨69,[(1,[3,4,5,6]),(6,[6,10,11])],[(1,[3,6]),(6,[10])],[],[]⟩ (.n 92 ⟨22,[(0,[1,5,8,9,10])],[(0,[5])],[],[]⟩ (.n 89 ⟨46,[(0,[0,1,4,11,12,13]),(2,[0,1,4,5,6,7,11,12,13,18,19,20])],[(0,[4]),(2,[0,1,4,7,11,12,13])],[],[(14,[7])]⟩ (.n 87 ⟨22,[(0,[1,5,8,9,10])],[(0,[5])],[],[]⟩ (.n 86 ⟨76,[],[],[],[]⟩ .l .l) (.n 88 ⟨23,[(0,[3,9,10,11])],[(0,[3])],[],[]⟩ .l .l)) (.n 91 ⟨7,[],[],[],[]⟩ (.n 90 ⟨143,[(0,[0,1,5,6,19,20]),(2,[5,6,49,50]),(4,[5,6,8,49,50,53,54]),(7,[5,6,8,9,10,11,49,50,53,54]),(9,[5,6,12,119,120])],[(0,[5,6]),(2,[5,6]),(4,[5,6,49,50]),(7,[5,6,8,49,50,53,54]),(9,[12])],[],[]⟩ .l .l) .l)) (.n 96 ⟨4,[],[],[],[]⟩ (.n 95 ⟨9,[],[],[],[]⟩ (.n 94 ⟨13,[],[],[],[]⟩ .l .l) .l) (.n 98 ⟨13,[],[],[],[]⟩ (.n 97 ⟨20,[],[],[],[]⟩ .l .l) .l))) (.n 105 ⟨22,[],[],[],[]⟩ (.n 102 ⟨9,[],[],[],[]⟩ (.n 101 ⟨34,[],[],[],[]⟩ (.n 100 ⟨66,[],[],[],[]⟩ .l .l) .l) (.n 104 ⟨32,[],[],[],[]⟩ (.n 103 ⟨34,[],[],[],[]⟩ .l .l) .l)) (.n 108 ⟨6,[],[],[],[]⟩ (.n 107 ⟨11,[],[],[],[]⟩ (.n 106 ⟨21,[(0,[2,3,6,9,10,11])],[(0,[3,6])],[],[]⟩ .l .l) .l) (.n 111 ⟨6,[],[],[],[]⟩ (.n 110 ⟨41,[(0,[0,2,3,4])],[(0,[2,3,4])],[],[]⟩ .l .l) .l)))))) (.n 268 ⟨14,[],[],[],[]⟩ (.n 145 ⟨50,[],[],[],[]⟩ (.n 125 ⟨15,[(0,[5,6,7])],[(0,[])],[],[]⟩ (.n 119 ⟨67,[],[],[],[]⟩ (.n 116 ⟨32,[],[],[],[]⟩ (.n 114 ⟨10,[],[],[],[]⟩ (.n 113 ⟨11,[],[],[],[]⟩ .l .l) (.n 115 ⟨23,[],[],[],[]⟩ .l .l)) (.n 118 ⟨29,[],[],[],[]⟩ (.n 117 ⟨5,[],[],[],[]⟩ .l .l) .l)) (.n 122 ⟨9,[],[],[],[]⟩ (.n 121 ⟨22,[(0,[1,5,8,9,10])],[(0,[5])],[],[]⟩ (.n 120 ⟨22,[(0,[1,5,8,9,10])],[(0,[5])],[],[]⟩ .l .l) .l) (.n 124 ⟨7,[],[],[],[]⟩ (.n 123 ⟨23,[(0,[3,9,10,11])],[(0,[3])],[],[]⟩ .l .l) .l))) (.n 133 ⟨20,[(0,[0,1,5,6]),(2,[0,1,3,5,6,9,10])],[(0,[]),(2,[0,1,5,6])],[(0,.heap)],[]⟩ (.n 130 ⟨23,[(0,[2,3,4])],[(0,[2,4])],[],[]⟩ (.n 127 ⟨21,[(0,[1,8,9,10])],[(0,[])],[],[]⟩ (.n 126 ⟨24,[],[],[],[]⟩ .l .l) (.n 129 ⟨19,[],[],[],[]⟩ .l .l)) (.n 132 ⟨19,[(0,[0,1,7,8])],[(0,[])],[],[]⟩ (.n 131 ⟨26,[(0,[0,1,4,5,9,10])],[(0,[4,5])],[],[]⟩ .l .l) .l)) (.n 137 ⟨137,[(2,[0,1,6,7,8]),(4,[9,10,11,12,13,14]),(6,[9,11,12,13,96,97])],[(2,[6,7]),(4,[9,11,12,13]),(6,[11,12,13])],[(5,.own),(7,.own),(8,.heap)],[]⟩ (.n 136 ⟨24,[],[],[],[]⟩ (.n 134 ⟨12,[],[],[],[]⟩ .l .l) .l) (.n 144 ⟨80,[(0,[1,5,20,21,22]),(2,[1,5,6,7,8,20,21,22,27,28,29])],[(0,[5]),(2,[1,5,6,8,20,21,22])],[],[]⟩ (.n 142 ⟨10,[],[],[],[]⟩ .l .l) .l)))) (.n 161 ⟨18,[(0,[6,7,8])],[(0,[])],[],[]⟩ (.n 155 ⟨23,[(0,[1,2,4,5])],[(0,[4,5])],[],[]⟩ (.n 149 ⟨14,[],[],[],[]⟩ (.n 147 ⟨26,[],[],[],[]⟩ (.n 146 ⟨7,[],[],[],[]⟩ .l .l) (.n 148 ⟨21,[],[],[],[]⟩ .l .l)) (.n 151 ⟨13,[],[],[],[]⟩ (.n 150 ⟨9,[],[],[],[]⟩ .l .l) .l)) (.n 158 ⟨41,[(2,[0,1,5])],[(2,[])],[],[]⟩ (.n 157 ⟨54,[(1,[0,1,5,6,21,22])],[(1,[0,5,6])],[],[]⟩ (.n 156 ⟨9,[],[],[],[]⟩ .l .l) .l) (.n 160 ⟨19,[(0,[0,1,7,8])],[(0,[])],[],[]⟩ (.n 159 ⟨41,[(0,[0,1,5,6,13,14])],[(0,[5])],[],[]⟩ .l .l) .l))) (.n 169 ⟨186,[(1,[0,1,5,6,7,8]),(4,[0,1,5,6,11,12,104,105]),(7,[0,1,5,6,17,156,157])],[(1,[0,1,5,6]),(4,[0,1,5,6,11,12]),(7,[0,5,6,17])],[],[]⟩ (.n 165 ⟨135,[(3,[2,8,9,10,11,13,14,15,16]),(6,[2,8,9,10,14,15,16,17,18])],[(3,[2,8,9,10,11,13,14,15]),(6,[2,8,14,15,17,18])],[],[]⟩ (.n 164 ⟨84,[],[],[],[]⟩ (.n 163 ⟨9,[],[],[],[]⟩ .l .l) .l) (.n 168 ⟨40,[(0,[1,5,12,13,14])],[(0,[5])],[],[]⟩ (.n 166 ⟨21,[(0,[0,3])],[(0,[0,3])],[],[]⟩ .l .l) .l)) (.n 262 ⟨13,[],[],[],[]⟩ (.n 261 ⟨19,[(0,[0,3])],[(0,[])],[],[]⟩ (.n 172 ⟨25,[],[],[],[]⟩ .l .l) .l) (.n 264 ⟨63,[],[],[],[]⟩ (.n 263 ⟨96,[],[],[],[]⟩ .l .l) .l))))) (.n 296 ⟨41,[(2,[0,1,5])],[(2,[])],[],[]⟩ (.n 284 ⟨7,[],[],[],[]⟩ (.n 277 ⟨61,[],[],[],[]⟩ (.n 274 ⟨25,[],[],[],[]⟩ (.n 272 ⟨17,[(0,[0,3])],[(0,[0])],[],[]⟩ (.n 271 ⟨9,[],[],[],[]⟩ .l .l) (.n 273 ⟨18,[],[],[],[]⟩ .l .l)) (.n 276 ⟨54,[],[],[],[]⟩ (.n 275 ⟨19,[(0,[0,1])],[(0,[0])],[],[]⟩ .l .l) .l)) (.n 280 ⟨57,[],[],[],[]⟩ (.n 279 ⟨40,[],[],[],[]⟩ (.n 278 ⟨16,[],[],[],[]⟩ .l .l) .l) (.n 282 ⟨39,[(1,[1,3,4])],[(1,[1,3])],[],[]⟩ (.n 281 ⟨25,[(0,[0,2,3,4])],[(0,[2,3,4])],[],[]⟩ .l .l) .l))) (.n 290 ⟨20,[(0,[0,3,4])],[(0,[3])],[],[]⟩ (.n 287 ⟨20,[(0,[0,3])],[(0,[])],[],[]⟩ (.n 286 ⟨14,[],[],[],[]⟩ (.n 285 ⟨9,[],[],[],[]⟩ .l .l) .l) (.n 289 ⟨206,[(2,[0,8,9,10,11]),(4,[8,9,10,11,12,13]),(6,[8,9,10,11,12,13,14,15,16]),(10,[8,9,10,11,12,13,14,19,20])],[(2,[8,9,10,11]),(4,[8,10,11,12]),(6,[8,9,10,11,12,13,14,15]),(10,[8,9,10,11,12,13,14,19])],[(5,.heap)],[]⟩ (.n 288 ⟨40,[(1,[0,2,3,4])],[(1,[0,2,3,4])],[],[]⟩ .l .l) .l)) (.n 293 ⟨72,[(0,[0,1,5,6]),(2,[0,1,5,6,7,8])],[(0,[5]),(2,[0,1,5,6,7])],[],[]⟩ (.n 292 ⟨25,[(0,[0,1,5])],[(0,[5])],[],[]⟩ (.n 291 ⟨12,[(0,[0,1])],[(0,[0])],[],[]⟩ .l .l) .l) (.n 295 ⟨42,[(0,[0,1,5,6,7])],[(0,[5])],[],[]⟩ (.n 294 ⟨15,[],[],[],[]⟩ .l .l) .l)))) (.n 335 ⟨23,[],[],[],[]⟩ (.n 306 ⟨11,[],[],[],[]⟩ (.n 300 ⟨21,[(0,[0])],[(0,[0])],[],[]⟩ (.n 298 ⟨9,[],[],[],[]⟩ (.n 297 ⟨35,[(0,[0,1,5,6,7])],[(0,[5])],[],[]⟩ .l .l) (.n 299 ⟨39,[(0,[0,1,6,7,8])],[(0,[6,7])],[],[]⟩ .l .l)) (.n 302 ⟨13,[],[],[],[]⟩ (.n 301 ⟨77,[(0,[0,1,2,7,9,10])],[(0,[9])],[],[]⟩ .l .l) .l)) (.n 309 ⟨15,[],[],[],[]⟩ (.n 308 ⟨9,[],[],[],[]⟩ (.n 307 ⟨5,[],[],[],[]⟩ .l .l) .l) (.n 315 ⟨9,[],[],[],[]⟩ (.n 314 ⟨17,[],[],[],[]⟩ .l .l) .l))) (.n 360 ⟨226,[],[],[],[]⟩ (.n 357 ⟨20,[],[],[],[]⟩ (.n 340 ⟨62,[(1,[4,5,6])],[(1,[5])],[],[]⟩ (.n 338 ⟨8,[],[],[],[]⟩ .l .l) .l) (.n 359 ⟨31,[],[],[],[]⟩ (.n 358 ⟨15,[],[],[],[]⟩ .l .l) .l)) (.n 363 ⟨45,[],[],[],[]⟩ (.n 362 ⟨48,[],[],[],[]⟩ (.n 361 ⟨47,[],[],[],[]⟩ .l .l) .l) (.n 365 ⟨14,[],[],[],[]⟩ (.n 364 ⟨25,[(1,[0,2,7])],[(1,[])],[],[]⟩ .l .l) .l)))))))
def aqc:ID ah cm=true:=by decide+kernel
noncomputable def cc (i:Nat):aI:=match (Tryz.prog.funcs[zD ah i]?).bind (D6 Tryz.prog (MC cm hd i)) with
 | some F=>F
 | none=>⟨[],.skip⟩
end r9
end
end VE
