import Derived.Test.YtlkgmaenobiooaaGreatDoorProg
import Derived.KernelRfl
import Derived.Test.YtlkgmaenobiooaaGreatDoorTah
import Derived.Test.YtlkgmaenobiooaaGreatDoorTaa
import Derived.Test.YtlkgmaenobiooaaGreatDoorTae
set_option linter.all false
set_option maxRecDepth 100000
open Bool renaming and_eq_true→yg,false_eq_true→yE
open Go renaming FloatKind→vL,IntKind→yV,Program→xe
open List renaming mem_cons→wb,mem_cons_of_mem→xg,mem_cons_self→xy
open Nat renaming beq→yu,blt→yL,eq_of_beq_eq_true→yo
open Option.some renaming injEq→yc
namespace VE
section
def ayf:VC:=.g [qT 23 22 21] (.q (.cond (.t 23) .skip (.exit 0)) (.q (.aQ 1 (.g [qm 24 22,qm 8 24] (.aS [qm 25 7,qm 26 8,Rq 27 (.cQ 1 1 [.i 0] [(0,1,.t 26)]),Rq 28 (.a7 1 8 (.t 25) (.t 27)),qm 7 28]))) (.aS [qa 29 22 1,qm 22 29])))
def ayg:VC:=.q (.g [qm 33 10,Rq 34 (.y .gtr 33 0)] (.cond (.t 34) .skip (.exit 2))) (.q (.aQ 3 (.g [qm 37 9,Rq 38 (.bin .mul (.k 39373) (.t 37)),Rq 39 (.y .rem 38 2147483647),qm 9 39] (.g [qm 40 9,qm 41 10,qa 42 41 1,Rq 43 (.z .rem 40 42),qm 11 43] (.aS [qm 44 7,qm 45 10,qm 46 7,qm 47 11,qm 48 7,qm 49 11,qi 50 1 48 49,ql 51 1 50,qm 52 7,qm 53 10,qi 54 1 52 53,ql 55 1 54,qi 56 1 44 45,qs 1 56 51,qi 57 1 46 47,qs 1 57 55])))) (.aS [qm 35 10,Rq 36 (.y .sub 35 1),qm 10 36]))
def aDp:aI:=⟨[.t 4,.t 5],.g [qz 4,qk 5 0] (.q (.g [qm 12 0,Rq 13 (.q 206 [.t 12,.k 1,.k 2147483646]),qm 14 1,Rq 15 (.q 206 [.t 14,.k 0,.k 256]),Rq 16 (.cQ 2 1 [.i 0,.i 0] [(0,1,.t 13),(1,1,.t 15)]),aB 17 125 16,qm 6 17] (.g [qm 18 6,qN 19 18 0] (.i 19 (.e [qm 20 6,qz 4,qm 5 20])))) (.g [qz 7] (.q (.g [qm 21 1,qk 22 0] (.q (.aQ 0 (.loop [0,1,7,21,22] ayf)) (.kp [0,1,7]))) (.g [qm 30 0,qm 9 30] (.q (.g [qm 31 1,Rq 32 (.y .sub 31 1),qm 10 32] (.q (.aQ 2 (.loop [7,9,10] ayg)) (.kp [7]))) (.e [qm 58 7,qm 4 58,qk 5 0]))))))⟩
def Qr:aI:=⟨[.cell 4 2 true],.g [Rq 4 (.box 2 (.c (.agg [.str [],.str []])))] (.e [qm 5 0,qm 6 1,Rq 7 (.cK [.str [],.str []] [(0,1,.t 5),(1,1,.t 6)]),qs 2 4 7])⟩
def W6:aI:=⟨[.cell 4 2 true,.t 5],.g [qb 2 2 0,qb 3 2 1,Rq 4 (.box 2 (.c (.agg [.str [],.str []]))),qk 5 0] (.e [qL 6 2 2,qL 7 2 3,Rq 8 (.q 209 [.t 6,.t 7,.F 49]),qe 9 0 8,qe 10 1 8,qs 2 4 9,qm 5 10])⟩
def Hj:aI:=⟨[.cell 4 2 true,.t 5],.g [qb 2 2 0,qb 3 2 1,Rq 4 (.box 2 (.c (.agg [.str [],.str []]))),qk 5 0] (.q (.g [qL 7 2 2,aB 8 210 7,qL 9 2 3,aB 10 210 9,Rq 11 (.cQ 2 1 [.i 0,.i 0] [(0,1,.t 8),(1,1,.t 10)]),aB 12 125 11,qm 6 12] (.g [qm 13 6,qN 14 13 0] (.i 14 (.e [Rq 15 (.cK [.str [],.str []] []),qm 16 6,qs 2 4 15,qm 5 16])))) (.h [qo 17 0 3,ql 18 1 17,aB 19 62 18,aB 20 108 19,Rq 21 (.y .leq 20 0),qm 22 21,Rt 23 22 (.off 1 (.t 3)),Rt 24 22 (.ld 1 false (.t 23)),Rt 25 22 (.q 62 [.t 24]),Rt 26 22 (.q 108 [.t 25]),Rt 27 22 (.y .geq 26 0),qq 28 22 27] 28 (.e [Rq 29 (.cK [.str [],.str []] []),qs 2 4 29,qk 5 6]) (.e [qL 30 2 2,qL 31 2 3,Rq 32 (.q 211 [.t 30,.t 31,.F 70]),qe 33 0 32,qe 34 1 32,qs 2 4 33,qm 5 34])))⟩
def LW:aI:=⟨[.cell 2 2 true,.t 3],.g [qb 1 2 0,Rq 2 (.box 2 (.c (.agg [.str [],.str []]))),qk 3 0] (.q (.g [qL 6 2 1,aB 7 210 6,qm 4 7] (.g [qm 8 4,qN 9 8 0] (.i 9 (.e [Rq 10 (.cK [.str [],.str []] []),qm 11 4,qs 2 2 10,qm 3 11])))) (.g [qL 12 2 1,aB 13 212 12,aB 14 213 13,Rq 5 (.box 8 (.c (.agg [.i 0,.aa,.i 0,.aa,.i 0,.aa,.i 0,.aa]))),qs 8 5 14] (.e [qo 15 0 5,qL 16 4 15,qo 17 4 5,qL 18 4 17,aC 19 214 16 18,qe 20 0 19,qe 21 1 19,qs 2 2 20,qm 3 21])))⟩
def CB:aI:=⟨[.t 4,.t 5],.g [qb 2 2 0,qb 3 2 1,qk 4 0,qk 5 0] (.q (.g [qL 7 2 2,aB 8 210 7,qL 9 2 3,aB 10 210 9,Rq 11 (.cQ 2 1 [.i 0,.i 0] [(0,1,.t 8),(1,1,.t 10)]),aB 12 125 11,qm 6 12] (.g [qm 13 6,qN 14 13 0] (.i 14 (.e [qm 15 6,qk 4 0,qm 5 15])))) (.q (.aQ 0 (.g [qo 17 1 2,ql 18 1 17,aB 19 62 18,qo 20 0 3,ql 21 1 20,aB 22 62 21,aC 23 71 19 22,Rq 24 (.y .lss 23 0),qm 16 24] (.cond (.t 16) (.e [qk 4 (-1),qk 5 0]) (.g [qo 26 0 2,ql 27 1 26,aB 28 62 27,qo 29 1 3,ql 30 1 29,aB 31 62 30,aC 32 71 28 31,Rq 33 (.y .gtr 32 0),qm 25 33] (.cond (.t 25) (.e [qk 4 1,qk 5 0]) (.g [qL 35 2 2,qL 36 2 3,Rq 37 (.eq false (.ag [2,2]) (.t 35) (.t 36)),qm 38 37,Rt 39 38 (.off 0 (.t 2)),Rt 40 38 (.ld 1 false (.t 39)),Rt 41 38 (.off 1 (.t 2)),Rt 42 38 (.ld 1 false (.t 41)),Rt 43 38 (.z .eql 40 42),qq 44 38 43,qm 34 44] (.i 34 (.e [qk 4 0,qk 5 0])))))))) (.e [qk 4 0,qk 5 24])))⟩
def ED:aI:=⟨[.cell 4 2 true,.t 5],.g [Rq 4 (.box 2 (.c (.agg [.str [],.str []]))),qk 5 0] (.q (.g [qm 8 0,aB 9 86 8,qm 6 9] (.g [qm 10 6,qN 11 10 0] (.i 11 (.e [Rq 12 (.cK [.str [],.str []] []),qm 13 6,qs 2 4 12,qm 5 13])))) (.q (.g [qm 14 0,aB 15 62 14,aB 16 108 15,Rq 17 (.y .lss 16 0),Rq 18 (.q 124 [.t 17,.k 3]),qm 19 1,aB 20 215 19,Rq 21 (.cQ 2 1 [.i 0,.i 0] [(0,1,.t 18),(1,1,.t 20)]),aB 22 125 21,qm 7 22] (.g [qm 23 7,qN 24 23 0] (.i 24 (.e [Rq 25 (.cK [.str [],.str []] []),qm 26 7,qs 2 4 25,qm 5 26])))) (.e [qm 27 0,aB 28 62 27,qm 29 1,aC 30 216 28 29,qe 31 0 30,qe 32 1 30,qs 2 4 31,qm 5 32])))⟩
def Hk:aI:=⟨[.cell 4 4 true,.t 5],.g [qb 2 4 0,qb 3 4 1,Rq 4 (.box 4 (.c (.agg [.str [],.str [],.str [],.str []]))),qk 5 0] (.q (.g [qL 11 4 2,aB 12 220 11,qL 13 4 3,aB 14 220 13,Rq 15 (.cQ 2 1 [.i 0,.i 0] [(0,1,.t 12),(1,1,.t 14)]),aB 16 125 15,qm 6 16] (.g [qm 17 6,qN 18 17 0] (.i 18 (.e [Rq 19 (.cK [.str [],.str [],.str [],.str []] []),qm 20 6,qs 4 4 19,qm 5 20])))) (.g [qo 21 0 2,qL 22 2 21,aB 23 212 22,qo 24 2 2,qL 25 2 24,aB 26 212 25,qo 27 0 3,qL 28 2 27,aB 29 212 28,qo 30 2 3,qL 31 2 30,aB 32 212 31,Rq 7 (.box 8 (.c (.agg [.i 0,.aa,.i 0,.aa,.i 0,.aa,.i 0,.aa]))),Rq 8 (.box 8 (.c (.agg [.i 0,.aa,.i 0,.aa,.i 0,.aa,.i 0,.aa]))),Rq 9 (.box 8 (.c (.agg [.i 0,.aa,.i 0,.aa,.i 0,.aa,.i 0,.aa]))),Rq 10 (.box 8 (.c (.agg [.i 0,.aa,.i 0,.aa,.i 0,.aa,.i 0,.aa]))),qs 8 7 23,qs 8 8 26,qs 8 9 29,qs 8 10 32] (.e [qL 33 8 7,qL 34 8 9,aC 35 221 33 34,qL 36 8 8,qL 37
 8 10,aC 38 221 36 37,aB 39 222 38,aC 40 223 35 39,qL 41 8 7,qL 42 8 10,aC 43 221 41 42,qL 44 8 8,qL 45 8 9,aC 46 221 44 45,aC 47 223 43 46,aC 48 224 40 47,qe 49 0 48,qe 50 1 48,qs 4 4 49,qm 5 50])))⟩
def c198:aI:=⟨[.cell 2 4 true,.t 3],.g [qb 1 4 0,Rq 2 (.box 4 (.c (.agg [.str [],.str [],.str [],.str []]))),qk 3 0] (.q (.g [qL 5 4 1,aB 6 220 5,qm 4 6] (.g [qm 7 4,qN 8 7 0] (.i 8 (.e [Rq 9 (.cK [.str [],.str [],.str [],.str []] []),qm 10 4,qs 4 2 9,qm 3 10])))) (.e [qo 11 0 1,qL 12 2 11,aB 13 212 12,qo 14 2 1,qL 15 2 14,aB 16 212 15,aB 17 222 16,aC 18 224 13 17,qe 19 0 18,qe 20 1 18,qs 4 2 19,qm 3 20]))⟩
def Hl:aI:=⟨[.cell 2 2 true,.t 3],.g [qb 1 4 0,Rq 2 (.box 2 (.c (.agg [.str [],.str []]))),qk 3 0] (.q (.g [qL 6 4 1,aB 7 220 6,qm 4 7] (.g [qm 8 4,qN 9 8 0] (.i 9 (.e [Rq 10 (.cK [.str [],.str []] []),qm 11 4,qs 2 2 10,qm 3 11])))) (.g [qo 12 0 1,qL 13 2 12,aB 14 212 13,aB 15 213 14,qo 16 2 1,qL 17 2 16,aB 18 212 17,aB 19 213 18,aC 20 223 15 19,Rq 5 (.box 8 (.c (.agg [.i 0,.aa,.i 0,.aa,.i 0,.aa,.i 0,.aa]))),qs 8 5 20] (.e [qo 21 0 5,qL 22 4 21,qo 23 4 5,qL 24 4 23,aC 25 214 22 24,qe 26 0 25,qe 27 1 25,qs 2 2 26,qm 3 27])))⟩
def Au:aI:=⟨[.t 6],.g [qk 6 0] (.e [qm 7 0,qm 8 1,qT 9 7 8,qm 10 9,Rf 11 10 (.m 0),Rf 12 10 (.m 2),Rf 13 10 (.z .gtr 11 12),qp 14 10 13,Rq 15 (.q 124 [.t 14,.k 3]),qm 6 15])⟩
def aDq:aI:=⟨[.t 2,.t 3],.g [qb 1 4 0,Rq 2 (.ck (.s [])),qk 3 0] (.h [qL 4 4 1,aB 5 107 4] 5 (.e [Rq 2 (.ck (.s [])),qk 3 4]) (.e [qL 6 4 1,aB 7 46 6,qm 2 7,qk 3 0]))⟩
def Qs:aI:=⟨[.cell 6 2 true,.t 7],.g [qb 3 2 0,qb 4 2 1,Rq 6 (.box 2 (.c (.agg [.str [],.str []]))),qk 7 0] (.q (.g [qL 9 2 3,aB 10 210 9,qL 11 2 4,aB 12 210 11,Rq 13 (.cQ 2 1 [.i 0,.i 0] [(0,1,.t 10),(1,1,.t 12)]),aB 14 125 13,qm 8 14] (.g [qm 15 8,qN 16 15 0] (.i 16 (.e [Rq 17 (.cK [.str [],.str []] []),qm 18 8,qs 2 6 17,qm 7 18])))) (.e [qL 19 2 3,qL 20 2 4,qm 21 2,zo 22 211 19 20 21,qe 23 0 22,qe 24 1 22,qs 2 6 23,qm 7 24]))⟩
def Hm:aI:=⟨[.t 2],.g [qb 1 2 0,qk 2 0] (.q (.g [qo 4 0 1,ql 5 1 4,qo 6 1 1,ql 7 1 6,Rq 8 (.cQ 2 1 [.str [],.str []] [(0,1,.t 5),(1,1,.t 7)]),aB 9 161 8,qm 3 9] (.g [qm 10 3,qN 11 10 0] (.i 11 (.e [qm 12 3,qm 2 12])))) (.e [qo 13 0 1,ql 14 1 13,aB 15 62 14,qo 16 1 1,ql 17 1 16,aB 18 62 17,aC 19 71 15 18,Rq 20 (.y .gtr 19 0),Rq 21 (.q 124 [.t 20,.k 11]),qm 2 21]))⟩
def aj6:VC:=.g [qT 32 31 30] (.q (.cond (.t 32) .skip (.exit 2)) (.q (.aQ 3 (.g [qi 33 4 29 31,qL 34 4 33,Rq 12 (.box 4 (.c (.agg [.i 0,.aa,.i 0,.aa]))),qs 4 12 34] (.aS [qm 35 8,qm 36 2,qL 37 4 10,qL 38 4 12,Rq 39 (.call .pure (.t 36) [.t 37,.t 38]),Rq 40 (.cQ 1 4 [.i 0,.aa,.i 0,.aa] [(0,4,.t 39)]),Rq 41 (.a7 4 64 (.t 35) (.t 40)),qm 8 41]))) (.aS [qa 42 31 1,qm 31 42])))
def aj7:VC:=.g [qT 21 20 19] (.q (.cond (.t 21) .skip (.exit 0)) (.q (.aQ 1 (.g [qi 22 4 18 20,qL 23 4 22,Rq 10 (.box 4 (.c (.agg [.i 0,.aa,.i 0,.aa]))),qs 4 10 23] (.g [qo 24 0 4,ql 25 1 24,qo 26 1 4,ql 27 1 26,Rq 28 (.cQ 2 1 [.str [],.str []] [(0,1,.t 25),(1,1,.t 27)]),aB 29 88 28,qn 30 1 29,qk 31 0] (.q (.aQ 2 (.loop [2,4,6,8,10,18,19,20,29,30,31] aj6)) (.kp [2,4,6,8,18,19,20]))))) (.aS [qa 43 20 1,qm 20 43])))
def Qt:aI:=⟨[.cell 6 2 true,.t 7],.g [qb 3 2 0,qb 4 2 1,Rq 6 (.box 2 (.c (.agg [.str [],.str []]))),qk 7 0] (.g [qz 8] (.q (.g [qo 13 0 3,ql 14 1 13,qo 15 1 3,ql 16 1 15,Rq 17 (.cQ 2 1 [.str [],.str []] [(0,1,.t 14),(1,1,.t 16)]),aB 18 88 17,qn 19 1 18,qk 20 0] (.q (.aQ 0 (.loop [2,4,6,8,18,19,20] aj7)) (.kp [6,8]))) (.e [qm 44 8,Rq 45 (.q 233 [.t 44,.F 71]),qm 46 8,Rq 47 (.q 234 [.t 46,.F 71]),aC 48 214 45 47,qe 49 0 48,qe 50 1 48,qs 2 6 49,qm 7 50])))⟩
def Hn:aI:=⟨[.cell 2 8 true],.g [qb 1 2 0,Rq 2 (.box 8 (.c (.agg [.i 0,.aa,.i 0,.aa,.i 0,.aa,.i 0,.aa])))] (.e [qo 3 0 1,ql 4 1 3,aB 5 62 4,qo 6 1 1,ql 7 1 6,aB 8 62 7,Rq 9 (.cK [.i 0,.aa,.i 0,.aa,.i 0,.aa,.i 0,.aa] [(0,4,.t 5),(4,4,.t 8)]),qs 8 2 9])⟩
def CC:aI:=⟨[.cell 2 8 true],.g [qb 1 8 0,Rq 2 (.box 8 (.c (.agg [.i 0,.aa,.i 0,.aa,.i 0,.aa,.i 0,.aa])))] (.g [qL 5 8 1,qL 6 8 1,aC 7 221 5 6,Rq 3 (.box 8 (.c (.agg [.i 0,.aa,.i 0,.aa,.i 0,.aa,.i 0,.aa]))),qs 8 3 7] (.q (.g [qo 8 0 1,qL 9 4 8,aB 10 108 9,Rq 11 (.y .leq 10 0),qm 12 11,Rt 13 12 (.off 4 (.t 1)),Rt 14 12 (.ld 4 true (.t 13)),Rt 15 12 (.q 108 [.t 14]),Rt 16 12 (.y .geq 15 0),qq 17 12 16] (.cond (.t 17) (.aS [Rq 18 (.q 69 [.k 0]),qo 19 0 3,qs 4 19 18]) (.g [qo 20 0 1,qL 21 4 20,qo 22 0 1,qL 23 4 22,aC 24 49 21 23,qo 25 4 1,qL 26 4 25,qo 27 4 1,qL 28 4 27,aC 29 49 26 28,Rq 30 (.cQ 2 4 [.i 0,.aa,.i 0,.aa,.i 0,.aa,.i 0,.aa] [(0,4,.t 24),(4,4,.t 29)]),qm 4 30] (.aS [qm 31 4,Rq 32 (.q 233 [.t 31,.F 71]),qo 33 0 3,qs 4 33 32])))) (.e [qL 34 8 3,qs 8 2 34])))⟩
def rF:aI:=⟨[.cell 4 2 true,.t 5],.g [qb 2 4 0,qb 3 4 1,Rq 4 (.box 2 (.c (.agg [.str [],.str []]))),qk 5 0] (.h [qL 6 4 2,aB 7 107 6,qm 8 7,Rf 9 8 (.ld 4 true (.t 3)),Rf 10 8 (.q 107 [.t 9]),qp 11 8 10] 11 (.e [Rq 12 (.cK [.str [],.str []] []),qs 2 4 12,qk 5 4]) (.e [qL 13 4 2,aB 14 46 13,qL 15 4 3,aB 16 46 15,Rq 17 (.cK [.str [],.str []] [(0,1,.t 14),(1,1,.t 16)]),qs 2 4 17,qk 5 0]))⟩
def Ho:aI:=⟨[.t 2],.g [qk 2 0] (.e [qm 3 0,Rq 4 (.q 206 [.t 3,.k 1,.k 12]),qm 2 4])⟩
def EE:aI:=⟨[.cell 4 2 true,.t 5],.g [qb 2 4 0,Rq 4 (.box 2 (.c (.agg [.str [],.str []]))),qk 5 0] (.q (.g [qL 11 4 2,aB 12 235 11,qm 10 12,qe 13 0 10,qe 14 1 10,Rq 6 (.box 4 (.c (.agg [.i 0,.aa,.i 0,.aa]))),qs 4 6 13,qm 7 14] (.g [qm 15 7] (.i 15 (.e [qL 16 4 6,qL 17 4 6,aC 18 214 16 17,qe 19 0 18,qe 20 1 18,qs 2 4 19,qm 5 20])))) (.g [qm 21 1,aB 22 236 21,Rq 8 (.box 2 (.c (.agg [.i 0,.aa]))),qs 2 8 22] (.g [qL 23 4 2,qL 24 2 8,qL 25 2 8,aC 26 100 24 25,aB 27 111 26,aC 28 49 23 27,aB 29 149 28,aB 30 237 29,Rq 9 (.box 2 (.c (.agg [.i 0,.aa]))),qs 2 9 30] (.e [qL 31 2 9,qL 32 2 8,aC 33 101 31 32,qL 34 2 9,Rq 35 (.q 117 [.k 1]),aC 36 119 34 35,qL 37 2 8,aC 38 101 36 37,aC 39 214 33 38,qe 40 0 39,qe 41 1 39,qs 2 4 40,qm 5 41]))))⟩
def Hr:aI:=⟨[.cell 2 2 true],.g [Rq 2 (.box 2 (.c (.agg [.str [],.str []])))] (.e [qm 3 0,qm 4 0,Rq 5 (.cK [.str [],.str []] [(0,1,.t 3),(1,1,.t 4)]),qs 2 2 5])⟩
def Qu:aI:=⟨[.t 2],.g [qb 1 4 0,qk 2 0] (.e [qo 3 0 1,qL 4 2 3,aB 5 210 4,qo 6 2 1,qL 7 2 6,aB 8 210 7,Rq 9 (.cQ 2 1 [.i 0,.i 0] [(0,1,.t 5),(1,1,.t 8)]),aB 10 125 9,qm 2 10])⟩
def EF:aI:=⟨[.cell 4 8 true],.g [qb 2 8 0,qb 3 8 1,Rq 4 (.box 8 (.c (.agg [.i 0,.aa,.i 0,.aa,.i 0,.aa,.i 0,.aa])))] (.g [qo 6 0 2,qL 7 4 6,qo 8 0 3,qL 9 4 8,aC 10 49 7 9,qo 11 0 2,qL 12 4 11,qo 13 4 3,qL 14 4 13,aC 15 49 12 14,qo 16 4 2,qL 17 4 16,qo 18 0 3,qL 19 4 18,aC 20 49 17 19,qo 21 4 2,qL 22 4 21,qo 23 4 3,qL 24 4 23,aC 25 49 22 24,Rq 26 (.cQ 4 4 [.i 0,.aa,.i 0,.aa,.i 0,.aa,.i 0,.aa,.i 0,.aa,.i 0,.aa,.i 0,.aa,.i 0,.aa] [(0,4,.t 10),(4,4,.t 15),(8,4,.t 20),(12,4,.t 25)]),qm 5 26] (.e [qm 27 5,Rq 28 (.q 233 [.t 27,.F 71]),qm 29 5,Rq 30 (.q 234 [.t 29,.F 71]),Rq 31 (.cK [.i 0,.aa,.i 0,.aa,.i 0,.aa,.i 0,.aa] [(0,4,.t 28),(4,4,.t 30)]),qs 8 4 31]))⟩
def Qv:aI:=⟨[.cell 2 8 true],.g [qb 1 8 0,Rq 2 (.box 8 (.c (.agg [.i 0,.aa,.i 0,.aa,.i 0,.aa,.i 0,.aa])))] (.e [qo 3 4 1,qL 4 4 3,aB 5 102 4,qo 6 0 1,qL 7 4 6,aB 8 102 7,Rq 9 (.cK [.i 0,.aa,.i 0,.aa,.i 0,.aa,.i 0,.aa] [(0,4,.t 5),(4,4,.t 8)]),qs 8 2 9])⟩
def Qw:aI:=⟨[.cell 4 8 true],.g [qb 2 8 0,qb 3 8 1,Rq 4 (.box 8 (.c (.agg [.i 0,.aa,.i 0,.aa,.i 0,.aa,.i 0,.aa])))] (.e [qo 5 0 2,qL 6 4 5,qo 7 0 3,qL 8 4 7,aC 9 74 6 8,qo 10 4 2,qL 11 4 10,qo 12 4 3,qL 13 4 12,aC 14 74 11 13,Rq 15 (.cK [.i 0,.aa,.i 0,.aa,.i 0,.aa,.i 0,.aa] [(0,4,.t 9),(4,4,.t 14)]),qs 8 4 15])⟩
def Qx:aI:=⟨[.cell 4 4 true,.t 5],.g [qb 2 8 0,qb 3 8 1,Rq 4 (.box 4 (.c (.agg [.str [],.str [],.str [],.str []]))),qk 5 0] (.g [qo 12 0 2,qL 13 4 12,qo 14 4 2,qL 15 4 14,aC 16 214 13 15,qm 11 16,qe 17 0 11,qe 18 1 11,Rq 6 (.box 2 (.c (.agg [.str [],.str []]))),qs 2 6 17,qm 7 18] (.g [qo 20 0 3,qL 21 4 20,qo 22 4 3,qL 23 4 22,aC 24 214 21 23,qm 19 24,qe 25 0 19,qe 26 1 19,Rq 8 (.box 2 (.c (.agg [.str [],.str []]))),qs 2 8 25,qm 9 26] (.q (.g [qm 27 7,qm 28 9,Rq 29 (.cQ 2 1 [.i 0,.i 0] [(0,1,.t 27),(1,1,.t 28)]),aB 30 125 29,qm 10 30] (.g [qm 31 10,qN 32 31 0] (.i 32 (.e [Rq 33 (.cK [.str [],.str [],.str [],.str []] []),qm 34 10,qs 4 4 33,qm 5 34])))) (.e [qL 35 2 6,qL 36 2 8,Rq 37 (.cK [.str [],.str [],.str [],.str []] [(0,2,.t 35),(2,2,.t 36)]),qs 4 4 37,qk 5 0]))))⟩
def GA:VC:=.q (.g [qm 14 6,qm 15 0,qn 16 1 15,qT 17 14 16] (.cond (.t 17) .skip (.exit 0))) (.q (.aQ 1 (.g [qm 20 1,qm 21 0,qm 22 6,qi 23 4 21 22,qL 24 4 23,qL 25 4 5,Rq 26 (.call .pure (.t 20) [.t 24,.t 25]),Rq 27 (.y .lss 26 0)] (.i 27 (.aS [qm 28 0,qm 29 6,qi 30 4 28 29,qL 31 4 30,qs 4 5 31])))) (.aS [qm 18 6,qa 19 18 1,qm 6 19]))
def EG:aI:=⟨[.cell 4 4 true],.g [Rq 4 (.box 4 (.c (.agg [.i 0,.aa,.i 0,.aa])))] (.h [qm 7 0,qn 8 1 7,Rq 9 (.y .lss 8 1)] 9 (.aS [Rq 10 (.call .pure (.c .undef) []),⟨none,none,.call .pure (.c .undef) []⟩]) (.g [qm 11 0,Rq 12 (.bz 4 (.t 11) (.k 0)),qL 13 4 12,Rq 5 (.box 4 (.c (.agg [.i 0,.aa,.i 0,.aa]))),qs 4 5 13] (.q (.g [qk 6 1] (.q (.aQ 0 (.loop [0,1,4,5,6] GA)) (.kp [4,5]))) (.e [qL 32 4 5,qs 4 4 32]))))⟩
def GB:VC:=.q (.g [qm 14 6,qm 15 0,qn 16 1 15,qT 17 14 16] (.cond (.t 17) .skip (.exit 0))) (.q (.aQ 1 (.g [qm 20 1,qm 21 0,qm 22 6,qi 23 4 21 22,qL 24 4 23,qL 25 4 5,Rq 26 (.call .pure (.t 20) [.t 24,.t 25]),Rq 27 (.y .gtr 26 0)] (.i 27 (.aS [qm 28 0,qm 29 6,qi 30 4 28 29,qL 31 4 30,qs 4 5 31])))) (.aS [qm 18 6,qa 19 18 1,qm 6 19]))
def EH:aI:=⟨[.cell 4 4 true],.g [Rq 4 (.box 4 (.c (.agg [.i 0,.aa,.i 0,.aa])))] (.h [qm 7 0,qn 8 1 7,Rq 9 (.y .lss 8 1)] 9 (.aS [Rq 10 (.call .pure (.c .undef) []),⟨none,none,.call .pure (.c .undef) []⟩]) (.g [qm 11 0,Rq 12 (.bz 4 (.t 11) (.k 0)),qL 13 4 12,Rq 5 (.box 4 (.c (.agg [.i 0,.aa,.i 0,.aa]))),qs 4 5 13] (.q (.g [qk 6 1] (.q (.aQ 0 (.loop [0,1,4,5,6] GB)) (.kp [4,5]))) (.e [qL 32 4 5,qs 4 4 32]))))⟩
def CD:aI:=⟨[.cell 2 4 true,.t 3],.g [qb 1 4 0,Rq 2 (.box 4 (.c (.agg [.i 0,.aa,.i 0,.aa]))),qf 3] (.h [qL 6 4 1,aB 7 108 6,Rq 8 (.y .lss 7 0)] 8 (.e [Rq 9 (.cK [.i 0,.aa,.i 0,.aa] []),qs 4 2 9,qf 3]) (.g [qo 10 0 1,qL 11 2 10,aB 12 237 11,qo 13 2 1,qL 14 2 13,aB 15 237 14,Rq 4 (.box 2 (.c (.agg [.i 0,.aa]))),Rq 5 (.box 2 (.c (.agg [.i 0,.aa]))),qs 2 4 12,qs 2 5 15] (.e [qL 16 2 4,qL 17 2 5,Rq 18 (.cK [.i 0,.aa,.i 0,.aa] [(0,2,.t 16),(2,2,.t 17)]),qL 19 2 4,qL 20 2 4,aC 21 100 19 20,qo 22 0 1,qL 23 2 22,aC 24 118 21 23,qE 25 24 0,qm 26 25,Rt 27 26 (.ld 2 true (.t 5)),Rt 28 26 (.ld 2 true (.t 5)),Rt 29 26 (.q 100 [.t 27,.t 28]),Rt 30 26 (.off 2 (.t 1)),Rt 31 26 (.ld 2 true (.t 30)),Rt 32 26 (.q 118 [.t 29,.t 31]),Rt 33 26 (.y .eql 32 0),qq 34 26 33,qs 4 2 18,qm 3 34])))⟩
def EI:aI:=⟨[.cell 2 2 true],.g [Rq 2 (.box 2 (.c (.agg [.i 0,.aa])))] (.e [Rq 3 (.q 117 [.k 10]),qm 4 0,aC 5 155 3 4,qs 2 2 5])⟩
def KY:VC:=.aQ 1 (.g [qL 19 2 1,qL 20 2 3,aC 21 164 19 20,qm 18 21,qe 22 0 18,qe 23 1 18,Rq 4 (.box 2 (.c (.agg [.i 0,.aa]))),Rq 5 (.box 2 (.c (.agg [.i 0,.aa]))),qs 2 4 22,qs 2 5 23] (.g [qL 25 2 3,qL 26 2 4,aC 27 119 25 26,Rq 28 (.q 117 [.k 2]),aC 29 164 27 28,qm 24 29,qe 30 0 24,qe 31 1 24,Rq 6 (.box 2 (.c (.agg [.i 0,.aa]))),Rq 7 (.box 2 (.c (.agg [.i 0,.aa]))),qs 2 6 30,qs 2 7 31] (.h [qL 32 2 6,qL 33 2 3,aC 34 118 32 33,Rq 35 (.y .geq 34 0)] 35 (.e [qL 36 2 3,qs 2 2 36]) (.aS [qL 37 2 6,qs 2 3 37]))))
def Av:aI:=⟨[.cell 2 2 true],.g [qb 1 2 0,Rq 2 (.box 2 (.c (.agg [.i 0,.aa])))] (.h [qL 8 2 1,aB 9 146 8,qE 10 9 0] 10 (.e [qL 11 2 1,qs 2 2 11]) (.g [Rq 12 (.q 117 [.k 2]),qL 13 2 1,aB 14 172 13,qa 15 14 1,Rq 16 (.y .quo 15 2),aC 17 155 12 16,Rq 3 (.box 2 (.c (.agg [.i 0,.aa]))),qs 2 3 17] (.q (.aQ 0 (.loop [1,2,3] KY)) (.kp [2]))))⟩
end
section
def GC:VC:=.q (.g [qm 5 3,qm 6 0,qn 7 1 6,qT 8 5 7] (.cond (.t 8) .skip (.exit 0))) (.q (.aQ 1 (.g [qm 11 0,qm 12 3,qi 13 1 11 12,ql 14 1 13,aB 15 263 14,qm 4 15] (.g [qm 16 4,qN 17 16 0] (.i 17 (.e [qm 18 4,qm 2 18]))))) (.aS [qm 9 3,qa 10 9 1,qm 3 10]))
def nJ:aI:=⟨[.t 2],.g [qk 2 0] (.q (.g [qk 3 0] (.q (.aQ 0 (.loop [0,3] GC)) (.kp []))) (.e [qk 2 0]))⟩
def LX:aI:=⟨[.t 2],.g [qk 2 0] (.h [qm 3 0,Rq 4 (.bin .eql (.t 3) (.s [48]))] 4 (.e [qk 2 0]) (.h [qm 5 0,qn 6 0 5,Rq 7 (.y .gtr 6 0),qm 8 7,Rt 9 8 (.m 0),Rt 10 8 (.lE (.t 9) (.k 0)),Rt 11 8 (.bin .eql (.t 10) (.c (.int .u8 45))),qq 12 8 11] 12 (.e [qk 2 (-1)]) (.e [qk 2 1])))⟩
def dH:aI:=⟨[.t 2],.g [qk 2 0] (.g [qm 8 0,qm 3 8] (.h [qm 9 3,qn 10 0 9,Rq 11 (.y .gtr 10 0),qm 12 11,Rt 13 12 (.m 3),Rt 14 12 (.lE (.t 13) (.k 0)),Rt 15 12 (.bin .eql (.t 14) (.c (.int .u8 45))),qq 16 12 15] 16 (.aS [qm 17 3,Rq 18 (.eF .str (.t 17) (some (.k 1)) none),qm 3 18]) (.g [qm 19 3,aB 20 272 19,qm 4 20] (.h [qm 21 3,qm 22 4,Rq 23 (.eF .str (.t 21) none (some (.t 22))),aB 24 273 23,Rq 25 (.un .not (.t 24)),qm 26 25,Rf 27 26 (.m 0),Rf 28 26 (.lE (.t 27) (.k 0)),Rf 29 26 (.bin .eql (.t 28) (.c (.int .u8 45))),Rf 30 26 (.m 29),Rt 31 30 (.m 3),Rt 32 30 (.m 4),Rt 33 30 (.eF .str (.t 31) none (some (.t 32))),Rt 34 30 (.bin .eql (.t 33) (.s [48])),Rf 35 26 (.pick (.t 30) (.t 34) (.c (.bool false))),qp 36 26 35] 36 (.e [qk 2 1]) (.h [qm 37 4,qm 38 3,qn 39 0 38,qT 40 37 39,qm 41 40,Rt 42 41 (.m 3),Rt 43 41 (.m 4),Rt 44 41 (.y .add 43 1),Rt 45 41 (.eF .str (.t 42) (some (.t 44)) none),Rt 46
 41 (.q 273 [.t 45]),Rt 47 41 (.un .not (.t 46)),Rt 48 41 (.m 47),Rf 49 48 (.m 3),Rf 50 48 (.m 4),Rf 51 48 (.y .add 50 1),Rf 52 48 (.eF .str (.t 49) (some (.t 51)) none),Rf 53 48 (.bin .eql (.t 52) (.s [48])),Rt 54 41 (.pick (.t 48) (.c (.bool true)) (.t 53)),Rt 55 41 (.m 54),Rf 56 55 (.m 3),Rf 57 55 (.m 4),Rf 58 55 (.y .add 57 1),Rf 59 55 (.eF .str (.t 56) (some (.t 58)) none),Rf 60 55 (.bin .eql (.t 59) (.s [49])),Rt 61 41 (.pick (.t 55) (.c (.bool true)) (.t 60)),qq 62 41 61] 62 (.e [qk 2 1]) (.h [qm 63 4,Rq 64 (.y .gtr 63 600),qm 65 64,Rf 66 65 (.m 3),Rf 67 65 (.len 0 (.t 66)),Rf 68 65 (.m 4),Rf 69 65 (.z .sub 67 68),Rf 70 65 (.y .sub 69 1),Rf 71 65 (.y .gtr 70 600),qp 72 65 71] 72 (.e [qk 2 4]) (.h [qm 73 4,qm 74 3,qn 75 0 74,qT 76 73 75] 76 (.g [qm 78 3,aB 79 274 78,qm 77 79,qe 80 0 77,qe 81 1 77,Rq 5 (.box 2 (.c (.agg [.bool false,.aa]))),Rq 6 (.box 2 (.c (.agg [.bool false,.aa]))),qs
 2 5 80,qs 2 6 81] (.g [qo 82 1 5,ql 83 1 82,qo 84 1 6,ql 85 1 84,aC 86 275 83 85,qm 7 86] (.g [qm 87 7,qn 88 1 87,qN 89 88 1,qm 90 89,Rf 91 90 (.m 7),Rf 92 90 (.bz 1 (.t 91) (.k 0)),Rf 93 90 (.ld 1 false (.t 92)),Rf 94 90 (.y .neq 93 1),qp 95 90 94] (.i 95 (.e [qk 2 1]))))) (.e [qk 2 0]))))))))⟩
def LY:aI:=⟨[.t 4],.g [Rq 4 (.ck (.s []))] (.g [qm 16 0,aB 17 276 16,qm 15 17,qe 18 0 15,qe 19 1 15,qe 20 2 15,qm 5 18,qm 6 19,qm 7 20] (.g [qm 22 1,aB 23 276 22,qm 21 23,qe 24 0 21,qe 25 1 21,qe 26 2 21,qm 8 24,qm 9 25,qm 10 26] (.h [qm 27 7,qm 28 27,Rt 29 28 (.m 10),qq 30 28 29] 30 (.e [qm 31 5,qm 32 9,Rq 33 (.z .mul 31 32),qm 34 8,qm 35 6,Rq 36 (.z .mul 34 35),qA 37 33 36,qm 38 6,qm 39 9,Rq 40 (.z .mul 38 39),aC 41 277 37 40,qm 4 41]) (.g [qm 43 0,aB 44 274 43,qm 42 44,qe 45 0 42,qe 46 1 42,Rq 11 (.box 2 (.c (.agg [.bool false,.aa]))),Rq 12 (.box 2 (.c (.agg [.bool false,.aa]))),qs 2 11 45,qs 2 12 46] (.g [qm 48 1,aB 49 274 48,qm 47 49,qe 50 0 47,qe 51 1 47,Rq 13 (.box 2 (.c (.agg [.bool false,.aa]))),Rq 14 (.box 2 (.c (.agg [.bool false,.aa]))),qs 2 13 50,qs 2 14 51] (.e [qL 52 2 11,qL 53 2 14,aC 54 278 52 53,qL 55 2 13,qL 56 2 12,aC 57 278 55 56,aC 58 279 54 57,qL 59 2 12,qL 60
 2 14,aC 61 278 59 60,aC 62 280 58 61,qm 4 62]))))))⟩
def Hs:aI:=⟨[.t 4],.g [Rq 4 (.ck (.s []))] (.e [qm 5 0,qm 6 1,aB 7 283 6,aC 8 267 5 7,qm 4 8])⟩
def LZ:aI:=⟨[.t 4],.g [Rq 4 (.ck (.s []))] (.g [qm 16 0,aB 17 276 16,qm 15 17,qe 18 0 15,qe 19 1 15,qe 20 2 15,qm 5 18,qm 6 19,qm 7 20] (.g [qm 22 1,aB 23 276 22,qm 21 23,qe 24 0 21,qe 25 1 21,qe 26 2 21,qm 8 24,qm 9 25,qm 10 26] (.h [qm 27 7,qm 28 27,Rt 29 28 (.m 10),qq 30 28 29] 30 (.e [qm 31 5,qm 32 8,Rq 33 (.z .mul 31 32),qm 34 6,qm 35 9,Rq 36 (.z .mul 34 35),aC 37 277 33 36,qm 4 37]) (.g [qm 39 0,aB 40 274 39,qm 38 40,qe 41 0 38,qe 42 1 38,Rq 11 (.box 2 (.c (.agg [.bool false,.aa]))),Rq 12 (.box 2 (.c (.agg [.bool false,.aa]))),qs 2 11 41,qs 2 12 42] (.g [qm 44 1,aB 45 274 44,qm 43 45,qe 46 0 43,qe 47 1 43,Rq 13 (.box 2 (.c (.agg [.bool false,.aa]))),Rq 14 (.box 2 (.c (.agg [.bool false,.aa]))),qs 2 13 46,qs 2 14 47] (.e [qL 48 2 11,qL 49 2 13,aC 50 278 48 49,qL 51 2 12,qL 52 2 14,aC 53 278 51 52,aC 54 280 50 53,qm 4 54]))))))⟩
def L2:aI:=⟨[.t 2],.g [Rq 2 (.ck (.s []))] (.h [qm 3 0,aB 4 262 3,Rq 5 (.y .lss 4 0)] 5 (.e [qm 6 0,Rq 7 (.eF .str (.t 6) (some (.k 1)) none),qm 2 7]) (.h [qm 8 0,aB 9 262 8,qE 10 9 0] 10 (.e [qm 11 0,qm 2 11]) (.e [qm 12 0,Rq 13 (.bin .add (.s [45]) (.t 12)),qm 2 13])))⟩
def Ht:aI:=⟨[.t 2],.g [qk 2 0] (.h [qm 3 0,aB 4 284 3,aB 5 285 4,qn 6 0 5,Rq 7 (.y .gtr 6 600),qm 8 7,Rf 9 8 (.m 0),Rf 10 8 (.q 286 [.t 9]),Rf 11 8 (.len 0 (.t 10)),Rf 12 8 (.y .gtr 11 600),qp 13 8 12] 13 (.e [qk 2 4]) (.e [qk 2 0]))⟩
def W7:aI:=⟨[.t 4],.g [Rq 4 (.ck (.s []))] (.e [qm 5 0,qm 6 1,aB 7 268 6,aC 8 264 5 7,qm 4 8])⟩
def GD:VC:=.q (.g [qm 4 3,qm 5 0,qn 6 0 5,qT 7 4 6] (.cond (.t 7) .skip (.exit 0))) (.q (.aQ 1 (.g [qm 10 0,qm 11 3,Rq 12 (.lE (.t 10) (.t 11)),Rq 13 (.bin .eql (.t 12) (.c (.int .u8 47)))] (.i 13 (.e [qm 14 3,qm 2 14])))) (.aS [qm 8 3,qa 9 8 1,qm 3 9]))
def L3:aI:=⟨[.t 2],.g [qk 2 0] (.q (.g [qk 3 0] (.q (.aQ 0 (.loop [0,3] GD)) (.kp [0]))) (.e [qm 15 0,qn 16 0 15,qm 2 16]))⟩
def EJ:aI:=⟨[.t 2],.g [qf 2] (.h [qm 3 0,qn 4 0 3,qE 5 4 0,qm 6 5,Rf 7 6 (.m 0),Rf 8 6 (.len 0 (.t 7)),Rf 9 6 (.y .gtr 8 1),Rf 10 6 (.m 9),Rt 11 10 (.m 0),Rt 12 10 (.lE (.t 11) (.k 0)),Rt 13 10 (.bin .eql (.t 12) (.c (.int .u8 48))),Rf 14 6 (.pick (.t 10) (.t 13) (.c (.bool false))),qp 15 6 14] 15 (.e [qf 2]) (.e [qm 16 0,aB 17 287 16,qm 2 17]))⟩
def Qy:aI:=⟨[.cell 2 2 true,.cell 3 2 true],.g [Rq 2 (.box 2 (.c (.agg [.bool false,.aa]))),Rq 3 (.box 2 (.c (.agg [.bool false,.aa])))] (.g [qm 6 0,qm 4 6] (.g [qm 7 4,aB 8 272 7,qm 5 8] (.h [qm 9 5,qm 10 4,qn 11 0 10,Rq 12 (.z .eql 9 11)] 12 (.e [qm 13 4,aB 14 288 13,Rq 15 (.q 281 [.k 1]),qs 2 2 14,qs 2 3 15]) (.e [qm 16 4,qm 17 5,Rq 18 (.eF .str (.t 16) none (some (.t 17))),aB 19 288 18,qm 20 4,qm 21 5,qa 22 21 1,Rq 23 (.eF .str (.t 20) (some (.t 22)) none),aB 24 288 23,qs 2 2 19,qs 2 3 24]))))⟩
def KZ:VC:=.q (.g [qm 7 1,qn 8 1 7,Rq 9 (.y .gtr 8 0)] (.cond (.t 9) .skip (.exit 0))) (.aQ 1 (.g [qm 11 0,qm 12 1,aC 13 289 11 12,qm 10 13,qe 14 0 10,qe 15 1 10,qm 5 14,qm 6 15] (.aS [qm 16 1,qm 17 6,qm 0 16,qm 1 17])))
def Qz:aI:=⟨[.t 4],.g [qz 4] (.q (.q (.aQ 0 (.loop [0,1] KZ)) (.kp [0])) (.e [qm 18 0,qm 4 18]))⟩
def pV:aI:=⟨[.t 2,.t 3,.t 4],.g [qk 2 0,qk 3 0,qf 4] (.g [qm 10 0,qm 5 10] (.h [qm 11 5,qn 12 0 11,Rq 13 (.y .gtr 12 20)] 13 (.e [qk 2 0,qk 3 0,qf 4]) (.g [qm 14 5,qn 15 0 14,Rq 16 (.y .gtr 15 0),qm 17 16,Rt 18 17 (.m 5),Rt 19 17 (.lE (.t 18) (.k 0)),Rt 20 17 (.bin .eql (.t 19) (.c (.int .u8 45))),qq 21 17 20,qm 6 21] (.h [qm 22 6] 22 (.aS [qm 23 5,Rq 24 (.eF .str (.t 23) (some (.k 1)) none),qm 5 24]) (.g [qm 25 5,aB 26 272 25,qm 7 26] (.h [qm 27 7,Rq 28 (.y .gtr 27 9),qm 29 28,Rf 30 29 (.m 5),Rf 31 29 (.len 0 (.t 30)),Rf 32 29 (.m 7),Rf 33 29 (.z .sub 31 32),Rf 34 29 (.y .gtr 33 10),qp 35 29 34] 35 (.e [qk 2 0,qk 3 0,qf 4]) (.g [qm 36 5,qm 37 7,Rq 38 (.eF .str (.t 36) none (some (.t 37))),aB 39 290 38,qm 8 39,qk 9 1] (.h [qm 40 7,qm 41 5,qn 42 0 41,qT 43 40 42] 43 (.aS [qm 44 5,qm 45 7,qa 46 45 1,Rq 47 (.eF .str (.t 44) (some (.t 46)) none),aB 48 290 47,qm 9 48]) (.h [qm 49 6] 49 (.aS [qm
 50 8,Rq 51 (.bin .sub (.k 0) (.t 50)),qm 8 51]) (.e [qm 52 8,qm 53 9,qm 2 52,qm 3 53,Rq 4 (.ck (.c (.bool true)))]))))))))))⟩
def EK:aI:=⟨[.t 4],.g [Rq 4 (.ck (.s []))] (.h [qm 7 0,Rq 8 (.y .lss 7 (-4000000000000000000)),qm 9 8,Rf 10 9 (.m 0),Rf 11 9 (.y .gtr 10 4000000000000000000),qp 12 9 11,qm 13 12,Rf 14 13 (.m 1),Rf 15 13 (.y .lss 14 (-4000000000000000000)),qp 16 13 15,qm 17 16,Rf 18 17 (.m 1),Rf 19 17 (.y .gtr 18 4000000000000000000),qp 20 17 19] 20 (.e [qm 21 0,aB 22 281 21,qm 23 1,aB 24 281 23,aC 25 280 22 24,qm 4 25]) (.h [qm 26 1,Rq 27 (.y .lss 26 0)] 27 (.aS [qm 28 0,Rq 29 (.bin .sub (.k 0) (.t 28)),qm 30 1,Rq 31 (.bin .sub (.k 0) (.t 30)),qm 0 29,qm 1 31]) (.g [qm 32 0,qm 33 0,Rq 34 (.bin .sub (.k 0) (.t 33)),Rq 35 (.mx [.t 32,.t 34]),qm 36 1,aC 37 291 35 36,qm 5 37] (.g [qm 38 0,qm 39 5,Rq 40 (.z .quo 38 39),qm 41 1,qm 42 5,Rq 43 (.z .quo 41 42),qm 0 40,qm 1 43] (.g [Rq 6 (.ck (.s []))] (.h [qm 44 0,Rq 45 (.y .lss 44 0)] 45 (.aS [Rq 6 (.ck (.s [45]))]) (.g [qm 46 6,qm 47 0,qm 48 0,Rq 49 (.bin .sub (.k
 0) (.t 48)),Rq 50 (.mx [.t 47,.t 49]),Rq 51 (.q 292 [.t 50,.k 1]),qA 52 46 51,qm 6 52] (.h [qm 53 1,Rq 54 (.y .gtr 53 1)] 54 (.aS [qm 55 6,Rq 56 (.bin .add (.t 55) (.s [47])),qm 57 1,Rq 58 (.q 292 [.t 57,.k 1]),qA 59 56 58,qm 6 59]) (.e [qm 60 6,qm 4 60])))))))))⟩
def QA:aI:=⟨[.cell 4 2 true],.g [qb 2 2 0,qb 3 2 1,Rq 4 (.box 2 (.c (.agg [.bool false,.aa])))] (.e [qo 5 0 2,ql 6 1 5,qo 7 0 3,ql 8 1 7,Rq 9 (.eq true .b (.t 6) (.t 8)),qo 10 1 2,ql 11 1 10,qo 12 1 3,ql 13 1 12,aC 14 293 11 13,aC 15 294 9 14,qs 2 4 15])⟩
def Hu:aI:=⟨[.cell 4 2 true],.g [qb 2 2 0,qb 3 2 1,Rq 4 (.box 2 (.c (.agg [.bool false,.aa])))] (.h [qo 5 0 2,ql 6 1 5,qo 7 0 3,ql 8 1 7,Rq 9 (.eq false .b (.t 6) (.t 8))] 9 (.e [qo 10 0 2,ql 11 1 10,qo 12 1 2,ql 13 1 12,qo 14 1 3,ql 15 1 14,aC 16 295 13 15,aC 17 294 11 16,qs 2 4 17]) (.h [qo 18 1 2,ql 19 1 18,qo 20 1 3,ql 21 1 20,aC 22 296 19 21,Rq 23 (.y .geq 22 0)] 23 (.e [qo 24 0 2,ql 25 1 24,qo 26 1 2,ql 27 1 26,qo 28 1 3,ql 29 1 28,aC 30 297 27 29,aC 31 294 25 30,qs 2 4 31]) (.e [qo 32 0 3,ql 33 1 32,qo 34 1 3,ql 35 1 34,qo 36 1 2,ql 37 1 36,aC 38 297 35 37,aC 39 294 33 38,qs 2 4 39])))⟩
def oC:aI:=⟨[.t 4],.g [qb 2 2 0,qb 3 2 1,Rq 4 (.ck (.s []))] (.h [qo 11 0 3,ql 12 1 11] 12 (.aS [qL 13 2 2,aB 14 298 13,qL 15 2 3,aB 16 298 15,qs 2 2 14,qs 2 3 16]) (.g [qo 17 1 2,ql 18 1 17,qo 19 1 3,ql 20 1 19,aC 21 275 18 20,qm 5 21] (.g [qo 23 1 2,ql 24 1 23,qm 25 5,aC 26 289 24 25,qm 22 26,qe 27 0 22,qe 28 1 22,qm 6 27,qm 7 28] (.g [qo 30 1 3,ql 31 1 30,qm 32 5,aC 33 289 31 32,qm 29 33,qe 34 0 29,qe 35 1 29,qm 8 34,qm 9 35] (.g [qo 36 0 2,ql 37 1 36,qm 38 6,aC 39 294 37 38,aB 40 282 39,qm 10 40] (.h [qm 41 8,qn 42 1 41,qE 43 42 1,qm 44 43,Rt 45 44 (.m 8),Rt 46 44 (.bz 1 (.t 45) (.k 0)),Rt 47 44 (.ld 1 false (.t 46)),Rt 48 44 (.y .eql 47 1),qq 49 44 48] 49 (.e [qm 50 10,qm 4 50]) (.e [qm 51 10,Rq 52 (.bin .add (.t 51) (.s [47])),qm 53 8,Rq 54 (.q 294 [.c (.bool false),.t 53]),aB 55 282 54,qA 56 52 55,qm 4 56])))))))⟩
def aj8:VC:=.q (.g [qm 8 0,qN 9 8 0] (.cond (.t 9) .skip (.exit 0))) (.aQ 1 (.g [qm 10 0,Rq 11 (.y .rem 10 1000000000),qm 5 11] (.h [qm 12 5,Rq 13 (.y .lss 12 0)] 13 (.aS [qm 14 5,Rq 15 (.bin .sub (.k 0) (.t 14)),qm 5 15]) (.g [qm 16 3,qm 17 5,Rq 18 (.cQ 1 1 [.i 0] [(0,1,.t 17)]),Rq 19 (.a7 1 8 (.t 16) (.t 18)),qm 3 19] (.aS [qm 20 0,Rq 21 (.y .quo 20 1000000000),qm 0 21])))))
def W8:aI:=⟨[.cell 2 2 true],.g [Rq 2 (.box 2 (.c (.agg [.bool false,.aa])))] (.g [qz 3] (.g [qm 6 0,Rq 7 (.y .lss 6 0),qm 4 7] (.q (.q (.aQ 0 (.loop [0,2,3,4] aj8)) (.kp [2,3,4])) (.e [qm 22 4,qm 23 3,aC 24 294 22 23,qs 2 2 24]))))⟩
def K0:VC:=.q (.g [qm 22 4,Rq 23 (.y .geq 22 0)] (.cond (.t 23) .skip (.exit 0))) (.q (.aQ 1 (.aS [qm 26 3,qo 27 1 1,ql 28 1 27,qm 29 4,qi 30 1 28 29,ql 31 1 30,Rq 32 (.q 292 [.t 31,.k 9]),qA 33 26 32,qm 3 33])) (.aS [qm 24 4,Rq 25 (.y .sub 24 1),qm 4 25]))
def L4:aI:=⟨[.t 2],.g [qb 1 2 0,Rq 2 (.ck (.s []))] (.h [qo 5 1 1,ql 6 1 5,qn 7 1 6,qE 8 7 0] 8 (.e [Rq 2 (.ck (.s [48]))]) (.g [qo 9 1 1,ql 10 1 9,qo 11 1 1,ql 12 1 11,qn 13 1 12,Rq 14 (.y .sub 13 1),qi 15 1 10 14,ql 16 1 15,Rq 17 (.q 292 [.t 16,.k 1]),qm 3 17] (.q (.g [qo 18 1 1,ql 19 1 18,qn 20 1 19,Rq 21 (.y .sub 20 2),qm 4 21] (.q (.aQ 0 (.loop [1,3,4] K0)) (.kp [1,3]))) (.h [qo 34 0 1,ql 35 1 34] 35 (.e [qm 36 3,Rq 37 (.bin .add (.s [45]) (.t 36)),qm 2 37]) (.e [qm 38 3,qm 2 38])))))⟩
def Aw:aI:=⟨[.t 2],.g [Rq 2 (.ck (.s []))] (.g [qm 6 0,aB 7 274 6,qm 5 7,qe 8 0 5,qe 9 1 5,Rq 3 (.box 2 (.c (.agg [.bool false,.aa]))),Rq 4 (.box 2 (.c (.agg [.bool false,.aa]))),qs 2 3 8,qs 2 4 9] (.e [qL 10 2 4,qL 11 2 3,aC 12 280 10 11,qm 2 12]))⟩
def W9:aI:=⟨[.t 2],.g [Rq 2 (.ck (.s []))] (.e [qm 3 0,qm 4 0,aB 5 272 4,Rq 6 (.eF .str (.t 3) none (some (.t 5))),qm 2 6])⟩
def Hv:aI:=⟨[.t 2],.g [Rq 2 (.ck (.s []))] (.h [qm 3 0,aB 4 262 3,Rq 5 (.y .lss 4 0)] 5 (.e [qm 6 0,Rq 7 (.eF .str (.t 6) (some (.k 1)) none),qm 2 7]) (.e [qm 8 0,qm 2 8]))⟩
def QB:aI:=⟨[.t 2],.g [Rq 2 (.ck (.s []))] (.g [qm 4 0,aB 5 272 4,qm 3 5] (.h [qm 6 3,qm 7 0,qn 8 0 7,Rq 9 (.z .eql 6 8)] 9 (.e [Rq 2 (.ck (.s [49]))]) (.e [qm 10 0,qm 11 3,qa 12 11 1,Rq 13 (.eF .str (.t 10) (some (.t 12)) none),qm 2 13])))⟩
def D9:VC:=.q (.g [qm 4 3,qm 5 0,qn 6 0 5,qT 7 4 6] (.cond (.t 7) .skip (.exit 0))) (.q (.aQ 1 (.g [qm 10 0,qm 11 3,Rq 12 (.lE (.t 10) (.t 11)),Rq 13 (.bin .lss (.t 12) (.c (.int .u8 48))),qm 14 13,Rf 15 14 (.m 0),Rf 16 14 (.m 3),Rf 17 14 (.lE (.t 15) (.t 16)),Rf 18 14 (.bin .gtr (.t 17) (.c (.int .u8 57))),qp 19 14 18] (.i 19 (.e [qf 2])))) (.aS [qm 8 3,qa 9 8 1,qm 3 9]))
def L5:aI:=⟨[.t 2],.g [qf 2] (.q (.g [qk 3 0] (.q (.aQ 0 (.loop [0,3] D9)) (.kp []))) (.e [Rq 2 (.ck (.c (.bool true)))]))⟩
def Ad:VC:=.q (.g [qm 16 0,qn 17 0 16,Rq 18 (.y .gtr 17 9)] (.cond (.t 18) .skip (.exit 0))) (.aQ 1 (.g [qm 19 4,qm 20 0,qm 21 0,qn 22 0 21,Rq 23 (.y .sub 22 9),Rq 24 (.eF .str (.t 20) (some (.t 23)) none),aB 25 290 24,Rq 26 (.cQ 1 1 [.i 0] [(0,1,.t 25)]),Rq 27 (.a7 1 8 (.t 19) (.t 26)),qm 4 27] (.aS [qm 28 0,qm 29 0,qn 30 0 29,Rq 31 (.y .sub 30 9),Rq 32 (.eF .str (.t 28) none (some (.t 31))),qm 0 32])))
def QC:aI:=⟨[.cell 2 2 true],.g [Rq 2 (.box 2 (.c (.agg [.bool false,.aa])))] (.g [qm 5 0,qn 6 0 5,Rq 7 (.y .gtr 6 0),qm 8 7,Rt 9 8 (.m 0),Rt 10 8 (.lE (.t 9) (.k 0)),Rt 11 8 (.bin .eql (.t 10) (.c (.int .u8 45))),qq 12 8 11,qm 3 12] (.h [qm 13 3] 13 (.aS [qm 14 0,Rq 15 (.eF .str (.t 14) (some (.k 1)) none),qm 0 15]) (.g [qz 4] (.q (.q (.aQ 0 (.loop [0,2,3,4] Ad)) (.kp [0,2,3,4])) (.e [qm 33 3,qm 34 4,qm 35 0,aB 36 290 35,Rq 37 (.cQ 1 1 [.i 0] [(0,1,.t 36)]),Rq 38 (.a7 1 8 (.t 34) (.t 37)),aC 39 294 33 38,qs 2 2 39])))))⟩
def K5:VC:=.q (.g [qm 63 11,qn 64 1 63,qm 65 0,qn 66 1 65,qa 67 66 1,qT 68 64 67] (.cond (.t 68) .skip (.exit 0))) (.aQ 1 (.aS [qm 69 11,Rq 70 (.cQ 1 1 [.i 0] [(0,1,.k 0)]),Rq 71 (.a7 1 8 (.t 69) (.t 70)),qm 11 71]))
def GF:VC:=.q (.g [qm 90 16,qm 91 10,qT 92 90 91] (.cond (.t 92) .skip (.exit 4))) (.q (.aQ 5 (.g [qm 95 14,qm 96 9,qm 97 16,qi 98 1 96 97,ql 99 1 98,Rq 100 (.z .mul 95 99),qm 101 15,qA 102 100 101,qm 17 102] (.g [qm 103 11,qm 104 16,qm 105 13,qA 106 104 105,qi 107 1 103 106,ql 108 1 107,qm 109 17,Rq 110 (.y .rem 109 1000000000),Rq 111 (.z .sub 108 110),qm 18 111] (.g [qm 112 17,Rq 113 (.y .quo 112 1000000000),qm 15 113] (.h [qm 114 18,Rq 115 (.y .lss 114 0)] 115 (.g [qm 116 18,qa 117 116 1000000000,qm 18 117] (.aS [qm 118 15,qa 119 118 1,qm 15 119])) (.aS [qm 120 11,qm 121 16,qm 122 13,qA 123 121 122,qm 124 18,qi 125 1 120 123,qs 1 125 124])))))) (.aS [qm 93 16,qa 94 93 1,qm 16 94]))
def K6:VC:=.q (.g [qm 148 20,qm 149 10,qT 150 148 149] (.cond (.t 150) .skip (.exit 6))) (.q (.aQ 7 (.g [qm 153 11,qm 154 20,qm 155 13,qA 156 154 155,qi 157 1 153 156,ql 158 1 157,qm 159 9,qm 160 20,qi 161 1 159 160,ql 162 1 161,qA 163 158 162,qm 164 19,qA 165 163 164,qm 21 165] (.g [qm 166 11,qm 167 20,qm 168 13,qA 169 167 168,qm 170 21,Rq 171 (.y .rem 170 1000000000),qi 172 1 166 169,qs 1 172 171] (.aS [qm 173 21,Rq 174 (.y .quo 173 1000000000),qm 19 174])))) (.aS [qm 151 20,qa 152 151 1,qm 20 152]))
def K7:VC:=.q (.g [qm 82 13,Rq 83 (.y .geq 82 0)] (.cond (.t 83) .skip (.exit 2))) (.q (.aQ 3 (.g [qm 86 11,qm 87 9,qm 88 13,Rq 89 (.call .heap (.F 301) [.t 86,.t 87,.t 88]),qm 14 89] (.g [qk 15 0] (.q (.g [qk 16 0] (.q (.aQ 4 (.loop [8,9,10,11,12,13,14,15,16] GF)) (.kp [8,9,10,11,12,13,14,15]))) (.g [qm 126 11,qm 127 13,qm 128 10,qA 129 127 128,qm 130 11,qm 131 13,qm 132 10,qA 133 131 132,qi 134 1 130 133,ql 135 1 134,qm 136 15,Rq 137 (.z .sub 135 136),qi 138 1 126 129,qs 1 138 137] (.h [qm 139 11,qm 140 13,qm 141 10,qA 142 140 141,qi 143 1 139 142,ql 144 1 143,Rq 145 (.y .lss 144 0)] 145 (.g [qm 146 14,Rq 147 (.y .sub 146 1),qm 14 147] (.g [qk 19 0] (.q (.g [qk 20 0] (.q (.aQ 6 (.loop [8,9,10,11,12,13,14,19,20] K6)) (.kp [8,9,10,11,12,13,14,19]))) (.aS [qm 175 11,qm 176 13,qm 177 10,qA 178 176 177,qm 179 11,qm 180 13,qm 181 10,qA 182 180 181,qi 183 1 179 182,ql 184 1 183,qm 185 19,qA 186
 184 185,qi 187 1 175 178,qs 1 187 186])))) (.aS [qm 188 12,qm 189 13,qm 190 14,qi 191 1 188 189,qs 1 191 190]))))))) (.aS [qm 84 13,Rq 85 (.y .sub 84 1),qm 13 85]))
def sH:aI:=⟨[.t 4,.t 5],.g [qz 4,qz 5] (.h [qm 24 0,qm 25 1,aC 26 296 24 25,Rq 27 (.y .lss 26 0)] 27 (.e [qm 28 0,qz 4,qm 5 28]) (.h [qm 29 1,qn 30 1 29,qE 31 30 1] 31 (.g [qm 33 0,qm 34 1,Rq 35 (.bz 1 (.t 34) (.k 0)),ql 36 1 35,aC 37 299 33 36,qm 32 37,qe 38 0 32,qe 39 1 32,qm 6 38,qm 7 39] (.e [qm 40 6,qm 41 7,Rq 42 (.cQ 1 1 [.i 0] [(0,1,.t 41)]),aB 43 300 42,qm 4 40,qm 5 43])) (.g [qm 44 1,qm 45 1,qn 46 1 45,Rq 47 (.y .sub 46 1),qi 48 1 44 47,ql 49 1 48,qa 50 49 1,Rq 51 (.bin .quo (.k 1000000000) (.t 50)),Rq 52 (.cQ 1 1 [.i 0] [(0,1,.t 51)]),qm 8 52] (.g [qm 53 1,qm 54 8,aC 55 293 53 54,qm 9 55] (.g [qm 56 9,qn 57 1 56,qm 10 57] (.g [Rq 58 (.cQ 0 1 [] []),qm 59 0,qm 60 8,aC 61 293 59 60,Rq 62 (.a7 1 8 (.t 58) (.t 61)),qm 11 62] (.q (.q (.aQ 0 (.loop [0,8,9,10,11] K5)) (.kp [8,9,10,11])) (.g [qm 72 11,qn 73 1 72,qm 74 10,Rq 75 (.z .sub 73 74),Rq 76 (.iA 1 8 [.i 0] (.t 75) (.t 75)),qm
 12 76] (.q (.g [qm 77 11,qn 78 1 77,qm 79 10,Rq 80 (.z .sub 78 79),Rq 81 (.y .sub 80 1),qm 13 81] (.q (.aQ 2 (.loop [8,9,10,11,12,13] K7)) (.kp [8,10,11,12]))) (.g [qm 193 11,qm 194 10,Rq 195 (.eF (.sl 1) (.t 193) none (some (.t 194))),aB 196 300 195,qm 197 8,Rq 198 (.bz 1 (.t 197) (.k 0)),ql 199 1 198,aC 200 299 196 199,qm 192 200,qe 201 0 192,qe 202 1 192,qm 22 201,qm 23 202] (.e [qm 203 12,aB 204 300 203,qm 205 22,qm 4 204,qm 5 205])))))))))))⟩
def K8:VC:=.q (.g [qm 5 4,qm 6 0,qn 7 0 6,qT 8 5 7] (.cond (.t 8) .skip (.exit 0))) (.q (.aQ 1 (.aS [qm 11 3,Rq 12 (.bin .mul (.k 10) (.t 11)),qm 13 0,qm 14 4,Rq 15 (.lE (.t 13) (.t 14)),Rq 16 (.cv (.toInt .i64) (.t 15)),qA 17 12 16,Rq 18 (.y .sub 17 48),qm 3 18])) (.aS [qm 9 4,qa 10 9 1,qm 4 10]))
def Hw:aI:=⟨[.t 2],.g [qk 2 0] (.g [qk 3 0] (.q (.g [qk 4 0] (.q (.aQ 0 (.loop [0,3,4] K8)) (.kp [3]))) (.e [qm 19 3,qm 2 19])))⟩
def K9:VC:=.q (.g [qm 5 1,Rq 6 (.y .gtr 5 0)] (.cond (.t 6) .skip (.exit 0))) (.aQ 1 (.aS [qm 7 1,qm 8 0,qm 9 1,Rq 10 (.z .rem 8 9),qm 0 7,qm 1 10]))
def L6:aI:=⟨[.t 4],.g [qk 4 0] (.q (.q (.aQ 0 (.loop [0,1] K9)) (.kp [0])) (.e [qm 11 0,qm 4 11]))⟩
def om:VC:=.q (.g [qm 6 0,Rq 7 (.y .gtr 6 0),qm 8 7,Rf 9 8 (.m 5),Rf 10 8 (.len 0 (.t 9)),Rf 11 8 (.m 1),Rf 12 8 (.z .lss 10 11),qp 13 8 12] (.cond (.t 13) .skip (.exit 0))) (.aQ 1 (.g [qm 14 0,Rq 15 (.y .rem 14 10),qm 16 0,Rq 17 (.y .rem 16 10),qa 18 17 1,Rq 19 (.eF .str (.s [48,49,50,51,52,53,54,55,56,57]) (some (.t 15)) (some (.t 18))),qm 20 5,qA 21 19 20,qm 5 21] (.aS [qm 22 0,Rq 23 (.y .quo 22 10),qm 0 23])))
def Ax:aI:=⟨[.t 4],.g [Rq 4 (.ck (.s []))] (.g [Rq 5 (.ck (.s []))] (.q (.q (.aQ 0 (.loop [0,1,5] om)) (.kp [5])) (.e [qm 24 5,qm 4 24])))⟩
def La:VC:=.q (.g [qm 22 8,qm 23 1,qn 24 1 23,qT 25 22 24] (.cond (.t 25) .skip (.exit 2))) (.q (.aQ 3 (.g [qm 28 5,qm 29 6,qm 30 8,qA 31 29 30,qi 32 1 28 31,ql 33 1 32,qm 34 0,qm 35 6,qi 36 1 34 35,ql 37 1 36,qm 38 1,qm 39 8,qi 40 1 38 39,ql 41 1 40,Rq 42 (.z .mul 37 41),qA 43 33 42,qm 44 7,qA 45 43 44,qm 9 45] (.g [qm 46 5,qm 47 6,qm 48 8,qA 49 47 48,qm 50 9,Rq 51 (.y .rem 50 1000000000),qi 52 1 46 49,qs 1 52 51] (.aS [qm 53 9,Rq 54 (.y .quo 53 1000000000),qm 7 54])))) (.aS [qm 26 8,qa 27 26 1,qm 8 27]))
def Lb:VC:=.q (.g [qm 16 6,qm 17 0,qn 18 1 17,qT 19 16 18] (.cond (.t 19) .skip (.exit 0))) (.q (.aQ 1 (.g [qk 7 0] (.q (.g [qk 8 0] (.q (.aQ 2 (.loop [0,1,5,6,7,8] La)) (.kp [0,1,5,6,7]))) (.aS [qm 55 5,qm 56 6,qm 57 1,qn 58 1 57,qA 59 56 58,qm 60 5,qm 61 6,qm 62 1,qn 63 1 62,qA 64 61 63,qi 65 1 60 64,ql 66 1 65,qm 67 7,qA 68 66 67,qi 69 1 55 59,qs 1 69 68])))) (.aS [qm 20 6,qa 21 20 1,qm 6 21]))
def CE:aI:=⟨[.t 4],.g [qz 4] (.g [qm 10 0,qn 11 1 10,qm 12 1,qn 13 1 12,qA 14 11 13,Rq 15 (.iA 1 8 [.i 0] (.t 14) (.t 14)),qm 5 15] (.q (.g [qk 6 0] (.q (.aQ 0 (.loop [0,1,5,6] Lb)) (.kp [5]))) (.e [qm 70 5,aB 71 300 70,qm 4 71])))⟩
def CF:aI:=⟨[.cell 4 2 true],.g [Rq 4 (.box 2 (.c (.agg [.bool false,.aa])))] (.g [qm 5 1,aB 6 300 5,qm 1 6] (.e [qm 7 0,qm 8 7,Rt 9 8 (.m 1),Rt 10 8 (.len 1 (.t 9)),Rt 11 8 (.y .gtr 10 0),qq 12 8 11,qm 13 1,Rq 14 (.cK [.bool false,.aa] [(0,1,.t 12),(1,1,.t 13)]),qs 2 4 14]))⟩
def pJ:VC:=.q (.g [qm 9 7,qm 10 0,qn 11 1 10,qT 12 9 11,qm 13 12,Rf 14 13 (.m 7),Rf 15 13 (.m 1),Rf 16 13 (.len 1 (.t 15)),Rf 17 13 (.z .lss 14 16),qp 18 13 17,qm 19 18,Rf 20 19 (.m 6),Rf 21 19 (.y .gtr 20 0),qp 22 19 21] (.cond (.t 22) .skip (.exit 0))) (.q (.aQ 1 (.g [qm 25 0,qm 26 7,aC 27 302 25 26,qm 28 1,qm 29 7,aC 30 302 28 29,qA 31 27 30,qm 32 6,qA 33 31 32,qm 8 33] (.g [qm 34 5,qm 35 8,Rq 36 (.y .rem 35 1000000000),Rq 37 (.cQ 1 1 [.i 0] [(0,1,.t 36)]),Rq 38 (.a7 1 8 (.t 34) (.t 37)),qm 5 38] (.aS [qm 39 8,Rq 40 (.y .quo 39 1000000000),qm 6 40])))) (.aS [qm 23 7,qa 24 23 1,qm 7 24]))
def L7:aI:=⟨[.t 4],.g [qz 4] (.g [qz 5] (.g [qk 6 0] (.q (.g [qk 7 0] (.q (.aQ 0 (.loop [0,1,5,6,7] pJ)) (.kp [5]))) (.e [qm 41 5,qm 4 41]))))⟩
def Ea:VC:=.q (.g [qm 19 5,Rq 20 (.y .geq 19 0)] (.cond (.t 20) .skip (.exit 0))) (.q (.aQ 1 (.h [qm 23 0,qm 24 5,qi 25 1 23 24,ql 26 1 25,qm 27 1,qm 28 5,qi 29 1 27 28,ql 30 1 29,qT 31 26 30] 31 (.e [qk 4 (-1)]) (.g [qm 32 0,qm 33 5,qi 34 1 32 33,ql 35 1 34,qm 36 1,qm 37 5,qi 38 1 36 37,ql 39 1 38,Rq 40 (.z .gtr 35 39)] (.i 40 (.e [qk 4 1]))))) (.aS [qm 21 5,Rq 22 (.y .sub 21 1),qm 5 22]))
def sI:aI:=⟨[.t 4],.g [qk 4 0] (.h [qm 6 0,qn 7 1 6,qm 8 1,qn 9 1 8,Rq 10 (.z .neq 7 9)] 10 (.h [qm 11 0,qn 12 1 11,qm 13 1,qn 14 1 13,qT 15 12 14] 15 (.e [qk 4 (-1)]) (.e [qk 4 1])) (.q (.g [qm 16 0,qn 17 1 16,Rq 18 (.y .sub 17 1),qm 5 18] (.q (.aQ 0 (.loop [0,1,5] Ea)) (.kp []))) (.e [qk 4 0])))⟩
def ss:VC:=.q (.g [qm 9 7,qm 10 0,qn 11 1 10,qT 12 9 11] (.cond (.t 12) .skip (.exit 0))) (.q (.aQ 1 (.g [qm 15 0,qm 16 7,qi 17 1 15 16,ql 18 1 17,qm 19 1,qm 20 7,aC 21 302 19 20,Rq 22 (.z .sub 18 21),qm 23 6,Rq 24 (.z .sub 22 23),qm 8 24] (.g [qk 6 0] (.h [qm 25 8,Rq 26 (.y .lss 25 0)] 26 (.g [qm 27 8,qa 28 27 1000000000,qm 8 28] (.aS [qk 6 1])) (.aS [qm 29 5,qm 30 8,Rq 31 (.cQ 1 1 [.i 0] [(0,1,.t 30)]),Rq 32 (.a7 1 8 (.t 29) (.t 31)),qm 5 32]))))) (.aS [qm 13 7,qa 14 13 1,qm 7 14]))
def L8:aI:=⟨[.t 4],.g [qz 4] (.g [qz 5] (.g [qk 6 0] (.q (.g [qk 7 0] (.q (.aQ 0 (.loop [0,1,5,6,7] ss)) (.kp [5]))) (.e [qm 33 5,aB 34 300 33,qm 4 34]))))⟩
def QD:aI:=⟨[.cell 2 2 true],.g [qb 1 2 0,Rq 2 (.box 2 (.c (.agg [.bool false,.aa])))] (.e [qo 3 0 1,ql 4 1 3,Rq 5 (.un .not (.t 4)),qo 6 1 1,ql 7 1 6,aC 8 294 5 7,qs 2 2 8])⟩
def Lc:VC:=.q (.g [qm 16 8,Rq 17 (.y .geq 16 0)] (.cond (.t 17) .skip (.exit 0))) (.q (.aQ 1 (.g [qm 20 7,Rq 21 (.y .mul 20 1000000000),qm 22 0,qm 23 8,qi 24 1 22 23,ql 25 1 24,qA 26 21 25,qm 9 26] (.g [qm 27 6,qm 28 8,qm 29 9,qm 30 1,Rq 31 (.z .quo 29 30),qi 32 1 27 28,qs 1 32 31] (.aS [qm 33 9,qm 34 1,Rq 35 (.z .rem 33 34),qm 7 35])))) (.aS [qm 18 8,Rq 19 (.y .sub 18 1),qm 8 19]))
def CG:aI:=⟨[.t 4,.t 5],.g [qz 4,qk 5 0] (.g [qm 10 0,qn 11 1 10,Rq 12 (.iA 1 8 [.i 0] (.t 11) (.t 11)),qm 6 12] (.g [qk 7 0] (.q (.g [qm 13 0,qn 14 1 13,Rq 15 (.y .sub 14 1),qm 8 15] (.q (.aQ 0 (.loop [0,1,6,7,8] Lc)) (.kp [6,7]))) (.e [qm 36 6,aB 37 300 36,qm 38 7,qm 4 37,qm 5 38]))))⟩
def Eb:VC:=.q (.g [qm 3 0,qn 4 1 3,Rq 5 (.y .gtr 4 0),qm 6 5,Rt 7 6 (.m 0),Rt 8 6 (.m 0),Rt 9 6 (.len 1 (.t 8)),Rt 10 6 (.y .sub 9 1),Rt 11 6 (.bz 1 (.t 7) (.t 10)),Rt 12 6 (.ld 1 false (.t 11)),Rt 13 6 (.y .eql 12 0),qq 14 6 13] (.cond (.t 14) .skip (.exit 0))) (.aQ 1 (.aS [qm 15 0,qm 16 0,qn 17 1 16,Rq 18 (.y .sub 17 1),Rq 19 (.eF (.sl 1) (.t 15) none (some (.t 18))),qm 0 19]))
def ma:aI:=⟨[.t 2],.g [qz 2] (.q (.q (.aQ 0 (.loop [0] Eb)) (.kp [0])) (.e [qm 20 0,qm 2 20]))⟩
def Cd:VC:=.q (.g [qm 42 9,Rq 43 (.y .geq 42 1000000000),qm 44 43,Rf 45 44 (.m 9),Rf 46 44 (.m 1),Rf 47 44 (.m 7),Rf 48 44 (.y .sub 47 2),Rf 49 44 (.bz 1 (.t 46) (.t 48)),Rf 50 44 (.ld 1 false (.t 49)),Rf 51 44 (.z .mul 45 50),Rf 52 44 (.m 10),Rf 53 44 (.y .mul 52 1000000000),Rf 54 44 (.m 0),Rf 55 44 (.m 2),Rf 56 44 (.m 7),Rf 57 44 (.z .add 55 56),Rf 58 44 (.y .sub 57 2),Rf 59 44 (.bz 1 (.t 54) (.t 58)),Rf 60 44 (.ld 1 false (.t 59)),Rf 61 44 (.z .add 53 60),Rf 62 44 (.z .gtr 51 61),qp 63 44 62] (.cond (.t 63) .skip (.exit 0))) (.aQ 1 (.g [qm 64 9,Rq 65 (.y .sub 64 1),qm 9 65] (.g [qm 66 10,qm 67 1,qm 68 7,Rq 69 (.y .sub 68 1),qi 70 1 67 69,ql 71 1 70,qA 72 66 71,qm 10 72] (.g [qm 73 10,Rq 74 (.y .geq 73 1000000000)] (.i 74 (.e [qm 75 9,qm 6 75]))))))
def Ay:aI:=⟨[.t 6],.g [qk 6 0] (.g [qm 11 1,qn 12 1 11,qm 7 12] (.g [qm 13 0,qm 14 2,qm 15 7,qA 16 14 15,qi 17 1 13 16,ql 18 1 17,Rq 19 (.y .mul 18 1000000000),qm 20 0,qm 21 2,qm 22 7,qA 23 21 22,Rq 24 (.y .sub 23 1),qi 25 1 20 24,ql 26 1 25,qA 27 19 26,qm 8 27] (.g [qm 28 8,qm 29 1,qm 30 7,Rq 31 (.y .sub 30 1),qi 32 1 29 31,ql 33 1 32,Rq 34 (.z .quo 28 33),qm 35 8,qm 36 1,qm 37 7,Rq 38 (.y .sub 37 1),qi 39 1 36 38,ql 40 1 39,Rq 41 (.z .rem 35 40),qm 9 34,qm 10 41] (.q (.q (.aQ 0 (.loop [0,1,2,7,9,10] Cd)) (.kp [9])) (.e [qm 76 9,qm 6 76])))))⟩
def sJ:aI:=⟨[.t 4],.g [qk 4 0] (.h [qm 5 1,qm 6 0,qn 7 1 6,qT 8 5 7] 8 (.e [qm 9 0,qm 10 1,qi 11 1 9 10,ql 12 1 11,qm 4 12]) (.e [qk 4 0]))⟩
end
section
def fU:aI:=⟨[.t 4],.g [qk 4 0] (.e [qm 5 0,qm 6 1,aC 7 271 5 6,aB 8 262 7,qm 4 8])⟩
def GG:VC:=.q (.g [qm 4 3,qm 5 0,qn 6 1 5,qT 7 4 6] (.cond (.t 7) .skip (.exit 0))) (.q (.aQ 1 (.g [qm 10 0,qm 11 3,qi 12 1 10 11,ql 13 1 12,aB 14 269 13,qN 15 14 0] (.i 15 (.e [qk 2 4])))) (.aS [qm 8 3,qa 9 8 1,qm 3 9]))
def Az:aI:=⟨[.t 2],.g [qk 2 0] (.q (.g [qk 3 0] (.q (.aQ 0 (.loop [0,3] GG)) (.kp []))) (.e [qk 2 0]))⟩
def Hx:aI:=⟨[.t 2],.g [Rq 2 (.ck (.s []))] (.e [qm 3 0,Rq 4 (.q 267 [.t 3,.s [49,47,50]]),qm 2 4])⟩
def EL:aI:=⟨[.t 2],.g [Rq 2 (.ck (.s []))] (.h [qm 5 0,aB 6 338 5] 6 (.e [qm 7 0,qm 2 7]) (.g [qm 9 0,aB 10 274 9,qm 8 10,qe 11 0 8,qe 12 1 8,Rq 3 (.box 2 (.c (.agg [.bool false,.aa]))),Rq 4 (.box 2 (.c (.agg [.bool false,.aa]))),qs 2 3 11,qs 2 4 12] (.e [qL 13 2 3,qL 14 2 4,aC 15 339 13 14,aB 16 282 15,qm 2 16])))⟩
def CH:aI:=⟨[.t 2],.g [qf 2] (.e [qm 3 0,aB 4 272 3,qm 5 0,qn 6 0 5,Rq 7 (.z .eql 4 6),qm 2 7])⟩
def AA:aI:=⟨[.cell 4 2 true],.g [qb 2 2 0,qb 3 2 1,Rq 4 (.box 2 (.c (.agg [.bool false,.aa])))] (.g [qo 8 1 2,ql 9 1 8,qo 10 1 3,ql 11 1 10,aC 12 289 9 11,qm 7 12,qe 13 0 7,qe 14 1 7,qm 5 13,qm 6 14] (.h [qo 15 0 2,ql 16 1 15,qm 17 16,Rt 18 17 (.m 6),Rt 19 17 (.len 1 (.t 18)),Rt 20 17 (.y .gtr 19 0),qq 21 17 20] 21 (.aS [qm 22 5,Rq 23 (.cQ 1 1 [.i 0] [(0,1,.k 1)]),aC 24 295 22 23,qm 5 24]) (.e [qo 25 0 2,ql 26 1 25,qm 27 5,aC 28 294 26 27,qs 2 4 28])))⟩
def pW:aI:=⟨[.t 4],.g [qf 4] (.e [qm 5 0,qn 6 0 5,qm 7 1,Rq 8 (.bin .mul (.k 2) (.t 7)),qa 9 8 2,Rq 10 (.z .leq 6 9),qm 11 10,Rt 12 11 (.m 0),Rt 13 11 (.q 263 [.t 12]),Rt 14 11 (.y .eql 13 0),qq 15 11 14,qm 16 15,Rt 17 16 (.m 0),Rt 18 16 (.q 284 [.t 17]),Rt 19 16 (.q 285 [.t 18]),Rt 20 16 (.len 0 (.t 19)),Rt 21 16 (.m 1),Rt 22 16 (.z .leq 20 21),qq 23 16 22,qm 24 23,Rt 25 24 (.m 0),Rt 26 24 (.q 286 [.t 25]),Rt 27 24 (.len 0 (.t 26)),Rt 28 24 (.m 1),Rt 29 24 (.z .leq 27 28),qq 30 24 29,qm 4 30])⟩
def GH:VC:=.q (.g [qm 13 1,Rq 14 (.y .gtr 13 0)] (.cond (.t 14) .skip (.exit 0))) (.aQ 1 (.h [qm 15 1,Rq 16 (.y .rem 15 2),qE 17 16 1] 17 (.aS [qm 18 5,qm 19 0,aC 20 267 18 19,qm 5 20]) (.g [qm 21 0,qm 22 0,aC 23 267 21 22,qm 0 23] (.aS [qm 24 1,Rq 25 (.y .quo 24 2),qm 1 25]))))
def EM:aI:=⟨[.t 4],.g [Rq 4 (.ck (.s []))] (.h [qm 6 1,Rq 7 (.y .lss 6 0)] 7 (.e [qm 8 0,aB 9 283 8,qm 10 1,Rq 11 (.bin .sub (.k 0) (.t 10)),aC 12 389 9 11,qm 4 12]) (.g [Rq 5 (.ck (.s [49]))] (.q (.q (.aQ 0 (.loop [0,1,5] GH)) (.kp [5])) (.e [qm 26 5,qm 4 26]))))⟩
end
section
def GI:VC:=.q (.g [qm 4 3,qm 5 0,qn 6 1 5,qT 7 4 6] (.cond (.t 7) .skip (.exit 0))) (.q (.aQ 1 (.g [qm 10 0,qm 11 3,qi 12 1 10 11,ql 13 1 12,qn 14 0 13,Rq 15 (.y .gtr 14 60)] (.i 15 (.e [Rq 2 (.ck (.c (.bool true)))])))) (.aS [qm 8 3,qa 9 8 1,qm 3 9]))
def L9:aI:=⟨[.t 2],.g [qf 2] (.q (.g [qk 3 0] (.q (.aQ 0 (.loop [0,3] GI)) (.kp []))) (.e [qf 2]))⟩
def CI:aI:=⟨[.t 8],.g [qb 4 2 0,qb 7 2 3,qf 8] (.h [qm 9 2,qE 10 9 0] 10 (.aS [qL 11 2 7,aB 12 401 11,qm 2 12]) (.h [qm 13 2,qN 14 13 0] 14 (.e [qL 15 2 4,Rq 16 (.cK [.str [],.str []] []),Rq 17 (.eq false (.ag [2,2]) (.t 15) (.t 16)),qm 18 17,Rt 19 18 (.m 1),Rt 20 18 (.m 2),Rt 21 18 (.z .eql 19 20),qq 22 18 21,qm 8 22]) (.e [qm 23 1,qE 24 23 0,qm 25 24,Rt 26 25 (.ld 2 true (.t 4)),Rt 27 25 (.ld 2 true (.t 7)),Rt 28 25 (.eq false (.ag [2,2]) (.t 26) (.t 27)),qq 29 25 28,qm 8 29])))⟩
def EN:aI:=⟨[.t 8],.g [qb 4 4 0,qb 7 4 3,qf 8] (.h [qm 9 2,qE 10 9 0] 10 (.aS [qL 11 4 7,aB 12 402 11,qm 2 12]) (.h [qm 13 2,qN 14 13 0] 14 (.e [qL 15 4 4,Rq 16 (.cK [.str [],.str [],.str [],.str []] []),Rq 17 (.eq false (.ag [2,2,2,2]) (.t 15) (.t 16)),qm 18 17,Rt 19 18 (.m 1),Rt 20 18 (.m 2),Rt 21 18 (.z .eql 19 20),qq 22 18 21,qm 8 22]) (.e [qm 23 1,qE 24 23 0,qm 25 24,Rt 26 25 (.ld 4 true (.t 4)),Rt 27 25 (.ld 4 true (.t 7)),Rt 28 25 (.eq false (.ag [2,2,2,2]) (.t 26) (.t 27)),qq 29 25 28,qm 8 29])))⟩
def Hy:aI:=⟨[.t 2],.g [qk 2 0] (.h [qm 3 0,Rq 4 (.y .lss 3 1),qm 5 4,Rf 6 5 (.m 0),Rf 7 5 (.y .gtr 6 12),qp 8 5 7] 8 (.e [qk 2 3]) (.e [qk 2 0]))⟩
def Hz:aI:=⟨[.t 2],.g [qb 1 2 0,qk 2 0] (.e [qo 3 0 1,ql 4 1 3,qo 5 1 1,ql 6 1 5,Rq 7 (.cQ 2 1 [.str [],.str []] [(0,1,.t 4),(1,1,.t 6)]),aB 8 316 7,qm 2 8])⟩
def Ma:aI:=⟨[.t 2],.g [qb 1 4 0,qk 2 0] (.e [qo 3 0 1,qo 4 0 3,ql 5 1 4,qo 6 0 1,qo 7 1 6,ql 8 1 7,qo 9 2 1,qo 10 0 9,ql 11 1 10,qo 12 2 1,qo 13 1 12,ql 14 1 13,Rq 15 (.cQ 4 1 [.str [],.str [],.str [],.str []] [(0,1,.t 5),(1,1,.t 8),(2,1,.t 11),(3,1,.t 14)]),aB 16 316 15,qm 2 16])⟩
def ayh:VC:=.q (.g [qm 4 3,qm 5 0,qn 6 1 5,qT 7 4 6] (.cond (.t 7) .skip (.exit 0))) (.q (.aQ 1 (.g [qm 10 0,qm 11 3,qi 12 1 10 11,ql 13 1 12,qN 14 13 0] (.i 14 (.e [qm 15 0,qm 16 3,qi 17 1 15 16,ql 18 1 17,qm 2 18])))) (.aS [qm 8 3,qa 9 8 1,qm 3 9]))
def Xa:aI:=⟨[.t 2],.g [qk 2 0] (.q (.g [qk 3 0] (.q (.aQ 0 (.loop [0,3] ayh)) (.kp []))) (.e [qk 2 0]))⟩
def CJ:aI:=⟨[.t 6],.g [qf 6] (.h [zn 13 179,Rq 14 (.un .not (.t 13)),qm 15 14,Rf 16 15 (.m 0),Rf 17 15 (.q 359 [.t 16,.k 30]),Rf 18 15 (.un .not (.t 17)),qp 19 15 18,qm 20 19,Rf 21 20 (.m 1),Rf 22 20 (.q 359 [.t 21,.k 30]),Rf 23 20 (.un .not (.t 22)),qp 24 20 23,qm 25 24,Rf 26 25 (.m 2),Rf 27 25 (.y .lss 26 1),qp 28 25 27,qm 29 28,Rf 30 29 (.m 2),Rf 31 29 (.y .gtr 30 10),qp 32 29 31] 32 (.e [zn 33 179,qm 6 33]) (.g [qm 35 0,qm 36 2,aC 37 192 35 36,qm 34 37,qe 38 0 34,qe 39 1 34,Rq 7 (.box 2 (.c (.agg [.str [],.str []]))),qs 2 7 38,qm 8 39] (.g [qm 41 0,qm 42 2,qa 43 42 2,aC 44 192 41 43,qm 40 44,qe 45 0 40,qe 46 1 40,Rq 9 (.box 2 (.c (.agg [.str [],.str []]))),qs 2 9 45,qm 10 46] (.g [qm 48 1,qm 49 1,aC 50 267 48 49,qm 51 2,aC 52 192 50 51,qm 47 52,qe 53 0 47,qe 54 1 47,Rq 11 (.box 2 (.c (.agg [.str [],.str []]))),qs 2 11 53,qm 12 54] (.h [qm 55 12,qN 56 55 0,qm 57 56,Rf 58 57 (.ld 2 true (.t 11)),Rf
 59 57 (.m 1),Rf 60 57 (.q 285 [.t 59]),Rf 61 57 (.m 1),Rf 62 57 (.q 285 [.t 61]),Rf 63 57 (.q 187 [.t 60,.t 62]),Rf 64 57 (.eq true (.ag [2,2]) (.t 58) (.t 63)),qp 65 57 64] 65 (.e [qf 6]) (.h [qm 66 0,aB 67 262 66,Rq 68 (.y .lss 67 0)] 68 (.e [qm 69 8,qE 70 69 3,qm 71 70,Rt 72 71 (.m 10),Rt 73 71 (.y .eql 72 3),qq 74 71 73,qm 6 74]) (.h [qm 75 8,qm 76 10,qA 77 75 76,qN 78 77 0,qm 79 78,Rf 80 79 (.ld 2 true (.t 7)),Rf 81 79 (.q 419 [.t 80]),Rf 82 79 (.ld 2 true (.t 9)),Rf 83 79 (.q 419 [.t 82]),Rf 84 79 (.z .add 81 83),Rf 85 79 (.y .neq 84 0),qp 86 79 85,qm 87 86,Rf 88 87 (.ld 2 true (.t 9)),Rf 89 87 (.ld 2 true (.t 7)),Rf 90 87 (.q 420 [.t 88,.t 89]),Rf 91 87 (.un .not (.t 90)),qp 92 87 91,qm 93 92,Rf 94 93 (.off 0 (.t 7)),Rf 95 93 (.ld 1 false (.t 94)),Rf 96 93 (.q 262 [.t 95]),Rf 97 93 (.y .lss 96 0),qp 98 93 97] 98 (.e [qf 6]) (.e [qo 99 0 7,ql 100 1 99,qo 101 0 7,ql 102 1 101,aC 103
 267 100 102,qm 104 0,aC 105 315 103 104,Rq 106 (.y .leq 105 0),qm 107 106,Rt 108 107 (.off 1 (.t 7)),Rt 109 107 (.ld 1 false (.t 108)),Rt 110 107 (.off 1 (.t 7)),Rt 111 107 (.ld 1 false (.t 110)),Rt 112 107 (.q 267 [.t 109,.t 111]),Rt 113 107 (.m 0),Rt 114 107 (.q 315 [.t 112,.t 113]),Rt 115 107 (.y .geq 114 0),qq 116 107 115,qm 117 116,Rt 118 117 (.off 1 (.t 7)),Rt 119 117 (.ld 1 false (.t 118)),Rt 120 117 (.off 0 (.t 7)),Rt 121 117 (.ld 1 false (.t 120)),Rt 122 117 (.q 271 [.t 119,.t 121]),Rt 123 117 (.m 2),Rt 124 117 (.bin .sub (.k 0) (.t 123)),Rt 125 117 (.q 389 [.s [49,48],.t 124]),Rt 126 117 (.q 315 [.t 122,.t 125]),Rt 127 117 (.y .leq 126 0),qq 128 117 127,qm 6 128]))))))))⟩
def mL:aI:=⟨[.t 2],.g [qb 1 2 0,qk 2 0] (.g [qo 4 0 1,ql 5 1 4,qo 6 1 1,ql 7 1 6,Rq 8 (.cQ 2 1 [.str [],.str []] [(0,1,.t 5),(1,1,.t 7)]),aB 9 261 8,qm 3 9] (.h [qm 10 3,qE 11 10 0,qm 12 11,Rt 13 12 (.off 0 (.t 1)),Rt 14 12 (.ld 1 false (.t 13)),Rt 15 12 (.off 1 (.t 1)),Rt 16 12 (.ld 1 false (.t 15)),Rt 17 12 (.q 315 [.t 14,.t 16]),Rt 18 12 (.y .gtr 17 0),qq 19 12 18] 19 (.aS [qk 3 11]) (.e [qm 20 3,qm 2 20])))⟩
def QE:aI:=⟨[.t 4],.g [qb 2 2 0,qb 3 2 1,qf 4] (.e [qo 5 0 3,ql 6 1 5,qo 7 0 2,ql 8 1 7,aC 9 315 6 8,Rq 10 (.y .leq 9 0),qm 11 10,Rt 12 11 (.off 1 (.t 2)),Rt 13 11 (.ld 1 false (.t 12)),Rt 14 11 (.off 1 (.t 3)),Rt 15 11 (.ld 1 false (.t 14)),Rt 16 11 (.q 315 [.t 13,.t 15]),Rt 17 11 (.y .leq 16 0),qq 18 11 17,qm 4 18])⟩
def EO:aI:=⟨[.t 2],.g [qb 1 4 0,qk 2 0] (.g [qo 4 0 1,qL 5 2 4,aB 6 419 5,qm 3 6] (.h [qm 7 3,qE 8 7 0] 8 (.aS [qo 9 2 1,qL 10 2 9,aB 11 419 10,qm 3 11]) (.e [qm 12 3,qm 2 12])))⟩
def sK:aI:=⟨[.t 4],.g [qb 2 2 0,qf 4] (.e [qo 5 0 2,ql 6 1 5,qm 7 1,aC 8 315 6 7,Rq 9 (.y .leq 8 0),qm 10 9,Rt 11 10 (.m 1),Rt 12 10 (.off 1 (.t 2)),Rt 13 10 (.ld 1 false (.t 12)),Rt 14 10 (.q 315 [.t 11,.t 13]),Rt 15 10 (.y .leq 14 0),qq 16 10 15,qm 4 16])⟩
def nK:aI:=⟨[.t 6],.g [qb 3 2 0,qb 4 2 1,qf 6] (.h [zn 25 179,Rq 26 (.un .not (.t 25)),qm 27 26,Rf 28 27 (.off 0 (.t 3)),Rf 29 27 (.ld 1 false (.t 28)),Rf 30 27 (.off 1 (.t 3)),Rf 31 27 (.ld 1 false (.t 30)),Rf 32 27 (.off 0 (.t 4)),Rf 33 27 (.ld 1 false (.t 32)),Rf 34 27 (.off 1 (.t 4)),Rf 35 27 (.ld 1 false (.t 34)),Rf 36 27 (.cQ 4 1 [.str [],.str [],.str [],.str []] [(0,1,.t 29),(1,1,.t 31),(2,1,.t 33),(3,1,.t 35)]),Rf 37 27 (.q 393 [.t 36]),qp 38 27 37] 38 (.e [zn 39 179,qm 6 39]) (.g [qo 41 0 3,ql 42 1 41,qm 43 2,aC 44 192 42 43,qm 40 44,qe 45 0 40,qe 46 1 40,Rq 7 (.box 2 (.c (.agg [.str [],.str []]))),qs 2 7 45,qm 8 46] (.g [qo 47 0 3,ql 48 1 47,aB 49 263 48,qm 9 49] (.h [qm 50 9,qE 51 50 0] 51 (.aS [qo 52 0 3,ql 53 1 52,aB 54 262 53,Rq 55 (.y .lss 54 0),Rq 56 (.q 435 [.t 55,.k 3]),qm 57 2,aB 58 400 57,Rq 59 (.cQ 2 1 [.i 0,.i 0] [(0,1,.t 56),(1,1,.t 58)]),aB 60 415 59,qm 9 60]) (.h
 [qm 61 9,qN 62 61 0,qm 63 62,Rt 64 63 (.ld 2 true (.t 7)),Rt 65 63 (.m 8),Rt 66 63 (.m 9),Rt 67 63 (.ld 2 true (.t 3)),Rt 68 63 (.q 395 [.t 64,.t 65,.t 66,.t 67]),Rt 69 63 (.un .not (.t 68)),qq 70 63 69,qm 71 70,Rf 72 71 (.m 9),Rf 73 71 (.y .eql 72 0),Rf 74 71 (.m 73),Rt 75 74 (.ld 2 true (.t 7)),Rt 76 74 (.m 8),Rt 77 74 (.off 0 (.t 3)),Rt 78 74 (.ld 1 false (.t 77)),Rt 79 74 (.m 2),Rt 80 74 (.q 436 [.t 78,.t 79]),Rt 81 74 (.q 395 [.t 75,.t 76,.k 0,.t 80]),Rt 82 74 (.un .not (.t 81)),Rf 83 71 (.pick (.t 74) (.t 82) (.c (.bool false))),qp 84 71 83] 84 (.e [qf 6]) (.g [qL 86 2 3,aB 87 190 86,qm 85 87,qe 88 0 85,qe 89 1 85,Rq 10 (.box 2 (.c (.agg [.str [],.str []]))),qs 2 10 88,qm 11 89] (.g [qL 90 2 3,aB 91 419 90,qm 9 91] (.h [qL 92 2 3,aB 93 210 92,qm 94 9,Rq 95 (.z .neq 93 94),qm 96 95,Rf 97 96 (.m 9),Rf 98 96 (.y .neq 97 0),Rf 99 96 (.m 98),Rt 100 99 (.ld 2 true (.t 10)),Rt 101 99 (.m
 11),Rt 102 99 (.m 9),Rt 103 99 (.ld 2 true (.t 3)),Rt 104 99 (.q 395 [.t 100,.t 101,.t 102,.t 103]),Rt 105 99 (.un .not (.t 104)),Rf 106 96 (.pick (.t 99) (.t 105) (.c (.bool false))),qp 107 96 106,qm 108 107,Rf 109 108 (.m 9),Rf 110 108 (.y .eql 109 0),Rf 111 108 (.m 110),Rt 112 111 (.ld 2 true (.t 10)),Rt 113 111 (.m 11),Rt 114 111 (.ld 2 true (.t 3)),Rt 115 111 (.q 437 [.t 114]),Rt 116 111 (.q 395 [.t 112,.t 113,.k 0,.t 115]),Rt 117 111 (.un .not (.t 116)),Rf 118 108 (.pick (.t 111) (.t 117) (.c (.bool false))),qp 119 108 118] 119 (.e [qf 6]) (.g [qL 121 2 3,qL 122 2 4,aC 123 438 121 122,qm 120 123,qe 124 0 120,qe 125 1 120,Rq 12 (.box 2 (.c (.agg [.str [],.str []]))),qs 2 12 124,qm 13 125] (.g [qL 127 2 3,qL 128 2 4,aC 129 439 127 128,qm 126 129,qe 130 0 126,qe 131 1 126,Rq 14 (.box 2 (.c (.agg [.str [],.str []]))),qs 2 14 130,qm 15 131] (.g [qL 133 2 3,qL 134 2 4,aC 135 188 133 134,qm
 132 135,qe 136 0 132,qe 137 1 132,Rq 16 (.box 2 (.c (.agg [.str [],.str []]))),qs 2 16 136,qm 17 137] (.g [qL 139 2 3,qL 140 2 4,aC 141 189 139 140,qm 138 141,qe 142 0 138,qe 143 1 138,Rq 18 (.box 2 (.c (.agg [.str [],.str []]))),qs 2 18 142,qm 19 143] (.g [qL 145 2 3,qL 146 2 4,aC 147 191 145 146,qm 144 147,qe 148 0 144,qe 149 1 144,qm 20 148,qm 21 149] (.g [qm 150 9,qL 151 2 4,aB 152 419 151,Rq 153 (.cQ 2 1 [.i 0,.i 0] [(0,1,.t 150),(1,1,.t 152)]),aB 154 415 153,qm 22 154] (.h [qm 155 22,qN 156 155 0] 156 (.e [qL 157 2 12,qm 158 13,qm 159 22,qL 160 2 3,qc4 161 395 157 158 159 160,qm 162 161,Rt 163 162 (.ld 2 true (.t 14)),Rt 164 162 (.m 15),Rt 165 162 (.m 22),Rt 166 162 (.ld 2 true (.t 3)),Rt 167 162 (.q 395 [.t 163,.t 164,.t 165,.t 166]),qq 168 162 167,qm 169 168,Rt 170 169 (.ld 2 true (.t 16)),Rt 171 169 (.m 17),Rt 172 169 (.m 22),Rt 173 169 (.ld 2 true (.t 3)),Rt 174 169 (.q 395
 [.t 170,.t 171,.t 172,.t 173]),qq 175 169 174,qm 176 175,Rt 177 176 (.ld 2 true (.t 18)),Rt 178 176 (.m 19),Rt 179 176 (.m 22),Rt 180 176 (.ld 2 true (.t 3)),Rt 181 176 (.q 395 [.t 177,.t 178,.t 179,.t 180]),qq 182 176 181,qm 183 182,Rt 184 183 (.m 20),Rt 185 183 (.m 21),Rt 186 183 (.m 22),Rt 187 183 (.q 440 [.t 184,.t 185,.t 186,.k 0]),qq 188 183 187,qm 6 188]) (.g [qL 190 2 3,qL 191 2 4,aC 192 441 190 191,qm 189 192,qe 193 0 189,qe 194 1 189,qm 23 193,qm 24 194] (.h [qL 195 2 12,qm 196 13,qL 197 2 3,qL 198 2 4,aC 199 442 197 198,Rq 200 (.q 395 [.t 195,.t 196,.k 0,.t 199]),Rq 201 (.un .not (.t 200)),qm 202 201,Rf 203 202 (.ld 2 true (.t 14)),Rf 204 202 (.m 15),Rf 205 202 (.ld 2 true (.t 3)),Rf 206 202 (.ld 2 true (.t 4)),Rf 207 202 (.q 443 [.t 205,.t 206]),Rf 208 202 (.q 395 [.t 203,.t 204,.k 0,.t 207]),Rf 209 202 (.un .not (.t 208)),qp 210 202 209,qm 211 210,Rf 212 211 (.ld 2 true (.t
 16)),Rf 213 211 (.m 17),Rf 214 211 (.ld 2 true (.t 3)),Rf 215 211 (.ld 2 true (.t 4)),Rf 216 211 (.q 444 [.t 214,.t 215]),Rf 217 211 (.q 395 [.t 212,.t 213,.k 0,.t 216]),Rf 218 211 (.un .not (.t 217)),qp 219 211 218,qm 220 219,Rf 221 220 (.m 20),Rf 222 220 (.m 21),Rf 223 220 (.m 24),Rf 224 220 (.m 23),Rf 225 220 (.q 440 [.t 221,.t 222,.t 223,.t 224]),Rf 226 220 (.un .not (.t 225)),qp 227 220 226] 227 (.e [qf 6]) (.h [qL 228 2 4,Rq 229 (.q 424 [.t 228,.s [48]])] 229 (.e [qL 230 2 18,qm 231 19,qL 232 2 3,Rq 233 (.q 395 [.t 230,.t 231,.k 6,.t 232]),qm 6 233]) (.e [qL 234 2 18,qm 235 19,qL 236 2 3,qL 237 2 4,aC 238 445 236 237,Rq 239 (.q 395 [.t 234,.t 235,.k 0,.t 238]),qm 6 239])))))))))))))))))))⟩
def Mb:aI:=⟨[.t 4],.g [qk 4 0] (.h [qm 5 0] 5 (.e [qm 6 1,qm 4 6]) (.e [qk 4 0]))⟩
def QF:aI:=⟨[.cell 4 2 true],.g [Rq 4 (.box 2 (.c (.agg [.str [],.str []])))] (.g [qm 8 0,aB 9 284 8,aB 10 446 9,qm 11 0,aB 12 286 11,aB 13 446 12,aC 14 266 10 13,qm 5 14] (.h [qm 15 5,qm 16 5,aC 17 267 15 16,qm 18 0,Rq 19 (.z .eql 17 18)] 19 (.e [qm 20 5,aB 21 219 20,qs 2 4 21]) (.g [qm 22 1,Rq 23 (.q 389 [.s [49,48],.t 22]),qm 6 23] (.g [qm 24 0,qm 25 6,qm 26 6,aC 27 267 25 26,aC 28 267 24 27,aB 29 336 28,aB 30 446 29,qm 7 30] (.e [qm 31 7,qm 32 6,aC 33 266 31 32,qm 34 7,Rq 35 (.q 264 [.t 34,.s [49]]),qm 36 6,aC 37 266 35 36,Rq 38 (.cK [.str [],.str []] [(0,1,.t 33),(1,1,.t 37)]),qs 2 4 38])))))⟩
def QG:aI:=⟨[.cell 2 2 true],.g [qb 1 2 0,Rq 2 (.box 2 (.c (.agg [.str [],.str []])))] (.g [qL 4 2 1,qL 5 2 1,aC 6 444 4 5,Rq 3 (.box 2 (.c (.agg [.str [],.str []]))),qs 2 3 6] (.h [qL 7 2 1,Rq 8 (.q 424 [.t 7,.s [48]])] 8 (.aS [qo 9 0 3,⟨none,none,.st 1 (.t 9) (.s [48])⟩]) (.e [qL 10 2 3,qs 2 2 10])))⟩
def Mc:aI:=⟨[.cell 4 2 true,.t 5],.g [qb 2 2 0,qb 3 2 1,Rq 4 (.box 2 (.c (.agg [.str [],.str []]))),qk 5 0] (.e [qL 6 2 2,qL 7 2 3,Rq 8 (.q 209 [.t 6,.t 7,.F 74]),qe 9 0 8,qe 10 1 8,qs 2 4 9,qm 5 10])⟩
def Me:aI:=⟨[.cell 4 2 true,.t 5],.g [qb 2 2 0,qb 3 2 1,Rq 4 (.box 2 (.c (.agg [.str [],.str []]))),qk 5 0] (.e [qL 6 2 2,qL 7 2 3,Rq 8 (.q 209 [.t 6,.t 7,.F 50]),qe 9 0 8,qe 10 1 8,qs 2 4 9,qm 5 10])⟩
def HA:aI:=⟨[.t 8],.g [qf 8] (.h [qm 9 2,qN 10 9 0] 10 (.e [qm 11 0,qE 12 11 0,qm 13 12,Rt 14 13 (.m 1),Rt 15 13 (.m 2),Rt 16 13 (.z .eql 14 15),qq 17 13 16,qm 8 17]) (.e [qm 18 1,qE 19 18 0,qm 20 19,Rt 21 20 (.m 0),Rt 22 20 (.m 3),Rt 23 20 (.z .eql 21 22),qq 24 20 23,qm 8 24]))⟩
def EP:aI:=⟨[.t 4,.t 5],.g [qb 2 2 0,qb 3 2 1,qk 4 0,qk 5 0] (.h [qo 6 1 2,ql 7 1 6,qo 8 0 3,ql 9 1 8,aC 10 315 7 9,Rq 11 (.y .lss 10 0)] 11 (.e [qk 4 (-1),qk 5 0]) (.h [qo 12 1 3,ql 13 1 12,qo 14 0 2,ql 15 1 14,aC 16 315 13 15,Rq 17 (.y .lss 16 0)] 17 (.e [qk 4 1,qk 5 0]) (.h [qo 18 0 2,ql 19 1 18,qo 20 1 2,ql 21 1 20,Rq 22 (.z .eql 19 21),qm 23 22,Rt 24 23 (.ld 2 true (.t 2)),Rt 25 23 (.ld 2 true (.t 3)),Rt 26 23 (.eq false (.ag [2,2]) (.t 24) (.t 25)),qq 27 23 26] 27 (.e [qk 4 0,qk 5 0]) (.e [qk 4 0,qk 5 24]))))⟩
def QH:aI:=⟨[.cell 4 2 true],.g [qb 2 2 0,qb 3 2 1,Rq 4 (.box 2 (.c (.agg [.str [],.str []])))] (.e [qo 5 0 2,ql 6 1 5,qo 7 0 3,ql 8 1 7,aC 9 264 6 8,qo 10 1 2,ql 11 1 10,qo 12 1 3,ql 13 1 12,aC 14 264 11 13,Rq 15 (.cK [.str [],.str []] [(0,1,.t 9),(1,1,.t 14)]),qs 2 4 15])⟩
def QI:aI:=⟨[.cell 4 2 true],.g [qb 2 2 0,qb 3 2 1,Rq 4 (.box 2 (.c (.agg [.str [],.str []])))] (.e [qo 5 0 2,ql 6 1 5,qo 7 1 3,ql 8 1 7,aC 9 271 6 8,qo 10 1 2,ql 11 1 10,qo 12 0 3,ql 13 1 12,aC 14 271 11 13,Rq 15 (.cK [.str [],.str []] [(0,1,.t 9),(1,1,.t 14)]),qs 2 4 15])⟩
def QJ:aI:=⟨[.cell 4 2 true],.g [qb 2 2 0,qb 3 2 1,Rq 4 (.box 2 (.c (.agg [.str [],.str []])))] (.e [qo 5 0 2,ql 6 1 5,qo 7 0 3,ql 8 1 7,aC 9 267 6 8,qo 10 0 2,ql 11 1 10,qo 12 1 3,ql 13 1 12,aC 14 267 11 13,qo 15 1 2,ql 16 1 15,qo 17 0 3,ql 18 1 17,aC 19 267 16 18,qo 20 1 2,ql 21 1 20,qo 22 1 3,ql 23 1 22,aC 24 267 21 23,Rq 25 (.cQ 4 1 [.str [],.str [],.str [],.str []] [(0,1,.t 9),(1,1,.t 14),(2,1,.t 19),(3,1,.t 24)]),aB 26 447 25,qs 2 4 26])⟩
def QK:aI:=⟨[.cell 4 2 true],.g [qb 2 2 0,qb 3 2 1,Rq 4 (.box 2 (.c (.agg [.str [],.str []])))] (.e [qo 5 0 2,ql 6 1 5,qo 7 0 3,ql 8 1 7,aC 9 266 6 8,qo 10 0 2,ql 11 1 10,qo 12 1 3,ql 13 1 12,aC 14 266 11 13,qo 15 1 2,ql 16 1 15,qo 17 0 3,ql 18 1 17,aC 19 266 16 18,qo 20 1 2,ql 21 1 20,qo 22 1 3,ql 23 1 22,aC 24 266 21 23,Rq 25 (.cQ 4 1 [.str [],.str [],.str [],.str []] [(0,1,.t 9),(1,1,.t 14),(2,1,.t 19),(3,1,.t 24)]),aB 26 447 25,qs 2 4 26])⟩
def Ld:VC:=.q (.g [qm 6 4,qm 7 4,aC 8 267 6 7,qm 9 0,aC 10 315 8 9,Rq 11 (.y .leq 10 0)] (.cond (.t 11) .skip (.exit 0))) (.aQ 1 (.aS [qm 12 4,Rq 13 (.q 267 [.t 12,.s [50]]),qm 4 13]))
def GJ:VC:=.q (.g [qm 14 4,qm 15 3,aC 16 271 14 15,Rq 17 (.q 315 [.t 16,.s [49]]),Rq 18 (.y .gtr 17 0)] (.cond (.t 18) .skip (.exit 2))) (.aQ 3 (.g [qm 19 3,qm 20 4,aC 21 264 19 20,aB 22 319 21,aB 23 336 22,qm 5 23] (.g [qm 24 5,qm 25 5,aC 26 267 24 25,qm 27 0,aC 28 315 26 27,Rq 29 (.y .leq 28 0)] (.cond (.t 29) (.aS [qm 30 5,qm 3 30]) (.aS [qm 31 5,qm 4 31])))))
def QM:aI:=⟨[.t 2],.g [Rq 2 (.ck (.s []))] (.g [Rq 3 (.ck (.s [48])),Rq 4 (.ck (.s [49]))] (.q (.q (.aQ 0 (.loop [0,3,4] Ld)) (.kp [0,3,4])) (.q (.q (.aQ 2 (.loop [0,3,4] GJ)) (.kp [3])) (.e [qm 32 3,qm 2 32]))))⟩
def Lf:VC:=.q (.g [qm 12 4,qm 13 0,qn 14 1 13,qT 15 12 14] (.cond (.t 15) .skip (.exit 0))) (.q (.aQ 1 (.aS [qo 18 0 3,ql 19 1 18,qm 20 0,qm 21 4,qi 22 1 20 21,ql 23 1 22,aC 24 448 19 23,qo 25 1 3,ql 26 1 25,qm 27 0,qm 28 4,qi 29 1 27 28,ql 30 1 29,aC 31 449 26 30,qo 32 0 3,qs 1 32 24,qo 33 1 3,qs 1 33 31])) (.aS [qm 16 4,qa 17 16 1,qm 4 17]))
def HB:aI:=⟨[.cell 2 2 true],.g [Rq 2 (.box 2 (.c (.agg [.str [],.str []])))] (.g [qm 5 0,Rq 6 (.bz 1 (.t 5) (.k 0)),ql 7 1 6,qm 8 0,Rq 9 (.bz 1 (.t 8) (.k 0)),ql 10 1 9,Rq 11 (.cK [.str [],.str []] [(0,1,.t 7),(1,1,.t 10)]),Rq 3 (.box 2 (.c (.agg [.str [],.str []]))),qs 2 3 11] (.q (.g [qk 4 1] (.q (.aQ 0 (.loop [0,2,3,4] Lf)) (.kp [2,3]))) (.e [qL 34 2 3,qs 2 2 34])))⟩
def CK:aI:=⟨[.t 4],.g [Rq 4 (.ck (.s []))] (.h [qm 5 0,qm 6 1,aC 7 315 5 6,Rq 8 (.y .leq 7 0)] 8 (.e [qm 9 0,qm 4 9]) (.e [qm 10 1,qm 4 10]))⟩
def CL:aI:=⟨[.t 4],.g [Rq 4 (.ck (.s []))] (.h [qm 5 0,qm 6 1,aC 7 315 5 6,Rq 8 (.y .geq 7 0)] 8 (.e [qm 9 0,qm 4 9]) (.e [qm 10 1,qm 4 10]))⟩
def CM:aI:=⟨[.t 6],.g [qb 3 2 0,qb 4 2 1,qb 5 2 2,qf 6] (.h [zn 19 179,Rq 20 (.un .not (.t 19)),qm 21 20,Rf 22 21 (.ld 2 true (.t 3)),Rf 23 21 (.q 451 [.t 22,.k 6]),Rf 24 21 (.un .not (.t 23)),qp 25 21 24,qm 26 25,Rf 27 26 (.ld 2 true (.t 4)),Rf 28 26 (.q 451 [.t 27,.k 6]),Rf 29 26 (.un .not (.t 28)),qp 30 26 29] 30 (.e [zn 31 179,qm 6 31]) (.g [qL 32 2 3,qo 33 0 5,ql 34 1 33,aC 35 452 32 34,qL 36 2 4,qo 37 1 5,ql 38 1 37,aC 39 452 36 38,qm 7 35,qm 8 39] (.g [qL 41 2 3,qL 42 2 4,aC 43 438 41 42,qm 40 43,qe 44 0 40,qe 45 1 40,Rq 9 (.box 2 (.c (.agg [.str [],.str []]))),qs 2 9 44,qm 10 45] (.g [qL 47 2 3,qL 48 2 4,aC 49 439 47 48,qm 46 49,qe 50 0 46,qe 51 1 46,Rq 11 (.box 2 (.c (.agg [.str [],.str []]))),qs 2 11 50,qm 12 51] (.g [qL 53 2 3,qL 54 2 4,aC 55 188 53 54,qm 52 55,qe 56 0 52,qe 57 1 52,Rq 13 (.box 2 (.c (.agg [.str [],.str []]))),qs 2 13 56,qm 14 57] (.h [qm 58 10,qm 59 12,qA 60 58 59,qm
 61 14,qA 62 60 61,qN 63 62 0,qm 64 63,Rf 65 64 (.ld 2 true (.t 9)),Rf 66 64 (.q 419 [.t 65]),Rf 67 64 (.ld 2 true (.t 11)),Rf 68 64 (.q 419 [.t 67]),Rf 69 64 (.z .add 66 68),Rf 70 64 (.ld 2 true (.t 13)),Rf 71 64 (.q 419 [.t 70]),Rf 72 64 (.z .add 69 71),Rf 73 64 (.y .neq 72 0),qp 74 64 73,qm 75 74,Rf 76 75 (.ld 2 true (.t 9)),Rf 77 75 (.m 7),Rf 78 75 (.m 8),Rf 79 75 (.q 264 [.t 77,.t 78]),Rf 80 75 (.q 424 [.t 76,.t 79]),Rf 81 75 (.un .not (.t 80)),qp 82 75 81,qm 83 82,Rf 84 83 (.ld 2 true (.t 11)),Rf 85 83 (.m 7),Rf 86 83 (.m 8),Rf 87 83 (.q 271 [.t 85,.t 86]),Rf 88 83 (.q 424 [.t 84,.t 87]),Rf 89 83 (.un .not (.t 88)),qp 90 83 89,qm 91 90,Rf 92 91 (.ld 2 true (.t 13)),Rf 93 91 (.m 7),Rf 94 91 (.m 8),Rf 95 91 (.q 267 [.t 93,.t 94]),Rf 96 91 (.q 424 [.t 92,.t 95]),Rf 97 91 (.un .not (.t 96)),qp 98 91 97] 98 (.e [qf 6]) (.g [qL 100 2 3,qL 101 2 4,aC 102 191 100 101,qm 99 102,qe 103 0 99,qe
 104 1 99,qm 15 103,qm 16 104] (.h [qm 105 16,qN 106 105 0,qm 107 106,Rt 108 107 (.m 16),Rt 109 107 (.y .neq 108 24),qq 110 107 109,qm 111 110,Rf 112 111 (.m 16),Rf 113 111 (.y .eql 112 0),Rf 114 111 (.m 113),Rt 115 114 (.m 15),Rt 116 114 (.m 7),Rt 117 114 (.m 8),Rt 118 114 (.q 315 [.t 116,.t 117]),Rt 119 114 (.z .neq 115 118),Rf 120 111 (.pick (.t 114) (.t 119) (.c (.bool false))),qp 121 111 120] 121 (.e [qf 6]) (.g [qL 123 2 3,qL 124 2 4,aC 125 189 123 124,qm 122 125,qe 126 0 122,qe 127 1 122,Rq 17 (.box 2 (.c (.agg [.str [],.str []]))),qs 2 17 126,qm 18 127] (.h [qL 128 2 4,Rq 129 (.q 424 [.t 128,.s [48]])] 129 (.e [qm 130 18,qE 131 130 6,qm 6 131]) (.e [qm 132 18,qE 133 132 0,qm 134 133,Rt 135 134 (.ld 2 true (.t 17)),Rt 136 134 (.q 419 [.t 135]),Rt 137 134 (.y .eql 136 0),qq 138 134 137,qm 139 138,Rt 140 139 (.ld 2 true (.t 17)),Rt 141 139 (.m 7),Rt 142 139 (.m 8),Rt 143 139 (.q 266 [.t
 141,.t 142]),Rt 144 139 (.q 424 [.t 140,.t 143]),qq 145 139 144,qm 6 145])))))))))))⟩
def CN:aI:=⟨[.t 4],.g [qb 2 2 0,qf 4] (.e [qo 5 0 2,ql 6 1 5,qm 7 1,aC 8 359 6 7,qm 9 8,Rt 10 9 (.off 1 (.t 2)),Rt 11 9 (.ld 1 false (.t 10)),Rt 12 9 (.m 1),Rt 13 9 (.q 359 [.t 11,.t 12]),qq 14 9 13,qm 15 14,Rt 16 15 (.ld 2 true (.t 2)),Rt 17 15 (.q 419 [.t 16]),Rt 18 15 (.y .eql 17 0),qq 19 15 18,qm 4 19])⟩
def Mf:aI:=⟨[.t 4],.g [qb 2 2 0,Rq 4 (.ck (.s []))] (.e [qo 5 0 2,ql 6 1 5,qm 7 1,Rq 8 (.cv (.toInt .i64) (.t 7)),Rq 9 (.q 277 [.t 8,.k 255]),qo 10 1 2,ql 11 1 10,qo 12 0 2,ql 13 1 12,aC 14 271 11 13,aC 15 267 9 14,aC 16 264 6 15,qm 4 16])⟩
def HC:aI:=⟨[.t 4],.g [qb 2 4 0,qb 3 4 1,qf 4] (.h [zn 15 179,Rq 16 (.un .not (.t 15)),qm 17 16,Rf 18 17 (.off 0 (.t 2)),Rf 19 17 (.off 0 (.t 18)),Rf 20 17 (.ld 1 false (.t 19)),Rf 21 17 (.off 0 (.t 2)),Rf 22 17 (.off 1 (.t 21)),Rf 23 17 (.ld 1 false (.t 22)),Rf 24 17 (.off 2 (.t 2)),Rf 25 17 (.off 0 (.t 24)),Rf 26 17 (.ld 1 false (.t 25)),Rf 27 17 (.off 2 (.t 2)),Rf 28 17 (.off 1 (.t 27)),Rf 29 17 (.ld 1 false (.t 28)),Rf 30 17 (.off 0 (.t 3)),Rf 31 17 (.off 0 (.t 30)),Rf 32 17 (.ld 1 false (.t 31)),Rf 33 17 (.off 0 (.t 3)),Rf 34 17 (.off 1 (.t 33)),Rf 35 17 (.ld 1 false (.t 34)),Rf 36 17 (.off 2 (.t 3)),Rf 37 17 (.off 0 (.t 36)),Rf 38 17 (.ld 1 false (.t 37)),Rf 39 17 (.off 2 (.t 3)),Rf 40 17 (.off 1 (.t 39)),Rf 41 17 (.ld 1 false (.t 40)),Rf 42 17 (.cQ 8 1 [.str [],.str [],.str [],.str [],.str [],.str [],.str [],.str []] [(0,1,.t 20),(1,1,.t 23),(2,1,.t 26),(3,1,.t 29),(4,1,.t 32),(5,1,.t 35),(6,1,.t
 38),(7,1,.t 41)]),Rf 43 17 (.q 393 [.t 42]),qp 44 17 43] 44 (.e [zn 45 179,qm 4 45]) (.g [qL 46 4 2,aB 47 422 46,qm 5 47] (.h [qL 48 4 2,aB 49 220 48,qm 50 5,Rq 51 (.z .neq 49 50)] 51 (.e [qf 4]) (.g [qL 53 4 2,aB 54 198 53,qm 52 54,qe 55 0 52,qe 56 1 52,Rq 6 (.box 4 (.c (.agg [.str [],.str [],.str [],.str []]))),qs 4 6 55,qm 7 56] (.g [qL 58 4 2,aB 59 199 58,qm 57 59,qe 60 0 57,qe 61 1 57,Rq 8 (.box 2 (.c (.agg [.str [],.str []]))),qs 2 8 60,qm 9 61] (.g [qL 63 4 2,qL 64 4 3,aC 65 454 63 64,qm 62 65,qe 66 0 62,qe 67 1 62,Rq 10 (.box 4 (.c (.agg [.str [],.str [],.str [],.str []]))),qs 4 10 66,qm 11 67] (.g [qL 69 4 2,qL 70 4 3,aC 71 197 69 70,qm 68 71,qe 72 0 68,qe 73 1 68,Rq 12 (.box 4 (.c (.agg [.str [],.str [],.str [],.str []]))),qs 4 12 72,qm 13 73] (.g [qm 74 5,qL 75 4 3,aB 76 422 75,Rq 77 (.cQ 2 1 [.i 0,.i 0] [(0,1,.t 74),(1,1,.t 76)]),aB 78 415 77,qm 14 78] (.h [qm 79 5,qN
 80 79 0] 80 (.e [qL 81 4 6,qm 82 7,qm 83 5,qL 84 4 2,qc4 85 396 81 82 83 84,qm 86 85,Rt 87 86 (.ld 2 true (.t 8)),Rt 88 86 (.m 9),Rt 89 86 (.m 5),Rt 90 86 (.off 0 (.t 2)),Rt 91 86 (.ld 2 true (.t 90)),Rt 92 86 (.q 395 [.t 87,.t 88,.t 89,.t 91]),qq 93 86 92,qm 94 93,Rt 95 94 (.ld 4 true (.t 10)),Rt 96 94 (.m 11),Rt 97 94 (.m 14),Rt 98 94 (.ld 4 true (.t 2)),Rt 99 94 (.q 396 [.t 95,.t 96,.t 97,.t 98]),qq 100 94 99,qm 101 100,Rt 102 101 (.ld 4 true (.t 12)),Rt 103 101 (.m 13),Rt 104 101 (.m 14),Rt 105 101 (.ld 4 true (.t 2)),Rt 106 101 (.q 396 [.t 102,.t 103,.t 104,.t 105]),qq 107 101 106,qm 4 107]) (.h [qL 108 4 6,qm 109 7,qL 110 4 2,aB 111 455 110,Rq 112 (.q 396 [.t 108,.t 109,.k 0,.t 111]),Rq 113 (.un .not (.t 112)),qm 114 113,Rf 115 114 (.ld 2 true (.t 8)),Rf 116 114 (.m 9),Rf 117 114 (.ld 4 true (.t 2)),Rf 118 114 (.q 456 [.t 117]),Rf 119 114 (.q 395 [.t 115,.t 116,.k 0,.t 118]),Rf 120
 114 (.un .not (.t 119)),qp 121 114 120] 121 (.e [qf 4]) (.h [qm 122 14,qN 123 122 0] 123 (.e [qL 124 4 10,qm 125 11,qm 126 14,qL 127 4 2,qc4 128 396 124 125 126 127,qm 129 128,Rt 130 129 (.ld 4 true (.t 12)),Rt 131 129 (.m 13),Rt 132 129 (.m 14),Rt 133 129 (.ld 4 true (.t 2)),Rt 134 129 (.q 396 [.t 130,.t 131,.t 132,.t 133]),qq 135 129 134,qm 4 135]) (.e [qL 136 4 10,qm 137 11,qL 138 4 2,qL 139 4 3,aC 140 457 138 139,Rq 141 (.q 396 [.t 136,.t 137,.k 0,.t 140]),qm 142 141,Rt 143 142 (.ld 4 true (.t 12)),Rt 144 142 (.m 13),Rt 145 142 (.ld 4 true (.t 2)),Rt 146 142 (.ld 4 true (.t 3)),Rt 147 142 (.q 458 [.t 145,.t 146]),Rt 148 142 (.q 396 [.t 143,.t 144,.k 0,.t 147]),qq 149 142 148,qm 4 149]))))))))))))⟩
def HE:aI:=⟨[.cell 4 4 true,.t 5],.g [qb 2 4 0,qb 3 4 1,Rq 4 (.box 4 (.c (.agg [.str [],.str [],.str [],.str []]))),qk 5 0] (.q (.g [qL 7 4 2,aB 8 220 7,qL 9 4 3,aB 10 220 9,Rq 11 (.cQ 2 1 [.i 0,.i 0] [(0,1,.t 8),(1,1,.t 10)]),aB 12 125 11,qm 6 12] (.g [qm 13 6,qN 14 13 0] (.i 14 (.e [Rq 15 (.cK [.str [],.str [],.str [],.str []] []),qm 16 6,qs 4 4 15,qm 5 16])))) (.e [qo 17 0 2,qL 18 2 17,aB 19 212 18,qo 20 0 3,qL 21 2 20,aB 22 212 21,aC 23 223 19 22,qo 24 2 2,qL 25 2 24,aB 26 212 25,qo 27 2 3,qL 28 2 27,aB 29 212 28,aC 30 223 26 29,aC 31 224 23 30,qe 32 0 31,qe 33 1 31,qs 4 4 32,qm 5 33]))⟩
def QN:aI:=⟨[.cell 2 4 true],.g [qb 1 4 0,Rq 2 (.box 4 (.c (.agg [.str [],.str [],.str [],.str []])))] (.e [qo 3 0 1,qL 4 2 3,Rq 5 (.q 219 [.s [48]]),qo 6 2 1,qL 7 2 6,aC 8 443 5 7,Rq 9 (.cK [.str [],.str [],.str [],.str []] [(0,2,.t 4),(2,2,.t 8)]),qs 4 2 9])⟩
def QO:aI:=⟨[.cell 2 2 true],.g [qb 1 4 0,Rq 2 (.box 2 (.c (.agg [.str [],.str []])))] (.e [qo 3 0 1,qL 4 2 3,aB 5 437 4,qo 6 2 1,qL 7 2 6,aB 8 437 7,aC 9 442 5 8,qs 2 2 9])⟩
def QP:aI:=⟨[.cell 4 4 true],.g [qb 2 4 0,qb 3 4 1,Rq 4 (.box 4 (.c (.agg [.str [],.str [],.str [],.str []])))] (.e [qo 5 0 2,qL 6 2 5,qo 7 0 3,qL 8 2 7,aC 9 442 6 8,qo 10 2 2,qL 11 2 10,qo 12 2 3,qL 13 2 12,aC 14 442 11 13,Rq 15 (.cK [.str [],.str [],.str [],.str []] [(0,2,.t 9),(2,2,.t 14)]),qs 4 4 15])⟩
def QQ:aI:=⟨[.cell 4 4 true],.g [qb 2 4 0,qb 3 4 1,Rq 4 (.box 4 (.c (.agg [.str [],.str [],.str [],.str []])))] (.e [qo 5 0 2,qL 6 2 5,qo 7 0 3,qL 8 2 7,aC 9 444 6 8,qo 10 2 2,qL 11 2 10,qo 12 2 3,qL 13 2 12,aC 14 444 11 13,aC 15 443 9 14,qo 16 0 2,qL 17 2 16,qo 18 2 3,qL 19 2 18,aC 20 444 17 19,qo 21 2 2,qL 22 2 21,qo 23 0 3,qL 24 2 23,aC 25 444 22 24,aC 26 442 20 25,Rq 27 (.cK [.str [],.str [],.str [],.str []] [(0,2,.t 15),(2,2,.t 26)]),qs 4 4 27])⟩
def Mg:aI:=⟨[.t 6],.g [qb 3 4 0,qb 4 4 1,qb 5 4 2,qf 6] (.h [zn 19 179,Rq 20 (.un .not (.t 19)),qm 21 20,Rf 22 21 (.ld 4 true (.t 3)),Rf 23 21 (.q 466 [.t 22,.k 5]),Rf 24 21 (.un .not (.t 23)),qp 25 21 24,qm 26 25,Rf 27 26 (.ld 4 true (.t 4)),Rf 28 26 (.q 466 [.t 27,.k 5]),Rf 29 26 (.un .not (.t 28)),qp 30 26 29] 30 (.e [zn 31 179,qm 6 31]) (.g [qo 32 0 3,qL 33 2 32,qo 34 0 5,qo 35 0 34,ql 36 1 35,aC 37 452 33 36,qo 38 2 3,qL 39 2 38,qo 40 2 5,qo 41 0 40,ql 42 1 41,aC 43 452 39 42,qm 7 37,qm 8 43] (.g [qo 44 0 4,qL 45 2 44,qo 46 0 5,qo 47 1 46,ql 48 1 47,aC 49 452 45 48,qo 50 2 4,qL 51 2 50,qo 52 2 5,qo 53 1 52,ql 54 1 53,aC 55 452 51 54,qm 9 49,qm 10 55] (.g [qL 57 4 3,qL 58 4 4,aC 59 454 57 58,qm 56 59,qe 60 0 56,qe 61 1 56,Rq 11 (.box 4 (.c (.agg [.str [],.str [],.str [],.str []]))),qs 4 11 60,qm 12 61] (.g [qL 63 4 3,qL 64 4 4,aC 65 197 63 64,qm 62 65,qe 66 0 62,qe 67 1 62,Rq 13 (.box 4 (.c
 (.agg [.str [],.str [],.str [],.str []]))),qs 4 13 66,qm 14 67] (.g [qL 69 4 3,aB 70 198 69,qm 68 70,qe 71 0 68,qe 72 1 68,Rq 15 (.box 4 (.c (.agg [.str [],.str [],.str [],.str []]))),qs 4 15 71,qm 16 72] (.g [qL 74 4 3,aB 75 199 74,qm 73 75,qe 76 0 73,qe 77 1 73,Rq 17 (.box 2 (.c (.agg [.str [],.str []]))),qs 2 17 76,qm 18 77] (.h [qm 78 12,qm 79 14,qA 80 78 79,qm 81 16,qA 82 80 81,qm 83 18,qA 84 82 83,qN 85 84 0,qm 86 85,Rf 87 86 (.ld 4 true (.t 11)),Rf 88 86 (.q 422 [.t 87]),Rf 89 86 (.ld 4 true (.t 13)),Rf 90 86 (.q 422 [.t 89]),Rf 91 86 (.z .add 88 90),Rf 92 86 (.ld 4 true (.t 15)),Rf 93 86 (.q 422 [.t 92]),Rf 94 86 (.z .add 91 93),Rf 95 86 (.ld 2 true (.t 17)),Rf 96 86 (.q 419 [.t 95]),Rf 97 86 (.z .add 94 96),Rf 98 86 (.y .neq 97 0),qp 99 86 98] 99 (.e [qf 6]) (.h [qL 100 4 11,qm 101 7,qm 102 9,aC 103 264 101 102,qm 104 8,qm 105 10,aC 106 264 104 105,zo 107 467 100 103 106,Rq 108
 (.un .not (.t 107)),qm 109 108,Rf 110 109 (.ld 4 true (.t 13)),Rf 111 109 (.m 7),Rf 112 109 (.m 9),Rf 113 109 (.q 267 [.t 111,.t 112]),Rf 114 109 (.m 8),Rf 115 109 (.m 10),Rf 116 109 (.q 267 [.t 114,.t 115]),Rf 117 109 (.q 271 [.t 113,.t 116]),Rf 118 109 (.m 7),Rf 119 109 (.m 10),Rf 120 109 (.q 267 [.t 118,.t 119]),Rf 121 109 (.m 8),Rf 122 109 (.m 9),Rf 123 109 (.q 267 [.t 121,.t 122]),Rf 124 109 (.q 264 [.t 120,.t 123]),Rf 125 109 (.q 467 [.t 110,.t 117,.t 124]),Rf 126 109 (.un .not (.t 125)),qp 127 109 126] 127 (.e [qf 6]) (.e [qL 128 4 15,qm 129 7,qm 130 8,aB 131 268 130,zo 132 467 128 129 131,qm 133 132,Rt 134 133 (.ld 2 true (.t 17)),Rt 135 133 (.m 7),Rt 136 133 (.m 7),Rt 137 133 (.q 267 [.t 135,.t 136]),Rt 138 133 (.m 8),Rt 139 133 (.m 8),Rt 140 133 (.q 267 [.t 138,.t 139]),Rt 141 133 (.q 264 [.t 137,.t 140]),Rt 142 133 (.q 424 [.t 134,.t 141]),qq 143 133 142,qm 144 143,Rt 145 144
 (.off 0 (.t 17)),Rt 146 144 (.ld 1 false (.t 145)),Rt 147 144 (.q 262 [.t 146]),Rt 148 144 (.y .geq 147 0),qq 149 144 148,qm 6 149]))))))))))⟩
def Mh:aI:=⟨[.t 4],.g [qb 2 4 0,qf 4] (.e [qo 5 0 2,qL 6 2 5,qm 7 1,aC 8 451 6 7,qm 9 8,Rt 10 9 (.off 2 (.t 2)),Rt 11 9 (.ld 2 true (.t 10)),Rt 12 9 (.m 1),Rt 13 9 (.q 451 [.t 11,.t 12]),qq 14 9 13,qm 4 14])⟩
def Mi:aI:=⟨[.t 6],.g [qb 3 4 0,qf 6] (.e [qo 7 0 3,qL 8 2 7,qm 9 1,aC 10 424 8 9,qm 11 10,Rt 12 11 (.off 2 (.t 3)),Rt 13 11 (.ld 2 true (.t 12)),Rt 14 11 (.m 2),Rt 15 11 (.q 424 [.t 13,.t 14]),qq 16 11 15,qm 6 16])⟩
end
section
inductive Tr (α:Type) where
 | l
 | n (k:Nat) (v:α) (a b:Tr α)
def Tr.find {α:Type}:Tr α->Nat->Option α
 | .l,_=>none
 | .n k v a b,i=>bif yu i k then some v else bif yL i k then a.find i else b.find i
end
section
open Go (IntKind FloatKind)
def PS:yV->Nat
 | .i8=>0 | .i16=>1 | .i32=>2 | .i64=>3 | .u8=>4 | .u16=>5 | .u32=>6 | .u64=>7
def eqI:Int->Int->Bool
 | .ofNat a,.ofNat b=>yu a b
 | .negSucc a,.negSucc b=>yu a b
 | _,_=>false
def SR:Bool->Bool->Bool
 | true,true | false,false=>true
 | _,_=>false
def eqF:vL->vL->Bool
 | .f32,.f32 | .f64,.f64=>true
 | _,_=>false
mutual
def gQ:AV->AV->Bool
 | .int k a,.int k' b=>yu (PS k) (PS k')&&eqI a b
 | .bool a,.bool b=>SR a b
 | .b5 k a,.b5 k' b=>eqF k k'&&yu a b
 | .str a,.str b=>bQ a b
 | .lm,.lm=>true
 | .cz a,.cz b=>mM a b
 | .aa,.aa=>true
 | .ap e n a,.ap e' n' b=>SR e e'&&(yu n n'&&mM a b)
 | .bV e s n a,.bV e' s' n' b=>SR e e'&&(yu s s'&&(yu n n'&&mM a b))
 | .fn (.f g) a b,.fn (.f g') a' b'=>yu g g'&&(mM a a'&&mM b b')
 | .jd,.jd=>true
 | .kD,.kD=>true
 | .jD a b,.jD a' b'=>mM a a'&&mM b b'
 | .agg a,.agg b=>mM a b
 | .af a,.af b=>mM a b
 | .undef,.undef=>true
 | _,_=>false
def mM:List AV->List AV->Bool
 | [],[]=>true
 | a::x,b::y=>gQ a b&&mM x y
 | _,_=>false
end
def hI:Int->Nat
 | .ofNat n=>n
 | .negSucc n=>n+n
def hS:List Nat->Nat
 | []=>1
 | b::r=>(b+257*hS r)%65521
mutual
def hV:AV->Nat
 | .int _ n=>hI n
 | .bool b=>bif b then 1 else 2
 | .b5 _ n=>n
 | .str s=>hS s
 | .ap _ n cs=>n+hL cs
 | .agg cs=>hL cs
 | .af cs=>hL cs
 | _=>5
def hL:List AV->Nat
 | []=>7
 | v::r=>(hV v+263*hL r)%65521
end
abbrev Te:=Tr (List AV×AV)
abbrev aq:=List Te
def Ec (h:Nat) (av:List AV):aq->Option AV
 | []=>none
 | t::l=>match t.find h with
  | some (a,r)=>bif mM a av then some r else Ec h av l
  | none=>Ec h av l
def alr (av:List AV) (l:aq):Option AV:=Ec (hL av) av l
abbrev Te.o (h:Nat) (a:List AV) (r:AV):Te:= .n h (a,r) .l .l
abbrev Te.m (h:Nat) (a:List AV) (r:AV) (x y:Te):Te:= .n h (a,r) x y
def Ed (n:Nat):List (Tr aq)->Option aq
 | []=>none
 | t::r=>match t.find n with
  | none=>Ed n r
  | some l=>match Ed n r with | none=>some l | some m=>some (l++m)
def CO (L:Lib) (T:List (Tr aq)) (ex:Nat):Lib:=
 ⟨fun i=>match L.pure i with
  | some sp=>some sp
  | none=>bif yu i ex then none else match Ed i T with | some l=>some (fun av=>alr av l) | none=>none,L.heap⟩
def Mj (P:aJ) (L:Lib) (f:Nat):Te->Bool
 | .l=>true
 | .n _ e x y=>(match evF P L 100000 f e.1 with | some r'=>gQ r' e.2 | none=>false)&&(Mj P L f x&&Mj P L f y)
def PT (P:aJ) (L:Lib) (f:Nat):aq->Bool
 | []=>true
 | t::l=>Mj P L f t&&PT P L f l
def bm (P:aJ) (L:Lib) (T:List (Tr aq)):List (Nat×aq)->Bool
 | []=>true
 | (f,l)::C=>PT P (CO L T f) f l&&bm P L T C
end
section
open Go
def asj {a b:yV} (h:yu (PS a) (PS b)=true):a=b:=by
 cases a<;>cases b<;>first | rfl | (exact absurd h (by decide))
def auj {a b:Int} (h:eqI a b=true):a=b:=by
 cases a<;>cases b<;>simp only [eqI,reduceCtorEq] at h<;>rw [yo h]
def Vd {a b:Bool} (h:SR a b=true):a=b:=by
 cases a<;>cases b<;>first | rfl | (exact absurd h (by decide))
def auk {a b:vL} (h:eqF a b=true):a=b:=by
 cases a<;>cases b<;>first | rfl | (exact absurd h (by decide))
mutual
def agi:∀(a b:AV),gQ a b=true->a=b
 | .int k a,b,h=>by
  cases b<;>simp only [gQ,yg,yE] at h
  rw [asj h.1,auj h.2]
 | .bool a,b,h=>by
  cases b<;>simp only [gQ,yE] at h
  rw [Vd h]
 | .b5 k a,b,h=>by
  cases b<;>simp only [gQ,yg,yE] at h
  rw [auk h.1,yo h.2]
 | .str a,b,h=>by
  cases b<;>simp only [gQ,yE] at h
  rw [U7 h]
 | .lm,b,h=>by cases b<;>simp only [gQ,yE] at h;rfl
 | .ptr _ _,b,h=>by cases b<;>simp only [gQ,yE] at h
 | .cz a,b,h=>by
  cases b<;>simp only [gQ,yE] at h
  rw [qY _ _ h]
 | .aa,b,h=>by cases b<;>simp only [gQ,yE] at h;rfl
 | .ap e n a,b,h=>by
  cases b<;>simp only [gQ,yg,yE] at h
  rw [Vd h.1,yo h.2.1,qY _ _ h.2.2]
 | .bV e s n a,b,h=>by
  cases b<;>simp only [gQ,yg,yE] at h
  rw [Vd h.1,yo h.2.1,yo h.2.2.1,qY _ _ h.2.2.2]
 | .ay _ _ _,b,h=>by cases b<;>simp only [gQ,yE] at h
 | .fn (.f g) x y,b,h=>by
  cases b<;>try (simp only [gQ,yE] at h;done)
  rename_i fr _ _;cases fr<;>simp only [gQ,yg,yE] at h
  rw [yo h.1,qY _ _ h.2.1,qY _ _ h.2.2]
 | .fn (.y _) _ _,b,h=>by cases b<;>simp only [gQ,yE] at h
 | .jd,b,h=>by cases b<;>simp only [gQ,yE] at h;rfl
 | .kD,b,h=>by cases b<;>simp only [gQ,yE] at h;rfl
 | .map _,b,h=>by cases b<;>simp only [gQ,yE] at h
 | .jD x y,b,h=>by
  cases b<;>simp only [gQ,yg,yE] at h
  rw [qY _ _ h.1,qY _ _ h.2]
 | .it _,b,h=>by cases b<;>simp only [gQ,yE] at h
 | .agg a,b,h=>by
  cases b<;>simp only [gQ,yE] at h
  rw [qY _ _ h]
 | .af a,b,h=>by
  cases b<;>simp only [gQ,yE] at h
  rw [qY _ _ h]
 | .undef,b,h=>by cases b<;>simp only [gQ,yE] at h;rfl
def qY:∀(a b:List AV),mM a b=true->a=b
 | [],b,h=>by cases b<;>simp only [mM,yE] at h;rfl
 | x::a,b,h=>by
  cases b<;>simp only [mM,yg,yE] at h
  rw [agi _ _ h.1,qY _ _ h.2]
end
def Tr.Has {α:Type} (x:α):Tr α->Prop
 | .l=>False
 | .n _ v a b=>v=x\/a.Has x\/b.Has x
def Tr.Ve {α:Type} {h:Nat} {x:α}:∀{t:Tr α},t.find h=some x->t.Has x
 | .l,hf=>by simp [Tr.find] at hf
 | .n k v a b,hf=>by
  simp only [Tr.find] at hf
  cases h1:yu h k with
  | true=>rw [h1] at hf;simp only [yB,yc] at hf;exact .inl hf
  | false=>
   rw [h1] at hf
   cases h2:yL h k with
   | true=>rw [h2] at hf;exact .inr (.inl (Tr.Ve hf))
   | false=>rw [h2] at hf;exact .inr (.inr (Tr.Ve hf))
def SS (av:List AV) (r:AV) (l:aq):Prop:=∃t,t∈l/\t.Has (av,r)
def aeQ {h:Nat} {av:List AV} {r:AV}:∀{l:aq},Ec h av l=some r->SS av r l
 | [],hf=>by simp [Ec] at hf
 | t::l,hf=>by
  have tail:Ec h av l=some r->SS av r (t::l):=fun q=>by
   obtain ⟨t',h1,h2⟩:=aeQ q;exact ⟨t',xg _ h1,h2⟩
  simp only [Ec] at hf
  split at hf
  ·rename_i a q he
   cases hb:mM a av with
   | true=>
    rw [hb] at hf;simp only [yB,yc] at hf;rw [qY _ _ hb,hf] at he;exact ⟨t,xy,Tr.Ve he⟩
   | false=>
    grind
  ·grind
def asl {av:List AV} {r:AV} {l:aq} (h:alr av l=some r):SS av r l:=aeQ h
def jg (O:bw) (f:Nat) (l:aq):Prop:=∀av r,SS av r l->dF O f av r
def jg.nil {O:bw} {f:Nat}:jg O f []:=fun _ _ h=>by obtain ⟨t,h,_⟩:=h;cases h
def jg.a7 {O:bw} {f:Nat} {a b:aq} (ha:jg O f a) (hb:jg O f b):jg O f (a++b):=fun v r h=>by
 obtain ⟨t,h,h2⟩:=h;exact (List.mem_append.1 h).elim (fun h=>ha v r ⟨t,h,h2⟩) (fun h=>hb v r ⟨t,h,h2⟩)
def jg.one {O:bw} {f k:Nat} {av:List AV} {r:AV} (h:dF O f av r):jg O f [.n k (av,r) .l .l]:=fun v q hm=>by
 obtain ⟨t,h1,h2⟩:=hm;rcases wb.1 h1 with e | e
 ·subst e;rcases h2 with h2 | h2 | h2
  ·grind
  ·exact h2.elim
  ·exact h2.elim
 ·cases e
def Tr.mj {α:Type} (p:Nat->α->Prop):Tr α->Prop
 | .l=>True
 | .n k v a b=>p k v/\a.mj p/\b.mj p
def Tr.fD {α:Type} {p:Nat->α->Prop}:Tr.mj p .l:=trivial
def Tr.il {α:Type} {p:Nat->α->Prop} {k:Nat} {v:α} {a b:Tr α} (h:p k v) (ha:a.mj p) (hb:b.mj p):Tr.mj p (.n k v a b):=⟨h,ha,hb⟩
def Tr.DQ {α:Type} {p:Nat->α->Prop} {i:Nat} {v:α}:∀{t:Tr α},t.mj p->t.find i=some v->p i v
 | .l,_,h=>by simp [Tr.find] at h
 | .n k w a b,ha,h=>by
  simp only [Tr.find] at h
  cases hb:yu i k with
  | true=>
   rw [hb] at h;simp only [yB,yc] at h;subst h;rw [yo hb];exact ha.1
  | false=>
   rw [hb] at h
   cases hc:yL i k with
   | true=>rw [hc] at h;exact Tr.DQ ha.2.1 h
   | false=>rw [hc] at h;exact Tr.DQ ha.2.2 h
abbrev bw.oh (O:bw) (L:Lib):bw:={O with aE:=L}
def agj {O:bw} {L:Lib} {m:Mp} {S:Nat->Prop} {w:World} {id:Nat} {o:Obj}:fF (O.oh L) m S w id o↔fF O m S w id o:=by
 cases o<;>exact Iff.rfl
def agk {O:bw} {L:Lib} {m:Mp} {S:Nat->Prop} {w:World} {hp:Hp} {ct:Nat}:aX (O.oh L) m S w hp ct↔aX O m S w hp ct:=
 ⟨fun h=>⟨fun id o p h1 h2=>agj.1 (h.obj id o p h1 h2),h.lt,h.inj,h.slt,h.blt,h.low,h.lY,h.fT,h.aZ⟩,
  fun h=>⟨fun id o p h1 h2=>agj.2 (h.obj id o p h1 h2),h.lt,h.inj,h.slt,h.blt,h.low,h.lY,h.fT,h.aZ⟩⟩
def afy {O:bw} {L:Lib} {n:Nat} {hp:Hp} {ct:Nat} {av:List AV} {v:AV} {aw:Hp} {a6:Nat} (h:Cm O n hp ct av v aw a6):Cm (O.oh L) n hp ct av v aw a6:=by
 intro m S w args h1 h2;have post:∀e w',zK O m S w hp ct v aw a6 e w'->zK (O.oh L) m S w hp ct v aw a6 e w':=by
  rintro e w' ⟨u,m',S',k1,k2,k3,k4,k5⟩;exact ⟨u,m',S',k1,agk.2 k2,k3,k4,k5⟩
 exact BV.mono (h m S w args (agk.1 h1) h2) post
def dB (O:bw) (T:List (Tr aq)):Prop:=∀t,t∈T->t.mj (jg O)
def dB.nil {O:bw}:dB O []:=fun _ h=>by cases h
def dB.cons {O:bw} {t:Tr aq} {T:List (Tr aq)} (h:t.mj (jg O)) (hT:dB O T):dB O (t::T):=fun u hu=>by
 rcases wb.1 hu with e | e
 ·grind
 ·exact hT u e
def UL {O:bw} {n:Nat}:∀{T:List (Tr aq)} {l:aq},dB O T->Ed n T=some l->jg O n l
 | [],_,_,h=>by simp [Ed] at h
 | t::T,l,hT,h=>by
  have qJ:dB O T:=fun u hu=>hT u (xg _ hu)
  simp only [Ed] at h
  split at h
  ·exact UL qJ h
  ·rename_i l1 h1;have c1:=Tr.DQ (hT t xy) h1
   split at h
   ·grind
   ·rename_i m h2;simp only [yc] at h;subst h;exact jg.a7 c1 (UL qJ h2)
def Gn {O:bw} (hO:ep O) {T:List (Tr aq)} (hT:dB O T) (ex:Nat):ep (O.oh (CO O.aE T ex)) where
 hint:=hO.hint
 mixed:=hO.mixed
 prog:=hO.prog
 aE n sp av r h hs:=by
  simp only [CO] at h
  cases hl:O.aE.pure n with
  | some SU=>
   simp only [hl,yc] at h;subst h;exact hO.aE n _ av r hl hs
  | none=>
   simp only [hl] at h
   cases hb:yu n ex with
   | true=>rw [hb] at h;cases h
   | false=>
    rw [hb] at h;simp only [yM] at h
    cases hf:Ed n T with
    | none=>simp [hf] at h
    | some l=>
     simp only [hf,yc] at h;subst h;exact UL hT hf av r (asl hs)
 Ha n sp hp ct av v aw a6 h hs:=afy (hO.Ha n sp hp ct av v aw a6 h hs)
def UM {O:bw} {L:Lib} (hO:ep (O.oh L)) {f:Nat} {av:List AV} {r:AV}:∀{t:Te},Mj O.prog L f t=true->t.Has (av,r)->dF O f av r
 | .l,_,h=>h.elim
 | .n k e x y,h,hm=>by
  simp only [Mj,yg] at h;rcases hm with e1 | hm | hm
  ·subst e1;have h1:=h.1
   split at h1
   ·rename_i r' hr;have e:r'=r:=agi _ _ h1;rw [<-e];exact sound hO hr
   ·cases h1
  ·exact UM hO h.2.1 hm
  ·exact UM hO h.2.2 hm
def aeR {O:bw} {L:Lib} (hO:ep (O.oh L)) {f:Nat}:∀{l:aq},PT O.prog L f l=true->jg O f l
 | [],_=>jg.nil
 | t::l,h=>by
  simp only [PT,yg] at h;intro v q hm;obtain ⟨t',h1,h2⟩:=hm;rcases wb.1 h1 with e | e
  ·subst e;exact UM hO h.1 h2
  ·exact aeR hO h.2 v q ⟨t',e,h2⟩
def chunk_ok {O:bw} (hO:ep O) {T:List (Tr aq)} (hT:dB O T):∀{C:List (Nat×aq)},bm O.prog O.aE T C=true->∀f l,(f,l)∈C->jg O f l
 | [],_,f,l,h=>by cases h
 | (g,l')::C,h,f,l,hm=>by
  simp only [bm,yg] at h;rcases wb.1 hm with e | hm
  ·injection e with e1 e2
   subst e1;subst e2;exact aeR (Gn hO hT f) h.1
  ·exact chunk_ok hO hT h.2 f l hm
def bA {O:bw} {P:aJ} {L:Lib} (hO:ep O) (hp:O.prog=P) (hl:O.aE=L) {T:List (Tr aq)} (hT:dB O T) {C:List (Nat×aq)} (h:bm P L T C=true) (i:Nat) {f:Nat} {l:aq} (hi:C[i]? =some (f,l)):jg O f l:=by
 subst hp;subst hl;exact chunk_ok hO hT h f l (List.mem_of_getElem? hi)
def aN {α:Type} {p:Nat->α->Prop} {k:Nat} {v:α} {a b:Tr α} (h:p k v) (ha:a.mj p) (hb:b.mj p):Tr.mj p (.n k v a b):=Tr.il h ha hb
def aL {α:Type} {p:Nat->α->Prop}:Tr.mj p .l:=Tr.fD
end
section
open Go
structure HD where
 n:Nat
 live:List (Nat×List Nat)
 out:List (Nat×List Nat)
 mode:List (Nat×Md)
 fz:List (Nat×List Nat)
 deriving Inhabited
def LD {α:Type} (i:Nat):List (Nat×α)->Option α
 | []=>none
 | (j,a)::l=>bif yu j i then some a else LD i l
def ayi (cy:Nat->Option Nat) (d:HD):Hint where
 n:=d.n
 cy:=cy
 live:=fun l=>match LD l d.live with | some x=>x | none=>[]
 out:=fun l=>LD l d.out
 mode:=fun k=>match LD k d.mode with | some x=>x | none=> .pure
 fz:=fun i=>match LD i d.fz with | some x=>x | none=>[]
def PU (cy:Tr Nat) (t:Tr HD) (i:Nat):Hint:=ayi cy.find (match t.find i with | some d=>d | none=>⟨0,[],[],[],[]⟩)
def AB (t:Tr Nat) (i:Nat):Nat:=match t.find i with | some f=>f | none=>0
def LF (aj:Tr Nat):Tr Nat->Bool
 | .l=>true
 | .n f g a b=>yu (AB aj g) f&&(LF aj a&&LF aj b)
def Up {aj:Tr Nat}:∀{t:Tr Nat},LF aj t=true->t.mj (fun f g=>AB aj g=f)
 | .l,_=>trivial
 | .n f g a b,h=>by
  simp only [LF,yg] at h;exact ⟨yo h.1,Up h.2.1,Up h.2.2⟩
def VW (P:xe) (aj:Tr Nat) (cy:Tr Nat) (hd:Tr HD) (i:Nat) (F:aI):Prop:=
 ∃fn,P.funcs[AB aj i]? =some fn/\Gu P (PU cy hd i) fn=some F/\fn.name≠ "runtime.NumGoroutine"
def asm {P:xe} {aj cy:Tr Nat} {hd:Tr HD} {i:Nat} {F:aI} (h:(P.funcs[AB aj i]?).bind (Gu P (PU cy hd i))=some F) (h2:(P.funcs[AB aj i]?).map (fun fn=>decide (fn.name= "runtime.NumGoroutine"))=some false):VW P aj cy hd i F:=by
 unfold VW
 cases hq:P.funcs[AB aj i]? with
 | none=>rw [hq] at h;cases h
 | some fn=>
  rw [hq] at h h2;refine ⟨fn,rfl,h,fun e=>?_⟩;simp only [Option.map_some,yc,e,ym] at h2;cases h2
end
section
namespace zq
open Go
open Go.Proofs
def aj:Tr Nat:=(.n 224 77 (.n 157 197 (.n 124 105 (.n 88 163 (.n 69 126 (.n 49 91 (.n 29 74 (.n 28 73 .l .l) (.n 46 136 .l .l)) (.n 59 75 (.n 50 90 .l .l) (.n 62 98 .l .l))) (.n 74 89 (.n 71 99 (.n 70 102 .l .l) (.n 73 164 .l .l)) (.n 86 104 (.n 84 124 .l .l) .l))) (.n 109 159 (.n 101 118 (.n 99 193 (.n 98 146 .l .l) (.n 100 148 .l .l)) (.n 107 140 (.n 102 137 .l .l) (.n 108 100 .l .l))) (.n 118 161 (.n 111 120 (.n 110 160 .l .l) (.n 117 119 .l .l)) (.n 123 185 (.n 119 147 .l .l) .l)))) (.n 143 200 (.n 136 187 (.n 128 165 (.n 126 184 (.n 125 76 .l .l) (.n 127 183 .l .l)) (.n 130 167 (.n 129 166 .l .l) (.n 135 223 .l .l))) (.n 140 226 (.n 138 224 (.n 137 214 .l .l) (.n 139 225 .l .l)) (.n 142 201 (.n 141 227 .l .l) .l))) (.n 150 190 (.n 147 177 (.n 145 196 (.n 144 202 .l .l) (.n 146 162 .l .l)) (.n 149 121 (.n 148 178 .l .l) .l)) (.n 154 210 (.n 152 208 (.n 151 194 .l .l) (.n 153 209 .l .l)) (.n 156 182 (.n 155 211 .l .l) .l))))) (.n 194 63 (.n 173 230 (.n 166 229 (.n 162 213 (.n 159 199 (.n 158 198 .l .l) (.n 161 115 .l .l)) (.n 164 179 (.n 163 129 .l .l) (.n 165 243 .l .l))) (.n 170 253 (.n 168 245 (.n 167 244 .l .l) (.n 169 246 .l .l)) (.n 172 130 (.n 171 228 .l .l) .l))) (.n 187 56 (.n 180 72 (.n 175 188 (.n 174 274 .l .l) (.n 179 8 .l .l)) (.n 186 61 (.n 185 60 .l .l) .l)) (.n 191 33 (.n 189 35 (.n 188 27 .l .l) (.n 190 46 .l .l)) (.n 193 62 (.n 192 41 .l .l) .l)))) (.n 210 47 (.n 202 68 (.n 198 12 (.n 196 65 (.n 195 64 .l .l) (.n 197 15 .l .l)) (.n 200 66 (.n 199 13 .l .l) (.n 201 67 .l .l))) (.n 206 138 (.n 204 70 (.n 203 69 .l .l) (.n 205 71 .l .l)) (.n 209 88 (.n 208 117 .l .l) .l))) (.n 217 122 (.n 214 82 (.n 212 78 (.n 211 101 .l .l) (.n 213 80 .l .l)) (.n 216 107 (.n 215 106 .l .l) .l)) (.n 221 83 (.n 219 86 (.n 218 123 .l .l) (.n 220 11 .l .l)) (.n 223 81 (.n 222 79 .l .l) .l)))))) (.n 293 158 (.n 262 40 (.n 239 181 (.n 232 135 (.n 228 131 (.n 226 127 (.n 225 125 .l .l) (.n 227 128 .l .l)) (.n 230 133 (.n 229 132 .l .l) (.n 231 134 .l .l))) (.n 236 169 (.n 234 141 (.n 233 139 .l .l) (.n 235 168 .l .l)) (.n 238 180 (.n 237 170 .l .l) .l))) (.n 247 218 (.n 243 192 (.n 241 189 (.n 240 186 .l .l) (.n 242 191 .l .l)) (.n 245 216 (.n 244 215 .l .l) (.n 246 217 .l .l))) (.n 251 222 (.n 249 220 (.n 248 219 .l .l) (.n 250 221 .l .l)) (.n 261 92 (.n 252 247 .l .l) .l)))) (.n 279 96 (.n 272 108 (.n 267 32 (.n 264 30 (.n 263 42 .l .l) (.n 266 36 .l .l)) (.n 269 195 (.n 268 39 .l .l) (.n 271 31 .l .l))) (.n 276 93 (.n 274 94 (.n 273 109 .l .l) (.n 275 110 .l .l)) (.n 278 97 (.n 277 87 .l .l) .l))) (.n 286 113 (.n 283 103 (.n 281 143 (.n 280 95 .l .l) (.n 282 153 .l .l)) (.n 285 57 (.n 284 112 .l .l) .l)) (.n 290 149 (.n 288 150 (.n 287 171 .l .l) (.n 289 152 .l .l)) (.n 292 145 (.n 291 144 .l .l) .l))))) (.n 424 29 (.n 339 174 (.n 301 205 (.n 297 157 (.n 295 155 (.n 294 154 .l .l) (.n 296 156 .l .l)) (.n 299 203 (.n 298 151 .l .l) (.n 300 204 .l .l))) (.n 319 172 (.n 315 34 (.n 302 206 .l .l) (.n 316 142 .l .l)) (.n 338 173 (.n 336 114 .l .l) .l))) (.n 401 85 (.n 395 18 (.n 389 59 (.n 359 55 .l .l) (.n 393 9 .l .l)) (.n 400 44 (.n 396 17 .l .l) .l)) (.n 419 28 (.n 415 16 (.n 402 84 .l .l) (.n 418 7 .l .l)) (.n 422 10 (.n 420 58 .l .l) .l)))) (.n 448 175 (.n 441 50 (.n 437 48 (.n 435 43 (.n 434 6 .l .l) (.n 436 45 .l .l)) (.n 439 26 (.n 438 25 .l .l) (.n 440 49 .l .l))) (.n 445 54 (.n 443 52 (.n 442 51 .l .l) (.n 444 53 .l .l)) (.n 447 116 (.n 446 111 .l .l) .l))) (.n 455 19 (.n 452 24 (.n 450 4 (.n 449 176 .l .l) (.n 451 23 .l .l)) (.n 454 14 (.n 453 3 .l .l) .l)) (.n 465 5 (.n 457 21 (.n 456 20 .l .l) (.n 458 22 .l .l)) (.n 467 38 (.n 466 37 .l .l) .l)))))))
def cy:Tr Nat:=(.n 119 117 (.n 61 186 (.n 32 267 (.n 17 396 (.n 10 422 (.n 6 434 (.n 4 450 (.n 3 453 .l .l) (.n 5 465 .l .l)) (.n 8 179 (.n 7 418 .l .l) (.n 9 393 .l .l))) (.n 14 454 (.n 12 198 (.n 11 220 .l .l) (.n 13 199 .l .l)) (.n 16 415 (.n 15 197 .l .l) .l))) (.n 25 438 (.n 21 457 (.n 19 455 (.n 18 395 .l .l) (.n 20 456 .l .l)) (.n 23 451 (.n 22 458 .l .l) (.n 24 452 .l .l))) (.n 29 424 (.n 27 188 (.n 26 439 .l .l) (.n 28 419 .l .l)) (.n 31 271 (.n 30 264 .l .l) .l)))) (.n 47 210 (.n 40 262 (.n 36 266 (.n 34 315 (.n 33 191 .l .l) (.n 35 189 .l .l)) (.n 38 467 (.n 37 466 .l .l) (.n 39 268 .l .l))) (.n 44 400 (.n 42 263 (.n 41 192 .l .l) (.n 43 435 .l .l)) (.n 46 190 (.n 45 436 .l .l) .l))) (.n 54 445 (.n 51 442 (.n 49 440 (.n 48 437 .l .l) (.n 50 441 .l .l)) (.n 53 444 (.n 52 443 .l .l) .l)) (.n 58 420 (.n 56 187 (.n 55 359 .l .l) (.n 57 285 .l .l)) (.n 60 185 (.n 59 389 .l .l) .l))))) (.n 90 50 (.n 76 125 (.n 69 203 (.n 65 196 (.n 63 194 (.n 62 193 .l .l) (.n 64 195 .l .l)) (.n 67 201 (.n 66 200 .l .l) (.n 68 202 .l .l))) (.n 73 28 (.n 71 205 (.n 70 204 .l .l) (.n 72 180 .l .l)) (.n 75 59 (.n 74 29 .l .l) .l))) (.n 83 221 (.n 80 213 (.n 78 212 (.n 77 224 .l .l) (.n 79 222 .l .l)) (.n 82 214 (.n 81 223 .l .l) .l)) (.n 87 277 (.n 85 401 (.n 84 402 .l .l) (.n 86 219 .l .l)) (.n 89 74 (.n 88 209 .l .l) .l)))) (.n 105 124 (.n 98 62 (.n 94 274 (.n 92 261 (.n 91 49 .l .l) (.n 93 276 .l .l)) (.n 96 279 (.n 95 280 .l .l) (.n 97 278 .l .l))) (.n 102 70 (.n 100 108 (.n 99 71 .l .l) (.n 101 211 .l .l)) (.n 104 86 (.n 103 283 .l .l) .l))) (.n 112 284 (.n 109 273 (.n 107 216 (.n 106 215 .l .l) (.n 108 272 .l .l)) (.n 111 446 (.n 110 275 .l .l) .l)) (.n 116 447 (.n 114 336 (.n 113 286 .l .l) (.n 115 161 .l .l)) (.n 118 101 (.n 117 208 .l .l) .l)))))) (.n 178 148 (.n 149 290 (.n 134 231 (.n 127 226 (.n 123 218 (.n 121 149 (.n 120 111 .l .l) (.n 122 217 .l .l)) (.n 125 225 (.n 124 84 .l .l) (.n 126 69 .l .l))) (.n 131 228 (.n 129 163 (.n 128 227 .l .l) (.n 130 172 .l .l)) (.n 133 230 (.n 132 229 .l .l) .l))) (.n 142 316 (.n 138 206 (.n 136 46 (.n 135 232 .l .l) (.n 137 102 .l .l)) (.n 140 107 (.n 139 233 .l .l) (.n 141 234 .l .l))) (.n 146 98 (.n 144 291 (.n 143 281 .l .l) (.n 145 292 .l .l)) (.n 148 100 (.n 147 119 .l .l) .l)))) (.n 164 73 (.n 157 297 (.n 153 282 (.n 151 298 (.n 150 288 .l .l) (.n 152 289 .l .l)) (.n 155 295 (.n 154 294 .l .l) (.n 156 296 .l .l))) (.n 161 118 (.n 159 109 (.n 158 293 .l .l) (.n 160 110 .l .l)) (.n 163 88 (.n 162 146 .l .l) .l))) (.n 171 287 (.n 168 235 (.n 166 129 (.n 165 128 .l .l) (.n 167 130 .l .l)) (.n 170 237 (.n 169 236 .l .l) .l)) (.n 175 448 (.n 173 338 (.n 172 319 .l .l) (.n 174 339 .l .l)) (.n 177 147 (.n 176 449 .l .l) .l))))) (.n 208 152 (.n 193 99 (.n 186 240 (.n 182 156 (.n 180 238 (.n 179 164 .l .l) (.n 181 239 .l .l)) (.n 184 126 (.n 183 127 .l .l) (.n 185 123 .l .l))) (.n 190 150 (.n 188 175 (.n 187 136 .l .l) (.n 189 241 .l .l)) (.n 192 243 (.n 191 242 .l .l) .l))) (.n 200 143 (.n 197 157 (.n 195 269 (.n 194 151 .l .l) (.n 196 145 .l .l)) (.n 199 159 (.n 198 158 .l .l) .l)) (.n 204 300 (.n 202 144 (.n 201 142 .l .l) (.n 203 299 .l .l)) (.n 206 302 (.n 205 301 .l .l) .l)))) (.n 224 138 (.n 217 246 (.n 213 162 (.n 210 154 (.n 209 153 .l .l) (.n 211 155 .l .l)) (.n 215 244 (.n 214 137 .l .l) (.n 216 245 .l .l))) (.n 221 250 (.n 219 248 (.n 218 247 .l .l) (.n 220 249 .l .l)) (.n 223 135 (.n 222 251 .l .l) .l))) (.n 243 165 (.n 228 171 (.n 226 140 (.n 225 139 .l .l) (.n 227 141 .l .l)) (.n 230 173 (.n 229 166 .l .l) .l)) (.n 247 252 (.n 245 168 (.n 244 167 .l .l) (.n 246 169 .l .l)) (.n 274 174 (.n 253 170 .l .l) .l)))))))
def hd:Tr HD:=(.n 231 ⟨7,[],[],[],[]⟩ (.n 164 ⟨84,[],[],[],[]⟩ (.n 119 ⟨67,[],[],[],[]⟩ (.n 86 ⟨76,[],[],[],[]⟩ (.n 62 ⟨22,[],[],[],[]⟩ (.n 49 ⟨16,[],[],[],[]⟩ (.n 29 ⟨26,[(1,[0,1,5])],[(1,[])],[],[]⟩ (.n 28 ⟨27,[(1,[0,1,5])],[(1,[])],[],[]⟩ .l .l) (.n 46 ⟨16,[],[],[],[]⟩ .l .l)) (.n 59 ⟨26,[(1,[0,1,5])],[(1,[])],[],[]⟩ (.n 50 ⟨9,[],[],[],[]⟩ .l .l) .l)) (.n 73 ⟨8,[],[],[],[]⟩ (.n 70 ⟨9,[],[],[],[]⟩ (.n 69 ⟨6,[],[],[],[]⟩ .l .l) (.n 71 ⟨16,[],[],[],[]⟩ .l .l)) (.n 84 ⟨20,[],[],[],[]⟩ (.n 74 ⟨34,[],[],[],[]⟩ .l .l) .l))) (.n 107 ⟨11,[],[],[],[]⟩ (.n 100 ⟨66,[],[],[],[]⟩ (.n 98 ⟨13,[],[],[],[]⟩ (.n 88 ⟨23,[(0,[3,9,10,11])],[(0,[3])],[],[]⟩ .l .l) (.n 99 ⟨69,[(1,[3,4,5,6]),(6,[6,10,11])],[(1,[3,6]),(6,[10])],[],[]⟩ .l .l)) (.n 102 ⟨9,[],[],[],[]⟩ (.n 101 ⟨34,[],[],[],[]⟩ .l .l) .l)) (.n 111 ⟨6,[],[],[],[]⟩ (.n 110 ⟨41,[(0,[0,2,3,4])],[(0,[2,3,4])],[],[]⟩ (.n 108 ⟨6,[],[],[],[]⟩ .l .l) .l) (.n 118 ⟨29,[],[],[],[]⟩ (.n 117 ⟨5,[],[],[],[]⟩ .l .l) .l)))) (.n 146 ⟨7,[],[],[],[]⟩ (.n 130 ⟨23,[(0,[2,3,4])],[(0,[2,4])],[],[]⟩ (.n 126 ⟨24,[],[],[],[]⟩ (.n 124 ⟨7,[],[],[],[]⟩ (.n 123 ⟨23,[(0,[3,9,10,11])],[(0,[3])],[],[]⟩ .l .l) (.n 125 ⟨15,[(0,[5,6,7])],[(0,[])],[],[]⟩ .l .l)) (.n 129 ⟨19,[],[],[],[]⟩ (.n 127 ⟨21,[(0,[1,8,9,10])],[(0,[])],[],[]⟩ .l .l) .l)) (.n 142 ⟨10,[],[],[],[]⟩ (.n 137 ⟨137,[(2,[0,1,6,7,8]),(4,[9,10,11,12,13,14]),(6,[9,11,12,13,96,97])],[(2,[6,7]),(4,[9,11,12,13]),(6,[11,12,13])],[(5,.own),(7,.own),(8,.heap)],[]⟩ (.n 136 ⟨24,[],[],[],[]⟩ .l .l) .l) (.n 145 ⟨50,[],[],[],[]⟩ (.n 144 ⟨80,[(0,[1,5,20,21,22]),(2,[1,5,6,7,8,20,21,22,27,28,29])],[(0,[5]),(2,[1,5,6,8,20,21,22])],[],[]⟩ .l .l) .l))) (.n 156 ⟨9,[],[],[],[]⟩ (.n 150 ⟨9,[],[],[],[]⟩ (.n 148 ⟨21,[],[],[],[]⟩ (.n 147 ⟨26,[],[],[],[]⟩ .l .l) (.n 149 ⟨14,[],[],[],[]⟩ .l .l)) (.n 155 ⟨23,[(0,[1,2,4,5])],[(0,[4,5])],[],[]⟩ (.n 151 ⟨13,[],[],[],[]⟩ .l .l) .l)) (.n 159 ⟨41,[(0,[0,1,5,6,13,14])],[(0,[5])],[],[]⟩ (.n 158 ⟨41,[(2,[0,1,5])],[(2,[])],[],[]⟩ (.n 157 ⟨54,[(1,[0,1,5,6,21,22])],[(1,[0,5,6])],[],[]⟩ .l .l) .l) (.n 163 ⟨9,[],[],[],[]⟩ (.n 161 ⟨18,[(0,[6,7,8])],[(0,[])],[],[]⟩ .l .l) .l))))) (.n 204 ⟨95,[(1,[5,6,7,8,32,33]),(3,[5,6,7,8,9,10,32,33,39,40]),(5,[5,6,7,8,9,10,12,32,33,52,53,54])],[(1,[8]),(3,[5,6,7,8,9,10,32,33]),(5,[5,6,7,8,10,12,32,33])],[],[(25,[10])]⟩ (.n 191 ⟨45,[],[],[],[]⟩ (.n 180 ⟨59,[(1,[0,1,7,21,22]),(3,[7,9,10])],[(1,[0,1,7]),(3,[7])],[],[]⟩ (.n 169 ⟨186,[(1,[0,1,5,6,7,8]),(4,[0,1,5,6,11,12,104,105]),(7,[0,1,5,6,17,156,157])],[(1,[0,1,5,6]),(4,[0,1,5,6,11,12]),(7,[0,5,6,17])],[],[]⟩ (.n 166 ⟨21,[(0,[0,3])],[(0,[0,3])],[],[]⟩ (.n 165 ⟨135,[(3,[2,8,9,10,11,13,14,15,16]),(6,[2,8,9,10,14,15,16,17,18])],[(3,[2,8,9,10,11,13,14,15]),(6,[2,8,14,15,17,18])],[],[]⟩ .l .l) (.n 168 ⟨40,[(0,[1,5,12,13,14])],[(0,[5])],[],[]⟩ .l .l)) (.n 179 ⟨318,[],[],[],[]⟩ (.n 172 ⟨25,[],[],[],[]⟩ .l .l) .l)) (.n 188 ⟨11,[],[],[],[]⟩ (.n 186 ⟨17,[],[],[],[]⟩ (.n 185 ⟨16,[],[],[],[]⟩ .l .l) (.n 187 ⟨8,[],[],[],[]⟩ .l .l)) (.n 190 ⟨22,[],[],[],[]⟩ (.n 189 ⟨35,[],[],[],[]⟩ .l .l) .l))) (.n 198 ⟨21,[],[],[],[]⟩ (.n 195 ⟨45,[],[],[],[]⟩ (.n 193 ⟨20,[],[],[],[]⟩ (.n 192 ⟨33,[],[],[],[]⟩ .l .l) (.n 194 ⟨24,[],[],[],[]⟩ .l .l)) (.n 197 ⟨51,[],[],[],[]⟩ (.n 196 ⟨10,[],[],[],[]⟩ .l .l) .l)) (.n 201 ⟨102,[(1,[0,1,7,34,35,36]),(4,[10,13,76,77,78])],[(1,[0,7]),(4,[13])],[],[(20,[13])]⟩ (.n 200 ⟨84,[(2,[8,9,37,38,39]),(4,[8,9,11,12,37,38,39,46,47]),(6,[8,9,11,12,13,14,37,38,39,46,47,51,52,53])],[(2,[9]),(4,[8,9,12,37,38,39]),(6,[8,9,11,12,14,37,38,39,46,47])],[],[(23,[12])]⟩ (.n 199 ⟨28,[],[],[],[]⟩ .l .l) .l) (.n 203 ⟨10,[],[],[],[]⟩ (.n 202 ⟨73,[(2,[5,6,7])],[(2,[5,6,7])],[],[]⟩ .l .l) .l)))) (.n 218 ⟨68,[],[],[],[]⟩ (.n 212 ⟨10,[],[],[],[]⟩ (.n 209 ⟨25,[],[],[],[]⟩ (.n 206 ⟨16,[],[],[],[]⟩ (.n 205 ⟨20,[],[],[],[]⟩ .l .l) (.n 208 ⟨8,[],[],[],[]⟩ .l .l)) (.n 211 ⟨51,[(0,[2,4,6,8,18,19,20]),(2,[2,4,6,8,10,18,19,20,29,30,31])],[(0,[6,8]),(2,[2,4,6,8,18,19,20])],[],[]⟩ (.n 210 ⟨22,[],[],[],[]⟩ .l .l) .l)) (.n 215 ⟨5,[],[],[],[]⟩ (.n 214 ⟨18,[],[],[],[]⟩ (.n 213 ⟨35,[],[],[],[]⟩ .l .l) .l) (.n 217 ⟨22,[],[],[],[]⟩ (.n 216 ⟨42,[],[],[],[]⟩ .l .l) .l))) (.n 225 ⟨19,[(0,[3,6,7,8])],[(0,[3])],[],[]⟩ (.n 222 ⟨10,[],[],[],[]⟩ (.n 220 ⟨11,[],[],[],[]⟩ (.n 219 ⟨6,[],[],[],[]⟩ .l .l) (.n 221 ⟨32,[],[],[],[]⟩ .l .l)) (.n 224 ⟨38,[],[],[],[]⟩ (.n 223 ⟨16,[],[],[],[]⟩ .l .l) .l)) (.n 228 ⟨13,[],[],[],[]⟩ (.n 227 ⟨140,[(0,[4,5,6,7,8,24,25]),(2,[4,5,6,7,8,9,10,11,24,25]),(5,[4,5,6,7,8,9,10,24,25,89,90])],[(0,[4,8]),(2,[4,5,6,7,8,9,10,11,24,25]),(5,[4,5,6,7,8,9,24,25])],[],[]⟩ (.n 226 ⟨31,[(0,[4,9,10,11]),(2,[4,6,9,10,11,15,16,17])],[(0,[4]),(2,[4,6,9,10,11])],[],[]⟩ .l .l) .l) (.n 230 ⟨11,[],[],[],[]⟩ (.n 229 ⟨32,[],[],[],[]⟩ .l .l) .l)))))) (.n 299 ⟨39,[(0,[0,1,6,7,8])],[(0,[6,7])],[],[]⟩ (.n 273 ⟨18,[],[],[],[]⟩ (.n 246 ⟨6,[],[],[],[]⟩ (.n 238 ⟨3,[],[],[],[]⟩ (.n 235 ⟨35,[],[],[],[]⟩ (.n 233 ⟨33,[(1,[0,1,4,5,6])],[(1,[4,5])],[],[]⟩ (.n 232 ⟨28,[(0,[0,2,3]),(2,[0,2,3])],[(0,[0,2,3]),(2,[0,2,3])],[],[]⟩ .l .l) (.n 234 ⟨33,[(1,[0,1,4,5,6])],[(1,[4,5])],[],[]⟩ .l .l)) (.n 237 ⟨38,[(1,[1,2,3])],[(1,[2])],[],[]⟩ (.n 236 ⟨6,[],[],[],[]⟩ .l .l) .l)) (.n 243 ⟨63,[],[],[],[]⟩ (.n 240 ⟨34,[(0,[0,1,6,7,9,12,13])],[(0,[9])],[],[]⟩ (.n 239 ⟨40,[(0,[1,2,4,5,11,12])],[(0,[4,5])],[],[]⟩ .l .l) (.n 241 ⟨14,[],[],[],[]⟩ .l .l)) (.n 245 ⟨15,[],[],[],[]⟩ (.n 244 ⟨56,[(0,[4,5,6,7,8,9])],[(0,[4,7])],[],[]⟩ .l .l) .l))) (.n 266 ⟨9,[],[],[],[]⟩ (.n 262 ⟨13,[],[],[],[]⟩ (.n 252 ⟨7,[],[],[],[]⟩ (.n 247 ⟨10,[],[],[],[]⟩ .l .l) (.n 261 ⟨19,[(0,[0,3])],[(0,[])],[],[]⟩ .l .l)) (.n 264 ⟨63,[],[],[],[]⟩ (.n 263 ⟨96,[],[],[],[]⟩ .l .l) .l)) (.n 269 ⟨14,[],[],[],[]⟩ (.n 268 ⟨14,[],[],[],[]⟩ (.n 267 ⟨55,[],[],[],[]⟩ .l .l) .l) (.n 272 ⟨17,[(0,[0,3])],[(0,[0])],[],[]⟩ (.n 271 ⟨9,[],[],[],[]⟩ .l .l) .l)))) (.n 286 ⟨14,[],[],[],[]⟩ (.n 280 ⟨57,[],[],[],[]⟩ (.n 277 ⟨61,[],[],[],[]⟩ (.n 275 ⟨19,[(0,[0,1])],[(0,[0])],[],[]⟩ (.n 274 ⟨25,[],[],[],[]⟩ .l .l) (.n 276 ⟨54,[],[],[],[]⟩ .l .l)) (.n 279 ⟨40,[],[],[],[]⟩ (.n 278 ⟨16,[],[],[],[]⟩ .l .l) .l)) (.n 283 ⟨13,[],[],[],[]⟩ (.n 282 ⟨39,[(1,[1,3,4])],[(1,[1,3])],[],[]⟩ (.n 281 ⟨25,[(0,[0,2,3,4])],[(0,[2,3,4])],[],[]⟩ .l .l) .l) (.n 285 ⟨9,[],[],[],[]⟩ (.n 284 ⟨7,[],[],[],[]⟩ .l .l) .l))) (.n 293 ⟨72,[(0,[0,1,5,6]),(2,[0,1,5,6,7,8])],[(0,[5]),(2,[0,1,5,6,7])],[],[]⟩ (.n 290 ⟨20,[(0,[0,3,4])],[(0,[3])],[],[]⟩ (.n 288 ⟨40,[(1,[0,2,3,4])],[(1,[0,2,3,4])],[],[]⟩ (.n 287 ⟨20,[(0,[0,3])],[(0,[])],[],[]⟩ .l .l) (.n 289 ⟨206,[(2,[0,8,9,10,11]),(4,[8,9,10,11,12,13]),(6,[8,9,10,11,12,13,14,15,16]),(10,[8,9,10,11,12,13,14,19,20])],[(2,[8,9,10,11]),(4,[8,10,11,12]),(6,[8,9,10,11,12,13,14,15]),(10,[8,9,10,11,12,13,14,19])],[(5,.heap)],[]⟩ .l .l)) (.n 292 ⟨25,[(0,[0,1,5])],[(0,[5])],[],[]⟩ (.n 291 ⟨12,[(0,[0,1])],[(0,[0])],[],[]⟩ .l .l) .l)) (.n 296 ⟨41,[(2,[0,1,5])],[(2,[])],[],[]⟩ (.n 295 ⟨42,[(0,[0,1,5,6,7])],[(0,[5])],[],[]⟩ (.n 294 ⟨15,[],[],[],[]⟩ .l .l) .l) (.n 298 ⟨9,[],[],[],[]⟩ (.n 297 ⟨35,[(0,[0,1,5,6,7])],[(0,[5])],[],[]⟩ .l .l) .l))))) (.n 436 ⟨39,[],[],[],[]⟩ (.n 395 ⟨30,[],[],[],[]⟩ (.n 336 ⟨17,[],[],[],[]⟩ (.n 315 ⟨9,[],[],[],[]⟩ (.n 301 ⟨77,[(0,[0,1,2,7,9,10])],[(0,[9])],[],[]⟩ (.n 300 ⟨21,[(0,[0])],[(0,[0])],[],[]⟩ .l .l) (.n 302 ⟨13,[],[],[],[]⟩ .l .l)) (.n 319 ⟨5,[],[],[],[]⟩ (.n 316 ⟨16,[(0,[0,3])],[(0,[])],[],[]⟩ .l .l) .l)) (.n 359 ⟨31,[],[],[],[]⟩ (.n 339 ⟨29,[],[],[],[]⟩ (.n 338 ⟨8,[],[],[],[]⟩ .l .l) .l) (.n 393 ⟨16,[(0,[0,3])],[(0,[])],[],[]⟩ (.n 389 ⟨27,[(1,[0,1,5])],[(1,[5])],[],[]⟩ .l .l) .l))) (.n 419 ⟨21,[],[],[],[]⟩ (.n 402 ⟨17,[],[],[],[]⟩ (.n 400 ⟨9,[],[],[],[]⟩ (.n 396 ⟨30,[],[],[],[]⟩ .l .l) (.n 401 ⟨9,[],[],[],[]⟩ .l .l)) (.n 418 ⟨129,[],[],[],[]⟩ (.n 415 ⟨19,[(0,[0,3])],[(0,[])],[],[]⟩ .l .l) .l)) (.n 424 ⟨17,[],[],[],[]⟩ (.n 422 ⟨13,[],[],[],[]⟩ (.n 420 ⟨19,[],[],[],[]⟩ .l .l) .l) (.n 435 ⟨7,[],[],[],[]⟩ (.n 434 ⟨240,[],[],[],[]⟩ .l .l) .l)))) (.n 449 ⟨11,[],[],[],[]⟩ (.n 443 ⟨16,[],[],[],[]⟩ (.n 440 ⟨25,[],[],[],[]⟩ (.n 438 ⟨11,[],[],[],[]⟩ (.n 437 ⟨11,[],[],[],[]⟩ .l .l) (.n 439 ⟨11,[],[],[],[]⟩ .l .l)) (.n 442 ⟨16,[],[],[],[]⟩ (.n 441 ⟨28,[],[],[],[]⟩ .l .l) .l)) (.n 446 ⟨33,[(0,[0,3,4]),(2,[0,3,4])],[(0,[0,3,4]),(2,[3])],[],[]⟩ (.n 445 ⟨27,[],[],[],[]⟩ (.n 444 ⟨27,[],[],[],[]⟩ .l .l) .l) (.n 448 ⟨11,[],[],[],[]⟩ (.n 447 ⟨35,[(0,[0,2,3,4])],[(0,[2,3])],[],[]⟩ .l .l) .l))) (.n 456 ⟨10,[],[],[],[]⟩ (.n 453 ⟨150,[],[],[],[]⟩ (.n 451 ⟨20,[],[],[],[]⟩ (.n 450 ⟨146,[],[],[],[]⟩ .l .l) (.n 452 ⟨17,[],[],[],[]⟩ .l .l)) (.n 455 ⟨10,[],[],[],[]⟩ (.n 454 ⟨34,[],[],[],[]⟩ .l .l) .l)) (.n 465 ⟨150,[],[],[],[]⟩ (.n 458 ⟨28,[],[],[],[]⟩ (.n 457 ⟨16,[],[],[],[]⟩ .l .l) .l) (.n 467 ⟨17,[],[],[],[]⟩ (.n 466 ⟨15,[],[],[],[]⟩ .l .l) .l)))))))
def ayj:LF aj cy=true:=by decide+kernel
noncomputable def cc (i:Nat):aI:=match (Tryz.prog.funcs[AB aj i]?).bind (Gu Tryz.prog (PU cy hd i)) with
 | some F=>F
 | none=>⟨[],.skip⟩
end zq
end
end VE
