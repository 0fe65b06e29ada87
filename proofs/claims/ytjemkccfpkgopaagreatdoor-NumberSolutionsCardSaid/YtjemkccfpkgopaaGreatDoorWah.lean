import Derived.Test.YtjemkccfpkgopaaGreatDoorProg
import Derived.KernelRfl
import Derived.Test.YtjemkccfpkgopaaGreatDoorWag
import Derived.Test.YtjemkccfpkgopaaGreatDoorWaa
import Derived.Test.YtjemkccfpkgopaaGreatDoorWad
set_option linter.all false
set_option maxRecDepth 100000
open Bool renaming and_eq_true→yg,false_eq_true→yI
open Go renaming FloatKind→ub,IntKind→y7,Program→y5
open List renaming mem_cons→wP,mem_cons_of_mem→we,mem_cons_self→wF
open Nat renaming beq→yv,blt→yQ,eq_of_beq_eq_true→yp
open Option.some renaming injEq→yd
namespace VE
section
def EO:VC:=.g [qT 37 36 35] (.q (.cond (.t 37) .skip (.exit 0)) (.q (.aF 1 (.g [qm 38 36,qi 39 1 34 36,ql 40 1 39,qm 8 38,qm 9 40] (.aJ [qm 41 7,qm 42 9,qm 43 1,qm 44 8,qi 45 1 43 44,ql 46 1 45,aT 47 62 46,Rq 48 (.cW 1 4 [.i 0,.aa,.i 0,.aa] [(0,4,.t 47)]),Rq 49 (.aR 4 64 (.t 42) (.t 48)),Rq 50 (.cW 1 1 [.aa] [(0,1,.t 49)]),Rq 51 (.aR 1 24 (.t 41) (.t 50)),qm 7 51]))) (.aJ [qa 52 36 1,qm 36 52])))
def CO:VC:=.g [qT 79 78 77] (.q (.cond (.t 79) .skip (.exit 2)) (.q (.aF 3 (.g [qi 80 1 76 78,ql 81 1 80,qm 15 81] (.aJ [qm 82 13,qm 83 15,qm 84 10,qi 85 4 83 84,qL 86 4 85,Rq 87 (.cW 1 4 [.i 0,.aa,.i 0,.aa] [(0,4,.t 86)]),Rq 88 (.aR 4 64 (.t 82) (.t 87)),qm 13 88]))) (.aJ [qa 89 78 1,qm 78 89])))
def oc:aV:=⟨[.t 4,.t 5],.g [qz 4,qk 5 0] (.q (.g [qm 18 0,aT 19 84 18,qm 20 1,aT 21 161 20,qm 22 1,qn 23 1 22,qm 24 0,qn 25 1 24,Rq 26 (.z .neq 23 25),Rq 27 (.q 124 [.t 26,.k 2]),Rq 28 (.cW 3 1 [.i 0,.i 0,.i 0] [(0,1,.t 19),(1,1,.t 21),(2,1,.t 27)]),aT 29 125 28,qm 6 29] (.g [qm 30 6,qN 31 30 0] (.i 31 (.e [qm 32 6,qz 4,qm 5 32])))) (.g [qz 7] (.q (.g [qm 33 0,aT 34 225 33,qn 35 1 34,qk 36 0] (.q (.aF 0 (.loop [0,1,7,34,35,36] EO)) (.kp [0,7]))) (.g [qm 53 0,Rq 54 (.aY 1 (.t 53) (.k 0)),ql 55 1 54,qn 56 1 55,qm 10 56] (.g [qm 58 7,aT 59 227 58,qm 57 59,qe 60 0 57,qe 61 1 57,qm 11 60,qm 12 61] (.h [qm 62 12,qn 63 1 62,qm 64 10,Rq 65 (.z .neq 63 64),qm 66 65,Rf 67 66 (.m 12),Rf 68 66 (.m 10),Rf 69 66 (.y .sub 68 1),Rf 70 66 (.aY 1 (.t 67) (.t 69)),Rf 71 66 (.ld 1 false (.t 70)),Rf 72 66 (.m 10),Rf 73 66 (.y .sub 72 1),Rf 74 66 (.z .neq 71 73),qp 75 66 74] 75 (.e [qz 4,qk 5 14]) (.g [qz 13]
 (.q (.g [qm 76 11,qn 77 1 76,qk 78 0] (.q (.aF 2 (.loop [10,13,76,77,78] CO)) (.kp [13]))) (.q (.q (.fz [13]) (.aJ [qm 91 13,Rq 92 (.cW 1 1 [.aa] [(0,1,.t 91)]),aT 93 226 92,qm 90 93,qe 94 0 90,qe 95 1 90,qm 16 94,qm 17 95])) (.h [qm 96 17,qN 97 96 0] 97 (.e [qm 98 17,qz 4,qm 5 98]) (.e [qm 99 16,Rq 100 (.aY 1 (.t 99) (.k 0)),ql 101 1 100,qm 4 101,qk 5 0])))))))))))⟩
def EP:VC:=.g [qT 9 8 7] (.q (.cond (.t 9) .skip (.exit 0)) (.q (.aF 1 (.g [qi 10 1 6 8,ql 11 1 10,qm 5 11] (.aJ [qm 12 3,qm 13 5,aT 14 88 13,Rq 15 (.cW 1 1 [.aa] [(0,1,.t 14)]),Rq 16 (.aR 1 24 (.t 12) (.t 15)),qm 3 16]))) (.aJ [qa 17 8 1,qm 8 17])))
def Of:aV:=⟨[.t 2],.g [qz 2] (.g [qz 3] (.q (.g [qm 6 0,qn 7 1 6,qk 8 0] (.q (.aF 0 (.loop [3,6,7,8] EP)) (.kp [3]))) (.e [qm 18 3,qm 2 18])))⟩
def CP:VC:=.g [qT 18 17 16] (.q (.cond (.t 18) .skip (.exit 2)) (.q (.aF 3 (.g [qi 19 4 15 17,qL 20 4 19,Rq 8 (.box 4 (.c (.agg [.i 0,.aa,.i 0,.aa]))),qs 4 8 20] (.g [qL 21 4 8,aT 22 107 21] (.i 22 (.e [qz 2,qk 3 4]))))) (.aJ [qa 23 17 1,qm 17 23])))
def EQ:VC:=.g [qT 12 11 10] (.q (.cond (.t 12) .skip (.exit 0)) (.q (.aF 1 (.g [qi 13 1 9 11,ql 14 1 13,qm 6 14] (.q (.g [qm 15 6,qn 16 1 15,qk 17 0] (.q (.aF 2 (.loop [4,6,9,10,11,15,16,17] CP)) (.kp [4,6,9,10,11]))) (.aJ [qm 24 4,qm 25 6,aT 26 123 25,Rq 27 (.cW 1 1 [.aa] [(0,1,.t 26)]),Rq 28 (.aR 1 24 (.t 24) (.t 27)),qm 4 28])))) (.aJ [qa 29 11 1,qm 11 29])))
def Og:aV:=⟨[.t 2,.t 3],.g [qz 2,qk 3 0] (.g [qz 4] (.q (.g [qm 9 0,qn 10 1 9,qk 11 0] (.q (.aF 0 (.loop [4,9,10,11] EQ)) (.kp [4]))) (.e [qm 30 4,qm 2 30,qk 3 0])))⟩
def CQ:VC:=.q (.g [qm 31 11,qm 32 4,qn 33 1 32,qT 34 31 33,qm 35 34,Rt 36 35 (.m 4),Rt 37 35 (.m 11),Rt 38 35 (.aY 1 (.t 36) (.t 37)),Rt 39 35 (.ld 1 false (.t 38)),Rt 40 35 (.m 9),Rt 41 35 (.aY 4 (.t 39) (.t 40)),Rt 42 35 (.ld 4 true (.t 41)),Rt 43 35 (.q 108 [.t 42]),Rt 44 35 (.y .eql 43 0),qq 45 35 44] (.cond (.t 45) .skip (.exit 2))) (.aF 3 (.aJ [qm 46 11,qa 47 46 1,qm 11 47]))
def CR:VC:=.g [qT 91 90 89] (.q (.cond (.t 91) .skip (.exit 4)) (.q (.aF 5 (.g [qm 92 90,qm 12 92] (.g [qm 93 12,qm 94 10,Rq 95 (.z .neq 93 94),qm 96 95,Rt 97 96 (.m 4),Rt 98 96 (.m 12),Rt 99 96 (.aY 1 (.t 97) (.t 98)),Rt 100 96 (.ld 1 false (.t 99)),Rt 101 96 (.m 9),Rt 102 96 (.aY 4 (.t 100) (.t 101)),Rt 103 96 (.ld 4 true (.t 102)),Rt 104 96 (.q 108 [.t 103]),Rt 105 96 (.y .neq 104 0),qq 106 96 105] (.i 106 (.aJ [qm 107 4,qm 108 12,qm 109 5,qm 110 4,qm 111 12,qi 112 1 110 111,ql 113 1 112,qm 114 4,qm 115 10,qi 116 1 114 115,ql 117 1 116,qL 118 4 6,qm 119 4,qm 120 12,qi 121 1 119 120,ql 122 1 121,qm 123 9,qi 124 4 122 123,qL 125 4 124,aT 126 102 125,Rq 127 (.call .pure (.t 109) [.t 113,.t 117,.t 118,.t 126]),qi 128 1 107 108,qs 1 128 127]))))) (.aJ [qa 129 90 1,qm 90 129])))
def ER:VC:=.g [qT 26 25 24] (.q (.cond (.t 26) .skip (.exit 0)) (.q (.aF 1 (.g [qm 27 25,qm 9 27] (.g [qm 28 8,qn 29 1 28,qm 10 29] (.g [qm 30 10,qm 11 30] (.q (.q (.aF 2 (.loop [4,5,6,7,8,9,10,11,24,25] CQ)) (.kp [4,5,6,7,8,9,10,11,24,25])) (.h [qm 48 11,qm 49 4,qn 50 1 49,Rq 51 (.z .geq 48 50)] 51 (.exit 1) (.g [qm 52 4,qm 53 10,qm 54 4,qm 55 11,qm 56 4,qm 57 11,qi 58 1 56 57,ql 59 1 58,qm 60 4,qm 61 10,qi 62 1 60 61,ql 63 1 62,qi 64 1 52 53,qs 1 64 59,qi 65 1 54 55,qs 1 65 63] (.g [qm 66 4,qm 67 10,qm 68 5,qm 69 4,qm 70 10,qi 71 1 69 70,ql 72 1 71,qm 73 4,qm 74 10,qi 75 1 73 74,ql 76 1 75,qm 77 4,qm 78 10,qi 79 1 77 78,ql 80 1 79,qm 81 9,qi 82 4 80 81,qL 83 4 82,aT 84 73 83,qL 85 4 7,Rq 86 (.call .pure (.t 68) [.t 72,.t 76,.t 84,.t 85]),qi 87 1 66 67,qs 1 87 86] (.q (.g [qm 88 4,qn 89 1 88,qk 90 0] (.q (.aF 4 (.loop [4,5,6,7,8,9,10,24,25,89,90] CR)) (.kp [4,5,6,7,8,9,24,25]))) (.aJ [qm
 130 8,qm 131 9,Rq 132 (.cW 1 1 [.i 0] [(0,1,.t 131)]),Rq 133 (.aR 1 8 (.t 130) (.t 132)),qm 8 133])))))))))) (.aJ [qa 134 25 1,qm 25 134])))
def Dm:aV:=⟨[.t 2,.t 3],.g [qz 2,qz 3] (.g [qm 13 0,qn 14 1 13,Rq 15 (.gO 1 24 [.aa] (.t 14) (.t 14)),qm 4 15] (.g [qm 16 4,qm 17 0,Rq 18 (.mD 1 (.t 16) (.t 17))] (.g [Rq 5 (.cz (.F 240))] (.g [Rq 19 (.q 69 [.k 1]),Rq 20 (.q 69 [.k 0]),Rq 6 (.box 4 (.c (.agg [.i 0,.aa,.i 0,.aa]))),Rq 7 (.box 4 (.c (.agg [.i 0,.aa,.i 0,.aa]))),qs 4 6 19,qs 4 7 20] (.g [qz 8] (.q (.g [qm 21 0,Rq 22 (.aY 1 (.t 21) (.k 0)),ql 23 1 22,qn 24 1 23,qk 25 0] (.q (.aF 0 (.loop [4,5,6,7,8,24,25] ER)) (.kp [4,8]))) (.e [qm 135 4,qm 136 8,qn 137 1 136,Rq 138 (.dO (.sl 1) (.t 135) none (some (.t 137))),qm 139 8,qm 2 138,qm 3 139])))))))⟩
def ES:VC:=.g [qT 14 13 12] (.q (.cond (.t 14) .skip (.exit 0)) (.q (.aF 1 (.g [qm 15 13,qm 10 15] (.aJ [qm 16 9,qm 17 0,qm 18 10,qi 19 4 17 18,qL 20 4 19,qL 21 4 6,bj 22 49 20 21,qm 23 1,qm 24 10,qi 25 4 23 24,qL 26 4 25,qL 27 4 7,bj 28 49 26 27,bj 29 74 22 28,Rq 30 (.cW 1 4 [.i 0,.aa,.i 0,.aa] [(0,4,.t 29)]),Rq 31 (.aR 4 64 (.t 16) (.t 30)),qm 9 31]))) (.aJ [qa 32 13 1,qm 13 32])))
def Dn:aV:=⟨[.t 8],.g [qb 6 4 2,qb 7 4 3,qz 8] (.g [qz 9] (.q (.g [qm 11 0,qn 12 1 11,qk 13 0] (.q (.aF 0 (.loop [0,1,6,7,9,12,13] ES)) (.kp [9]))) (.e [qm 33 9,qm 8 33])))⟩
end
section
def ET:VC:=.q (.g [qm 5 3,qm 6 0,qn 7 1 6,qT 8 5 7] (.cond (.t 8) .skip (.exit 0))) (.q (.aF 1 (.g [qm 11 0,qm 12 3,qi 13 1 11 12,ql 14 1 13,aT 15 263 14,qm 4 15] (.g [qm 16 4,qN 17 16 0] (.i 17 (.e [qm 18 4,qm 2 18]))))) (.aJ [qm 9 3,qa 10 9 1,qm 3 10]))
def JG:aV:=⟨[.t 2],.g [qk 2 0] (.q (.g [qk 3 0] (.q (.aF 0 (.loop [0,3] ET)) (.kp []))) (.e [qk 2 0]))⟩
def JH:aV:=⟨[.t 2],.g [qk 2 0] (.h [qm 3 0,Rq 4 (.bin .eql (.t 3) (.s [48]))] 4 (.e [qk 2 0]) (.h [qm 5 0,qn 6 0 5,Rq 7 (.y .gtr 6 0),qm 8 7,Rt 9 8 (.m 0),Rt 10 8 (.kU (.t 9) (.k 0)),Rt 11 8 (.bin .eql (.t 10) (.c (.int .u8 45))),qq 12 8 11] 12 (.e [qk 2 (-1)]) (.e [qk 2 1])))⟩
def dw:aV:=⟨[.t 2],.g [qk 2 0] (.g [qm 8 0,qm 3 8] (.h [qm 9 3,qn 10 0 9,Rq 11 (.y .gtr 10 0),qm 12 11,Rt 13 12 (.m 3),Rt 14 12 (.kU (.t 13) (.k 0)),Rt 15 12 (.bin .eql (.t 14) (.c (.int .u8 45))),qq 16 12 15] 16 (.aJ [qm 17 3,Rq 18 (.dO .str (.t 17) (some (.k 1)) none),qm 3 18]) (.g [qm 19 3,aT 20 272 19,qm 4 20] (.h [qm 21 3,qm 22 4,Rq 23 (.dO .str (.t 21) none (some (.t 22))),aT 24 273 23,Rq 25 (.un .not (.t 24)),qm 26 25,Rf 27 26 (.m 0),Rf 28 26 (.kU (.t 27) (.k 0)),Rf 29 26 (.bin .eql (.t 28) (.c (.int .u8 45))),Rf 30 26 (.m 29),Rt 31 30 (.m 3),Rt 32 30 (.m 4),Rt 33 30 (.dO .str (.t 31) none (some (.t 32))),Rt 34 30 (.bin .eql (.t 33) (.s [48])),Rf 35 26 (.pick (.t 30) (.t 34) (.c (.bool false))),qp 36 26 35] 36 (.e [qk 2 1]) (.h [qm 37 4,qm 38 3,qn 39 0 38,qT 40 37 39,qm 41 40,Rt 42 41 (.m 3),Rt 43 41 (.m 4),Rt 44 41 (.y .add 43 1),Rt 45 41 (.dO .str (.t 42) (some (.t 44)) none),Rt 46
 41 (.q 273 [.t 45]),Rt 47 41 (.un .not (.t 46)),Rt 48 41 (.m 47),Rf 49 48 (.m 3),Rf 50 48 (.m 4),Rf 51 48 (.y .add 50 1),Rf 52 48 (.dO .str (.t 49) (some (.t 51)) none),Rf 53 48 (.bin .eql (.t 52) (.s [48])),Rt 54 41 (.pick (.t 48) (.c (.bool true)) (.t 53)),Rt 55 41 (.m 54),Rf 56 55 (.m 3),Rf 57 55 (.m 4),Rf 58 55 (.y .add 57 1),Rf 59 55 (.dO .str (.t 56) (some (.t 58)) none),Rf 60 55 (.bin .eql (.t 59) (.s [49])),Rt 61 41 (.pick (.t 55) (.c (.bool true)) (.t 60)),qq 62 41 61] 62 (.e [qk 2 1]) (.h [qm 63 4,Rq 64 (.y .gtr 63 600),qm 65 64,Rf 66 65 (.m 3),Rf 67 65 (.len 0 (.t 66)),Rf 68 65 (.m 4),Rf 69 65 (.z .sub 67 68),Rf 70 65 (.y .sub 69 1),Rf 71 65 (.y .gtr 70 600),qp 72 65 71] 72 (.e [qk 2 4]) (.h [qm 73 4,qm 74 3,qn 75 0 74,qT 76 73 75] 76 (.g [qm 78 3,aT 79 274 78,qm 77 79,qe 80 0 77,qe 81 1 77,Rq 5 (.box 2 (.c (.agg [.bool false,.aa]))),Rq 6 (.box 2 (.c (.agg [.bool false,.aa]))),qs
 2 5 80,qs 2 6 81] (.g [qo 82 1 5,ql 83 1 82,qo 84 1 6,ql 85 1 84,bj 86 275 83 85,qm 7 86] (.g [qm 87 7,qn 88 1 87,qN 89 88 1,qm 90 89,Rf 91 90 (.m 7),Rf 92 90 (.aY 1 (.t 91) (.k 0)),Rf 93 90 (.ld 1 false (.t 92)),Rf 94 90 (.y .neq 93 1),qp 95 90 94] (.i 95 (.e [qk 2 1]))))) (.e [qk 2 0]))))))))⟩
def JI:aV:=⟨[.t 4],.g [Rq 4 (.cz (.s []))] (.g [qm 16 0,aT 17 276 16,qm 15 17,qe 18 0 15,qe 19 1 15,qe 20 2 15,qm 5 18,qm 6 19,qm 7 20] (.g [qm 22 1,aT 23 276 22,qm 21 23,qe 24 0 21,qe 25 1 21,qe 26 2 21,qm 8 24,qm 9 25,qm 10 26] (.h [qm 27 7,qm 28 27,Rt 29 28 (.m 10),qq 30 28 29] 30 (.e [qm 31 5,qm 32 9,Rq 33 (.z .mul 31 32),qm 34 8,qm 35 6,Rq 36 (.z .mul 34 35),qA 37 33 36,qm 38 6,qm 39 9,Rq 40 (.z .mul 38 39),bj 41 277 37 40,qm 4 41]) (.g [qm 43 0,aT 44 274 43,qm 42 44,qe 45 0 42,qe 46 1 42,Rq 11 (.box 2 (.c (.agg [.bool false,.aa]))),Rq 12 (.box 2 (.c (.agg [.bool false,.aa]))),qs 2 11 45,qs 2 12 46] (.g [qm 48 1,aT 49 274 48,qm 47 49,qe 50 0 47,qe 51 1 47,Rq 13 (.box 2 (.c (.agg [.bool false,.aa]))),Rq 14 (.box 2 (.c (.agg [.bool false,.aa]))),qs 2 13 50,qs 2 14 51] (.e [qL 52 2 11,qL 53 2 14,bj 54 278 52 53,qL 55 2 13,qL 56 2 12,bj 57 278 55 56,bj 58 279 54 57,qL 59 2 12,qL 60
 2 14,bj 61 278 59 60,bj 62 280 58 61,qm 4 62]))))))⟩
def JJ:aV:=⟨[.t 4],.g [Rq 4 (.cz (.s []))] (.g [qm 16 0,aT 17 276 16,qm 15 17,qe 18 0 15,qe 19 1 15,qe 20 2 15,qm 5 18,qm 6 19,qm 7 20] (.g [qm 22 1,aT 23 276 22,qm 21 23,qe 24 0 21,qe 25 1 21,qe 26 2 21,qm 8 24,qm 9 25,qm 10 26] (.h [qm 27 7,qm 28 27,Rt 29 28 (.m 10),qq 30 28 29] 30 (.e [qm 31 5,qm 32 8,Rq 33 (.z .mul 31 32),qm 34 6,qm 35 9,Rq 36 (.z .mul 34 35),bj 37 277 33 36,qm 4 37]) (.g [qm 39 0,aT 40 274 39,qm 38 40,qe 41 0 38,qe 42 1 38,Rq 11 (.box 2 (.c (.agg [.bool false,.aa]))),Rq 12 (.box 2 (.c (.agg [.bool false,.aa]))),qs 2 11 41,qs 2 12 42] (.g [qm 44 1,aT 45 274 44,qm 43 45,qe 46 0 43,qe 47 1 43,Rq 13 (.box 2 (.c (.agg [.bool false,.aa]))),Rq 14 (.box 2 (.c (.agg [.bool false,.aa]))),qs 2 13 46,qs 2 14 47] (.e [qL 48 2 11,qL 49 2 13,bj 50 278 48 49,qL 51 2 12,qL 52 2 14,bj 53 278 51 52,bj 54 280 50 53,qm 4 54]))))))⟩
def JK:aV:=⟨[.t 2],.g [Rq 2 (.cz (.s []))] (.h [qm 3 0,aT 4 262 3,Rq 5 (.y .lss 4 0)] 5 (.e [qm 6 0,Rq 7 (.dO .str (.t 6) (some (.k 1)) none),qm 2 7]) (.h [qm 8 0,aT 9 262 8,qE 10 9 0] 10 (.e [qm 11 0,qm 2 11]) (.e [qm 12 0,Rq 13 (.bin .add (.s [45]) (.t 12)),qm 2 13])))⟩
def JL:aV:=⟨[.t 2],.g [qk 2 0] (.h [qm 3 0,aT 4 284 3,aT 5 285 4,qn 6 0 5,Rq 7 (.y .gtr 6 600),qm 8 7,Rf 9 8 (.m 0),Rf 10 8 (.q 286 [.t 9]),Rf 11 8 (.len 0 (.t 10)),Rf 12 8 (.y .gtr 11 600),qp 13 8 12] 13 (.e [qk 2 4]) (.e [qk 2 0]))⟩
def Uj:aV:=⟨[.t 4],.g [Rq 4 (.cz (.s []))] (.e [qm 5 0,qm 6 1,aT 7 268 6,bj 8 264 5 7,qm 4 8])⟩
def EU:VC:=.q (.g [qm 4 3,qm 5 0,qn 6 0 5,qT 7 4 6] (.cond (.t 7) .skip (.exit 0))) (.q (.aF 1 (.g [qm 10 0,qm 11 3,Rq 12 (.kU (.t 10) (.t 11)),Rq 13 (.bin .eql (.t 12) (.c (.int .u8 47)))] (.i 13 (.e [qm 14 3,qm 2 14])))) (.aJ [qm 8 3,qa 9 8 1,qm 3 9]))
def JM:aV:=⟨[.t 2],.g [qk 2 0] (.q (.g [qk 3 0] (.q (.aF 0 (.loop [0,3] EU)) (.kp [0]))) (.e [qm 15 0,qn 16 0 15,qm 2 16]))⟩
def Dp:aV:=⟨[.t 2],.g [qf 2] (.h [qm 3 0,qn 4 0 3,qE 5 4 0,qm 6 5,Rf 7 6 (.m 0),Rf 8 6 (.len 0 (.t 7)),Rf 9 6 (.y .gtr 8 1),Rf 10 6 (.m 9),Rt 11 10 (.m 0),Rt 12 10 (.kU (.t 11) (.k 0)),Rt 13 10 (.bin .eql (.t 12) (.c (.int .u8 48))),Rf 14 6 (.pick (.t 10) (.t 13) (.c (.bool false))),qp 15 6 14] 15 (.e [qf 2]) (.e [qm 16 0,aT 17 287 16,qm 2 17]))⟩
def Oh:aV:=⟨[.cell 2 2 true,.cell 3 2 true],.g [Rq 2 (.box 2 (.c (.agg [.bool false,.aa]))),Rq 3 (.box 2 (.c (.agg [.bool false,.aa])))] (.g [qm 6 0,qm 4 6] (.g [qm 7 4,aT 8 272 7,qm 5 8] (.h [qm 9 5,qm 10 4,qn 11 0 10,Rq 12 (.z .eql 9 11)] 12 (.e [qm 13 4,aT 14 288 13,Rq 15 (.q 281 [.k 1]),qs 2 2 14,qs 2 3 15]) (.e [qm 16 4,qm 17 5,Rq 18 (.dO .str (.t 16) none (some (.t 17))),aT 19 288 18,qm 20 4,qm 21 5,qa 22 21 1,Rq 23 (.dO .str (.t 20) (some (.t 22)) none),aT 24 288 23,qs 2 2 19,qs 2 3 24]))))⟩
def IQ:VC:=.q (.g [qm 7 1,qn 8 1 7,Rq 9 (.y .gtr 8 0)] (.cond (.t 9) .skip (.exit 0))) (.aF 1 (.g [qm 11 0,qm 12 1,bj 13 289 11 12,qm 10 13,qe 14 0 10,qe 15 1 10,qm 5 14,qm 6 15] (.aJ [qm 16 1,qm 17 6,qm 0 16,qm 1 17])))
def Oi:aV:=⟨[.t 4],.g [qz 4] (.q (.q (.aF 0 (.loop [0,1] IQ)) (.kp [0])) (.e [qm 18 0,qm 4 18]))⟩
def pK:aV:=⟨[.t 2,.t 3,.t 4],.g [qk 2 0,qk 3 0,qf 4] (.g [qm 10 0,qm 5 10] (.h [qm 11 5,qn 12 0 11,Rq 13 (.y .gtr 12 20)] 13 (.e [qk 2 0,qk 3 0,qf 4]) (.g [qm 14 5,qn 15 0 14,Rq 16 (.y .gtr 15 0),qm 17 16,Rt 18 17 (.m 5),Rt 19 17 (.kU (.t 18) (.k 0)),Rt 20 17 (.bin .eql (.t 19) (.c (.int .u8 45))),qq 21 17 20,qm 6 21] (.h [qm 22 6] 22 (.aJ [qm 23 5,Rq 24 (.dO .str (.t 23) (some (.k 1)) none),qm 5 24]) (.g [qm 25 5,aT 26 272 25,qm 7 26] (.h [qm 27 7,Rq 28 (.y .gtr 27 9),qm 29 28,Rf 30 29 (.m 5),Rf 31 29 (.len 0 (.t 30)),Rf 32 29 (.m 7),Rf 33 29 (.z .sub 31 32),Rf 34 29 (.y .gtr 33 10),qp 35 29 34] 35 (.e [qk 2 0,qk 3 0,qf 4]) (.g [qm 36 5,qm 37 7,Rq 38 (.dO .str (.t 36) none (some (.t 37))),aT 39 290 38,qm 8 39,qk 9 1] (.h [qm 40 7,qm 41 5,qn 42 0 41,qT 43 40 42] 43 (.aJ [qm 44 5,qm 45 7,qa 46 45 1,Rq 47 (.dO .str (.t 44) (some (.t 46)) none),aT 48 290 47,qm 9 48]) (.h [qm 49 6] 49 (.aJ [qm
 50 8,Rq 51 (.bin .sub (.k 0) (.t 50)),qm 8 51]) (.e [qm 52 8,qm 53 9,qm 2 52,qm 3 53,Rq 4 (.cz (.c (.bool true)))]))))))))))⟩
def Dq:aV:=⟨[.t 4],.g [Rq 4 (.cz (.s []))] (.h [qm 7 0,Rq 8 (.y .lss 7 (-4000000000000000000)),qm 9 8,Rf 10 9 (.m 0),Rf 11 9 (.y .gtr 10 4000000000000000000),qp 12 9 11,qm 13 12,Rf 14 13 (.m 1),Rf 15 13 (.y .lss 14 (-4000000000000000000)),qp 16 13 15,qm 17 16,Rf 18 17 (.m 1),Rf 19 17 (.y .gtr 18 4000000000000000000),qp 20 17 19] 20 (.e [qm 21 0,aT 22 281 21,qm 23 1,aT 24 281 23,bj 25 280 22 24,qm 4 25]) (.h [qm 26 1,Rq 27 (.y .lss 26 0)] 27 (.aJ [qm 28 0,Rq 29 (.bin .sub (.k 0) (.t 28)),qm 30 1,Rq 31 (.bin .sub (.k 0) (.t 30)),qm 0 29,qm 1 31]) (.g [qm 32 0,qm 33 0,Rq 34 (.bin .sub (.k 0) (.t 33)),Rq 35 (.mx [.t 32,.t 34]),qm 36 1,bj 37 291 35 36,qm 5 37] (.g [qm 38 0,qm 39 5,Rq 40 (.z .quo 38 39),qm 41 1,qm 42 5,Rq 43 (.z .quo 41 42),qm 0 40,qm 1 43] (.g [Rq 6 (.cz (.s []))] (.h [qm 44 0,Rq 45 (.y .lss 44 0)] 45 (.aJ [Rq 6 (.cz (.s [45]))]) (.g [qm 46 6,qm 47 0,qm 48 0,Rq 49 (.bin .sub (.k
 0) (.t 48)),Rq 50 (.mx [.t 47,.t 49]),Rq 51 (.q 292 [.t 50,.k 1]),qA 52 46 51,qm 6 52] (.h [qm 53 1,Rq 54 (.y .gtr 53 1)] 54 (.aJ [qm 55 6,Rq 56 (.bin .add (.t 55) (.s [47])),qm 57 1,Rq 58 (.q 292 [.t 57,.k 1]),qA 59 56 58,qm 6 59]) (.e [qm 60 6,qm 4 60])))))))))⟩
def Oj:aV:=⟨[.cell 4 2 true],.g [qb 2 2 0,qb 3 2 1,Rq 4 (.box 2 (.c (.agg [.bool false,.aa])))] (.e [qo 5 0 2,ql 6 1 5,qo 7 0 3,ql 8 1 7,Rq 9 (.eq true .b (.t 6) (.t 8)),qo 10 1 2,ql 11 1 10,qo 12 1 3,ql 13 1 12,bj 14 293 11 13,bj 15 294 9 14,qs 2 4 15])⟩
def Fw:aV:=⟨[.cell 4 2 true],.g [qb 2 2 0,qb 3 2 1,Rq 4 (.box 2 (.c (.agg [.bool false,.aa])))] (.h [qo 5 0 2,ql 6 1 5,qo 7 0 3,ql 8 1 7,Rq 9 (.eq false .b (.t 6) (.t 8))] 9 (.e [qo 10 0 2,ql 11 1 10,qo 12 1 2,ql 13 1 12,qo 14 1 3,ql 15 1 14,bj 16 295 13 15,bj 17 294 11 16,qs 2 4 17]) (.h [qo 18 1 2,ql 19 1 18,qo 20 1 3,ql 21 1 20,bj 22 296 19 21,Rq 23 (.y .geq 22 0)] 23 (.e [qo 24 0 2,ql 25 1 24,qo 26 1 2,ql 27 1 26,qo 28 1 3,ql 29 1 28,bj 30 297 27 29,bj 31 294 25 30,qs 2 4 31]) (.e [qo 32 0 3,ql 33 1 32,qo 34 1 3,ql 35 1 34,qo 36 1 2,ql 37 1 36,bj 38 297 35 37,bj 39 294 33 38,qs 2 4 39])))⟩
def od:aV:=⟨[.t 4],.g [qb 2 2 0,qb 3 2 1,Rq 4 (.cz (.s []))] (.h [qo 11 0 3,ql 12 1 11] 12 (.aJ [qL 13 2 2,aT 14 298 13,qL 15 2 3,aT 16 298 15,qs 2 2 14,qs 2 3 16]) (.g [qo 17 1 2,ql 18 1 17,qo 19 1 3,ql 20 1 19,bj 21 275 18 20,qm 5 21] (.g [qo 23 1 2,ql 24 1 23,qm 25 5,bj 26 289 24 25,qm 22 26,qe 27 0 22,qe 28 1 22,qm 6 27,qm 7 28] (.g [qo 30 1 3,ql 31 1 30,qm 32 5,bj 33 289 31 32,qm 29 33,qe 34 0 29,qe 35 1 29,qm 8 34,qm 9 35] (.g [qo 36 0 2,ql 37 1 36,qm 38 6,bj 39 294 37 38,aT 40 282 39,qm 10 40] (.h [qm 41 8,qn 42 1 41,qE 43 42 1,qm 44 43,Rt 45 44 (.m 8),Rt 46 44 (.aY 1 (.t 45) (.k 0)),Rt 47 44 (.ld 1 false (.t 46)),Rt 48 44 (.y .eql 47 1),qq 49 44 48] 49 (.e [qm 50 10,qm 4 50]) (.e [qm 51 10,Rq 52 (.bin .add (.t 51) (.s [47])),qm 53 8,Rq 54 (.q 294 [.c (.bool false),.t 53]),aT 55 282 54,qA 56 52 55,qm 4 56])))))))⟩
def ahS:VC:=.q (.g [qm 8 0,qN 9 8 0] (.cond (.t 9) .skip (.exit 0))) (.aF 1 (.g [qm 10 0,Rq 11 (.y .rem 10 1000000000),qm 5 11] (.h [qm 12 5,Rq 13 (.y .lss 12 0)] 13 (.aJ [qm 14 5,Rq 15 (.bin .sub (.k 0) (.t 14)),qm 5 15]) (.g [qm 16 3,qm 17 5,Rq 18 (.cW 1 1 [.i 0] [(0,1,.t 17)]),Rq 19 (.aR 1 8 (.t 16) (.t 18)),qm 3 19] (.aJ [qm 20 0,Rq 21 (.y .quo 20 1000000000),qm 0 21])))))
def Uk:aV:=⟨[.cell 2 2 true],.g [Rq 2 (.box 2 (.c (.agg [.bool false,.aa])))] (.g [qz 3] (.g [qm 6 0,Rq 7 (.y .lss 6 0),qm 4 7] (.q (.q (.aF 0 (.loop [0,2,3,4] ahS)) (.kp [2,3,4])) (.e [qm 22 4,qm 23 3,bj 24 294 22 23,qs 2 2 24]))))⟩
def IR:VC:=.q (.g [qm 22 4,Rq 23 (.y .geq 22 0)] (.cond (.t 23) .skip (.exit 0))) (.q (.aF 1 (.aJ [qm 26 3,qo 27 1 1,ql 28 1 27,qm 29 4,qi 30 1 28 29,ql 31 1 30,Rq 32 (.q 292 [.t 31,.k 9]),qA 33 26 32,qm 3 33])) (.aJ [qm 24 4,Rq 25 (.y .sub 24 1),qm 4 25]))
def JN:aV:=⟨[.t 2],.g [qb 1 2 0,Rq 2 (.cz (.s []))] (.h [qo 5 1 1,ql 6 1 5,qn 7 1 6,qE 8 7 0] 8 (.e [Rq 2 (.cz (.s [48]))]) (.g [qo 9 1 1,ql 10 1 9,qo 11 1 1,ql 12 1 11,qn 13 1 12,Rq 14 (.y .sub 13 1),qi 15 1 10 14,ql 16 1 15,Rq 17 (.q 292 [.t 16,.k 1]),qm 3 17] (.q (.g [qo 18 1 1,ql 19 1 18,qn 20 1 19,Rq 21 (.y .sub 20 2),qm 4 21] (.q (.aF 0 (.loop [1,3,4] IR)) (.kp [1,3]))) (.h [qo 34 0 1,ql 35 1 34] 35 (.e [qm 36 3,Rq 37 (.bin .add (.s [45]) (.t 36)),qm 2 37]) (.e [qm 38 3,qm 2 38])))))⟩
def Ok:aV:=⟨[.t 2],.g [Rq 2 (.cz (.s []))] (.g [qm 6 0,aT 7 274 6,qm 5 7,qe 8 0 5,qe 9 1 5,Rq 3 (.box 2 (.c (.agg [.bool false,.aa]))),Rq 4 (.box 2 (.c (.agg [.bool false,.aa]))),qs 2 3 8,qs 2 4 9] (.e [qL 10 2 4,qL 11 2 3,bj 12 280 10 11,qm 2 12]))⟩
def Ul:aV:=⟨[.t 2],.g [Rq 2 (.cz (.s []))] (.e [qm 3 0,qm 4 0,aT 5 272 4,Rq 6 (.dO .str (.t 3) none (some (.t 5))),qm 2 6])⟩
def Ol:aV:=⟨[.t 2],.g [Rq 2 (.cz (.s []))] (.h [qm 3 0,aT 4 262 3,Rq 5 (.y .lss 4 0)] 5 (.e [qm 6 0,Rq 7 (.dO .str (.t 6) (some (.k 1)) none),qm 2 7]) (.e [qm 8 0,qm 2 8]))⟩
def Om:aV:=⟨[.t 2],.g [Rq 2 (.cz (.s []))] (.g [qm 4 0,aT 5 272 4,qm 3 5] (.h [qm 6 3,qm 7 0,qn 8 0 7,Rq 9 (.z .eql 6 8)] 9 (.e [Rq 2 (.cz (.s [49]))]) (.e [qm 10 0,qm 11 3,qa 12 11 1,Rq 13 (.dO .str (.t 10) (some (.t 12)) none),qm 2 13])))⟩
def CS:VC:=.q (.g [qm 4 3,qm 5 0,qn 6 0 5,qT 7 4 6] (.cond (.t 7) .skip (.exit 0))) (.q (.aF 1 (.g [qm 10 0,qm 11 3,Rq 12 (.kU (.t 10) (.t 11)),Rq 13 (.bin .lss (.t 12) (.c (.int .u8 48))),qm 14 13,Rf 15 14 (.m 0),Rf 16 14 (.m 3),Rf 17 14 (.kU (.t 15) (.t 16)),Rf 18 14 (.bin .gtr (.t 17) (.c (.int .u8 57))),qp 19 14 18] (.i 19 (.e [qf 2])))) (.aJ [qm 8 3,qa 9 8 1,qm 3 9]))
def JO:aV:=⟨[.t 2],.g [qf 2] (.q (.g [qk 3 0] (.q (.aF 0 (.loop [0,3] CS)) (.kp []))) (.e [Rq 2 (.cz (.c (.bool true)))]))⟩
def zB:VC:=.q (.g [qm 16 0,qn 17 0 16,Rq 18 (.y .gtr 17 9)] (.cond (.t 18) .skip (.exit 0))) (.aF 1 (.g [qm 19 4,qm 20 0,qm 21 0,qn 22 0 21,Rq 23 (.y .sub 22 9),Rq 24 (.dO .str (.t 20) (some (.t 23)) none),aT 25 290 24,Rq 26 (.cW 1 1 [.i 0] [(0,1,.t 25)]),Rq 27 (.aR 1 8 (.t 19) (.t 26)),qm 4 27] (.aJ [qm 28 0,qm 29 0,qn 30 0 29,Rq 31 (.y .sub 30 9),Rq 32 (.dO .str (.t 28) none (some (.t 31))),qm 0 32])))
def On:aV:=⟨[.cell 2 2 true],.g [Rq 2 (.box 2 (.c (.agg [.bool false,.aa])))] (.g [qm 5 0,qn 6 0 5,Rq 7 (.y .gtr 6 0),qm 8 7,Rt 9 8 (.m 0),Rt 10 8 (.kU (.t 9) (.k 0)),Rt 11 8 (.bin .eql (.t 10) (.c (.int .u8 45))),qq 12 8 11,qm 3 12] (.h [qm 13 3] 13 (.aJ [qm 14 0,Rq 15 (.dO .str (.t 14) (some (.k 1)) none),qm 0 15]) (.g [qz 4] (.q (.q (.aF 0 (.loop [0,2,3,4] zB)) (.kp [0,2,3,4])) (.e [qm 33 3,qm 34 4,qm 35 0,aT 36 290 35,Rq 37 (.cW 1 1 [.i 0] [(0,1,.t 36)]),Rq 38 (.aR 1 8 (.t 34) (.t 37)),bj 39 294 33 38,qs 2 2 39])))))⟩
def IS:VC:=.q (.g [qm 63 11,qn 64 1 63,qm 65 0,qn 66 1 65,qa 67 66 1,qT 68 64 67] (.cond (.t 68) .skip (.exit 0))) (.aF 1 (.aJ [qm 69 11,Rq 70 (.cW 1 1 [.i 0] [(0,1,.k 0)]),Rq 71 (.aR 1 8 (.t 69) (.t 70)),qm 11 71]))
def EV:VC:=.q (.g [qm 90 16,qm 91 10,qT 92 90 91] (.cond (.t 92) .skip (.exit 4))) (.q (.aF 5 (.g [qm 95 14,qm 96 9,qm 97 16,qi 98 1 96 97,ql 99 1 98,Rq 100 (.z .mul 95 99),qm 101 15,qA 102 100 101,qm 17 102] (.g [qm 103 11,qm 104 16,qm 105 13,qA 106 104 105,qi 107 1 103 106,ql 108 1 107,qm 109 17,Rq 110 (.y .rem 109 1000000000),Rq 111 (.z .sub 108 110),qm 18 111] (.g [qm 112 17,Rq 113 (.y .quo 112 1000000000),qm 15 113] (.h [qm 114 18,Rq 115 (.y .lss 114 0)] 115 (.g [qm 116 18,qa 117 116 1000000000,qm 18 117] (.aJ [qm 118 15,qa 119 118 1,qm 15 119])) (.aJ [qm 120 11,qm 121 16,qm 122 13,qA 123 121 122,qm 124 18,qi 125 1 120 123,qs 1 125 124])))))) (.aJ [qm 93 16,qa 94 93 1,qm 16 94]))
def IT:VC:=.q (.g [qm 148 20,qm 149 10,qT 150 148 149] (.cond (.t 150) .skip (.exit 6))) (.q (.aF 7 (.g [qm 153 11,qm 154 20,qm 155 13,qA 156 154 155,qi 157 1 153 156,ql 158 1 157,qm 159 9,qm 160 20,qi 161 1 159 160,ql 162 1 161,qA 163 158 162,qm 164 19,qA 165 163 164,qm 21 165] (.g [qm 166 11,qm 167 20,qm 168 13,qA 169 167 168,qm 170 21,Rq 171 (.y .rem 170 1000000000),qi 172 1 166 169,qs 1 172 171] (.aJ [qm 173 21,Rq 174 (.y .quo 173 1000000000),qm 19 174])))) (.aJ [qm 151 20,qa 152 151 1,qm 20 152]))
def IU:VC:=.q (.g [qm 82 13,Rq 83 (.y .geq 82 0)] (.cond (.t 83) .skip (.exit 2))) (.q (.aF 3 (.g [qm 86 11,qm 87 9,qm 88 13,Rq 89 (.call .heap (.F 301) [.t 86,.t 87,.t 88]),qm 14 89] (.g [qk 15 0] (.q (.g [qk 16 0] (.q (.aF 4 (.loop [8,9,10,11,12,13,14,15,16] EV)) (.kp [8,9,10,11,12,13,14,15]))) (.g [qm 126 11,qm 127 13,qm 128 10,qA 129 127 128,qm 130 11,qm 131 13,qm 132 10,qA 133 131 132,qi 134 1 130 133,ql 135 1 134,qm 136 15,Rq 137 (.z .sub 135 136),qi 138 1 126 129,qs 1 138 137] (.h [qm 139 11,qm 140 13,qm 141 10,qA 142 140 141,qi 143 1 139 142,ql 144 1 143,Rq 145 (.y .lss 144 0)] 145 (.g [qm 146 14,Rq 147 (.y .sub 146 1),qm 14 147] (.g [qk 19 0] (.q (.g [qk 20 0] (.q (.aF 6 (.loop [8,9,10,11,12,13,14,19,20] IT)) (.kp [8,9,10,11,12,13,14,19]))) (.aJ [qm 175 11,qm 176 13,qm 177 10,qA 178 176 177,qm 179 11,qm 180 13,qm 181 10,qA 182 180 181,qi 183 1 179 182,ql 184 1 183,qm 185 19,qA 186
 184 185,qi 187 1 175 178,qs 1 187 186])))) (.aJ [qm 188 12,qm 189 13,qm 190 14,qi 191 1 188 189,qs 1 191 190]))))))) (.aJ [qm 84 13,Rq 85 (.y .sub 84 1),qm 13 85]))
def se:aV:=⟨[.t 4,.t 5],.g [qz 4,qz 5] (.h [qm 24 0,qm 25 1,bj 26 296 24 25,Rq 27 (.y .lss 26 0)] 27 (.e [qm 28 0,qz 4,qm 5 28]) (.h [qm 29 1,qn 30 1 29,qE 31 30 1] 31 (.g [qm 33 0,qm 34 1,Rq 35 (.aY 1 (.t 34) (.k 0)),ql 36 1 35,bj 37 299 33 36,qm 32 37,qe 38 0 32,qe 39 1 32,qm 6 38,qm 7 39] (.e [qm 40 6,qm 41 7,Rq 42 (.cW 1 1 [.i 0] [(0,1,.t 41)]),aT 43 300 42,qm 4 40,qm 5 43])) (.g [qm 44 1,qm 45 1,qn 46 1 45,Rq 47 (.y .sub 46 1),qi 48 1 44 47,ql 49 1 48,qa 50 49 1,Rq 51 (.bin .quo (.k 1000000000) (.t 50)),Rq 52 (.cW 1 1 [.i 0] [(0,1,.t 51)]),qm 8 52] (.g [qm 53 1,qm 54 8,bj 55 293 53 54,qm 9 55] (.g [qm 56 9,qn 57 1 56,qm 10 57] (.g [Rq 58 (.cW 0 1 [] []),qm 59 0,qm 60 8,bj 61 293 59 60,Rq 62 (.aR 1 8 (.t 58) (.t 61)),qm 11 62] (.q (.q (.aF 0 (.loop [0,8,9,10,11] IS)) (.kp [8,9,10,11])) (.g [qm 72 11,qn 73 1 72,qm 74 10,Rq 75 (.z .sub 73 74),Rq 76 (.gO 1 8 [.i 0] (.t 75) (.t 75)),qm
 12 76] (.q (.g [qm 77 11,qn 78 1 77,qm 79 10,Rq 80 (.z .sub 78 79),Rq 81 (.y .sub 80 1),qm 13 81] (.q (.aF 2 (.loop [8,9,10,11,12,13] IU)) (.kp [8,10,11,12]))) (.g [qm 193 11,qm 194 10,Rq 195 (.dO (.sl 1) (.t 193) none (some (.t 194))),aT 196 300 195,qm 197 8,Rq 198 (.aY 1 (.t 197) (.k 0)),ql 199 1 198,bj 200 299 196 199,qm 192 200,qe 201 0 192,qe 202 1 192,qm 22 201,qm 23 202] (.e [qm 203 12,aT 204 300 203,qm 205 22,qm 4 204,qm 5 205])))))))))))⟩
def IV:VC:=.q (.g [qm 5 4,qm 6 0,qn 7 0 6,qT 8 5 7] (.cond (.t 8) .skip (.exit 0))) (.q (.aF 1 (.aJ [qm 11 3,Rq 12 (.bin .mul (.k 10) (.t 11)),qm 13 0,qm 14 4,Rq 15 (.kU (.t 13) (.t 14)),Rq 16 (.cv (.toInt .i64) (.t 15)),qA 17 12 16,Rq 18 (.y .sub 17 48),qm 3 18])) (.aJ [qm 9 4,qa 10 9 1,qm 4 10]))
def Fx:aV:=⟨[.t 2],.g [qk 2 0] (.g [qk 3 0] (.q (.g [qk 4 0] (.q (.aF 0 (.loop [0,3,4] IV)) (.kp [3]))) (.e [qm 19 3,qm 2 19])))⟩
def IW:VC:=.q (.g [qm 5 1,Rq 6 (.y .gtr 5 0)] (.cond (.t 6) .skip (.exit 0))) (.aF 1 (.aJ [qm 7 1,qm 8 0,qm 9 1,Rq 10 (.z .rem 8 9),qm 0 7,qm 1 10]))
def JP:aV:=⟨[.t 4],.g [qk 4 0] (.q (.q (.aF 0 (.loop [0,1] IW)) (.kp [0])) (.e [qm 11 0,qm 4 11]))⟩
def nW:VC:=.q (.g [qm 6 0,Rq 7 (.y .gtr 6 0),qm 8 7,Rf 9 8 (.m 5),Rf 10 8 (.len 0 (.t 9)),Rf 11 8 (.m 1),Rf 12 8 (.z .lss 10 11),qp 13 8 12] (.cond (.t 13) .skip (.exit 0))) (.aF 1 (.g [qm 14 0,Rq 15 (.y .rem 14 10),qm 16 0,Rq 17 (.y .rem 16 10),qa 18 17 1,Rq 19 (.dO .str (.s [48,49,50,51,52,53,54,55,56,57]) (some (.t 15)) (some (.t 18))),qm 20 5,qA 21 19 20,qm 5 21] (.aJ [qm 22 0,Rq 23 (.y .quo 22 10),qm 0 23])))
def zU:aV:=⟨[.t 4],.g [Rq 4 (.cz (.s []))] (.g [Rq 5 (.cz (.s []))] (.q (.q (.aF 0 (.loop [0,1,5] nW)) (.kp [5])) (.e [qm 24 5,qm 4 24])))⟩
def IX:VC:=.q (.g [qm 22 8,qm 23 1,qn 24 1 23,qT 25 22 24] (.cond (.t 25) .skip (.exit 2))) (.q (.aF 3 (.g [qm 28 5,qm 29 6,qm 30 8,qA 31 29 30,qi 32 1 28 31,ql 33 1 32,qm 34 0,qm 35 6,qi 36 1 34 35,ql 37 1 36,qm 38 1,qm 39 8,qi 40 1 38 39,ql 41 1 40,Rq 42 (.z .mul 37 41),qA 43 33 42,qm 44 7,qA 45 43 44,qm 9 45] (.g [qm 46 5,qm 47 6,qm 48 8,qA 49 47 48,qm 50 9,Rq 51 (.y .rem 50 1000000000),qi 52 1 46 49,qs 1 52 51] (.aJ [qm 53 9,Rq 54 (.y .quo 53 1000000000),qm 7 54])))) (.aJ [qm 26 8,qa 27 26 1,qm 8 27]))
def IY:VC:=.q (.g [qm 16 6,qm 17 0,qn 18 1 17,qT 19 16 18] (.cond (.t 19) .skip (.exit 0))) (.q (.aF 1 (.g [qk 7 0] (.q (.g [qk 8 0] (.q (.aF 2 (.loop [0,1,5,6,7,8] IX)) (.kp [0,1,5,6,7]))) (.aJ [qm 55 5,qm 56 6,qm 57 1,qn 58 1 57,qA 59 56 58,qm 60 5,qm 61 6,qm 62 1,qn 63 1 62,qA 64 61 63,qi 65 1 60 64,ql 66 1 65,qm 67 7,qA 68 66 67,qi 69 1 55 59,qs 1 69 68])))) (.aJ [qm 20 6,qa 21 20 1,qm 6 21]))
def Br:aV:=⟨[.t 4],.g [qz 4] (.g [qm 10 0,qn 11 1 10,qm 12 1,qn 13 1 12,qA 14 11 13,Rq 15 (.gO 1 8 [.i 0] (.t 14) (.t 14)),qm 5 15] (.q (.g [qk 6 0] (.q (.aF 0 (.loop [0,1,5,6] IY)) (.kp [5]))) (.e [qm 70 5,aT 71 300 70,qm 4 71])))⟩
def Bs:aV:=⟨[.cell 4 2 true],.g [Rq 4 (.box 2 (.c (.agg [.bool false,.aa])))] (.g [qm 5 1,aT 6 300 5,qm 1 6] (.e [qm 7 0,qm 8 7,Rt 9 8 (.m 1),Rt 10 8 (.len 1 (.t 9)),Rt 11 8 (.y .gtr 10 0),qq 12 8 11,qm 13 1,Rq 14 (.gk [.bool false,.aa] [(0,1,.t 12),(1,1,.t 13)]),qs 2 4 14]))⟩
def px:VC:=.q (.g [qm 9 7,qm 10 0,qn 11 1 10,qT 12 9 11,qm 13 12,Rf 14 13 (.m 7),Rf 15 13 (.m 1),Rf 16 13 (.len 1 (.t 15)),Rf 17 13 (.z .lss 14 16),qp 18 13 17,qm 19 18,Rf 20 19 (.m 6),Rf 21 19 (.y .gtr 20 0),qp 22 19 21] (.cond (.t 22) .skip (.exit 0))) (.q (.aF 1 (.g [qm 25 0,qm 26 7,bj 27 302 25 26,qm 28 1,qm 29 7,bj 30 302 28 29,qA 31 27 30,qm 32 6,qA 33 31 32,qm 8 33] (.g [qm 34 5,qm 35 8,Rq 36 (.y .rem 35 1000000000),Rq 37 (.cW 1 1 [.i 0] [(0,1,.t 36)]),Rq 38 (.aR 1 8 (.t 34) (.t 37)),qm 5 38] (.aJ [qm 39 8,Rq 40 (.y .quo 39 1000000000),qm 6 40])))) (.aJ [qm 23 7,qa 24 23 1,qm 7 24]))
def JQ:aV:=⟨[.t 4],.g [qz 4] (.g [qz 5] (.g [qk 6 0] (.q (.g [qk 7 0] (.q (.aF 0 (.loop [0,1,5,6,7] px)) (.kp [5]))) (.e [qm 41 5,qm 4 41]))))⟩
def CT:VC:=.q (.g [qm 19 5,Rq 20 (.y .geq 19 0)] (.cond (.t 20) .skip (.exit 0))) (.q (.aF 1 (.h [qm 23 0,qm 24 5,qi 25 1 23 24,ql 26 1 25,qm 27 1,qm 28 5,qi 29 1 27 28,ql 30 1 29,qT 31 26 30] 31 (.e [qk 4 (-1)]) (.g [qm 32 0,qm 33 5,qi 34 1 32 33,ql 35 1 34,qm 36 1,qm 37 5,qi 38 1 36 37,ql 39 1 38,Rq 40 (.z .gtr 35 39)] (.i 40 (.e [qk 4 1]))))) (.aJ [qm 21 5,Rq 22 (.y .sub 21 1),qm 5 22]))
def sf:aV:=⟨[.t 4],.g [qk 4 0] (.h [qm 6 0,qn 7 1 6,qm 8 1,qn 9 1 8,Rq 10 (.z .neq 7 9)] 10 (.h [qm 11 0,qn 12 1 11,qm 13 1,qn 14 1 13,qT 15 12 14] 15 (.e [qk 4 (-1)]) (.e [qk 4 1])) (.q (.g [qm 16 0,qn 17 1 16,Rq 18 (.y .sub 17 1),qm 5 18] (.q (.aF 0 (.loop [0,1,5] CT)) (.kp []))) (.e [qk 4 0])))⟩
def rU:VC:=.q (.g [qm 9 7,qm 10 0,qn 11 1 10,qT 12 9 11] (.cond (.t 12) .skip (.exit 0))) (.q (.aF 1 (.g [qm 15 0,qm 16 7,qi 17 1 15 16,ql 18 1 17,qm 19 1,qm 20 7,bj 21 302 19 20,Rq 22 (.z .sub 18 21),qm 23 6,Rq 24 (.z .sub 22 23),qm 8 24] (.g [qk 6 0] (.h [qm 25 8,Rq 26 (.y .lss 25 0)] 26 (.g [qm 27 8,qa 28 27 1000000000,qm 8 28] (.aJ [qk 6 1])) (.aJ [qm 29 5,qm 30 8,Rq 31 (.cW 1 1 [.i 0] [(0,1,.t 30)]),Rq 32 (.aR 1 8 (.t 29) (.t 31)),qm 5 32]))))) (.aJ [qm 13 7,qa 14 13 1,qm 7 14]))
def JR:aV:=⟨[.t 4],.g [qz 4] (.g [qz 5] (.g [qk 6 0] (.q (.g [qk 7 0] (.q (.aF 0 (.loop [0,1,5,6,7] rU)) (.kp [5]))) (.e [qm 33 5,aT 34 300 33,qm 4 34]))))⟩
def Oo:aV:=⟨[.cell 2 2 true],.g [qb 1 2 0,Rq 2 (.box 2 (.c (.agg [.bool false,.aa])))] (.e [qo 3 0 1,ql 4 1 3,Rq 5 (.un .not (.t 4)),qo 6 1 1,ql 7 1 6,bj 8 294 5 7,qs 2 2 8])⟩
def IZ:VC:=.q (.g [qm 16 8,Rq 17 (.y .geq 16 0)] (.cond (.t 17) .skip (.exit 0))) (.q (.aF 1 (.g [qm 20 7,Rq 21 (.y .mul 20 1000000000),qm 22 0,qm 23 8,qi 24 1 22 23,ql 25 1 24,qA 26 21 25,qm 9 26] (.g [qm 27 6,qm 28 8,qm 29 9,qm 30 1,Rq 31 (.z .quo 29 30),qi 32 1 27 28,qs 1 32 31] (.aJ [qm 33 9,qm 34 1,Rq 35 (.z .rem 33 34),qm 7 35])))) (.aJ [qm 18 8,Rq 19 (.y .sub 18 1),qm 8 19]))
def Bt:aV:=⟨[.t 4,.t 5],.g [qz 4,qk 5 0] (.g [qm 10 0,qn 11 1 10,Rq 12 (.gO 1 8 [.i 0] (.t 11) (.t 11)),qm 6 12] (.g [qk 7 0] (.q (.g [qm 13 0,qn 14 1 13,Rq 15 (.y .sub 14 1),qm 8 15] (.q (.aF 0 (.loop [0,1,6,7,8] IZ)) (.kp [6,7]))) (.e [qm 36 6,aT 37 300 36,qm 38 7,qm 4 37,qm 5 38]))))⟩
def CU:VC:=.q (.g [qm 3 0,qn 4 1 3,Rq 5 (.y .gtr 4 0),qm 6 5,Rt 7 6 (.m 0),Rt 8 6 (.m 0),Rt 9 6 (.len 1 (.t 8)),Rt 10 6 (.y .sub 9 1),Rt 11 6 (.aY 1 (.t 7) (.t 10)),Rt 12 6 (.ld 1 false (.t 11)),Rt 13 6 (.y .eql 12 0),qq 14 6 13] (.cond (.t 14) .skip (.exit 0))) (.aF 1 (.aJ [qm 15 0,qm 16 0,qn 17 1 16,Rq 18 (.y .sub 17 1),Rq 19 (.dO (.sl 1) (.t 15) none (some (.t 18))),qm 0 19]))
def lL:aV:=⟨[.t 2],.g [qz 2] (.q (.q (.aF 0 (.loop [0] CU)) (.kp [0])) (.e [qm 20 0,qm 2 20]))⟩
def A6:VC:=.q (.g [qm 42 9,Rq 43 (.y .geq 42 1000000000),qm 44 43,Rf 45 44 (.m 9),Rf 46 44 (.m 1),Rf 47 44 (.m 7),Rf 48 44 (.y .sub 47 2),Rf 49 44 (.aY 1 (.t 46) (.t 48)),Rf 50 44 (.ld 1 false (.t 49)),Rf 51 44 (.z .mul 45 50),Rf 52 44 (.m 10),Rf 53 44 (.y .mul 52 1000000000),Rf 54 44 (.m 0),Rf 55 44 (.m 2),Rf 56 44 (.m 7),Rf 57 44 (.z .add 55 56),Rf 58 44 (.y .sub 57 2),Rf 59 44 (.aY 1 (.t 54) (.t 58)),Rf 60 44 (.ld 1 false (.t 59)),Rf 61 44 (.z .add 53 60),Rf 62 44 (.z .gtr 51 61),qp 63 44 62] (.cond (.t 63) .skip (.exit 0))) (.aF 1 (.g [qm 64 9,Rq 65 (.y .sub 64 1),qm 9 65] (.g [qm 66 10,qm 67 1,qm 68 7,Rq 69 (.y .sub 68 1),qi 70 1 67 69,ql 71 1 70,qA 72 66 71,qm 10 72] (.g [qm 73 10,Rq 74 (.y .geq 73 1000000000)] (.i 74 (.e [qm 75 9,qm 6 75]))))))
def zV:aV:=⟨[.t 6],.g [qk 6 0] (.g [qm 11 1,qn 12 1 11,qm 7 12] (.g [qm 13 0,qm 14 2,qm 15 7,qA 16 14 15,qi 17 1 13 16,ql 18 1 17,Rq 19 (.y .mul 18 1000000000),qm 20 0,qm 21 2,qm 22 7,qA 23 21 22,Rq 24 (.y .sub 23 1),qi 25 1 20 24,ql 26 1 25,qA 27 19 26,qm 8 27] (.g [qm 28 8,qm 29 1,qm 30 7,Rq 31 (.y .sub 30 1),qi 32 1 29 31,ql 33 1 32,Rq 34 (.z .quo 28 33),qm 35 8,qm 36 1,qm 37 7,Rq 38 (.y .sub 37 1),qi 39 1 36 38,ql 40 1 39,Rq 41 (.z .rem 35 40),qm 9 34,qm 10 41] (.q (.q (.aF 0 (.loop [0,1,2,7,9,10] A6)) (.kp [9])) (.e [qm 76 9,qm 6 76])))))⟩
def sj:aV:=⟨[.t 4],.g [qk 4 0] (.h [qm 5 1,qm 6 0,qn 7 1 6,qT 8 5 7] 8 (.e [qm 9 0,qm 10 1,qi 11 1 9 10,ql 12 1 11,qm 4 12]) (.e [qk 4 0]))⟩
end
section
def EW:VC:=.q (.g [qm 4 3,qm 5 0,qn 6 1 5,qT 7 4 6] (.cond (.t 7) .skip (.exit 0))) (.q (.aF 1 (.g [qm 10 0,qm 11 3,qi 12 1 10 11,ql 13 1 12,aT 14 269 13,qN 15 14 0] (.i 15 (.e [qk 2 4])))) (.aJ [qm 8 3,qa 9 8 1,qm 3 9]))
def Fy:aV:=⟨[.t 2],.g [qk 2 0] (.q (.g [qk 3 0] (.q (.aF 0 (.loop [0,3] EW)) (.kp []))) (.e [qk 2 0]))⟩
def EX:VC:=.q (.g [qm 5 4,qm 6 0,qT 7 5 6] (.cond (.t 7) .skip (.exit 0))) (.q (.aF 1 (.aJ [qm 10 3,Rq 11 (.cW 1 1 [.str []] [(0,1,.s [48])]),Rq 12 (.aR 1 16 (.t 10) (.t 11)),qm 3 12])) (.aJ [qm 8 4,qa 9 8 1,qm 4 9]))
def Fz:aV:=⟨[.t 2],.g [qz 2] (.g [qz 3] (.q (.g [qk 4 0] (.q (.aF 0 (.loop [0,3,4] EX)) (.kp [3]))) (.e [qm 13 3,qm 2 13])))⟩
def zC:VC:=.q (.g [qm 11 3,qm 12 0,qn 13 1 12,qT 14 11 13] (.cond (.t 14) .skip (.exit 0))) (.q (.aF 1 (.h [qm 17 0,qm 18 3,qi 19 1 17 18,ql 20 1 19,qn 21 1 20,qE 22 21 0] 22 (.e [qk 2 12]) (.h [qm 23 0,qm 24 3,qi 25 1 23 24,ql 26 1 25,qn 27 1 26,Rq 28 (.y .gtr 27 64)] 28 (.e [qk 2 5]) (.h [qm 29 0,qm 30 3,qi 31 1 29 30,ql 32 1 31,qn 33 1 32,qm 34 0,Rq 35 (.aY 1 (.t 34) (.k 0)),ql 36 1 35,qn 37 1 36,Rq 38 (.z .neq 33 37)] 38 (.e [qk 2 2]) (.g [qm 39 0,qm 40 3,qi 41 1 39 40,ql 42 1 41,aT 43 261 42,qm 4 43] (.g [qm 44 4,qN 45 44 0] (.i 45 (.e [qm 46 4,qm 2 46])))))))) (.aJ [qm 15 3,qa 16 15 1,qm 3 16]))
def FA:aV:=⟨[.t 2],.g [qk 2 0] (.h [qm 5 0,qn 6 1 5,qE 7 6 0] 7 (.e [qk 2 12]) (.h [qm 8 0,qn 9 1 8,Rq 10 (.y .gtr 9 64)] 10 (.e [qk 2 5]) (.q (.g [qk 3 0] (.q (.aF 0 (.loop [0,3] zC)) (.kp []))) (.e [qk 2 0]))))⟩
def EY:VC:=.q (.g [qm 15 8,qm 16 0,qn 17 1 16,qT 18 15 17] (.cond (.t 18) .skip (.exit 0))) (.q (.aF 1 (.aJ [qm 21 6,Rq 22 (.cW 0 1 [] []),qm 23 0,qm 24 8,qi 25 1 23 24,ql 26 1 25,Rq 27 (.nn 1 16 (.t 22) (.t 26)),qm 28 1,qm 29 8,qi 30 1 28 29,ql 31 1 30,Rq 32 (.cW 1 1 [.str []] [(0,1,.t 31)]),Rq 33 (.aR 1 16 (.t 27) (.t 32)),Rq 34 (.cW 1 1 [.aa] [(0,1,.t 33)]),Rq 35 (.aR 1 24 (.t 21) (.t 34)),qm 6 35])) (.aJ [qm 19 8,qa 20 19 1,qm 8 20]))
def EZ:VC:=.q (.g [qm 43 12,qm 44 10,qn 45 1 44,qT 46 43 45] (.cond (.t 46) .skip (.exit 2))) (.q (.aF 3 (.h [qm 49 10,qm 50 12,qi 51 1 49 50,ql 52 1 51,qm 53 7,Rq 54 (.z .eql 52 53)] 54 (.e [qz 4,qf 5]) (.aJ [qm 55 11,qm 56 10,qm 57 12,qi 58 1 56 57,ql 59 1 58,qm 60 9,qm 61 12,qi 62 1 60 61,ql 63 1 62,qm 64 7,qi 65 1 63 64,ql 66 1 65,qi 67 1 55 59,qs 1 67 66]))) (.aJ [qm 47 12,qa 48 47 1,qm 12 48]))
def sn:aV:=⟨[.t 4,.t 5],.g [qz 4,qf 5] (.g [qz 6] (.g [qm 13 0,aT 14 351 13,qm 7 14] (.q (.g [qk 8 0] (.q (.aF 0 (.loop [0,1,6,7,8] EY)) (.kp [6,7]))) (.g [qm 37 6,aT 38 353 37,qm 36 38,qe 39 0 36,qe 40 1 36,qm 9 39,qm 10 40] (.g [qm 41 7,Rq 42 (.call .own (.F 332) [.t 41]),qm 11 42] (.q (.g [qk 12 0] (.q (.aF 2 (.loop [7,9,10,11,12] EZ)) (.kp [11]))) (.e [qm 68 11,qm 4 68,Rq 5 (.cz (.c (.bool true)))])))))))⟩
def nh:aV:=⟨[.t 2],.g [qk 2 0] (.h [qm 3 0,qn 4 1 3,qE 5 4 0] 5 (.e [qk 2 0]) (.e [qm 6 0,Rq 7 (.aY 1 (.t 6) (.k 0)),ql 8 1 7,qn 9 1 8,qm 2 9]))⟩
def CV:VC:=.q (.g [qm 30 6,qm 31 0,qn 32 1 31,qT 33 30 32,qm 34 33,Rt 35 34 (.m 0),Rt 36 34 (.m 6),Rt 37 34 (.aY 1 (.t 35) (.t 36)),Rt 38 34 (.ld 1 false (.t 37)),Rt 39 34 (.m 5),Rt 40 34 (.aY 1 (.t 38) (.t 39)),Rt 41 34 (.ld 1 false (.t 40)),Rt 42 34 (.q 355 [.t 41]),qq 43 34 42] (.cond (.t 43) .skip (.exit 2))) (.aF 3 (.aJ [qm 44 6,qa 45 44 1,qm 6 45]))
def I0:VC:=.q (.g [qm 74 9,qm 75 0,qm 76 7,qi 77 1 75 76,ql 78 1 77,qn 79 1 78,qT 80 74 79] (.cond (.t 80) .skip (.exit 4))) (.q (.aF 5 (.aJ [qm 83 0,qm 84 7,qi 85 1 83 84,ql 86 1 85,qm 87 9,qm 88 0,qm 89 7,qi 90 1 88 89,ql 91 1 90,qm 92 9,qi 93 1 91 92,ql 94 1 93,qm 95 8,bj 96 267 94 95,qi 97 1 86 87,qs 1 97 96])) (.aJ [qm 81 9,qa 82 81 1,qm 9 82]))
def I1:VC:=.q (.g [qm 118 12,qm 119 0,qm 120 10,qi 121 1 119 120,ql 122 1 121,qn 123 1 122,qT 124 118 123] (.cond (.t 124) .skip (.exit 8))) (.q (.aF 9 (.aJ [qm 127 0,qm 128 10,qi 129 1 127 128,ql 130 1 129,qm 131 12,qm 132 0,qm 133 10,qi 134 1 132 133,ql 135 1 134,qm 136 12,qi 137 1 135 136,ql 138 1 137,qm 139 11,qm 140 0,qm 141 7,qi 142 1 140 141,ql 143 1 142,qm 144 12,qi 145 1 143 144,ql 146 1 145,bj 147 267 139 146,bj 148 271 138 147,qi 149 1 130 131,qs 1 149 148])) (.aJ [qm 125 12,qa 126 125 1,qm 12 126]))
def CW:VC:=.q (.g [qm 98 10,qm 99 0,qn 100 1 99,qT 101 98 100] (.cond (.t 101) .skip (.exit 6))) (.q (.aF 7 (.g [qm 104 0,qm 105 10,qi 106 1 104 105,ql 107 1 106,qm 108 5,qi 109 1 107 108,ql 110 1 109,qm 11 110] (.h [qm 111 10,qm 112 7,Rq 113 (.z .eql 111 112),qm 114 113,Rf 115 114 (.m 11),Rf 116 114 (.q 355 [.t 115]),qp 117 114 116] 117 (.exit 7) (.g [qk 12 0] (.q (.aF 8 (.loop [0,4,5,7,10,11,12] I1)) (.kp [0,4,5,7,10])))))) (.aJ [qm 102 10,qa 103 102 1,qm 10 103]))
def CX:VC:=.q (.g [qm 15 5,qm 16 0,Rq 17 (.call .heap (.F 351) [.t 16]),qT 18 15 17,qm 19 18,Rt 20 19 (.m 4),Rt 21 19 (.len 1 (.t 20)),Rt 22 19 (.m 0),Rt 23 19 (.len 1 (.t 22)),Rt 24 19 (.z .lss 21 23),qq 25 19 24] (.cond (.t 25) .skip (.exit 0))) (.q (.aF 1 (.g [qm 28 4,qn 29 1 28,qm 6 29] (.q (.q (.aF 2 (.loop [0,4,5,6] CV)) (.kp [0,4,5,6])) (.h [qm 46 6,qm 47 0,qn 48 1 47,Rq 49 (.z .eql 46 48)] 49 (.exit 1) (.g [qm 50 4,qn 51 1 50,qm 7 51] (.g [qm 52 0,qm 53 6,qm 54 0,qm 55 7,qm 56 0,qm 57 7,qi 58 1 56 57,ql 59 1 58,qm 60 0,qm 61 6,qi 62 1 60 61,ql 63 1 62,qi 64 1 52 53,qs 1 64 59,qi 65 1 54 55,qs 1 65 63] (.g [qm 66 0,qm 67 7,qi 68 1 66 67,ql 69 1 68,qm 70 5,qi 71 1 69 70,ql 72 1 71,aT 73 283 72,qm 8 73] (.q (.g [qk 9 0] (.q (.aF 4 (.loop [0,4,5,7,8,9] I0)) (.kp [0,4,5,7]))) (.q (.g [qk 10 0] (.q (.aF 6 (.loop [0,4,5,7,10] CW)) (.kp [0,4,5]))) (.aJ [qm 150 4,qm 151 5,Rq 152 (.cW
 1 1 [.i 0] [(0,1,.t 151)]),Rq 153 (.aR 1 8 (.t 150) (.t 152)),qm 4 153])))))))))) (.aJ [qm 26 5,qa 27 26 1,qm 5 27]))
def qR:aV:=⟨[.t 2,.t 3],.g [qz 2,qz 3] (.g [qm 13 0,Rq 14 (.call .heap (.F 354) [.t 13]),qm 0 14] (.g [qz 4] (.q (.g [qk 5 0] (.q (.aF 0 (.loop [0,4,5] CX)) (.kp [0,4]))) (.e [qm 154 0,qm 155 4,qn 156 1 155,Rq 157 (.dO (.sl 1) (.t 154) none (some (.t 156))),qm 158 4,qm 2 157,qm 3 158]))))⟩
def E0:VC:=.q (.g [qm 5 4,qm 6 0,qn 7 1 6,qT 8 5 7] (.cond (.t 8) .skip (.exit 0))) (.q (.aF 1 (.aJ [qm 11 3,Rq 12 (.cW 0 1 [] []),qm 13 0,qm 14 4,qi 15 1 13 14,ql 16 1 15,Rq 17 (.aR 1 16 (.t 12) (.t 16)),Rq 18 (.cW 1 1 [.aa] [(0,1,.t 17)]),Rq 19 (.aR 1 24 (.t 11) (.t 18)),qm 3 19])) (.aJ [qm 9 4,qa 10 9 1,qm 4 10]))
def qS:aV:=⟨[.t 2],.g [qz 2] (.g [qz 3] (.q (.g [qk 4 0] (.q (.aF 0 (.loop [0,3,4] E0)) (.kp [3]))) (.e [qm 20 3,qm 2 20])))⟩
def pL:aV:=⟨[.t 2],.g [qf 2] (.e [qm 3 0,Rq 4 (.bin .eql (.t 3) (.s [48])),qm 2 4])⟩
end
section
def CY:VC:=.g [qT 55 54 53] (.q (.cond (.t 55) .skip (.exit 2)) (.q (.aF 3 (.g [qm 56 54,qm 6 56] (.g [qm 57 0,qm 58 5,qi 59 1 57 58,ql 60 1 59,qm 61 6,qi 62 1 60 61,ql 63 1 62,qn 64 0 63,Rq 65 (.y .gtr 64 40)] (.i 65 (.e [qf 4]))))) (.aJ [qa 66 54 1,qm 54 66])))
def rV:VC:=.g [qT 24 23 22] (.q (.cond (.t 24) .skip (.exit 0)) (.q (.aF 1 (.g [qm 25 23,qm 5 25] (.h [qm 26 0,qm 27 5,qi 28 1 26 27,ql 29 1 28,qn 30 1 29,qm 31 1,Rq 32 (.z .gtr 30 31),qm 33 32,Rt 34 33 (.m 0),Rt 35 33 (.m 5),Rt 36 33 (.aY 1 (.t 34) (.t 35)),Rt 37 33 (.ld 1 false (.t 36)),Rt 38 33 (.len 1 (.t 37)),Rt 39 33 (.y .leq 38 64),qq 40 33 39,qm 41 40,Rf 42 41 (.m 0),Rf 43 41 (.m 5),Rf 44 41 (.aY 1 (.t 42) (.t 43)),Rf 45 41 (.ld 1 false (.t 44)),Rf 46 41 (.len 1 (.t 45)),Rf 47 41 (.y .gtr 46 66),qp 48 41 47] 48 (.e [qf 4]) (.g [qm 49 0,qm 50 5,qi 51 1 49 50,ql 52 1 51,qn 53 1 52,qk 54 0] (.q (.aF 2 (.loop [0,1,5,22,23,53,54] CY)) (.kp [0,1,22,23])))))) (.aJ [qa 67 23 1,qm 23 67])))
def Bu:aV:=⟨[.t 4],.g [qf 4] (.h [qm 7 0,qn 8 1 7,qm 9 1,Rq 10 (.z .gtr 8 9),qm 11 10,Rt 12 11 (.m 0),Rt 13 11 (.len 1 (.t 12)),Rt 14 11 (.y .leq 13 64),qq 15 11 14,qm 16 15,Rf 17 16 (.m 0),Rf 18 16 (.len 1 (.t 17)),Rf 19 16 (.y .gtr 18 66),qp 20 16 19] 20 (.e [qf 4]) (.q (.g [qm 21 0,qn 22 1 21,qk 23 0] (.q (.aF 0 (.loop [0,1,22,23] rV)) (.kp []))) (.e [Rq 4 (.cz (.c (.bool true)))])))⟩
def JS:aV:=⟨[.t 2],.g [qk 2 0] (.e [qm 3 0,aT 4 413 3,qn 5 1 4,qm 2 5])⟩
def FB:aV:=⟨[.t 2],.g [qz 2] (.g [qm 6 0,aT 7 353 6,qm 5 7,qe 8 0 5,qe 9 1 5,qm 3 8,qm 4 9] (.e [qm 10 3,qm 2 10]))⟩
def lO:aV:=⟨[.t 4],.g [qf 4] (.q (.q (.q (.fz [1]) (.aJ [qc0 10 179,Rq 11 (.un .not (.t 10)),qm 12 11,Rf 13 12 (.m 0),Rf 14 12 (.q 409 [.t 13,.k 5]),Rf 15 12 (.un .not (.t 14)),qp 16 12 15,qm 17 16,Rf 18 17 (.m 1),Rf 19 17 (.len 1 (.t 18)),Rf 20 17 (.y .gtr 19 8),qp 21 17 20,qm 22 21,Rf 23 22 (.m 1),Rf 24 22 (.len 1 (.t 23)),Rf 25 22 (.y .gtr 24 0),Rf 26 22 (.m 25),Rt 27 26 (.m 1),Rt 28 26 (.cW 1 1 [.aa] [(0,1,.t 27)]),Rt 29 26 (.q 409 [.t 28,.k 8]),Rt 30 26 (.un .not (.t 29)),Rf 31 22 (.pick (.t 26) (.t 30) (.c (.bool false))),qp 32 22 31])) (.i 32 (.e [qc0 33 179,qm 4 33]))) (.g [qm 35 0,qm 36 1,bj 37 201 35 36,qm 34 37,qe 38 0 34,qe 39 1 34,qm 5 38,qm 6 39] (.g [qm 40 0,aT 41 343 40,qm 42 1,aT 43 261 42,Rq 44 (.cW 2 1 [.i 0,.i 0] [(0,1,.t 41),(1,1,.t 43)]),aT 45 415 44,qm 7 45] (.h [qm 46 7,qE 47 46 0,qm 48 47,Rt 49 48 (.m 1),Rt 50 48 (.len 1 (.t 49)),Rt 51 48 (.m 0),Rt 52 48 (.len 1 (.t
 51)),Rt 53 48 (.z .neq 50 52),qq 54 48 53] 54 (.aJ [qk 7 2]) (.g [qz 8] (.h [qm 55 7,qE 56 55 0] 56 (.g [qf 9] (.g [qm 58 0,qm 59 1,bj 60 416 58 59,qm 57 60,qe 61 0 57,qe 62 1 57,qm 8 61,qm 9 62] (.g [qm 63 9,Rq 64 (.un .not (.t 63))] (.i 64 (.aJ [qk 7 14]))))) (.e [qm 65 5,qm 66 6,qm 67 7,qm 68 8,qc4 69 417 65 66 67 68,qm 4 69])))))))⟩
def awb:VC:=.q (.g [qm 4 3,qm 5 0,qn 6 1 5,qT 7 4 6] (.cond (.t 7) .skip (.exit 0))) (.q (.aF 1 (.g [qm 10 0,qm 11 3,qi 12 1 10 11,ql 13 1 12,qN 14 13 0] (.i 14 (.e [qm 15 0,qm 16 3,qi 17 1 15 16,ql 18 1 17,qm 2 18])))) (.aJ [qm 8 3,qa 9 8 1,qm 3 9]))
def aj2:aV:=⟨[.t 2],.g [qk 2 0] (.q (.g [qk 3 0] (.q (.aF 0 (.loop [0,3] awb)) (.kp []))) (.e [qk 2 0]))⟩
def FC:aV:=⟨[.t 4,.t 5],.g [qz 4,qf 5] (.g [qm 9 0,qm 10 1,bj 11 350 9 10,qm 8 11,qe 12 0 8,qe 13 1 8,qm 6 12,qm 7 13] (.h [qm 14 7,Rq 15 (.un .not (.t 14)),qm 16 15,Rf 17 16 (.m 0),Rf 18 16 (.q 412 [.t 17]),Rf 19 16 (.m 0),Rf 20 16 (.q 351 [.t 19]),Rf 21 16 (.z .lss 18 20),qp 22 16 21] 22 (.e [qz 4,qf 5]) (.e [qm 23 6,qm 4 23,Rq 5 (.cz (.c (.bool true)))])))⟩
def Bv:aV:=⟨[.t 8],.g [qf 8] (.h [qm 9 2,qE 10 9 0] 10 (.aJ [qm 11 3,aT 12 316 11,qm 2 12]) (.h [qm 13 2,qN 14 13 0] 14 (.e [qm 15 0,qn 16 1 15,qE 17 16 0,qm 18 17,Rt 19 18 (.m 1),Rt 20 18 (.m 2),Rt 21 18 (.z .eql 19 20),qq 22 18 21,qm 8 22]) (.e [qm 23 1,qE 24 23 0,qm 25 24,Rt 26 25 (.m 0),Rt 27 25 (.m 3),Rt 28 25 (.q 29 [.t 26,.t 27]),qq 29 25 28,qm 8 29])))⟩
end
section
inductive Tr (α:Type) where
 | l
 | n (k:Nat) (v:α) (a b:Tr α)
def Tr.find {α:Type}:Tr α->Nat->Option α
 | .l,_=>none
 | .n k v a b,i=>bif yv i k then some v else bif yQ i k then a.find i else b.find i
end
section
open Go (IntKind FloatKind)
def ND:y7->Nat
 | .i8=>0 | .i16=>1 | .i32=>2 | .i64=>3 | .u8=>4 | .u16=>5 | .u32=>6 | .u64=>7
def ZN:Int->Int->Bool
 | .ofNat a,.ofNat b=>yv a b
 | .negSucc a,.negSucc b=>yv a b
 | _,_=>false
def PV:Bool->Bool->Bool
 | true,true | false,false=>true
 | _,_=>false
def eqF:ub->ub->Bool
 | .f32,.f32 | .f64,.f64=>true
 | _,_=>false
mutual
def gP:AV->AV->Bool
 | .int k a,.int k' b=>yv (ND k) (ND k')&&ZN a b
 | .bool a,.bool b=>PV a b
 | .bQ k a,.bQ k' b=>eqF k k'&&yv a b
 | .str a,.str b=>cY a b
 | .kQ,.kQ=>true
 | .b6 a,.b6 b=>my a b
 | .aa,.aa=>true
 | .aw e n a,.aw e' n' b=>PV e e'&&(yv n n'&&my a b)
 | .bn e s n a,.bn e' s' n' b=>PV e e'&&(yv s s'&&(yv n n'&&my a b))
 | .fn (.f g) a b,.fn (.f g') a' b'=>yv g g'&&(my a a'&&my b b')
 | .jb,.jb=>true
 | .km,.km=>true
 | .jy a b,.jy a' b'=>my a a'&&my b b'
 | .agg a,.agg b=>my a b
 | .ae a,.ae b=>my a b
 | .undef,.undef=>true
 | _,_=>false
def my:List AV->List AV->Bool
 | [],[]=>true
 | a::x,b::y=>gP a b&&my x y
 | _,_=>false
end
def hI:Int->Nat
 | .ofNat n=>n
 | .negSucc n=>n+n
def hS:List Nat->Nat
 | []=>1
 | b::r=>(b+257*hS r)%65521
mutual
def hV:AV->Nat
 | .int _ n=>hI n
 | .bool b=>bif b then 1 else 2
 | .bQ _ n=>n
 | .str s=>hS s
 | .aw _ n cs=>n+hL cs
 | .agg cs=>hL cs
 | .ae cs=>hL cs
 | _=>5
def hL:List AV->Nat
 | []=>7
 | v::r=>(hV v+263*hL r)%65521
end
abbrev Te:=Tr (List AV×AV)
abbrev an:=List Te
def CZ (h:Nat) (av:List AV):an->Option AV
 | []=>none
 | t::l=>match t.find h with
  | some (a,r)=>bif my a av then some r else CZ h av l
  | none=>CZ h av l
def ai6 (av:List AV) (l:an):Option AV:=CZ (hL av) av l
abbrev Te.o (h:Nat) (a:List AV) (r:AV):Te:= .n h (a,r) .l .l
abbrev Te.m (h:Nat) (a:List AV) (r:AV) (x y:Te):Te:= .n h (a,r) x y
def C0 (n:Nat):List (Tr an)->Option an
 | []=>none
 | t::r=>match t.find n with
  | none=>C0 n r
  | some l=>match C0 n r with | none=>some l | some m=>some (l++m)
def Oq (L:Lib) (T:List (Tr an)) (ex:Nat):Lib:=
 ⟨fun i=>match L.pure i with
  | some sp=>some sp
  | none=>bif yv i ex then none else match C0 i T with | some l=>some (fun av=>ai6 av l) | none=>none,L.heap⟩
def JT (P:aK) (L:Lib) (f:Nat):Te->Bool
 | .l=>true
 | .n _ e x y=>(match Zj P L 100000 f e.1 with | some r'=>gP r' e.2 | none=>false)&&(JT P L f x&&JT P L f y)
def NE (P:aK) (L:Lib) (f:Nat):an->Bool
 | []=>true
 | t::l=>JT P L f t&&NE P L f l
def bm (P:aK) (L:Lib) (T:List (Tr an)):List (Nat×an)->Bool
 | []=>true
 | (f,l)::C=>NE P (Oq L T f) f l&&bm P L T C
end
section
open Go
def ap8 {a b:y7} (h:yv (ND a) (ND b)=true):a=b:=by
 cases a<;>cases b<;>first | rfl | (exact absurd h (by decide))
def ar3 {a b:Int} (h:ZN a b=true):a=b:=by
 cases a<;>cases b<;>simp only [ZN,reduceCtorEq] at h<;>rw [yp h]
def RZ {a b:Bool} (h:PV a b=true):a=b:=by
 cases a<;>cases b<;>first | rfl | (exact absurd h (by decide))
def ar4 {a b:ub} (h:eqF a b=true):a=b:=by
 cases a<;>cases b<;>first | rfl | (exact absurd h (by decide))
mutual
def adA:∀(a b:AV),gP a b=true->a=b
 | .int k a,b,h=>by
  cases b<;>simp only [gP,yg,yI] at h
  rw [ap8 h.1,ar3 h.2]
 | .bool a,b,h=>by
  cases b<;>simp only [gP,yI] at h
  rw [RZ h]
 | .bQ k a,b,h=>by
  cases b<;>simp only [gP,yg,yI] at h
  rw [ar4 h.1,yp h.2]
 | .str a,b,h=>by
  cases b<;>simp only [gP,yI] at h
  rw [RR h]
 | .kQ,b,h=>by cases b<;>simp only [gP,yI] at h;rfl
 | .ptr _ _,b,h=>by cases b<;>simp only [gP,yI] at h
 | .b6 a,b,h=>by
  cases b<;>simp only [gP,yI] at h
  rw [qC _ _ h]
 | .aa,b,h=>by cases b<;>simp only [gP,yI] at h;rfl
 | .aw e n a,b,h=>by
  cases b<;>simp only [gP,yg,yI] at h
  rw [RZ h.1,yp h.2.1,qC _ _ h.2.2]
 | .bn e s n a,b,h=>by
  cases b<;>simp only [gP,yg,yI] at h
  rw [RZ h.1,yp h.2.1,yp h.2.2.1,qC _ _ h.2.2.2]
 | .ao _ _ _,b,h=>by cases b<;>simp only [gP,yI] at h
 | .fn (.f g) x y,b,h=>by
  cases b<;>try (simp only [gP,yI] at h;done)
  rename_i fr _ _;cases fr<;>simp only [gP,yg,yI] at h
  rw [yp h.1,qC _ _ h.2.1,qC _ _ h.2.2]
 | .fn (.y _) _ _,b,h=>by cases b<;>simp only [gP,yI] at h
 | .jb,b,h=>by cases b<;>simp only [gP,yI] at h;rfl
 | .km,b,h=>by cases b<;>simp only [gP,yI] at h;rfl
 | .map _,b,h=>by cases b<;>simp only [gP,yI] at h
 | .jy x y,b,h=>by
  cases b<;>simp only [gP,yg,yI] at h
  rw [qC _ _ h.1,qC _ _ h.2]
 | .it _,b,h=>by cases b<;>simp only [gP,yI] at h
 | .agg a,b,h=>by
  cases b<;>simp only [gP,yI] at h
  rw [qC _ _ h]
 | .ae a,b,h=>by
  cases b<;>simp only [gP,yI] at h
  rw [qC _ _ h]
 | .undef,b,h=>by cases b<;>simp only [gP,yI] at h;rfl
def qC:∀(a b:List AV),my a b=true->a=b
 | [],b,h=>by cases b<;>simp only [my,yI] at h;rfl
 | x::a,b,h=>by
  cases b<;>simp only [my,yg,yI] at h
  rw [adA _ _ h.1,qC _ _ h.2]
end
def Tr.Has {α:Type} (x:α):Tr α->Prop
 | .l=>False
 | .n _ v a b=>v=x\/a.Has x\/b.Has x
def Tr.R0 {α:Type} {h:Nat} {x:α}:∀{t:Tr α},t.find h=some x->t.Has x
 | .l,hf=>by simp [Tr.find] at hf
 | .n k v a b,hf=>by
  simp only [Tr.find] at hf
  cases h1:yv h k with
  | true=>rw [h1] at hf;simp only [yA,yd] at hf;exact .inl hf
  | false=>
   rw [h1] at hf
   cases h2:yQ h k with
   | true=>rw [h2] at hf;exact .inr (.inl (Tr.R0 hf))
   | false=>rw [h2] at hf;exact .inr (.inr (Tr.R0 hf))
def PW (av:List AV) (r:AV) (l:an):Prop:=∃t,t∈l/\t.Has (av,r)
def abO {h:Nat} {av:List AV} {r:AV}:∀{l:an},CZ h av l=some r->PW av r l
 | [],hf=>by simp [CZ] at hf
 | t::l,hf=>by
  have tail:CZ h av l=some r->PW av r (t::l):=fun q=>by
   obtain ⟨t',h1,h2⟩:=abO q;exact ⟨t',we _ h1,h2⟩
  simp only [CZ] at hf
  split at hf
  ·rename_i a q he
   cases hb:my a av with
   | true=>
    rw [hb] at hf;simp only [yA,yd] at hf;rw [qC _ _ hb,hf] at he;exact ⟨t,wF,Tr.R0 he⟩
   | false=>
    grind
  ·grind
def ap9 {av:List AV} {r:AV} {l:an} (h:ai6 av l=some r):PW av r l:=abO h
def kS (O:bl) (f:Nat) (l:an):Prop:=∀av r,PW av r l->eD O f av r
def kS.nil {O:bl} {f:Nat}:kS O f []:=fun _ _ h=>by obtain ⟨t,h,_⟩:=h;cases h
def kS.aR {O:bl} {f:Nat} {a b:an} (ha:kS O f a) (hb:kS O f b):kS O f (a++b):=fun v r h=>by
 obtain ⟨t,h,h2⟩:=h;exact (List.mem_append.1 h).elim (fun h=>ha v r ⟨t,h,h2⟩) (fun h=>hb v r ⟨t,h,h2⟩)
def kS.one {O:bl} {f k:Nat} {av:List AV} {r:AV} (h:eD O f av r):kS O f [.n k (av,r) .l .l]:=fun v q hm=>by
 obtain ⟨t,h1,h2⟩:=hm;rcases wP.1 h1 with e | e
 ·subst e;rcases h2 with h2 | h2 | h2
  ·grind
  ·exact h2.elim
  ·exact h2.elim
 ·cases e
def Tr.lS {α:Type} (p:Nat->α->Prop):Tr α->Prop
 | .l=>True
 | .n k v a b=>p k v/\a.lS p/\b.lS p
def Tr.ja {α:Type} {p:Nat->α->Prop}:Tr.lS p .l:=trivial
def Tr.jH {α:Type} {p:Nat->α->Prop} {k:Nat} {v:α} {a b:Tr α} (h:p k v) (ha:a.lS p) (hb:b.lS p):Tr.lS p (.n k v a b):=⟨h,ha,hb⟩
def Tr.Cz {α:Type} {p:Nat->α->Prop} {i:Nat} {v:α}:∀{t:Tr α},t.lS p->t.find i=some v->p i v
 | .l,_,h=>by simp [Tr.find] at h
 | .n k w a b,ha,h=>by
  simp only [Tr.find] at h
  cases hb:yv i k with
  | true=>
   rw [hb] at h;simp only [yA,yd] at h;subst h;rw [yp hb];exact ha.1
  | false=>
   rw [hb] at h
   cases hc:yQ i k with
   | true=>rw [hc] at h;exact Tr.Cz ha.2.1 h
   | false=>rw [hc] at h;exact Tr.Cz ha.2.2 h
abbrev bl.zp (O:bl) (L:Lib):bl:={O with aC:=L}
def adB {O:bl} {L:Lib} {m:Mp} {S:Nat->Prop} {w:World} {id:Nat} {o:Obj}:fg (O.zp L) m S w id o↔fg O m S w id o:=by
 cases o<;>exact Iff.rfl
def adC {O:bl} {L:Lib} {m:Mp} {S:Nat->Prop} {w:World} {hp:Hp} {ct:Nat}:aU (O.zp L) m S w hp ct↔aU O m S w hp ct:=
 ⟨fun h=>⟨fun id o p h1 h2=>adB.1 (h.obj id o p h1 h2),h.lt,h.inj,h.slt,h.blt,h.low,h.lJ,h.fU,h.aW⟩,
  fun h=>⟨fun id o p h1 h2=>adB.2 (h.obj id o p h1 h2),h.lt,h.inj,h.slt,h.blt,h.low,h.lJ,h.fU,h.aW⟩⟩
def acE {O:bl} {L:Lib} {n:Nat} {hp:Hp} {ct:Nat} {av:List AV} {v:AV} {aj:Hp} {aM:Nat} (h:Bg O n hp ct av v aj aM):Bg (O.zp L) n hp ct av v aj aM:=by
 intro m S w args h1 h2;have post:∀e w',ze O m S w hp ct v aj aM e w'->ze (O.zp L) m S w hp ct v aj aM e w':=by
  rintro e w' ⟨u,m',S',k1,k2,k3,k4,k5⟩;exact ⟨u,m',S',k1,adC.2 k2,k3,k4,k5⟩
 exact AY.mono (h m S w args (adC.1 h1) h2) post
def eX (O:bl) (T:List (Tr an)):Prop:=∀t,t∈T->t.lS (kS O)
def eX.nil {O:bl}:eX O []:=fun _ h=>by cases h
def eX.cons {O:bl} {t:Tr an} {T:List (Tr an)} (h:t.lS (kS O)) (hT:eX O T):eX O (t::T):=fun u hu=>by
 rcases wP.1 hu with e | e
 ·grind
 ·exact hT u e
def Rv {O:bl} {n:Nat}:∀{T:List (Tr an)} {l:an},eX O T->C0 n T=some l->kS O n l
 | [],_,_,h=>by simp [C0] at h
 | t::T,l,hT,h=>by
  have hT':eX O T:=fun u hu=>hT u (we _ hu)
  simp only [C0] at h
  split at h
  ·exact Rv hT' h
  ·rename_i l1 h1;have c1:=Tr.Cz (hT t wF) h1
   split at h
   ·grind
   ·rename_i m h2;simp only [yd] at h;subst h;exact kS.aR c1 (Rv hT' h2)
def aeL {O:bl} (hO:eP O) {T:List (Tr an)} (hT:eX O T) (ex:Nat):eP (O.zp (Oq O.aC T ex)) where
 hint:=hO.hint
 mixed:=hO.mixed
 prog:=hO.prog
 aC n sp av r h hs:=by
  simp only [Oq] at h
  cases hl:O.aC.pure n with
  | some PX=>
   simp only [hl,yd] at h;subst h;exact hO.aC n _ av r hl hs
  | none=>
   simp only [hl] at h
   cases hb:yv n ex with
   | true=>rw [hb] at h;cases h
   | false=>
    rw [hb] at h;simp only [yT] at h
    cases hf:C0 n T with
    | none=>simp [hf] at h
    | some l=>
     simp only [hf,yd] at h;subst h;exact Rv hT hf av r (ap9 hs)
 Fl n sp hp ct av v aj aM h hs:=acE (hO.Fl n sp hp ct av v aj aM h hs)
def Rw {O:bl} {L:Lib} (hO:eP (O.zp L)) {f:Nat} {av:List AV} {r:AV}:∀{t:Te},JT O.prog L f t=true->t.Has (av,r)->eD O f av r
 | .l,_,h=>h.elim
 | .n k e x y,h,hm=>by
  simp only [JT,yg] at h;rcases hm with e1 | hm | hm
  ·subst e1;have h1:=h.1
   split at h1
   ·rename_i r' hr;have e:r'=r:=adA _ _ h1;rw [<-e];exact sound hO hr
   ·cases h1
  ·exact Rw hO h.2.1 hm
  ·exact Rw hO h.2.2 hm
def abP {O:bl} {L:Lib} (hO:eP (O.zp L)) {f:Nat}:∀{l:an},NE O.prog L f l=true->kS O f l
 | [],_=>kS.nil
 | t::l,h=>by
  simp only [NE,yg] at h;intro v q hm;obtain ⟨t',h1,h2⟩:=hm;rcases wP.1 h1 with e | e
  ·subst e;exact Rw hO h.1 h2
  ·exact abP hO h.2 v q ⟨t',e,h2⟩
def chunk_ok {O:bl} (hO:eP O) {T:List (Tr an)} (hT:eX O T):∀{C:List (Nat×an)},bm O.prog O.aC T C=true->∀f l,(f,l)∈C->kS O f l
 | [],_,f,l,h=>by cases h
 | (g,l')::C,h,f,l,hm=>by
  simp only [bm,yg] at h;rcases wP.1 hm with e | hm
  ·injection e with e1 e2
   subst e1;subst e2;exact abP (aeL hO hT f) h.1
  ·exact chunk_ok hO hT h.2 f l hm
def br {O:bl} {P:aK} {L:Lib} (hO:eP O) (hp:O.prog=P) (hl:O.aC=L) {T:List (Tr an)} (hT:eX O T) {C:List (Nat×an)} (h:bm P L T C=true) (i:Nat) {f:Nat} {l:an} (hi:C[i]? =some (f,l)):kS O f l:=by
 subst hp;subst hl;exact chunk_ok hO hT h f l (List.mem_of_getElem? hi)
def aN {α:Type} {p:Nat->α->Prop} {k:Nat} {v:α} {a b:Tr α} (h:p k v) (ha:a.lS p) (hb:b.lS p):Tr.lS p (.n k v a b):=Tr.jH h ha hb
def aL {α:Type} {p:Nat->α->Prop}:Tr.lS p .l:=Tr.ja
end
section
open Go
structure HD where
 n:Nat
 live:List (Nat×List Nat)
 out:List (Nat×List Nat)
 mode:List (Nat×Md)
 fz:List (Nat×List Nat)
 deriving Inhabited
def Jl {α:Type} (i:Nat):List (Nat×α)->Option α
 | []=>none
 | (j,a)::l=>bif yv j i then some a else Jl i l
def awc (b7:Nat->Option Nat) (d:HD):Hint where
 n:=d.n
 b7:=b7
 live:=fun l=>match Jl l d.live with | some x=>x | none=>[]
 out:=fun l=>Jl l d.out
 mode:=fun k=>match Jl k d.mode with | some x=>x | none=> .pure
 fz:=fun i=>match Jl i d.fz with | some x=>x | none=>[]
def NF (b7:Tr Nat) (t:Tr HD) (i:Nat):Hint:=awc b7.find (match t.find i with | some d=>d | none=>⟨0,[],[],[],[]⟩)
def zW (t:Tr Nat) (i:Nat):Nat:=match t.find i with | some f=>f | none=>0
def Jm (af:Tr Nat):Tr Nat->Bool
 | .l=>true
 | .n f g a b=>yv (zW af g) f&&(Jm af a&&Jm af b)
def Q3 {af:Tr Nat}:∀{t:Tr Nat},Jm af t=true->t.lS (fun f g=>zW af g=f)
 | .l,_=>trivial
 | .n f g a b,h=>by
  simp only [Jm,yg] at h;exact ⟨yp h.1,Q3 h.2.1,Q3 h.2.2⟩
def SR (P:y5) (af:Tr Nat) (b7:Tr Nat) (hd:Tr HD) (i:Nat) (F:aV):Prop:=
 ∃fn,P.funcs[zW af i]? =some fn/\EI P (NF b7 hd i) fn=some F/\fn.name≠ "runtime.NumGoroutine"
def aqa {P:y5} {af b7:Tr Nat} {hd:Tr HD} {i:Nat} {F:aV} (h:(P.funcs[zW af i]?).bind (EI P (NF b7 hd i))=some F) (h2:(P.funcs[zW af i]?).map (fun fn=>decide (fn.name= "runtime.NumGoroutine"))=some false):SR P af b7 hd i F:=by
 unfold SR
 cases hq:P.funcs[zW af i]? with
 | none=>rw [hq] at h;cases h
 | some fn=>
  rw [hq] at h h2;refine ⟨fn,rfl,h,fun e=>?_⟩;simp only [Option.map_some,yd,e,yq] at h2;cases h2
end
section
namespace sS
open Go
open Go.Proofs
def af:Tr Nat:=(.n 210 87 (.n 150 169 (.n 117 82 (.n 84 10 (.n 62 69 (.n 49 61 (.n 29 29 (.n 28 30 .l .l) (.n 46 113 .l .l)) (.n 59 49 (.n 50 99 .l .l) .l)) (.n 71 94 (.n 70 90 (.n 69 57 .l .l) .l) (.n 74 60 (.n 73 117 .l .l) .l))) (.n 102 58 (.n 99 172 (.n 88 115 (.n 86 83 .l .l) (.n 98 121 .l .l)) (.n 101 81 (.n 100 123 .l .l) .l)) (.n 109 129 (.n 108 88 (.n 107 119 .l .l) .l) (.n 111 84 (.n 110 130 .l .l) .l)))) (.n 137 193 (.n 127 52 (.n 124 51 (.n 119 122 (.n 118 156 .l .l) (.n 123 120 .l .l)) (.n 126 53 (.n 125 50 .l .l) .l)) (.n 130 152 (.n 129 155 (.n 128 154 .l .l) .l) (.n 136 166 (.n 135 202 .l .l) .l))) (.n 144 180 (.n 141 206 (.n 139 204 (.n 138 203 .l .l) (.n 140 205 .l .l)) (.n 143 178 (.n 142 179 .l .l) .l)) (.n 147 118 (.n 146 151 (.n 145 173 .l .l) .l) (.n 149 85 (.n 148 153 .l .l) .l))))) (.n 180 48 (.n 164 157 (.n 157 175 (.n 154 184 (.n 152 182 (.n 151 174 .l .l) (.n 153 183 .l .l)) (.n 156 165 (.n 155 185 .l .l) .l)) (.n 161 54 (.n 159 177 (.n 158 176 .l .l) .l) (.n 163 106 (.n 162 192 .l .l) .l))) (.n 171 207 (.n 168 224 (.n 166 208 (.n 165 222 .l .l) (.n 167 223 .l .l)) (.n 170 232 (.n 169 225 .l .l) .l)) (.n 174 253 (.n 173 209 (.n 172 107 .l .l) .l) (.n 179 7 (.n 175 167 .l .l) .l)))) (.n 197 42 (.n 191 37 (.n 188 33 (.n 186 32 (.n 185 31 .l .l) (.n 187 34 .l .l)) (.n 190 36 (.n 189 35 .l .l) .l)) (.n 194 40 (.n 193 39 (.n 192 38 .l .l) .l) (.n 196 43 (.n 195 41 .l .l) .l))) (.n 203 47 (.n 200 13 (.n 199 45 (.n 198 44 .l .l) .l) (.n 202 46 (.n 201 18 .l .l) .l)) (.n 206 114 (.n 205 12 (.n 204 11 .l .l) .l) (.n 209 86 (.n 208 80 .l .l) .l)))))) (.n 272 131 (.n 236 161 (.n 223 103 (.n 217 97 (.n 214 93 (.n 212 91 (.n 211 89 .l .l) (.n 213 92 .l .l)) (.n 216 96 (.n 215 95 .l .l) .l)) (.n 220 100 (.n 219 105 (.n 218 98 .l .l) .l) (.n 222 104 (.n 221 102 .l .l) .l))) (.n 230 110 (.n 227 56 (.n 225 55 (.n 224 101 .l .l) (.n 226 59 .l .l)) (.n 229 109 (.n 228 108 .l .l) .l)) (.n 233 158 (.n 232 112 (.n 231 111 .l .l) .l) (.n 235 160 (.n 234 159 .l .l) .l)))) (.n 249 199 (.n 243 171 (.n 240 116 (.n 238 163 (.n 237 162 .l .l) (.n 239 164 .l .l)) (.n 242 170 (.n 241 168 .l .l) .l)) (.n 246 196 (.n 245 195 (.n 244 194 .l .l) .l) (.n 248 198 (.n 247 197 .l .l) .l))) (.n 263 70 (.n 252 226 (.n 251 201 (.n 250 200 .l .l) .l) (.n 262 128 (.n 261 20 .l .l) .l)) (.n 268 66 (.n 267 27 (.n 264 26 .l .l) .l) (.n 271 127 (.n 269 134 .l .l) .l))))) (.n 298 143 (.n 285 135 (.n 279 78 (.n 276 74 (.n 274 76 (.n 273 132 .l .l) (.n 275 133 .l .l)) (.n 278 79 (.n 277 75 .l .l) .l)) (.n 282 145 (.n 281 139 (.n 280 77 .l .l) .l) (.n 284 136 (.n 283 126 .l .l) .l))) (.n 292 141 (.n 289 144 (.n 287 186 (.n 286 137 .l .l) (.n 288 142 .l .l)) (.n 291 140 (.n 290 138 .l .l) .l)) (.n 295 147 (.n 294 146 (.n 293 150 .l .l) .l) (.n 297 149 (.n 296 148 .l .l) .l)))) (.n 355 125 (.n 343 9 (.n 302 190 (.n 300 188 (.n 299 187 .l .l) (.n 301 189 .l .l)) (.n 332 65 (.n 316 72 .l .l) .l)) (.n 352 28 (.n 351 64 (.n 350 71 .l .l) .l) (.n 354 124 (.n 353 63 .l .l) .l))) (.n 414 4 (.n 409 8 (.n 364 24 (.n 359 73 .l .l) .l) (.n 413 67 (.n 412 16 .l .l) .l)) (.n 417 22 (.n 416 21 (.n 415 19 .l .l) .l) (.n 433 6 (.n 432 23 .l .l) .l)))))))
def b7:Tr Nat:=(.n 113 46 (.n 60 74 (.n 34 187 (.n 20 261 (.n 11 204 (.n 8 409 (.n 6 433 (.n 4 414 .l .l) (.n 7 179 .l .l)) (.n 10 84 (.n 9 343 .l .l) .l)) (.n 16 412 (.n 13 200 (.n 12 205 .l .l) .l) (.n 19 415 (.n 18 201 .l .l) .l))) (.n 28 352 (.n 24 364 (.n 22 417 (.n 21 416 .l .l) (.n 23 432 .l .l)) (.n 27 267 (.n 26 264 .l .l) .l)) (.n 31 185 (.n 30 28 (.n 29 29 .l .l) .l) (.n 33 188 (.n 32 186 .l .l) .l)))) (.n 47 203 (.n 41 195 (.n 38 192 (.n 36 190 (.n 35 189 .l .l) (.n 37 191 .l .l)) (.n 40 194 (.n 39 193 .l .l) .l)) (.n 44 198 (.n 43 196 (.n 42 197 .l .l) .l) (.n 46 202 (.n 45 199 .l .l) .l))) (.n 54 161 (.n 51 124 (.n 49 59 (.n 48 180 .l .l) (.n 50 125 .l .l)) (.n 53 126 (.n 52 127 .l .l) .l)) (.n 57 69 (.n 56 227 (.n 55 225 .l .l) .l) (.n 59 226 (.n 58 102 .l .l) .l))))) (.n 88 108 (.n 75 277 (.n 69 62 (.n 65 332 (.n 63 353 (.n 61 49 .l .l) (.n 64 351 .l .l)) (.n 67 413 (.n 66 268 .l .l) .l)) (.n 72 316 (.n 71 350 (.n 70 263 .l .l) .l) (.n 74 276 (.n 73 359 .l .l) .l))) (.n 82 117 (.n 79 278 (.n 77 280 (.n 76 274 .l .l) (.n 78 279 .l .l)) (.n 81 101 (.n 80 208 .l .l) .l)) (.n 85 149 (.n 84 111 (.n 83 86 .l .l) .l) (.n 87 210 (.n 86 209 .l .l) .l)))) (.n 101 224 (.n 95 215 (.n 92 213 (.n 90 70 (.n 89 211 .l .l) (.n 91 212 .l .l)) (.n 94 71 (.n 93 214 .l .l) .l)) (.n 98 218 (.n 97 217 (.n 96 216 .l .l) .l) (.n 100 220 (.n 99 50 .l .l) .l))) (.n 107 172 (.n 104 222 (.n 103 223 (.n 102 221 .l .l) .l) (.n 106 163 (.n 105 219 .l .l) .l)) (.n 110 230 (.n 109 229 (.n 108 228 .l .l) .l) (.n 112 232 (.n 111 231 .l .l) .l)))))) (.n 164 239 (.n 139 281 (.n 126 283 (.n 120 123 (.n 117 73 (.n 115 88 (.n 114 206 .l .l) (.n 116 240 .l .l)) (.n 119 107 (.n 118 147 .l .l) .l)) (.n 123 100 (.n 122 119 (.n 121 98 .l .l) .l) (.n 125 355 (.n 124 354 .l .l) .l))) (.n 133 275 (.n 130 110 (.n 128 262 (.n 127 271 .l .l) (.n 129 109 .l .l)) (.n 132 273 (.n 131 272 .l .l) .l)) (.n 136 284 (.n 135 285 (.n 134 269 .l .l) .l) (.n 138 290 (.n 137 286 .l .l) .l)))) (.n 152 130 (.n 146 294 (.n 143 298 (.n 141 292 (.n 140 291 .l .l) (.n 142 288 .l .l)) (.n 145 282 (.n 144 289 .l .l) .l)) (.n 149 297 (.n 148 296 (.n 147 295 .l .l) .l) (.n 151 146 (.n 150 293 .l .l) .l))) (.n 158 233 (.n 155 129 (.n 154 128 (.n 153 148 .l .l) .l) (.n 157 164 (.n 156 118 .l .l) .l)) (.n 161 236 (.n 160 235 (.n 159 234 .l .l) .l) (.n 163 238 (.n 162 237 .l .l) .l))))) (.n 192 162 (.n 177 159 (.n 171 243 (.n 168 241 (.n 166 136 (.n 165 156 .l .l) (.n 167 175 .l .l)) (.n 170 242 (.n 169 150 .l .l) .l)) (.n 174 151 (.n 173 145 (.n 172 99 .l .l) .l) (.n 176 158 (.n 175 157 .l .l) .l))) (.n 185 155 (.n 182 152 (.n 179 142 (.n 178 143 .l .l) (.n 180 144 .l .l)) (.n 184 154 (.n 183 153 .l .l) .l)) (.n 188 300 (.n 187 299 (.n 186 287 .l .l) .l) (.n 190 302 (.n 189 301 .l .l) .l)))) (.n 205 140 (.n 199 249 (.n 196 246 (.n 194 244 (.n 193 137 .l .l) (.n 195 245 .l .l)) (.n 198 248 (.n 197 247 .l .l) .l)) (.n 202 135 (.n 201 251 (.n 200 250 .l .l) .l) (.n 204 139 (.n 203 138 .l .l) .l))) (.n 223 167 (.n 208 166 (.n 207 171 (.n 206 141 .l .l) .l) (.n 222 165 (.n 209 173 .l .l) .l)) (.n 226 252 (.n 225 169 (.n 224 168 .l .l) .l) (.n 253 174 (.n 232 170 .l .l) .l)))))))
def hd:Tr HD:=(.n 214 ⟨18,[],[],[],[]⟩ (.n 151 ⟨13,[],[],[],[]⟩ (.n 110 ⟨41,[(0,[0,2,3,4])],[(0,[2,3,4])],[],[]⟩ (.n 74 ⟨34,[],[],[],[]⟩ (.n 59 ⟨26,[(1,[0,1,5])],[(1,[])],[],[]⟩ (.n 46 ⟨16,[],[],[],[]⟩ (.n 29 ⟨26,[(1,[0,1,5])],[(1,[])],[],[]⟩ (.n 28 ⟨27,[(1,[0,1,5])],[(1,[])],[],[]⟩ .l .l) .l) (.n 50 ⟨9,[],[],[],[]⟩ (.n 49 ⟨16,[],[],[],[]⟩ .l .l) .l)) (.n 70 ⟨9,[],[],[],[]⟩ (.n 69 ⟨6,[],[],[],[]⟩ (.n 62 ⟨22,[],[],[],[]⟩ .l .l) .l) (.n 73 ⟨8,[],[],[],[]⟩ (.n 71 ⟨16,[],[],[],[]⟩ .l .l) .l))) (.n 100 ⟨66,[],[],[],[]⟩ (.n 88 ⟨23,[(0,[3,9,10,11])],[(0,[3])],[],[]⟩ (.n 86 ⟨76,[],[],[],[]⟩ (.n 84 ⟨20,[],[],[],[]⟩ .l .l) .l) (.n 99 ⟨69,[(1,[3,4,5,6]),(6,[6,10,11])],[(1,[3,6]),(6,[10])],[],[]⟩ (.n 98 ⟨13,[],[],[],[]⟩ .l .l) .l)) (.n 107 ⟨11,[],[],[],[]⟩ (.n 102 ⟨9,[],[],[],[]⟩ (.n 101 ⟨34,[],[],[],[]⟩ .l .l) .l) (.n 108 ⟨6,[],[],[],[]⟩ .l .l)))) (.n 130 ⟨23,[(0,[2,3,4])],[(0,[2,4])],[],[]⟩ (.n 124 ⟨7,[],[],[],[]⟩ (.n 118 ⟨29,[],[],[],[]⟩ (.n 117 ⟨5,[],[],[],[]⟩ (.n 111 ⟨6,[],[],[],[]⟩ .l .l) .l) (.n 123 ⟨23,[(0,[3,9,10,11])],[(0,[3])],[],[]⟩ (.n 119 ⟨67,[],[],[],[]⟩ .l .l) .l)) (.n 127 ⟨21,[(0,[1,8,9,10])],[(0,[])],[],[]⟩ (.n 126 ⟨24,[],[],[],[]⟩ (.n 125 ⟨15,[(0,[5,6,7])],[(0,[])],[],[]⟩ .l .l) .l) (.n 129 ⟨19,[],[],[],[]⟩ .l .l))) (.n 146 ⟨7,[],[],[],[]⟩ (.n 142 ⟨10,[],[],[],[]⟩ (.n 137 ⟨137,[(2,[0,1,6,7,8]),(4,[9,10,11,12,13,14]),(6,[9,11,12,13,96,97])],[(2,[6,7]),(4,[9,11,12,13]),(6,[11,12,13])],[(5,.own),(7,.own),(8,.heap)],[]⟩ (.n 136 ⟨24,[],[],[],[]⟩ .l .l) .l) (.n 145 ⟨50,[],[],[],[]⟩ (.n 144 ⟨80,[(0,[1,5,20,21,22]),(2,[1,5,6,7,8,20,21,22,27,28,29])],[(0,[5]),(2,[1,5,6,8,20,21,22])],[],[]⟩ .l .l) .l)) (.n 149 ⟨14,[],[],[],[]⟩ (.n 148 ⟨21,[],[],[],[]⟩ (.n 147 ⟨26,[],[],[],[]⟩ .l .l) .l) (.n 150 ⟨9,[],[],[],[]⟩ .l .l))))) (.n 191 ⟨45,[],[],[],[]⟩ (.n 168 ⟨40,[(0,[1,5,12,13,14])],[(0,[5])],[],[]⟩ (.n 161 ⟨18,[(0,[6,7,8])],[(0,[])],[],[]⟩ (.n 157 ⟨54,[(1,[0,1,5,6,21,22])],[(1,[0,5,6])],[],[]⟩ (.n 156 ⟨9,[],[],[],[]⟩ (.n 155 ⟨23,[(0,[1,2,4,5])],[(0,[4,5])],[],[]⟩ .l .l) .l) (.n 159 ⟨41,[(0,[0,1,5,6,13,14])],[(0,[5])],[],[]⟩ (.n 158 ⟨41,[(2,[0,1,5])],[(2,[])],[],[]⟩ .l .l) .l)) (.n 165 ⟨135,[(3,[2,8,9,10,11,13,14,15,16]),(6,[2,8,9,10,14,15,16,17,18])],[(3,[2,8,9,10,11,13,14,15]),(6,[2,8,14,15,17,18])],[],[]⟩ (.n 164 ⟨84,[],[],[],[]⟩ (.n 163 ⟨9,[],[],[],[]⟩ .l .l) .l) (.n 166 ⟨21,[(0,[0,3])],[(0,[0,3])],[],[]⟩ .l .l))) (.n 186 ⟨17,[],[],[],[]⟩ (.n 179 ⟨318,[],[],[],[]⟩ (.n 172 ⟨25,[],[],[],[]⟩ (.n 169 ⟨186,[(1,[0,1,5,6,7,8]),(4,[0,1,5,6,11,12,104,105]),(7,[0,1,5,6,17,156,157])],[(1,[0,1,5,6]),(4,[0,1,5,6,11,12]),(7,[0,5,6,17])],[],[]⟩ .l .l) .l) (.n 185 ⟨16,[],[],[],[]⟩ (.n 180 ⟨59,[(1,[0,1,7,21,22]),(3,[7,9,10])],[(1,[0,1,7]),(3,[7])],[],[]⟩ .l .l) .l)) (.n 189 ⟨35,[],[],[],[]⟩ (.n 188 ⟨11,[],[],[],[]⟩ (.n 187 ⟨8,[],[],[],[]⟩ .l .l) .l) (.n 190 ⟨22,[],[],[],[]⟩ .l .l)))) (.n 202 ⟨73,[(2,[5,6,7])],[(2,[5,6,7])],[],[]⟩ (.n 197 ⟨51,[],[],[],[]⟩ (.n 194 ⟨24,[],[],[],[]⟩ (.n 193 ⟨20,[],[],[],[]⟩ (.n 192 ⟨33,[],[],[],[]⟩ .l .l) .l) (.n 196 ⟨10,[],[],[],[]⟩ (.n 195 ⟨45,[],[],[],[]⟩ .l .l) .l)) (.n 200 ⟨84,[(2,[8,9,37,38,39]),(4,[8,9,11,12,37,38,39,46,47]),(6,[8,9,11,12,13,14,37,38,39,46,47,51,52,53])],[(2,[9]),(4,[8,9,12,37,38,39]),(6,[8,9,11,12,14,37,38,39,46,47])],[],[(23,[12])]⟩ (.n 199 ⟨28,[],[],[],[]⟩ (.n 198 ⟨21,[],[],[],[]⟩ .l .l) .l) (.n 201 ⟨102,[(1,[0,1,7,34,35,36]),(4,[10,13,76,77,78])],[(1,[0,7]),(4,[13])],[],[(20,[13])]⟩ .l .l))) (.n 209 ⟨25,[],[],[],[]⟩ (.n 205 ⟨20,[],[],[],[]⟩ (.n 204 ⟨95,[(1,[5,6,7,8,32,33]),(3,[5,6,7,8,9,10,32,33,39,40]),(5,[5,6,7,8,9,10,12,32,33,52,53,54])],[(1,[8]),(3,[5,6,7,8,9,10,32,33]),(5,[5,6,7,8,10,12,32,33])],[],[(25,[10])]⟩ (.n 203 ⟨10,[],[],[],[]⟩ .l .l) .l) (.n 208 ⟨8,[],[],[],[]⟩ (.n 206 ⟨16,[],[],[],[]⟩ .l .l) .l)) (.n 212 ⟨10,[],[],[],[]⟩ (.n 211 ⟨51,[(0,[2,4,6,8,18,19,20]),(2,[2,4,6,8,10,18,19,20,29,30,31])],[(0,[6,8]),(2,[2,4,6,8,18,19,20])],[],[]⟩ (.n 210 ⟨22,[],[],[],[]⟩ .l .l) .l) (.n 213 ⟨35,[],[],[],[]⟩ .l .l)))))) (.n 274 ⟨25,[],[],[],[]⟩ (.n 236 ⟨6,[],[],[],[]⟩ (.n 225 ⟨19,[(0,[3,6,7,8])],[(0,[3])],[],[]⟩ (.n 220 ⟨11,[],[],[],[]⟩ (.n 217 ⟨22,[],[],[],[]⟩ (.n 216 ⟨42,[],[],[],[]⟩ (.n 215 ⟨5,[],[],[],[]⟩ .l .l) .l) (.n 219 ⟨6,[],[],[],[]⟩ (.n 218 ⟨68,[],[],[],[]⟩ .l .l) .l)) (.n 223 ⟨16,[],[],[],[]⟩ (.n 222 ⟨10,[],[],[],[]⟩ (.n 221 ⟨32,[],[],[],[]⟩ .l .l) .l) (.n 224 ⟨38,[],[],[],[]⟩ .l .l))) (.n 231 ⟨7,[],[],[],[]⟩ (.n 228 ⟨13,[],[],[],[]⟩ (.n 227 ⟨140,[(0,[4,5,6,7,8,24,25]),(2,[4,5,6,7,8,9,10,11,24,25]),(5,[4,5,6,7,8,9,10,24,25,89,90])],[(0,[4,8]),(2,[4,5,6,7,8,9,10,11,24,25]),(5,[4,5,6,7,8,9,24,25])],[],[]⟩ (.n 226 ⟨31,[(0,[4,9,10,11]),(2,[4,6,9,10,11,15,16,17])],[(0,[4]),(2,[4,6,9,10,11])],[],[]⟩ .l .l) .l) (.n 230 ⟨11,[],[],[],[]⟩ (.n 229 ⟨32,[],[],[],[]⟩ .l .l) .l)) (.n 234 ⟨33,[(1,[0,1,4,5,6])],[(1,[4,5])],[],[]⟩ (.n 233 ⟨33,[(1,[0,1,4,5,6])],[(1,[4,5])],[],[]⟩ (.n 232 ⟨28,[(0,[0,2,3]),(2,[0,2,3])],[(0,[0,2,3]),(2,[0,2,3])],[],[]⟩ .l .l) .l) (.n 235 ⟨35,[],[],[],[]⟩ .l .l)))) (.n 252 ⟨7,[],[],[],[]⟩ (.n 243 ⟨63,[],[],[],[]⟩ (.n 239 ⟨40,[(0,[1,2,4,5,11,12])],[(0,[4,5])],[],[]⟩ (.n 238 ⟨3,[],[],[],[]⟩ (.n 237 ⟨38,[(1,[1,2,3])],[(1,[2])],[],[]⟩ .l .l) .l) (.n 241 ⟨14,[],[],[],[]⟩ (.n 240 ⟨34,[(0,[0,1,6,7,9,12,13])],[(0,[9])],[],[]⟩ .l .l) .l)) (.n 246 ⟨6,[],[],[],[]⟩ (.n 245 ⟨15,[],[],[],[]⟩ (.n 244 ⟨56,[(0,[4,5,6,7,8,9])],[(0,[4,7])],[],[]⟩ .l .l) .l) (.n 247 ⟨10,[],[],[],[]⟩ .l .l))) (.n 268 ⟨14,[],[],[],[]⟩ (.n 263 ⟨96,[],[],[],[]⟩ (.n 262 ⟨13,[],[],[],[]⟩ (.n 261 ⟨19,[(0,[0,3])],[(0,[])],[],[]⟩ .l .l) .l) (.n 267 ⟨55,[],[],[],[]⟩ (.n 264 ⟨63,[],[],[],[]⟩ .l .l) .l)) (.n 272 ⟨17,[(0,[0,3])],[(0,[0])],[],[]⟩ (.n 271 ⟨9,[],[],[],[]⟩ (.n 269 ⟨14,[],[],[],[]⟩ .l .l) .l) (.n 273 ⟨18,[],[],[],[]⟩ .l .l))))) (.n 296 ⟨41,[(2,[0,1,5])],[(2,[])],[],[]⟩ (.n 285 ⟨9,[],[],[],[]⟩ (.n 280 ⟨57,[],[],[],[]⟩ (.n 277 ⟨61,[],[],[],[]⟩ (.n 276 ⟨54,[],[],[],[]⟩ (.n 275 ⟨19,[(0,[0,1])],[(0,[0])],[],[]⟩ .l .l) .l) (.n 279 ⟨40,[],[],[],[]⟩ (.n 278 ⟨16,[],[],[],[]⟩ .l .l) .l)) (.n 283 ⟨13,[],[],[],[]⟩ (.n 282 ⟨39,[(1,[1,3,4])],[(1,[1,3])],[],[]⟩ (.n 281 ⟨25,[(0,[0,2,3,4])],[(0,[2,3,4])],[],[]⟩ .l .l) .l) (.n 284 ⟨7,[],[],[],[]⟩ .l .l))) (.n 291 ⟨12,[(0,[0,1])],[(0,[0])],[],[]⟩ (.n 288 ⟨40,[(1,[0,2,3,4])],[(1,[0,2,3,4])],[],[]⟩ (.n 287 ⟨20,[(0,[0,3])],[(0,[])],[],[]⟩ (.n 286 ⟨14,[],[],[],[]⟩ .l .l) .l) (.n 290 ⟨20,[(0,[0,3,4])],[(0,[3])],[],[]⟩ (.n 289 ⟨206,[(2,[0,8,9,10,11]),(4,[8,9,10,11,12,13]),(6,[8,9,10,11,12,13,14,15,16]),(10,[8,9,10,11,12,13,14,19,20])],[(2,[8,9,10,11]),(4,[8,10,11,12]),(6,[8,9,10,11,12,13,14,15]),(10,[8,9,10,11,12,13,14,19])],[(5,.heap)],[]⟩ .l .l) .l)) (.n 294 ⟨15,[],[],[],[]⟩ (.n 293 ⟨72,[(0,[0,1,5,6]),(2,[0,1,5,6,7,8])],[(0,[5]),(2,[0,1,5,6,7])],[],[]⟩ (.n 292 ⟨25,[(0,[0,1,5])],[(0,[5])],[],[]⟩ .l .l) .l) (.n 295 ⟨42,[(0,[0,1,5,6,7])],[(0,[5])],[],[]⟩ .l .l)))) (.n 351 ⟨10,[],[],[],[]⟩ (.n 302 ⟨13,[],[],[],[]⟩ (.n 299 ⟨39,[(0,[0,1,6,7,8])],[(0,[6,7])],[],[]⟩ (.n 298 ⟨9,[],[],[],[]⟩ (.n 297 ⟨35,[(0,[0,1,5,6,7])],[(0,[5])],[],[]⟩ .l .l) .l) (.n 301 ⟨77,[(0,[0,1,2,7,9,10])],[(0,[9])],[],[]⟩ (.n 300 ⟨21,[(0,[0])],[(0,[0])],[],[]⟩ .l .l) .l)) (.n 343 ⟨47,[(2,[0,3])],[(2,[])],[],[]⟩ (.n 332 ⟨14,[(0,[0,3,4])],[(0,[3])],[],[]⟩ (.n 316 ⟨16,[(0,[0,3])],[(0,[])],[],[]⟩ .l .l) .l) (.n 350 ⟨69,[(0,[0,1,6,7,8]),(2,[7,9,10,11,12])],[(0,[6,7]),(2,[11])],[(2,.own)],[]⟩ .l .l))) (.n 413 ⟨11,[],[],[],[]⟩ (.n 355 ⟨5,[],[],[],[]⟩ (.n 354 ⟨21,[(0,[0,3,4])],[(0,[3])],[],[]⟩ (.n 353 ⟨159,[(0,[0,4,5]),(2,[0,4,5,6]),(5,[0,4,5,7,8,9]),(7,[0,4,5,7,10]),(10,[0,4,5,7,10,11,12])],[(0,[0,4]),(2,[0,4,5,6]),(5,[0,4,5,7]),(7,[0,4,5]),(10,[0,4,5,7,10])],[(0,.heap),(1,.heap)],[]⟩ .l .l) .l) (.n 412 ⟨6,[],[],[],[]⟩ (.n 409 ⟨68,[(1,[0,1,22,23]),(4,[0,1,5,22,23,53,54])],[(1,[]),(4,[0,1,22,23])],[],[]⟩ .l .l) .l)) (.n 416 ⟨24,[],[],[],[]⟩ (.n 415 ⟨19,[(0,[0,3])],[(0,[])],[],[]⟩ (.n 414 ⟨70,[],[],[],[(1,[1])]⟩ .l .l) .l) (.n 417 ⟨30,[],[],[],[]⟩ .l .l)))))))
def awd:Jm af b7=true:=by decide+kernel
noncomputable def cc (i:Nat):aV:=match (Tryz.prog.funcs[zW af i]?).bind (EI Tryz.prog (NF b7 hd i)) with
 | some F=>F
 | none=>⟨[],.skip⟩
end sS
end
section
open sS (cc)
noncomputable def Tv:Tr aV:=(.n 214 (cc 214) (.n 151 N9 (.n 110 N4 (.n 74 Ar (.n 59 (cc 59) (.n 46 sR (.n 29 DT (.n 28 (cc 28) .l .l) .l) (.n 50 KY (.n 49 c49 .l .l) .l)) (.n 70 K0 (.n 69 KZ (.n 62 Gv .l .l) .l) (.n 73 BZ (.n 71 Gw .l .l) .l))) (.n 100 mv (.n 88 jD (.n 86 dR (.n 84 pZ .l .l) .l) (.n 99 DU (.n 98 PU .l .l) .l)) (.n 107 N3 (.n 102 Uc (.n 101 nf .l .l) .l) (.n 108 Ud .l .l)))) (.n 130 Uf (.n 124 Fs (.n 118 Dl (.n 117 N5 (.n 111 Ue .l .l) .l) (.n 123 Jy (.n 119 c119 .l .l) .l)) (.n 127 JA (.n 126 Jz (.n 125 N6 .l .l) .l) (.n 129 Ft .l .l))) (.n 146 Ug (.n 142 N7 (.n 137 JC (.n 136 JB .l .l) .l) (.n 145 zT (.n 144 N8 .l .l) .l)) (.n 149 aj1 (.n 148 Uh (.n 147 JD .l .l) .l) (.n 150 (cc 150) .l .l))))) (.n 191 (cc 191) (.n 168 Od (.n 161 Fv (.n 157 JE (.n 156 Ui (.n 155 Oa .l .l) .l) (.n 159 Ob (.n 158 Fu .l .l) .l)) (.n 165 JF (.n 164 mw (.n 163 Oc .l .l) .l) (.n 166 Bq .l .l))) (.n 186 (cc 186) (.n 179 (cc 179) (.n 172 Oe (.n 169 sd .l .l) .l) (.n 185 (cc 185) (.n 180 (cc 180) .l .l) .l)) (.n 189 (cc 189) (.n 188 (cc 188) (.n 187 (cc 187) .l .l) .l) (.n 190 (cc 190) .l .l)))) (.n 202 (cc 202) (.n 197 (cc 197) (.n 194 (cc 194) (.n 193 (cc 193) (.n 192 (cc 192) .l .l) .l) (.n 196 (cc 196) (.n 195 (cc 195) .l .l) .l)) (.n 200 (cc 200) (.n 199 (cc 199) (.n 198 (cc 198) .l .l) .l) (.n 201 oc .l .l))) (.n 209 (cc 209) (.n 205 (cc 205) (.n 204 (cc 204) (.n 203 (cc 203) .l .l) .l) (.n 208 (cc 208) (.n 206 (cc 206) .l .l) .l)) (.n 212 (cc 212) (.n 211 (cc 211) (.n 210 (cc 210) .l .l) .l) (.n 213 (cc 213) .l .l)))))) (.n 274 Oh (.n 236 (cc 236) (.n 225 Of (.n 220 (cc 220) (.n 217 (cc 217) (.n 216 (cc 216) (.n 215 (cc 215) .l .l) .l) (.n 219 (cc 219) (.n 218 (cc 218) .l .l) .l)) (.n 223 (cc 223) (.n 222 (cc 222) (.n 221 (cc 221) .l .l) .l) (.n 224 (cc 224) .l .l))) (.n 231 (cc 231) (.n 228 (cc 228) (.n 227 Dm (.n 226 Og .l .l) .l) (.n 230 (cc 230) (.n 229 (cc 229) .l .l) .l)) (.n 234 (cc 234) (.n 233 (cc 233) (.n 232 (cc 232) .l .l) .l) (.n 235 (cc 235) .l .l)))) (.n 252 (cc 252) (.n 243 (cc 243) (.n 239 (cc 239) (.n 238 (cc 238) (.n 237 (cc 237) .l .l) .l) (.n 241 (cc 241) (.n 240 Dn .l .l) .l)) (.n 246 (cc 246) (.n 245 (cc 245) (.n 244 (cc 244) .l .l) .l) (.n 247 (cc 247) .l .l))) (.n 268 JK (.n 263 dw (.n 262 JH (.n 261 JG .l .l) .l) (.n 267 JJ (.n 264 JI .l .l) .l)) (.n 272 JM (.n 271 Uj (.n 269 JL .l .l) .l) (.n 273 Dp .l .l))))) (.n 296 sf (.n 285 Ol (.n 280 od (.n 277 Dq (.n 276 pK (.n 275 Oi .l .l) .l) (.n 279 Fw (.n 278 Oj .l .l) .l)) (.n 283 Ok (.n 282 JN (.n 281 Uk .l .l) .l) (.n 284 Ul .l .l))) (.n 291 JP (.n 288 On (.n 287 JO (.n 286 Om .l .l) .l) (.n 290 Fx (.n 289 se .l .l) .l)) (.n 294 Bs (.n 293 Br (.n 292 zU .l .l) .l) (.n 295 JQ .l .l)))) (.n 351 nh (.n 302 sj (.n 299 Bt (.n 298 Oo (.n 297 JR .l .l) .l) (.n 301 zV (.n 300 lL .l .l) .l)) (.n 343 FA (.n 332 Fz (.n 316 Fy .l .l) .l) (.n 350 sn .l .l))) (.n 413 FB (.n 355 pL (.n 354 qS (.n 353 qR .l .l) .l) (.n 412 JS (.n 409 Bu .l .l) .l)) (.n 416 FC (.n 415 aj2 (.n 414 lO .l .l) .l) (.n 417 Bv .l .l)))))))
def aj3:Tr (List AV->Option AV):=(.n 154 Jh (.n 139 AZ (.n 135 Jg (.n 128 LZ (.n 109 N2 .l .l) .l) (.n 138 AH .l .l)) (.n 152 L2 (.n 143 rT .l .l) (.n 153 LM .l .l))) (.n 173 A3 (.n 167 Fa (.n 162 trimS .l .l) (.n 171 nV .l .l)) (.n 248 RW (.n 175 IE .l .l) (.n 251 QK .l .l))))
noncomputable def prog:aK:=Tv.find
def aC:Lib:=⟨aj3.find,fun _=>none⟩
end
section
namespace sS
open Go
open Go.Proofs
def atZ:Tv.lS (SR Tryz.prog af b7 hd):=by
 delta Tv
 repeat' first | exact Tr.ja | refine Tr.jH (aqa (by kernel_rfl) (by kernel_rfl)) ?_ ?_
end sS
end
end VE
