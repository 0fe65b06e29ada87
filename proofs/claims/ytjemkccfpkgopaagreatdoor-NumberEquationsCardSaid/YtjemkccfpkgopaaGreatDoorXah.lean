import Derived.Test.YtjemkccfpkgopaaGreatDoorProg
import Derived.KernelRfl
import Derived.Test.YtjemkccfpkgopaaGreatDoorXag
import Derived.Test.YtjemkccfpkgopaaGreatDoorXaa
import Derived.Test.YtjemkccfpkgopaaGreatDoorXad
set_option linter.all false
set_option maxRecDepth 100000
open Bool renaming and_eq_true→ye,false_eq_true→yN
open Go renaming FloatKind→vW,IntKind→y9,Program→y5
open List renaming mem_cons→wE,mem_cons_of_mem→xW,mem_cons_self→wN
open Nat renaming beq→yu,blt→yR,eq_of_beq_eq_true→yj
open Option.some renaming injEq→yd
namespace VE
section
def Ev:VC:=.g [qT 54 53 52] (.q (.cond (.t 54) .skip (.exit 4)) (.q (.aF 5 (.g [qm 55 53,qi 56 4 51 53,qL 57 4 56,Rq 16 (.box 4 (.c (.agg [.i 0,.aa,.i 0,.aa]))),qm 15 55,qs 4 16 57] (.aM [qL 58 4 14,qL 59 4 16,qm 60 8,qm 61 15,qi 62 1 60 61,ql 63 1 62,qm 64 13,qi 65 4 63 64,qL 66 4 65,bg 67 49 59 66,bg 68 74 58 67,qs 4 14 68]))) (.aM [qa 69 53 1,qm 53 69])))
def CA:VC:=.g [qT 48 47 46] (.q (.cond (.t 48) .skip (.exit 2)) (.q (.aF 3 (.g [qm 49 47,qm 13 49] (.g [Rq 50 (.q 69 [.k 0]),Rq 14 (.box 4 (.c (.agg [.i 0,.aa,.i 0,.aa]))),qs 4 14 50] (.q (.g [qm 51 11,qn 52 1 51,qk 53 0] (.q (.aF 4 (.loop [8,9,11,12,13,14,37,38,39,46,47,51,52,53] Ev)) (.kp [8,9,11,12,14,37,38,39,46,47]))) (.aM [qm 70 12,qL 71 4 14,Rq 72 (.cZ 1 4 [.i 0,.aa,.i 0,.aa] [(0,4,.t 71)]),Rq 73 (.aO 4 64 (.t 70) (.t 72)),qm 12 73]))))) (.aM [qa 74 47 1,qm 47 74])))
def Ew:VC:=.g [qT 40 39 38] (.q (.cond (.t 40) .skip (.exit 0)) (.q (.aF 1 (.g [qi 41 1 37 39,ql 42 1 41,qm 11 42] (.g [qz 12] (.q (.g [qm 43 8,Rq 44 (.aQ 1 (.t 43) (.k 0)),ql 45 1 44,qn 46 1 45,qk 47 0] (.q (.aF 2 (.loop [8,9,11,12,37,38,39,46,47] CA)) (.kp [8,9,12,37,38,39]))) (.q (.fz [12]) (.aM [qm 75 9,qm 76 12,Rq 77 (.cZ 1 1 [.aa] [(0,1,.t 76)]),Rq 78 (.aO 1 24 (.t 75) (.t 77)),qm 9 78])))))) (.aM [qa 79 39 1,qm 39 79])))
def nU:aZ:=⟨[.t 4,.t 5],.g [qz 4,qk 5 0] (.q (.g [qm 17 0,aT 18 84 17,qm 19 1,aT 20 84 19,Rq 21 (.cZ 2 1 [.i 0,.i 0] [(0,1,.t 18),(1,1,.t 20)]),aT 22 125 21,qm 6 22] (.g [qm 23 6,qN 24 23 0] (.i 24 (.e [qm 25 6,qz 4,qm 5 25])))) (.h [qm 26 0,Rq 27 (.aQ 1 (.t 26) (.k 0)),ql 28 1 27,qn 29 1 28,qm 30 1,qn 31 1 30,Rq 32 (.z .neq 29 31)] 32 (.e [qz 4,qk 5 2]) (.g [qm 33 0,aT 34 225 33,qm 35 1,aT 36 225 35,qm 7 34,qm 8 36] (.g [qz 9] (.q (.g [qm 37 7,qn 38 1 37,qk 39 0] (.q (.aF 0 (.loop [8,9,37,38,39] Ew)) (.kp [9]))) (.e [qm 80 9,aT 81 226 80,qe 82 0 81,qe 83 1 81,qm 4 82,qm 5 83]))))))⟩
def Ey:VC:=.g [qT 37 36 35] (.q (.cond (.t 37) .skip (.exit 0)) (.q (.aF 1 (.g [qm 38 36,qi 39 1 34 36,ql 40 1 39,qm 8 38,qm 9 40] (.aM [qm 41 7,qm 42 9,qm 43 1,qm 44 8,qi 45 1 43 44,ql 46 1 45,aT 47 62 46,Rq 48 (.cZ 1 4 [.i 0,.aa,.i 0,.aa] [(0,4,.t 47)]),Rq 49 (.aO 4 64 (.t 42) (.t 48)),Rq 50 (.cZ 1 1 [.aa] [(0,1,.t 49)]),Rq 51 (.aO 1 24 (.t 41) (.t 50)),qm 7 51]))) (.aM [qa 52 36 1,qm 36 52])))
def CB:VC:=.g [qT 79 78 77] (.q (.cond (.t 79) .skip (.exit 2)) (.q (.aF 3 (.g [qi 80 1 76 78,ql 81 1 80,qm 15 81] (.aM [qm 82 13,qm 83 15,qm 84 10,qi 85 4 83 84,qL 86 4 85,Rq 87 (.cZ 1 4 [.i 0,.aa,.i 0,.aa] [(0,4,.t 86)]),Rq 88 (.aO 4 64 (.t 82) (.t 87)),qm 13 88]))) (.aM [qa 89 78 1,qm 78 89])))
def nV:aZ:=⟨[.t 4,.t 5],.g [qz 4,qk 5 0] (.q (.g [qm 18 0,aT 19 84 18,qm 20 1,aT 21 161 20,qm 22 1,qn 23 1 22,qm 24 0,qn 25 1 24,Rq 26 (.z .neq 23 25),Rq 27 (.q 124 [.t 26,.k 2]),Rq 28 (.cZ 3 1 [.i 0,.i 0,.i 0] [(0,1,.t 19),(1,1,.t 21),(2,1,.t 27)]),aT 29 125 28,qm 6 29] (.g [qm 30 6,qN 31 30 0] (.i 31 (.e [qm 32 6,qz 4,qm 5 32])))) (.g [qz 7] (.q (.g [qm 33 0,aT 34 225 33,qn 35 1 34,qk 36 0] (.q (.aF 0 (.loop [0,1,7,34,35,36] Ey)) (.kp [0,7]))) (.g [qm 53 0,Rq 54 (.aQ 1 (.t 53) (.k 0)),ql 55 1 54,qn 56 1 55,qm 10 56] (.g [qm 58 7,aT 59 227 58,qm 57 59,qe 60 0 57,qe 61 1 57,qm 11 60,qm 12 61] (.h [qm 62 12,qn 63 1 62,qm 64 10,Rq 65 (.z .neq 63 64),qm 66 65,Rf 67 66 (.m 12),Rf 68 66 (.m 10),Rf 69 66 (.y .sub 68 1),Rf 70 66 (.aQ 1 (.t 67) (.t 69)),Rf 71 66 (.ld 1 false (.t 70)),Rf 72 66 (.m 10),Rf 73 66 (.y .sub 72 1),Rf 74 66 (.z .neq 71 73),qp 75 66 74] 75 (.e [qz 4,qk 5 14]) (.g [qz 13]
 (.q (.g [qm 76 11,qn 77 1 76,qk 78 0] (.q (.aF 2 (.loop [10,13,76,77,78] CB)) (.kp [13]))) (.q (.q (.fz [13]) (.aM [qm 91 13,Rq 92 (.cZ 1 1 [.aa] [(0,1,.t 91)]),aT 93 226 92,qm 90 93,qe 94 0 90,qe 95 1 90,qm 16 94,qm 17 95])) (.h [qm 96 17,qN 97 96 0] 97 (.e [qm 98 17,qz 4,qm 5 98]) (.e [qm 99 16,Rq 100 (.aQ 1 (.t 99) (.k 0)),ql 101 1 100,qm 4 101,qk 5 0])))))))))))⟩
def Js:aZ:=⟨[.t 2,.t 3],.g [qk 2 0,qk 3 0] (.q (.g [qm 7 0,aT 8 84 7,qm 4 8] (.g [qm 9 4,qN 10 9 0] (.i 10 (.e [qm 11 4,qk 2 0,qm 3 11])))) (.g [qm 13 0,aT 14 225 13,aT 15 227 14,qm 12 15,qe 16 0 12,qe 17 1 12,qm 5 16,qm 6 17] (.e [qm 18 6,qn 19 1 18,qm 2 19,qk 3 0])))⟩
def Ez:VC:=.g [qT 9 8 7] (.q (.cond (.t 9) .skip (.exit 0)) (.q (.aF 1 (.g [qi 10 1 6 8,ql 11 1 10,qm 5 11] (.aM [qm 12 3,qm 13 5,aT 14 88 13,Rq 15 (.cZ 1 1 [.aa] [(0,1,.t 14)]),Rq 16 (.aO 1 24 (.t 12) (.t 15)),qm 3 16]))) (.aM [qa 17 8 1,qm 8 17])))
def Jt:aZ:=⟨[.t 2],.g [qz 2] (.g [qz 3] (.q (.g [qm 6 0,qn 7 1 6,qk 8 0] (.q (.aF 0 (.loop [3,6,7,8] Ez)) (.kp [3]))) (.e [qm 18 3,qm 2 18])))⟩
def CC:VC:=.g [qT 18 17 16] (.q (.cond (.t 18) .skip (.exit 2)) (.q (.aF 3 (.g [qi 19 4 15 17,qL 20 4 19,Rq 8 (.box 4 (.c (.agg [.i 0,.aa,.i 0,.aa]))),qs 4 8 20] (.g [qL 21 4 8,aT 22 107 21] (.i 22 (.e [qz 2,qk 3 4]))))) (.aM [qa 23 17 1,qm 17 23])))
def EA:VC:=.g [qT 12 11 10] (.q (.cond (.t 12) .skip (.exit 0)) (.q (.aF 1 (.g [qi 13 1 9 11,ql 14 1 13,qm 6 14] (.q (.g [qm 15 6,qn 16 1 15,qk 17 0] (.q (.aF 2 (.loop [4,6,9,10,11,15,16,17] CC)) (.kp [4,6,9,10,11]))) (.aM [qm 24 4,qm 25 6,aT 26 123 25,Rq 27 (.cZ 1 1 [.aa] [(0,1,.t 26)]),Rq 28 (.aO 1 24 (.t 24) (.t 27)),qm 4 28])))) (.aM [qa 29 11 1,qm 11 29])))
def NQ:aZ:=⟨[.t 2,.t 3],.g [qz 2,qk 3 0] (.g [qz 4] (.q (.g [qm 9 0,qn 10 1 9,qk 11 0] (.q (.aF 0 (.loop [4,9,10,11] EA)) (.kp [4]))) (.e [qm 30 4,qm 2 30,qk 3 0])))⟩
def CD:VC:=.q (.g [qm 31 11,qm 32 4,qn 33 1 32,qT 34 31 33,qm 35 34,Rt 36 35 (.m 4),Rt 37 35 (.m 11),Rt 38 35 (.aQ 1 (.t 36) (.t 37)),Rt 39 35 (.ld 1 false (.t 38)),Rt 40 35 (.m 9),Rt 41 35 (.aQ 4 (.t 39) (.t 40)),Rt 42 35 (.ld 4 true (.t 41)),Rt 43 35 (.q 108 [.t 42]),Rt 44 35 (.y .eql 43 0),qq 45 35 44] (.cond (.t 45) .skip (.exit 2))) (.aF 3 (.aM [qm 46 11,qa 47 46 1,qm 11 47]))
def CE:VC:=.g [qT 91 90 89] (.q (.cond (.t 91) .skip (.exit 4)) (.q (.aF 5 (.g [qm 92 90,qm 12 92] (.g [qm 93 12,qm 94 10,Rq 95 (.z .neq 93 94),qm 96 95,Rt 97 96 (.m 4),Rt 98 96 (.m 12),Rt 99 96 (.aQ 1 (.t 97) (.t 98)),Rt 100 96 (.ld 1 false (.t 99)),Rt 101 96 (.m 9),Rt 102 96 (.aQ 4 (.t 100) (.t 101)),Rt 103 96 (.ld 4 true (.t 102)),Rt 104 96 (.q 108 [.t 103]),Rt 105 96 (.y .neq 104 0),qq 106 96 105] (.i 106 (.aM [qm 107 4,qm 108 12,qm 109 5,qm 110 4,qm 111 12,qi 112 1 110 111,ql 113 1 112,qm 114 4,qm 115 10,qi 116 1 114 115,ql 117 1 116,qL 118 4 6,qm 119 4,qm 120 12,qi 121 1 119 120,ql 122 1 121,qm 123 9,qi 124 4 122 123,qL 125 4 124,aT 126 102 125,Rq 127 (.call .pure (.t 109) [.t 113,.t 117,.t 118,.t 126]),qi 128 1 107 108,qs 1 128 127]))))) (.aM [qa 129 90 1,qm 90 129])))
def EB:VC:=.g [qT 26 25 24] (.q (.cond (.t 26) .skip (.exit 0)) (.q (.aF 1 (.g [qm 27 25,qm 9 27] (.g [qm 28 8,qn 29 1 28,qm 10 29] (.g [qm 30 10,qm 11 30] (.q (.q (.aF 2 (.loop [4,5,6,7,8,9,10,11,24,25] CD)) (.kp [4,5,6,7,8,9,10,11,24,25])) (.h [qm 48 11,qm 49 4,qn 50 1 49,Rq 51 (.z .geq 48 50)] 51 (.exit 1) (.g [qm 52 4,qm 53 10,qm 54 4,qm 55 11,qm 56 4,qm 57 11,qi 58 1 56 57,ql 59 1 58,qm 60 4,qm 61 10,qi 62 1 60 61,ql 63 1 62,qi 64 1 52 53,qs 1 64 59,qi 65 1 54 55,qs 1 65 63] (.g [qm 66 4,qm 67 10,qm 68 5,qm 69 4,qm 70 10,qi 71 1 69 70,ql 72 1 71,qm 73 4,qm 74 10,qi 75 1 73 74,ql 76 1 75,qm 77 4,qm 78 10,qi 79 1 77 78,ql 80 1 79,qm 81 9,qi 82 4 80 81,qL 83 4 82,aT 84 73 83,qL 85 4 7,Rq 86 (.call .pure (.t 68) [.t 72,.t 76,.t 84,.t 85]),qi 87 1 66 67,qs 1 87 86] (.q (.g [qm 88 4,qn 89 1 88,qk 90 0] (.q (.aF 4 (.loop [4,5,6,7,8,9,10,24,25,89,90] CE)) (.kp [4,5,6,7,8,9,24,25]))) (.aM [qm
 130 8,qm 131 9,Rq 132 (.cZ 1 1 [.i 0] [(0,1,.t 131)]),Rq 133 (.aO 1 8 (.t 130) (.t 132)),qm 8 133])))))))))) (.aM [qa 134 25 1,qm 25 134])))
def C4:aZ:=⟨[.t 2,.t 3],.g [qz 2,qz 3] (.g [qm 13 0,qn 14 1 13,Rq 15 (.gj 1 24 [.aa] (.t 14) (.t 14)),qm 4 15] (.g [qm 16 4,qm 17 0,Rq 18 (.mJ 1 (.t 16) (.t 17))] (.g [Rq 5 (.cu (.F 240))] (.g [Rq 19 (.q 69 [.k 1]),Rq 20 (.q 69 [.k 0]),Rq 6 (.box 4 (.c (.agg [.i 0,.aa,.i 0,.aa]))),Rq 7 (.box 4 (.c (.agg [.i 0,.aa,.i 0,.aa]))),qs 4 6 19,qs 4 7 20] (.g [qz 8] (.q (.g [qm 21 0,Rq 22 (.aQ 1 (.t 21) (.k 0)),ql 23 1 22,qn 24 1 23,qk 25 0] (.q (.aF 0 (.loop [4,5,6,7,8,24,25] EB)) (.kp [4,8]))) (.e [qm 135 4,qm 136 8,qn 137 1 136,Rq 138 (.dS (.sl 1) (.t 135) none (some (.t 137))),qm 139 8,qm 2 138,qm 3 139])))))))⟩
def EC:VC:=.g [qT 14 13 12] (.q (.cond (.t 14) .skip (.exit 0)) (.q (.aF 1 (.g [qm 15 13,qm 10 15] (.aM [qm 16 9,qm 17 0,qm 18 10,qi 19 4 17 18,qL 20 4 19,qL 21 4 6,bg 22 49 20 21,qm 23 1,qm 24 10,qi 25 4 23 24,qL 26 4 25,qL 27 4 7,bg 28 49 26 27,bg 29 74 22 28,Rq 30 (.cZ 1 4 [.i 0,.aa,.i 0,.aa] [(0,4,.t 29)]),Rq 31 (.aO 4 64 (.t 16) (.t 30)),qm 9 31]))) (.aM [qa 32 13 1,qm 13 32])))
def C5:aZ:=⟨[.t 8],.g [qb 6 4 2,qb 7 4 3,qz 8] (.g [qz 9] (.q (.g [qm 11 0,qn 12 1 11,qk 13 0] (.q (.aF 0 (.loop [0,1,6,7,9,12,13] EC)) (.kp [9]))) (.e [qm 33 9,qm 8 33])))⟩
end
section
def ED:VC:=.q (.g [qm 5 3,qm 6 0,qn 7 1 6,qT 8 5 7] (.cond (.t 8) .skip (.exit 0))) (.q (.aF 1 (.g [qm 11 0,qm 12 3,qi 13 1 11 12,ql 14 1 13,aT 15 263 14,qm 4 15] (.g [qm 16 4,qN 17 16 0] (.i 17 (.e [qm 18 4,qm 2 18]))))) (.aM [qm 9 3,qa 10 9 1,qm 3 10]))
def Ju:aZ:=⟨[.t 2],.g [qk 2 0] (.q (.g [qk 3 0] (.q (.aF 0 (.loop [0,3] ED)) (.kp []))) (.e [qk 2 0]))⟩
def Jv:aZ:=⟨[.t 2],.g [qk 2 0] (.h [qm 3 0,Rq 4 (.bin .eql (.t 3) (.s [48]))] 4 (.e [qk 2 0]) (.h [qm 5 0,qn 6 0 5,Rq 7 (.y .gtr 6 0),qm 8 7,Rt 9 8 (.m 0),Rt 10 8 (.kT (.t 9) (.k 0)),Rt 11 8 (.bin .eql (.t 10) (.c (.int .u8 45))),qq 12 8 11] 12 (.e [qk 2 (-1)]) (.e [qk 2 1])))⟩
def dj:aZ:=⟨[.t 2],.g [qk 2 0] (.g [qm 8 0,qm 3 8] (.h [qm 9 3,qn 10 0 9,Rq 11 (.y .gtr 10 0),qm 12 11,Rt 13 12 (.m 3),Rt 14 12 (.kT (.t 13) (.k 0)),Rt 15 12 (.bin .eql (.t 14) (.c (.int .u8 45))),qq 16 12 15] 16 (.aM [qm 17 3,Rq 18 (.dS .str (.t 17) (some (.k 1)) none),qm 3 18]) (.g [qm 19 3,aT 20 272 19,qm 4 20] (.h [qm 21 3,qm 22 4,Rq 23 (.dS .str (.t 21) none (some (.t 22))),aT 24 273 23,Rq 25 (.un .not (.t 24)),qm 26 25,Rf 27 26 (.m 0),Rf 28 26 (.kT (.t 27) (.k 0)),Rf 29 26 (.bin .eql (.t 28) (.c (.int .u8 45))),Rf 30 26 (.m 29),Rt 31 30 (.m 3),Rt 32 30 (.m 4),Rt 33 30 (.dS .str (.t 31) none (some (.t 32))),Rt 34 30 (.bin .eql (.t 33) (.s [48])),Rf 35 26 (.pick (.t 30) (.t 34) (.c (.bool false))),qp 36 26 35] 36 (.e [qk 2 1]) (.h [qm 37 4,qm 38 3,qn 39 0 38,qT 40 37 39,qm 41 40,Rt 42 41 (.m 3),Rt 43 41 (.m 4),Rt 44 41 (.y .add 43 1),Rt 45 41 (.dS .str (.t 42) (some (.t 44)) none),Rt 46
 41 (.q 273 [.t 45]),Rt 47 41 (.un .not (.t 46)),Rt 48 41 (.m 47),Rf 49 48 (.m 3),Rf 50 48 (.m 4),Rf 51 48 (.y .add 50 1),Rf 52 48 (.dS .str (.t 49) (some (.t 51)) none),Rf 53 48 (.bin .eql (.t 52) (.s [48])),Rt 54 41 (.pick (.t 48) (.c (.bool true)) (.t 53)),Rt 55 41 (.m 54),Rf 56 55 (.m 3),Rf 57 55 (.m 4),Rf 58 55 (.y .add 57 1),Rf 59 55 (.dS .str (.t 56) (some (.t 58)) none),Rf 60 55 (.bin .eql (.t 59) (.s [49])),Rt 61 41 (.pick (.t 55) (.c (.bool true)) (.t 60)),qq 62 41 61] 62 (.e [qk 2 1]) (.h [qm 63 4,Rq 64 (.y .gtr 63 600),qm 65 64,Rf 66 65 (.m 3),Rf 67 65 (.len 0 (.t 66)),Rf 68 65 (.m 4),Rf 69 65 (.z .sub 67 68),Rf 70 65 (.y .sub 69 1),Rf 71 65 (.y .gtr 70 600),qp 72 65 71] 72 (.e [qk 2 4]) (.h [qm 73 4,qm 74 3,qn 75 0 74,qT 76 73 75] 76 (.g [qm 78 3,aT 79 274 78,qm 77 79,qe 80 0 77,qe 81 1 77,Rq 5 (.box 2 (.c (.agg [.bool false,.aa]))),Rq 6 (.box 2 (.c (.agg [.bool false,.aa]))),qs
 2 5 80,qs 2 6 81] (.g [qo 82 1 5,ql 83 1 82,qo 84 1 6,ql 85 1 84,bg 86 275 83 85,qm 7 86] (.g [qm 87 7,qn 88 1 87,qN 89 88 1,qm 90 89,Rf 91 90 (.m 7),Rf 92 90 (.aQ 1 (.t 91) (.k 0)),Rf 93 90 (.ld 1 false (.t 92)),Rf 94 90 (.y .neq 93 1),qp 95 90 94] (.i 95 (.e [qk 2 1]))))) (.e [qk 2 0]))))))))⟩
def Jw:aZ:=⟨[.t 4],.g [Rq 4 (.cu (.s []))] (.g [qm 16 0,aT 17 276 16,qm 15 17,qe 18 0 15,qe 19 1 15,qe 20 2 15,qm 5 18,qm 6 19,qm 7 20] (.g [qm 22 1,aT 23 276 22,qm 21 23,qe 24 0 21,qe 25 1 21,qe 26 2 21,qm 8 24,qm 9 25,qm 10 26] (.h [qm 27 7,qm 28 27,Rt 29 28 (.m 10),qq 30 28 29] 30 (.e [qm 31 5,qm 32 9,Rq 33 (.z .mul 31 32),qm 34 8,qm 35 6,Rq 36 (.z .mul 34 35),qA 37 33 36,qm 38 6,qm 39 9,Rq 40 (.z .mul 38 39),bg 41 277 37 40,qm 4 41]) (.g [qm 43 0,aT 44 274 43,qm 42 44,qe 45 0 42,qe 46 1 42,Rq 11 (.box 2 (.c (.agg [.bool false,.aa]))),Rq 12 (.box 2 (.c (.agg [.bool false,.aa]))),qs 2 11 45,qs 2 12 46] (.g [qm 48 1,aT 49 274 48,qm 47 49,qe 50 0 47,qe 51 1 47,Rq 13 (.box 2 (.c (.agg [.bool false,.aa]))),Rq 14 (.box 2 (.c (.agg [.bool false,.aa]))),qs 2 13 50,qs 2 14 51] (.e [qL 52 2 11,qL 53 2 14,bg 54 278 52 53,qL 55 2 13,qL 56 2 12,bg 57 278 55 56,bg 58 279 54 57,qL 59 2 12,qL 60
 2 14,bg 61 278 59 60,bg 62 280 58 61,qm 4 62]))))))⟩
def Jx:aZ:=⟨[.t 4],.g [Rq 4 (.cu (.s []))] (.g [qm 16 0,aT 17 276 16,qm 15 17,qe 18 0 15,qe 19 1 15,qe 20 2 15,qm 5 18,qm 6 19,qm 7 20] (.g [qm 22 1,aT 23 276 22,qm 21 23,qe 24 0 21,qe 25 1 21,qe 26 2 21,qm 8 24,qm 9 25,qm 10 26] (.h [qm 27 7,qm 28 27,Rt 29 28 (.m 10),qq 30 28 29] 30 (.e [qm 31 5,qm 32 8,Rq 33 (.z .mul 31 32),qm 34 6,qm 35 9,Rq 36 (.z .mul 34 35),bg 37 277 33 36,qm 4 37]) (.g [qm 39 0,aT 40 274 39,qm 38 40,qe 41 0 38,qe 42 1 38,Rq 11 (.box 2 (.c (.agg [.bool false,.aa]))),Rq 12 (.box 2 (.c (.agg [.bool false,.aa]))),qs 2 11 41,qs 2 12 42] (.g [qm 44 1,aT 45 274 44,qm 43 45,qe 46 0 43,qe 47 1 43,Rq 13 (.box 2 (.c (.agg [.bool false,.aa]))),Rq 14 (.box 2 (.c (.agg [.bool false,.aa]))),qs 2 13 46,qs 2 14 47] (.e [qL 48 2 11,qL 49 2 13,bg 50 278 48 49,qL 51 2 12,qL 52 2 14,bg 53 278 51 52,bg 54 280 50 53,qm 4 54]))))))⟩
def ajt:aZ:=⟨[.t 2],.g [Rq 2 (.cu (.s []))] (.h [qm 3 0,aT 4 262 3,Rq 5 (.y .lss 4 0)] 5 (.e [qm 6 0,Rq 7 (.dS .str (.t 6) (some (.k 1)) none),qm 2 7]) (.h [qm 8 0,aT 9 262 8,qE 10 9 0] 10 (.e [qm 11 0,qm 2 11]) (.e [qm 12 0,Rq 13 (.bin .add (.s [45]) (.t 12)),qm 2 13])))⟩
def aju:aZ:=⟨[.t 2],.g [qk 2 0] (.h [qm 3 0,aT 4 284 3,aT 5 285 4,qn 6 0 5,Rq 7 (.y .gtr 6 600),qm 8 7,Rf 9 8 (.m 0),Rf 10 8 (.q 286 [.t 9]),Rf 11 8 (.len 0 (.t 10)),Rf 12 8 (.y .gtr 11 600),qp 13 8 12] 13 (.e [qk 2 4]) (.e [qk 2 0]))⟩
def ajv:aZ:=⟨[.t 4],.g [Rq 4 (.cu (.s []))] (.e [qm 5 0,qm 6 1,aT 7 268 6,bg 8 264 5 7,qm 4 8])⟩
def EE:VC:=.q (.g [qm 4 3,qm 5 0,qn 6 0 5,qT 7 4 6] (.cond (.t 7) .skip (.exit 0))) (.q (.aF 1 (.g [qm 10 0,qm 11 3,Rq 12 (.kT (.t 10) (.t 11)),Rq 13 (.bin .eql (.t 12) (.c (.int .u8 47)))] (.i 13 (.e [qm 14 3,qm 2 14])))) (.aM [qm 8 3,qa 9 8 1,qm 3 9]))
def Jy:aZ:=⟨[.t 2],.g [qk 2 0] (.q (.g [qk 3 0] (.q (.aF 0 (.loop [0,3] EE)) (.kp [0]))) (.e [qm 15 0,qn 16 0 15,qm 2 16]))⟩
def C6:aZ:=⟨[.t 2],.g [qf 2] (.h [qm 3 0,qn 4 0 3,qE 5 4 0,qm 6 5,Rf 7 6 (.m 0),Rf 8 6 (.len 0 (.t 7)),Rf 9 6 (.y .gtr 8 1),Rf 10 6 (.m 9),Rt 11 10 (.m 0),Rt 12 10 (.kT (.t 11) (.k 0)),Rt 13 10 (.bin .eql (.t 12) (.c (.int .u8 48))),Rf 14 6 (.pick (.t 10) (.t 13) (.c (.bool false))),qp 15 6 14] 15 (.e [qf 2]) (.e [qm 16 0,aT 17 287 16,qm 2 17]))⟩
def NR:aZ:=⟨[.cell 2 2 true,.cell 3 2 true],.g [Rq 2 (.box 2 (.c (.agg [.bool false,.aa]))),Rq 3 (.box 2 (.c (.agg [.bool false,.aa])))] (.g [qm 6 0,qm 4 6] (.g [qm 7 4,aT 8 272 7,qm 5 8] (.h [qm 9 5,qm 10 4,qn 11 0 10,Rq 12 (.z .eql 9 11)] 12 (.e [qm 13 4,aT 14 288 13,Rq 15 (.q 281 [.k 1]),qs 2 2 14,qs 2 3 15]) (.e [qm 16 4,qm 17 5,Rq 18 (.dS .str (.t 16) none (some (.t 17))),aT 19 288 18,qm 20 4,qm 21 5,qa 22 21 1,Rq 23 (.dS .str (.t 20) (some (.t 22)) none),aT 24 288 23,qs 2 2 19,qs 2 3 24]))))⟩
def IB:VC:=.q (.g [qm 7 1,qn 8 1 7,Rq 9 (.y .gtr 8 0)] (.cond (.t 9) .skip (.exit 0))) (.aF 1 (.g [qm 11 0,qm 12 1,bg 13 289 11 12,qm 10 13,qe 14 0 10,qe 15 1 10,qm 5 14,qm 6 15] (.aM [qm 16 1,qm 17 6,qm 0 16,qm 1 17])))
def NS:aZ:=⟨[.t 4],.g [qz 4] (.q (.q (.aF 0 (.loop [0,1] IB)) (.kp [0])) (.e [qm 18 0,qm 4 18]))⟩
def pz:aZ:=⟨[.t 2,.t 3,.t 4],.g [qk 2 0,qk 3 0,qf 4] (.g [qm 10 0,qm 5 10] (.h [qm 11 5,qn 12 0 11,Rq 13 (.y .gtr 12 20)] 13 (.e [qk 2 0,qk 3 0,qf 4]) (.g [qm 14 5,qn 15 0 14,Rq 16 (.y .gtr 15 0),qm 17 16,Rt 18 17 (.m 5),Rt 19 17 (.kT (.t 18) (.k 0)),Rt 20 17 (.bin .eql (.t 19) (.c (.int .u8 45))),qq 21 17 20,qm 6 21] (.h [qm 22 6] 22 (.aM [qm 23 5,Rq 24 (.dS .str (.t 23) (some (.k 1)) none),qm 5 24]) (.g [qm 25 5,aT 26 272 25,qm 7 26] (.h [qm 27 7,Rq 28 (.y .gtr 27 9),qm 29 28,Rf 30 29 (.m 5),Rf 31 29 (.len 0 (.t 30)),Rf 32 29 (.m 7),Rf 33 29 (.z .sub 31 32),Rf 34 29 (.y .gtr 33 10),qp 35 29 34] 35 (.e [qk 2 0,qk 3 0,qf 4]) (.g [qm 36 5,qm 37 7,Rq 38 (.dS .str (.t 36) none (some (.t 37))),aT 39 290 38,qm 8 39,qk 9 1] (.h [qm 40 7,qm 41 5,qn 42 0 41,qT 43 40 42] 43 (.aM [qm 44 5,qm 45 7,qa 46 45 1,Rq 47 (.dS .str (.t 44) (some (.t 46)) none),aT 48 290 47,qm 9 48]) (.h [qm 49 6] 49 (.aM [qm
 50 8,Rq 51 (.bin .sub (.k 0) (.t 50)),qm 8 51]) (.e [qm 52 8,qm 53 9,qm 2 52,qm 3 53,Rq 4 (.cu (.c (.bool true)))]))))))))))⟩
def C7:aZ:=⟨[.t 4],.g [Rq 4 (.cu (.s []))] (.h [qm 7 0,Rq 8 (.y .lss 7 (-4000000000000000000)),qm 9 8,Rf 10 9 (.m 0),Rf 11 9 (.y .gtr 10 4000000000000000000),qp 12 9 11,qm 13 12,Rf 14 13 (.m 1),Rf 15 13 (.y .lss 14 (-4000000000000000000)),qp 16 13 15,qm 17 16,Rf 18 17 (.m 1),Rf 19 17 (.y .gtr 18 4000000000000000000),qp 20 17 19] 20 (.e [qm 21 0,aT 22 281 21,qm 23 1,aT 24 281 23,bg 25 280 22 24,qm 4 25]) (.h [qm 26 1,Rq 27 (.y .lss 26 0)] 27 (.aM [qm 28 0,Rq 29 (.bin .sub (.k 0) (.t 28)),qm 30 1,Rq 31 (.bin .sub (.k 0) (.t 30)),qm 0 29,qm 1 31]) (.g [qm 32 0,qm 33 0,Rq 34 (.bin .sub (.k 0) (.t 33)),Rq 35 (.mx [.t 32,.t 34]),qm 36 1,bg 37 291 35 36,qm 5 37] (.g [qm 38 0,qm 39 5,Rq 40 (.z .quo 38 39),qm 41 1,qm 42 5,Rq 43 (.z .quo 41 42),qm 0 40,qm 1 43] (.g [Rq 6 (.cu (.s []))] (.h [qm 44 0,Rq 45 (.y .lss 44 0)] 45 (.aM [Rq 6 (.cu (.s [45]))]) (.g [qm 46 6,qm 47 0,qm 48 0,Rq 49 (.bin .sub (.k
 0) (.t 48)),Rq 50 (.mx [.t 47,.t 49]),Rq 51 (.q 292 [.t 50,.k 1]),qA 52 46 51,qm 6 52] (.h [qm 53 1,Rq 54 (.y .gtr 53 1)] 54 (.aM [qm 55 6,Rq 56 (.bin .add (.t 55) (.s [47])),qm 57 1,Rq 58 (.q 292 [.t 57,.k 1]),qA 59 56 58,qm 6 59]) (.e [qm 60 6,qm 4 60])))))))))⟩
def NT:aZ:=⟨[.cell 4 2 true],.g [qb 2 2 0,qb 3 2 1,Rq 4 (.box 2 (.c (.agg [.bool false,.aa])))] (.e [qo 5 0 2,ql 6 1 5,qo 7 0 3,ql 8 1 7,Rq 9 (.eq true .b (.t 6) (.t 8)),qo 10 1 2,ql 11 1 10,qo 12 1 3,ql 13 1 12,bg 14 293 11 13,bg 15 294 9 14,qs 2 4 15])⟩
def Fc:aZ:=⟨[.cell 4 2 true],.g [qb 2 2 0,qb 3 2 1,Rq 4 (.box 2 (.c (.agg [.bool false,.aa])))] (.h [qo 5 0 2,ql 6 1 5,qo 7 0 3,ql 8 1 7,Rq 9 (.eq false .b (.t 6) (.t 8))] 9 (.e [qo 10 0 2,ql 11 1 10,qo 12 1 2,ql 13 1 12,qo 14 1 3,ql 15 1 14,bg 16 295 13 15,bg 17 294 11 16,qs 2 4 17]) (.h [qo 18 1 2,ql 19 1 18,qo 20 1 3,ql 21 1 20,bg 22 296 19 21,Rq 23 (.y .geq 22 0)] 23 (.e [qo 24 0 2,ql 25 1 24,qo 26 1 2,ql 27 1 26,qo 28 1 3,ql 29 1 28,bg 30 297 27 29,bg 31 294 25 30,qs 2 4 31]) (.e [qo 32 0 3,ql 33 1 32,qo 34 1 3,ql 35 1 34,qo 36 1 2,ql 37 1 36,bg 38 297 35 37,bg 39 294 33 38,qs 2 4 39])))⟩
def nW:aZ:=⟨[.t 4],.g [qb 2 2 0,qb 3 2 1,Rq 4 (.cu (.s []))] (.h [qo 11 0 3,ql 12 1 11] 12 (.aM [qL 13 2 2,aT 14 298 13,qL 15 2 3,aT 16 298 15,qs 2 2 14,qs 2 3 16]) (.g [qo 17 1 2,ql 18 1 17,qo 19 1 3,ql 20 1 19,bg 21 275 18 20,qm 5 21] (.g [qo 23 1 2,ql 24 1 23,qm 25 5,bg 26 289 24 25,qm 22 26,qe 27 0 22,qe 28 1 22,qm 6 27,qm 7 28] (.g [qo 30 1 3,ql 31 1 30,qm 32 5,bg 33 289 31 32,qm 29 33,qe 34 0 29,qe 35 1 29,qm 8 34,qm 9 35] (.g [qo 36 0 2,ql 37 1 36,qm 38 6,bg 39 294 37 38,aT 40 282 39,qm 10 40] (.h [qm 41 8,qn 42 1 41,qE 43 42 1,qm 44 43,Rt 45 44 (.m 8),Rt 46 44 (.aQ 1 (.t 45) (.k 0)),Rt 47 44 (.ld 1 false (.t 46)),Rt 48 44 (.y .eql 47 1),qq 49 44 48] 49 (.e [qm 50 10,qm 4 50]) (.e [qm 51 10,Rq 52 (.bin .add (.t 51) (.s [47])),qm 53 8,Rq 54 (.q 294 [.c (.bool false),.t 53]),aT 55 282 54,qA 56 52 55,qm 4 56])))))))⟩
def ahf:VC:=.q (.g [qm 8 0,qN 9 8 0] (.cond (.t 9) .skip (.exit 0))) (.aF 1 (.g [qm 10 0,Rq 11 (.y .rem 10 1000000000),qm 5 11] (.h [qm 12 5,Rq 13 (.y .lss 12 0)] 13 (.aM [qm 14 5,Rq 15 (.bin .sub (.k 0) (.t 14)),qm 5 15]) (.g [qm 16 3,qm 17 5,Rq 18 (.cZ 1 1 [.i 0] [(0,1,.t 17)]),Rq 19 (.aO 1 8 (.t 16) (.t 18)),qm 3 19] (.aM [qm 20 0,Rq 21 (.y .quo 20 1000000000),qm 0 21])))))
def Tt:aZ:=⟨[.cell 2 2 true],.g [Rq 2 (.box 2 (.c (.agg [.bool false,.aa])))] (.g [qz 3] (.g [qm 6 0,Rq 7 (.y .lss 6 0),qm 4 7] (.q (.q (.aF 0 (.loop [0,2,3,4] ahf)) (.kp [2,3,4])) (.e [qm 22 4,qm 23 3,bg 24 294 22 23,qs 2 2 24]))))⟩
def IC:VC:=.q (.g [qm 22 4,Rq 23 (.y .geq 22 0)] (.cond (.t 23) .skip (.exit 0))) (.q (.aF 1 (.aM [qm 26 3,qo 27 1 1,ql 28 1 27,qm 29 4,qi 30 1 28 29,ql 31 1 30,Rq 32 (.q 292 [.t 31,.k 9]),qA 33 26 32,qm 3 33])) (.aM [qm 24 4,Rq 25 (.y .sub 24 1),qm 4 25]))
def Jz:aZ:=⟨[.t 2],.g [qb 1 2 0,Rq 2 (.cu (.s []))] (.h [qo 5 1 1,ql 6 1 5,qn 7 1 6,qE 8 7 0] 8 (.e [Rq 2 (.cu (.s [48]))]) (.g [qo 9 1 1,ql 10 1 9,qo 11 1 1,ql 12 1 11,qn 13 1 12,Rq 14 (.y .sub 13 1),qi 15 1 10 14,ql 16 1 15,Rq 17 (.q 292 [.t 16,.k 1]),qm 3 17] (.q (.g [qo 18 1 1,ql 19 1 18,qn 20 1 19,Rq 21 (.y .sub 20 2),qm 4 21] (.q (.aF 0 (.loop [1,3,4] IC)) (.kp [1,3]))) (.h [qo 34 0 1,ql 35 1 34] 35 (.e [qm 36 3,Rq 37 (.bin .add (.s [45]) (.t 36)),qm 2 37]) (.e [qm 38 3,qm 2 38])))))⟩
def ajw:aZ:=⟨[.t 2],.g [Rq 2 (.cu (.s []))] (.g [qm 6 0,aT 7 274 6,qm 5 7,qe 8 0 5,qe 9 1 5,Rq 3 (.box 2 (.c (.agg [.bool false,.aa]))),Rq 4 (.box 2 (.c (.agg [.bool false,.aa]))),qs 2 3 8,qs 2 4 9] (.e [qL 10 2 4,qL 11 2 3,bg 12 280 10 11,qm 2 12]))⟩
def Tu:aZ:=⟨[.t 2],.g [Rq 2 (.cu (.s []))] (.e [qm 3 0,qm 4 0,aT 5 272 4,Rq 6 (.dS .str (.t 3) none (some (.t 5))),qm 2 6])⟩
def NU:aZ:=⟨[.t 2],.g [Rq 2 (.cu (.s []))] (.h [qm 3 0,aT 4 262 3,Rq 5 (.y .lss 4 0)] 5 (.e [qm 6 0,Rq 7 (.dS .str (.t 6) (some (.k 1)) none),qm 2 7]) (.e [qm 8 0,qm 2 8]))⟩
def NV:aZ:=⟨[.t 2],.g [Rq 2 (.cu (.s []))] (.g [qm 4 0,aT 5 272 4,qm 3 5] (.h [qm 6 3,qm 7 0,qn 8 0 7,Rq 9 (.z .eql 6 8)] 9 (.e [Rq 2 (.cu (.s [49]))]) (.e [qm 10 0,qm 11 3,qa 12 11 1,Rq 13 (.dS .str (.t 10) (some (.t 12)) none),qm 2 13])))⟩
def CF:VC:=.q (.g [qm 4 3,qm 5 0,qn 6 0 5,qT 7 4 6] (.cond (.t 7) .skip (.exit 0))) (.q (.aF 1 (.g [qm 10 0,qm 11 3,Rq 12 (.kT (.t 10) (.t 11)),Rq 13 (.bin .lss (.t 12) (.c (.int .u8 48))),qm 14 13,Rf 15 14 (.m 0),Rf 16 14 (.m 3),Rf 17 14 (.kT (.t 15) (.t 16)),Rf 18 14 (.bin .gtr (.t 17) (.c (.int .u8 57))),qp 19 14 18] (.i 19 (.e [qf 2])))) (.aM [qm 8 3,qa 9 8 1,qm 3 9]))
def JA:aZ:=⟨[.t 2],.g [qf 2] (.q (.g [qk 3 0] (.q (.aF 0 (.loop [0,3] CF)) (.kp []))) (.e [Rq 2 (.cu (.c (.bool true)))]))⟩
def zm:VC:=.q (.g [qm 16 0,qn 17 0 16,Rq 18 (.y .gtr 17 9)] (.cond (.t 18) .skip (.exit 0))) (.aF 1 (.g [qm 19 4,qm 20 0,qm 21 0,qn 22 0 21,Rq 23 (.y .sub 22 9),Rq 24 (.dS .str (.t 20) (some (.t 23)) none),aT 25 290 24,Rq 26 (.cZ 1 1 [.i 0] [(0,1,.t 25)]),Rq 27 (.aO 1 8 (.t 19) (.t 26)),qm 4 27] (.aM [qm 28 0,qm 29 0,qn 30 0 29,Rq 31 (.y .sub 30 9),Rq 32 (.dS .str (.t 28) none (some (.t 31))),qm 0 32])))
def NW:aZ:=⟨[.cell 2 2 true],.g [Rq 2 (.box 2 (.c (.agg [.bool false,.aa])))] (.g [qm 5 0,qn 6 0 5,Rq 7 (.y .gtr 6 0),qm 8 7,Rt 9 8 (.m 0),Rt 10 8 (.kT (.t 9) (.k 0)),Rt 11 8 (.bin .eql (.t 10) (.c (.int .u8 45))),qq 12 8 11,qm 3 12] (.h [qm 13 3] 13 (.aM [qm 14 0,Rq 15 (.dS .str (.t 14) (some (.k 1)) none),qm 0 15]) (.g [qz 4] (.q (.q (.aF 0 (.loop [0,2,3,4] zm)) (.kp [0,2,3,4])) (.e [qm 33 3,qm 34 4,qm 35 0,aT 36 290 35,Rq 37 (.cZ 1 1 [.i 0] [(0,1,.t 36)]),Rq 38 (.aO 1 8 (.t 34) (.t 37)),bg 39 294 33 38,qs 2 2 39])))))⟩
def ID:VC:=.q (.g [qm 63 11,qn 64 1 63,qm 65 0,qn 66 1 65,qa 67 66 1,qT 68 64 67] (.cond (.t 68) .skip (.exit 0))) (.aF 1 (.aM [qm 69 11,Rq 70 (.cZ 1 1 [.i 0] [(0,1,.k 0)]),Rq 71 (.aO 1 8 (.t 69) (.t 70)),qm 11 71]))
def EF:VC:=.q (.g [qm 90 16,qm 91 10,qT 92 90 91] (.cond (.t 92) .skip (.exit 4))) (.q (.aF 5 (.g [qm 95 14,qm 96 9,qm 97 16,qi 98 1 96 97,ql 99 1 98,Rq 100 (.z .mul 95 99),qm 101 15,qA 102 100 101,qm 17 102] (.g [qm 103 11,qm 104 16,qm 105 13,qA 106 104 105,qi 107 1 103 106,ql 108 1 107,qm 109 17,Rq 110 (.y .rem 109 1000000000),Rq 111 (.z .sub 108 110),qm 18 111] (.g [qm 112 17,Rq 113 (.y .quo 112 1000000000),qm 15 113] (.h [qm 114 18,Rq 115 (.y .lss 114 0)] 115 (.g [qm 116 18,qa 117 116 1000000000,qm 18 117] (.aM [qm 118 15,qa 119 118 1,qm 15 119])) (.aM [qm 120 11,qm 121 16,qm 122 13,qA 123 121 122,qm 124 18,qi 125 1 120 123,qs 1 125 124])))))) (.aM [qm 93 16,qa 94 93 1,qm 16 94]))
def IE:VC:=.q (.g [qm 148 20,qm 149 10,qT 150 148 149] (.cond (.t 150) .skip (.exit 6))) (.q (.aF 7 (.g [qm 153 11,qm 154 20,qm 155 13,qA 156 154 155,qi 157 1 153 156,ql 158 1 157,qm 159 9,qm 160 20,qi 161 1 159 160,ql 162 1 161,qA 163 158 162,qm 164 19,qA 165 163 164,qm 21 165] (.g [qm 166 11,qm 167 20,qm 168 13,qA 169 167 168,qm 170 21,Rq 171 (.y .rem 170 1000000000),qi 172 1 166 169,qs 1 172 171] (.aM [qm 173 21,Rq 174 (.y .quo 173 1000000000),qm 19 174])))) (.aM [qm 151 20,qa 152 151 1,qm 20 152]))
def IF:VC:=.q (.g [qm 82 13,Rq 83 (.y .geq 82 0)] (.cond (.t 83) .skip (.exit 2))) (.q (.aF 3 (.g [qm 86 11,qm 87 9,qm 88 13,Rq 89 (.call .heap (.F 301) [.t 86,.t 87,.t 88]),qm 14 89] (.g [qk 15 0] (.q (.g [qk 16 0] (.q (.aF 4 (.loop [8,9,10,11,12,13,14,15,16] EF)) (.kp [8,9,10,11,12,13,14,15]))) (.g [qm 126 11,qm 127 13,qm 128 10,qA 129 127 128,qm 130 11,qm 131 13,qm 132 10,qA 133 131 132,qi 134 1 130 133,ql 135 1 134,qm 136 15,Rq 137 (.z .sub 135 136),qi 138 1 126 129,qs 1 138 137] (.h [qm 139 11,qm 140 13,qm 141 10,qA 142 140 141,qi 143 1 139 142,ql 144 1 143,Rq 145 (.y .lss 144 0)] 145 (.g [qm 146 14,Rq 147 (.y .sub 146 1),qm 14 147] (.g [qk 19 0] (.q (.g [qk 20 0] (.q (.aF 6 (.loop [8,9,10,11,12,13,14,19,20] IE)) (.kp [8,9,10,11,12,13,14,19]))) (.aM [qm 175 11,qm 176 13,qm 177 10,qA 178 176 177,qm 179 11,qm 180 13,qm 181 10,qA 182 180 181,qi 183 1 179 182,ql 184 1 183,qm 185 19,qA 186
 184 185,qi 187 1 175 178,qs 1 187 186])))) (.aM [qm 188 12,qm 189 13,qm 190 14,qi 191 1 188 189,qs 1 191 190]))))))) (.aM [qm 84 13,Rq 85 (.y .sub 84 1),qm 13 85]))
def rT:aZ:=⟨[.t 4,.t 5],.g [qz 4,qz 5] (.h [qm 24 0,qm 25 1,bg 26 296 24 25,Rq 27 (.y .lss 26 0)] 27 (.e [qm 28 0,qz 4,qm 5 28]) (.h [qm 29 1,qn 30 1 29,qE 31 30 1] 31 (.g [qm 33 0,qm 34 1,Rq 35 (.aQ 1 (.t 34) (.k 0)),ql 36 1 35,bg 37 299 33 36,qm 32 37,qe 38 0 32,qe 39 1 32,qm 6 38,qm 7 39] (.e [qm 40 6,qm 41 7,Rq 42 (.cZ 1 1 [.i 0] [(0,1,.t 41)]),aT 43 300 42,qm 4 40,qm 5 43])) (.g [qm 44 1,qm 45 1,qn 46 1 45,Rq 47 (.y .sub 46 1),qi 48 1 44 47,ql 49 1 48,qa 50 49 1,Rq 51 (.bin .quo (.k 1000000000) (.t 50)),Rq 52 (.cZ 1 1 [.i 0] [(0,1,.t 51)]),qm 8 52] (.g [qm 53 1,qm 54 8,bg 55 293 53 54,qm 9 55] (.g [qm 56 9,qn 57 1 56,qm 10 57] (.g [Rq 58 (.cZ 0 1 [] []),qm 59 0,qm 60 8,bg 61 293 59 60,Rq 62 (.aO 1 8 (.t 58) (.t 61)),qm 11 62] (.q (.q (.aF 0 (.loop [0,8,9,10,11] ID)) (.kp [8,9,10,11])) (.g [qm 72 11,qn 73 1 72,qm 74 10,Rq 75 (.z .sub 73 74),Rq 76 (.gj 1 8 [.i 0] (.t 75) (.t 75)),qm
 12 76] (.q (.g [qm 77 11,qn 78 1 77,qm 79 10,Rq 80 (.z .sub 78 79),Rq 81 (.y .sub 80 1),qm 13 81] (.q (.aF 2 (.loop [8,9,10,11,12,13] IF)) (.kp [8,10,11,12]))) (.g [qm 193 11,qm 194 10,Rq 195 (.dS (.sl 1) (.t 193) none (some (.t 194))),aT 196 300 195,qm 197 8,Rq 198 (.aQ 1 (.t 197) (.k 0)),ql 199 1 198,bg 200 299 196 199,qm 192 200,qe 201 0 192,qe 202 1 192,qm 22 201,qm 23 202] (.e [qm 203 12,aT 204 300 203,qm 205 22,qm 4 204,qm 5 205])))))))))))⟩
def IG:VC:=.q (.g [qm 5 4,qm 6 0,qn 7 0 6,qT 8 5 7] (.cond (.t 8) .skip (.exit 0))) (.q (.aF 1 (.aM [qm 11 3,Rq 12 (.bin .mul (.k 10) (.t 11)),qm 13 0,qm 14 4,Rq 15 (.kT (.t 13) (.t 14)),Rq 16 (.cv (.toInt .i64) (.t 15)),qA 17 12 16,Rq 18 (.y .sub 17 48),qm 3 18])) (.aM [qm 9 4,qa 10 9 1,qm 4 10]))
def Fe:aZ:=⟨[.t 2],.g [qk 2 0] (.g [qk 3 0] (.q (.g [qk 4 0] (.q (.aF 0 (.loop [0,3,4] IG)) (.kp [3]))) (.e [qm 19 3,qm 2 19])))⟩
def II:VC:=.q (.g [qm 5 1,Rq 6 (.y .gtr 5 0)] (.cond (.t 6) .skip (.exit 0))) (.aF 1 (.aM [qm 7 1,qm 8 0,qm 9 1,Rq 10 (.z .rem 8 9),qm 0 7,qm 1 10]))
def JB:aZ:=⟨[.t 4],.g [qk 4 0] (.q (.q (.aF 0 (.loop [0,1] II)) (.kp [0])) (.e [qm 11 0,qm 4 11]))⟩
def nP:VC:=.q (.g [qm 6 0,Rq 7 (.y .gtr 6 0),qm 8 7,Rf 9 8 (.m 5),Rf 10 8 (.len 0 (.t 9)),Rf 11 8 (.m 1),Rf 12 8 (.z .lss 10 11),qp 13 8 12] (.cond (.t 13) .skip (.exit 0))) (.aF 1 (.g [qm 14 0,Rq 15 (.y .rem 14 10),qm 16 0,Rq 17 (.y .rem 16 10),qa 18 17 1,Rq 19 (.dS .str (.s [48,49,50,51,52,53,54,55,56,57]) (some (.t 15)) (some (.t 18))),qm 20 5,qA 21 19 20,qm 5 21] (.aM [qm 22 0,Rq 23 (.y .quo 22 10),qm 0 23])))
def zI:aZ:=⟨[.t 4],.g [Rq 4 (.cu (.s []))] (.g [Rq 5 (.cu (.s []))] (.q (.q (.aF 0 (.loop [0,1,5] nP)) (.kp [5])) (.e [qm 24 5,qm 4 24])))⟩
def IJ:VC:=.q (.g [qm 22 8,qm 23 1,qn 24 1 23,qT 25 22 24] (.cond (.t 25) .skip (.exit 2))) (.q (.aF 3 (.g [qm 28 5,qm 29 6,qm 30 8,qA 31 29 30,qi 32 1 28 31,ql 33 1 32,qm 34 0,qm 35 6,qi 36 1 34 35,ql 37 1 36,qm 38 1,qm 39 8,qi 40 1 38 39,ql 41 1 40,Rq 42 (.z .mul 37 41),qA 43 33 42,qm 44 7,qA 45 43 44,qm 9 45] (.g [qm 46 5,qm 47 6,qm 48 8,qA 49 47 48,qm 50 9,Rq 51 (.y .rem 50 1000000000),qi 52 1 46 49,qs 1 52 51] (.aM [qm 53 9,Rq 54 (.y .quo 53 1000000000),qm 7 54])))) (.aM [qm 26 8,qa 27 26 1,qm 8 27]))
def IK:VC:=.q (.g [qm 16 6,qm 17 0,qn 18 1 17,qT 19 16 18] (.cond (.t 19) .skip (.exit 0))) (.q (.aF 1 (.g [qk 7 0] (.q (.g [qk 8 0] (.q (.aF 2 (.loop [0,1,5,6,7,8] IJ)) (.kp [0,1,5,6,7]))) (.aM [qm 55 5,qm 56 6,qm 57 1,qn 58 1 57,qA 59 56 58,qm 60 5,qm 61 6,qm 62 1,qn 63 1 62,qA 64 61 63,qi 65 1 60 64,ql 66 1 65,qm 67 7,qA 68 66 67,qi 69 1 55 59,qs 1 69 68])))) (.aM [qm 20 6,qa 21 20 1,qm 6 21]))
def Bi:aZ:=⟨[.t 4],.g [qz 4] (.g [qm 10 0,qn 11 1 10,qm 12 1,qn 13 1 12,qA 14 11 13,Rq 15 (.gj 1 8 [.i 0] (.t 14) (.t 14)),qm 5 15] (.q (.g [qk 6 0] (.q (.aF 0 (.loop [0,1,5,6] IK)) (.kp [5]))) (.e [qm 70 5,aT 71 300 70,qm 4 71])))⟩
def Bj:aZ:=⟨[.cell 4 2 true],.g [Rq 4 (.box 2 (.c (.agg [.bool false,.aa])))] (.g [qm 5 1,aT 6 300 5,qm 1 6] (.e [qm 7 0,qm 8 7,Rt 9 8 (.m 1),Rt 10 8 (.len 1 (.t 9)),Rt 11 8 (.y .gtr 10 0),qq 12 8 11,qm 13 1,Rq 14 (.fO [.bool false,.aa] [(0,1,.t 12),(1,1,.t 13)]),qs 2 4 14]))⟩
def pg:VC:=.q (.g [qm 9 7,qm 10 0,qn 11 1 10,qT 12 9 11,qm 13 12,Rf 14 13 (.m 7),Rf 15 13 (.m 1),Rf 16 13 (.len 1 (.t 15)),Rf 17 13 (.z .lss 14 16),qp 18 13 17,qm 19 18,Rf 20 19 (.m 6),Rf 21 19 (.y .gtr 20 0),qp 22 19 21] (.cond (.t 22) .skip (.exit 0))) (.q (.aF 1 (.g [qm 25 0,qm 26 7,bg 27 302 25 26,qm 28 1,qm 29 7,bg 30 302 28 29,qA 31 27 30,qm 32 6,qA 33 31 32,qm 8 33] (.g [qm 34 5,qm 35 8,Rq 36 (.y .rem 35 1000000000),Rq 37 (.cZ 1 1 [.i 0] [(0,1,.t 36)]),Rq 38 (.aO 1 8 (.t 34) (.t 37)),qm 5 38] (.aM [qm 39 8,Rq 40 (.y .quo 39 1000000000),qm 6 40])))) (.aM [qm 23 7,qa 24 23 1,qm 7 24]))
def JC:aZ:=⟨[.t 4],.g [qz 4] (.g [qz 5] (.g [qk 6 0] (.q (.g [qk 7 0] (.q (.aF 0 (.loop [0,1,5,6,7] pg)) (.kp [5]))) (.e [qm 41 5,qm 4 41]))))⟩
def CG:VC:=.q (.g [qm 19 5,Rq 20 (.y .geq 19 0)] (.cond (.t 20) .skip (.exit 0))) (.q (.aF 1 (.h [qm 23 0,qm 24 5,qi 25 1 23 24,ql 26 1 25,qm 27 1,qm 28 5,qi 29 1 27 28,ql 30 1 29,qT 31 26 30] 31 (.e [qk 4 (-1)]) (.g [qm 32 0,qm 33 5,qi 34 1 32 33,ql 35 1 34,qm 36 1,qm 37 5,qi 38 1 36 37,ql 39 1 38,Rq 40 (.z .gtr 35 39)] (.i 40 (.e [qk 4 1]))))) (.aM [qm 21 5,Rq 22 (.y .sub 21 1),qm 5 22]))
def rU:aZ:=⟨[.t 4],.g [qk 4 0] (.h [qm 6 0,qn 7 1 6,qm 8 1,qn 9 1 8,Rq 10 (.z .neq 7 9)] 10 (.h [qm 11 0,qn 12 1 11,qm 13 1,qn 14 1 13,qT 15 12 14] 15 (.e [qk 4 (-1)]) (.e [qk 4 1])) (.q (.g [qm 16 0,qn 17 1 16,Rq 18 (.y .sub 17 1),qm 5 18] (.q (.aF 0 (.loop [0,1,5] CG)) (.kp []))) (.e [qk 4 0])))⟩
def rH:VC:=.q (.g [qm 9 7,qm 10 0,qn 11 1 10,qT 12 9 11] (.cond (.t 12) .skip (.exit 0))) (.q (.aF 1 (.g [qm 15 0,qm 16 7,qi 17 1 15 16,ql 18 1 17,qm 19 1,qm 20 7,bg 21 302 19 20,Rq 22 (.z .sub 18 21),qm 23 6,Rq 24 (.z .sub 22 23),qm 8 24] (.g [qk 6 0] (.h [qm 25 8,Rq 26 (.y .lss 25 0)] 26 (.g [qm 27 8,qa 28 27 1000000000,qm 8 28] (.aM [qk 6 1])) (.aM [qm 29 5,qm 30 8,Rq 31 (.cZ 1 1 [.i 0] [(0,1,.t 30)]),Rq 32 (.aO 1 8 (.t 29) (.t 31)),qm 5 32]))))) (.aM [qm 13 7,qa 14 13 1,qm 7 14]))
def JD:aZ:=⟨[.t 4],.g [qz 4] (.g [qz 5] (.g [qk 6 0] (.q (.g [qk 7 0] (.q (.aF 0 (.loop [0,1,5,6,7] rH)) (.kp [5]))) (.e [qm 33 5,aT 34 300 33,qm 4 34]))))⟩
def NX:aZ:=⟨[.cell 2 2 true],.g [qb 1 2 0,Rq 2 (.box 2 (.c (.agg [.bool false,.aa])))] (.e [qo 3 0 1,ql 4 1 3,Rq 5 (.un .not (.t 4)),qo 6 1 1,ql 7 1 6,bg 8 294 5 7,qs 2 2 8])⟩
def IL:VC:=.q (.g [qm 16 8,Rq 17 (.y .geq 16 0)] (.cond (.t 17) .skip (.exit 0))) (.q (.aF 1 (.g [qm 20 7,Rq 21 (.y .mul 20 1000000000),qm 22 0,qm 23 8,qi 24 1 22 23,ql 25 1 24,qA 26 21 25,qm 9 26] (.g [qm 27 6,qm 28 8,qm 29 9,qm 30 1,Rq 31 (.z .quo 29 30),qi 32 1 27 28,qs 1 32 31] (.aM [qm 33 9,qm 34 1,Rq 35 (.z .rem 33 34),qm 7 35])))) (.aM [qm 18 8,Rq 19 (.y .sub 18 1),qm 8 19]))
def Bk:aZ:=⟨[.t 4,.t 5],.g [qz 4,qk 5 0] (.g [qm 10 0,qn 11 1 10,Rq 12 (.gj 1 8 [.i 0] (.t 11) (.t 11)),qm 6 12] (.g [qk 7 0] (.q (.g [qm 13 0,qn 14 1 13,Rq 15 (.y .sub 14 1),qm 8 15] (.q (.aF 0 (.loop [0,1,6,7,8] IL)) (.kp [6,7]))) (.e [qm 36 6,aT 37 300 36,qm 38 7,qm 4 37,qm 5 38]))))⟩
def CH:VC:=.q (.g [qm 3 0,qn 4 1 3,Rq 5 (.y .gtr 4 0),qm 6 5,Rt 7 6 (.m 0),Rt 8 6 (.m 0),Rt 9 6 (.len 1 (.t 8)),Rt 10 6 (.y .sub 9 1),Rt 11 6 (.aQ 1 (.t 7) (.t 10)),Rt 12 6 (.ld 1 false (.t 11)),Rt 13 6 (.y .eql 12 0),qq 14 6 13] (.cond (.t 14) .skip (.exit 0))) (.aF 1 (.aM [qm 15 0,qm 16 0,qn 17 1 16,Rq 18 (.y .sub 17 1),Rq 19 (.dS (.sl 1) (.t 15) none (some (.t 18))),qm 0 19]))
def lP:aZ:=⟨[.t 2],.g [qz 2] (.q (.q (.aF 0 (.loop [0] CH)) (.kp [0])) (.e [qm 20 0,qm 2 20]))⟩
def AT:VC:=.q (.g [qm 42 9,Rq 43 (.y .geq 42 1000000000),qm 44 43,Rf 45 44 (.m 9),Rf 46 44 (.m 1),Rf 47 44 (.m 7),Rf 48 44 (.y .sub 47 2),Rf 49 44 (.aQ 1 (.t 46) (.t 48)),Rf 50 44 (.ld 1 false (.t 49)),Rf 51 44 (.z .mul 45 50),Rf 52 44 (.m 10),Rf 53 44 (.y .mul 52 1000000000),Rf 54 44 (.m 0),Rf 55 44 (.m 2),Rf 56 44 (.m 7),Rf 57 44 (.z .add 55 56),Rf 58 44 (.y .sub 57 2),Rf 59 44 (.aQ 1 (.t 54) (.t 58)),Rf 60 44 (.ld 1 false (.t 59)),Rf 61 44 (.z .add 53 60),Rf 62 44 (.z .gtr 51 61),qp 63 44 62] (.cond (.t 63) .skip (.exit 0))) (.aF 1 (.g [qm 64 9,Rq 65 (.y .sub 64 1),qm 9 65] (.g [qm 66 10,qm 67 1,qm 68 7,Rq 69 (.y .sub 68 1),qi 70 1 67 69,ql 71 1 70,qA 72 66 71,qm 10 72] (.g [qm 73 10,Rq 74 (.y .geq 73 1000000000)] (.i 74 (.e [qm 75 9,qm 6 75]))))))
def zJ:aZ:=⟨[.t 6],.g [qk 6 0] (.g [qm 11 1,qn 12 1 11,qm 7 12] (.g [qm 13 0,qm 14 2,qm 15 7,qA 16 14 15,qi 17 1 13 16,ql 18 1 17,Rq 19 (.y .mul 18 1000000000),qm 20 0,qm 21 2,qm 22 7,qA 23 21 22,Rq 24 (.y .sub 23 1),qi 25 1 20 24,ql 26 1 25,qA 27 19 26,qm 8 27] (.g [qm 28 8,qm 29 1,qm 30 7,Rq 31 (.y .sub 30 1),qi 32 1 29 31,ql 33 1 32,Rq 34 (.z .quo 28 33),qm 35 8,qm 36 1,qm 37 7,Rq 38 (.y .sub 37 1),qi 39 1 36 38,ql 40 1 39,Rq 41 (.z .rem 35 40),qm 9 34,qm 10 41] (.q (.q (.aF 0 (.loop [0,1,2,7,9,10] AT)) (.kp [9])) (.e [qm 76 9,qm 6 76])))))⟩
def rV:aZ:=⟨[.t 4],.g [qk 4 0] (.h [qm 5 1,qm 6 0,qn 7 1 6,qT 8 5 7] 8 (.e [qm 9 0,qm 10 1,qi 11 1 9 10,ql 12 1 11,qm 4 12]) (.e [qk 4 0]))⟩
end
section
def zn:VC:=.q (.g [qm 11 3,qm 12 0,qn 13 1 12,qT 14 11 13] (.cond (.t 14) .skip (.exit 0))) (.q (.aF 1 (.h [qm 17 0,qm 18 3,qi 19 1 17 18,ql 20 1 19,qn 21 1 20,qE 22 21 0] 22 (.e [qk 2 12]) (.h [qm 23 0,qm 24 3,qi 25 1 23 24,ql 26 1 25,qn 27 1 26,Rq 28 (.y .gtr 27 64)] 28 (.e [qk 2 5]) (.h [qm 29 0,qm 30 3,qi 31 1 29 30,ql 32 1 31,qn 33 1 32,qm 34 0,Rq 35 (.aQ 1 (.t 34) (.k 0)),ql 36 1 35,qn 37 1 36,Rq 38 (.z .neq 33 37)] 38 (.e [qk 2 2]) (.g [qm 39 0,qm 40 3,qi 41 1 39 40,ql 42 1 41,aT 43 261 42,qm 4 43] (.g [qm 44 4,qN 45 44 0] (.i 45 (.e [qm 46 4,qm 2 46])))))))) (.aM [qm 15 3,qa 16 15 1,qm 3 16]))
def Ff:aZ:=⟨[.t 2],.g [qk 2 0] (.h [qm 5 0,qn 6 1 5,qE 7 6 0] 7 (.e [qk 2 12]) (.h [qm 8 0,qn 9 1 8,Rq 10 (.y .gtr 9 64)] 10 (.e [qk 2 5]) (.q (.g [qk 3 0] (.q (.aF 0 (.loop [0,3] zn)) (.kp []))) (.e [qk 2 0]))))⟩
def IM:VC:=.q (.g [qm 7 6,qm 8 0,qn 9 1 8,qT 10 7 9] (.cond (.t 10) .skip (.exit 0))) (.q (.aF 1 (.aM [qm 13 5,qm 14 0,qm 15 6,qi 16 1 14 15,ql 17 1 16,qm 18 1,qm 19 6,qi 20 1 18 19,ql 21 1 20,bg 22 267 17 21,bg 23 264 13 22,qm 5 23])) (.aM [qm 11 6,qa 12 11 1,qm 6 12]))
def JE:aZ:=⟨[.t 4],.g [Rq 4 (.cu (.s []))] (.g [Rq 5 (.cu (.s [48]))] (.q (.g [qk 6 0] (.q (.aF 0 (.loop [0,1,5,6] IM)) (.kp [5]))) (.e [qm 24 5,qm 4 24])))⟩
def rW:aZ:=⟨[.t 4],.g [qf 4] (.e [qm 5 0,qn 6 0 5,qm 7 1,Rq 8 (.bin .mul (.k 2) (.t 7)),qa 9 8 2,Rq 10 (.z .leq 6 9),qm 11 10,Rt 12 11 (.m 0),Rt 13 11 (.q 263 [.t 12]),Rt 14 11 (.y .eql 13 0),qq 15 11 14,qm 16 15,Rt 17 16 (.m 0),Rt 18 16 (.q 284 [.t 17]),Rt 19 16 (.q 285 [.t 18]),Rt 20 16 (.len 0 (.t 19)),Rt 21 16 (.m 1),Rt 22 16 (.z .leq 20 21),qq 23 16 22,qm 24 23,Rt 25 24 (.m 0),Rt 26 24 (.q 286 [.t 25]),Rt 27 24 (.len 0 (.t 26)),Rt 28 24 (.m 1),Rt 29 24 (.z .leq 27 28),qq 30 24 29,qm 4 30])⟩
def EG:VC:=.q (.g [qm 12 7,qm 13 0,qn 14 1 13,qT 15 12 14] (.cond (.t 15) .skip (.exit 0))) (.q (.aF 1 (.g [qm 18 0,qm 19 7,qi 20 1 18 19,ql 21 1 20,qm 22 2,bg 23 359 21 22,Rq 24 (.un .not (.t 23))] (.i 24 (.e [qf 6])))) (.aM [qm 16 7,qa 17 16 1,qm 7 17]))
def Fg:aZ:=⟨[.t 6],.g [qf 6] (.h [qm 8 0,qn 9 1 8,qm 10 1,Rq 11 (.z .gtr 9 10)] 11 (.e [qf 6]) (.q (.g [qk 7 0] (.q (.aF 0 (.loop [0,2,7] EG)) (.kp []))) (.e [Rq 6 (.cu (.c (.bool true)))])))⟩
end
section
def EH:VC:=.q (.g [qm 14 9,qm 15 0,qn 16 1 15,qT 17 14 16] (.cond (.t 17) .skip (.exit 0))) (.q (.aF 1 (.g [qm 20 0,qm 21 9,qi 22 1 20 21,ql 23 1 22,qn 24 1 23,qm 25 0,Rq 26 (.aQ 1 (.t 25) (.k 0)),ql 27 1 26,qn 28 1 27,Rq 29 (.z .neq 24 28),qm 30 29,Rf 31 30 (.m 0),Rf 32 30 (.m 9),Rf 33 30 (.aQ 1 (.t 31) (.t 32)),Rf 34 30 (.ld 1 false (.t 33)),Rf 35 30 (.m 2),Rf 36 30 (.m 3),Rf 37 30 (.q 364 [.t 34,.t 35,.t 36]),Rf 38 30 (.un .not (.t 37)),qp 39 30 38] (.i 39 (.e [qf 8])))) (.aM [qm 18 9,qa 19 18 1,qm 9 19]))
def JF:aZ:=⟨[.t 8],.g [qf 8] (.h [qm 10 0,qn 11 1 10,qm 12 1,Rq 13 (.z .gtr 11 12)] 13 (.e [qf 8]) (.q (.g [qk 9 0] (.q (.aF 0 (.loop [0,2,3,9] EH)) (.kp []))) (.e [Rq 8 (.cu (.c (.bool true)))])))⟩
def EI:VC:=.g [qT 63 62 61] (.q (.cond (.t 63) .skip (.exit 0)) (.q (.aF 1 (.g [qm 64 62,qm 8 64] (.aM [qm 65 7,qm 66 2,qm 67 8,qi 68 1 66 67,ql 69 1 68,Rq 70 (.cZ 1 1 [.str []] [(0,1,.t 69)]),Rq 71 (.cZ 1 1 [.aa] [(0,1,.t 70)]),Rq 72 (.aO 1 24 (.t 65) (.t 71)),qm 7 72]))) (.aM [qa 73 62 1,qm 62 73])))
def EJ:VC:=.g [qT 99 98 97] (.q (.cond (.t 99) .skip (.exit 2)) (.q (.aF 3 (.g [qm 100 98,qm 14 100] (.h [qm 101 9,qm 102 14,qi 103 1 101 102,ql 104 1 103,qn 105 1 104,qN 106 105 1,qm 107 106,Rf 108 107 (.m 9),Rf 109 107 (.m 14),Rf 110 107 (.aQ 1 (.t 108) (.t 109)),Rf 111 107 (.ld 1 false (.t 110)),Rf 112 107 (.aQ 1 (.t 111) (.k 0)),Rf 113 107 (.ld 1 false (.t 112)),Rf 114 107 (.m 0),Rf 115 107 (.m 14),Rf 116 107 (.aQ 1 (.t 114) (.t 115)),Rf 117 107 (.ld 1 false (.t 116)),Rf 118 107 (.m 2),Rf 119 107 (.q 352 [.t 117,.t 118]),Rf 120 107 (.z .neq 113 119),qp 121 107 120] 121 (.e [qf 6]) (.aM [qm 122 13,qm 123 9,qm 124 14,qi 125 1 123 124,ql 126 1 125,Rq 127 (.aQ 1 (.t 126) (.k 0)),ql 128 1 127,Rq 129 (.cZ 1 1 [.str []] [(0,1,.t 128)]),Rq 130 (.aO 1 16 (.t 122) (.t 129)),qm 13 130])))) (.aM [qa 131 98 1,qm 98 131])))
def iW:aZ:=⟨[.t 6],.g [qf 6] (.h [qc0 23 179,Rq 24 (.un .not (.t 23)),qm 25 24,Rf 26 25 (.m 0),Rf 27 25 (.q 343 [.t 26]),Rf 28 25 (.y .neq 27 0),qp 29 25 28,qm 30 29,Rf 31 30 (.m 1),Rf 32 30 (.q 343 [.t 31]),Rf 33 30 (.y .neq 32 0),qp 34 30 33,qm 35 34,Rf 36 35 (.m 0),Rf 37 35 (.q 432 [.t 36,.k 4,.k 4,.k 4]),Rf 38 35 (.un .not (.t 37)),qp 39 35 38,qm 40 39,Rf 41 40 (.m 1),Rf 42 40 (.q 432 [.t 41,.k 4,.k 4,.k 4]),Rf 43 40 (.un .not (.t 42)),qp 44 40 43,qm 45 44,Rf 46 45 (.m 2),Rf 47 45 (.len 1 (.t 46)),Rf 48 45 (.m 0),Rf 49 45 (.aQ 1 (.t 48) (.k 0)),Rf 50 45 (.ld 1 false (.t 49)),Rf 51 45 (.len 1 (.t 50)),Rf 52 45 (.z .neq 47 51),qp 53 45 52,qm 54 53,Rf 55 54 (.m 2),Rf 56 54 (.q 364 [.t 55,.k 4,.k 4]),Rf 57 54 (.un .not (.t 56)),qp 58 54 57] 58 (.e [qc0 59 179,qm 6 59]) (.g [qz 7] (.q (.g [qm 60 2,qn 61 1 60,qk 62 0] (.q (.aF 0 (.loop [0,1,2,7,61,62] EI)) (.kp [0,1,2,7]))) (.q (.q (.fz [7]) (.aM
 [qm 75 0,qm 76 7,bg 77 200 75 76,qm 74 77,qe 78 0 74,qe 79 1 74,qm 9 78,qm 10 79])) (.g [qm 81 0,aT 82 205 81,qm 80 82,qe 83 0 80,qe 84 1 80,qm 11 83,qm 12 84] (.h [qm 85 10,qm 86 12,qA 87 85 86,qN 88 87 0,qm 89 88,Rf 90 89 (.m 9),Rf 91 89 (.len 1 (.t 90)),Rf 92 89 (.m 0),Rf 93 89 (.len 1 (.t 92)),Rf 94 89 (.z .neq 91 93),qp 95 89 94] 95 (.e [qf 6]) (.g [qz 13] (.q (.g [qm 96 9,qn 97 1 96,qk 98 0] (.q (.aF 2 (.loop [0,1,2,7,9,11,13,97,98] EJ)) (.kp [0,1,2,7,9,11,13]))) (.g [qm 133 0,Rq 134 (.cZ 0 1 [] []),qm 135 13,Rq 136 (.aO 1 16 (.t 134) (.t 135)),bg 137 201 133 136,qm 132 137,qe 138 0 132,qe 139 1 132,qm 15 138,qm 16 139] (.h [qm 140 11,qm 141 0,Rq 142 (.aQ 1 (.t 141) (.k 0)),ql 143 1 142,qn 144 1 143,qT 145 140 144] 145 (.e [qm 146 16,qE 147 146 14,qm 148 147,Rt 149 148 (.m 15),Rt 150 148 (.len 1 (.t 149)),Rt 151 148 (.y .eql 150 0),qq 152 148 151,qm 6 152]) (.h [qm 153 16,qN
 154 153 0,qm 155 154,Rf 156 155 (.m 15),Rf 157 155 (.m 2),Rf 158 155 (.q 29 [.t 156,.t 157]),Rf 159 155 (.un .not (.t 158)),qp 160 155 159] 160 (.e [qf 6]) (.g [qm 162 1,qm 163 0,bg 164 200 162 163,qm 161 164,qe 165 0 161,qe 166 1 161,qm 17 165,qm 18 166] (.h [qm 167 1,Rq 168 (.aQ 1 (.t 167) (.k 0)),ql 169 1 168,qn 170 1 169,qm 171 0,qn 172 1 171,Rq 173 (.z .neq 170 172)] 173 (.e [qm 174 18,qE 175 174 2,qm 6 175]) (.g [qm 177 17,qm 178 7,bg 179 200 177 178,qm 176 179,qe 180 0 176,qe 181 1 176,qm 19 180,qm 20 181] (.g [qm 183 1,qm 184 9,bg 185 200 183 184,qm 182 185,qe 186 0 182,qe 187 1 182,qm 21 186,qm 22 187] (.e [qm 188 18,qm 189 20,qA 190 188 189,qm 191 22,qA 192 190 191,qE 193 192 0,qm 194 193,Rt 195 194 (.m 19),Rt 196 194 (.len 1 (.t 195)),Rt 197 194 (.m 1),Rt 198 194 (.len 1 (.t 197)),Rt 199 194 (.z .eql 196 198),qq 200 194 199,qm 201 200,Rt 202 201 (.m 19),Rt 203 201 (.m 21),Rt
 204 201 (.q 28 [.t 202,.t 203]),qq 205 201 204,qm 6 205]))))))))))))))))⟩
end
section
inductive Tr (α:Type) where
 | l
 | n (k:Nat) (v:α) (a b:Tr α)
def Tr.find {α:Type}:Tr α->Nat->Option α
 | .l,_=>none
 | .n k v a b,i=>bif yu i k then some v else bif yR i k then a.find i else b.find i
end
section
open Go (IntKind FloatKind)
def M6:y9->Nat
 | .i8=>0 | .i16=>1 | .i32=>2 | .i64=>3 | .u8=>4 | .u16=>5 | .u32=>6 | .u64=>7
def Y7:Int->Int->Bool
 | .ofNat a,.ofNat b=>yu a b
 | .negSucc a,.negSucc b=>yu a b
 | _,_=>false
def Pw:Bool->Bool->Bool
 | true,true | false,false=>true
 | _,_=>false
def eqF:vW->vW->Bool
 | .f32,.f32 | .f64,.f64=>true
 | _,_=>false
mutual
def gl:AV->AV->Bool
 | .int k a,.int k' b=>yu (M6 k) (M6 k')&&Y7 a b
 | .bool a,.bool b=>Pw a b
 | .bS k a,.bS k' b=>eqF k k'&&yu a b
 | .str a,.str b=>cV a b
 | .kN,.kN=>true
 | .b5 a,.b5 b=>mC a b
 | .aa,.aa=>true
 | .aA e n a,.aA e' n' b=>Pw e e'&&(yu n n'&&mC a b)
 | .bD e s n a,.bD e' s' n' b=>Pw e e'&&(yu s s'&&(yu n n'&&mC a b))
 | .fn (.f g) a b,.fn (.f g') a' b'=>yu g g'&&(mC a a'&&mC b b')
 | .iS,.iS=>true
 | .j0,.j0=>true
 | .jw a b,.jw a' b'=>mC a a'&&mC b b'
 | .agg a,.agg b=>mC a b
 | .ae a,.ae b=>mC a b
 | .undef,.undef=>true
 | _,_=>false
def mC:List AV->List AV->Bool
 | [],[]=>true
 | a::x,b::y=>gl a b&&mC x y
 | _,_=>false
end
def hI:Int->Nat
 | .ofNat n=>n
 | .negSucc n=>n+n
def hS:List Nat->Nat
 | []=>1
 | b::r=>(b+257*hS r)%65521
mutual
def hV:AV->Nat
 | .int _ n=>hI n
 | .bool b=>bif b then 1 else 2
 | .bS _ n=>n
 | .str s=>hS s
 | .aA _ n cs=>n+hL cs
 | .agg cs=>hL cs
 | .ae cs=>hL cs
 | _=>5
def hL:List AV->Nat
 | []=>7
 | v::r=>(hV v+263*hL r)%65521
end
abbrev Te:=Tr (List AV×AV)
abbrev an:=List Te
def CI (h:Nat) (av:List AV):an->Option AV
 | []=>none
 | t::l=>match t.find h with
  | some (a,r)=>bif mC a av then some r else CI h av l
  | none=>CI h av l
def aiB (av:List AV) (l:an):Option AV:=CI (hL av) av l
abbrev Te.o (h:Nat) (a:List AV) (r:AV):Te:= .n h (a,r) .l .l
abbrev Te.m (h:Nat) (a:List AV) (r:AV) (x y:Te):Te:= .n h (a,r) x y
def CJ (n:Nat):List (Tr an)->Option an
 | []=>none
 | t::r=>match t.find n with
  | none=>CJ n r
  | some l=>match CJ n r with | none=>some l | some m=>some (l++m)
def NY (L:Lib) (T:List (Tr an)) (ex:Nat):Lib:=
 ⟨fun i=>match L.pure i with
  | some sp=>some sp
  | none=>bif yu i ex then none else match CJ i T with | some l=>some (fun av=>aiB av l) | none=>none,L.heap⟩
def JG (P:aI) (L:Lib) (f:Nat):Te->Bool
 | .l=>true
 | .n _ e x y=>(match YA P L 100000 f e.1 with | some r'=>gl r' e.2 | none=>false)&&(JG P L f x&&JG P L f y)
def M7 (P:aI) (L:Lib) (f:Nat):an->Bool
 | []=>true
 | t::l=>JG P L f t&&M7 P L f l
def bl (P:aI) (L:Lib) (T:List (Tr an)):List (Nat×an)->Bool
 | []=>true
 | (f,l)::C=>M7 P (NY L T f) f l&&bl P L T C
end
section
open Go
def apA {a b:y9} (h:yu (M6 a) (M6 b)=true):a=b:=by
 cases a<;>cases b<;>first | rfl | (exact absurd h (by decide))
def arw {a b:Int} (h:Y7 a b=true):a=b:=by
 cases a<;>cases b<;>simp only [Y7,reduceCtorEq] at h<;>rw [yj h]
def Rr {a b:Bool} (h:Pw a b=true):a=b:=by
 cases a<;>cases b<;>first | rfl | (exact absurd h (by decide))
def arx {a b:vW} (h:eqF a b=true):a=b:=by
 cases a<;>cases b<;>first | rfl | (exact absurd h (by decide))
mutual
def acM:∀(a b:AV),gl a b=true->a=b
 | .int k a,b,h=>by
  cases b<;>simp only [gl,ye,yN] at h
  rw [apA h.1,arw h.2]
 | .bool a,b,h=>by
  cases b<;>simp only [gl,yN] at h
  rw [Rr h]
 | .bS k a,b,h=>by
  cases b<;>simp only [gl,ye,yN] at h
  rw [arx h.1,yj h.2]
 | .str a,b,h=>by
  cases b<;>simp only [gl,yN] at h
  rw [Rg h]
 | .kN,b,h=>by cases b<;>simp only [gl,yN] at h;rfl
 | .ptr _ _,b,h=>by cases b<;>simp only [gl,yN] at h
 | .b5 a,b,h=>by
  cases b<;>simp only [gl,yN] at h
  rw [qd _ _ h]
 | .aa,b,h=>by cases b<;>simp only [gl,yN] at h;rfl
 | .aA e n a,b,h=>by
  cases b<;>simp only [gl,ye,yN] at h
  rw [Rr h.1,yj h.2.1,qd _ _ h.2.2]
 | .bD e s n a,b,h=>by
  cases b<;>simp only [gl,ye,yN] at h
  rw [Rr h.1,yj h.2.1,yj h.2.2.1,qd _ _ h.2.2.2]
 | .aB _ _ _,b,h=>by cases b<;>simp only [gl,yN] at h
 | .fn (.f g) x y,b,h=>by
  cases b<;>try (simp only [gl,yN] at h;done)
  rename_i fr _ _;cases fr<;>simp only [gl,ye,yN] at h
  rw [yj h.1,qd _ _ h.2.1,qd _ _ h.2.2]
 | .fn (.y _) _ _,b,h=>by cases b<;>simp only [gl,yN] at h
 | .iS,b,h=>by cases b<;>simp only [gl,yN] at h;rfl
 | .j0,b,h=>by cases b<;>simp only [gl,yN] at h;rfl
 | .map _,b,h=>by cases b<;>simp only [gl,yN] at h
 | .jw x y,b,h=>by
  cases b<;>simp only [gl,ye,yN] at h
  rw [qd _ _ h.1,qd _ _ h.2]
 | .it _,b,h=>by cases b<;>simp only [gl,yN] at h
 | .agg a,b,h=>by
  cases b<;>simp only [gl,yN] at h
  rw [qd _ _ h]
 | .ae a,b,h=>by
  cases b<;>simp only [gl,yN] at h
  rw [qd _ _ h]
 | .undef,b,h=>by cases b<;>simp only [gl,yN] at h;rfl
def qd:∀(a b:List AV),mC a b=true->a=b
 | [],b,h=>by cases b<;>simp only [mC,yN] at h;rfl
 | x::a,b,h=>by
  cases b<;>simp only [mC,ye,yN] at h
  rw [acM _ _ h.1,qd _ _ h.2]
end
def Tr.Has {α:Type} (x:α):Tr α->Prop
 | .l=>False
 | .n _ v a b=>v=x\/a.Has x\/b.Has x
def Tr.Ru {α:Type} {h:Nat} {x:α}:∀{t:Tr α},t.find h=some x->t.Has x
 | .l,hf=>by simp [Tr.find] at hf
 | .n k v a b,hf=>by
  simp only [Tr.find] at hf
  cases h1:yu h k with
  | true=>rw [h1] at hf;simp only [yA,yd] at hf;exact .inl hf
  | false=>
   rw [h1] at hf
   cases h2:yR h k with
   | true=>rw [h2] at hf;exact .inr (.inl (Tr.Ru hf))
   | false=>rw [h2] at hf;exact .inr (.inr (Tr.Ru hf))
def Px (av:List AV) (r:AV) (l:an):Prop:=∃t,t∈l/\t.Has (av,r)
def aa6 {h:Nat} {av:List AV} {r:AV}:∀{l:an},CI h av l=some r->Px av r l
 | [],hf=>by simp [CI] at hf
 | t::l,hf=>by
  have tail:CI h av l=some r->Px av r (t::l):=fun q=>by
   obtain ⟨t',h1,h2⟩:=aa6 q;exact ⟨t',xW _ h1,h2⟩
  simp only [CI] at hf
  split at hf
  ·rename_i a q he
   cases hb:mC a av with
   | true=>
    rw [hb] at hf;simp only [yA,yd] at hf;rw [qd _ _ hb,hf] at he;exact ⟨t,wN,Tr.Ru he⟩
   | false=>
    grind
  ·grind
def apB {av:List AV} {r:AV} {l:an} (h:aiB av l=some r):Px av r l:=aa6 h
def kP (O:bk) (f:Nat) (l:an):Prop:=∀av r,Px av r l->ep O f av r
def kP.nil {O:bk} {f:Nat}:kP O f []:=fun _ _ h=>by obtain ⟨t,h,_⟩:=h;cases h
def kP.aO {O:bk} {f:Nat} {a b:an} (ha:kP O f a) (hb:kP O f b):kP O f (a++b):=fun v r h=>by
 obtain ⟨t,h,h2⟩:=h;exact (List.mem_append.1 h).elim (fun h=>ha v r ⟨t,h,h2⟩) (fun h=>hb v r ⟨t,h,h2⟩)
def kP.one {O:bk} {f k:Nat} {av:List AV} {r:AV} (h:ep O f av r):kP O f [.n k (av,r) .l .l]:=fun v q hm=>by
 obtain ⟨t,h1,h2⟩:=hm;rcases wE.1 h1 with e | e
 ·subst e;rcases h2 with h2 | h2 | h2
  ·grind
  ·exact h2.elim
  ·exact h2.elim
 ·cases e
def Tr.lZ {α:Type} (p:Nat->α->Prop):Tr α->Prop
 | .l=>True
 | .n k v a b=>p k v/\a.lZ p/\b.lZ p
def Tr.iQ {α:Type} {p:Nat->α->Prop}:Tr.lZ p .l:=trivial
def Tr.jE {α:Type} {p:Nat->α->Prop} {k:Nat} {v:α} {a b:Tr α} (h:p k v) (ha:a.lZ p) (hb:b.lZ p):Tr.lZ p (.n k v a b):=⟨h,ha,hb⟩
def Tr.Cl {α:Type} {p:Nat->α->Prop} {i:Nat} {v:α}:∀{t:Tr α},t.lZ p->t.find i=some v->p i v
 | .l,_,h=>by simp [Tr.find] at h
 | .n k w a b,ha,h=>by
  simp only [Tr.find] at h
  cases hb:yu i k with
  | true=>
   rw [hb] at h;simp only [yA,yd] at h;subst h;rw [yj hb];exact ha.1
  | false=>
   rw [hb] at h
   cases hc:yR i k with
   | true=>rw [hc] at h;exact Tr.Cl ha.2.1 h
   | false=>rw [hc] at h;exact Tr.Cl ha.2.2 h
abbrev bk.zd (O:bk) (L:Lib):bk:={O with aE:=L}
def acN {O:bk} {L:Lib} {m:Mp} {S:Nat->Prop} {w:World} {id:Nat} {o:Obj}:eW (O.zd L) m S w id o↔eW O m S w id o:=by
 cases o<;>exact Iff.rfl
def acO {O:bk} {L:Lib} {m:Mp} {S:Nat->Prop} {w:World} {hp:Hp} {ct:Nat}:aU (O.zd L) m S w hp ct↔aU O m S w hp ct:=
 ⟨fun h=>⟨fun id o p h1 h2=>acN.1 (h.obj id o p h1 h2),h.lt,h.inj,h.slt,h.blt,h.low,h.lJ,h.fF,h.aX⟩,
  fun h=>⟨fun id o p h1 h2=>acN.2 (h.obj id o p h1 h2),h.lt,h.inj,h.slt,h.blt,h.low,h.lJ,h.fF,h.aX⟩⟩
def abU {O:bk} {L:Lib} {n:Nat} {hp:Hp} {ct:Nat} {av:List AV} {v:AV} {ap:Hp} {a7:Nat} (h:A4 O n hp ct av v ap a7):A4 (O.zd L) n hp ct av v ap a7:=by
 intro m S w args h1 h2;have post:∀e w',sU O m S w hp ct v ap a7 e w'->sU (O.zd L) m S w hp ct v ap a7 e w':=by
  rintro e w' ⟨u,m',S',k1,k2,k3,k4,k5⟩;exact ⟨u,m',S',k1,acO.2 k2,k3,k4,k5⟩
 exact AL.mono (h m S w args (acO.1 h1) h2) post
def eL (O:bk) (T:List (Tr an)):Prop:=∀t,t∈T->t.lZ (kP O)
def eL.nil {O:bk}:eL O []:=fun _ h=>by cases h
def eL.cons {O:bk} {t:Tr an} {T:List (Tr an)} (h:t.lZ (kP O)) (hT:eL O T):eL O (t::T):=fun u hu=>by
 rcases wE.1 hu with e | e
 ·grind
 ·exact hT u e
def QR {O:bk} {n:Nat}:∀{T:List (Tr an)} {l:an},eL O T->CJ n T=some l->kP O n l
 | [],_,_,h=>by simp [CJ] at h
 | t::T,l,hT,h=>by
  have hT':eL O T:=fun u hu=>hT u (xW _ hu)
  simp only [CJ] at h
  split at h
  ·exact QR hT' h
  ·rename_i l1 h1;have c1:=Tr.Cl (hT t wN) h1
   split at h
   ·grind
   ·rename_i m h2;simp only [yd] at h;subst h;exact kP.aO c1 (QR hT' h2)
def adY {O:bk} (hO:eD O) {T:List (Tr an)} (hT:eL O T) (ex:Nat):eD (O.zd (NY O.aE T ex)) where
 hint:=hO.hint
 mixed:=hO.mixed
 prog:=hO.prog
 aE n sp av r h hs:=by
  simp only [NY] at h
  cases hl:O.aE.pure n with
  | some Py=>
   simp only [hl,yd] at h;subst h;exact hO.aE n _ av r hl hs
  | none=>
   simp only [hl] at h
   cases hb:yu n ex with
   | true=>rw [hb] at h;cases h
   | false=>
    rw [hb] at h;simp only [yS] at h
    cases hf:CJ n T with
    | none=>simp [hf] at h
    | some l=>
     simp only [hf,yd] at h;subst h;exact QR hT hf av r (apB hs)
 E3 n sp hp ct av v ap a7 h hs:=abU (hO.E3 n sp hp ct av v ap a7 h hs)
def QS {O:bk} {L:Lib} (hO:eD (O.zd L)) {f:Nat} {av:List AV} {r:AV}:∀{t:Te},JG O.prog L f t=true->t.Has (av,r)->ep O f av r
 | .l,_,h=>h.elim
 | .n k e x y,h,hm=>by
  simp only [JG,ye] at h;rcases hm with e1 | hm | hm
  ·subst e1;have h1:=h.1
   split at h1
   ·rename_i r' hr;have e:r'=r:=acM _ _ h1;rw [<-e];exact sound hO hr
   ·cases h1
  ·exact QS hO h.2.1 hm
  ·exact QS hO h.2.2 hm
def aa7 {O:bk} {L:Lib} (hO:eD (O.zd L)) {f:Nat}:∀{l:an},M7 O.prog L f l=true->kP O f l
 | [],_=>kP.nil
 | t::l,h=>by
  simp only [M7,ye] at h;intro v q hm;obtain ⟨t',h1,h2⟩:=hm;rcases wE.1 h1 with e | e
  ·subst e;exact QS hO h.1 h2
  ·exact aa7 hO h.2 v q ⟨t',e,h2⟩
def chunk_ok {O:bk} (hO:eD O) {T:List (Tr an)} (hT:eL O T):∀{C:List (Nat×an)},bl O.prog O.aE T C=true->∀f l,(f,l)∈C->kP O f l
 | [],_,f,l,h=>by cases h
 | (g,l')::C,h,f,l,hm=>by
  simp only [bl,ye] at h;rcases wE.1 hm with e | hm
  ·injection e with e1 e2
   subst e1;subst e2;exact aa7 (adY hO hT f) h.1
  ·exact chunk_ok hO hT h.2 f l hm
def bq {O:bk} {P:aI} {L:Lib} (hO:eD O) (hp:O.prog=P) (hl:O.aE=L) {T:List (Tr an)} (hT:eL O T) {C:List (Nat×an)} (h:bl P L T C=true) (i:Nat) {f:Nat} {l:an} (hi:C[i]? =some (f,l)):kP O f l:=by
 subst hp;subst hl;exact chunk_ok hO hT h f l (List.mem_of_getElem? hi)
def aN {α:Type} {p:Nat->α->Prop} {k:Nat} {v:α} {a b:Tr α} (h:p k v) (ha:a.lZ p) (hb:b.lZ p):Tr.lZ p (.n k v a b):=Tr.jE h ha hb
def aL {α:Type} {p:Nat->α->Prop}:Tr.lZ p .l:=Tr.iQ
end
section
open Go
structure HD where
 n:Nat
 live:List (Nat×List Nat)
 out:List (Nat×List Nat)
 mode:List (Nat×Md)
 fz:List (Nat×List Nat)
 deriving Inhabited
def I9 {α:Type} (i:Nat):List (Nat×α)->Option α
 | []=>none
 | (j,a)::l=>bif yu j i then some a else I9 i l
def avB (cd:Nat->Option Nat) (d:HD):Hint where
 n:=d.n
 cd:=cd
 live:=fun l=>match I9 l d.live with | some x=>x | none=>[]
 out:=fun l=>I9 l d.out
 mode:=fun k=>match I9 k d.mode with | some x=>x | none=> .pure
 fz:=fun i=>match I9 i d.fz with | some x=>x | none=>[]
def M8 (cd:Tr Nat) (t:Tr HD) (i:Nat):Hint:=avB cd.find (match t.find i with | some d=>d | none=>⟨0,[],[],[],[]⟩)
def zK (t:Tr Nat) (i:Nat):Nat:=match t.find i with | some f=>f | none=>0
def Ja (af:Tr Nat):Tr Nat->Bool
 | .l=>true
 | .n f g a b=>yu (zK af g) f&&(Ja af a&&Ja af b)
def Qx {af:Tr Nat}:∀{t:Tr Nat},Ja af t=true->t.lZ (fun f g=>zK af g=f)
 | .l,_=>trivial
 | .n f g a b,h=>by
  simp only [Ja,ye] at h;exact ⟨yj h.1,Qx h.2.1,Qx h.2.2⟩
def Sj (P:y5) (af:Tr Nat) (cd:Tr Nat) (hd:Tr HD) (i:Nat) (F:aZ):Prop:=
 ∃fn,P.funcs[zK af i]? =some fn/\Eo P (M8 cd hd i) fn=some F/\fn.name≠ "runtime.NumGoroutine"
def apC {P:y5} {af cd:Tr Nat} {hd:Tr HD} {i:Nat} {F:aZ} (h:(P.funcs[zK af i]?).bind (Eo P (M8 cd hd i))=some F) (h2:(P.funcs[zK af i]?).map (fun fn=>decide (fn.name= "runtime.NumGoroutine"))=some false):Sj P af cd hd i F:=by
 unfold Sj
 cases hq:P.funcs[zK af i]? with
 | none=>rw [hq] at h;cases h
 | some fn=>
  rw [hq] at h h2;refine ⟨fn,rfl,h,fun e=>?_⟩;simp only [Option.map_some,yd,e,yq] at h2;cases h2
end
section
namespace sD
open Go
open Go.Proofs
def af:Tr Nat:=(.n 210 87 (.n 150 169 (.n 117 82 (.n 84 10 (.n 62 69 (.n 49 61 (.n 29 29 (.n 28 30 .l .l) (.n 46 113 .l .l)) (.n 59 49 (.n 50 99 .l .l) .l)) (.n 71 94 (.n 70 90 (.n 69 57 .l .l) .l) (.n 74 60 (.n 73 117 .l .l) .l))) (.n 102 58 (.n 99 172 (.n 88 115 (.n 86 83 .l .l) (.n 98 121 .l .l)) (.n 101 81 (.n 100 123 .l .l) .l)) (.n 109 129 (.n 108 88 (.n 107 119 .l .l) .l) (.n 111 84 (.n 110 130 .l .l) .l)))) (.n 137 193 (.n 127 52 (.n 124 51 (.n 119 122 (.n 118 156 .l .l) (.n 123 120 .l .l)) (.n 126 53 (.n 125 50 .l .l) .l)) (.n 130 152 (.n 129 155 (.n 128 154 .l .l) .l) (.n 136 166 (.n 135 202 .l .l) .l))) (.n 144 180 (.n 141 206 (.n 139 204 (.n 138 203 .l .l) (.n 140 205 .l .l)) (.n 143 178 (.n 142 179 .l .l) .l)) (.n 147 118 (.n 146 151 (.n 145 173 .l .l) .l) (.n 149 85 (.n 148 153 .l .l) .l))))) (.n 180 48 (.n 164 157 (.n 157 175 (.n 154 184 (.n 152 182 (.n 151 174 .l .l) (.n 153 183 .l .l)) (.n 156 165 (.n 155 185 .l .l) .l)) (.n 161 54 (.n 159 177 (.n 158 176 .l .l) .l) (.n 163 106 (.n 162 192 .l .l) .l))) (.n 171 207 (.n 168 224 (.n 166 208 (.n 165 222 .l .l) (.n 167 223 .l .l)) (.n 170 232 (.n 169 225 .l .l) .l)) (.n 174 253 (.n 173 209 (.n 172 107 .l .l) .l) (.n 179 7 (.n 175 167 .l .l) .l)))) (.n 197 42 (.n 191 37 (.n 188 33 (.n 186 32 (.n 185 31 .l .l) (.n 187 34 .l .l)) (.n 190 36 (.n 189 35 .l .l) .l)) (.n 194 40 (.n 193 39 (.n 192 38 .l .l) .l) (.n 196 43 (.n 195 41 .l .l) .l))) (.n 203 47 (.n 200 13 (.n 199 45 (.n 198 44 .l .l) .l) (.n 202 46 (.n 201 18 .l .l) .l)) (.n 206 114 (.n 205 12 (.n 204 11 .l .l) .l) (.n 209 86 (.n 208 80 .l .l) .l)))))) (.n 272 131 (.n 236 161 (.n 223 103 (.n 217 97 (.n 214 93 (.n 212 91 (.n 211 89 .l .l) (.n 213 92 .l .l)) (.n 216 96 (.n 215 95 .l .l) .l)) (.n 220 100 (.n 219 105 (.n 218 98 .l .l) .l) (.n 222 104 (.n 221 102 .l .l) .l))) (.n 230 110 (.n 227 56 (.n 225 55 (.n 224 101 .l .l) (.n 226 59 .l .l)) (.n 229 109 (.n 228 108 .l .l) .l)) (.n 233 158 (.n 232 112 (.n 231 111 .l .l) .l) (.n 235 160 (.n 234 159 .l .l) .l)))) (.n 249 199 (.n 243 171 (.n 240 116 (.n 238 163 (.n 237 162 .l .l) (.n 239 164 .l .l)) (.n 242 170 (.n 241 168 .l .l) .l)) (.n 246 196 (.n 245 195 (.n 244 194 .l .l) .l) (.n 248 198 (.n 247 197 .l .l) .l))) (.n 263 70 (.n 252 226 (.n 251 201 (.n 250 200 .l .l) .l) (.n 262 128 (.n 261 20 .l .l) .l)) (.n 268 66 (.n 267 27 (.n 264 26 .l .l) .l) (.n 271 127 (.n 269 134 .l .l) .l))))) (.n 298 143 (.n 285 135 (.n 279 78 (.n 276 74 (.n 274 76 (.n 273 132 .l .l) (.n 275 133 .l .l)) (.n 278 79 (.n 277 75 .l .l) .l)) (.n 282 145 (.n 281 139 (.n 280 77 .l .l) .l) (.n 284 136 (.n 283 126 .l .l) .l))) (.n 292 141 (.n 289 144 (.n 287 186 (.n 286 137 .l .l) (.n 288 142 .l .l)) (.n 291 140 (.n 290 138 .l .l) .l)) (.n 295 147 (.n 294 146 (.n 293 150 .l .l) .l) (.n 297 149 (.n 296 148 .l .l) .l)))) (.n 355 125 (.n 343 9 (.n 302 190 (.n 300 188 (.n 299 187 .l .l) (.n 301 189 .l .l)) (.n 332 65 (.n 316 72 .l .l) .l)) (.n 352 28 (.n 351 64 (.n 350 71 .l .l) .l) (.n 354 124 (.n 353 63 .l .l) .l))) (.n 414 4 (.n 409 8 (.n 364 24 (.n 359 73 .l .l) .l) (.n 413 67 (.n 412 16 .l .l) .l)) (.n 417 22 (.n 416 21 (.n 415 19 .l .l) .l) (.n 433 6 (.n 432 23 .l .l) .l)))))))
def cd:Tr Nat:=(.n 113 46 (.n 60 74 (.n 34 187 (.n 20 261 (.n 11 204 (.n 8 409 (.n 6 433 (.n 4 414 .l .l) (.n 7 179 .l .l)) (.n 10 84 (.n 9 343 .l .l) .l)) (.n 16 412 (.n 13 200 (.n 12 205 .l .l) .l) (.n 19 415 (.n 18 201 .l .l) .l))) (.n 28 352 (.n 24 364 (.n 22 417 (.n 21 416 .l .l) (.n 23 432 .l .l)) (.n 27 267 (.n 26 264 .l .l) .l)) (.n 31 185 (.n 30 28 (.n 29 29 .l .l) .l) (.n 33 188 (.n 32 186 .l .l) .l)))) (.n 47 203 (.n 41 195 (.n 38 192 (.n 36 190 (.n 35 189 .l .l) (.n 37 191 .l .l)) (.n 40 194 (.n 39 193 .l .l) .l)) (.n 44 198 (.n 43 196 (.n 42 197 .l .l) .l) (.n 46 202 (.n 45 199 .l .l) .l))) (.n 54 161 (.n 51 124 (.n 49 59 (.n 48 180 .l .l) (.n 50 125 .l .l)) (.n 53 126 (.n 52 127 .l .l) .l)) (.n 57 69 (.n 56 227 (.n 55 225 .l .l) .l) (.n 59 226 (.n 58 102 .l .l) .l))))) (.n 88 108 (.n 75 277 (.n 69 62 (.n 65 332 (.n 63 353 (.n 61 49 .l .l) (.n 64 351 .l .l)) (.n 67 413 (.n 66 268 .l .l) .l)) (.n 72 316 (.n 71 350 (.n 70 263 .l .l) .l) (.n 74 276 (.n 73 359 .l .l) .l))) (.n 82 117 (.n 79 278 (.n 77 280 (.n 76 274 .l .l) (.n 78 279 .l .l)) (.n 81 101 (.n 80 208 .l .l) .l)) (.n 85 149 (.n 84 111 (.n 83 86 .l .l) .l) (.n 87 210 (.n 86 209 .l .l) .l)))) (.n 101 224 (.n 95 215 (.n 92 213 (.n 90 70 (.n 89 211 .l .l) (.n 91 212 .l .l)) (.n 94 71 (.n 93 214 .l .l) .l)) (.n 98 218 (.n 97 217 (.n 96 216 .l .l) .l) (.n 100 220 (.n 99 50 .l .l) .l))) (.n 107 172 (.n 104 222 (.n 103 223 (.n 102 221 .l .l) .l) (.n 106 163 (.n 105 219 .l .l) .l)) (.n 110 230 (.n 109 229 (.n 108 228 .l .l) .l) (.n 112 232 (.n 111 231 .l .l) .l)))))) (.n 164 239 (.n 139 281 (.n 126 283 (.n 120 123 (.n 117 73 (.n 115 88 (.n 114 206 .l .l) (.n 116 240 .l .l)) (.n 119 107 (.n 118 147 .l .l) .l)) (.n 123 100 (.n 122 119 (.n 121 98 .l .l) .l) (.n 125 355 (.n 124 354 .l .l) .l))) (.n 133 275 (.n 130 110 (.n 128 262 (.n 127 271 .l .l) (.n 129 109 .l .l)) (.n 132 273 (.n 131 272 .l .l) .l)) (.n 136 284 (.n 135 285 (.n 134 269 .l .l) .l) (.n 138 290 (.n 137 286 .l .l) .l)))) (.n 152 130 (.n 146 294 (.n 143 298 (.n 141 292 (.n 140 291 .l .l) (.n 142 288 .l .l)) (.n 145 282 (.n 144 289 .l .l) .l)) (.n 149 297 (.n 148 296 (.n 147 295 .l .l) .l) (.n 151 146 (.n 150 293 .l .l) .l))) (.n 158 233 (.n 155 129 (.n 154 128 (.n 153 148 .l .l) .l) (.n 157 164 (.n 156 118 .l .l) .l)) (.n 161 236 (.n 160 235 (.n 159 234 .l .l) .l) (.n 163 238 (.n 162 237 .l .l) .l))))) (.n 192 162 (.n 177 159 (.n 171 243 (.n 168 241 (.n 166 136 (.n 165 156 .l .l) (.n 167 175 .l .l)) (.n 170 242 (.n 169 150 .l .l) .l)) (.n 174 151 (.n 173 145 (.n 172 99 .l .l) .l) (.n 176 158 (.n 175 157 .l .l) .l))) (.n 185 155 (.n 182 152 (.n 179 142 (.n 178 143 .l .l) (.n 180 144 .l .l)) (.n 184 154 (.n 183 153 .l .l) .l)) (.n 188 300 (.n 187 299 (.n 186 287 .l .l) .l) (.n 190 302 (.n 189 301 .l .l) .l)))) (.n 205 140 (.n 199 249 (.n 196 246 (.n 194 244 (.n 193 137 .l .l) (.n 195 245 .l .l)) (.n 198 248 (.n 197 247 .l .l) .l)) (.n 202 135 (.n 201 251 (.n 200 250 .l .l) .l) (.n 204 139 (.n 203 138 .l .l) .l))) (.n 223 167 (.n 208 166 (.n 207 171 (.n 206 141 .l .l) .l) (.n 222 165 (.n 209 173 .l .l) .l)) (.n 226 252 (.n 225 169 (.n 224 168 .l .l) .l) (.n 253 174 (.n 232 170 .l .l) .l)))))))
def hd:Tr HD:=(.n 209 ⟨25,[],[],[],[]⟩ (.n 148 ⟨21,[],[],[],[]⟩ (.n 107 ⟨11,[],[],[],[]⟩ (.n 73 ⟨8,[],[],[],[]⟩ (.n 59 ⟨26,[(1,[0,1,5])],[(1,[])],[],[]⟩ (.n 46 ⟨16,[],[],[],[]⟩ (.n 29 ⟨26,[(1,[0,1,5])],[(1,[])],[],[]⟩ (.n 28 ⟨27,[(1,[0,1,5])],[(1,[])],[],[]⟩ .l .l) .l) (.n 50 ⟨9,[],[],[],[]⟩ (.n 49 ⟨16,[],[],[],[]⟩ .l .l) .l)) (.n 70 ⟨9,[],[],[],[]⟩ (.n 69 ⟨6,[],[],[],[]⟩ (.n 62 ⟨22,[],[],[],[]⟩ .l .l) .l) (.n 71 ⟨16,[],[],[],[]⟩ .l .l))) (.n 98 ⟨13,[],[],[],[]⟩ (.n 86 ⟨76,[],[],[],[]⟩ (.n 84 ⟨20,[],[],[],[]⟩ (.n 74 ⟨34,[],[],[],[]⟩ .l .l) .l) (.n 88 ⟨23,[(0,[3,9,10,11])],[(0,[3])],[],[]⟩ .l .l)) (.n 101 ⟨34,[],[],[],[]⟩ (.n 100 ⟨66,[],[],[],[]⟩ (.n 99 ⟨69,[(1,[3,4,5,6]),(6,[6,10,11])],[(1,[3,6]),(6,[10])],[],[]⟩ .l .l) .l) (.n 102 ⟨9,[],[],[],[]⟩ .l .l)))) (.n 127 ⟨21,[(0,[1,8,9,10])],[(0,[])],[],[]⟩ (.n 119 ⟨67,[],[],[],[]⟩ (.n 111 ⟨6,[],[],[],[]⟩ (.n 110 ⟨41,[(0,[0,2,3,4])],[(0,[2,3,4])],[],[]⟩ (.n 108 ⟨6,[],[],[],[]⟩ .l .l) .l) (.n 118 ⟨29,[],[],[],[]⟩ (.n 117 ⟨5,[],[],[],[]⟩ .l .l) .l)) (.n 125 ⟨15,[(0,[5,6,7])],[(0,[])],[],[]⟩ (.n 124 ⟨7,[],[],[],[]⟩ (.n 123 ⟨23,[(0,[3,9,10,11])],[(0,[3])],[],[]⟩ .l .l) .l) (.n 126 ⟨24,[],[],[],[]⟩ .l .l))) (.n 142 ⟨10,[],[],[],[]⟩ (.n 136 ⟨24,[],[],[],[]⟩ (.n 130 ⟨23,[(0,[2,3,4])],[(0,[2,4])],[],[]⟩ (.n 129 ⟨19,[],[],[],[]⟩ .l .l) .l) (.n 137 ⟨137,[(2,[0,1,6,7,8]),(4,[9,10,11,12,13,14]),(6,[9,11,12,13,96,97])],[(2,[6,7]),(4,[9,11,12,13]),(6,[11,12,13])],[(5,.own),(7,.own),(8,.heap)],[]⟩ .l .l)) (.n 146 ⟨7,[],[],[],[]⟩ (.n 145 ⟨50,[],[],[],[]⟩ (.n 144 ⟨80,[(0,[1,5,20,21,22]),(2,[1,5,6,7,8,20,21,22,27,28,29])],[(0,[5]),(2,[1,5,6,8,20,21,22])],[],[]⟩ .l .l) .l) (.n 147 ⟨26,[],[],[],[]⟩ .l .l))))) (.n 187 ⟨8,[],[],[],[]⟩ (.n 164 ⟨84,[],[],[],[]⟩ (.n 157 ⟨54,[(1,[0,1,5,6,21,22])],[(1,[0,5,6])],[],[]⟩ (.n 151 ⟨13,[],[],[],[]⟩ (.n 150 ⟨9,[],[],[],[]⟩ (.n 149 ⟨14,[],[],[],[]⟩ .l .l) .l) (.n 156 ⟨9,[],[],[],[]⟩ (.n 155 ⟨23,[(0,[1,2,4,5])],[(0,[4,5])],[],[]⟩ .l .l) .l)) (.n 161 ⟨18,[(0,[6,7,8])],[(0,[])],[],[]⟩ (.n 159 ⟨41,[(0,[0,1,5,6,13,14])],[(0,[5])],[],[]⟩ (.n 158 ⟨41,[(2,[0,1,5])],[(2,[])],[],[]⟩ .l .l) .l) (.n 163 ⟨9,[],[],[],[]⟩ .l .l))) (.n 172 ⟨25,[],[],[],[]⟩ (.n 168 ⟨40,[(0,[1,5,12,13,14])],[(0,[5])],[],[]⟩ (.n 166 ⟨21,[(0,[0,3])],[(0,[0,3])],[],[]⟩ (.n 165 ⟨135,[(3,[2,8,9,10,11,13,14,15,16]),(6,[2,8,9,10,14,15,16,17,18])],[(3,[2,8,9,10,11,13,14,15]),(6,[2,8,14,15,17,18])],[],[]⟩ .l .l) .l) (.n 169 ⟨186,[(1,[0,1,5,6,7,8]),(4,[0,1,5,6,11,12,104,105]),(7,[0,1,5,6,17,156,157])],[(1,[0,1,5,6]),(4,[0,1,5,6,11,12]),(7,[0,5,6,17])],[],[]⟩ .l .l)) (.n 185 ⟨16,[],[],[],[]⟩ (.n 180 ⟨59,[(1,[0,1,7,21,22]),(3,[7,9,10])],[(1,[0,1,7]),(3,[7])],[],[]⟩ (.n 179 ⟨318,[],[],[],[]⟩ .l .l) .l) (.n 186 ⟨17,[],[],[],[]⟩ .l .l)))) (.n 198 ⟨21,[],[],[],[]⟩ (.n 193 ⟨20,[],[],[],[]⟩ (.n 190 ⟨22,[],[],[],[]⟩ (.n 189 ⟨35,[],[],[],[]⟩ (.n 188 ⟨11,[],[],[],[]⟩ .l .l) .l) (.n 192 ⟨33,[],[],[],[]⟩ (.n 191 ⟨45,[],[],[],[]⟩ .l .l) .l)) (.n 196 ⟨10,[],[],[],[]⟩ (.n 195 ⟨45,[],[],[],[]⟩ (.n 194 ⟨24,[],[],[],[]⟩ .l .l) .l) (.n 197 ⟨51,[],[],[],[]⟩ .l .l))) (.n 203 ⟨10,[],[],[],[]⟩ (.n 201 ⟨102,[(1,[0,1,7,34,35,36]),(4,[10,13,76,77,78])],[(1,[0,7]),(4,[13])],[],[(20,[13])]⟩ (.n 200 ⟨84,[(2,[8,9,37,38,39]),(4,[8,9,11,12,37,38,39,46,47]),(6,[8,9,11,12,13,14,37,38,39,46,47,51,52,53])],[(2,[9]),(4,[8,9,12,37,38,39]),(6,[8,9,11,12,14,37,38,39,46,47])],[],[(23,[12])]⟩ (.n 199 ⟨28,[],[],[],[]⟩ .l .l) .l) (.n 202 ⟨73,[(2,[5,6,7])],[(2,[5,6,7])],[],[]⟩ .l .l)) (.n 206 ⟨16,[],[],[],[]⟩ (.n 205 ⟨20,[],[],[],[]⟩ (.n 204 ⟨95,[(1,[5,6,7,8,32,33]),(3,[5,6,7,8,9,10,32,33,39,40]),(5,[5,6,7,8,9,10,12,32,33,52,53,54])],[(1,[8]),(3,[5,6,7,8,9,10,32,33]),(5,[5,6,7,8,10,12,32,33])],[],[(25,[10])]⟩ .l .l) .l) (.n 208 ⟨8,[],[],[],[]⟩ .l .l)))))) (.n 264 ⟨63,[],[],[],[]⟩ (.n 230 ⟨11,[],[],[],[]⟩ (.n 220 ⟨11,[],[],[],[]⟩ (.n 215 ⟨5,[],[],[],[]⟩ (.n 212 ⟨10,[],[],[],[]⟩ (.n 211 ⟨51,[(0,[2,4,6,8,18,19,20]),(2,[2,4,6,8,10,18,19,20,29,30,31])],[(0,[6,8]),(2,[2,4,6,8,18,19,20])],[],[]⟩ (.n 210 ⟨22,[],[],[],[]⟩ .l .l) .l) (.n 214 ⟨18,[],[],[],[]⟩ (.n 213 ⟨35,[],[],[],[]⟩ .l .l) .l)) (.n 218 ⟨68,[],[],[],[]⟩ (.n 217 ⟨22,[],[],[],[]⟩ (.n 216 ⟨42,[],[],[],[]⟩ .l .l) .l) (.n 219 ⟨6,[],[],[],[]⟩ .l .l))) (.n 225 ⟨19,[(0,[3,6,7,8])],[(0,[3])],[],[]⟩ (.n 223 ⟨16,[],[],[],[]⟩ (.n 222 ⟨10,[],[],[],[]⟩ (.n 221 ⟨32,[],[],[],[]⟩ .l .l) .l) (.n 224 ⟨38,[],[],[],[]⟩ .l .l)) (.n 228 ⟨13,[],[],[],[]⟩ (.n 227 ⟨140,[(0,[4,5,6,7,8,24,25]),(2,[4,5,6,7,8,9,10,11,24,25]),(5,[4,5,6,7,8,9,10,24,25,89,90])],[(0,[4,8]),(2,[4,5,6,7,8,9,10,11,24,25]),(5,[4,5,6,7,8,9,24,25])],[],[]⟩ (.n 226 ⟨31,[(0,[4,9,10,11]),(2,[4,6,9,10,11,15,16,17])],[(0,[4]),(2,[4,6,9,10,11])],[],[]⟩ .l .l) .l) (.n 229 ⟨32,[],[],[],[]⟩ .l .l)))) (.n 241 ⟨14,[],[],[],[]⟩ (.n 236 ⟨6,[],[],[],[]⟩ (.n 233 ⟨33,[(1,[0,1,4,5,6])],[(1,[4,5])],[],[]⟩ (.n 232 ⟨28,[(0,[0,2,3]),(2,[0,2,3])],[(0,[0,2,3]),(2,[0,2,3])],[],[]⟩ (.n 231 ⟨7,[],[],[],[]⟩ .l .l) .l) (.n 235 ⟨35,[],[],[],[]⟩ (.n 234 ⟨33,[(1,[0,1,4,5,6])],[(1,[4,5])],[],[]⟩ .l .l) .l)) (.n 239 ⟨40,[(0,[1,2,4,5,11,12])],[(0,[4,5])],[],[]⟩ (.n 238 ⟨3,[],[],[],[]⟩ (.n 237 ⟨38,[(1,[1,2,3])],[(1,[2])],[],[]⟩ .l .l) .l) (.n 240 ⟨34,[(0,[0,1,6,7,9,12,13])],[(0,[9])],[],[]⟩ .l .l))) (.n 247 ⟨10,[],[],[],[]⟩ (.n 245 ⟨15,[],[],[],[]⟩ (.n 244 ⟨56,[(0,[4,5,6,7,8,9])],[(0,[4,7])],[],[]⟩ (.n 243 ⟨63,[],[],[],[]⟩ .l .l) .l) (.n 246 ⟨6,[],[],[],[]⟩ .l .l)) (.n 262 ⟨13,[],[],[],[]⟩ (.n 261 ⟨19,[(0,[0,3])],[(0,[])],[],[]⟩ (.n 252 ⟨7,[],[],[],[]⟩ .l .l) .l) (.n 263 ⟨96,[],[],[],[]⟩ .l .l))))) (.n 288 ⟨40,[(1,[0,2,3,4])],[(1,[0,2,3,4])],[],[]⟩ (.n 278 ⟨16,[],[],[],[]⟩ (.n 273 ⟨18,[],[],[],[]⟩ (.n 269 ⟨14,[],[],[],[]⟩ (.n 268 ⟨14,[],[],[],[]⟩ (.n 267 ⟨55,[],[],[],[]⟩ .l .l) .l) (.n 272 ⟨17,[(0,[0,3])],[(0,[0])],[],[]⟩ (.n 271 ⟨9,[],[],[],[]⟩ .l .l) .l)) (.n 276 ⟨54,[],[],[],[]⟩ (.n 275 ⟨19,[(0,[0,1])],[(0,[0])],[],[]⟩ (.n 274 ⟨25,[],[],[],[]⟩ .l .l) .l) (.n 277 ⟨61,[],[],[],[]⟩ .l .l))) (.n 283 ⟨13,[],[],[],[]⟩ (.n 281 ⟨25,[(0,[0,2,3,4])],[(0,[2,3,4])],[],[]⟩ (.n 280 ⟨57,[],[],[],[]⟩ (.n 279 ⟨40,[],[],[],[]⟩ .l .l) .l) (.n 282 ⟨39,[(1,[1,3,4])],[(1,[1,3])],[],[]⟩ .l .l)) (.n 286 ⟨14,[],[],[],[]⟩ (.n 285 ⟨9,[],[],[],[]⟩ (.n 284 ⟨7,[],[],[],[]⟩ .l .l) .l) (.n 287 ⟨20,[(0,[0,3])],[(0,[])],[],[]⟩ .l .l)))) (.n 299 ⟨39,[(0,[0,1,6,7,8])],[(0,[6,7])],[],[]⟩ (.n 294 ⟨15,[],[],[],[]⟩ (.n 291 ⟨12,[(0,[0,1])],[(0,[0])],[],[]⟩ (.n 290 ⟨20,[(0,[0,3,4])],[(0,[3])],[],[]⟩ (.n 289 ⟨206,[(2,[0,8,9,10,11]),(4,[8,9,10,11,12,13]),(6,[8,9,10,11,12,13,14,15,16]),(10,[8,9,10,11,12,13,14,19,20])],[(2,[8,9,10,11]),(4,[8,10,11,12]),(6,[8,9,10,11,12,13,14,15]),(10,[8,9,10,11,12,13,14,19])],[(5,.heap)],[]⟩ .l .l) .l) (.n 293 ⟨72,[(0,[0,1,5,6]),(2,[0,1,5,6,7,8])],[(0,[5]),(2,[0,1,5,6,7])],[],[]⟩ (.n 292 ⟨25,[(0,[0,1,5])],[(0,[5])],[],[]⟩ .l .l) .l)) (.n 297 ⟨35,[(0,[0,1,5,6,7])],[(0,[5])],[],[]⟩ (.n 296 ⟨41,[(2,[0,1,5])],[(2,[])],[],[]⟩ (.n 295 ⟨42,[(0,[0,1,5,6,7])],[(0,[5])],[],[]⟩ .l .l) .l) (.n 298 ⟨9,[],[],[],[]⟩ .l .l))) (.n 352 ⟨25,[(0,[0,1,5,6])],[(0,[5])],[],[]⟩ (.n 302 ⟨13,[],[],[],[]⟩ (.n 301 ⟨77,[(0,[0,1,2,7,9,10])],[(0,[9])],[],[]⟩ (.n 300 ⟨21,[(0,[0])],[(0,[0])],[],[]⟩ .l .l) .l) (.n 343 ⟨47,[(2,[0,3])],[(2,[])],[],[]⟩ .l .l)) (.n 432 ⟨40,[(1,[0,2,3,9])],[(1,[])],[],[]⟩ (.n 364 ⟨25,[(1,[0,2,7])],[(1,[])],[],[]⟩ (.n 359 ⟨31,[],[],[],[]⟩ .l .l) .l) (.n 433 ⟨206,[(1,[0,1,2,7,61,62]),(4,[0,1,2,7,9,11,13,97,98])],[(1,[0,1,2,7]),(4,[0,1,2,7,9,11,13])],[],[(9,[7])]⟩ .l .l)))))))
def avC:Ja af cd=true:=by decide+kernel
noncomputable def cc (i:Nat):aZ:=match (Tryz.prog.funcs[zK af i]?).bind (Eo Tryz.prog (M8 cd hd i)) with
 | some F=>F
 | none=>⟨[],.skip⟩
end sD
end
section
open sD (cc)
noncomputable def SL:Tr aZ:=(.n 209 (cc 209) (.n 148 Tp (.n 107 NE (.n 73 BP (.n 59 (cc 59) (.n 46 sC (.n 29 DC (.n 28 F8 .l .l) .l) (.n 50 KI (.n 49 c49 .l .l) .l)) (.n 70 KK (.n 69 KJ (.n 62 F9 .l .l) .l) (.n 71 Ga .l .l))) (.n 98 Pu (.n 86 dL (.n 84 pQ (.n 74 Ad .l .l) .l) (.n 88 jf .l .l)) (.n 101 nk (.n 100 mA (.n 99 DD .l .l) .l) (.n 102 Tk .l .l)))) (.n 127 Jm (.n 119 c119 (.n 111 Tm (.n 110 NF (.n 108 Tl .l .l) .l) (.n 118 C3 (.n 117 NG .l .l) .l)) (.n 125 NH (.n 124 E8 (.n 123 Jj .l .l) .l) (.n 126 Jl .l .l))) (.n 142 NI (.n 136 Jn (.n 130 Tn (.n 129 E9 .l .l) .l) (.n 137 Jo .l .l)) (.n 146 To (.n 145 zH (.n 144 NJ .l .l) .l) (.n 147 Jp .l .l))))) (.n 187 (cc 187) (.n 164 mB (.n 157 Jq (.n 151 NK (.n 150 (cc 150) (.n 149 ajs .l .l) .l) (.n 156 Tq (.n 155 NL .l .l) .l)) (.n 161 Fb (.n 159 NM (.n 158 Fa .l .l) .l) (.n 163 NN .l .l))) (.n 172 NP (.n 168 NO (.n 166 Bh (.n 165 Jr .l .l) .l) (.n 169 rS .l .l)) (.n 185 (cc 185) (.n 180 (cc 180) (.n 179 (cc 179) .l .l) .l) (.n 186 (cc 186) .l .l)))) (.n 198 (cc 198) (.n 193 (cc 193) (.n 190 (cc 190) (.n 189 (cc 189) (.n 188 (cc 188) .l .l) .l) (.n 192 (cc 192) (.n 191 (cc 191) .l .l) .l)) (.n 196 (cc 196) (.n 195 (cc 195) (.n 194 (cc 194) .l .l) .l) (.n 197 (cc 197) .l .l))) (.n 203 (cc 203) (.n 201 nV (.n 200 nU (.n 199 (cc 199) .l .l) .l) (.n 202 (cc 202) .l .l)) (.n 206 (cc 206) (.n 205 Js (.n 204 (cc 204) .l .l) .l) (.n 208 (cc 208) .l .l)))))) (.n 264 Jw (.n 230 (cc 230) (.n 220 (cc 220) (.n 215 (cc 215) (.n 212 (cc 212) (.n 211 (cc 211) (.n 210 (cc 210) .l .l) .l) (.n 214 (cc 214) (.n 213 (cc 213) .l .l) .l)) (.n 218 (cc 218) (.n 217 (cc 217) (.n 216 (cc 216) .l .l) .l) (.n 219 (cc 219) .l .l))) (.n 225 Jt (.n 223 (cc 223) (.n 222 (cc 222) (.n 221 (cc 221) .l .l) .l) (.n 224 (cc 224) .l .l)) (.n 228 (cc 228) (.n 227 C4 (.n 226 NQ .l .l) .l) (.n 229 (cc 229) .l .l)))) (.n 241 (cc 241) (.n 236 (cc 236) (.n 233 (cc 233) (.n 232 (cc 232) (.n 231 (cc 231) .l .l) .l) (.n 235 (cc 235) (.n 234 (cc 234) .l .l) .l)) (.n 239 (cc 239) (.n 238 (cc 238) (.n 237 (cc 237) .l .l) .l) (.n 240 C5 .l .l))) (.n 247 (cc 247) (.n 245 (cc 245) (.n 244 (cc 244) (.n 243 (cc 243) .l .l) .l) (.n 246 (cc 246) .l .l)) (.n 262 Jv (.n 261 Ju (.n 252 (cc 252) .l .l) .l) (.n 263 dj .l .l))))) (.n 288 NW (.n 278 NT (.n 273 C6 (.n 269 aju (.n 268 ajt (.n 267 Jx .l .l) .l) (.n 272 Jy (.n 271 ajv .l .l) .l)) (.n 276 pz (.n 275 NS (.n 274 NR .l .l) .l) (.n 277 C7 .l .l))) (.n 283 ajw (.n 281 Tt (.n 280 nW (.n 279 Fc .l .l) .l) (.n 282 Jz .l .l)) (.n 286 NV (.n 285 NU (.n 284 Tu .l .l) .l) (.n 287 JA .l .l)))) (.n 299 Bk (.n 294 Bj (.n 291 JB (.n 290 Fe (.n 289 rT .l .l) .l) (.n 293 Bi (.n 292 zI .l .l) .l)) (.n 297 JD (.n 296 rU (.n 295 JC .l .l) .l) (.n 298 NX .l .l))) (.n 352 JE (.n 302 rV (.n 301 zJ (.n 300 lP .l .l) .l) (.n 343 Ff .l .l)) (.n 432 JF (.n 364 Fg (.n 359 rW .l .l) .l) (.n 433 iW .l .l)))))))
def ajx:Tr (List AV->Option AV):=(.n 154 I5 (.n 139 AM (.n 135 I4 (.n 128 LA (.n 109 ND .l .l) .l) (.n 138 At .l .l)) (.n 152 LB (.n 143 rG .l .l) (.n 153 Lr .l .l))) (.n 173 AQ (.n 167 EU (.n 162 trimS .l .l) (.n 171 nO .l .l)) (.n 248 Rj (.n 175 Ir .l .l) (.n 251 Qf .l .l))))
noncomputable def prog:aI:=SL.find
def aE:Lib:=⟨ajx.find,fun _=>none⟩
end
section
namespace sD
open Go
open Go.Proofs
def atp:SL.lZ (Sj Tryz.prog af cd hd):=by
 delta SL
 repeat' first | exact Tr.iQ | refine Tr.jE (apC (by kernel_rfl) (by kernel_rfl)) ?_ ?_
end sD
end
end VE
