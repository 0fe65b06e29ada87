import Derived.Test.YtfohkkaphnfgoaaGreatDoorProg
import Derived.KernelRfl
import Derived.Test.YtfohkkaphnfgoaaGreatDoorTah
import Derived.Test.YtfohkkaphnfgoaaGreatDoorTaa
import Derived.Test.YtfohkkaphnfgoaaGreatDoorTae
set_option linter.all false
set_option maxRecDepth 100000
open Bool renaming and_eq_true→ye,false_eq_true→yF
open Go renaming FloatKind→vK,IntKind→yY,Program→xi
open List renaming mem_cons→wq,mem_cons_of_mem→xS,mem_cons_self→wA
open Nat renaming beq→yv,blt→yM,eq_of_beq_eq_true→yo
open Option.some renaming injEq→yc
namespace VE
section
def Kh:aD:=⟨[.t 2],.g [qk 2 0] (.e [qm 3 0,Rq 4 (.q 30 [.t 3,.k (-999999999),.k 999999999]),qm 2 4])⟩
def Ft:VC:=.q (.g [qm 5 3,qm 6 0,qn 7 1 6,qT 8 5 7] (.cond (.t 8) .skip (.exit 0))) (.q (.aE 1 (.g [qm 11 0,qm 12 3,qi 13 1 11 12,ql 14 1 13,ax 15 263 14,qm 4 15] (.g [qm 16 4,qN 17 16 0] (.i 17 (.e [qm 18 4,qm 2 18]))))) (.aM [qm 9 3,qa 10 9 1,qm 3 10]))
def O4:aD:=⟨[.t 2],.g [qk 2 0] (.q (.g [qk 3 0] (.q (.aE 0 (.loop [0,3] Ft)) (.kp []))) (.e [qk 2 0]))⟩
def Ki:aD:=⟨[.t 2],.g [qk 2 0] (.h [qm 3 0,Rq 4 (.bin .eql (.t 3) (.s [48]))] 4 (.e [qk 2 0]) (.h [qm 5 0,qn 6 0 5,Rq 7 (.y .gtr 6 0),qm 8 7,Rt 9 8 (.m 0),Rt 10 8 (.lE (.t 9) (.k 0)),Rt 11 8 (.bin .eql (.t 10) (.c (.int .u8 45))),qq 12 8 11] 12 (.e [qk 2 (-1)]) (.e [qk 2 1])))⟩
def dt:aD:=⟨[.t 2],.g [qk 2 0] (.g [qm 8 0,qm 3 8] (.h [qm 9 3,qn 10 0 9,Rq 11 (.y .gtr 10 0),qm 12 11,Rt 13 12 (.m 3),Rt 14 12 (.lE (.t 13) (.k 0)),Rt 15 12 (.bin .eql (.t 14) (.c (.int .u8 45))),qq 16 12 15] 16 (.aM [qm 17 3,Rq 18 (.dT .str (.t 17) (some (.k 1)) none),qm 3 18]) (.g [qm 19 3,ax 20 272 19,qm 4 20] (.h [qm 21 3,qm 22 4,Rq 23 (.dT .str (.t 21) none (some (.t 22))),ax 24 273 23,Rq 25 (.un .not (.t 24)),qm 26 25,Rf 27 26 (.m 0),Rf 28 26 (.lE (.t 27) (.k 0)),Rf 29 26 (.bin .eql (.t 28) (.c (.int .u8 45))),Rf 30 26 (.m 29),Rt 31 30 (.m 3),Rt 32 30 (.m 4),Rt 33 30 (.dT .str (.t 31) none (some (.t 32))),Rt 34 30 (.bin .eql (.t 33) (.s [48])),Rf 35 26 (.pick (.t 30) (.t 34) (.c (.bool false))),qp 36 26 35] 36 (.e [qk 2 1]) (.h [qm 37 4,qm 38 3,qn 39 0 38,qT 40 37 39,qm 41 40,Rt 42 41 (.m 3),Rt 43 41 (.m 4),Rt 44 41 (.y .add 43 1),Rt 45 41 (.dT .str (.t 42) (some (.t 44)) none),Rt 46
 41 (.q 273 [.t 45]),Rt 47 41 (.un .not (.t 46)),Rt 48 41 (.m 47),Rf 49 48 (.m 3),Rf 50 48 (.m 4),Rf 51 48 (.y .add 50 1),Rf 52 48 (.dT .str (.t 49) (some (.t 51)) none),Rf 53 48 (.bin .eql (.t 52) (.s [48])),Rt 54 41 (.pick (.t 48) (.c (.bool true)) (.t 53)),Rt 55 41 (.m 54),Rf 56 55 (.m 3),Rf 57 55 (.m 4),Rf 58 55 (.y .add 57 1),Rf 59 55 (.dT .str (.t 56) (some (.t 58)) none),Rf 60 55 (.bin .eql (.t 59) (.s [49])),Rt 61 41 (.pick (.t 55) (.c (.bool true)) (.t 60)),qq 62 41 61] 62 (.e [qk 2 1]) (.h [qm 63 4,Rq 64 (.y .gtr 63 600),qm 65 64,Rf 66 65 (.m 3),Rf 67 65 (.len 0 (.t 66)),Rf 68 65 (.m 4),Rf 69 65 (.z .sub 67 68),Rf 70 65 (.y .sub 69 1),Rf 71 65 (.y .gtr 70 600),qp 72 65 71] 72 (.e [qk 2 4]) (.h [qm 73 4,qm 74 3,qn 75 0 74,qT 76 73 75] 76 (.g [qm 78 3,ax 79 274 78,qm 77 79,qe 80 0 77,qe 81 1 77,Rq 5 (.box 2 (.c (.agg [.bool false,.ab]))),Rq 6 (.box 2 (.c (.agg [.bool false,.ab]))),qs
 2 5 80,qs 2 6 81] (.g [qo 82 1 5,ql 83 1 82,qo 84 1 6,ql 85 1 84,aO 86 275 83 85,qm 7 86] (.g [qm 87 7,qn 88 1 87,qN 89 88 1,qm 90 89,Rf 91 90 (.m 7),Rf 92 90 (.aZ 1 (.t 91) (.k 0)),Rf 93 90 (.ld 1 false (.t 92)),Rf 94 90 (.y .neq 93 1),qp 95 90 94] (.i 95 (.e [qk 2 1]))))) (.e [qk 2 0]))))))))⟩
def Kj:aD:=⟨[.t 4],.g [Rq 4 (.bV (.s []))] (.g [qm 16 0,ax 17 276 16,qm 15 17,qe 18 0 15,qe 19 1 15,qe 20 2 15,qm 5 18,qm 6 19,qm 7 20] (.g [qm 22 1,ax 23 276 22,qm 21 23,qe 24 0 21,qe 25 1 21,qe 26 2 21,qm 8 24,qm 9 25,qm 10 26] (.h [qm 27 7,qm 28 27,Rt 29 28 (.m 10),qq 30 28 29] 30 (.e [qm 31 5,qm 32 9,Rq 33 (.z .mul 31 32),qm 34 8,qm 35 6,Rq 36 (.z .mul 34 35),qA 37 33 36,qm 38 6,qm 39 9,Rq 40 (.z .mul 38 39),aO 41 277 37 40,qm 4 41]) (.g [qm 43 0,ax 44 274 43,qm 42 44,qe 45 0 42,qe 46 1 42,Rq 11 (.box 2 (.c (.agg [.bool false,.ab]))),Rq 12 (.box 2 (.c (.agg [.bool false,.ab]))),qs 2 11 45,qs 2 12 46] (.g [qm 48 1,ax 49 274 48,qm 47 49,qe 50 0 47,qe 51 1 47,Rq 13 (.box 2 (.c (.agg [.bool false,.ab]))),Rq 14 (.box 2 (.c (.agg [.bool false,.ab]))),qs 2 13 50,qs 2 14 51] (.e [qL 52 2 11,qL 53 2 14,aO 54 278 52 53,qL 55 2 13,qL 56 2 12,aO 57 278 55 56,aO 58 279 54 57,qL 59 2 12,qL 60
 2 14,aO 61 278 59 60,aO 62 280 58 61,qm 4 62]))))))⟩
def Ge:aD:=⟨[.t 2],.g [Rq 2 (.bV (.s []))] (.e [qm 3 0,ax 4 281 3,ax 5 282 4,qm 2 5])⟩
def O5:aD:=⟨[.t 4],.g [Rq 4 (.bV (.s []))] (.e [qm 5 0,qm 6 1,ax 7 283 6,aO 8 267 5 7,qm 4 8])⟩
def Kk:aD:=⟨[.t 4],.g [Rq 4 (.bV (.s []))] (.g [qm 16 0,ax 17 276 16,qm 15 17,qe 18 0 15,qe 19 1 15,qe 20 2 15,qm 5 18,qm 6 19,qm 7 20] (.g [qm 22 1,ax 23 276 22,qm 21 23,qe 24 0 21,qe 25 1 21,qe 26 2 21,qm 8 24,qm 9 25,qm 10 26] (.h [qm 27 7,qm 28 27,Rt 29 28 (.m 10),qq 30 28 29] 30 (.e [qm 31 5,qm 32 8,Rq 33 (.z .mul 31 32),qm 34 6,qm 35 9,Rq 36 (.z .mul 34 35),aO 37 277 33 36,qm 4 37]) (.g [qm 39 0,ax 40 274 39,qm 38 40,qe 41 0 38,qe 42 1 38,Rq 11 (.box 2 (.c (.agg [.bool false,.ab]))),Rq 12 (.box 2 (.c (.agg [.bool false,.ab]))),qs 2 11 41,qs 2 12 42] (.g [qm 44 1,ax 45 274 44,qm 43 45,qe 46 0 43,qe 47 1 43,Rq 13 (.box 2 (.c (.agg [.bool false,.ab]))),Rq 14 (.box 2 (.c (.agg [.bool false,.ab]))),qs 2 13 46,qs 2 14 47] (.e [qL 48 2 11,qL 49 2 13,aO 50 278 48 49,qL 51 2 12,qL 52 2 14,aO 53 278 51 52,aO 54 280 50 53,qm 4 54]))))))⟩
def Kl:aD:=⟨[.t 2],.g [Rq 2 (.bV (.s []))] (.h [qm 3 0,ax 4 262 3,Rq 5 (.y .lss 4 0)] 5 (.e [qm 6 0,Rq 7 (.dT .str (.t 6) (some (.k 1)) none),qm 2 7]) (.h [qm 8 0,ax 9 262 8,qE 10 9 0] 10 (.e [qm 11 0,qm 2 11]) (.e [qm 12 0,Rq 13 (.bin .add (.s [45]) (.t 12)),qm 2 13])))⟩
def Km:aD:=⟨[.t 2],.g [qk 2 0] (.h [qm 3 0,ax 4 284 3,ax 5 285 4,qn 6 0 5,Rq 7 (.y .gtr 6 600),qm 8 7,Rf 9 8 (.m 0),Rf 10 8 (.q 286 [.t 9]),Rf 11 8 (.len 0 (.t 10)),Rf 12 8 (.y .gtr 11 600),qp 13 8 12] 13 (.e [qk 2 4]) (.e [qk 2 0]))⟩
def UM:aD:=⟨[.t 4],.g [Rq 4 (.bV (.s []))] (.e [qm 5 0,qm 6 1,ax 7 268 6,aO 8 264 5 7,qm 4 8])⟩
def Fu:VC:=.q (.g [qm 4 3,qm 5 0,qn 6 0 5,qT 7 4 6] (.cond (.t 7) .skip (.exit 0))) (.q (.aE 1 (.g [qm 10 0,qm 11 3,Rq 12 (.lE (.t 10) (.t 11)),Rq 13 (.bin .eql (.t 12) (.c (.int .u8 47)))] (.i 13 (.e [qm 14 3,qm 2 14])))) (.aM [qm 8 3,qa 9 8 1,qm 3 9]))
def Kn:aD:=⟨[.t 2],.g [qk 2 0] (.q (.g [qk 3 0] (.q (.aE 0 (.loop [0,3] Fu)) (.kp [0]))) (.e [qm 15 0,qn 16 0 15,qm 2 16]))⟩
def DK:aD:=⟨[.t 2],.g [qf 2] (.h [qm 3 0,qn 4 0 3,qE 5 4 0,qm 6 5,Rf 7 6 (.m 0),Rf 8 6 (.len 0 (.t 7)),Rf 9 6 (.y .gtr 8 1),Rf 10 6 (.m 9),Rt 11 10 (.m 0),Rt 12 10 (.lE (.t 11) (.k 0)),Rt 13 10 (.bin .eql (.t 12) (.c (.int .u8 48))),Rf 14 6 (.pick (.t 10) (.t 13) (.c (.bool false))),qp 15 6 14] 15 (.e [qf 2]) (.e [qm 16 0,ax 17 287 16,qm 2 17]))⟩
def O6:aD:=⟨[.cell 2 2 true,.cell 3 2 true],.g [Rq 2 (.box 2 (.c (.agg [.bool false,.ab]))),Rq 3 (.box 2 (.c (.agg [.bool false,.ab])))] (.g [qm 6 0,qm 4 6] (.g [qm 7 4,ax 8 272 7,qm 5 8] (.h [qm 9 5,qm 10 4,qn 11 0 10,Rq 12 (.z .eql 9 11)] 12 (.e [qm 13 4,ax 14 288 13,Rq 15 (.q 281 [.k 1]),qs 2 2 14,qs 2 3 15]) (.e [qm 16 4,qm 17 5,Rq 18 (.dT .str (.t 16) none (some (.t 17))),ax 19 288 18,qm 20 4,qm 21 5,qa 22 21 1,Rq 23 (.dT .str (.t 20) (some (.t 22)) none),ax 24 288 23,qs 2 2 19,qs 2 3 24]))))⟩
def Jm:VC:=.q (.g [qm 7 1,qn 8 1 7,Rq 9 (.y .gtr 8 0)] (.cond (.t 9) .skip (.exit 0))) (.aE 1 (.g [qm 11 0,qm 12 1,aO 13 289 11 12,qm 10 13,qe 14 0 10,qe 15 1 10,qm 5 14,qm 6 15] (.aM [qm 16 1,qm 17 6,qm 0 16,qm 1 17])))
def O7:aD:=⟨[.t 4],.g [qz 4] (.q (.q (.aE 0 (.loop [0,1] Jm)) (.kp [0])) (.e [qm 18 0,qm 4 18]))⟩
def pM:aD:=⟨[.t 2,.t 3,.t 4],.g [qk 2 0,qk 3 0,qf 4] (.g [qm 10 0,qm 5 10] (.h [qm 11 5,qn 12 0 11,Rq 13 (.y .gtr 12 20)] 13 (.e [qk 2 0,qk 3 0,qf 4]) (.g [qm 14 5,qn 15 0 14,Rq 16 (.y .gtr 15 0),qm 17 16,Rt 18 17 (.m 5),Rt 19 17 (.lE (.t 18) (.k 0)),Rt 20 17 (.bin .eql (.t 19) (.c (.int .u8 45))),qq 21 17 20,qm 6 21] (.h [qm 22 6] 22 (.aM [qm 23 5,Rq 24 (.dT .str (.t 23) (some (.k 1)) none),qm 5 24]) (.g [qm 25 5,ax 26 272 25,qm 7 26] (.h [qm 27 7,Rq 28 (.y .gtr 27 9),qm 29 28,Rf 30 29 (.m 5),Rf 31 29 (.len 0 (.t 30)),Rf 32 29 (.m 7),Rf 33 29 (.z .sub 31 32),Rf 34 29 (.y .gtr 33 10),qp 35 29 34] 35 (.e [qk 2 0,qk 3 0,qf 4]) (.g [qm 36 5,qm 37 7,Rq 38 (.dT .str (.t 36) none (some (.t 37))),ax 39 290 38,qm 8 39,qk 9 1] (.h [qm 40 7,qm 41 5,qn 42 0 41,qT 43 40 42] 43 (.aM [qm 44 5,qm 45 7,qa 46 45 1,Rq 47 (.dT .str (.t 44) (some (.t 46)) none),ax 48 290 47,qm 9 48]) (.h [qm 49 6] 49 (.aM [qm
 50 8,Rq 51 (.bin .sub (.k 0) (.t 50)),qm 8 51]) (.e [qm 52 8,qm 53 9,qm 2 52,qm 3 53,Rq 4 (.bV (.c (.bool true)))]))))))))))⟩
def DL:aD:=⟨[.t 4],.g [Rq 4 (.bV (.s []))] (.h [qm 7 0,Rq 8 (.y .lss 7 (-4000000000000000000)),qm 9 8,Rf 10 9 (.m 0),Rf 11 9 (.y .gtr 10 4000000000000000000),qp 12 9 11,qm 13 12,Rf 14 13 (.m 1),Rf 15 13 (.y .lss 14 (-4000000000000000000)),qp 16 13 15,qm 17 16,Rf 18 17 (.m 1),Rf 19 17 (.y .gtr 18 4000000000000000000),qp 20 17 19] 20 (.e [qm 21 0,ax 22 281 21,qm 23 1,ax 24 281 23,aO 25 280 22 24,qm 4 25]) (.h [qm 26 1,Rq 27 (.y .lss 26 0)] 27 (.aM [qm 28 0,Rq 29 (.bin .sub (.k 0) (.t 28)),qm 30 1,Rq 31 (.bin .sub (.k 0) (.t 30)),qm 0 29,qm 1 31]) (.g [qm 32 0,qm 33 0,Rq 34 (.bin .sub (.k 0) (.t 33)),Rq 35 (.mx [.t 32,.t 34]),qm 36 1,aO 37 291 35 36,qm 5 37] (.g [qm 38 0,qm 39 5,Rq 40 (.z .quo 38 39),qm 41 1,qm 42 5,Rq 43 (.z .quo 41 42),qm 0 40,qm 1 43] (.g [Rq 6 (.bV (.s []))] (.h [qm 44 0,Rq 45 (.y .lss 44 0)] 45 (.aM [Rq 6 (.bV (.s [45]))]) (.g [qm 46 6,qm 47 0,qm 48 0,Rq 49 (.bin .sub (.k
 0) (.t 48)),Rq 50 (.mx [.t 47,.t 49]),Rq 51 (.q 292 [.t 50,.k 1]),qA 52 46 51,qm 6 52] (.h [qm 53 1,Rq 54 (.y .gtr 53 1)] 54 (.aM [qm 55 6,Rq 56 (.bin .add (.t 55) (.s [47])),qm 57 1,Rq 58 (.q 292 [.t 57,.k 1]),qA 59 56 58,qm 6 59]) (.e [qm 60 6,qm 4 60])))))))))⟩
def O8:aD:=⟨[.cell 4 2 true],.g [qb 2 2 0,qb 3 2 1,Rq 4 (.box 2 (.c (.agg [.bool false,.ab])))] (.e [qo 5 0 2,ql 6 1 5,qo 7 0 3,ql 8 1 7,Rq 9 (.eq true .b (.t 6) (.t 8)),qo 10 1 2,ql 11 1 10,qo 12 1 3,ql 13 1 12,aO 14 293 11 13,aO 15 294 9 14,qs 2 4 15])⟩
def Gf:aD:=⟨[.cell 4 2 true],.g [qb 2 2 0,qb 3 2 1,Rq 4 (.box 2 (.c (.agg [.bool false,.ab])))] (.h [qo 5 0 2,ql 6 1 5,qo 7 0 3,ql 8 1 7,Rq 9 (.eq false .b (.t 6) (.t 8))] 9 (.e [qo 10 0 2,ql 11 1 10,qo 12 1 2,ql 13 1 12,qo 14 1 3,ql 15 1 14,aO 16 295 13 15,aO 17 294 11 16,qs 2 4 17]) (.h [qo 18 1 2,ql 19 1 18,qo 20 1 3,ql 21 1 20,aO 22 296 19 21,Rq 23 (.y .geq 22 0)] 23 (.e [qo 24 0 2,ql 25 1 24,qo 26 1 2,ql 27 1 26,qo 28 1 3,ql 29 1 28,aO 30 297 27 29,aO 31 294 25 30,qs 2 4 31]) (.e [qo 32 0 3,ql 33 1 32,qo 34 1 3,ql 35 1 34,qo 36 1 2,ql 37 1 36,aO 38 297 35 37,aO 39 294 33 38,qs 2 4 39])))⟩
def oh:aD:=⟨[.t 4],.g [qb 2 2 0,qb 3 2 1,Rq 4 (.bV (.s []))] (.h [qo 11 0 3,ql 12 1 11] 12 (.aM [qL 13 2 2,ax 14 298 13,qL 15 2 3,ax 16 298 15,qs 2 2 14,qs 2 3 16]) (.g [qo 17 1 2,ql 18 1 17,qo 19 1 3,ql 20 1 19,aO 21 275 18 20,qm 5 21] (.g [qo 23 1 2,ql 24 1 23,qm 25 5,aO 26 289 24 25,qm 22 26,qe 27 0 22,qe 28 1 22,qm 6 27,qm 7 28] (.g [qo 30 1 3,ql 31 1 30,qm 32 5,aO 33 289 31 32,qm 29 33,qe 34 0 29,qe 35 1 29,qm 8 34,qm 9 35] (.g [qo 36 0 2,ql 37 1 36,qm 38 6,aO 39 294 37 38,ax 40 282 39,qm 10 40] (.h [qm 41 8,qn 42 1 41,qE 43 42 1,qm 44 43,Rt 45 44 (.m 8),Rt 46 44 (.aZ 1 (.t 45) (.k 0)),Rt 47 44 (.ld 1 false (.t 46)),Rt 48 44 (.y .eql 47 1),qq 49 44 48] 49 (.e [qm 50 10,qm 4 50]) (.e [qm 51 10,Rq 52 (.bin .add (.t 51) (.s [47])),qm 53 8,Rq 54 (.q 294 [.c (.bool false),.t 53]),ax 55 282 54,qA 56 52 55,qm 4 56])))))))⟩
def sd:VC:=.q (.g [qm 8 0,qN 9 8 0] (.cond (.t 9) .skip (.exit 0))) (.aE 1 (.g [qm 10 0,Rq 11 (.y .rem 10 1000000000),qm 5 11] (.h [qm 12 5,Rq 13 (.y .lss 12 0)] 13 (.aM [qm 14 5,Rq 15 (.bin .sub (.k 0) (.t 14)),qm 5 15]) (.g [qm 16 3,qm 17 5,Rq 18 (.bI 1 1 [.i 0] [(0,1,.t 17)]),Rq 19 (.cX 1 8 (.t 16) (.t 18)),qm 3 19] (.aM [qm 20 0,Rq 21 (.y .quo 20 1000000000),qm 0 21])))))
def O9:aD:=⟨[.cell 2 2 true],.g [Rq 2 (.box 2 (.c (.agg [.bool false,.ab])))] (.g [qz 3] (.g [qm 6 0,Rq 7 (.y .lss 6 0),qm 4 7] (.q (.q (.aE 0 (.loop [0,2,3,4] sd)) (.kp [2,3,4])) (.e [qm 22 4,qm 23 3,aO 24 294 22 23,qs 2 2 24]))))⟩
def Jn:VC:=.q (.g [qm 22 4,Rq 23 (.y .geq 22 0)] (.cond (.t 23) .skip (.exit 0))) (.q (.aE 1 (.aM [qm 26 3,qo 27 1 1,ql 28 1 27,qm 29 4,qi 30 1 28 29,ql 31 1 30,Rq 32 (.q 292 [.t 31,.k 9]),qA 33 26 32,qm 3 33])) (.aM [qm 24 4,Rq 25 (.y .sub 24 1),qm 4 25]))
def Ko:aD:=⟨[.t 2],.g [qb 1 2 0,Rq 2 (.bV (.s []))] (.h [qo 5 1 1,ql 6 1 5,qn 7 1 6,qE 8 7 0] 8 (.e [Rq 2 (.bV (.s [48]))]) (.g [qo 9 1 1,ql 10 1 9,qo 11 1 1,ql 12 1 11,qn 13 1 12,Rq 14 (.y .sub 13 1),qi 15 1 10 14,ql 16 1 15,Rq 17 (.q 292 [.t 16,.k 1]),qm 3 17] (.q (.g [qo 18 1 1,ql 19 1 18,qn 20 1 19,Rq 21 (.y .sub 20 2),qm 4 21] (.q (.aE 0 (.loop [1,3,4] Jn)) (.kp [1,3]))) (.h [qo 34 0 1,ql 35 1 34] 35 (.e [qm 36 3,Rq 37 (.bin .add (.s [45]) (.t 36)),qm 2 37]) (.e [qm 38 3,qm 2 38])))))⟩
def Kp:aD:=⟨[.t 2],.g [Rq 2 (.bV (.s []))] (.g [qm 6 0,ax 7 274 6,qm 5 7,qe 8 0 5,qe 9 1 5,Rq 3 (.box 2 (.c (.agg [.bool false,.ab]))),Rq 4 (.box 2 (.c (.agg [.bool false,.ab]))),qs 2 3 8,qs 2 4 9] (.e [qL 10 2 4,qL 11 2 3,aO 12 280 10 11,qm 2 12]))⟩
def UN:aD:=⟨[.t 2],.g [Rq 2 (.bV (.s []))] (.e [qm 3 0,qm 4 0,ax 5 272 4,Rq 6 (.dT .str (.t 3) none (some (.t 5))),qm 2 6])⟩
def Pa:aD:=⟨[.t 2],.g [Rq 2 (.bV (.s []))] (.h [qm 3 0,ax 4 262 3,Rq 5 (.y .lss 4 0)] 5 (.e [qm 6 0,Rq 7 (.dT .str (.t 6) (some (.k 1)) none),qm 2 7]) (.e [qm 8 0,qm 2 8]))⟩
def Pb:aD:=⟨[.t 2],.g [Rq 2 (.bV (.s []))] (.g [qm 4 0,ax 5 272 4,qm 3 5] (.h [qm 6 3,qm 7 0,qn 8 0 7,Rq 9 (.z .eql 6 8)] 9 (.e [Rq 2 (.bV (.s [49]))]) (.e [qm 10 0,qm 11 3,qa 12 11 1,Rq 13 (.dT .str (.t 10) (some (.t 12)) none),qm 2 13])))⟩
def C8:VC:=.q (.g [qm 4 3,qm 5 0,qn 6 0 5,qT 7 4 6] (.cond (.t 7) .skip (.exit 0))) (.q (.aE 1 (.g [qm 10 0,qm 11 3,Rq 12 (.lE (.t 10) (.t 11)),Rq 13 (.bin .lss (.t 12) (.c (.int .u8 48))),qm 14 13,Rf 15 14 (.m 0),Rf 16 14 (.m 3),Rf 17 14 (.lE (.t 15) (.t 16)),Rf 18 14 (.bin .gtr (.t 17) (.c (.int .u8 57))),qp 19 14 18] (.i 19 (.e [qf 2])))) (.aM [qm 8 3,qa 9 8 1,qm 3 9]))
def Kq:aD:=⟨[.t 2],.g [qf 2] (.q (.g [qk 3 0] (.q (.aE 0 (.loop [0,3] C8)) (.kp []))) (.e [Rq 2 (.bV (.c (.bool true)))]))⟩
def zP:VC:=.q (.g [qm 16 0,qn 17 0 16,Rq 18 (.y .gtr 17 9)] (.cond (.t 18) .skip (.exit 0))) (.aE 1 (.g [qm 19 4,qm 20 0,qm 21 0,qn 22 0 21,Rq 23 (.y .sub 22 9),Rq 24 (.dT .str (.t 20) (some (.t 23)) none),ax 25 290 24,Rq 26 (.bI 1 1 [.i 0] [(0,1,.t 25)]),Rq 27 (.cX 1 8 (.t 19) (.t 26)),qm 4 27] (.aM [qm 28 0,qm 29 0,qn 30 0 29,Rq 31 (.y .sub 30 9),Rq 32 (.dT .str (.t 28) none (some (.t 31))),qm 0 32])))
def Pc:aD:=⟨[.cell 2 2 true],.g [Rq 2 (.box 2 (.c (.agg [.bool false,.ab])))] (.g [qm 5 0,qn 6 0 5,Rq 7 (.y .gtr 6 0),qm 8 7,Rt 9 8 (.m 0),Rt 10 8 (.lE (.t 9) (.k 0)),Rt 11 8 (.bin .eql (.t 10) (.c (.int .u8 45))),qq 12 8 11,qm 3 12] (.h [qm 13 3] 13 (.aM [qm 14 0,Rq 15 (.dT .str (.t 14) (some (.k 1)) none),qm 0 15]) (.g [qz 4] (.q (.q (.aE 0 (.loop [0,2,3,4] zP)) (.kp [0,2,3,4])) (.e [qm 33 3,qm 34 4,qm 35 0,ax 36 290 35,Rq 37 (.bI 1 1 [.i 0] [(0,1,.t 36)]),Rq 38 (.cX 1 8 (.t 34) (.t 37)),aO 39 294 33 38,qs 2 2 39])))))⟩
def Jo:VC:=.q (.g [qm 63 11,qn 64 1 63,qm 65 0,qn 66 1 65,qa 67 66 1,qT 68 64 67] (.cond (.t 68) .skip (.exit 0))) (.aE 1 (.aM [qm 69 11,Rq 70 (.bI 1 1 [.i 0] [(0,1,.k 0)]),Rq 71 (.cX 1 8 (.t 69) (.t 70)),qm 11 71]))
def Fv:VC:=.q (.g [qm 90 16,qm 91 10,qT 92 90 91] (.cond (.t 92) .skip (.exit 4))) (.q (.aE 5 (.g [qm 95 14,qm 96 9,qm 97 16,qi 98 1 96 97,ql 99 1 98,Rq 100 (.z .mul 95 99),qm 101 15,qA 102 100 101,qm 17 102] (.g [qm 103 11,qm 104 16,qm 105 13,qA 106 104 105,qi 107 1 103 106,ql 108 1 107,qm 109 17,Rq 110 (.y .rem 109 1000000000),Rq 111 (.z .sub 108 110),qm 18 111] (.g [qm 112 17,Rq 113 (.y .quo 112 1000000000),qm 15 113] (.h [qm 114 18,Rq 115 (.y .lss 114 0)] 115 (.g [qm 116 18,qa 117 116 1000000000,qm 18 117] (.aM [qm 118 15,qa 119 118 1,qm 15 119])) (.aM [qm 120 11,qm 121 16,qm 122 13,qA 123 121 122,qm 124 18,qi 125 1 120 123,qs 1 125 124])))))) (.aM [qm 93 16,qa 94 93 1,qm 16 94]))
def Jp:VC:=.q (.g [qm 148 20,qm 149 10,qT 150 148 149] (.cond (.t 150) .skip (.exit 6))) (.q (.aE 7 (.g [qm 153 11,qm 154 20,qm 155 13,qA 156 154 155,qi 157 1 153 156,ql 158 1 157,qm 159 9,qm 160 20,qi 161 1 159 160,ql 162 1 161,qA 163 158 162,qm 164 19,qA 165 163 164,qm 21 165] (.g [qm 166 11,qm 167 20,qm 168 13,qA 169 167 168,qm 170 21,Rq 171 (.y .rem 170 1000000000),qi 172 1 166 169,qs 1 172 171] (.aM [qm 173 21,Rq 174 (.y .quo 173 1000000000),qm 19 174])))) (.aM [qm 151 20,qa 152 151 1,qm 20 152]))
def Jq:VC:=.q (.g [qm 82 13,Rq 83 (.y .geq 82 0)] (.cond (.t 83) .skip (.exit 2))) (.q (.aE 3 (.g [qm 86 11,qm 87 9,qm 88 13,Rq 89 (.call .heap (.F 301) [.t 86,.t 87,.t 88]),qm 14 89] (.g [qk 15 0] (.q (.g [qk 16 0] (.q (.aE 4 (.loop [8,9,10,11,12,13,14,15,16] Fv)) (.kp [8,9,10,11,12,13,14,15]))) (.g [qm 126 11,qm 127 13,qm 128 10,qA 129 127 128,qm 130 11,qm 131 13,qm 132 10,qA 133 131 132,qi 134 1 130 133,ql 135 1 134,qm 136 15,Rq 137 (.z .sub 135 136),qi 138 1 126 129,qs 1 138 137] (.h [qm 139 11,qm 140 13,qm 141 10,qA 142 140 141,qi 143 1 139 142,ql 144 1 143,Rq 145 (.y .lss 144 0)] 145 (.g [qm 146 14,Rq 147 (.y .sub 146 1),qm 14 147] (.g [qk 19 0] (.q (.g [qk 20 0] (.q (.aE 6 (.loop [8,9,10,11,12,13,14,19,20] Jp)) (.kp [8,9,10,11,12,13,14,19]))) (.aM [qm 175 11,qm 176 13,qm 177 10,qA 178 176 177,qm 179 11,qm 180 13,qm 181 10,qA 182 180 181,qi 183 1 179 182,ql 184 1 183,qm 185 19,qA 186
 184 185,qi 187 1 175 178,qs 1 187 186])))) (.aM [qm 188 12,qm 189 13,qm 190 14,qi 191 1 188 189,qs 1 191 190]))))))) (.aM [qm 84 13,Rq 85 (.y .sub 84 1),qm 13 85]))
def sF:aD:=⟨[.t 4,.t 5],.g [qz 4,qz 5] (.h [qm 24 0,qm 25 1,aO 26 296 24 25,Rq 27 (.y .lss 26 0)] 27 (.e [qm 28 0,qz 4,qm 5 28]) (.h [qm 29 1,qn 30 1 29,qE 31 30 1] 31 (.g [qm 33 0,qm 34 1,Rq 35 (.aZ 1 (.t 34) (.k 0)),ql 36 1 35,aO 37 299 33 36,qm 32 37,qe 38 0 32,qe 39 1 32,qm 6 38,qm 7 39] (.e [qm 40 6,qm 41 7,Rq 42 (.bI 1 1 [.i 0] [(0,1,.t 41)]),ax 43 300 42,qm 4 40,qm 5 43])) (.g [qm 44 1,qm 45 1,qn 46 1 45,Rq 47 (.y .sub 46 1),qi 48 1 44 47,ql 49 1 48,qa 50 49 1,Rq 51 (.bin .quo (.k 1000000000) (.t 50)),Rq 52 (.bI 1 1 [.i 0] [(0,1,.t 51)]),qm 8 52] (.g [qm 53 1,qm 54 8,aO 55 293 53 54,qm 9 55] (.g [qm 56 9,qn 57 1 56,qm 10 57] (.g [Rq 58 (.bI 0 1 [] []),qm 59 0,qm 60 8,aO 61 293 59 60,Rq 62 (.cX 1 8 (.t 58) (.t 61)),qm 11 62] (.q (.q (.aE 0 (.loop [0,8,9,10,11] Jo)) (.kp [8,9,10,11])) (.g [qm 72 11,qn 73 1 72,qm 74 10,Rq 75 (.z .sub 73 74),Rq 76 (.gU 1 8 [.i 0] (.t 75) (.t 75)),qm
 12 76] (.q (.g [qm 77 11,qn 78 1 77,qm 79 10,Rq 80 (.z .sub 78 79),Rq 81 (.y .sub 80 1),qm 13 81] (.q (.aE 2 (.loop [8,9,10,11,12,13] Jq)) (.kp [8,10,11,12]))) (.g [qm 193 11,qm 194 10,Rq 195 (.dT (.sl 1) (.t 193) none (some (.t 194))),ax 196 300 195,qm 197 8,Rq 198 (.aZ 1 (.t 197) (.k 0)),ql 199 1 198,aO 200 299 196 199,qm 192 200,qe 201 0 192,qe 202 1 192,qm 22 201,qm 23 202] (.e [qm 203 12,ax 204 300 203,qm 205 22,qm 4 204,qm 5 205])))))))))))⟩
def Jr:VC:=.q (.g [qm 5 4,qm 6 0,qn 7 0 6,qT 8 5 7] (.cond (.t 8) .skip (.exit 0))) (.q (.aE 1 (.aM [qm 11 3,Rq 12 (.bin .mul (.k 10) (.t 11)),qm 13 0,qm 14 4,Rq 15 (.lE (.t 13) (.t 14)),Rq 16 (.cv (.toInt .i64) (.t 15)),qA 17 12 16,Rq 18 (.y .sub 17 48),qm 3 18])) (.aM [qm 9 4,qa 10 9 1,qm 4 10]))
def Gg:aD:=⟨[.t 2],.g [qk 2 0] (.g [qk 3 0] (.q (.g [qk 4 0] (.q (.aE 0 (.loop [0,3,4] Jr)) (.kp [3]))) (.e [qm 19 3,qm 2 19])))⟩
def Js:VC:=.q (.g [qm 5 1,Rq 6 (.y .gtr 5 0)] (.cond (.t 6) .skip (.exit 0))) (.aE 1 (.aM [qm 7 1,qm 8 0,qm 9 1,Rq 10 (.z .rem 8 9),qm 0 7,qm 1 10]))
def Kr:aD:=⟨[.t 4],.g [qk 4 0] (.q (.q (.aE 0 (.loop [0,1] Js)) (.kp [0])) (.e [qm 11 0,qm 4 11]))⟩
def n5:VC:=.q (.g [qm 6 0,Rq 7 (.y .gtr 6 0),qm 8 7,Rf 9 8 (.m 5),Rf 10 8 (.len 0 (.t 9)),Rf 11 8 (.m 1),Rf 12 8 (.z .lss 10 11),qp 13 8 12] (.cond (.t 13) .skip (.exit 0))) (.aE 1 (.g [qm 14 0,Rq 15 (.y .rem 14 10),qm 16 0,Rq 17 (.y .rem 16 10),qa 18 17 1,Rq 19 (.dT .str (.s [48,49,50,51,52,53,54,55,56,57]) (some (.t 15)) (some (.t 18))),qm 20 5,qA 21 19 20,qm 5 21] (.aM [qm 22 0,Rq 23 (.y .quo 22 10),qm 0 23])))
def Ac:aD:=⟨[.t 4],.g [Rq 4 (.bV (.s []))] (.g [Rq 5 (.bV (.s []))] (.q (.q (.aE 0 (.loop [0,1,5] n5)) (.kp [5])) (.e [qm 24 5,qm 4 24])))⟩
def Jt:VC:=.q (.g [qm 22 8,qm 23 1,qn 24 1 23,qT 25 22 24] (.cond (.t 25) .skip (.exit 2))) (.q (.aE 3 (.g [qm 28 5,qm 29 6,qm 30 8,qA 31 29 30,qi 32 1 28 31,ql 33 1 32,qm 34 0,qm 35 6,qi 36 1 34 35,ql 37 1 36,qm 38 1,qm 39 8,qi 40 1 38 39,ql 41 1 40,Rq 42 (.z .mul 37 41),qA 43 33 42,qm 44 7,qA 45 43 44,qm 9 45] (.g [qm 46 5,qm 47 6,qm 48 8,qA 49 47 48,qm 50 9,Rq 51 (.y .rem 50 1000000000),qi 52 1 46 49,qs 1 52 51] (.aM [qm 53 9,Rq 54 (.y .quo 53 1000000000),qm 7 54])))) (.aM [qm 26 8,qa 27 26 1,qm 8 27]))
def Ju:VC:=.q (.g [qm 16 6,qm 17 0,qn 18 1 17,qT 19 16 18] (.cond (.t 19) .skip (.exit 0))) (.q (.aE 1 (.g [qk 7 0] (.q (.g [qk 8 0] (.q (.aE 2 (.loop [0,1,5,6,7,8] Jt)) (.kp [0,1,5,6,7]))) (.aM [qm 55 5,qm 56 6,qm 57 1,qn 58 1 57,qA 59 56 58,qm 60 5,qm 61 6,qm 62 1,qn 63 1 62,qA 64 61 63,qi 65 1 60 64,ql 66 1 65,qm 67 7,qA 68 66 67,qi 69 1 55 59,qs 1 69 68])))) (.aM [qm 20 6,qa 21 20 1,qm 6 21]))
def BG:aD:=⟨[.t 4],.g [qz 4] (.g [qm 10 0,qn 11 1 10,qm 12 1,qn 13 1 12,qA 14 11 13,Rq 15 (.gU 1 8 [.i 0] (.t 14) (.t 14)),qm 5 15] (.q (.g [qk 6 0] (.q (.aE 0 (.loop [0,1,5,6] Ju)) (.kp [5]))) (.e [qm 70 5,ax 71 300 70,qm 4 71])))⟩
def BH:aD:=⟨[.cell 4 2 true],.g [Rq 4 (.box 2 (.c (.agg [.bool false,.ab])))] (.g [qm 5 1,ax 6 300 5,qm 1 6] (.e [qm 7 0,qm 8 7,Rt 9 8 (.m 1),Rt 10 8 (.len 1 (.t 9)),Rt 11 8 (.y .gtr 10 0),qq 12 8 11,qm 13 1,Rq 14 (.df [.bool false,.ab] [(0,1,.t 12),(1,1,.t 13)]),qs 2 4 14]))⟩
def pC:VC:=.q (.g [qm 9 7,qm 10 0,qn 11 1 10,qT 12 9 11,qm 13 12,Rf 14 13 (.m 7),Rf 15 13 (.m 1),Rf 16 13 (.len 1 (.t 15)),Rf 17 13 (.z .lss 14 16),qp 18 13 17,qm 19 18,Rf 20 19 (.m 6),Rf 21 19 (.y .gtr 20 0),qp 22 19 21] (.cond (.t 22) .skip (.exit 0))) (.q (.aE 1 (.g [qm 25 0,qm 26 7,aO 27 302 25 26,qm 28 1,qm 29 7,aO 30 302 28 29,qA 31 27 30,qm 32 6,qA 33 31 32,qm 8 33] (.g [qm 34 5,qm 35 8,Rq 36 (.y .rem 35 1000000000),Rq 37 (.bI 1 1 [.i 0] [(0,1,.t 36)]),Rq 38 (.cX 1 8 (.t 34) (.t 37)),qm 5 38] (.aM [qm 39 8,Rq 40 (.y .quo 39 1000000000),qm 6 40])))) (.aM [qm 23 7,qa 24 23 1,qm 7 24]))
def Ks:aD:=⟨[.t 4],.g [qz 4] (.g [qz 5] (.g [qk 6 0] (.q (.g [qk 7 0] (.q (.aE 0 (.loop [0,1,5,6,7] pC)) (.kp [5]))) (.e [qm 41 5,qm 4 41]))))⟩
def C9:VC:=.q (.g [qm 19 5,Rq 20 (.y .geq 19 0)] (.cond (.t 20) .skip (.exit 0))) (.q (.aE 1 (.h [qm 23 0,qm 24 5,qi 25 1 23 24,ql 26 1 25,qm 27 1,qm 28 5,qi 29 1 27 28,ql 30 1 29,qT 31 26 30] 31 (.e [qk 4 (-1)]) (.g [qm 32 0,qm 33 5,qi 34 1 32 33,ql 35 1 34,qm 36 1,qm 37 5,qi 38 1 36 37,ql 39 1 38,Rq 40 (.z .gtr 35 39)] (.i 40 (.e [qk 4 1]))))) (.aM [qm 21 5,Rq 22 (.y .sub 21 1),qm 5 22]))
def sG:aD:=⟨[.t 4],.g [qk 4 0] (.h [qm 6 0,qn 7 1 6,qm 8 1,qn 9 1 8,Rq 10 (.z .neq 7 9)] 10 (.h [qm 11 0,qn 12 1 11,qm 13 1,qn 14 1 13,qT 15 12 14] 15 (.e [qk 4 (-1)]) (.e [qk 4 1])) (.q (.g [qm 16 0,qn 17 1 16,Rq 18 (.y .sub 17 1),qm 5 18] (.q (.aE 0 (.loop [0,1,5] C9)) (.kp []))) (.e [qk 4 0])))⟩
def se:VC:=.q (.g [qm 9 7,qm 10 0,qn 11 1 10,qT 12 9 11] (.cond (.t 12) .skip (.exit 0))) (.q (.aE 1 (.g [qm 15 0,qm 16 7,qi 17 1 15 16,ql 18 1 17,qm 19 1,qm 20 7,aO 21 302 19 20,Rq 22 (.z .sub 18 21),qm 23 6,Rq 24 (.z .sub 22 23),qm 8 24] (.g [qk 6 0] (.h [qm 25 8,Rq 26 (.y .lss 25 0)] 26 (.g [qm 27 8,qa 28 27 1000000000,qm 8 28] (.aM [qk 6 1])) (.aM [qm 29 5,qm 30 8,Rq 31 (.bI 1 1 [.i 0] [(0,1,.t 30)]),Rq 32 (.cX 1 8 (.t 29) (.t 31)),qm 5 32]))))) (.aM [qm 13 7,qa 14 13 1,qm 7 14]))
def Kt:aD:=⟨[.t 4],.g [qz 4] (.g [qz 5] (.g [qk 6 0] (.q (.g [qk 7 0] (.q (.aE 0 (.loop [0,1,5,6,7] se)) (.kp [5]))) (.e [qm 33 5,ax 34 300 33,qm 4 34]))))⟩
def Pd:aD:=⟨[.cell 2 2 true],.g [qb 1 2 0,Rq 2 (.box 2 (.c (.agg [.bool false,.ab])))] (.e [qo 3 0 1,ql 4 1 3,Rq 5 (.un .not (.t 4)),qo 6 1 1,ql 7 1 6,aO 8 294 5 7,qs 2 2 8])⟩
def Jv:VC:=.q (.g [qm 16 8,Rq 17 (.y .geq 16 0)] (.cond (.t 17) .skip (.exit 0))) (.q (.aE 1 (.g [qm 20 7,Rq 21 (.y .mul 20 1000000000),qm 22 0,qm 23 8,qi 24 1 22 23,ql 25 1 24,qA 26 21 25,qm 9 26] (.g [qm 27 6,qm 28 8,qm 29 9,qm 30 1,Rq 31 (.z .quo 29 30),qi 32 1 27 28,qs 1 32 31] (.aM [qm 33 9,qm 34 1,Rq 35 (.z .rem 33 34),qm 7 35])))) (.aM [qm 18 8,Rq 19 (.y .sub 18 1),qm 8 19]))
def BI:aD:=⟨[.t 4,.t 5],.g [qz 4,qk 5 0] (.g [qm 10 0,qn 11 1 10,Rq 12 (.gU 1 8 [.i 0] (.t 11) (.t 11)),qm 6 12] (.g [qk 7 0] (.q (.g [qm 13 0,qn 14 1 13,Rq 15 (.y .sub 14 1),qm 8 15] (.q (.aE 0 (.loop [0,1,6,7,8] Jv)) (.kp [6,7]))) (.e [qm 36 6,ax 37 300 36,qm 38 7,qm 4 37,qm 5 38]))))⟩
def Da:VC:=.q (.g [qm 3 0,qn 4 1 3,Rq 5 (.y .gtr 4 0),qm 6 5,Rt 7 6 (.m 0),Rt 8 6 (.m 0),Rt 9 6 (.len 1 (.t 8)),Rt 10 6 (.y .sub 9 1),Rt 11 6 (.aZ 1 (.t 7) (.t 10)),Rt 12 6 (.ld 1 false (.t 11)),Rt 13 6 (.y .eql 12 0),qq 14 6 13] (.cond (.t 14) .skip (.exit 0))) (.aE 1 (.aM [qm 15 0,qm 16 0,qn 17 1 16,Rq 18 (.y .sub 17 1),Rq 19 (.dT (.sl 1) (.t 15) none (some (.t 18))),qm 0 19]))
def lS:aD:=⟨[.t 2],.g [qz 2] (.q (.q (.aE 0 (.loop [0] Da)) (.kp [0])) (.e [qm 20 0,qm 2 20]))⟩
def Bh:VC:=.q (.g [qm 42 9,Rq 43 (.y .geq 42 1000000000),qm 44 43,Rf 45 44 (.m 9),Rf 46 44 (.m 1),Rf 47 44 (.m 7),Rf 48 44 (.y .sub 47 2),Rf 49 44 (.aZ 1 (.t 46) (.t 48)),Rf 50 44 (.ld 1 false (.t 49)),Rf 51 44 (.z .mul 45 50),Rf 52 44 (.m 10),Rf 53 44 (.y .mul 52 1000000000),Rf 54 44 (.m 0),Rf 55 44 (.m 2),Rf 56 44 (.m 7),Rf 57 44 (.z .add 55 56),Rf 58 44 (.y .sub 57 2),Rf 59 44 (.aZ 1 (.t 54) (.t 58)),Rf 60 44 (.ld 1 false (.t 59)),Rf 61 44 (.z .add 53 60),Rf 62 44 (.z .gtr 51 61),qp 63 44 62] (.cond (.t 63) .skip (.exit 0))) (.aE 1 (.g [qm 64 9,Rq 65 (.y .sub 64 1),qm 9 65] (.g [qm 66 10,qm 67 1,qm 68 7,Rq 69 (.y .sub 68 1),qi 70 1 67 69,ql 71 1 70,qA 72 66 71,qm 10 72] (.g [qm 73 10,Rq 74 (.y .geq 73 1000000000)] (.i 74 (.e [qm 75 9,qm 6 75]))))))
def Ad:aD:=⟨[.t 6],.g [qk 6 0] (.g [qm 11 1,qn 12 1 11,qm 7 12] (.g [qm 13 0,qm 14 2,qm 15 7,qA 16 14 15,qi 17 1 13 16,ql 18 1 17,Rq 19 (.y .mul 18 1000000000),qm 20 0,qm 21 2,qm 22 7,qA 23 21 22,Rq 24 (.y .sub 23 1),qi 25 1 20 24,ql 26 1 25,qA 27 19 26,qm 8 27] (.g [qm 28 8,qm 29 1,qm 30 7,Rq 31 (.y .sub 30 1),qi 32 1 29 31,ql 33 1 32,Rq 34 (.z .quo 28 33),qm 35 8,qm 36 1,qm 37 7,Rq 38 (.y .sub 37 1),qi 39 1 36 38,ql 40 1 39,Rq 41 (.z .rem 35 40),qm 9 34,qm 10 41] (.q (.q (.aE 0 (.loop [0,1,2,7,9,10] Bh)) (.kp [9])) (.e [qm 76 9,qm 6 76])))))⟩
def sH:aD:=⟨[.t 4],.g [qk 4 0] (.h [qm 5 1,qm 6 0,qn 7 1 6,qT 8 5 7] 8 (.e [qm 9 0,qm 10 1,qi 11 1 9 10,ql 12 1 11,qm 4 12]) (.e [qk 4 0]))⟩
end
section
def UO:aD:=⟨[.t 2],.g [qb 1 3 0,qf 2] (.e [qo 3 0 1,qo 4 0 3,ql 5 1 4,qo 6 0 1,qo 7 1 6,ql 8 1 7,qo 9 2 1,ql 10 1 9,Rq 11 (.bI 3 1 [.str [],.str [],.str []] [(0,1,.t 5),(1,1,.t 8),(2,1,.t 10)]),ax 12 305 11,qm 2 12])⟩
def Fw:VC:=.q (.g [qm 4 3,qm 5 0,qn 6 1 5,qT 7 4 6] (.cond (.t 7) .skip (.exit 0))) (.q (.aE 1 (.g [qm 10 0,qm 11 3,qi 12 1 10 11,ql 13 1 12,qn 14 0 13,Rq 15 (.y .gtr 14 40)] (.i 15 (.e [qf 2])))) (.aM [qm 8 3,qa 9 8 1,qm 3 9]))
def DM:aD:=⟨[.t 2],.g [qf 2] (.q (.g [qk 3 0] (.q (.aE 0 (.loop [0,3] Fw)) (.kp []))) (.e [Rq 2 (.bV (.c (.bool true)))]))⟩
def UP:aD:=⟨[.t 2],.g [qb 1 3 0,qk 2 0] (.e [qo 3 0 1,qL 4 2 3,ax 5 308 4,qo 6 2 1,ql 7 1 6,ax 8 307 7,Rq 9 (.bI 2 1 [.i 0,.i 0] [(0,1,.t 5),(1,1,.t 8)]),ax 10 42 9,qm 2 10])⟩
def UQ:aD:=⟨[.t 2],.g [qk 2 0] (.e [qm 3 0,Rq 4 (.q 314 [.t 3,.k 0]),qm 2 4])⟩
def UR:aD:=⟨[.t 2],.g [qb 1 2 0,qk 2 0] (.e [qo 3 0 1,ql 4 1 3,qo 5 1 1,ql 6 1 5,Rq 7 (.bI 2 1 [.str [],.str []] [(0,1,.t 4),(1,1,.t 6)]),ax 8 261 7,qm 2 8])⟩
def rh:aD:=⟨[.t 4],.g [qb 2 3 0,qf 4] (.e [qo 5 2 2,ql 6 1 5,Rq 7 (.bin .eql (.t 6) (.s [48])),qm 8 7,Rf 9 8 (.m 1),Rf 10 8 (.off 2 (.t 2)),Rf 11 8 (.ld 1 false (.t 10)),Rf 12 8 (.q 315 [.t 9,.t 11]),Rf 13 8 (.y .lss 12 0),qp 14 8 13,qm 4 14])⟩
def Pe:aD:=⟨[.cell 6 2 true],.g [qb 3 3 0,qb 5 2 2,Rq 6 (.box 2 (.c (.agg [.str [],.str []])))] (.g [Rq 7 (.bV (.s [49]))] (.h [qo 8 2 3,ql 9 1 8,Rq 10 (.bin .neq (.t 9) (.s [48]))] 10 (.aM [qm 11 1,qo 12 2 3,ql 13 1 12,aO 14 266 11 13,Rq 15 (.q 271 [.s [49],.t 14]),qm 7 15]) (.e [qm 16 7,qL 17 2 5,aO 18 317 16 17,qm 19 1,qo 20 0 3,qL 21 2 20,mc 22 318 18 19 21,qs 2 6 22])))⟩
def Ku:aD:=⟨[.t 4],.g [qk 4 0] (.g [qm 6 0,ax 7 263 6,qm 5 7] (.h [qm 8 5,qE 9 8 0,qm 10 9,Rt 11 10 (.m 0),Rt 12 10 (.q 262 [.t 11]),Rt 13 10 (.m 1),Rt 14 10 (.z .lss 12 13),qq 15 10 14] 15 (.aM [qk 5 3]) (.e [qm 16 5,qm 4 16])))⟩
def sI:aD:=⟨[.t 4],.g [qk 4 0] (.e [qm 5 0,qm 6 1,aO 7 271 5 6,ax 8 262 7,qm 4 8])⟩
def Fx:VC:=.q (.g [qm 4 3,qm 5 0,qn 6 1 5,qT 7 4 6] (.cond (.t 7) .skip (.exit 0))) (.q (.aE 1 (.g [qm 10 0,qm 11 3,qi 12 1 10 11,ql 13 1 12,ax 14 269 13,qN 15 14 0] (.i 15 (.e [qk 2 4])))) (.aM [qm 8 3,qa 9 8 1,qm 3 9]))
def Kv:aD:=⟨[.t 2],.g [qk 2 0] (.q (.g [qk 3 0] (.q (.aE 0 (.loop [0,3] Fx)) (.kp []))) (.e [qk 2 0]))⟩
def US:aD:=⟨[.cell 4 2 true],.g [qb 3 2 1,Rq 4 (.box 2 (.c (.agg [.str [],.str []])))] (.e [Rq 5 (.df [.str [],.str []] [(0,1,.s [48]),(1,1,.s [48])]),qm 6 0,qL 7 2 3,mc 8 318 5 6 7,qs 2 4 8])⟩
def UT:aD:=⟨[.cell 6 2 true],.g [qb 3 2 0,qb 5 2 2,Rq 6 (.box 2 (.c (.agg [.str [],.str []])))] (.e [qo 7 0 3,ql 8 1 7,qm 9 1,qo 10 0 5,ql 11 1 10,aO 12 267 9 11,aO 13 264 8 12,qo 14 1 3,ql 15 1 14,qm 16 1,qo 17 1 5,ql 18 1 17,aO 19 267 16 18,aO 20 264 15 19,Rq 21 (.df [.str [],.str []] [(0,1,.t 13),(1,1,.t 20)]),qs 2 6 21])⟩
def Fy:VC:=.g [qT 68 67 66] (.q (.cond (.t 68) .skip (.exit 0)) (.q (.aE 1 (.g [qm 69 67,qm 6 69] (.g [qo 70 0 3,ql 71 1 70,qm 72 6,qi 73 3 71 72,qL 74 3 73,ax 75 304 74,Rq 76 (.un .not (.t 75))] (.i 76 (.e [Rq 4 (.bV (.c (.bool true)))]))))) (.aM [qa 77 67 1,qm 67 77])))
def Fz:VC:=.g [qT 82 81 80] (.q (.cond (.t 82) .skip (.exit 2)) (.q (.aE 3 (.g [qm 83 81,qm 7 83] (.g [qo 84 1 3,ql 85 1 84,qm 86 7,qi 87 2 85 86,qo 88 0 87,ql 89 1 88,qo 90 1 3,ql 91 1 90,qm 92 7,qi 93 2 91 92,qo 94 1 93,ql 95 1 94,Rq 96 (.bI 2 1 [.str [],.str []] [(0,1,.t 89),(1,1,.t 95)]),ax 97 305 96,Rq 98 (.un .not (.t 97))] (.i 98 (.e [Rq 4 (.bV (.c (.bool true)))]))))) (.aM [qa 99 81 1,qm 81 99])))
def eI:aD:=⟨[.t 4],.g [qb 3 3 1,qf 4] (.g [qm 12 0,ax 13 321 12,qm 5 13] (.h [qg 14 1,Rq 15 (.un .not (.t 14)),qm 16 15,Rf 17 16 (.m 5),Rf 18 16 (.q 322 [.t 17,.k 9]),Rf 19 16 (.un .not (.t 18)),qp 20 16 19,qm 21 20,Rf 22 21 (.off 0 (.t 3)),Rf 23 21 (.ld 1 false (.t 22)),Rf 24 21 (.len 1 (.t 23)),Rf 25 21 (.y .gtr 24 3),Rf 26 21 (.m 25),Rt 27 26 (.off 0 (.t 3)),Rt 28 26 (.ld 1 false (.t 27)),Rt 29 26 (.len 1 (.t 28)),Rt 30 26 (.y .leq 29 6),Rf 31 21 (.pick (.t 26) (.t 30) (.c (.bool false))),qp 32 21 31,qm 33 32,Rf 34 33 (.off 0 (.t 3)),Rf 35 33 (.ld 1 false (.t 34)),Rf 36 33 (.len 1 (.t 35)),Rf 37 33 (.y .gtr 36 8),qp 38 33 37,qm 39 38,Rf 40 39 (.off 1 (.t 3)),Rf 41 39 (.ld 1 false (.t 40)),Rf 42 39 (.len 1 (.t 41)),Rf 43 39 (.y .gtr 42 8),Rf 44 39 (.m 43),Rt 45 44 (.off 1 (.t 3)),Rt 46 44 (.ld 1 false (.t 45)),Rt 47 44 (.len 1 (.t 46)),Rt 48 44 (.y .neq 47 65),Rf 49 39 (.pick (.t 44) (.t 48) (.c
 (.bool false))),Rf 50 39 (.m 49),Rt 51 50 (.off 1 (.t 3)),Rt 52 50 (.ld 1 false (.t 51)),Rt 53 50 (.len 1 (.t 52)),Rt 54 50 (.y .leq 53 256),Rf 55 39 (.pick (.t 50) (.t 54) (.c (.bool false))),qp 56 39 55,qm 57 56,Rf 58 57 (.off 1 (.t 3)),Rf 59 57 (.ld 1 false (.t 58)),Rf 60 57 (.len 1 (.t 59)),Rf 61 57 (.y .gtr 60 258),qp 62 57 61] 62 (.e [qg 63 1,qm 4 63]) (.q (.g [qo 64 0 3,ql 65 1 64,qn 66 1 65,qk 67 0] (.q (.aE 0 (.loop [0,3,5,66,67] Fy)) (.kp [0,3,5]))) (.q (.g [qo 78 1 3,ql 79 1 78,qn 80 1 79,qk 81 0] (.q (.aE 2 (.loop [0,3,5,80,81] Fz)) (.kp [0,3,5]))) (.g [qm 101 0,qo 102 0 3,ql 103 1 102,qo 104 1 3,ql 105 1 104,qo 106 2 3,ql 107 1 106,Eh 108 26 101 103 105 107,qm 100 108,qe 109 0 100,qe 110 1 100,qm 8 109,qm 9 110] (.g [qm 111 5,qL 112 3 3,aO 113 323 111 112,qm 10 113] (.g [qz 11] (.h [qm 114 10,qE 115 114 0] 115 (.g [qm 116 5,qo 117 0 3,ql 118 1 117,ax 119 324 118,qo
 120 1 3,ql 121 1 120,qo 122 2 3,ql 123 1 122,Eh 124 325 116 119 121 123,qm 11 124] (.aM [qm 125 11,ax 126 326 125,qm 10 126])) (.h [qm 127 10,qN 128 127 0] 128 (.e [qm 129 8,qn 130 1 129,qE 131 130 0,qm 132 131,Rt 133 132 (.m 9),Rt 134 132 (.m 10),Rt 135 132 (.z .eql 133 134),qq 136 132 135,qm 4 136]) (.e [qm 137 9,qE 138 137 0,qm 139 138,Rt 140 139 (.m 8),Rt 141 139 (.m 11),Rt 142 139 (.q 28 [.t 140,.t 141]),qq 143 139 142,qm 4 143]))))))))))⟩
def Db:VC:=.g [qT 8 7 6] (.q (.cond (.t 8) .skip (.exit 0)) (.q (.aE 1 (.g [qm 9 7,qm 4 9] (.aM [qm 10 3,qm 11 0,qm 12 4,qi 13 8 11 12,qL 14 8 13,Rq 15 (.bI 1 8 [.ab,.str [],.str [],.str [],.str [],.str [],.str [],.str []] [(0,8,.t 14)]),Rq 16 (.cX 8 136 (.t 10) (.t 15)),qm 3 16]))) (.aM [qa 17 7 1,qm 7 17])))
def Pf:aD:=⟨[.t 2],.g [qz 2] (.g [qz 3] (.q (.g [qm 5 0,qn 6 1 5,qk 7 0] (.q (.aE 0 (.loop [0,3,6,7] Db)) (.kp [3]))) (.e [qm 18 3,qm 2 18])))⟩
def Dc:VC:=.q (.g [qm 19 5,qm 20 0,qn 21 1 20,qT 22 19 21] (.cond (.t 22) .skip (.exit 0))) (.q (.aE 1 (.g [qm 25 0,qm 26 5,qi 27 8 25 26,qL 28 8 27,qm 29 1,aO 30 327 28 29,Rq 31 (.un .not (.t 30))] (.i 31 (.e [qf 4])))) (.aM [qm 23 5,qa 24 23 1,qm 5 24]))
def DN:aD:=⟨[.t 4],.g [qf 4] (.h [qm 6 0,qn 7 1 6,Rq 8 (.y .gtr 7 3),qm 9 8,Rt 10 9 (.m 0),Rt 11 9 (.len 1 (.t 10)),Rt 12 9 (.y .leq 11 4),qq 13 9 12,qm 14 13,Rf 15 14 (.m 0),Rf 16 14 (.len 1 (.t 15)),Rf 17 14 (.y .gtr 16 6),qp 18 14 17] 18 (.e [qf 4]) (.q (.g [qk 5 0] (.q (.aE 0 (.loop [0,1,5] Dc)) (.kp []))) (.e [Rq 4 (.bV (.c (.bool true)))])))⟩
def DO:aD:=⟨[.t 4],.g [qb 3 3 1,qk 4 0] (.g [qm 6 0,qn 7 1 6,qE 8 7 0,Rq 9 (.q 13 [.t 8,.k 12]),qm 5 9] (.g [qm 10 5,qm 11 0,ax 12 328 11,qo 13 0 3,ql 14 1 13,ax 15 324 14,ax 16 329 15,qo 17 1 3,ql 18 1 17,qn 19 1 18,qE 20 19 0,Rq 21 (.q 13 [.t 20,.k 12]),Rq 22 (.bI 4 1 [.i 0,.i 0,.i 0,.i 0] [(0,1,.t 10),(1,1,.t 12),(2,1,.t 16),(3,1,.t 21)]),ax 23 11 22,qm 5 23] (.g [qm 24 5,qo 25 1 3,ql 26 1 25,ax 27 330 26,qo 28 2 3,ql 29 1 28,ax 30 258 29,Rq 31 (.bI 3 1 [.i 0,.i 0,.i 0] [(0,1,.t 24),(1,1,.t 27),(2,1,.t 30)]),ax 32 11 31,qm 5 32] (.h [qm 33 5,qE 34 33 0] 34 (.aM [qo 35 0 3,ql 36 1 35,qn 37 1 36,qo 38 1 3,ql 39 1 38,qn 40 1 39,Rq 41 (.z .mul 37 40),Rq 42 (.y .gtr 41 64),qm 43 42,Rf 44 43 (.m 0),Rf 45 43 (.q 331 [.t 44]),Rf 46 43 (.y .gtr 45 64),qp 47 43 46,Rq 48 (.q 13 [.t 47,.k 22]),qm 5 48]) (.e [qm 49 5,qm 4 49])))))⟩
def Dd:VC:=.g [qT 8 7 6] (.q (.cond (.t 8) .skip (.exit 0)) (.q (.aE 1 (.g [qm 9 7,qm 4 9] (.aM [qm 10 3,qm 11 0,qm 12 4,qi 13 3 11 12,qL 14 3 13,Rq 15 (.bI 1 3 [.str [],.str [],.str []] [(0,3,.t 14)]),Rq 16 (.cX 3 48 (.t 10) (.t 15)),qm 3 16]))) (.aM [qa 17 7 1,qm 7 17])))
def Kw:aD:=⟨[.t 2],.g [qz 2] (.g [qz 3] (.q (.g [qm 5 0,qn 6 1 5,qk 7 0] (.q (.aE 0 (.loop [0,3,6,7] Dd)) (.kp [3]))) (.e [qm 18 3,qm 2 18])))⟩
def Bi:VC:=.q (.g [qm 68 18,Rq 69 (.y .lss 68 4)] (.cond (.t 69) .skip (.exit 6))) (.q (.aE 7 (.g [qm 72 13,qm 73 18,Rq 74 (.At 4 3 (.t 17) (.t 73)),qo 75 1 74,ql 76 1 75,qm 77 16,Rq 78 (.z .mul 76 77),qA 79 72 78,qm 80 18,Rq 81 (.At 4 3 (.t 17) (.t 80)),qo 82 0 81,ql 83 1 82,qA 84 79 83,qm 19 84] (.aM [qm 85 12,qm 86 19,qm 87 12,qm 88 19,qi 89 1 87 88,ql 90 1 89,qo 91 3 15,ql 92 1 91,qm 93 18,Rq 94 (.At 4 3 (.t 17) (.t 93)),qo 95 2 94,ql 96 1 95,aO 97 267 92 96,aO 98 264 90 97,qi 99 1 85 86,qs 1 99 98]))) (.aM [qm 70 18,qa 71 70 1,qm 18 71]))
def De:VC:=.q (.g [qm 35 14,qm 36 0,qn 37 1 36,qT 38 35 37] (.cond (.t 38) .skip (.exit 4))) (.q (.aE 5 (.g [qm 41 0,qm 42 14,qi 43 8 41 42,qL 44 8 43,Rq 15 (.box 8 (.c (.agg [.ab,.str [],.str [],.str [],.str [],.str [],.str [],.str []]))),qs 8 15 44] (.g [qo 45 0 15,ql 46 1 45,qn 47 1 46,qm 16 47] (.h [qm 48 1,qm 49 10,qi 50 3 48 49,qL 51 3 50,qo 52 1 15,ql 53 1 52,aO 54 309 51 53] 54 (.g [qm 55 16,qL 56 8 15,qm 57 1,qm 58 10,qi 59 3 57 58,qL 60 3 59,qm 61 2,qm 62 11,qi 63 2 61 62,qL 64 2 63,qm 65 3,Eh 66 333 56 60 64 65,aO 67 334 55 66,Rq 17 (.box 12 (.c (.agg [.i 0,.i 0,.str [],.i 0,.i 0,.str [],.i 0,.i 0,.str [],.i 0,.i 0,.str []]))),qs 12 17 67] (.g [qk 18 0] (.q (.aE 6 (.loop [0,1,2,3,9,10,11,12,13,14,15,16,17,18] Bi)) (.kp [0,1,2,3,9,10,11,12,13,14,16])))) (.aM [qm 100 13,qm 101 16,qm 102 16,Rq 103 (.z .mul 101 102),qA 104 100 103,qm 13 104]))))) (.aM [qm 39 14,qa 40 39 1,qm 14 40]))
def FA:VC:=.q (.g [qm 26 11,qm 27 2,qn 28 1 27,qT 29 26 28] (.cond (.t 29) .skip (.exit 2))) (.q (.aE 3 (.g [qm 32 0,ax 33 331 32,Rq 34 (.call .own (.F 332) [.t 33]),qm 12 34] (.g [qk 13 0] (.q (.g [qk 14 0] (.q (.aE 4 (.loop [0,1,2,3,9,10,11,12,13,14] De)) (.kp [0,1,2,3,9,10,11,12]))) (.q (.fz [12]) (.aM [qm 105 9,qm 106 12,Rq 107 (.bI 1 1 [.ab] [(0,1,.t 106)]),Rq 108 (.cX 1 24 (.t 105) (.t 107)),qm 9 108])))))) (.aM [qm 30 11,qa 31 30 1,qm 11 31]))
def Jw:VC:=.q (.g [qm 20 10,qm 21 1,qn 22 1 21,qT 23 20 22] (.cond (.t 23) .skip (.exit 0))) (.q (.aE 1 (.g [qk 11 0] (.q (.aE 2 (.loop [0,1,2,3,9,10,11] FA)) (.kp [0,1,2,3,9,10])))) (.aM [qm 24 10,qa 25 24 1,qm 10 25]))
def Pg:aD:=⟨[.t 8],.g [qz 8] (.g [qz 9] (.q (.g [qk 10 0] (.q (.aE 0 (.loop [0,1,2,3,9,10] Jw)) (.kp [9]))) (.e [qm 109 9,qm 8 109])))⟩
def FB:VC:=.q (.g [qm 5 3,qm 6 0,qn 7 1 6,qT 8 5 7] (.cond (.t 8) .skip (.exit 0))) (.q (.aE 1 (.g [qm 11 0,qm 12 3,qi 13 1 11 12,ql 14 1 13,ax 15 316 14,qm 4 15] (.g [qm 16 4,qN 17 16 0] (.i 17 (.e [qm 18 4,qm 2 18]))))) (.aM [qm 9 3,qa 10 9 1,qm 3 10]))
def Ph:aD:=⟨[.t 2],.g [qk 2 0] (.q (.g [qk 3 0] (.q (.aE 0 (.loop [0,3] FB)) (.kp []))) (.e [qk 2 0]))⟩
def Gh:aD:=⟨[.t 4],.g [qb 2 8 0,qf 4] (.e [qo 5 0 2,ql 6 1 5,qm 7 1,aO 8 2 6 7,qm 9 8,Rt 10 9 (.off 1 (.t 2)),Rt 11 9 (.ld 1 false (.t 10)),Rt 12 9 (.off 2 (.t 2)),Rt 13 9 (.ld 1 false (.t 12)),Rt 14 9 (.off 3 (.t 2)),Rt 15 9 (.ld 1 false (.t 14)),Rt 16 9 (.off 4 (.t 2)),Rt 17 9 (.off 0 (.t 16)),Rt 18 9 (.ld 1 false (.t 17)),Rt 19 9 (.off 4 (.t 2)),Rt 20 9 (.off 1 (.t 19)),Rt 21 9 (.ld 1 false (.t 20)),Rt 22 9 (.off 6 (.t 2)),Rt 23 9 (.off 0 (.t 22)),Rt 24 9 (.ld 1 false (.t 23)),Rt 25 9 (.off 6 (.t 2)),Rt 26 9 (.off 1 (.t 25)),Rt 27 9 (.ld 1 false (.t 26)),Rt 28 9 (.bI 7 1 [.str [],.str [],.str [],.str [],.str [],.str [],.str []] [(0,1,.t 11),(1,1,.t 13),(2,1,.t 15),(3,1,.t 18),(4,1,.t 21),(5,1,.t 24),(6,1,.t 27)]),Rt 29 9 (.q 305 [.t 28]),qq 30 9 29,qm 4 30])⟩
def FC:VC:=.q (.g [qm 8 3,qm 9 0,qn 10 1 9,qT 11 8 10] (.cond (.t 11) .skip (.exit 0))) (.q (.aE 1 (.g [qm 14 0,qm 15 3,qi 16 8 14 15,qL 17 8 16,ax 18 335 17,qm 4 18] (.g [qm 19 4,qN 20 19 0] (.i 20 (.e [qm 21 4,qm 2 21]))))) (.aM [qm 12 3,qa 13 12 1,qm 3 13]))
def Gi:aD:=⟨[.t 2],.g [qk 2 0] (.h [qm 5 0,qn 6 1 5,Rq 7 (.y .gtr 6 4)] 7 (.e [qk 2 5]) (.q (.g [qk 3 0] (.q (.aE 0 (.loop [0,3] FC)) (.kp []))) (.e [qk 2 0])))⟩
def FD:VC:=.q (.g [qm 11 3,qm 12 0,qn 13 1 12,qT 14 11 13] (.cond (.t 14) .skip (.exit 0))) (.q (.aE 1 (.g [qm 17 0,qm 18 3,qi 19 3 17 18,qL 20 3 19,ax 21 306 20,qm 4 21] (.g [qm 22 4,qN 23 22 0] (.i 23 (.e [qm 24 4,qm 2 24]))))) (.aM [qm 15 3,qa 16 15 1,qm 3 16]))
def DP:aD:=⟨[.t 2],.g [qk 2 0] (.h [qm 5 0,qn 6 1 5,qE 7 6 0] 7 (.e [qk 2 12]) (.h [qm 8 0,qn 9 1 8,Rq 10 (.y .gtr 9 6)] 10 (.e [qk 2 5]) (.q (.g [qk 3 0] (.q (.aE 0 (.loop [0,3] FD)) (.kp []))) (.e [qk 2 0]))))⟩
def FE:VC:=.q (.g [qm 8 3,qm 9 0,qn 10 1 9,qT 11 8 10] (.cond (.t 11) .skip (.exit 0))) (.q (.aE 1 (.g [qm 14 0,qm 15 3,qi 16 2 14 15,qL 17 2 16,ax 18 308 17,qm 4 18] (.g [qm 19 4,qN 20 19 0] (.i 20 (.e [qm 21 4,qm 2 21]))))) (.aM [qm 12 3,qa 13 12 1,qm 3 13]))
def Gj:aD:=⟨[.t 2],.g [qk 2 0] (.h [qm 5 0,qn 6 1 5,Rq 7 (.y .gtr 6 256)] 7 (.e [qk 2 5]) (.q (.g [qk 3 0] (.q (.aE 0 (.loop [0,3] FE)) (.kp []))) (.e [qk 2 0])))⟩
def Jx:VC:=.q (.g [qm 5 4,qm 6 0,qn 7 1 6,qT 8 5 7] (.cond (.t 8) .skip (.exit 0))) (.q (.aE 1 (.aM [qm 11 3,qm 12 0,qm 13 4,qi 14 8 12 13,qo 15 0 14,ql 16 1 15,qn 17 1 16,qm 18 0,qm 19 4,qi 20 8 18 19,qo 21 0 20,ql 22 1 21,qn 23 1 22,Rq 24 (.z .mul 17 23),qA 25 11 24,qm 3 25])) (.aM [qm 9 4,qa 10 9 1,qm 4 10]))
def BJ:aD:=⟨[.t 2],.g [qk 2 0] (.g [qk 3 0] (.q (.g [qk 4 0] (.q (.aE 0 (.loop [0,3,4] Jx)) (.kp [3]))) (.e [qm 26 3,qm 2 26])))⟩
def FF:VC:=.q (.g [qm 5 4,qm 6 0,qT 7 5 6] (.cond (.t 7) .skip (.exit 0))) (.q (.aE 1 (.aM [qm 10 3,Rq 11 (.bI 1 1 [.str []] [(0,1,.s [48])]),Rq 12 (.cX 1 16 (.t 10) (.t 11)),qm 3 12])) (.aM [qm 8 4,qa 9 8 1,qm 4 9]))
def DQ:aD:=⟨[.t 2],.g [qz 2] (.g [qz 3] (.q (.g [qk 4 0] (.q (.aE 0 (.loop [0,3,4] FF)) (.kp [3]))) (.e [qm 13 3,qm 2 13])))⟩
def Pj:aD:=⟨[.cell 8 2 true],.g [qb 4 8 0,qb 5 3 1,qb 6 2 2,Rq 8 (.box 2 (.c (.agg [.str [],.str []])))] (.e [qo 9 2 4,ql 10 1 9,qL 11 3 5,qo 12 1 4,ql 13 1 12,qL 14 2 6,mc 15 311 11 13 14,aO 16 317 10 15,qo 17 4 4,qL 18 2 17,Rq 19 (.q 318 [.t 16,.s [49],.t 18]),qm 20 3,ax 21 265 20,qo 22 6 4,qL 23 2 22,mc 24 318 19 21 23,qs 2 8 24])⟩
def UU:aD:=⟨[.cell 4 12 true],.g [qb 3 2 1,Rq 4 (.box 12 (.c (.agg [.i 0,.i 0,.str [],.i 0,.i 0,.str [],.i 0,.i 0,.str [],.i 0,.i 0,.str []])))] (.g [qo 15 0 3,ql 16 1 15,ax 17 336 16,qo 18 1 3,ql 19 1 18,ax 20 336 19,qm 5 17,qm 6 20] (.g [qo 21 0 3,ql 22 1 21,qm 23 5,aO 24 271 22 23,qo 25 1 3,ql 26 1 25,qm 27 6,aO 28 271 26 27,qm 7 24,qm 8 28] (.g [qm 29 5,qm 30 0,aO 31 337 29 30,qm 32 6,qm 33 0,aO 34 337 32 33,qm 9 31,qm 10 34] (.g [qm 35 9,qa 36 35 1,qm 37 0,Rq 38 (.z .rem 36 37),qm 39 10,qa 40 39 1,qm 41 0,Rq 42 (.z .rem 40 41),qm 11 38,qm 12 42] (.g [qm 43 7,Rq 44 (.q 271 [.s [49],.t 43]),qm 45 8,Rq 46 (.q 271 [.s [49],.t 45]),qm 13 44,qm 14 46] (.e [qm 47 9,qm 48 10,qm 49 13,qm 50 14,aO 51 267 49 50,Rq 52 (.df [.i 0,.i 0,.str []] [(0,1,.t 47),(1,1,.t 48),(2,1,.t 51)]),qm 53 11,qm 54 10,qm 55 7,qm 56 14,aO 57 267 55 56,Rq 58 (.df [.i 0,.i 0,.str []] [(0,1,.t 53),(1,1,.t 54),(2,1,.t
 57)]),qm 59 9,qm 60 12,qm 61 13,qm 62 8,aO 63 267 61 62,Rq 64 (.df [.i 0,.i 0,.str []] [(0,1,.t 59),(1,1,.t 60),(2,1,.t 63)]),qm 65 11,qm 66 12,qm 67 7,qm 68 8,aO 69 267 67 68,Rq 70 (.df [.i 0,.i 0,.str []] [(0,1,.t 65),(1,1,.t 66),(2,1,.t 69)]),Rq 71 (.df [.i 0,.i 0,.str [],.i 0,.i 0,.str [],.i 0,.i 0,.str [],.i 0,.i 0,.str []] [(0,3,.t 52),(3,3,.t 58),(6,3,.t 64),(9,3,.t 70)]),qs 12 4 71]))))))⟩
def Gk:aD:=⟨[.t 2],.g [qb 1 8 0,qk 2 0] (.e [qo 3 0 1,ql 4 1 3,ax 5 3 4,qo 6 1 1,ql 7 1 6,ax 8 307 7,qo 9 2 1,ql 10 1 9,Rq 11 (.q 314 [.t 10,.k 1]),qo 12 3 1,ql 13 1 12,ax 14 263 13,qo 15 4 1,qL 16 2 15,ax 17 308 16,qo 18 6 1,qL 19 2 18,ax 20 308 19,Rq 21 (.bI 6 1 [.i 0,.i 0,.i 0,.i 0,.i 0,.i 0] [(0,1,.t 5),(1,1,.t 8),(2,1,.t 11),(3,1,.t 14),(4,1,.t 17),(5,1,.t 20)]),ax 22 42 21,qm 2 22])⟩
def Gl:aD:=⟨[.t 2],.g [Rq 2 (.bV (.s []))] (.h [qm 5 0,ax 6 338 5] 6 (.e [qm 7 0,qm 2 7]) (.g [qm 9 0,ax 10 274 9,qm 8 10,qe 11 0 8,qe 12 1 8,Rq 3 (.box 2 (.c (.agg [.bool false,.ab]))),Rq 4 (.box 2 (.c (.agg [.bool false,.ab]))),qs 2 3 11,qs 2 4 12] (.e [qL 13 2 3,qL 14 2 4,aO 15 339 13 14,ax 16 282 15,qm 2 16])))⟩
def Pk:aD:=⟨[.t 4],.g [qk 4 0] (.g [qm 8 1,ax 9 265 8,qm 5 9] (.g [qm 11 0,qm 12 5,qm 13 0,qm 14 5,aO 15 266 13 14,ax 16 336 15,aO 17 267 12 16,aO 18 271 11 17,ax 19 340 18,qm 10 19,qe 20 0 10,qe 21 1 10,qm 6 20,qm 7 21] (.e [qm 22 6,qm 4 22])))⟩
def BK:aD:=⟨[.t 2],.g [qf 2] (.e [qm 3 0,ax 4 272 3,qm 5 0,qn 6 0 5,Rq 7 (.z .eql 4 6),qm 2 7])⟩
def BL:aD:=⟨[.cell 4 2 true],.g [qb 2 2 0,qb 3 2 1,Rq 4 (.box 2 (.c (.agg [.bool false,.ab])))] (.g [qo 8 1 2,ql 9 1 8,qo 10 1 3,ql 11 1 10,aO 12 289 9 11,qm 7 12,qe 13 0 7,qe 14 1 7,qm 5 13,qm 6 14] (.h [qo 15 0 2,ql 16 1 15,qm 17 16,Rt 18 17 (.m 6),Rt 19 17 (.len 1 (.t 18)),Rt 20 17 (.y .gtr 19 0),qq 21 17 20] 21 (.aM [qm 22 5,Rq 23 (.bI 1 1 [.i 0] [(0,1,.k 1)]),aO 24 295 22 23,qm 5 24]) (.e [qo 25 0 2,ql 26 1 25,qm 27 5,aO 28 294 26 27,qs 2 4 28])))⟩
def Tl:VC:=.q (.g [qm 22 6,Rq 23 (.y .geq 22 0)] (.cond (.t 23) .skip (.exit 0))) (.q (.aE 1 (.g [qo 26 1 4,ql 27 1 26,qm 28 6,qi 29 1 27 28,ql 30 1 29,qm 7 30] (.h [qo 31 0 4,ql 32 1 31] 32 (.aM [qm 33 7,Rq 34 (.bin .sub (.k 0) (.t 33)),qm 7 34]) (.h [qm 35 5,Rq 36 (.y .gtr 35 9223372036),qm 37 36,Rf 38 37 (.m 5),Rf 39 37 (.y .lss 38 (-9223372036)),qp 40 37 39,qm 41 40,Rf 42 41 (.m 5),Rf 43 41 (.y .eql 42 9223372036),Rf 44 41 (.m 43),Rt 45 44 (.m 7),Rt 46 44 (.y .gtr 45 854775807),Rf 47 41 (.pick (.t 44) (.t 46) (.c (.bool false))),qp 48 41 47,qm 49 48,Rf 50 49 (.m 5),Rf 51 49 (.y .eql 50 (-9223372036)),Rf 52 49 (.m 51),Rt 53 52 (.m 7),Rt 54 52 (.y .lss 53 (-854775808)),Rf 55 49 (.pick (.t 52) (.t 54) (.c (.bool false))),qp 56 49 55] 56 (.e [qk 2 0,qf 3]) (.aM [qm 57 5,Rq 58 (.y .mul 57 1000000000),qm 59 7,qA 60 58 59,qm 5 60]))))) (.aM [qm 24 6,Rq 25 (.y .sub 24 1),qm 6 25]))
def Gm:aD:=⟨[.t 2,.t 3],.g [qk 2 0,qf 3] (.h [qm 8 0,ax 9 338 8,Rq 10 (.un .not (.t 9)),qm 11 10,Rf 12 11 (.m 0),Rf 13 11 (.len 0 (.t 12)),Rf 14 11 (.y .gtr 13 20),qp 15 11 14] 15 (.e [qk 2 0,qf 3]) (.g [qm 16 0,ax 17 288 16,Rq 4 (.box 2 (.c (.agg [.bool false,.ab]))),qs 2 4 17] (.g [qk 5 0] (.q (.g [qo 18 1 4,ql 19 1 18,qn 20 1 19,Rq 21 (.y .sub 20 1),qm 6 21] (.q (.aE 0 (.loop [4,5,6] Tl)) (.kp [5]))) (.e [qm 61 5,qm 2 61,Rq 3 (.bV (.c (.bool true)))])))))⟩
end
section
inductive Tr (α:Type) where
 | l
 | n (k:Nat) (v:α) (a b:Tr α)
def Tr.find {α:Type}:Tr α->Nat->Option α
 | .l,_=>none
 | .n k v a b,i=>bif yv i k then some v else bif yM i k then a.find i else b.find i
end
section
open Go (IntKind FloatKind)
def Oe:yY->Nat
 | .i8=>0 | .i16=>1 | .i32=>2 | .i64=>3 | .u8=>4 | .u16=>5 | .u32=>6 | .u64=>7
def WQ:Int->Int->Bool
 | .ofNat a,.ofNat b=>yv a b
 | .negSucc a,.negSucc b=>yv a b
 | _,_=>false
def Qi:Bool->Bool->Bool
 | true,true | false,false=>true
 | _,_=>false
def eqF:vK->vK->Bool
 | .f32,.f32 | .f64,.f64=>true
 | _,_=>false
mutual
def gX:AV->AV->Bool
 | .int k a,.int k' b=>yv (Oe k) (Oe k')&&WQ a b
 | .bool a,.bool b=>Qi a b
 | .du k a,.du k' b=>eqF k k'&&yv a b
 | .str a,.str b=>cI a b
 | .lk,.lk=>true
 | .aQ a,.aQ b=>mM a b
 | .ab,.ab=>true
 | .aJ e n a,.aJ e' n' b=>Qi e e'&&(yv n n'&&mM a b)
 | .bW e s n a,.bW e' s' n' b=>Qi e e'&&(yv s s'&&(yv n n'&&mM a b))
 | .fn (.f g) a b,.fn (.f g') a' b'=>yv g g'&&(mM a a'&&mM b b')
 | .iS,.iS=>true
 | .kH,.kH=>true
 | .jN a b,.jN a' b'=>mM a a'&&mM b b'
 | .agg a,.agg b=>mM a b
 | .au a,.au b=>mM a b
 | .undef,.undef=>true
 | _,_=>false
def mM:List AV->List AV->Bool
 | [],[]=>true
 | a::x,b::y=>gX a b&&mM x y
 | _,_=>false
end
def hI:Int->Nat
 | .ofNat n=>n
 | .negSucc n=>n+n
def hS:List Nat->Nat
 | []=>1
 | b::r=>(b+257*hS r)%65521
mutual
def hV:AV->Nat
 | .int _ n=>hI n
 | .bool b=>bif b then 1 else 2
 | .du _ n=>n
 | .str s=>hS s
 | .aJ _ n cs=>n+hL cs
 | .agg cs=>hL cs
 | .au cs=>hL cs
 | _=>5
def hL:List AV->Nat
 | []=>7
 | v::r=>(hV v+263*hL r)%65521
end
abbrev Te:=Tr (List AV×AV)
abbrev aF:=List Te
def Df (h:Nat) (aq:List AV):aF->Option AV
 | []=>none
 | t::l=>match t.find h with
  | some (a,r)=>bif mM a aq then some r else Df h aq l
  | none=>Df h aq l
def adS (aq:List AV) (l:aF):Option AV:=Df (hL aq) aq l
abbrev Te.o (h:Nat) (a:List AV) (r:AV):Te:= .n h (a,r) .l .l
abbrev Te.m (h:Nat) (a:List AV) (r:AV) (x y:Te):Te:= .n h (a,r) x y
def Dg (n:Nat):List (Tr aF)->Option aF
 | []=>none
 | t::r=>match t.find n with
  | none=>Dg n r
  | some l=>match Dg n r with | none=>some l | some m=>some (l++m)
def Pm (L:Lib) (T:List (Tr aF)) (ex:Nat):Lib:=
 ⟨fun i=>match L.pure i with
  | some sp=>some sp
  | none=>bif yv i ex then none else match Dg i T with | some l=>some (fun aq=>adS aq l) | none=>none,L.heap⟩
def Kx (P:aG) (L:Lib) (f:Nat):Te->Bool
 | .l=>true
 | .n _ e x y=>(match V7 P L 100000 f e.1 with | some r'=>gX r' e.2 | none=>false)&&(Kx P L f x&&Kx P L f y)
def Of (P:aG) (L:Lib) (f:Nat):aF->Bool
 | []=>true
 | t::l=>Kx P L f t&&Of P L f l
def jd (P:aG) (L:Lib) (T:List (Tr aF)):List (Nat×aF)->Bool
 | []=>true
 | (f,l)::C=>Of P (Pm L T f) f l&&jd P L T C
end
section
open Go
def akv {a b:yY} (h:yv (Oe a) (Oe b)=true):a=b:=by
 cases a<;>cases b<;>first | rfl | (exact absurd h (by decide))
def amu {a b:Int} (h:WQ a b=true):a=b:=by
 cases a<;>cases b<;>simp only [WQ,reduceCtorEq] at h<;>rw [yo h]
def Sw {a b:Bool} (h:Qi a b=true):a=b:=by
 cases a<;>cases b<;>first | rfl | (exact absurd h (by decide))
def amv {a b:vK} (h:eqF a b=true):a=b:=by
 cases a<;>cases b<;>first | rfl | (exact absurd h (by decide))
mutual
def aas:∀(a b:AV),gX a b=true->a=b
 | .int k a,b,h=>by
  cases b<;>simp only [gX,ye,yF] at h
  rw [akv h.1,amu h.2]
 | .bool a,b,h=>by
  cases b<;>simp only [gX,yF] at h
  rw [Sw h]
 | .du k a,b,h=>by
  cases b<;>simp only [gX,ye,yF] at h
  rw [amv h.1,yo h.2]
 | .str a,b,h=>by
  cases b<;>simp only [gX,yF] at h
  rw [So h]
 | .lk,b,h=>by cases b<;>simp only [gX,yF] at h;rfl
 | .ptr _ _,b,h=>by cases b<;>simp only [gX,yF] at h
 | .aQ a,b,h=>by
  cases b<;>simp only [gX,yF] at h
  rw [qG _ _ h]
 | .ab,b,h=>by cases b<;>simp only [gX,yF] at h;rfl
 | .aJ e n a,b,h=>by
  cases b<;>simp only [gX,ye,yF] at h
  rw [Sw h.1,yo h.2.1,qG _ _ h.2.2]
 | .bW e s n a,b,h=>by
  cases b<;>simp only [gX,ye,yF] at h
  rw [Sw h.1,yo h.2.1,yo h.2.2.1,qG _ _ h.2.2.2]
 | .aC _ _ _,b,h=>by cases b<;>simp only [gX,yF] at h
 | .fn (.f g) x y,b,h=>by
  cases b<;>try (simp only [gX,yF] at h;done)
  rename_i fr _ _;cases fr<;>simp only [gX,ye,yF] at h
  rw [yo h.1,qG _ _ h.2.1,qG _ _ h.2.2]
 | .fn (.y _) _ _,b,h=>by cases b<;>simp only [gX,yF] at h
 | .iS,b,h=>by cases b<;>simp only [gX,yF] at h;rfl
 | .kH,b,h=>by cases b<;>simp only [gX,yF] at h;rfl
 | .map _,b,h=>by cases b<;>simp only [gX,yF] at h
 | .jN x y,b,h=>by
  cases b<;>simp only [gX,ye,yF] at h
  rw [qG _ _ h.1,qG _ _ h.2]
 | .it _,b,h=>by cases b<;>simp only [gX,yF] at h
 | .agg a,b,h=>by
  cases b<;>simp only [gX,yF] at h
  rw [qG _ _ h]
 | .au a,b,h=>by
  cases b<;>simp only [gX,yF] at h
  rw [qG _ _ h]
 | .undef,b,h=>by cases b<;>simp only [gX,yF] at h;rfl
def qG:∀(a b:List AV),mM a b=true->a=b
 | [],b,h=>by cases b<;>simp only [mM,yF] at h;rfl
 | x::a,b,h=>by
  cases b<;>simp only [mM,ye,yF] at h
  rw [aas _ _ h.1,qG _ _ h.2]
end
def Tr.Has {α:Type} (x:α):Tr α->Prop
 | .l=>False
 | .n _ v a b=>v=x\/a.Has x\/b.Has x
def Tr.Sx {α:Type} {h:Nat} {x:α}:∀{t:Tr α},t.find h=some x->t.Has x
 | .l,hf=>by simp [Tr.find] at hf
 | .n k v a b,hf=>by
  simp only [Tr.find] at hf
  cases h1:yv h k with
  | true=>rw [h1] at hf;simp only [yz,yc] at hf;exact .inl hf
  | false=>
   rw [h1] at hf
   cases h2:yM h k with
   | true=>rw [h2] at hf;exact .inr (.inl (Tr.Sx hf))
   | false=>rw [h2] at hf;exact .inr (.inr (Tr.Sx hf))
def Qj (aq:List AV) (r:AV) (l:aF):Prop:=∃t,t∈l/\t.Has (aq,r)
def YX {h:Nat} {aq:List AV} {r:AV}:∀{l:aF},Df h aq l=some r->Qj aq r l
 | [],hf=>by simp [Df] at hf
 | t::l,hf=>by
  have tail:Df h aq l=some r->Qj aq r (t::l):=fun q=>by
   obtain ⟨t',h1,h2⟩:=YX q;exact ⟨t',xS _ h1,h2⟩
  simp only [Df] at hf
  split at hf
  ·rename_i a q he
   cases hb:mM a aq with
   | true=>
    rw [hb] at hf;simp only [yz,yc] at hf;rw [qG _ _ hb,hf] at he;exact ⟨t,wA,Tr.Sx he⟩
   | false=>
    grind
  ·grind
def akw {aq:List AV} {r:AV} {l:aF} (h:adS aq l=some r):Qj aq r l:=YX h
def lB (O:bt) (f:Nat) (l:aF):Prop:=∀aq r,Qj aq r l->eS O f aq r
def lB.nil {O:bt} {f:Nat}:lB O f []:=fun _ _ h=>by obtain ⟨t,h,_⟩:=h;cases h
def lB.cX {O:bt} {f:Nat} {a b:aF} (ha:lB O f a) (hb:lB O f b):lB O f (a++b):=fun v r h=>by
 obtain ⟨t,h,h2⟩:=h;exact (List.mem_append.1 h).elim (fun h=>ha v r ⟨t,h,h2⟩) (fun h=>hb v r ⟨t,h,h2⟩)
def lB.one {O:bt} {f k:Nat} {aq:List AV} {r:AV} (h:eS O f aq r):lB O f [.n k (aq,r) .l .l]:=fun v q hm=>by
 obtain ⟨t,h1,h2⟩:=hm;rcases wq.1 h1 with e | e
 ·subst e;rcases h2 with h2 | h2 | h2
  ·grind
  ·exact h2.elim
  ·exact h2.elim
 ·cases e
def Tr.me {α:Type} (p:Nat->α->Prop):Tr α->Prop
 | .l=>True
 | .n k v a b=>p k v/\a.me p/\b.me p
def Tr.jK {α:Type} {p:Nat->α->Prop}:Tr.me p .l:=trivial
def Tr.lf {α:Type} {p:Nat->α->Prop} {k:Nat} {v:α} {a b:Tr α} (h:p k v) (ha:a.me p) (hb:b.me p):Tr.me p (.n k v a b):=⟨h,ha,hb⟩
def Tr.CO {α:Type} {p:Nat->α->Prop} {i:Nat} {v:α}:∀{t:Tr α},t.me p->t.find i=some v->p i v
 | .l,_,h=>by simp [Tr.find] at h
 | .n k w a b,ha,h=>by
  simp only [Tr.find] at h
  cases hb:yv i k with
  | true=>
   rw [hb] at h;simp only [yz,yc] at h;subst h;rw [yo hb];exact ha.1
  | false=>
   rw [hb] at h
   cases hc:yM i k with
   | true=>rw [hc] at h;exact Tr.CO ha.2.1 h
   | false=>rw [hc] at h;exact Tr.CO ha.2.2 h
abbrev bt.zJ (O:bt) (L:Lib):bt:={O with aW:=L}
def aat {O:bt} {L:Lib} {m:Mp} {S:Nat->Prop} {w:World} {id:Nat} {o:Obj}:fH (O.zJ L) m S w id o↔fH O m S w id o:=by
 cases o<;>exact Iff.rfl
def aau {O:bt} {L:Lib} {m:Mp} {S:Nat->Prop} {w:World} {hp:Hp} {ct:Nat}:aX (O.zJ L) m S w hp ct↔aX O m S w hp ct:=
 ⟨fun h=>⟨fun id o p h1 h2=>aat.1 (h.obj id o p h1 h2),h.lt,h.inj,h.slt,h.blt,h.low,h.iH,h.fY,h.a7⟩,
  fun h=>⟨fun id o p h1 h2=>aat.2 (h.obj id o p h1 h2),h.lt,h.inj,h.slt,h.blt,h.low,h.iH,h.fY,h.a7⟩⟩
def ZI {O:bt} {L:Lib} {n:Nat} {hp:Hp} {ct:Nat} {aq:List AV} {v:AV} {ap:Hp} {bc:Nat} (h:Bq O n hp ct aq v ap bc):Bq (O.zJ L) n hp ct aq v ap bc:=by
 intro m S w args h1 h2;have post:∀e w',zB O m S w hp ct v ap bc e w'->zB (O.zJ L) m S w hp ct v ap bc e w':=by
  rintro e w' ⟨u,m',S',k1,k2,k3,k4,k5⟩;exact ⟨u,m',S',k1,aau.2 k2,k3,k4,k5⟩
 exact A9.mono (h m S w args (aau.1 h1) h2) post
def eP (O:bt) (T:List (Tr aF)):Prop:=∀t,t∈T->t.me (lB O)
def eP.nil {O:bt}:eP O []:=fun _ h=>by cases h
def eP.cons {O:bt} {t:Tr aF} {T:List (Tr aF)} (h:t.me (lB O)) (hT:eP O T):eP O (t::T):=fun u hu=>by
 rcases wq.1 hu with e | e
 ·grind
 ·exact hT u e
def R3 {O:bt} {n:Nat}:∀{T:List (Tr aF)} {l:aF},eP O T->Dg n T=some l->lB O n l
 | [],_,_,h=>by simp [Dg] at h
 | t::T,l,hT,h=>by
  have hT':eP O T:=fun u hu=>hT u (xS _ hu)
  simp only [Dg] at h
  split at h
  ·exact R3 hT' h
  ·rename_i l1 h1;have c1:=Tr.CO (hT t wA) h1
   split at h
   ·grind
   ·rename_i m h2;simp only [yc] at h;subst h;exact lB.cX c1 (R3 hT' h2)
def abo {O:bt} (hO:eM O) {T:List (Tr aF)} (hT:eP O T) (ex:Nat):eM (O.zJ (Pm O.aW T ex)) where
 hint:=hO.hint
 mixed:=hO.mixed
 prog:=hO.prog
 aW n sp aq r h hs:=by
  simp only [Pm] at h
  cases hl:O.aW.pure n with
  | some Qk=>
   simp only [hl,yc] at h;subst h;exact hO.aW n _ aq r hl hs
  | none=>
   simp only [hl] at h
   cases hb:yv n ex with
   | true=>rw [hb] at h;cases h
   | false=>
    rw [hb] at h;simp only [yO] at h
    cases hf:Dg n T with
    | none=>simp [hf] at h
    | some l=>
     simp only [hf,yc] at h;subst h;exact R3 hT hf aq r (akw hs)
 F1 n sp hp ct aq v ap bc h hs:=ZI (hO.F1 n sp hp ct aq v ap bc h hs)
def R4 {O:bt} {L:Lib} (hO:eM (O.zJ L)) {f:Nat} {aq:List AV} {r:AV}:∀{t:Te},Kx O.prog L f t=true->t.Has (aq,r)->eS O f aq r
 | .l,_,h=>h.elim
 | .n k e x y,h,hm=>by
  simp only [Kx,ye] at h;rcases hm with e1 | hm | hm
  ·subst e1;have h1:=h.1
   split at h1
   ·rename_i r' hr;have e:r'=r:=aas _ _ h1;rw [<-e];exact sound hO hr
   ·cases h1
  ·exact R4 hO h.2.1 hm
  ·exact R4 hO h.2.2 hm
def YY {O:bt} {L:Lib} (hO:eM (O.zJ L)) {f:Nat}:∀{l:aF},Of O.prog L f l=true->lB O f l
 | [],_=>lB.nil
 | t::l,h=>by
  simp only [Of,ye] at h;intro v q hm;obtain ⟨t',h1,h2⟩:=hm;rcases wq.1 h1 with e | e
  ·subst e;exact R4 hO h.1 h2
  ·exact YY hO h.2 v q ⟨t',e,h2⟩
def chunk_ok {O:bt} (hO:eM O) {T:List (Tr aF)} (hT:eP O T):∀{C:List (Nat×aF)},jd O.prog O.aW T C=true->∀f l,(f,l)∈C->lB O f l
 | [],_,f,l,h=>by cases h
 | (g,l')::C,h,f,l,hm=>by
  simp only [jd,ye] at h;rcases wq.1 hm with e | hm
  ·injection e with e1 e2
   subst e1;subst e2;exact YY (abo hO hT f) h.1
  ·exact chunk_ok hO hT h.2 f l hm
def kO {O:bt} {P:aG} {L:Lib} (hO:eM O) (hp:O.prog=P) (hl:O.aW=L) {T:List (Tr aF)} (hT:eP O T) {C:List (Nat×aF)} (h:jd P L T C=true) (i:Nat) {f:Nat} {l:aF} (hi:C[i]? =some (f,l)):lB O f l:=by
 subst hp;subst hl;exact chunk_ok hO hT h f l (List.mem_of_getElem? hi)
def aN {α:Type} {p:Nat->α->Prop} {k:Nat} {v:α} {a b:Tr α} (h:p k v) (ha:a.me p) (hb:b.me p):Tr.me p (.n k v a b):=Tr.lf h ha hb
def aL {α:Type} {p:Nat->α->Prop}:Tr.me p .l:=Tr.jK
end
section
open Go
structure HD where
 n:Nat
 live:List (Nat×List Nat)
 out:List (Nat×List Nat)
 mode:List (Nat×Md)
 fz:List (Nat×List Nat)
 deriving Inhabited
def JR {α:Type} (i:Nat):List (Nat×α)->Option α
 | []=>none
 | (j,a)::l=>bif yv j i then some a else JR i l
def aqN (bZ:Nat->Option Nat) (d:HD):Hint where
 n:=d.n
 bZ:=bZ
 live:=fun l=>match JR l d.live with | some x=>x | none=>[]
 out:=fun l=>JR l d.out
 mode:=fun k=>match JR k d.mode with | some x=>x | none=> .pure
 fz:=fun i=>match JR i d.fz with | some x=>x | none=>[]
def Og (bZ:Tr Nat) (t:Tr HD) (i:Nat):Hint:=aqN bZ.find (match t.find i with | some d=>d | none=>⟨0,[],[],[],[]⟩)
def Ae (t:Tr Nat) (i:Nat):Nat:=match t.find i with | some f=>f | none=>0
def JS (ai:Tr Nat):Tr Nat->Bool
 | .l=>true
 | .n f g a b=>yv (Ae ai g) f&&(JS ai a&&JS ai b)
def RF {ai:Tr Nat}:∀{t:Tr Nat},JS ai t=true->t.me (fun f g=>Ae ai g=f)
 | .l,_=>trivial
 | .n f g a b,h=>by
  simp only [JS,ye] at h;exact ⟨yo h.1,RF h.2.1,RF h.2.2⟩
def Tm (P:xi) (ai:Tr Nat) (bZ:Tr Nat) (hd:Tr HD) (i:Nat) (F:aD):Prop:=
 ∃fn,P.funcs[Ae ai i]? =some fn/\Fk P (Og bZ hd i) fn=some F/\fn.name≠ "runtime.NumGoroutine"
def akx {P:xi} {ai bZ:Tr Nat} {hd:Tr HD} {i:Nat} {F:aD} (h:(P.funcs[Ae ai i]?).bind (Fk P (Og bZ hd i))=some F) (h2:(P.funcs[Ae ai i]?).map (fun fn=>decide (fn.name= "runtime.NumGoroutine"))=some false):Tm P ai bZ hd i F:=by
 unfold Tm
 cases hq:P.funcs[Ae ai i]? with
 | none=>rw [hq] at h;cases h
 | some fn=>
  rw [hq] at h h2;refine ⟨fn,rfl,h,fun e=>?_⟩;simp only [Option.map_some,yc,e,ym] at h2;cases h2
end
section
namespace zg
open Go
open Go.Proofs
def ai:Tr Nat:=(.n 129 168 (.n 68 92 (.n 36 78 (.n 21 24 (.n 13 45 (.n 4 59 (.n 2 111 (.n 1 5 .l .l) (.n 3 172 .l .l)) (.n 9 23 (.n 5 22 .l .l) (.n 11 46 .l .l))) (.n 17 18 (.n 15 17 (.n 14 15 .l .l) (.n 16 16 .l .l)) (.n 19 20 (.n 18 19 .l .l) (.n 20 21 .l .l)))) (.n 29 30 (.n 25 28 (.n 23 27 (.n 22 25 .l .l) (.n 24 26 .l .l)) (.n 27 29 (.n 26 9 .l .l) (.n 28 14 .l .l))) (.n 33 32 (.n 31 33 (.n 30 125 .l .l) (.n 32 81 .l .l)) (.n 35 77 (.n 34 76 .l .l) .l)))) (.n 53 69 (.n 45 60 (.n 40 74 (.n 38 79 (.n 37 39 .l .l) (.n 39 80 .l .l)) (.n 42 121 (.n 41 82 .l .l) (.n 44 61 .l .l))) (.n 49 66 (.n 47 63 (.n 46 62 .l .l) (.n 48 64 .l .l)) (.n 51 38 (.n 50 65 .l .l) (.n 52 67 .l .l)))) (.n 61 85 (.n 57 70 (.n 55 71 (.n 54 72 .l .l) (.n 56 73 .l .l)) (.n 59 84 (.n 58 75 .l .l) (.n 60 36 .l .l))) (.n 65 89 (.n 63 87 (.n 62 86 .l .l) (.n 64 88 .l .l)) (.n 67 91 (.n 66 90 .l .l) .l))))) (.n 99 142 (.n 84 100 (.n 76 34 (.n 72 96 (.n 70 93 (.n 69 94 .l .l) (.n 71 95 .l .l)) (.n 74 99 (.n 73 98 .l .l) (.n 75 97 .l .l))) (.n 80 41 (.n 78 37 (.n 77 35 .l .l) (.n 79 40 .l .l)) (.n 82 44 (.n 81 42 .l .l) (.n 83 43 .l .l)))) (.n 92 108 (.n 88 104 (.n 86 102 (.n 85 101 .l .l) (.n 87 103 .l .l)) (.n 90 107 (.n 89 105 .l .l) (.n 91 109 .l .l))) (.n 96 83 (.n 94 150 (.n 93 110 .l .l) (.n 95 149 .l .l)) (.n 98 141 (.n 97 68 .l .l) .l)))) (.n 114 158 (.n 107 116 (.n 103 147 (.n 101 144 (.n 100 145 .l .l) (.n 102 143 .l .l)) (.n 105 120 (.n 104 119 .l .l) (.n 106 148 .l .l))) (.n 111 154 (.n 109 153 (.n 108 152 .l .l) (.n 110 155 .l .l)) (.n 113 157 (.n 112 156 .l .l) .l))) (.n 122 115 (.n 118 160 (.n 116 118 (.n 115 113 .l .l) (.n 117 159 .l .l)) (.n 120 112 (.n 119 161 .l .l) (.n 121 114 .l .l))) (.n 126 165 (.n 124 163 (.n 123 117 .l .l) (.n 125 162 .l .l)) (.n 128 167 (.n 127 164 .l .l) .l)))))) (.n 275 191 (.n 160 170 (.n 145 213 (.n 137 203 (.n 133 151 (.n 131 106 (.n 130 169 .l .l) (.n 132 217 .l .l)) (.n 135 201 (.n 134 146 .l .l) (.n 136 202 .l .l))) (.n 141 207 (.n 139 205 (.n 138 204 .l .l) (.n 140 206 .l .l)) (.n 143 211 (.n 142 212 .l .l) (.n 144 214 .l .l)))) (.n 153 220 (.n 149 215 (.n 147 208 (.n 146 209 .l .l) (.n 148 210 .l .l)) (.n 151 171 (.n 150 216 .l .l) (.n 152 219 .l .l))) (.n 157 224 (.n 155 222 (.n 154 221 .l .l) (.n 156 223 .l .l)) (.n 159 226 (.n 158 225 .l .l) .l)))) (.n 175 263 (.n 168 242 (.n 164 230 (.n 162 228 (.n 161 166 .l .l) (.n 163 229 .l .l)) (.n 166 240 (.n 165 239 .l .l) (.n 167 241 .l .l))) (.n 172 231 (.n 170 248 (.n 169 243 .l .l) (.n 171 249 .l .l)) (.n 174 272 (.n 173 255 .l .l) .l))) (.n 267 57 (.n 263 175 (.n 261 176 (.n 258 50 .l .l) (.n 262 177 .l .l)) (.n 265 133 (.n 264 56 .l .l) (.n 266 183 .l .l))) (.n 272 185 (.n 269 140 (.n 268 181 .l .l) (.n 271 128 .l .l)) (.n 274 136 (.n 273 232 .l .l) .l))))) (.n 307 173 (.n 291 187 (.n 283 233 (.n 279 138 (.n 277 135 (.n 276 134 .l .l) (.n 278 139 .l .l)) (.n 281 184 (.n 280 137 .l .l) (.n 282 179 .l .l))) (.n 287 264 (.n 285 198 (.n 284 199 .l .l) (.n 286 200 .l .l)) (.n 289 192 (.n 288 189 .l .l) (.n 290 186 .l .l)))) (.n 299 234 (.n 295 194 (.n 293 197 (.n 292 188 .l .l) (.n 294 193 .l .l)) (.n 297 196 (.n 296 195 .l .l) (.n 298 190 .l .l))) (.n 304 7 (.n 301 236 (.n 300 235 .l .l) (.n 302 237 .l .l)) (.n 306 123 (.n 305 8 .l .l) .l)))) (.n 326 13 (.n 318 130 (.n 314 174 (.n 309 53 (.n 308 124 .l .l) (.n 311 132 .l .l)) (.n 316 58 (.n 315 126 .l .l) (.n 317 131 .l .l))) (.n 323 10 (.n 321 4 (.n 320 3 .l .l) (.n 322 6 .l .l)) (.n 325 11 (.n 324 12 .l .l) .l))) (.n 334 54 (.n 330 49 (.n 328 47 (.n 327 31 .l .l) (.n 329 48 .l .l)) (.n 332 52 (.n 331 51 .l .l) (.n 333 55 .l .l))) (.n 338 178 (.n 336 127 (.n 335 122 .l .l) (.n 337 129 .l .l)) (.n 340 182 (.n 339 180 .l .l) .l)))))))
def bZ:Tr Nat:=(.n 125 30 (.n 64 48 (.n 33 31 (.n 18 17 (.n 10 323 (.n 6 322 (.n 4 321 (.n 3 320 .l .l) (.n 5 1 .l .l)) (.n 8 305 (.n 7 304 .l .l) (.n 9 26 .l .l))) (.n 14 28 (.n 12 324 (.n 11 325 .l .l) (.n 13 326 .l .l)) (.n 16 16 (.n 15 14 .l .l) (.n 17 15 .l .l)))) (.n 26 24 (.n 22 5 (.n 20 19 (.n 19 18 .l .l) (.n 21 20 .l .l)) (.n 24 21 (.n 23 9 .l .l) (.n 25 22 .l .l))) (.n 30 29 (.n 28 25 (.n 27 23 .l .l) (.n 29 27 .l .l)) (.n 32 33 (.n 31 327 .l .l) .l)))) (.n 49 330 (.n 41 80 (.n 37 78 (.n 35 77 (.n 34 76 .l .l) (.n 36 60 .l .l)) (.n 39 37 (.n 38 51 .l .l) (.n 40 79 .l .l))) (.n 45 13 (.n 43 83 (.n 42 81 .l .l) (.n 44 82 .l .l)) (.n 47 328 (.n 46 11 .l .l) (.n 48 329 .l .l)))) (.n 57 267 (.n 53 309 (.n 51 331 (.n 50 258 .l .l) (.n 52 332 .l .l)) (.n 55 333 (.n 54 334 .l .l) (.n 56 264 .l .l))) (.n 61 44 (.n 59 4 (.n 58 316 .l .l) (.n 60 45 .l .l)) (.n 63 47 (.n 62 46 .l .l) .l))))) (.n 95 71 (.n 80 39 (.n 72 54 (.n 68 97 (.n 66 49 (.n 65 50 .l .l) (.n 67 52 .l .l)) (.n 70 57 (.n 69 53 .l .l) (.n 71 55 .l .l))) (.n 76 34 (.n 74 40 (.n 73 56 .l .l) (.n 75 58 .l .l)) (.n 78 36 (.n 77 35 .l .l) (.n 79 38 .l .l)))) (.n 88 64 (.n 84 59 (.n 82 41 (.n 81 32 .l .l) (.n 83 96 .l .l)) (.n 86 62 (.n 85 61 .l .l) (.n 87 63 .l .l))) (.n 92 68 (.n 90 66 (.n 89 65 .l .l) (.n 91 67 .l .l)) (.n 94 69 (.n 93 70 .l .l) .l)))) (.n 110 93 (.n 103 87 (.n 99 74 (.n 97 75 (.n 96 72 .l .l) (.n 98 73 .l .l)) (.n 101 85 (.n 100 84 .l .l) (.n 102 86 .l .l))) (.n 107 90 (.n 105 89 (.n 104 88 .l .l) (.n 106 131 .l .l)) (.n 109 91 (.n 108 92 .l .l) .l))) (.n 118 116 (.n 114 121 (.n 112 120 (.n 111 2 .l .l) (.n 113 115 .l .l)) (.n 116 107 (.n 115 122 .l .l) (.n 117 123 .l .l))) (.n 122 335 (.n 120 105 (.n 119 104 .l .l) (.n 121 42 .l .l)) (.n 124 308 (.n 123 306 .l .l) .l)))))) (.n 186 290 (.n 156 112 (.n 141 98 (.n 133 265 (.n 129 337 (.n 127 336 (.n 126 315 .l .l) (.n 128 271 .l .l)) (.n 131 317 (.n 130 318 .l .l) (.n 132 311 .l .l))) (.n 137 280 (.n 135 277 (.n 134 276 .l .l) (.n 136 274 .l .l)) (.n 139 278 (.n 138 279 .l .l) (.n 140 269 .l .l)))) (.n 149 95 (.n 145 100 (.n 143 102 (.n 142 99 .l .l) (.n 144 101 .l .l)) (.n 147 103 (.n 146 134 .l .l) (.n 148 106 .l .l))) (.n 153 109 (.n 151 133 (.n 150 94 .l .l) (.n 152 108 .l .l)) (.n 155 110 (.n 154 111 .l .l) .l)))) (.n 171 151 (.n 164 127 (.n 160 118 (.n 158 114 (.n 157 113 .l .l) (.n 159 117 .l .l)) (.n 162 125 (.n 161 119 .l .l) (.n 163 124 .l .l))) (.n 168 129 (.n 166 161 (.n 165 126 .l .l) (.n 167 128 .l .l)) (.n 170 160 (.n 169 130 .l .l) .l))) (.n 179 282 (.n 175 263 (.n 173 307 (.n 172 3 .l .l) (.n 174 314 .l .l)) (.n 177 262 (.n 176 261 .l .l) (.n 178 338 .l .l))) (.n 183 266 (.n 181 268 (.n 180 339 .l .l) (.n 182 340 .l .l)) (.n 185 272 (.n 184 281 .l .l) .l))))) (.n 217 132 (.n 202 136 (.n 194 295 (.n 190 298 (.n 188 292 (.n 187 291 .l .l) (.n 189 288 .l .l)) (.n 192 289 (.n 191 275 .l .l) (.n 193 294 .l .l))) (.n 198 285 (.n 196 297 (.n 195 296 .l .l) (.n 197 293 .l .l)) (.n 200 286 (.n 199 284 .l .l) (.n 201 135 .l .l)))) (.n 210 148 (.n 206 140 (.n 204 138 (.n 203 137 .l .l) (.n 205 139 .l .l)) (.n 208 147 (.n 207 141 .l .l) (.n 209 146 .l .l))) (.n 214 144 (.n 212 142 (.n 211 143 .l .l) (.n 213 145 .l .l)) (.n 216 150 (.n 215 149 .l .l) .l)))) (.n 234 299 (.n 226 159 (.n 222 155 (.n 220 153 (.n 219 152 .l .l) (.n 221 154 .l .l)) (.n 224 157 (.n 223 156 .l .l) (.n 225 158 .l .l))) (.n 231 172 (.n 229 163 (.n 228 162 .l .l) (.n 230 164 .l .l)) (.n 233 283 (.n 232 273 .l .l) .l))) (.n 243 169 (.n 239 165 (.n 236 301 (.n 235 300 .l .l) (.n 237 302 .l .l)) (.n 241 167 (.n 240 166 .l .l) (.n 242 168 .l .l))) (.n 263 175 (.n 249 171 (.n 248 170 .l .l) (.n 255 173 .l .l)) (.n 272 174 (.n 264 287 .l .l) .l)))))))
def hd:Tr HD:=(.n 121 ⟨22,[(0,[1,5,8,9,10])],[(0,[5])],[],[]⟩ (.n 63 ⟨15,[],[],[],[]⟩ (.n 34 ⟨16,[],[],[],[]⟩ (.n 20 ⟨24,[],[],[],[]⟩ (.n 13 ⟨7,[],[],[],[]⟩ (.n 4 ⟨15,[],[],[],[]⟩ (.n 2 ⟨32,[(1,[0,5])],[(1,[])],[],[]⟩ (.n 1 ⟨240,[],[],[],[]⟩ .l .l) (.n 3 ⟨40,[(2,[0,3]),(5,[0,3,4])],[(2,[]),(5,[0,3])],[],[]⟩ .l .l)) (.n 9 ⟨42,[],[],[],[]⟩ (.n 5 ⟨48,[],[],[(9,.heap)],[]⟩ .l .l) (.n 11 ⟨5,[],[],[],[]⟩ .l .l))) (.n 17 ⟨26,[],[],[],[]⟩ (.n 15 ⟨4,[],[],[],[]⟩ (.n 14 ⟨8,[],[],[],[]⟩ .l .l) (.n 16 ⟨15,[],[],[],[]⟩ .l .l)) (.n 19 ⟨26,[],[],[],[]⟩ (.n 18 ⟨25,[],[],[],[]⟩ .l .l) .l))) (.n 27 ⟨100,[(2,[1,5,9,10,46,47]),(4,[1,5,9,10,11,46,47,50,51,52])],[(2,[1,5,9,10]),(4,[1,5,9,10,46,47])],[],[]⟩ (.n 24 ⟨27,[],[],[],[]⟩ (.n 22 ⟨36,[],[],[],[]⟩ (.n 21 ⟨27,[(1,[0,1,5])],[(1,[])],[],[]⟩ .l .l) (.n 23 ⟨5,[],[],[],[]⟩ .l .l)) (.n 26 ⟨101,[(2,[0,2,3,11,12,69,70,71]),(4,[0,2,3,11,12,14,69,70,71,75,76,77])],[(2,[12]),(4,[0,2,3,11,12,69,70,71])],[],[(18,[17])]⟩ (.n 25 ⟨67,[],[],[],[]⟩ .l .l) .l)) (.n 31 ⟨7,[],[],[],[]⟩ (.n 29 ⟨26,[(1,[0,1,5])],[(1,[])],[],[]⟩ (.n 28 ⟨27,[(1,[0,1,5])],[(1,[])],[],[]⟩ .l .l) (.n 30 ⟨15,[],[],[],[]⟩ .l .l)) (.n 33 ⟨15,[(0,[5,6,7])],[(0,[])],[],[]⟩ (.n 32 ⟨32,[(0,[0,3,9,10,11])],[(0,[])],[],[]⟩ .l .l) .l)))) (.n 49 ⟨16,[],[],[],[]⟩ (.n 41 ⟨39,[],[],[],[]⟩ (.n 38 ⟨8,[],[],[],[]⟩ (.n 36 ⟨5,[],[],[],[]⟩ (.n 35 ⟨22,[(0,[1,5,8,9,10])],[(0,[5])],[],[]⟩ .l .l) (.n 37 ⟨21,[(0,[0,2,9,10,11])],[(0,[0])],[],[]⟩ .l .l)) (.n 40 ⟨32,[],[],[(1,.dyn)],[]⟩ (.n 39 ⟨38,[(0,[4,8,9,18,19,20])],[(0,[9])],[],[]⟩ .l .l) .l)) (.n 46 ⟨16,[],[],[],[]⟩ (.n 44 ⟨13,[],[],[],[]⟩ (.n 42 ⟨19,[(0,[0,3])],[(0,[])],[],[]⟩ .l .l) (.n 45 ⟨25,[],[],[],[]⟩ .l .l)) (.n 48 ⟨21,[],[],[],[]⟩ (.n 47 ⟨13,[],[],[],[]⟩ .l .l) .l))) (.n 56 ⟨41,[(0,[1,2,4,5,11,12])],[(0,[4,5])],[],[]⟩ (.n 53 ⟨11,[],[],[],[]⟩ (.n 51 ⟨5,[],[],[],[]⟩ (.n 50 ⟨9,[],[],[],[]⟩ .l .l) (.n 52 ⟨28,[],[],[],[]⟩ .l .l)) (.n 55 ⟨28,[],[],[],[]⟩ (.n 54 ⟨10,[],[],[],[]⟩ .l .l) .l)) (.n 60 ⟨11,[],[],[],[]⟩ (.n 58 ⟨16,[],[],[],[]⟩ (.n 57 ⟨8,[],[],[],[]⟩ .l .l) (.n 59 ⟨26,[(1,[0,1,5])],[(1,[])],[],[]⟩ .l .l)) (.n 62 ⟨22,[],[],[],[]⟩ (.n 61 ⟨17,[],[],[],[]⟩ .l .l) .l))))) (.n 91 ⟨7,[],[],[],[]⟩ (.n 77 ⟨22,[(0,[1,5,8,9,10])],[(0,[5])],[],[]⟩ (.n 70 ⟨9,[],[],[],[]⟩ (.n 67 ⟨25,[],[],[],[]⟩ (.n 65 ⟨9,[],[],[],[]⟩ (.n 64 ⟨29,[],[],[],[]⟩ .l .l) (.n 66 ⟨30,[],[],[],[]⟩ .l .l)) (.n 69 ⟨6,[],[],[],[]⟩ (.n 68 ⟨8,[],[],[],[]⟩ .l .l) .l)) (.n 74 ⟨34,[],[],[],[]⟩ (.n 72 ⟨16,[],[],[],[]⟩ (.n 71 ⟨16,[],[],[],[]⟩ .l .l) (.n 73 ⟨8,[],[],[],[]⟩ .l .l)) (.n 76 ⟨9,[],[],[],[]⟩ (.n 75 ⟨14,[],[],[],[]⟩ .l .l) .l))) (.n 84 ⟨20,[],[],[],[]⟩ (.n 81 ⟨8,[],[],[],[]⟩ (.n 79 ⟨22,[(0,[1,5,8,9,10])],[(0,[5])],[],[]⟩ (.n 78 ⟨9,[],[],[],[]⟩ .l .l) (.n 80 ⟨10,[],[],[],[]⟩ .l .l)) (.n 83 ⟨8,[],[],[],[]⟩ (.n 82 ⟨137,[(0,[3,4,6,7,11,12,32,33,34]),(3,[3,4,6,7,11,12,14,15,16,32,33,34,54,55]),(6,[3,4,6,7,11,12,14,15,32,33,34,89,90]),(9,[11,27,118,119])],[(0,[4,11]),(3,[3,4,6,7,11,12,14,15,32,33,34]),(6,[3,4,6,7,11,12,15,32,33,34]),(9,[27])],[],[]⟩ .l .l) .l)) (.n 88 ⟨23,[(0,[3,9,10,11])],[(0,[3])],[],[]⟩ (.n 86 ⟨76,[],[],[],[]⟩ (.n 85 ⟨22,[(0,[1,5,8,9,10])],[(0,[5])],[],[]⟩ .l .l) (.n 87 ⟨22,[(0,[1,5,8,9,10])],[(0,[5])],[],[]⟩ .l .l)) (.n 90 ⟨143,[(0,[0,1,5,6,19,20]),(2,[5,6,49,50]),(4,[5,6,8,49,50,53,54]),(7,[5,6,8,9,10,11,49,50,53,54]),(9,[5,6,12,119,120])],[(0,[5,6]),(2,[5,6]),(4,[5,6,49,50]),(7,[5,6,8,49,50,53,54]),(9,[12])],[],[]⟩ (.n 89 ⟨46,[(0,[0,1,4,11,12,13]),(2,[0,1,4,5,6,7,11,12,13,18,19,20])],[(0,[4]),(2,[0,1,4,7,11,12,13])],[],[(14,[7])]⟩ .l .l) .l)))) (.n 106 ⟨21,[(0,[2,3,6,9,10,11])],[(0,[3,6])],[],[]⟩ (.n 99 ⟨69,[(1,[3,4,5,6]),(6,[6,10,11])],[(1,[3,6]),(6,[10])],[],[]⟩ (.n 96 ⟨4,[],[],[],[]⟩ (.n 94 ⟨13,[],[],[],[]⟩ (.n 92 ⟨22,[(0,[1,5,8,9,10])],[(0,[5])],[],[]⟩ .l .l) (.n 95 ⟨9,[],[],[],[]⟩ .l .l)) (.n 98 ⟨13,[],[],[],[]⟩ (.n 97 ⟨20,[],[],[],[]⟩ .l .l) .l)) (.n 103 ⟨34,[],[],[],[]⟩ (.n 101 ⟨34,[],[],[],[]⟩ (.n 100 ⟨66,[],[],[],[]⟩ .l .l) (.n 102 ⟨9,[],[],[],[]⟩ .l .l)) (.n 105 ⟨22,[],[],[],[]⟩ (.n 104 ⟨32,[],[],[],[]⟩ .l .l) .l))) (.n 114 ⟨10,[],[],[],[]⟩ (.n 111 ⟨6,[],[],[],[]⟩ (.n 108 ⟨6,[],[],[],[]⟩ (.n 107 ⟨11,[],[],[],[]⟩ .l .l) (.n 110 ⟨41,[(0,[0,2,3,4])],[(0,[2,3,4])],[],[]⟩ .l .l)) (.n 113 ⟨11,[],[],[],[]⟩ (.n 112 ⟨16,[],[],[],[]⟩ .l .l) .l)) (.n 118 ⟨29,[],[],[],[]⟩ (.n 116 ⟨32,[],[],[],[]⟩ (.n 115 ⟨23,[],[],[],[]⟩ .l .l) (.n 117 ⟨5,[],[],[],[]⟩ .l .l)) (.n 120 ⟨22,[(0,[1,5,8,9,10])],[(0,[5])],[],[]⟩ (.n 119 ⟨67,[],[],[],[]⟩ .l .l) .l)))))) (.n 280 ⟨57,[],[],[],[]⟩ (.n 160 ⟨19,[(0,[0,1,7,8])],[(0,[])],[],[]⟩ (.n 142 ⟨10,[],[],[],[]⟩ (.n 130 ⟨23,[(0,[2,3,4])],[(0,[2,4])],[],[]⟩ (.n 125 ⟨15,[(0,[5,6,7])],[(0,[])],[],[]⟩ (.n 123 ⟨23,[(0,[3,9,10,11])],[(0,[3])],[],[]⟩ (.n 122 ⟨9,[],[],[],[]⟩ .l .l) (.n 124 ⟨7,[],[],[],[]⟩ .l .l)) (.n 127 ⟨21,[(0,[1,8,9,10])],[(0,[])],[],[]⟩ (.n 126 ⟨24,[],[],[],[]⟩ .l .l) (.n 129 ⟨19,[],[],[],[]⟩ .l .l))) (.n 134 ⟨12,[],[],[],[]⟩ (.n 132 ⟨19,[(0,[0,1,7,8])],[(0,[])],[],[]⟩ (.n 131 ⟨26,[(0,[0,1,4,5,9,10])],[(0,[4,5])],[],[]⟩ .l .l) (.n 133 ⟨20,[(0,[0,1,5,6]),(2,[0,1,3,5,6,9,10])],[(0,[]),(2,[0,1,5,6])],[(0,.heap)],[]⟩ .l .l)) (.n 137 ⟨137,[(2,[0,1,6,7,8]),(4,[9,10,11,12,13,14]),(6,[9,11,12,13,96,97])],[(2,[6,7]),(4,[9,11,12,13]),(6,[11,12,13])],[(5,.own),(7,.own),(8,.heap)],[]⟩ (.n 136 ⟨24,[],[],[],[]⟩ .l .l) .l))) (.n 150 ⟨9,[],[],[],[]⟩ (.n 147 ⟨26,[],[],[],[]⟩ (.n 145 ⟨50,[],[],[],[]⟩ (.n 144 ⟨80,[(0,[1,5,20,21,22]),(2,[1,5,6,7,8,20,21,22,27,28,29])],[(0,[5]),(2,[1,5,6,8,20,21,22])],[],[]⟩ .l .l) (.n 146 ⟨7,[],[],[],[]⟩ .l .l)) (.n 149 ⟨14,[],[],[],[]⟩ (.n 148 ⟨21,[],[],[],[]⟩ .l .l) .l)) (.n 157 ⟨54,[(1,[0,1,5,6,21,22])],[(1,[0,5,6])],[],[]⟩ (.n 155 ⟨23,[(0,[1,2,4,5])],[(0,[4,5])],[],[]⟩ (.n 151 ⟨13,[],[],[],[]⟩ .l .l) (.n 156 ⟨9,[],[],[],[]⟩ .l .l)) (.n 159 ⟨41,[(0,[0,1,5,6,13,14])],[(0,[5])],[],[]⟩ (.n 158 ⟨41,[(2,[0,1,5])],[(2,[])],[],[]⟩ .l .l) .l)))) (.n 265 ⟨6,[],[],[],[]⟩ (.n 169 ⟨186,[(1,[0,1,5,6,7,8]),(4,[0,1,5,6,11,12,104,105]),(7,[0,1,5,6,17,156,157])],[(1,[0,1,5,6]),(4,[0,1,5,6,11,12]),(7,[0,5,6,17])],[],[]⟩ (.n 165 ⟨135,[(3,[2,8,9,10,11,13,14,15,16]),(6,[2,8,9,10,14,15,16,17,18])],[(3,[2,8,9,10,11,13,14,15]),(6,[2,8,14,15,17,18])],[],[]⟩ (.n 163 ⟨9,[],[],[],[]⟩ (.n 161 ⟨18,[(0,[6,7,8])],[(0,[])],[],[]⟩ .l .l) (.n 164 ⟨84,[],[],[],[]⟩ .l .l)) (.n 168 ⟨40,[(0,[1,5,12,13,14])],[(0,[5])],[],[]⟩ (.n 166 ⟨21,[(0,[0,3])],[(0,[0,3])],[],[]⟩ .l .l) .l)) (.n 262 ⟨13,[],[],[],[]⟩ (.n 258 ⟨5,[],[],[],[]⟩ (.n 172 ⟨25,[],[],[],[]⟩ .l .l) (.n 261 ⟨19,[(0,[0,3])],[(0,[])],[],[]⟩ .l .l)) (.n 264 ⟨63,[],[],[],[]⟩ (.n 263 ⟨96,[],[],[],[]⟩ .l .l) .l))) (.n 273 ⟨18,[],[],[],[]⟩ (.n 269 ⟨14,[],[],[],[]⟩ (.n 267 ⟨55,[],[],[],[]⟩ (.n 266 ⟨9,[],[],[],[]⟩ .l .l) (.n 268 ⟨14,[],[],[],[]⟩ .l .l)) (.n 272 ⟨17,[(0,[0,3])],[(0,[0])],[],[]⟩ (.n 271 ⟨9,[],[],[],[]⟩ .l .l) .l)) (.n 277 ⟨61,[],[],[],[]⟩ (.n 275 ⟨19,[(0,[0,1])],[(0,[0])],[],[]⟩ (.n 274 ⟨25,[],[],[],[]⟩ .l .l) (.n 276 ⟨54,[],[],[],[]⟩ .l .l)) (.n 279 ⟨40,[],[],[],[]⟩ (.n 278 ⟨16,[],[],[],[]⟩ .l .l) .l))))) (.n 309 ⟨15,[],[],[],[]⟩ (.n 294 ⟨15,[],[],[],[]⟩ (.n 287 ⟨20,[(0,[0,3])],[(0,[])],[],[]⟩ (.n 284 ⟨7,[],[],[],[]⟩ (.n 282 ⟨39,[(1,[1,3,4])],[(1,[1,3])],[],[]⟩ (.n 281 ⟨25,[(0,[0,2,3,4])],[(0,[2,3,4])],[],[]⟩ .l .l) (.n 283 ⟨13,[],[],[],[]⟩ .l .l)) (.n 286 ⟨14,[],[],[],[]⟩ (.n 285 ⟨9,[],[],[],[]⟩ .l .l) .l)) (.n 291 ⟨12,[(0,[0,1])],[(0,[0])],[],[]⟩ (.n 289 ⟨206,[(2,[0,8,9,10,11]),(4,[8,9,10,11,12,13]),(6,[8,9,10,11,12,13,14,15,16]),(10,[8,9,10,11,12,13,14,19,20])],[(2,[8,9,10,11]),(4,[8,10,11,12]),(6,[8,9,10,11,12,13,14,15]),(10,[8,9,10,11,12,13,14,19])],[(5,.heap)],[]⟩ (.n 288 ⟨40,[(1,[0,2,3,4])],[(1,[0,2,3,4])],[],[]⟩ .l .l) (.n 290 ⟨20,[(0,[0,3,4])],[(0,[3])],[],[]⟩ .l .l)) (.n 293 ⟨72,[(0,[0,1,5,6]),(2,[0,1,5,6,7,8])],[(0,[5]),(2,[0,1,5,6,7])],[],[]⟩ (.n 292 ⟨25,[(0,[0,1,5])],[(0,[5])],[],[]⟩ .l .l) .l))) (.n 301 ⟨77,[(0,[0,1,2,7,9,10])],[(0,[9])],[],[]⟩ (.n 298 ⟨9,[],[],[],[]⟩ (.n 296 ⟨41,[(2,[0,1,5])],[(2,[])],[],[]⟩ (.n 295 ⟨42,[(0,[0,1,5,6,7])],[(0,[5])],[],[]⟩ .l .l) (.n 297 ⟨35,[(0,[0,1,5,6,7])],[(0,[5])],[],[]⟩ .l .l)) (.n 300 ⟨21,[(0,[0])],[(0,[0])],[],[]⟩ (.n 299 ⟨39,[(0,[0,1,6,7,8])],[(0,[6,7])],[],[]⟩ .l .l) .l)) (.n 306 ⟨11,[],[],[],[]⟩ (.n 304 ⟨13,[],[],[],[]⟩ (.n 302 ⟨13,[],[],[],[]⟩ .l .l) (.n 305 ⟨16,[(0,[0,3])],[(0,[])],[],[]⟩ .l .l)) (.n 308 ⟨9,[],[],[],[]⟩ (.n 307 ⟨5,[],[],[],[]⟩ .l .l) .l)))) (.n 327 ⟨31,[],[],[],[]⟩ (.n 320 ⟨144,[(1,[0,3,5,66,67]),(4,[0,3,5,80,81])],[(1,[0,3,5]),(4,[0,3,5])],[],[]⟩ (.n 316 ⟨16,[(0,[0,3])],[(0,[])],[],[]⟩ (.n 314 ⟨17,[],[],[],[]⟩ (.n 311 ⟨23,[],[],[],[]⟩ .l .l) (.n 315 ⟨9,[],[],[],[]⟩ .l .l)) (.n 318 ⟨22,[],[],[],[]⟩ (.n 317 ⟨9,[],[],[],[]⟩ .l .l) .l)) (.n 324 ⟨19,[(0,[0,3,6,7])],[(0,[3])],[],[]⟩ (.n 322 ⟨32,[(1,[0,1,5])],[(1,[])],[],[]⟩ (.n 321 ⟨19,[(0,[0,3,6,7])],[(0,[3])],[],[]⟩ .l .l) (.n 323 ⟨50,[],[],[],[]⟩ .l .l)) (.n 326 ⟨19,[(0,[0,3])],[(0,[])],[],[]⟩ (.n 325 ⟨110,[(0,[0,1,2,3,9,10]),(2,[0,1,2,3,9,10,11]),(4,[0,1,2,3,9,10,11,12,13,14]),(7,[0,1,2,3,9,10,11,12,13,14,15,16,17,18])],[(0,[9]),(2,[0,1,2,3,9,10]),(4,[0,1,2,3,9,10,11,12]),(7,[0,1,2,3,9,10,11,12,13,14,16])],[(1,.own)],[(23,[12])]⟩ .l .l) .l))) (.n 334 ⟨72,[],[],[],[]⟩ (.n 331 ⟨27,[(0,[0,3,4])],[(0,[3])],[],[]⟩ (.n 329 ⟨25,[(2,[0,3])],[(2,[])],[],[]⟩ (.n 328 ⟨22,[(1,[0,3])],[(1,[])],[],[]⟩ .l .l) (.n 330 ⟨22,[(1,[0,3])],[(1,[])],[],[]⟩ .l .l)) (.n 333 ⟨25,[],[],[],[]⟩ (.n 332 ⟨14,[(0,[0,3,4])],[(0,[3])],[],[]⟩ .l .l) .l)) (.n 338 ⟨8,[],[],[],[]⟩ (.n 336 ⟨17,[],[],[],[]⟩ (.n 335 ⟨23,[],[],[],[]⟩ .l .l) (.n 337 ⟨23,[],[],[],[]⟩ .l .l)) (.n 340 ⟨62,[(1,[4,5,6])],[(1,[5])],[],[]⟩ (.n 339 ⟨29,[],[],[],[]⟩ .l .l) .l)))))))
def aqO:JS ai bZ=true:=by decide+kernel
noncomputable def cc (i:Nat):aD:=match (Tryz.prog.funcs[Ae ai i]?).bind (Fk Tryz.prog (Og bZ hd i)) with
 | some F=>F
 | none=>⟨[],.skip⟩
end zg
end
section
open zg (cc)
noncomputable def TV:Tr aD:=(.n 121 J8 (.n 63 Ls (.n 34 Ej (.n 20 c20 (.n 13 jU (.n 4 c4 (.n 2 c2 (.n 1 c1 .l .l) (.n 3 c3 .l .l)) (.n 9 c9 (.n 5 c5 .l .l) (.n 11 ix .l .l))) (.n 17 (cc 17) (.n 15 (cc 15) (.n 14 (cc 14) .l .l) (.n 16 (cc 16) .l .l)) (.n 19 (cc 19) (.n 18 (cc 18) .l .l) .l))) (.n 27 (cc 27) (.n 24 c24 (.n 22 (cc 22) (.n 21 (cc 21) .l .l) (.n 23 (cc 23) .l .l)) (.n 26 Ei (.n 25 (cc 25) .l .l) .l)) (.n 31 Cc (.n 29 Lm (.n 28 P6 .l .l) (.n 30 rC .l .l)) (.n 33 Ln (.n 32 WC .l .l) .l)))) (.n 49 c49 (.n 41 c41 (.n 38 (cc 38) (.n 36 (cc 36) (.n 35 (cc 35) .l .l) (.n 37 P7 .l .l)) (.n 40 c40 (.n 39 (cc 39) .l .l) .l)) (.n 46 P8 (.n 44 (cc 44) (.n 42 Lo .l .l) (.n 45 (cc 45) .l .l)) (.n 48 (cc 48) (.n 47 (cc 47) .l .l) .l))) (.n 56 c56 (.n 53 WE (.n 51 P9 (.n 50 WD .l .l) (.n 52 (cc 52) .l .l)) (.n 55 Qa (.n 54 WG .l .l) .l)) (.n 60 WH (.n 58 c58 (.n 57 c57 .l .l) (.n 59 (cc 59) .l .l)) (.n 62 Qb (.n 61 Lr .l .l) .l))))) (.n 91 (cc 91) (.n 77 Qd (.n 70 WK (.n 67 c67 (.n 65 c65 (.n 64 Qc .l .l) (.n 66 c66 .l .l)) (.n 69 WJ (.n 68 WI .l .l) .l)) (.n 74 Lt (.n 72 (cc 72) (.n 71 WL .l .l) (.n 73 WM .l .l)) (.n 76 Lu (.n 75 WO .l .l) .l))) (.n 84 (cc 84) (.n 81 Lw (.n 79 Qe (.n 78 Lv .l .l) (.n 80 Qf .l .l)) (.n 83 Lx (.n 82 GP .l .l) .l)) (.n 88 (cc 88) (.n 86 fp (.n 85 (cc 85) .l .l) (.n 87 (cc 87) .l .l)) (.n 90 (cc 90) (.n 89 (cc 89) .l .l) .l)))) (.n 106 afq (.n 99 Ek (.n 96 c96 (.n 94 GQ (.n 92 (cc 92) .l .l) (.n 95 Qg .l .l)) (.n 98 Qh (.n 97 c97 .l .l) .l)) (.n 103 J6 (.n 101 nE (.n 100 mK .l .l) (.n 102 UC .l .l)) (.n 105 OQ (.n 104 OP .l .l) .l))) (.n 114 afs (.n 111 UE (.n 108 UD (.n 107 OR .l .l) (.n 110 OS .l .l)) (.n 113 afr (.n 112 UF .l .l) .l)) (.n 118 DJ (.n 116 OT (.n 115 UG .l .l) (.n 117 OU .l .l)) (.n 120 J7 (.n 119 c119 .l .l) .l)))))) (.n 280 oh (.n 160 Gd (.n 142 OW (.n 130 UH (.n 125 OV (.n 123 Ka (.n 122 J9 .l .l) (.n 124 F7 .l .l)) (.n 127 (cc 127) (.n 126 (cc 126) .l .l) (.n 129 F9 .l .l))) (.n 134 Ga (.n 132 Kb (.n 131 (cc 131) .l .l) (.n 133 aft .l .l)) (.n 137 Kd (.n 136 Kc .l .l) .l))) (.n 150 Gb (.n 147 Ke (.n 145 Ab (.n 144 OX .l .l) (.n 146 UI .l .l)) (.n 149 UK (.n 148 UJ .l .l) .l)) (.n 157 Kf (.n 155 OZ (.n 151 OY .l .l) (.n 156 UL .l .l)) (.n 159 O0 (.n 158 Gc .l .l) .l)))) (.n 265 Ge (.n 169 sE (.n 165 Kg (.n 163 O1 (.n 161 (cc 161) .l .l) (.n 164 mL .l .l)) (.n 168 O2 (.n 166 BF .l .l) .l)) (.n 262 Ki (.n 258 Kh (.n 172 O3 .l .l) (.n 261 O4 .l .l)) (.n 264 Kj (.n 263 dt .l .l) .l))) (.n 273 DK (.n 269 Km (.n 267 Kk (.n 266 O5 .l .l) (.n 268 Kl .l .l)) (.n 272 Kn (.n 271 UM .l .l) .l)) (.n 277 DL (.n 275 O7 (.n 274 O6 .l .l) (.n 276 pM .l .l)) (.n 279 Gf (.n 278 O8 .l .l) .l))))) (.n 309 rh (.n 294 BH (.n 287 Kq (.n 284 UN (.n 282 Ko (.n 281 O9 .l .l) (.n 283 Kp .l .l)) (.n 286 Pb (.n 285 Pa .l .l) .l)) (.n 291 Kr (.n 289 sF (.n 288 Pc .l .l) (.n 290 Gg .l .l)) (.n 293 BG (.n 292 Ac .l .l) .l))) (.n 301 Ad (.n 298 Pd (.n 296 sG (.n 295 Ks .l .l) (.n 297 Kt .l .l)) (.n 300 lS (.n 299 BI .l .l) .l)) (.n 306 UP (.n 304 UO (.n 302 sH .l .l) (.n 305 DM .l .l)) (.n 308 UR (.n 307 UQ .l .l) .l)))) (.n 327 Gh (.n 320 eI (.n 316 Kv (.n 314 Ku (.n 311 Pe .l .l) (.n 315 sI .l .l)) (.n 318 UT (.n 317 US .l .l) .l)) (.n 324 Kw (.n 322 DN (.n 321 Pf .l .l) (.n 323 DO .l .l)) (.n 326 Ph (.n 325 Pg .l .l) .l))) (.n 334 UU (.n 331 BJ (.n 329 DP (.n 328 Gi .l .l) (.n 330 Gj .l .l)) (.n 333 Pj (.n 332 DQ .l .l) .l)) (.n 338 BK (.n 336 Gl (.n 335 Gk .l .l) (.n 337 Pk .l .l)) (.n 340 Gm (.n 339 BL .l .l) .l)))))))
def afu:Tr (List AV->Option AV):=(.n 153 My (.n 138 AT (.n 128 MJ (.n 109 OM .l .l) (.n 135 JM .l .l)) (.n 143 r9 (.n 139 Ba .l .l) (.n 152 MK .l .l))) (.n 171 nZ (.n 162 trimS (.n 154 JN .l .l) (.n 167 FR .l .l)) (.n 175 Jc (.n 173 Be .l .l) .l)))
noncomputable def prog:aG:=TV.find
def aW:Lib:=⟨afu.find,fun _=>none⟩
end
section
namespace zg
open Go
open Go.Proofs
def aoE:TV.me (Tm Tryz.prog ai bZ hd):=by
 delta TV
 repeat' first | exact Tr.jK | refine Tr.lf (akx (by kernel_rfl) (by kernel_rfl)) ?_ ?_
end zg
end
end VE
