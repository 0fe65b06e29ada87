import Derived.Test.YtkhmakhdoedjiaaGreatDoorTar
set_option linter.all false
set_option maxRecDepth 100000
namespace VE
def c46:Fnc:=⟨[.t 2],
.seq (
.reg [qb 1 4 0,Rq 2 (.mov (.c (.str [])))]) (
.seq (
.seq (
.reg [qL 3 4 1,qc1 4 98 3]) (
.cond (.t 4) (
 .seq (
 .reg [qo 5 0 1,qL 6 2 5,qc1 7 99 6,qm 2 7]) (
 .ret)) (
 .skip))) (
.seq (
.reg [qo 8 0 1,qL 9 2 8,qc1 10 99 9,Rq 11 (.bin .add (.t 10) (.c (.str [47]))),qo 12 2 1,qL 13 2 12,qc1 14 99 13,qA 15 11 14,qm 2 15]) (
.ret)))⟩
def c49:Fnc:=⟨[.cell 4 4 true],
.seq (
.reg [qb 2 4 0,qb 3 4 1,Rq 4 (.box 4 (.c (.agg [.int .i64 0,.nils,.int .i64 0,.nils])))]) (
.seq (
.reg [qo 5 0 2,qL 6 2 5,qo 7 0 3,qL 8 2 7,qc2 9 100 6 8,qo 10 2 2,qL 11 2 10,qo 12 2 3,qL 13 2 12,qc2 14 100 11 13,qc2 15 101 9 14,qs 4 4 15]) (
.ret))⟩
def c50:Fnc:=⟨[.cell 4 4 true],
.seq (
.reg [qb 2 4 0,qb 3 4 1,Rq 4 (.box 4 (.c (.agg [.int .i64 0,.nils,.int .i64 0,.nils])))]) (
.seq (
.reg [qL 5 4 2,qL 6 4 3,qc1 7 102 6,qc2 8 74 5 7,qs 4 4 8]) (
.ret))⟩
def zNt:VC:=
.seq (
.seq (
.reg [qm 11 5,qm 12 0,qn 13 1 12,qT 14 11 13]) (
.cond (.t 14) (
 .skip) (
 .exit 0))) (
.seq (
.blk 1 (
.seq (
.reg [qm 17 0,qm 18 5,qi 19 1 17 18,ql 20 1 19,qm 21 1,qm 22 5,qi 23 1 21 22,ql 24 1 23,Rq 25 (.bin .neq (.t 20) (.t 24))]) (
.cond (.t 25) (
 .seq (
 .reg [qf 4]) (
 .ret)) (
 .skip)))) (
.reg [qm 15 5,qa 16 15 1,qm 5 16]))
def c59:Fnc:=⟨[.t 4],
.seq (
.reg [qf 4]) (
.seq (
.seq (
.reg [qm 6 0,qn 7 1 6,qm 8 1,qn 9 1 8,Rq 10 (.bin .neq (.t 7) (.t 9))]) (
.cond (.t 10) (
 .seq (
 .reg [qf 4]) (
 .ret)) (
 .skip))) (
.seq (
.seq (
.reg [qk 5 0]) (
.seq (
.blk 0 (
.loop [0,1,5] zNt)) (
.kp []))) (
.seq (
.reg [Rq 4 (.mov (.c (.bool true)))]) (
.ret))))⟩
def c62:Fnc:=⟨[.cell 2 4 true],
.seq (
.reg [Rq 2 (.box 4 (.c (.agg [.int .i64 0,.nils,.int .i64 0,.nils])))]) (
.seq (
.reg [qm 7 0,Rq 8 (.call .pure (.c (.fn (.f 109) [] [])) [(.t 7),(.c (.str [47]))]),qm 6 8,qe 9 0 6,qe 10 1 6,qe 11 2 6,qm 3 9,qm 4 10,qm 5 11]) (
.seq (
.seq (
.reg [qm 12 5,Rq 13 (.un .not (.t 12))]) (
.cond (.t 13) (
 .seq (
 .reg [qm 14 3,qc1 15 110 14,qc1 16 111 15,qs 4 2 16]) (
 .ret)) (
 .skip))) (
.seq (
.reg [qm 17 3,qc1 18 110 17,qm 19 4,qc1 20 110 19,Rq 21 (.mkagg [.int .i64 0,.nils,.int .i64 0,.nils] [(0,2,(.t 18)),(2,2,(.t 20))]),qs 4 2 21]) (
.ret))))⟩
def c69:Fnc:=⟨[.cell 2 4 true],
.seq (
.reg [Rq 2 (.box 4 (.c (.agg [.int .i64 0,.nils,.int .i64 0,.nils])))]) (
.seq (
.reg [qm 3 0,qc1 4 117 3,qc1 5 111 4,qs 4 2 5]) (
.ret))⟩
def c70:Fnc:=⟨[.cell 4 4 true],
.seq (
.reg [qb 2 4 0,qb 3 4 1,Rq 4 (.box 4 (.c (.agg [.int .i64 0,.nils,.int .i64 0,.nils])))]) (
.seq (
.reg [qL 5 4 2,qL 6 4 3,qc1 7 73 6,qc2 8 49 5 7,qs 4 4 8]) (
.ret))⟩
def c71:Fnc:=⟨[.t 4],
.seq (
.reg [qb 2 4 0,qb 3 4 1,qk 4 0]) (
.seq (
.reg [qo 5 0 2,qL 6 2 5,qo 7 2 3,qL 8 2 7,qc2 9 100 6 8,qo 10 0 3,qL 11 2 10,qo 12 2 2,qL 13 2 12,qc2 14 100 11 13,qc2 15 118 9 14,qm 4 15]) (
.ret))⟩
def c73:Fnc:=⟨[.cell 2 4 true],
.seq (
.reg [qb 1 4 0,Rq 2 (.box 4 (.c (.agg [.int .i64 0,.nils,.int .i64 0,.nils])))]) (
.seq (
.reg [qo 3 2 1,qL 4 2 3,qo 5 0 1,qL 6 2 5,qc2 7 101 4 6,qs 4 2 7]) (
.ret))⟩
def c74:Fnc:=⟨[.cell 4 4 true],
.seq (
.reg [qb 2 4 0,qb 3 4 1,Rq 4 (.box 4 (.c (.agg [.int .i64 0,.nils,.int .i64 0,.nils])))]) (
.seq (
.seq (
.reg [qL 5 4 2,qc1 6 98 5,qm 7 6,Rt 8 7 (.ld 4 true (.t 3)),Rt 9 7 (.call .pure (.c (.fn (.f 98) [] [])) [(.t 8)]),qq 10 7 9]) (
.cond (.t 10) (
 .seq (
 .reg [qo 11 0 2,qL 12 2 11,qo 13 0 3,qL 14 2 13,qc2 15 119 12 14,qc1 16 111 15,qs 4 4 16]) (
 .ret)) (
 .skip))) (
.seq (
.reg [qo 17 0 2,qL 18 2 17,qo 19 2 3,qL 20 2 19,qc2 21 100 18 20,qo 22 0 3,qL 23 2 22,qo 24 2 2,qL 25 2 24,qc2 26 100 23 25,qc2 27 119 21 26,qo 28 2 2,qL 29 2 28,qo 30 2 3,qL 31 2 30,qc2 32 100 29 31,qc2 33 101 27 32,qs 4 4 33]) (
.ret)))⟩
def c86:Fnc:=⟨[.t 2],
.seq (
.reg [qk 2 0]) (
.seq (
.reg [qm 12 0,Rq 13 (.call .pure (.c (.fn (.f 128) [] [])) [(.t 12),(.c (.str [45]))]),qm 11 13,qe 14 0 11,qe 15 1 11,qm 3 14,qm 4 15]) (
.seq (
.reg [qm 17 3,Rq 18 (.call .pure (.c (.fn (.f 109) [] [])) [(.t 17),(.c (.str [47]))]),qm 16 18,qe 19 0 16,qe 20 1 16,qe 21 2 16,qm 5 19,qm 6 20,qm 7 21]) (
.seq (
.reg [qm 22 5,qc1 23 129 22,qm 24 23,Rt 25 24 (.mov (.t 4)),Rt 26 24 (.un .not (.t 25)),Rt 27 24 (.mov (.t 26)),Rf 28 27 (.mov (.t 5)),Rf 29 27 (.bin .neq (.t 28) (.c (.str [48]))),Rt 30 24 (.pick (.t 27) (.c (.bool true)) (.t 29)),qq 31 24 30,qm 8 31]) (
.seq (
.seq (
.reg [qm 32 7]) (
.cond (.t 32) (
 .reg [qm 33 8,qm 34 33,Rt 35 34 (.mov (.t 6)),Rt 36 34 (.call .pure (.c (.fn (.f 129) [] [])) [(.t 35)]),qq 37 34 36,qm 38 37,Rt 39 38 (.mov (.t 6)),Rt 40 38 (.bin .neq (.t 39) (.c (.str [48]))),qq 41 38 40,qm 42 41,Rt 43 42 (.mov (.t 6)),Rt 44 42 (.bin .neq (.t 43) (.c (.str [49]))),qq 45 42 44,qm 8 45]) (
 .skip))) (
.seq (
.seq (
.reg [qm 46 8,Rq 47 (.un .not (.t 46)),Rq 48 (.call .pure (.c (.fn (.f 124) [] [])) [(.t 47),(.c (.int .i64 1))]),qm 49 5,qn 50 0 49,Rq 51 (.bin .gtr (.t 50) (.c (.int .i64 600))),qm 52 51,Rf 53 52 (.mov (.t 6)),Rf 54 52 (.len 0 (.t 53)),Rf 55 52 (.bin .gtr (.t 54) (.c (.int .i64 600))),qp 56 52 55,Rq 57 (.call .pure (.c (.fn (.f 124) [] [])) [(.t 56),(.c (.int .i64 4))]),Rq 58 (.mksl 2 1 [.int .i64 0,.int .i64 0] [(0,1,(.t 48)),(1,1,(.t 57))]),qc1 59 125 58,qm 9 59]) (
.seq (
.reg [qm 60 9,qN 61 60 0]) (
.cond (.t 61) (
 .seq (
 .reg [qm 62 9,qm 2 62]) (
 .ret)) (
 .skip)))) (
.seq (
.reg [qm 63 7,qm 64 63,Rt 65 64 (.mov (.t 5)),Rt 66 64 (.call .pure (.c (.fn (.f 110) [] [])) [(.t 65)]),Rt 67 64 (.mov (.t 6)),Rt 68 64 (.call .pure (.c (.fn (.f 110) [] [])) [(.t 67)]),Rt 69 64 (.call .pure (.c (.fn (.f 130) [] [])) [(.t 66),(.t 68)]),Rt 70 64 (.call .pure (.c (.fn (.f 117) [] [])) [(.c (.int .i64 1))]),Rt 71 64 (.call .pure (.c (.fn (.f 118) [] [])) [(.t 69),(.t 70)]),Rt 72 64 (.bin .neq (.t 71) (.c (.int .i64 0))),qq 73 64 72,qm 10 73]) (
.seq (
.reg [qm 74 10,Rq 75 (.call .pure (.c (.fn (.f 124) [] [])) [(.t 74),(.c (.int .i64 1))]),qm 2 75]) (
.ret))))))))⟩
def c98:Fnc:=⟨[.t 2],
.seq (
.reg [qb 1 4 0,qf 2]) (
.seq (
.reg [qo 3 2 1,qo 4 1 3,ql 5 1 4,Rq 6 (.eq false .sl (.t 5) (.c (.nils))),qm 7 6,Rt 8 7 (.off 2 (.t 1)),Rt 9 7 (.off 0 (.t 8)),Rt 10 7 (.ld 1 false (.t 9)),Rt 11 7 (.bin .eql (.t 10) (.c (.int .i64 1))),qq 12 7 11,qm 2 12]) (
.ret))⟩
def zfl:VC:=
.seq (
.seq (
.reg [qm 24 4,qn 25 1 24,Rq 26 (.bin .gtr (.t 25) (.c (.int .i64 0)))]) (
.cond (.t 26) (
 .skip) (
 .exit 0))) (
.blk 1 (
.seq (
.reg [qm 28 4,qm 29 5,qc2 30 137 28 29,qm 27 30,qe 31 0 27,qe 32 1 27,qm 7 31,qm 8 32]) (
.seq (
.reg [Rq 9 (.mov (.c (.str [48])))]) (
.seq (
.seq (
.reg [qm 33 8,qn 34 1 33,Rq 35 (.bin .gtr (.t 34) (.c (.int .i64 0)))]) (
.cond (.t 35) (
 .reg [qm 36 8,Rq 37 (.ixa 1 (.t 36) (.c (.int .i64 0))),ql 38 1 37,Rq 39 (.call .pure (.c (.fn (.f 138) [] [])) [(.t 38),(.c (.int .i64 10))]),qm 9 39]) (
 .skip))) (
.seq (
.seq (
.reg [qm 40 7,qn 41 1 40,Rq 42 (.bin .gtr (.t 41) (.c (.int .i64 0)))]) (
.cond (.t 42) (
 .reg [qm 43 9,qn 44 0 43,Rq 45 (.bin .sub (.c (.int .i64 18)) (.t 44)),Rq 46 (.call .pure (.c (.fn (.f 139) [] [])) [(.c (.str [48])),(.t 45)]),qm 47 9,qA 48 46 47,qm 9 48]) (
 .skip))) (
.seq (
.reg [qm 49 6,qm 50 9,Rq 51 (.mksl 1 1 [.str []] [(0,1,(.t 50))]),Rq 52 (.app 1 16 (.t 49) (.t 51)),qm 6 52]) (
.reg [qm 53 7,qm 4 53])))))))
def zOh:VC:=
.seq (
.seq (
.reg [qm 59 11,Rq 60 (.bin .geq (.t 59) (.c (.int .i64 0)))]) (
.cond (.t 60) (
 .skip) (
 .exit 2))) (
.seq (
.blk 3 (
.reg [qm 63 6,qm 64 11,qi 65 1 63 64,ql 66 1 65,qc2 67 140 10 66])) (
.reg [qm 61 11,Rq 62 (.bin .sub (.t 61) (.c (.int .i64 1))),qm 11 62]))
def c99:Fnc:=⟨[.t 2],
.seq (
.reg [qb 1 2 0,Rq 2 (.mov (.c (.str [])))]) (
.seq (
.seq (
.reg [qo 12 1 1,ql 13 1 12,Rq 14 (.eq false .sl (.t 13) (.c (.nils)))]) (
.cond (.t 14) (
 .seq (
 .reg [qo 15 0 1,ql 16 1 15,qc1 17 135 16,qm 2 17]) (
 .ret)) (
 .skip))) (
.seq (
.reg [qL 19 2 1,qc1 20 136 19,qm 18 20,qe 21 0 18,qe 22 1 18,qm 3 21,qm 4 22]) (
.seq (
.reg [Rq 23 (.mksl 1 1 [.int .u64 0] [(0,1,(.c (.int .u64 1000000000000000000)))]),qm 5 23]) (
.seq (
.reg [qz 6]) (
.seq (
.seq (
.blk 0 (
.loop [3,4,5,6] zfl)) (
.kp [3,6])) (
.seq (
.reg [Rq 10 (.box 2 (.c (.agg [.nilp,.nils])))]) (
.seq (
.seq (
.reg [qm 54 3]) (
.cond (.t 54) (
 .reg [Rq 55 (.call .pure (.c (.fn (.f 140) [] [])) [(.t 10),(.c (.str [45]))])]) (
 .skip))) (
.seq (
.seq (
.reg [qm 56 6,qn 57 1 56,Rq 58 (.bin .sub (.t 57) (.c (.int .i64 1))),qm 11 58]) (
.seq (
.blk 2 (
.loop [6,10,11] zOh)) (
.kp [10]))) (
.seq (
.reg [qc1 68 141 10,qm 2 68]) (
.ret))))))))))⟩
def c100:Fnc:=⟨[.cell 4 2 true],
.seq (
.reg [qb 2 2 0,qb 3 2 1,Rq 4 (.box 2 (.c (.agg [.int .i64 0,.nils])))]) (
.seq (
.seq (
.reg [qo 11 1 2,ql 12 1 11,Rq 13 (.eq false .sl (.t 12) (.c (.nils))),qm 14 13,Rt 15 14 (.off 1 (.t 3)),Rt 16 14 (.ld 1 false (.t 15)),Rt 17 14 (.eq false .sl (.t 16) (.c (.nils))),qq 18 14 17]) (
.cond (.t 18) (
 .seq (
 .reg [qo 20 0 2,ql 21 1 20,qc1 22 142 21,qo 23 0 3,ql 24 1 23,qc1 25 142 24,qc2 26 143 22 25,qm 19 26,qe 27 0 19,qe 28 1 19,qm 5 27,qm 6 28]) (
 .seq (
 .reg [qm 29 5,Rq 30 (.bin .eql (.t 29) (.c (.int .u64 0))),qm 31 30,Rt 32 31 (.mov (.t 6)),Rt 33 31 (.bin .leq (.t 32) (.c (.int .u64 9223372036854775807))),qq 34 31 33]) (
 .cond (.t 34) (
 .seq (
 .seq (
 .reg [qo 35 0 2,ql 36 1 35,Rq 37 (.bin .lss (.t 36) (.c (.int .i64 0))),qo 38 0 3,ql 39 1 38,Rq 40 (.bin .lss (.t 39) (.c (.int .i64 0))),Rq 41 (.eq true .b (.t 37) (.t 40))]) (
 .cond (.t 41) (
  .seq (
  .reg [qm 42 6,Rq 43 (.cv (.toInt .i64) (.t 42)),Rq 44 (.un .neg (.t 43)),Rq 45 (.mkagg [.int .i64 0,.nils] [(0,1,(.t 44))]),qs 2 4 45]) (
  .ret)) (
  .skip))) (
 .seq (
 .reg [qm 46 6,Rq 47 (.cv (.toInt .i64) (.t 46)),Rq 48 (.mkagg [.int .i64 0,.nils] [(0,1,(.t 47))]),qs 2 4 48]) (
 .ret))) (
 .skip)))) (
 .skip))) (
.seq (
.reg [qL 50 2 2,qc1 51 136 50,qm 49 51,qe 52 0 49,qe 53 1 49,qm 7 52,qm 8 53]) (
.seq (
.reg [qL 55 2 3,qc1 56 136 55,qm 54 56,qe 57 0 54,qe 58 1 54,qm 9 57,qm 10 58]) (
.seq (
.reg [qm 59 7,qm 60 9,Rq 61 (.eq true .b (.t 59) (.t 60)),qm 62 8,qm 63 10,qc2 64 144 62 63,qc2 65 145 61 64,qs 2 4 65]) (
.ret)))))⟩
def c101:Fnc:=⟨[.cell 4 4 true],
.seq (
.reg [qb 2 2 0,qb 3 2 1,Rq 4 (.box 4 (.c (.agg [.int .i64 0,.nils,.int .i64 0,.nils])))]) (
.seq (
.seq (
.reg [qL 6 2 3,qc1 7 146 6,Rq 8 (.bin .lss (.t 7) (.c (.int .i64 0)))]) (
.cond (.t 8) (
 .reg [qL 9 2 2,qc1 10 147 9,qL 11 2 3,qc1 12 147 11,qs 2 2 10,qs 2 3 12]) (
 .skip))) (
.seq (
.seq (
.reg [qo 13 1 3,ql 14 1 13,Rq 15 (.eq false .sl (.t 14) (.c (.nils))),qm 16 15,Rt 17 16 (.off 0 (.t 3)),Rt 18 16 (.ld 1 false (.t 17)),Rt 19 16 (.bin .eql (.t 18) (.c (.int .i64 1))),qq 20 16 19]) (
.cond (.t 20) (
 .seq (
 .reg [qL 21 2 2,qL 22 2 3,Rq 23 (.mkagg [.int .i64 0,.nils,.int .i64 0,.nils] [(0,2,(.t 21)),(2,2,(.t 22))]),qs 4 4 23]) (
 .ret)) (
 .skip))) (
.seq (
.reg [qL 24 2 2,qL 25 2 3,qc2 26 130 24 25,Rq 5 (.box 2 (.c (.agg [.int .i64 0,.nils]))),qs 2 5 26]) (
.seq (
.reg [qL 27 2 2,qL 28 2 5,qc2 29 148 27 28,qL 30 2 3,qL 31 2 5,qc2 32 148 30 31,Rq 33 (.mkagg [.int .i64 0,.nils,.int .i64 0,.nils] [(0,2,(.t 29)),(2,2,(.t 32))]),qs 4 4 33]) (
.ret)))))⟩
def zOj:Fnc:=⟨[.cell 2 4 true],
.seq (
.reg [qb 1 4 0,Rq 2 (.box 4 (.c (.agg [.int .i64 0,.nils,.int .i64 0,.nils])))]) (
.seq (
.reg [qo 3 0 1,qL 4 2 3,qc1 5 147 4,qo 6 2 1,qL 7 2 6,Rq 8 (.mkagg [.int .i64 0,.nils,.int .i64 0,.nils] [(0,2,(.t 5)),(2,2,(.t 7))]),qs 4 2 8]) (
.ret))⟩
def zBz:Fnc:=⟨[.t 2],
.seq (
.reg [qb 1 4 0,qf 2]) (
.seq (
.reg [qo 3 0 1,qL 4 2 3,qc1 5 151 4,qm 6 5,Rf 7 6 (.off 2 (.t 1)),Rf 8 6 (.ld 2 true (.t 7)),Rf 9 6 (.call .pure (.c (.fn (.f 151) [] [])) [(.t 8)]),qp 10 6 9,qm 2 10]) (
.ret))⟩
def zM4:Fnc:=⟨[.t 2],
.seq (
.reg [qb 1 4 0,qk 2 0]) (
.seq (
.reg [qo 3 0 1,qL 4 2 3,qc1 5 146 4,qm 2 5]) (
.ret))⟩
def zh6:VC:=
.seq (
.seq (
.reg [qm 13 0,qn 14 0 13,Rq 15 (.bin .gtr (.t 14) (.c (.int .i64 0)))]) (
.cond (.t 15) (
 .skip) (
 .exit 0))) (
.blk 1 (
.seq (
.reg [qm 16 0,qn 17 0 16,Rq 18 (.mn [(.c (.int .i64 18)),(.t 17)]),qm 5 18]) (
.seq (
.reg [qm 20 0,qm 21 5,Rq 22 (.sli .str (.t 20) none (some (.t 21))),qc1 23 154 22,qm 19 23,qe 24 0 19,qe 25 1 19,qm 6 24,qm 7 25]) (
.seq (
.reg [qL 26 2 4,Rq 27 (.call .pure (.c (.fn (.f 117) [] [])) [(.c (.int .i64 10))]),qm 28 5,qc2 29 155 27 28,qc2 30 100 26 29,qm 31 6,qc1 32 117 31,qc2 33 119 30 32,qs 2 4 33]) (
.reg [qm 34 0,qm 35 5,Rq 36 (.sli .str (.t 34) (some (.t 35)) none),qm 0 36])))))
def zzS:Fnc:=⟨[.cell 2 2 true],
.seq (
.reg [Rq 2 (.box 2 (.c (.agg [.int .i64 0,.nils])))]) (
.seq (
.reg [qm 8 0,Rq 9 (.call .pure (.c (.fn (.f 152) [] [])) [(.t 8),(.c (.str [45]))]),qm 3 9]) (
.seq (
.reg [qm 10 0,Rq 11 (.call .pure (.c (.fn (.f 153) [] [])) [(.t 10),(.c (.str [45]))]),qm 0 11]) (
.seq (
.reg [Rq 12 (.mkagg [.int .i64 0,.nils] []),Rq 4 (.box 2 (.c (.agg [.int .i64 0,.nils]))),qs 2 4 12]) (
.seq (
.seq (
.blk 0 (
.loop [0,2,3,4] zh6)) (
.kp [2,3,4])) (
.seq (
.seq (
.reg [qm 37 3]) (
.cond (.t 37) (
 .seq (
 .reg [qL 38 2 4,qc1 39 147 38,qs 2 2 39]) (
 .ret)) (
 .skip))) (
.seq (
.reg [qL 40 2 4,qs 2 2 40]) (
.ret)))))))⟩
def zBY:Fnc:=⟨[.cell 2 4 true],
.seq (
.reg [qb 1 2 0,Rq 2 (.box 4 (.c (.agg [.int .i64 0,.nils,.int .i64 0,.nils])))]) (
.seq (
.reg [qL 3 2 1,Rq 4 (.call .pure (.c (.fn (.f 117) [] [])) [(.c (.int .i64 1))]),Rq 5 (.mkagg [.int .i64 0,.nils,.int .i64 0,.nils] [(0,2,(.t 3)),(2,2,(.t 4))]),qs 4 2 5]) (
.ret))⟩
def zxM:Fnc:=⟨[.cell 2 2 true],
.seq (
.reg [Rq 2 (.box 2 (.c (.agg [.int .i64 0,.nils])))]) (
.seq (
.reg [qm 3 0,Rq 4 (.mkagg [.int .i64 0,.nils] [(0,1,(.t 3))]),qs 2 2 4]) (
.ret))⟩
def zpH:Fnc:=⟨[.t 4],
.seq (
.reg [qb 2 2 0,qb 3 2 1,qk 4 0]) (
.seq (
.seq (
.reg [qo 5 1 2,ql 6 1 5,Rq 7 (.eq false .sl (.t 6) (.c (.nils))),qm 8 7,Rt 9 8 (.off 1 (.t 3)),Rt 10 8 (.ld 1 false (.t 9)),Rt 11 8 (.eq false .sl (.t 10) (.c (.nils))),qq 12 8 11]) (
.cond (.t 12) (
 .seq (
 .blk 0 (
 .seq (
 .reg [qo 14 0 2,ql 15 1 14,qo 16 0 3,ql 17 1 16,qT 18 15 17,qm 13 18]) (
 .cond (.t 13) (
 .seq (
 .reg [qk 4 (-1)]) (
 .ret)) (
 .seq (
 .reg [qo 20 0 2,ql 21 1 20,qo 22 0 3,ql 23 1 22,Rq 24 (.bin .gtr (.t 21) (.t 23)),qm 19 24]) (
 .cond (.t 19) (
  .seq (
  .reg [qk 4 1]) (
  .ret)) (
  .skip)))))) (
 .seq (
 .reg [qk 4 0]) (
 .ret))) (
 .skip))) (
.seq (
.reg [qL 25 2 2,qL 26 2 3,qc2 27 156 25 26,qc1 28 146 27,qm 4 28]) (
.ret)))⟩
def c119:Fnc:=⟨[.cell 4 2 true],
.seq (
.reg [qb 2 2 0,qb 3 2 1,Rq 4 (.box 2 (.c (.agg [.int .i64 0,.nils])))]) (
.seq (
.seq (
.reg [qo 10 1 2,ql 11 1 10,Rq 12 (.eq false .sl (.t 11) (.c (.nils))),qm 13 12,Rt 14 13 (.off 1 (.t 3)),Rt 15 13 (.ld 1 false (.t 14)),Rt 16 13 (.eq false .sl (.t 15) (.c (.nils))),qq 17 13 16]) (
.cond (.t 17) (
 .seq (
 .reg [qo 18 0 2,ql 19 1 18,qo 20 0 3,ql 21 1 20,qA 22 19 21,qm 5 22]) (
 .seq (
 .reg [qm 23 5,qo 24 0 2,ql 25 1 24,Rq 26 (.bin .gtr (.t 23) (.t 25)),qo 27 0 3,ql 28 1 27,Rq 29 (.bin .gtr (.t 28) (.c (.int .i64 0))),Rq 30 (.eq false .b (.t 26) (.t 29))]) (
 .cond (.t 30) (
 .seq (
 .reg [qm 31 5,Rq 32 (.mkagg [.int .i64 0,.nils] [(0,1,(.t 31))]),qs 2 4 32]) (
 .ret)) (
 .skip)))) (
 .skip))) (
.seq (
.reg [qL 34 2 2,qc1 35 136 34,qm 33 35,qe 36 0 33,qe 37 1 33,qm 6 36,qm 7 37]) (
.seq (
.reg [qL 39 2 3,qc1 40 136 39,qm 38 40,qe 41 0 38,qe 42 1 38,qm 8 41,qm 9 42]) (
.seq (
.blk 0 (
.seq (
.reg [qm 44 6,qm 45 8,Rq 46 (.eq false .b (.t 44) (.t 45)),qm 43 46]) (
.cond (.t 43) (
 .seq (
 .reg [qm 47 6,qm 48 7,qm 49 9,qc2 50 157 48 49,qc2 51 145 47 50,qs 2 4 51]) (
 .ret)) (
 .seq (
 .reg [qm 53 7,qm 54 9,qc2 55 158 53 54,Rq 56 (.bin .geq (.t 55) (.c (.int .i64 0))),qm 52 56]) (
 .cond (.t 52) (
 .seq (
 .reg [qm 57 6,qm 58 7,qm 59 9,qc2 60 159 58 59,qc2 61 145 57 60,qs 2 4 61]) (
 .ret)) (
 .skip)))))) (
.seq (
.reg [qm 62 8,qm 63 9,qm 64 7,qc2 65 159 63 64,qc2 66 145 62 65,qs 2 4 66]) (
.ret))))))⟩
def zvl:Fnc:=⟨[.t 4],
.seq (
.reg [qk 4 0]) (
.seq (
.seq (
.reg [qm 5 0]) (
.cond (.t 5) (
 .seq (
 .reg [qm 6 1,qm 4 6]) (
 .ret)) (
 .skip))) (
.seq (
.reg [qk 4 0]) (
.ret)))⟩
def zmU:VC:=
.seq (
.reg [qT 8 7 6]) (
.seq (
.cond (.t 8) (
 .skip) (
 .exit 0)) (
.seq (
.blk 1 (
.seq (
.reg [qi 9 1 5 7,ql 10 1 9,qm 4 10]) (
.seq (
.reg [qm 11 4,qN 12 11 0]) (
.cond (.t 12) (
 .seq (
 .reg [qm 13 4,qm 2 13]) (
 .ret)) (
 .skip))))) (
.reg [qa 14 7 1,qm 7 14])))
def zz9:Fnc:=⟨[.t 2],
.seq (
.reg [qk 2 0]) (
.seq (
.seq (
.reg [qm 5 0,qn 6 1 5,qk 7 0]) (
.seq (
.blk 0 (
.loop [5,6,7] zmU)) (
.kp []))) (
.seq (
.reg [qk 2 0]) (
.ret)))⟩
def zve:Fnc:=⟨[.t 2],
.seq (
.reg [qf 2]) (
.seq (
.reg [qm 3 0,Rq 4 (.bin .neq (.t 3) (.c (.str []))),qm 5 4,Rt 6 5 (.mov (.t 0)),Rt 7 5 (.call .pure (.c (.fn (.f 162) [] [])) [(.t 6),(.c (.str [48,49,50,51,52,53,54,55,56,57]))]),Rt 8 5 (.bin .eql (.t 7) (.c (.str []))),qq 9 5 8,qm 10 9,Rt 11 10 (.mov (.t 0)),Rt 12 10 (.ixs (.t 11) (.c (.int .i64 0))),Rt 13 10 (.bin .neq (.t 12) (.c (.int .u8 48))),Rt 14 10 (.mov (.t 13)),Rf 15 14 (.mov (.t 0)),Rf 16 14 (.bin .eql (.t 15) (.c (.str [48]))),Rt 17 10 (.pick (.t 14) (.c (.bool true)) (.t 16)),qq 18 10 17,qm 2 18]) (
.ret))⟩
def zfd:VC:=
.seq (
.seq (
.reg [qL 11 2 3,qc1 12 146 11,qN 13 12 0]) (
.cond (.t 13) (
 .skip) (
 .exit 0))) (
.blk 1 (
.seq (
.reg [qL 15 2 2,qL 16 2 3,qc2 17 164 15 16,qm 14 17,qe 18 0 14,qe 19 1 14,Rq 5 (.box 2 (.c (.agg [.int .i64 0,.nils]))),Rq 6 (.box 2 (.c (.agg [.int .i64 0,.nils]))),qs 2 5 18,qs 2 6 19]) (
.reg [qL 20 2 3,qL 21 2 6,⟨none,none,.std [(2,true,6)] 2 (.t 2) (.t 20)⟩,qs 2 3 21])))
def zun:Fnc:=⟨[.cell 4 2 true],
.seq (
.reg [qb 2 2 0,qb 3 2 1,Rq 4 (.box 2 (.c (.agg [.int .i64 0,.nils])))]) (
.seq (
.reg [qL 7 2 2,qc1 8 163 7,qL 9 2 3,qc1 10 163 9,qs 2 2 8,qs 2 3 10]) (
.seq (
.seq (
.blk 0 (
.loop [2,3,4] zfd)) (
.kp [2,4])) (
.seq (
.reg [qL 22 2 2,qs 2 4 22]) (
.ret))))⟩
def zx6:Fnc:=⟨[.t 2,.t 3],
.seq (
.reg [qb 1 2 0,qf 2,qz 3]) (
.seq (
.blk 0 (
.seq (
.reg [qo 5 1 1,ql 6 1 5,Rq 7 (.eq true .sl (.t 6) (.c (.nils))),qm 4 7]) (
.cond (.t 4) (
 .seq (
 .reg [qo 8 0 1,ql 9 1 8,Rq 10 (.bin .lss (.t 9) (.c (.int .i64 0))),qo 11 1 1,ql 12 1 11,qm 2 10,qm 3 12]) (
 .ret)) (
 .seq (
 .reg [qo 14 0 1,ql 15 1 14,qE 16 15 0,qm 13 16]) (
 .cond (.t 13) (
 .seq (
 .reg [qf 2,qz 3]) (
 .ret)) (
 .skip)))))) (
.seq (
.reg [qo 17 0 1,ql 18 1 17,Rq 19 (.bin .lss (.t 18) (.c (.int .i64 0))),qo 20 0 1,ql 21 1 20,qc1 22 142 21,Rq 23 (.mksl 1 1 [.int .u64 0] [(0,1,(.t 22))]),qm 2 19,qm 3 23]) (
.ret)))⟩
def zkm:VC:=
.seq (
.seq (
.reg [qm 30 8,Rq 31 (.bin .geq (.t 30) (.c (.int .i64 0)))]) (
.cond (.t 31) (
 .skip) (
 .exit 0))) (
.seq (
.blk 1 (
.reg [qm 35 6,qm 36 8,qm 37 7,qm 38 0,qm 39 8,qi 40 1 38 39,ql 41 1 40,qm 42 1,Rq 43 (.ixa 1 (.t 42) (.c (.int .i64 0))),ql 44 1 43,qc3 45 165 37 41 44,qm 34 45,qe 46 0 34,qe 47 1 34,qi 48 1 35 36,qs 1 48 46,qm 7 47])) (
.reg [qm 32 8,Rq 33 (.bin .sub (.t 32) (.c (.int .i64 1))),qm 8 33]))
def zjK:VC:=
.seq (
.seq (
.reg [qm 80 14,Rq 81 (.bin .geq (.t 80) (.c (.int .i64 0)))]) (
.cond (.t 81) (
 .skip) (
 .exit 2))) (
.seq (
.blk 3 (
.reg [qm 84 13,qm 85 14,qm 86 11,qm 87 14,qm 88 14,qm 89 12,qA 90 88 89,qa 91 90 1,Rq 92 (.sli (.sl 1) (.t 86) (some (.t 87)) (some (.t 91))),qm 93 10,Rq 94 (.call .heap (.c (.fn (.f 169) [] [])) [(.t 92),(.t 93)]),qi 95 1 84 85,qs 1 95 94])) (
.reg [qm 82 14,Rq 83 (.bin .sub (.t 82) (.c (.int .i64 1))),qm 14 83]))
def zif:VC:=
.seq (
.reg [qT 98 97 96]) (
.seq (
.cond (.t 98) (
 .skip) (
 .exit 4)) (
.seq (
.blk 5 (
.seq (
.reg [qm 99 97,qm 15 99]) (
.seq (
.reg [qm 100 11,qm 101 15,qi 102 1 100 101,ql 103 1 102,qm 104 9,Rq 105 (.bin .shr (.t 103) (.t 104)),qi 106 1 100 101,qs 1 106 105]) (
.seq (
.reg [qm 107 9,Rq 108 (.bin .gtr (.t 107) (.c (.int .i64 0))),qm 109 108,Rt 110 109 (.mov (.t 15)),Rt 111 109 (.bin .add (.t 110) (.c (.int .i64 1))),Rt 112 109 (.mov (.t 11)),Rt 113 109 (.len 1 (.t 112)),Rt 114 109 (.bin .lss (.t 111) (.t 113)),qq 115 109 114]) (
.cond (.t 115) (
 .reg [qm 116 11,qm 117 15,qi 118 1 116 117,ql 119 1 118,qm 120 11,qm 121 15,qa 122 121 1,qi 123 1 120 122,ql 124 1 123,qm 125 9,Rq 126 (.bin .sub (.c (.int .i64 64)) (.t 125)),Rq 127 (.bin .shl (.t 124) (.t 126)),Rq 128 (.bin .or (.t 119) (.t 127)),qi 129 1 116 117,qs 1 129 128]) (
 .skip)))))) (
.reg [qa 130 97 1,qm 97 130])))
def zxO:Fnc:=⟨[.t 4,.t 5],
.seq (
.reg [qz 4,qz 5]) (
.seq (
.seq (
.reg [qm 16 0,qm 17 1,qc2 18 158 16 17,Rq 19 (.bin .lss (.t 18) (.c (.int .i64 0)))]) (
.cond (.t 19) (
 .seq (
 .reg [qm 20 0,qz 4,qm 5 20]) (
 .ret)) (
 .skip))) (
.seq (
.seq (
.reg [qm 21 1,qn 22 1 21,qE 23 22 1]) (
.cond (.t 23) (
 .seq (
 .reg [qm 24 0,qn 25 1 24,Rq 26 (.mks 1 8 [.int .u64 0] (.t 25) (.t 25)),qm 6 26]) (
 .seq (
 .reg [Rq 7 (.mov (.c (.int .u64 0)))]) (
 .seq (
 .seq (
 .reg [qm 27 0,qn 28 1 27,Rq 29 (.bin .sub (.t 28) (.c (.int .i64 1))),qm 8 29]) (
 .seq (
 .blk 0 (
 .loop [0,1,6,7,8] zkm)) (
 .kp [6,7]))) (
 .seq (
 .reg [qm 49 6,qc1 50 166 49,qm 51 7,Rq 52 (.mksl 1 1 [.int .u64 0] [(0,1,(.t 51))]),qc1 53 166 52,qm 4 50,qm 5 53]) (
 .ret))))) (
 .skip))) (
.seq (
.reg [qm 54 1,qm 55 1,qn 56 1 55,Rq 57 (.bin .sub (.t 56) (.c (.int .i64 1))),qi 58 1 54 57,ql 59 1 58,qc1 60 167 59,qm 9 60]) (
.seq (
.reg [qm 61 1,qm 62 9,Rq 63 (.call .own (.c (.fn (.f 168) [] [])) [(.t 61),(.t 62)]),qc1 64 166 63,qm 10 64]) (
.seq (
.reg [qm 65 0,qm 66 9,Rq 67 (.call .own (.c (.fn (.f 168) [] [])) [(.t 65),(.t 66)]),qm 11 67]) (
.seq (
.reg [qm 68 10,qn 69 1 68,qm 12 69]) (
.seq (
.reg [qm 70 0,qn 71 1 70,qm 72 12,Rq 73 (.bin .sub (.t 71) (.t 72)),qa 74 73 1,Rq 75 (.mks 1 8 [.int .u64 0] (.t 74) (.t 74)),qm 13 75]) (
.seq (
.seq (
.reg [qm 76 0,qn 77 1 76,qm 78 12,Rq 79 (.bin .sub (.t 77) (.t 78)),qm 14 79]) (
.seq (
.blk 2 (
.loop [9,10,11,12,13,14] zjK)) (
.kp [9,11,12,13]))) (
.seq (
.seq (
.reg [qm 96 12,qk 97 0]) (
.seq (
.blk 4 (
.loop [9,11,12,13,96,97] zif)) (
.kp [11,12,13]))) (
.seq (
.reg [qm 131 13,qc1 132 166 131,qm 133 11,qm 134 12,Rq 135 (.sli (.sl 1) (.t 133) none (some (.t 134))),qc1 136 166 135,qm 4 132,qm 5 136]) (
.ret)))))))))))⟩
def zBW:Fnc:=⟨[.t 2],
.seq (
.reg [Rq 2 (.mov (.c (.int .u64 0)))]) (
.seq (
.seq (
.reg [qm 3 0,Rq 4 (.bin .lss (.t 3) (.c (.int .i64 0)))]) (
.cond (.t 4) (
 .seq (
 .reg [qm 5 0,Rq 6 (.un .neg (.t 5)),Rq 7 (.cv (.toInt .u64) (.t 6)),qm 2 7]) (
 .ret)) (
 .skip))) (
.seq (
.reg [qm 8 0,Rq 9 (.cv (.toInt .u64) (.t 8)),qm 2 9]) (
.ret)))⟩
def zkv:VC:=
.seq (
.reg [qT 30 29 28]) (
.seq (
.cond (.t 30) (
 .skip) (
 .exit 2)) (
.seq (
.blk 3 (
.seq (
.reg [qm 31 29,qi 32 1 27 29,ql 33 1 32,qm 9 31,qm 10 33]) (
.seq (
.reg [qm 35 7,qm 36 10,qc2 37 143 35 36,qm 34 37,qe 38 0 34,qe 39 1 34,qm 11 38,qm 12 39]) (
.seq (
.reg [Rq 13 (.mov (.c (.int .u64 0)))]) (
.seq (
.reg [qm 41 12,qm 42 5,qm 43 6,qm 44 9,qA 45 43 44,qi 46 1 42 45,ql 47 1 46,Rq 48 (.call .pure (.c (.fn (.f 171) [] [])) [(.t 41),(.t 47),(.c (.int .u64 0))]),qm 40 48,qe 49 0 40,qe 50 1 40,qm 12 49,qm 13 50]) (
.seq (
.reg [qm 51 11,qm 52 13,qA 53 51 52,qm 11 53]) (
.seq (
.reg [qm 55 12,qm 56 8,Rq 57 (.call .pure (.c (.fn (.f 171) [] [])) [(.t 55),(.t 56),(.c (.int .u64 0))]),qm 54 57,qe 58 0 54,qe 59 1 54,qm 12 58,qm 13 59]) (
.reg [qm 60 5,qm 61 6,qm 62 9,qA 63 61 62,qm 64 12,qm 65 11,qm 66 13,qA 67 65 66,qi 68 1 60 63,qs 1 68 64,qm 8 67])))))))) (
.reg [qa 69 29 1,qm 29 69])))
def zj1:VC:=
.seq (
.reg [qT 23 22 21]) (
.seq (
.cond (.t 23) (
 .skip) (
 .exit 0)) (
.seq (
.blk 1 (
.seq (
.reg [qm 24 22,qi 25 1 20 22,ql 26 1 25,qm 6 24,qm 7 26]) (
.seq (
.reg [Rq 8 (.mov (.c (.int .u64 0)))]) (
.seq (
.seq (
.reg [qm 27 1,qn 28 1 27,qk 29 0]) (
.seq (
.blk 2 (
.loop [1,5,6,7,8,20,21,22,27,28,29] zkv)) (
.kp [1,5,6,8,20,21,22]))) (
.reg [qm 70 5,qm 71 6,qm 72 1,qn 73 1 72,qA 74 71 73,qm 75 8,qi 76 1 70 74,qs 1 76 75]))))) (
.reg [qa 77 22 1,qm 22 77])))
def zAS:Fnc:=⟨[.t 4],
.seq (
.reg [qz 4]) (
.seq (
.reg [qm 14 0,qn 15 1 14,qm 16 1,qn 17 1 16,qA 18 15 17,Rq 19 (.mks 1 8 [.int .u64 0] (.t 18) (.t 18)),qm 5 19]) (
.seq (
.seq (
.reg [qm 20 0,qn 21 1 20,qk 22 0]) (
.seq (
.blk 0 (
.loop [1,5,20,21,22] zj1)) (
.kp [5]))) (
.seq (
.reg [qm 78 5,qc1 79 166 78,qm 4 79]) (
.ret))))⟩
def zmh:Fnc:=⟨[.cell 4 2 true],
.seq (
.reg [Rq 4 (.box 2 (.c (.agg [.int .i64 0,.nils])))]) (
.seq (
.blk 0 (
.seq (
.reg [qm 6 1,qn 7 1 6,qE 8 7 0,qm 5 8]) (
.cond (.t 5) (
 .seq (
 .reg [Rq 9 (.mkagg [.int .i64 0,.nils] []),qs 2 4 9]) (
 .ret)) (
 .seq (
 .reg [qm 11 1,qn 12 1 11,qE 13 12 1,qm 14 13,Rt 15 14 (.mov (.t 1)),Rt 16 14 (.ixa 1 (.t 15) (.c (.int .i64 0))),Rt 17 14 (.ld 1 false (.t 16)),Rt 18 14 (.bin .leq (.t 17) (.c (.int .u64 9223372036854775807))),qq 19 14 18,qm 20 19,Rt 21 20 (.mov (.t 0)),qq 22 20 21,qm 10 22]) (
 .cond (.t 10) (
 .seq (
 .reg [qm 23 1,Rq 24 (.ixa 1 (.t 23) (.c (.int .i64 0))),ql 25 1 24,Rq 26 (.cv (.toInt .i64) (.t 25)),Rq 27 (.un .neg (.t 26)),Rq 28 (.mkagg [.int .i64 0,.nils] [(0,1,(.t 27))]),qs 2 4 28]) (
 .ret)) (
 .seq (
 .reg [qm 30 1,qn 31 1 30,qE 32 31 1,qm 33 32,Rt 34 33 (.mov (.t 1)),Rt 35 33 (.ixa 1 (.t 34) (.c (.int .i64 0))),Rt 36 33 (.ld 1 false (.t 35)),Rt 37 33 (.bin .leq (.t 36) (.c (.int .u64 9223372036854775807))),qq 38 33 37,qm 29 38]) (
 .cond (.t 29) (
  .seq (
  .reg [qm 39 1,Rq 40 (.ixa 1 (.t 39) (.c (.int .i64 0))),ql 41 1 40,Rq 42 (.cv (.toInt .i64) (.t 41)),Rq 43 (.mkagg [.int .i64 0,.nils] [(0,1,(.t 42))]),qs 2 4 43]) (
  .ret)) (
  .seq (
  .reg [qm 45 0,qm 44 45]) (
  .cond (.t 44) (
  .seq (
  .reg [qm 46 1,Rq 47 (.mkagg [.int .i64 0,.nils] [(0,1,(.c (.int .i64 (-1)))),(1,1,(.t 46))]),qs 2 4 47]) (
  .ret)) (
  .skip)))))))))) (
.seq (
.reg [qm 48 1,Rq 49 (.mkagg [.int .i64 0,.nils] [(0,1,(.c (.int .i64 1))),(1,1,(.t 48))]),qs 2 4 49]) (
.ret)))⟩
def zmm:Fnc:=⟨[.t 2],
.seq (
.reg [qb 1 2 0,qk 2 0]) (
.seq (
.reg [qo 3 0 1,ql 4 1 3,Rq 5 (.mn [(.c (.int .i64 1)),(.t 4)]),Rq 6 (.mx [(.c (.int .i64 (-1))),(.t 5)]),qm 2 6]) (
.ret))⟩
def zlb:Fnc:=⟨[.cell 2 2 true],
.seq (
.reg [qb 1 2 0,Rq 2 (.box 2 (.c (.agg [.int .i64 0,.nils])))]) (
.seq (
.seq (
.reg [qo 5 1 1,ql 6 1 5,Rq 7 (.eq false .sl (.t 6) (.c (.nils))),qm 8 7,Rt 9 8 (.off 0 (.t 1)),Rt 10 8 (.ld 1 false (.t 9)),Rt 11 8 (.bin .neq (.t 10) (.c (.int .i64 (-9223372036854775808)))),qq 12 8 11]) (
.cond (.t 12) (
 .seq (
 .reg [qo 13 0 1,ql 14 1 13,Rq 15 (.un .neg (.t 14)),Rq 16 (.mkagg [.int .i64 0,.nils] [(0,1,(.t 15))]),qs 2 2 16]) (
 .ret)) (
 .skip))) (
.seq (
.reg [qL 18 2 1,qc1 19 136 18,qm 17 19,qe 20 0 17,qe 21 1 17,qm 3 20,qm 4 21]) (
.seq (
.reg [qm 22 3,Rq 23 (.un .not (.t 22)),qm 24 4,qc2 25 145 23 24,qs 2 2 25]) (
.ret))))⟩
def zuf:Fnc:=⟨[.cell 4 2 true],
.seq (
.reg [qb 2 2 0,qb 3 2 1,Rq 4 (.box 2 (.c (.agg [.int .i64 0,.nils])))]) (
.seq (
.seq (
.reg [qL 7 2 3,qc1 8 146 7,Rq 9 (.bin .lss (.t 8) (.c (.int .i64 0)))]) (
.cond (.t 9) (
 .reg [qL 10 2 2,qc1 11 147 10,qL 12 2 3,qc1 13 147 12,qs 2 2 11,qs 2 3 13]) (
 .skip))) (
.seq (
.reg [qL 15 2 2,qL 16 2 3,qc2 17 164 15 16,qm 14 17,qe 18 0 14,qe 19 1 14,Rq 5 (.box 2 (.c (.agg [.int .i64 0,.nils]))),Rq 6 (.box 2 (.c (.agg [.int .i64 0,.nils]))),qs 2 5 18,qs 2 6 19]) (
.seq (
.reg [qL 20 2 5,qs 2 4 20]) (
.ret))))⟩
def zAM:Fnc:=⟨[.cell 2 2 true],
.seq (
.reg [qb 1 4 0,Rq 2 (.box 2 (.c (.agg [.int .i64 0,.nils])))]) (
.seq (
.reg [qo 6 0 1,qL 7 2 6,qo 8 2 1,qL 9 2 8,qc2 10 164 7 9,qm 5 10,qe 11 0 5,qe 12 1 5,Rq 3 (.box 2 (.c (.agg [.int .i64 0,.nils]))),Rq 4 (.box 2 (.c (.agg [.int .i64 0,.nils]))),qs 2 3 11,qs 2 4 12]) (
.seq (
.reg [qL 13 2 3,qs 2 2 13]) (
.ret)))⟩
def zQZ:Fnc:=⟨[.t 2,.t 3],
.seq (
.reg [qb 1 2 0,qk 2 0,qf 3]) (
.seq (
.reg [qo 4 0 1,ql 5 1 4,qo 6 1 1,ql 7 1 6,Rq 8 (.eq false .sl (.t 7) (.c (.nils))),qm 2 5,qm 3 8]) (
.ret))⟩
def zAq:Fnc:=⟨[.t 2],
.seq (
.reg [qb 1 2 0,qf 2]) (
.seq (
.reg [qL 3 2 1,qc1 4 172 3,Rq 5 (.bin .gtr (.t 4) (.c (.int .i64 1800))),qm 6 5,Rt 7 6 (.ld 2 true (.t 1)),Rt 8 6 (.call .pure (.c (.fn (.f 99) [] [])) [(.t 7)]),Rt 9 6 (.call .pure (.c (.fn (.f 153) [] [])) [(.t 8),(.c (.str [45]))]),Rt 10 6 (.len 0 (.t 9)),Rt 11 6 (.bin .gtr (.t 10) (.c (.int .i64 600))),qq 12 6 11,qm 2 12]) (
.ret))⟩
def zgP:VC:=
.seq (
.seq (
.reg [qm 7 1,Rq 8 (.bin .gtr (.t 7) (.c (.int .i64 0)))]) (
.cond (.t 8) (
 .skip) (
 .exit 0))) (
.seq (
.blk 1 (
.seq (
.seq (
.reg [qm 11 1,Rq 12 (.bin .and (.t 11) (.c (.int .i64 1))),qE 13 12 1]) (
.cond (.t 13) (
 .reg [qL 14 2 5,qL 15 2 2,qc2 16 100 14 15,qs 2 5 16]) (
 .skip))) (
.seq (
.reg [qm 17 1,Rq 18 (.bin .gtr (.t 17) (.c (.int .i64 1)))]) (
.cond (.t 18) (
 .reg [qL 19 2 2,qL 20 2 2,qc2 21 100 19 20,qs 2 2 21]) (
 .skip))))) (
.reg [qm 9 1,Rq 10 (.bin .shr (.t 9) (.c (.int .u64 1))),qm 1 10]))
def zCK:Fnc:=⟨[.cell 4 2 true],
.seq (
.reg [qb 2 2 0,Rq 4 (.box 2 (.c (.agg [.int .i64 0,.nils])))]) (
.seq (
.reg [Rq 6 (.call .pure (.c (.fn (.f 117) [] [])) [(.c (.int .i64 1))]),Rq 5 (.box 2 (.c (.agg [.int .i64 0,.nils]))),qs 2 5 6]) (
.seq (
.seq (
.blk 0 (
.loop [1,2,4,5] zgP)) (
.kp [4,5])) (
.seq (
.reg [qL 22 2 5,qs 2 4 22]) (
.ret))))⟩
def zG9:Fnc:=⟨[.cell 4 2 true],
.seq (
.reg [qb 2 2 0,qb 3 2 1,Rq 4 (.box 2 (.c (.agg [.int .i64 0,.nils])))]) (
.seq (
.reg [qL 5 2 2,qL 6 2 3,qc1 7 147 6,qc2 8 119 5 7,qs 2 4 8]) (
.ret))⟩
def zgV:VC:=
.seq (
.reg [qT 23 22 21]) (
.seq (
.cond (.t 23) (
 .skip) (
 .exit 0)) (
.seq (
.blk 1 (
.seq (
.reg [qm 24 22,qm 7 24]) (
.seq (
.reg [Rq 8 (.mov (.c (.int .u64 0)))]) (
.seq (
.seq (
.reg [qm 25 7,qm 26 1,qn 27 1 26,qT 28 25 27]) (
.cond (.t 28) (
 .reg [qm 29 1,qm 30 7,qi 31 1 29 30,ql 32 1 31,qm 8 32]) (
 .skip))) (
.reg [qm 34 5,qm 35 7,qm 36 0,qm 37 7,qi 38 1 36 37,ql 39 1 38,qm 40 8,qm 41 6,qc3 42 171 39 40 41,qm 33 42,qe 43 0 33,qe 44 1 33,qi 45 1 34 35,qs 1 45 43,qm 6 44]))))) (
.reg [qa 46 22 1,qm 22 46])))
def zxm:Fnc:=⟨[.t 4],
.seq (
.reg [qz 4]) (
.seq (
.seq (
.reg [qm 9 0,qn 10 1 9,qm 11 1,qn 12 1 11,qT 13 10 12]) (
.cond (.t 13) (
 .reg [qm 14 1,qm 15 0,qm 0 14,qm 1 15]) (
 .skip))) (
.seq (
.reg [qm 16 0,qn 17 1 16,qa 18 17 1,Rq 19 (.mks 1 8 [.int .u64 0] (.t 18) (.t 18)),qm 5 19]) (
.seq (
.reg [Rq 6 (.mov (.c (.int .u64 0)))]) (
.seq (
.seq (
.reg [qm 20 0,qn 21 1 20,qk 22 0]) (
.seq (
.blk 0 (
.loop [0,1,5,6,21,22] zgV)) (
.kp [0,5,6]))) (
.seq (
.reg [qm 47 5,qm 48 0,qn 49 1 48,qm 50 6,qi 51 1 47 49,qs 1 51 50]) (
.seq (
.reg [qm 52 5,qc1 53 166 52,qm 4 53]) (
.ret)))))))⟩
def zgQ:VC:=
.seq (
.seq (
.reg [qm 19 5,Rq 20 (.bin .geq (.t 19) (.c (.int .i64 0)))]) (
.cond (.t 20) (
 .skip) (
 .exit 0))) (
.seq (
.blk 1 (
.seq (
.reg [qm 23 0,qm 24 5,qi 25 1 23 24,ql 26 1 25,qm 27 1,qm 28 5,qi 29 1 27 28,ql 30 1 29,Rq 31 (.bin .neq (.t 26) (.t 30))]) (
.cond (.t 31) (
 .seq (
 .seq (
 .reg [qm 32 0,qm 33 5,qi 34 1 32 33,ql 35 1 34,qm 36 1,qm 37 5,qi 38 1 36 37,ql 39 1 38,qT 40 35 39]) (
 .cond (.t 40) (
 .seq (
 .reg [qk 4 (-1)]) (
 .ret)) (
 .skip))) (
 .seq (
 .reg [qk 4 1]) (
 .ret))) (
 .skip)))) (
.reg [qm 21 5,Rq 22 (.bin .sub (.t 21) (.c (.int .i64 1))),qm 5 22]))
def zvC:Fnc:=⟨[.t 4],
.seq (
.reg [qk 4 0]) (
.seq (
.seq (
.reg [qm 6 0,qn 7 1 6,qm 8 1,qn 9 1 8,Rq 10 (.bin .neq (.t 7) (.t 9))]) (
.cond (.t 10) (
 .seq (
 .seq (
 .reg [qm 11 0,qn 12 1 11,qm 13 1,qn 14 1 13,qT 15 12 14]) (
 .cond (.t 15) (
 .seq (
 .reg [qk 4 (-1)]) (
 .ret)) (
 .skip))) (
 .seq (
 .reg [qk 4 1]) (
 .ret))) (
 .skip))) (
.seq (
.seq (
.reg [qm 16 0,qn 17 1 16,Rq 18 (.bin .sub (.t 17) (.c (.int .i64 1))),qm 5 18]) (
.seq (
.blk 0 (
.loop [0,1,5] zgQ)) (
.kp []))) (
.seq (
.reg [qk 4 0]) (
.ret))))⟩
def zhQ:VC:=
.seq (
.reg [qT 15 14 13]) (
.seq (
.cond (.t 15) (
 .skip) (
 .exit 0)) (
.seq (
.blk 1 (
.seq (
.reg [qm 16 14,qm 7 16]) (
.seq (
.reg [Rq 8 (.mov (.c (.int .u64 0)))]) (
.seq (
.seq (
.reg [qm 17 7,qm 18 1,qn 19 1 18,qT 20 17 19]) (
.cond (.t 20) (
 .reg [qm 21 1,qm 22 7,qi 23 1 21 22,ql 24 1 23,qm 8 24]) (
 .skip))) (
.reg [qm 26 5,qm 27 7,qm 28 0,qm 29 7,qi 30 1 28 29,ql 31 1 30,qm 32 8,qm 33 6,qc3 34 173 31 32 33,qm 25 34,qe 35 0 25,qe 36 1 25,qi 37 1 26 27,qs 1 37 35,qm 6 36]))))) (
.reg [qa 38 14 1,qm 14 38])))
def zBG:Fnc:=⟨[.t 4],
.seq (
.reg [qz 4]) (
.seq (
.reg [qm 9 0,qn 10 1 9,Rq 11 (.mks 1 8 [.int .u64 0] (.t 10) (.t 10)),qm 5 11]) (
.seq (
.reg [Rq 6 (.mov (.c (.int .u64 0)))]) (
.seq (
.seq (
.reg [qm 12 0,qn 13 1 12,qk 14 0]) (
.seq (
.blk 0 (
.loop [0,1,5,6,13,14] zhQ)) (
.kp [5]))) (
.seq (
.reg [qm 39 5,qc1 40 166 39,qm 4 40]) (
.ret)))))⟩
def zFi:VC:=
.seq (
.reg [qT 9 8 7]) (
.seq (
.cond (.t 9) (
 .skip) (
 .exit 0)) (
.seq (
.blk 1 (
.seq (
.reg [qi 10 1 6 8,ql 11 1 10,qm 4 11]) (
.seq (
.reg [qm 12 4,qc1 13 86 12,qm 5 13]) (
.seq (
.reg [qm 14 5,qN 15 14 0]) (
.cond (.t 15) (
 .seq (
 .reg [qm 16 5,qm 2 16]) (
 .ret)) (
 .skip)))))) (
.reg [qa 17 8 1,qm 8 17])))
def zPO:Fnc:=⟨[.t 2],
.seq (
.reg [qk 2 0]) (
.seq (
.seq (
.reg [qm 6 0,qn 7 1 6,qk 8 0]) (
.seq (
.blk 0 (
.loop [6,7,8] zFi)) (
.kp []))) (
.seq (
.reg [qk 2 0]) (
.ret)))⟩
def zmR:Fnc:=⟨[.cell 2 2 true],
.seq (
.reg [qb 1 2 0,Rq 2 (.box 2 (.c (.agg [.int .i64 0,.nils])))]) (
.seq (
.seq (
.reg [qo 3 0 1,ql 4 1 3,Rq 5 (.bin .lss (.t 4) (.c (.int .i64 0)))]) (
.cond (.t 5) (
 .seq (
 .reg [qL 6 2 1,qc1 7 147 6,qs 2 2 7]) (
 .ret)) (
 .skip))) (
.seq (
.reg [qL 8 2 1,qs 2 2 8]) (
.ret)))⟩
def c164:Fnc:=⟨[.cell 4 2 true,.cell 5 2 true],
.seq (
.reg [qb 2 2 0,qb 3 2 1,Rq 4 (.box 2 (.c (.agg [.int .i64 0,.nils]))),Rq 5 (.box 2 (.c (.agg [.int .i64 0,.nils])))]) (
.seq (
.seq (
.reg [qo 16 1 2,ql 17 1 16,Rq 18 (.eq false .sl (.t 17) (.c (.nils))),qm 19 18,Rt 20 19 (.off 1 (.t 3)),Rt 21 19 (.ld 1 false (.t 20)),Rt 22 19 (.eq false .sl (.t 21) (.c (.nils))),qq 23 19 22,qm 24 23,Rt 25 24 (.off 0 (.t 2)),Rt 26 24 (.ld 1 false (.t 25)),Rt 27 24 (.bin .neq (.t 26) (.c (.int .i64 (-9223372036854775808)))),qq 28 24 27]) (
.cond (.t 28) (
 .seq (
 .reg [qo 29 0 2,ql 30 1 29,qo 31 0 3,ql 32 1 31,Rq 33 (.bin .quo (.t 30) (.t 32)),qo 34 0 2,ql 35 1 34,qo 36 0 3,ql 37 1 36,Rq 38 (.bin .rem (.t 35) (.t 37)),qm 6 33,qm 7 38]) (
 .seq (
 .seq (
 .reg [qm 39 7,Rq 40 (.bin .lss (.t 39) (.c (.int .i64 0)))]) (
 .cond (.t 40) (
 .reg [qm 41 6,Rq 42 (.bin .sub (.t 41) (.c (.int .i64 1))),qm 43 7,qo 44 0 3,ql 45 1 44,qA 46 43 45,qm 6 42,qm 7 46]) (
 .skip))) (
 .seq (
 .reg [qm 47 6,Rq 48 (.mkagg [.int .i64 0,.nils] [(0,1,(.t 47))]),qm 49 7,Rq 50 (.mkagg [.int .i64 0,.nils] [(0,1,(.t 49))]),qs 2 4 48,qs 2 5 50]) (
 .ret)))) (
 .skip))) (
.seq (
.reg [qL 52 2 2,qc1 53 136 52,qm 51 53,qe 54 0 51,qe 55 1 51,qm 8 54,qm 9 55]) (
.seq (
.reg [qL 57 2 3,qc1 58 136 57,qm 56 58,qe 59 0 56,qe 60 1 56,qm 10 59,qm 11 60]) (
.seq (
.reg [qm 62 9,qm 63 11,qc2 64 137 62 63,qm 61 64,qe 65 0 61,qe 66 1 61,qm 12 65,qm 13 66]) (
.seq (
.reg [qm 67 8,qm 68 12,qc2 69 145 67 68,qm 70 8,qm 71 13,qc2 72 145 70 71,Rq 14 (.box 2 (.c (.agg [.int .i64 0,.nils]))),Rq 15 (.box 2 (.c (.agg [.int .i64 0,.nils]))),qs 2 14 69,qs 2 15 72]) (
.seq (
.seq (
.reg [qL 73 2 15,qc1 74 146 73,Rq 75 (.bin .lss (.t 74) (.c (.int .i64 0)))]) (
.cond (.t 75) (
 .reg [qL 76 2 14,Rq 77 (.call .pure (.c (.fn (.f 117) [] [])) [(.c (.int .i64 1))]),qc2 78 156 76 77,qL 79 2 15,qL 80 2 3,qc2 81 119 79 80,qs 2 14 78,qs 2 15 81]) (
 .skip))) (
.seq (
.reg [qL 82 2 14,qL 83 2 15,⟨none,none,.std [(2,true,15)] 2 (.t 4) (.t 82)⟩,qs 2 5 83]) (
.ret))))))))⟩
def zfM:VC:=
.seq (
.seq (
.reg [qm 67 15,Rq 68 (.bin .geq (.t 67) (.c (.int .u64 4294967296))),qm 69 68,Rf 70 69 (.mov (.t 15)),Rf 71 69 (.mov (.t 10)),Rf 72 69 (.bin .mul (.t 70) (.t 71)),Rf 73 69 (.mov (.t 16)),Rf 74 69 (.bin .mul (.c (.int .u64 4294967296)) (.t 73)),Rf 75 69 (.mov (.t 13)),Rf 76 69 (.bin .add (.t 74) (.t 75)),Rf 77 69 (.bin .gtr (.t 72) (.t 76)),qp 78 69 77]) (
.cond (.t 78) (
 .skip) (
 .exit 0))) (
.blk 1 (
.seq (
.reg [qm 79 15,Rq 80 (.bin .sub (.t 79) (.c (.int .u64 1))),qm 15 80]) (
.seq (
.reg [qm 81 16,qm 82 9,qA 83 81 82,qm 16 83]) (
.seq (
.reg [qm 84 16,Rq 85 (.bin .geq (.t 84) (.c (.int .u64 4294967296)))]) (
.cond (.t 85) (
 .exit 0) (
 .skip))))))
def zfC:VC:=
.seq (
.seq (
.reg [qm 102 18,Rq 103 (.bin .geq (.t 102) (.c (.int .u64 4294967296))),qm 104 103,Rf 105 104 (.mov (.t 18)),Rf 106 104 (.mov (.t 10)),Rf 107 104 (.bin .mul (.t 105) (.t 106)),Rf 108 104 (.mov (.t 16)),Rf 109 104 (.bin .mul (.c (.int .u64 4294967296)) (.t 108)),Rf 110 104 (.mov (.t 14)),Rf 111 104 (.bin .add (.t 109) (.t 110)),Rf 112 104 (.bin .gtr (.t 107) (.t 111)),qp 113 104 112]) (
.cond (.t 113) (
 .skip) (
 .exit 2))) (
.blk 3 (
.seq (
.reg [qm 114 18,Rq 115 (.bin .sub (.t 114) (.c (.int .u64 1))),qm 18 115]) (
.seq (
.reg [qm 116 16,qm 117 9,qA 118 116 117,qm 16 118]) (
.seq (
.reg [qm 119 16,Rq 120 (.bin .geq (.t 119) (.c (.int .u64 4294967296)))]) (
.cond (.t 120) (
 .exit 2) (
 .skip))))))
def zwz:Fnc:=⟨[.t 6,.t 7],
.seq (
.reg [Rq 6 (.mov (.c (.int .u64 0))),Rq 7 (.mov (.c (.int .u64 0)))]) (
.seq (
.seq (
.reg [qm 19 2,Rq 20 (.bin .eql (.t 19) (.c (.int .u64 0)))]) (
.cond (.t 20) (
 .reg [Rq 21 (.ld 1 false (.c (.undef))),⟨none,none,.call .pure (.c (.undef)) []⟩]) (
 .skip))) (
.seq (
.seq (
.reg [qm 22 2,qm 23 0,Rq 24 (.bin .leq (.t 22) (.t 23))]) (
.cond (.t 24) (
 .reg [Rq 25 (.ld 1 false (.c (.undef))),⟨none,none,.call .pure (.c (.undef)) []⟩]) (
 .skip))) (
.seq (
.seq (
.reg [qm 26 0,Rq 27 (.bin .eql (.t 26) (.c (.int .u64 0)))]) (
.cond (.t 27) (
 .seq (
 .reg [qm 28 1,qm 29 2,Rq 30 (.bin .quo (.t 28) (.t 29)),qm 31 1,qm 32 2,Rq 33 (.bin .rem (.t 31) (.t 32)),qm 6 30,qm 7 33]) (
 .ret)) (
 .skip))) (
.seq (
.reg [qm 34 2,qc1 35 167 34,Rq 36 (.cv (.toInt .u64) (.t 35)),qm 8 36]) (
.seq (
.reg [qm 37 2,qm 38 8,Rq 39 (.bin .shl (.t 37) (.t 38)),qm 2 39]) (
.seq (
.reg [qm 40 2,Rq 41 (.bin .shr (.t 40) (.c (.int .u64 32))),qm 9 41]) (
.seq (
.reg [qm 42 2,Rq 43 (.bin .and (.t 42) (.c (.int .u64 4294967295))),qm 10 43]) (
.seq (
.reg [qm 44 0,qm 45 8,Rq 46 (.bin .shl (.t 44) (.t 45)),qm 47 1,qm 48 8,Rq 49 (.bin .sub (.c (.int .u64 64)) (.t 48)),Rq 50 (.bin .shr (.t 47) (.t 49)),Rq 51 (.bin .or (.t 46) (.t 50)),qm 11 51]) (
.seq (
.reg [qm 52 1,qm 53 8,Rq 54 (.bin .shl (.t 52) (.t 53)),qm 12 54]) (
.seq (
.reg [qm 55 12,Rq 56 (.bin .shr (.t 55) (.c (.int .u64 32))),qm 13 56]) (
.seq (
.reg [qm 57 12,Rq 58 (.bin .and (.t 57) (.c (.int .u64 4294967295))),qm 14 58]) (
.seq (
.reg [qm 59 11,qm 60 9,Rq 61 (.bin .quo (.t 59) (.t 60)),qm 15 61]) (
.seq (
.reg [qm 62 11,qm 63 15,qm 64 9,Rq 65 (.bin .mul (.t 63) (.t 64)),Rq 66 (.bin .sub (.t 62) (.t 65)),qm 16 66]) (
.seq (
.seq (
.blk 0 (
.loop [2,8,9,10,11,13,14,15,16] zfM)) (
.kp [2,8,9,10,11,13,14,15])) (
.seq (
.reg [qm 86 11,Rq 87 (.bin .mul (.t 86) (.c (.int .u64 4294967296))),qm 88 13,qA 89 87 88,qm 90 15,qm 91 2,Rq 92 (.bin .mul (.t 90) (.t 91)),Rq 93 (.bin .sub (.t 89) (.t 92)),qm 17 93]) (
.seq (
.reg [qm 94 17,qm 95 9,Rq 96 (.bin .quo (.t 94) (.t 95)),qm 18 96]) (
.seq (
.reg [qm 97 17,qm 98 18,qm 99 9,Rq 100 (.bin .mul (.t 98) (.t 99)),Rq 101 (.bin .sub (.t 97) (.t 100)),qm 16 101]) (
.seq (
.seq (
.blk 2 (
.loop [2,8,9,10,14,15,16,17,18] zfC)) (
.kp [2,8,14,15,17,18])) (
.seq (
.reg [qm 121 15,Rq 122 (.bin .mul (.t 121) (.c (.int .u64 4294967296))),qm 123 18,qA 124 122 123,qm 125 17,Rq 126 (.bin .mul (.t 125) (.c (.int .u64 4294967296))),qm 127 14,qA 128 126 127,qm 129 18,qm 130 2,Rq 131 (.bin .mul (.t 129) (.t 130)),Rq 132 (.bin .sub (.t 128) (.t 131)),qm 133 8,Rq 134 (.bin .shr (.t 132) (.t 133)),qm 6 124,qm 7 134]) (
.ret))))))))))))))))))))⟩
def zgo:VC:=
.seq (
.seq (
.reg [qm 6 3,Rq 7 (.bin .gtr (.t 6) (.c (.int .i64 0))),qm 8 7,Rt 9 8 (.mov (.t 0)),Rt 10 8 (.mov (.t 3)),Rt 11 8 (.bin .sub (.t 10) (.c (.int .i64 1))),Rt 12 8 (.ixa 1 (.t 9) (.t 11)),Rt 13 8 (.ld 1 false (.t 12)),Rt 14 8 (.bin .eql (.t 13) (.c (.int .u64 0))),qq 15 8 14]) (
.cond (.t 15) (
 .skip) (
 .exit 0))) (
.blk 1 (
.reg [qm 16 3,Rq 17 (.bin .sub (.t 16) (.c (.int .i64 1))),qm 3 17]))
def zne:Fnc:=⟨[.t 2],
.seq (
.reg [qz 2]) (
.seq (
.reg [qm 4 0,qn 5 1 4,qm 3 5]) (
.seq (
.seq (
.blk 0 (
.loop [0,3] zgo)) (
.kp [0,3])) (
.seq (
.reg [qm 18 0,qm 19 3,Rq 20 (.sli (.sl 1) (.t 18) none (some (.t 19))),qm 2 20]) (
.ret))))⟩
def zhS:VC:=
.seq (
.reg [qT 15 14 13]) (
.seq (
.cond (.t 15) (
 .skip) (
 .exit 0)) (
.seq (
.blk 1 (
.seq (
.reg [qm 16 14,qi 17 1 12 14,ql 18 1 17,qm 6 16,qm 7 18]) (
.seq (
.reg [qm 19 5,qm 20 6,qi 21 1 19 20,ql 22 1 21,qm 23 7,qm 24 1,Rq 25 (.bin .shl (.t 23) (.t 24)),Rq 26 (.bin .or (.t 22) (.t 25)),qi 27 1 19 20,qs 1 27 26]) (
.seq (
.reg [qm 28 1,Rq 29 (.bin .gtr (.t 28) (.c (.int .i64 0)))]) (
.cond (.t 29) (
 .reg [qm 30 5,qm 31 6,qa 32 31 1,qm 33 7,qm 34 1,Rq 35 (.bin .sub (.c (.int .i64 64)) (.t 34)),Rq 36 (.bin .shr (.t 33) (.t 35)),qi 37 1 30 32,qs 1 37 36]) (
 .skip)))))) (
.reg [qa 38 14 1,qm 14 38])))
def zAo:Fnc:=⟨[.t 4],
.seq (
.reg [qz 4]) (
.seq (
.reg [qm 8 0,qn 9 1 8,qa 10 9 1,Rq 11 (.mks 1 8 [.int .u64 0] (.t 10) (.t 10)),qm 5 11]) (
.seq (
.seq (
.reg [qm 12 0,qn 13 1 12,qk 14 0]) (
.seq (
.blk 0 (
.loop [1,5,12,13,14] zhS)) (
.kp [5]))) (
.seq (
.reg [qm 39 5,qm 4 39]) (
.ret))))⟩
def zeX:VC:=
.seq (
.seq (
.reg [qm 63 8,Rq 64 (.bin .eql (.t 63) (.c (.int .u64 0)))]) (
.cond (.t 64) (
 .skip) (
 .exit 0))) (
.blk 1 (
.seq (
.reg [qm 66 6,qm 67 1,qm 68 5,Rq 69 (.bin .sub (.t 68) (.c (.int .i64 2))),qi 70 1 67 69,ql 71 1 70,qc2 72 143 66 71,qm 65 72,qe 73 0 65,qe 74 1 65,qm 9 73,qm 10 74]) (
.seq (
.seq (
.reg [qm 75 9,qm 76 7,qT 77 75 76,qm 78 77,Rf 79 78 (.mov (.t 9)),Rf 80 78 (.mov (.t 7)),Rf 81 78 (.bin .eql (.t 79) (.t 80)),Rf 82 78 (.mov (.t 81)),Rt 83 82 (.mov (.t 10)),Rt 84 82 (.mov (.t 0)),Rt 85 82 (.mov (.t 5)),Rt 86 82 (.bin .sub (.t 85) (.c (.int .i64 2))),Rt 87 82 (.ixa 1 (.t 84) (.t 86)),Rt 88 82 (.ld 1 false (.t 87)),Rt 89 82 (.bin .leq (.t 83) (.t 88)),Rf 90 78 (.pick (.t 82) (.t 89) (.c (.bool false))),qp 91 78 90]) (
.cond (.t 91) (
 .exit 0) (
 .skip))) (
.seq (
.reg [qm 92 6,Rq 93 (.bin .sub (.t 92) (.c (.int .u64 1))),qm 6 93]) (
.reg [qm 95 7,qm 96 1,qm 97 5,Rq 98 (.bin .sub (.t 97) (.c (.int .i64 1))),qi 99 1 96 98,ql 100 1 99,Rq 101 (.call .pure (.c (.fn (.f 171) [] [])) [(.t 95),(.t 100),(.c (.int .u64 0))]),qm 94 101,qe 102 0 94,qe 103 1 94,qm 7 102,qm 8 103])))))
def zjx:VC:=
.seq (
.reg [qT 106 105 104]) (
.seq (
.cond (.t 106) (
 .skip) (
 .exit 2)) (
.seq (
.blk 3 (
.seq (
.reg [qm 107 105,qm 13 107]) (
.seq (
.reg [qm 109 6,qm 110 1,qm 111 13,qi 112 1 110 111,ql 113 1 112,qc2 114 143 109 113,qm 108 114,qe 115 0 108,qe 116 1 108,qm 14 115,qm 15 116]) (
.seq (
.reg [Rq 16 (.mov (.c (.int .u64 0)))]) (
.seq (
.reg [qm 118 15,qm 119 12,Rq 120 (.call .pure (.c (.fn (.f 171) [] [])) [(.t 118),(.t 119),(.c (.int .u64 0))]),qm 117 120,qe 121 0 117,qe 122 1 117,qm 15 121,qm 16 122]) (
.seq (
.reg [qm 123 14,qm 124 16,qA 125 123 124,qm 12 125]) (
.reg [qm 127 0,qm 128 13,qm 129 0,qm 130 13,qi 131 1 129 130,ql 132 1 131,qm 133 15,qm 134 11,qc3 135 173 132 133 134,qm 126 135,qe 136 0 126,qe 137 1 126,qi 138 1 127 128,qs 1 138 136,qm 11 137]))))))) (
.reg [qa 139 105 1,qm 105 139])))
def zkk:VC:=
.seq (
.reg [qT 158 157 156]) (
.seq (
.cond (.t 158) (
 .skip) (
 .exit 4)) (
.seq (
.blk 5 (
.seq (
.reg [qm 159 157,qm 18 159]) (
.reg [qm 161 0,qm 162 18,qm 163 0,qm 164 18,qi 165 1 163 164,ql 166 1 165,qm 167 1,qm 168 18,qi 169 1 167 168,ql 170 1 169,qm 171 17,qc3 172 171 166 170 171,qm 160 172,qe 173 0 160,qe 174 1 160,qi 175 1 161 162,qs 1 175 173,qm 17 174]))) (
.reg [qa 176 157 1,qm 157 176])))
def c169:Fnc:=⟨[.t 4],
.seq (
.reg [Rq 4 (.mov (.c (.int .u64 0)))]) (
.seq (
.reg [qm 19 1,qn 20 1 19,qm 5 20]) (
.seq (
.reg [Rq 6 (.mov (.c (.int .u64 0))),Rq 7 (.mov (.c (.int .u64 0)))]) (
.seq (
.reg [Rq 8 (.mov (.c (.int .u64 0)))]) (
.seq (
.seq (
.reg [qm 21 0,qm 22 5,qi 23 1 21 22,ql 24 1 23,qm 25 1,qm 26 5,Rq 27 (.bin .sub (.t 26) (.c (.int .i64 1))),qi 28 1 25 27,ql 29 1 28,Rq 30 (.bin .geq (.t 24) (.t 29))]) (
.cond (.t 30) (
 .seq (
 .reg [Rq 6 (.mov (.c (.int .u64 18446744073709551615)))]) (
 .reg [qm 32 0,qm 33 5,Rq 34 (.bin .sub (.t 33) (.c (.int .i64 1))),qi 35 1 32 34,ql 36 1 35,qm 37 1,qm 38 5,Rq 39 (.bin .sub (.t 38) (.c (.int .i64 1))),qi 40 1 37 39,ql 41 1 40,Rq 42 (.call .pure (.c (.fn (.f 171) [] [])) [(.t 36),(.t 41),(.c (.int .u64 0))]),qm 31 42,qe 43 0 31,qe 44 1 31,qm 7 43,qm 8 44])) (
 .reg [qm 46 0,qm 47 5,qi 48 1 46 47,ql 49 1 48,qm 50 0,qm 51 5,Rq 52 (.bin .sub (.t 51) (.c (.int .i64 1))),qi 53 1 50 52,ql 54 1 53,qm 55 1,qm 56 5,Rq 57 (.bin .sub (.t 56) (.c (.int .i64 1))),qi 58 1 55 57,ql 59 1 58,qc3 60 165 49 54 59,qm 45 60,qe 61 0 45,qe 62 1 45,qm 6 61,qm 7 62]))) (
.seq (
.seq (
.blk 0 (
.loop [0,1,5,6,7,8] zeX)) (
.kp [0,1,5,6])) (
.seq (
.reg [Rq 11 (.mov (.c (.int .u64 0))),Rq 12 (.mov (.c (.int .u64 0)))]) (
.seq (
.seq (
.reg [qm 104 5,qk 105 0]) (
.seq (
.blk 2 (
.loop [0,1,5,6,11,12,104,105] zjx)) (
.kp [0,1,5,6,11,12]))) (
.seq (
.reg [qm 141 0,qm 142 5,qm 143 0,qm 144 5,qi 145 1 143 144,ql 146 1 145,qm 147 12,qm 148 11,qc3 149 173 146 147 148,qm 140 149,qe 150 0 140,qe 151 1 140,qi 152 1 141 142,qs 1 152 150,qm 11 151]) (
.seq (
.seq (
.reg [qm 153 11,Rq 154 (.bin .eql (.t 153) (.c (.int .u64 0)))]) (
.cond (.t 154) (
 .seq (
 .reg [qm 155 6,qm 4 155]) (
 .ret)) (
 .skip))) (
.seq (
.reg [Rq 17 (.mov (.c (.int .u64 0)))]) (
.seq (
.seq (
.reg [qm 156 5,qk 157 0]) (
.seq (
.blk 4 (
.loop [0,1,5,6,17,156,157] zkk)) (
.kp [0,5,6,17]))) (
.seq (
.reg [qm 177 0,qm 178 5,qi 179 1 177 178,ql 180 1 179,qm 181 17,qA 182 180 181,qi 183 1 177 178,qs 1 183 182]) (
.seq (
.reg [qm 184 6,Rq 185 (.bin .sub (.t 184) (.c (.int .u64 1))),qm 4 185]) (
.ret))))))))))))))⟩
def zBA:Fnc:=⟨[.t 2],
.seq (
.reg [qb 1 2 0,qk 2 0]) (
.seq (
.reg [qL 6 2 1,qc1 7 136 6,qm 5 7,qe 8 0 5,qe 9 1 5,qm 3 8,qm 4 9]) (
.seq (
.seq (
.reg [qm 10 4,qn 11 1 10,qE 12 11 0]) (
.cond (.t 12) (
 .seq (
 .reg [qk 2 0]) (
 .ret)) (
 .skip))) (
.seq (
.reg [qm 13 4,qn 14 1 13,Rq 15 (.bin .sub (.t 14) (.c (.int .i64 1))),Rq 16 (.bin .mul (.c (.int .i64 64)) (.t 15)),qm 17 4,qm 18 4,qn 19 1 18,Rq 20 (.bin .sub (.t 19) (.c (.int .i64 1))),qi 21 1 17 20,ql 22 1 21,qc1 23 175 22,qA 24 16 23,qm 2 24]) (
.ret))))⟩
end VE
