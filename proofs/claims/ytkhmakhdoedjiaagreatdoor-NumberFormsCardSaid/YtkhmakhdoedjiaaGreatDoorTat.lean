import Derived.Test.YtkhmakhdoedjiaaGreatDoorTas
set_option linter.all false
set_option maxRecDepth 100000
section
namespace VE
def zFM:VC:=
.seq (
.reg [qT 23 22 21]) (
.seq (
.cond (.t 23) (
 .skip) (
 .exit 0)) (
.seq (
.blk 1 (
.seq (
.reg [qm 24 22,qm 8 24]) (
.reg [qm 25 7,qm 26 8,Rq 27 (.mksl 1 1 [.int .i64 0] [(0,1,(.t 26))]),Rq 28 (.app 1 8 (.t 25) (.t 27)),qm 7 28]))) (
.reg [qa 29 22 1,qm 22 29])))
def zEq:VC:=
.seq (
.seq (
.reg [qm 33 10,Rq 34 (.bin .gtr (.t 33) (.c (.int .i64 0)))]) (
.cond (.t 34) (
 .skip) (
 .exit 2))) (
.seq (
.blk 3 (
.seq (
.reg [qm 37 9,Rq 38 (.bin .mul (.c (.int .i64 39373)) (.t 37)),Rq 39 (.bin .rem (.t 38) (.c (.int .i64 2147483647))),qm 9 39]) (
.seq (
.reg [qm 40 9,qm 41 10,qa 42 41 1,Rq 43 (.bin .rem (.t 40) (.t 42)),qm 11 43]) (
.reg [qm 44 7,qm 45 10,qm 46 7,qm 47 11,qm 48 7,qm 49 11,qi 50 1 48 49,ql 51 1 50,qm 52 7,qm 53 10,qi 54 1 52 53,ql 55 1 54,qi 56 1 44 45,qs 1 56 51,qi 57 1 46 47,qs 1 57 55])))) (
.reg [qm 35 10,Rq 36 (.bin .sub (.t 35) (.c (.int .i64 1))),qm 10 36]))
def zP3:Fnc:=⟨[.t 4,.t 5],
.seq (
.reg [qz 4,qk 5 0]) (
.seq (
.seq (
.reg [qm 12 0,Rq 13 (.call .pure (.c (.fn (.f 206) [] [])) [(.t 12),(.c (.int .i64 1)),(.c (.int .i64 2147483646))]),qm 14 1,Rq 15 (.call .pure (.c (.fn (.f 206) [] [])) [(.t 14),(.c (.int .i64 0)),(.c (.int .i64 256))]),Rq 16 (.mksl 2 1 [.int .i64 0,.int .i64 0] [(0,1,(.t 13)),(1,1,(.t 15))]),qc1 17 125 16,qm 6 17]) (
.seq (
.reg [qm 18 6,qN 19 18 0]) (
.cond (.t 19) (
 .seq (
 .reg [qm 20 6,qz 4,qm 5 20]) (
 .ret)) (
 .skip)))) (
.seq (
.reg [qz 7]) (
.seq (
.seq (
.reg [qm 21 1,qk 22 0]) (
.seq (
.blk 0 (
.loop [0,1,7,21,22] zFM)) (
.kp [0,1,7]))) (
.seq (
.reg [qm 30 0,qm 9 30]) (
.seq (
.seq (
.reg [qm 31 1,Rq 32 (.bin .sub (.t 31) (.c (.int .i64 1))),qm 10 32]) (
.seq (
.blk 2 (
.loop [7,9,10] zEq)) (
.kp [7]))) (
.seq (
.reg [qm 58 7,qm 4 58,qk 5 0]) (
.ret)))))))⟩
def zCm:Fnc:=⟨[.t 4,.t 5],
.seq (
.reg [Rq 4 (.mov (.c (.str []))),qk 5 0]) (
.seq (
.seq (
.reg [qm 6 1,qE 7 6 0]) (
.cond (.t 7) (
 .seq (
 .reg [Rq 4 (.mov (.c (.str []))),qk 5 6]) (
 .ret)) (
 .skip))) (
.seq (
.reg [qm 8 0,qc1 9 117 8,qm 10 1,qc1 11 117 10,qc2 12 101 9 11,qc1 13 208 12,qe 14 0 13,qe 15 1 13,qm 4 14,qm 5 15]) (
.ret)))⟩
def zBC:Fnc:=⟨[.t 2,.t 3],
.seq (
.reg [Rq 2 (.mov (.c (.str []))),qk 3 0]) (
.seq (
.seq (
.reg [qm 5 0,qc1 6 86 5,qm 4 6]) (
.seq (
.reg [qm 7 4,qN 8 7 0]) (
.cond (.t 8) (
 .seq (
 .reg [qm 9 4,Rq 2 (.mov (.c (.str []))),qm 3 9]) (
 .ret)) (
 .skip)))) (
.seq (
.reg [qm 10 0,qc1 11 62 10,qc1 12 149 11,qc1 13 111 12,qc1 14 208 13,qe 15 0 14,qe 16 1 14,qm 2 15,qm 3 16]) (
.ret)))⟩
def zPK:Fnc:=⟨[.t 6],
.seq (
.reg [qk 6 0]) (
.seq (
.reg [qm 7 0,qm 8 1,qT 9 7 8,qm 10 9,Rf 11 10 (.mov (.t 0)),Rf 12 10 (.mov (.t 2)),Rf 13 10 (.bin .gtr (.t 11) (.t 12)),qp 14 10 13,Rq 15 (.call .pure (.c (.fn (.f 124) [] [])) [(.t 14),(.c (.int .i64 3))]),qm 6 15]) (
.ret))⟩
def zCh:Fnc:=⟨[.t 2,.t 3],
.seq (
.reg [qb 1 4 0,Rq 2 (.mov (.c (.str []))),qk 3 0]) (
.seq (
.seq (
.reg [qL 4 4 1,qc1 5 107 4]) (
.cond (.t 5) (
 .seq (
 .reg [Rq 2 (.mov (.c (.str []))),qk 3 4]) (
 .ret)) (
 .skip))) (
.seq (
.reg [qL 6 4 1,qc1 7 46 6,qm 2 7,qk 3 0]) (
.ret)))⟩
end VE
end
section
namespace VE
def zw3:Fnc:=⟨[.t 2],
.seq (
.reg [qk 2 0]) (
.seq (
.seq (
.reg [qm 3 0,Rq 4 (.bin .eql (.t 3) (.c (.str [48])))]) (
.cond (.t 4) (
 .seq (
 .reg [qk 2 0]) (
 .ret)) (
 .skip))) (
.seq (
.seq (
.reg [qm 5 0,qn 6 0 5,Rq 7 (.bin .gtr (.t 6) (.c (.int .i64 0))),qm 8 7,Rt 9 8 (.mov (.t 0)),Rt 10 8 (.ixs (.t 9) (.c (.int .i64 0))),Rt 11 8 (.bin .eql (.t 10) (.c (.int .u8 45))),qq 12 8 11]) (
.cond (.t 12) (
 .seq (
 .reg [qk 2 (-1)]) (
 .ret)) (
 .skip))) (
.seq (
.reg [qk 2 1]) (
.ret))))⟩
def c263:Fnc:=⟨[.t 2],
.seq (
.reg [qk 2 0]) (
.seq (
.reg [qm 8 0,qm 3 8]) (
.seq (
.seq (
.reg [qm 9 3,qn 10 0 9,Rq 11 (.bin .gtr (.t 10) (.c (.int .i64 0))),qm 12 11,Rt 13 12 (.mov (.t 3)),Rt 14 12 (.ixs (.t 13) (.c (.int .i64 0))),Rt 15 12 (.bin .eql (.t 14) (.c (.int .u8 45))),qq 16 12 15]) (
.cond (.t 16) (
 .reg [qm 17 3,Rq 18 (.sli .str (.t 17) (some (.c (.int .i64 1))) none),qm 3 18]) (
 .skip))) (
.seq (
.reg [qm 19 3,qc1 20 272 19,qm 4 20]) (
.seq (
.seq (
.reg [qm 21 3,qm 22 4,Rq 23 (.sli .str (.t 21) none (some (.t 22))),qc1 24 273 23,Rq 25 (.un .not (.t 24)),qm 26 25,Rf 27 26 (.mov (.t 0)),Rf 28 26 (.ixs (.t 27) (.c (.int .i64 0))),Rf 29 26 (.bin .eql (.t 28) (.c (.int .u8 45))),Rf 30 26 (.mov (.t 29)),Rt 31 30 (.mov (.t 3)),Rt 32 30 (.mov (.t 4)),Rt 33 30 (.sli .str (.t 31) none (some (.t 32))),Rt 34 30 (.bin .eql (.t 33) (.c (.str [48]))),Rf 35 26 (.pick (.t 30) (.t 34) (.c (.bool false))),qp 36 26 35]) (
.cond (.t 36) (
 .seq (
 .reg [qk 2 1]) (
 .ret)) (
 .skip))) (
.seq (
.seq (
.reg [qm 37 4,qm 38 3,qn 39 0 38,qT 40 37 39,qm 41 40,Rt 42 41 (.mov (.t 3)),Rt 43 41 (.mov (.t 4)),Rt 44 41 (.bin .add (.t 43) (.c (.int .i64 1))),Rt 45 41 (.sli .str (.t 42) (some (.t 44)) none),Rt 46 41 (.call .pure (.c (.fn (.f 273) [] [])) [(.t 45)]),Rt 47 41 (.un .not (.t 46)),Rt 48 41 (.mov (.t 47)),Rf 49 48 (.mov (.t 3)),Rf 50 48 (.mov (.t 4)),Rf 51 48 (.bin .add (.t 50) (.c (.int .i64 1))),Rf 52 48 (.sli .str (.t 49) (some (.t 51)) none),Rf 53 48 (.bin .eql (.t 52) (.c (.str [48]))),Rt 54 41 (.pick (.t 48) (.c (.bool true)) (.t 53)),Rt 55 41 (.mov (.t 54)),Rf 56 55 (.mov (.t 3)),Rf 57 55 (.mov (.t 4)),Rf 58 55 (.bin .add (.t 57) (.c (.int .i64 1))),Rf 59 55 (.sli .str (.t 56) (some (.t 58)) none),Rf 60 55 (.bin .eql (.t 59) (.c (.str [49]))),Rt 61 41 (.pick (.t 55) (.c (.bool true)) (.t 60)),qq 62 41 61]) (
.cond (.t 62) (
 .seq (
 .reg [qk 2 1]) (
 .ret)) (
 .skip))) (
.seq (
.seq (
.reg [qm 63 4,Rq 64 (.bin .gtr (.t 63) (.c (.int .i64 600))),qm 65 64,Rf 66 65 (.mov (.t 3)),Rf 67 65 (.len 0 (.t 66)),Rf 68 65 (.mov (.t 4)),Rf 69 65 (.bin .sub (.t 67) (.t 68)),Rf 70 65 (.bin .sub (.t 69) (.c (.int .i64 1))),Rf 71 65 (.bin .gtr (.t 70) (.c (.int .i64 600))),qp 72 65 71]) (
.cond (.t 72) (
 .seq (
 .reg [qk 2 4]) (
 .ret)) (
 .skip))) (
.seq (
.seq (
.reg [qm 73 4,qm 74 3,qn 75 0 74,qT 76 73 75]) (
.cond (.t 76) (
 .seq (
 .reg [qm 78 3,qc1 79 274 78,qm 77 79,qe 80 0 77,qe 81 1 77,Rq 5 (.box 2 (.c (.agg [.bool false,.nils]))),Rq 6 (.box 2 (.c (.agg [.bool false,.nils]))),qs 2 5 80,qs 2 6 81]) (
 .seq (
 .reg [qo 82 1 5,ql 83 1 82,qo 84 1 6,ql 85 1 84,qc2 86 275 83 85,qm 7 86]) (
 .seq (
 .reg [qm 87 7,qn 88 1 87,qN 89 88 1,qm 90 89,Rf 91 90 (.mov (.t 7)),Rf 92 90 (.ixa 1 (.t 91) (.c (.int .i64 0))),Rf 93 90 (.ld 1 false (.t 92)),Rf 94 90 (.bin .neq (.t 93) (.c (.int .i64 1))),qp 95 90 94]) (
 .cond (.t 95) (
 .seq (
 .reg [qk 2 1]) (
 .ret)) (
 .skip))))) (
 .skip))) (
.seq (
.reg [qk 2 0]) (
.ret)))))))))⟩
def zy3:Fnc:=⟨[.t 2],
.seq (
.reg [qk 2 0]) (
.seq (
.seq (
.reg [qm 3 0,qc1 4 284 3,qc1 5 285 4,qn 6 0 5,Rq 7 (.bin .gtr (.t 6) (.c (.int .i64 600))),qm 8 7,Rf 9 8 (.mov (.t 0)),Rf 10 8 (.call .pure (.c (.fn (.f 286) [] [])) [(.t 9)]),Rf 11 8 (.len 0 (.t 10)),Rf 12 8 (.bin .gtr (.t 11) (.c (.int .i64 600))),qp 13 8 12]) (
.cond (.t 13) (
 .seq (
 .reg [qk 2 4]) (
 .ret)) (
 .skip))) (
.seq (
.reg [qk 2 0]) (
.ret)))⟩
def zhT:VC:=
.seq (
.seq (
.reg [qm 4 3,qm 5 0,qn 6 0 5,qT 7 4 6]) (
.cond (.t 7) (
 .skip) (
 .exit 0))) (
.seq (
.blk 1 (
.seq (
.reg [qm 10 0,qm 11 3,Rq 12 (.ixs (.t 10) (.t 11)),Rq 13 (.bin .eql (.t 12) (.c (.int .u8 47)))]) (
.cond (.t 13) (
 .seq (
 .reg [qm 14 3,qm 2 14]) (
 .ret)) (
 .skip)))) (
.reg [qm 8 3,qa 9 8 1,qm 3 9]))
def zAQ:Fnc:=⟨[.t 2],
.seq (
.reg [qk 2 0]) (
.seq (
.seq (
.reg [qk 3 0]) (
.seq (
.blk 0 (
.loop [0,3] zhT)) (
.kp [0]))) (
.seq (
.reg [qm 15 0,qn 16 0 15,qm 2 16]) (
.ret)))⟩
def zp5:Fnc:=⟨[.t 2],
.seq (
.reg [qf 2]) (
.seq (
.seq (
.reg [qm 3 0,qn 4 0 3,qE 5 4 0,qm 6 5,Rf 7 6 (.mov (.t 0)),Rf 8 6 (.len 0 (.t 7)),Rf 9 6 (.bin .gtr (.t 8) (.c (.int .i64 1))),Rf 10 6 (.mov (.t 9)),Rt 11 10 (.mov (.t 0)),Rt 12 10 (.ixs (.t 11) (.c (.int .i64 0))),Rt 13 10 (.bin .eql (.t 12) (.c (.int .u8 48))),Rf 14 6 (.pick (.t 10) (.t 13) (.c (.bool false))),qp 15 6 14]) (
.cond (.t 15) (
 .seq (
 .reg [qf 2]) (
 .ret)) (
 .skip))) (
.seq (
.reg [qm 16 0,qc1 17 287 16,qm 2 17]) (
.ret)))⟩
def zAd:Fnc:=⟨[.cell 2 2 true,.cell 3 2 true],
.seq (
.reg [Rq 2 (.box 2 (.c (.agg [.bool false,.nils]))),Rq 3 (.box 2 (.c (.agg [.bool false,.nils])))]) (
.seq (
.reg [qm 6 0,qm 4 6]) (
.seq (
.reg [qm 7 4,qc1 8 272 7,qm 5 8]) (
.seq (
.seq (
.reg [qm 9 5,qm 10 4,qn 11 0 10,Rq 12 (.bin .eql (.t 9) (.t 11))]) (
.cond (.t 12) (
 .seq (
 .reg [qm 13 4,qc1 14 288 13,Rq 15 (.call .pure (.c (.fn (.f 281) [] [])) [(.c (.int .i64 1))]),qs 2 2 14,qs 2 3 15]) (
 .ret)) (
 .skip))) (
.seq (
.reg [qm 16 4,qm 17 5,Rq 18 (.sli .str (.t 16) none (some (.t 17))),qc1 19 288 18,qm 20 4,qm 21 5,qa 22 21 1,Rq 23 (.sli .str (.t 20) (some (.t 22)) none),qc1 24 288 23,qs 2 2 19,qs 2 3 24]) (
.ret)))))⟩
def zjy:VC:=
.seq (
.seq (
.reg [qm 7 1,qn 8 1 7,Rq 9 (.bin .gtr (.t 8) (.c (.int .i64 0)))]) (
.cond (.t 9) (
 .skip) (
 .exit 0))) (
.blk 1 (
.seq (
.reg [qm 11 0,qm 12 1,qc2 13 289 11 12,qm 10 13,qe 14 0 10,qe 15 1 10,qm 5 14,qm 6 15]) (
.reg [qm 16 1,qm 17 6,qm 0 16,qm 1 17])))
def zAh:Fnc:=⟨[.t 4],
.seq (
.reg [qz 4]) (
.seq (
.seq (
.blk 0 (
.loop [0,1] zjy)) (
.kp [0])) (
.seq (
.reg [qm 18 0,qm 4 18]) (
.ret)))⟩
def zid:Fnc:=⟨[.t 4],
.seq (
.reg [Rq 4 (.mov (.c (.str [])))]) (
.seq (
.seq (
.reg [qm 7 0,Rq 8 (.bin .lss (.t 7) (.c (.int .i64 (-4000000000000000000)))),qm 9 8,Rf 10 9 (.mov (.t 0)),Rf 11 9 (.bin .gtr (.t 10) (.c (.int .i64 4000000000000000000))),qp 12 9 11,qm 13 12,Rf 14 13 (.mov (.t 1)),Rf 15 13 (.bin .lss (.t 14) (.c (.int .i64 (-4000000000000000000)))),qp 16 13 15,qm 17 16,Rf 18 17 (.mov (.t 1)),Rf 19 17 (.bin .gtr (.t 18) (.c (.int .i64 4000000000000000000))),qp 20 17 19]) (
.cond (.t 20) (
 .seq (
 .reg [qm 21 0,qc1 22 281 21,qm 23 1,qc1 24 281 23,qc2 25 280 22 24,qm 4 25]) (
 .ret)) (
 .skip))) (
.seq (
.seq (
.reg [qm 26 1,Rq 27 (.bin .lss (.t 26) (.c (.int .i64 0)))]) (
.cond (.t 27) (
 .reg [qm 28 0,Rq 29 (.bin .sub (.c (.int .i64 0)) (.t 28)),qm 30 1,Rq 31 (.bin .sub (.c (.int .i64 0)) (.t 30)),qm 0 29,qm 1 31]) (
 .skip))) (
.seq (
.reg [qm 32 0,qm 33 0,Rq 34 (.bin .sub (.c (.int .i64 0)) (.t 33)),Rq 35 (.mx [(.t 32),(.t 34)]),qm 36 1,qc2 37 291 35 36,qm 5 37]) (
.seq (
.reg [qm 38 0,qm 39 5,Rq 40 (.bin .quo (.t 38) (.t 39)),qm 41 1,qm 42 5,Rq 43 (.bin .quo (.t 41) (.t 42)),qm 0 40,qm 1 43]) (
.seq (
.reg [Rq 6 (.mov (.c (.str [])))]) (
.seq (
.seq (
.reg [qm 44 0,Rq 45 (.bin .lss (.t 44) (.c (.int .i64 0)))]) (
.cond (.t 45) (
 .reg [Rq 6 (.mov (.c (.str [45])))]) (
 .skip))) (
.seq (
.reg [qm 46 6,qm 47 0,qm 48 0,Rq 49 (.bin .sub (.c (.int .i64 0)) (.t 48)),Rq 50 (.mx [(.t 47),(.t 49)]),Rq 51 (.call .pure (.c (.fn (.f 292) [] [])) [(.t 50),(.c (.int .i64 1))]),qA 52 46 51,qm 6 52]) (
.seq (
.seq (
.reg [qm 53 1,Rq 54 (.bin .gtr (.t 53) (.c (.int .i64 1)))]) (
.cond (.t 54) (
 .reg [qm 55 6,Rq 56 (.bin .add (.t 55) (.c (.str [47]))),qm 57 1,Rq 58 (.call .pure (.c (.fn (.f 292) [] [])) [(.t 57),(.c (.int .i64 1))]),qA 59 56 58,qm 6 59]) (
 .skip))) (
.seq (
.reg [qm 60 6,qm 4 60]) (
.ret))))))))))⟩
def zOy:Fnc:=⟨[.t 4],
.seq (
.reg [qb 2 2 0,qb 3 2 1,Rq 4 (.mov (.c (.str [])))]) (
.seq (
.seq (
.reg [qo 11 0 3,ql 12 1 11]) (
.cond (.t 12) (
 .reg [qL 13 2 2,qc1 14 298 13,qL 15 2 3,qc1 16 298 15,qs 2 2 14,qs 2 3 16]) (
 .skip))) (
.seq (
.reg [qo 17 1 2,ql 18 1 17,qo 19 1 3,ql 20 1 19,qc2 21 275 18 20,qm 5 21]) (
.seq (
.reg [qo 23 1 2,ql 24 1 23,qm 25 5,qc2 26 289 24 25,qm 22 26,qe 27 0 22,qe 28 1 22,qm 6 27,qm 7 28]) (
.seq (
.reg [qo 30 1 3,ql 31 1 30,qm 32 5,qc2 33 289 31 32,qm 29 33,qe 34 0 29,qe 35 1 29,qm 8 34,qm 9 35]) (
.seq (
.reg [qo 36 0 2,ql 37 1 36,qm 38 6,qc2 39 294 37 38,qc1 40 282 39,qm 10 40]) (
.seq (
.seq (
.reg [qm 41 8,qn 42 1 41,qE 43 42 1,qm 44 43,Rt 45 44 (.mov (.t 8)),Rt 46 44 (.ixa 1 (.t 45) (.c (.int .i64 0))),Rt 47 44 (.ld 1 false (.t 46)),Rt 48 44 (.bin .eql (.t 47) (.c (.int .i64 1))),qq 49 44 48]) (
.cond (.t 49) (
 .seq (
 .reg [qm 50 10,qm 4 50]) (
 .ret)) (
 .skip))) (
.seq (
.reg [qm 51 10,Rq 52 (.bin .add (.t 51) (.c (.str [47]))),qm 53 8,Rq 54 (.call .pure (.c (.fn (.f 294) [] [])) [(.c (.bool false)),(.t 53)]),qc1 55 282 54,qA 56 52 55,qm 4 56]) (
.ret))))))))⟩
def zwJ:VC:=
.seq (
.seq (
.reg [qm 8 0,qN 9 8 0]) (
.cond (.t 9) (
 .skip) (
 .exit 0))) (
.blk 1 (
.seq (
.reg [qm 10 0,Rq 11 (.bin .rem (.t 10) (.c (.int .i64 1000000000))),qm 5 11]) (
.seq (
.seq (
.reg [qm 12 5,Rq 13 (.bin .lss (.t 12) (.c (.int .i64 0)))]) (
.cond (.t 13) (
 .reg [qm 14 5,Rq 15 (.bin .sub (.c (.int .i64 0)) (.t 14)),qm 5 15]) (
 .skip))) (
.seq (
.reg [qm 16 3,qm 17 5,Rq 18 (.mksl 1 1 [.int .i64 0] [(0,1,(.t 17))]),Rq 19 (.app 1 8 (.t 16) (.t 18)),qm 3 19]) (
.reg [qm 20 0,Rq 21 (.bin .quo (.t 20) (.c (.int .i64 1000000000))),qm 0 21])))))
def zFr:Fnc:=⟨[.cell 2 2 true],
.seq (
.reg [Rq 2 (.box 2 (.c (.agg [.bool false,.nils])))]) (
.seq (
.reg [qz 3]) (
.seq (
.reg [qm 6 0,Rq 7 (.bin .lss (.t 6) (.c (.int .i64 0))),qm 4 7]) (
.seq (
.seq (
.blk 0 (
.loop [0,2,3,4] zwJ)) (
.kp [2,3,4])) (
.seq (
.reg [qm 22 4,qm 23 3,qc2 24 294 22 23,qs 2 2 24]) (
.ret)))))⟩
def zkL:VC:=
.seq (
.seq (
.reg [qm 22 4,Rq 23 (.bin .geq (.t 22) (.c (.int .i64 0)))]) (
.cond (.t 23) (
 .skip) (
 .exit 0))) (
.seq (
.blk 1 (
.reg [qm 26 3,qo 27 1 1,ql 28 1 27,qm 29 4,qi 30 1 28 29,ql 31 1 30,Rq 32 (.call .pure (.c (.fn (.f 292) [] [])) [(.t 31),(.c (.int .i64 9))]),qA 33 26 32,qm 3 33])) (
.reg [qm 24 4,Rq 25 (.bin .sub (.t 24) (.c (.int .i64 1))),qm 4 25]))
def zyG:Fnc:=⟨[.t 2],
.seq (
.reg [qb 1 2 0,Rq 2 (.mov (.c (.str [])))]) (
.seq (
.seq (
.reg [qo 5 1 1,ql 6 1 5,qn 7 1 6,qE 8 7 0]) (
.cond (.t 8) (
 .seq (
 .reg [Rq 2 (.mov (.c (.str [48])))]) (
 .ret)) (
 .skip))) (
.seq (
.reg [qo 9 1 1,ql 10 1 9,qo 11 1 1,ql 12 1 11,qn 13 1 12,Rq 14 (.bin .sub (.t 13) (.c (.int .i64 1))),qi 15 1 10 14,ql 16 1 15,Rq 17 (.call .pure (.c (.fn (.f 292) [] [])) [(.t 16),(.c (.int .i64 1))]),qm 3 17]) (
.seq (
.seq (
.reg [qo 18 1 1,ql 19 1 18,qn 20 1 19,Rq 21 (.bin .sub (.t 20) (.c (.int .i64 2))),qm 4 21]) (
.seq (
.blk 0 (
.loop [1,3,4] zkL)) (
.kp [1,3]))) (
.seq (
.seq (
.reg [qo 34 0 1,ql 35 1 34]) (
.cond (.t 35) (
 .seq (
 .reg [qm 36 3,Rq 37 (.bin .add (.c (.str [45])) (.t 36)),qm 2 37]) (
 .ret)) (
 .skip))) (
.seq (
.reg [qm 38 3,qm 2 38]) (
.ret))))))⟩
def zFg:Fnc:=⟨[.t 2],
.seq (
.reg [Rq 2 (.mov (.c (.str [])))]) (
.seq (
.reg [qm 3 0,qm 4 0,qc1 5 272 4,Rq 6 (.sli .str (.t 3) none (some (.t 5))),qm 2 6]) (
.ret))⟩
def zCy:Fnc:=⟨[.t 2],
.seq (
.reg [Rq 2 (.mov (.c (.str [])))]) (
.seq (
.seq (
.reg [qm 3 0,qc1 4 262 3,Rq 5 (.bin .lss (.t 4) (.c (.int .i64 0)))]) (
.cond (.t 5) (
 .seq (
 .reg [qm 6 0,Rq 7 (.sli .str (.t 6) (some (.c (.int .i64 1))) none),qm 2 7]) (
 .ret)) (
 .skip))) (
.seq (
.reg [qm 8 0,qm 2 8]) (
.ret)))⟩
def zCS:Fnc:=⟨[.t 2],
.seq (
.reg [Rq 2 (.mov (.c (.str [])))]) (
.seq (
.reg [qm 4 0,qc1 5 272 4,qm 3 5]) (
.seq (
.seq (
.reg [qm 6 3,qm 7 0,qn 8 0 7,Rq 9 (.bin .eql (.t 6) (.t 8))]) (
.cond (.t 9) (
 .seq (
 .reg [Rq 2 (.mov (.c (.str [49])))]) (
 .ret)) (
 .skip))) (
.seq (
.reg [qm 10 0,qm 11 3,qa 12 11 1,Rq 13 (.sli .str (.t 10) (some (.t 12)) none),qm 2 13]) (
.ret))))⟩
def zgT:VC:=
.seq (
.seq (
.reg [qm 4 3,qm 5 0,qn 6 0 5,qT 7 4 6]) (
.cond (.t 7) (
 .skip) (
 .exit 0))) (
.seq (
.blk 1 (
.seq (
.reg [qm 10 0,qm 11 3,Rq 12 (.ixs (.t 10) (.t 11)),Rq 13 (.bin .lss (.t 12) (.c (.int .u8 48))),qm 14 13,Rf 15 14 (.mov (.t 0)),Rf 16 14 (.mov (.t 3)),Rf 17 14 (.ixs (.t 15) (.t 16)),Rf 18 14 (.bin .gtr (.t 17) (.c (.int .u8 57))),qp 19 14 18]) (
.cond (.t 19) (
 .seq (
 .reg [qf 2]) (
 .ret)) (
 .skip)))) (
.reg [qm 8 3,qa 9 8 1,qm 3 9]))
def zyk:Fnc:=⟨[.t 2],
.seq (
.reg [qf 2]) (
.seq (
.seq (
.reg [qk 3 0]) (
.seq (
.blk 0 (
.loop [0,3] zgT)) (
.kp []))) (
.seq (
.reg [Rq 2 (.mov (.c (.bool true)))]) (
.ret)))⟩
def zeQ:VC:=
.seq (
.seq (
.reg [qm 16 0,qn 17 0 16,Rq 18 (.bin .gtr (.t 17) (.c (.int .i64 9)))]) (
.cond (.t 18) (
 .skip) (
 .exit 0))) (
.blk 1 (
.seq (
.reg [qm 19 4,qm 20 0,qm 21 0,qn 22 0 21,Rq 23 (.bin .sub (.t 22) (.c (.int .i64 9))),Rq 24 (.sli .str (.t 20) (some (.t 23)) none),qc1 25 290 24,Rq 26 (.mksl 1 1 [.int .i64 0] [(0,1,(.t 25))]),Rq 27 (.app 1 8 (.t 19) (.t 26)),qm 4 27]) (
.reg [qm 28 0,qm 29 0,qn 30 0 29,Rq 31 (.bin .sub (.t 30) (.c (.int .i64 9))),Rq 32 (.sli .str (.t 28) none (some (.t 31))),qm 0 32])))
def zB3:Fnc:=⟨[.cell 2 2 true],
.seq (
.reg [Rq 2 (.box 2 (.c (.agg [.bool false,.nils])))]) (
.seq (
.reg [qm 5 0,qn 6 0 5,Rq 7 (.bin .gtr (.t 6) (.c (.int .i64 0))),qm 8 7,Rt 9 8 (.mov (.t 0)),Rt 10 8 (.ixs (.t 9) (.c (.int .i64 0))),Rt 11 8 (.bin .eql (.t 10) (.c (.int .u8 45))),qq 12 8 11,qm 3 12]) (
.seq (
.seq (
.reg [qm 13 3]) (
.cond (.t 13) (
 .reg [qm 14 0,Rq 15 (.sli .str (.t 14) (some (.c (.int .i64 1))) none),qm 0 15]) (
 .skip))) (
.seq (
.reg [qz 4]) (
.seq (
.seq (
.blk 0 (
.loop [0,2,3,4] zeQ)) (
.kp [0,2,3,4])) (
.seq (
.reg [qm 33 3,qm 34 4,qm 35 0,qc1 36 290 35,Rq 37 (.mksl 1 1 [.int .i64 0] [(0,1,(.t 36))]),Rq 38 (.app 1 8 (.t 34) (.t 37)),qc2 39 294 33 38,qs 2 2 39]) (
.ret))))))⟩
def zjY:VC:=
.seq (
.seq (
.reg [qm 63 11,qn 64 1 63,qm 65 0,qn 66 1 65,qa 67 66 1,qT 68 64 67]) (
.cond (.t 68) (
 .skip) (
 .exit 0))) (
.blk 1 (
.reg [qm 69 11,Rq 70 (.mksl 1 1 [.int .i64 0] [(0,1,(.c (.int .i64 0)))]),Rq 71 (.app 1 8 (.t 69) (.t 70)),qm 11 71]))
def zim:VC:=
.seq (
.seq (
.reg [qm 90 16,qm 91 10,qT 92 90 91]) (
.cond (.t 92) (
 .skip) (
 .exit 4))) (
.seq (
.blk 5 (
.seq (
.reg [qm 95 14,qm 96 9,qm 97 16,qi 98 1 96 97,ql 99 1 98,Rq 100 (.bin .mul (.t 95) (.t 99)),qm 101 15,qA 102 100 101,qm 17 102]) (
.seq (
.reg [qm 103 11,qm 104 16,qm 105 13,qA 106 104 105,qi 107 1 103 106,ql 108 1 107,qm 109 17,Rq 110 (.bin .rem (.t 109) (.c (.int .i64 1000000000))),Rq 111 (.bin .sub (.t 108) (.t 110)),qm 18 111]) (
.seq (
.reg [qm 112 17,Rq 113 (.bin .quo (.t 112) (.c (.int .i64 1000000000))),qm 15 113]) (
.seq (
.seq (
.reg [qm 114 18,Rq 115 (.bin .lss (.t 114) (.c (.int .i64 0)))]) (
.cond (.t 115) (
 .seq (
 .reg [qm 116 18,qa 117 116 1000000000,qm 18 117]) (
 .reg [qm 118 15,qa 119 118 1,qm 15 119])) (
 .skip))) (
.reg [qm 120 11,qm 121 16,qm 122 13,qA 123 121 122,qm 124 18,qi 125 1 120 123,qs 1 125 124])))))) (
.reg [qm 93 16,qa 94 93 1,qm 16 94]))
def zjn:VC:=
.seq (
.seq (
.reg [qm 148 20,qm 149 10,qT 150 148 149]) (
.cond (.t 150) (
 .skip) (
 .exit 6))) (
.seq (
.blk 7 (
.seq (
.reg [qm 153 11,qm 154 20,qm 155 13,qA 156 154 155,qi 157 1 153 156,ql 158 1 157,qm 159 9,qm 160 20,qi 161 1 159 160,ql 162 1 161,qA 163 158 162,qm 164 19,qA 165 163 164,qm 21 165]) (
.seq (
.reg [qm 166 11,qm 167 20,qm 168 13,qA 169 167 168,qm 170 21,Rq 171 (.bin .rem (.t 170) (.c (.int .i64 1000000000))),qi 172 1 166 169,qs 1 172 171]) (
.reg [qm 173 21,Rq 174 (.bin .quo (.t 173) (.c (.int .i64 1000000000))),qm 19 174])))) (
.reg [qm 151 20,qa 152 151 1,qm 20 152]))
def zk2:VC:=
.seq (
.seq (
.reg [qm 82 13,Rq 83 (.bin .geq (.t 82) (.c (.int .i64 0)))]) (
.cond (.t 83) (
 .skip) (
 .exit 2))) (
.seq (
.blk 3 (
.seq (
.reg [qm 86 11,qm 87 9,qm 88 13,Rq 89 (.call .heap (.c (.fn (.f 301) [] [])) [(.t 86),(.t 87),(.t 88)]),qm 14 89]) (
.seq (
.reg [qk 15 0]) (
.seq (
.seq (
.reg [qk 16 0]) (
.seq (
.blk 4 (
.loop [8,9,10,11,12,13,14,15,16] zim)) (
.kp [8,9,10,11,12,13,14,15]))) (
.seq (
.reg [qm 126 11,qm 127 13,qm 128 10,qA 129 127 128,qm 130 11,qm 131 13,qm 132 10,qA 133 131 132,qi 134 1 130 133,ql 135 1 134,qm 136 15,Rq 137 (.bin .sub (.t 135) (.t 136)),qi 138 1 126 129,qs 1 138 137]) (
.seq (
.seq (
.reg [qm 139 11,qm 140 13,qm 141 10,qA 142 140 141,qi 143 1 139 142,ql 144 1 143,Rq 145 (.bin .lss (.t 144) (.c (.int .i64 0)))]) (
.cond (.t 145) (
 .seq (
 .reg [qm 146 14,Rq 147 (.bin .sub (.t 146) (.c (.int .i64 1))),qm 14 147]) (
 .seq (
 .reg [qk 19 0]) (
 .seq (
 .seq (
 .reg [qk 20 0]) (
 .seq (
 .blk 6 (
 .loop [8,9,10,11,12,13,14,19,20] zjn)) (
 .kp [8,9,10,11,12,13,14,19]))) (
 .reg [qm 175 11,qm 176 13,qm 177 10,qA 178 176 177,qm 179 11,qm 180 13,qm 181 10,qA 182 180 181,qi 183 1 179 182,ql 184 1 183,qm 185 19,qA 186 184 185,qi 187 1 175 178,qs 1 187 186])))) (
 .skip))) (
.reg [qm 188 12,qm 189 13,qm 190 14,qi 191 1 188 189,qs 1 191 190]))))))) (
.reg [qm 84 13,Rq 85 (.bin .sub (.t 84) (.c (.int .i64 1))),qm 13 85]))
def zla:Fnc:=⟨[.t 4,.t 5],
.seq (
.reg [qz 4,qz 5]) (
.seq (
.seq (
.reg [qm 24 0,qm 25 1,qc2 26 296 24 25,Rq 27 (.bin .lss (.t 26) (.c (.int .i64 0)))]) (
.cond (.t 27) (
 .seq (
 .reg [qm 28 0,qz 4,qm 5 28]) (
 .ret)) (
 .skip))) (
.seq (
.seq (
.reg [qm 29 1,qn 30 1 29,qE 31 30 1]) (
.cond (.t 31) (
 .seq (
 .reg [qm 33 0,qm 34 1,Rq 35 (.ixa 1 (.t 34) (.c (.int .i64 0))),ql 36 1 35,qc2 37 299 33 36,qm 32 37,qe 38 0 32,qe 39 1 32,qm 6 38,qm 7 39]) (
 .seq (
 .reg [qm 40 6,qm 41 7,Rq 42 (.mksl 1 1 [.int .i64 0] [(0,1,(.t 41))]),qc1 43 300 42,qm 4 40,qm 5 43]) (
 .ret))) (
 .skip))) (
.seq (
.reg [qm 44 1,qm 45 1,qn 46 1 45,Rq 47 (.bin .sub (.t 46) (.c (.int .i64 1))),qi 48 1 44 47,ql 49 1 48,qa 50 49 1,Rq 51 (.bin .quo (.c (.int .i64 1000000000)) (.t 50)),Rq 52 (.mksl 1 1 [.int .i64 0] [(0,1,(.t 51))]),qm 8 52]) (
.seq (
.reg [qm 53 1,qm 54 8,qc2 55 293 53 54,qm 9 55]) (
.seq (
.reg [qm 56 9,qn 57 1 56,qm 10 57]) (
.seq (
.reg [Rq 58 (.mksl 0 1 [] []),qm 59 0,qm 60 8,qc2 61 293 59 60,Rq 62 (.app 1 8 (.t 58) (.t 61)),qm 11 62]) (
.seq (
.seq (
.blk 0 (
.loop [0,8,9,10,11] zjY)) (
.kp [8,9,10,11])) (
.seq (
.reg [qm 72 11,qn 73 1 72,qm 74 10,Rq 75 (.bin .sub (.t 73) (.t 74)),Rq 76 (.mks 1 8 [.int .i64 0] (.t 75) (.t 75)),qm 12 76]) (
.seq (
.seq (
.reg [qm 77 11,qn 78 1 77,qm 79 10,Rq 80 (.bin .sub (.t 78) (.t 79)),Rq 81 (.bin .sub (.t 80) (.c (.int .i64 1))),qm 13 81]) (
.seq (
.blk 2 (
.loop [8,9,10,11,12,13] zk2)) (
.kp [8,10,11,12]))) (
.seq (
.reg [qm 193 11,qm 194 10,Rq 195 (.sli (.sl 1) (.t 193) none (some (.t 194))),qc1 196 300 195,qm 197 8,Rq 198 (.ixa 1 (.t 197) (.c (.int .i64 0))),ql 199 1 198,qc2 200 299 196 199,qm 192 200,qe 201 0 192,qe 202 1 192,qm 22 201,qm 23 202]) (
.seq (
.reg [qm 203 12,qc1 204 300 203,qm 205 22,qm 4 204,qm 5 205]) (
.ret))))))))))))⟩
def zkb:VC:=
.seq (
.seq (
.reg [qm 5 4,qm 6 0,qn 7 0 6,qT 8 5 7]) (
.cond (.t 8) (
 .skip) (
 .exit 0))) (
.seq (
.blk 1 (
.reg [qm 11 3,Rq 12 (.bin .mul (.c (.int .i64 10)) (.t 11)),qm 13 0,qm 14 4,Rq 15 (.ixs (.t 13) (.t 14)),Rq 16 (.cv (.toInt .i64) (.t 15)),qA 17 12 16,Rq 18 (.bin .sub (.t 17) (.c (.int .i64 48))),qm 3 18])) (
.reg [qm 9 4,qa 10 9 1,qm 4 10]))
def zxd:Fnc:=⟨[.t 2],
.seq (
.reg [qk 2 0]) (
.seq (
.reg [qk 3 0]) (
.seq (
.seq (
.reg [qk 4 0]) (
.seq (
.blk 0 (
.loop [0,3,4] zkb)) (
.kp [3]))) (
.seq (
.reg [qm 19 3,qm 2 19]) (
.ret))))⟩
def zjN:VC:=
.seq (
.seq (
.reg [qm 5 1,Rq 6 (.bin .gtr (.t 5) (.c (.int .i64 0)))]) (
.cond (.t 6) (
 .skip) (
 .exit 0))) (
.blk 1 (
.reg [qm 7 1,qm 8 0,qm 9 1,Rq 10 (.bin .rem (.t 8) (.t 9)),qm 0 7,qm 1 10]))
def zo8:Fnc:=⟨[.t 4],
.seq (
.reg [qk 4 0]) (
.seq (
.seq (
.blk 0 (
.loop [0,1] zjN)) (
.kp [0])) (
.seq (
.reg [qm 11 0,qm 4 11]) (
.ret)))⟩
def zc3:VC:=
.seq (
.seq (
.reg [qm 6 0,Rq 7 (.bin .gtr (.t 6) (.c (.int .i64 0))),qm 8 7,Rf 9 8 (.mov (.t 5)),Rf 10 8 (.len 0 (.t 9)),Rf 11 8 (.mov (.t 1)),Rf 12 8 (.bin .lss (.t 10) (.t 11)),qp 13 8 12]) (
.cond (.t 13) (
 .skip) (
 .exit 0))) (
.blk 1 (
.seq (
.reg [qm 14 0,Rq 15 (.bin .rem (.t 14) (.c (.int .i64 10))),qm 16 0,Rq 17 (.bin .rem (.t 16) (.c (.int .i64 10))),qa 18 17 1,Rq 19 (.sli .str (.c (.str [48,49,50,51,52,53,54,55,56,57])) (some (.t 15)) (some (.t 18))),qm 20 5,qA 21 19 20,qm 5 21]) (
.reg [qm 22 0,Rq 23 (.bin .quo (.t 22) (.c (.int .i64 10))),qm 0 23])))
def zkF:Fnc:=⟨[.t 4],
.seq (
.reg [Rq 4 (.mov (.c (.str [])))]) (
.seq (
.reg [Rq 5 (.mov (.c (.str [])))]) (
.seq (
.seq (
.blk 0 (
.loop [0,1,5] zc3)) (
.kp [5])) (
.seq (
.reg [qm 24 5,qm 4 24]) (
.ret))))⟩
def zjv:VC:=
.seq (
.seq (
.reg [qm 22 8,qm 23 1,qn 24 1 23,qT 25 22 24]) (
.cond (.t 25) (
 .skip) (
 .exit 2))) (
.seq (
.blk 3 (
.seq (
.reg [qm 28 5,qm 29 6,qm 30 8,qA 31 29 30,qi 32 1 28 31,ql 33 1 32,qm 34 0,qm 35 6,qi 36 1 34 35,ql 37 1 36,qm 38 1,qm 39 8,qi 40 1 38 39,ql 41 1 40,Rq 42 (.bin .mul (.t 37) (.t 41)),qA 43 33 42,qm 44 7,qA 45 43 44,qm 9 45]) (
.seq (
.reg [qm 46 5,qm 47 6,qm 48 8,qA 49 47 48,qm 50 9,Rq 51 (.bin .rem (.t 50) (.c (.int .i64 1000000000))),qi 52 1 46 49,qs 1 52 51]) (
.reg [qm 53 9,Rq 54 (.bin .quo (.t 53) (.c (.int .i64 1000000000))),qm 7 54])))) (
.reg [qm 26 8,qa 27 26 1,qm 8 27]))
def zjE:VC:=
.seq (
.seq (
.reg [qm 16 6,qm 17 0,qn 18 1 17,qT 19 16 18]) (
.cond (.t 19) (
 .skip) (
 .exit 0))) (
.seq (
.blk 1 (
.seq (
.reg [qk 7 0]) (
.seq (
.seq (
.reg [qk 8 0]) (
.seq (
.blk 2 (
.loop [0,1,5,6,7,8] zjv)) (
.kp [0,1,5,6,7]))) (
.reg [qm 55 5,qm 56 6,qm 57 1,qn 58 1 57,qA 59 56 58,qm 60 5,qm 61 6,qm 62 1,qn 63 1 62,qA 64 61 63,qi 65 1 60 64,ql 66 1 65,qm 67 7,qA 68 66 67,qi 69 1 55 59,qs 1 69 68])))) (
.reg [qm 20 6,qa 21 20 1,qm 6 21]))
def zoV:Fnc:=⟨[.t 4],
.seq (
.reg [qz 4]) (
.seq (
.reg [qm 10 0,qn 11 1 10,qm 12 1,qn 13 1 12,qA 14 11 13,Rq 15 (.mks 1 8 [.int .i64 0] (.t 14) (.t 14)),qm 5 15]) (
.seq (
.seq (
.reg [qk 6 0]) (
.seq (
.blk 0 (
.loop [0,1,5,6] zjE)) (
.kp [5]))) (
.seq (
.reg [qm 70 5,qc1 71 300 70,qm 4 71]) (
.ret))))⟩
def zyW:Fnc:=⟨[.cell 4 2 true],
.seq (
.reg [Rq 4 (.box 2 (.c (.agg [.bool false,.nils])))]) (
.seq (
.reg [qm 5 1,qc1 6 300 5,qm 1 6]) (
.seq (
.reg [qm 7 0,qm 8 7,Rt 9 8 (.mov (.t 1)),Rt 10 8 (.len 1 (.t 9)),Rt 11 8 (.bin .gtr (.t 10) (.c (.int .i64 0))),qq 12 8 11,qm 13 1,Rq 14 (.mkagg [.bool false,.nils] [(0,1,(.t 12)),(1,1,(.t 13))]),qs 2 4 14]) (
.ret)))⟩
def zdv:VC:=
.seq (
.seq (
.reg [qm 9 7,qm 10 0,qn 11 1 10,qT 12 9 11,qm 13 12,Rf 14 13 (.mov (.t 7)),Rf 15 13 (.mov (.t 1)),Rf 16 13 (.len 1 (.t 15)),Rf 17 13 (.bin .lss (.t 14) (.t 16)),qp 18 13 17,qm 19 18,Rf 20 19 (.mov (.t 6)),Rf 21 19 (.bin .gtr (.t 20) (.c (.int .i64 0))),qp 22 19 21]) (
.cond (.t 22) (
 .skip) (
 .exit 0))) (
.seq (
.blk 1 (
.seq (
.reg [qm 25 0,qm 26 7,qc2 27 302 25 26,qm 28 1,qm 29 7,qc2 30 302 28 29,qA 31 27 30,qm 32 6,qA 33 31 32,qm 8 33]) (
.seq (
.reg [qm 34 5,qm 35 8,Rq 36 (.bin .rem (.t 35) (.c (.int .i64 1000000000))),Rq 37 (.mksl 1 1 [.int .i64 0] [(0,1,(.t 36))]),Rq 38 (.app 1 8 (.t 34) (.t 37)),qm 5 38]) (
.reg [qm 39 8,Rq 40 (.bin .quo (.t 39) (.c (.int .i64 1000000000))),qm 6 40])))) (
.reg [qm 23 7,qa 24 23 1,qm 7 24]))
def zCj:Fnc:=⟨[.t 4],
.seq (
.reg [qz 4]) (
.seq (
.reg [qz 5]) (
.seq (
.reg [qk 6 0]) (
.seq (
.seq (
.reg [qk 7 0]) (
.seq (
.blk 0 (
.loop [0,1,5,6,7] zdv)) (
.kp [5]))) (
.seq (
.reg [qm 41 5,qm 4 41]) (
.ret)))))⟩
def zgH:VC:=
.seq (
.seq (
.reg [qm 19 5,Rq 20 (.bin .geq (.t 19) (.c (.int .i64 0)))]) (
.cond (.t 20) (
 .skip) (
 .exit 0))) (
.seq (
.blk 1 (
.seq (
.seq (
.reg [qm 23 0,qm 24 5,qi 25 1 23 24,ql 26 1 25,qm 27 1,qm 28 5,qi 29 1 27 28,ql 30 1 29,qT 31 26 30]) (
.cond (.t 31) (
 .seq (
 .reg [qk 4 (-1)]) (
 .ret)) (
 .skip))) (
.seq (
.reg [qm 32 0,qm 33 5,qi 34 1 32 33,ql 35 1 34,qm 36 1,qm 37 5,qi 38 1 36 37,ql 39 1 38,Rq 40 (.bin .gtr (.t 35) (.t 39))]) (
.cond (.t 40) (
 .seq (
 .reg [qk 4 1]) (
 .ret)) (
 .skip))))) (
.reg [qm 21 5,Rq 22 (.bin .sub (.t 21) (.c (.int .i64 1))),qm 5 22]))
def zmp:Fnc:=⟨[.t 4],
.seq (
.reg [qk 4 0]) (
.seq (
.seq (
.reg [qm 6 0,qn 7 1 6,qm 8 1,qn 9 1 8,Rq 10 (.bin .neq (.t 7) (.t 9))]) (
.cond (.t 10) (
 .seq (
 .seq (
 .reg [qm 11 0,qn 12 1 11,qm 13 1,qn 14 1 13,qT 15 12 14]) (
 .cond (.t 15) (
 .seq (
 .reg [qk 4 (-1)]) (
 .ret)) (
 .skip))) (
 .seq (
 .reg [qk 4 1]) (
 .ret))) (
 .skip))) (
.seq (
.seq (
.reg [qm 16 0,qn 17 1 16,Rq 18 (.bin .sub (.t 17) (.c (.int .i64 1))),qm 5 18]) (
.seq (
.blk 0 (
.loop [0,1,5] zgH)) (
.kp []))) (
.seq (
.reg [qk 4 0]) (
.ret))))⟩
def zOd:Fnc:=⟨[.cell 2 2 true],
.seq (
.reg [qb 1 2 0,Rq 2 (.box 2 (.c (.agg [.bool false,.nils])))]) (
.seq (
.reg [qo 3 0 1,ql 4 1 3,Rq 5 (.un .not (.t 4)),qo 6 1 1,ql 7 1 6,qc2 8 294 5 7,qs 2 2 8]) (
.ret))⟩
def zkf:VC:=
.seq (
.seq (
.reg [qm 16 8,Rq 17 (.bin .geq (.t 16) (.c (.int .i64 0)))]) (
.cond (.t 17) (
 .skip) (
 .exit 0))) (
.seq (
.blk 1 (
.seq (
.reg [qm 20 7,Rq 21 (.bin .mul (.t 20) (.c (.int .i64 1000000000))),qm 22 0,qm 23 8,qi 24 1 22 23,ql 25 1 24,qA 26 21 25,qm 9 26]) (
.seq (
.reg [qm 27 6,qm 28 8,qm 29 9,qm 30 1,Rq 31 (.bin .quo (.t 29) (.t 30)),qi 32 1 27 28,qs 1 32 31]) (
.reg [qm 33 9,qm 34 1,Rq 35 (.bin .rem (.t 33) (.t 34)),qm 7 35])))) (
.reg [qm 18 8,Rq 19 (.bin .sub (.t 18) (.c (.int .i64 1))),qm 8 19]))
def znz:Fnc:=⟨[.t 4,.t 5],
.seq (
.reg [qz 4,qk 5 0]) (
.seq (
.reg [qm 10 0,qn 11 1 10,Rq 12 (.mks 1 8 [.int .i64 0] (.t 11) (.t 11)),qm 6 12]) (
.seq (
.reg [qk 7 0]) (
.seq (
.seq (
.reg [qm 13 0,qn 14 1 13,Rq 15 (.bin .sub (.t 14) (.c (.int .i64 1))),qm 8 15]) (
.seq (
.blk 0 (
.loop [0,1,6,7,8] zkf)) (
.kp [6,7]))) (
.seq (
.reg [qm 36 6,qc1 37 300 36,qm 38 7,qm 4 37,qm 5 38]) (
.ret)))))⟩
def zgr:VC:=
.seq (
.seq (
.reg [qm 3 0,qn 4 1 3,Rq 5 (.bin .gtr (.t 4) (.c (.int .i64 0))),qm 6 5,Rt 7 6 (.mov (.t 0)),Rt 8 6 (.mov (.t 0)),Rt 9 6 (.len 1 (.t 8)),Rt 10 6 (.bin .sub (.t 9) (.c (.int .i64 1))),Rt 11 6 (.ixa 1 (.t 7) (.t 10)),Rt 12 6 (.ld 1 false (.t 11)),Rt 13 6 (.bin .eql (.t 12) (.c (.int .i64 0))),qq 14 6 13]) (
.cond (.t 14) (
 .skip) (
 .exit 0))) (
.blk 1 (
.reg [qm 15 0,qm 16 0,qn 17 1 16,Rq 18 (.bin .sub (.t 17) (.c (.int .i64 1))),Rq 19 (.sli (.sl 1) (.t 15) none (some (.t 18))),qm 0 19]))
def ziW:Fnc:=⟨[.t 2],
.seq (
.reg [qz 2]) (
.seq (
.seq (
.blk 0 (
.loop [0] zgr)) (
.kp [0])) (
.seq (
.reg [qm 20 0,qm 2 20]) (
.ret)))⟩
def zfO:VC:=
.seq (
.seq (
.reg [qm 42 9,Rq 43 (.bin .geq (.t 42) (.c (.int .i64 1000000000))),qm 44 43,Rf 45 44 (.mov (.t 9)),Rf 46 44 (.mov (.t 1)),Rf 47 44 (.mov (.t 7)),Rf 48 44 (.bin .sub (.t 47) (.c (.int .i64 2))),Rf 49 44 (.ixa 1 (.t 46) (.t 48)),Rf 50 44 (.ld 1 false (.t 49)),Rf 51 44 (.bin .mul (.t 45) (.t 50)),Rf 52 44 (.mov (.t 10)),Rf 53 44 (.bin .mul (.t 52) (.c (.int .i64 1000000000))),Rf 54 44 (.mov (.t 0)),Rf 55 44 (.mov (.t 2)),Rf 56 44 (.mov (.t 7)),Rf 57 44 (.bin .add (.t 55) (.t 56)),Rf 58 44 (.bin .sub (.t 57) (.c (.int .i64 2))),Rf 59 44 (.ixa 1 (.t 54) (.t 58)),Rf 60 44 (.ld 1 false (.t 59)),Rf 61 44 (.bin .add (.t 53) (.t 60)),Rf 62 44 (.bin .gtr (.t 51) (.t 61)),qp 63 44 62]) (
.cond (.t 63) (
 .skip) (
 .exit 0))) (
.blk 1 (
.seq (
.reg [qm 64 9,Rq 65 (.bin .sub (.t 64) (.c (.int .i64 1))),qm 9 65]) (
.seq (
.reg [qm 66 10,qm 67 1,qm 68 7,Rq 69 (.bin .sub (.t 68) (.c (.int .i64 1))),qi 70 1 67 69,ql 71 1 70,qA 72 66 71,qm 10 72]) (
.seq (
.reg [qm 73 10,Rq 74 (.bin .geq (.t 73) (.c (.int .i64 1000000000)))]) (
.cond (.t 74) (
 .seq (
 .reg [qm 75 9,qm 6 75]) (
 .ret)) (
 .skip))))))
def c301:Fnc:=⟨[.t 6],
.seq (
.reg [qk 6 0]) (
.seq (
.reg [qm 11 1,qn 12 1 11,qm 7 12]) (
.seq (
.reg [qm 13 0,qm 14 2,qm 15 7,qA 16 14 15,qi 17 1 13 16,ql 18 1 17,Rq 19 (.bin .mul (.t 18) (.c (.int .i64 1000000000))),qm 20 0,qm 21 2,qm 22 7,qA 23 21 22,Rq 24 (.bin .sub (.t 23) (.c (.int .i64 1))),qi 25 1 20 24,ql 26 1 25,qA 27 19 26,qm 8 27]) (
.seq (
.reg [qm 28 8,qm 29 1,qm 30 7,Rq 31 (.bin .sub (.t 30) (.c (.int .i64 1))),qi 32 1 29 31,ql 33 1 32,Rq 34 (.bin .quo (.t 28) (.t 33)),qm 35 8,qm 36 1,qm 37 7,Rq 38 (.bin .sub (.t 37) (.c (.int .i64 1))),qi 39 1 36 38,ql 40 1 39,Rq 41 (.bin .rem (.t 35) (.t 40)),qm 9 34,qm 10 41]) (
.seq (
.seq (
.blk 0 (
.loop [0,1,2,7,9,10] zfO)) (
.kp [9])) (
.seq (
.reg [qm 76 9,qm 6 76]) (
.ret))))))⟩
def zpe:Fnc:=⟨[.t 4],
.seq (
.reg [qk 4 0]) (
.seq (
.seq (
.reg [qm 5 1,qm 6 0,qn 7 1 6,qT 8 5 7]) (
.cond (.t 8) (
 .seq (
 .reg [qm 9 0,qm 10 1,qi 11 1 9 10,ql 12 1 11,qm 4 12]) (
 .ret)) (
 .skip))) (
.seq (
.reg [qk 4 0]) (
.ret)))⟩
end VE
end
section
namespace VE
def zw2:Fnc:=⟨[.t 2],
.seq (
.reg [Rq 2 (.mov (.c (.str [])))]) (
.seq (
.seq (
.reg [qm 5 0,qc1 6 338 5]) (
.cond (.t 6) (
 .seq (
 .reg [qm 7 0,qm 2 7]) (
 .ret)) (
 .skip))) (
.seq (
.reg [qm 9 0,qc1 10 274 9,qm 8 10,qe 11 0 8,qe 12 1 8,Rq 3 (.box 2 (.c (.agg [.bool false,.nils]))),Rq 4 (.box 2 (.c (.agg [.bool false,.nils]))),qs 2 3 11,qs 2 4 12]) (
.seq (
.reg [qL 13 2 3,qL 14 2 4,qc2 15 339 13 14,qc1 16 282 15,qm 2 16]) (
.ret))))⟩
def zuo:Fnc:=⟨[.t 2],
.seq (
.reg [qf 2]) (
.seq (
.reg [qm 3 0,qc1 4 272 3,qm 5 0,qn 6 0 5,Rq 7 (.bin .eql (.t 4) (.t 6)),qm 2 7]) (
.ret))⟩
def zpB:Fnc:=⟨[.cell 4 2 true],
.seq (
.reg [qb 2 2 0,qb 3 2 1,Rq 4 (.box 2 (.c (.agg [.bool false,.nils])))]) (
.seq (
.reg [qo 8 1 2,ql 9 1 8,qo 10 1 3,ql 11 1 10,qc2 12 289 9 11,qm 7 12,qe 13 0 7,qe 14 1 7,qm 5 13,qm 6 14]) (
.seq (
.seq (
.reg [qo 15 0 2,ql 16 1 15,qm 17 16,Rt 18 17 (.mov (.t 6)),Rt 19 17 (.len 1 (.t 18)),Rt 20 17 (.bin .gtr (.t 19) (.c (.int .i64 0))),qq 21 17 20]) (
.cond (.t 21) (
 .reg [qm 22 5,Rq 23 (.mksl 1 1 [.int .i64 0] [(0,1,(.c (.int .i64 1)))]),qc2 24 295 22 23,qm 5 24]) (
 .skip))) (
.seq (
.reg [qo 25 0 2,ql 26 1 25,qm 27 5,qc2 28 294 26 27,qs 2 4 28]) (
.ret))))⟩
end VE
end
