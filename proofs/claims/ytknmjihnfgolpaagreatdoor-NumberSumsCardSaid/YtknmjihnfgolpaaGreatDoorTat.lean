import Derived.Test.YtknmjihnfgolpaaGreatDoorTas
set_option linter.all false
set_option maxRecDepth 100000
namespace VE
def zEU:VC:=
.seq (
.reg [qT 23 22 21]) (
.seq (
.cond (.t 23) (
 .skip) (
 .exit 0)) (
.seq (
.blk 1 (
.seq (
.reg [qm 24 22,qm 8 24]) (
.reg [qm 25 7,qm 26 8,Rq 27 (.mksl 1 1 [.int .i64 0] [(0,1,(.t 26))]),Rq 28 (.app 1 8 (.t 25) (.t 27)),qm 7 28]))) (
.reg [qa 29 22 1,qm 22 29])))
def zKG:VC:=
.seq (
.seq (
.reg [qm 33 10,Rq 34 (.bin .gtr (.t 33) (.c (.int .i64 0)))]) (
.cond (.t 34) (
 .skip) (
 .exit 2))) (
.seq (
.blk 3 (
.seq (
.reg [qm 37 9,Rq 38 (.bin .mul (.c (.int .i64 39373)) (.t 37)),Rq 39 (.bin .rem (.t 38) (.c (.int .i64 2147483647))),qm 9 39]) (
.seq (
.reg [qm 40 9,qm 41 10,qa 42 41 1,Rq 43 (.bin .rem (.t 40) (.t 42)),qm 11 43]) (
.reg [qm 44 7,qm 45 10,qm 46 7,qm 47 11,qm 48 7,qm 49 11,qi 50 1 48 49,ql 51 1 50,qm 52 7,qm 53 10,qi 54 1 52 53,ql 55 1 54,qi 56 1 44 45,qs 1 56 51,qi 57 1 46 47,qs 1 57 55])))) (
.reg [qm 35 10,Rq 36 (.bin .sub (.t 35) (.c (.int .i64 1))),qm 10 36]))
def zQi:Fnc:=⟨[.t 4,.t 5],
.seq (
.reg [qz 4,qk 5 0]) (
.seq (
.seq (
.reg [qm 12 0,Rq 13 (.call .pure (.c (.fn (.f 206) [] [])) [(.t 12),(.c (.int .i64 1)),(.c (.int .i64 2147483646))]),qm 14 1,Rq 15 (.call .pure (.c (.fn (.f 206) [] [])) [(.t 14),(.c (.int .i64 0)),(.c (.int .i64 256))]),Rq 16 (.mksl 2 1 [.int .i64 0,.int .i64 0] [(0,1,(.t 13)),(1,1,(.t 15))]),qc1 17 125 16,qm 6 17]) (
.seq (
.reg [qm 18 6,qN 19 18 0]) (
.cond (.t 19) (
 .seq (
 .reg [qm 20 6,qz 4,qm 5 20]) (
 .ret)) (
 .skip)))) (
.seq (
.reg [qz 7]) (
.seq (
.seq (
.reg [qm 21 1,qk 22 0]) (
.seq (
.blk 0 (
.loop [0,1,7,21,22] zEU)) (
.kp [0,1,7]))) (
.seq (
.reg [qm 30 0,qm 9 30]) (
.seq (
.seq (
.reg [qm 31 1,Rq 32 (.bin .sub (.t 31) (.c (.int .i64 1))),qm 10 32]) (
.seq (
.blk 2 (
.loop [7,9,10] zKG)) (
.kp [7]))) (
.seq (
.reg [qm 58 7,qm 4 58,qk 5 0]) (
.ret)))))))⟩
def zRn:Fnc:=⟨[.t 6],
.seq (
.reg [qk 6 0]) (
.seq (
.reg [qm 7 0,qm 8 1,qT 9 7 8,qm 10 9,Rf 11 10 (.mov (.t 0)),Rf 12 10 (.mov (.t 2)),Rf 13 10 (.bin .gtr (.t 11) (.t 12)),qp 14 10 13,Rq 15 (.call .pure (.c (.fn (.f 124) [] [])) [(.t 14),(.c (.int .i64 3))]),qm 6 15]) (
.ret))⟩
def zBS:Fnc:=⟨[.t 2,.t 3],
.seq (
.reg [qb 1 4 0,Rq 2 (.mov (.c (.str []))),qk 3 0]) (
.seq (
.seq (
.reg [qL 4 4 1,qc1 5 107 4]) (
.cond (.t 5) (
 .seq (
 .reg [Rq 2 (.mov (.c (.str []))),qk 3 4]) (
 .ret)) (
 .skip))) (
.seq (
.reg [qL 6 4 1,qc1 7 46 6,qm 2 7,qk 3 0]) (
.ret)))⟩
end VE
