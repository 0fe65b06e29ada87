import Derived.Test.YteioemjpepbdgaaGreatDoorCode
set_option linter.all false
set_option maxRecDepth 100000
namespace VE
def c253 : Fnc := ⟨[.t 6],
.seq (
.reg [Rq 6 (.mov (.c (.bool false)))]) (
.seq (
.seq (
.reg [Rq 16 (.call .pure (.c (.fn (.f 1) [] [])) []),Rq 17 (.un .not (.t 16)),Rq 18 (.mov (.t 17)),⟨some 19,some (18,false),.mov (.t 0)⟩,⟨some 20,some (18,false),.call .pure (.c (.fn (.f 2) [] [])) [.t 19,.c (.int .i64 8)]⟩,⟨some 21,some (18,false),.un .not (.t 20)⟩,Rq 22 (.pick (.t 18) (.c (.bool true)) (.t 21))]) (
.cond (.t 22) (
 .seq (
 .reg [Rq 23 (.call .pure (.c (.fn (.f 1) [] [])) []),
   Rq 6 (.mov (.t 23))]) (
 .ret)) (
 .skip))) (
.seq (
.reg [Rq 25 (.mov (.t 0)),Rq 26 (.call .pure (.c (.fn (.f 16) [] [])) [.t 25]),Rq 24 (.mov (.t 26)),Rq 27 (.ext 0 (.t 24)),Rq 28 (.ext 1 (.t 24)),Rq 7 (.mov (.t 27)),Rq 8 (.mov (.t 28))]) (
.seq (
.reg [Rq 30 (.mov (.t 0)),Rq 31 (.call .pure (.c (.fn (.f 17) [] [])) [.t 30]),Rq 29 (.mov (.t 31)),Rq 32 (.ext 0 (.t 29)),Rq 33 (.ext 1 (.t 29)),Rq 9 (.mov (.t 32)),Rq 10 (.mov (.t 33))]) (
.seq (
.reg [Rq 35 (.mov (.t 0)),Rq 36 (.mov (.t 1)),Rq 37 (.mov (.t 2)),Rq 38 (.call .pure (.c (.fn (.f 18) [] [])) [.t 35,.t 36,.t 37]),Rq 34 (.mov (.t 38)),Rq 39 (.ext 0 (.t 34)),Rq 40 (.ext 1 (.t 34)),Rq 11 (.mov (.t 39)),Rq 12 (.mov (.t 40))]) (
.seq (
.reg [Rq 42 (.mov (.t 0)),Rq 43 (.mov (.t 1)),Rq 44 (.mov (.t 2)),Rq 45 (.call .pure (.c (.fn (.f 20) [] [])) [.t 42,.t 43,.t 44]),Rq 41 (.mov (.t 45)),Rq 46 (.ext 0 (.t 41)),Rq 47 (.ext 1 (.t 41)),Rq 13 (.mov (.t 46)),Rq 14 (.mov (.t 47))]) (
.seq (
.reg [Rq 48 (.mov (.t 0)),Rq 49 (.call .pure (.c (.fn (.f 3) [] [])) [.t 48]),Rq 15 (.mov (.t 49))]) (
.seq (
.seq (
.reg [Rq 50 (.mov (.t 15)),Rq 51 (.bin .neq (.t 50) (.c (.int .i64 0)))]) (
.cond (.t 51) (
 .seq (
 .reg [Rq 52 (.mov (.t 7)),
   Rq 53 (.mov (.t 8)),
   Rq 54 (.mov (.t 15)),
   Rq 55 (.call .pure (.c (.fn (.f 255) [] [])) [.t 52,.t 53,.t 54,.c (.str [])]),
   Rq 56 (.mov (.t 55)),
   ⟨some 57,some (56,true),.mov (.t 9)⟩,
   ⟨some 58,some (56,true),.mov (.t 10)⟩,
   ⟨some 59,some (56,true),.mov (.t 15)⟩,
   ⟨some 60,some (56,true),.call .pure (.c (.fn (.f 255) [] [])) [.t 57,.t 58,.t 59,.c (.str [])]⟩,
   Rq 61 (.pick (.t 56) (.t 60) (.c (.bool false))),
   Rq 62 (.mov (.t 61)),
   ⟨some 63,some (62,true),.mov (.t 11)⟩,
   ⟨some 64,some (62,true),.mov (.t 12)⟩,
   ⟨some 65,some (62,true),.mov (.t 15)⟩,
   ⟨some 66,some (62,true),.call .pure (.c (.fn (.f 255) [] [])) [.t 63,.t 64,.t 65,.c (.str [])]⟩,
   Rq 67 (.pick (.t 62) (.t 66) (.c (.bool false))),
   Rq 68 (.mov (.t 67)),
   ⟨some 69,some (68,true),.mov (.t 13)⟩,
   ⟨some 70,some (68,true),.mov (.t 14)⟩,
   ⟨some 71,some (68,true),.mov (.t 15)⟩,
   ⟨some 72,some (68,true),.call .pure (.c (.fn (.f 7) [] [])) [.t 69,.t 70,.t 71,.c (.nils)]⟩,
   Rq 73 (.pick (.t 68) (.t 72) (.c (.bool false))),
   Rq 6 (.mov (.t 73))]) (
 .ret)) (
 .skip))) (
.seq (
.seq (
.reg [Rq 74 (.mov (.t 7)),Rq 75 (.mov (.t 8)),Rq 76 (.mov (.t 0)),Rq 77 (.call .pure (.c (.fn (.f 256) [] [])) [.t 76]),Rq 78 (.call .pure (.c (.fn (.f 255) [] [])) [.t 74,.t 75,.c (.int .i64 0),.t 77]),Rq 79 (.un .not (.t 78)),Rq 80 (.mov (.t 79)),⟨some 81,some (80,false),.mov (.t 9)⟩,⟨some 82,some (80,false),.mov (.t 10)⟩,⟨some 83,some (80,false),.mov (.t 0)⟩,⟨some 84,some (80,false),.call .pure (.c (.fn (.f 257) [] [])) [.t 83]⟩,⟨some 85,some (80,false),.call .pure (.c (.fn (.f 255) [] [])) [.t 81,.t 82,.c (.int .i64 0),.t 84]⟩,⟨some 86,some (80,false),.un .not (.t 85)⟩,Rq 87 (.pick (.t 80) (.c (.bool true)) (.t 86))]) (
.cond (.t 87) (
 .seq (
 .reg [Rq 6 (.mov (.c (.bool false)))]) (
 .ret)) (
 .skip))) (
.seq (
.reg [Rq 88 (.mov (.t 1)),Rq 89 (.call .pure (.c (.fn (.f 258) [] [])) [.t 88]),Rq 90 (.mov (.t 2)),Rq 91 (.call .pure (.c (.fn (.f 258) [] [])) [.t 90]),Rq 92 (.mksl 2 1 [.int .i64 0,.int .i64 0] [(0,1,(.t 89)),(1,1,(.t 91))]),Rq 93 (.call .pure (.c (.fn (.f 11) [] [])) [.t 92]),Rq 15 (.mov (.t 93))]) (
.seq (
.seq (
.reg [Rq 94 (.mov (.t 15)),Rq 95 (.bin .neq (.t 94) (.c (.int .i64 0)))]) (
.cond (.t 95) (
 .seq (
 .reg [Rq 96 (.mov (.t 11)),
   Rq 97 (.mov (.t 12)),
   Rq 98 (.mov (.t 15)),
   Rq 99 (.call .pure (.c (.fn (.f 255) [] [])) [.t 96,.t 97,.t 98,.c (.str [])]),
   Rq 100 (.mov (.t 99)),
   ⟨some 101,some (100,true),.mov (.t 13)⟩,
   ⟨some 102,some (100,true),.mov (.t 14)⟩,
   ⟨some 103,some (100,true),.mov (.t 15)⟩,
   ⟨some 104,some (100,true),.call .pure (.c (.fn (.f 7) [] [])) [.t 101,.t 102,.t 103,.c (.nils)]⟩,
   Rq 105 (.pick (.t 100) (.t 104) (.c (.bool false))),
   Rq 6 (.mov (.t 105))]) (
 .ret)) (
 .skip))) (
.seq (
.reg [Rq 106 (.mov (.t 11)),Rq 107 (.mov (.t 12)),Rq 108 (.mov (.t 0)),Rq 109 (.mov (.t 1)),Rq 110 (.mov (.t 2)),Rq 111 (.call .pure (.c (.fn (.f 259) [] [])) [.t 108,.t 109,.t 110]),Rq 112 (.call .pure (.c (.fn (.f 255) [] [])) [.t 106,.t 107,.c (.int .i64 0),.t 111]),Rq 113 (.mov (.t 112)),⟨some 114,some (113,true),.mov (.t 13)⟩,⟨some 115,some (113,true),.mov (.t 14)⟩,⟨some 116,some (113,true),.mov (.t 0)⟩,⟨some 117,some (113,true),.mov (.t 1)⟩,⟨some 118,some (113,true),.mov (.t 2)⟩,⟨some 119,some (113,true),.call .pure (.c (.fn (.f 260) [] [])) [.t 116,.t 117,.t 118]⟩,⟨some 120,some (113,true),.call .pure (.c (.fn (.f 7) [] [])) [.t 114,.t 115,.c (.int .i64 0),.t 119]⟩,Rq 121 (.pick (.t 113) (.t 120) (.c (.bool false))),Rq 6 (.mov (.t 121))]) (
.ret))))))))))))⟩
def c255 : Fnc := ⟨[.t 8],
.seq (
.reg [Rq 8 (.mov (.c (.bool false)))]) (
.seq (
.seq (
.reg [Rq 9 (.mov (.t 2)),Rq 10 (.bin .eql (.t 9) (.c (.int .i64 0)))]) (
.cond (.t 10) (
 .reg [Rq 11 (.mov (.t 3)),
   Rq 12 (.call .pure (.c (.fn (.f 269) [] [])) [.t 11]),
   Rq 2 (.mov (.t 12))]) (
 .skip))) (
.seq (
.seq (
.reg [Rq 13 (.mov (.t 2)),Rq 14 (.bin .neq (.t 13) (.c (.int .i64 0)))]) (
.cond (.t 14) (
 .seq (
 .reg [Rq 15 (.mov (.t 0)),
   Rq 16 (.bin .eql (.t 15) (.c (.str []))),
   Rq 17 (.mov (.t 16)),
   ⟨some 18,some (17,true),.mov (.t 1)⟩,
   ⟨some 19,some (17,true),.mov (.t 2)⟩,
   ⟨some 20,some (17,true),.bin .eql (.t 18) (.t 19)⟩,
   Rq 21 (.pick (.t 17) (.t 20) (.c (.bool false))),
   Rq 8 (.mov (.t 21))]) (
 .ret)) (
 .skip))) (
.seq (
.reg [Rq 22 (.mov (.t 1)),Rq 23 (.bin .eql (.t 22) (.c (.int .i64 0))),Rq 24 (.mov (.t 23)),⟨some 25,some (24,true),.mov (.t 0)⟩,⟨some 26,some (24,true),.mov (.t 3)⟩,⟨some 27,some (24,true),.bin .eql (.t 25) (.t 26)⟩,Rq 28 (.pick (.t 24) (.t 27) (.c (.bool false))),Rq 8 (.mov (.t 28))]) (
.ret))))⟩
def c256_0 : VC :=
.seq (
.seq (
.reg [Rq 12 (.mov (.t 5)),Rq 13 (.mov (.t 0)),Rq 14 (.len 1 (.t 13)),Rq 15 (.bin .lss (.t 12) (.t 14))]) (
.cond (.t 15) (
 .skip) (
 .exit 2))) (
.seq (
.blk 3 (
.reg [Rq 18 (.mov (.t 3)),Rq 19 (.mov (.t 0)),Rq 20 (.mov (.t 4)),Rq 21 (.ixa 1 (.t 19) (.t 20)),Rq 22 (.ld 1 false (.t 21)),Rq 23 (.mov (.t 5)),Rq 24 (.ixa 1 (.t 22) (.t 23)),Rq 25 (.ld 1 false (.t 24)),Rq 26 (.bin .add (.t 18) (.t 25)),Rq 3 (.mov (.t 26))])) (
.reg [Rq 16 (.mov (.t 5)),Rq 17 (.bin .add (.t 16) (.c (.int .i64 1))),Rq 5 (.mov (.t 17))]))
def c256_1 : VC :=
.seq (
.seq (
.reg [Rq 6 (.mov (.t 4)),Rq 7 (.mov (.t 0)),Rq 8 (.len 1 (.t 7)),Rq 9 (.bin .lss (.t 6) (.t 8))]) (
.cond (.t 9) (
 .skip) (
 .exit 0))) (
.seq (
.blk 1 (
.seq (
.reg [Rq 5 (.mov (.c (.int .i64 0)))]) (
.seq (
.blk 2 (
.loop [0,3,4,5] c256_0)) (
.kp [0,3,4])))) (
.reg [Rq 10 (.mov (.t 4)),Rq 11 (.bin .add (.t 10) (.c (.int .i64 1))),Rq 4 (.mov (.t 11))]))
def c256 : Fnc := ⟨[.t 2],
.seq (
.reg [Rq 2 (.mov (.c (.str [])))]) (
.seq (
.reg [Rq 3 (.mov (.c (.int .i64 0)))]) (
.seq (
.seq (
.reg [Rq 4 (.mov (.c (.int .i64 0)))]) (
.seq (
.blk 0 (
.loop [0,3,4] c256_1)) (
.kp [0,3]))) (
.seq (
.reg [Rq 27 (.mov (.t 3)),Rq 28 (.mov (.t 0)),Rq 29 (.len 1 (.t 28)),Rq 30 (.call .pure (.c (.fn (.f 270) [] [])) [.t 27,.t 29]),Rq 2 (.mov (.t 30))]) (
.ret))))⟩
def c257_0 : VC :=
.seq (
.seq (
.reg [Rq 13 (.mov (.t 5)),Rq 14 (.mov (.t 0)),Rq 15 (.len 1 (.t 14)),Rq 16 (.bin .lss (.t 13) (.t 15))]) (
.cond (.t 16) (
 .skip) (
 .exit 2))) (
.seq (
.blk 3 (
.reg [Rq 19 (.mov (.t 3)),Rq 20 (.mov (.t 0)),Rq 21 (.mov (.t 4)),Rq 22 (.ixa 1 (.t 20) (.t 21)),Rq 23 (.ld 1 false (.t 22)),Rq 24 (.mov (.t 5)),Rq 25 (.ixa 1 (.t 23) (.t 24)),Rq 26 (.ld 1 false (.t 25)),Rq 27 (.mov (.t 0)),Rq 28 (.mov (.t 4)),Rq 29 (.ixa 1 (.t 27) (.t 28)),Rq 30 (.ld 1 false (.t 29)),Rq 31 (.mov (.t 5)),Rq 32 (.ixa 1 (.t 30) (.t 31)),Rq 33 (.ld 1 false (.t 32)),Rq 34 (.bin .mul (.t 26) (.t 33)),Rq 35 (.bin .add (.t 19) (.t 34)),Rq 3 (.mov (.t 35))])) (
.reg [Rq 17 (.mov (.t 5)),Rq 18 (.bin .add (.t 17) (.c (.int .i64 1))),Rq 5 (.mov (.t 18))]))
def c257_1 : VC :=
.seq (
.seq (
.reg [Rq 7 (.mov (.t 4)),Rq 8 (.mov (.t 0)),Rq 9 (.len 1 (.t 8)),Rq 10 (.bin .lss (.t 7) (.t 9))]) (
.cond (.t 10) (
 .skip) (
 .exit 0))) (
.seq (
.blk 1 (
.seq (
.reg [Rq 5 (.mov (.c (.int .i64 0)))]) (
.seq (
.blk 2 (
.loop [0,3,4,5] c257_0)) (
.kp [0,3,4])))) (
.reg [Rq 11 (.mov (.t 4)),Rq 12 (.bin .add (.t 11) (.c (.int .i64 1))),Rq 4 (.mov (.t 12))]))
def c257 : Fnc := ⟨[.t 2],
.seq (
.reg [Rq 2 (.mov (.c (.str [])))]) (
.seq (
.reg [Rq 3 (.mov (.c (.int .i64 0)))]) (
.seq (
.seq (
.reg [Rq 4 (.mov (.c (.int .i64 0)))]) (
.seq (
.blk 0 (
.loop [0,3,4] c257_1)) (
.kp [0,3]))) (
.seq (
.reg [Rq 36 (.mov (.t 0)),Rq 37 (.call .pure (.c (.fn (.f 256) [] [])) [.t 36]),Rq 6 (.mov (.t 37))]) (
.seq (
.reg [Rq 38 (.mov (.t 3)),Rq 39 (.mov (.t 0)),Rq 40 (.len 1 (.t 39)),Rq 41 (.call .pure (.c (.fn (.f 270) [] [])) [.t 38,.t 40]),Rq 42 (.mov (.t 6)),Rq 43 (.mov (.t 6)),Rq 44 (.call .pure (.c (.fn (.f 267) [] [])) [.t 42,.t 43]),Rq 45 (.call .pure (.c (.fn (.f 271) [] [])) [.t 41,.t 44]),Rq 2 (.mov (.t 45))]) (
.ret)))))⟩
def c258 : Fnc := ⟨[.t 2],
.seq (
.reg [Rq 2 (.mov (.c (.int .i64 0)))]) (
.seq (
.reg [Rq 3 (.mov (.t 0)),Rq 4 (.call .pure (.c (.fn (.f 30) [] [])) [.t 3,.c (.int .i64 (-999999999)),.c (.int .i64 999999999)]),Rq 2 (.mov (.t 4))]) (
.ret))⟩
def c259_0 : VC :=
.seq (
.seq (
.reg [Rq 17 (.mov (.t 9)),Rq 18 (.mov (.t 0)),Rq 19 (.len 1 (.t 18)),Rq 20 (.bin .lss (.t 17) (.t 19))]) (
.cond (.t 20) (
 .skip) (
 .exit 2))) (
.seq (
.blk 3 (
.seq (
.reg [Rq 23 (.mov (.t 0)),Rq 24 (.mov (.t 9)),Rq 25 (.mov (.t 1)),Rq 26 (.bin .add (.t 24) (.t 25)),Rq 27 (.mov (.t 8)),Rq 28 (.mov (.t 2)),Rq 29 (.bin .add (.t 27) (.t 28)),Rq 30 (.call .pure (.c (.fn (.f 43) [] [])) [.t 23,.t 26,.t 29]),Rq 31 (.mov (.t 0)),Rq 32 (.mov (.t 8)),Rq 33 (.ixa 1 (.t 31) (.t 32)),Rq 34 (.ld 1 false (.t 33)),Rq 35 (.mov (.t 9)),Rq 36 (.ixa 1 (.t 34) (.t 35)),Rq 37 (.ld 1 false (.t 36)),Rq 38 (.bin .sub (.t 30) (.t 37)),Rq 10 (.mov (.t 38))]) (
.reg [Rq 39 (.mov (.t 7)),Rq 40 (.mov (.t 10)),Rq 41 (.mov (.t 10)),Rq 42 (.bin .mul (.t 40) (.t 41)),Rq 43 (.bin .add (.t 39) (.t 42)),Rq 7 (.mov (.t 43))]))) (
.reg [Rq 21 (.mov (.t 9)),Rq 22 (.bin .add (.t 21) (.c (.int .i64 1))),Rq 9 (.mov (.t 22))]))
def c259_1 : VC :=
.seq (
.seq (
.reg [Rq 11 (.mov (.t 8)),Rq 12 (.mov (.t 0)),Rq 13 (.len 1 (.t 12)),Rq 14 (.bin .lss (.t 11) (.t 13))]) (
.cond (.t 14) (
 .skip) (
 .exit 0))) (
.seq (
.blk 1 (
.seq (
.reg [Rq 9 (.mov (.c (.int .i64 0)))]) (
.seq (
.blk 2 (
.loop [0,1,2,7,8,9] c259_0)) (
.kp [0,1,2,7,8])))) (
.reg [Rq 15 (.mov (.t 8)),Rq 16 (.bin .add (.t 15) (.c (.int .i64 1))),Rq 8 (.mov (.t 16))]))
def c259 : Fnc := ⟨[.t 6],
.seq (
.reg [Rq 6 (.mov (.c (.str [])))]) (
.seq (
.reg [Rq 7 (.mov (.c (.int .i64 0)))]) (
.seq (
.seq (
.reg [Rq 8 (.mov (.c (.int .i64 0)))]) (
.seq (
.blk 0 (
.loop [0,1,2,7,8] c259_1)) (
.kp [0,7]))) (
.seq (
.reg [Rq 44 (.mov (.t 7)),Rq 45 (.mov (.t 0)),Rq 46 (.len 1 (.t 45)),Rq 47 (.call .pure (.c (.fn (.f 270) [] [])) [.t 44,.t 46]),Rq 6 (.mov (.t 47))]) (
.ret))))⟩
def c260_0 : VC :=
.seq (
.seq (
.reg [Rq 17 (.mov (.t 10)),Rq 18 (.mov (.t 0)),Rq 19 (.len 1 (.t 18)),Rq 20 (.bin .lss (.t 17) (.t 19))]) (
.cond (.t 20) (
 .skip) (
 .exit 2))) (
.seq (
.blk 3 (
.reg [Rq 23 (.mov (.t 9)),Rq 24 (.mov (.t 0)),Rq 25 (.mov (.t 10)),Rq 26 (.mov (.t 1)),Rq 27 (.bin .sub (.t 25) (.t 26)),Rq 28 (.mov (.t 8)),Rq 29 (.mov (.t 2)),Rq 30 (.bin .sub (.t 28) (.t 29)),Rq 31 (.call .pure (.c (.fn (.f 43) [] [])) [.t 24,.t 27,.t 30]),Rq 32 (.mksl 1 1 [.int .i64 0] [(0,1,(.t 31))]),Rq 33 (.app 1 8 (.t 23) (.t 32)),Rq 9 (.mov (.t 33))])) (
.reg [Rq 21 (.mov (.t 10)),Rq 22 (.bin .add (.t 21) (.c (.int .i64 1))),Rq 10 (.mov (.t 22))]))
def c260_1 : VC :=
.seq (
.seq (
.reg [Rq 11 (.mov (.t 8)),Rq 12 (.mov (.t 0)),Rq 13 (.len 1 (.t 12)),Rq 14 (.bin .lss (.t 11) (.t 13))]) (
.cond (.t 14) (
 .skip) (
 .exit 0))) (
.seq (
.blk 1 (
.seq (
.reg [Rq 9 (.mov (.c (.nils)))]) (
.seq (
.seq (
.reg [Rq 10 (.mov (.c (.int .i64 0)))]) (
.seq (
.blk 2 (
.loop [0,1,2,7,8,9,10] c260_0)) (
.kp [0,1,2,7,8,9]))) (
.seq (
.fz [9]) (
.reg [Rq 34 (.mov (.t 7)),Rq 35 (.mov (.t 9)),Rq 36 (.mksl 1 1 [.nils] [(0,1,(.t 35))]),Rq 37 (.app 1 24 (.t 34) (.t 36)),Rq 7 (.mov (.t 37))]))))) (
.reg [Rq 15 (.mov (.t 8)),Rq 16 (.bin .add (.t 15) (.c (.int .i64 1))),Rq 8 (.mov (.t 16))]))
def c260 : Fnc := ⟨[.t 6],
.seq (
.reg [Rq 6 (.mov (.c (.nils)))]) (
.seq (
.reg [Rq 7 (.mov (.c (.nils)))]) (
.seq (
.seq (
.reg [Rq 8 (.mov (.c (.int .i64 0)))]) (
.seq (
.blk 0 (
.loop [0,1,2,7,8] c260_1)) (
.kp [7]))) (
.seq (
.reg [Rq 38 (.mov (.t 7)),Rq 6 (.mov (.t 38))]) (
.ret))))⟩
def c262 : Fnc := ⟨[.t 2],
.seq (
.reg [Rq 2 (.mov (.c (.int .i64 0)))]) (
.seq (
.seq (
.reg [Rq 3 (.mov (.t 0)),Rq 4 (.bin .eql (.t 3) (.c (.str [48])))]) (
.cond (.t 4) (
 .seq (
 .reg [Rq 2 (.mov (.c (.int .i64 0)))]) (
 .ret)) (
 .skip))) (
.seq (
.seq (
.reg [Rq 5 (.mov (.t 0)),Rq 6 (.len 0 (.t 5)),Rq 7 (.bin .gtr (.t 6) (.c (.int .i64 0))),Rq 8 (.mov (.t 7)),⟨some 9,some (8,true),.mov (.t 0)⟩,⟨some 10,some (8,true),.ixs (.t 9) (.c (.int .i64 0))⟩,⟨some 11,some (8,true),.bin .eql (.t 10) (.c (.int .u8 45))⟩,Rq 12 (.pick (.t 8) (.t 11) (.c (.bool false)))]) (
.cond (.t 12) (
 .seq (
 .reg [Rq 2 (.mov (.c (.int .i64 (-1))))]) (
 .ret)) (
 .skip))) (
.seq (
.reg [Rq 2 (.mov (.c (.int .i64 1)))]) (
.ret))))⟩
def c264 : Fnc := ⟨[.t 4],
.seq (
.reg [Rq 4 (.mov (.c (.str [])))]) (
.seq (
.reg [Rq 16 (.mov (.t 0)),Rq 17 (.call .pure (.c (.fn (.f 276) [] [])) [.t 16]),Rq 15 (.mov (.t 17)),Rq 18 (.ext 0 (.t 15)),Rq 19 (.ext 1 (.t 15)),Rq 20 (.ext 2 (.t 15)),Rq 5 (.mov (.t 18)),Rq 6 (.mov (.t 19)),Rq 7 (.mov (.t 20))]) (
.seq (
.reg [Rq 22 (.mov (.t 1)),Rq 23 (.call .pure (.c (.fn (.f 276) [] [])) [.t 22]),Rq 21 (.mov (.t 23)),Rq 24 (.ext 0 (.t 21)),Rq 25 (.ext 1 (.t 21)),Rq 26 (.ext 2 (.t 21)),Rq 8 (.mov (.t 24)),Rq 9 (.mov (.t 25)),Rq 10 (.mov (.t 26))]) (
.seq (
.seq (
.reg [Rq 27 (.mov (.t 7)),Rq 28 (.mov (.t 27)),⟨some 29,some (28,true),.mov (.t 10)⟩,Rq 30 (.pick (.t 28) (.t 29) (.c (.bool false)))]) (
.cond (.t 30) (
 .seq (
 .reg [Rq 31 (.mov (.t 5)),
   Rq 32 (.mov (.t 9)),
   Rq 33 (.bin .mul (.t 31) (.t 32)),
   Rq 34 (.mov (.t 8)),
   Rq 35 (.mov (.t 6)),
   Rq 36 (.bin .mul (.t 34) (.t 35)),
   Rq 37 (.bin .add (.t 33) (.t 36)),
   Rq 38 (.mov (.t 6)),
   Rq 39 (.mov (.t 9)),
   Rq 40 (.bin .mul (.t 38) (.t 39)),
   Rq 41 (.call .pure (.c (.fn (.f 277) [] [])) [.t 37,.t 40]),
   Rq 4 (.mov (.t 41))]) (
 .ret)) (
 .skip))) (
.seq (
.reg [Rq 43 (.mov (.t 0)),Rq 44 (.call .pure (.c (.fn (.f 274) [] [])) [.t 43]),Rq 42 (.mov (.t 44)),Rq 45 (.ext 0 (.t 42)),Rq 46 (.ext 1 (.t 42)),Rq 11 (.box 2 (.c (.agg [.bool false,.nils]))),Rq 12 (.box 2 (.c (.agg [.bool false,.nils]))),⟨none,none,.st 2 (.t 11) (.t 45)⟩,⟨none,none,.st 2 (.t 12) (.t 46)⟩]) (
.seq (
.reg [Rq 48 (.mov (.t 1)),Rq 49 (.call .pure (.c (.fn (.f 274) [] [])) [.t 48]),Rq 47 (.mov (.t 49)),Rq 50 (.ext 0 (.t 47)),Rq 51 (.ext 1 (.t 47)),Rq 13 (.box 2 (.c (.agg [.bool false,.nils]))),Rq 14 (.box 2 (.c (.agg [.bool false,.nils]))),⟨none,none,.st 2 (.t 13) (.t 50)⟩,⟨none,none,.st 2 (.t 14) (.t 51)⟩]) (
.seq (
.reg [Rq 52 (.ld 2 true (.t 11)),Rq 53 (.ld 2 true (.t 14)),Rq 54 (.call .pure (.c (.fn (.f 278) [] [])) [.t 52,.t 53]),Rq 55 (.ld 2 true (.t 13)),Rq 56 (.ld 2 true (.t 12)),Rq 57 (.call .pure (.c (.fn (.f 278) [] [])) [.t 55,.t 56]),Rq 58 (.call .pure (.c (.fn (.f 279) [] [])) [.t 54,.t 57]),Rq 59 (.ld 2 true (.t 12)),Rq 60 (.ld 2 true (.t 14)),Rq 61 (.call .pure (.c (.fn (.f 278) [] [])) [.t 59,.t 60]),Rq 62 (.call .pure (.c (.fn (.f 280) [] [])) [.t 58,.t 61]),Rq 4 (.mov (.t 62))]) (
.ret)))))))⟩
def c267 : Fnc := ⟨[.t 4],
.seq (
.reg [Rq 4 (.mov (.c (.str [])))]) (
.seq (
.reg [Rq 16 (.mov (.t 0)),Rq 17 (.call .pure (.c (.fn (.f 276) [] [])) [.t 16]),Rq 15 (.mov (.t 17)),Rq 18 (.ext 0 (.t 15)),Rq 19 (.ext 1 (.t 15)),Rq 20 (.ext 2 (.t 15)),Rq 5 (.mov (.t 18)),Rq 6 (.mov (.t 19)),Rq 7 (.mov (.t 20))]) (
.seq (
.reg [Rq 22 (.mov (.t 1)),Rq 23 (.call .pure (.c (.fn (.f 276) [] [])) [.t 22]),Rq 21 (.mov (.t 23)),Rq 24 (.ext 0 (.t 21)),Rq 25 (.ext 1 (.t 21)),Rq 26 (.ext 2 (.t 21)),Rq 8 (.mov (.t 24)),Rq 9 (.mov (.t 25)),Rq 10 (.mov (.t 26))]) (
.seq (
.seq (
.reg [Rq 27 (.mov (.t 7)),Rq 28 (.mov (.t 27)),⟨some 29,some (28,true),.mov (.t 10)⟩,Rq 30 (.pick (.t 28) (.t 29) (.c (.bool false)))]) (
.cond (.t 30) (
 .seq (
 .reg [Rq 31 (.mov (.t 5)),
   Rq 32 (.mov (.t 8)),
   Rq 33 (.bin .mul (.t 31) (.t 32)),
   Rq 34 (.mov (.t 6)),
   Rq 35 (.mov (.t 9)),
   Rq 36 (.bin .mul (.t 34) (.t 35)),
   Rq 37 (.call .pure (.c (.fn (.f 277) [] [])) [.t 33,.t 36]),
   Rq 4 (.mov (.t 37))]) (
 .ret)) (
 .skip))) (
.seq (
.reg [Rq 39 (.mov (.t 0)),Rq 40 (.call .pure (.c (.fn (.f 274) [] [])) [.t 39]),Rq 38 (.mov (.t 40)),Rq 41 (.ext 0 (.t 38)),Rq 42 (.ext 1 (.t 38)),Rq 11 (.box 2 (.c (.agg [.bool false,.nils]))),Rq 12 (.box 2 (.c (.agg [.bool false,.nils]))),⟨none,none,.st 2 (.t 11) (.t 41)⟩,⟨none,none,.st 2 (.t 12) (.t 42)⟩]) (
.seq (
.reg [Rq 44 (.mov (.t 1)),Rq 45 (.call .pure (.c (.fn (.f 274) [] [])) [.t 44]),Rq 43 (.mov (.t 45)),Rq 46 (.ext 0 (.t 43)),Rq 47 (.ext 1 (.t 43)),Rq 13 (.box 2 (.c (.agg [.bool false,.nils]))),Rq 14 (.box 2 (.c (.agg [.bool false,.nils]))),⟨none,none,.st 2 (.t 13) (.t 46)⟩,⟨none,none,.st 2 (.t 14) (.t 47)⟩]) (
.seq (
.reg [Rq 48 (.ld 2 true (.t 11)),Rq 49 (.ld 2 true (.t 13)),Rq 50 (.call .pure (.c (.fn (.f 278) [] [])) [.t 48,.t 49]),Rq 51 (.ld 2 true (.t 12)),Rq 52 (.ld 2 true (.t 14)),Rq 53 (.call .pure (.c (.fn (.f 278) [] [])) [.t 51,.t 52]),Rq 54 (.call .pure (.c (.fn (.f 280) [] [])) [.t 50,.t 53]),Rq 4 (.mov (.t 54))]) (
.ret)))))))⟩
def c268 : Fnc := ⟨[.t 2],
.seq (
.reg [Rq 2 (.mov (.c (.str [])))]) (
.seq (
.seq (
.reg [Rq 3 (.mov (.t 0)),Rq 4 (.call .pure (.c (.fn (.f 262) [] [])) [.t 3]),Rq 5 (.bin .lss (.t 4) (.c (.int .i64 0)))]) (
.cond (.t 5) (
 .seq (
 .reg [Rq 6 (.mov (.t 0)),
   Rq 7 (.sli .str (.t 6) (some (.c (.int .i64 1))) none),
   Rq 2 (.mov (.t 7))]) (
 .ret)) (
 .skip))) (
.seq (
.seq (
.reg [Rq 8 (.mov (.t 0)),Rq 9 (.call .pure (.c (.fn (.f 262) [] [])) [.t 8]),Rq 10 (.bin .eql (.t 9) (.c (.int .i64 0)))]) (
.cond (.t 10) (
 .seq (
 .reg [Rq 11 (.mov (.t 0)),
   Rq 2 (.mov (.t 11))]) (
 .ret)) (
 .skip))) (
.seq (
.reg [Rq 12 (.mov (.t 0)),Rq 13 (.bin .add (.c (.str [45])) (.t 12)),Rq 2 (.mov (.t 13))]) (
.ret))))⟩
def c269 : Fnc := ⟨[.t 2],
.seq (
.reg [Rq 2 (.mov (.c (.int .i64 0)))]) (
.seq (
.seq (
.reg [Rq 3 (.mov (.t 0)),Rq 4 (.call .pure (.c (.fn (.f 284) [] [])) [.t 3]),Rq 5 (.call .pure (.c (.fn (.f 285) [] [])) [.t 4]),Rq 6 (.len 0 (.t 5)),Rq 7 (.bin .gtr (.t 6) (.c (.int .i64 600))),Rq 8 (.mov (.t 7)),⟨some 9,some (8,false),.mov (.t 0)⟩,⟨some 10,some (8,false),.call .pure (.c (.fn (.f 286) [] [])) [.t 9]⟩,⟨some 11,some (8,false),.len 0 (.t 10)⟩,⟨some 12,some (8,false),.bin .gtr (.t 11) (.c (.int .i64 600))⟩,Rq 13 (.pick (.t 8) (.c (.bool true)) (.t 12))]) (
.cond (.t 13) (
 .seq (
 .reg [Rq 2 (.mov (.c (.int .i64 4)))]) (
 .ret)) (
 .skip))) (
.seq (
.reg [Rq 2 (.mov (.c (.int .i64 0)))]) (
.ret)))⟩
def c270 : Fnc := ⟨[.t 4],
.seq (
.reg [Rq 4 (.mov (.c (.str [])))]) (
.seq (
.reg [Rq 5 (.mov (.t 0)),Rq 6 (.mov (.t 1)),Rq 7 (.mov (.t 1)),Rq 8 (.bin .mul (.t 6) (.t 7)),Rq 9 (.call .pure (.c (.fn (.f 277) [] [])) [.t 5,.t 8]),Rq 4 (.mov (.t 9))]) (
.ret))⟩
def c271 : Fnc := ⟨[.t 4],
.seq (
.reg [Rq 4 (.mov (.c (.str [])))]) (
.seq (
.reg [Rq 5 (.mov (.t 0)),Rq 6 (.mov (.t 1)),Rq 7 (.call .pure (.c (.fn (.f 268) [] [])) [.t 6]),Rq 8 (.call .pure (.c (.fn (.f 264) [] [])) [.t 5,.t 7]),Rq 4 (.mov (.t 8))]) (
.ret))⟩
def c272_0 : VC :=
.seq (
.seq (
.reg [Rq 4 (.mov (.t 3)),Rq 5 (.mov (.t 0)),Rq 6 (.len 0 (.t 5)),Rq 7 (.bin .lss (.t 4) (.t 6))]) (
.cond (.t 7) (
 .skip) (
 .exit 0))) (
.seq (
.blk 1 (
.seq (
.reg [Rq 10 (.mov (.t 0)),Rq 11 (.mov (.t 3)),Rq 12 (.ixs (.t 10) (.t 11)),Rq 13 (.bin .eql (.t 12) (.c (.int .u8 47)))]) (
.cond (.t 13) (
 .seq (
 .reg [Rq 14 (.mov (.t 3)),
   Rq 2 (.mov (.t 14))]) (
 .ret)) (
 .skip)))) (
.reg [Rq 8 (.mov (.t 3)),Rq 9 (.bin .add (.t 8) (.c (.int .i64 1))),Rq 3 (.mov (.t 9))]))
def c272 : Fnc := ⟨[.t 2],
.seq (
.reg [Rq 2 (.mov (.c (.int .i64 0)))]) (
.seq (
.seq (
.reg [Rq 3 (.mov (.c (.int .i64 0)))]) (
.seq (
.blk 0 (
.loop [0,3] c272_0)) (
.kp [0]))) (
.seq (
.reg [Rq 15 (.mov (.t 0)),Rq 16 (.len 0 (.t 15)),Rq 2 (.mov (.t 16))]) (
.ret)))⟩
def c274 : Fnc := ⟨[.cell 2 2 true,.cell 3 2 true],
.seq (
.reg [Rq 2 (.box 2 (.c (.agg [.bool false,.nils]))),Rq 3 (.box 2 (.c (.agg [.bool false,.nils])))]) (
.seq (
.reg [Rq 6 (.mov (.t 0)),Rq 4 (.mov (.t 6))]) (
.seq (
.reg [Rq 7 (.mov (.t 4)),Rq 8 (.call .pure (.c (.fn (.f 272) [] [])) [.t 7]),Rq 5 (.mov (.t 8))]) (
.seq (
.seq (
.reg [Rq 9 (.mov (.t 5)),Rq 10 (.mov (.t 4)),Rq 11 (.len 0 (.t 10)),Rq 12 (.bin .eql (.t 9) (.t 11))]) (
.cond (.t 12) (
 .seq (
 .reg [Rq 13 (.mov (.t 4)),
   Rq 14 (.call .pure (.c (.fn (.f 288) [] [])) [.t 13]),
   Rq 15 (.call .pure (.c (.fn (.f 281) [] [])) [.c (.int .i64 1)]),
   ⟨none,none,.st 2 (.t 2) (.t 14)⟩,
   ⟨none,none,.st 2 (.t 3) (.t 15)⟩]) (
 .ret)) (
 .skip))) (
.seq (
.reg [Rq 16 (.mov (.t 4)),Rq 17 (.mov (.t 5)),Rq 18 (.sli .str (.t 16) none (some (.t 17))),Rq 19 (.call .pure (.c (.fn (.f 288) [] [])) [.t 18]),Rq 20 (.mov (.t 4)),Rq 21 (.mov (.t 5)),Rq 22 (.bin .add (.t 21) (.c (.int .i64 1))),Rq 23 (.sli .str (.t 20) (some (.t 22)) none),Rq 24 (.call .pure (.c (.fn (.f 288) [] [])) [.t 23]),⟨none,none,.st 2 (.t 2) (.t 19)⟩,⟨none,none,.st 2 (.t 3) (.t 24)⟩]) (
.ret)))))⟩
def c275_0 : VC :=
.seq (
.seq (
.reg [Rq 7 (.mov (.t 1)),Rq 8 (.len 1 (.t 7)),Rq 9 (.bin .gtr (.t 8) (.c (.int .i64 0)))]) (
.cond (.t 9) (
 .skip) (
 .exit 0))) (
.blk 1 (
.seq (
.reg [Rq 11 (.mov (.t 0)),Rq 12 (.mov (.t 1)),Rq 13 (.call .pure (.c (.fn (.f 289) [] [])) [.t 11,.t 12]),Rq 10 (.mov (.t 13)),Rq 14 (.ext 0 (.t 10)),Rq 15 (.ext 1 (.t 10)),Rq 5 (.mov (.t 14)),Rq 6 (.mov (.t 15))]) (
.reg [Rq 16 (.mov (.t 1)),Rq 17 (.mov (.t 6)),Rq 0 (.mov (.t 16)),Rq 1 (.mov (.t 17))])))
def c275 : Fnc := ⟨[.t 4],
.seq (
.reg [Rq 4 (.mov (.c (.nils)))]) (
.seq (
.seq (
.blk 0 (
.loop [0,1] c275_0)) (
.kp [0])) (
.seq (
.reg [Rq 18 (.mov (.t 0)),Rq 4 (.mov (.t 18))]) (
.ret)))⟩
def c276 : Fnc := ⟨[.t 2,.t 3,.t 4],
.seq (
.reg [Rq 2 (.mov (.c (.int .i64 0))),Rq 3 (.mov (.c (.int .i64 0))),Rq 4 (.mov (.c (.bool false)))]) (
.seq (
.reg [Rq 10 (.mov (.t 0)),Rq 5 (.mov (.t 10))]) (
.seq (
.seq (
.reg [Rq 11 (.mov (.t 5)),Rq 12 (.len 0 (.t 11)),Rq 13 (.bin .gtr (.t 12) (.c (.int .i64 20)))]) (
.cond (.t 13) (
 .seq (
 .reg [Rq 2 (.mov (.c (.int .i64 0))),
   Rq 3 (.mov (.c (.int .i64 0))),
   Rq 4 (.mov (.c (.bool false)))]) (
 .ret)) (
 .skip))) (
.seq (
.reg [Rq 14 (.mov (.t 5)),Rq 15 (.len 0 (.t 14)),Rq 16 (.bin .gtr (.t 15) (.c (.int .i64 0))),Rq 17 (.mov (.t 16)),⟨some 18,some (17,true),.mov (.t 5)⟩,⟨some 19,some (17,true),.ixs (.t 18) (.c (.int .i64 0))⟩,⟨some 20,some (17,true),.bin .eql (.t 19) (.c (.int .u8 45))⟩,Rq 21 (.pick (.t 17) (.t 20) (.c (.bool false))),Rq 6 (.mov (.t 21))]) (
.seq (
.seq (
.reg [Rq 22 (.mov (.t 6))]) (
.cond (.t 22) (
 .reg [Rq 23 (.mov (.t 5)),
   Rq 24 (.sli .str (.t 23) (some (.c (.int .i64 1))) none),
   Rq 5 (.mov (.t 24))]) (
 .skip))) (
.seq (
.reg [Rq 25 (.mov (.t 5)),Rq 26 (.call .pure (.c (.fn (.f 272) [] [])) [.t 25]),Rq 7 (.mov (.t 26))]) (
.seq (
.seq (
.reg [Rq 27 (.mov (.t 7)),Rq 28 (.bin .gtr (.t 27) (.c (.int .i64 9))),Rq 29 (.mov (.t 28)),⟨some 30,some (29,false),.mov (.t 5)⟩,⟨some 31,some (29,false),.len 0 (.t 30)⟩,⟨some 32,some (29,false),.mov (.t 7)⟩,⟨some 33,some (29,false),.bin .sub (.t 31) (.t 32)⟩,⟨some 34,some (29,false),.bin .gtr (.t 33) (.c (.int .i64 10))⟩,Rq 35 (.pick (.t 29) (.c (.bool true)) (.t 34))]) (
.cond (.t 35) (
 .seq (
 .reg [Rq 2 (.mov (.c (.int .i64 0))),
   Rq 3 (.mov (.c (.int .i64 0))),
   Rq 4 (.mov (.c (.bool false)))]) (
 .ret)) (
 .skip))) (
.seq (
.reg [Rq 36 (.mov (.t 5)),Rq 37 (.mov (.t 7)),Rq 38 (.sli .str (.t 36) none (some (.t 37))),Rq 39 (.call .pure (.c (.fn (.f 290) [] [])) [.t 38]),Rq 8 (.mov (.t 39)),Rq 9 (.mov (.c (.int .i64 1)))]) (
.seq (
.seq (
.reg [Rq 40 (.mov (.t 7)),Rq 41 (.mov (.t 5)),Rq 42 (.len 0 (.t 41)),Rq 43 (.bin .lss (.t 40) (.t 42))]) (
.cond (.t 43) (
 .reg [Rq 44 (.mov (.t 5)),
   Rq 45 (.mov (.t 7)),
   Rq 46 (.bin .add (.t 45) (.c (.int .i64 1))),
   Rq 47 (.sli .str (.t 44) (some (.t 46)) none),
   Rq 48 (.call .pure (.c (.fn (.f 290) [] [])) [.t 47]),
   Rq 9 (.mov (.t 48))]) (
 .skip))) (
.seq (
.seq (
.reg [Rq 49 (.mov (.t 6))]) (
.cond (.t 49) (
 .reg [Rq 50 (.mov (.t 8)),
   Rq 51 (.bin .sub (.c (.int .i64 0)) (.t 50)),
   Rq 8 (.mov (.t 51))]) (
 .skip))) (
.seq (
.reg [Rq 52 (.mov (.t 8)),Rq 53 (.mov (.t 9)),Rq 2 (.mov (.t 52)),Rq 3 (.mov (.t 53)),Rq 4 (.mov (.c (.bool true)))]) (
.ret)))))))))))⟩
def c277 : Fnc := ⟨[.t 4],
.seq (
.reg [Rq 4 (.mov (.c (.str [])))]) (
.seq (
.seq (
.reg [Rq 7 (.mov (.t 0)),Rq 8 (.bin .lss (.t 7) (.c (.int .i64 (-4000000000000000000)))),Rq 9 (.mov (.t 8)),⟨some 10,some (9,false),.mov (.t 0)⟩,⟨some 11,some (9,false),.bin .gtr (.t 10) (.c (.int .i64 4000000000000000000))⟩,Rq 12 (.pick (.t 9) (.c (.bool true)) (.t 11)),Rq 13 (.mov (.t 12)),⟨some 14,some (13,false),.mov (.t 1)⟩,⟨some 15,some (13,false),.bin .lss (.t 14) (.c (.int .i64 (-4000000000000000000)))⟩,Rq 16 (.pick (.t 13) (.c (.bool true)) (.t 15)),Rq 17 (.mov (.t 16)),⟨some 18,some (17,false),.mov (.t 1)⟩,⟨some 19,some (17,false),.bin .gtr (.t 18) (.c (.int .i64 4000000000000000000))⟩,Rq 20 (.pick (.t 17) (.c (.bool true)) (.t 19))]) (
.cond (.t 20) (
 .seq (
 .reg [Rq 21 (.mov (.t 0)),
   Rq 22 (.call .pure (.c (.fn (.f 281) [] [])) [.t 21]),
   Rq 23 (.mov (.t 1)),
   Rq 24 (.call .pure (.c (.fn (.f 281) [] [])) [.t 23]),
   Rq 25 (.call .pure (.c (.fn (.f 280) [] [])) [.t 22,.t 24]),
   Rq 4 (.mov (.t 25))]) (
 .ret)) (
 .skip))) (
.seq (
.seq (
.reg [Rq 26 (.mov (.t 1)),Rq 27 (.bin .lss (.t 26) (.c (.int .i64 0)))]) (
.cond (.t 27) (
 .reg [Rq 28 (.mov (.t 0)),
   Rq 29 (.bin .sub (.c (.int .i64 0)) (.t 28)),
   Rq 30 (.mov (.t 1)),
   Rq 31 (.bin .sub (.c (.int .i64 0)) (.t 30)),
   Rq 0 (.mov (.t 29)),
   Rq 1 (.mov (.t 31))]) (
 .skip))) (
.seq (
.reg [Rq 32 (.mov (.t 0)),Rq 33 (.mov (.t 0)),Rq 34 (.bin .sub (.c (.int .i64 0)) (.t 33)),Rq 35 (.mx [.t 32,.t 34]),Rq 36 (.mov (.t 1)),Rq 37 (.call .pure (.c (.fn (.f 291) [] [])) [.t 35,.t 36]),Rq 5 (.mov (.t 37))]) (
.seq (
.reg [Rq 38 (.mov (.t 0)),Rq 39 (.mov (.t 5)),Rq 40 (.bin .quo (.t 38) (.t 39)),Rq 41 (.mov (.t 1)),Rq 42 (.mov (.t 5)),Rq 43 (.bin .quo (.t 41) (.t 42)),Rq 0 (.mov (.t 40)),Rq 1 (.mov (.t 43))]) (
.seq (
.reg [Rq 6 (.mov (.c (.str [])))]) (
.seq (
.seq (
.reg [Rq 44 (.mov (.t 0)),Rq 45 (.bin .lss (.t 44) (.c (.int .i64 0)))]) (
.cond (.t 45) (
 .reg [Rq 6 (.mov (.c (.str [45])))]) (
 .skip))) (
.seq (
.reg [Rq 46 (.mov (.t 6)),Rq 47 (.mov (.t 0)),Rq 48 (.mov (.t 0)),Rq 49 (.bin .sub (.c (.int .i64 0)) (.t 48)),Rq 50 (.mx [.t 47,.t 49]),Rq 51 (.call .pure (.c (.fn (.f 292) [] [])) [.t 50,.c (.int .i64 1)]),Rq 52 (.bin .add (.t 46) (.t 51)),Rq 6 (.mov (.t 52))]) (
.seq (
.seq (
.reg [Rq 53 (.mov (.t 1)),Rq 54 (.bin .gtr (.t 53) (.c (.int .i64 1)))]) (
.cond (.t 54) (
 .reg [Rq 55 (.mov (.t 6)),
   Rq 56 (.bin .add (.t 55) (.c (.str [47]))),
   Rq 57 (.mov (.t 1)),
   Rq 58 (.call .pure (.c (.fn (.f 292) [] [])) [.t 57,.c (.int .i64 1)]),
   Rq 59 (.bin .add (.t 56) (.t 58)),
   Rq 6 (.mov (.t 59))]) (
 .skip))) (
.seq (
.reg [Rq 60 (.mov (.t 6)),Rq 4 (.mov (.t 60))]) (
.ret))))))))))⟩
def c278 : Fnc := ⟨[.cell 4 2 true],
.seq (
.reg [Rq 2 (.box 2 (.t 0)),Rq 3 (.box 2 (.t 1)),Rq 4 (.box 2 (.c (.agg [.bool false,.nils])))]) (
.seq (
.reg [Rq 5 (.off 0 (.t 2)),Rq 6 (.ld 1 false (.t 5)),Rq 7 (.off 0 (.t 3)),Rq 8 (.ld 1 false (.t 7)),Rq 9 (.eq true .b (.t 6) (.t 8)),Rq 10 (.off 1 (.t 2)),Rq 11 (.ld 1 false (.t 10)),Rq 12 (.off 1 (.t 3)),Rq 13 (.ld 1 false (.t 12)),Rq 14 (.call .pure (.c (.fn (.f 293) [] [])) [.t 11,.t 13]),Rq 15 (.call .pure (.c (.fn (.f 294) [] [])) [.t 9,.t 14]),⟨none,none,.st 2 (.t 4) (.t 15)⟩]) (
.ret))⟩
def c279 : Fnc := ⟨[.cell 4 2 true],
.seq (
.reg [Rq 2 (.box 2 (.t 0)),Rq 3 (.box 2 (.t 1)),Rq 4 (.box 2 (.c (.agg [.bool false,.nils])))]) (
.seq (
.seq (
.reg [Rq 5 (.off 0 (.t 2)),Rq 6 (.ld 1 false (.t 5)),Rq 7 (.off 0 (.t 3)),Rq 8 (.ld 1 false (.t 7)),Rq 9 (.eq false .b (.t 6) (.t 8))]) (
.cond (.t 9) (
 .seq (
 .reg [Rq 10 (.off 0 (.t 2)),
   Rq 11 (.ld 1 false (.t 10)),
   Rq 12 (.off 1 (.t 2)),
   Rq 13 (.ld 1 false (.t 12)),
   Rq 14 (.off 1 (.t 3)),
   Rq 15 (.ld 1 false (.t 14)),
   Rq 16 (.call .pure (.c (.fn (.f 295) [] [])) [.t 13,.t 15]),
   Rq 17 (.call .pure (.c (.fn (.f 294) [] [])) [.t 11,.t 16]),
   ⟨none,none,.st 2 (.t 4) (.t 17)⟩]) (
 .ret)) (
 .skip))) (
.seq (
.seq (
.reg [Rq 18 (.off 1 (.t 2)),Rq 19 (.ld 1 false (.t 18)),Rq 20 (.off 1 (.t 3)),Rq 21 (.ld 1 false (.t 20)),Rq 22 (.call .pure (.c (.fn (.f 296) [] [])) [.t 19,.t 21]),Rq 23 (.bin .geq (.t 22) (.c (.int .i64 0)))]) (
.cond (.t 23) (
 .seq (
 .reg [Rq 24 (.off 0 (.t 2)),
   Rq 25 (.ld 1 false (.t 24)),
   Rq 26 (.off 1 (.t 2)),
   Rq 27 (.ld 1 false (.t 26)),
   Rq 28 (.off 1 (.t 3)),
   Rq 29 (.ld 1 false (.t 28)),
   Rq 30 (.call .pure (.c (.fn (.f 297) [] [])) [.t 27,.t 29]),
   Rq 31 (.call .pure (.c (.fn (.f 294) [] [])) [.t 25,.t 30]),
   ⟨none,none,.st 2 (.t 4) (.t 31)⟩]) (
 .ret)) (
 .skip))) (
.seq (
.reg [Rq 32 (.off 0 (.t 3)),Rq 33 (.ld 1 false (.t 32)),Rq 34 (.off 1 (.t 3)),Rq 35 (.ld 1 false (.t 34)),Rq 36 (.off 1 (.t 2)),Rq 37 (.ld 1 false (.t 36)),Rq 38 (.call .pure (.c (.fn (.f 297) [] [])) [.t 35,.t 37]),Rq 39 (.call .pure (.c (.fn (.f 294) [] [])) [.t 33,.t 38]),⟨none,none,.st 2 (.t 4) (.t 39)⟩]) (
.ret))))⟩
def c280 : Fnc := ⟨[.t 4],
.seq (
.reg [Rq 2 (.box 2 (.t 0)),Rq 3 (.box 2 (.t 1)),Rq 4 (.mov (.c (.str [])))]) (
.seq (
.seq (
.reg [Rq 11 (.off 0 (.t 3)),Rq 12 (.ld 1 false (.t 11))]) (
.cond (.t 12) (
 .reg [Rq 13 (.ld 2 true (.t 2)),
   Rq 14 (.call .pure (.c (.fn (.f 298) [] [])) [.t 13]),
   Rq 15 (.ld 2 true (.t 3)),
   Rq 16 (.call .pure (.c (.fn (.f 298) [] [])) [.t 15]),
   ⟨none,none,.st 2 (.t 2) (.t 14)⟩,
   ⟨none,none,.st 2 (.t 3) (.t 16)⟩]) (
 .skip))) (
.seq (
.reg [Rq 17 (.off 1 (.t 2)),Rq 18 (.ld 1 false (.t 17)),Rq 19 (.off 1 (.t 3)),Rq 20 (.ld 1 false (.t 19)),Rq 21 (.call .pure (.c (.fn (.f 275) [] [])) [.t 18,.t 20]),Rq 5 (.mov (.t 21))]) (
.seq (
.reg [Rq 23 (.off 1 (.t 2)),Rq 24 (.ld 1 false (.t 23)),Rq 25 (.mov (.t 5)),Rq 26 (.call .pure (.c (.fn (.f 289) [] [])) [.t 24,.t 25]),Rq 22 (.mov (.t 26)),Rq 27 (.ext 0 (.t 22)),Rq 28 (.ext 1 (.t 22)),Rq 6 (.mov (.t 27)),Rq 7 (.mov (.t 28))]) (
.seq (
.reg [Rq 30 (.off 1 (.t 3)),Rq 31 (.ld 1 false (.t 30)),Rq 32 (.mov (.t 5)),Rq 33 (.call .pure (.c (.fn (.f 289) [] [])) [.t 31,.t 32]),Rq 29 (.mov (.t 33)),Rq 34 (.ext 0 (.t 29)),Rq 35 (.ext 1 (.t 29)),Rq 8 (.mov (.t 34)),Rq 9 (.mov (.t 35))]) (
.seq (
.reg [Rq 36 (.off 0 (.t 2)),Rq 37 (.ld 1 false (.t 36)),Rq 38 (.mov (.t 6)),Rq 39 (.call .pure (.c (.fn (.f 294) [] [])) [.t 37,.t 38]),Rq 40 (.call .pure (.c (.fn (.f 282) [] [])) [.t 39]),Rq 10 (.mov (.t 40))]) (
.seq (
.seq (
.reg [Rq 41 (.mov (.t 8)),Rq 42 (.len 1 (.t 41)),Rq 43 (.bin .eql (.t 42) (.c (.int .i64 1))),Rq 44 (.mov (.t 43)),⟨some 45,some (44,true),.mov (.t 8)⟩,⟨some 46,some (44,true),.ixa 1 (.t 45) (.c (.int .i64 0))⟩,⟨some 47,some (44,true),.ld 1 false (.t 46)⟩,⟨some 48,some (44,true),.bin .eql (.t 47) (.c (.int .i64 1))⟩,Rq 49 (.pick (.t 44) (.t 48) (.c (.bool false)))]) (
.cond (.t 49) (
 .seq (
 .reg [Rq 50 (.mov (.t 10)),
   Rq 4 (.mov (.t 50))]) (
 .ret)) (
 .skip))) (
.seq (
.reg [Rq 51 (.mov (.t 10)),Rq 52 (.bin .add (.t 51) (.c (.str [47]))),Rq 53 (.mov (.t 8)),Rq 54 (.call .pure (.c (.fn (.f 294) [] [])) [.c (.bool false),.t 53]),Rq 55 (.call .pure (.c (.fn (.f 282) [] [])) [.t 54]),Rq 56 (.bin .add (.t 52) (.t 55)),Rq 4 (.mov (.t 56))]) (
.ret))))))))⟩
def c281_0 : VC :=
.seq (
.seq (
.reg [Rq 8 (.mov (.t 0)),Rq 9 (.bin .neq (.t 8) (.c (.int .i64 0)))]) (
.cond (.t 9) (
 .skip) (
 .exit 0))) (
.blk 1 (
.seq (
.reg [Rq 10 (.mov (.t 0)),Rq 11 (.bin .rem (.t 10) (.c (.int .i64 1000000000))),Rq 5 (.mov (.t 11))]) (
.seq (
.seq (
.reg [Rq 12 (.mov (.t 5)),Rq 13 (.bin .lss (.t 12) (.c (.int .i64 0)))]) (
.cond (.t 13) (
 .reg [Rq 14 (.mov (.t 5)),
   Rq 15 (.bin .sub (.c (.int .i64 0)) (.t 14)),
   Rq 5 (.mov (.t 15))]) (
 .skip))) (
.seq (
.reg [Rq 16 (.mov (.t 3)),Rq 17 (.mov (.t 5)),Rq 18 (.mksl 1 1 [.int .i64 0] [(0,1,(.t 17))]),Rq 19 (.app 1 8 (.t 16) (.t 18)),Rq 3 (.mov (.t 19))]) (
.reg [Rq 20 (.mov (.t 0)),Rq 21 (.bin .quo (.t 20) (.c (.int .i64 1000000000))),Rq 0 (.mov (.t 21))])))))
def c281 : Fnc := ⟨[.cell 2 2 true],
.seq (
.reg [Rq 2 (.box 2 (.c (.agg [.bool false,.nils])))]) (
.seq (
.reg [Rq 3 (.mov (.c (.nils)))]) (
.seq (
.reg [Rq 6 (.mov (.t 0)),Rq 7 (.bin .lss (.t 6) (.c (.int .i64 0))),Rq 4 (.mov (.t 7))]) (
.seq (
.seq (
.blk 0 (
.loop [0,2,3,4] c281_0)) (
.kp [2,3,4])) (
.seq (
.reg [Rq 22 (.mov (.t 4)),Rq 23 (.mov (.t 3)),Rq 24 (.call .pure (.c (.fn (.f 294) [] [])) [.t 22,.t 23]),⟨none,none,.st 2 (.t 2) (.t 24)⟩]) (
.ret)))))⟩
def c282_0 : VC :=
.seq (
.seq (
.reg [Rq 22 (.mov (.t 4)),Rq 23 (.bin .geq (.t 22) (.c (.int .i64 0)))]) (
.cond (.t 23) (
 .skip) (
 .exit 0))) (
.seq (
.blk 1 (
.reg [Rq 26 (.mov (.t 3)),Rq 27 (.off 1 (.t 1)),Rq 28 (.ld 1 false (.t 27)),Rq 29 (.mov (.t 4)),Rq 30 (.ixa 1 (.t 28) (.t 29)),Rq 31 (.ld 1 false (.t 30)),Rq 32 (.call .pure (.c (.fn (.f 292) [] [])) [.t 31,.c (.int .i64 9)]),Rq 33 (.bin .add (.t 26) (.t 32)),Rq 3 (.mov (.t 33))])) (
.reg [Rq 24 (.mov (.t 4)),Rq 25 (.bin .sub (.t 24) (.c (.int .i64 1))),Rq 4 (.mov (.t 25))]))
def c282 : Fnc := ⟨[.t 2],
.seq (
.reg [Rq 1 (.box 2 (.t 0)),Rq 2 (.mov (.c (.str [])))]) (
.seq (
.seq (
.reg [Rq 5 (.off 1 (.t 1)),Rq 6 (.ld 1 false (.t 5)),Rq 7 (.len 1 (.t 6)),Rq 8 (.bin .eql (.t 7) (.c (.int .i64 0)))]) (
.cond (.t 8) (
 .seq (
 .reg [Rq 2 (.mov (.c (.str [48])))]) (
 .ret)) (
 .skip))) (
.seq (
.reg [Rq 9 (.off 1 (.t 1)),Rq 10 (.ld 1 false (.t 9)),Rq 11 (.off 1 (.t 1)),Rq 12 (.ld 1 false (.t 11)),Rq 13 (.len 1 (.t 12)),Rq 14 (.bin .sub (.t 13) (.c (.int .i64 1))),Rq 15 (.ixa 1 (.t 10) (.t 14)),Rq 16 (.ld 1 false (.t 15)),Rq 17 (.call .pure (.c (.fn (.f 292) [] [])) [.t 16,.c (.int .i64 1)]),Rq 3 (.mov (.t 17))]) (
.seq (
.seq (
.reg [Rq 18 (.off 1 (.t 1)),Rq 19 (.ld 1 false (.t 18)),Rq 20 (.len 1 (.t 19)),Rq 21 (.bin .sub (.t 20) (.c (.int .i64 2))),Rq 4 (.mov (.t 21))]) (
.seq (
.blk 0 (
.loop [1,3,4] c282_0)) (
.kp [1,3]))) (
.seq (
.seq (
.reg [Rq 34 (.off 0 (.t 1)),Rq 35 (.ld 1 false (.t 34))]) (
.cond (.t 35) (
 .seq (
 .reg [Rq 36 (.mov (.t 3)),
   Rq 37 (.bin .add (.c (.str [45])) (.t 36)),
   Rq 2 (.mov (.t 37))]) (
 .ret)) (
 .skip))) (
.seq (
.reg [Rq 38 (.mov (.t 3)),Rq 2 (.mov (.t 38))]) (
.ret))))))⟩
def c284 : Fnc := ⟨[.t 2],
.seq (
.reg [Rq 2 (.mov (.c (.str [])))]) (
.seq (
.reg [Rq 3 (.mov (.t 0)),Rq 4 (.mov (.t 0)),Rq 5 (.call .pure (.c (.fn (.f 272) [] [])) [.t 4]),Rq 6 (.sli .str (.t 3) none (some (.t 5))),Rq 2 (.mov (.t 6))]) (
.ret))⟩
def c285 : Fnc := ⟨[.t 2],
.seq (
.reg [Rq 2 (.mov (.c (.str [])))]) (
.seq (
.seq (
.reg [Rq 3 (.mov (.t 0)),Rq 4 (.call .pure (.c (.fn (.f 262) [] [])) [.t 3]),Rq 5 (.bin .lss (.t 4) (.c (.int .i64 0)))]) (
.cond (.t 5) (
 .seq (
 .reg [Rq 6 (.mov (.t 0)),
   Rq 7 (.sli .str (.t 6) (some (.c (.int .i64 1))) none),
   Rq 2 (.mov (.t 7))]) (
 .ret)) (
 .skip))) (
.seq (
.reg [Rq 8 (.mov (.t 0)),Rq 2 (.mov (.t 8))]) (
.ret)))⟩
def c286 : Fnc := ⟨[.t 2],
.seq (
.reg [Rq 2 (.mov (.c (.str [])))]) (
.seq (
.reg [Rq 4 (.mov (.t 0)),Rq 5 (.call .pure (.c (.fn (.f 272) [] [])) [.t 4]),Rq 3 (.mov (.t 5))]) (
.seq (
.seq (
.reg [Rq 6 (.mov (.t 3)),Rq 7 (.mov (.t 0)),Rq 8 (.len 0 (.t 7)),Rq 9 (.bin .eql (.t 6) (.t 8))]) (
.cond (.t 9) (
 .seq (
 .reg [Rq 2 (.mov (.c (.str [49])))]) (
 .ret)) (
 .skip))) (
.seq (
.reg [Rq 10 (.mov (.t 0)),Rq 11 (.mov (.t 3)),Rq 12 (.bin .add (.t 11) (.c (.int .i64 1))),Rq 13 (.sli .str (.t 10) (some (.t 12)) none),Rq 2 (.mov (.t 13))]) (
.ret))))⟩
def c288_0 : VC :=
.seq (
.seq (
.reg [Rq 16 (.mov (.t 0)),Rq 17 (.len 0 (.t 16)),Rq 18 (.bin .gtr (.t 17) (.c (.int .i64 9)))]) (
.cond (.t 18) (
 .skip) (
 .exit 0))) (
.blk 1 (
.seq (
.reg [Rq 19 (.mov (.t 4)),Rq 20 (.mov (.t 0)),Rq 21 (.mov (.t 0)),Rq 22 (.len 0 (.t 21)),Rq 23 (.bin .sub (.t 22) (.c (.int .i64 9))),Rq 24 (.sli .str (.t 20) (some (.t 23)) none),Rq 25 (.call .pure (.c (.fn (.f 290) [] [])) [.t 24]),Rq 26 (.mksl 1 1 [.int .i64 0] [(0,1,(.t 25))]),Rq 27 (.app 1 8 (.t 19) (.t 26)),Rq 4 (.mov (.t 27))]) (
.reg [Rq 28 (.mov (.t 0)),Rq 29 (.mov (.t 0)),Rq 30 (.len 0 (.t 29)),Rq 31 (.bin .sub (.t 30) (.c (.int .i64 9))),Rq 32 (.sli .str (.t 28) none (some (.t 31))),Rq 0 (.mov (.t 32))])))
def c288 : Fnc := ⟨[.cell 2 2 true],
.seq (
.reg [Rq 2 (.box 2 (.c (.agg [.bool false,.nils])))]) (
.seq (
.reg [Rq 5 (.mov (.t 0)),Rq 6 (.len 0 (.t 5)),Rq 7 (.bin .gtr (.t 6) (.c (.int .i64 0))),Rq 8 (.mov (.t 7)),⟨some 9,some (8,true),.mov (.t 0)⟩,⟨some 10,some (8,true),.ixs (.t 9) (.c (.int .i64 0))⟩,⟨some 11,some (8,true),.bin .eql (.t 10) (.c (.int .u8 45))⟩,Rq 12 (.pick (.t 8) (.t 11) (.c (.bool false))),Rq 3 (.mov (.t 12))]) (
.seq (
.seq (
.reg [Rq 13 (.mov (.t 3))]) (
.cond (.t 13) (
 .reg [Rq 14 (.mov (.t 0)),
   Rq 15 (.sli .str (.t 14) (some (.c (.int .i64 1))) none),
   Rq 0 (.mov (.t 15))]) (
 .skip))) (
.seq (
.reg [Rq 4 (.mov (.c (.nils)))]) (
.seq (
.seq (
.blk 0 (
.loop [0,2,3,4] c288_0)) (
.kp [0,2,3,4])) (
.seq (
.reg [Rq 33 (.mov (.t 3)),Rq 34 (.mov (.t 4)),Rq 35 (.mov (.t 0)),Rq 36 (.call .pure (.c (.fn (.f 290) [] [])) [.t 35]),Rq 37 (.mksl 1 1 [.int .i64 0] [(0,1,(.t 36))]),Rq 38 (.app 1 8 (.t 34) (.t 37)),Rq 39 (.call .pure (.c (.fn (.f 294) [] [])) [.t 33,.t 38]),⟨none,none,.st 2 (.t 2) (.t 39)⟩]) (
.ret))))))⟩
def c289_0 : VC :=
.seq (
.seq (
.reg [Rq 63 (.mov (.t 11)),Rq 64 (.len 1 (.t 63)),Rq 65 (.mov (.t 0)),Rq 66 (.len 1 (.t 65)),Rq 67 (.bin .add (.t 66) (.c (.int .i64 1))),Rq 68 (.bin .lss (.t 64) (.t 67))]) (
.cond (.t 68) (
 .skip) (
 .exit 0))) (
.blk 1 (
.reg [Rq 69 (.mov (.t 11)),Rq 70 (.mksl 1 1 [.int .i64 0] [(0,1,(.c (.int .i64 0)))]),Rq 71 (.app 1 8 (.t 69) (.t 70)),Rq 11 (.mov (.t 71))]))
def c289_1 : VC :=
.seq (
.seq (
.reg [Rq 90 (.mov (.t 16)),Rq 91 (.mov (.t 10)),Rq 92 (.bin .lss (.t 90) (.t 91))]) (
.cond (.t 92) (
 .skip) (
 .exit 4))) (
.seq (
.blk 5 (
.seq (
.reg [Rq 95 (.mov (.t 14)),Rq 96 (.mov (.t 9)),Rq 97 (.mov (.t 16)),Rq 98 (.ixa 1 (.t 96) (.t 97)),Rq 99 (.ld 1 false (.t 98)),Rq 100 (.bin .mul (.t 95) (.t 99)),Rq 101 (.mov (.t 15)),Rq 102 (.bin .add (.t 100) (.t 101)),Rq 17 (.mov (.t 102))]) (
.seq (
.reg [Rq 103 (.mov (.t 11)),Rq 104 (.mov (.t 16)),Rq 105 (.mov (.t 13)),Rq 106 (.bin .add (.t 104) (.t 105)),Rq 107 (.ixa 1 (.t 103) (.t 106)),Rq 108 (.ld 1 false (.t 107)),Rq 109 (.mov (.t 17)),Rq 110 (.bin .rem (.t 109) (.c (.int .i64 1000000000))),Rq 111 (.bin .sub (.t 108) (.t 110)),Rq 18 (.mov (.t 111))]) (
.seq (
.reg [Rq 112 (.mov (.t 17)),Rq 113 (.bin .quo (.t 112) (.c (.int .i64 1000000000))),Rq 15 (.mov (.t 113))]) (
.seq (
.seq (
.reg [Rq 114 (.mov (.t 18)),Rq 115 (.bin .lss (.t 114) (.c (.int .i64 0)))]) (
.cond (.t 115) (
 .seq (
 .reg [Rq 116 (.mov (.t 18)),
   Rq 117 (.bin .add (.t 116) (.c (.int .i64 1000000000))),
   Rq 18 (.mov (.t 117))]) (
 .reg [Rq 118 (.mov (.t 15)),
   Rq 119 (.bin .add (.t 118) (.c (.int .i64 1))),
   Rq 15 (.mov (.t 119))])) (
 .skip))) (
.reg [Rq 120 (.mov (.t 11)),Rq 121 (.mov (.t 16)),Rq 122 (.mov (.t 13)),Rq 123 (.bin .add (.t 121) (.t 122)),Rq 124 (.mov (.t 18)),Rq 125 (.ixa 1 (.t 120) (.t 123)),⟨none,none,.st 1 (.t 125) (.t 124)⟩])))))) (
.reg [Rq 93 (.mov (.t 16)),Rq 94 (.bin .add (.t 93) (.c (.int .i64 1))),Rq 16 (.mov (.t 94))]))
def c289_2 : VC :=
.seq (
.seq (
.reg [Rq 148 (.mov (.t 20)),Rq 149 (.mov (.t 10)),Rq 150 (.bin .lss (.t 148) (.t 149))]) (
.cond (.t 150) (
 .skip) (
 .exit 6))) (
.seq (
.blk 7 (
.seq (
.reg [Rq 153 (.mov (.t 11)),Rq 154 (.mov (.t 20)),Rq 155 (.mov (.t 13)),Rq 156 (.bin .add (.t 154) (.t 155)),Rq 157 (.ixa 1 (.t 153) (.t 156)),Rq 158 (.ld 1 false (.t 157)),Rq 159 (.mov (.t 9)),Rq 160 (.mov (.t 20)),Rq 161 (.ixa 1 (.t 159) (.t 160)),Rq 162 (.ld 1 false (.t 161)),Rq 163 (.bin .add (.t 158) (.t 162)),Rq 164 (.mov (.t 19)),Rq 165 (.bin .add (.t 163) (.t 164)),Rq 21 (.mov (.t 165))]) (
.seq (
.reg [Rq 166 (.mov (.t 11)),Rq 167 (.mov (.t 20)),Rq 168 (.mov (.t 13)),Rq 169 (.bin .add (.t 167) (.t 168)),Rq 170 (.mov (.t 21)),Rq 171 (.bin .rem (.t 170) (.c (.int .i64 1000000000))),Rq 172 (.ixa 1 (.t 166) (.t 169)),⟨none,none,.st 1 (.t 172) (.t 171)⟩]) (
.reg [Rq 173 (.mov (.t 21)),Rq 174 (.bin .quo (.t 173) (.c (.int .i64 1000000000))),Rq 19 (.mov (.t 174))])))) (
.reg [Rq 151 (.mov (.t 20)),Rq 152 (.bin .add (.t 151) (.c (.int .i64 1))),Rq 20 (.mov (.t 152))]))
def c289_3 : VC :=
.seq (
.seq (
.reg [Rq 82 (.mov (.t 13)),Rq 83 (.bin .geq (.t 82) (.c (.int .i64 0)))]) (
.cond (.t 83) (
 .skip) (
 .exit 2))) (
.seq (
.blk 3 (
.seq (
.reg [Rq 86 (.mov (.t 11)),Rq 87 (.mov (.t 9)),Rq 88 (.mov (.t 13)),Rq 89 (.call .heap (.c (.fn (.f 301) [] [])) [.t 86,.t 87,.t 88]),Rq 14 (.mov (.t 89))]) (
.seq (
.reg [Rq 15 (.mov (.c (.int .i64 0)))]) (
.seq (
.seq (
.reg [Rq 16 (.mov (.c (.int .i64 0)))]) (
.seq (
.blk 4 (
.loop [8,9,10,11,12,13,14,15,16] c289_1)) (
.kp [8,9,10,11,12,13,14,15]))) (
.seq (
.reg [Rq 126 (.mov (.t 11)),Rq 127 (.mov (.t 13)),Rq 128 (.mov (.t 10)),Rq 129 (.bin .add (.t 127) (.t 128)),Rq 130 (.mov (.t 11)),Rq 131 (.mov (.t 13)),Rq 132 (.mov (.t 10)),Rq 133 (.bin .add (.t 131) (.t 132)),Rq 134 (.ixa 1 (.t 130) (.t 133)),Rq 135 (.ld 1 false (.t 134)),Rq 136 (.mov (.t 15)),Rq 137 (.bin .sub (.t 135) (.t 136)),Rq 138 (.ixa 1 (.t 126) (.t 129)),⟨none,none,.st 1 (.t 138) (.t 137)⟩]) (
.seq (
.seq (
.reg [Rq 139 (.mov (.t 11)),Rq 140 (.mov (.t 13)),Rq 141 (.mov (.t 10)),Rq 142 (.bin .add (.t 140) (.t 141)),Rq 143 (.ixa 1 (.t 139) (.t 142)),Rq 144 (.ld 1 false (.t 143)),Rq 145 (.bin .lss (.t 144) (.c (.int .i64 0)))]) (
.cond (.t 145) (
 .seq (
 .reg [Rq 146 (.mov (.t 14)),
   Rq 147 (.bin .sub (.t 146) (.c (.int .i64 1))),
   Rq 14 (.mov (.t 147))]) (
 .seq (
 .reg [Rq 19 (.mov (.c (.int .i64 0)))]) (
 .seq (
 .seq (
 .reg [Rq 20 (.mov (.c (.int .i64 0)))]) (
 .seq (
 .blk 6 (
 .loop [8,9,10,11,12,13,14,19,20] c289_2)) (
 .kp [8,9,10,11,12,13,14,19]))) (
 .reg [Rq 175 (.mov (.t 11)),
   Rq 176 (.mov (.t 13)),
   Rq 177 (.mov (.t 10)),
   Rq 178 (.bin .add (.t 176) (.t 177)),
   Rq 179 (.mov (.t 11)),
   Rq 180 (.mov (.t 13)),
   Rq 181 (.mov (.t 10)),
   Rq 182 (.bin .add (.t 180) (.t 181)),
   Rq 183 (.ixa 1 (.t 179) (.t 182)),
   Rq 184 (.ld 1 false (.t 183)),
   Rq 185 (.mov (.t 19)),
   Rq 186 (.bin .add (.t 184) (.t 185)),
   Rq 187 (.ixa 1 (.t 175) (.t 178)),
   ⟨none,none,.st 1 (.t 187) (.t 186)⟩])))) (
 .skip))) (
.reg [Rq 188 (.mov (.t 12)),Rq 189 (.mov (.t 13)),Rq 190 (.mov (.t 14)),Rq 191 (.ixa 1 (.t 188) (.t 189)),⟨none,none,.st 1 (.t 191) (.t 190)⟩]))))))) (
.reg [Rq 84 (.mov (.t 13)),Rq 85 (.bin .sub (.t 84) (.c (.int .i64 1))),Rq 13 (.mov (.t 85))]))
def c289 : Fnc := ⟨[.t 4,.t 5],
.seq (
.reg [Rq 4 (.mov (.c (.nils))),Rq 5 (.mov (.c (.nils)))]) (
.seq (
.seq (
.reg [Rq 24 (.mov (.t 0)),Rq 25 (.mov (.t 1)),Rq 26 (.call .pure (.c (.fn (.f 296) [] [])) [.t 24,.t 25]),Rq 27 (.bin .lss (.t 26) (.c (.int .i64 0)))]) (
.cond (.t 27) (
 .seq (
 .reg [Rq 28 (.mov (.t 0)),
   Rq 4 (.mov (.c (.nils))),
   Rq 5 (.mov (.t 28))]) (
 .ret)) (
 .skip))) (
.seq (
.seq (
.reg [Rq 29 (.mov (.t 1)),Rq 30 (.len 1 (.t 29)),Rq 31 (.bin .eql (.t 30) (.c (.int .i64 1)))]) (
.cond (.t 31) (
 .seq (
 .reg [Rq 33 (.mov (.t 0)),
   Rq 34 (.mov (.t 1)),
   Rq 35 (.ixa 1 (.t 34) (.c (.int .i64 0))),
   Rq 36 (.ld 1 false (.t 35)),
   Rq 37 (.call .pure (.c (.fn (.f 299) [] [])) [.t 33,.t 36]),
   Rq 32 (.mov (.t 37)),
   Rq 38 (.ext 0 (.t 32)),
   Rq 39 (.ext 1 (.t 32)),
   Rq 6 (.mov (.t 38)),
   Rq 7 (.mov (.t 39))]) (
 .seq (
 .reg [Rq 40 (.mov (.t 6)),
   Rq 41 (.mov (.t 7)),
   Rq 42 (.mksl 1 1 [.int .i64 0] [(0,1,(.t 41))]),
   Rq 43 (.call .pure (.c (.fn (.f 300) [] [])) [.t 42]),
   Rq 4 (.mov (.t 40)),
   Rq 5 (.mov (.t 43))]) (
 .ret))) (
 .skip))) (
.seq (
.reg [Rq 44 (.mov (.t 1)),Rq 45 (.mov (.t 1)),Rq 46 (.len 1 (.t 45)),Rq 47 (.bin .sub (.t 46) (.c (.int .i64 1))),Rq 48 (.ixa 1 (.t 44) (.t 47)),Rq 49 (.ld 1 false (.t 48)),Rq 50 (.bin .add (.t 49) (.c (.int .i64 1))),Rq 51 (.bin .quo (.c (.int .i64 1000000000)) (.t 50)),Rq 52 (.mksl 1 1 [.int .i64 0] [(0,1,(.t 51))]),Rq 8 (.mov (.t 52))]) (
.seq (
.reg [Rq 53 (.mov (.t 1)),Rq 54 (.mov (.t 8)),Rq 55 (.call .pure (.c (.fn (.f 293) [] [])) [.t 53,.t 54]),Rq 9 (.mov (.t 55))]) (
.seq (
.reg [Rq 56 (.mov (.t 9)),Rq 57 (.len 1 (.t 56)),Rq 10 (.mov (.t 57))]) (
.seq (
.reg [Rq 58 (.mksl 0 1 [] []),Rq 59 (.mov (.t 0)),Rq 60 (.mov (.t 8)),Rq 61 (.call .pure (.c (.fn (.f 293) [] [])) [.t 59,.t 60]),Rq 62 (.app 1 8 (.t 58) (.t 61)),Rq 11 (.mov (.t 62))]) (
.seq (
.seq (
.blk 0 (
.loop [0,8,9,10,11] c289_0)) (
.kp [8,9,10,11])) (
.seq (
.reg [Rq 72 (.mov (.t 11)),Rq 73 (.len 1 (.t 72)),Rq 74 (.mov (.t 10)),Rq 75 (.bin .sub (.t 73) (.t 74)),Rq 76 (.mks 1 8 [.int .i64 0] (.t 75) (.t 75)),Rq 12 (.mov (.t 76))]) (
.seq (
.seq (
.reg [Rq 77 (.mov (.t 11)),Rq 78 (.len 1 (.t 77)),Rq 79 (.mov (.t 10)),Rq 80 (.bin .sub (.t 78) (.t 79)),Rq 81 (.bin .sub (.t 80) (.c (.int .i64 1))),Rq 13 (.mov (.t 81))]) (
.seq (
.blk 2 (
.loop [8,9,10,11,12,13] c289_3)) (
.kp [8,10,11,12]))) (
.seq (
.reg [Rq 193 (.mov (.t 11)),Rq 194 (.mov (.t 10)),Rq 195 (.sli (.sl 1) (.t 193) none (some (.t 194))),Rq 196 (.call .pure (.c (.fn (.f 300) [] [])) [.t 195]),Rq 197 (.mov (.t 8)),Rq 198 (.ixa 1 (.t 197) (.c (.int .i64 0))),Rq 199 (.ld 1 false (.t 198)),Rq 200 (.call .pure (.c (.fn (.f 299) [] [])) [.t 196,.t 199]),Rq 192 (.mov (.t 200)),Rq 201 (.ext 0 (.t 192)),Rq 202 (.ext 1 (.t 192)),Rq 22 (.mov (.t 201)),Rq 23 (.mov (.t 202))]) (
.seq (
.reg [Rq 203 (.mov (.t 12)),Rq 204 (.call .pure (.c (.fn (.f 300) [] [])) [.t 203]),Rq 205 (.mov (.t 22)),Rq 4 (.mov (.t 204)),Rq 5 (.mov (.t 205))]) (
.ret))))))))))))⟩
def c290_0 : VC :=
.seq (
.seq (
.reg [Rq 5 (.mov (.t 4)),Rq 6 (.mov (.t 0)),Rq 7 (.len 0 (.t 6)),Rq 8 (.bin .lss (.t 5) (.t 7))]) (
.cond (.t 8) (
 .skip) (
 .exit 0))) (
.seq (
.blk 1 (
.reg [Rq 11 (.mov (.t 3)),Rq 12 (.bin .mul (.c (.int .i64 10)) (.t 11)),Rq 13 (.mov (.t 0)),Rq 14 (.mov (.t 4)),Rq 15 (.ixs (.t 13) (.t 14)),Rq 16 (.cv (.toInt .i64) (.t 15)),Rq 17 (.bin .add (.t 12) (.t 16)),Rq 18 (.bin .sub (.t 17) (.c (.int .i64 48))),Rq 3 (.mov (.t 18))])) (
.reg [Rq 9 (.mov (.t 4)),Rq 10 (.bin .add (.t 9) (.c (.int .i64 1))),Rq 4 (.mov (.t 10))]))
def c290 : Fnc := ⟨[.t 2],
.seq (
.reg [Rq 2 (.mov (.c (.int .i64 0)))]) (
.seq (
.reg [Rq 3 (.mov (.c (.int .i64 0)))]) (
.seq (
.seq (
.reg [Rq 4 (.mov (.c (.int .i64 0)))]) (
.seq (
.blk 0 (
.loop [0,3,4] c290_0)) (
.kp [3]))) (
.seq (
.reg [Rq 19 (.mov (.t 3)),Rq 2 (.mov (.t 19))]) (
.ret))))⟩
def c291_0 : VC :=
.seq (
.seq (
.reg [Rq 5 (.mov (.t 1)),Rq 6 (.bin .gtr (.t 5) (.c (.int .i64 0)))]) (
.cond (.t 6) (
 .skip) (
 .exit 0))) (
.blk 1 (
.reg [Rq 7 (.mov (.t 1)),Rq 8 (.mov (.t 0)),Rq 9 (.mov (.t 1)),Rq 10 (.bin .rem (.t 8) (.t 9)),Rq 0 (.mov (.t 7)),Rq 1 (.mov (.t 10))]))
def c291 : Fnc := ⟨[.t 4],
.seq (
.reg [Rq 4 (.mov (.c (.int .i64 0)))]) (
.seq (
.seq (
.blk 0 (
.loop [0,1] c291_0)) (
.kp [0])) (
.seq (
.reg [Rq 11 (.mov (.t 0)),Rq 4 (.mov (.t 11))]) (
.ret)))⟩
def c292_0 : VC :=
.seq (
.seq (
.reg [Rq 6 (.mov (.t 0)),Rq 7 (.bin .gtr (.t 6) (.c (.int .i64 0))),Rq 8 (.mov (.t 7)),⟨some 9,some (8,false),.mov (.t 5)⟩,⟨some 10,some (8,false),.len 0 (.t 9)⟩,⟨some 11,some (8,false),.mov (.t 1)⟩,⟨some 12,some (8,false),.bin .lss (.t 10) (.t 11)⟩,Rq 13 (.pick (.t 8) (.c (.bool true)) (.t 12))]) (
.cond (.t 13) (
 .skip) (
 .exit 0))) (
.blk 1 (
.seq (
.reg [Rq 14 (.mov (.t 0)),Rq 15 (.bin .rem (.t 14) (.c (.int .i64 10))),Rq 16 (.mov (.t 0)),Rq 17 (.bin .rem (.t 16) (.c (.int .i64 10))),Rq 18 (.bin .add (.t 17) (.c (.int .i64 1))),Rq 19 (.sli .str (.c (.str [48,49,50,51,52,53,54,55,56,57])) (some (.t 15)) (some (.t 18))),Rq 20 (.mov (.t 5)),Rq 21 (.bin .add (.t 19) (.t 20)),Rq 5 (.mov (.t 21))]) (
.reg [Rq 22 (.mov (.t 0)),Rq 23 (.bin .quo (.t 22) (.c (.int .i64 10))),Rq 0 (.mov (.t 23))])))
def c292 : Fnc := ⟨[.t 4],
.seq (
.reg [Rq 4 (.mov (.c (.str [])))]) (
.seq (
.reg [Rq 5 (.mov (.c (.str [])))]) (
.seq (
.seq (
.blk 0 (
.loop [0,1,5] c292_0)) (
.kp [5])) (
.seq (
.reg [Rq 24 (.mov (.t 5)),Rq 4 (.mov (.t 24))]) (
.ret))))⟩
def c293_0 : VC :=
.seq (
.seq (
.reg [Rq 22 (.mov (.t 8)),Rq 23 (.mov (.t 1)),Rq 24 (.len 1 (.t 23)),Rq 25 (.bin .lss (.t 22) (.t 24))]) (
.cond (.t 25) (
 .skip) (
 .exit 2))) (
.seq (
.blk 3 (
.seq (
.reg [Rq 28 (.mov (.t 5)),Rq 29 (.mov (.t 6)),Rq 30 (.mov (.t 8)),Rq 31 (.bin .add (.t 29) (.t 30)),Rq 32 (.ixa 1 (.t 28) (.t 31)),Rq 33 (.ld 1 false (.t 32)),Rq 34 (.mov (.t 0)),Rq 35 (.mov (.t 6)),Rq 36 (.ixa 1 (.t 34) (.t 35)),Rq 37 (.ld 1 false (.t 36)),Rq 38 (.mov (.t 1)),Rq 39 (.mov (.t 8)),Rq 40 (.ixa 1 (.t 38) (.t 39)),Rq 41 (.ld 1 false (.t 40)),Rq 42 (.bin .mul (.t 37) (.t 41)),Rq 43 (.bin .add (.t 33) (.t 42)),Rq 44 (.mov (.t 7)),Rq 45 (.bin .add (.t 43) (.t 44)),Rq 9 (.mov (.t 45))]) (
.seq (
.reg [Rq 46 (.mov (.t 5)),Rq 47 (.mov (.t 6)),Rq 48 (.mov (.t 8)),Rq 49 (.bin .add (.t 47) (.t 48)),Rq 50 (.mov (.t 9)),Rq 51 (.bin .rem (.t 50) (.c (.int .i64 1000000000))),Rq 52 (.ixa 1 (.t 46) (.t 49)),⟨none,none,.st 1 (.t 52) (.t 51)⟩]) (
.reg [Rq 53 (.mov (.t 9)),Rq 54 (.bin .quo (.t 53) (.c (.int .i64 1000000000))),Rq 7 (.mov (.t 54))])))) (
.reg [Rq 26 (.mov (.t 8)),Rq 27 (.bin .add (.t 26) (.c (.int .i64 1))),Rq 8 (.mov (.t 27))]))
def c293_1 : VC :=
.seq (
.seq (
.reg [Rq 16 (.mov (.t 6)),Rq 17 (.mov (.t 0)),Rq 18 (.len 1 (.t 17)),Rq 19 (.bin .lss (.t 16) (.t 18))]) (
.cond (.t 19) (
 .skip) (
 .exit 0))) (
.seq (
.blk 1 (
.seq (
.reg [Rq 7 (.mov (.c (.int .i64 0)))]) (
.seq (
.seq (
.reg [Rq 8 (.mov (.c (.int .i64 0)))]) (
.seq (
.blk 2 (
.loop [0,1,5,6,7,8] c293_0)) (
.kp [0,1,5,6,7]))) (
.reg [Rq 55 (.mov (.t 5)),Rq 56 (.mov (.t 6)),Rq 57 (.mov (.t 1)),Rq 58 (.len 1 (.t 57)),Rq 59 (.bin .add (.t 56) (.t 58)),Rq 60 (.mov (.t 5)),Rq 61 (.mov (.t 6)),Rq 62 (.mov (.t 1)),Rq 63 (.len 1 (.t 62)),Rq 64 (.bin .add (.t 61) (.t 63)),Rq 65 (.ixa 1 (.t 60) (.t 64)),Rq 66 (.ld 1 false (.t 65)),Rq 67 (.mov (.t 7)),Rq 68 (.bin .add (.t 66) (.t 67)),Rq 69 (.ixa 1 (.t 55) (.t 59)),⟨none,none,.st 1 (.t 69) (.t 68)⟩])))) (
.reg [Rq 20 (.mov (.t 6)),Rq 21 (.bin .add (.t 20) (.c (.int .i64 1))),Rq 6 (.mov (.t 21))]))
def c293 : Fnc := ⟨[.t 4],
.seq (
.reg [Rq 4 (.mov (.c (.nils)))]) (
.seq (
.reg [Rq 10 (.mov (.t 0)),Rq 11 (.len 1 (.t 10)),Rq 12 (.mov (.t 1)),Rq 13 (.len 1 (.t 12)),Rq 14 (.bin .add (.t 11) (.t 13)),Rq 15 (.mks 1 8 [.int .i64 0] (.t 14) (.t 14)),Rq 5 (.mov (.t 15))]) (
.seq (
.seq (
.reg [Rq 6 (.mov (.c (.int .i64 0)))]) (
.seq (
.blk 0 (
.loop [0,1,5,6] c293_1)) (
.kp [5]))) (
.seq (
.reg [Rq 70 (.mov (.t 5)),Rq 71 (.call .pure (.c (.fn (.f 300) [] [])) [.t 70]),Rq 4 (.mov (.t 71))]) (
.ret))))⟩
def c294 : Fnc := ⟨[.cell 4 2 true],
.seq (
.reg [Rq 4 (.box 2 (.c (.agg [.bool false,.nils])))]) (
.seq (
.reg [Rq 5 (.mov (.t 1)),Rq 6 (.call .pure (.c (.fn (.f 300) [] [])) [.t 5]),Rq 1 (.mov (.t 6))]) (
.seq (
.reg [Rq 7 (.mov (.t 0)),Rq 8 (.mov (.t 7)),⟨some 9,some (8,true),.mov (.t 1)⟩,⟨some 10,some (8,true),.len 1 (.t 9)⟩,⟨some 11,some (8,true),.bin .gtr (.t 10) (.c (.int .i64 0))⟩,Rq 12 (.pick (.t 8) (.t 11) (.c (.bool false))),Rq 13 (.mov (.t 1)),Rq 14 (.mkagg [.bool false,.nils] [(0,1,(.t 12)),(1,1,(.t 13))]),⟨none,none,.st 2 (.t 4) (.t 14)⟩]) (
.ret)))⟩
def c295_0 : VC :=
.seq (
.seq (
.reg [Rq 9 (.mov (.t 7)),Rq 10 (.mov (.t 0)),Rq 11 (.len 1 (.t 10)),Rq 12 (.bin .lss (.t 9) (.t 11)),Rq 13 (.mov (.t 12)),⟨some 14,some (13,false),.mov (.t 7)⟩,⟨some 15,some (13,false),.mov (.t 1)⟩,⟨some 16,some (13,false),.len 1 (.t 15)⟩,⟨some 17,some (13,false),.bin .lss (.t 14) (.t 16)⟩,Rq 18 (.pick (.t 13) (.c (.bool true)) (.t 17)),Rq 19 (.mov (.t 18)),⟨some 20,some (19,false),.mov (.t 6)⟩,⟨some 21,some (19,false),.bin .gtr (.t 20) (.c (.int .i64 0))⟩,Rq 22 (.pick (.t 19) (.c (.bool true)) (.t 21))]) (
.cond (.t 22) (
 .skip) (
 .exit 0))) (
.seq (
.blk 1 (
.seq (
.reg [Rq 25 (.mov (.t 0)),Rq 26 (.mov (.t 7)),Rq 27 (.call .pure (.c (.fn (.f 302) [] [])) [.t 25,.t 26]),Rq 28 (.mov (.t 1)),Rq 29 (.mov (.t 7)),Rq 30 (.call .pure (.c (.fn (.f 302) [] [])) [.t 28,.t 29]),Rq 31 (.bin .add (.t 27) (.t 30)),Rq 32 (.mov (.t 6)),Rq 33 (.bin .add (.t 31) (.t 32)),Rq 8 (.mov (.t 33))]) (
.seq (
.reg [Rq 34 (.mov (.t 5)),Rq 35 (.mov (.t 8)),Rq 36 (.bin .rem (.t 35) (.c (.int .i64 1000000000))),Rq 37 (.mksl 1 1 [.int .i64 0] [(0,1,(.t 36))]),Rq 38 (.app 1 8 (.t 34) (.t 37)),Rq 5 (.mov (.t 38))]) (
.reg [Rq 39 (.mov (.t 8)),Rq 40 (.bin .quo (.t 39) (.c (.int .i64 1000000000))),Rq 6 (.mov (.t 40))])))) (
.reg [Rq 23 (.mov (.t 7)),Rq 24 (.bin .add (.t 23) (.c (.int .i64 1))),Rq 7 (.mov (.t 24))]))
def c295 : Fnc := ⟨[.t 4],
.seq (
.reg [Rq 4 (.mov (.c (.nils)))]) (
.seq (
.reg [Rq 5 (.mov (.c (.nils)))]) (
.seq (
.reg [Rq 6 (.mov (.c (.int .i64 0)))]) (
.seq (
.seq (
.reg [Rq 7 (.mov (.c (.int .i64 0)))]) (
.seq (
.blk 0 (
.loop [0,1,5,6,7] c295_0)) (
.kp [5]))) (
.seq (
.reg [Rq 41 (.mov (.t 5)),Rq 4 (.mov (.t 41))]) (
.ret)))))⟩
def c296_0 : VC :=
.seq (
.seq (
.reg [Rq 19 (.mov (.t 5)),Rq 20 (.bin .geq (.t 19) (.c (.int .i64 0)))]) (
.cond (.t 20) (
 .skip) (
 .exit 0))) (
.seq (
.blk 1 (
.seq (
.seq (
.reg [Rq 23 (.mov (.t 0)),Rq 24 (.mov (.t 5)),Rq 25 (.ixa 1 (.t 23) (.t 24)),Rq 26 (.ld 1 false (.t 25)),Rq 27 (.mov (.t 1)),Rq 28 (.mov (.t 5)),Rq 29 (.ixa 1 (.t 27) (.t 28)),Rq 30 (.ld 1 false (.t 29)),Rq 31 (.bin .lss (.t 26) (.t 30))]) (
.cond (.t 31) (
 .seq (
 .reg [Rq 4 (.mov (.c (.int .i64 (-1))))]) (
 .ret)) (
 .skip))) (
.seq (
.reg [Rq 32 (.mov (.t 0)),Rq 33 (.mov (.t 5)),Rq 34 (.ixa 1 (.t 32) (.t 33)),Rq 35 (.ld 1 false (.t 34)),Rq 36 (.mov (.t 1)),Rq 37 (.mov (.t 5)),Rq 38 (.ixa 1 (.t 36) (.t 37)),Rq 39 (.ld 1 false (.t 38)),Rq 40 (.bin .gtr (.t 35) (.t 39))]) (
.cond (.t 40) (
 .seq (
 .reg [Rq 4 (.mov (.c (.int .i64 1)))]) (
 .ret)) (
 .skip))))) (
.reg [Rq 21 (.mov (.t 5)),Rq 22 (.bin .sub (.t 21) (.c (.int .i64 1))),Rq 5 (.mov (.t 22))]))
def c296 : Fnc := ⟨[.t 4],
.seq (
.reg [Rq 4 (.mov (.c (.int .i64 0)))]) (
.seq (
.seq (
.reg [Rq 6 (.mov (.t 0)),Rq 7 (.len 1 (.t 6)),Rq 8 (.mov (.t 1)),Rq 9 (.len 1 (.t 8)),Rq 10 (.bin .neq (.t 7) (.t 9))]) (
.cond (.t 10) (
 .seq (
 .seq (
 .reg [Rq 11 (.mov (.t 0)),
   Rq 12 (.len 1 (.t 11)),
   Rq 13 (.mov (.t 1)),
   Rq 14 (.len 1 (.t 13)),
   Rq 15 (.bin .lss (.t 12) (.t 14))]) (
 .cond (.t 15) (
  .seq (
  .reg [Rq 4 (.mov (.c (.int .i64 (-1))))]) (
  .ret)) (
  .skip))) (
 .seq (
 .reg [Rq 4 (.mov (.c (.int .i64 1)))]) (
 .ret))) (
 .skip))) (
.seq (
.seq (
.reg [Rq 16 (.mov (.t 0)),Rq 17 (.len 1 (.t 16)),Rq 18 (.bin .sub (.t 17) (.c (.int .i64 1))),Rq 5 (.mov (.t 18))]) (
.seq (
.blk 0 (
.loop [0,1,5] c296_0)) (
.kp []))) (
.seq (
.reg [Rq 4 (.mov (.c (.int .i64 0)))]) (
.ret))))⟩
def c297_0 : VC :=
.seq (
.seq (
.reg [Rq 9 (.mov (.t 7)),Rq 10 (.mov (.t 0)),Rq 11 (.len 1 (.t 10)),Rq 12 (.bin .lss (.t 9) (.t 11))]) (
.cond (.t 12) (
 .skip) (
 .exit 0))) (
.seq (
.blk 1 (
.seq (
.reg [Rq 15 (.mov (.t 0)),Rq 16 (.mov (.t 7)),Rq 17 (.ixa 1 (.t 15) (.t 16)),Rq 18 (.ld 1 false (.t 17)),Rq 19 (.mov (.t 1)),Rq 20 (.mov (.t 7)),Rq 21 (.call .pure (.c (.fn (.f 302) [] [])) [.t 19,.t 20]),Rq 22 (.bin .sub (.t 18) (.t 21)),Rq 23 (.mov (.t 6)),Rq 24 (.bin .sub (.t 22) (.t 23)),Rq 8 (.mov (.t 24))]) (
.seq (
.reg [Rq 6 (.mov (.c (.int .i64 0)))]) (
.seq (
.seq (
.reg [Rq 25 (.mov (.t 8)),Rq 26 (.bin .lss (.t 25) (.c (.int .i64 0)))]) (
.cond (.t 26) (
 .seq (
 .reg [Rq 27 (.mov (.t 8)),
   Rq 28 (.bin .add (.t 27) (.c (.int .i64 1000000000))),
   Rq 8 (.mov (.t 28))]) (
 .reg [Rq 6 (.mov (.c (.int .i64 1)))])) (
 .skip))) (
.reg [Rq 29 (.mov (.t 5)),Rq 30 (.mov (.t 8)),Rq 31 (.mksl 1 1 [.int .i64 0] [(0,1,(.t 30))]),Rq 32 (.app 1 8 (.t 29) (.t 31)),Rq 5 (.mov (.t 32))]))))) (
.reg [Rq 13 (.mov (.t 7)),Rq 14 (.bin .add (.t 13) (.c (.int .i64 1))),Rq 7 (.mov (.t 14))]))
def c297 : Fnc := ⟨[.t 4],
.seq (
.reg [Rq 4 (.mov (.c (.nils)))]) (
.seq (
.reg [Rq 5 (.mov (.c (.nils)))]) (
.seq (
.reg [Rq 6 (.mov (.c (.int .i64 0)))]) (
.seq (
.seq (
.reg [Rq 7 (.mov (.c (.int .i64 0)))]) (
.seq (
.blk 0 (
.loop [0,1,5,6,7] c297_0)) (
.kp [5]))) (
.seq (
.reg [Rq 33 (.mov (.t 5)),Rq 34 (.call .pure (.c (.fn (.f 300) [] [])) [.t 33]),Rq 4 (.mov (.t 34))]) (
.ret)))))⟩
def c298 : Fnc := ⟨[.cell 2 2 true],
.seq (
.reg [Rq 1 (.box 2 (.t 0)),Rq 2 (.box 2 (.c (.agg [.bool false,.nils])))]) (
.seq (
.reg [Rq 3 (.off 0 (.t 1)),Rq 4 (.ld 1 false (.t 3)),Rq 5 (.un .not (.t 4)),Rq 6 (.off 1 (.t 1)),Rq 7 (.ld 1 false (.t 6)),Rq 8 (.call .pure (.c (.fn (.f 294) [] [])) [.t 5,.t 7]),⟨none,none,.st 2 (.t 2) (.t 8)⟩]) (
.ret))⟩
def c299_0 : VC :=
.seq (
.seq (
.reg [Rq 16 (.mov (.t 8)),Rq 17 (.bin .geq (.t 16) (.c (.int .i64 0)))]) (
.cond (.t 17) (
 .skip) (
 .exit 0))) (
.seq (
.blk 1 (
.seq (
.reg [Rq 20 (.mov (.t 7)),Rq 21 (.bin .mul (.t 20) (.c (.int .i64 1000000000))),Rq 22 (.mov (.t 0)),Rq 23 (.mov (.t 8)),Rq 24 (.ixa 1 (.t 22) (.t 23)),Rq 25 (.ld 1 false (.t 24)),Rq 26 (.bin .add (.t 21) (.t 25)),Rq 9 (.mov (.t 26))]) (
.seq (
.reg [Rq 27 (.mov (.t 6)),Rq 28 (.mov (.t 8)),Rq 29 (.mov (.t 9)),Rq 30 (.mov (.t 1)),Rq 31 (.bin .quo (.t 29) (.t 30)),Rq 32 (.ixa 1 (.t 27) (.t 28)),⟨none,none,.st 1 (.t 32) (.t 31)⟩]) (
.reg [Rq 33 (.mov (.t 9)),Rq 34 (.mov (.t 1)),Rq 35 (.bin .rem (.t 33) (.t 34)),Rq 7 (.mov (.t 35))])))) (
.reg [Rq 18 (.mov (.t 8)),Rq 19 (.bin .sub (.t 18) (.c (.int .i64 1))),Rq 8 (.mov (.t 19))]))
def c299 : Fnc := ⟨[.t 4,.t 5],
.seq (
.reg [Rq 4 (.mov (.c (.nils))),Rq 5 (.mov (.c (.int .i64 0)))]) (
.seq (
.reg [Rq 10 (.mov (.t 0)),Rq 11 (.len 1 (.t 10)),Rq 12 (.mks 1 8 [.int .i64 0] (.t 11) (.t 11)),Rq 6 (.mov (.t 12))]) (
.seq (
.reg [Rq 7 (.mov (.c (.int .i64 0)))]) (
.seq (
.seq (
.reg [Rq 13 (.mov (.t 0)),Rq 14 (.len 1 (.t 13)),Rq 15 (.bin .sub (.t 14) (.c (.int .i64 1))),Rq 8 (.mov (.t 15))]) (
.seq (
.blk 0 (
.loop [0,1,6,7,8] c299_0)) (
.kp [6,7]))) (
.seq (
.reg [Rq 36 (.mov (.t 6)),Rq 37 (.call .pure (.c (.fn (.f 300) [] [])) [.t 36]),Rq 38 (.mov (.t 7)),Rq 4 (.mov (.t 37)),Rq 5 (.mov (.t 38))]) (
.ret)))))⟩
def c300_0 : VC :=
.seq (
.seq (
.reg [Rq 3 (.mov (.t 0)),Rq 4 (.len 1 (.t 3)),Rq 5 (.bin .gtr (.t 4) (.c (.int .i64 0))),Rq 6 (.mov (.t 5)),⟨some 7,some (6,true),.mov (.t 0)⟩,⟨some 8,some (6,true),.mov (.t 0)⟩,⟨some 9,some (6,true),.len 1 (.t 8)⟩,⟨some 10,some (6,true),.bin .sub (.t 9) (.c (.int .i64 1))⟩,⟨some 11,some (6,true),.ixa 1 (.t 7) (.t 10)⟩,⟨some 12,some (6,true),.ld 1 false (.t 11)⟩,⟨some 13,some (6,true),.bin .eql (.t 12) (.c (.int .i64 0))⟩,Rq 14 (.pick (.t 6) (.t 13) (.c (.bool false)))]) (
.cond (.t 14) (
 .skip) (
 .exit 0))) (
.blk 1 (
.reg [Rq 15 (.mov (.t 0)),Rq 16 (.mov (.t 0)),Rq 17 (.len 1 (.t 16)),Rq 18 (.bin .sub (.t 17) (.c (.int .i64 1))),Rq 19 (.sli (.sl 1) (.t 15) none (some (.t 18))),Rq 0 (.mov (.t 19))]))
def c300 : Fnc := ⟨[.t 2],
.seq (
.reg [Rq 2 (.mov (.c (.nils)))]) (
.seq (
.seq (
.blk 0 (
.loop [0] c300_0)) (
.kp [0])) (
.seq (
.reg [Rq 20 (.mov (.t 0)),Rq 2 (.mov (.t 20))]) (
.ret)))⟩
def c302 : Fnc := ⟨[.t 4],
.seq (
.reg [Rq 4 (.mov (.c (.int .i64 0)))]) (
.seq (
.seq (
.reg [Rq 5 (.mov (.t 1)),Rq 6 (.mov (.t 0)),Rq 7 (.len 1 (.t 6)),Rq 8 (.bin .lss (.t 5) (.t 7))]) (
.cond (.t 8) (
 .seq (
 .reg [Rq 9 (.mov (.t 0)),
   Rq 10 (.mov (.t 1)),
   Rq 11 (.ixa 1 (.t 9) (.t 10)),
   Rq 12 (.ld 1 false (.t 11)),
   Rq 4 (.mov (.t 12))]) (
 .ret)) (
 .skip))) (
.seq (
.reg [Rq 4 (.mov (.c (.int .i64 0)))]) (
.ret)))⟩
end VE
