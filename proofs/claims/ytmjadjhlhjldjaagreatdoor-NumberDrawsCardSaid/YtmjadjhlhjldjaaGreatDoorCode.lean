import Derived.Test.YtmjadjhlhjldjaaGreatDoorModel
set_option linter.all false
set_option maxRecDepth 100000
namespace VE
/- lenslet/lensletref01.SameMatrix -/
def c28_0 : VC :=
.seq (
.seq (
.reg [⟨some 11,none,.mov (.t 5)⟩,⟨some 12,none,.mov (.t 0)⟩,⟨some 13,none,.len 1 (.t 12)⟩,⟨some 14,none,.bin .lss (.t 11) (.t 13)⟩]) (
.cond (.t 14) (
 .skip) (
 .exit 0))) (
.seq (
.blk 1 (
.seq (
.reg [⟨some 17,none,.mov (.t 0)⟩,⟨some 18,none,.mov (.t 5)⟩,⟨some 19,none,.ixa 1 (.t 17) (.t 18)⟩,⟨some 20,none,.ld 1 false (.t 19)⟩,⟨some 21,none,.mov (.t 1)⟩,⟨some 22,none,.mov (.t 5)⟩,⟨some 23,none,.ixa 1 (.t 21) (.t 22)⟩,⟨some 24,none,.ld 1 false (.t 23)⟩,⟨some 25,none,.call .pure (.c (.fn (.f 29) [] [])) [.t 20,.t 24]⟩,⟨some 26,none,.un .not (.t 25)⟩]) (
.cond (.t 26) (
 .seq (
 .reg [⟨some 4,none,.mov (.c (.bool false))⟩]) (
 .ret)) (
 .skip)))) (
.reg [⟨some 15,none,.mov (.t 5)⟩,⟨some 16,none,.bin .add (.t 15) (.c (.int .i64 1))⟩,⟨some 5,none,.mov (.t 16)⟩]))
def c28 : Fnc := ⟨[.t 4],
.seq (
.reg [⟨some 4,none,.mov (.c (.bool false))⟩]) (
.seq (
.seq (
.reg [⟨some 6,none,.mov (.t 0)⟩,⟨some 7,none,.len 1 (.t 6)⟩,⟨some 8,none,.mov (.t 1)⟩,⟨some 9,none,.len 1 (.t 8)⟩,⟨some 10,none,.bin .neq (.t 7) (.t 9)⟩]) (
.cond (.t 10) (
 .seq (
 .reg [⟨some 4,none,.mov (.c (.bool false))⟩]) (
 .ret)) (
 .skip))) (
.seq (
.seq (
.reg [⟨some 5,none,.mov (.c (.int .i64 0))⟩]) (
.seq (
.blk 0 (
.loop [0,1,5] c28_0)) (
.kp []))) (
.seq (
.reg [⟨some 4,none,.mov (.c (.bool true))⟩]) (
.ret))))⟩
/- lenslet/lensletref01.SameRow -/
def c29_0 : VC :=
.seq (
.seq (
.reg [⟨some 11,none,.mov (.t 5)⟩,⟨some 12,none,.mov (.t 0)⟩,⟨some 13,none,.len 1 (.t 12)⟩,⟨some 14,none,.bin .lss (.t 11) (.t 13)⟩]) (
.cond (.t 14) (
 .skip) (
 .exit 0))) (
.seq (
.blk 1 (
.seq (
.reg [⟨some 17,none,.mov (.t 0)⟩,⟨some 18,none,.mov (.t 5)⟩,⟨some 19,none,.ixa 1 (.t 17) (.t 18)⟩,⟨some 20,none,.ld 1 false (.t 19)⟩,⟨some 21,none,.mov (.t 1)⟩,⟨some 22,none,.mov (.t 5)⟩,⟨some 23,none,.ixa 1 (.t 21) (.t 22)⟩,⟨some 24,none,.ld 1 false (.t 23)⟩,⟨some 25,none,.bin .neq (.t 20) (.t 24)⟩]) (
.cond (.t 25) (
 .seq (
 .reg [⟨some 4,none,.mov (.c (.bool false))⟩]) (
 .ret)) (
 .skip)))) (
.reg [⟨some 15,none,.mov (.t 5)⟩,⟨some 16,none,.bin .add (.t 15) (.c (.int .i64 1))⟩,⟨some 5,none,.mov (.t 16)⟩]))
def c29 : Fnc := ⟨[.t 4],
.seq (
.reg [⟨some 4,none,.mov (.c (.bool false))⟩]) (
.seq (
.seq (
.reg [⟨some 6,none,.mov (.t 0)⟩,⟨some 7,none,.len 1 (.t 6)⟩,⟨some 8,none,.mov (.t 1)⟩,⟨some 9,none,.len 1 (.t 8)⟩,⟨some 10,none,.bin .neq (.t 7) (.t 9)⟩]) (
.cond (.t 10) (
 .seq (
 .reg [⟨some 4,none,.mov (.c (.bool false))⟩]) (
 .ret)) (
 .skip))) (
.seq (
.seq (
.reg [⟨some 5,none,.mov (.c (.int .i64 0))⟩]) (
.seq (
.blk 0 (
.loop [0,1,5] c29_0)) (
.kp []))) (
.seq (
.reg [⟨some 4,none,.mov (.c (.bool true))⟩]) (
.ret))))⟩
/- (lenslet/num.Frac).Text -/
def c46 : Fnc := ⟨[.t 2],
.seq (
.reg [⟨some 1,none,.box 4 (.t 0)⟩,⟨some 2,none,.mov (.c (.str []))⟩]) (
.seq (
.seq (
.reg [⟨some 3,none,.ld 4 true (.t 1)⟩,⟨some 4,none,.call .pure (.c (.fn (.f 98) [] [])) [.t 3]⟩]) (
.cond (.t 4) (
 .seq (
 .reg [⟨some 5,none,.off 0 (.t 1)⟩,
   ⟨some 6,none,.ld 2 true (.t 5)⟩,
   ⟨some 7,none,.call .pure (.c (.fn (.f 99) [] [])) [.t 6]⟩,
   ⟨some 2,none,.mov (.t 7)⟩]) (
 .ret)) (
 .skip))) (
.seq (
.reg [⟨some 8,none,.off 0 (.t 1)⟩,⟨some 9,none,.ld 2 true (.t 8)⟩,⟨some 10,none,.call .pure (.c (.fn (.f 99) [] [])) [.t 9]⟩,⟨some 11,none,.bin .add (.t 10) (.c (.str [47]))⟩,⟨some 12,none,.off 2 (.t 1)⟩,⟨some 13,none,.ld 2 true (.t 12)⟩,⟨some 14,none,.call .pure (.c (.fn (.f 99) [] [])) [.t 13]⟩,⟨some 15,none,.bin .add (.t 11) (.t 14)⟩,⟨some 2,none,.mov (.t 15)⟩]) (
.ret)))⟩
/- (lenslet/num.Frac).Mul -/
def c49 : Fnc := ⟨[.cell 4 4 true],
.seq (
.reg [⟨some 2,none,.box 4 (.t 0)⟩,⟨some 3,none,.box 4 (.t 1)⟩,⟨some 4,none,.box 4 (.c (.agg [.int .i64 0,.nils,.int .i64 0,.nils]))⟩]) (
.seq (
.reg [⟨some 5,none,.off 0 (.t 2)⟩,⟨some 6,none,.ld 2 true (.t 5)⟩,⟨some 7,none,.off 0 (.t 3)⟩,⟨some 8,none,.ld 2 true (.t 7)⟩,⟨some 9,none,.call .pure (.c (.fn (.f 100) [] [])) [.t 6,.t 8]⟩,⟨some 10,none,.off 2 (.t 2)⟩,⟨some 11,none,.ld 2 true (.t 10)⟩,⟨some 12,none,.off 2 (.t 3)⟩,⟨some 13,none,.ld 2 true (.t 12)⟩,⟨some 14,none,.call .pure (.c (.fn (.f 100) [] [])) [.t 11,.t 13]⟩,⟨some 15,none,.call .pure (.c (.fn (.f 101) [] [])) [.t 9,.t 14]⟩,⟨none,none,.st 4 (.t 4) (.t 15)⟩]) (
.ret))⟩
/- (lenslet/num.Frac).Sub -/
def c50 : Fnc := ⟨[.cell 4 4 true],
.seq (
.reg [⟨some 2,none,.box 4 (.t 0)⟩,⟨some 3,none,.box 4 (.t 1)⟩,⟨some 4,none,.box 4 (.c (.agg [.int .i64 0,.nils,.int .i64 0,.nils]))⟩]) (
.seq (
.reg [⟨some 5,none,.ld 4 true (.t 2)⟩,⟨some 6,none,.ld 4 true (.t 3)⟩,⟨some 7,none,.call .pure (.c (.fn (.f 102) [] [])) [.t 6]⟩,⟨some 8,none,.call .pure (.c (.fn (.f 74) [] [])) [.t 5,.t 7]⟩,⟨none,none,.st 4 (.t 4) (.t 8)⟩]) (
.ret))⟩
/- lenslet/lensletref01.SameInts -/
def c59_0 : VC :=
.seq (
.seq (
.reg [⟨some 11,none,.mov (.t 5)⟩,⟨some 12,none,.mov (.t 0)⟩,⟨some 13,none,.len 1 (.t 12)⟩,⟨some 14,none,.bin .lss (.t 11) (.t 13)⟩]) (
.cond (.t 14) (
 .skip) (
 .exit 0))) (
.seq (
.blk 1 (
.seq (
.reg [⟨some 17,none,.mov (.t 0)⟩,⟨some 18,none,.mov (.t 5)⟩,⟨some 19,none,.ixa 1 (.t 17) (.t 18)⟩,⟨some 20,none,.ld 1 false (.t 19)⟩,⟨some 21,none,.mov (.t 1)⟩,⟨some 22,none,.mov (.t 5)⟩,⟨some 23,none,.ixa 1 (.t 21) (.t 22)⟩,⟨some 24,none,.ld 1 false (.t 23)⟩,⟨some 25,none,.bin .neq (.t 20) (.t 24)⟩]) (
.cond (.t 25) (
 .seq (
 .reg [⟨some 4,none,.mov (.c (.bool false))⟩]) (
 .ret)) (
 .skip)))) (
.reg [⟨some 15,none,.mov (.t 5)⟩,⟨some 16,none,.bin .add (.t 15) (.c (.int .i64 1))⟩,⟨some 5,none,.mov (.t 16)⟩]))
def c59 : Fnc := ⟨[.t 4],
.seq (
.reg [⟨some 4,none,.mov (.c (.bool false))⟩]) (
.seq (
.seq (
.reg [⟨some 6,none,.mov (.t 0)⟩,⟨some 7,none,.len 1 (.t 6)⟩,⟨some 8,none,.mov (.t 1)⟩,⟨some 9,none,.len 1 (.t 8)⟩,⟨some 10,none,.bin .neq (.t 7) (.t 9)⟩]) (
.cond (.t 10) (
 .seq (
 .reg [⟨some 4,none,.mov (.c (.bool false))⟩]) (
 .ret)) (
 .skip))) (
.seq (
.seq (
.reg [⟨some 5,none,.mov (.c (.int .i64 0))⟩]) (
.seq (
.blk 0 (
.loop [0,1,5] c59_0)) (
.kp []))) (
.seq (
.reg [⟨some 4,none,.mov (.c (.bool true))⟩]) (
.ret))))⟩
/- lenslet/num.From -/
def c62 : Fnc := ⟨[.cell 2 4 true],
.seq (
.reg [⟨some 2,none,.box 4 (.c (.agg [.int .i64 0,.nils,.int .i64 0,.nils]))⟩]) (
.seq (
.reg [⟨some 7,none,.mov (.t 0)⟩,⟨some 8,none,.call .pure (.c (.fn (.f 109) [] [])) [.t 7,.c (.str [47])]⟩,⟨some 6,none,.mov (.t 8)⟩,⟨some 9,none,.ext 0 (.t 6)⟩,⟨some 10,none,.ext 1 (.t 6)⟩,⟨some 11,none,.ext 2 (.t 6)⟩,⟨some 3,none,.mov (.t 9)⟩,⟨some 4,none,.mov (.t 10)⟩,⟨some 5,none,.mov (.t 11)⟩]) (
.seq (
.seq (
.reg [⟨some 12,none,.mov (.t 5)⟩,⟨some 13,none,.un .not (.t 12)⟩]) (
.cond (.t 13) (
 .seq (
 .reg [⟨some 14,none,.mov (.t 3)⟩,
   ⟨some 15,none,.call .pure (.c (.fn (.f 110) [] [])) [.t 14]⟩,
   ⟨some 16,none,.call .pure (.c (.fn (.f 111) [] [])) [.t 15]⟩,
   ⟨none,none,.st 4 (.t 2) (.t 16)⟩]) (
 .ret)) (
 .skip))) (
.seq (
.reg [⟨some 17,none,.mov (.t 3)⟩,⟨some 18,none,.call .pure (.c (.fn (.f 110) [] [])) [.t 17]⟩,⟨some 19,none,.mov (.t 4)⟩,⟨some 20,none,.call .pure (.c (.fn (.f 110) [] [])) [.t 19]⟩,⟨some 21,none,.mkagg [.int .i64 0,.nils,.int .i64 0,.nils] [(0,2,(.t 18)),(2,2,(.t 20))]⟩,⟨none,none,.st 4 (.t 2) (.t 21)⟩]) (
.ret))))⟩
/- lenslet/num.F -/
def c69 : Fnc := ⟨[.cell 2 4 true],
.seq (
.reg [⟨some 2,none,.box 4 (.c (.agg [.int .i64 0,.nils,.int .i64 0,.nils]))⟩]) (
.seq (
.reg [⟨some 3,none,.mov (.t 0)⟩,⟨some 4,none,.call .pure (.c (.fn (.f 117) [] [])) [.t 3]⟩,⟨some 5,none,.call .pure (.c (.fn (.f 111) [] [])) [.t 4]⟩,⟨none,none,.st 4 (.t 2) (.t 5)⟩]) (
.ret))⟩
/- (lenslet/num.Frac).Div -/
def c70 : Fnc := ⟨[.cell 4 4 true],
.seq (
.reg [⟨some 2,none,.box 4 (.t 0)⟩,⟨some 3,none,.box 4 (.t 1)⟩,⟨some 4,none,.box 4 (.c (.agg [.int .i64 0,.nils,.int .i64 0,.nils]))⟩]) (
.seq (
.reg [⟨some 5,none,.ld 4 true (.t 2)⟩,⟨some 6,none,.ld 4 true (.t 3)⟩,⟨some 7,none,.call .pure (.c (.fn (.f 73) [] [])) [.t 6]⟩,⟨some 8,none,.call .pure (.c (.fn (.f 49) [] [])) [.t 5,.t 7]⟩,⟨none,none,.st 4 (.t 4) (.t 8)⟩]) (
.ret))⟩
/- (lenslet/num.Frac).Cmp -/
def c71 : Fnc := ⟨[.t 4],
.seq (
.reg [⟨some 2,none,.box 4 (.t 0)⟩,⟨some 3,none,.box 4 (.t 1)⟩,⟨some 4,none,.mov (.c (.int .i64 0))⟩]) (
.seq (
.reg [⟨some 5,none,.off 0 (.t 2)⟩,⟨some 6,none,.ld 2 true (.t 5)⟩,⟨some 7,none,.off 2 (.t 3)⟩,⟨some 8,none,.ld 2 true (.t 7)⟩,⟨some 9,none,.call .pure (.c (.fn (.f 100) [] [])) [.t 6,.t 8]⟩,⟨some 10,none,.off 0 (.t 3)⟩,⟨some 11,none,.ld 2 true (.t 10)⟩,⟨some 12,none,.off 2 (.t 2)⟩,⟨some 13,none,.ld 2 true (.t 12)⟩,⟨some 14,none,.call .pure (.c (.fn (.f 100) [] [])) [.t 11,.t 13]⟩,⟨some 15,none,.call .pure (.c (.fn (.f 118) [] [])) [.t 9,.t 14]⟩,⟨some 4,none,.mov (.t 15)⟩]) (
.ret))⟩
/- (lenslet/num.Frac).Inv -/
def c73 : Fnc := ⟨[.cell 2 4 true],
.seq (
.reg [⟨some 1,none,.box 4 (.t 0)⟩,⟨some 2,none,.box 4 (.c (.agg [.int .i64 0,.nils,.int .i64 0,.nils]))⟩]) (
.seq (
.reg [⟨some 3,none,.off 2 (.t 1)⟩,⟨some 4,none,.ld 2 true (.t 3)⟩,⟨some 5,none,.off 0 (.t 1)⟩,⟨some 6,none,.ld 2 true (.t 5)⟩,⟨some 7,none,.call .pure (.c (.fn (.f 101) [] [])) [.t 4,.t 6]⟩,⟨none,none,.st 4 (.t 2) (.t 7)⟩]) (
.ret))⟩
/- (lenslet/num.Frac).Add -/
def c74 : Fnc := ⟨[.cell 4 4 true],
.seq (
.reg [⟨some 2,none,.box 4 (.t 0)⟩,⟨some 3,none,.box 4 (.t 1)⟩,⟨some 4,none,.box 4 (.c (.agg [.int .i64 0,.nils,.int .i64 0,.nils]))⟩]) (
.seq (
.seq (
.reg [⟨some 5,none,.ld 4 true (.t 2)⟩,⟨some 6,none,.call .pure (.c (.fn (.f 98) [] [])) [.t 5]⟩,⟨some 7,none,.mov (.t 6)⟩,⟨some 8,some (7,true),.ld 4 true (.t 3)⟩,⟨some 9,some (7,true),.call .pure (.c (.fn (.f 98) [] [])) [.t 8]⟩,⟨some 10,none,.pick (.t 7) (.t 9) (.c (.bool false))⟩]) (
.cond (.t 10) (
 .seq (
 .reg [⟨some 11,none,.off 0 (.t 2)⟩,
   ⟨some 12,none,.ld 2 true (.t 11)⟩,
   ⟨some 13,none,.off 0 (.t 3)⟩,
   ⟨some 14,none,.ld 2 true (.t 13)⟩,
   ⟨some 15,none,.call .pure (.c (.fn (.f 119) [] [])) [.t 12,.t 14]⟩,
   ⟨some 16,none,.call .pure (.c (.fn (.f 111) [] [])) [.t 15]⟩,
   ⟨none,none,.st 4 (.t 4) (.t 16)⟩]) (
 .ret)) (
 .skip))) (
.seq (
.reg [⟨some 17,none,.off 0 (.t 2)⟩,⟨some 18,none,.ld 2 true (.t 17)⟩,⟨some 19,none,.off 2 (.t 3)⟩,⟨some 20,none,.ld 2 true (.t 19)⟩,⟨some 21,none,.call .pure (.c (.fn (.f 100) [] [])) [.t 18,.t 20]⟩,⟨some 22,none,.off 0 (.t 3)⟩,⟨some 23,none,.ld 2 true (.t 22)⟩,⟨some 24,none,.off 2 (.t 2)⟩,⟨some 25,none,.ld 2 true (.t 24)⟩,⟨some 26,none,.call .pure (.c (.fn (.f 100) [] [])) [.t 23,.t 25]⟩,⟨some 27,none,.call .pure (.c (.fn (.f 119) [] [])) [.t 21,.t 26]⟩,⟨some 28,none,.off 2 (.t 2)⟩,⟨some 29,none,.ld 2 true (.t 28)⟩,⟨some 30,none,.off 2 (.t 3)⟩,⟨some 31,none,.ld 2 true (.t 30)⟩,⟨some 32,none,.call .pure (.c (.fn (.f 100) [] [])) [.t 29,.t 31]⟩,⟨some 33,none,.call .pure (.c (.fn (.f 101) [] [])) [.t 27,.t 32]⟩,⟨none,none,.st 4 (.t 4) (.t 33)⟩]) (
.ret)))⟩
/- lenslet/number.CheckMatrix -/
def c84 : Fnc := ⟨[.t 2],
.seq (
.reg [⟨some 1,none,.box 1 (.t 0)⟩,⟨some 2,none,.mov (.c (.int .i64 0))⟩]) (
.seq (
.seq (
.reg [⟨some 4,none,.ld 1 false (.t 1)⟩,⟨some 5,none,.len 1 (.t 4)⟩,⟨some 6,none,.bin .eql (.t 5) (.c (.int .i64 0))⟩,⟨some 7,none,.call .pure (.c (.fn (.f 124) [] [])) [.t 6,.c (.int .i64 12)]⟩,⟨some 8,none,.ld 1 false (.t 1)⟩,⟨some 9,none,.len 1 (.t 8)⟩,⟨some 10,none,.bin .gtr (.t 9) (.c (.int .i64 64))⟩,⟨some 11,none,.call .pure (.c (.fn (.f 124) [] [])) [.t 10,.c (.int .i64 5)]⟩,⟨some 12,none,.mksl 2 1 [.int .i64 0,.int .i64 0] [(0,1,(.t 7)),(1,1,(.t 11))]⟩,⟨some 13,none,.call .pure (.c (.fn (.f 125) [] [])) [.t 12]⟩,⟨some 3,none,.mov (.t 13)⟩]) (
.seq (
.reg [⟨some 14,none,.mov (.t 3)⟩,⟨some 15,none,.bin .neq (.t 14) (.c (.int .i64 0))⟩]) (
.cond (.t 15) (
 .seq (
 .reg [⟨some 16,none,.mov (.t 3)⟩,
   ⟨some 2,none,.mov (.t 16)⟩]) (
 .ret)) (
 .skip)))) (
.seq (
.reg [⟨some 17,none,.ld 1 false (.t 1)⟩,⟨some 18,none,.mkf (.f 126) [] [.t 1]⟩,⟨some 19,none,.call .pure (.c (.fn (.f 127) [] [])) [.t 17,.t 18]⟩,⟨some 2,none,.mov (.t 19)⟩]) (
.ret)))⟩
/- lenslet/number.Check -/
def c86 : Fnc := ⟨[.t 2],
.seq (
.reg [⟨some 2,none,.mov (.c (.int .i64 0))⟩]) (
.seq (
.reg [⟨some 12,none,.mov (.t 0)⟩,⟨some 13,none,.call .pure (.c (.fn (.f 128) [] [])) [.t 12,.c (.str [45])]⟩,⟨some 11,none,.mov (.t 13)⟩,⟨some 14,none,.ext 0 (.t 11)⟩,⟨some 15,none,.ext 1 (.t 11)⟩,⟨some 3,none,.mov (.t 14)⟩,⟨some 4,none,.mov (.t 15)⟩]) (
.seq (
.reg [⟨some 17,none,.mov (.t 3)⟩,⟨some 18,none,.call .pure (.c (.fn (.f 109) [] [])) [.t 17,.c (.str [47])]⟩,⟨some 16,none,.mov (.t 18)⟩,⟨some 19,none,.ext 0 (.t 16)⟩,⟨some 20,none,.ext 1 (.t 16)⟩,⟨some 21,none,.ext 2 (.t 16)⟩,⟨some 5,none,.mov (.t 19)⟩,⟨some 6,none,.mov (.t 20)⟩,⟨some 7,none,.mov (.t 21)⟩]) (
.seq (
.reg [⟨some 22,none,.mov (.t 5)⟩,⟨some 23,none,.call .pure (.c (.fn (.f 129) [] [])) [.t 22]⟩,⟨some 24,none,.mov (.t 23)⟩,⟨some 25,some (24,true),.mov (.t 4)⟩,⟨some 26,some (24,true),.un .not (.t 25)⟩,⟨some 27,some (24,true),.mov (.t 26)⟩,⟨some 28,some (27,false),.mov (.t 5)⟩,⟨some 29,some (27,false),.bin .neq (.t 28) (.c (.str [48]))⟩,⟨some 30,some (24,true),.pick (.t 27) (.c (.bool true)) (.t 29)⟩,⟨some 31,none,.pick (.t 24) (.t 30) (.c (.bool false))⟩,⟨some 8,none,.mov (.t 31)⟩]) (
.seq (
.seq (
.reg [⟨some 32,none,.mov (.t 7)⟩]) (
.cond (.t 32) (
 .reg [⟨some 33,none,.mov (.t 8)⟩,
   ⟨some 34,none,.mov (.t 33)⟩,
   ⟨some 35,some (34,true),.mov (.t 6)⟩,
   ⟨some 36,some (34,true),.call .pure (.c (.fn (.f 129) [] [])) [.t 35]⟩,
   ⟨some 37,none,.pick (.t 34) (.t 36) (.c (.bool false))⟩,
   ⟨some 38,none,.mov (.t 37)⟩,
   ⟨some 39,some (38,true),.mov (.t 6)⟩,
   ⟨some 40,some (38,true),.bin .neq (.t 39) (.c (.str [48]))⟩,
   ⟨some 41,none,.pick (.t 38) (.t 40) (.c (.bool false))⟩,
   ⟨some 42,none,.mov (.t 41)⟩,
   ⟨some 43,some (42,true),.mov (.t 6)⟩,
   ⟨some 44,some (42,true),.bin .neq (.t 43) (.c (.str [49]))⟩,
   ⟨some 45,none,.pick (.t 42) (.t 44) (.c (.bool false))⟩,
   ⟨some 8,none,.mov (.t 45)⟩]) (
 .skip))) (
.seq (
.seq (
.reg [⟨some 46,none,.mov (.t 8)⟩,⟨some 47,none,.un .not (.t 46)⟩,⟨some 48,none,.call .pure (.c (.fn (.f 124) [] [])) [.t 47,.c (.int .i64 1)]⟩,⟨some 49,none,.mov (.t 5)⟩,⟨some 50,none,.len 0 (.t 49)⟩,⟨some 51,none,.bin .gtr (.t 50) (.c (.int .i64 600))⟩,⟨some 52,none,.mov (.t 51)⟩,⟨some 53,some (52,false),.mov (.t 6)⟩,⟨some 54,some (52,false),.len 0 (.t 53)⟩,⟨some 55,some (52,false),.bin .gtr (.t 54) (.c (.int .i64 600))⟩,⟨some 56,none,.pick (.t 52) (.c (.bool true)) (.t 55)⟩,⟨some 57,none,.call .pure (.c (.fn (.f 124) [] [])) [.t 56,.c (.int .i64 4)]⟩,⟨some 58,none,.mksl 2 1 [.int .i64 0,.int .i64 0] [(0,1,(.t 48)),(1,1,(.t 57))]⟩,⟨some 59,none,.call .pure (.c (.fn (.f 125) [] [])) [.t 58]⟩,⟨some 9,none,.mov (.t 59)⟩]) (
.seq (
.reg [⟨some 60,none,.mov (.t 9)⟩,⟨some 61,none,.bin .neq (.t 60) (.c (.int .i64 0))⟩]) (
.cond (.t 61) (
 .seq (
 .reg [⟨some 62,none,.mov (.t 9)⟩,
   ⟨some 2,none,.mov (.t 62)⟩]) (
 .ret)) (
 .skip)))) (
.seq (
.reg [⟨some 63,none,.mov (.t 7)⟩,⟨some 64,none,.mov (.t 63)⟩,⟨some 65,some (64,true),.mov (.t 5)⟩,⟨some 66,some (64,true),.call .pure (.c (.fn (.f 110) [] [])) [.t 65]⟩,⟨some 67,some (64,true),.mov (.t 6)⟩,⟨some 68,some (64,true),.call .pure (.c (.fn (.f 110) [] [])) [.t 67]⟩,⟨some 69,some (64,true),.call .pure (.c (.fn (.f 130) [] [])) [.t 66,.t 68]⟩,⟨some 70,some (64,true),.call .pure (.c (.fn (.f 117) [] [])) [.c (.int .i64 1)]⟩,⟨some 71,some (64,true),.call .pure (.c (.fn (.f 118) [] [])) [.t 69,.t 70]⟩,⟨some 72,some (64,true),.bin .neq (.t 71) (.c (.int .i64 0))⟩,⟨some 73,none,.pick (.t 64) (.t 72) (.c (.bool false))⟩,⟨some 10,none,.mov (.t 73)⟩]) (
.seq (
.reg [⟨some 74,none,.mov (.t 10)⟩,⟨some 75,none,.call .pure (.c (.fn (.f 124) [] [])) [.t 74,.c (.int .i64 1)]⟩,⟨some 2,none,.mov (.t 75)⟩]) (
.ret))))))))⟩
/- lenslet/num.FromAll -/
def c88_0 : VC :=
.seq (
.reg [⟨some 12,none,.bin .lss (.t 11) (.t 10)⟩]) (
.seq (
.cond (.t 12) (
 .skip) (
 .exit 0)) (
.seq (
.blk 1 (
.seq (
.reg [⟨some 13,none,.mov (.t 11)⟩,⟨some 14,none,.ixa 1 (.t 9) (.t 11)⟩,⟨some 15,none,.ld 1 false (.t 14)⟩,⟨some 4,none,.mov (.t 13)⟩,⟨some 5,none,.mov (.t 15)⟩]) (
.reg [⟨some 16,none,.mov (.t 3)⟩,⟨some 17,none,.mov (.t 4)⟩,⟨some 18,none,.mov (.t 5)⟩,⟨some 19,none,.call .pure (.c (.fn (.f 62) [] [])) [.t 18]⟩,⟨some 20,none,.ixa 4 (.t 16) (.t 17)⟩,⟨none,none,.st 4 (.t 20) (.t 19)⟩]))) (
.reg [⟨some 21,none,.bin .add (.t 11) (.c (.int .i64 1))⟩,⟨some 11,none,.mov (.t 21)⟩])))
def c88 : Fnc := ⟨[.t 2],
.seq (
.reg [⟨some 2,none,.mov (.c (.nils))⟩]) (
.seq (
.reg [⟨some 6,none,.mov (.t 0)⟩,⟨some 7,none,.len 1 (.t 6)⟩,⟨some 8,none,.mks 4 64 [.int .i64 0,.nils,.int .i64 0,.nils] (.t 7) (.t 7)⟩,⟨some 3,none,.mov (.t 8)⟩]) (
.seq (
.seq (
.reg [⟨some 9,none,.mov (.t 0)⟩,⟨some 10,none,.len 1 (.t 9)⟩,⟨some 11,none,.mov (.c (.int .i64 0))⟩]) (
.seq (
.blk 0 (
.loop [3,9,10,11] c88_0)) (
.kp [3]))) (
.seq (
.reg [⟨some 22,none,.mov (.t 3)⟩,⟨some 2,none,.mov (.t 22)⟩]) (
.ret))))⟩
/- (lenslet/num.Frac).IsWhole -/
def c98 : Fnc := ⟨[.t 2],
.seq (
.reg [⟨some 1,none,.box 4 (.t 0)⟩,⟨some 2,none,.mov (.c (.bool false))⟩]) (
.seq (
.reg [⟨some 3,none,.off 2 (.t 1)⟩,⟨some 4,none,.off 1 (.t 3)⟩,⟨some 5,none,.ld 1 false (.t 4)⟩,⟨some 6,none,.eq false .sl (.t 5) (.c (.nils))⟩,⟨some 7,none,.mov (.t 6)⟩,⟨some 8,some (7,true),.off 2 (.t 1)⟩,⟨some 9,some (7,true),.off 0 (.t 8)⟩,⟨some 10,some (7,true),.ld 1 false (.t 9)⟩,⟨some 11,some (7,true),.bin .eql (.t 10) (.c (.int .i64 1))⟩,⟨some 12,none,.pick (.t 7) (.t 11) (.c (.bool false))⟩,⟨some 2,none,.mov (.t 12)⟩]) (
.ret))⟩
/- (lenslet/num.Int).String -/
def c99_0 : VC :=
.seq (
.seq (
.reg [⟨some 24,none,.mov (.t 4)⟩,⟨some 25,none,.len 1 (.t 24)⟩,⟨some 26,none,.bin .gtr (.t 25) (.c (.int .i64 0))⟩]) (
.cond (.t 26) (
 .skip) (
 .exit 0))) (
.blk 1 (
.seq (
.reg [⟨some 28,none,.mov (.t 4)⟩,⟨some 29,none,.mov (.t 5)⟩,⟨some 30,none,.call .pure (.c (.fn (.f 137) [] [])) [.t 28,.t 29]⟩,⟨some 27,none,.mov (.t 30)⟩,⟨some 31,none,.ext 0 (.t 27)⟩,⟨some 32,none,.ext 1 (.t 27)⟩,⟨some 7,none,.mov (.t 31)⟩,⟨some 8,none,.mov (.t 32)⟩]) (
.seq (
.reg [⟨some 9,none,.mov (.c (.str [48]))⟩]) (
.seq (
.seq (
.reg [⟨some 33,none,.mov (.t 8)⟩,⟨some 34,none,.len 1 (.t 33)⟩,⟨some 35,none,.bin .gtr (.t 34) (.c (.int .i64 0))⟩]) (
.cond (.t 35) (
 .reg [⟨some 36,none,.mov (.t 8)⟩,
   ⟨some 37,none,.ixa 1 (.t 36) (.c (.int .i64 0))⟩,
   ⟨some 38,none,.ld 1 false (.t 37)⟩,
   ⟨some 39,none,.call .pure (.c (.fn (.f 138) [] [])) [.t 38,.c (.int .i64 10)]⟩,
   ⟨some 9,none,.mov (.t 39)⟩]) (
 .skip))) (
.seq (
.seq (
.reg [⟨some 40,none,.mov (.t 7)⟩,⟨some 41,none,.len 1 (.t 40)⟩,⟨some 42,none,.bin .gtr (.t 41) (.c (.int .i64 0))⟩]) (
.cond (.t 42) (
 .reg [⟨some 43,none,.mov (.t 9)⟩,
   ⟨some 44,none,.len 0 (.t 43)⟩,
   ⟨some 45,none,.bin .sub (.c (.int .i64 18)) (.t 44)⟩,
   ⟨some 46,none,.call .pure (.c (.fn (.f 139) [] [])) [.c (.str [48]),.t 45]⟩,
   ⟨some 47,none,.mov (.t 9)⟩,
   ⟨some 48,none,.bin .add (.t 46) (.t 47)⟩,
   ⟨some 9,none,.mov (.t 48)⟩]) (
 .skip))) (
.seq (
.reg [⟨some 49,none,.mov (.t 6)⟩,⟨some 50,none,.mov (.t 9)⟩,⟨some 51,none,.mksl 1 1 [.str []] [(0,1,(.t 50))]⟩,⟨some 52,none,.app 1 16 (.t 49) (.t 51)⟩,⟨some 6,none,.mov (.t 52)⟩]) (
.reg [⟨some 53,none,.mov (.t 7)⟩,⟨some 4,none,.mov (.t 53)⟩])))))))
def c99_1 : VC :=
.seq (
.seq (
.reg [⟨some 59,none,.mov (.t 11)⟩,⟨some 60,none,.bin .geq (.t 59) (.c (.int .i64 0))⟩]) (
.cond (.t 60) (
 .skip) (
 .exit 2))) (
.seq (
.blk 3 (
.reg [⟨some 63,none,.mov (.t 6)⟩,⟨some 64,none,.mov (.t 11)⟩,⟨some 65,none,.ixa 1 (.t 63) (.t 64)⟩,⟨some 66,none,.ld 1 false (.t 65)⟩,⟨some 67,none,.call .pure (.c (.fn (.f 140) [] [])) [.t 10,.t 66]⟩])) (
.reg [⟨some 61,none,.mov (.t 11)⟩,⟨some 62,none,.bin .sub (.t 61) (.c (.int .i64 1))⟩,⟨some 11,none,.mov (.t 62)⟩]))
def c99 : Fnc := ⟨[.t 2],
.seq (
.reg [⟨some 1,none,.box 2 (.t 0)⟩,⟨some 2,none,.mov (.c (.str []))⟩]) (
.seq (
.seq (
.reg [⟨some 12,none,.off 1 (.t 1)⟩,⟨some 13,none,.ld 1 false (.t 12)⟩,⟨some 14,none,.eq false .sl (.t 13) (.c (.nils))⟩]) (
.cond (.t 14) (
 .seq (
 .reg [⟨some 15,none,.off 0 (.t 1)⟩,
   ⟨some 16,none,.ld 1 false (.t 15)⟩,
   ⟨some 17,none,.call .pure (.c (.fn (.f 135) [] [])) [.t 16]⟩,
   ⟨some 2,none,.mov (.t 17)⟩]) (
 .ret)) (
 .skip))) (
.seq (
.reg [⟨some 19,none,.ld 2 true (.t 1)⟩,⟨some 20,none,.call .pure (.c (.fn (.f 136) [] [])) [.t 19]⟩,⟨some 18,none,.mov (.t 20)⟩,⟨some 21,none,.ext 0 (.t 18)⟩,⟨some 22,none,.ext 1 (.t 18)⟩,⟨some 3,none,.mov (.t 21)⟩,⟨some 4,none,.mov (.t 22)⟩]) (
.seq (
.reg [⟨some 23,none,.mksl 1 1 [.int .u64 0] [(0,1,(.c (.int .u64 1000000000000000000)))]⟩,⟨some 5,none,.mov (.t 23)⟩]) (
.seq (
.reg [⟨some 6,none,.mov (.c (.nils))⟩]) (
.seq (
.seq (
.blk 0 (
.loop [3,4,5,6] c99_0)) (
.kp [3,6])) (
.seq (
.reg [⟨some 10,none,.box 2 (.c (.agg [.nilp,.nils]))⟩]) (
.seq (
.seq (
.reg [⟨some 54,none,.mov (.t 3)⟩]) (
.cond (.t 54) (
 .reg [⟨some 55,none,.call .pure (.c (.fn (.f 140) [] [])) [.t 10,.c (.str [45])]⟩]) (
 .skip))) (
.seq (
.seq (
.reg [⟨some 56,none,.mov (.t 6)⟩,⟨some 57,none,.len 1 (.t 56)⟩,⟨some 58,none,.bin .sub (.t 57) (.c (.int .i64 1))⟩,⟨some 11,none,.mov (.t 58)⟩]) (
.seq (
.blk 2 (
.loop [6,10,11] c99_1)) (
.kp [10]))) (
.seq (
.reg [⟨some 68,none,.call .pure (.c (.fn (.f 141) [] [])) [.t 10]⟩,⟨some 2,none,.mov (.t 68)⟩]) (
.ret))))))))))⟩
/- (lenslet/num.Int).Mul -/
def c100 : Fnc := ⟨[.cell 4 2 true],
.seq (
.reg [⟨some 2,none,.box 2 (.t 0)⟩,⟨some 3,none,.box 2 (.t 1)⟩,⟨some 4,none,.box 2 (.c (.agg [.int .i64 0,.nils]))⟩]) (
.seq (
.seq (
.reg [⟨some 11,none,.off 1 (.t 2)⟩,⟨some 12,none,.ld 1 false (.t 11)⟩,⟨some 13,none,.eq false .sl (.t 12) (.c (.nils))⟩,⟨some 14,none,.mov (.t 13)⟩,⟨some 15,some (14,true),.off 1 (.t 3)⟩,⟨some 16,some (14,true),.ld 1 false (.t 15)⟩,⟨some 17,some (14,true),.eq false .sl (.t 16) (.c (.nils))⟩,⟨some 18,none,.pick (.t 14) (.t 17) (.c (.bool false))⟩]) (
.cond (.t 18) (
 .seq (
 .reg [⟨some 20,none,.off 0 (.t 2)⟩,
   ⟨some 21,none,.ld 1 false (.t 20)⟩,
   ⟨some 22,none,.call .pure (.c (.fn (.f 142) [] [])) [.t 21]⟩,
   ⟨some 23,none,.off 0 (.t 3)⟩,
   ⟨some 24,none,.ld 1 false (.t 23)⟩,
   ⟨some 25,none,.call .pure (.c (.fn (.f 142) [] [])) [.t 24]⟩,
   ⟨some 26,none,.call .pure (.c (.fn (.f 143) [] [])) [.t 22,.t 25]⟩,
   ⟨some 19,none,.mov (.t 26)⟩,
   ⟨some 27,none,.ext 0 (.t 19)⟩,
   ⟨some 28,none,.ext 1 (.t 19)⟩,
   ⟨some 5,none,.mov (.t 27)⟩,
   ⟨some 6,none,.mov (.t 28)⟩]) (
 .seq (
 .reg [⟨some 29,none,.mov (.t 5)⟩,
   ⟨some 30,none,.bin .eql (.t 29) (.c (.int .u64 0))⟩,
   ⟨some 31,none,.mov (.t 30)⟩,
   ⟨some 32,some (31,true),.mov (.t 6)⟩,
   ⟨some 33,some (31,true),.bin .leq (.t 32) (.c (.int .u64 9223372036854775807))⟩,
   ⟨some 34,none,.pick (.t 31) (.t 33) (.c (.bool false))⟩]) (
 .cond (.t 34) (
  .seq (
  .seq (
  .reg [⟨some 35,none,.off 0 (.t 2)⟩,
    ⟨some 36,none,.ld 1 false (.t 35)⟩,
    ⟨some 37,none,.bin .lss (.t 36) (.c (.int .i64 0))⟩,
    ⟨some 38,none,.off 0 (.t 3)⟩,
    ⟨some 39,none,.ld 1 false (.t 38)⟩,
    ⟨some 40,none,.bin .lss (.t 39) (.c (.int .i64 0))⟩,
    ⟨some 41,none,.eq true .b (.t 37) (.t 40)⟩]) (
  .cond (.t 41) (
   .seq (
   .reg [⟨some 42,none,.mov (.t 6)⟩,
     ⟨some 43,none,.cv (.toInt .i64) (.t 42)⟩,
     ⟨some 44,none,.un .neg (.t 43)⟩,
     ⟨some 45,none,.mkagg [.int .i64 0,.nils] [(0,1,(.t 44))]⟩,
     ⟨none,none,.st 2 (.t 4) (.t 45)⟩]) (
   .ret)) (
   .skip))) (
  .seq (
  .reg [⟨some 46,none,.mov (.t 6)⟩,
    ⟨some 47,none,.cv (.toInt .i64) (.t 46)⟩,
    ⟨some 48,none,.mkagg [.int .i64 0,.nils] [(0,1,(.t 47))]⟩,
    ⟨none,none,.st 2 (.t 4) (.t 48)⟩]) (
  .ret))) (
  .skip)))) (
 .skip))) (
.seq (
.reg [⟨some 50,none,.ld 2 true (.t 2)⟩,⟨some 51,none,.call .pure (.c (.fn (.f 136) [] [])) [.t 50]⟩,⟨some 49,none,.mov (.t 51)⟩,⟨some 52,none,.ext 0 (.t 49)⟩,⟨some 53,none,.ext 1 (.t 49)⟩,⟨some 7,none,.mov (.t 52)⟩,⟨some 8,none,.mov (.t 53)⟩]) (
.seq (
.reg [⟨some 55,none,.ld 2 true (.t 3)⟩,⟨some 56,none,.call .pure (.c (.fn (.f 136) [] [])) [.t 55]⟩,⟨some 54,none,.mov (.t 56)⟩,⟨some 57,none,.ext 0 (.t 54)⟩,⟨some 58,none,.ext 1 (.t 54)⟩,⟨some 9,none,.mov (.t 57)⟩,⟨some 10,none,.mov (.t 58)⟩]) (
.seq (
.reg [⟨some 59,none,.mov (.t 7)⟩,⟨some 60,none,.mov (.t 9)⟩,⟨some 61,none,.eq true .b (.t 59) (.t 60)⟩,⟨some 62,none,.mov (.t 8)⟩,⟨some 63,none,.mov (.t 10)⟩,⟨some 64,none,.call .pure (.c (.fn (.f 144) [] [])) [.t 62,.t 63]⟩,⟨some 65,none,.call .pure (.c (.fn (.f 145) [] [])) [.t 61,.t 64]⟩,⟨none,none,.st 2 (.t 4) (.t 65)⟩]) (
.ret)))))⟩
/- lenslet/num.Make -/
def c101 : Fnc := ⟨[.cell 4 4 true],
.seq (
.reg [⟨some 2,none,.box 2 (.t 0)⟩,⟨some 3,none,.box 2 (.t 1)⟩,⟨some 4,none,.box 4 (.c (.agg [.int .i64 0,.nils,.int .i64 0,.nils]))⟩]) (
.seq (
.seq (
.reg [⟨some 6,none,.ld 2 true (.t 3)⟩,⟨some 7,none,.call .pure (.c (.fn (.f 146) [] [])) [.t 6]⟩,⟨some 8,none,.bin .lss (.t 7) (.c (.int .i64 0))⟩]) (
.cond (.t 8) (
 .reg [⟨some 9,none,.ld 2 true (.t 2)⟩,
   ⟨some 10,none,.call .pure (.c (.fn (.f 147) [] [])) [.t 9]⟩,
   ⟨some 11,none,.ld 2 true (.t 3)⟩,
   ⟨some 12,none,.call .pure (.c (.fn (.f 147) [] [])) [.t 11]⟩,
   ⟨none,none,.st 2 (.t 2) (.t 10)⟩,
   ⟨none,none,.st 2 (.t 3) (.t 12)⟩]) (
 .skip))) (
.seq (
.seq (
.reg [⟨some 13,none,.off 1 (.t 3)⟩,⟨some 14,none,.ld 1 false (.t 13)⟩,⟨some 15,none,.eq false .sl (.t 14) (.c (.nils))⟩,⟨some 16,none,.mov (.t 15)⟩,⟨some 17,some (16,true),.off 0 (.t 3)⟩,⟨some 18,some (16,true),.ld 1 false (.t 17)⟩,⟨some 19,some (16,true),.bin .eql (.t 18) (.c (.int .i64 1))⟩,⟨some 20,none,.pick (.t 16) (.t 19) (.c (.bool false))⟩]) (
.cond (.t 20) (
 .seq (
 .reg [⟨some 21,none,.ld 2 true (.t 2)⟩,
   ⟨some 22,none,.ld 2 true (.t 3)⟩,
   ⟨some 23,none,.mkagg [.int .i64 0,.nils,.int .i64 0,.nils] [(0,2,(.t 21)),(2,2,(.t 22))]⟩,
   ⟨none,none,.st 4 (.t 4) (.t 23)⟩]) (
 .ret)) (
 .skip))) (
.seq (
.reg [⟨some 24,none,.ld 2 true (.t 2)⟩,⟨some 25,none,.ld 2 true (.t 3)⟩,⟨some 26,none,.call .pure (.c (.fn (.f 130) [] [])) [.t 24,.t 25]⟩,⟨some 5,none,.box 2 (.c (.agg [.int .i64 0,.nils]))⟩,⟨none,none,.st 2 (.t 5) (.t 26)⟩]) (
.seq (
.reg [⟨some 27,none,.ld 2 true (.t 2)⟩,⟨some 28,none,.ld 2 true (.t 5)⟩,⟨some 29,none,.call .pure (.c (.fn (.f 148) [] [])) [.t 27,.t 28]⟩,⟨some 30,none,.ld 2 true (.t 3)⟩,⟨some 31,none,.ld 2 true (.t 5)⟩,⟨some 32,none,.call .pure (.c (.fn (.f 148) [] [])) [.t 30,.t 31]⟩,⟨some 33,none,.mkagg [.int .i64 0,.nils,.int .i64 0,.nils] [(0,2,(.t 29)),(2,2,(.t 32))]⟩,⟨none,none,.st 4 (.t 4) (.t 33)⟩]) (
.ret)))))⟩
/- (lenslet/num.Frac).Neg -/
def c102 : Fnc := ⟨[.cell 2 4 true],
.seq (
.reg [⟨some 1,none,.box 4 (.t 0)⟩,⟨some 2,none,.box 4 (.c (.agg [.int .i64 0,.nils,.int .i64 0,.nils]))⟩]) (
.seq (
.reg [⟨some 3,none,.off 0 (.t 1)⟩,⟨some 4,none,.ld 2 true (.t 3)⟩,⟨some 5,none,.call .pure (.c (.fn (.f 147) [] [])) [.t 4]⟩,⟨some 6,none,.off 2 (.t 1)⟩,⟨some 7,none,.ld 2 true (.t 6)⟩,⟨some 8,none,.mkagg [.int .i64 0,.nils,.int .i64 0,.nils] [(0,2,(.t 5)),(2,2,(.t 7))]⟩,⟨none,none,.st 4 (.t 2) (.t 8)⟩]) (
.ret))⟩
/- (lenslet/num.Frac).Large -/
def c107 : Fnc := ⟨[.t 2],
.seq (
.reg [⟨some 1,none,.box 4 (.t 0)⟩,⟨some 2,none,.mov (.c (.bool false))⟩]) (
.seq (
.reg [⟨some 3,none,.off 0 (.t 1)⟩,⟨some 4,none,.ld 2 true (.t 3)⟩,⟨some 5,none,.call .pure (.c (.fn (.f 151) [] [])) [.t 4]⟩,⟨some 6,none,.mov (.t 5)⟩,⟨some 7,some (6,false),.off 2 (.t 1)⟩,⟨some 8,some (6,false),.ld 2 true (.t 7)⟩,⟨some 9,some (6,false),.call .pure (.c (.fn (.f 151) [] [])) [.t 8]⟩,⟨some 10,none,.pick (.t 6) (.c (.bool true)) (.t 9)⟩,⟨some 2,none,.mov (.t 10)⟩]) (
.ret))⟩
/- (lenslet/num.Frac).Sign -/
def c108 : Fnc := ⟨[.t 2],
.seq (
.reg [⟨some 1,none,.box 4 (.t 0)⟩,⟨some 2,none,.mov (.c (.int .i64 0))⟩]) (
.seq (
.reg [⟨some 3,none,.off 0 (.t 1)⟩,⟨some 4,none,.ld 2 true (.t 3)⟩,⟨some 5,none,.call .pure (.c (.fn (.f 146) [] [])) [.t 4]⟩,⟨some 2,none,.mov (.t 5)⟩]) (
.ret))⟩
/- lenslet/num.Read -/
def c110_0 : VC :=
.seq (
.seq (
.reg [⟨some 13,none,.mov (.t 0)⟩,⟨some 14,none,.len 0 (.t 13)⟩,⟨some 15,none,.bin .gtr (.t 14) (.c (.int .i64 0))⟩]) (
.cond (.t 15) (
 .skip) (
 .exit 0))) (
.blk 1 (
.seq (
.reg [⟨some 16,none,.mov (.t 0)⟩,⟨some 17,none,.len 0 (.t 16)⟩,⟨some 18,none,.mn [.c (.int .i64 18),.t 17]⟩,⟨some 5,none,.mov (.t 18)⟩]) (
.seq (
.reg [⟨some 20,none,.mov (.t 0)⟩,⟨some 21,none,.mov (.t 5)⟩,⟨some 22,none,.sli .str (.t 20) none (some (.t 21))⟩,⟨some 23,none,.call .pure (.c (.fn (.f 154) [] [])) [.t 22]⟩,⟨some 19,none,.mov (.t 23)⟩,⟨some 24,none,.ext 0 (.t 19)⟩,⟨some 25,none,.ext 1 (.t 19)⟩,⟨some 6,none,.mov (.t 24)⟩,⟨some 7,none,.mov (.t 25)⟩]) (
.seq (
.reg [⟨some 26,none,.ld 2 true (.t 4)⟩,⟨some 27,none,.call .pure (.c (.fn (.f 117) [] [])) [.c (.int .i64 10)]⟩,⟨some 28,none,.mov (.t 5)⟩,⟨some 29,none,.call .pure (.c (.fn (.f 155) [] [])) [.t 27,.t 28]⟩,⟨some 30,none,.call .pure (.c (.fn (.f 100) [] [])) [.t 26,.t 29]⟩,⟨some 31,none,.mov (.t 6)⟩,⟨some 32,none,.call .pure (.c (.fn (.f 117) [] [])) [.t 31]⟩,⟨some 33,none,.call .pure (.c (.fn (.f 119) [] [])) [.t 30,.t 32]⟩,⟨none,none,.st 2 (.t 4) (.t 33)⟩]) (
.reg [⟨some 34,none,.mov (.t 0)⟩,⟨some 35,none,.mov (.t 5)⟩,⟨some 36,none,.sli .str (.t 34) (some (.t 35)) none⟩,⟨some 0,none,.mov (.t 36)⟩])))))
def c110 : Fnc := ⟨[.cell 2 2 true],
.seq (
.reg [⟨some 2,none,.box 2 (.c (.agg [.int .i64 0,.nils]))⟩]) (
.seq (
.reg [⟨some 8,none,.mov (.t 0)⟩,⟨some 9,none,.call .pure (.c (.fn (.f 152) [] [])) [.t 8,.c (.str [45])]⟩,⟨some 3,none,.mov (.t 9)⟩]) (
.seq (
.reg [⟨some 10,none,.mov (.t 0)⟩,⟨some 11,none,.call .pure (.c (.fn (.f 153) [] [])) [.t 10,.c (.str [45])]⟩,⟨some 0,none,.mov (.t 11)⟩]) (
.seq (
.reg [⟨some 12,none,.mkagg [.int .i64 0,.nils] []⟩,⟨some 4,none,.box 2 (.c (.agg [.int .i64 0,.nils]))⟩,⟨none,none,.st 2 (.t 4) (.t 12)⟩]) (
.seq (
.seq (
.blk 0 (
.loop [0,2,3,4] c110_0)) (
.kp [2,3,4])) (
.seq (
.seq (
.reg [⟨some 37,none,.mov (.t 3)⟩]) (
.cond (.t 37) (
 .seq (
 .reg [⟨some 38,none,.ld 2 true (.t 4)⟩,
   ⟨some 39,none,.call .pure (.c (.fn (.f 147) [] [])) [.t 38]⟩,
   ⟨none,none,.st 2 (.t 2) (.t 39)⟩]) (
 .ret)) (
 .skip))) (
.seq (
.reg [⟨some 40,none,.ld 2 true (.t 4)⟩,⟨none,none,.st 2 (.t 2) (.t 40)⟩]) (
.ret)))))))⟩
/- lenslet/num.Whole -/
def c111 : Fnc := ⟨[.cell 2 4 true],
.seq (
.reg [⟨some 1,none,.box 2 (.t 0)⟩,⟨some 2,none,.box 4 (.c (.agg [.int .i64 0,.nils,.int .i64 0,.nils]))⟩]) (
.seq (
.reg [⟨some 3,none,.ld 2 true (.t 1)⟩,⟨some 4,none,.call .pure (.c (.fn (.f 117) [] [])) [.c (.int .i64 1)]⟩,⟨some 5,none,.mkagg [.int .i64 0,.nils,.int .i64 0,.nils] [(0,2,(.t 3)),(2,2,(.t 4))]⟩,⟨none,none,.st 4 (.t 2) (.t 5)⟩]) (
.ret))⟩
/- lenslet/num.Of -/
def c117 : Fnc := ⟨[.cell 2 2 true],
.seq (
.reg [⟨some 2,none,.box 2 (.c (.agg [.int .i64 0,.nils]))⟩]) (
.seq (
.reg [⟨some 3,none,.mov (.t 0)⟩,⟨some 4,none,.mkagg [.int .i64 0,.nils] [(0,1,(.t 3))]⟩,⟨none,none,.st 2 (.t 2) (.t 4)⟩]) (
.ret))⟩
/- (lenslet/num.Int).Cmp -/
def c118 : Fnc := ⟨[.t 4],
.seq (
.reg [⟨some 2,none,.box 2 (.t 0)⟩,⟨some 3,none,.box 2 (.t 1)⟩,⟨some 4,none,.mov (.c (.int .i64 0))⟩]) (
.seq (
.seq (
.reg [⟨some 5,none,.off 1 (.t 2)⟩,⟨some 6,none,.ld 1 false (.t 5)⟩,⟨some 7,none,.eq false .sl (.t 6) (.c (.nils))⟩,⟨some 8,none,.mov (.t 7)⟩,⟨some 9,some (8,true),.off 1 (.t 3)⟩,⟨some 10,some (8,true),.ld 1 false (.t 9)⟩,⟨some 11,some (8,true),.eq false .sl (.t 10) (.c (.nils))⟩,⟨some 12,none,.pick (.t 8) (.t 11) (.c (.bool false))⟩]) (
.cond (.t 12) (
 .seq (
 .blk 0 (
 .seq (
 .reg [⟨some 14,none,.off 0 (.t 2)⟩,
   ⟨some 15,none,.ld 1 false (.t 14)⟩,
   ⟨some 16,none,.off 0 (.t 3)⟩,
   ⟨some 17,none,.ld 1 false (.t 16)⟩,
   ⟨some 18,none,.bin .lss (.t 15) (.t 17)⟩,
   ⟨some 13,none,.mov (.t 18)⟩]) (
 .cond (.t 13) (
  .seq (
  .reg [⟨some 4,none,.mov (.c (.int .i64 (-1)))⟩]) (
  .ret)) (
  .seq (
  .reg [⟨some 20,none,.off 0 (.t 2)⟩,
    ⟨some 21,none,.ld 1 false (.t 20)⟩,
    ⟨some 22,none,.off 0 (.t 3)⟩,
    ⟨some 23,none,.ld 1 false (.t 22)⟩,
    ⟨some 24,none,.bin .gtr (.t 21) (.t 23)⟩,
    ⟨some 19,none,.mov (.t 24)⟩]) (
  .cond (.t 19) (
   .seq (
   .reg [⟨some 4,none,.mov (.c (.int .i64 1))⟩]) (
   .ret)) (
   .skip)))))) (
 .seq (
 .reg [⟨some 4,none,.mov (.c (.int .i64 0))⟩]) (
 .ret))) (
 .skip))) (
.seq (
.reg [⟨some 25,none,.ld 2 true (.t 2)⟩,⟨some 26,none,.ld 2 true (.t 3)⟩,⟨some 27,none,.call .pure (.c (.fn (.f 156) [] [])) [.t 25,.t 26]⟩,⟨some 28,none,.call .pure (.c (.fn (.f 146) [] [])) [.t 27]⟩,⟨some 4,none,.mov (.t 28)⟩]) (
.ret)))⟩
/- (lenslet/num.Int).Add -/
def c119 : Fnc := ⟨[.cell 4 2 true],
.seq (
.reg [⟨some 2,none,.box 2 (.t 0)⟩,⟨some 3,none,.box 2 (.t 1)⟩,⟨some 4,none,.box 2 (.c (.agg [.int .i64 0,.nils]))⟩]) (
.seq (
.seq (
.reg [⟨some 10,none,.off 1 (.t 2)⟩,⟨some 11,none,.ld 1 false (.t 10)⟩,⟨some 12,none,.eq false .sl (.t 11) (.c (.nils))⟩,⟨some 13,none,.mov (.t 12)⟩,⟨some 14,some (13,true),.off 1 (.t 3)⟩,⟨some 15,some (13,true),.ld 1 false (.t 14)⟩,⟨some 16,some (13,true),.eq false .sl (.t 15) (.c (.nils))⟩,⟨some 17,none,.pick (.t 13) (.t 16) (.c (.bool false))⟩]) (
.cond (.t 17) (
 .seq (
 .reg [⟨some 18,none,.off 0 (.t 2)⟩,
   ⟨some 19,none,.ld 1 false (.t 18)⟩,
   ⟨some 20,none,.off 0 (.t 3)⟩,
   ⟨some 21,none,.ld 1 false (.t 20)⟩,
   ⟨some 22,none,.bin .add (.t 19) (.t 21)⟩,
   ⟨some 5,none,.mov (.t 22)⟩]) (
 .seq (
 .reg [⟨some 23,none,.mov (.t 5)⟩,
   ⟨some 24,none,.off 0 (.t 2)⟩,
   ⟨some 25,none,.ld 1 false (.t 24)⟩,
   ⟨some 26,none,.bin .gtr (.t 23) (.t 25)⟩,
   ⟨some 27,none,.off 0 (.t 3)⟩,
   ⟨some 28,none,.ld 1 false (.t 27)⟩,
   ⟨some 29,none,.bin .gtr (.t 28) (.c (.int .i64 0))⟩,
   ⟨some 30,none,.eq false .b (.t 26) (.t 29)⟩]) (
 .cond (.t 30) (
  .seq (
  .reg [⟨some 31,none,.mov (.t 5)⟩,
    ⟨some 32,none,.mkagg [.int .i64 0,.nils] [(0,1,(.t 31))]⟩,
    ⟨none,none,.st 2 (.t 4) (.t 32)⟩]) (
  .ret)) (
  .skip)))) (
 .skip))) (
.seq (
.reg [⟨some 34,none,.ld 2 true (.t 2)⟩,⟨some 35,none,.call .pure (.c (.fn (.f 136) [] [])) [.t 34]⟩,⟨some 33,none,.mov (.t 35)⟩,⟨some 36,none,.ext 0 (.t 33)⟩,⟨some 37,none,.ext 1 (.t 33)⟩,⟨some 6,none,.mov (.t 36)⟩,⟨some 7,none,.mov (.t 37)⟩]) (
.seq (
.reg [⟨some 39,none,.ld 2 true (.t 3)⟩,⟨some 40,none,.call .pure (.c (.fn (.f 136) [] [])) [.t 39]⟩,⟨some 38,none,.mov (.t 40)⟩,⟨some 41,none,.ext 0 (.t 38)⟩,⟨some 42,none,.ext 1 (.t 38)⟩,⟨some 8,none,.mov (.t 41)⟩,⟨some 9,none,.mov (.t 42)⟩]) (
.seq (
.blk 0 (
.seq (
.reg [⟨some 44,none,.mov (.t 6)⟩,⟨some 45,none,.mov (.t 8)⟩,⟨some 46,none,.eq false .b (.t 44) (.t 45)⟩,⟨some 43,none,.mov (.t 46)⟩]) (
.cond (.t 43) (
 .seq (
 .reg [⟨some 47,none,.mov (.t 6)⟩,
   ⟨some 48,none,.mov (.t 7)⟩,
   ⟨some 49,none,.mov (.t 9)⟩,
   ⟨some 50,none,.call .pure (.c (.fn (.f 157) [] [])) [.t 48,.t 49]⟩,
   ⟨some 51,none,.call .pure (.c (.fn (.f 145) [] [])) [.t 47,.t 50]⟩,
   ⟨none,none,.st 2 (.t 4) (.t 51)⟩]) (
 .ret)) (
 .seq (
 .reg [⟨some 53,none,.mov (.t 7)⟩,
   ⟨some 54,none,.mov (.t 9)⟩,
   ⟨some 55,none,.call .pure (.c (.fn (.f 158) [] [])) [.t 53,.t 54]⟩,
   ⟨some 56,none,.bin .geq (.t 55) (.c (.int .i64 0))⟩,
   ⟨some 52,none,.mov (.t 56)⟩]) (
 .cond (.t 52) (
  .seq (
  .reg [⟨some 57,none,.mov (.t 6)⟩,
    ⟨some 58,none,.mov (.t 7)⟩,
    ⟨some 59,none,.mov (.t 9)⟩,
    ⟨some 60,none,.call .pure (.c (.fn (.f 159) [] [])) [.t 58,.t 59]⟩,
    ⟨some 61,none,.call .pure (.c (.fn (.f 145) [] [])) [.t 57,.t 60]⟩,
    ⟨none,none,.st 2 (.t 4) (.t 61)⟩]) (
  .ret)) (
  .skip)))))) (
.seq (
.reg [⟨some 62,none,.mov (.t 8)⟩,⟨some 63,none,.mov (.t 9)⟩,⟨some 64,none,.mov (.t 7)⟩,⟨some 65,none,.call .pure (.c (.fn (.f 159) [] [])) [.t 63,.t 64]⟩,⟨some 66,none,.call .pure (.c (.fn (.f 145) [] [])) [.t 62,.t 65]⟩,⟨none,none,.st 2 (.t 4) (.t 66)⟩]) (
.ret))))))⟩
/- lenslet/num.Texts -/
def c123_0 : VC :=
.seq (
.reg [⟨some 12,none,.bin .lss (.t 11) (.t 10)⟩]) (
.seq (
.cond (.t 12) (
 .skip) (
 .exit 0)) (
.seq (
.blk 1 (
.seq (
.reg [⟨some 13,none,.mov (.t 11)⟩,⟨some 14,none,.ixa 4 (.t 9) (.t 11)⟩,⟨some 15,none,.ld 4 true (.t 14)⟩,⟨some 5,none,.box 4 (.c (.agg [.int .i64 0,.nils,.int .i64 0,.nils]))⟩,⟨some 4,none,.mov (.t 13)⟩,⟨none,none,.st 4 (.t 5) (.t 15)⟩]) (
.reg [⟨some 16,none,.mov (.t 3)⟩,⟨some 17,none,.mov (.t 4)⟩,⟨some 18,none,.ld 4 true (.t 5)⟩,⟨some 19,none,.call .pure (.c (.fn (.f 46) [] [])) [.t 18]⟩,⟨some 20,none,.ixa 1 (.t 16) (.t 17)⟩,⟨none,none,.st 1 (.t 20) (.t 19)⟩]))) (
.reg [⟨some 21,none,.bin .add (.t 11) (.c (.int .i64 1))⟩,⟨some 11,none,.mov (.t 21)⟩])))
def c123 : Fnc := ⟨[.t 2],
.seq (
.reg [⟨some 2,none,.mov (.c (.nils))⟩]) (
.seq (
.reg [⟨some 6,none,.mov (.t 0)⟩,⟨some 7,none,.len 1 (.t 6)⟩,⟨some 8,none,.mks 1 16 [.str []] (.t 7) (.t 7)⟩,⟨some 3,none,.mov (.t 8)⟩]) (
.seq (
.seq (
.reg [⟨some 9,none,.mov (.t 0)⟩,⟨some 10,none,.len 1 (.t 9)⟩,⟨some 11,none,.mov (.c (.int .i64 0))⟩]) (
.seq (
.blk 0 (
.loop [3,9,10,11] c123_0)) (
.kp [3]))) (
.seq (
.reg [⟨some 22,none,.mov (.t 3)⟩,⟨some 2,none,.mov (.t 22)⟩]) (
.ret))))⟩
/- lenslet/number.when -/
def c124 : Fnc := ⟨[.t 4],
.seq (
.reg [⟨some 4,none,.mov (.c (.int .i64 0))⟩]) (
.seq (
.seq (
.reg [⟨some 5,none,.mov (.t 0)⟩]) (
.cond (.t 5) (
 .seq (
 .reg [⟨some 6,none,.mov (.t 1)⟩,
   ⟨some 4,none,.mov (.t 6)⟩]) (
 .ret)) (
 .skip))) (
.seq (
.reg [⟨some 4,none,.mov (.c (.int .i64 0))⟩]) (
.ret)))⟩
/- lenslet/number.first -/
def c125_0 : VC :=
.seq (
.reg [⟨some 8,none,.bin .lss (.t 7) (.t 6)⟩]) (
.seq (
.cond (.t 8) (
 .skip) (
 .exit 0)) (
.seq (
.blk 1 (
.seq (
.reg [⟨some 9,none,.ixa 1 (.t 5) (.t 7)⟩,⟨some 10,none,.ld 1 false (.t 9)⟩,⟨some 4,none,.mov (.t 10)⟩]) (
.seq (
.reg [⟨some 11,none,.mov (.t 4)⟩,⟨some 12,none,.bin .neq (.t 11) (.c (.int .i64 0))⟩]) (
.cond (.t 12) (
 .seq (
 .reg [⟨some 13,none,.mov (.t 4)⟩,
   ⟨some 2,none,.mov (.t 13)⟩]) (
 .ret)) (
 .skip))))) (
.reg [⟨some 14,none,.bin .add (.t 7) (.c (.int .i64 1))⟩,⟨some 7,none,.mov (.t 14)⟩])))
def c125 : Fnc := ⟨[.t 2],
.seq (
.reg [⟨some 2,none,.mov (.c (.int .i64 0))⟩]) (
.seq (
.seq (
.reg [⟨some 5,none,.mov (.t 0)⟩,⟨some 6,none,.len 1 (.t 5)⟩,⟨some 7,none,.mov (.c (.int .i64 0))⟩]) (
.seq (
.blk 0 (
.loop [5,6,7] c125_0)) (
.kp []))) (
.seq (
.reg [⟨some 2,none,.mov (.c (.int .i64 0))⟩]) (
.ret)))⟩
/- lenslet/number.CheckMatrix.1 -/
def c126 : Fnc := ⟨[.t 3],
.seq (
.reg [⟨some 3,none,.mov (.c (.int .i64 0))⟩]) (
.seq (
.reg [⟨some 4,none,.mov (.t 0)⟩,⟨some 5,none,.len 1 (.t 4)⟩,⟨some 6,none,.bin .eql (.t 5) (.c (.int .i64 0))⟩,⟨some 7,none,.call .pure (.c (.fn (.f 124) [] [])) [.t 6,.c (.int .i64 12)]⟩,⟨some 8,none,.mov (.t 0)⟩,⟨some 9,none,.len 1 (.t 8)⟩,⟨some 10,none,.bin .gtr (.t 9) (.c (.int .i64 64))⟩,⟨some 11,none,.call .pure (.c (.fn (.f 124) [] [])) [.t 10,.c (.int .i64 5)]⟩,⟨some 12,none,.mov (.t 0)⟩,⟨some 13,none,.len 1 (.t 12)⟩,⟨some 14,none,.ld 1 false (.t 1)⟩,⟨some 15,none,.ixa 1 (.t 14) (.c (.int .i64 0))⟩,⟨some 16,none,.ld 1 false (.t 15)⟩,⟨some 17,none,.len 1 (.t 16)⟩,⟨some 18,none,.bin .neq (.t 13) (.t 17)⟩,⟨some 19,none,.call .pure (.c (.fn (.f 124) [] [])) [.t 18,.c (.int .i64 2)]⟩,⟨some 20,none,.mov (.t 0)⟩,⟨some 21,none,.call .pure (.c (.fn (.f 161) [] [])) [.t 20]⟩,⟨some 22,none,.mksl 4 1 [.int .i64 0,.int .i64 0,.int .i64 0,.int .i64 0] [(0,1,(.t 7)),(1,1,(.t 11)),(2,1,(.t 19)),(3,1,(.t 21))]⟩,⟨some 23,none,.call .pure (.c (.fn (.f 125) [] [])) [.t 22]⟩,⟨some 3,none,.mov (.t 23)⟩]) (
.ret))⟩
/- lenslet/number.each[[]lenslet/api.Rat] -/
def c127_0 : VC :=
.seq (
.reg [⟨some 11,none,.bin .lss (.t 10) (.t 9)⟩]) (
.seq (
.cond (.t 11) (
 .skip) (
 .exit 0)) (
.seq (
.blk 1 (
.seq (
.reg [⟨some 12,none,.ixa 1 (.t 8) (.t 10)⟩,⟨some 13,none,.ld 1 false (.t 12)⟩,⟨some 6,none,.mov (.t 13)⟩]) (
.seq (
.reg [⟨some 14,none,.mov (.t 1)⟩,⟨some 15,none,.mov (.t 6)⟩,⟨some 16,none,.call .pure (.t 14) [.t 15]⟩,⟨some 7,none,.mov (.t 16)⟩]) (
.seq (
.reg [⟨some 17,none,.mov (.t 7)⟩,⟨some 18,none,.bin .neq (.t 17) (.c (.int .i64 0))⟩]) (
.cond (.t 18) (
 .seq (
 .reg [⟨some 19,none,.mov (.t 7)⟩,
   ⟨some 4,none,.mov (.t 19)⟩]) (
 .ret)) (
 .skip)))))) (
.reg [⟨some 20,none,.bin .add (.t 10) (.c (.int .i64 1))⟩,⟨some 10,none,.mov (.t 20)⟩])))
def c127 : Fnc := ⟨[.t 4],
.seq (
.reg [⟨some 4,none,.mov (.c (.int .i64 0))⟩]) (
.seq (
.seq (
.reg [⟨some 8,none,.mov (.t 0)⟩,⟨some 9,none,.len 1 (.t 8)⟩,⟨some 10,none,.mov (.c (.int .i64 0))⟩]) (
.seq (
.blk 0 (
.loop [1,8,9,10] c127_0)) (
.kp []))) (
.seq (
.reg [⟨some 4,none,.mov (.c (.int .i64 0))⟩]) (
.ret)))⟩
/- lenslet/number.isDecimal -/
def c129 : Fnc := ⟨[.t 2],
.seq (
.reg [⟨some 2,none,.mov (.c (.bool false))⟩]) (
.seq (
.reg [⟨some 3,none,.mov (.t 0)⟩,⟨some 4,none,.bin .neq (.t 3) (.c (.str []))⟩,⟨some 5,none,.mov (.t 4)⟩,⟨some 6,some (5,true),.mov (.t 0)⟩,⟨some 7,some (5,true),.call .pure (.c (.fn (.f 162) [] [])) [.t 6,.c (.str [48,49,50,51,52,53,54,55,56,57])]⟩,⟨some 8,some (5,true),.bin .eql (.t 7) (.c (.str []))⟩,⟨some 9,none,.pick (.t 5) (.t 8) (.c (.bool false))⟩,⟨some 10,none,.mov (.t 9)⟩,⟨some 11,some (10,true),.mov (.t 0)⟩,⟨some 12,some (10,true),.ixs (.t 11) (.c (.int .i64 0))⟩,⟨some 13,some (10,true),.bin .neq (.t 12) (.c (.int .u8 48))⟩,⟨some 14,some (10,true),.mov (.t 13)⟩,⟨some 15,some (14,false),.mov (.t 0)⟩,⟨some 16,some (14,false),.bin .eql (.t 15) (.c (.str [48]))⟩,⟨some 17,some (10,true),.pick (.t 14) (.c (.bool true)) (.t 16)⟩,⟨some 18,none,.pick (.t 10) (.t 17) (.c (.bool false))⟩,⟨some 2,none,.mov (.t 18)⟩]) (
.ret))⟩
/- lenslet/num.Gcd -/
def c130_0 : VC :=
.seq (
.seq (
.reg [⟨some 11,none,.ld 2 true (.t 3)⟩,⟨some 12,none,.call .pure (.c (.fn (.f 146) [] [])) [.t 11]⟩,⟨some 13,none,.bin .neq (.t 12) (.c (.int .i64 0))⟩]) (
.cond (.t 13) (
 .skip) (
 .exit 0))) (
.blk 1 (
.seq (
.reg [⟨some 15,none,.ld 2 true (.t 2)⟩,⟨some 16,none,.ld 2 true (.t 3)⟩,⟨some 17,none,.call .pure (.c (.fn (.f 164) [] [])) [.t 15,.t 16]⟩,⟨some 14,none,.mov (.t 17)⟩,⟨some 18,none,.ext 0 (.t 14)⟩,⟨some 19,none,.ext 1 (.t 14)⟩,⟨some 5,none,.box 2 (.c (.agg [.int .i64 0,.nils]))⟩,⟨some 6,none,.box 2 (.c (.agg [.int .i64 0,.nils]))⟩,⟨none,none,.st 2 (.t 5) (.t 18)⟩,⟨none,none,.st 2 (.t 6) (.t 19)⟩]) (
.reg [⟨some 20,none,.ld 2 true (.t 3)⟩,⟨some 21,none,.ld 2 true (.t 6)⟩,⟨none,none,.std [(2,true,6)] 2 (.t 2) (.t 20)⟩,⟨none,none,.st 2 (.t 3) (.t 21)⟩])))
def c130 : Fnc := ⟨[.cell 4 2 true],
.seq (
.reg [⟨some 2,none,.box 2 (.t 0)⟩,⟨some 3,none,.box 2 (.t 1)⟩,⟨some 4,none,.box 2 (.c (.agg [.int .i64 0,.nils]))⟩]) (
.seq (
.reg [⟨some 7,none,.ld 2 true (.t 2)⟩,⟨some 8,none,.call .pure (.c (.fn (.f 163) [] [])) [.t 7]⟩,⟨some 9,none,.ld 2 true (.t 3)⟩,⟨some 10,none,.call .pure (.c (.fn (.f 163) [] [])) [.t 9]⟩,⟨none,none,.st 2 (.t 2) (.t 8)⟩,⟨none,none,.st 2 (.t 3) (.t 10)⟩]) (
.seq (
.seq (
.blk 0 (
.loop [2,3,4] c130_0)) (
.kp [2,4])) (
.seq (
.reg [⟨some 22,none,.ld 2 true (.t 2)⟩,⟨none,none,.st 2 (.t 4) (.t 22)⟩]) (
.ret))))⟩
/- (lenslet/num.Int).parts -/
def c136 : Fnc := ⟨[.t 2,.t 3],
.seq (
.reg [⟨some 1,none,.box 2 (.t 0)⟩,⟨some 2,none,.mov (.c (.bool false))⟩,⟨some 3,none,.mov (.c (.nils))⟩]) (
.seq (
.blk 0 (
.seq (
.reg [⟨some 5,none,.off 1 (.t 1)⟩,⟨some 6,none,.ld 1 false (.t 5)⟩,⟨some 7,none,.eq true .sl (.t 6) (.c (.nils))⟩,⟨some 4,none,.mov (.t 7)⟩]) (
.cond (.t 4) (
 .seq (
 .reg [⟨some 8,none,.off 0 (.t 1)⟩,
   ⟨some 9,none,.ld 1 false (.t 8)⟩,
   ⟨some 10,none,.bin .lss (.t 9) (.c (.int .i64 0))⟩,
   ⟨some 11,none,.off 1 (.t 1)⟩,
   ⟨some 12,none,.ld 1 false (.t 11)⟩,
   ⟨some 2,none,.mov (.t 10)⟩,
   ⟨some 3,none,.mov (.t 12)⟩]) (
 .ret)) (
 .seq (
 .reg [⟨some 14,none,.off 0 (.t 1)⟩,
   ⟨some 15,none,.ld 1 false (.t 14)⟩,
   ⟨some 16,none,.bin .eql (.t 15) (.c (.int .i64 0))⟩,
   ⟨some 13,none,.mov (.t 16)⟩]) (
 .cond (.t 13) (
  .seq (
  .reg [⟨some 2,none,.mov (.c (.bool false))⟩,
    ⟨some 3,none,.mov (.c (.nils))⟩]) (
  .ret)) (
  .skip)))))) (
.seq (
.reg [⟨some 17,none,.off 0 (.t 1)⟩,⟨some 18,none,.ld 1 false (.t 17)⟩,⟨some 19,none,.bin .lss (.t 18) (.c (.int .i64 0))⟩,⟨some 20,none,.off 0 (.t 1)⟩,⟨some 21,none,.ld 1 false (.t 20)⟩,⟨some 22,none,.call .pure (.c (.fn (.f 142) [] [])) [.t 21]⟩,⟨some 23,none,.mksl 1 1 [.int .u64 0] [(0,1,(.t 22))]⟩,⟨some 2,none,.mov (.t 19)⟩,⟨some 3,none,.mov (.t 23)⟩]) (
.ret)))⟩
/- lenslet/num.divide -/
def c137_0 : VC :=
.seq (
.seq (
.reg [⟨some 30,none,.mov (.t 8)⟩,⟨some 31,none,.bin .geq (.t 30) (.c (.int .i64 0))⟩]) (
.cond (.t 31) (
 .skip) (
 .exit 0))) (
.seq (
.blk 1 (
.reg [⟨some 35,none,.mov (.t 6)⟩,⟨some 36,none,.mov (.t 8)⟩,⟨some 37,none,.mov (.t 7)⟩,⟨some 38,none,.mov (.t 0)⟩,⟨some 39,none,.mov (.t 8)⟩,⟨some 40,none,.ixa 1 (.t 38) (.t 39)⟩,⟨some 41,none,.ld 1 false (.t 40)⟩,⟨some 42,none,.mov (.t 1)⟩,⟨some 43,none,.ixa 1 (.t 42) (.c (.int .i64 0))⟩,⟨some 44,none,.ld 1 false (.t 43)⟩,⟨some 45,none,.call .pure (.c (.fn (.f 165) [] [])) [.t 37,.t 41,.t 44]⟩,⟨some 34,none,.mov (.t 45)⟩,⟨some 46,none,.ext 0 (.t 34)⟩,⟨some 47,none,.ext 1 (.t 34)⟩,⟨some 48,none,.ixa 1 (.t 35) (.t 36)⟩,⟨none,none,.st 1 (.t 48) (.t 46)⟩,⟨some 7,none,.mov (.t 47)⟩])) (
.reg [⟨some 32,none,.mov (.t 8)⟩,⟨some 33,none,.bin .sub (.t 32) (.c (.int .i64 1))⟩,⟨some 8,none,.mov (.t 33)⟩]))
def c137_1 : VC :=
.seq (
.seq (
.reg [⟨some 80,none,.mov (.t 14)⟩,⟨some 81,none,.bin .geq (.t 80) (.c (.int .i64 0))⟩]) (
.cond (.t 81) (
 .skip) (
 .exit 2))) (
.seq (
.blk 3 (
.reg [⟨some 84,none,.mov (.t 13)⟩,⟨some 85,none,.mov (.t 14)⟩,⟨some 86,none,.mov (.t 11)⟩,⟨some 87,none,.mov (.t 14)⟩,⟨some 88,none,.mov (.t 14)⟩,⟨some 89,none,.mov (.t 12)⟩,⟨some 90,none,.bin .add (.t 88) (.t 89)⟩,⟨some 91,none,.bin .add (.t 90) (.c (.int .i64 1))⟩,⟨some 92,none,.sli (.sl 1) (.t 86) (some (.t 87)) (some (.t 91))⟩,⟨some 93,none,.mov (.t 10)⟩,⟨some 94,none,.call .heap (.c (.fn (.f 169) [] [])) [.t 92,.t 93]⟩,⟨some 95,none,.ixa 1 (.t 84) (.t 85)⟩,⟨none,none,.st 1 (.t 95) (.t 94)⟩])) (
.reg [⟨some 82,none,.mov (.t 14)⟩,⟨some 83,none,.bin .sub (.t 82) (.c (.int .i64 1))⟩,⟨some 14,none,.mov (.t 83)⟩]))
def c137_2 : VC :=
.seq (
.reg [⟨some 98,none,.bin .lss (.t 97) (.t 96)⟩]) (
.seq (
.cond (.t 98) (
 .skip) (
 .exit 4)) (
.seq (
.blk 5 (
.seq (
.reg [⟨some 99,none,.mov (.t 97)⟩,⟨some 15,none,.mov (.t 99)⟩]) (
.seq (
.reg [⟨some 100,none,.mov (.t 11)⟩,⟨some 101,none,.mov (.t 15)⟩,⟨some 102,none,.ixa 1 (.t 100) (.t 101)⟩,⟨some 103,none,.ld 1 false (.t 102)⟩,⟨some 104,none,.mov (.t 9)⟩,⟨some 105,none,.bin .shr (.t 103) (.t 104)⟩,⟨some 106,none,.ixa 1 (.t 100) (.t 101)⟩,⟨none,none,.st 1 (.t 106) (.t 105)⟩]) (
.seq (
.reg [⟨some 107,none,.mov (.t 9)⟩,⟨some 108,none,.bin .gtr (.t 107) (.c (.int .i64 0))⟩,⟨some 109,none,.mov (.t 108)⟩,⟨some 110,some (109,true),.mov (.t 15)⟩,⟨some 111,some (109,true),.bin .add (.t 110) (.c (.int .i64 1))⟩,⟨some 112,some (109,true),.mov (.t 11)⟩,⟨some 113,some (109,true),.len 1 (.t 112)⟩,⟨some 114,some (109,true),.bin .lss (.t 111) (.t 113)⟩,⟨some 115,none,.pick (.t 109) (.t 114) (.c (.bool false))⟩]) (
.cond (.t 115) (
 .reg [⟨some 116,none,.mov (.t 11)⟩,
   ⟨some 117,none,.mov (.t 15)⟩,
   ⟨some 118,none,.ixa 1 (.t 116) (.t 117)⟩,
   ⟨some 119,none,.ld 1 false (.t 118)⟩,
   ⟨some 120,none,.mov (.t 11)⟩,
   ⟨some 121,none,.mov (.t 15)⟩,
   ⟨some 122,none,.bin .add (.t 121) (.c (.int .i64 1))⟩,
   ⟨some 123,none,.ixa 1 (.t 120) (.t 122)⟩,
   ⟨some 124,none,.ld 1 false (.t 123)⟩,
   ⟨some 125,none,.mov (.t 9)⟩,
   ⟨some 126,none,.bin .sub (.c (.int .i64 64)) (.t 125)⟩,
   ⟨some 127,none,.bin .shl (.t 124) (.t 126)⟩,
   ⟨some 128,none,.bin .or (.t 119) (.t 127)⟩,
   ⟨some 129,none,.ixa 1 (.t 116) (.t 117)⟩,
   ⟨none,none,.st 1 (.t 129) (.t 128)⟩]) (
 .skip)))))) (
.reg [⟨some 130,none,.bin .add (.t 97) (.c (.int .i64 1))⟩,⟨some 97,none,.mov (.t 130)⟩])))
def c137 : Fnc := ⟨[.t 4,.t 5],
.seq (
.reg [⟨some 4,none,.mov (.c (.nils))⟩,⟨some 5,none,.mov (.c (.nils))⟩]) (
.seq (
.seq (
.reg [⟨some 16,none,.mov (.t 0)⟩,⟨some 17,none,.mov (.t 1)⟩,⟨some 18,none,.call .pure (.c (.fn (.f 158) [] [])) [.t 16,.t 17]⟩,⟨some 19,none,.bin .lss (.t 18) (.c (.int .i64 0))⟩]) (
.cond (.t 19) (
 .seq (
 .reg [⟨some 20,none,.mov (.t 0)⟩,
   ⟨some 4,none,.mov (.c (.nils))⟩,
   ⟨some 5,none,.mov (.t 20)⟩]) (
 .ret)) (
 .skip))) (
.seq (
.seq (
.reg [⟨some 21,none,.mov (.t 1)⟩,⟨some 22,none,.len 1 (.t 21)⟩,⟨some 23,none,.bin .eql (.t 22) (.c (.int .i64 1))⟩]) (
.cond (.t 23) (
 .seq (
 .reg [⟨some 24,none,.mov (.t 0)⟩,
   ⟨some 25,none,.len 1 (.t 24)⟩,
   ⟨some 26,none,.mks 1 8 [.int .u64 0] (.t 25) (.t 25)⟩,
   ⟨some 6,none,.mov (.t 26)⟩]) (
 .seq (
 .reg [⟨some 7,none,.mov (.c (.int .u64 0))⟩]) (
 .seq (
 .seq (
 .reg [⟨some 27,none,.mov (.t 0)⟩,
   ⟨some 28,none,.len 1 (.t 27)⟩,
   ⟨some 29,none,.bin .sub (.t 28) (.c (.int .i64 1))⟩,
   ⟨some 8,none,.mov (.t 29)⟩]) (
 .seq (
 .blk 0 (
 .loop [0,1,6,7,8] c137_0)) (
 .kp [6,7]))) (
 .seq (
 .reg [⟨some 49,none,.mov (.t 6)⟩,
   ⟨some 50,none,.call .pure (.c (.fn (.f 166) [] [])) [.t 49]⟩,
   ⟨some 51,none,.mov (.t 7)⟩,
   ⟨some 52,none,.mksl 1 1 [.int .u64 0] [(0,1,(.t 51))]⟩,
   ⟨some 53,none,.call .pure (.c (.fn (.f 166) [] [])) [.t 52]⟩,
   ⟨some 4,none,.mov (.t 50)⟩,
   ⟨some 5,none,.mov (.t 53)⟩]) (
 .ret))))) (
 .skip))) (
.seq (
.reg [⟨some 54,none,.mov (.t 1)⟩,⟨some 55,none,.mov (.t 1)⟩,⟨some 56,none,.len 1 (.t 55)⟩,⟨some 57,none,.bin .sub (.t 56) (.c (.int .i64 1))⟩,⟨some 58,none,.ixa 1 (.t 54) (.t 57)⟩,⟨some 59,none,.ld 1 false (.t 58)⟩,⟨some 60,none,.call .pure (.c (.fn (.f 167) [] [])) [.t 59]⟩,⟨some 9,none,.mov (.t 60)⟩]) (
.seq (
.reg [⟨some 61,none,.mov (.t 1)⟩,⟨some 62,none,.mov (.t 9)⟩,⟨some 63,none,.call .own (.c (.fn (.f 168) [] [])) [.t 61,.t 62]⟩,⟨some 64,none,.call .pure (.c (.fn (.f 166) [] [])) [.t 63]⟩,⟨some 10,none,.mov (.t 64)⟩]) (
.seq (
.reg [⟨some 65,none,.mov (.t 0)⟩,⟨some 66,none,.mov (.t 9)⟩,⟨some 67,none,.call .own (.c (.fn (.f 168) [] [])) [.t 65,.t 66]⟩,⟨some 11,none,.mov (.t 67)⟩]) (
.seq (
.reg [⟨some 68,none,.mov (.t 10)⟩,⟨some 69,none,.len 1 (.t 68)⟩,⟨some 12,none,.mov (.t 69)⟩]) (
.seq (
.reg [⟨some 70,none,.mov (.t 0)⟩,⟨some 71,none,.len 1 (.t 70)⟩,⟨some 72,none,.mov (.t 12)⟩,⟨some 73,none,.bin .sub (.t 71) (.t 72)⟩,⟨some 74,none,.bin .add (.t 73) (.c (.int .i64 1))⟩,⟨some 75,none,.mks 1 8 [.int .u64 0] (.t 74) (.t 74)⟩,⟨some 13,none,.mov (.t 75)⟩]) (
.seq (
.seq (
.reg [⟨some 76,none,.mov (.t 0)⟩,⟨some 77,none,.len 1 (.t 76)⟩,⟨some 78,none,.mov (.t 12)⟩,⟨some 79,none,.bin .sub (.t 77) (.t 78)⟩,⟨some 14,none,.mov (.t 79)⟩]) (
.seq (
.blk 2 (
.loop [9,10,11,12,13,14] c137_1)) (
.kp [9,11,12,13]))) (
.seq (
.seq (
.reg [⟨some 96,none,.mov (.t 12)⟩,⟨some 97,none,.mov (.c (.int .i64 0))⟩]) (
.seq (
.blk 4 (
.loop [9,11,12,13,96,97] c137_2)) (
.kp [11,12,13]))) (
.seq (
.reg [⟨some 131,none,.mov (.t 13)⟩,⟨some 132,none,.call .pure (.c (.fn (.f 166) [] [])) [.t 131]⟩,⟨some 133,none,.mov (.t 11)⟩,⟨some 134,none,.mov (.t 12)⟩,⟨some 135,none,.sli (.sl 1) (.t 133) none (some (.t 134))⟩,⟨some 136,none,.call .pure (.c (.fn (.f 166) [] [])) [.t 135]⟩,⟨some 4,none,.mov (.t 132)⟩,⟨some 5,none,.mov (.t 136)⟩]) (
.ret)))))))))))⟩
/- (*strings.Builder).WriteString -/
def c140 : Fnc := ⟨[.t 4,.t 5],
.seq (
.reg [⟨some 4,none,.mov (.c (.int .i64 0))⟩,⟨some 5,none,.mov (.c (.undef))⟩]) (
.seq (
.reg [⟨some 6,none,.mov (.t 0)⟩,⟨some 7,none,.call .pure (.c (.fn (.f 170) [] [])) [.t 6]⟩]) (
.seq (
.reg [⟨some 8,none,.mov (.t 0)⟩,⟨some 9,none,.mov (.t 0)⟩,⟨some 10,none,.nilc (.t 9)⟩,⟨some 11,none,.off 1 (.t 10)⟩,⟨some 12,none,.ld 1 false (.t 11)⟩,⟨some 13,none,.mov (.t 1)⟩,⟨some 14,none,.app 1 1 (.t 12) (.t 13)⟩,⟨some 15,none,.nilc (.t 8)⟩,⟨some 16,none,.off 1 (.t 15)⟩,⟨none,none,.st 1 (.t 16) (.t 14)⟩]) (
.seq (
.reg [⟨some 17,none,.mov (.t 1)⟩,⟨some 18,none,.len 0 (.t 17)⟩,⟨some 4,none,.mov (.t 18)⟩,⟨some 5,none,.mov (.c (.undef))⟩]) (
.ret))))⟩
/- (*strings.Builder).String -/
def c141 : Fnc := ⟨[.t 2],
.seq (
.reg [⟨some 2,none,.mov (.c (.str []))⟩]) (
.seq (
.reg [⟨some 3,none,.mov (.t 0)⟩,⟨some 4,none,.nilc (.t 3)⟩,⟨some 5,none,.off 1 (.t 4)⟩,⟨some 6,none,.ld 1 false (.t 5)⟩,⟨some 7,none,.call .pure (.c (.undef)) []⟩,⟨some 8,none,.mov (.t 0)⟩,⟨some 9,none,.nilc (.t 8)⟩,⟨some 10,none,.off 1 (.t 9)⟩,⟨some 11,none,.ld 1 false (.t 10)⟩,⟨some 12,none,.len 1 (.t 11)⟩,⟨some 13,none,.call .pure (.c (.undef)) []⟩,⟨some 2,none,.mov (.t 13)⟩]) (
.ret))⟩
/- lenslet/num.size -/
def c142 : Fnc := ⟨[.t 2],
.seq (
.reg [⟨some 2,none,.mov (.c (.int .u64 0))⟩]) (
.seq (
.seq (
.reg [⟨some 3,none,.mov (.t 0)⟩,⟨some 4,none,.bin .lss (.t 3) (.c (.int .i64 0))⟩]) (
.cond (.t 4) (
 .seq (
 .reg [⟨some 5,none,.mov (.t 0)⟩,
   ⟨some 6,none,.un .neg (.t 5)⟩,
   ⟨some 7,none,.cv (.toInt .u64) (.t 6)⟩,
   ⟨some 2,none,.mov (.t 7)⟩]) (
 .ret)) (
 .skip))) (
.seq (
.reg [⟨some 8,none,.mov (.t 0)⟩,⟨some 9,none,.cv (.toInt .u64) (.t 8)⟩,⟨some 2,none,.mov (.t 9)⟩]) (
.ret)))⟩
/- lenslet/num.mulWords -/
def c144_0 : VC :=
.seq (
.reg [⟨some 30,none,.bin .lss (.t 29) (.t 28)⟩]) (
.seq (
.cond (.t 30) (
 .skip) (
 .exit 2)) (
.seq (
.blk 3 (
.seq (
.reg [⟨some 31,none,.mov (.t 29)⟩,⟨some 32,none,.ixa 1 (.t 27) (.t 29)⟩,⟨some 33,none,.ld 1 false (.t 32)⟩,⟨some 9,none,.mov (.t 31)⟩,⟨some 10,none,.mov (.t 33)⟩]) (
.seq (
.reg [⟨some 35,none,.mov (.t 7)⟩,⟨some 36,none,.mov (.t 10)⟩,⟨some 37,none,.call .pure (.c (.fn (.f 143) [] [])) [.t 35,.t 36]⟩,⟨some 34,none,.mov (.t 37)⟩,⟨some 38,none,.ext 0 (.t 34)⟩,⟨some 39,none,.ext 1 (.t 34)⟩,⟨some 11,none,.mov (.t 38)⟩,⟨some 12,none,.mov (.t 39)⟩]) (
.seq (
.reg [⟨some 13,none,.mov (.c (.int .u64 0))⟩]) (
.seq (
.reg [⟨some 41,none,.mov (.t 12)⟩,⟨some 42,none,.mov (.t 5)⟩,⟨some 43,none,.mov (.t 6)⟩,⟨some 44,none,.mov (.t 9)⟩,⟨some 45,none,.bin .add (.t 43) (.t 44)⟩,⟨some 46,none,.ixa 1 (.t 42) (.t 45)⟩,⟨some 47,none,.ld 1 false (.t 46)⟩,⟨some 48,none,.call .pure (.c (.fn (.f 171) [] [])) [.t 41,.t 47,.c (.int .u64 0)]⟩,⟨some 40,none,.mov (.t 48)⟩,⟨some 49,none,.ext 0 (.t 40)⟩,⟨some 50,none,.ext 1 (.t 40)⟩,⟨some 12,none,.mov (.t 49)⟩,⟨some 13,none,.mov (.t 50)⟩]) (
.seq (
.reg [⟨some 51,none,.mov (.t 11)⟩,⟨some 52,none,.mov (.t 13)⟩,⟨some 53,none,.bin .add (.t 51) (.t 52)⟩,⟨some 11,none,.mov (.t 53)⟩]) (
.seq (
.reg [⟨some 55,none,.mov (.t 12)⟩,⟨some 56,none,.mov (.t 8)⟩,⟨some 57,none,.call .pure (.c (.fn (.f 171) [] [])) [.t 55,.t 56,.c (.int .u64 0)]⟩,⟨some 54,none,.mov (.t 57)⟩,⟨some 58,none,.ext 0 (.t 54)⟩,⟨some 59,none,.ext 1 (.t 54)⟩,⟨some 12,none,.mov (.t 58)⟩,⟨some 13,none,.mov (.t 59)⟩]) (
.reg [⟨some 60,none,.mov (.t 5)⟩,⟨some 61,none,.mov (.t 6)⟩,⟨some 62,none,.mov (.t 9)⟩,⟨some 63,none,.bin .add (.t 61) (.t 62)⟩,⟨some 64,none,.mov (.t 12)⟩,⟨some 65,none,.mov (.t 11)⟩,⟨some 66,none,.mov (.t 13)⟩,⟨some 67,none,.bin .add (.t 65) (.t 66)⟩,⟨some 68,none,.ixa 1 (.t 60) (.t 63)⟩,⟨none,none,.st 1 (.t 68) (.t 64)⟩,⟨some 8,none,.mov (.t 67)⟩])))))))) (
.reg [⟨some 69,none,.bin .add (.t 29) (.c (.int .i64 1))⟩,⟨some 29,none,.mov (.t 69)⟩])))
def c144_1 : VC :=
.seq (
.reg [⟨some 23,none,.bin .lss (.t 22) (.t 21)⟩]) (
.seq (
.cond (.t 23) (
 .skip) (
 .exit 0)) (
.seq (
.blk 1 (
.seq (
.reg [⟨some 24,none,.mov (.t 22)⟩,⟨some 25,none,.ixa 1 (.t 20) (.t 22)⟩,⟨some 26,none,.ld 1 false (.t 25)⟩,⟨some 6,none,.mov (.t 24)⟩,⟨some 7,none,.mov (.t 26)⟩]) (
.seq (
.reg [⟨some 8,none,.mov (.c (.int .u64 0))⟩]) (
.seq (
.seq (
.reg [⟨some 27,none,.mov (.t 1)⟩,⟨some 28,none,.len 1 (.t 27)⟩,⟨some 29,none,.mov (.c (.int .i64 0))⟩]) (
.seq (
.blk 2 (
.loop [1,5,6,7,8,20,21,22,27,28,29] c144_0)) (
.kp [1,5,6,8,20,21,22]))) (
.reg [⟨some 70,none,.mov (.t 5)⟩,⟨some 71,none,.mov (.t 6)⟩,⟨some 72,none,.mov (.t 1)⟩,⟨some 73,none,.len 1 (.t 72)⟩,⟨some 74,none,.bin .add (.t 71) (.t 73)⟩,⟨some 75,none,.mov (.t 8)⟩,⟨some 76,none,.ixa 1 (.t 70) (.t 74)⟩,⟨none,none,.st 1 (.t 76) (.t 75)⟩]))))) (
.reg [⟨some 77,none,.bin .add (.t 22) (.c (.int .i64 1))⟩,⟨some 22,none,.mov (.t 77)⟩])))
def c144 : Fnc := ⟨[.t 4],
.seq (
.reg [⟨some 4,none,.mov (.c (.nils))⟩]) (
.seq (
.reg [⟨some 14,none,.mov (.t 0)⟩,⟨some 15,none,.len 1 (.t 14)⟩,⟨some 16,none,.mov (.t 1)⟩,⟨some 17,none,.len 1 (.t 16)⟩,⟨some 18,none,.bin .add (.t 15) (.t 17)⟩,⟨some 19,none,.mks 1 8 [.int .u64 0] (.t 18) (.t 18)⟩,⟨some 5,none,.mov (.t 19)⟩]) (
.seq (
.seq (
.reg [⟨some 20,none,.mov (.t 0)⟩,⟨some 21,none,.len 1 (.t 20)⟩,⟨some 22,none,.mov (.c (.int .i64 0))⟩]) (
.seq (
.blk 0 (
.loop [1,5,20,21,22] c144_1)) (
.kp [5]))) (
.seq (
.reg [⟨some 78,none,.mov (.t 5)⟩,⟨some 79,none,.call .pure (.c (.fn (.f 166) [] [])) [.t 78]⟩,⟨some 4,none,.mov (.t 79)⟩]) (
.ret))))⟩
/- lenslet/num.made -/
def c145 : Fnc := ⟨[.cell 4 2 true],
.seq (
.reg [⟨some 4,none,.box 2 (.c (.agg [.int .i64 0,.nils]))⟩]) (
.seq (
.blk 0 (
.seq (
.reg [⟨some 6,none,.mov (.t 1)⟩,⟨some 7,none,.len 1 (.t 6)⟩,⟨some 8,none,.bin .eql (.t 7) (.c (.int .i64 0))⟩,⟨some 5,none,.mov (.t 8)⟩]) (
.cond (.t 5) (
 .seq (
 .reg [⟨some 9,none,.mkagg [.int .i64 0,.nils] []⟩,
   ⟨none,none,.st 2 (.t 4) (.t 9)⟩]) (
 .ret)) (
 .seq (
 .reg [⟨some 11,none,.mov (.t 1)⟩,
   ⟨some 12,none,.len 1 (.t 11)⟩,
   ⟨some 13,none,.bin .eql (.t 12) (.c (.int .i64 1))⟩,
   ⟨some 14,none,.mov (.t 13)⟩,
   ⟨some 15,some (14,true),.mov (.t 1)⟩,
   ⟨some 16,some (14,true),.ixa 1 (.t 15) (.c (.int .i64 0))⟩,
   ⟨some 17,some (14,true),.ld 1 false (.t 16)⟩,
   ⟨some 18,some (14,true),.bin .leq (.t 17) (.c (.int .u64 9223372036854775807))⟩,
   ⟨some 19,none,.pick (.t 14) (.t 18) (.c (.bool false))⟩,
   ⟨some 20,none,.mov (.t 19)⟩,
   ⟨some 21,some (20,true),.mov (.t 0)⟩,
   ⟨some 22,none,.pick (.t 20) (.t 21) (.c (.bool false))⟩,
   ⟨some 10,none,.mov (.t 22)⟩]) (
 .cond (.t 10) (
  .seq (
  .reg [⟨some 23,none,.mov (.t 1)⟩,
    ⟨some 24,none,.ixa 1 (.t 23) (.c (.int .i64 0))⟩,
    ⟨some 25,none,.ld 1 false (.t 24)⟩,
    ⟨some 26,none,.cv (.toInt .i64) (.t 25)⟩,
    ⟨some 27,none,.un .neg (.t 26)⟩,
    ⟨some 28,none,.mkagg [.int .i64 0,.nils] [(0,1,(.t 27))]⟩,
    ⟨none,none,.st 2 (.t 4) (.t 28)⟩]) (
  .ret)) (
  .seq (
  .reg [⟨some 30,none,.mov (.t 1)⟩,
    ⟨some 31,none,.len 1 (.t 30)⟩,
    ⟨some 32,none,.bin .eql (.t 31) (.c (.int .i64 1))⟩,
    ⟨some 33,none,.mov (.t 32)⟩,
    ⟨some 34,some (33,true),.mov (.t 1)⟩,
    ⟨some 35,some (33,true),.ixa 1 (.t 34) (.c (.int .i64 0))⟩,
    ⟨some 36,some (33,true),.ld 1 false (.t 35)⟩,
    ⟨some 37,some (33,true),.bin .leq (.t 36) (.c (.int .u64 9223372036854775807))⟩,
    ⟨some 38,none,.pick (.t 33) (.t 37) (.c (.bool false))⟩,
    ⟨some 29,none,.mov (.t 38)⟩]) (
  .cond (.t 29) (
   .seq (
   .reg [⟨some 39,none,.mov (.t 1)⟩,
     ⟨some 40,none,.ixa 1 (.t 39) (.c (.int .i64 0))⟩,
     ⟨some 41,none,.ld 1 false (.t 40)⟩,
     ⟨some 42,none,.cv (.toInt .i64) (.t 41)⟩,
     ⟨some 43,none,.mkagg [.int .i64 0,.nils] [(0,1,(.t 42))]⟩,
     ⟨none,none,.st 2 (.t 4) (.t 43)⟩]) (
   .ret)) (
   .seq (
   .reg [⟨some 45,none,.mov (.t 0)⟩,
     ⟨some 44,none,.mov (.t 45)⟩]) (
   .cond (.t 44) (
    .seq (
    .reg [⟨some 46,none,.mov (.t 1)⟩,
      ⟨some 47,none,.mkagg [.int .i64 0,.nils] [(0,1,(.c (.int .i64 (-1)))),(1,1,(.t 46))]⟩,
      ⟨none,none,.st 2 (.t 4) (.t 47)⟩]) (
    .ret)) (
    .skip)))))))))) (
.seq (
.reg [⟨some 48,none,.mov (.t 1)⟩,⟨some 49,none,.mkagg [.int .i64 0,.nils] [(0,1,(.c (.int .i64 1))),(1,1,(.t 48))]⟩,⟨none,none,.st 2 (.t 4) (.t 49)⟩]) (
.ret)))⟩
/- (lenslet/num.Int).Sign -/
def c146 : Fnc := ⟨[.t 2],
.seq (
.reg [⟨some 1,none,.box 2 (.t 0)⟩,⟨some 2,none,.mov (.c (.int .i64 0))⟩]) (
.seq (
.reg [⟨some 3,none,.off 0 (.t 1)⟩,⟨some 4,none,.ld 1 false (.t 3)⟩,⟨some 5,none,.mn [.c (.int .i64 1),.t 4]⟩,⟨some 6,none,.mx [.c (.int .i64 (-1)),.t 5]⟩,⟨some 2,none,.mov (.t 6)⟩]) (
.ret))⟩
/- (lenslet/num.Int).Neg -/
def c147 : Fnc := ⟨[.cell 2 2 true],
.seq (
.reg [⟨some 1,none,.box 2 (.t 0)⟩,⟨some 2,none,.box 2 (.c (.agg [.int .i64 0,.nils]))⟩]) (
.seq (
.seq (
.reg [⟨some 5,none,.off 1 (.t 1)⟩,⟨some 6,none,.ld 1 false (.t 5)⟩,⟨some 7,none,.eq false .sl (.t 6) (.c (.nils))⟩,⟨some 8,none,.mov (.t 7)⟩,⟨some 9,some (8,true),.off 0 (.t 1)⟩,⟨some 10,some (8,true),.ld 1 false (.t 9)⟩,⟨some 11,some (8,true),.bin .neq (.t 10) (.c (.int .i64 (-9223372036854775808)))⟩,⟨some 12,none,.pick (.t 8) (.t 11) (.c (.bool false))⟩]) (
.cond (.t 12) (
 .seq (
 .reg [⟨some 13,none,.off 0 (.t 1)⟩,
   ⟨some 14,none,.ld 1 false (.t 13)⟩,
   ⟨some 15,none,.un .neg (.t 14)⟩,
   ⟨some 16,none,.mkagg [.int .i64 0,.nils] [(0,1,(.t 15))]⟩,
   ⟨none,none,.st 2 (.t 2) (.t 16)⟩]) (
 .ret)) (
 .skip))) (
.seq (
.reg [⟨some 18,none,.ld 2 true (.t 1)⟩,⟨some 19,none,.call .pure (.c (.fn (.f 136) [] [])) [.t 18]⟩,⟨some 17,none,.mov (.t 19)⟩,⟨some 20,none,.ext 0 (.t 17)⟩,⟨some 21,none,.ext 1 (.t 17)⟩,⟨some 3,none,.mov (.t 20)⟩,⟨some 4,none,.mov (.t 21)⟩]) (
.seq (
.reg [⟨some 22,none,.mov (.t 3)⟩,⟨some 23,none,.un .not (.t 22)⟩,⟨some 24,none,.mov (.t 4)⟩,⟨some 25,none,.call .pure (.c (.fn (.f 145) [] [])) [.t 23,.t 24]⟩,⟨none,none,.st 2 (.t 2) (.t 25)⟩]) (
.ret))))⟩
/- (lenslet/num.Int).Quo -/
def c148 : Fnc := ⟨[.cell 4 2 true],
.seq (
.reg [⟨some 2,none,.box 2 (.t 0)⟩,⟨some 3,none,.box 2 (.t 1)⟩,⟨some 4,none,.box 2 (.c (.agg [.int .i64 0,.nils]))⟩]) (
.seq (
.seq (
.reg [⟨some 7,none,.ld 2 true (.t 3)⟩,⟨some 8,none,.call .pure (.c (.fn (.f 146) [] [])) [.t 7]⟩,⟨some 9,none,.bin .lss (.t 8) (.c (.int .i64 0))⟩]) (
.cond (.t 9) (
 .reg [⟨some 10,none,.ld 2 true (.t 2)⟩,
   ⟨some 11,none,.call .pure (.c (.fn (.f 147) [] [])) [.t 10]⟩,
   ⟨some 12,none,.ld 2 true (.t 3)⟩,
   ⟨some 13,none,.call .pure (.c (.fn (.f 147) [] [])) [.t 12]⟩,
   ⟨none,none,.st 2 (.t 2) (.t 11)⟩,
   ⟨none,none,.st 2 (.t 3) (.t 13)⟩]) (
 .skip))) (
.seq (
.reg [⟨some 15,none,.ld 2 true (.t 2)⟩,⟨some 16,none,.ld 2 true (.t 3)⟩,⟨some 17,none,.call .pure (.c (.fn (.f 164) [] [])) [.t 15,.t 16]⟩,⟨some 14,none,.mov (.t 17)⟩,⟨some 18,none,.ext 0 (.t 14)⟩,⟨some 19,none,.ext 1 (.t 14)⟩,⟨some 5,none,.box 2 (.c (.agg [.int .i64 0,.nils]))⟩,⟨some 6,none,.box 2 (.c (.agg [.int .i64 0,.nils]))⟩,⟨none,none,.st 2 (.t 5) (.t 18)⟩,⟨none,none,.st 2 (.t 6) (.t 19)⟩]) (
.seq (
.reg [⟨some 20,none,.ld 2 true (.t 5)⟩,⟨none,none,.st 2 (.t 4) (.t 20)⟩]) (
.ret))))⟩
/- (lenslet/num.Frac).Floor -/
def c149 : Fnc := ⟨[.cell 2 2 true],
.seq (
.reg [⟨some 1,none,.box 4 (.t 0)⟩,⟨some 2,none,.box 2 (.c (.agg [.int .i64 0,.nils]))⟩]) (
.seq (
.reg [⟨some 6,none,.off 0 (.t 1)⟩,⟨some 7,none,.ld 2 true (.t 6)⟩,⟨some 8,none,.off 2 (.t 1)⟩,⟨some 9,none,.ld 2 true (.t 8)⟩,⟨some 10,none,.call .pure (.c (.fn (.f 164) [] [])) [.t 7,.t 9]⟩,⟨some 5,none,.mov (.t 10)⟩,⟨some 11,none,.ext 0 (.t 5)⟩,⟨some 12,none,.ext 1 (.t 5)⟩,⟨some 3,none,.box 2 (.c (.agg [.int .i64 0,.nils]))⟩,⟨some 4,none,.box 2 (.c (.agg [.int .i64 0,.nils]))⟩,⟨none,none,.st 2 (.t 3) (.t 11)⟩,⟨none,none,.st 2 (.t 4) (.t 12)⟩]) (
.seq (
.reg [⟨some 13,none,.ld 2 true (.t 3)⟩,⟨none,none,.st 2 (.t 2) (.t 13)⟩]) (
.ret)))⟩
/- (lenslet/num.Int).Small -/
def c150 : Fnc := ⟨[.t 2,.t 3],
.seq (
.reg [⟨some 1,none,.box 2 (.t 0)⟩,⟨some 2,none,.mov (.c (.int .i64 0))⟩,⟨some 3,none,.mov (.c (.bool false))⟩]) (
.seq (
.reg [⟨some 4,none,.off 0 (.t 1)⟩,⟨some 5,none,.ld 1 false (.t 4)⟩,⟨some 6,none,.off 1 (.t 1)⟩,⟨some 7,none,.ld 1 false (.t 6)⟩,⟨some 8,none,.eq false .sl (.t 7) (.c (.nils))⟩,⟨some 2,none,.mov (.t 5)⟩,⟨some 3,none,.mov (.t 8)⟩]) (
.ret))⟩
/- lenslet/num.long -/
def c151 : Fnc := ⟨[.t 2],
.seq (
.reg [⟨some 1,none,.box 2 (.t 0)⟩,⟨some 2,none,.mov (.c (.bool false))⟩]) (
.seq (
.reg [⟨some 3,none,.ld 2 true (.t 1)⟩,⟨some 4,none,.call .pure (.c (.fn (.f 172) [] [])) [.t 3]⟩,⟨some 5,none,.bin .gtr (.t 4) (.c (.int .i64 1800))⟩,⟨some 6,none,.mov (.t 5)⟩,⟨some 7,some (6,true),.ld 2 true (.t 1)⟩,⟨some 8,some (6,true),.call .pure (.c (.fn (.f 99) [] [])) [.t 7]⟩,⟨some 9,some (6,true),.call .pure (.c (.fn (.f 153) [] [])) [.t 8,.c (.str [45])]⟩,⟨some 10,some (6,true),.len 0 (.t 9)⟩,⟨some 11,some (6,true),.bin .gtr (.t 10) (.c (.int .i64 600))⟩,⟨some 12,none,.pick (.t 6) (.t 11) (.c (.bool false))⟩,⟨some 2,none,.mov (.t 12)⟩]) (
.ret))⟩
/- (lenslet/num.Int).Pow -/
def c155_0 : VC :=
.seq (
.seq (
.reg [⟨some 7,none,.mov (.t 1)⟩,⟨some 8,none,.bin .gtr (.t 7) (.c (.int .i64 0))⟩]) (
.cond (.t 8) (
 .skip) (
 .exit 0))) (
.seq (
.blk 1 (
.seq (
.seq (
.reg [⟨some 11,none,.mov (.t 1)⟩,⟨some 12,none,.bin .and (.t 11) (.c (.int .i64 1))⟩,⟨some 13,none,.bin .eql (.t 12) (.c (.int .i64 1))⟩]) (
.cond (.t 13) (
 .reg [⟨some 14,none,.ld 2 true (.t 5)⟩,
   ⟨some 15,none,.ld 2 true (.t 2)⟩,
   ⟨some 16,none,.call .pure (.c (.fn (.f 100) [] [])) [.t 14,.t 15]⟩,
   ⟨none,none,.st 2 (.t 5) (.t 16)⟩]) (
 .skip))) (
.seq (
.reg [⟨some 17,none,.mov (.t 1)⟩,⟨some 18,none,.bin .gtr (.t 17) (.c (.int .i64 1))⟩]) (
.cond (.t 18) (
 .reg [⟨some 19,none,.ld 2 true (.t 2)⟩,
   ⟨some 20,none,.ld 2 true (.t 2)⟩,
   ⟨some 21,none,.call .pure (.c (.fn (.f 100) [] [])) [.t 19,.t 20]⟩,
   ⟨none,none,.st 2 (.t 2) (.t 21)⟩]) (
 .skip))))) (
.reg [⟨some 9,none,.mov (.t 1)⟩,⟨some 10,none,.bin .shr (.t 9) (.c (.int .u64 1))⟩,⟨some 1,none,.mov (.t 10)⟩]))
def c155 : Fnc := ⟨[.cell 4 2 true],
.seq (
.reg [⟨some 2,none,.box 2 (.t 0)⟩,⟨some 4,none,.box 2 (.c (.agg [.int .i64 0,.nils]))⟩]) (
.seq (
.reg [⟨some 6,none,.call .pure (.c (.fn (.f 117) [] [])) [.c (.int .i64 1)]⟩,⟨some 5,none,.box 2 (.c (.agg [.int .i64 0,.nils]))⟩,⟨none,none,.st 2 (.t 5) (.t 6)⟩]) (
.seq (
.seq (
.blk 0 (
.loop [1,2,4,5] c155_0)) (
.kp [4,5])) (
.seq (
.reg [⟨some 22,none,.ld 2 true (.t 5)⟩,⟨none,none,.st 2 (.t 4) (.t 22)⟩]) (
.ret))))⟩
/- (lenslet/num.Int).Sub -/
def c156 : Fnc := ⟨[.cell 4 2 true],
.seq (
.reg [⟨some 2,none,.box 2 (.t 0)⟩,⟨some 3,none,.box 2 (.t 1)⟩,⟨some 4,none,.box 2 (.c (.agg [.int .i64 0,.nils]))⟩]) (
.seq (
.reg [⟨some 5,none,.ld 2 true (.t 2)⟩,⟨some 6,none,.ld 2 true (.t 3)⟩,⟨some 7,none,.call .pure (.c (.fn (.f 147) [] [])) [.t 6]⟩,⟨some 8,none,.call .pure (.c (.fn (.f 119) [] [])) [.t 5,.t 7]⟩,⟨none,none,.st 2 (.t 4) (.t 8)⟩]) (
.ret))⟩
/- lenslet/num.addWords -/
def c157_0 : VC :=
.seq (
.reg [⟨some 23,none,.bin .lss (.t 22) (.t 21)⟩]) (
.seq (
.cond (.t 23) (
 .skip) (
 .exit 0)) (
.seq (
.blk 1 (
.seq (
.reg [⟨some 24,none,.mov (.t 22)⟩,⟨some 7,none,.mov (.t 24)⟩]) (
.seq (
.reg [⟨some 8,none,.mov (.c (.int .u64 0))⟩]) (
.seq (
.seq (
.reg [⟨some 25,none,.mov (.t 7)⟩,⟨some 26,none,.mov (.t 1)⟩,⟨some 27,none,.len 1 (.t 26)⟩,⟨some 28,none,.bin .lss (.t 25) (.t 27)⟩]) (
.cond (.t 28) (
 .reg [⟨some 29,none,.mov (.t 1)⟩,
   ⟨some 30,none,.mov (.t 7)⟩,
   ⟨some 31,none,.ixa 1 (.t 29) (.t 30)⟩,
   ⟨some 32,none,.ld 1 false (.t 31)⟩,
   ⟨some 8,none,.mov (.t 32)⟩]) (
 .skip))) (
.reg [⟨some 34,none,.mov (.t 5)⟩,⟨some 35,none,.mov (.t 7)⟩,⟨some 36,none,.mov (.t 0)⟩,⟨some 37,none,.mov (.t 7)⟩,⟨some 38,none,.ixa 1 (.t 36) (.t 37)⟩,⟨some 39,none,.ld 1 false (.t 38)⟩,⟨some 40,none,.mov (.t 8)⟩,⟨some 41,none,.mov (.t 6)⟩,⟨some 42,none,.call .pure (.c (.fn (.f 171) [] [])) [.t 39,.t 40,.t 41]⟩,⟨some 33,none,.mov (.t 42)⟩,⟨some 43,none,.ext 0 (.t 33)⟩,⟨some 44,none,.ext 1 (.t 33)⟩,⟨some 45,none,.ixa 1 (.t 34) (.t 35)⟩,⟨none,none,.st 1 (.t 45) (.t 43)⟩,⟨some 6,none,.mov (.t 44)⟩]))))) (
.reg [⟨some 46,none,.bin .add (.t 22) (.c (.int .i64 1))⟩,⟨some 22,none,.mov (.t 46)⟩])))
def c157 : Fnc := ⟨[.t 4],
.seq (
.reg [⟨some 4,none,.mov (.c (.nils))⟩]) (
.seq (
.seq (
.reg [⟨some 9,none,.mov (.t 0)⟩,⟨some 10,none,.len 1 (.t 9)⟩,⟨some 11,none,.mov (.t 1)⟩,⟨some 12,none,.len 1 (.t 11)⟩,⟨some 13,none,.bin .lss (.t 10) (.t 12)⟩]) (
.cond (.t 13) (
 .reg [⟨some 14,none,.mov (.t 1)⟩,
   ⟨some 15,none,.mov (.t 0)⟩,
   ⟨some 0,none,.mov (.t 14)⟩,
   ⟨some 1,none,.mov (.t 15)⟩]) (
 .skip))) (
.seq (
.reg [⟨some 16,none,.mov (.t 0)⟩,⟨some 17,none,.len 1 (.t 16)⟩,⟨some 18,none,.bin .add (.t 17) (.c (.int .i64 1))⟩,⟨some 19,none,.mks 1 8 [.int .u64 0] (.t 18) (.t 18)⟩,⟨some 5,none,.mov (.t 19)⟩]) (
.seq (
.reg [⟨some 6,none,.mov (.c (.int .u64 0))⟩]) (
.seq (
.seq (
.reg [⟨some 20,none,.mov (.t 0)⟩,⟨some 21,none,.len 1 (.t 20)⟩,⟨some 22,none,.mov (.c (.int .i64 0))⟩]) (
.seq (
.blk 0 (
.loop [0,1,5,6,21,22] c157_0)) (
.kp [0,5,6]))) (
.seq (
.reg [⟨some 47,none,.mov (.t 5)⟩,⟨some 48,none,.mov (.t 0)⟩,⟨some 49,none,.len 1 (.t 48)⟩,⟨some 50,none,.mov (.t 6)⟩,⟨some 51,none,.ixa 1 (.t 47) (.t 49)⟩,⟨none,none,.st 1 (.t 51) (.t 50)⟩]) (
.seq (
.reg [⟨some 52,none,.mov (.t 5)⟩,⟨some 53,none,.call .pure (.c (.fn (.f 166) [] [])) [.t 52]⟩,⟨some 4,none,.mov (.t 53)⟩]) (
.ret)))))))⟩
/- lenslet/num.compareWords -/
def c158_0 : VC :=
.seq (
.seq (
.reg [⟨some 19,none,.mov (.t 5)⟩,⟨some 20,none,.bin .geq (.t 19) (.c (.int .i64 0))⟩]) (
.cond (.t 20) (
 .skip) (
 .exit 0))) (
.seq (
.blk 1 (
.seq (
.reg [⟨some 23,none,.mov (.t 0)⟩,⟨some 24,none,.mov (.t 5)⟩,⟨some 25,none,.ixa 1 (.t 23) (.t 24)⟩,⟨some 26,none,.ld 1 false (.t 25)⟩,⟨some 27,none,.mov (.t 1)⟩,⟨some 28,none,.mov (.t 5)⟩,⟨some 29,none,.ixa 1 (.t 27) (.t 28)⟩,⟨some 30,none,.ld 1 false (.t 29)⟩,⟨some 31,none,.bin .neq (.t 26) (.t 30)⟩]) (
.cond (.t 31) (
 .seq (
 .seq (
 .reg [⟨some 32,none,.mov (.t 0)⟩,
   ⟨some 33,none,.mov (.t 5)⟩,
   ⟨some 34,none,.ixa 1 (.t 32) (.t 33)⟩,
   ⟨some 35,none,.ld 1 false (.t 34)⟩,
   ⟨some 36,none,.mov (.t 1)⟩,
   ⟨some 37,none,.mov (.t 5)⟩,
   ⟨some 38,none,.ixa 1 (.t 36) (.t 37)⟩,
   ⟨some 39,none,.ld 1 false (.t 38)⟩,
   ⟨some 40,none,.bin .lss (.t 35) (.t 39)⟩]) (
 .cond (.t 40) (
  .seq (
  .reg [⟨some 4,none,.mov (.c (.int .i64 (-1)))⟩]) (
  .ret)) (
  .skip))) (
 .seq (
 .reg [⟨some 4,none,.mov (.c (.int .i64 1))⟩]) (
 .ret))) (
 .skip)))) (
.reg [⟨some 21,none,.mov (.t 5)⟩,⟨some 22,none,.bin .sub (.t 21) (.c (.int .i64 1))⟩,⟨some 5,none,.mov (.t 22)⟩]))
def c158 : Fnc := ⟨[.t 4],
.seq (
.reg [⟨some 4,none,.mov (.c (.int .i64 0))⟩]) (
.seq (
.seq (
.reg [⟨some 6,none,.mov (.t 0)⟩,⟨some 7,none,.len 1 (.t 6)⟩,⟨some 8,none,.mov (.t 1)⟩,⟨some 9,none,.len 1 (.t 8)⟩,⟨some 10,none,.bin .neq (.t 7) (.t 9)⟩]) (
.cond (.t 10) (
 .seq (
 .seq (
 .reg [⟨some 11,none,.mov (.t 0)⟩,
   ⟨some 12,none,.len 1 (.t 11)⟩,
   ⟨some 13,none,.mov (.t 1)⟩,
   ⟨some 14,none,.len 1 (.t 13)⟩,
   ⟨some 15,none,.bin .lss (.t 12) (.t 14)⟩]) (
 .cond (.t 15) (
  .seq (
  .reg [⟨some 4,none,.mov (.c (.int .i64 (-1)))⟩]) (
  .ret)) (
  .skip))) (
 .seq (
 .reg [⟨some 4,none,.mov (.c (.int .i64 1))⟩]) (
 .ret))) (
 .skip))) (
.seq (
.seq (
.reg [⟨some 16,none,.mov (.t 0)⟩,⟨some 17,none,.len 1 (.t 16)⟩,⟨some 18,none,.bin .sub (.t 17) (.c (.int .i64 1))⟩,⟨some 5,none,.mov (.t 18)⟩]) (
.seq (
.blk 0 (
.loop [0,1,5] c158_0)) (
.kp []))) (
.seq (
.reg [⟨some 4,none,.mov (.c (.int .i64 0))⟩]) (
.ret))))⟩
/- lenslet/num.subWords -/
def c159_0 : VC :=
.seq (
.reg [⟨some 15,none,.bin .lss (.t 14) (.t 13)⟩]) (
.seq (
.cond (.t 15) (
 .skip) (
 .exit 0)) (
.seq (
.blk 1 (
.seq (
.reg [⟨some 16,none,.mov (.t 14)⟩,⟨some 7,none,.mov (.t 16)⟩]) (
.seq (
.reg [⟨some 8,none,.mov (.c (.int .u64 0))⟩]) (
.seq (
.seq (
.reg [⟨some 17,none,.mov (.t 7)⟩,⟨some 18,none,.mov (.t 1)⟩,⟨some 19,none,.len 1 (.t 18)⟩,⟨some 20,none,.bin .lss (.t 17) (.t 19)⟩]) (
.cond (.t 20) (
 .reg [⟨some 21,none,.mov (.t 1)⟩,
   ⟨some 22,none,.mov (.t 7)⟩,
   ⟨some 23,none,.ixa 1 (.t 21) (.t 22)⟩,
   ⟨some 24,none,.ld 1 false (.t 23)⟩,
   ⟨some 8,none,.mov (.t 24)⟩]) (
 .skip))) (
.reg [⟨some 26,none,.mov (.t 5)⟩,⟨some 27,none,.mov (.t 7)⟩,⟨some 28,none,.mov (.t 0)⟩,⟨some 29,none,.mov (.t 7)⟩,⟨some 30,none,.ixa 1 (.t 28) (.t 29)⟩,⟨some 31,none,.ld 1 false (.t 30)⟩,⟨some 32,none,.mov (.t 8)⟩,⟨some 33,none,.mov (.t 6)⟩,⟨some 34,none,.call .pure (.c (.fn (.f 173) [] [])) [.t 31,.t 32,.t 33]⟩,⟨some 25,none,.mov (.t 34)⟩,⟨some 35,none,.ext 0 (.t 25)⟩,⟨some 36,none,.ext 1 (.t 25)⟩,⟨some 37,none,.ixa 1 (.t 26) (.t 27)⟩,⟨none,none,.st 1 (.t 37) (.t 35)⟩,⟨some 6,none,.mov (.t 36)⟩]))))) (
.reg [⟨some 38,none,.bin .add (.t 14) (.c (.int .i64 1))⟩,⟨some 14,none,.mov (.t 38)⟩])))
def c159 : Fnc := ⟨[.t 4],
.seq (
.reg [⟨some 4,none,.mov (.c (.nils))⟩]) (
.seq (
.reg [⟨some 9,none,.mov (.t 0)⟩,⟨some 10,none,.len 1 (.t 9)⟩,⟨some 11,none,.mks 1 8 [.int .u64 0] (.t 10) (.t 10)⟩,⟨some 5,none,.mov (.t 11)⟩]) (
.seq (
.reg [⟨some 6,none,.mov (.c (.int .u64 0))⟩]) (
.seq (
.seq (
.reg [⟨some 12,none,.mov (.t 0)⟩,⟨some 13,none,.len 1 (.t 12)⟩,⟨some 14,none,.mov (.c (.int .i64 0))⟩]) (
.seq (
.blk 0 (
.loop [0,1,5,6,13,14] c159_0)) (
.kp [5]))) (
.seq (
.reg [⟨some 39,none,.mov (.t 5)⟩,⟨some 40,none,.call .pure (.c (.fn (.f 166) [] [])) [.t 39]⟩,⟨some 4,none,.mov (.t 40)⟩]) (
.ret)))))⟩
/- lenslet/number.checkAll -/
def c161_0 : VC :=
.seq (
.reg [⟨some 9,none,.bin .lss (.t 8) (.t 7)⟩]) (
.seq (
.cond (.t 9) (
 .skip) (
 .exit 0)) (
.seq (
.blk 1 (
.seq (
.reg [⟨some 10,none,.ixa 1 (.t 6) (.t 8)⟩,⟨some 11,none,.ld 1 false (.t 10)⟩,⟨some 4,none,.mov (.t 11)⟩]) (
.seq (
.reg [⟨some 12,none,.mov (.t 4)⟩,⟨some 13,none,.call .pure (.c (.fn (.f 86) [] [])) [.t 12]⟩,⟨some 5,none,.mov (.t 13)⟩]) (
.seq (
.reg [⟨some 14,none,.mov (.t 5)⟩,⟨some 15,none,.bin .neq (.t 14) (.c (.int .i64 0))⟩]) (
.cond (.t 15) (
 .seq (
 .reg [⟨some 16,none,.mov (.t 5)⟩,
   ⟨some 2,none,.mov (.t 16)⟩]) (
 .ret)) (
 .skip)))))) (
.reg [⟨some 17,none,.bin .add (.t 8) (.c (.int .i64 1))⟩,⟨some 8,none,.mov (.t 17)⟩])))
def c161 : Fnc := ⟨[.t 2],
.seq (
.reg [⟨some 2,none,.mov (.c (.int .i64 0))⟩]) (
.seq (
.seq (
.reg [⟨some 6,none,.mov (.t 0)⟩,⟨some 7,none,.len 1 (.t 6)⟩,⟨some 8,none,.mov (.c (.int .i64 0))⟩]) (
.seq (
.blk 0 (
.loop [6,7,8] c161_0)) (
.kp []))) (
.seq (
.reg [⟨some 2,none,.mov (.c (.int .i64 0))⟩]) (
.ret)))⟩
/- (lenslet/num.Int).Abs -/
def c163 : Fnc := ⟨[.cell 2 2 true],
.seq (
.reg [⟨some 1,none,.box 2 (.t 0)⟩,⟨some 2,none,.box 2 (.c (.agg [.int .i64 0,.nils]))⟩]) (
.seq (
.seq (
.reg [⟨some 3,none,.off 0 (.t 1)⟩,⟨some 4,none,.ld 1 false (.t 3)⟩,⟨some 5,none,.bin .lss (.t 4) (.c (.int .i64 0))⟩]) (
.cond (.t 5) (
 .seq (
 .reg [⟨some 6,none,.ld 2 true (.t 1)⟩,
   ⟨some 7,none,.call .pure (.c (.fn (.f 147) [] [])) [.t 6]⟩,
   ⟨none,none,.st 2 (.t 2) (.t 7)⟩]) (
 .ret)) (
 .skip))) (
.seq (
.reg [⟨some 8,none,.ld 2 true (.t 1)⟩,⟨none,none,.st 2 (.t 2) (.t 8)⟩]) (
.ret)))⟩
/- (lenslet/num.Int).DivMod -/
def c164 : Fnc := ⟨[.cell 4 2 true,.cell 5 2 true],
.seq (
.reg [⟨some 2,none,.box 2 (.t 0)⟩,⟨some 3,none,.box 2 (.t 1)⟩,⟨some 4,none,.box 2 (.c (.agg [.int .i64 0,.nils]))⟩,⟨some 5,none,.box 2 (.c (.agg [.int .i64 0,.nils]))⟩]) (
.seq (
.seq (
.reg [⟨some 16,none,.off 1 (.t 2)⟩,⟨some 17,none,.ld 1 false (.t 16)⟩,⟨some 18,none,.eq false .sl (.t 17) (.c (.nils))⟩,⟨some 19,none,.mov (.t 18)⟩,⟨some 20,some (19,true),.off 1 (.t 3)⟩,⟨some 21,some (19,true),.ld 1 false (.t 20)⟩,⟨some 22,some (19,true),.eq false .sl (.t 21) (.c (.nils))⟩,⟨some 23,none,.pick (.t 19) (.t 22) (.c (.bool false))⟩,⟨some 24,none,.mov (.t 23)⟩,⟨some 25,some (24,true),.off 0 (.t 2)⟩,⟨some 26,some (24,true),.ld 1 false (.t 25)⟩,⟨some 27,some (24,true),.bin .neq (.t 26) (.c (.int .i64 (-9223372036854775808)))⟩,⟨some 28,none,.pick (.t 24) (.t 27) (.c (.bool false))⟩]) (
.cond (.t 28) (
 .seq (
 .reg [⟨some 29,none,.off 0 (.t 2)⟩,
   ⟨some 30,none,.ld 1 false (.t 29)⟩,
   ⟨some 31,none,.off 0 (.t 3)⟩,
   ⟨some 32,none,.ld 1 false (.t 31)⟩,
   ⟨some 33,none,.bin .quo (.t 30) (.t 32)⟩,
   ⟨some 34,none,.off 0 (.t 2)⟩,
   ⟨some 35,none,.ld 1 false (.t 34)⟩,
   ⟨some 36,none,.off 0 (.t 3)⟩,
   ⟨some 37,none,.ld 1 false (.t 36)⟩,
   ⟨some 38,none,.bin .rem (.t 35) (.t 37)⟩,
   ⟨some 6,none,.mov (.t 33)⟩,
   ⟨some 7,none,.mov (.t 38)⟩]) (
 .seq (
 .seq (
 .reg [⟨some 39,none,.mov (.t 7)⟩,
   ⟨some 40,none,.bin .lss (.t 39) (.c (.int .i64 0))⟩]) (
 .cond (.t 40) (
  .reg [⟨some 41,none,.mov (.t 6)⟩,
    ⟨some 42,none,.bin .sub (.t 41) (.c (.int .i64 1))⟩,
    ⟨some 43,none,.mov (.t 7)⟩,
    ⟨some 44,none,.off 0 (.t 3)⟩,
    ⟨some 45,none,.ld 1 false (.t 44)⟩,
    ⟨some 46,none,.bin .add (.t 43) (.t 45)⟩,
    ⟨some 6,none,.mov (.t 42)⟩,
    ⟨some 7,none,.mov (.t 46)⟩]) (
  .skip))) (
 .seq (
 .reg [⟨some 47,none,.mov (.t 6)⟩,
   ⟨some 48,none,.mkagg [.int .i64 0,.nils] [(0,1,(.t 47))]⟩,
   ⟨some 49,none,.mov (.t 7)⟩,
   ⟨some 50,none,.mkagg [.int .i64 0,.nils] [(0,1,(.t 49))]⟩,
   ⟨none,none,.st 2 (.t 4) (.t 48)⟩,
   ⟨none,none,.st 2 (.t 5) (.t 50)⟩]) (
 .ret)))) (
 .skip))) (
.seq (
.reg [⟨some 52,none,.ld 2 true (.t 2)⟩,⟨some 53,none,.call .pure (.c (.fn (.f 136) [] [])) [.t 52]⟩,⟨some 51,none,.mov (.t 53)⟩,⟨some 54,none,.ext 0 (.t 51)⟩,⟨some 55,none,.ext 1 (.t 51)⟩,⟨some 8,none,.mov (.t 54)⟩,⟨some 9,none,.mov (.t 55)⟩]) (
.seq (
.reg [⟨some 57,none,.ld 2 true (.t 3)⟩,⟨some 58,none,.call .pure (.c (.fn (.f 136) [] [])) [.t 57]⟩,⟨some 56,none,.mov (.t 58)⟩,⟨some 59,none,.ext 0 (.t 56)⟩,⟨some 60,none,.ext 1 (.t 56)⟩,⟨some 10,none,.mov (.t 59)⟩,⟨some 11,none,.mov (.t 60)⟩]) (
.seq (
.reg [⟨some 62,none,.mov (.t 9)⟩,⟨some 63,none,.mov (.t 11)⟩,⟨some 64,none,.call .pure (.c (.fn (.f 137) [] [])) [.t 62,.t 63]⟩,⟨some 61,none,.mov (.t 64)⟩,⟨some 65,none,.ext 0 (.t 61)⟩,⟨some 66,none,.ext 1 (.t 61)⟩,⟨some 12,none,.mov (.t 65)⟩,⟨some 13,none,.mov (.t 66)⟩]) (
.seq (
.reg [⟨some 67,none,.mov (.t 8)⟩,⟨some 68,none,.mov (.t 12)⟩,⟨some 69,none,.call .pure (.c (.fn (.f 145) [] [])) [.t 67,.t 68]⟩,⟨some 70,none,.mov (.t 8)⟩,⟨some 71,none,.mov (.t 13)⟩,⟨some 72,none,.call .pure (.c (.fn (.f 145) [] [])) [.t 70,.t 71]⟩,⟨some 14,none,.box 2 (.c (.agg [.int .i64 0,.nils]))⟩,⟨some 15,none,.box 2 (.c (.agg [.int .i64 0,.nils]))⟩,⟨none,none,.st 2 (.t 14) (.t 69)⟩,⟨none,none,.st 2 (.t 15) (.t 72)⟩]) (
.seq (
.seq (
.reg [⟨some 73,none,.ld 2 true (.t 15)⟩,⟨some 74,none,.call .pure (.c (.fn (.f 146) [] [])) [.t 73]⟩,⟨some 75,none,.bin .lss (.t 74) (.c (.int .i64 0))⟩]) (
.cond (.t 75) (
 .reg [⟨some 76,none,.ld 2 true (.t 14)⟩,
   ⟨some 77,none,.call .pure (.c (.fn (.f 117) [] [])) [.c (.int .i64 1)]⟩,
   ⟨some 78,none,.call .pure (.c (.fn (.f 156) [] [])) [.t 76,.t 77]⟩,
   ⟨some 79,none,.ld 2 true (.t 15)⟩,
   ⟨some 80,none,.ld 2 true (.t 3)⟩,
   ⟨some 81,none,.call .pure (.c (.fn (.f 119) [] [])) [.t 79,.t 80]⟩,
   ⟨none,none,.st 2 (.t 14) (.t 78)⟩,
   ⟨none,none,.st 2 (.t 15) (.t 81)⟩]) (
 .skip))) (
.seq (
.reg [⟨some 82,none,.ld 2 true (.t 14)⟩,⟨some 83,none,.ld 2 true (.t 15)⟩,⟨none,none,.std [(2,true,15)] 2 (.t 4) (.t 82)⟩,⟨none,none,.st 2 (.t 5) (.t 83)⟩]) (
.ret))))))))⟩
/- math/bits.Div64 -/
def c165_0 : VC :=
.seq (
.seq (
.reg [⟨some 67,none,.mov (.t 15)⟩,⟨some 68,none,.bin .geq (.t 67) (.c (.int .u64 4294967296))⟩,⟨some 69,none,.mov (.t 68)⟩,⟨some 70,some (69,false),.mov (.t 15)⟩,⟨some 71,some (69,false),.mov (.t 10)⟩,⟨some 72,some (69,false),.bin .mul (.t 70) (.t 71)⟩,⟨some 73,some (69,false),.mov (.t 16)⟩,⟨some 74,some (69,false),.bin .mul (.c (.int .u64 4294967296)) (.t 73)⟩,⟨some 75,some (69,false),.mov (.t 13)⟩,⟨some 76,some (69,false),.bin .add (.t 74) (.t 75)⟩,⟨some 77,some (69,false),.bin .gtr (.t 72) (.t 76)⟩,⟨some 78,none,.pick (.t 69) (.c (.bool true)) (.t 77)⟩]) (
.cond (.t 78) (
 .skip) (
 .exit 0))) (
.blk 1 (
.seq (
.reg [⟨some 79,none,.mov (.t 15)⟩,⟨some 80,none,.bin .sub (.t 79) (.c (.int .u64 1))⟩,⟨some 15,none,.mov (.t 80)⟩]) (
.seq (
.reg [⟨some 81,none,.mov (.t 16)⟩,⟨some 82,none,.mov (.t 9)⟩,⟨some 83,none,.bin .add (.t 81) (.t 82)⟩,⟨some 16,none,.mov (.t 83)⟩]) (
.seq (
.reg [⟨some 84,none,.mov (.t 16)⟩,⟨some 85,none,.bin .geq (.t 84) (.c (.int .u64 4294967296))⟩]) (
.cond (.t 85) (
 .exit 0) (
 .skip))))))
def c165_1 : VC :=
.seq (
.seq (
.reg [⟨some 102,none,.mov (.t 18)⟩,⟨some 103,none,.bin .geq (.t 102) (.c (.int .u64 4294967296))⟩,⟨some 104,none,.mov (.t 103)⟩,⟨some 105,some (104,false),.mov (.t 18)⟩,⟨some 106,some (104,false),.mov (.t 10)⟩,⟨some 107,some (104,false),.bin .mul (.t 105) (.t 106)⟩,⟨some 108,some (104,false),.mov (.t 16)⟩,⟨some 109,some (104,false),.bin .mul (.c (.int .u64 4294967296)) (.t 108)⟩,⟨some 110,some (104,false),.mov (.t 14)⟩,⟨some 111,some (104,false),.bin .add (.t 109) (.t 110)⟩,⟨some 112,some (104,false),.bin .gtr (.t 107) (.t 111)⟩,⟨some 113,none,.pick (.t 104) (.c (.bool true)) (.t 112)⟩]) (
.cond (.t 113) (
 .skip) (
 .exit 2))) (
.blk 3 (
.seq (
.reg [⟨some 114,none,.mov (.t 18)⟩,⟨some 115,none,.bin .sub (.t 114) (.c (.int .u64 1))⟩,⟨some 18,none,.mov (.t 115)⟩]) (
.seq (
.reg [⟨some 116,none,.mov (.t 16)⟩,⟨some 117,none,.mov (.t 9)⟩,⟨some 118,none,.bin .add (.t 116) (.t 117)⟩,⟨some 16,none,.mov (.t 118)⟩]) (
.seq (
.reg [⟨some 119,none,.mov (.t 16)⟩,⟨some 120,none,.bin .geq (.t 119) (.c (.int .u64 4294967296))⟩]) (
.cond (.t 120) (
 .exit 2) (
 .skip))))))
def c165 : Fnc := ⟨[.t 6,.t 7],
.seq (
.reg [⟨some 6,none,.mov (.c (.int .u64 0))⟩,⟨some 7,none,.mov (.c (.int .u64 0))⟩]) (
.seq (
.seq (
.reg [⟨some 19,none,.mov (.t 2)⟩,⟨some 20,none,.bin .eql (.t 19) (.c (.int .u64 0))⟩]) (
.cond (.t 20) (
 .reg [⟨some 21,none,.ld 1 false (.c (.undef))⟩,
   ⟨none,none,.call .pure (.c (.undef)) []⟩]) (
 .skip))) (
.seq (
.seq (
.reg [⟨some 22,none,.mov (.t 2)⟩,⟨some 23,none,.mov (.t 0)⟩,⟨some 24,none,.bin .leq (.t 22) (.t 23)⟩]) (
.cond (.t 24) (
 .reg [⟨some 25,none,.ld 1 false (.c (.undef))⟩,
   ⟨none,none,.call .pure (.c (.undef)) []⟩]) (
 .skip))) (
.seq (
.seq (
.reg [⟨some 26,none,.mov (.t 0)⟩,⟨some 27,none,.bin .eql (.t 26) (.c (.int .u64 0))⟩]) (
.cond (.t 27) (
 .seq (
 .reg [⟨some 28,none,.mov (.t 1)⟩,
   ⟨some 29,none,.mov (.t 2)⟩,
   ⟨some 30,none,.bin .quo (.t 28) (.t 29)⟩,
   ⟨some 31,none,.mov (.t 1)⟩,
   ⟨some 32,none,.mov (.t 2)⟩,
   ⟨some 33,none,.bin .rem (.t 31) (.t 32)⟩,
   ⟨some 6,none,.mov (.t 30)⟩,
   ⟨some 7,none,.mov (.t 33)⟩]) (
 .ret)) (
 .skip))) (
.seq (
.reg [⟨some 34,none,.mov (.t 2)⟩,⟨some 35,none,.call .pure (.c (.fn (.f 167) [] [])) [.t 34]⟩,⟨some 36,none,.cv (.toInt .u64) (.t 35)⟩,⟨some 8,none,.mov (.t 36)⟩]) (
.seq (
.reg [⟨some 37,none,.mov (.t 2)⟩,⟨some 38,none,.mov (.t 8)⟩,⟨some 39,none,.bin .shl (.t 37) (.t 38)⟩,⟨some 2,none,.mov (.t 39)⟩]) (
.seq (
.reg [⟨some 40,none,.mov (.t 2)⟩,⟨some 41,none,.bin .shr (.t 40) (.c (.int .u64 32))⟩,⟨some 9,none,.mov (.t 41)⟩]) (
.seq (
.reg [⟨some 42,none,.mov (.t 2)⟩,⟨some 43,none,.bin .and (.t 42) (.c (.int .u64 4294967295))⟩,⟨some 10,none,.mov (.t 43)⟩]) (
.seq (
.reg [⟨some 44,none,.mov (.t 0)⟩,⟨some 45,none,.mov (.t 8)⟩,⟨some 46,none,.bin .shl (.t 44) (.t 45)⟩,⟨some 47,none,.mov (.t 1)⟩,⟨some 48,none,.mov (.t 8)⟩,⟨some 49,none,.bin .sub (.c (.int .u64 64)) (.t 48)⟩,⟨some 50,none,.bin .shr (.t 47) (.t 49)⟩,⟨some 51,none,.bin .or (.t 46) (.t 50)⟩,⟨some 11,none,.mov (.t 51)⟩]) (
.seq (
.reg [⟨some 52,none,.mov (.t 1)⟩,⟨some 53,none,.mov (.t 8)⟩,⟨some 54,none,.bin .shl (.t 52) (.t 53)⟩,⟨some 12,none,.mov (.t 54)⟩]) (
.seq (
.reg [⟨some 55,none,.mov (.t 12)⟩,⟨some 56,none,.bin .shr (.t 55) (.c (.int .u64 32))⟩,⟨some 13,none,.mov (.t 56)⟩]) (
.seq (
.reg [⟨some 57,none,.mov (.t 12)⟩,⟨some 58,none,.bin .and (.t 57) (.c (.int .u64 4294967295))⟩,⟨some 14,none,.mov (.t 58)⟩]) (
.seq (
.reg [⟨some 59,none,.mov (.t 11)⟩,⟨some 60,none,.mov (.t 9)⟩,⟨some 61,none,.bin .quo (.t 59) (.t 60)⟩,⟨some 15,none,.mov (.t 61)⟩]) (
.seq (
.reg [⟨some 62,none,.mov (.t 11)⟩,⟨some 63,none,.mov (.t 15)⟩,⟨some 64,none,.mov (.t 9)⟩,⟨some 65,none,.bin .mul (.t 63) (.t 64)⟩,⟨some 66,none,.bin .sub (.t 62) (.t 65)⟩,⟨some 16,none,.mov (.t 66)⟩]) (
.seq (
.seq (
.blk 0 (
.loop [2,8,9,10,11,13,14,15,16] c165_0)) (
.kp [2,8,9,10,11,13,14,15])) (
.seq (
.reg [⟨some 86,none,.mov (.t 11)⟩,⟨some 87,none,.bin .mul (.t 86) (.c (.int .u64 4294967296))⟩,⟨some 88,none,.mov (.t 13)⟩,⟨some 89,none,.bin .add (.t 87) (.t 88)⟩,⟨some 90,none,.mov (.t 15)⟩,⟨some 91,none,.mov (.t 2)⟩,⟨some 92,none,.bin .mul (.t 90) (.t 91)⟩,⟨some 93,none,.bin .sub (.t 89) (.t 92)⟩,⟨some 17,none,.mov (.t 93)⟩]) (
.seq (
.reg [⟨some 94,none,.mov (.t 17)⟩,⟨some 95,none,.mov (.t 9)⟩,⟨some 96,none,.bin .quo (.t 94) (.t 95)⟩,⟨some 18,none,.mov (.t 96)⟩]) (
.seq (
.reg [⟨some 97,none,.mov (.t 17)⟩,⟨some 98,none,.mov (.t 18)⟩,⟨some 99,none,.mov (.t 9)⟩,⟨some 100,none,.bin .mul (.t 98) (.t 99)⟩,⟨some 101,none,.bin .sub (.t 97) (.t 100)⟩,⟨some 16,none,.mov (.t 101)⟩]) (
.seq (
.seq (
.blk 2 (
.loop [2,8,9,10,14,15,16,17,18] c165_1)) (
.kp [2,8,14,15,17,18])) (
.seq (
.reg [⟨some 121,none,.mov (.t 15)⟩,⟨some 122,none,.bin .mul (.t 121) (.c (.int .u64 4294967296))⟩,⟨some 123,none,.mov (.t 18)⟩,⟨some 124,none,.bin .add (.t 122) (.t 123)⟩,⟨some 125,none,.mov (.t 17)⟩,⟨some 126,none,.bin .mul (.t 125) (.c (.int .u64 4294967296))⟩,⟨some 127,none,.mov (.t 14)⟩,⟨some 128,none,.bin .add (.t 126) (.t 127)⟩,⟨some 129,none,.mov (.t 18)⟩,⟨some 130,none,.mov (.t 2)⟩,⟨some 131,none,.bin .mul (.t 129) (.t 130)⟩,⟨some 132,none,.bin .sub (.t 128) (.t 131)⟩,⟨some 133,none,.mov (.t 8)⟩,⟨some 134,none,.bin .shr (.t 132) (.t 133)⟩,⟨some 6,none,.mov (.t 124)⟩,⟨some 7,none,.mov (.t 134)⟩]) (
.ret))))))))))))))))))))⟩
/- lenslet/num.trim -/
def c166_0 : VC :=
.seq (
.seq (
.reg [⟨some 6,none,.mov (.t 3)⟩,⟨some 7,none,.bin .gtr (.t 6) (.c (.int .i64 0))⟩,⟨some 8,none,.mov (.t 7)⟩,⟨some 9,some (8,true),.mov (.t 0)⟩,⟨some 10,some (8,true),.mov (.t 3)⟩,⟨some 11,some (8,true),.bin .sub (.t 10) (.c (.int .i64 1))⟩,⟨some 12,some (8,true),.ixa 1 (.t 9) (.t 11)⟩,⟨some 13,some (8,true),.ld 1 false (.t 12)⟩,⟨some 14,some (8,true),.bin .eql (.t 13) (.c (.int .u64 0))⟩,⟨some 15,none,.pick (.t 8) (.t 14) (.c (.bool false))⟩]) (
.cond (.t 15) (
 .skip) (
 .exit 0))) (
.blk 1 (
.reg [⟨some 16,none,.mov (.t 3)⟩,⟨some 17,none,.bin .sub (.t 16) (.c (.int .i64 1))⟩,⟨some 3,none,.mov (.t 17)⟩]))
def c166 : Fnc := ⟨[.t 2],
.seq (
.reg [⟨some 2,none,.mov (.c (.nils))⟩]) (
.seq (
.reg [⟨some 4,none,.mov (.t 0)⟩,⟨some 5,none,.len 1 (.t 4)⟩,⟨some 3,none,.mov (.t 5)⟩]) (
.seq (
.seq (
.blk 0 (
.loop [0,3] c166_0)) (
.kp [0,3])) (
.seq (
.reg [⟨some 18,none,.mov (.t 0)⟩,⟨some 19,none,.mov (.t 3)⟩,⟨some 20,none,.sli (.sl 1) (.t 18) none (some (.t 19))⟩,⟨some 2,none,.mov (.t 20)⟩]) (
.ret))))⟩
/- lenslet/num.shiftUp -/
def c168_0 : VC :=
.seq (
.reg [⟨some 15,none,.bin .lss (.t 14) (.t 13)⟩]) (
.seq (
.cond (.t 15) (
 .skip) (
 .exit 0)) (
.seq (
.blk 1 (
.seq (
.reg [⟨some 16,none,.mov (.t 14)⟩,⟨some 17,none,.ixa 1 (.t 12) (.t 14)⟩,⟨some 18,none,.ld 1 false (.t 17)⟩,⟨some 6,none,.mov (.t 16)⟩,⟨some 7,none,.mov (.t 18)⟩]) (
.seq (
.reg [⟨some 19,none,.mov (.t 5)⟩,⟨some 20,none,.mov (.t 6)⟩,⟨some 21,none,.ixa 1 (.t 19) (.t 20)⟩,⟨some 22,none,.ld 1 false (.t 21)⟩,⟨some 23,none,.mov (.t 7)⟩,⟨some 24,none,.mov (.t 1)⟩,⟨some 25,none,.bin .shl (.t 23) (.t 24)⟩,⟨some 26,none,.bin .or (.t 22) (.t 25)⟩,⟨some 27,none,.ixa 1 (.t 19) (.t 20)⟩,⟨none,none,.st 1 (.t 27) (.t 26)⟩]) (
.seq (
.reg [⟨some 28,none,.mov (.t 1)⟩,⟨some 29,none,.bin .gtr (.t 28) (.c (.int .i64 0))⟩]) (
.cond (.t 29) (
 .reg [⟨some 30,none,.mov (.t 5)⟩,
   ⟨some 31,none,.mov (.t 6)⟩,
   ⟨some 32,none,.bin .add (.t 31) (.c (.int .i64 1))⟩,
   ⟨some 33,none,.mov (.t 7)⟩,
   ⟨some 34,none,.mov (.t 1)⟩,
   ⟨some 35,none,.bin .sub (.c (.int .i64 64)) (.t 34)⟩,
   ⟨some 36,none,.bin .shr (.t 33) (.t 35)⟩,
   ⟨some 37,none,.ixa 1 (.t 30) (.t 32)⟩,
   ⟨none,none,.st 1 (.t 37) (.t 36)⟩]) (
 .skip)))))) (
.reg [⟨some 38,none,.bin .add (.t 14) (.c (.int .i64 1))⟩,⟨some 14,none,.mov (.t 38)⟩])))
def c168 : Fnc := ⟨[.t 4],
.seq (
.reg [⟨some 4,none,.mov (.c (.nils))⟩]) (
.seq (
.reg [⟨some 8,none,.mov (.t 0)⟩,⟨some 9,none,.len 1 (.t 8)⟩,⟨some 10,none,.bin .add (.t 9) (.c (.int .i64 1))⟩,⟨some 11,none,.mks 1 8 [.int .u64 0] (.t 10) (.t 10)⟩,⟨some 5,none,.mov (.t 11)⟩]) (
.seq (
.seq (
.reg [⟨some 12,none,.mov (.t 0)⟩,⟨some 13,none,.len 1 (.t 12)⟩,⟨some 14,none,.mov (.c (.int .i64 0))⟩]) (
.seq (
.blk 0 (
.loop [1,5,12,13,14] c168_0)) (
.kp [5]))) (
.seq (
.reg [⟨some 39,none,.mov (.t 5)⟩,⟨some 4,none,.mov (.t 39)⟩]) (
.ret))))⟩
/- lenslet/num.step -/
def c169_0 : VC :=
.seq (
.seq (
.reg [⟨some 63,none,.mov (.t 8)⟩,⟨some 64,none,.bin .eql (.t 63) (.c (.int .u64 0))⟩]) (
.cond (.t 64) (
 .skip) (
 .exit 0))) (
.blk 1 (
.seq (
.reg [⟨some 66,none,.mov (.t 6)⟩,⟨some 67,none,.mov (.t 1)⟩,⟨some 68,none,.mov (.t 5)⟩,⟨some 69,none,.bin .sub (.t 68) (.c (.int .i64 2))⟩,⟨some 70,none,.ixa 1 (.t 67) (.t 69)⟩,⟨some 71,none,.ld 1 false (.t 70)⟩,⟨some 72,none,.call .pure (.c (.fn (.f 143) [] [])) [.t 66,.t 71]⟩,⟨some 65,none,.mov (.t 72)⟩,⟨some 73,none,.ext 0 (.t 65)⟩,⟨some 74,none,.ext 1 (.t 65)⟩,⟨some 9,none,.mov (.t 73)⟩,⟨some 10,none,.mov (.t 74)⟩]) (
.seq (
.seq (
.reg [⟨some 75,none,.mov (.t 9)⟩,⟨some 76,none,.mov (.t 7)⟩,⟨some 77,none,.bin .lss (.t 75) (.t 76)⟩,⟨some 78,none,.mov (.t 77)⟩,⟨some 79,some (78,false),.mov (.t 9)⟩,⟨some 80,some (78,false),.mov (.t 7)⟩,⟨some 81,some (78,false),.bin .eql (.t 79) (.t 80)⟩,⟨some 82,some (78,false),.mov (.t 81)⟩,⟨some 83,some (82,true),.mov (.t 10)⟩,⟨some 84,some (82,true),.mov (.t 0)⟩,⟨some 85,some (82,true),.mov (.t 5)⟩,⟨some 86,some (82,true),.bin .sub (.t 85) (.c (.int .i64 2))⟩,⟨some 87,some (82,true),.ixa 1 (.t 84) (.t 86)⟩,⟨some 88,some (82,true),.ld 1 false (.t 87)⟩,⟨some 89,some (82,true),.bin .leq (.t 83) (.t 88)⟩,⟨some 90,some (78,false),.pick (.t 82) (.t 89) (.c (.bool false))⟩,⟨some 91,none,.pick (.t 78) (.c (.bool true)) (.t 90)⟩]) (
.cond (.t 91) (
 .exit 0) (
 .skip))) (
.seq (
.reg [⟨some 92,none,.mov (.t 6)⟩,⟨some 93,none,.bin .sub (.t 92) (.c (.int .u64 1))⟩,⟨some 6,none,.mov (.t 93)⟩]) (
.reg [⟨some 95,none,.mov (.t 7)⟩,⟨some 96,none,.mov (.t 1)⟩,⟨some 97,none,.mov (.t 5)⟩,⟨some 98,none,.bin .sub (.t 97) (.c (.int .i64 1))⟩,⟨some 99,none,.ixa 1 (.t 96) (.t 98)⟩,⟨some 100,none,.ld 1 false (.t 99)⟩,⟨some 101,none,.call .pure (.c (.fn (.f 171) [] [])) [.t 95,.t 100,.c (.int .u64 0)]⟩,⟨some 94,none,.mov (.t 101)⟩,⟨some 102,none,.ext 0 (.t 94)⟩,⟨some 103,none,.ext 1 (.t 94)⟩,⟨some 7,none,.mov (.t 102)⟩,⟨some 8,none,.mov (.t 103)⟩])))))
def c169_1 : VC :=
.seq (
.reg [⟨some 106,none,.bin .lss (.t 105) (.t 104)⟩]) (
.seq (
.cond (.t 106) (
 .skip) (
 .exit 2)) (
.seq (
.blk 3 (
.seq (
.reg [⟨some 107,none,.mov (.t 105)⟩,⟨some 13,none,.mov (.t 107)⟩]) (
.seq (
.reg [⟨some 109,none,.mov (.t 6)⟩,⟨some 110,none,.mov (.t 1)⟩,⟨some 111,none,.mov (.t 13)⟩,⟨some 112,none,.ixa 1 (.t 110) (.t 111)⟩,⟨some 113,none,.ld 1 false (.t 112)⟩,⟨some 114,none,.call .pure (.c (.fn (.f 143) [] [])) [.t 109,.t 113]⟩,⟨some 108,none,.mov (.t 114)⟩,⟨some 115,none,.ext 0 (.t 108)⟩,⟨some 116,none,.ext 1 (.t 108)⟩,⟨some 14,none,.mov (.t 115)⟩,⟨some 15,none,.mov (.t 116)⟩]) (
.seq (
.reg [⟨some 16,none,.mov (.c (.int .u64 0))⟩]) (
.seq (
.reg [⟨some 118,none,.mov (.t 15)⟩,⟨some 119,none,.mov (.t 12)⟩,⟨some 120,none,.call .pure (.c (.fn (.f 171) [] [])) [.t 118,.t 119,.c (.int .u64 0)]⟩,⟨some 117,none,.mov (.t 120)⟩,⟨some 121,none,.ext 0 (.t 117)⟩,⟨some 122,none,.ext 1 (.t 117)⟩,⟨some 15,none,.mov (.t 121)⟩,⟨some 16,none,.mov (.t 122)⟩]) (
.seq (
.reg [⟨some 123,none,.mov (.t 14)⟩,⟨some 124,none,.mov (.t 16)⟩,⟨some 125,none,.bin .add (.t 123) (.t 124)⟩,⟨some 12,none,.mov (.t 125)⟩]) (
.reg [⟨some 127,none,.mov (.t 0)⟩,⟨some 128,none,.mov (.t 13)⟩,⟨some 129,none,.mov (.t 0)⟩,⟨some 130,none,.mov (.t 13)⟩,⟨some 131,none,.ixa 1 (.t 129) (.t 130)⟩,⟨some 132,none,.ld 1 false (.t 131)⟩,⟨some 133,none,.mov (.t 15)⟩,⟨some 134,none,.mov (.t 11)⟩,⟨some 135,none,.call .pure (.c (.fn (.f 173) [] [])) [.t 132,.t 133,.t 134]⟩,⟨some 126,none,.mov (.t 135)⟩,⟨some 136,none,.ext 0 (.t 126)⟩,⟨some 137,none,.ext 1 (.t 126)⟩,⟨some 138,none,.ixa 1 (.t 127) (.t 128)⟩,⟨none,none,.st 1 (.t 138) (.t 136)⟩,⟨some 11,none,.mov (.t 137)⟩]))))))) (
.reg [⟨some 139,none,.bin .add (.t 105) (.c (.int .i64 1))⟩,⟨some 105,none,.mov (.t 139)⟩])))
def c169_2 : VC :=
.seq (
.reg [⟨some 158,none,.bin .lss (.t 157) (.t 156)⟩]) (
.seq (
.cond (.t 158) (
 .skip) (
 .exit 4)) (
.seq (
.blk 5 (
.seq (
.reg [⟨some 159,none,.mov (.t 157)⟩,⟨some 18,none,.mov (.t 159)⟩]) (
.reg [⟨some 161,none,.mov (.t 0)⟩,⟨some 162,none,.mov (.t 18)⟩,⟨some 163,none,.mov (.t 0)⟩,⟨some 164,none,.mov (.t 18)⟩,⟨some 165,none,.ixa 1 (.t 163) (.t 164)⟩,⟨some 166,none,.ld 1 false (.t 165)⟩,⟨some 167,none,.mov (.t 1)⟩,⟨some 168,none,.mov (.t 18)⟩,⟨some 169,none,.ixa 1 (.t 167) (.t 168)⟩,⟨some 170,none,.ld 1 false (.t 169)⟩,⟨some 171,none,.mov (.t 17)⟩,⟨some 172,none,.call .pure (.c (.fn (.f 171) [] [])) [.t 166,.t 170,.t 171]⟩,⟨some 160,none,.mov (.t 172)⟩,⟨some 173,none,.ext 0 (.t 160)⟩,⟨some 174,none,.ext 1 (.t 160)⟩,⟨some 175,none,.ixa 1 (.t 161) (.t 162)⟩,⟨none,none,.st 1 (.t 175) (.t 173)⟩,⟨some 17,none,.mov (.t 174)⟩]))) (
.reg [⟨some 176,none,.bin .add (.t 157) (.c (.int .i64 1))⟩,⟨some 157,none,.mov (.t 176)⟩])))
def c169 : Fnc := ⟨[.t 4],
.seq (
.reg [⟨some 4,none,.mov (.c (.int .u64 0))⟩]) (
.seq (
.reg [⟨some 19,none,.mov (.t 1)⟩,⟨some 20,none,.len 1 (.t 19)⟩,⟨some 5,none,.mov (.t 20)⟩]) (
.seq (
.reg [⟨some 6,none,.mov (.c (.int .u64 0))⟩,⟨some 7,none,.mov (.c (.int .u64 0))⟩]) (
.seq (
.reg [⟨some 8,none,.mov (.c (.int .u64 0))⟩]) (
.seq (
.seq (
.reg [⟨some 21,none,.mov (.t 0)⟩,⟨some 22,none,.mov (.t 5)⟩,⟨some 23,none,.ixa 1 (.t 21) (.t 22)⟩,⟨some 24,none,.ld 1 false (.t 23)⟩,⟨some 25,none,.mov (.t 1)⟩,⟨some 26,none,.mov (.t 5)⟩,⟨some 27,none,.bin .sub (.t 26) (.c (.int .i64 1))⟩,⟨some 28,none,.ixa 1 (.t 25) (.t 27)⟩,⟨some 29,none,.ld 1 false (.t 28)⟩,⟨some 30,none,.bin .geq (.t 24) (.t 29)⟩]) (
.cond (.t 30) (
 .seq (
 .reg [⟨some 6,none,.mov (.c (.int .u64 18446744073709551615))⟩]) (
 .reg [⟨some 32,none,.mov (.t 0)⟩,
   ⟨some 33,none,.mov (.t 5)⟩,
   ⟨some 34,none,.bin .sub (.t 33) (.c (.int .i64 1))⟩,
   ⟨some 35,none,.ixa 1 (.t 32) (.t 34)⟩,
   ⟨some 36,none,.ld 1 false (.t 35)⟩,
   ⟨some 37,none,.mov (.t 1)⟩,
   ⟨some 38,none,.mov (.t 5)⟩,
   ⟨some 39,none,.bin .sub (.t 38) (.c (.int .i64 1))⟩,
   ⟨some 40,none,.ixa 1 (.t 37) (.t 39)⟩,
   ⟨some 41,none,.ld 1 false (.t 40)⟩,
   ⟨some 42,none,.call .pure (.c (.fn (.f 171) [] [])) [.t 36,.t 41,.c (.int .u64 0)]⟩,
   ⟨some 31,none,.mov (.t 42)⟩,
   ⟨some 43,none,.ext 0 (.t 31)⟩,
   ⟨some 44,none,.ext 1 (.t 31)⟩,
   ⟨some 7,none,.mov (.t 43)⟩,
   ⟨some 8,none,.mov (.t 44)⟩])) (
 .reg [⟨some 46,none,.mov (.t 0)⟩,
   ⟨some 47,none,.mov (.t 5)⟩,
   ⟨some 48,none,.ixa 1 (.t 46) (.t 47)⟩,
   ⟨some 49,none,.ld 1 false (.t 48)⟩,
   ⟨some 50,none,.mov (.t 0)⟩,
   ⟨some 51,none,.mov (.t 5)⟩,
   ⟨some 52,none,.bin .sub (.t 51) (.c (.int .i64 1))⟩,
   ⟨some 53,none,.ixa 1 (.t 50) (.t 52)⟩,
   ⟨some 54,none,.ld 1 false (.t 53)⟩,
   ⟨some 55,none,.mov (.t 1)⟩,
   ⟨some 56,none,.mov (.t 5)⟩,
   ⟨some 57,none,.bin .sub (.t 56) (.c (.int .i64 1))⟩,
   ⟨some 58,none,.ixa 1 (.t 55) (.t 57)⟩,
   ⟨some 59,none,.ld 1 false (.t 58)⟩,
   ⟨some 60,none,.call .pure (.c (.fn (.f 165) [] [])) [.t 49,.t 54,.t 59]⟩,
   ⟨some 45,none,.mov (.t 60)⟩,
   ⟨some 61,none,.ext 0 (.t 45)⟩,
   ⟨some 62,none,.ext 1 (.t 45)⟩,
   ⟨some 6,none,.mov (.t 61)⟩,
   ⟨some 7,none,.mov (.t 62)⟩]))) (
.seq (
.seq (
.blk 0 (
.loop [0,1,5,6,7,8] c169_0)) (
.kp [0,1,5,6])) (
.seq (
.reg [⟨some 11,none,.mov (.c (.int .u64 0))⟩,⟨some 12,none,.mov (.c (.int .u64 0))⟩]) (
.seq (
.seq (
.reg [⟨some 104,none,.mov (.t 5)⟩,⟨some 105,none,.mov (.c (.int .i64 0))⟩]) (
.seq (
.blk 2 (
.loop [0,1,5,6,11,12,104,105] c169_1)) (
.kp [0,1,5,6,11,12]))) (
.seq (
.reg [⟨some 141,none,.mov (.t 0)⟩,⟨some 142,none,.mov (.t 5)⟩,⟨some 143,none,.mov (.t 0)⟩,⟨some 144,none,.mov (.t 5)⟩,⟨some 145,none,.ixa 1 (.t 143) (.t 144)⟩,⟨some 146,none,.ld 1 false (.t 145)⟩,⟨some 147,none,.mov (.t 12)⟩,⟨some 148,none,.mov (.t 11)⟩,⟨some 149,none,.call .pure (.c (.fn (.f 173) [] [])) [.t 146,.t 147,.t 148]⟩,⟨some 140,none,.mov (.t 149)⟩,⟨some 150,none,.ext 0 (.t 140)⟩,⟨some 151,none,.ext 1 (.t 140)⟩,⟨some 152,none,.ixa 1 (.t 141) (.t 142)⟩,⟨none,none,.st 1 (.t 152) (.t 150)⟩,⟨some 11,none,.mov (.t 151)⟩]) (
.seq (
.seq (
.reg [⟨some 153,none,.mov (.t 11)⟩,⟨some 154,none,.bin .eql (.t 153) (.c (.int .u64 0))⟩]) (
.cond (.t 154) (
 .seq (
 .reg [⟨some 155,none,.mov (.t 6)⟩,
   ⟨some 4,none,.mov (.t 155)⟩]) (
 .ret)) (
 .skip))) (
.seq (
.reg [⟨some 17,none,.mov (.c (.int .u64 0))⟩]) (
.seq (
.seq (
.reg [⟨some 156,none,.mov (.t 5)⟩,⟨some 157,none,.mov (.c (.int .i64 0))⟩]) (
.seq (
.blk 4 (
.loop [0,1,5,6,17,156,157] c169_2)) (
.kp [0,5,6,17]))) (
.seq (
.reg [⟨some 177,none,.mov (.t 0)⟩,⟨some 178,none,.mov (.t 5)⟩,⟨some 179,none,.ixa 1 (.t 177) (.t 178)⟩,⟨some 180,none,.ld 1 false (.t 179)⟩,⟨some 181,none,.mov (.t 17)⟩,⟨some 182,none,.bin .add (.t 180) (.t 181)⟩,⟨some 183,none,.ixa 1 (.t 177) (.t 178)⟩,⟨none,none,.st 1 (.t 183) (.t 182)⟩]) (
.seq (
.reg [⟨some 184,none,.mov (.t 6)⟩,⟨some 185,none,.bin .sub (.t 184) (.c (.int .u64 1))⟩,⟨some 4,none,.mov (.t 185)⟩]) (
.ret))))))))))))))⟩
/- (*strings.Builder).copyCheck -/
def c170 : Fnc := ⟨[],
.seq (
.reg [⟨some 2,none,.mov (.t 0)⟩,⟨some 3,none,.nilc (.t 2)⟩,⟨some 4,none,.off 0 (.t 3)⟩,⟨some 5,none,.ld 1 false (.t 4)⟩,⟨some 6,none,.call .pure (.c (.undef)) []⟩]) (
.cond (.t 6) (
 .reg [⟨some 7,none,.mov (.t 0)⟩,
   ⟨some 8,none,.mov (.t 0)⟩,
   ⟨some 9,none,.call .pure (.c (.undef)) []⟩,
   ⟨some 10,none,.call .pure (.c (.fn (.f 174) [] [])) [.t 9]⟩,
   ⟨some 11,none,.call .pure (.c (.undef)) []⟩,
   ⟨some 12,none,.nilc (.t 7)⟩,
   ⟨some 13,none,.off 0 (.t 12)⟩,
   ⟨none,none,.st 1 (.t 13) (.t 11)⟩]) (
 .seq (
 .reg [⟨some 14,none,.mov (.t 0)⟩,
   ⟨some 15,none,.nilc (.t 14)⟩,
   ⟨some 16,none,.off 0 (.t 15)⟩,
   ⟨some 17,none,.ld 1 false (.t 16)⟩,
   ⟨some 18,none,.mov (.t 0)⟩,
   ⟨some 19,none,.call .pure (.c (.undef)) []⟩]) (
 .cond (.t 19) (
  .reg [⟨none,none,.call .pure (.c (.undef)) []⟩]) (
  .skip))))⟩
/- (lenslet/num.Int).Bits -/
def c172 : Fnc := ⟨[.t 2],
.seq (
.reg [⟨some 1,none,.box 2 (.t 0)⟩,⟨some 2,none,.mov (.c (.int .i64 0))⟩]) (
.seq (
.reg [⟨some 6,none,.ld 2 true (.t 1)⟩,⟨some 7,none,.call .pure (.c (.fn (.f 136) [] [])) [.t 6]⟩,⟨some 5,none,.mov (.t 7)⟩,⟨some 8,none,.ext 0 (.t 5)⟩,⟨some 9,none,.ext 1 (.t 5)⟩,⟨some 3,none,.mov (.t 8)⟩,⟨some 4,none,.mov (.t 9)⟩]) (
.seq (
.seq (
.reg [⟨some 10,none,.mov (.t 4)⟩,⟨some 11,none,.len 1 (.t 10)⟩,⟨some 12,none,.bin .eql (.t 11) (.c (.int .i64 0))⟩]) (
.cond (.t 12) (
 .seq (
 .reg [⟨some 2,none,.mov (.c (.int .i64 0))⟩]) (
 .ret)) (
 .skip))) (
.seq (
.reg [⟨some 13,none,.mov (.t 4)⟩,⟨some 14,none,.len 1 (.t 13)⟩,⟨some 15,none,.bin .sub (.t 14) (.c (.int .i64 1))⟩,⟨some 16,none,.bin .mul (.c (.int .i64 64)) (.t 15)⟩,⟨some 17,none,.mov (.t 4)⟩,⟨some 18,none,.mov (.t 4)⟩,⟨some 19,none,.len 1 (.t 18)⟩,⟨some 20,none,.bin .sub (.t 19) (.c (.int .i64 1))⟩,⟨some 21,none,.ixa 1 (.t 17) (.t 20)⟩,⟨some 22,none,.ld 1 false (.t 21)⟩,⟨some 23,none,.call .pure (.c (.fn (.f 175) [] [])) [.t 22]⟩,⟨some 24,none,.bin .add (.t 16) (.t 23)⟩,⟨some 2,none,.mov (.t 24)⟩]) (
.ret))))⟩
end VE
