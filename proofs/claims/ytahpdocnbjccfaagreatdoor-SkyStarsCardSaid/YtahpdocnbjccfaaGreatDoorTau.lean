import Derived.Test.YtahpdocnbjccfaaGreatDoorTas
import Derived.Test.YtahpdocnbjccfaaGreatDoorTaa
import Derived.Test.YtahpdocnbjccfaaGreatDoorTao
set_option linter.all false
set_option maxRecDepth 100000
section
namespace VE
def c303:Fnc:=⟨[.t 4],
.seq (
.reg [qb 2 6 0,qb 3 4 1,qf 4]) (
.seq (
.seq (
.reg [qc0 12 1,Rq 13 (.un .not (.t 12)),qm 14 13,Rf 15 14 (.off 0 (.t 2)),Rf 16 14 (.ld 3 true (.t 15)),Rf 17 14 (.call .pure (.c (.fn (.f 304) [] [])) [(.t 16)]),Rf 18 14 (.un .not (.t 17)),qp 19 14 18,qm 20 19,Rf 21 20 (.off 3 (.t 2)),Rf 22 20 (.off 0 (.t 21)),Rf 23 20 (.ld 1 false (.t 22)),Rf 24 20 (.off 3 (.t 2)),Rf 25 20 (.off 1 (.t 24)),Rf 26 20 (.ld 1 false (.t 25)),Rf 27 20 (.off 0 (.t 3)),Rf 28 20 (.ld 1 false (.t 27)),Rf 29 20 (.off 1 (.t 3)),Rf 30 20 (.ld 1 false (.t 29)),Rf 31 20 (.off 2 (.t 3)),Rf 32 20 (.off 0 (.t 31)),Rf 33 20 (.ld 1 false (.t 32)),Rf 34 20 (.off 2 (.t 3)),Rf 35 20 (.off 1 (.t 34)),Rf 36 20 (.ld 1 false (.t 35)),Rf 37 20 (.mksl 6 1 [.str [],.str [],.str [],.str [],.str [],.str []] [(0,1,(.t 23)),(1,1,(.t 26)),(2,1,(.t 28)),(3,1,(.t 30)),(4,1,(.t 33)),(5,1,(.t 36))]),Rf 38 20 (.call .pure (.c (.fn (.f 305) [] [])) [(.t 37)]),Rf 39 20 (.un .not (.t 38)),qp 40 20 39]) (
.cond (.t 40) (
 .seq (
 .reg [qc0 41 1,qm 4 41]) (
 .ret)) (
 .skip))) (
.seq (
.reg [qo 42 0 2,qL 43 3 42,Rq 5 (.box 3 (.c (.agg [.str [],.str [],.str []]))),qs 3 5 43]) (
.seq (
.reg [qL 44 3 5,qc1 45 306 44,qm 6 45]) (
.seq (
.seq (
.reg [qo 46 0 2,qL 47 3 46,qc1 48 60 47,qm 49 6,Rq 50 (.bin .neq (.t 48) (.t 49))]) (
.cond (.t 50) (
 .seq (
 .reg [qf 4]) (
 .ret)) (
 .skip))) (
.seq (
.reg [qo 52 0 2,qL 53 3 52,qo 54 0 3,ql 55 1 54,qo 56 3 2,qL 57 2 56,qc3 58 22 53 55 57,qm 51 58,qe 59 0 51,qe 60 1 51,Rq 7 (.box 2 (.c (.agg [.str [],.str []]))),qs 2 7 59,qm 8 60]) (
.seq (
.reg [qm 61 6,qo 62 0 3,ql 63 1 62,qc1 64 307 63,qo 65 3 2,qL 66 2 65,qc1 67 308 66,Rq 68 (.mksl 3 1 [.int .i64 0,.int .i64 0,.int .i64 0] [(0,1,(.t 61)),(1,1,(.t 64)),(2,1,(.t 67))]),qc1 69 11 68,qm 9 69]) (
.seq (
.seq (
.reg [qm 70 9,qE 71 70 0,qm 72 71,Rt 73 72 (.ld 3 true (.t 5)),Rt 74 72 (.off 0 (.t 3)),Rt 75 72 (.ld 1 false (.t 74)),Rt 76 72 (.call .pure (.c (.fn (.f 309) [] [])) [(.t 73),(.t 75)]),Rt 77 72 (.un .not (.t 76)),qq 78 72 77]) (
.cond (.t 78) (
 .reg [qk 9 31]) (
 .skip))) (
.seq (
.seq (
.reg [qm 79 9,qN 80 79 0,qm 81 80,Rt 82 81 (.ld 2 true (.t 7)),Rt 83 81 (.mov (.t 8)),Rt 84 81 (.mov (.t 9)),Rt 85 81 (.mkagg [.str [],.str []] []),Rt 86 81 (.call .pure (.c (.fn (.f 310) [] [])) [(.t 82),(.t 83),(.t 84),(.t 85)]),Rt 87 81 (.un .not (.t 86)),qq 88 81 87,qm 89 88,Rf 90 89 (.mov (.t 9)),Rf 91 89 (.bin .eql (.t 90) (.c (.int .i64 0))),Rf 92 89 (.mov (.t 91)),Rt 93 92 (.ld 2 true (.t 7)),Rt 94 92 (.mov (.t 8)),Rt 95 92 (.ld 3 true (.t 5)),Rt 96 92 (.off 0 (.t 3)),Rt 97 92 (.ld 1 false (.t 96)),Rt 98 92 (.off 3 (.t 2)),Rt 99 92 (.ld 2 true (.t 98)),Rt 100 92 (.call .pure (.c (.fn (.f 311) [] [])) [(.t 95),(.t 97),(.t 99)]),Rt 101 92 (.call .pure (.c (.fn (.f 310) [] [])) [(.t 93),(.t 94),(.c (.int .i64 0)),(.t 100)]),Rt 102 92 (.un .not (.t 101)),Rf 103 89 (.pick (.t 92) (.t 102) (.c (.bool false))),qp 104 89 103]) (
.cond (.t 104) (
 .seq (
 .reg [qf 4]) (
 .ret)) (
 .skip))) (
.seq (
.reg [qo 106 0 2,qL 107 3 106,qo 108 1 3,ql 109 1 108,qo 110 2 3,qL 111 2 110,qo 112 3 2,qL 113 2 112,qc4 114 25 107 109 111 113,qm 105 114,qe 115 0 105,qe 116 1 105,Rq 10 (.box 2 (.c (.agg [.str [],.str []]))),qs 2 10 115,qm 11 116]) (
.seq (
.seq (
.reg [qm 117 6,qE 118 117 0]) (
.cond (.t 118) (
 .reg [qo 119 2 5,ql 120 1 119,Rq 121 (.bin .eql (.t 120) (.c (.str [48]))),Rq 122 (.call .pure (.c (.fn (.f 13) [] [])) [(.t 121),(.c (.int .i64 13))]),qm 6 122]) (
 .skip))) (
.seq (
.seq (
.reg [qm 123 6,qE 124 123 0]) (
.cond (.t 124) (
 .reg [qL 125 3 5,qo 126 1 3,ql 127 1 126,qc2 128 312 125 127,qo 129 2 3,qL 130 2 129,qc1 131 308 130,qo 132 3 2,qL 133 2 132,qc1 134 308 133,Rq 135 (.mksl 3 1 [.int .i64 0,.int .i64 0,.int .i64 0] [(0,1,(.t 128)),(1,1,(.t 131)),(2,1,(.t 134))]),qc1 136 11 135,qm 6 136]) (
 .skip))) (
.seq (
.seq (
.reg [qm 137 6,qN 138 137 0]) (
.cond (.t 138) (
 .seq (
 .reg [qL 139 2 10,qm 140 11,qm 141 6,Rq 142 (.mkagg [.str [],.str []] []),qc4 143 310 139 140 141 142,qm 4 143]) (
 .ret)) (
 .skip))) (
.seq (
.reg [qL 144 2 10,qm 145 11,qL 146 3 5,qo 147 1 3,ql 148 1 147,qo 149 2 3,qL 150 2 149,qo 151 3 2,qL 152 2 151,qc4 153 313 146 148 150 152,Rq 154 (.call .pure (.c (.fn (.f 310) [] [])) [(.t 144),(.t 145),(.c (.int .i64 0)),(.t 153)]),qm 4 154]) (
.ret))))))))))))))⟩
def zDt:Fnc:=⟨[.t 2],
.seq (
.reg [qb 1 3 0,qf 2]) (
.seq (
.reg [qo 3 0 1,qo 4 0 3,ql 5 1 4,qo 6 0 1,qo 7 1 6,ql 8 1 7,qo 9 2 1,ql 10 1 9,Rq 11 (.mksl 3 1 [.str [],.str [],.str []] [(0,1,(.t 5)),(1,1,(.t 8)),(2,1,(.t 10))]),qc1 12 305 11,qm 2 12]) (
.ret))⟩
def zin:VC:=
.seq (
.seq (
.reg [qm 4 3,qm 5 0,qn 6 1 5,qT 7 4 6]) (
.cond (.t 7) (
 .skip) (
 .exit 0))) (
.seq (
.blk 1 (
.seq (
.reg [qm 10 0,qm 11 3,qi 12 1 10 11,ql 13 1 12,qn 14 0 13,Rq 15 (.bin .gtr (.t 14) (.c (.int .i64 40)))]) (
.cond (.t 15) (
 .seq (
 .reg [qf 2]) (
 .ret)) (
 .skip)))) (
.reg [qm 8 3,qa 9 8 1,qm 3 9]))
def zzT:Fnc:=⟨[.t 2],
.seq (
.reg [qf 2]) (
.seq (
.seq (
.reg [qk 3 0]) (
.seq (
.blk 0 (
.loop [0,3] zin)) (
.kp []))) (
.seq (
.reg [Rq 2 (.mov (.c (.bool true)))]) (
.ret)))⟩
def zEH:Fnc:=⟨[.t 2],
.seq (
.reg [qb 1 3 0,qk 2 0]) (
.seq (
.reg [qo 3 0 1,qL 4 2 3,qc1 5 308 4,qo 6 2 1,ql 7 1 6,qc1 8 307 7,Rq 9 (.mksl 2 1 [.int .i64 0,.int .i64 0] [(0,1,(.t 5)),(1,1,(.t 8))]),qc1 10 42 9,qm 2 10]) (
.ret))⟩
def zDX:Fnc:=⟨[.t 2],
.seq (
.reg [qk 2 0]) (
.seq (
.reg [qm 3 0,Rq 4 (.call .pure (.c (.fn (.f 314) [] [])) [(.t 3),(.c (.int .i64 0))]),qm 2 4]) (
.ret))⟩
def zE0:Fnc:=⟨[.t 2],
.seq (
.reg [qb 1 2 0,qk 2 0]) (
.seq (
.reg [qo 3 0 1,ql 4 1 3,qo 5 1 1,ql 6 1 5,Rq 7 (.mksl 2 1 [.str [],.str []] [(0,1,(.t 4)),(1,1,(.t 6))]),qc1 8 261 7,qm 2 8]) (
.ret))⟩
def zxz:Fnc:=⟨[.t 4],
.seq (
.reg [qb 2 3 0,qf 4]) (
.seq (
.reg [qo 5 2 2,ql 6 1 5,Rq 7 (.bin .eql (.t 6) (.c (.str [48]))),qm 8 7,Rf 9 8 (.mov (.t 1)),Rf 10 8 (.off 2 (.t 2)),Rf 11 8 (.ld 1 false (.t 10)),Rf 12 8 (.call .pure (.c (.fn (.f 315) [] [])) [(.t 9),(.t 11)]),Rf 13 8 (.bin .lss (.t 12) (.c (.int .i64 0))),qp 14 8 13,qm 4 14]) (
.ret))⟩
def zvj:Fnc:=⟨[.t 8],
.seq (
.reg [qb 4 2 0,qb 7 2 3,qf 8]) (
.seq (
.seq (
.reg [qm 9 2,qE 10 9 0]) (
.cond (.t 10) (
 .reg [qo 11 0 7,ql 12 1 11,qo 13 1 7,ql 14 1 13,Rq 15 (.mksl 2 1 [.str [],.str []] [(0,1,(.t 12)),(1,1,(.t 14))]),qc1 16 316 15,qm 2 16]) (
 .skip))) (
.seq (
.seq (
.reg [qm 17 2,qN 18 17 0]) (
.cond (.t 18) (
 .seq (
 .reg [qL 19 2 4,Rq 20 (.mkagg [.str [],.str []] []),Rq 21 (.eq false (.ag [2,2]) (.t 19) (.t 20)),qm 22 21,Rt 23 22 (.mov (.t 1)),Rt 24 22 (.mov (.t 2)),Rt 25 22 (.bin .eql (.t 23) (.t 24)),qq 26 22 25,qm 8 26]) (
 .ret)) (
 .skip))) (
.seq (
.reg [qm 27 1,qE 28 27 0,qm 29 28,Rt 30 29 (.ld 2 true (.t 4)),Rt 31 29 (.ld 2 true (.t 7)),Rt 32 29 (.eq false (.ag [2,2]) (.t 30) (.t 31)),qq 33 29 32,qm 8 33]) (
.ret))))⟩
def zAu:Fnc:=⟨[.cell 6 2 true],
.seq (
.reg [qb 3 3 0,qb 5 2 2,Rq 6 (.box 2 (.c (.agg [.str [],.str []])))]) (
.seq (
.reg [Rq 7 (.mov (.c (.str [49])))]) (
.seq (
.seq (
.reg [qo 8 2 3,ql 9 1 8,Rq 10 (.bin .neq (.t 9) (.c (.str [48])))]) (
.cond (.t 10) (
 .reg [qm 11 1,qo 12 2 3,ql 13 1 12,qc2 14 266 11 13,Rq 15 (.call .pure (.c (.fn (.f 271) [] [])) [(.c (.str [49])),(.t 14)]),qm 7 15]) (
 .skip))) (
.seq (
.reg [qm 16 7,qL 17 2 5,qc2 18 317 16 17,qm 19 1,qo 20 0 3,qL 21 2 20,qc3 22 318 18 19 21,qs 2 6 22]) (
.ret))))⟩
def zwM:Fnc:=⟨[.t 4],
.seq (
.reg [qb 2 3 0,qk 4 0]) (
.seq (
.reg [qm 6 1,Rq 7 (.call .pure (.c (.fn (.f 314) [] [])) [(.t 6),(.c (.int .i64 0))]),qm 5 7]) (
.seq (
.seq (
.reg [qm 8 5,qE 9 8 0,qm 10 9,Rt 11 10 (.mov (.t 1)),Rt 12 10 (.off 2 (.t 2)),Rt 13 10 (.ld 1 false (.t 12)),Rt 14 10 (.call .pure (.c (.fn (.f 267) [] [])) [(.c (.str [50])),(.t 13)]),Rt 15 10 (.call .pure (.c (.fn (.f 315) [] [])) [(.t 11),(.t 14)]),Rt 16 10 (.bin .geq (.t 15) (.c (.int .i64 0))),qq 17 10 16]) (
.cond (.t 17) (
 .reg [qk 5 3]) (
 .skip))) (
.seq (
.reg [qm 18 5,qm 4 18]) (
.ret))))⟩
def zFl:Fnc:=⟨[.cell 8 2 true],
.seq (
.reg [qb 4 3 0,qb 6 2 2,qb 7 2 3,Rq 8 (.box 2 (.c (.agg [.str [],.str []])))]) (
.seq (
.reg [qm 11 1,qc1 12 319 11,qm 9 12]) (
.seq (
.reg [qo 13 2 4,ql 14 1 13,qm 15 9,qc2 16 271 14 15,qc1 17 283 16,qo 18 2 4,ql 19 1 18,qm 20 9,qc2 21 264 19 20,qc1 22 283 21,qc2 23 271 17 22,qm 10 23]) (
.seq (
.reg [qm 24 10,qL 25 2 7,qL 26 2 6,Rq 27 (.call .pure (.c (.fn (.f 318) [] [])) [(.t 25),(.c (.str [45,49])),(.t 26)]),qc2 28 317 24 27,qs 2 8 28]) (
.ret))))⟩
def zuk:Fnc:=⟨[.t 4],
.seq (
.reg [qk 4 0]) (
.seq (
.reg [qm 6 0,qc1 7 263 6,qm 5 7]) (
.seq (
.seq (
.reg [qm 8 5,qE 9 8 0,qm 10 9,Rt 11 10 (.mov (.t 0)),Rt 12 10 (.call .pure (.c (.fn (.f 262) [] [])) [(.t 11)]),Rt 13 10 (.mov (.t 1)),Rt 14 10 (.bin .lss (.t 12) (.t 13)),qq 15 10 14]) (
.cond (.t 15) (
 .reg [qk 5 3]) (
 .skip))) (
.seq (
.reg [qm 16 5,qm 4 16]) (
.ret))))⟩
def zDh:Fnc:=⟨[.t 4],
.seq (
.reg [qk 4 0]) (
.seq (
.reg [qm 5 0,qm 6 1,qc2 7 271 5 6,qc1 8 262 7,qm 4 8]) (
.ret))⟩
def ziy:VC:=
.seq (
.seq (
.reg [qm 4 3,qm 5 0,qn 6 1 5,qT 7 4 6]) (
.cond (.t 7) (
 .skip) (
 .exit 0))) (
.seq (
.blk 1 (
.seq (
.reg [qm 10 0,qm 11 3,qi 12 1 10 11,ql 13 1 12,qc1 14 269 13,qN 15 14 0]) (
.cond (.t 15) (
 .seq (
 .reg [qk 2 4]) (
 .ret)) (
 .skip)))) (
.reg [qm 8 3,qa 9 8 1,qm 3 9]))
def zzz:Fnc:=⟨[.t 2],
.seq (
.reg [qk 2 0]) (
.seq (
.seq (
.reg [qk 3 0]) (
.seq (
.blk 0 (
.loop [0,3] ziy)) (
.kp []))) (
.seq (
.reg [qk 2 0]) (
.ret)))⟩
def zDB:Fnc:=⟨[.cell 4 2 true],
.seq (
.reg [qb 3 2 1,Rq 4 (.box 2 (.c (.agg [.str [],.str []])))]) (
.seq (
.reg [Rq 5 (.mkagg [.str [],.str []] [(0,1,(.c (.str [48]))),(1,1,(.c (.str [48])))]),qm 6 0,qL 7 2 3,qc3 8 318 5 6 7,qs 2 4 8]) (
.ret))⟩
def zCK:Fnc:=⟨[.cell 6 2 true],
.seq (
.reg [qb 3 2 0,qb 5 2 2,Rq 6 (.box 2 (.c (.agg [.str [],.str []])))]) (
.seq (
.reg [qo 7 0 3,ql 8 1 7,qm 9 1,qo 10 0 5,ql 11 1 10,qc2 12 267 9 11,qc2 13 264 8 12,qo 14 1 3,ql 15 1 14,qm 16 1,qo 17 1 5,ql 18 1 17,qc2 19 267 16 18,qc2 20 264 15 19,Rq 21 (.mkagg [.str [],.str []] [(0,1,(.t 13)),(1,1,(.t 20))]),qs 2 6 21]) (
.ret))⟩
def zFu:Fnc:=⟨[.t 2],
.seq (
.reg [Rq 2 (.mov (.c (.str [])))]) (
.seq (
.reg [qm 3 0,Rq 4 (.call .pure (.c (.fn (.f 267) [] [])) [(.t 3),(.c (.str [49,47,50]))]),qm 2 4]) (
.ret))⟩
end VE
end
section
namespace VE
inductive Tr (α:Type) where
 | l
 | n (k:Nat) (v:α) (a b:Tr α)
def Tr.find {α:Type}:Tr α→Nat→Option α
 | .l,_=>none
 | .n k v a b,i=>bif Nat.beq i k then some v else bif Nat.blt i k then a.find i else b.find i
end VE
end
section
namespace VE
open Go (IntKind FloatKind)
def zqU:IntKind→Nat
 | .i8=>0 | .i16=>1 | .i32=>2 | .i64=>3 | .u8=>4 | .u16=>5 | .u32=>6 | .u64=>7
def eqI:Int→Int→Bool
 | .ofNat a,.ofNat b=>Nat.beq a b
 | .negSucc a,.negSucc b=>Nat.beq a b
 | _,_=>false
def eqB:Bool→Bool→Bool
 | true,true | false,false=>true
 | _,_=>false
def eqF:FloatKind→FloatKind→Bool
 | .f32,.f32 | .f64,.f64=>true
 | _,_=>false
mutual
def eqD:AV→AV→Bool
 | .int k a,.int k' b=>Nat.beq (zqU k) (zqU k')&&eqI a b
 | .bool a,.bool b=>eqB a b
 | .flt k a,.flt k' b=>eqF k k'&&Nat.beq a b
 | .str a,.str b=>eqL a b
 | .nilp,.nilp=>true
 | .vptr a,.vptr b=>zgO a b
 | .nils,.nils=>true
 | .vsl e n a,.vsl e' n' b=>eqB e e'&&(Nat.beq n n'&&zgO a b)
 | .fsl e s n a,.fsl e' s' n' b=>eqB e e'&&(Nat.beq s s'&&(Nat.beq n n'&&zgO a b))
 | .fn (.f g) a b,.fn (.f g') a' b'=>Nat.beq g g'&&(zgO a a'&&zgO b b')
 | .nilf,.nilf=>true
 | .nilm,.nilm=>true
 | .vmap a b,.vmap a' b'=>zgO a a'&&zgO b b'
 | .agg a,.agg b=>zgO a b
 | .tup a,.tup b=>zgO a b
 | .undef,.undef=>true
 | _,_=>false
def zgO:List AV→List AV→Bool
 | [],[]=>true
 | a::x,b::y=>eqD a b&&zgO x y
 | _,_=>false
end
def hI:Int→Nat
 | .ofNat n=>n
 | .negSucc n=>n+n
def hS:List Nat→Nat
 | []=>1
 | b::r=>(b+257*hS r)%65521
mutual
def hV:AV→Nat
 | .int _ n=>hI n
 | .bool b=>bif b then 1 else 2
 | .flt _ n=>n
 | .str s=>hS s
 | .vsl _ n cs=>n+hL cs
 | .agg cs=>hL cs
 | .tup cs=>hL cs
 | _=>5
def hL:List AV→Nat
 | []=>7
 | v::r=>(hV v+263*hL r)%65521
end
abbrev Te:=Tr (List AV×AV)
abbrev Ent:=List Te
def zgQ (h:Nat) (vals:List AV):Ent→Option AV
 | []=>none
 | t::l=>match t.find h with
  | some (a,r)=>bif zgO a vals then some r else zgQ h vals l
  | none=>zgQ h vals l
def zBh (vals:List AV) (l:Ent):Option AV:=zgQ (hL vals) vals l
abbrev Te.o (h:Nat) (a:List AV) (r:AV):Te:= .n h (a,r) .l .l
abbrev Te.m (h:Nat) (a:List AV) (r:AV) (x y:Te):Te:= .n h (a,r) x y
def zgN (n:Nat):List (Tr Ent)→Option Ent
 | []=>none
 | t::r=>match t.find n with
  | none=>zgN n r
  | some l=>match zgN n r with | none=>some l | some m=>some (l++m)
def zyT (L:Lib) (T:List (Tr Ent)) (ex:Nat):Lib:=
 ⟨fun i=>match L.pure i with
  | some sp=>some sp
  | none=>bif Nat.beq i ex then none else match zgN i T with | some l=>some (fun vals=>zBh vals l) | none=>none,L.heap⟩
def zuW (P:zP) (L:Lib) (f:Nat):Te→Bool
 | .l=>true
 | .n _ e x y=>(match evF P L 100000 f e.1 with | some r'=>eqD r' e.2 | none=>false)&&(zuW P L f x&&zuW P L f y)
def zrz (P:zP) (L:Lib) (f:Nat):Ent→Bool
 | []=>true
 | t::l=>zuW P L f t&&zrz P L f l
def za1 (P:zP) (L:Lib) (T:List (Tr Ent)):List (Nat×Ent)→Bool
 | []=>true
 | (f,l)::C=>zrz P (zyT L T f) f l&&za1 P L T C
end VE
end
section
namespace VE
open Go
theorem zsH {a b:IntKind} (h:Nat.beq (zqU a) (zqU b)=true):a=b:=by
 cases a<;>cases b<;>first | rfl | (exact absurd h (by decide))
theorem zu3 {a b:Int} (h:eqI a b=true):a=b:=by
 cases a<;>cases b<;>simp only [eqI,reduceCtorEq] at h<;>rw [Nat.eq_of_beq_eq_true h]
theorem zkp {a b:Bool} (h:eqB a b=true):a=b:=by
 cases a<;>cases b<;>first | rfl | (exact absurd h (by decide))
theorem zuh {a b:FloatKind} (h:eqF a b=true):a=b:=by
 cases a<;>cases b<;>first | rfl | (exact absurd h (by decide))
mutual
theorem znv:∀(a b:AV),eqD a b=true→a=b
 | .int k a,b,h=>by
  cases b<;>simp only [eqD,Bool.and_eq_true,Bool.false_eq_true] at h
  rw [zsH h.1,zu3 h.2]
 | .bool a,b,h=>by
  cases b<;>simp only [eqD,Bool.false_eq_true] at h
  rw [zkp h]
 | .flt k a,b,h=>by
  cases b<;>simp only [eqD,Bool.and_eq_true,Bool.false_eq_true] at h
  rw [zuh h.1,Nat.eq_of_beq_eq_true h.2]
 | .str a,b,h=>by
  cases b<;>simp only [eqD,Bool.false_eq_true] at h
  rw [zj9 h]
 | .nilp,b,h=>by cases b<;>simp only [eqD,Bool.false_eq_true] at h;rfl
 | .ptr _ _,b,h=>by cases b<;>simp only [eqD,Bool.false_eq_true] at h
 | .vptr a,b,h=>by
  cases b<;>simp only [eqD,Bool.false_eq_true] at h
  rw [zbB _ _ h]
 | .nils,b,h=>by cases b<;>simp only [eqD,Bool.false_eq_true] at h;rfl
 | .vsl e n a,b,h=>by
  cases b<;>simp only [eqD,Bool.and_eq_true,Bool.false_eq_true] at h
  rw [zkp h.1,Nat.eq_of_beq_eq_true h.2.1,zbB _ _ h.2.2]
 | .fsl e s n a,b,h=>by
  cases b<;>simp only [eqD,Bool.and_eq_true,Bool.false_eq_true] at h
  rw [zkp h.1,Nat.eq_of_beq_eq_true h.2.1,Nat.eq_of_beq_eq_true h.2.2.1,zbB _ _ h.2.2.2]
 | .osl _ _ _,b,h=>by cases b<;>simp only [eqD,Bool.false_eq_true] at h
 | .fn (.f g) x y,b,h=>by
  cases b<;>try (simp only [eqD,Bool.false_eq_true] at h;done)
  rename_i fr _ _
  cases fr<;>simp only [eqD,Bool.and_eq_true,Bool.false_eq_true] at h
  rw [Nat.eq_of_beq_eq_true h.1,zbB _ _ h.2.1,zbB _ _ h.2.2]
 | .fn (.y _) _ _,b,h=>by cases b<;>simp only [eqD,Bool.false_eq_true] at h
 | .nilf,b,h=>by cases b<;>simp only [eqD,Bool.false_eq_true] at h;rfl
 | .nilm,b,h=>by cases b<;>simp only [eqD,Bool.false_eq_true] at h;rfl
 | .map _,b,h=>by cases b<;>simp only [eqD,Bool.false_eq_true] at h
 | .vmap x y,b,h=>by
  cases b<;>simp only [eqD,Bool.and_eq_true,Bool.false_eq_true] at h
  rw [zbB _ _ h.1,zbB _ _ h.2]
 | .it _,b,h=>by cases b<;>simp only [eqD,Bool.false_eq_true] at h
 | .agg a,b,h=>by
  cases b<;>simp only [eqD,Bool.false_eq_true] at h
  rw [zbB _ _ h]
 | .tup a,b,h=>by
  cases b<;>simp only [eqD,Bool.false_eq_true] at h
  rw [zbB _ _ h]
 | .undef,b,h=>by cases b<;>simp only [eqD,Bool.false_eq_true] at h;rfl
theorem zbB:∀(a b:List AV),zgO a b=true→a=b
 | [],b,h=>by cases b<;>simp only [zgO,Bool.false_eq_true] at h;rfl
 | x::a,b,h=>by
  cases b<;>simp only [zgO,Bool.and_eq_true,Bool.false_eq_true] at h
  rw [znv _ _ h.1,zbB _ _ h.2]
end
def Tr.Has {α:Type} (x:α):Tr α→Prop
 | .l=>False
 | .n _ v a b=>v=x∨a.Has x∨b.Has x
theorem Tr.find_has {α:Type} {h:Nat} {x:α}:∀{t:Tr α},t.find h=some x→t.Has x
 | .l,hf=>by simp [Tr.find] at hf
 | .n k v a b,hf=>by
  simp only [Tr.find] at hf
  cases h1:Nat.beq h k with
  | true=>rw [h1] at hf;simp only [cond_true,Option.some.injEq] at hf;exact .inl hf
  | false=>
   rw [h1] at hf
   simp only [cond_false] at hf
   cases h2:Nat.blt h k with
   | true=>rw [h2] at hf;exact .inr (.inl (Tr.find_has hf))
   | false=>rw [h2] at hf;exact .inr (.inr (Tr.find_has hf))
def InE (vals:List AV) (r:AV) (l:Ent):Prop:=∃t,t∈l∧t.Has (vals,r)
theorem zkc {h:Nat} {vals:List AV} {r:AV}:∀{l:Ent},zgQ h vals l=some r→InE vals r l
 | [],hf=>by simp [zgQ] at hf
 | t::l,hf=>by
  have tail:zgQ h vals l=some r→InE vals r (t::l):=fun q=>by
   obtain ⟨t',h1,h2⟩:=zkc q
   exact ⟨t',List.mem_cons_of_mem _ h1,h2⟩
  simp only [zgQ] at hf
  split at hf
  ·rename_i a q he
   cases hb:zgO a vals with
   | true=>
    rw [hb] at hf
    simp only [cond_true,Option.some.injEq] at hf
    rw [zbB _ _ hb,hf] at he
    exact ⟨t,List.mem_cons_self,Tr.find_has he⟩
   | false=>
    rw [hb] at hf
    exact tail hf
  ·exact tail hf
theorem zth {vals:List AV} {r:AV} {l:Ent} (h:zBh vals l=some r):InE vals r l:=zkc h
def AllC (Λ:Link) (f:Nat) (l:Ent):Prop:=∀vals r,InE vals r l→PureC Λ f vals r
theorem AllC.nil {Λ:Link} {f:Nat}:AllC Λ f []:=fun _ _ h=>by obtain ⟨t,h,_⟩:=h;cases h
theorem AllC.app {Λ:Link} {f:Nat} {a b:Ent} (ha:AllC Λ f a) (hb:AllC Λ f b):AllC Λ f (a++b):=fun v r h=>by
 obtain ⟨t,h,h2⟩:=h
 exact (List.mem_append.1 h).elim (fun h=>ha v r ⟨t,h,h2⟩) (fun h=>hb v r ⟨t,h,h2⟩)
theorem AllC.one {Λ:Link} {f k:Nat} {vals:List AV} {r:AV} (h:PureC Λ f vals r):AllC Λ f [.n k (vals,r) .l .l]:=fun v q hm=>by
 obtain ⟨t,h1,h2⟩:=hm
 rcases List.mem_cons.1 h1 with e | e
 ·subst e
  rcases h2 with h2 | h2 | h2
  ·injection h2 with e1 e2
   subst e1;subst e2
   exact h
  ·exact h2.elim
  ·exact h2.elim
 ·cases e
def Tr.All {α:Type} (p:Nat→α→Prop):Tr α→Prop
 | .l=>True
 | .n k v a b=>p k v∧a.All p∧b.All p
theorem Tr.all_l {α:Type} {p:Nat→α→Prop}:Tr.All p .l:=trivial
theorem Tr.all_n {α:Type} {p:Nat→α→Prop} {k:Nat} {v:α} {a b:Tr α} (h:p k v) (ha:a.All p) (hb:b.All p):Tr.All p (.n k v a b):=⟨h,ha,hb⟩
theorem Tr.all_find {α:Type} {p:Nat→α→Prop} {i:Nat} {v:α}:∀{t:Tr α},t.All p→t.find i=some v→p i v
 | .l,_,h=>by simp [Tr.find] at h
 | .n k w a b,ha,h=>by
  simp only [Tr.find] at h
  cases hb:Nat.beq i k with
  | true=>
   rw [hb] at h
   simp only [cond_true,Option.some.injEq] at h
   subst h
   rw [Nat.eq_of_beq_eq_true hb]
   exact ha.1
  | false=>
   rw [hb] at h
   simp only [cond_false] at h
   cases hc:Nat.blt i k with
   | true=>rw [hc] at h;exact Tr.all_find ha.2.1 h
   | false=>rw [hc] at h;exact Tr.all_find ha.2.2 h
abbrev Link.withLib (Λ:Link) (L:Lib):Link:={Λ with lib:=L}
theorem orel_lib {Λ:Link} {L:Lib} {m:Mp} {S:Nat→Prop} {w:World} {id:Nat} {o:Obj}:zcQ (Λ.withLib L) m S w id o↔zcQ Λ m S w id o:=by
 cases o<;>exact Iff.rfl
theorem hrel_lib {Λ:Link} {L:Lib} {m:Mp} {S:Nat→Prop} {w:World} {hp:Hp} {ct:Nat}:zU (Λ.withLib L) m S w hp ct↔zU Λ m S w hp ct:=
 ⟨fun h=>⟨fun id o p h1 h2=>orel_lib.1 (h.obj id o p h1 h2),h.lt,h.inj,h.slt,h.blt,h.low,h.good,h.goodS,h.hlt⟩,
  fun h=>⟨fun id o p h1 h2=>orel_lib.2 (h.obj id o p h1 h2),h.lt,h.inj,h.slt,h.blt,h.low,h.good,h.goodS,h.hlt⟩⟩
theorem zlM {Λ:Link} {L:Lib} {n:Nat} {hp:Hp} {ct:Nat} {vals:List AV} {v:AV} {hp':Hp} {ct':Nat} (h:ziY Λ n hp ct vals v hp' ct'):ziY (Λ.withLib L) n hp ct vals v hp' ct':=by
 intro m S w args h1 h2
 have post:∀e w',zcX Λ m S w hp ct v hp' ct' e w'→zcX (Λ.withLib L) m S w hp ct v hp' ct' e w':=by
  rintro e w' ⟨u,m',S',k1,k2,k3,k4,k5⟩
  exact ⟨u,m',S',k1,hrel_lib.2 k2,k3,k4,k5⟩
 exact Invoked.mono (h m S w args (hrel_lib.1 h1) h2) post
def AllT (Λ:Link) (T:List (Tr Ent)):Prop:=∀t,t∈T→t.All (AllC Λ)
theorem AllT.nil {Λ:Link}:AllT Λ []:=fun _ h=>by cases h
theorem AllT.cons {Λ:Link} {t:Tr Ent} {T:List (Tr Ent)} (h:t.All (AllC Λ)) (hT:AllT Λ T):AllT Λ (t::T):=fun u hu=>by
 rcases List.mem_cons.1 hu with e | e
 ·subst e;exact h
 ·exact hT u e
theorem ziu {Λ:Link} {n:Nat}:∀{T:List (Tr Ent)} {l:Ent},AllT Λ T→zgN n T=some l→AllC Λ n l
 | [],_,_,h=>by simp [zgN] at h
 | t::T,l,hT,h=>by
  have hT':AllT Λ T:=fun u hu=>hT u (List.mem_cons_of_mem _ hu)
  simp only [zgN] at h
  split at h
  ·exact ziu hT' h
  ·rename_i l1 h1
   have c1:=Tr.all_find (hT t List.mem_cons_self) h1
   split at h
   ·simp only [Option.some.injEq] at h
    subst h;exact c1
   ·rename_i m h2
    simp only [Option.some.injEq] at h
    subst h;exact AllC.app c1 (ziu hT' h2)
theorem zqL {Λ:Link} (hΛ:zav Λ) {T:List (Tr Ent)} (hT:AllT Λ T) (ex:Nat):zav (Λ.withLib (zyT Λ.lib T ex)) where
 hint:=hΛ.hint
 mixed:=hΛ.mixed
 prog:=hΛ.prog
 lib n sp vals r h hs:=by
  show PureC Λ n vals r
  simp only [zyT] at h
  cases hl:Λ.lib.pure n with
  | some sp'=>
   simp only [hl,Option.some.injEq] at h
   subst h
   exact hΛ.lib n _ vals r hl hs
  | none=>
   simp only [hl] at h
   cases hb:Nat.beq n ex with
   | true=>rw [hb] at h;cases h
   | false=>
    rw [hb] at h
    simp only [cond_false] at h
    cases hf:zgN n T with
    | none=>simp [hf] at h
    | some l=>
     simp only [hf,Option.some.injEq] at h
     subst h
     exact ziu hT hf vals r (zth hs)
 libH n sp hp ct vals v hp' ct' h hs:=zlM (hΛ.libH n sp hp ct vals v hp' ct' h hs)
theorem ziz {Λ:Link} {L:Lib} (hΛ:zav (Λ.withLib L)) {f:Nat} {vals:List AV} {r:AV}:∀{t:Te},zuW Λ.prog L f t=true→t.Has (vals,r)→PureC Λ f vals r
 | .l,_,h=>h.elim
 | .n k e x y,h,hm=>by
  simp only [zuW,Bool.and_eq_true] at h
  rcases hm with e1 | hm | hm
  ·subst e1
   have h1:=h.1
   split at h1
   ·rename_i r' hr
    have e:r'=r:=znv _ _ h1
    rw [←e]
    exact zxa hΛ hr
   ·cases h1
  ·exact ziz hΛ h.2.1 hm
  ·exact ziz hΛ h.2.2 hm
theorem zkA {Λ:Link} {L:Lib} (hΛ:zav (Λ.withLib L)) {f:Nat}:∀{l:Ent},zrz Λ.prog L f l=true→AllC Λ f l
 | [],_=>AllC.nil
 | t::l,h=>by
  simp only [zrz,Bool.and_eq_true] at h
  intro v q hm
  obtain ⟨t',h1,h2⟩:=hm
  rcases List.mem_cons.1 h1 with e | e
  ·subst e
   exact ziz hΛ h.1 h2
  ·exact zkA hΛ h.2 v q ⟨t',e,h2⟩
theorem zny {Λ:Link} (hΛ:zav Λ) {T:List (Tr Ent)} (hT:AllT Λ T):∀{C:List (Nat×Ent)},za1 Λ.prog Λ.lib T C=true→∀f l,(f,l)∈C→AllC Λ f l
 | [],_,f,l,h=>by cases h
 | (g,l')::C,h,f,l,hm=>by
  simp only [za1,Bool.and_eq_true] at h
  rcases List.mem_cons.1 hm with e | hm
  ·injection e with e1 e2
   subst e1;subst e2
   exact zkA (zqL hΛ hT f) h.1
  ·exact zny hΛ hT h.2 f l hm
theorem za4 {Λ:Link} {P:zP} {L:Lib} (hΛ:zav Λ) (hp:Λ.prog=P) (hl:Λ.lib=L) {T:List (Tr Ent)} (hT:AllT Λ T) {C:List (Nat×Ent)} (h:za1 P L T C=true) (i:Nat) {f:Nat} {l:Ent} (hi:C[i]? =some (f,l)):AllC Λ f l:=by
 subst hp;subst hl
 exact zny hΛ hT h f l (List.mem_of_getElem? hi)
theorem aN {α:Type} {p:Nat→α→Prop} {k:Nat} {v:α} {a b:Tr α} (h:p k v) (ha:a.All p) (hb:b.All p):Tr.All p (.n k v a b):=Tr.all_n h ha hb
theorem aL {α:Type} {p:Nat→α→Prop}:Tr.All p .l:=Tr.all_l
end VE
end
section
namespace VE
open Go
structure HD where
 n:Nat
 live:List (Nat×List Nat)
 out:List (Nat×List Nat)
 mode:List (Nat×Md)
 fz:List (Nat×List Nat)
 deriving Inhabited
def zn7 {α:Type} (i:Nat):List (Nat×α)→Option α
 | []=>none
 | (j,a)::l=>bif Nat.beq j i then some a else zn7 i l
def zCz (ren:Nat→Option Nat) (d:HD):zbU where
 n:=d.n
 ren:=ren
 live:=fun l=>match zn7 l d.live with | some x=>x | none=>[]
 out:=fun l=>zn7 l d.out
 mode:=fun k=>match zn7 k d.mode with | some x=>x | none=> .pure
 fz:=fun i=>match zn7 i d.fz with | some x=>x | none=>[]
def zrm (ren:Tr Nat) (t:Tr HD) (i:Nat):zbU:=zCz ren.find (match t.find i with | some d=>d | none=>⟨0,[],[],[],[]⟩)
def zmO (t:Tr Nat) (i:Nat):Nat:=match t.find i with | some f=>f | none=>0
def znB (fid:Tr Nat):Tr Nat→Bool
 | .l=>true
 | .n f g a b=>Nat.beq (zmO fid g) f&&(znB fid a&&znB fid b)
theorem zgH {fid:Tr Nat}:∀{t:Tr Nat},znB fid t=true→t.All (fun f g=>zmO fid g=f)
 | .l,_=>trivial
 | .n f g a b,h=>by
  simp only [znB,Bool.and_eq_true] at h
  exact ⟨Nat.eq_of_beq_eq_true h.1,zgH h.2.1,zgH h.2.2⟩
def zpa (P:Program) (fid:Tr Nat) (ren:Tr Nat) (hd:Tr HD) (i:Nat) (F:Fnc):Prop:=
 ∃fn,P.funcs[zmO fid i]? =some fn∧ziw P (zrm ren hd i) fn=some F∧fn.name≠ "runtime.NumGoroutine"
theorem zr7 {P:Program} {fid ren:Tr Nat} {hd:Tr HD} {i:Nat} {F:Fnc} (h:(P.funcs[zmO fid i]?).bind (ziw P (zrm ren hd i))=some F) (h2:(P.funcs[zmO fid i]?).map (fun fn=>decide (fn.name= "runtime.NumGoroutine"))=some false):zpa P fid ren hd i F:=by
 unfold zpa
 cases hq:P.funcs[zmO fid i]? with
 | none=>rw [hq] at h;cases h
 | some fn=>
  rw [hq] at h h2
  refine ⟨fn,rfl,h,fun e=>?_⟩
  simp only [Option.map_some,Option.some.injEq,e,decide_true] at h2
  cases h2
end VE
end
