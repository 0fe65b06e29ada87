import Derived.Test.YtknmjihnfgolpaaGreatDoorTas
import Derived.Test.YtknmjihnfgolpaaGreatDoorTaa
import Derived.Test.YtknmjihnfgolpaaGreatDoorTao
set_option linter.all false
set_option maxRecDepth 100000
section
namespace VE
def zH3:VC:=
.seq (
.seq (
.reg [qm 4 3,qm 5 0,qn 6 1 5,qT 7 4 6]) (
.cond (.t 7) (
 .skip) (
 .exit 0))) (
.seq (
.blk 1 (
.seq (
.reg [qm 10 0,qm 11 3,qi 12 1 10 11,ql 13 1 12,qN 14 13 0]) (
.cond (.t 14) (
 .seq (
 .reg [qm 15 0,qm 16 3,qi 17 1 15 16,ql 18 1 17,qm 2 18]) (
 .ret)) (
 .skip)))) (
.reg [qm 8 3,qa 9 8 1,qm 3 9]))
def zPO:Fnc:=⟨[.t 2],
.seq (
.reg [qk 2 0]) (
.seq (
.seq (
.reg [qk 3 0]) (
.seq (
.blk 0 (
.loop [0,3] zH3)) (
.kp []))) (
.seq (
.reg [qk 2 0]) (
.ret)))⟩
def zBL:Fnc:=⟨[.t 8],
.seq (
.reg [qf 8]) (
.seq (
.seq (
.reg [qm 9 2,qN 10 9 0]) (
.cond (.t 10) (
 .seq (
 .reg [qm 11 0,qE 12 11 0,qm 13 12,Rt 14 13 (.mov (.t 1)),Rt 15 13 (.mov (.t 2)),Rt 16 13 (.bin .eql (.t 14) (.t 15)),qq 17 13 16,qm 8 17]) (
 .ret)) (
 .skip))) (
.seq (
.reg [qm 18 1,qE 19 18 0,qm 20 19,Rt 21 20 (.mov (.t 0)),Rt 22 20 (.mov (.t 3)),Rt 23 20 (.bin .eql (.t 21) (.t 22)),qq 24 20 23,qm 8 24]) (
.ret)))⟩
def zxB:Fnc:=⟨[.t 8],
.seq (
.reg [qf 8]) (
.seq (
.seq (
.reg [qm 9 2,qE 10 9 0]) (
.cond (.t 10) (
 .reg [qm 11 3,qc1 12 269 11,qm 2 12]) (
 .skip))) (
.seq (
.seq (
.reg [qm 13 2,qN 14 13 0]) (
.cond (.t 14) (
 .seq (
 .reg [qm 15 0,Rq 16 (.bin .eql (.t 15) (.c (.str []))),qm 17 16,Rt 18 17 (.mov (.t 1)),Rt 19 17 (.mov (.t 2)),Rt 20 17 (.bin .eql (.t 18) (.t 19)),qq 21 17 20,qm 8 21]) (
 .ret)) (
 .skip))) (
.seq (
.reg [qm 22 1,qE 23 22 0,qm 24 23,Rt 25 24 (.mov (.t 0)),Rt 26 24 (.mov (.t 3)),Rt 27 24 (.bin .eql (.t 25) (.t 26)),qq 28 24 27,qm 8 28]) (
.ret))))⟩
def zo4:Fnc:=⟨[.t 4],
.seq (
.reg [qf 4]) (
.seq (
.seq (
.reg [qc0 16 179,Rq 17 (.un .not (.t 16)),qm 18 17,Rf 19 18 (.mov (.t 0)),Rf 20 18 (.len 0 (.t 19)),Rf 21 18 (.bin .gtr (.t 20) (.c (.int .i64 1300))),qp 22 18 21,qm 23 22,Rf 24 23 (.mov (.t 1)),Rf 25 23 (.len 0 (.t 24)),Rf 26 23 (.bin .gtr (.t 25) (.c (.int .i64 1300))),qp 27 23 26]) (
.cond (.t 27) (
 .seq (
 .reg [qc0 28 179,qm 4 28]) (
 .ret)) (
 .skip))) (
.seq (
.reg [qm 29 0,qc1 30 263 29,qm 31 1,qc1 32 263 31,Rq 33 (.mksl 2 1 [.int .i64 0,.int .i64 0] [(0,1,(.t 30)),(1,1,(.t 32))]),qc1 34 415 33,qm 5 34]) (
.seq (
.seq (
.reg [qm 35 0,qc1 36 86 35,qm 37 0,qc1 38 263 37,Rq 39 (.bin .neq (.t 36) (.t 38))]) (
.cond (.t 39) (
 .seq (
 .reg [qf 4]) (
 .ret)) (
 .skip))) (
.seq (
.reg [qm 41 0,qm 42 1,qc2 43 473 41 42,qm 40 43,qe 44 0 40,qe 45 1 40,qm 6 44,qm 7 45]) (
.seq (
.reg [qm 47 0,qm 48 1,qc2 49 474 47 48,qm 46 49,qe 50 0 46,qe 51 1 46,qm 8 50,qm 9 51]) (
.seq (
.reg [qm 53 0,qm 54 1,qc2 55 475 53 54,qm 52 55,qe 56 0 52,qe 57 1 52,qm 10 56,qm 11 57]) (
.seq (
.reg [qm 59 0,qm 60 1,qc2 61 476 59 60,qm 58 61,qe 62 0 58,qe 63 1 58,qm 12 62,qm 13 63]) (
.seq (
.reg [qm 65 0,qm 66 1,qc2 67 477 65 66,qm 64 67,qe 68 0 64,qe 69 1 64,qm 14 68,qm 15 69]) (
.seq (
.seq (
.reg [qm 70 5,qN 71 70 0]) (
.cond (.t 71) (
 .seq (
 .reg [qm 72 6,qm 73 7,qm 74 5,Rq 75 (.call .pure (.c (.fn (.f 460) [] [])) [(.t 72),(.t 73),(.t 74),(.c (.str []))]),qm 76 75,Rt 77 76 (.mov (.t 8)),Rt 78 76 (.mov (.t 9)),Rt 79 76 (.mov (.t 5)),Rt 80 76 (.call .pure (.c (.fn (.f 460) [] [])) [(.t 77),(.t 78),(.t 79),(.c (.str []))]),qq 81 76 80,qm 82 81,Rt 83 82 (.mov (.t 10)),Rt 84 82 (.mov (.t 11)),Rt 85 82 (.mov (.t 5)),Rt 86 82 (.call .pure (.c (.fn (.f 460) [] [])) [(.t 83),(.t 84),(.t 85),(.c (.str []))]),qq 87 82 86,qm 88 87,Rt 89 88 (.mov (.t 12)),Rt 90 88 (.mov (.t 13)),Rt 91 88 (.mov (.t 5)),Rt 92 88 (.call .pure (.c (.fn (.f 460) [] [])) [(.t 89),(.t 90),(.t 91),(.c (.str []))]),qq 93 88 92,qm 94 93,Rt 95 94 (.mov (.t 14)),Rt 96 94 (.mov (.t 15)),Rt 97 94 (.mov (.t 5)),Rt 98 94 (.call .pure (.c (.fn (.f 440) [] [])) [(.t 95),(.t 96),(.t 97),(.c (.int .i64 0))]),qq 99 94 98,qm 4 99]) (
 .ret)) (
 .skip))) (
.seq (
.seq (
.reg [qm 100 6,qm 101 7,qm 102 0,qm 103 1,qc2 104 264 102 103,Rq 105 (.call .pure (.c (.fn (.f 460) [] [])) [(.t 100),(.t 101),(.c (.int .i64 0)),(.t 104)]),Rq 106 (.un .not (.t 105)),qm 107 106,Rf 108 107 (.mov (.t 8)),Rf 109 107 (.mov (.t 9)),Rf 110 107 (.mov (.t 0)),Rf 111 107 (.mov (.t 1)),Rf 112 107 (.call .pure (.c (.fn (.f 271) [] [])) [(.t 110),(.t 111)]),Rf 113 107 (.call .pure (.c (.fn (.f 460) [] [])) [(.t 108),(.t 109),(.c (.int .i64 0)),(.t 112)]),Rf 114 107 (.un .not (.t 113)),qp 115 107 114,qm 116 115,Rf 117 116 (.mov (.t 10)),Rf 118 116 (.mov (.t 11)),Rf 119 116 (.mov (.t 0)),Rf 120 116 (.mov (.t 1)),Rf 121 116 (.call .pure (.c (.fn (.f 267) [] [])) [(.t 119),(.t 120)]),Rf 122 116 (.call .pure (.c (.fn (.f 460) [] [])) [(.t 117),(.t 118),(.c (.int .i64 0)),(.t 121)]),Rf 123 116 (.un .not (.t 122)),qp 124 116 123,qm 125 124,Rf 126 125 (.mov (.t 14)),Rf 127 125 (.mov (.t 15)),Rf 128 125 (.mov (.t 0)),Rf 129 125 (.mov (.t 1)),Rf 130 125 (.call .pure (.c (.fn (.f 315) [] [])) [(.t 128),(.t 129)]),Rf 131 125 (.call .pure (.c (.fn (.f 440) [] [])) [(.t 126),(.t 127),(.c (.int .i64 0)),(.t 130)]),Rf 132 125 (.un .not (.t 131)),qp 133 125 132]) (
.cond (.t 133) (
 .seq (
 .reg [qf 4]) (
 .ret)) (
 .skip))) (
.seq (
.seq (
.reg [qm 134 1,qc1 135 355 134]) (
.cond (.t 135) (
 .seq (
 .reg [qm 136 12,qm 137 13,Rq 138 (.call .pure (.c (.fn (.f 460) [] [])) [(.t 136),(.t 137),(.c (.int .i64 6)),(.c (.str []))]),qm 4 138]) (
 .ret)) (
 .skip))) (
.seq (
.reg [qm 139 12,qm 140 13,qm 141 0,qm 142 1,qc2 143 266 141 142,Rq 144 (.call .pure (.c (.fn (.f 460) [] [])) [(.t 139),(.t 140),(.c (.int .i64 0)),(.t 143)]),qm 4 144]) (
.ret)))))))))))))⟩
def zMO:Fnc:=⟨[.t 4,.t 5],
.seq (
.reg [Rq 4 (.mov (.c (.str []))),qk 5 0]) (
.seq (
.reg [qm 6 0,qm 7 1,Rq 8 (.call .pure (.c (.fn (.f 478) [] [])) [(.t 6),(.t 7),(.c (.fn (.f 74) [] []))]),qe 9 0 8,qe 10 1 8,qm 4 9,qm 5 10]) (
.ret))⟩
def zM0:Fnc:=⟨[.t 4,.t 5],
.seq (
.reg [Rq 4 (.mov (.c (.str []))),qk 5 0]) (
.seq (
.reg [qm 6 0,qm 7 1,Rq 8 (.call .pure (.c (.fn (.f 478) [] [])) [(.t 6),(.t 7),(.c (.fn (.f 50) [] []))]),qe 9 0 8,qe 10 1 8,qm 4 9,qm 5 10]) (
.ret))⟩
def zIJ:Fnc:=⟨[.t 4,.t 5],
.seq (
.reg [Rq 4 (.mov (.c (.str []))),qk 5 0]) (
.seq (
.reg [qm 6 0,qm 7 1,Rq 8 (.call .pure (.c (.fn (.f 478) [] [])) [(.t 6),(.t 7),(.c (.fn (.f 49) [] []))]),qe 9 0 8,qe 10 1 8,qm 4 9,qm 5 10]) (
.ret))⟩
def zCH:Fnc:=⟨[.t 4,.t 5],
.seq (
.reg [Rq 4 (.mov (.c (.str []))),qk 5 0]) (
.seq (
.seq (
.reg [qm 7 0,qm 8 1,Rq 9 (.mksl 2 1 [.str [],.str []] [(0,1,(.t 7)),(1,1,(.t 8))]),qc1 10 161 9,qm 11 1,Rq 12 (.bin .eql (.t 11) (.c (.str [48]))),Rq 13 (.call .pure (.c (.fn (.f 124) [] [])) [(.t 12),(.c (.int .i64 6))]),Rq 14 (.mksl 2 1 [.int .i64 0,.int .i64 0] [(0,1,(.t 10)),(1,1,(.t 13))]),qc1 15 125 14,qm 6 15]) (
.seq (
.reg [qm 16 6,qN 17 16 0]) (
.cond (.t 17) (
 .seq (
 .reg [qm 18 6,Rq 4 (.mov (.c (.str []))),qm 5 18]) (
 .ret)) (
 .skip)))) (
.seq (
.reg [qm 19 0,qm 20 1,Rq 21 (.call .pure (.c (.fn (.f 478) [] [])) [(.t 19),(.t 20),(.c (.fn (.f 70) [] []))]),qe 22 0 21,qe 23 1 21,qm 4 22,qm 5 23]) (
.ret)))⟩
def zCQ:Fnc:=⟨[.t 4,.t 5],
.seq (
.reg [qk 4 0,qk 5 0]) (
.seq (
.seq (
.reg [qm 7 0,qm 8 1,Rq 9 (.mksl 2 1 [.str [],.str []] [(0,1,(.t 7)),(1,1,(.t 8))]),qc1 10 161 9,qm 6 10]) (
.seq (
.reg [qm 11 6,qN 12 11 0]) (
.cond (.t 12) (
 .seq (
 .reg [qm 13 6,qk 4 0,qm 5 13]) (
 .ret)) (
 .skip)))) (
.seq (
.reg [qm 14 0,qc1 15 62 14,qm 16 1,qc1 17 62 16,qc2 18 71 15 17,qm 4 18,qk 5 0]) (
.ret)))⟩
def zvW:Fnc:=⟨[.t 6,.t 7],
.seq (
.reg [Rq 6 (.mov (.c (.str []))),qk 7 0]) (
.seq (
.seq (
.reg [qm 9 0,qm 10 1,Rq 11 (.mksl 2 1 [.str [],.str []] [(0,1,(.t 9)),(1,1,(.t 10))]),qc1 12 161 11,qm 8 12]) (
.seq (
.reg [qm 13 8,qN 14 13 0]) (
.cond (.t 14) (
 .seq (
 .reg [qm 15 8,Rq 6 (.mov (.c (.str []))),qm 7 15]) (
 .ret)) (
 .skip)))) (
.seq (
.reg [qm 16 2,qm 17 0,qc1 18 62 17,qm 19 1,qc1 20 62 19,Rq 21 (.call .pure (.t 16) [(.t 18),(.t 20)]),qc1 22 208 21,qe 23 0 22,qe 24 1 22,qm 6 23,qm 7 24]) (
.ret)))⟩
end VE
end
section
namespace VE
inductive Tr (α:Type) where
 | l
 | n (k:Nat) (v:α) (a b:Tr α)
def Tr.find {α:Type}:Tr α→Nat→Option α
 | .l,_=>none
 | .n k v a b,i=>bif Nat.beq i k then some v else bif Nat.blt i k then a.find i else b.find i
end VE
end
section
namespace VE
open Go (IntKind FloatKind)
def zrv:IntKind→Nat
 | .i8=>0 | .i16=>1 | .i32=>2 | .i64=>3 | .u8=>4 | .u16=>5 | .u32=>6 | .u64=>7
def eqI:Int→Int→Bool
 | .ofNat a,.ofNat b=>Nat.beq a b
 | .negSucc a,.negSucc b=>Nat.beq a b
 | _,_=>false
def eqB:Bool→Bool→Bool
 | true,true | false,false=>true
 | _,_=>false
def eqF:FloatKind→FloatKind→Bool
 | .f32,.f32 | .f64,.f64=>true
 | _,_=>false
mutual
def eqD:AV→AV→Bool
 | .int k a,.int k' b=>Nat.beq (zrv k) (zrv k')&&eqI a b
 | .bool a,.bool b=>eqB a b
 | .flt k a,.flt k' b=>eqF k k'&&Nat.beq a b
 | .str a,.str b=>eqL a b
 | .nilp,.nilp=>true
 | .vptr a,.vptr b=>zgD a b
 | .nils,.nils=>true
 | .vsl e n a,.vsl e' n' b=>eqB e e'&&(Nat.beq n n'&&zgD a b)
 | .fsl e s n a,.fsl e' s' n' b=>eqB e e'&&(Nat.beq s s'&&(Nat.beq n n'&&zgD a b))
 | .fn (.f g) a b,.fn (.f g') a' b'=>Nat.beq g g'&&(zgD a a'&&zgD b b')
 | .nilf,.nilf=>true
 | .nilm,.nilm=>true
 | .vmap a b,.vmap a' b'=>zgD a a'&&zgD b b'
 | .agg a,.agg b=>zgD a b
 | .tup a,.tup b=>zgD a b
 | .undef,.undef=>true
 | _,_=>false
def zgD:List AV→List AV→Bool
 | [],[]=>true
 | a::x,b::y=>eqD a b&&zgD x y
 | _,_=>false
end
def hI:Int→Nat
 | .ofNat n=>n
 | .negSucc n=>n+n
def hS:List Nat→Nat
 | []=>1
 | b::r=>(b+257*hS r)%65521
mutual
def hV:AV→Nat
 | .int _ n=>hI n
 | .bool b=>bif b then 1 else 2
 | .flt _ n=>n
 | .str s=>hS s
 | .vsl _ n cs=>n+hL cs
 | .agg cs=>hL cs
 | .tup cs=>hL cs
 | _=>5
def hL:List AV→Nat
 | []=>7
 | v::r=>(hV v+263*hL r)%65521
end
abbrev Te:=Tr (List AV×AV)
abbrev zJ:=List Te
def zgx (h:Nat) (vals:List AV):zJ→Option AV
 | []=>none
 | t::l=>match t.find h with
  | some (a,r)=>bif zgD a vals then some r else zgx h vals l
  | none=>zgx h vals l
def zEf (vals:List AV) (l:zJ):Option AV:=zgx (hL vals) vals l
abbrev Te.o (h:Nat) (a:List AV) (r:AV):Te:= .n h (a,r) .l .l
abbrev Te.m (h:Nat) (a:List AV) (r:AV) (x y:Te):Te:= .n h (a,r) x y
def zgA (n:Nat):List (Tr zJ)→Option zJ
 | []=>none
 | t::r=>match t.find n with
  | none=>zgA n r
  | some l=>match zgA n r with | none=>some l | some m=>some (l++m)
def zCd (L:Lib) (T:List (Tr zJ)) (ex:Nat):Lib:=
 ⟨fun i=>match L.pure i with
  | some sp=>some sp
  | none=>bif Nat.beq i ex then none else match zgA i T with | some l=>some (fun vals=>zEf vals l) | none=>none,L.heap⟩
def zwl (P:zU) (L:Lib) (f:Nat):Te→Bool
 | .l=>true
 | .n _ e x y=>(match evF P L 100000 f e.1 with | some r'=>eqD r' e.2 | none=>false)&&(zwl P L f x&&zwl P L f y)
def zsW (P:zU) (L:Lib) (f:Nat):zJ→Bool
 | []=>true
 | t::l=>zwl P L f t&&zsW P L f l
def zk (P:zU) (L:Lib) (T:List (Tr zJ)):List (Nat×zJ)→Bool
 | []=>true
 | (f,l)::C=>zsW P (zCd L T f) f l&&zk P L T C
end VE
end
section
namespace VE
open Go
theorem zvc {a b:IntKind} (h:Nat.beq (zrv a) (zrv b)=true):a=b:=by
 cases a<;>cases b<;>first | rfl | (exact absurd h (by decide))
theorem zwP {a b:Int} (h:eqI a b=true):a=b:=by
 cases a<;>cases b<;>simp only [eqI,reduceCtorEq] at h<;>rw [Nat.eq_of_beq_eq_true h]
theorem zjG {a b:Bool} (h:eqB a b=true):a=b:=by
 cases a<;>cases b<;>first | rfl | (exact absurd h (by decide))
theorem zy3 {a b:FloatKind} (h:eqF a b=true):a=b:=by
 cases a<;>cases b<;>first | rfl | (exact absurd h (by decide))
mutual
theorem zob:∀(a b:AV),eqD a b=true→a=b
 | .int k a,b,h=>by
  cases b<;>simp only [eqD,Bool.and_eq_true,Bool.false_eq_true] at h
  rw [zvc h.1,zwP h.2]
 | .bool a,b,h=>by
  cases b<;>simp only [eqD,Bool.false_eq_true] at h
  rw [zjG h]
 | .flt k a,b,h=>by
  cases b<;>simp only [eqD,Bool.and_eq_true,Bool.false_eq_true] at h
  rw [zy3 h.1,Nat.eq_of_beq_eq_true h.2]
 | .str a,b,h=>by
  cases b<;>simp only [eqD,Bool.false_eq_true] at h
  rw [zjX h]
 | .nilp,b,h=>by cases b<;>simp only [eqD,Bool.false_eq_true] at h;rfl
 | .ptr _ _,b,h=>by cases b<;>simp only [eqD,Bool.false_eq_true] at h
 | .vptr a,b,h=>by
  cases b<;>simp only [eqD,Bool.false_eq_true] at h
  rw [zbz _ _ h]
 | .nils,b,h=>by cases b<;>simp only [eqD,Bool.false_eq_true] at h;rfl
 | .vsl e n a,b,h=>by
  cases b<;>simp only [eqD,Bool.and_eq_true,Bool.false_eq_true] at h
  rw [zjG h.1,Nat.eq_of_beq_eq_true h.2.1,zbz _ _ h.2.2]
 | .fsl e s n a,b,h=>by
  cases b<;>simp only [eqD,Bool.and_eq_true,Bool.false_eq_true] at h
  rw [zjG h.1,Nat.eq_of_beq_eq_true h.2.1,Nat.eq_of_beq_eq_true h.2.2.1,zbz _ _ h.2.2.2]
 | .osl _ _ _,b,h=>by cases b<;>simp only [eqD,Bool.false_eq_true] at h
 | .fn (.f g) x y,b,h=>by
  cases b<;>try (simp only [eqD,Bool.false_eq_true] at h;done)
  rename_i fr _ _;cases fr<;>simp only [eqD,Bool.and_eq_true,Bool.false_eq_true] at h
  rw [Nat.eq_of_beq_eq_true h.1,zbz _ _ h.2.1,zbz _ _ h.2.2]
 | .fn (.y _) _ _,b,h=>by cases b<;>simp only [eqD,Bool.false_eq_true] at h
 | .nilf,b,h=>by cases b<;>simp only [eqD,Bool.false_eq_true] at h;rfl
 | .nilm,b,h=>by cases b<;>simp only [eqD,Bool.false_eq_true] at h;rfl
 | .map _,b,h=>by cases b<;>simp only [eqD,Bool.false_eq_true] at h
 | .vmap x y,b,h=>by
  cases b<;>simp only [eqD,Bool.and_eq_true,Bool.false_eq_true] at h
  rw [zbz _ _ h.1,zbz _ _ h.2]
 | .it _,b,h=>by cases b<;>simp only [eqD,Bool.false_eq_true] at h
 | .agg a,b,h=>by
  cases b<;>simp only [eqD,Bool.false_eq_true] at h
  rw [zbz _ _ h]
 | .tup a,b,h=>by
  cases b<;>simp only [eqD,Bool.false_eq_true] at h
  rw [zbz _ _ h]
 | .undef,b,h=>by cases b<;>simp only [eqD,Bool.false_eq_true] at h;rfl
theorem zbz:∀(a b:List AV),zgD a b=true→a=b
 | [],b,h=>by cases b<;>simp only [zgD,Bool.false_eq_true] at h;rfl
 | x::a,b,h=>by
  cases b<;>simp only [zgD,Bool.and_eq_true,Bool.false_eq_true] at h
  rw [zob _ _ h.1,zbz _ _ h.2]
end
def Tr.Has {α:Type} (x:α):Tr α→Prop
 | .l=>False
 | .n _ v a b=>v=x∨a.Has x∨b.Has x
theorem Tr.find_has {α:Type} {h:Nat} {x:α}:∀{t:Tr α},t.find h=some x→t.Has x
 | .l,hf=>by simp [Tr.find] at hf
 | .n k v a b,hf=>by
  simp only [Tr.find] at hf
  cases h1:Nat.beq h k with
  | true=>rw [h1] at hf;simp only [cond_true,Option.some.injEq] at hf;exact .inl hf
  | false=>
   rw [h1] at hf;simp only [cond_false] at hf
   cases h2:Nat.blt h k with
   | true=>rw [h2] at hf;exact .inr (.inl (Tr.find_has hf))
   | false=>rw [h2] at hf;exact .inr (.inr (Tr.find_has hf))
def InE (vals:List AV) (r:AV) (l:zJ):Prop:=∃t,t∈l∧t.Has (vals,r)
theorem zkR {h:Nat} {vals:List AV} {r:AV}:∀{l:zJ},zgx h vals l=some r→InE vals r l
 | [],hf=>by simp [zgx] at hf
 | t::l,hf=>by
  have tail:zgx h vals l=some r→InE vals r (t::l):=fun q=>by
   obtain ⟨t',h1,h2⟩:=zkR q;exact ⟨t',List.mem_cons_of_mem _ h1,h2⟩
  simp only [zgx] at hf
  split at hf
  ·rename_i a q he
   cases hb:zgD a vals with
   | true=>
    rw [hb] at hf;simp only [cond_true,Option.some.injEq] at hf;rw [zbz _ _ hb,hf] at he;exact ⟨t,List.mem_cons_self,Tr.find_has he⟩
   | false=>
    rw [hb] at hf;exact tail hf
  ·exact tail hf
theorem zun {vals:List AV} {r:AV} {l:zJ} (h:zEf vals l=some r):InE vals r l:=zkR h
def AllC (Λ:Link) (f:Nat) (l:zJ):Prop:=∀vals r,InE vals r l→PureC Λ f vals r
theorem AllC.nil {Λ:Link} {f:Nat}:AllC Λ f []:=fun _ _ h=>by obtain ⟨t,h,_⟩:=h;cases h
theorem AllC.app {Λ:Link} {f:Nat} {a b:zJ} (ha:AllC Λ f a) (hb:AllC Λ f b):AllC Λ f (a++b):=fun v r h=>by
 obtain ⟨t,h,h2⟩:=h;exact (List.mem_append.1 h).elim (fun h=>ha v r ⟨t,h,h2⟩) (fun h=>hb v r ⟨t,h,h2⟩)
theorem AllC.one {Λ:Link} {f k:Nat} {vals:List AV} {r:AV} (h:PureC Λ f vals r):AllC Λ f [.n k (vals,r) .l .l]:=fun v q hm=>by
 obtain ⟨t,h1,h2⟩:=hm;rcases List.mem_cons.1 h1 with e | e
 ·subst e;rcases h2 with h2 | h2 | h2
  ·injection h2 with e1 e2
   subst e1;subst e2;exact h
  ·exact h2.elim
  ·exact h2.elim
 ·cases e
def Tr.All {α:Type} (p:Nat→α→Prop):Tr α→Prop
 | .l=>True
 | .n k v a b=>p k v∧a.All p∧b.All p
theorem Tr.all_l {α:Type} {p:Nat→α→Prop}:Tr.All p .l:=trivial
theorem Tr.all_n {α:Type} {p:Nat→α→Prop} {k:Nat} {v:α} {a b:Tr α} (h:p k v) (ha:a.All p) (hb:b.All p):Tr.All p (.n k v a b):=⟨h,ha,hb⟩
theorem Tr.all_find {α:Type} {p:Nat→α→Prop} {i:Nat} {v:α}:∀{t:Tr α},t.All p→t.find i=some v→p i v
 | .l,_,h=>by simp [Tr.find] at h
 | .n k w a b,ha,h=>by
  simp only [Tr.find] at h
  cases hb:Nat.beq i k with
  | true=>
   rw [hb] at h;simp only [cond_true,Option.some.injEq] at h;subst h;rw [Nat.eq_of_beq_eq_true hb];exact ha.1
  | false=>
   rw [hb] at h;simp only [cond_false] at h
   cases hc:Nat.blt i k with
   | true=>rw [hc] at h;exact Tr.all_find ha.2.1 h
   | false=>rw [hc] at h;exact Tr.all_find ha.2.2 h
abbrev Link.withLib (Λ:Link) (L:Lib):Link:={Λ with lib:=L}
theorem orel_lib {Λ:Link} {L:Lib} {m:Mp} {S:Nat→Prop} {w:World} {id:Nat} {o:Obj}:zcL (Λ.withLib L) m S w id o↔zcL Λ m S w id o:=by
 cases o<;>exact Iff.rfl
theorem hrel_lib {Λ:Link} {L:Lib} {m:Mp} {S:Nat→Prop} {w:World} {hp:Hp} {ct:Nat}:zS (Λ.withLib L) m S w hp ct↔zS Λ m S w hp ct:=
 ⟨fun h=>⟨fun id o p h1 h2=>orel_lib.1 (h.obj id o p h1 h2),h.lt,h.inj,h.slt,h.blt,h.low,h.good,h.goodS,h.hlt⟩,
  fun h=>⟨fun id o p h1 h2=>orel_lib.2 (h.obj id o p h1 h2),h.lt,h.inj,h.slt,h.blt,h.low,h.good,h.goodS,h.hlt⟩⟩
theorem zlq {Λ:Link} {L:Lib} {n:Nat} {hp:Hp} {ct:Nat} {vals:List AV} {v:AV} {hp':Hp} {ct':Nat} (h:ziR Λ n hp ct vals v hp' ct'):ziR (Λ.withLib L) n hp ct vals v hp' ct':=by
 intro m S w args h1 h2;have post:∀e w',zcQ Λ m S w hp ct v hp' ct' e w'→zcQ (Λ.withLib L) m S w hp ct v hp' ct' e w':=by
  rintro e w' ⟨u,m',S',k1,k2,k3,k4,k5⟩;exact ⟨u,m',S',k1,hrel_lib.2 k2,k3,k4,k5⟩
 exact Invoked.mono (h m S w args (hrel_lib.1 h1) h2) post
def AllT (Λ:Link) (T:List (Tr zJ)):Prop:=∀t,t∈T→t.All (AllC Λ)
theorem AllT.nil {Λ:Link}:AllT Λ []:=fun _ h=>by cases h
theorem AllT.cons {Λ:Link} {t:Tr zJ} {T:List (Tr zJ)} (h:t.All (AllC Λ)) (hT:AllT Λ T):AllT Λ (t::T):=fun u hu=>by
 rcases List.mem_cons.1 hu with e | e
 ·subst e;exact h
 ·exact hT u e
theorem zhO {Λ:Link} {n:Nat}:∀{T:List (Tr zJ)} {l:zJ},AllT Λ T→zgA n T=some l→AllC Λ n l
 | [],_,_,h=>by simp [zgA] at h
 | t::T,l,hT,h=>by
  have hT':AllT Λ T:=fun u hu=>hT u (List.mem_cons_of_mem _ hu)
  simp only [zgA] at h
  split at h
  ·exact zhO hT' h
  ·rename_i l1 h1;have c1:=Tr.all_find (hT t List.mem_cons_self) h1
   split at h
   ·simp only [Option.some.injEq] at h;subst h;exact c1
   ·rename_i m h2;simp only [Option.some.injEq] at h;subst h;exact AllC.app c1 (zhO hT' h2)
theorem zrn {Λ:Link} (hΛ:zaB Λ) {T:List (Tr zJ)} (hT:AllT Λ T) (ex:Nat):zaB (Λ.withLib (zCd Λ.lib T ex)) where
 hint:=hΛ.hint
 mixed:=hΛ.mixed
 prog:=hΛ.prog
 lib n sp vals r h hs:=by
  show PureC Λ n vals r
  simp only [zCd] at h
  cases hl:Λ.lib.pure n with
  | some sp'=>
   simp only [hl,Option.some.injEq] at h;subst h;exact hΛ.lib n _ vals r hl hs
  | none=>
   simp only [hl] at h
   cases hb:Nat.beq n ex with
   | true=>rw [hb] at h;cases h
   | false=>
    rw [hb] at h;simp only [cond_false] at h
    cases hf:zgA n T with
    | none=>simp [hf] at h
    | some l=>
     simp only [hf,Option.some.injEq] at h;subst h;exact zhO hT hf vals r (zun hs)
 libH n sp hp ct vals v hp' ct' h hs:=zlq (hΛ.libH n sp hp ct vals v hp' ct' h hs)
theorem zh5 {Λ:Link} {L:Lib} (hΛ:zaB (Λ.withLib L)) {f:Nat} {vals:List AV} {r:AV}:∀{t:Te},zwl Λ.prog L f t=true→t.Has (vals,r)→PureC Λ f vals r
 | .l,_,h=>h.elim
 | .n k e x y,h,hm=>by
  simp only [zwl,Bool.and_eq_true] at h;rcases hm with e1 | hm | hm
  ·subst e1;have h1:=h.1
   split at h1
   ·rename_i r' hr;have e:r'=r:=zob _ _ h1;rw [←e];exact zw8 hΛ hr
   ·cases h1
  ·exact zh5 hΛ h.2.1 hm
  ·exact zh5 hΛ h.2.2 hm
theorem zjO {Λ:Link} {L:Lib} (hΛ:zaB (Λ.withLib L)) {f:Nat}:∀{l:zJ},zsW Λ.prog L f l=true→AllC Λ f l
 | [],_=>AllC.nil
 | t::l,h=>by
  simp only [zsW,Bool.and_eq_true] at h;intro v q hm;obtain ⟨t',h1,h2⟩:=hm;rcases List.mem_cons.1 h1 with e | e
  ·subst e;exact zh5 hΛ h.1 h2
  ·exact zjO hΛ h.2 v q ⟨t',e,h2⟩
theorem zoF {Λ:Link} (hΛ:zaB Λ) {T:List (Tr zJ)} (hT:AllT Λ T):∀{C:List (Nat×zJ)},zk Λ.prog Λ.lib T C=true→∀f l,(f,l)∈C→AllC Λ f l
 | [],_,f,l,h=>by cases h
 | (g,l')::C,h,f,l,hm=>by
  simp only [zk,Bool.and_eq_true] at h;rcases List.mem_cons.1 hm with e | hm
  ·injection e with e1 e2
   subst e1;subst e2;exact zjO (zrn hΛ hT f) h.1
  ·exact zoF hΛ hT h.2 f l hm
theorem zh {Λ:Link} {P:zU} {L:Lib} (hΛ:zaB Λ) (hp:Λ.prog=P) (hl:Λ.lib=L) {T:List (Tr zJ)} (hT:AllT Λ T) {C:List (Nat×zJ)} (h:zk P L T C=true) (i:Nat) {f:Nat} {l:zJ} (hi:C[i]? =some (f,l)):AllC Λ f l:=by
 subst hp;subst hl;exact zoF hΛ hT h f l (List.mem_of_getElem? hi)
theorem aN {α:Type} {p:Nat→α→Prop} {k:Nat} {v:α} {a b:Tr α} (h:p k v) (ha:a.All p) (hb:b.All p):Tr.All p (.n k v a b):=Tr.all_n h ha hb
theorem aL {α:Type} {p:Nat→α→Prop}:Tr.All p .l:=Tr.all_l
end VE
end
section
namespace VE
open Go
structure HD where
 n:Nat
 live:List (Nat×List Nat)
 out:List (Nat×List Nat)
 mode:List (Nat×Md)
 fz:List (Nat×List Nat)
 deriving Inhabited
def znE {α:Type} (i:Nat):List (Nat×α)→Option α
 | []=>none
 | (j,a)::l=>bif Nat.beq j i then some a else znE i l
def zEp (ren:Nat→Option Nat) (d:HD):zbV where
 n:=d.n
 ren:=ren
 live:=fun l=>match znE l d.live with | some x=>x | none=>[]
 out:=fun l=>znE l d.out
 mode:=fun k=>match znE k d.mode with | some x=>x | none=> .pure
 fz:=fun i=>match znE i d.fz with | some x=>x | none=>[]
def zqr (ren:Tr Nat) (t:Tr HD) (i:Nat):zbV:=zEp ren.find (match t.find i with | some d=>d | none=>⟨0,[],[],[],[]⟩)
def zmG (t:Tr Nat) (i:Nat):Nat:=match t.find i with | some f=>f | none=>0
def znr (fid:Tr Nat):Tr Nat→Bool
 | .l=>true
 | .n f g a b=>Nat.beq (zmG fid g) f&&(znr fid a&&znr fid b)
theorem zgU {fid:Tr Nat}:∀{t:Tr Nat},znr fid t=true→t.All (fun f g=>zmG fid g=f)
 | .l,_=>trivial
 | .n f g a b,h=>by
  simp only [znr,Bool.and_eq_true] at h;exact ⟨Nat.eq_of_beq_eq_true h.1,zgU h.2.1,zgU h.2.2⟩
def zoT (P:Program) (fid:Tr Nat) (ren:Tr Nat) (hd:Tr HD) (i:Nat) (F:Fnc):Prop:=
 ∃fn,P.funcs[zmG fid i]? =some fn∧zhM P (zqr ren hd i) fn=some F∧fn.name≠ "runtime.NumGoroutine"
theorem zum {P:Program} {fid ren:Tr Nat} {hd:Tr HD} {i:Nat} {F:Fnc} (h:(P.funcs[zmG fid i]?).bind (zhM P (zqr ren hd i))=some F) (h2:(P.funcs[zmG fid i]?).map (fun fn=>decide (fn.name= "runtime.NumGoroutine"))=some false):zoT P fid ren hd i F:=by
 unfold zoT
 cases hq:P.funcs[zmG fid i]? with
 | none=>rw [hq] at h;cases h
 | some fn=>
  rw [hq] at h h2;refine ⟨fn,rfl,h,fun e=>?_⟩;simp only [Option.map_some,Option.some.injEq,e,decide_true] at h2;cases h2
end VE
end
