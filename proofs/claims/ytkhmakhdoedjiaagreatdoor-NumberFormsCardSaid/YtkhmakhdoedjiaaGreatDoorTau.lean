import Derived.Test.YtkhmakhdoedjiaaGreatDoorProg
import Derived.KernelRfl
import Derived.Test.YtkhmakhdoedjiaaGreatDoorTas
import Derived.Test.YtkhmakhdoedjiaaGreatDoorTaa
import Derived.Test.YtkhmakhdoedjiaaGreatDoorTao
set_option linter.all false
set_option maxRecDepth 100000
section
namespace VE
def zoY:Fnc:=⟨[.t 8],
.seq (
.reg [qf 8]) (
.seq (
.seq (
.reg [qm 9 2,qE 10 9 0]) (
.cond (.t 10) (
 .reg [qm 11 3,qc1 12 269 11,qm 2 12]) (
 .skip))) (
.seq (
.seq (
.reg [qm 13 2,qN 14 13 0]) (
.cond (.t 14) (
 .seq (
 .reg [qm 15 0,Rq 16 (.bin .eql (.t 15) (.c (.str []))),qm 17 16,Rt 18 17 (.mov (.t 1)),Rt 19 17 (.mov (.t 2)),Rt 20 17 (.bin .eql (.t 18) (.t 19)),qq 21 17 20,qm 8 21]) (
 .ret)) (
 .skip))) (
.seq (
.reg [qm 22 1,qE 23 22 0,qm 24 23,Rt 25 24 (.mov (.t 0)),Rt 26 24 (.mov (.t 3)),Rt 27 24 (.bin .eql (.t 25) (.t 26)),qq 28 24 27,qm 8 28]) (
.ret))))⟩
def ziX:Fnc:=⟨[.t 6],
.seq (
.reg [qb 4 2 1,qf 6]) (
.seq (
.seq (
.reg [qc0 12 179,Rq 13 (.un .not (.t 12)),qm 14 13,Rf 15 14 (.mov (.t 0)),Rf 16 14 (.len 0 (.t 15)),Rf 17 14 (.bin .gtr (.t 16) (.c (.int .i64 1300))),qp 18 14 17,qm 19 18,Rf 20 19 (.mov (.t 2)),Rf 21 19 (.len 0 (.t 20)),Rf 22 19 (.bin .gtr (.t 21) (.c (.int .i64 1300))),qp 23 19 22,qm 24 23,Rf 25 24 (.ixp 2 1 (.t 4) (.c (.int .i64 0))),Rf 26 24 (.ld 1 false (.t 25)),Rf 27 24 (.bin .lss (.t 26) (.c (.int .i64 (-999999999)))),qp 28 24 27,qm 29 28,Rf 30 29 (.ixp 2 1 (.t 4) (.c (.int .i64 0))),Rf 31 29 (.ld 1 false (.t 30)),Rf 32 29 (.bin .gtr (.t 31) (.c (.int .i64 999999999))),qp 33 29 32,qm 34 33,Rf 35 34 (.ixp 2 1 (.t 4) (.c (.int .i64 1))),Rf 36 34 (.ld 1 false (.t 35)),Rf 37 34 (.bin .lss (.t 36) (.c (.int .i64 (-999999999)))),qp 38 34 37,qm 39 38,Rf 40 39 (.ixp 2 1 (.t 4) (.c (.int .i64 1))),Rf 41 39 (.ld 1 false (.t 40)),Rf 42 39 (.bin .gtr (.t 41) (.c (.int .i64 999999999))),qp 43 39 42]) (
.cond (.t 43) (
 .seq (
 .reg [qc0 44 179,qm 6 44]) (
 .ret)) (
 .skip))) (
.seq (
.reg [Rq 46 (.ixp 2 1 (.t 4) (.c (.int .i64 0))),ql 47 1 46,Rq 48 (.ixp 2 1 (.t 4) (.c (.int .i64 1))),ql 49 1 48,qc2 50 185 47 49,qm 45 50,qe 51 0 45,qe 52 1 45,qm 7 51,qm 8 52]) (
.seq (
.reg [qm 54 2,qc1 55 186 54,qm 53 55,qe 56 0 53,qe 57 1 53,qm 9 56,qm 10 57]) (
.seq (
.seq (
.reg [qm 58 0,qc1 59 469 58,qm 60 0,qc1 61 470 60,Rq 62 (.eq true .b (.t 59) (.t 61))]) (
.cond (.t 62) (
 .seq (
 .reg [qf 6]) (
 .ret)) (
 .skip))) (
.seq (
.seq (
.reg [Rq 63 (.ixp 2 1 (.t 4) (.c (.int .i64 1))),ql 64 1 63,qE 65 64 0]) (
.cond (.t 65) (
 .seq (
 .reg [qm 66 7,qm 67 8,Rq 68 (.call .pure (.c (.fn (.f 460) [] [])) [(.t 66),(.t 67),(.c (.int .i64 6)),(.c (.str []))]),Rq 69 (.un .not (.t 68))]) (
 .cond (.t 69) (
 .seq (
 .reg [qf 6]) (
 .ret)) (
 .skip))) (
 .seq (
 .reg [qm 70 7,qm 71 8,Rq 72 (.ixp 2 1 (.t 4) (.c (.int .i64 0))),ql 73 1 72,Rq 74 (.ixp 2 1 (.t 4) (.c (.int .i64 1))),ql 75 1 74,qc2 76 277 73 75,Rq 77 (.call .pure (.c (.fn (.f 460) [] [])) [(.t 70),(.t 71),(.c (.int .i64 0)),(.t 76)]),Rq 78 (.un .not (.t 77))]) (
 .cond (.t 78) (
 .seq (
 .reg [qf 6]) (
 .ret)) (
 .skip))))) (
.seq (
.reg [qm 79 2,qc1 80 263 79,qm 11 80]) (
.seq (
.seq (
.reg [qm 81 11,qN 82 81 0]) (
.cond (.t 82) (
 .seq (
 .reg [qm 83 9,qm 84 10,qm 85 11,Rq 86 (.call .pure (.c (.fn (.f 460) [] [])) [(.t 83),(.t 84),(.t 85),(.c (.str []))]),qm 6 86]) (
 .ret)) (
 .skip))) (
.seq (
.reg [qm 87 9,qm 88 10,qm 89 2,qc1 90 336 89,Rq 91 (.call .pure (.c (.fn (.f 460) [] [])) [(.t 87),(.t 88),(.c (.int .i64 0)),(.t 90)]),qm 6 91]) (
.ret)))))))))⟩
def zep:VC:=
.seq (
.reg [Rq 7 (.nxt (.t 6)),qe 8 0 7]) (
.seq (
.cond (.t 8) (
 .skip) (
 .exit 0)) (
.blk 1 (
.seq (
.reg [qe 9 1 7,qe 10 2 7,qm 3 9,qm 4 10]) (
.seq (
.reg [qm 11 4,qc1 12 471 11,Rq 13 (.un .not (.t 12)),qm 14 13,Rt 15 14 (.mov (.t 3)),Rt 16 14 (.bin .eql (.t 15) (.c (.int .i64 0))),Rt 17 14 (.mov (.t 16)),Rf 18 17 (.mov (.t 4)),Rf 19 17 (.bin .neq (.t 18) (.c (.int .i32 95))),Rf 20 17 (.mov (.t 19)),Rt 21 20 (.mov (.t 4)),Rt 22 20 (.bin .lss (.t 21) (.c (.int .i32 48))),Rt 23 20 (.mov (.t 22)),Rf 24 23 (.mov (.t 4)),Rf 25 23 (.bin .gtr (.t 24) (.c (.int .i32 57))),Rt 26 20 (.pick (.t 23) (.c (.bool true)) (.t 25)),Rf 27 17 (.pick (.t 20) (.t 26) (.c (.bool false))),Rt 28 14 (.pick (.t 17) (.c (.bool true)) (.t 27)),qq 29 14 28]) (
.cond (.t 29) (
 .seq (
 .reg [qf 2]) (
 .ret)) (
 .skip))))))
def zAc:Fnc:=⟨[.t 2],
.seq (
.reg [qf 2]) (
.seq (
.seq (
.reg [qm 5 0,Rq 6 (.rng (.t 5))]) (
.seq (
.blk 0 (
.loop [0,6] zep)) (
.kp [0]))) (
.seq (
.reg [qm 30 0,Rq 31 (.bin .neq (.t 30) (.c (.str []))),qm 32 31,Rt 33 32 (.mov (.t 0)),Rt 34 32 (.len 0 (.t 33)),Rt 35 32 (.bin .leq (.t 34) (.c (.int .i64 24))),qq 36 32 35,qm 2 36]) (
.ret)))⟩
def zcf:VC:=
.seq (
.seq (
.reg [qm 14 3,qm 15 0,qn 16 0 15,qT 17 14 16]) (
.cond (.t 17) (
 .skip) (
 .exit 0))) (
.seq (
.blk 1 (
.seq (
.reg [qm 20 0,qm 21 3,Rq 22 (.ixs (.t 20) (.t 21)),qm 4 22]) (
.seq (
.reg [qm 23 4,Rq 24 (.bin .geq (.t 23) (.c (.int .u8 97))),qm 25 24,Rt 26 25 (.mov (.t 4)),Rt 27 25 (.bin .leq (.t 26) (.c (.int .u8 122))),qq 28 25 27,qm 29 28,Rf 30 29 (.mov (.t 4)),Rf 31 29 (.bin .geq (.t 30) (.c (.int .u8 65))),Rf 32 29 (.mov (.t 31)),Rt 33 32 (.mov (.t 4)),Rt 34 32 (.bin .leq (.t 33) (.c (.int .u8 90))),Rf 35 29 (.pick (.t 32) (.t 34) (.c (.bool false))),qp 36 29 35,qm 5 36]) (
.seq (
.reg [qm 37 5,Rq 38 (.un .not (.t 37)),qm 39 38,Rt 40 39 (.mov (.t 3)),Rt 41 39 (.bin .eql (.t 40) (.c (.int .i64 0))),Rt 42 39 (.mov (.t 41)),Rf 43 42 (.mov (.t 4)),Rf 44 42 (.bin .geq (.t 43) (.c (.int .u8 48))),Rf 45 42 (.mov (.t 44)),Rt 46 45 (.mov (.t 4)),Rt 47 45 (.bin .leq (.t 46) (.c (.int .u8 57))),Rf 48 42 (.pick (.t 45) (.t 47) (.c (.bool false))),Rf 49 42 (.mov (.t 48)),Rf 50 49 (.mov (.t 4)),Rf 51 49 (.bin .eql (.t 50) (.c (.int .u8 95))),Rf 52 42 (.pick (.t 49) (.c (.bool true)) (.t 51)),Rf 53 42 (.un .not (.t 52)),Rt 54 39 (.pick (.t 42) (.c (.bool true)) (.t 53)),qq 55 39 54]) (
.cond (.t 55) (
 .seq (
 .reg [qf 2]) (
 .ret)) (
 .skip)))))) (
.reg [qm 18 3,qa 19 18 1,qm 3 19]))
def zu9:Fnc:=⟨[.t 2],
.seq (
.reg [qf 2]) (
.seq (
.seq (
.reg [qm 6 0,qn 7 0 6,Rq 8 (.bin .lss (.t 7) (.c (.int .i64 1))),qm 9 8,Rf 10 9 (.mov (.t 0)),Rf 11 9 (.len 0 (.t 10)),Rf 12 9 (.bin .gtr (.t 11) (.c (.int .i64 24))),qp 13 9 12]) (
.cond (.t 13) (
 .seq (
 .reg [qf 2]) (
 .ret)) (
 .skip))) (
.seq (
.seq (
.reg [qk 3 0]) (
.seq (
.blk 0 (
.loop [0,3] zcf)) (
.kp []))) (
.seq (
.reg [Rq 2 (.mov (.c (.bool true)))]) (
.ret))))⟩
def zmL:Fnc:=⟨[.t 2],
.seq (
.reg [qf 2]) (
.seq (
.reg [qm 3 0,Rq 4 (.bin .geq (.t 3) (.c (.int .i32 97))),qm 5 4,Rt 6 5 (.mov (.t 0)),Rt 7 5 (.bin .leq (.t 6) (.c (.int .i32 122))),qq 8 5 7,qm 9 8,Rf 10 9 (.mov (.t 0)),Rf 11 9 (.bin .geq (.t 10) (.c (.int .i32 65))),Rf 12 9 (.mov (.t 11)),Rt 13 12 (.mov (.t 0)),Rt 14 12 (.bin .leq (.t 13) (.c (.int .i32 90))),Rf 15 9 (.pick (.t 12) (.t 14) (.c (.bool false))),qp 16 9 15,qm 2 16]) (
.ret))⟩
end VE
end
section
namespace VE
inductive Tr (α:Type) where
 | l
 | n (k:Nat) (v:α) (a b:Tr α)
def Tr.find {α:Type}:Tr α→Nat→Option α
 | .l,_=>none
 | .n k v a b,i=>bif Nat.beq i k then some v else bif Nat.blt i k then a.find i else b.find i
end VE
end
section
namespace VE
open Go (IntKind FloatKind)
def zq5:IntKind→Nat
 | .i8=>0 | .i16=>1 | .i32=>2 | .i64=>3 | .u8=>4 | .u16=>5 | .u32=>6 | .u64=>7
def eqI:Int→Int→Bool
 | .ofNat a,.ofNat b=>Nat.beq a b
 | .negSucc a,.negSucc b=>Nat.beq a b
 | _,_=>false
def eqB:Bool→Bool→Bool
 | true,true | false,false=>true
 | _,_=>false
def eqF:FloatKind→FloatKind→Bool
 | .f32,.f32 | .f64,.f64=>true
 | _,_=>false
mutual
def eqD:AV→AV→Bool
 | .int k a,.int k' b=>Nat.beq (zq5 k) (zq5 k')&&eqI a b
 | .bool a,.bool b=>eqB a b
 | .flt k a,.flt k' b=>eqF k k'&&Nat.beq a b
 | .str a,.str b=>eqL a b
 | .nilp,.nilp=>true
 | .vptr a,.vptr b=>zgU a b
 | .nils,.nils=>true
 | .vsl e n a,.vsl e' n' b=>eqB e e'&&(Nat.beq n n'&&zgU a b)
 | .fsl e s n a,.fsl e' s' n' b=>eqB e e'&&(Nat.beq s s'&&(Nat.beq n n'&&zgU a b))
 | .fn (.f g) a b,.fn (.f g') a' b'=>Nat.beq g g'&&(zgU a a'&&zgU b b')
 | .nilf,.nilf=>true
 | .nilm,.nilm=>true
 | .vmap a b,.vmap a' b'=>zgU a a'&&zgU b b'
 | .agg a,.agg b=>zgU a b
 | .tup a,.tup b=>zgU a b
 | .undef,.undef=>true
 | _,_=>false
def zgU:List AV→List AV→Bool
 | [],[]=>true
 | a::x,b::y=>eqD a b&&zgU x y
 | _,_=>false
end
def hI:Int→Nat
 | .ofNat n=>n
 | .negSucc n=>n+n
def hS:List Nat→Nat
 | []=>1
 | b::r=>(b+257*hS r)%65521
mutual
def hV:AV→Nat
 | .int _ n=>hI n
 | .bool b=>bif b then 1 else 2
 | .flt _ n=>n
 | .str s=>hS s
 | .vsl _ n cs=>n+hL cs
 | .agg cs=>hL cs
 | .tup cs=>hL cs
 | _=>5
def hL:List AV→Nat
 | []=>7
 | v::r=>(hV v+263*hL r)%65521
end
abbrev Te:=Tr (List AV×AV)
abbrev zE:=List Te
def zgB (h:Nat) (vals:List AV):zE→Option AV
 | []=>none
 | t::l=>match t.find h with
  | some (a,r)=>bif zgU a vals then some r else zgB h vals l
  | none=>zgB h vals l
def zDs (vals:List AV) (l:zE):Option AV:=zgB (hL vals) vals l
abbrev Te.o (h:Nat) (a:List AV) (r:AV):Te:= .n h (a,r) .l .l
abbrev Te.m (h:Nat) (a:List AV) (r:AV) (x y:Te):Te:= .n h (a,r) x y
def zgs (n:Nat):List (Tr zE)→Option zE
 | []=>none
 | t::r=>match t.find n with
  | none=>zgs n r
  | some l=>match zgs n r with | none=>some l | some m=>some (l++m)
def zA3 (L:Lib) (T:List (Tr zE)) (ex:Nat):Lib:=
 ⟨fun i=>match L.pure i with
  | some sp=>some sp
  | none=>bif Nat.beq i ex then none else match zgs i T with | some l=>some (fun vals=>zDs vals l) | none=>none,L.heap⟩
def zwu (P:zN) (L:Lib) (f:Nat):Te→Bool
 | .l=>true
 | .n _ e x y=>(match evF P L 100000 f e.1 with | some r'=>eqD r' e.2 | none=>false)&&(zwu P L f x&&zwu P L f y)
def zqt (P:zN) (L:Lib) (f:Nat):zE→Bool
 | []=>true
 | t::l=>zwu P L f t&&zqt P L f l
def zj (P:zN) (L:Lib) (T:List (Tr zE)):List (Nat×zE)→Bool
 | []=>true
 | (f,l)::C=>zqt P (zA3 L T f) f l&&zj P L T C
end VE
end
section
namespace VE
open Go
theorem zup {a b:IntKind} (h:Nat.beq (zq5 a) (zq5 b)=true):a=b:=by
 cases a<;>cases b<;>first | rfl | (exact absurd h (by decide))
theorem zxj {a b:Int} (h:eqI a b=true):a=b:=by
 cases a<;>cases b<;>simp only [eqI,reduceCtorEq] at h<;>rw [Nat.eq_of_beq_eq_true h]
theorem zku {a b:Bool} (h:eqB a b=true):a=b:=by
 cases a<;>cases b<;>first | rfl | (exact absurd h (by decide))
theorem zxR {a b:FloatKind} (h:eqF a b=true):a=b:=by
 cases a<;>cases b<;>first | rfl | (exact absurd h (by decide))
mutual
theorem znB:∀(a b:AV),eqD a b=true→a=b
 | .int k a,b,h=>by
  cases b<;>simp only [eqD,Bool.and_eq_true,Bool.false_eq_true] at h
  rw [zup h.1,zxj h.2]
 | .bool a,b,h=>by
  cases b<;>simp only [eqD,Bool.false_eq_true] at h
  rw [zku h]
 | .flt k a,b,h=>by
  cases b<;>simp only [eqD,Bool.and_eq_true,Bool.false_eq_true] at h
  rw [zxR h.1,Nat.eq_of_beq_eq_true h.2]
 | .str a,b,h=>by
  cases b<;>simp only [eqD,Bool.false_eq_true] at h
  rw [zkq h]
 | .nilp,b,h=>by cases b<;>simp only [eqD,Bool.false_eq_true] at h;rfl
 | .ptr _ _,b,h=>by cases b<;>simp only [eqD,Bool.false_eq_true] at h
 | .vptr a,b,h=>by
  cases b<;>simp only [eqD,Bool.false_eq_true] at h
  rw [zbp _ _ h]
 | .nils,b,h=>by cases b<;>simp only [eqD,Bool.false_eq_true] at h;rfl
 | .vsl e n a,b,h=>by
  cases b<;>simp only [eqD,Bool.and_eq_true,Bool.false_eq_true] at h
  rw [zku h.1,Nat.eq_of_beq_eq_true h.2.1,zbp _ _ h.2.2]
 | .fsl e s n a,b,h=>by
  cases b<;>simp only [eqD,Bool.and_eq_true,Bool.false_eq_true] at h
  rw [zku h.1,Nat.eq_of_beq_eq_true h.2.1,Nat.eq_of_beq_eq_true h.2.2.1,zbp _ _ h.2.2.2]
 | .osl _ _ _,b,h=>by cases b<;>simp only [eqD,Bool.false_eq_true] at h
 | .fn (.f g) x y,b,h=>by
  cases b<;>try (simp only [eqD,Bool.false_eq_true] at h;done)
  rename_i fr _ _;cases fr<;>simp only [eqD,Bool.and_eq_true,Bool.false_eq_true] at h
  rw [Nat.eq_of_beq_eq_true h.1,zbp _ _ h.2.1,zbp _ _ h.2.2]
 | .fn (.y _) _ _,b,h=>by cases b<;>simp only [eqD,Bool.false_eq_true] at h
 | .nilf,b,h=>by cases b<;>simp only [eqD,Bool.false_eq_true] at h;rfl
 | .nilm,b,h=>by cases b<;>simp only [eqD,Bool.false_eq_true] at h;rfl
 | .map _,b,h=>by cases b<;>simp only [eqD,Bool.false_eq_true] at h
 | .vmap x y,b,h=>by
  cases b<;>simp only [eqD,Bool.and_eq_true,Bool.false_eq_true] at h
  rw [zbp _ _ h.1,zbp _ _ h.2]
 | .it _,b,h=>by cases b<;>simp only [eqD,Bool.false_eq_true] at h
 | .agg a,b,h=>by
  cases b<;>simp only [eqD,Bool.false_eq_true] at h
  rw [zbp _ _ h]
 | .tup a,b,h=>by
  cases b<;>simp only [eqD,Bool.false_eq_true] at h
  rw [zbp _ _ h]
 | .undef,b,h=>by cases b<;>simp only [eqD,Bool.false_eq_true] at h;rfl
theorem zbp:∀(a b:List AV),zgU a b=true→a=b
 | [],b,h=>by cases b<;>simp only [zgU,Bool.false_eq_true] at h;rfl
 | x::a,b,h=>by
  cases b<;>simp only [zgU,Bool.and_eq_true,Bool.false_eq_true] at h
  rw [znB _ _ h.1,zbp _ _ h.2]
end
def Tr.Has {α:Type} (x:α):Tr α→Prop
 | .l=>False
 | .n _ v a b=>v=x∨a.Has x∨b.Has x
theorem Tr.find_has {α:Type} {h:Nat} {x:α}:∀{t:Tr α},t.find h=some x→t.Has x
 | .l,hf=>by simp [Tr.find] at hf
 | .n k v a b,hf=>by
  simp only [Tr.find] at hf
  cases h1:Nat.beq h k with
  | true=>rw [h1] at hf;simp only [cond_true,Option.some.injEq] at hf;exact .inl hf
  | false=>
   rw [h1] at hf;simp only [cond_false] at hf
   cases h2:Nat.blt h k with
   | true=>rw [h2] at hf;exact .inr (.inl (Tr.find_has hf))
   | false=>rw [h2] at hf;exact .inr (.inr (Tr.find_has hf))
def InE (vals:List AV) (r:AV) (l:zE):Prop:=∃t,t∈l∧t.Has (vals,r)
theorem zkh {h:Nat} {vals:List AV} {r:AV}:∀{l:zE},zgB h vals l=some r→InE vals r l
 | [],hf=>by simp [zgB] at hf
 | t::l,hf=>by
  have tail:zgB h vals l=some r→InE vals r (t::l):=fun q=>by
   obtain ⟨t',h1,h2⟩:=zkh q;exact ⟨t',List.mem_cons_of_mem _ h1,h2⟩
  simp only [zgB] at hf
  split at hf
  ·rename_i a q he
   cases hb:zgU a vals with
   | true=>
    rw [hb] at hf;simp only [cond_true,Option.some.injEq] at hf;rw [zbp _ _ hb,hf] at he;exact ⟨t,List.mem_cons_self,Tr.find_has he⟩
   | false=>
    rw [hb] at hf;exact tail hf
  ·exact tail hf
theorem zuc {vals:List AV} {r:AV} {l:zE} (h:zDs vals l=some r):InE vals r l:=zkh h
def AllC (Λ:Link) (f:Nat) (l:zE):Prop:=∀vals r,InE vals r l→PureC Λ f vals r
theorem AllC.nil {Λ:Link} {f:Nat}:AllC Λ f []:=fun _ _ h=>by obtain ⟨t,h,_⟩:=h;cases h
theorem AllC.app {Λ:Link} {f:Nat} {a b:zE} (ha:AllC Λ f a) (hb:AllC Λ f b):AllC Λ f (a++b):=fun v r h=>by
 obtain ⟨t,h,h2⟩:=h;exact (List.mem_append.1 h).elim (fun h=>ha v r ⟨t,h,h2⟩) (fun h=>hb v r ⟨t,h,h2⟩)
theorem AllC.one {Λ:Link} {f k:Nat} {vals:List AV} {r:AV} (h:PureC Λ f vals r):AllC Λ f [.n k (vals,r) .l .l]:=fun v q hm=>by
 obtain ⟨t,h1,h2⟩:=hm;rcases List.mem_cons.1 h1 with e | e
 ·subst e;rcases h2 with h2 | h2 | h2
  ·injection h2 with e1 e2
   subst e1;subst e2;exact h
  ·exact h2.elim
  ·exact h2.elim
 ·cases e
def Tr.All {α:Type} (p:Nat→α→Prop):Tr α→Prop
 | .l=>True
 | .n k v a b=>p k v∧a.All p∧b.All p
theorem Tr.all_l {α:Type} {p:Nat→α→Prop}:Tr.All p .l:=trivial
theorem Tr.all_n {α:Type} {p:Nat→α→Prop} {k:Nat} {v:α} {a b:Tr α} (h:p k v) (ha:a.All p) (hb:b.All p):Tr.All p (.n k v a b):=⟨h,ha,hb⟩
theorem Tr.all_find {α:Type} {p:Nat→α→Prop} {i:Nat} {v:α}:∀{t:Tr α},t.All p→t.find i=some v→p i v
 | .l,_,h=>by simp [Tr.find] at h
 | .n k w a b,ha,h=>by
  simp only [Tr.find] at h
  cases hb:Nat.beq i k with
  | true=>
   rw [hb] at h;simp only [cond_true,Option.some.injEq] at h;subst h;rw [Nat.eq_of_beq_eq_true hb];exact ha.1
  | false=>
   rw [hb] at h;simp only [cond_false] at h
   cases hc:Nat.blt i k with
   | true=>rw [hc] at h;exact Tr.all_find ha.2.1 h
   | false=>rw [hc] at h;exact Tr.all_find ha.2.2 h
abbrev Link.withLib (Λ:Link) (L:Lib):Link:={Λ with lib:=L}
theorem orel_lib {Λ:Link} {L:Lib} {m:Mp} {S:Nat→Prop} {w:World} {id:Nat} {o:Obj}:zcB (Λ.withLib L) m S w id o↔zcB Λ m S w id o:=by
 cases o<;>exact Iff.rfl
theorem hrel_lib {Λ:Link} {L:Lib} {m:Mp} {S:Nat→Prop} {w:World} {hp:Hp} {ct:Nat}:zR (Λ.withLib L) m S w hp ct↔zR Λ m S w hp ct:=
 ⟨fun h=>⟨fun id o p h1 h2=>orel_lib.1 (h.obj id o p h1 h2),h.lt,h.inj,h.slt,h.blt,h.low,h.good,h.goodS,h.hlt⟩,
  fun h=>⟨fun id o p h1 h2=>orel_lib.2 (h.obj id o p h1 h2),h.lt,h.inj,h.slt,h.blt,h.low,h.good,h.goodS,h.hlt⟩⟩
theorem zlo {Λ:Link} {L:Lib} {n:Nat} {hp:Hp} {ct:Nat} {vals:List AV} {v:AV} {hp':Hp} {ct':Nat} (h:ziM Λ n hp ct vals v hp' ct'):ziM (Λ.withLib L) n hp ct vals v hp' ct':=by
 intro m S w args h1 h2;have post:∀e w',zcx Λ m S w hp ct v hp' ct' e w'→zcx (Λ.withLib L) m S w hp ct v hp' ct' e w':=by
  rintro e w' ⟨u,m',S',k1,k2,k3,k4,k5⟩;exact ⟨u,m',S',k1,hrel_lib.2 k2,k3,k4,k5⟩
 exact Invoked.mono (h m S w args (hrel_lib.1 h1) h2) post
def AllT (Λ:Link) (T:List (Tr zE)):Prop:=∀t,t∈T→t.All (AllC Λ)
theorem AllT.nil {Λ:Link}:AllT Λ []:=fun _ h=>by cases h
theorem AllT.cons {Λ:Link} {t:Tr zE} {T:List (Tr zE)} (h:t.All (AllC Λ)) (hT:AllT Λ T):AllT Λ (t::T):=fun u hu=>by
 rcases List.mem_cons.1 hu with e | e
 ·subst e;exact h
 ·exact hT u e
theorem zik {Λ:Link} {n:Nat}:∀{T:List (Tr zE)} {l:zE},AllT Λ T→zgs n T=some l→AllC Λ n l
 | [],_,_,h=>by simp [zgs] at h
 | t::T,l,hT,h=>by
  have hT':AllT Λ T:=fun u hu=>hT u (List.mem_cons_of_mem _ hu)
  simp only [zgs] at h
  split at h
  ·exact zik hT' h
  ·rename_i l1 h1;have c1:=Tr.all_find (hT t List.mem_cons_self) h1
   split at h
   ·simp only [Option.some.injEq] at h;subst h;exact c1
   ·rename_i m h2;simp only [Option.some.injEq] at h;subst h;exact AllC.app c1 (zik hT' h2)
theorem zqT {Λ:Link} (hΛ:zav Λ) {T:List (Tr zE)} (hT:AllT Λ T) (ex:Nat):zav (Λ.withLib (zA3 Λ.lib T ex)) where
 hint:=hΛ.hint
 mixed:=hΛ.mixed
 prog:=hΛ.prog
 lib n sp vals r h hs:=by
  show PureC Λ n vals r
  simp only [zA3] at h
  cases hl:Λ.lib.pure n with
  | some sp'=>
   simp only [hl,Option.some.injEq] at h;subst h;exact hΛ.lib n _ vals r hl hs
  | none=>
   simp only [hl] at h
   cases hb:Nat.beq n ex with
   | true=>rw [hb] at h;cases h
   | false=>
    rw [hb] at h;simp only [cond_false] at h
    cases hf:zgs n T with
    | none=>simp [hf] at h
    | some l=>
     simp only [hf,Option.some.injEq] at h;subst h;exact zik hT hf vals r (zuc hs)
 libH n sp hp ct vals v hp' ct' h hs:=zlo (hΛ.libH n sp hp ct vals v hp' ct' h hs)
theorem zh9 {Λ:Link} {L:Lib} (hΛ:zav (Λ.withLib L)) {f:Nat} {vals:List AV} {r:AV}:∀{t:Te},zwu Λ.prog L f t=true→t.Has (vals,r)→PureC Λ f vals r
 | .l,_,h=>h.elim
 | .n k e x y,h,hm=>by
  simp only [zwu,Bool.and_eq_true] at h;rcases hm with e1 | hm | hm
  ·subst e1;have h1:=h.1
   split at h1
   ·rename_i r' hr;have e:r'=r:=znB _ _ h1;rw [←e];exact zzh hΛ hr
   ·cases h1
  ·exact zh9 hΛ h.2.1 hm
  ·exact zh9 hΛ h.2.2 hm
theorem zke {Λ:Link} {L:Lib} (hΛ:zav (Λ.withLib L)) {f:Nat}:∀{l:zE},zqt Λ.prog L f l=true→AllC Λ f l
 | [],_=>AllC.nil
 | t::l,h=>by
  simp only [zqt,Bool.and_eq_true] at h;intro v q hm;obtain ⟨t',h1,h2⟩:=hm;rcases List.mem_cons.1 h1 with e | e
  ·subst e;exact zh9 hΛ h.1 h2
  ·exact zke hΛ h.2 v q ⟨t',e,h2⟩
theorem zoC {Λ:Link} (hΛ:zav Λ) {T:List (Tr zE)} (hT:AllT Λ T):∀{C:List (Nat×zE)},zj Λ.prog Λ.lib T C=true→∀f l,(f,l)∈C→AllC Λ f l
 | [],_,f,l,h=>by cases h
 | (g,l')::C,h,f,l,hm=>by
  simp only [zj,Bool.and_eq_true] at h;rcases List.mem_cons.1 hm with e | hm
  ·injection e with e1 e2
   subst e1;subst e2;exact zke (zqT hΛ hT f) h.1
  ·exact zoC hΛ hT h.2 f l hm
theorem zg {Λ:Link} {P:zN} {L:Lib} (hΛ:zav Λ) (hp:Λ.prog=P) (hl:Λ.lib=L) {T:List (Tr zE)} (hT:AllT Λ T) {C:List (Nat×zE)} (h:zj P L T C=true) (i:Nat) {f:Nat} {l:zE} (hi:C[i]? =some (f,l)):AllC Λ f l:=by
 subst hp;subst hl;exact zoC hΛ hT h f l (List.mem_of_getElem? hi)
theorem aN {α:Type} {p:Nat→α→Prop} {k:Nat} {v:α} {a b:Tr α} (h:p k v) (ha:a.All p) (hb:b.All p):Tr.All p (.n k v a b):=Tr.all_n h ha hb
theorem aL {α:Type} {p:Nat→α→Prop}:Tr.All p .l:=Tr.all_l
end VE
end
section
namespace VE
open Go
structure HD where
 n:Nat
 live:List (Nat×List Nat)
 out:List (Nat×List Nat)
 mode:List (Nat×Md)
 fz:List (Nat×List Nat)
 deriving Inhabited
def znO {α:Type} (i:Nat):List (Nat×α)→Option α
 | []=>none
 | (j,a)::l=>bif Nat.beq j i then some a else znO i l
def zH1 (ren:Nat→Option Nat) (d:HD):zbH where
 n:=d.n
 ren:=ren
 live:=fun l=>match znO l d.live with | some x=>x | none=>[]
 out:=fun l=>znO l d.out
 mode:=fun k=>match znO k d.mode with | some x=>x | none=> .pure
 fz:=fun i=>match znO i d.fz with | some x=>x | none=>[]
def zr5 (ren:Tr Nat) (t:Tr HD) (i:Nat):zbH:=zH1 ren.find (match t.find i with | some d=>d | none=>⟨0,[],[],[],[]⟩)
def zmB (t:Tr Nat) (i:Nat):Nat:=match t.find i with | some f=>f | none=>0
def znp (fid:Tr Nat):Tr Nat→Bool
 | .l=>true
 | .n f g a b=>Nat.beq (zmB fid g) f&&(znp fid a&&znp fid b)
theorem zgD {fid:Tr Nat}:∀{t:Tr Nat},znp fid t=true→t.All (fun f g=>zmB fid g=f)
 | .l,_=>trivial
 | .n f g a b,h=>by
  simp only [znp,Bool.and_eq_true] at h;exact ⟨Nat.eq_of_beq_eq_true h.1,zgD h.2.1,zgD h.2.2⟩
def zpL (P:Program) (fid:Tr Nat) (ren:Tr Nat) (hd:Tr HD) (i:Nat) (F:Fnc):Prop:=
 ∃fn,P.funcs[zmB fid i]? =some fn∧zhY P (zr5 ren hd i) fn=some F∧fn.name≠ "runtime.NumGoroutine"
theorem zvu {P:Program} {fid ren:Tr Nat} {hd:Tr HD} {i:Nat} {F:Fnc} (h:(P.funcs[zmB fid i]?).bind (zhY P (zr5 ren hd i))=some F) (h2:(P.funcs[zmB fid i]?).map (fun fn=>decide (fn.name= "runtime.NumGoroutine"))=some false):zpL P fid ren hd i F:=by
 unfold zpL
 cases hq:P.funcs[zmB fid i]? with
 | none=>rw [hq] at h;cases h
 | some fn=>
  rw [hq] at h h2;refine ⟨fn,rfl,h,fun e=>?_⟩;simp only [Option.map_some,Option.some.injEq,e,decide_true] at h2;cases h2
end VE
end
section
namespace VE
namespace Lk1
open Go
open Go.Proofs
def fid:Tr Nat:=(.n 198 24 (.n 144 160 (.n 109 102 (.n 74 82 (.n 59 35 (.n 46 93 (.n 29 34 (.n 28 33 .l .l) .l) (.n 50 72 (.n 49 57 .l .l) .l)) (.n 70 62 (.n 69 81 (.n 62 41 .l .l) .l) (.n 73 120 (.n 71 66 .l .l) .l))) (.n 100 116 (.n 88 117 (.n 86 39 (.n 84 79 .l .l) .l) (.n 99 139 (.n 98 130 .l .l) .l)) (.n 107 96 (.n 102 94 (.n 101 37 .l .l) .l) (.n 108 60 .l .l)))) (.n 129 103 (.n 123 131 (.n 117 38 (.n 111 40 (.n 110 104 .l .l) .l) (.n 119 124 (.n 118 105 .l .l) .l)) (.n 126 129 (.n 125 58 (.n 124 67 .l .l) .l) (.n 128 101 (.n 127 128 .l .l) .l))) (.n 139 174 (.n 136 133 (.n 135 172 (.n 130 99 .l .l) .l) (.n 138 173 (.n 137 149 .l .l) .l)) (.n 142 159 (.n 141 176 (.n 140 175 .l .l) .l) (.n 143 158 .l .l))))) (.n 168 192 (.n 156 127 (.n 150 136 (.n 147 98 (.n 146 97 (.n 145 141 .l .l) .l) (.n 149 42 (.n 148 100 .l .l) .l)) (.n 153 146 (.n 152 145 (.n 151 140 .l .l) .l) (.n 155 148 (.n 154 147 .l .l) .l))) (.n 163 86 (.n 159 163 (.n 158 162 (.n 157 161 .l .l) .l) (.n 162 144 (.n 161 84 .l .l) .l)) (.n 166 190 (.n 165 189 (.n 164 106 .l .l) .l) (.n 167 191 .l .l)))) (.n 187 14 (.n 174 223 (.n 171 194 (.n 170 202 (.n 169 193 .l .l) .l) (.n 173 195 (.n 172 87 .l .l) .l)) (.n 180 32 (.n 179 4 (.n 175 134 .l .l) .l) (.n 186 6 (.n 185 5 .l .l) .l))) (.n 193 19 (.n 190 16 (.n 189 15 (.n 188 13 .l .l) .l) (.n 192 18 (.n 191 17 .l .l) .l)) (.n 196 23 (.n 195 21 (.n 194 20 .l .l) .l) (.n 197 22 .l .l)))))) (.n 245 165 (.n 222 77 (.n 211 61 (.n 204 30 (.n 201 27 (.n 200 26 (.n 199 25 .l .l) .l) (.n 203 29 (.n 202 28 .l .l) .l)) (.n 208 36 (.n 206 95 (.n 205 31 .l .l) .l) (.n 210 59 (.n 209 56 .l .l) .l))) (.n 217 70 (.n 214 65 (.n 213 64 (.n 212 63 .l .l) .l) (.n 216 69 (.n 215 68 .l .l) .l)) (.n 220 73 (.n 219 78 (.n 218 71 .l .l) .l) (.n 221 75 .l .l)))) (.n 234 119 (.n 228 88 (.n 225 80 (.n 224 74 (.n 223 76 .l .l) .l) (.n 227 85 (.n 226 83 .l .l) .l)) (.n 231 91 (.n 230 90 (.n 229 89 .l .l) .l) (.n 233 118 (.n 232 92 .l .l) .l))) (.n 240 132 (.n 237 123 (.n 236 122 (.n 235 121 .l .l) .l) (.n 239 126 (.n 238 125 .l .l) .l)) (.n 243 138 (.n 242 137 (.n 241 135 .l .l) .l) (.n 244 164 .l .l))))) (.n 288 114 (.n 273 50 (.n 251 171 (.n 248 168 (.n 247 167 (.n 246 166 .l .l) .l) (.n 250 170 (.n 249 169 .l .l) .l)) (.n 263 11 (.n 262 150 (.n 252 196 .l .l) .l) (.n 272 49 (.n 269 44 .l .l) .l))) (.n 282 54 (.n 277 10 (.n 275 52 (.n 274 51 .l .l) .l) (.n 281 46 (.n 280 45 .l .l) .l)) (.n 286 109 (.n 285 107 (.n 284 108 .l .l) .l) (.n 287 113 .l .l)))) (.n 300 153 (.n 294 112 (.n 291 47 (.n 290 156 (.n 289 111 .l .l) .l) (.n 293 154 (.n 292 48 .l .l) .l)) (.n 298 110 (.n 296 151 (.n 295 115 .l .l) .l) (.n 299 152 .l .l))) (.n 460 9 (.n 336 12 (.n 302 157 (.n 301 155 .l .l) .l) (.n 339 55 (.n 338 53 .l .l) .l)) (.n 470 8 (.n 469 7 (.n 468 3 .l .l) .l) (.n 471 43 .l .l)))))))
def ren:Tr Nat:=(.n 94 102 (.n 48 292 (.n 25 199 (.n 14 187 (.n 8 470 (.n 5 185 (.n 4 179 (.n 3 468 .l .l) .l) (.n 7 469 (.n 6 186 .l .l) .l)) (.n 11 263 (.n 10 277 (.n 9 460 .l .l) .l) (.n 13 188 (.n 12 336 .l .l) .l))) (.n 20 194 (.n 17 191 (.n 16 190 (.n 15 189 .l .l) .l) (.n 19 193 (.n 18 192 .l .l) .l)) (.n 23 196 (.n 22 197 (.n 21 195 .l .l) .l) (.n 24 198 .l .l)))) (.n 37 101 (.n 31 205 (.n 28 202 (.n 27 201 (.n 26 200 .l .l) .l) (.n 30 204 (.n 29 203 .l .l) .l)) (.n 34 29 (.n 33 28 (.n 32 180 .l .l) .l) (.n 36 208 (.n 35 59 .l .l) .l))) (.n 43 471 (.n 40 111 (.n 39 86 (.n 38 117 .l .l) .l) (.n 42 149 (.n 41 62 .l .l) .l)) (.n 46 281 (.n 45 280 (.n 44 269 .l .l) .l) (.n 47 291 .l .l))))) (.n 71 218 (.n 60 108 (.n 54 282 (.n 51 274 (.n 50 273 (.n 49 272 .l .l) .l) (.n 53 338 (.n 52 275 .l .l) .l)) (.n 57 49 (.n 56 209 (.n 55 339 .l .l) .l) (.n 59 210 (.n 58 125 .l .l) .l))) (.n 66 71 (.n 63 212 (.n 62 70 (.n 61 211 .l .l) .l) (.n 65 214 (.n 64 213 .l .l) .l)) (.n 69 216 (.n 68 215 (.n 67 124 .l .l) .l) (.n 70 217 .l .l)))) (.n 83 226 (.n 77 222 (.n 74 224 (.n 73 220 (.n 72 50 .l .l) .l) (.n 76 223 (.n 75 221 .l .l) .l)) (.n 80 225 (.n 79 84 (.n 78 219 .l .l) .l) (.n 82 74 (.n 81 69 .l .l) .l))) (.n 89 229 (.n 86 163 (.n 85 227 (.n 84 161 .l .l) .l) (.n 88 228 (.n 87 172 .l .l) .l)) (.n 92 232 (.n 91 231 (.n 90 230 .l .l) .l) (.n 93 46 .l .l)))))) (.n 140 151 (.n 117 88 (.n 106 164 (.n 100 148 (.n 97 146 (.n 96 107 (.n 95 206 .l .l) .l) (.n 99 130 (.n 98 147 .l .l) .l)) (.n 103 129 (.n 102 109 (.n 101 128 .l .l) .l) (.n 105 118 (.n 104 110 .l .l) .l))) (.n 112 294 (.n 109 286 (.n 108 284 (.n 107 285 .l .l) .l) (.n 111 289 (.n 110 298 .l .l) .l)) (.n 115 295 (.n 114 288 (.n 113 287 .l .l) .l) (.n 116 100 .l .l)))) (.n 129 126 (.n 123 237 (.n 120 73 (.n 119 234 (.n 118 233 .l .l) .l) (.n 122 236 (.n 121 235 .l .l) .l)) (.n 126 239 (.n 125 238 (.n 124 119 .l .l) .l) (.n 128 127 (.n 127 156 .l .l) .l))) (.n 135 241 (.n 132 240 (.n 131 123 (.n 130 98 .l .l) .l) (.n 134 175 (.n 133 136 .l .l) .l)) (.n 138 243 (.n 137 242 (.n 136 150 .l .l) .l) (.n 139 99 .l .l))))) (.n 165 245 (.n 154 293 (.n 148 155 (.n 145 152 (.n 144 162 (.n 141 145 .l .l) .l) (.n 147 154 (.n 146 153 .l .l) .l)) (.n 151 296 (.n 150 262 (.n 149 137 .l .l) .l) (.n 153 300 (.n 152 299 .l .l) .l))) (.n 160 144 (.n 157 302 (.n 156 290 (.n 155 301 .l .l) .l) (.n 159 142 (.n 158 143 .l .l) .l)) (.n 163 159 (.n 162 158 (.n 161 157 .l .l) .l) (.n 164 244 .l .l)))) (.n 176 141 (.n 171 251 (.n 168 248 (.n 167 247 (.n 166 246 .l .l) .l) (.n 170 250 (.n 169 249 .l .l) .l)) (.n 174 139 (.n 173 138 (.n 172 135 .l .l) .l) (.n 175 140 .l .l))) (.n 194 171 (.n 191 167 (.n 190 166 (.n 189 165 .l .l) .l) (.n 193 169 (.n 192 168 .l .l) .l)) (.n 202 170 (.n 196 252 (.n 195 173 .l .l) .l) (.n 223 174 .l .l)))))))
def hd:Tr HD:=(.n 204 ⟨95,[(1,[5,6,7,8,32,33]),(3,[5,6,7,8,9,10,32,33,39,40]),(5,[5,6,7,8,9,10,12,32,33,52,53,54])],[(1,[8]),(3,[5,6,7,8,9,10,32,33]),(5,[5,6,7,8,10,12,32,33])],[],[(25,[10])]⟩ (.n 146 ⟨7,[],[],[],[]⟩ (.n 102 ⟨9,[],[],[],[]⟩ (.n 71 ⟨16,[],[],[],[]⟩ (.n 50 ⟨9,[],[],[],[]⟩ (.n 46 ⟨16,[],[],[],[]⟩ (.n 29 ⟨26,[(1,[0,1,5])],[(1,[])],[],[]⟩ (.n 28 ⟨27,[(1,[0,1,5])],[(1,[])],[],[]⟩ .l .l) .l) (.n 49 ⟨16,[],[],[],[]⟩ .l .l)) (.n 69 ⟨6,[],[],[],[]⟩ (.n 62 ⟨22,[],[],[],[]⟩ (.n 59 ⟨26,[(1,[0,1,5])],[(1,[])],[],[]⟩ .l .l) .l) (.n 70 ⟨9,[],[],[],[]⟩ .l .l))) (.n 88 ⟨23,[(0,[3,9,10,11])],[(0,[3])],[],[]⟩ (.n 84 ⟨20,[],[],[],[]⟩ (.n 74 ⟨34,[],[],[],[]⟩ (.n 73 ⟨8,[],[],[],[]⟩ .l .l) .l) (.n 86 ⟨76,[],[],[],[]⟩ .l .l)) (.n 100 ⟨66,[],[],[],[]⟩ (.n 99 ⟨69,[(1,[3,4,5,6]),(6,[6,10,11])],[(1,[3,6]),(6,[10])],[],[]⟩ (.n 98 ⟨13,[],[],[],[]⟩ .l .l) .l) (.n 101 ⟨34,[],[],[],[]⟩ .l .l)))) (.n 125 ⟨15,[(0,[5,6,7])],[(0,[])],[],[]⟩ (.n 117 ⟨5,[],[],[],[]⟩ (.n 110 ⟨41,[(0,[0,2,3,4])],[(0,[2,3,4])],[],[]⟩ (.n 108 ⟨6,[],[],[],[]⟩ (.n 107 ⟨11,[],[],[],[]⟩ .l .l) .l) (.n 111 ⟨6,[],[],[],[]⟩ .l .l)) (.n 123 ⟨23,[(0,[3,9,10,11])],[(0,[3])],[],[]⟩ (.n 119 ⟨67,[],[],[],[]⟩ (.n 118 ⟨29,[],[],[],[]⟩ .l .l) .l) (.n 124 ⟨7,[],[],[],[]⟩ .l .l))) (.n 136 ⟨24,[],[],[],[]⟩ (.n 129 ⟨19,[],[],[],[]⟩ (.n 127 ⟨21,[(0,[1,8,9,10])],[(0,[])],[],[]⟩ (.n 126 ⟨24,[],[],[],[]⟩ .l .l) .l) (.n 130 ⟨23,[(0,[2,3,4])],[(0,[2,4])],[],[]⟩ .l .l)) (.n 144 ⟨80,[(0,[1,5,20,21,22]),(2,[1,5,6,7,8,20,21,22,27,28,29])],[(0,[5]),(2,[1,5,6,8,20,21,22])],[],[]⟩ (.n 142 ⟨10,[],[],[],[]⟩ (.n 137 ⟨137,[(2,[0,1,6,7,8]),(4,[9,10,11,12,13,14]),(6,[9,11,12,13,96,97])],[(2,[6,7]),(4,[9,11,12,13]),(6,[11,12,13])],[(5,.own),(7,.own),(8,.heap)],[]⟩ .l .l) .l) (.n 145 ⟨50,[],[],[],[]⟩ .l .l))))) (.n 180 ⟨59,[(1,[0,1,7,21,22]),(3,[7,9,10])],[(1,[0,1,7]),(3,[7])],[],[]⟩ (.n 159 ⟨41,[(0,[0,1,5,6,13,14])],[(0,[5])],[],[]⟩ (.n 151 ⟨13,[],[],[],[]⟩ (.n 149 ⟨14,[],[],[],[]⟩ (.n 148 ⟨21,[],[],[],[]⟩ (.n 147 ⟨26,[],[],[],[]⟩ .l .l) .l) (.n 150 ⟨9,[],[],[],[]⟩ .l .l)) (.n 157 ⟨54,[(1,[0,1,5,6,21,22])],[(1,[0,5,6])],[],[]⟩ (.n 156 ⟨9,[],[],[],[]⟩ (.n 155 ⟨23,[(0,[1,2,4,5])],[(0,[4,5])],[],[]⟩ .l .l) .l) (.n 158 ⟨41,[(2,[0,1,5])],[(2,[])],[],[]⟩ .l .l))) (.n 166 ⟨21,[(0,[0,3])],[(0,[0,3])],[],[]⟩ (.n 164 ⟨84,[],[],[],[]⟩ (.n 163 ⟨9,[],[],[],[]⟩ (.n 161 ⟨18,[(0,[6,7,8])],[(0,[])],[],[]⟩ .l .l) .l) (.n 165 ⟨135,[(3,[2,8,9,10,11,13,14,15,16]),(6,[2,8,9,10,14,15,16,17,18])],[(3,[2,8,9,10,11,13,14,15]),(6,[2,8,14,15,17,18])],[],[]⟩ .l .l)) (.n 172 ⟨25,[],[],[],[]⟩ (.n 169 ⟨186,[(1,[0,1,5,6,7,8]),(4,[0,1,5,6,11,12,104,105]),(7,[0,1,5,6,17,156,157])],[(1,[0,1,5,6]),(4,[0,1,5,6,11,12]),(7,[0,5,6,17])],[],[]⟩ (.n 168 ⟨40,[(0,[1,5,12,13,14])],[(0,[5])],[],[]⟩ .l .l) .l) (.n 179 ⟨318,[],[],[],[]⟩ .l .l)))) (.n 194 ⟨24,[],[],[],[]⟩ (.n 189 ⟨35,[],[],[],[]⟩ (.n 187 ⟨8,[],[],[],[]⟩ (.n 186 ⟨17,[],[],[],[]⟩ (.n 185 ⟨16,[],[],[],[]⟩ .l .l) .l) (.n 188 ⟨11,[],[],[],[]⟩ .l .l)) (.n 192 ⟨33,[],[],[],[]⟩ (.n 191 ⟨45,[],[],[],[]⟩ (.n 190 ⟨22,[],[],[],[]⟩ .l .l) .l) (.n 193 ⟨20,[],[],[],[]⟩ .l .l))) (.n 199 ⟨28,[],[],[],[]⟩ (.n 197 ⟨51,[],[],[],[]⟩ (.n 196 ⟨10,[],[],[],[]⟩ (.n 195 ⟨45,[],[],[],[]⟩ .l .l) .l) (.n 198 ⟨21,[],[],[],[]⟩ .l .l)) (.n 202 ⟨73,[(2,[5,6,7])],[(2,[5,6,7])],[],[]⟩ (.n 201 ⟨102,[(1,[0,1,7,34,35,36]),(4,[10,13,76,77,78])],[(1,[0,7]),(4,[13])],[],[(20,[13])]⟩ (.n 200 ⟨84,[(2,[8,9,37,38,39]),(4,[8,9,11,12,37,38,39,46,47]),(6,[8,9,11,12,13,14,37,38,39,46,47,51,52,53])],[(2,[9]),(4,[8,9,12,37,38,39]),(6,[8,9,11,12,14,37,38,39,46,47])],[],[(23,[12])]⟩ .l .l) .l) (.n 203 ⟨10,[],[],[],[]⟩ .l .l)))))) (.n 246 ⟨6,[],[],[],[]⟩ (.n 225 ⟨19,[(0,[3,6,7,8])],[(0,[3])],[],[]⟩ (.n 215 ⟨5,[],[],[],[]⟩ (.n 210 ⟨22,[],[],[],[]⟩ (.n 208 ⟨8,[],[],[],[]⟩ (.n 206 ⟨16,[],[],[],[]⟩ (.n 205 ⟨20,[],[],[],[]⟩ .l .l) .l) (.n 209 ⟨25,[],[],[],[]⟩ .l .l)) (.n 213 ⟨35,[],[],[],[]⟩ (.n 212 ⟨10,[],[],[],[]⟩ (.n 211 ⟨51,[(0,[2,4,6,8,18,19,20]),(2,[2,4,6,8,10,18,19,20,29,30,31])],[(0,[6,8]),(2,[2,4,6,8,18,19,20])],[],[]⟩ .l .l) .l) (.n 214 ⟨18,[],[],[],[]⟩ .l .l))) (.n 220 ⟨11,[],[],[],[]⟩ (.n 218 ⟨68,[],[],[],[]⟩ (.n 217 ⟨22,[],[],[],[]⟩ (.n 216 ⟨42,[],[],[],[]⟩ .l .l) .l) (.n 219 ⟨6,[],[],[],[]⟩ .l .l)) (.n 223 ⟨16,[],[],[],[]⟩ (.n 222 ⟨10,[],[],[],[]⟩ (.n 221 ⟨32,[],[],[],[]⟩ .l .l) .l) (.n 224 ⟨38,[],[],[],[]⟩ .l .l)))) (.n 235 ⟨35,[],[],[],[]⟩ (.n 230 ⟨11,[],[],[],[]⟩ (.n 228 ⟨13,[],[],[],[]⟩ (.n 227 ⟨140,[(0,[4,5,6,7,8,24,25]),(2,[4,5,6,7,8,9,10,11,24,25]),(5,[4,5,6,7,8,9,10,24,25,89,90])],[(0,[4,8]),(2,[4,5,6,7,8,9,10,11,24,25]),(5,[4,5,6,7,8,9,24,25])],[],[]⟩ (.n 226 ⟨31,[(0,[4,9,10,11]),(2,[4,6,9,10,11,15,16,17])],[(0,[4]),(2,[4,6,9,10,11])],[],[]⟩ .l .l) .l) (.n 229 ⟨32,[],[],[],[]⟩ .l .l)) (.n 233 ⟨33,[(1,[0,1,4,5,6])],[(1,[4,5])],[],[]⟩ (.n 232 ⟨28,[(0,[0,2,3]),(2,[0,2,3])],[(0,[0,2,3]),(2,[0,2,3])],[],[]⟩ (.n 231 ⟨7,[],[],[],[]⟩ .l .l) .l) (.n 234 ⟨33,[(1,[0,1,4,5,6])],[(1,[4,5])],[],[]⟩ .l .l))) (.n 240 ⟨34,[(0,[0,1,6,7,9,12,13])],[(0,[9])],[],[]⟩ (.n 238 ⟨3,[],[],[],[]⟩ (.n 237 ⟨38,[(1,[1,2,3])],[(1,[2])],[],[]⟩ (.n 236 ⟨6,[],[],[],[]⟩ .l .l) .l) (.n 239 ⟨40,[(0,[1,2,4,5,11,12])],[(0,[4,5])],[],[]⟩ .l .l)) (.n 244 ⟨56,[(0,[4,5,6,7,8,9])],[(0,[4,7])],[],[]⟩ (.n 243 ⟨63,[],[],[],[]⟩ (.n 241 ⟨14,[],[],[],[]⟩ .l .l) .l) (.n 245 ⟨15,[],[],[],[]⟩ .l .l))))) (.n 290 ⟨20,[(0,[0,3,4])],[(0,[3])],[],[]⟩ (.n 277 ⟨61,[],[],[],[]⟩ (.n 269 ⟨14,[],[],[],[]⟩ (.n 262 ⟨13,[],[],[],[]⟩ (.n 252 ⟨7,[],[],[],[]⟩ (.n 247 ⟨10,[],[],[],[]⟩ .l .l) .l) (.n 263 ⟨96,[],[],[],[]⟩ .l .l)) (.n 274 ⟨25,[],[],[],[]⟩ (.n 273 ⟨18,[],[],[],[]⟩ (.n 272 ⟨17,[(0,[0,3])],[(0,[0])],[],[]⟩ .l .l) .l) (.n 275 ⟨19,[(0,[0,1])],[(0,[0])],[],[]⟩ .l .l))) (.n 285 ⟨9,[],[],[],[]⟩ (.n 282 ⟨39,[(1,[1,3,4])],[(1,[1,3])],[],[]⟩ (.n 281 ⟨25,[(0,[0,2,3,4])],[(0,[2,3,4])],[],[]⟩ (.n 280 ⟨57,[],[],[],[]⟩ .l .l) .l) (.n 284 ⟨7,[],[],[],[]⟩ .l .l)) (.n 288 ⟨40,[(1,[0,2,3,4])],[(1,[0,2,3,4])],[],[]⟩ (.n 287 ⟨20,[(0,[0,3])],[(0,[])],[],[]⟩ (.n 286 ⟨14,[],[],[],[]⟩ .l .l) .l) (.n 289 ⟨206,[(2,[0,8,9,10,11]),(4,[8,9,10,11,12,13]),(6,[8,9,10,11,12,13,14,15,16]),(10,[8,9,10,11,12,13,14,19,20])],[(2,[8,9,10,11]),(4,[8,10,11,12]),(6,[8,9,10,11,12,13,14,15]),(10,[8,9,10,11,12,13,14,19])],[(5,.heap)],[]⟩ .l .l)))) (.n 301 ⟨77,[(0,[0,1,2,7,9,10])],[(0,[9])],[],[]⟩ (.n 295 ⟨42,[(0,[0,1,5,6,7])],[(0,[5])],[],[]⟩ (.n 293 ⟨72,[(0,[0,1,5,6]),(2,[0,1,5,6,7,8])],[(0,[5]),(2,[0,1,5,6,7])],[],[]⟩ (.n 292 ⟨25,[(0,[0,1,5])],[(0,[5])],[],[]⟩ (.n 291 ⟨12,[(0,[0,1])],[(0,[0])],[],[]⟩ .l .l) .l) (.n 294 ⟨15,[],[],[],[]⟩ .l .l)) (.n 299 ⟨39,[(0,[0,1,6,7,8])],[(0,[6,7])],[],[]⟩ (.n 298 ⟨9,[],[],[],[]⟩ (.n 296 ⟨41,[(2,[0,1,5])],[(2,[])],[],[]⟩ .l .l) .l) (.n 300 ⟨21,[(0,[0])],[(0,[0])],[],[]⟩ .l .l))) (.n 460 ⟨29,[],[],[],[]⟩ (.n 338 ⟨8,[],[],[],[]⟩ (.n 336 ⟨17,[],[],[],[]⟩ (.n 302 ⟨13,[],[],[],[]⟩ .l .l) .l) (.n 339 ⟨29,[],[],[],[]⟩ .l .l)) (.n 470 ⟨56,[(1,[0,3])],[(1,[])],[],[]⟩ (.n 469 ⟨37,[(0,[0,6])],[(0,[0])],[],[]⟩ (.n 468 ⟨92,[],[],[],[]⟩ .l .l) .l) (.n 471 ⟨17,[],[],[],[]⟩ .l .l)))))))
theorem ren_ok:znp fid ren=true:=by decide+kernel
noncomputable def cc (i:Nat):Fnc:=match (Tryz.prog.funcs[zmB fid i]?).bind (zhY Tryz.prog (zr5 ren hd i)) with
 | some F=>F
 | none=>⟨[],.skip⟩
end Lk1
end VE
end
