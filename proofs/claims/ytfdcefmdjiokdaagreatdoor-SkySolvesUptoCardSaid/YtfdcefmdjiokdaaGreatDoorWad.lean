import Derived.Lib.AppendIntMem
import Derived.OwnWalk
import Derived.WalkKit
import Derived.KernelRfl
import Derived.Attr
import Derived.Test.YtfdcefmdjiokdaaGreatDoorWac
import Derived.Test.YtfdcefmdjiokdaaGreatDoorWab
set_option linter.all false
set_option maxRecDepth 100000
open Array renaming size_replicate->uE
open Bool renaming and_eq_true->yj,false_eq_true->yH
open Go renaming FloatKind->uJ,IntKind->xh,Program->xM,World->yt
open List renaming mem_cons->wj,mem_cons_of_mem->xi,mem_cons_self->xA
open Nat renaming beq->yG,blt->yU,eq_of_beq_eq_true->yz
open Option.some renaming injEq->yc
open Option renaming some->Ix,none->Iy
section
namespace Go.Proofs
open Go.Shelf
open Go.RowKit Go.Sort Go.Lib
set_option maxHeartbeats 6400000 in
set_option maxRecDepth 100000 in
def Tryz.apA(u:Nat)(Hh:u<18446744073709551616)(w:yt)(Hg:Lib.TabIs Tryz.prog w "internal/strconv.uint64pow10" .u64 Lib.pow10Tab):
  Calls Tryz.prog 283 #[.int .u64 u,.int .i64 10] w fun e w'=>e=.returned (.string ⟨(Lib.decDigits u).toArray⟩)/\∃k os,w'=grow (w.drewN k) os:=by
 by_cases hs:u<100
 .go_enter Tryz.func283,Tryz.ntmps283
  go_wp2_with (go_at_call 303;refine (Tryz.internal_strconv_small u hs _).mono ?_;rintro e w' ⟨rfl,rfl⟩)
  go_ret
  exact⟨rfl,0,#[],by simp[World.drewN_zero]⟩
 .have A7:1<=u:=by omega
  have aJq:Lib.nDigits u<=20:=by have:=Lib.numDigits_eq u A7 Hh;split at this<;>omega
  have hal:Tryz.prog.arrayLen 326=24:=by simp[Program.arrayLen,Tryz.underlying326]
  have sQ:∀W,(Instr.sliceAt 326 (.pointer (Ix ⟨w.heap.size,0,Iy⟩)) Iy (Ix (.int .i64 (Lib.nDigits u:Int))) Iy).run Tryz.prog W=.ok (.slice (Ix ⟨w.heap.size,0,Iy⟩) (Lib.nDigits u) 24) W:=fun W=>by
   rw[run_sliceAt_array_h W 326 ⟨w.heap.size,0,Iy⟩ (by simp[Program.arrayLen,Program.elem,Tryz.underlying326]) .i64 (Lib.nDigits u:Int) (by omega) (by rw[hal];omega)]
   go_simp
  have hH0:=Lib.holds_zero0 w 326 (Lib.nDigits u) (by omega);have alL:=Tryz.internal_strconv_formatBase10 w.heap.size 0 24 u (Array.replicate (Lib.nDigits u) 0) (w.alloc (.cells Lib.zeros24 326)) hH0 (by rw[uE];exact Lib.lt_pow_nDigits u) Hh (by rw[uE];omega)
  rw[uE] at alL;have HH0:=Lib.hid hH0;have iu:(100:Int)<=(u:Int):=by omega
  clear hH0 hal
  go_enter Tryz.func283,Tryz.ntmps283
  go_wp2_with (first
   | (go_at_call 304;refine (Tryz.internal_strconv_numDigits u A7 Hh _ (Lib.tabIs_alloc Hg _)).mono ?_;rintro e w' ⟨rfl,rfl⟩))
  go_at_call 305
  refine alL.mono ?_;rintro e w' ⟨rfl,k,v',dk,rfl,hF⟩;have hcv:(convert 283 9 (.slice (Ix ⟨w.heap.size,0,Iy⟩) (Lib.nDigits u) 24)).run Tryz.prog ((putRow (fun (b:UInt8)=>Value.int .u8 (b.toNat:Int)) (w.alloc (.cells Lib.zeros24 326)) w.heap.size 0 dk).drewN k)=.ok (.string ⟨(Lib.decDigits u).toArray⟩) ((putRow (fun (b:UInt8)=>Value.int .u8 (b.toNat:Int)) (w.alloc (.cells Lib.zeros24 326)) w.heap.size 0 dk).drewN k):=by
   have h:=run_convert_bytes_back (P:=Tryz.prog) ((putRow (fun (b:UInt8)=>Value.int .u8 (b.toNat:Int)) (w.alloc (.cells Lib.zeros24 326)) w.heap.size 0 dk).drewN k) 283 9 5 ⟨w.heap.size,0,Iy⟩ 24 (Lib.decDigits u) Tryz.underlying283 Tryz.underlying5 Tryz.underlying9 (fun j hj=>by
    rw[Lib.row_is_numeral hF j hj,Lib.add_plain,World.cell?_drewN]
    exact cell?_putRow (fun (b:UInt8)=>Value.int .u8 (b.toNat:Int)) _ w.heap.size 0 _ dk HH0.out (by rw[hF.size,uE]) j (by rw[hF.size];rw[Lib.decDigits_length] at hj;exact hj))
   rw[Lib.decDigits_length] at h;exact h
  go_wp2
  go_ret
  obtain⟨os,eo⟩:=Lib.fin_at w (.cells Lib.zeros24 326) dk k 0;exact⟨rfl,k,os,eo⟩
def Tryz.apB(u:Nat)(Hh:u<18446744073709551616)(w:yt)(Hg:Lib.TabIs Tryz.prog w "internal/strconv.uint64pow10" .u64 Lib.pow10Tab):
  Calls Tryz.prog 249 #[.int .u64 u,.int .i64 10] w fun e w'=>e=.returned (.string ⟨(Lib.decDigits u).toArray⟩)/\∃k os,w'=grow (w.drewN k) os:=by
 go_enter Tryz.func249,Tryz.ntmps249
 go_wp2_with (go_at_call 283;refine (Tryz.apA u Hh _ Hg).mono ?_;rintro e w' ⟨rfl,k,os,rfl⟩)
 go_ret
 exact⟨rfl,k,os,rfl⟩
end Go.Proofs
end
section
namespace VE
abbrev Rq(d:Nat)(o:Op):bk:=⟨Ix d,Iy,o⟩
abbrev Rt(d g:Nat)(o:Op):bk:=⟨Ix d,Ix (g,true),o⟩
abbrev Rf(d g:Nat)(o:Op):bk:=⟨Ix d,Ix (g,false),o⟩
abbrev qm(d s:Nat):bk:=⟨Ix d,Iy,.A0 (.t s)⟩
abbrev qc0(d f:Nat):bk:=⟨Ix d,Iy,.call .pure (.c (.fn (.f f) [] [])) []⟩
abbrev qc1(d f a:Nat):bk:=⟨Ix d,Iy,.call .pure (.c (.fn (.f f) [] [])) [.t a]⟩
abbrev qc2(d f a b:Nat):bk:=⟨Ix d,Iy,.call .pure (.c (.fn (.f f) [] [])) [.t a,.t b]⟩
abbrev qc3(d f a b c:Nat):bk:=⟨Ix d,Iy,.call .pure (.c (.fn (.f f) [] [])) [.t a,.t b,.t c]⟩
abbrev qc4(d f a b c e:Nat):bk:=⟨Ix d,Iy,.call .pure (.c (.fn (.f f) [] [])) [.t a,.t b,.t c,.t e]⟩
abbrev ql(d n s:Nat):bk:=⟨Ix d,Iy,.ld n false (.t s)⟩
abbrev qL(d n s:Nat):bk:=⟨Ix d,Iy,.ld n true (.t s)⟩
abbrev qk(d:Nat)(k:Int):bk:=⟨Ix d,Iy,.A0 (.c (.int .i64 k))⟩
abbrev qf(d:Nat):bk:=⟨Ix d,Iy,.A0 (.c (.bool false))⟩
abbrev qz(d:Nat):bk:=⟨Ix d,Iy,.A0 (.c .ae)⟩
abbrev qi(d n s i:Nat):bk:=⟨Ix d,Iy,.aT n (.t s) (.t i)⟩
abbrev qo(d n s:Nat):bk:=⟨Ix d,Iy,.off n (.t s)⟩
abbrev qn(d n s:Nat):bk:=⟨Ix d,Iy,.len n (.t s)⟩
abbrev qe(d n s:Nat):bk:=⟨Ix d,Iy,.ext n (.t s)⟩
abbrev qb(d n s:Nat):bk:=⟨Ix d,Iy,.box n (.t s)⟩
abbrev qs(n a b:Nat):bk:=⟨Iy,Iy,.st n (.t a) (.t b)⟩
abbrev qa(d a:Nat)(k:Int):bk:=⟨Ix d,Iy,.bin .add (.t a) (.c (.int .i64 k))⟩
abbrev qN(d a:Nat)(k:Int):bk:=⟨Ix d,Iy,.bin .neq (.t a) (.c (.int .i64 k))⟩
abbrev qE(d a:Nat)(k:Int):bk:=⟨Ix d,Iy,.bin .eql (.t a) (.c (.int .i64 k))⟩
abbrev qA(d a b:Nat):bk:=⟨Ix d,Iy,.bin .add (.t a) (.t b)⟩
abbrev qT(d a b:Nat):bk:=⟨Ix d,Iy,.bin .lss (.t a) (.t b)⟩
abbrev qp(d c b:Nat):bk:=⟨Ix d,Iy,.pick (.t c) (.c (.bool true)) (.t b)⟩
abbrev qq(d c b:Nat):bk:=⟨Ix d,Iy,.pick (.t c) (.t b) (.c (.bool false))⟩
abbrev X.k(n:Int):X:=.c (.int .i64 n)
abbrev X.u(n:Int):X:=.c (.int .u64 n)
abbrev X.F(n:Nat):X:=.c (.fn (.f n) [] [])
abbrev X.s(l:List Nat):X:=.c (.str l)
abbrev AV.i(n:Int):AV:=.int .i64 n
abbrev Op.q(f:Nat)(l:List X):Op:=.call .pure (.c (.fn (.f f) [] [])) l
abbrev Op.y(o:Go.BinOp)(a:Nat)(n:Int):Op:=.bin o (.t a) (.c (.int .i64 n))
abbrev Op.z(o:Go.BinOp)(a b:Nat):Op:=.bin o (.t a) (.t b)
abbrev Op.m(a:Nat):Op:=.A0 (.t a)
abbrev VC.g(o:List bk)(b:VC):VC:=.seq (.oB o) b
abbrev VC.q(a b:VC):VC:=.seq a b
abbrev VC.e(o:List bk):VC:=.seq (.oB o) .ret
abbrev VC.i(t:Nat)(a:VC):VC:=.cond (.t t) a .skip
abbrev VC.h(o:List bk)(t:Nat)(a b:VC):VC:=.seq (.seq (.oB o) (.cond (.t t) a .skip)) b
end VE
end
section
namespace VE
inductive Tr(α:Type) where
 | l
 | n (k:Nat) (v:α) (a b:Tr α)
def Tr.find{α:Type}:Tr α->Nat->Option α
 | .l,_=>Iy
 | .n k v a b,i=>bif yG i k then Ix v else bif yU i k then a.find i else b.find i
end VE
end
section
namespace VE
open Go (IntKind FloatKind)
def Tq:xh->Nat
 | .i8=>0 | .i16=>1 | .i32=>2 | .i64=>3 | .u8=>4 | .u16=>5 | .u32=>6 | .u64=>7
def eqI:Int->Int->Bool
 | .ofNat a,.ofNat b=>yG a b
 | .negSucc a,.negSucc b=>yG a b
 | _,_=>false
def VW:Bool->Bool->Bool
 | true,true | false,false=>true
 | _,_=>false
def eqF:uJ->uJ->Bool
 | .f32,.f32 | .f64,.f64=>true
 | _,_=>false
mutual
def jl:AV->AV->Bool
 | .int k a,.int k' b=>yG (Tq k) (Tq k')&&eqI a b
 | .bool a,.bool b=>VW a b
 | .dP k a,.dP k' b=>eqF k k'&&yG a b
 | .str a,.str b=>cU a b
 | .oY,.oY=>true
 | .aQ a,.aQ b=>qt a b
 | .ae,.ae=>true
 | .aF e n a,.aF e' n' b=>VW e e'&&(yG n n'&&qt a b)
 | .bR e s n a,.bR e' s' n' b=>VW e e'&&(yG s s'&&(yG n n'&&qt a b))
 | .fn (.f g) a b,.fn (.f g') a' b'=>yG g g'&&(qt a a'&&qt b b')
 | .kZ,.kZ=>true
 | .nD,.nD=>true
 | .nE a b,.nE a' b'=>qt a a'&&qt b b'
 | .agg a,.agg b=>qt a b
 | .ax a,.ax b=>qt a b
 | .undef,.undef=>true
 | _,_=>false
def qt:List AV->List AV->Bool
 | [],[]=>true
 | a::x,b::y=>jl a b&&qt x y
 | _,_=>false
end
def hI:Int->Nat
 | .ofNat n=>n
 | .negSucc n=>n+n
def hS:List Nat->Nat
 | []=>1
 | b::r=>(b+257*hS r)%65521
mutual
def hV:AV->Nat
 | .int _ n=>hI n
 | .bool b=>bif b then 1 else 2
 | .dP _ n=>n
 | .str s=>hS s
 | .aF _ n cs=>n+hL cs
 | .agg cs=>hL cs
 | .ax cs=>hL cs
 | _=>5
def hL:List AV->Nat
 | []=>7
 | v::r=>(hV v+263*hL r)%65521
end
abbrev Te:=Tr (List AV×AV)
abbrev cK:=List Te
def Gx(h:Nat)(az:List AV):cK->Option AV
 | []=>Iy
 | t::l=>match t.find h with
  | some (a,r)=>bif qt a az then Ix r else Gx h az l
  | none=>Gx h az l
def ake(az:List AV)(l:cK):Option AV:=Gx (hL az) az l
abbrev Te.o(h:Nat)(a:List AV)(r:AV):Te:=.n h (a,r) .l .l
abbrev Te.m(h:Nat)(a:List AV)(r:AV)(x y:Te):Te:=.n h (a,r) x y
def Gy(n:Nat):List (Tr cK)->Option cK
 | []=>Iy
 | t::r=>match t.find n with
  | none=>Gy n r
  | some l=>match Gy n r with | none=>Ix l | some m=>Ix (l++m)
def Up(L:Lib)(T:List (Tr cK))(ex:Nat):Lib:=
 ⟨fun i=>match L.pure i with
  | some sp=>Ix sp
  | none=>bif yG i ex then Iy else match Gy i T with | some l=>Ix (fun az=>ake az l) | none=>Iy,L.heap⟩
def OB(P:aJ)(L:Lib)(f:Nat):Te->Bool
 | .l=>true
 | .n _ e x y=>(match evF P L 100000 f e.1 with | some r'=>jl r' e.2 | none=>false)&&(OB P L f x&&OB P L f y)
def Tt(P:aJ)(L:Lib)(f:Nat):cK->Bool
 | []=>true
 | t::l=>OB P L f t&&Tt P L f l
def kM(P:aJ)(L:Lib)(T:List (Tr cK)):List (Nat×cK)->Bool
 | []=>true
 | (f,l)::C=>Tt P (Up L T f) f l&&kM P L T C
end VE
end
section
namespace VE
open Go
section
variable {L:Lib}{az:List AV}{f k:Nat}
def arP{a b:xh}(h:yG (Tq a) (Tq b)=true):a=b:=by
 cases a<;>cases b<;>first | rfl | (exact absurd h (by decide))
def atT{a b:Int}(h:eqI a b=true):a=b:=by
 cases a<;>cases b<;>simp only[eqI,reduceCtorEq] at h<;>rw[yz h]
def Ym{a b:Bool}(h:VW a b=true):a=b:=by
 cases a<;>cases b<;>first | rfl | (exact absurd h (by decide))
def atU{a b:uJ}(h:eqF a b=true):a=b:=by
 cases a<;>cases b<;>first | rfl | (exact absurd h (by decide))
mutual
def ag3:∀(a b:AV),jl a b=true->a=b
 | .int k a,b,h=>by
  cases b<;>simp only[jl,yj,yH] at h
  rw[arP h.1,atT h.2]
 | .bool a,b,h=>by
  cases b<;>simp only[jl,yH] at h
  rw[Ym h]
 | .dP k a,b,h=>by
  cases b<;>simp only[jl,yj,yH] at h
  rw[atU h.1,yz h.2]
 | .str a,b,h=>by
  cases b<;>simp only[jl,yH] at h
  rw[Yh h]
 | .oY,b,h=>by cases b<;>simp only[jl,yH] at h;rfl
 | .ptr _ _,b,h=>by cases b<;>simp only[jl,yH] at h
 | .aQ a,b,h=>by
  cases b<;>simp only[jl,yH] at h
  rw[Av _ _ h]
 | .ae,b,h=>by cases b<;>simp only[jl,yH] at h;rfl
 | .aF e n a,b,h=>by
  cases b<;>simp only[jl,yj,yH] at h
  rw[Ym h.1,yz h.2.1,Av _ _ h.2.2]
 | .bR e s n a,b,h=>by
  cases b<;>simp only[jl,yj,yH] at h
  rw[Ym h.1,yz h.2.1,yz h.2.2.1,Av _ _ h.2.2.2]
 | .av _ _ _,b,h=>by cases b<;>simp only[jl,yH] at h
 | .fn (.f g) x y,b,h=>by
  cases b<;>try (simp only[jl,yH] at h;done)
  rename_i fr _ _;cases fr<;>simp only[jl,yj,yH] at h
  rw[yz h.1,Av _ _ h.2.1,Av _ _ h.2.2]
 | .fn (.y _) _ _,b,h=>by cases b<;>simp only[jl,yH] at h
 | .kZ,b,h=>by cases b<;>simp only[jl,yH] at h;rfl
 | .nD,b,h=>by cases b<;>simp only[jl,yH] at h;rfl
 | .map _,b,h=>by cases b<;>simp only[jl,yH] at h
 | .nE x y,b,h=>by
  cases b<;>simp only[jl,yj,yH] at h
  rw[Av _ _ h.1,Av _ _ h.2]
 | .it _,b,h=>by cases b<;>simp only[jl,yH] at h
 | .agg a,b,h=>by
  cases b<;>simp only[jl,yH] at h
  rw[Av _ _ h]
 | .ax a,b,h=>by
  cases b<;>simp only[jl,yH] at h
  rw[Av _ _ h]
 | .undef,b,h=>by cases b<;>simp only[jl,yH] at h;rfl
def Av:∀(a b:List AV),qt a b=true->a=b
 | [],b,h=>by cases b<;>simp only[qt,yH] at h;rfl
 | x::a,b,h=>by
  cases b<;>simp only[qt,yj,yH] at h
  rw[ag3 _ _ h.1,Av _ _ h.2]
end
def Tr.Has{α:Type}(x:α):Tr α->Prop
 | .l=>False
 | .n _ v a b=>v=x\/a.Has x\/b.Has x
def Tr.Yn{α:Type}{h:Nat}{x:α}:∀{t:Tr α},t.find h=Ix x->t.Has x
 | .l,hf=>by simp[Tr.find] at hf
 | .n k v a b,hf=>by
  simp only[Tr.find] at hf
  cases h1:yG h k with
  | true=>rw[h1] at hf;simp only[yN,yc] at hf;exact .inl hf
  | false=>
   rw[h1] at hf
   cases h2:yU h k with
   | true=>rw[h2] at hf;exact .inr (.inl (Tr.Yn hf))
   | false=>rw[h2] at hf;exact .inr (.inr (Tr.Yn hf))
def VX(az:List AV)(r:AV)(l:cK):Prop:=∃t,t∈l/\t.Has (az,r)
def aff{h:Nat}{az:List AV}{r:AV}:∀{l:cK},Gx h az l=Ix r->VX az r l
 | [],hf=>by simp[Gx] at hf
 | t::l,hf=>by
  have tail:Gx h az l=Ix r->VX az r (t::l):=fun q=>by
   have⟨t',h1,h2⟩:=aff q;exact⟨t',xi _ h1,h2⟩
  simp only[Gx] at hf
  split at hf
  .rename_i a q he
   cases hb:qt a az with
   | true=>
    rw[hb] at hf;simp only[yN,yc] at hf;rw[Av _ _ hb,hf] at he;exact⟨t,xA,Tr.Yn he⟩
   | false=>
    grind
  .grind
def arQ{r:AV}{l:cK}(h:ake az l=Ix r):VX az r l:=aff h
def pg(O:bC)(f:Nat)(l:cK):Prop:=∀az r,VX az r l->fF O f az r
def pg.nil{O:bC}:pg O f []:=fun _ _ h=>by have⟨t,h,_⟩:=h;cases h
def pg.kD{O:bC}{a b:cK}(ha:pg O f a)(hb:pg O f b):pg O f (a++b):=fun v r h=>by
 have⟨t,h,h2⟩:=h;exact (List.mem_append.1 h).elim (fun h=>ha v r ⟨t,h,h2⟩) (fun h=>hb v r ⟨t,h,h2⟩)
def pg.one{O:bC}{r:AV}(h:fF O f az r):pg O f [.n k (az,r) .l .l]:=fun v q hm=>by
 have⟨t,h1,h2⟩:=hm;rcases wj.1 h1 with e | e
 .subst e;rcases h2 with h2 | h2 | h2
  .grind
  .exact h2.elim
  .exact h2.elim
 .cases e
def Tr.oI{α:Type}(p:Nat->α->Prop):Tr α->Prop
 | .l=>True
 | .n k v a b=>p k v/\a.oI p/\b.oI p
def Tr.mI{α:Type}{p:Nat->α->Prop}:Tr.oI p .l:=trivial
def Tr.oe{α:Type}{p:Nat->α->Prop}{v:α}{a b:Tr α}(h:p k v)(ha:a.oI p)(hb:b.oI p):Tr.oI p (.n k v a b):=⟨h,ha,hb⟩
def Tr.Gf{α:Type}{p:Nat->α->Prop}{i:Nat}{v:α}:∀{t:Tr α},t.oI p->t.find i=Ix v->p i v
 | .l,_,h=>by simp[Tr.find] at h
 | .n k w a b,ha,h=>by
  simp only[Tr.find] at h
  cases hb:yG i k with
  | true=>
   rw[hb] at h;simp only[yN,yc] at h;subst h;rw[yz hb];exact ha.1
  | false=>
   rw[hb] at h
   cases hc:yU i k with
   | true=>rw[hc] at h;exact Tr.Gf ha.2.1 h
   | false=>rw[hc] at h;exact Tr.Gf ha.2.2 h
abbrev bC.CK(O:bC)(L:Lib):bC:={O with a8:=L}
def ag4{O:bC}{m:Mp}{S:Nat->Prop}{w:yt}{id:Nat}{o:Obj}:gZ (O.CK L) m S w id o↔gZ O m S w id o:=by
 cases o<;>exact Iff.rfl
def ag5{O:bC}{m:Mp}{S:Nat->Prop}{w:yt}{hp:Hp}{ct:Nat}:aW (O.CK L) m S w hp ct↔aW O m S w hp ct:=
 ⟨fun h=>⟨fun id o p h1 h2=>ag4.1 (h.obj id o p h1 h2),h.lt,h.inj,h.slt,h.blt,h.low,h.nF,h.iG,h.aY⟩,
  fun h=>⟨fun id o p h1 h2=>ag4.2 (h.obj id o p h1 h2),h.lt,h.inj,h.slt,h.blt,h.low,h.nF,h.iG,h.aY⟩⟩
def af9{O:bC}{n:Nat}{hp:Hp}{ct:Nat}{v:AV}{aq:Hp}{bc:Nat}(h:ED O n hp ct az v aq bc):ED (O.CK L) n hp ct az v aq bc:=by
 intro m S w args h1 h2;have post:∀e w',CB O m S w hp ct v aq bc e w'->CB (O.CK L) m S w hp ct v aq bc e w':=by
  rintro e w' ⟨u,m',S',k1,k2,k3,k4,k5⟩;exact⟨u,m',S',k1,ag5.2 k2,k3,k4,k5⟩
 exact Ef.mono (h m S w args (ag5.1 h1) h2) post
def iv(O:bC)(T:List (Tr cK)):Prop:=∀t,t∈T->t.oI (pg O)
def iv.nil{O:bC}:iv O []:=fun _ h=>by cases h
def iv.cons{O:bC}{t:Tr cK}{T:List (Tr cK)}(h:t.oI (pg O))(hT:iv O T):iv O (t::T):=fun u hu=>by
 rcases wj.1 hu with e | e
 .grind
 .exact hT u e
def XO{O:bC}{n:Nat}:∀{T:List (Tr cK)} {l:cK},iv O T->Gy n T=Ix l->pg O n l
 | [],_,_,h=>by simp[Gy] at h
 | t::T,l,hT,h=>by
  have VY:iv O T:=fun u hu=>hT u (xi _ hu)
  simp only[Gy] at h
  split at h
  .exact XO VY h
  .rename_i l1 h1;have c1:=Tr.Gf (hT t xA) h1
   split at h
   .grind
   .rename_i m h2;simp only[yc] at h;subst h;exact pg.kD c1 (XO VY h2)
def ain{O:bC}(hO:jq O){T:List (Tr cK)}(hT:iv O T)(ex:Nat):jq (O.CK (Up O.a8 T ex)) where
 hint:=hO.hint
 mixed:=hO.mixed
 prog:=hO.prog
 a8 n sp az r h hs:=by
  simp only[Up] at h
  cases hl:O.a8.pure n with
  | some VZ=>
   simp only[hl,yc] at h;subst h;exact hO.a8 n _ az r hl hs
  | none=>
   simp only[hl] at h
   cases hb:yG n ex with
   | true=>rw[hb] at h;cases h
   | false=>
    rw[hb] at h;simp only[y5] at h
    cases hf:Gy n T with
    | none=>simp[hf] at h
    | some l=>
     simp only[hf,yc] at h;subst h;exact XO hT hf az r (arQ hs)
 JU n sp hp ct az v aq bc h hs:=af9 (hO.JU n sp hp ct az v aq bc h hs)
def XP{O:bC}{L:Lib}(hO:jq (O.CK L)){f:Nat}{az:List AV}{r:AV}:∀{t:Te},OB O.prog L f t=true->t.Has (az,r)->fF O f az r
 | .l,_,h=>h.elim
 | .n k e x y,h,hm=>by
  simp only[OB,yj] at h;rcases hm with e1 | hm | hm
  .subst e1;have h1:=h.1
   split at h1
   .rename_i r' hr;have e:r'=r:=ag3 _ _ h1;rw[<-e];exact sound hO hr
   .cases h1
  .exact XP hO h.2.1 hm
  .exact XP hO h.2.2 hm
def afg{O:bC}{L:Lib}(hO:jq (O.CK L)){f:Nat}:∀{l:cK},Tt O.prog L f l=true->pg O f l
 | [],_=>pg.nil
 | t::l,h=>by
  simp only[Tt,yj] at h;intro v q hm;have⟨t',h1,h2⟩:=hm;rcases wj.1 h1 with e | e
  .subst e;exact XP hO h.1 h2
  .exact afg hO h.2 v q ⟨t',e,h2⟩
def chunk_ok{O:bC}(hO:jq O){T:List (Tr cK)}(hT:iv O T):∀{C:List (Nat×cK)},kM O.prog O.a8 T C=true->∀f l,(f,l)∈C->pg O f l
 | [],_,f,l,h=>by cases h
 | (g,l')::C,h,f,l,hm=>by
  simp only[kM,yj] at h;rcases wj.1 hm with e | hm
  .injection e with e1 e2
   subst e1;subst e2;exact afg (ain hO hT f) h.1
  .exact chunk_ok hO hT h.2 f l hm
def aN{α:Type}{p:Nat->α->Prop}{v:α}{a b:Tr α}(h:p k v)(ha:a.oI p)(hb:b.oI p):Tr.oI p (.n k v a b):=Tr.oe h ha hb
def aL{α:Type}{p:Nat->α->Prop}:Tr.oI p .l:=Tr.mI
end
end VE
end
section
namespace VE
open Go
structure HD where
 n:Nat
 live:List (Nat×List Nat)
 out:List (Nat×List Nat)
 mode:List (Nat×Md)
 fz:List (Nat×List Nat)
 deriving Inhabited
def Og{α:Type}(i:Nat):List (Nat×α)->Option α
 | []=>Iy
 | (j,a)::l=>bif yG j i then Ix a else Og i l
def ayE(cg:Nat->Option Nat)(d:HD):Hint where
 n:=d.n
 cg:=cg
 live:=fun l=>match Og l d.live with | some x=>x | none=>[]
 out:=fun l=>Og l d.out
 mode:=fun k=>match Og k d.mode with | some x=>x | none=>.pure
 fz:=fun i=>match Og i d.fz with | some x=>x | none=>[]
def Tu(cg:Tr Nat)(t:Tr HD)(i:Nat):Hint:=ayE cg.find (match t.find i with | some d=>d | none=>⟨0,[],[],[],[]⟩)
def Dd(t:Tr Nat)(i:Nat):Nat:=match t.find i with | some f=>f | none=>0
def Oh(ai:Tr Nat):Tr Nat->Bool
 | .l=>true
 | .n f g a b=>yG (Dd ai g) f&&(Oh ai a&&Oh ai b)
def Xt{ai:Tr Nat}:∀{t:Tr Nat},Oh ai t=true->t.oI (fun f g=>Dd ai g=f)
 | .l,_=>trivial
 | .n f g a b,h=>by
  simp only[Oh,yj] at h;exact⟨yz h.1,Xt h.2.1,Xt h.2.2⟩
def Zq(P:xM)(ai:Tr Nat)(cg:Tr Nat)(hd:Tr HD)(i:Nat)(F:aw):Prop:=
 ∃fn,P.funcs[Dd ai i]? =Ix fn/\I8 P (Tu cg hd i) fn=Ix F/\fn.name≠ "runtime.NumGoroutine"
def arR{P:xM}{ai cg:Tr Nat}{hd:Tr HD}{i:Nat}{F:aw}(h:(P.funcs[Dd ai i]?).bind (I8 P (Tu cg hd i))=Ix F)(h2:(P.funcs[Dd ai i]?).map (fun fn=>decide (fn.name= "runtime.NumGoroutine"))=Ix false):Zq P ai cg hd i F:=by
 unfold Zq
 cases hq:P.funcs[Dd ai i]? with
 | none=>rw[hq] at h;cases h
 | some fn=>
  rw[hq] at h h2;refine⟨fn,rfl,h,fun e=>?_⟩;simp only[Option.map_some,yc,e,yo] at h2;cases h2
end VE
end
section
namespace VE
def an{α:Type}{a b:α}(_:a=b):α:=b
attribute [go_sem] an
def KQ{α:Type}:Nat->List (Nat×α)->Tr α
 | 0,_=>.l
 | n+1,l=>match l.drop (l.length/2) with
  | []=>.l
  | a::r=>.n a.1 a.2 (KQ n (l.take (l.length/2))) (KQ n r)
namespace sS
open Go
open Go.Proofs
def fl:List (Nat×Nat):=[(1,7),(3,33),(4,102),(5,50),(9,51),(14,41),(15,46),(16,45),(17,47),(18,48),(19,31),(20,49),(21,52),(22,53),(23,55),(24,54),(25,56),(26,13),(27,20),(28,57),(29,18),(30,58),(31,63),(32,138),(33,62),(34,133),(35,134),(36,135),(37,69),(38,136),(39,137),(40,131),(41,139),(42,114),(44,125),(45,124),(46,113),(47,126),(48,127),(49,111),(50,128),(51,68),(52,129),(53,103),(54,106),(55,105),(56,107),(57,104),(58,132),(59,141),(60,66),(61,83),(62,89),(63,142),(64,143),(65,144),(66,145),(67,146),(68,147),(69,112),(70,148),(71,149),(72,150),(73,152),(74,88),(75,151),(76,64),(77,65),(78,67),(79,70),(80,71),(81,72),(82,74),(83,73),(84,80),(85,81),(86,82),(87,84),(88,85),(89,86),(90,90),(91,92),(92,91),(93,93),(94,210),(95,209),(96,140),(97,130),(98,181),(99,201),(100,185),(101,184),(102,207),(103,194),(104,165),(105,166),(106,195),(107,162),(108,180),(109,174),(110,177),(111,182),(112,212),(113,213),(114,214),(115,159),(116,164),(117,179),(118,178),(119,183),(120,158),(121,160),(122,161),(123,163),(124,169),(125,168),(126,171),(127,170),(128,173),(129,175),(130,176),(131,87),(132,255),(133,211),(134,208),(135,247),(136,229),(137,248),(138,249),(139,250),(140,251),(141,252),(142,236),(143,235),(144,237),(145,230),(146,221),(147,227),(148,234),(149,241),(150,242),(151,216),(152,223),(153,224),(154,225),(155,226),(156,228),(157,231),(158,232),(159,233),(160,215),(161,172),(162,220),(163,196),(164,222),(165,279),(166,269),(167,280),(168,281),(169,282),(170,287),(171,268),(172,197),(173,270),(174,309),(175,243),(258,8),(261,17),(262,101),(263,38),(264,26),(265,15),(267,27),(268,94),(271,21),(272,117),(273,118),(274,97),(275,119),(276,96),(277,43),(278,100),(279,99),(280,98),(281,76),(282,75),(284,156),(285,155),(286,157),(287,203),(288,187),(289,189),(290,186),(291,122),(292,123),(293,193),(294,167),(295,190),(296,191),(297,192),(298,188),(299,238),(300,217),(301,239),(302,240),(306,61),(307,153),(308,35),(314,154),(315,28),(319,23),(321,6),(331,12),(335,59),(343,14),(347,22),(349,19),(351,95),(352,25),(357,10),(358,11),(359,60),(361,9),(364,24),(366,3),(367,16),(368,78),(369,77),(370,79)]
def ai:Tr Nat:=an (a:=KQ 9 fl) (by conv=>{lhs;reduce})
def ins(x:Nat×Nat):List (Nat×Nat)->List (Nat×Nat)
 | []=>[x]
 | y::r=>bif yU x.1 y.1 then x::y::r else y::ins x r
def inv:List (Nat×Nat)->List (Nat×Nat)
 | []=>[]
 | p::r=>ins (p.2,p.1) (inv r)
def cg:Tr Nat:=an (a:=KQ 9 (inv fl)) (by conv=>{lhs;reduce})
def h0(n:Nat):HD:=⟨n,[],[],[],[]⟩
def hd:Tr HD:=an (a:=KQ 9 [(1,h0 240),(3,⟨40,[(2,[0,3]),(5,[0,3,4])],[(2,[]),(5,[0,3])],[],[]⟩),(4,h0 15),(5,⟨48,[],[],[(9,.heap)],[]⟩),(9,h0 42),(14,h0 8),(15,h0 4),(16,h0 15),(17,h0 26),(18,h0 25),(19,h0 26),(20,h0 24),(21,⟨27,[(1,[0,1,5])],[(1,[])],[],[]⟩),(22,h0 36),(23,h0 5),(24,h0 27),(25,h0 67),(26,⟨101,[(2,[0,2,3,11,12,69,70,71]),(4,[0,2,3,11,12,14,69,70,71,75,76,77])],[(2,[12]),(4,[0,2,3,11,12,69,70,71])],[],[(18,[17])]⟩),(27,⟨100,[(2,[1,5,9,10,46,47]),(4,[1,5,9,10,11,46,47,50,51,52])],[(2,[1,5,9,10]),(4,[1,5,9,10,46,47])],[],[]⟩),(28,⟨27,[(1,[0,1,5])],[(1,[])],[],[]⟩),(29,⟨26,[(1,[0,1,5])],[(1,[])],[],[]⟩),(30,h0 15),(31,h0 7),(32,⟨32,[(0,[0,3,9,10,11])],[(0,[])],[],[]⟩),(33,⟨15,[(0,[5,6,7])],[(0,[])],[],[]⟩),(34,h0 16),(35,⟨22,[(0,[1,5,8,9,10])],[(0,[5])],[],[]⟩),(36,h0 5),(37,⟨21,[(0,[0,2,9,10,11])],[(0,[0])],[],[]⟩),(38,h0 8),(39,⟨38,[(0,[4,8,9,18,19,20])],[(0,[9])],[],[]⟩),(40,⟨32,[],[],[(1,.dyn)],[]⟩),(41,h0 39),(42,⟨19,[(0,[0,3])],[(0,[])],[],[]⟩),(44,h0 13),(45,h0 25),(46,h0 16),(47,h0 13),(48,h0 21),(49,h0 16),(50,h0 9),(51,h0 5),(52,h0 28),(53,h0 11),(54,h0 10),(55,h0 28),(56,⟨41,[(0,[1,2,4,5,11,12])],[(0,[4,5])],[],[]⟩),(57,h0 8),(58,h0 16),(59,⟨26,[(1,[0,1,5])],[(1,[])],[],[]⟩),(60,h0 11),(61,h0 17),(62,h0 22),(63,h0 15),(64,h0 29),(65,h0 9),(66,h0 30),(67,h0 25),(68,h0 8),(69,h0 6),(70,h0 9),(71,h0 16),(72,h0 16),(73,h0 8),(74,h0 34),(75,h0 14),(76,h0 9),(77,⟨22,[(0,[1,5,8,9,10])],[(0,[5])],[],[]⟩),(78,h0 9),(79,⟨22,[(0,[1,5,8,9,10])],[(0,[5])],[],[]⟩),(80,h0 10),(81,h0 8),(82,⟨137,[(0,[3,4,6,7,11,12,32,33,34]),(3,[3,4,6,7,11,12,14,15,16,32,33,34,54,55]),(6,[3,4,6,7,11,12,14,15,32,33,34,89,90]),(9,[11,27,118,119])],[(0,[4,11]),(3,[3,4,6,7,11,12,14,15,32,33,34]),(6,[3,4,6,7,11,12,15,32,33,34]),(9,[27])],[],[]⟩),(83,h0 8),(84,h0 20),(85,⟨22,[(0,[1,5,8,9,10])],[(0,[5])],[],[]⟩),(86,h0 76),(87,⟨22,[(0,[1,5,8,9,10])],[(0,[5])],[],[]⟩),(88,⟨23,[(0,[3,9,10,11])],[(0,[3])],[],[]⟩),(89,⟨46,[(0,[0,1,4,11,12,13]),(2,[0,1,4,5,6,7,11,12,13,18,19,20])],[(0,[4]),(2,[0,1,4,7,11,12,13])],[],[(14,[7])]⟩),(90,⟨143,[(0,[0,1,5,6,19,20]),(2,[5,6,49,50]),(4,[5,6,8,49,50,53,54]),(7,[5,6,8,9,10,11,49,50,53,54]),(9,[5,6,12,119,120])],[(0,[5,6]),(2,[5,6]),(4,[5,6,49,50]),(7,[5,6,8,49,50,53,54]),(9,[12])],[],[]⟩),(91,h0 7),(92,⟨22,[(0,[1,5,8,9,10])],[(0,[5])],[],[]⟩),(93,h0 7),(94,h0 13),(95,h0 9),(96,h0 4),(97,h0 20),(98,h0 13),(99,⟨69,[(1,[3,4,5,6]),(6,[6,10,11])],[(1,[3,6]),(6,[10])],[],[]⟩),(100,h0 66),(101,h0 34),(102,h0 9),(103,h0 34),(104,h0 32),(105,h0 22),(106,⟨21,[(0,[2,3,6,9,10,11])],[(0,[3,6])],[],[]⟩),(107,h0 11),(108,h0 6),(110,⟨41,[(0,[0,2,3,4])],[(0,[2,3,4])],[],[]⟩),(111,h0 6),(112,h0 16),(113,h0 11),(114,h0 10),(115,h0 23),(116,h0 32),(117,h0 5),(118,h0 29),(119,h0 67),(120,⟨22,[(0,[1,5,8,9,10])],[(0,[5])],[],[]⟩),(121,⟨22,[(0,[1,5,8,9,10])],[(0,[5])],[],[]⟩),(122,h0 9),(123,⟨23,[(0,[3,9,10,11])],[(0,[3])],[],[]⟩),(124,h0 7),(125,⟨15,[(0,[5,6,7])],[(0,[])],[],[]⟩),(126,h0 24),(127,⟨21,[(0,[1,8,9,10])],[(0,[])],[],[]⟩),(129,h0 19),(130,⟨23,[(0,[2,3,4])],[(0,[2,4])],[],[]⟩),(131,⟨26,[(0,[0,1,4,5,9,10])],[(0,[4,5])],[],[]⟩),(132,⟨19,[(0,[0,1,7,8])],[(0,[])],[],[]⟩),(133,⟨20,[(0,[0,1,5,6]),(2,[0,1,3,5,6,9,10])],[(0,[]),(2,[0,1,5,6])],[(0,.heap)],[]⟩),(134,h0 12),(136,h0 24),(137,⟨137,[(2,[0,1,6,7,8]),(4,[9,10,11,12,13,14]),(6,[9,11,12,13,96,97])],[(2,[6,7]),(4,[9,11,12,13]),(6,[11,12,13])],[(5,.own),(7,.own),(8,.heap)],[]⟩),(142,h0 10),(144,⟨80,[(0,[1,5,20,21,22]),(2,[1,5,6,7,8,20,21,22,27,28,29])],[(0,[5]),(2,[1,5,6,8,20,21,22])],[],[]⟩),(145,h0 50),(146,h0 7),(147,h0 26),(148,h0 21),(149,h0 14),(150,h0 9),(151,h0 13),(155,⟨23,[(0,[1,2,4,5])],[(0,[4,5])],[],[]⟩),(156,h0 9),(157,⟨54,[(1,[0,1,5,6,21,22])],[(1,[0,5,6])],[],[]⟩),(158,⟨41,[(2,[0,1,5])],[(2,[])],[],[]⟩),(159,⟨41,[(0,[0,1,5,6,13,14])],[(0,[5])],[],[]⟩),(160,⟨19,[(0,[0,1,7,8])],[(0,[])],[],[]⟩),(161,⟨18,[(0,[6,7,8])],[(0,[])],[],[]⟩),(163,h0 9),(164,h0 84),(165,⟨135,[(3,[2,8,9,10,11,13,14,15,16]),(6,[2,8,9,10,14,15,16,17,18])],[(3,[2,8,9,10,11,13,14,15]),(6,[2,8,14,15,17,18])],[],[]⟩),(166,⟨21,[(0,[0,3])],[(0,[0,3])],[],[]⟩),(168,⟨40,[(0,[1,5,12,13,14])],[(0,[5])],[],[]⟩),(169,⟨186,[(1,[0,1,5,6,7,8]),(4,[0,1,5,6,11,12,104,105]),(7,[0,1,5,6,17,156,157])],[(1,[0,1,5,6]),(4,[0,1,5,6,11,12]),(7,[0,5,6,17])],[],[]⟩),(172,h0 25),(258,h0 5),(261,⟨19,[(0,[0,3])],[(0,[])],[],[]⟩),(262,h0 13),(263,h0 96),(264,h0 63),(265,h0 6),(267,h0 55),(268,h0 14),(271,h0 9),(272,⟨17,[(0,[0,3])],[(0,[0])],[],[]⟩),(273,h0 18),(274,h0 25),(275,⟨19,[(0,[0,1])],[(0,[0])],[],[]⟩),(276,h0 54),(277,h0 61),(278,h0 16),(279,h0 40),(280,h0 57),(281,⟨25,[(0,[0,2,3,4])],[(0,[2,3,4])],[],[]⟩),(282,⟨39,[(1,[1,3,4])],[(1,[1,3])],[],[]⟩),(284,h0 7),(285,h0 9),(286,h0 14),(287,⟨20,[(0,[0,3])],[(0,[])],[],[]⟩),(288,⟨40,[(1,[0,2,3,4])],[(1,[0,2,3,4])],[],[]⟩),(289,⟨206,[(2,[0,8,9,10,11]),(4,[8,9,10,11,12,13]),(6,[8,9,10,11,12,13,14,15,16]),(10,[8,9,10,11,12,13,14,19,20])],[(2,[8,9,10,11]),(4,[8,10,11,12]),(6,[8,9,10,11,12,13,14,15]),(10,[8,9,10,11,12,13,14,19])],[(5,.heap)],[]⟩),(290,⟨20,[(0,[0,3,4])],[(0,[3])],[],[]⟩),(291,⟨12,[(0,[0,1])],[(0,[0])],[],[]⟩),(292,⟨25,[(0,[0,1,5])],[(0,[5])],[],[]⟩),(293,⟨72,[(0,[0,1,5,6]),(2,[0,1,5,6,7,8])],[(0,[5]),(2,[0,1,5,6,7])],[],[]⟩),(294,h0 15),(295,⟨42,[(0,[0,1,5,6,7])],[(0,[5])],[],[]⟩),(296,⟨41,[(2,[0,1,5])],[(2,[])],[],[]⟩),(297,⟨35,[(0,[0,1,5,6,7])],[(0,[5])],[],[]⟩),(298,h0 9),(299,⟨39,[(0,[0,1,6,7,8])],[(0,[6,7])],[],[]⟩),(300,⟨21,[(0,[0])],[(0,[0])],[],[]⟩),(301,⟨77,[(0,[0,1,2,7,9,10])],[(0,[9])],[],[]⟩),(302,h0 13),(306,h0 11),(307,h0 5),(308,h0 9),(314,h0 17),(315,h0 9),(319,h0 5),(321,⟨19,[(0,[0,3,6,7])],[(0,[3])],[],[]⟩),(331,⟨27,[(0,[0,3,4])],[(0,[3])],[],[]⟩),(335,h0 23),(343,⟨47,[(2,[0,3])],[(2,[])],[],[]⟩),(347,⟨34,[(0,[0,3,4]),(2,[0,3,4,5,6])],[(0,[3]),(2,[0,3,4,5])],[],[(10,[5])]⟩),(349,⟨23,[(0,[0,1,5,6])],[(0,[5])],[],[]⟩),(351,h0 10),(352,⟨25,[(0,[0,1,5,6])],[(0,[5])],[],[]⟩),(357,h0 20),(358,h0 15),(359,h0 31),(361,h0 47),(364,⟨25,[(1,[0,2,7])],[(1,[])],[],[]⟩),(366,⟨359,[(1,[0,2,4,7,89,90]),(4,[0,2,4,7,102,103]),(7,[0,2,4,7,116,117]),(12,[0,2,4,11,13,14,171,172]),(14,[0,2,4,11,13,14,15,171,172,180,181]),(16,[0,2,4,11,13,14,15,171,172,180,181,191,192,193]),(18,[0,2,4,11,13,14,207,208]),(24,[2,11,13,14,22,24,25,276,277]),(26,[2,11,13,14,22,24,27,298,299]),(30,[14,22,24,29,329,330,331])],[(1,[0,2,4,7]),(4,[0,2,4,7]),(7,[0,2,4,7]),(12,[0,2,4,11,13,14]),(14,[0,2,4,11,13,14,171,172]),(16,[0,2,4,11,13,14,15,171,172,180,181]),(18,[2,11,13,14]),(24,[2,11,13,14,22,24]),(26,[2,11,13,14,22,24]),(30,[22,24,29])],[],[]⟩),(367,h0 30),(368,h0 11),(369,⟨22,[(0,[1,5,8,9,10])],[(0,[5])],[],[]⟩),(370,⟨33,[(0,[3,5,6,8,9,13,14,15])],[(0,[8,9])],[],[]⟩)]) (by conv=>{lhs;reduce})
def ayF:Oh ai cg=true:=by decide+kernel
noncomputable def cc(i:Nat):aw:=match (Tryz.prog.funcs[Dd ai i]?).bind (I8 Tryz.prog (Tu cg hd i)) with
 | some F=>F
 | none=>⟨[],.skip⟩
end sS
def nest:VC->List VC
 | .seq a b=>nest a++nest b
 | .cond _ a b=>nest a++nest b
 | .jj _ a=>nest a
 | .loop _ a=>[a]
 | .rf _ _ a b=>[a,b]
 | _=>[]
def rN:VC->List VC->VC×List VC
 | .seq a b,l=>(.seq (rN a l).1 (rN b (rN a l).2).1,(rN b (rN a l).2).2)
 | .cond x a b,l=>(.cond x (rN a l).1 (rN b (rN a l).2).1,(rN b (rN a l).2).2)
 | .jj i a,l=>(.jj i (rN a l).1,(rN a l).2)
 | .loop v a,l=>(.loop v (l.headD a),l.tail)
 | .rf f ps a b,l=>(.rf f ps (l.headD a) (l.tail.headD b),l.tail.tail)
 | c,l=>(c,l)
def alM(c:VC):List Nat->VC
 | []=>c
 | i::r=>alM ((nest c).getD i .skip) r
noncomputable def bh(F:aw)(p:List Nat)(l:List VC):VC:=(rN (alM F.body p) l).1
noncomputable def bT(F:aw)(l:List VC):aw:=⟨F.eG,(rN F.body l).1⟩
end VE
end
