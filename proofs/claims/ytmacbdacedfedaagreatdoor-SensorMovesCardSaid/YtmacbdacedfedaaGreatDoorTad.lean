import Derived.Lib.AppendIntMem
import Derived.OwnWalk
import Derived.WalkKit
import Derived.KernelRfl
import Derived.Attr
import Derived.Test.YtmacbdacedfedaaGreatDoorTac
import Derived.Test.YtmacbdacedfedaaGreatDoorTab
set_option linter.all false
set_option maxRecDepth 100000
open Array renaming size_replicate->uv
open Bool renaming and_eq_true->ye,false_eq_true->yC
open Go renaming FloatKind->xW,IntKind->xd,Program->xm,World->yi
open List renaming mem_cons->xI,mem_cons_of_mem->xL,mem_cons_self->wI
open Nat renaming beq->ym,blt->yI,eq_of_beq_eq_true->yf
open Option.some renaming injEq->yb
open Option renaming some->Ft,none->Fu
section
namespace Go.Proofs
open Go.Shelf
open Go.RowKit Go.Sort Go.Lib
set_option maxHeartbeats 6400000 in
set_option maxRecDepth 100000 in
def Tryz.aiR(u:Nat)(Ez:u<18446744073709551616)(w:yi)(Ey:Lib.TabIs Tryz.prog w "internal/strconv.uint64pow10" .u64 Lib.pow10Tab):
  Calls Tryz.prog 271 #[.int .u64 u,.int .i64 10] w fun e w'=>e=.returned (.string ⟨(Lib.decDigits u).toArray⟩)/\∃k os,w'=grow (w.drewN k) os:=by
 by_cases hs:u<100
 .go_enter Tryz.func271,Tryz.ntmps271
  go_wp2_with (go_at_call 301;refine (Tryz.internal_strconv_small u hs _).mono ?_;rintro e w' ⟨rfl,rfl⟩)
  go_ret
  exact⟨rfl,0,#[],by simp[World.drewN_zero]⟩
 .have sW:1<=u:=by omega
  have aDE:Lib.nDigits u<=20:=by have:=Lib.numDigits_eq u sW Ez;split at this<;>omega
  have sZ:Tryz.prog.arrayLen 343=24:=by simp[Program.arrayLen,Tryz.underlying343]
  have CX:∀W,(Instr.sliceAt 343 (.pointer (Ft ⟨w.heap.size,0,Fu⟩)) Fu (Ft (.int .i64 (Lib.nDigits u:Int))) Fu).run Tryz.prog W=.ok (.slice (Ft ⟨w.heap.size,0,Fu⟩) (Lib.nDigits u) 24) W:=fun W=>by
   rw[run_sliceAt_array_h W 343 ⟨w.heap.size,0,Fu⟩ (by simp[Program.arrayLen,Program.elem,Tryz.underlying343]) .i64 (Lib.nDigits u:Int) (by omega) (by rw[sZ];omega)]
   go_simp
  have WE:=Lib.holds_zero0 w 343 (Lib.nDigits u) (by omega);have aeT:=Tryz.internal_strconv_formatBase10 w.heap.size 0 24 u (Array.replicate (Lib.nDigits u) 0) (w.alloc (.cells Lib.zeros24 343)) WE (by rw[uv];exact Lib.lt_pow_nDigits u) Ez (by rw[uv];omega)
  rw[uv] at aeT;have HH0:=Lib.hid WE;have iu:(100:Int)<=(u:Int):=by omega
  clear WE sZ
  go_enter Tryz.func271,Tryz.ntmps271
  go_wp2_with (first
   | (go_at_call 302;refine (Tryz.internal_strconv_numDigits u sW Ez _ (Lib.tabIs_alloc Ey _)).mono ?_;rintro e w' ⟨rfl,rfl⟩))
  go_at_call 303
  refine aeT.mono ?_;rintro e w' ⟨rfl,k,v',dk,rfl,hF⟩;have gM:(convert 49 9 (.slice (Ft ⟨w.heap.size,0,Fu⟩) (Lib.nDigits u) 24)).run Tryz.prog ((putRow (fun (b:UInt8)=>Value.int .u8 (b.toNat:Int)) (w.alloc (.cells Lib.zeros24 343)) w.heap.size 0 dk).drewN k)=.ok (.string ⟨(Lib.decDigits u).toArray⟩) ((putRow (fun (b:UInt8)=>Value.int .u8 (b.toNat:Int)) (w.alloc (.cells Lib.zeros24 343)) w.heap.size 0 dk).drewN k):=by
   have h:=run_convert_bytes_back (P:=Tryz.prog) ((putRow (fun (b:UInt8)=>Value.int .u8 (b.toNat:Int)) (w.alloc (.cells Lib.zeros24 343)) w.heap.size 0 dk).drewN k) 49 9 5 ⟨w.heap.size,0,Fu⟩ 24 (Lib.decDigits u) Tryz.underlying49 Tryz.underlying5 Tryz.underlying9 (fun j hj=>by
    rw[Lib.row_is_numeral hF j hj,Lib.add_plain,World.cell?_drewN]
    exact cell?_putRow (fun (b:UInt8)=>Value.int .u8 (b.toNat:Int)) _ w.heap.size 0 _ dk HH0.out (by rw[hF.size,uv]) j (by rw[hF.size];rw[Lib.decDigits_length] at hj;exact hj))
   rw[Lib.decDigits_length] at h;exact h
  go_wp2
  go_ret
  obtain⟨os,eo⟩:=Lib.fin_at w (.cells Lib.zeros24 343) dk k 0;exact⟨rfl,k,os,eo⟩
def Tryz.aiT(u:Nat)(Ez:u<18446744073709551616)(w:yi)(Ey:Lib.TabIs Tryz.prog w "internal/strconv.uint64pow10" .u64 Lib.pow10Tab):
  Calls Tryz.prog 241 #[.int .u64 u,.int .i64 10] w fun e w'=>e=.returned (.string ⟨(Lib.decDigits u).toArray⟩)/\∃k os,w'=grow (w.drewN k) os:=by
 go_enter Tryz.func241,Tryz.ntmps241
 go_wp2_with (go_at_call 271;refine (Tryz.aiR u Ez _ Ey).mono ?_;rintro e w' ⟨rfl,k,os,rfl⟩)
 go_ret
 exact⟨rfl,k,os,rfl⟩
end Go.Proofs
end
section
namespace VE
abbrev Rq(d:Nat)(o:Op):aQ:=⟨Ft d,Fu,o⟩
abbrev Rt(d g:Nat)(o:Op):aQ:=⟨Ft d,Ft (g,true),o⟩
abbrev Rf(d g:Nat)(o:Op):aQ:=⟨Ft d,Ft (g,false),o⟩
abbrev qm(d s:Nat):aQ:=⟨Ft d,Fu,.qX (.t s)⟩
abbrev qc0(d f:Nat):aQ:=⟨Ft d,Fu,.call .pure (.c (.fn (.f f) [] [])) []⟩
abbrev P8(d f a:Nat):aQ:=⟨Ft d,Fu,.call .pure (.c (.fn (.f f) [] [])) [.t a]⟩
abbrev E4(d f a b:Nat):aQ:=⟨Ft d,Fu,.call .pure (.c (.fn (.f f) [] [])) [.t a,.t b]⟩
abbrev qc3(d f a b c:Nat):aQ:=⟨Ft d,Fu,.call .pure (.c (.fn (.f f) [] [])) [.t a,.t b,.t c]⟩
abbrev ql(d n s:Nat):aQ:=⟨Ft d,Fu,.ld n false (.t s)⟩
abbrev qL(d n s:Nat):aQ:=⟨Ft d,Fu,.ld n true (.t s)⟩
abbrev qk(d:Nat)(k:Int):aQ:=⟨Ft d,Fu,.qX (.c (.int .i64 k))⟩
abbrev qf(d:Nat):aQ:=⟨Ft d,Fu,.qX (.c (.bool false))⟩
abbrev qz(d:Nat):aQ:=⟨Ft d,Fu,.qX (.c .af)⟩
abbrev qi(d n s i:Nat):aQ:=⟨Ft d,Fu,.bh n (.t s) (.t i)⟩
abbrev qo(d n s:Nat):aQ:=⟨Ft d,Fu,.off n (.t s)⟩
abbrev qn(d n s:Nat):aQ:=⟨Ft d,Fu,.len n (.t s)⟩
abbrev qe(d n s:Nat):aQ:=⟨Ft d,Fu,.ext n (.t s)⟩
abbrev qb(d n s:Nat):aQ:=⟨Ft d,Fu,.box n (.t s)⟩
abbrev qs(n a b:Nat):aQ:=⟨Fu,Fu,.st n (.t a) (.t b)⟩
abbrev qa(d a:Nat)(k:Int):aQ:=⟨Ft d,Fu,.bin .add (.t a) (.c (.int .i64 k))⟩
abbrev qN(d a:Nat)(k:Int):aQ:=⟨Ft d,Fu,.bin .neq (.t a) (.c (.int .i64 k))⟩
abbrev qE(d a:Nat)(k:Int):aQ:=⟨Ft d,Fu,.bin .eql (.t a) (.c (.int .i64 k))⟩
abbrev qA(d a b:Nat):aQ:=⟨Ft d,Fu,.bin .add (.t a) (.t b)⟩
abbrev qT(d a b:Nat):aQ:=⟨Ft d,Fu,.bin .lss (.t a) (.t b)⟩
abbrev qp(d c b:Nat):aQ:=⟨Ft d,Fu,.pick (.t c) (.c (.bool true)) (.t b)⟩
abbrev qq(d c b:Nat):aQ:=⟨Ft d,Fu,.pick (.t c) (.t b) (.c (.bool false))⟩
abbrev X.k(n:Int):X:=.c (.int .i64 n)
abbrev X.u(n:Int):X:=.c (.int .u64 n)
abbrev X.F(n:Nat):X:=.c (.fn (.f n) [] [])
abbrev X.s(l:List Nat):X:=.c (.str l)
abbrev AV.i(n:Int):AV:=.int .i64 n
abbrev Op.q(f:Nat)(l:List X):Op:=.call .pure (.c (.fn (.f f) [] [])) l
abbrev Op.y(o:Go.BinOp)(a:Nat)(n:Int):Op:=.bin o (.t a) (.c (.int .i64 n))
abbrev Op.z(o:Go.BinOp)(a b:Nat):Op:=.bin o (.t a) (.t b)
abbrev Op.m(a:Nat):Op:=.qX (.t a)
abbrev VC.g(o:List aQ)(b:VC):VC:=.seq (.ju o) b
abbrev VC.q(a b:VC):VC:=.seq a b
abbrev VC.e(o:List aQ):VC:=.seq (.ju o) .ret
abbrev VC.i(t:Nat)(a:VC):VC:=.cond (.t t) a .skip
abbrev VC.h(o:List aQ)(t:Nat)(a b:VC):VC:=.seq (.seq (.ju o) (.cond (.t t) a .skip)) b
end VE
end
section
namespace VE
inductive Tr(α:Type) where
 | l
 | n (k:Nat) (v:α) (a b:Tr α)
def Tr.find{α:Type}:Tr α->Nat->Option α
 | .l,_=>Fu
 | .n k v a b,i=>bif ym i k then Ft v else bif yI i k then a.find i else b.find i
end VE
end
section
namespace VE
open Go (IntKind FloatKind)
def Oi:xd->Nat
 | .i8=>0 | .i16=>1 | .i32=>2 | .i64=>3 | .u8=>4 | .u16=>5 | .u32=>6 | .u64=>7
def WG:Int->Int->Bool
 | .ofNat a,.ofNat b=>ym a b
 | .negSucc a,.negSucc b=>ym a b
 | _,_=>false
def P9:Bool->Bool->Bool
 | true,true | false,false=>true
 | _,_=>false
def WH:xW->xW->Bool
 | .f32,.f32 | .f64,.f64=>true
 | _,_=>false
mutual
def gN:AV->AV->Bool
 | .int k a,.int k' b=>ym (Oi k) (Oi k')&&WG a b
 | .bool a,.bool b=>P9 a b
 | .ao k a,.ao k' b=>WH k k'&&ym a b
 | .cW k a b,.cW k' c d=>WH k k'&&(ym a c&&ym b d)
 | .str a,.str b=>dh a b
 | .jY,.jY=>true
 | .bq a,.bq b=>nc a b
 | .af,.af=>true
 | .au e n a,.au e' n' b=>P9 e e'&&(ym n n'&&nc a b)
 | .cF e s n a,.cF e' s' n' b=>P9 e e'&&(ym s s'&&(ym n n'&&nc a b))
 | .fn (.f g) a b,.fn (.f g') a' b'=>ym g g'&&(nc a a'&&nc b b')
 | .gU,.gU=>true
 | .jl,.jl=>true
 | .jm a b,.jm a' b'=>nc a a'&&nc b b'
 | .agg a,.agg b=>nc a b
 | .ax a,.ax b=>nc a b
 | .undef,.undef=>true
 | _,_=>false
def nc:List AV->List AV->Bool
 | [],[]=>true
 | a::x,b::y=>gN a b&&nc x y
 | _,_=>false
end
def hI:Int->Nat
 | .ofNat n=>n
 | .negSucc n=>n+n
def hS:List Nat->Nat
 | []=>1
 | b::r=>(b+257*hS r)%65521
mutual
def hV:AV->Nat
 | .int _ n=>hI n
 | .bool b=>bif b then 1 else 2
 | .ao _ n=>n
 | .cW _ n k=>n+k
 | .str s=>hS s
 | .au _ n cs=>n+hL cs
 | .agg cs=>hL cs
 | .ax cs=>hL cs
 | _=>5
def hL:List AV->Nat
 | []=>7
 | v::r=>(hV v+263*hL r)%65521
end
abbrev Te:=Tr (List AV×AV)
abbrev bk:=List Te
def DU(h:Nat)(aq:List AV):bk->Option AV
 | []=>Fu
 | t::l=>match t.find h with
  | some (a,r)=>bif nc a aq then Ft r else DU h aq l
  | none=>DU h aq l
def adi(aq:List AV)(l:bk):Option AV:=DU (hL aq) aq l
abbrev Te.o(h:Nat)(a:List AV)(r:AV):Te:=.n h (a,r) .l .l
abbrev Te.m(h:Nat)(a:List AV)(r:AV)(x y:Te):Te:=.n h (a,r) x y
def DV(n:Nat):List (Tr bk)->Option bk
 | []=>Fu
 | t::r=>match t.find n with
  | none=>DV n r
  | some l=>match DV n r with | none=>Ft l | some m=>Ft (l++m)
def OR(L:Lib)(T:List (Tr bk))(ex:Nat):Lib:=
 ⟨fun i=>match L.pure i with
  | some sp=>Ft sp
  | none=>bif ym i ex then Fu else match DV i T with | some l=>Ft (fun aq=>adi aq l) | none=>Fu,L.heap⟩
def Ko(P:aF)(L:Lib)(f:Nat):Te->Bool
 | .l=>true
 | .n _ e x y=>(match We P L 100000 f e.1 with | some r'=>gN r' e.2 | none=>false)&&(Ko P L f x&&Ko P L f y)
def Oj(P:aF)(L:Lib)(f:Nat):bk->Bool
 | []=>true
 | t::l=>Ko P L f t&&Oj P L f l
def b9(P:aF)(L:Lib)(T:List (Tr bk)):List (Nat×bk)->Bool
 | []=>true
 | (f,l)::C=>Oj P (OR L T f) f l&&b9 P L T C
end VE
end
section
namespace VE
open Go
section
variable {L:Lib}{aq:List AV}{f k:Nat}
def alg{a b:xd}(h:ym (Oi a) (Oi b)=true):a=b:=by
 cases a<;>cases b<;>first | rfl | (exact absurd h (by decide))
def ani{a b:Int}(h:WG a b=true):a=b:=by
 cases a<;>cases b<;>simp only[WG,reduceCtorEq] at h<;>rw[yf h]
def Ss{a b:Bool}(h:P9 a b=true):a=b:=by
 cases a<;>cases b<;>first | rfl | (exact absurd h (by decide))
def aao{a b:xW}(h:WH a b=true):a=b:=by
 cases a<;>cases b<;>first | rfl | (exact absurd h (by decide))
mutual
def aap:∀(a b:AV),gN a b=true->a=b
 | .int k a,b,h=>by
  cases b<;>simp only[gN,ye,yC] at h
  rw[alg h.1,ani h.2]
 | .bool a,b,h=>by
  cases b<;>simp only[gN,yC] at h
  rw[Ss h]
 | .ao k a,b,h=>by
  cases b<;>simp only[gN,ye,yC] at h
  rw[aao h.1,yf h.2]
 | .cW k a c,b,h=>by
  cases b<;>simp only[gN,ye,yC] at h
  rw[aao h.1,yf h.2.1,yf h.2.2]
 | .str a,b,h=>by
  cases b<;>simp only[gN,yC] at h
  rw[Sn h]
 | .jY,b,h=>by cases b<;>simp only[gN,yC] at h;rfl
 | .ptr _ _,b,h=>by cases b<;>simp only[gN,yC] at h
 | .bq a,b,h=>by
  cases b<;>simp only[gN,yC] at h
  rw[rQ _ _ h]
 | .af,b,h=>by cases b<;>simp only[gN,yC] at h;rfl
 | .au e n a,b,h=>by
  cases b<;>simp only[gN,ye,yC] at h
  rw[Ss h.1,yf h.2.1,rQ _ _ h.2.2]
 | .cF e s n a,b,h=>by
  cases b<;>simp only[gN,ye,yC] at h
  rw[Ss h.1,yf h.2.1,yf h.2.2.1,rQ _ _ h.2.2.2]
 | .ap _ _ _,b,h=>by cases b<;>simp only[gN,yC] at h
 | .fn (.f g) x y,b,h=>by
  cases b<;>try (simp only[gN,yC] at h;done)
  rename_i fr _ _;cases fr<;>simp only[gN,ye,yC] at h
  rw[yf h.1,rQ _ _ h.2.1,rQ _ _ h.2.2]
 | .fn (.y _) _ _,b,h=>by cases b<;>simp only[gN,yC] at h
 | .gU,b,h=>by cases b<;>simp only[gN,yC] at h;rfl
 | .jl,b,h=>by cases b<;>simp only[gN,yC] at h;rfl
 | .map _,b,h=>by cases b<;>simp only[gN,yC] at h
 | .jm x y,b,h=>by
  cases b<;>simp only[gN,ye,yC] at h
  rw[rQ _ _ h.1,rQ _ _ h.2]
 | .it _,b,h=>by cases b<;>simp only[gN,yC] at h
 | .agg a,b,h=>by
  cases b<;>simp only[gN,yC] at h
  rw[rQ _ _ h]
 | .ax a,b,h=>by
  cases b<;>simp only[gN,yC] at h
  rw[rQ _ _ h]
 | .undef,b,h=>by cases b<;>simp only[gN,yC] at h;rfl
def rQ:∀(a b:List AV),nc a b=true->a=b
 | [],b,h=>by cases b<;>simp only[nc,yC] at h;rfl
 | x::a,b,h=>by
  cases b<;>simp only[nc,ye,yC] at h
  rw[aap _ _ h.1,rQ _ _ h.2]
end
def Tr.Has{α:Type}(x:α):Tr α->Prop
 | .l=>False
 | .n _ v a b=>v=x\/a.Has x\/b.Has x
def Tr.Su{α:Type}{h:Nat}{x:α}:∀{t:Tr α},t.find h=Ft x->t.Has x
 | .l,hf=>by simp[Tr.find] at hf
 | .n k v a b,hf=>by
  simp only[Tr.find] at hf
  cases h1:ym h k with
  | true=>rw[h1] at hf;simp only[yq,yb] at hf;exact .inl hf
  | false=>
   rw[h1] at hf
   cases h2:yI h k with
   | true=>rw[h2] at hf;exact .inr (.inl (Tr.Su hf))
   | false=>rw[h2] at hf;exact .inr (.inr (Tr.Su hf))
def Qa(aq:List AV)(r:AV)(l:bk):Prop:=∃t,t∈l/\t.Has (aq,r)
def YM{h:Nat}{aq:List AV}{r:AV}:∀{l:bk},DU h aq l=Ft r->Qa aq r l
 | [],hf=>by simp[DU] at hf
 | t::l,hf=>by
  have tail:DU h aq l=Ft r->Qa aq r (t::l):=fun q=>by
   have⟨t',h1,h2⟩:=YM q;exact⟨t',xL _ h1,h2⟩
  simp only[DU] at hf
  split at hf
  .rename_i a q he
   cases hb:nc a aq with
   | true=>
    rw[hb] at hf;simp only[yq,yb] at hf;rw[rQ _ _ hb,hf] at he;exact⟨t,wI,Tr.Su he⟩
   | false=>
    grind
  .grind
def alh{r:AV}{l:bk}(h:adi aq l=Ft r):Qa aq r l:=YM h
def mD(O:bl)(f:Nat)(l:bk):Prop:=∀aq r,Qa aq r l->dZ O f aq r
def mD.nil{O:bl}:mD O f []:=fun _ _ h=>by have⟨t,h,_⟩:=h;cases h
def mD.cQ{O:bl}{a b:bk}(ha:mD O f a)(hb:mD O f b):mD O f (a++b):=fun v r h=>by
 have⟨t,h,h2⟩:=h;exact (List.mem_append.1 h).elim (fun h=>ha v r ⟨t,h,h2⟩) (fun h=>hb v r ⟨t,h,h2⟩)
def mD.one{O:bl}{r:AV}(h:dZ O f aq r):mD O f [.n k (aq,r) .l .l]:=fun v q hm=>by
 have⟨t,h1,h2⟩:=hm;rcases xI.1 h1 with e | e
 .subst e;rcases h2 with h2 | h2 | h2
  .grind
  .exact h2.elim
  .exact h2.elim
 .cases e
def Tr.lZ{α:Type}(p:Nat->α->Prop):Tr α->Prop
 | .l=>True
 | .n k v a b=>p k v/\a.lZ p/\b.lZ p
def Tr.jJ{α:Type}{p:Nat->α->Prop}:Tr.lZ p .l:=trivial
def Tr.kw{α:Type}{p:Nat->α->Prop}{v:α}{a b:Tr α}(h:p k v)(ha:a.lZ p)(hb:b.lZ p):Tr.lZ p (.n k v a b):=⟨h,ha,hb⟩
def Tr.DI{α:Type}{p:Nat->α->Prop}{i:Nat}{v:α}:∀{t:Tr α},t.lZ p->t.find i=Ft v->p i v
 | .l,_,h=>by simp[Tr.find] at h
 | .n k w a b,ha,h=>by
  simp only[Tr.find] at h
  cases hb:ym i k with
  | true=>
   rw[hb] at h;simp only[yq,yb] at h;subst h;rw[yf hb];exact ha.1
  | false=>
   rw[hb] at h
   cases hc:yI i k with
   | true=>rw[hc] at h;exact Tr.DI ha.2.1 h
   | false=>rw[hc] at h;exact Tr.DI ha.2.2 h
abbrev bl.zt(O:bl)(L:Lib):bl:={O with aI:=L}
def aaq{O:bl}{m:Mp}{S:Nat->Prop}{w:yi}{id:Nat}{o:Obj}:eY (O.zt L) m S w id o↔eY O m S w id o:=by
 cases o<;>exact Iff.rfl
def aar{O:bl}{m:Mp}{S:Nat->Prop}{w:yi}{hp:Hp}{ct:Nat}:aR (O.zt L) m S w hp ct↔aR O m S w hp ct:=
 ⟨fun h=>⟨fun id o p h1 h2=>aaq.1 (h.obj id o p h1 h2),h.lt,h.inj,h.slt,h.blt,h.low,h.mB,h.fY,h.aM⟩,
  fun h=>⟨fun id o p h1 h2=>aaq.2 (h.obj id o p h1 h2),h.lt,h.inj,h.slt,h.blt,h.low,h.mB,h.fY,h.aM⟩⟩
def ZB{O:bl}{n:Nat}{hp:Hp}{ct:Nat}{v:AV}{an:Hp}{aH:Nat}(h:Co O n hp ct aq v an aH):Co (O.zt L) n hp ct aq v an aH:=by
 intro m S w args h1 h2;have post:∀e w',AB O m S w hp ct v an aH e w'->AB (O.zt L) m S w hp ct v an aH e w':=by
  rintro e w' ⟨u,m',S',k1,k2,k3,k4,k5⟩;exact⟨u,m',S',k1,aar.2 k2,k3,k4,k5⟩
 exact B0.mono (h m S w args (aar.1 h1) h2) post
def gW(O:bl)(T:List (Tr bk)):Prop:=∀t,t∈T->t.lZ (mD O)
def gW.nil{O:bl}:gW O []:=fun _ h=>by cases h
def gW.cons{O:bl}{t:Tr bk}{T:List (Tr bk)}(h:t.lZ (mD O))(hT:gW O T):gW O (t::T):=fun u hu=>by
 rcases xI.1 hu with e | e
 .grind
 .exact hT u e
def RU{O:bl}{n:Nat}:∀{T:List (Tr bk)} {l:bk},gW O T->DV n T=Ft l->mD O n l
 | [],_,_,h=>by simp[DV] at h
 | t::T,l,hT,h=>by
  have Qb:gW O T:=fun u hu=>hT u (xL _ hu)
  simp only[DV] at h
  split at h
  .exact RU Qb h
  .rename_i l1 h1;have c1:=Tr.DI (hT t wI) h1
   split at h
   .grind
   .rename_i m h2;simp only[yb] at h;subst h;exact mD.cQ c1 (RU Qb h2)
def abF{O:bl}(hO:iw O){T:List (Tr bk)}(hT:gW O T)(ex:Nat):iw (O.zt (OR O.aI T ex)) where
 hint:=hO.hint
 mixed:=hO.mixed
 prog:=hO.prog
 aI n sp aq r h hs:=by
  simp only[OR] at h
  cases hl:O.aI.pure n with
  | some Qc=>
   simp only[hl,yb] at h;subst h;exact hO.aI n _ aq r hl hs
  | none=>
   simp only[hl] at h
   cases hb:ym n ex with
   | true=>rw[hb] at h;cases h
   | false=>
    rw[hb] at h;simp only[yO] at h
    cases hf:DV n T with
    | none=>simp[hf] at h
    | some l=>
     simp only[hf,yb] at h;subst h;exact RU hT hf aq r (alh hs)
 Gw n sp hp ct aq v an aH h hs:=ZB (hO.Gw n sp hp ct aq v an aH h hs)
def RW{O:bl}{L:Lib}(hO:iw (O.zt L)){f:Nat}{aq:List AV}{r:AV}:∀{t:Te},Ko O.prog L f t=true->t.Has (aq,r)->dZ O f aq r
 | .l,_,h=>h.elim
 | .n k e x y,h,hm=>by
  simp only[Ko,ye] at h;rcases hm with e1 | hm | hm
  .subst e1;have h1:=h.1
   split at h1
   .rename_i r' hr;have e:r'=r:=aap _ _ h1;rw[<-e];exact sound hO hr
   .cases h1
  .exact RW hO h.2.1 hm
  .exact RW hO h.2.2 hm
def YN{O:bl}{L:Lib}(hO:iw (O.zt L)){f:Nat}:∀{l:bk},Oj O.prog L f l=true->mD O f l
 | [],_=>mD.nil
 | t::l,h=>by
  simp only[Oj,ye] at h;intro v q hm;have⟨t',h1,h2⟩:=hm;rcases xI.1 h1 with e | e
  .subst e;exact RW hO h.1 h2
  .exact YN hO h.2 v q ⟨t',e,h2⟩
def chunk_ok{O:bl}(hO:iw O){T:List (Tr bk)}(hT:gW O T):∀{C:List (Nat×bk)},b9 O.prog O.aI T C=true->∀f l,(f,l)∈C->mD O f l
 | [],_,f,l,h=>by cases h
 | (g,l')::C,h,f,l,hm=>by
  simp only[b9,ye] at h;rcases xI.1 hm with e | hm
  .injection e with e1 e2
   subst e1;subst e2;exact YN (abF hO hT f) h.1
  .exact chunk_ok hO hT h.2 f l hm
def aN{α:Type}{p:Nat->α->Prop}{v:α}{a b:Tr α}(h:p k v)(ha:a.lZ p)(hb:b.lZ p):Tr.lZ p (.n k v a b):=Tr.kw h ha hb
def aL{α:Type}{p:Nat->α->Prop}:Tr.lZ p .l:=Tr.jJ
end
end VE
end
section
namespace VE
open Go
structure HD where
 n:Nat
 live:List (Nat×List Nat)
 out:List (Nat×List Nat)
 mode:List (Nat×Md)
 fz:List (Nat×List Nat)
 deriving Inhabited
def Kc{α:Type}(i:Nat):List (Nat×α)->Option α
 | []=>Fu
 | (j,a)::l=>bif ym j i then Ft a else Kc i l
def arY(bm:Nat->Option Nat)(d:HD):Hint where
 n:=d.n
 bm:=bm
 live:=fun l=>match Kc l d.live with | some x=>x | none=>[]
 out:=fun l=>Kc l d.out
 mode:=fun k=>match Kc k d.mode with | some x=>x | none=>.pure
 fz:=fun i=>match Kc i d.fz with | some x=>x | none=>[]
def Ok(bm:Tr Nat)(t:Tr HD)(i:Nat):Hint:=arY bm.find (match t.find i with | some d=>d | none=>⟨0,[],[],[],[]⟩)
def A6(t:Tr Nat)(i:Nat):Nat:=match t.find i with | some f=>f | none=>0
def Kd(ab:Tr Nat):Tr Nat->Bool
 | .l=>true
 | .n f g a b=>ym (A6 ab g) f&&(Kd ab a&&Kd ab b)
def Rr{ab:Tr Nat}:∀{t:Tr Nat},Kd ab t=true->t.lZ (fun f g=>A6 ab g=f)
 | .l,_=>trivial
 | .n f g a b,h=>by
  simp only[Kd,ye] at h;exact⟨yf h.1,Rr h.2.1,Rr h.2.2⟩
def TC(P:xm)(ab:Tr Nat)(bm:Tr Nat)(hd:Tr HD)(i:Nat)(F:aC):Prop:=
 ∃fn,P.funcs[A6 ab i]? =Ft fn/\FY P (Ok bm hd i) fn=Ft F/\fn.name≠ "runtime.NumGoroutine"
def ali{P:xm}{ab bm:Tr Nat}{hd:Tr HD}{i:Nat}{F:aC}(h:(P.funcs[A6 ab i]?).bind (FY P (Ok bm hd i))=Ft F)(h2:(P.funcs[A6 ab i]?).map (fun fn=>decide (fn.name= "runtime.NumGoroutine"))=Ft false):TC P ab bm hd i F:=by
 unfold TC
 cases hq:P.funcs[A6 ab i]? with
 | none=>rw[hq] at h;cases h
 | some fn=>
  rw[hq] at h h2;refine⟨fn,rfl,h,fun e=>?_⟩;simp only[Option.map_some,yb,e,yX] at h2;cases h2
end VE
end
section
namespace VE
def aw{α:Type}{a b:α}(_:a=b):α:=b
attribute [go_sem] aw
def Hi{α:Type}:Nat->List (Nat×α)->Tr α
 | 0,_=>.l
 | n+1,l=>match l.drop (l.length/2) with
  | []=>.l
  | a::r=>.n a.1 a.2 (Hi n (l.take (l.length/2))) (Hi n r)
namespace nA
open Go
open Go.Proofs
def fl:List (Nat×Nat):=[(29,17),(46,104),(49,88),(50,54),(62,51),(69,75),(70,74),(71,92),(73,153),(74,79),(86,119),(88,107),(98,157),(99,174),(100,160),(101,159),(102,87),(107,116),(108,78),(109,120),(110,122),(111,121),(117,154),(118,165),(119,158),(122,115),(123,117),(124,193),(125,192),(128,190),(129,191),(130,194),(135,239),(136,224),(137,240),(138,241),(139,242),(140,243),(141,244),(142,231),(143,230),(144,232),(145,225),(146,156),(147,161),(148,229),(149,221),(150,222),(151,189),(152,196),(153,197),(154,198),(155,199),(156,233),(157,226),(158,227),(159,228),(160,188),(162,249),(163,218),(164,250),(165,268),(166,262),(167,266),(168,269),(169,270),(170,275),(171,261),(172,219),(173,263),(174,307),(175,258),(193,182),(194,183),(202,217),(203,113),(206,276),(214,279),(217,245),(218,246),(228,247),(229,257),(230,223),(231,186),(232,187),(236,280),(238,277),(239,278),(241,169),(242,259),(243,260),(244,308),(245,235),(246,234),(247,297),(248,265),(249,298),(250,299),(251,264),(252,237),(261,22),(262,57),(263,56),(264,23),(267,24),(268,130),(271,61),(272,124),(273,125),(274,67),(275,126),(276,65),(277,66),(278,70),(279,69),(280,68),(281,135),(282,141),(284,207),(285,206),(286,208),(287,201),(288,138),(289,140),(290,134),(291,136),(292,137),(293,146),(294,142),(295,143),(296,144),(297,145),(298,139),(299,209),(300,210),(301,211),(302,212),(634,5),(637,7),(639,9),(640,25),(641,82),(642,19),(643,41),(645,71),(647,13),(650,30),(652,26),(653,8),(654,10),(655,11),(656,27),(657,28),(658,29),(659,20),(660,31),(661,32),(662,33),(663,34),(664,35),(665,36),(666,37),(667,38),(668,39),(669,40),(670,72),(671,73),(672,42),(673,43),(674,45),(675,76),(676,77),(677,49),(678,64),(679,147),(685,44),(686,46),(687,48),(688,47),(689,50),(690,52),(691,53),(692,80),(693,81),(694,84),(695,83),(696,85),(697,89),(698,90),(699,91),(700,93),(701,94),(702,95),(703,96),(704,98),(705,97),(706,99),(707,100),(708,101),(709,103),(710,102),(711,105),(712,106),(713,108),(714,109),(715,110),(716,149),(717,148),(718,111),(719,112),(720,114),(721,155),(722,213),(723,215),(724,118),(725,86),(726,162),(727,163),(728,167),(729,166),(730,168),(731,170),(732,171),(733,172),(734,173),(735,176),(736,175),(737,179),(738,178),(739,184),(740,185),(741,150),(742,151),(743,220),(744,214),(745,256),(746,164),(747,236),(748,238),(749,177),(750,180),(751,181),(752,216),(753,152),(761,4),(766,21)]
def ab:Tr Nat:=aw (a:=Hi 9 fl) (by conv=>{lhs;reduce})
def ins(x:Nat×Nat):List (Nat×Nat)->List (Nat×Nat)
 | []=>[x]
 | y::r=>bif yI x.1 y.1 then x::y::r else y::ins x r
def inv:List (Nat×Nat)->List (Nat×Nat)
 | []=>[]
 | p::r=>ins (p.2,p.1) (inv r)
def bm:Tr Nat:=aw (a:=Hi 9 (inv fl)) (by conv=>{lhs;reduce})
def h0(n:Nat):HD:=⟨n,[],[],[],[]⟩
def hd:Tr HD:=aw (a:=Hi 9 [(29,⟨26,[(1,[0,1,5])],[(1,[])],[],[]⟩),(46,h0 16),(49,h0 16),(50,h0 9),(62,h0 22),(69,h0 6),(70,h0 9),(71,h0 16),(73,h0 8),(74,h0 34),(86,h0 76),(88,⟨23,[(0,[3,9,10,11])],[(0,[3])],[],[]⟩),(98,h0 13),(99,⟨69,[(1,[3,4,5,6]),(6,[6,10,11])],[(1,[3,6]),(6,[10])],[],[]⟩),(100,h0 66),(101,h0 34),(102,h0 9),(107,h0 11),(108,h0 6),(110,⟨41,[(0,[0,2,3,4])],[(0,[2,3,4])],[],[]⟩),(111,h0 6),(117,h0 5),(118,h0 29),(119,h0 67),(122,h0 9),(123,⟨23,[(0,[3,9,10,11])],[(0,[3])],[],[]⟩),(124,h0 7),(125,⟨15,[(0,[5,6,7])],[(0,[])],[],[]⟩),(129,h0 19),(130,⟨23,[(0,[2,3,4])],[(0,[2,4])],[],[]⟩),(136,h0 24),(137,⟨137,[(2,[0,1,6,7,8]),(4,[9,10,11,12,13,14]),(6,[9,11,12,13,96,97])],[(2,[6,7]),(4,[9,11,12,13]),(6,[11,12,13])],[(5,.own),(7,.own),(8,.heap)],[]⟩),(142,h0 10),(144,⟨80,[(0,[1,5,20,21,22]),(2,[1,5,6,7,8,20,21,22,27,28,29])],[(0,[5]),(2,[1,5,6,8,20,21,22])],[],[]⟩),(145,h0 50),(146,h0 7),(147,h0 26),(148,h0 21),(149,h0 14),(150,h0 9),(151,h0 13),(155,⟨23,[(0,[1,2,4,5])],[(0,[4,5])],[],[]⟩),(156,h0 9),(157,⟨54,[(1,[0,1,5,6,21,22])],[(1,[0,5,6])],[],[]⟩),(158,⟨41,[(2,[0,1,5])],[(2,[])],[],[]⟩),(159,⟨41,[(0,[0,1,5,6,13,14])],[(0,[5])],[],[]⟩),(160,⟨19,[(0,[0,1,7,8])],[(0,[])],[],[]⟩),(163,h0 9),(164,h0 84),(165,⟨135,[(3,[2,8,9,10,11,13,14,15,16]),(6,[2,8,9,10,14,15,16,17,18])],[(3,[2,8,9,10,11,13,14,15]),(6,[2,8,14,15,17,18])],[],[]⟩),(166,⟨21,[(0,[0,3])],[(0,[0,3])],[],[]⟩),(168,⟨40,[(0,[1,5,12,13,14])],[(0,[5])],[],[]⟩),(169,⟨186,[(1,[0,1,5,6,7,8]),(4,[0,1,5,6,11,12,104,105]),(7,[0,1,5,6,17,156,157])],[(1,[0,1,5,6]),(4,[0,1,5,6,11,12]),(7,[0,5,6,17])],[],[]⟩),(172,h0 25),(202,⟨73,[(2,[5,6,7])],[(2,[5,6,7])],[],[]⟩),(203,h0 10),(228,h0 13),(229,h0 32),(230,h0 11),(231,h0 7),(232,⟨28,[(0,[0,2,3]),(2,[0,2,3])],[(0,[0,2,3]),(2,[0,2,3])],[],[]⟩),(241,h0 14),(243,h0 63),(245,h0 15),(246,h0 6),(247,h0 10),(252,h0 7),(261,⟨19,[(0,[0,3])],[(0,[])],[],[]⟩),(262,h0 13),(263,h0 96),(264,h0 63),(267,h0 55),(268,h0 14),(271,h0 9),(272,⟨17,[(0,[0,3])],[(0,[0])],[],[]⟩),(273,h0 18),(274,h0 25),(275,⟨19,[(0,[0,1])],[(0,[0])],[],[]⟩),(276,h0 54),(277,h0 61),(278,h0 16),(279,h0 40),(280,h0 57),(281,⟨25,[(0,[0,2,3,4])],[(0,[2,3,4])],[],[]⟩),(282,⟨39,[(1,[1,3,4])],[(1,[1,3])],[],[]⟩),(284,h0 7),(285,h0 9),(286,h0 14),(287,⟨20,[(0,[0,3])],[(0,[])],[],[]⟩),(288,⟨40,[(1,[0,2,3,4])],[(1,[0,2,3,4])],[],[]⟩),(289,⟨206,[(2,[0,8,9,10,11]),(4,[8,9,10,11,12,13]),(6,[8,9,10,11,12,13,14,15,16]),(10,[8,9,10,11,12,13,14,19,20])],[(2,[8,9,10,11]),(4,[8,10,11,12]),(6,[8,9,10,11,12,13,14,15]),(10,[8,9,10,11,12,13,14,19])],[(5,.heap)],[]⟩),(290,⟨20,[(0,[0,3,4])],[(0,[3])],[],[]⟩),(291,⟨12,[(0,[0,1])],[(0,[0])],[],[]⟩),(292,⟨25,[(0,[0,1,5])],[(0,[5])],[],[]⟩),(293,⟨72,[(0,[0,1,5,6]),(2,[0,1,5,6,7,8])],[(0,[5]),(2,[0,1,5,6,7])],[],[]⟩),(294,h0 15),(295,⟨42,[(0,[0,1,5,6,7])],[(0,[5])],[],[]⟩),(296,⟨41,[(2,[0,1,5])],[(2,[])],[],[]⟩),(297,⟨35,[(0,[0,1,5,6,7])],[(0,[5])],[],[]⟩),(298,h0 9),(299,⟨39,[(0,[0,1,6,7,8])],[(0,[6,7])],[],[]⟩),(300,⟨21,[(0,[0])],[(0,[0])],[],[]⟩),(301,⟨77,[(0,[0,1,2,7,9,10])],[(0,[9])],[],[]⟩),(302,h0 13),(634,h0 31),(637,h0 287),(639,⟨20,[(0,[3,6,7,8])],[(0,[3])],[],[]⟩),(640,⟨182,[(2,[3,4,5,10,40,41,42]),(4,[3,5,10,13,14,58,59]),(7,[3,10,13,14,18,19,20,100,101,102])],[(2,[3,4,5,10]),(4,[3,10,13,14]),(7,[14,19,20])],[],[]⟩),(641,h0 14),(642,h0 14),(643,h0 14),(645,h0 14),(647,⟨19,[(0,[0,3])],[(0,[])],[],[]⟩),(650,⟨53,[(1,[0,1,5]),(4,[0,1,5,6])],[(1,[]),(4,[0,1,5])],[],[]⟩),(652,h0 14),(653,h0 50),(654,h0 18),(655,h0 27),(656,h0 162),(657,⟨111,[(2,[3,4,5,10,52,53])],[(2,[3,4,5,10])],[],[]⟩),(658,⟨70,[(1,[1,7,26,27,28]),(4,[1,7,8,9,26,27,28,46])],[(1,[7]),(4,[1,7,26,27,28])],[],[]⟩),(659,⟨26,[(1,[0,1,5])],[(1,[])],[],[]⟩),(660,⟨136,[(2,[4,5,6,7,12,14,15,16,17,18])],[(2,[12,15])],[],[]⟩),(661,⟨45,[(1,[5,6,19,20,21]),(3,[5,6,9,19,20,21,25,26,27])],[(1,[6]),(3,[5,6,9,19,20,21])],[],[(15,[9])]⟩),(662,⟨101,[(3,[0,6,7,34,35]),(5,[0,6,7,8,9,34,35,38,39]),(7,[0,6,7,8,9,10,11,34,35,38,39,42,43]),(9,[0,6,7,8,9,10,11,12,34,35,38,39,42,43,46,47])],[(3,[7]),(5,[0,6,7,9,34,35]),(7,[0,6,7,8,9,11,34,35,38,39]),(9,[0,6,7,8,9,10,11,34,35,38,39,42,43])],[],[(31,[9])]⟩),(663,⟨128,[(1,[2,7,8,9,35]),(3,[2,7,8,9,10,35,38,39]),(5,[2,7,8,9,10,11,12,35,38,39,42,43]),(7,[2,7,8,9,10,11,12,13,14,35,38,39,42,43,49,50]),(9,[2,7,8,9,10,11,12,13,14,15,35,38,39,42,43,49,50,53,54])],[(1,[2,9]),(3,[2,7,8,9,35]),(5,[2,7,8,9,10,12,35,38,39]),(7,[2,7,8,9,10,11,12,14,35,38,39,42,43]),(9,[2,7,8,9,10,11,12,13,14,35,38,39,42,43,49,50])],[],[(32,[12])]⟩),(664,⟨145,[(1,[1,4,32,33]),(4,[1,4,9,44,45]),(6,[1,4,9,44,45,48,49,50]),(9,[1,4,14,15,70,71]),(11,[1,4,14,15,16,17,70,71,74,75]),(13,[1,4,14,15,16,17,18,19,70,71,74,75,78])],[(1,[1,4]),(4,[1,4,9]),(6,[1,4,9,44,45]),(9,[15]),(11,[1,4,14,15,17,70,71]),(13,[1,4,14,15,16,17,19,70,71,74,75])],[],[(44,[17])]⟩),(665,⟨26,[(1,[0,1,5])],[(1,[])],[],[]⟩),(666,⟨53,[(1,[0,1,5]),(4,[0,1,5,6])],[(1,[]),(4,[0,1,5])],[],[]⟩),(667,⟨74,[(4,[1,7,49,50]),(6,[1,7,9,49,50,56,57,58])],[(4,[]),(6,[1,7,49,50])],[],[]⟩),(668,⟨90,[(2,[1,8,40,41]),(4,[1,8,9,10,40,41,50,51]),(6,[1,8,9,10,11,12,40,41,50,51,55,56,57])],[(2,[8]),(4,[1,8,10,40,41]),(6,[1,8,9,10,12,40,41,50,51])],[],[(23,[10])]⟩),(669,⟨27,[(1,[0,1,5])],[(1,[])],[],[]⟩),(670,h0 16),(671,h0 39),(672,h0 4),(673,h0 6),(674,h0 6),(675,⟨50,[(0,[4,13,14,15]),(2,[4,6,7,13,14,15,19,20,21])],[(0,[4]),(2,[4,6,7,13,14,15])],[],[(16,[12])]⟩),(676,h0 16),(677,⟨15,[(0,[5,6,7])],[(0,[])],[],[]⟩),(678,h0 15),(679,⟨106,[(2,[2,3,42,43,44])],[(2,[])],[],[]⟩),(685,h0 12),(686,h0 8),(687,h0 14),(688,⟨67,[(1,[4,5,10,31,32,33])],[(1,[4,5,10])],[],[]⟩),(689,h0 14),(690,h0 18),(691,h0 8),(692,h0 7),(693,⟨119,[(0,[1,2,3,4,8,9,10,11]),(2,[1,2,3,4,8,9,10,11,12,13,35,36,37])],[(0,[8,9]),(2,[1,2,3,4,8,9,10,11,12,13])],[],[]⟩),(694,⟨50,[(1,[6,7,27,28])],[(1,[7])],[],[]⟩),(695,⟨21,[(0,[1,8,9,10])],[(0,[])],[],[]⟩),(696,h0 22),(697,h0 8),(698,h0 8),(699,h0 6),(700,h0 16),(701,h0 12),(702,h0 13),(703,⟨38,[(0,[3,9,10,11]),(2,[3,6,9,10,11,15,16,17])],[(0,[3]),(2,[3,6,9,10,11])],[],[(11,[6])]⟩),(704,⟨66,[(0,[0,3,4,13,14]),(2,[0,3,4,5,6,13,14,17,18]),(4,[0,3,4,5,6,7,8,13,14,17,18,24,25]),(6,[0,3,4,5,6,7,8,9,13,14,17,18,24,25,28,29])],[(0,[4]),(2,[0,3,4,6,13,14]),(4,[0,3,4,5,6,8,13,14,17,18]),(6,[0,3,4,5,6,7,8,13,14,17,18,24,25])],[],[(22,[6])]⟩),(705,⟨59,[(0,[4,15,16,17]),(2,[4,7,15,16,17,21,22,23])],[(0,[4]),(2,[4,7,15,16,17])],[],[(16,[7])]⟩),(709,h0 33),(710,h0 16),(711,⟨17,[(0,[0,7,8,9])],[(0,[])],[],[]⟩),(712,h0 12),(713,h0 6),(715,⟨21,[(0,[1,8,9,10])],[(0,[])],[],[]⟩),(716,h0 18),(717,⟨21,[(0,[1,8,9,10])],[(0,[])],[],[]⟩),(718,⟨26,[(0,[0,1,8,9])],[(0,[])],[(0,.heap)],[]⟩),(719,⟨39,[(0,[0,1,2,7,8]),(2,[0,1,2,4,7,8,12,13])],[(0,[]),(2,[0,1,2,7,8])],[(0,.heap)],[]⟩),(720,⟨21,[(0,[2,4,6,9,10,11])],[(0,[4,6])],[],[]⟩),(721,⟨94,[(1,[1,4,5])],[(1,[1,4,5])],[],[]⟩),(722,h0 5),(723,h0 9),(724,h0 49),(725,h0 14),(726,h0 11),(727,h0 15),(728,h0 10),(729,⟨21,[(0,[1,8,9,10])],[(0,[])],[],[]⟩),(735,h0 10),(736,⟨21,[(0,[1,8,9,10])],[(0,[])],[],[]⟩),(737,h0 11),(738,⟨21,[(0,[1,8,9,10])],[(0,[])],[],[]⟩),(741,h0 9),(742,h0 6),(744,h0 6),(745,⟨19,[(0,[0,1,7,8])],[(0,[])],[],[]⟩),(746,h0 6),(749,⟨21,[(0,[1,8,9,10])],[(0,[])],[],[]⟩),(750,⟨21,[(0,[1,8,9,10])],[(0,[])],[],[]⟩),(751,h0 14),(752,⟨19,[(0,[0,1,7,8])],[(0,[])],[],[]⟩),(753,h0 7),(761,⟨298,[(1,[1,2,5,6,7,8,41,42]),(3,[1,2,5,6,7,8,9,10,11,41,42,63,64]),(8,[2,5,13,14,18,20,22,218,219])],[(1,[2,5,6,7]),(3,[1,2,5,6,7,8,9,10,11,41,42]),(8,[2,5,13,14])],[(17,.heap)],[(19,[9,10,11]),(22,[5,6,7])]⟩),(766,⟨31,[(1,[0,3])],[(1,[])],[],[]⟩)]) (by conv=>{lhs;reduce})
def arZ:Kd ab bm=true:=by decide+kernel
noncomputable def cc(i:Nat):aC:=match (Tryz.prog.funcs[A6 ab i]?).bind (FY Tryz.prog (Ok bm hd i)) with
 | some F=>F
 | none=>⟨[],.skip⟩
end nA
def nest:VC->List VC
 | .seq a b=>nest a++nest b
 | .cond _ a b=>nest a++nest b
 | .cX _ a=>nest a
 | .loop _ a=>[a]
 | .rf _ _ a b=>[a,b]
 | _=>[]
def oE:VC->List VC->VC×List VC
 | .seq a b,l=>(.seq (oE a l).1 (oE b (oE a l).2).1,(oE b (oE a l).2).2)
 | .cond x a b,l=>(.cond x (oE a l).1 (oE b (oE a l).2).1,(oE b (oE a l).2).2)
 | .cX i a,l=>(.cX i (oE a l).1,(oE a l).2)
 | .loop v a,l=>(.loop v (l.headD a),l.tail)
 | .rf f ps a b,l=>(.rf f ps (l.headD a) (l.tail.headD b),l.tail.tail)
 | c,l=>(c,l)
def aeU(c:VC):List Nat->VC
 | []=>c
 | i::r=>aeU ((nest c).getD i .skip) r
noncomputable def bP(F:aC)(p:List Nat)(l:List VC):VC:=(oE (aeU F.body p) l).1
noncomputable def cR(F:aC)(l:List VC):aC:=⟨F.eb,(oE F.body l).1⟩
end VE
end
