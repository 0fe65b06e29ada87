import Derived.Lib.AppendIntMem
import Derived.OwnWalk
import Derived.WalkKit
import Derived.KernelRfl
import Derived.Attr
import Derived.Test.YtabhmepaflffeaaGreatDoorXac
import Derived.Test.YtabhmepaflffeaaGreatDoorXab
set_option linter.all false
set_option maxRecDepth 100000
open Array renaming size_replicate->uD
open Bool renaming and_eq_true->yf,false_eq_true->yD
open Go renaming FloatKind->xX,IntKind->xg,Program->xp,World->yo
open List renaming mem_cons->we,mem_cons_of_mem->xr,mem_cons_self->xJ
open Nat renaming beq->yu,blt->yP,eq_of_beq_eq_true->yi
open Option.some renaming injEq->yc
open Option renaming some->GR,none->GS
section
namespace Go.Proofs
open Go.Shelf
open Go.RowKit Go.Sort Go.Lib
set_option maxHeartbeats 6400000 in
set_option maxRecDepth 100000 in
def Tryz.amX(u:Nat)(FQ:u<18446744073709551616)(w:yo)(FP:Lib.TabIs Tryz.prog w "internal/strconv.uint64pow10" .u64 Lib.pow10Tab):
  Calls Tryz.prog 283 #[.int .u64 u,.int .i64 10] w fun e w'=>e=.returned (.string ⟨(Lib.decDigits u).toArray⟩)/\∃k os,w'=grow (w.drewN k) os:=by
 by_cases hs:u<100
 .go_enter Tryz.func283,Tryz.ntmps283
  go_wp2_with (go_at_call 313;refine (Tryz.internal_strconv_small u hs _).mono ?_;rintro e w' ⟨rfl,rfl⟩)
  go_ret
  exact⟨rfl,0,#[],by simp[World.drewN_zero]⟩
 .have Am:1<=u:=by omega
  have aIN:Lib.nDigits u<=20:=by have:=Lib.numDigits_eq u Am FQ;split at this<;>omega
  have hal:Tryz.prog.arrayLen 360=24:=by simp[Program.arrayLen,Tryz.underlying360]
  have IJ:∀W,(Instr.sliceAt 360 (.pointer (GR ⟨w.heap.size,0,GS⟩)) GS (GR (.int .i64 (Lib.nDigits u:Int))) GS).run Tryz.prog W=.ok (.slice (GR ⟨w.heap.size,0,GS⟩) (Lib.nDigits u) 24) W:=fun W=>by
   rw[run_sliceAt_array_h W 360 ⟨w.heap.size,0,GS⟩ (by simp[Program.arrayLen,Program.elem,Tryz.underlying360]) .i64 (Lib.nDigits u:Int) (by omega) (by rw[hal];omega)]
   go_simp
  have hH0:=Lib.holds_zero0 w 360 (Lib.nDigits u) (by omega);have aiO:=Tryz.internal_strconv_formatBase10 w.heap.size 0 24 u (Array.replicate (Lib.nDigits u) 0) (w.alloc (.cells Lib.zeros24 360)) hH0 (by rw[uD];exact Lib.lt_pow_nDigits u) FQ (by rw[uD];omega)
  rw[uD] at aiO;have HH0:=Lib.hid hH0;have iu:(100:Int)<=(u:Int):=by omega
  clear hH0 hal
  go_enter Tryz.func283,Tryz.ntmps283
  go_wp2_with (first
   | (go_at_call 314;refine (Tryz.internal_strconv_numDigits u Am FQ _ (Lib.tabIs_alloc FP _)).mono ?_;rintro e w' ⟨rfl,rfl⟩))
  go_at_call 315
  refine aiO.mono ?_;rintro e w' ⟨rfl,k,v',dk,rfl,hF⟩;have hcv:(convert 65 9 (.slice (GR ⟨w.heap.size,0,GS⟩) (Lib.nDigits u) 24)).run Tryz.prog ((putRow (fun (b:UInt8)=>Value.int .u8 (b.toNat:Int)) (w.alloc (.cells Lib.zeros24 360)) w.heap.size 0 dk).drewN k)=.ok (.string ⟨(Lib.decDigits u).toArray⟩) ((putRow (fun (b:UInt8)=>Value.int .u8 (b.toNat:Int)) (w.alloc (.cells Lib.zeros24 360)) w.heap.size 0 dk).drewN k):=by
   have h:=run_convert_bytes_back (P:=Tryz.prog) ((putRow (fun (b:UInt8)=>Value.int .u8 (b.toNat:Int)) (w.alloc (.cells Lib.zeros24 360)) w.heap.size 0 dk).drewN k) 65 9 5 ⟨w.heap.size,0,GS⟩ 24 (Lib.decDigits u) Tryz.underlying65 Tryz.underlying5 Tryz.underlying9 (fun j hj=>by
    rw[Lib.row_is_numeral hF j hj,Lib.add_plain,World.cell?_drewN]
    exact cell?_putRow (fun (b:UInt8)=>Value.int .u8 (b.toNat:Int)) _ w.heap.size 0 _ dk HH0.out (by rw[hF.size,uD]) j (by rw[hF.size];rw[Lib.decDigits_length] at hj;exact hj))
   rw[Lib.decDigits_length] at h;exact h
  go_wp2
  go_ret
  obtain⟨os,eo⟩:=Lib.fin_at w (.cells Lib.zeros24 360) dk k 0;exact⟨rfl,k,os,eo⟩
def Tryz.amZ(u:Nat)(FQ:u<18446744073709551616)(w:yo)(FP:Lib.TabIs Tryz.prog w "internal/strconv.uint64pow10" .u64 Lib.pow10Tab):
  Calls Tryz.prog 251 #[.int .u64 u,.int .i64 10] w fun e w'=>e=.returned (.string ⟨(Lib.decDigits u).toArray⟩)/\∃k os,w'=grow (w.drewN k) os:=by
 go_enter Tryz.func251,Tryz.ntmps251
 go_wp2_with (go_at_call 283;refine (Tryz.amX u FQ _ FP).mono ?_;rintro e w' ⟨rfl,k,os,rfl⟩)
 go_ret
 exact⟨rfl,k,os,rfl⟩
end Go.Proofs
end
section
namespace VE
abbrev Rq(d:Nat)(o:Op):aV:=⟨GR d,GS,o⟩
abbrev Rt(d g:Nat)(o:Op):aV:=⟨GR d,GR (g,true),o⟩
abbrev Rf(d g:Nat)(o:Op):aV:=⟨GR d,GR (g,false),o⟩
abbrev qm(d s:Nat):aV:=⟨GR d,GS,.za (.t s)⟩
abbrev qc0(d f:Nat):aV:=⟨GR d,GS,.call .pure (.c (.fn (.f f) [] [])) []⟩
abbrev Tw(d f a:Nat):aV:=⟨GR d,GS,.call .pure (.c (.fn (.f f) [] [])) [.t a]⟩
abbrev Tz(d f a b:Nat):aV:=⟨GR d,GS,.call .pure (.c (.fn (.f f) [] [])) [.t a,.t b]⟩
abbrev qc3(d f a b c:Nat):aV:=⟨GR d,GS,.call .pure (.c (.fn (.f f) [] [])) [.t a,.t b,.t c]⟩
abbrev qc4(d f a b c e:Nat):aV:=⟨GR d,GS,.call .pure (.c (.fn (.f f) [] [])) [.t a,.t b,.t c,.t e]⟩
abbrev ql(d n s:Nat):aV:=⟨GR d,GS,.ld n false (.t s)⟩
abbrev qL(d n s:Nat):aV:=⟨GR d,GS,.ld n true (.t s)⟩
abbrev qk(d:Nat)(k:Int):aV:=⟨GR d,GS,.za (.c (.int .i64 k))⟩
abbrev qf(d:Nat):aV:=⟨GR d,GS,.za (.c (.bool false))⟩
abbrev qz(d:Nat):aV:=⟨GR d,GS,.za (.c .aj)⟩
abbrev qi(d n s i:Nat):aV:=⟨GR d,GS,.bk n (.t s) (.t i)⟩
abbrev qo(d n s:Nat):aV:=⟨GR d,GS,.off n (.t s)⟩
abbrev qn(d n s:Nat):aV:=⟨GR d,GS,.len n (.t s)⟩
abbrev qe(d n s:Nat):aV:=⟨GR d,GS,.ext n (.t s)⟩
abbrev qb(d n s:Nat):aV:=⟨GR d,GS,.box n (.t s)⟩
abbrev qs(n a b:Nat):aV:=⟨GS,GS,.st n (.t a) (.t b)⟩
abbrev qa(d a:Nat)(k:Int):aV:=⟨GR d,GS,.bin .add (.t a) (.c (.int .i64 k))⟩
abbrev qN(d a:Nat)(k:Int):aV:=⟨GR d,GS,.bin .neq (.t a) (.c (.int .i64 k))⟩
abbrev qE(d a:Nat)(k:Int):aV:=⟨GR d,GS,.bin .eql (.t a) (.c (.int .i64 k))⟩
abbrev qA(d a b:Nat):aV:=⟨GR d,GS,.bin .add (.t a) (.t b)⟩
abbrev qT(d a b:Nat):aV:=⟨GR d,GS,.bin .lss (.t a) (.t b)⟩
abbrev qp(d c b:Nat):aV:=⟨GR d,GS,.pick (.t c) (.c (.bool true)) (.t b)⟩
abbrev qq(d c b:Nat):aV:=⟨GR d,GS,.pick (.t c) (.t b) (.c (.bool false))⟩
abbrev X.k(n:Int):X:=.c (.int .i64 n)
abbrev X.u(n:Int):X:=.c (.int .u64 n)
abbrev X.F(n:Nat):X:=.c (.fn (.f n) [] [])
abbrev X.s(l:List Nat):X:=.c (.str l)
abbrev AV.i(n:Int):AV:=.int .i64 n
abbrev Op.q(f:Nat)(l:List X):Op:=.call .pure (.c (.fn (.f f) [] [])) l
abbrev Op.y(o:Go.BinOp)(a:Nat)(n:Int):Op:=.bin o (.t a) (.c (.int .i64 n))
abbrev Op.z(o:Go.BinOp)(a b:Nat):Op:=.bin o (.t a) (.t b)
abbrev Op.m(a:Nat):Op:=.za (.t a)
abbrev VC.g(o:List aV)(b:VC):VC:=.seq (.jA o) b
abbrev VC.q(a b:VC):VC:=.seq a b
abbrev VC.e(o:List aV):VC:=.seq (.jA o) .ret
abbrev VC.i(t:Nat)(a:VC):VC:=.cond (.t t) a .skip
abbrev VC.h(o:List aV)(t:Nat)(a b:VC):VC:=.seq (.seq (.jA o) (.cond (.t t) a .skip)) b
end VE
end
section
namespace VE
inductive Tr(α:Type) where
 | l
 | n (k:Nat) (v:α) (a b:Tr α)
def Tr.find{α:Type}:Tr α->Nat->Option α
 | .l,_=>GS
 | .n k v a b,i=>bif yu i k then GR v else bif yP i k then a.find i else b.find i
end VE
end
section
namespace VE
open Go (IntKind FloatKind)
def QK:xg->Nat
 | .i8=>0 | .i16=>1 | .i32=>2 | .i64=>3 | .u8=>4 | .u16=>5 | .u32=>6 | .u64=>7
def eqI:Int->Int->Bool
 | .ofNat a,.ofNat b=>yu a b
 | .negSucc a,.negSucc b=>yu a b
 | _,_=>false
def TA:Bool->Bool->Bool
 | true,true | false,false=>true
 | _,_=>false
def eqF:xX->xX->Bool
 | .f32,.f32 | .f64,.f64=>true
 | _,_=>false
mutual
def iK:AV->AV->Bool
 | .int k a,.int k' b=>yu (QK k) (QK k')&&eqI a b
 | .bool a,.bool b=>TA a b
 | .an k a,.an k' b=>eqF k k'&&yu a b
 | .dI k a b,.dI k' c d=>eqF k k'&&(yu a c&&yu b d)
 | .str a,.str b=>dZ a b
 | .ll,.ll=>true
 | .bC a,.bC b=>oF a b
 | .aj,.aj=>true
 | .au e n a,.au e' n' b=>TA e e'&&(yu n n'&&oF a b)
 | .c9 e s n a,.c9 e' s' n' b=>TA e e'&&(yu s s'&&(yu n n'&&oF a b))
 | .fn (.f g) a b,.fn (.f g') a' b'=>yu g g'&&(oF a a'&&oF b b')
 | .fQ,.fQ=>true
 | .gU,.gU=>true
 | .kj a b,.kj a' b'=>oF a a'&&oF b b'
 | .agg a,.agg b=>oF a b
 | .av a,.av b=>oF a b
 | .undef,.undef=>true
 | _,_=>false
def oF:List AV->List AV->Bool
 | [],[]=>true
 | a::x,b::y=>iK a b&&oF x y
 | _,_=>false
end
def hI:Int->Nat
 | .ofNat n=>n
 | .negSucc n=>n+n
def hS:List Nat->Nat
 | []=>1
 | b::r=>(b+257*hS r)%65521
mutual
def hV:AV->Nat
 | .int _ n=>hI n
 | .bool b=>bif b then 1 else 2
 | .an _ n=>n
 | .dI _ n k=>n+k
 | .str s=>hS s
 | .au _ n cs=>n+hL cs
 | .agg cs=>hL cs
 | .av cs=>hL cs
 | _=>5
def hL:List AV->Nat
 | []=>7
 | v::r=>(hV v+263*hL r)%65521
end
abbrev Te:=Tr (List AV×AV)
abbrev bA:=List Te
def E8(h:Nat)(ax:List AV):bA->Option AV
 | []=>GS
 | t::l=>match t.find h with
  | some (a,r)=>bif oF a ax then GR r else E8 h ax l
  | none=>E8 h ax l
def ag8(ax:List AV)(l:bA):Option AV:=E8 (hL ax) ax l
abbrev Te.o(h:Nat)(a:List AV)(r:AV):Te:=.n h (a,r) .l .l
abbrev Te.m(h:Nat)(a:List AV)(r:AV)(x y:Te):Te:=.n h (a,r) x y
def E9(n:Nat):List (Tr bA)->Option bA
 | []=>GS
 | t::r=>match t.find n with
  | none=>E9 n r
  | some l=>match E9 n r with | none=>GR l | some m=>GR (l++m)
def Rx(L:Lib)(T:List (Tr bA))(ex:Nat):Lib:=
 ⟨fun i=>match L.pure i with
  | some sp=>GR sp
  | none=>bif yu i ex then GS else match E9 i T with | some l=>GR (fun ax=>ag8 ax l) | none=>GS,L.heap⟩
def Mj(P:aE)(L:Lib)(f:Nat):Te->Bool
 | .l=>true
 | .n _ e x y=>(match ZL P L 100000 f e.1 with | some r'=>iK r' e.2 | none=>false)&&(Mj P L f x&&Mj P L f y)
def QM(P:aE)(L:Lib)(f:Nat):bA->Bool
 | []=>true
 | t::l=>Mj P L f t&&QM P L f l
def cz(P:aE)(L:Lib)(T:List (Tr bA)):List (Nat×bA)->Bool
 | []=>true
 | (f,l)::C=>QM P (Rx L T f) f l&&cz P L T C
end VE
end
section
namespace VE
open Go
section
variable {L:Lib}{ax:List AV}{f k:Nat}
def apm{a b:xg}(h:yu (QK a) (QK b)=true):a=b:=by
 cases a<;>cases b<;>first | rfl | (exact absurd h (by decide))
def ari{a b:Int}(h:eqI a b=true):a=b:=by
 cases a<;>cases b<;>simp only[eqI,reduceCtorEq] at h<;>rw[yi h]
def VP{a b:Bool}(h:TA a b=true):a=b:=by
 cases a<;>cases b<;>first | rfl | (exact absurd h (by decide))
def ad9{a b:xX}(h:eqF a b=true):a=b:=by
 cases a<;>cases b<;>first | rfl | (exact absurd h (by decide))
mutual
def aea:∀(a b:AV),iK a b=true->a=b
 | .int k a,b,h=>by
  cases b<;>simp only[iK,yf,yD] at h
  rw[apm h.1,ari h.2]
 | .bool a,b,h=>by
  cases b<;>simp only[iK,yD] at h
  rw[VP h]
 | .an k a,b,h=>by
  cases b<;>simp only[iK,yf,yD] at h
  rw[ad9 h.1,yi h.2]
 | .dI k a c,b,h=>by
  cases b<;>simp only[iK,yf,yD] at h
  rw[ad9 h.1,yi h.2.1,yi h.2.2]
 | .str a,b,h=>by
  cases b<;>simp only[iK,yD] at h
  rw[VL h]
 | .ll,b,h=>by cases b<;>simp only[iK,yD] at h;rfl
 | .ptr _ _,b,h=>by cases b<;>simp only[iK,yD] at h
 | .bC a,b,h=>by
  cases b<;>simp only[iK,yD] at h
  rw[zG _ _ h]
 | .aj,b,h=>by cases b<;>simp only[iK,yD] at h;rfl
 | .au e n a,b,h=>by
  cases b<;>simp only[iK,yf,yD] at h
  rw[VP h.1,yi h.2.1,zG _ _ h.2.2]
 | .c9 e s n a,b,h=>by
  cases b<;>simp only[iK,yf,yD] at h
  rw[VP h.1,yi h.2.1,yi h.2.2.1,zG _ _ h.2.2.2]
 | .ay _ _ _,b,h=>by cases b<;>simp only[iK,yD] at h
 | .fn (.f g) x y,b,h=>by
  cases b<;>try (simp only[iK,yD] at h;done)
  rename_i fr _ _;cases fr<;>simp only[iK,yf,yD] at h
  rw[yi h.1,zG _ _ h.2.1,zG _ _ h.2.2]
 | .fn (.y _) _ _,b,h=>by cases b<;>simp only[iK,yD] at h
 | .fQ,b,h=>by cases b<;>simp only[iK,yD] at h;rfl
 | .gU,b,h=>by cases b<;>simp only[iK,yD] at h;rfl
 | .map _,b,h=>by cases b<;>simp only[iK,yD] at h
 | .kj x y,b,h=>by
  cases b<;>simp only[iK,yf,yD] at h
  rw[zG _ _ h.1,zG _ _ h.2]
 | .it _,b,h=>by cases b<;>simp only[iK,yD] at h
 | .agg a,b,h=>by
  cases b<;>simp only[iK,yD] at h
  rw[zG _ _ h]
 | .av a,b,h=>by
  cases b<;>simp only[iK,yD] at h
  rw[zG _ _ h]
 | .undef,b,h=>by cases b<;>simp only[iK,yD] at h;rfl
def zG:∀(a b:List AV),oF a b=true->a=b
 | [],b,h=>by cases b<;>simp only[oF,yD] at h;rfl
 | x::a,b,h=>by
  cases b<;>simp only[oF,yf,yD] at h
  rw[aea _ _ h.1,zG _ _ h.2]
end
def Tr.Has{α:Type}(x:α):Tr α->Prop
 | .l=>False
 | .n _ v a b=>v=x\/a.Has x\/b.Has x
def Tr.VQ{α:Type}{h:Nat}{x:α}:∀{t:Tr α},t.find h=GR x->t.Has x
 | .l,hf=>by simp[Tr.find] at hf
 | .n k v a b,hf=>by
  simp only[Tr.find] at hf
  cases h1:yu h k with
  | true=>rw[h1] at hf;simp only[yx,yc] at hf;exact .inl hf
  | false=>
   rw[h1] at hf
   cases h2:yP h k with
   | true=>rw[h2] at hf;exact .inr (.inl (Tr.VQ hf))
   | false=>rw[h2] at hf;exact .inr (.inr (Tr.VQ hf))
def TB(ax:List AV)(r:AV)(l:bA):Prop:=∃t,t∈l/\t.Has (ax,r)
def acs{h:Nat}{ax:List AV}{r:AV}:∀{l:bA},E8 h ax l=GR r->TB ax r l
 | [],hf=>by simp[E8] at hf
 | t::l,hf=>by
  have tail:E8 h ax l=GR r->TB ax r (t::l):=fun q=>by
   have⟨t',h1,h2⟩:=acs q;exact⟨t',xr _ h1,h2⟩
  simp only[E8] at hf
  split at hf
  .rename_i a q he
   cases hb:oF a ax with
   | true=>
    rw[hb] at hf;simp only[yx,yc] at hf;rw[zG _ _ hb,hf] at he;exact⟨t,xJ,Tr.VQ he⟩
   | false=>
    grind
  .grind
def apn{r:AV}{l:bA}(h:ag8 ax l=GR r):TB ax r l:=acs h
def nK(O:bE)(f:Nat)(l:bA):Prop:=∀ax r,TB ax r l->eR O f ax r
def nK.nil{O:bE}:nK O f []:=fun _ _ h=>by have⟨t,h,_⟩:=h;cases h
def nK.eE{O:bE}{a b:bA}(ha:nK O f a)(hb:nK O f b):nK O f (a++b):=fun v r h=>by
 have⟨t,h,h2⟩:=h;exact (List.mem_append.1 h).elim (fun h=>ha v r ⟨t,h,h2⟩) (fun h=>hb v r ⟨t,h,h2⟩)
def nK.one{O:bE}{r:AV}(h:eR O f ax r):nK O f [.n k (ax,r) .l .l]:=fun v q hm=>by
 have⟨t,h1,h2⟩:=hm;rcases we.1 h1 with e | e
 .subst e;rcases h2 with h2 | h2 | h2
  .grind
  .exact h2.elim
  .exact h2.elim
 .cases e
def Tr.nl{α:Type}(p:Nat->α->Prop):Tr α->Prop
 | .l=>True
 | .n k v a b=>p k v/\a.nl p/\b.nl p
def Tr.kL{α:Type}{p:Nat->α->Prop}:Tr.nl p .l:=trivial
def Tr.lI{α:Type}{p:Nat->α->Prop}{v:α}{a b:Tr α}(h:p k v)(ha:a.nl p)(hb:b.nl p):Tr.nl p (.n k v a b):=⟨h,ha,hb⟩
def Tr.EU{α:Type}{p:Nat->α->Prop}{i:Nat}{v:α}:∀{t:Tr α},t.nl p->t.find i=GR v->p i v
 | .l,_,h=>by simp[Tr.find] at h
 | .n k w a b,ha,h=>by
  simp only[Tr.find] at h
  cases hb:yu i k with
  | true=>
   rw[hb] at h;simp only[yx,yc] at h;subst h;rw[yi hb];exact ha.1
  | false=>
   rw[hb] at h
   cases hc:yP i k with
   | true=>rw[hc] at h;exact Tr.EU ha.2.1 h
   | false=>rw[hc] at h;exact Tr.EU ha.2.2 h
abbrev bE.sf(O:bE)(L:Lib):bE:={O with aK:=L}
def aeb{O:bE}{m:Mp}{S:Nat->Prop}{w:yo}{id:Nat}{o:Obj}:gl (O.sf L) m S w id o↔gl O m S w id o:=by
 cases o<;>exact Iff.rfl
def aec{O:bE}{m:Mp}{S:Nat->Prop}{w:yo}{hp:Hp}{ct:Nat}:aU (O.sf L) m S w hp ct↔aU O m S w hp ct:=
 ⟨fun h=>⟨fun id o p h1 h2=>aeb.1 (h.obj id o p h1 h2),h.lt,h.inj,h.slt,h.blt,h.low,h.nI,h.ig,h.aG⟩,
  fun h=>⟨fun id o p h1 h2=>aeb.2 (h.obj id o p h1 h2),h.lt,h.inj,h.slt,h.blt,h.low,h.nI,h.ig,h.aG⟩⟩
def adk{O:bE}{n:Nat}{hp:Hp}{ct:Nat}{v:AV}{ap:Hp}{aQ:Nat}(h:DA O n hp ct ax v ap aQ):DA (O.sf L) n hp ct ax v ap aQ:=by
 intro m S w args h1 h2;have post:∀e w',BN O m S w hp ct v ap aQ e w'->BN (O.sf L) m S w hp ct v ap aQ e w':=by
  rintro e w' ⟨u,m',S',k1,k2,k3,k4,k5⟩;exact⟨u,m',S',k1,aec.2 k2,k3,k4,k5⟩
 exact Dh.mono (h m S w args (aec.1 h1) h2) post
def jc(O:bE)(T:List (Tr bA)):Prop:=∀t,t∈T->t.nl (nK O)
def jc.nil{O:bE}:jc O []:=fun _ h=>by cases h
def jc.cons{O:bE}{t:Tr bA}{T:List (Tr bA)}(h:t.nl (nK O))(hT:jc O T):jc O (t::T):=fun u hu=>by
 rcases we.1 hu with e | e
 .grind
 .exact hT u e
def Vk{O:bE}{n:Nat}:∀{T:List (Tr bA)} {l:bA},jc O T->E9 n T=GR l->nK O n l
 | [],_,_,h=>by simp[E9] at h
 | t::T,l,hT,h=>by
  have TC:jc O T:=fun u hu=>hT u (xr _ hu)
  simp only[E9] at h
  split at h
  .exact Vk TC h
  .rename_i l1 h1;have c1:=Tr.EU (hT t xJ) h1
   split at h
   .grind
   .rename_i m h2;simp only[yc] at h;subst h;exact nK.eE c1 (Vk TC h2)
def afr{O:bE}(hO:jo O){T:List (Tr bA)}(hT:jc O T)(ex:Nat):jo (O.sf (Rx O.aK T ex)) where
 hint:=hO.hint
 mixed:=hO.mixed
 prog:=hO.prog
 aK n sp ax r h hs:=by
  simp only[Rx] at h
  cases hl:O.aK.pure n with
  | some TD=>
   simp only[hl,yc] at h;subst h;exact hO.aK n _ ax r hl hs
  | none=>
   simp only[hl] at h
   cases hb:yu n ex with
   | true=>rw[hb] at h;cases h
   | false=>
    rw[hb] at h;simp only[yS] at h
    cases hf:E9 n T with
    | none=>simp[hf] at h
    | some l=>
     simp only[hf,yc] at h;subst h;exact Vk hT hf ax r (apn hs)
 HX n sp hp ct ax v ap aQ h hs:=adk (hO.HX n sp hp ct ax v ap aQ h hs)
def Vl{O:bE}{L:Lib}(hO:jo (O.sf L)){f:Nat}{ax:List AV}{r:AV}:∀{t:Te},Mj O.prog L f t=true->t.Has (ax,r)->eR O f ax r
 | .l,_,h=>h.elim
 | .n k e x y,h,hm=>by
  simp only[Mj,yf] at h;rcases hm with e1 | hm | hm
  .subst e1;have h1:=h.1
   split at h1
   .rename_i r' hr;have e:r'=r:=aea _ _ h1;rw[<-e];exact sound hO hr
   .cases h1
  .exact Vl hO h.2.1 hm
  .exact Vl hO h.2.2 hm
def acu{O:bE}{L:Lib}(hO:jo (O.sf L)){f:Nat}:∀{l:bA},QM O.prog L f l=true->nK O f l
 | [],_=>nK.nil
 | t::l,h=>by
  simp only[QM,yf] at h;intro v q hm;have⟨t',h1,h2⟩:=hm;rcases we.1 h1 with e | e
  .subst e;exact Vl hO h.1 h2
  .exact acu hO h.2 v q ⟨t',e,h2⟩
def chunk_ok{O:bE}(hO:jo O){T:List (Tr bA)}(hT:jc O T):∀{C:List (Nat×bA)},cz O.prog O.aK T C=true->∀f l,(f,l)∈C->nK O f l
 | [],_,f,l,h=>by cases h
 | (g,l')::C,h,f,l,hm=>by
  simp only[cz,yf] at h;rcases we.1 hm with e | hm
  .injection e with e1 e2
   subst e1;subst e2;exact acu (afr hO hT f) h.1
  .exact chunk_ok hO hT h.2 f l hm
def aN{α:Type}{p:Nat->α->Prop}{v:α}{a b:Tr α}(h:p k v)(ha:a.nl p)(hb:b.nl p):Tr.nl p (.n k v a b):=Tr.lI h ha hb
def aL{α:Type}{p:Nat->α->Prop}:Tr.nl p .l:=Tr.kL
end
end VE
end
section
namespace VE
open Go
structure HD where
 n:Nat
 live:List (Nat×List Nat)
 out:List (Nat×List Nat)
 mode:List (Nat×Md)
 fz:List (Nat×List Nat)
 deriving Inhabited
def L4{α:Type}(i:Nat):List (Nat×α)->Option α
 | []=>GS
 | (j,a)::l=>bif yu j i then GR a else L4 i l
def avZ(bn:Nat->Option Nat)(d:HD):Hint where
 n:=d.n
 bn:=bn
 live:=fun l=>match L4 l d.live with | some x=>x | none=>[]
 out:=fun l=>L4 l d.out
 mode:=fun k=>match L4 k d.mode with | some x=>x | none=>.pure
 fz:=fun i=>match L4 i d.fz with | some x=>x | none=>[]
def QN(bn:Tr Nat)(t:Tr HD)(i:Nat):Hint:=avZ bn.find (match t.find i with | some d=>d | none=>⟨0,[],[],[],[]⟩)
def Ch(t:Tr Nat)(i:Nat):Nat:=match t.find i with | some f=>f | none=>0
def L5(ae:Tr Nat):Tr Nat->Bool
 | .l=>true
 | .n f g a b=>yu (Ch ae g) f&&(L5 ae a&&L5 ae b)
def UQ{ae:Tr Nat}:∀{t:Tr Nat},L5 ae t=true->t.nl (fun f g=>Ch ae g=f)
 | .l,_=>trivial
 | .n f g a b,h=>by
  simp only[L5,yf] at h;exact⟨yi h.1,UQ h.2.1,UQ h.2.2⟩
def WS(P:xp)(ae:Tr Nat)(bn:Tr Nat)(hd:Tr HD)(i:Nat)(F:aw):Prop:=
 ∃fn,P.funcs[Ch ae i]? =GR fn/\Hi P (QN bn hd i) fn=GR F/\fn.name≠ "runtime.NumGoroutine"
def apo{P:xp}{ae bn:Tr Nat}{hd:Tr HD}{i:Nat}{F:aw}(h:(P.funcs[Ch ae i]?).bind (Hi P (QN bn hd i))=GR F)(h2:(P.funcs[Ch ae i]?).map (fun fn=>decide (fn.name= "runtime.NumGoroutine"))=GR false):WS P ae bn hd i F:=by
 unfold WS
 cases hq:P.funcs[Ch ae i]? with
 | none=>rw[hq] at h;cases h
 | some fn=>
  rw[hq] at h h2;refine⟨fn,rfl,h,fun e=>?_⟩;simp only[Option.map_some,yc,e,yp] at h2;cases h2
end VE
end
section
namespace VE
def ao{α:Type}{a b:α}(_:a=b):α:=b
attribute [go_sem] ao
def IT{α:Type}:Nat->List (Nat×α)->Tr α
 | 0,_=>.l
 | n+1,l=>match l.drop (l.length/2) with
  | []=>.l
  | a::r=>.n a.1 a.2 (IT n (l.take (l.length/2))) (IT n r)
namespace nT
open Go
open Go.Proofs
def fl:List (Nat×Nat):=[(29,39),(46,120),(49,82),(50,56),(62,77),(69,60),(70,57),(71,106),(73,132),(74,84),(86,144),(88,123),(98,151),(99,185),(100,150),(101,149),(102,80),(107,170),(108,79),(109,145),(110,146),(111,135),(117,136),(118,176),(119,152),(122,169),(123,171),(124,215),(125,214),(128,212),(129,213),(130,216),(135,249),(136,222),(137,250),(138,251),(139,252),(140,253),(141,254),(142,226),(143,225),(144,227),(145,223),(146,147),(147,148),(148,224),(149,204),(150,205),(151,242),(152,218),(153,219),(154,220),(155,221),(156,243),(157,228),(158,229),(159,230),(160,241),(162,266),(163,201),(164,260),(165,280),(166,273),(167,278),(168,281),(169,282),(170,287),(171,272),(172,202),(173,274),(174,319),(175,259),(193,193),(194,194),(202,200),(203,131),(206,288),(214,291),(217,255),(218,256),(228,257),(229,258),(230,206),(231,198),(232,199),(236,292),(238,289),(239,290),(241,180),(242,261),(243,262),(244,320),(245,245),(246,244),(247,293),(248,277),(249,294),(250,295),(251,276),(252,247),(262,88),(263,85),(264,91),(265,94),(266,93),(267,89),(268,95),(271,33),(272,153),(273,154),(274,155),(275,156),(276,157),(277,34),(278,158),(279,161),(280,96),(281,97),(282,165),(283,164),(285,87),(287,231),(288,232),(289,167),(290,233),(291,98),(292,99),(293,234),(294,168),(295,235),(296,236),(297,237),(298,166),(299,238),(300,239),(301,240),(302,275),(315,86),(319,208),(336,210),(338,263),(339,264),(340,209),(388,143),(389,163),(390,211),(427,142),(429,92),(430,162),(633,3),(634,7),(635,8),(636,9),(637,10),(638,12),(639,13),(640,11),(641,14),(642,15),(643,16),(644,17),(645,18),(646,19),(647,20),(648,21),(649,22),(650,23),(651,24),(652,43),(653,35),(654,36),(655,44),(656,45),(657,26),(658,38),(659,37),(660,41),(661,46),(662,47),(663,48),(664,49),(665,42),(666,50),(667,51),(668,27),(669,52),(670,53),(671,54),(672,58),(673,59),(674,61),(675,62),(676,64),(677,63),(678,65),(679,66),(680,67),(681,68),(682,69),(683,70),(684,71),(685,55),(686,100),(687,102),(688,101),(689,75),(690,107),(691,81),(692,72),(693,108),(694,74),(695,73),(696,76),(697,103),(698,104),(699,105),(700,109),(701,110),(702,111),(703,112),(704,114),(705,113),(706,115),(707,116),(708,117),(709,119),(710,118),(711,121),(712,122),(713,124),(714,125),(715,83),(716,127),(717,126),(718,133),(719,134),(720,137),(721,138),(722,139),(723,141),(724,172),(725,78),(726,173),(727,174),(728,178),(729,177),(730,179),(731,181),(732,182),(733,183),(734,184),(735,187),(736,186),(737,190),(738,189),(739,195),(740,196),(741,128),(742,129),(743,203),(744,140),(745,207),(746,175),(747,246),(748,248),(749,188),(750,191),(751,192),(752,197),(753,130)]
def ae:Tr Nat:=ao (a:=IT 9 fl) (by conv=>{lhs;reduce})
def ins(x:Nat×Nat):List (Nat×Nat)->List (Nat×Nat)
 | []=>[x]
 | y::r=>bif yP x.1 y.1 then x::y::r else y::ins x r
def inv:List (Nat×Nat)->List (Nat×Nat)
 | []=>[]
 | p::r=>ins (p.2,p.1) (inv r)
def bn:Tr Nat:=ao (a:=IT 9 (inv fl)) (by conv=>{lhs;reduce})
def h0(n:Nat):HD:=⟨n,[],[],[],[]⟩
def hd:Tr HD:=ao (a:=IT 9 [(29,⟨26,[(1,[0,1,5])],[(1,[])],[],[]⟩),(46,h0 16),(49,h0 16),(50,h0 9),(62,h0 22),(69,h0 6),(70,h0 9),(71,h0 16),(73,h0 8),(74,h0 34),(86,h0 76),(88,⟨23,[(0,[3,9,10,11])],[(0,[3])],[],[]⟩),(98,h0 13),(99,⟨69,[(1,[3,4,5,6]),(6,[6,10,11])],[(1,[3,6]),(6,[10])],[],[]⟩),(100,h0 66),(101,h0 34),(102,h0 9),(107,h0 11),(108,h0 6),(110,⟨41,[(0,[0,2,3,4])],[(0,[2,3,4])],[],[]⟩),(111,h0 6),(117,h0 5),(118,h0 29),(119,h0 67),(122,h0 9),(123,⟨23,[(0,[3,9,10,11])],[(0,[3])],[],[]⟩),(124,h0 7),(125,⟨15,[(0,[5,6,7])],[(0,[])],[],[]⟩),(129,h0 19),(130,⟨23,[(0,[2,3,4])],[(0,[2,4])],[],[]⟩),(136,h0 24),(137,⟨137,[(2,[0,1,6,7,8]),(4,[9,10,11,12,13,14]),(6,[9,11,12,13,96,97])],[(2,[6,7]),(4,[9,11,12,13]),(6,[11,12,13])],[(5,.own),(7,.own),(8,.heap)],[]⟩),(142,h0 10),(144,⟨80,[(0,[1,5,20,21,22]),(2,[1,5,6,7,8,20,21,22,27,28,29])],[(0,[5]),(2,[1,5,6,8,20,21,22])],[],[]⟩),(145,h0 50),(146,h0 7),(147,h0 26),(148,h0 21),(149,h0 14),(150,h0 9),(151,h0 13),(155,⟨23,[(0,[1,2,4,5])],[(0,[4,5])],[],[]⟩),(156,h0 9),(157,⟨54,[(1,[0,1,5,6,21,22])],[(1,[0,5,6])],[],[]⟩),(158,⟨41,[(2,[0,1,5])],[(2,[])],[],[]⟩),(159,⟨41,[(0,[0,1,5,6,13,14])],[(0,[5])],[],[]⟩),(160,⟨19,[(0,[0,1,7,8])],[(0,[])],[],[]⟩),(163,h0 9),(164,h0 84),(165,⟨135,[(3,[2,8,9,10,11,13,14,15,16]),(6,[2,8,9,10,14,15,16,17,18])],[(3,[2,8,9,10,11,13,14,15]),(6,[2,8,14,15,17,18])],[],[]⟩),(166,⟨21,[(0,[0,3])],[(0,[0,3])],[],[]⟩),(168,⟨40,[(0,[1,5,12,13,14])],[(0,[5])],[],[]⟩),(169,⟨186,[(1,[0,1,5,6,7,8]),(4,[0,1,5,6,11,12,104,105]),(7,[0,1,5,6,17,156,157])],[(1,[0,1,5,6]),(4,[0,1,5,6,11,12]),(7,[0,5,6,17])],[],[]⟩),(172,h0 25),(202,⟨73,[(2,[5,6,7])],[(2,[5,6,7])],[],[]⟩),(203,h0 10),(228,h0 13),(229,h0 32),(230,h0 11),(231,h0 7),(232,⟨28,[(0,[0,2,3]),(2,[0,2,3])],[(0,[0,2,3]),(2,[0,2,3])],[],[]⟩),(241,h0 14),(243,h0 63),(245,h0 15),(246,h0 6),(247,h0 10),(252,h0 7),(262,h0 13),(263,h0 96),(264,h0 63),(265,h0 6),(266,h0 9),(267,h0 55),(268,h0 14),(271,h0 9),(272,⟨17,[(0,[0,3])],[(0,[0])],[],[]⟩),(273,h0 18),(274,h0 25),(275,⟨19,[(0,[0,1])],[(0,[0])],[],[]⟩),(276,h0 54),(277,h0 61),(278,h0 16),(279,h0 40),(280,h0 57),(281,⟨25,[(0,[0,2,3,4])],[(0,[2,3,4])],[],[]⟩),(282,⟨39,[(1,[1,3,4])],[(1,[1,3])],[],[]⟩),(283,h0 13),(285,h0 9),(287,⟨20,[(0,[0,3])],[(0,[])],[],[]⟩),(288,⟨40,[(1,[0,2,3,4])],[(1,[0,2,3,4])],[],[]⟩),(289,⟨206,[(2,[0,8,9,10,11]),(4,[8,9,10,11,12,13]),(6,[8,9,10,11,12,13,14,15,16]),(10,[8,9,10,11,12,13,14,19,20])],[(2,[8,9,10,11]),(4,[8,10,11,12]),(6,[8,9,10,11,12,13,14,15]),(10,[8,9,10,11,12,13,14,19])],[(5,.heap)],[]⟩),(290,⟨20,[(0,[0,3,4])],[(0,[3])],[],[]⟩),(291,⟨12,[(0,[0,1])],[(0,[0])],[],[]⟩),(292,⟨25,[(0,[0,1,5])],[(0,[5])],[],[]⟩),(293,⟨72,[(0,[0,1,5,6]),(2,[0,1,5,6,7,8])],[(0,[5]),(2,[0,1,5,6,7])],[],[]⟩),(294,h0 15),(295,⟨42,[(0,[0,1,5,6,7])],[(0,[5])],[],[]⟩),(296,⟨41,[(2,[0,1,5])],[(2,[])],[],[]⟩),(297,⟨35,[(0,[0,1,5,6,7])],[(0,[5])],[],[]⟩),(298,h0 9),(299,⟨39,[(0,[0,1,6,7,8])],[(0,[6,7])],[],[]⟩),(300,⟨21,[(0,[0])],[(0,[0])],[],[]⟩),(301,⟨77,[(0,[0,1,2,7,9,10])],[(0,[9])],[],[]⟩),(302,h0 13),(315,h0 9),(319,h0 5),(336,h0 17),(338,h0 8),(339,h0 29),(340,⟨62,[(1,[4,5,6])],[(1,[5])],[],[]⟩),(388,⟨84,[(4,[0,6]),(6,[0,6])],[(4,[0,6]),(6,[0,6])],[],[]⟩),(389,⟨27,[(1,[0,1,5])],[(1,[5])],[],[]⟩),(390,⟨25,[(0,[1,5,6]),(2,[1,5,7])],[(0,[1,5]),(2,[5])],[],[]⟩),(429,h0 21),(430,⟨23,[(0,[0,4]),(2,[0,4])],[(0,[0,4]),(2,[0,4])],[],[]⟩),(633,h0 95),(634,h0 31),(635,h0 23),(636,⟨19,[(1,[0,3])],[(1,[])],[],[]⟩),(637,h0 287),(638,h0 14),(639,⟨20,[(0,[3,6,7,8])],[(0,[3])],[],[]⟩),(640,⟨182,[(2,[3,4,5,10,40,41,42]),(4,[3,5,10,13,14,58,59]),(7,[3,10,13,14,18,19,20,100,101,102])],[(2,[3,4,5,10]),(4,[3,10,13,14]),(7,[14,19,20])],[],[]⟩),(641,h0 14),(642,h0 14),(643,h0 14),(644,h0 14),(645,h0 14),(646,⟨149,[(2,[2,3,6]),(4,[2,3,6,7]),(8,[2,3,8])],[(2,[2,3]),(4,[2,3,6]),(8,[])],[],[]⟩),(647,⟨19,[(0,[0,3])],[(0,[])],[],[]⟩),(648,h0 17),(649,⟨59,[(0,[2,3,4,8,9]),(2,[2,3,4,8,9,10,11])],[(0,[8]),(2,[2,3,4,8,9,10])],[],[(12,[10])]⟩),(650,⟨53,[(1,[0,1,5]),(4,[0,1,5,6])],[(1,[]),(4,[0,1,5])],[],[]⟩),(651,⟨39,[(0,[0,3]),(2,[0,3,4])],[(0,[]),(2,[0,3])],[],[]⟩),(652,h0 14),(653,h0 50),(654,h0 18),(655,h0 27),(656,h0 162),(657,⟨111,[(2,[3,4,5,10,52,53])],[(2,[3,4,5,10])],[],[]⟩),(658,⟨70,[(1,[1,7,26,27,28]),(4,[1,7,8,9,26,27,28,46])],[(1,[7]),(4,[1,7,26,27,28])],[],[]⟩),(659,⟨26,[(1,[0,1,5])],[(1,[])],[],[]⟩),(660,⟨136,[(2,[4,5,6,7,12,14,15,16,17,18])],[(2,[12,15])],[],[]⟩),(661,⟨45,[(1,[5,6,19,20,21]),(3,[5,6,9,19,20,21,25,26,27])],[(1,[6]),(3,[5,6,9,19,20,21])],[],[(15,[9])]⟩),(662,⟨101,[(3,[0,6,7,34,35]),(5,[0,6,7,8,9,34,35,38,39]),(7,[0,6,7,8,9,10,11,34,35,38,39,42,43]),(9,[0,6,7,8,9,10,11,12,34,35,38,39,42,43,46,47])],[(3,[7]),(5,[0,6,7,9,34,35]),(7,[0,6,7,8,9,11,34,35,38,39]),(9,[0,6,7,8,9,10,11,34,35,38,39,42,43])],[],[(31,[9])]⟩),(663,⟨128,[(1,[2,7,8,9,35]),(3,[2,7,8,9,10,35,38,39]),(5,[2,7,8,9,10,11,12,35,38,39,42,43]),(7,[2,7,8,9,10,11,12,13,14,35,38,39,42,43,49,50]),(9,[2,7,8,9,10,11,12,13,14,15,35,38,39,42,43,49,50,53,54])],[(1,[2,9]),(3,[2,7,8,9,35]),(5,[2,7,8,9,10,12,35,38,39]),(7,[2,7,8,9,10,11,12,14,35,38,39,42,43]),(9,[2,7,8,9,10,11,12,13,14,35,38,39,42,43,49,50])],[],[(32,[12])]⟩),(664,⟨145,[(1,[1,4,32,33]),(4,[1,4,9,44,45]),(6,[1,4,9,44,45,48,49,50]),(9,[1,4,14,15,70,71]),(11,[1,4,14,15,16,17,70,71,74,75]),(13,[1,4,14,15,16,17,18,19,70,71,74,75,78])],[(1,[1,4]),(4,[1,4,9]),(6,[1,4,9,44,45]),(9,[15]),(11,[1,4,14,15,17,70,71]),(13,[1,4,14,15,16,17,19,70,71,74,75])],[],[(44,[17])]⟩),(665,⟨26,[(1,[0,1,5])],[(1,[])],[],[]⟩),(666,⟨53,[(1,[0,1,5]),(4,[0,1,5,6])],[(1,[]),(4,[0,1,5])],[],[]⟩),(667,⟨74,[(4,[1,7,49,50]),(6,[1,7,9,49,50,56,57,58])],[(4,[]),(6,[1,7,49,50])],[],[]⟩),(668,⟨90,[(2,[1,8,40,41]),(4,[1,8,9,10,40,41,50,51]),(6,[1,8,9,10,11,12,40,41,50,51,55,56,57])],[(2,[8]),(4,[1,8,10,40,41]),(6,[1,8,9,10,12,40,41,50,51])],[],[(23,[10])]⟩),(669,⟨27,[(1,[0,1,5])],[(1,[])],[],[]⟩),(670,h0 16),(671,h0 39),(672,h0 4),(673,h0 6),(674,h0 6),(675,⟨50,[(0,[4,13,14,15]),(2,[4,6,7,13,14,15,19,20,21])],[(0,[4]),(2,[4,6,7,13,14,15])],[],[(16,[12])]⟩),(676,h0 16),(677,⟨15,[(0,[5,6,7])],[(0,[])],[],[]⟩),(678,h0 15),(679,⟨106,[(2,[2,3,42,43,44])],[(2,[])],[],[]⟩),(680,⟨44,[(1,[0,2,7]),(4,[0,2,7,8])],[(1,[]),(4,[0,2,7])],[],[]⟩),(681,⟨24,[(0,[1,2,3,7])],[(0,[])],[],[]⟩),(682,⟨109,[(0,[2,3,4,5,6,11,12,13,14])],[(0,[11,12])],[],[]⟩),(683,h0 37),(684,⟨47,[(0,[0,4,5]),(2,[0,4,5,6,7])],[(0,[4]),(2,[0,4,5,6])],[],[(13,[6])]⟩),(685,h0 12),(686,h0 8),(687,h0 14),(688,⟨67,[(1,[4,5,10,31,32,33])],[(1,[4,5,10])],[],[]⟩),(689,h0 14),(690,h0 18),(691,h0 8),(692,h0 7),(693,⟨119,[(0,[1,2,3,4,8,9,10,11]),(2,[1,2,3,4,8,9,10,11,12,13,35,36,37])],[(0,[8,9]),(2,[1,2,3,4,8,9,10,11,12,13])],[],[]⟩),(694,⟨50,[(1,[6,7,27,28])],[(1,[7])],[],[]⟩),(695,⟨21,[(0,[1,8,9,10])],[(0,[])],[],[]⟩),(696,h0 22),(697,h0 8),(698,h0 8),(699,h0 6),(700,h0 16),(701,h0 12),(702,h0 13),(703,⟨38,[(0,[3,9,10,11]),(2,[3,6,9,10,11,15,16,17])],[(0,[3]),(2,[3,6,9,10,11])],[],[(11,[6])]⟩),(704,⟨66,[(0,[0,3,4,13,14]),(2,[0,3,4,5,6,13,14,17,18]),(4,[0,3,4,5,6,7,8,13,14,17,18,24,25]),(6,[0,3,4,5,6,7,8,9,13,14,17,18,24,25,28,29])],[(0,[4]),(2,[0,3,4,6,13,14]),(4,[0,3,4,5,6,8,13,14,17,18]),(6,[0,3,4,5,6,7,8,13,14,17,18,24,25])],[],[(22,[6])]⟩),(705,⟨59,[(0,[4,15,16,17]),(2,[4,7,15,16,17,21,22,23])],[(0,[4]),(2,[4,7,15,16,17])],[],[(16,[7])]⟩),(709,h0 33),(710,h0 16),(711,⟨17,[(0,[0,7,8,9])],[(0,[])],[],[]⟩),(712,h0 12),(713,h0 6),(715,⟨21,[(0,[1,8,9,10])],[(0,[])],[],[]⟩),(716,h0 18),(717,⟨21,[(0,[1,8,9,10])],[(0,[])],[],[]⟩),(718,⟨26,[(0,[0,1,8,9])],[(0,[])],[(0,.heap)],[]⟩),(719,⟨39,[(0,[0,1,2,7,8]),(2,[0,1,2,4,7,8,12,13])],[(0,[]),(2,[0,1,2,7,8])],[(0,.heap)],[]⟩),(720,⟨21,[(0,[2,4,6,9,10,11])],[(0,[4,6])],[],[]⟩),(721,⟨94,[(1,[1,4,5])],[(1,[1,4,5])],[],[]⟩),(722,h0 5),(723,h0 9),(724,h0 49),(725,h0 14),(726,h0 11),(727,h0 15),(728,h0 10),(729,⟨21,[(0,[1,8,9,10])],[(0,[])],[],[]⟩),(735,h0 10),(736,⟨21,[(0,[1,8,9,10])],[(0,[])],[],[]⟩),(737,h0 11),(738,⟨21,[(0,[1,8,9,10])],[(0,[])],[],[]⟩),(741,h0 9),(742,h0 6),(744,h0 6),(745,⟨19,[(0,[0,1,7,8])],[(0,[])],[],[]⟩),(746,h0 6),(749,⟨21,[(0,[1,8,9,10])],[(0,[])],[],[]⟩),(750,⟨21,[(0,[1,8,9,10])],[(0,[])],[],[]⟩),(751,h0 14),(752,⟨19,[(0,[0,1,7,8])],[(0,[])],[],[]⟩),(753,h0 7)]) (by conv=>{lhs;reduce})
def av0:L5 ae bn=true:=by decide+kernel
noncomputable def cc(i:Nat):aw:=match (Tryz.prog.funcs[Ch ae i]?).bind (Hi Tryz.prog (QN bn hd i)) with
 | some F=>F
 | none=>⟨[],.skip⟩
end nT
def nest:VC->List VC
 | .seq a b=>nest a++nest b
 | .cond _ a b=>nest a++nest b
 | .eS _ a=>nest a
 | .loop _ a=>[a]
 | .rf _ _ a b=>[a,b]
 | _=>[]
def qh:VC->List VC->VC×List VC
 | .seq a b,l=>(.seq (qh a l).1 (qh b (qh a l).2).1,(qh b (qh a l).2).2)
 | .cond x a b,l=>(.cond x (qh a l).1 (qh b (qh a l).2).1,(qh b (qh a l).2).2)
 | .eS i a,l=>(.eS i (qh a l).1,(qh a l).2)
 | .loop v a,l=>(.loop v (l.headD a),l.tail)
 | .rf f ps a b,l=>(.rf f ps (l.headD a) (l.tail.headD b),l.tail.tail)
 | c,l=>(c,l)
def aiP(c:VC):List Nat->VC
 | []=>c
 | i::r=>aiP ((nest c).getD i .skip) r
noncomputable def bq(F:aw)(p:List Nat)(l:List VC):VC:=(qh (aiP F.body p) l).1
noncomputable def ck(F:aw)(l:List VC):aw:=⟨F.dC,(qh F.body l).1⟩
end VE
end
