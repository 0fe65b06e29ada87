import Derived.Lib.AppendIntMem
import Derived.OwnWalk
import Derived.WalkKit
import Derived.KernelRfl
import Derived.Attr
import Derived.Test.YtebpicijmcnecaaGreatDoorUac
import Derived.Test.YtebpicijmcnecaaGreatDoorUab
set_option linter.all false
set_option maxRecDepth 100000
open Array renaming size_replicate->vS
open Bool renaming and_eq_true->ye,false_eq_true->yA
open Go renaming FloatKind->xO,IntKind->yZ,Program->xi,World->yi
open List renaming mem_cons->xn,mem_cons_of_mem->xG,mem_cons_self->wm
open Nat renaming beq->yo,blt->yF,eq_of_beq_eq_true->yf
open Option.some renaming injEq->yb
open Option renaming some->D5,none->D6
section
namespace Go.Proofs
open Go.Shelf
open Go.RowKit Go.Sort Go.Lib
set_option maxHeartbeats 6400000 in
set_option maxRecDepth 100000 in
def Tryz.agx(u:Nat)(Dm:u<18446744073709551616)(w:yi)(Dl:Lib.TabIs Tryz.prog w "internal/strconv.uint64pow10" .u64 Lib.pow10Tab):
  Calls Tryz.prog 278 #[.int .u64 u,.int .i64 10] w fun e w'=>e=.returned (.string ⟨(Lib.decDigits u).toArray⟩)/\∃k os,w'=grow (w.drewN k) os:=by
 by_cases hs:u<100
 .go_enter Tryz.func278,Tryz.ntmps278
  go_wp2_with (go_at_call 308;refine (Tryz.internal_strconv_small u hs _).mono ?_;rintro e w' ⟨rfl,rfl⟩)
  go_ret
  exact⟨rfl,0,#[],by simp[World.drewN_zero]⟩
 .have rz:1<=u:=by omega
  have aAh:Lib.nDigits u<=20:=by have:=Lib.numDigits_eq u rz Dm;split at this<;>omega
  have hal:Tryz.prog.arrayLen 354=24:=by simp[Program.arrayLen,Tryz.underlying354]
  have oC:∀W,(Instr.sliceAt 354 (.pointer (D5 ⟨w.heap.size,0,D6⟩)) D6 (D5 (.int .i64 (Lib.nDigits u:Int))) D6).run Tryz.prog W=.ok (.slice (D5 ⟨w.heap.size,0,D6⟩) (Lib.nDigits u) 24) W:=fun W=>by
   rw[run_sliceAt_array_h W 354 ⟨w.heap.size,0,D6⟩ (by simp[Program.arrayLen,Program.elem,Tryz.underlying354]) .i64 (Lib.nDigits u:Int) (by omega) (by rw[hal];omega)]
   go_simp
  have UQ:=Lib.holds_zero0 w 354 (Lib.nDigits u) (by omega);have acO:=Tryz.internal_strconv_formatBase10 w.heap.size 0 24 u (Array.replicate (Lib.nDigits u) 0) (w.alloc (.cells Lib.zeros24 354)) UQ (by rw[vS];exact Lib.lt_pow_nDigits u) Dm (by rw[vS];omega)
  rw[vS] at acO;have HH0:=Lib.hid UQ;have iu:(100:Int)<=(u:Int):=by omega
  clear UQ hal
  go_enter Tryz.func278,Tryz.ntmps278
  go_wp2_with (first
   | (go_at_call 309;refine (Tryz.internal_strconv_numDigits u rz Dm _ (Lib.tabIs_alloc Dl _)).mono ?_;rintro e w' ⟨rfl,rfl⟩))
  go_at_call 310
  refine acO.mono ?_;rintro e w' ⟨rfl,k,v',dk,rfl,hF⟩;have OF:(convert 45 9 (.slice (D5 ⟨w.heap.size,0,D6⟩) (Lib.nDigits u) 24)).run Tryz.prog ((putRow (fun (b:UInt8)=>Value.int .u8 (b.toNat:Int)) (w.alloc (.cells Lib.zeros24 354)) w.heap.size 0 dk).drewN k)=.ok (.string ⟨(Lib.decDigits u).toArray⟩) ((putRow (fun (b:UInt8)=>Value.int .u8 (b.toNat:Int)) (w.alloc (.cells Lib.zeros24 354)) w.heap.size 0 dk).drewN k):=by
   have h:=run_convert_bytes_back (P:=Tryz.prog) ((putRow (fun (b:UInt8)=>Value.int .u8 (b.toNat:Int)) (w.alloc (.cells Lib.zeros24 354)) w.heap.size 0 dk).drewN k) 45 9 5 ⟨w.heap.size,0,D6⟩ 24 (Lib.decDigits u) Tryz.underlying45 Tryz.underlying5 Tryz.underlying9 (fun j hj=>by
    rw[Lib.row_is_numeral hF j hj,Lib.add_plain,World.cell?_drewN]
    exact cell?_putRow (fun (b:UInt8)=>Value.int .u8 (b.toNat:Int)) _ w.heap.size 0 _ dk HH0.out (by rw[hF.size,vS]) j (by rw[hF.size];rw[Lib.decDigits_length] at hj;exact hj))
   rw[Lib.decDigits_length] at h;exact h
  go_wp2
  go_ret
  obtain⟨os,eo⟩:=Lib.fin_at w (.cells Lib.zeros24 354) dk k 0;exact⟨rfl,k,os,eo⟩
def Tryz.agz(u:Nat)(Dm:u<18446744073709551616)(w:yi)(Dl:Lib.TabIs Tryz.prog w "internal/strconv.uint64pow10" .u64 Lib.pow10Tab):
  Calls Tryz.prog 242 #[.int .u64 u,.int .i64 10] w fun e w'=>e=.returned (.string ⟨(Lib.decDigits u).toArray⟩)/\∃k os,w'=grow (w.drewN k) os:=by
 go_enter Tryz.func242,Tryz.ntmps242
 go_wp2_with (go_at_call 278;refine (Tryz.agx u Dm _ Dl).mono ?_;rintro e w' ⟨rfl,k,os,rfl⟩)
 go_ret
 exact⟨rfl,k,os,rfl⟩
end Go.Proofs
end
section
namespace VE
abbrev Rq(d:Nat)(o:Op):aO:=⟨D5 d,D6,o⟩
abbrev Rt(d g:Nat)(o:Op):aO:=⟨D5 d,D5 (g,true),o⟩
abbrev Rf(d g:Nat)(o:Op):aO:=⟨D5 d,D5 (g,false),o⟩
abbrev qm(d s:Nat):aO:=⟨D5 d,D6,.pU (.t s)⟩
abbrev qc0(d f:Nat):aO:=⟨D5 d,D6,.call .pure (.c (.fn (.f f) [] [])) []⟩
abbrev qc1(d f a:Nat):aO:=⟨D5 d,D6,.call .pure (.c (.fn (.f f) [] [])) [.t a]⟩
abbrev qc2(d f a b:Nat):aO:=⟨D5 d,D6,.call .pure (.c (.fn (.f f) [] [])) [.t a,.t b]⟩
abbrev qc3(d f a b c:Nat):aO:=⟨D5 d,D6,.call .pure (.c (.fn (.f f) [] [])) [.t a,.t b,.t c]⟩
abbrev qc4(d f a b c e:Nat):aO:=⟨D5 d,D6,.call .pure (.c (.fn (.f f) [] [])) [.t a,.t b,.t c,.t e]⟩
abbrev ql(d n s:Nat):aO:=⟨D5 d,D6,.ld n false (.t s)⟩
abbrev qL(d n s:Nat):aO:=⟨D5 d,D6,.ld n true (.t s)⟩
abbrev qk(d:Nat)(k:Int):aO:=⟨D5 d,D6,.pU (.c (.int .i64 k))⟩
abbrev qf(d:Nat):aO:=⟨D5 d,D6,.pU (.c (.bool false))⟩
abbrev qz(d:Nat):aO:=⟨D5 d,D6,.pU (.c .ah)⟩
abbrev qi(d n s i:Nat):aO:=⟨D5 d,D6,.bD n (.t s) (.t i)⟩
abbrev qo(d n s:Nat):aO:=⟨D5 d,D6,.off n (.t s)⟩
abbrev qn(d n s:Nat):aO:=⟨D5 d,D6,.len n (.t s)⟩
abbrev qe(d n s:Nat):aO:=⟨D5 d,D6,.ext n (.t s)⟩
abbrev qb(d n s:Nat):aO:=⟨D5 d,D6,.box n (.t s)⟩
abbrev qs(n a b:Nat):aO:=⟨D6,D6,.st n (.t a) (.t b)⟩
abbrev qa(d a:Nat)(k:Int):aO:=⟨D5 d,D6,.bin .add (.t a) (.c (.int .i64 k))⟩
abbrev qN(d a:Nat)(k:Int):aO:=⟨D5 d,D6,.bin .neq (.t a) (.c (.int .i64 k))⟩
abbrev qE(d a:Nat)(k:Int):aO:=⟨D5 d,D6,.bin .eql (.t a) (.c (.int .i64 k))⟩
abbrev qA(d a b:Nat):aO:=⟨D5 d,D6,.bin .add (.t a) (.t b)⟩
abbrev qT(d a b:Nat):aO:=⟨D5 d,D6,.bin .lss (.t a) (.t b)⟩
abbrev qp(d c b:Nat):aO:=⟨D5 d,D6,.pick (.t c) (.c (.bool true)) (.t b)⟩
abbrev qq(d c b:Nat):aO:=⟨D5 d,D6,.pick (.t c) (.t b) (.c (.bool false))⟩
abbrev X.k(n:Int):X:=.c (.int .i64 n)
abbrev X.u(n:Int):X:=.c (.int .u64 n)
abbrev X.F(n:Nat):X:=.c (.fn (.f n) [] [])
abbrev X.s(l:List Nat):X:=.c (.str l)
abbrev AV.i(n:Int):AV:=.int .i64 n
abbrev Op.q(f:Nat)(l:List X):Op:=.call .pure (.c (.fn (.f f) [] [])) l
abbrev Op.y(o:Go.BinOp)(a:Nat)(n:Int):Op:=.bin o (.t a) (.c (.int .i64 n))
abbrev Op.z(o:Go.BinOp)(a b:Nat):Op:=.bin o (.t a) (.t b)
abbrev Op.m(a:Nat):Op:=.pU (.t a)
abbrev VC.g(o:List aO)(b:VC):VC:=.seq (.nm o) b
abbrev VC.q(a b:VC):VC:=.seq a b
abbrev VC.e(o:List aO):VC:=.seq (.nm o) .ret
abbrev VC.i(t:Nat)(a:VC):VC:=.cond (.t t) a .skip
abbrev VC.h(o:List aO)(t:Nat)(a b:VC):VC:=.seq (.seq (.nm o) (.cond (.t t) a .skip)) b
end VE
end
section
namespace VE
inductive Tr(α:Type) where
 | l
 | n (k:Nat) (v:α) (a b:Tr α)
def Tr.find{α:Type}:Tr α->Nat->Option α
 | .l,_=>D6
 | .n k v a b,i=>bif yo i k then D5 v else bif yF i k then a.find i else b.find i
end VE
end
section
namespace VE
open Go (IntKind FloatKind)
def MI:yZ->Nat
 | .i8=>0 | .i16=>1 | .i32=>2 | .i64=>3 | .u8=>4 | .u16=>5 | .u32=>6 | .u64=>7
def UR:Int->Int->Bool
 | .ofNat a,.ofNat b=>yo a b
 | .negSucc a,.negSucc b=>yo a b
 | _,_=>false
def OG:Bool->Bool->Bool
 | true,true | false,false=>true
 | _,_=>false
def US:xO->xO->Bool
 | .f32,.f32 | .f64,.f64=>true
 | _,_=>false
mutual
def fJ:AV->AV->Bool
 | .int k a,.int k' b=>yo (MI k) (MI k')&&UR a b
 | .bool a,.bool b=>OG a b
 | .au k a,.au k' b=>US k k'&&yo a b
 | .cK k a b,.cK k' c d=>US k k'&&(yo a c&&yo b d)
 | .str a,.str b=>fX a b
 | .jq,.jq=>true
 | .bJ a,.bJ b=>mo a b
 | .ah,.ah=>true
 | .aq e n a,.aq e' n' b=>OG e e'&&(yo n n'&&mo a b)
 | .cu e s n a,.cu e' s' n' b=>OG e e'&&(yo s s'&&(yo n n'&&mo a b))
 | .fn (.f g) a b,.fn (.f g') a' b'=>yo g g'&&(mo a a'&&mo b b')
 | .fR,.fR=>true
 | .iw,.iw=>true
 | .iz a b,.iz a' b'=>mo a a'&&mo b b'
 | .agg a,.agg b=>mo a b
 | .ay a,.ay b=>mo a b
 | .undef,.undef=>true
 | _,_=>false
def mo:List AV->List AV->Bool
 | [],[]=>true
 | a::x,b::y=>fJ a b&&mo x y
 | _,_=>false
end
def hI:Int->Nat
 | .ofNat n=>n
 | .negSucc n=>n+n
def hS:List Nat->Nat
 | []=>1
 | b::r=>(b+257*hS r)%65521
mutual
def hV:AV->Nat
 | .int _ n=>hI n
 | .bool b=>bif b then 1 else 2
 | .au _ n=>n
 | .cK _ n k=>n+k
 | .str s=>hS s
 | .aq _ n cs=>n+hL cs
 | .agg cs=>hL cs
 | .ay cs=>hL cs
 | _=>5
def hL:List AV->Nat
 | []=>7
 | v::r=>(hV v+263*hL r)%65521
end
abbrev Te:=Tr (List AV×AV)
abbrev bj:=List Te
def CN(h:Nat)(ap:List AV):bj->Option AV
 | []=>D6
 | t::l=>match t.find h with
  | some (a,r)=>bif mo a ap then D5 r else CN h ap l
  | none=>CN h ap l
def abl(ap:List AV)(l:bj):Option AV:=CN (hL ap) ap l
abbrev Te.o(h:Nat)(a:List AV)(r:AV):Te:=.n h (a,r) .l .l
abbrev Te.m(h:Nat)(a:List AV)(r:AV)(x y:Te):Te:=.n h (a,r) x y
def CO(n:Nat):List (Tr bj)->Option bj
 | []=>D6
 | t::r=>match t.find n with
  | none=>CO n r
  | some l=>match CO n r with | none=>D5 l | some m=>D5 (l++m)
def Ni(L:Lib)(T:List (Tr bj))(ex:Nat):Lib:=
 ⟨fun i=>match L.pure i with
  | some sp=>D5 sp
  | none=>bif yo i ex then D6 else match CO i T with | some l=>D5 (fun ap=>abl ap l) | none=>D6,L.heap⟩
def IV(P:aE)(L:Lib)(f:Nat):Te->Bool
 | .l=>true
 | .n _ e x y=>(match Un P L 100000 f e.1 with | some r'=>fJ r' e.2 | none=>false)&&(IV P L f x&&IV P L f y)
def MJ(P:aE)(L:Lib)(f:Nat):bj->Bool
 | []=>true
 | t::l=>IV P L f t&&MJ P L f l
def bW(P:aE)(L:Lib)(T:List (Tr bj)):List (Nat×bj)->Bool
 | []=>true
 | (f,l)::C=>MJ P (Ni L T f) f l&&bW P L T C
end VE
end
section
namespace VE
open Go
section
variable {L:Lib}{ap:List AV}{f k:Nat}
def aiV{a b:yZ}(h:yo (MI a) (MI b)=true):a=b:=by
 cases a<;>cases b<;>first | rfl | (exact absurd h (by decide))
def akS{a b:Int}(h:UR a b=true):a=b:=by
 cases a<;>cases b<;>simp only[UR,reduceCtorEq] at h<;>rw[yf h]
def QA{a b:Bool}(h:OG a b=true):a=b:=by
 cases a<;>cases b<;>first | rfl | (exact absurd h (by decide))
def YO{a b:xO}(h:US a b=true):a=b:=by
 cases a<;>cases b<;>first | rfl | (exact absurd h (by decide))
mutual
def YP:∀(a b:AV),fJ a b=true->a=b
 | .int k a,b,h=>by
  cases b<;>simp only[fJ,ye,yA] at h
  rw[aiV h.1,akS h.2]
 | .bool a,b,h=>by
  cases b<;>simp only[fJ,yA] at h
  rw[QA h]
 | .au k a,b,h=>by
  cases b<;>simp only[fJ,ye,yA] at h
  rw[YO h.1,yf h.2]
 | .cK k a c,b,h=>by
  cases b<;>simp only[fJ,ye,yA] at h
  rw[YO h.1,yf h.2.1,yf h.2.2]
 | .str a,b,h=>by
  cases b<;>simp only[fJ,yA] at h
  rw[Qv h]
 | .jq,b,h=>by cases b<;>simp only[fJ,yA] at h;rfl
 | .ptr _ _,b,h=>by cases b<;>simp only[fJ,yA] at h
 | .bJ a,b,h=>by
  cases b<;>simp only[fJ,yA] at h
  rw[qG _ _ h]
 | .ah,b,h=>by cases b<;>simp only[fJ,yA] at h;rfl
 | .aq e n a,b,h=>by
  cases b<;>simp only[fJ,ye,yA] at h
  rw[QA h.1,yf h.2.1,qG _ _ h.2.2]
 | .cu e s n a,b,h=>by
  cases b<;>simp only[fJ,ye,yA] at h
  rw[QA h.1,yf h.2.1,yf h.2.2.1,qG _ _ h.2.2.2]
 | .av _ _ _,b,h=>by cases b<;>simp only[fJ,yA] at h
 | .fn (.f g) x y,b,h=>by
  cases b<;>try (simp only[fJ,yA] at h;done)
  rename_i fr _ _;cases fr<;>simp only[fJ,ye,yA] at h
  rw[yf h.1,qG _ _ h.2.1,qG _ _ h.2.2]
 | .fn (.y _) _ _,b,h=>by cases b<;>simp only[fJ,yA] at h
 | .fR,b,h=>by cases b<;>simp only[fJ,yA] at h;rfl
 | .iw,b,h=>by cases b<;>simp only[fJ,yA] at h;rfl
 | .map _,b,h=>by cases b<;>simp only[fJ,yA] at h
 | .iz x y,b,h=>by
  cases b<;>simp only[fJ,ye,yA] at h
  rw[qG _ _ h.1,qG _ _ h.2]
 | .it _,b,h=>by cases b<;>simp only[fJ,yA] at h
 | .agg a,b,h=>by
  cases b<;>simp only[fJ,yA] at h
  rw[qG _ _ h]
 | .ay a,b,h=>by
  cases b<;>simp only[fJ,yA] at h
  rw[qG _ _ h]
 | .undef,b,h=>by cases b<;>simp only[fJ,yA] at h;rfl
def qG:∀(a b:List AV),mo a b=true->a=b
 | [],b,h=>by cases b<;>simp only[mo,yA] at h;rfl
 | x::a,b,h=>by
  cases b<;>simp only[mo,ye,yA] at h
  rw[YP _ _ h.1,qG _ _ h.2]
end
def Tr.Has{α:Type}(x:α):Tr α->Prop
 | .l=>False
 | .n _ v a b=>v=x\/a.Has x\/b.Has x
def Tr.QB{α:Type}{h:Nat}{x:α}:∀{t:Tr α},t.find h=D5 x->t.Has x
 | .l,hf=>by simp[Tr.find] at hf
 | .n k v a b,hf=>by
  simp only[Tr.find] at hf
  cases h1:yo h k with
  | true=>rw[h1] at hf;simp only[yr,yb] at hf;exact .inl hf
  | false=>
   rw[h1] at hf
   cases h2:yF h k with
   | true=>rw[h2] at hf;exact .inr (.inl (Tr.QB hf))
   | false=>rw[h2] at hf;exact .inr (.inr (Tr.QB hf))
def OH(ap:List AV)(r:AV)(l:bj):Prop:=∃t,t∈l/\t.Has (ap,r)
def Xg{h:Nat}{ap:List AV}{r:AV}:∀{l:bj},CN h ap l=D5 r->OH ap r l
 | [],hf=>by simp[CN] at hf
 | t::l,hf=>by
  have tail:CN h ap l=D5 r->OH ap r (t::l):=fun q=>by
   have⟨t',h1,h2⟩:=Xg q;exact⟨t',xG _ h1,h2⟩
  simp only[CN] at hf
  split at hf
  .rename_i a q he
   cases hb:mo a ap with
   | true=>
    rw[hb] at hf;simp only[yr,yb] at hf;rw[qG _ _ hb,hf] at he;exact⟨t,wm,Tr.QB he⟩
   | false=>
    grind
  .grind
def aiW{r:AV}{l:bj}(h:abl ap l=D5 r):OH ap r l:=Xg h
def lD(O:bk)(f:Nat)(l:bj):Prop:=∀ap r,OH ap r l->dL O f ap r
def lD.nil{O:bk}:lD O f []:=fun _ _ h=>by have⟨t,h,_⟩:=h;cases h
def lD.df{O:bk}{a b:bj}(ha:lD O f a)(hb:lD O f b):lD O f (a++b):=fun v r h=>by
 have⟨t,h,h2⟩:=h;exact (List.mem_append.1 h).elim (fun h=>ha v r ⟨t,h,h2⟩) (fun h=>hb v r ⟨t,h,h2⟩)
def lD.one{O:bk}{r:AV}(h:dL O f ap r):lD O f [.n k (ap,r) .l .l]:=fun v q hm=>by
 have⟨t,h1,h2⟩:=hm;rcases xn.1 h1 with e | e
 .subst e;rcases h2 with h2 | h2 | h2
  .grind
  .exact h2.elim
  .exact h2.elim
 .cases e
def Tr.kU{α:Type}(p:Nat->α->Prop):Tr α->Prop
 | .l=>True
 | .n k v a b=>p k v/\a.kU p/\b.kU p
def Tr.iW{α:Type}{p:Nat->α->Prop}:Tr.kU p .l:=trivial
def Tr.jH{α:Type}{p:Nat->α->Prop}{v:α}{a b:Tr α}(h:p k v)(ha:a.kU p)(hb:b.kU p):Tr.kU p (.n k v a b):=⟨h,ha,hb⟩
def Tr.CB{α:Type}{p:Nat->α->Prop}{i:Nat}{v:α}:∀{t:Tr α},t.kU p->t.find i=D5 v->p i v
 | .l,_,h=>by simp[Tr.find] at h
 | .n k w a b,ha,h=>by
  simp only[Tr.find] at h
  cases hb:yo i k with
  | true=>
   rw[hb] at h;simp only[yr,yb] at h;subst h;rw[yf hb];exact ha.1
  | false=>
   rw[hb] at h
   cases hc:yF i k with
   | true=>rw[hc] at h;exact Tr.CB ha.2.1 h
   | false=>rw[hc] at h;exact Tr.CB ha.2.2 h
abbrev bk.oZ(O:bk)(L:Lib):bk:={O with aG:=L}
def YQ{O:bk}{m:Mp}{S:Nat->Prop}{w:yi}{id:Nat}{o:Obj}:eH (O.oZ L) m S w id o↔eH O m S w id o:=by
 cases o<;>exact Iff.rfl
def YR{O:bk}{m:Mp}{S:Nat->Prop}{w:yi}{hp:Hp}{ct:Nat}:aP (O.oZ L) m S w hp ct↔aP O m S w hp ct:=
 ⟨fun h=>⟨fun id o p h1 h2=>YQ.1 (h.obj id o p h1 h2),h.lt,h.inj,h.slt,h.blt,h.low,h.lB,h.fk,h.aB⟩,
  fun h=>⟨fun id o p h1 h2=>YQ.2 (h.obj id o p h1 h2),h.lt,h.inj,h.slt,h.blt,h.low,h.lB,h.fk,h.aB⟩⟩
def X3{O:bk}{n:Nat}{hp:Hp}{ct:Nat}{v:AV}{an:Hp}{aK:Nat}(h:Bt O n hp ct ap v an aK):Bt (O.oZ L) n hp ct ap v an aK:=by
 intro m S w args h1 h2;have post:∀e w',zx O m S w hp ct v an aK e w'->zx (O.oZ L) m S w hp ct v an aK e w':=by
  rintro e w' ⟨u,m',S',k1,k2,k3,k4,k5⟩;exact⟨u,m',S',k1,YR.2 k2,k3,k4,k5⟩
 exact A9.mono (h m S w args (YR.1 h1) h2) post
def fT(O:bk)(T:List (Tr bj)):Prop:=∀t,t∈T->t.kU (lD O)
def fT.nil{O:bk}:fT O []:=fun _ h=>by cases h
def fT.cons{O:bk}{t:Tr bj}{T:List (Tr bj)}(h:t.kU (lD O))(hT:fT O T):fT O (t::T):=fun u hu=>by
 rcases xn.1 hu with e | e
 .grind
 .exact hT u e
def P5{O:bk}{n:Nat}:∀{T:List (Tr bj)} {l:bj},fT O T->CO n T=D5 l->lD O n l
 | [],_,_,h=>by simp[CO] at h
 | t::T,l,hT,h=>by
  have OI:fT O T:=fun u hu=>hT u (xG _ hu)
  simp only[CO] at h
  split at h
  .exact P5 OI h
  .rename_i l1 h1;have c1:=Tr.CB (hT t wm) h1
   split at h
   .grind
   .rename_i m h2;simp only[yb] at h;subst h;exact lD.df c1 (P5 OI h2)
def ZX{O:bk}(hO:gC O){T:List (Tr bj)}(hT:fT O T)(ex:Nat):gC (O.oZ (Ni O.aG T ex)) where
 hint:=hO.hint
 mixed:=hO.mixed
 prog:=hO.prog
 aG n sp ap r h hs:=by
  simp only[Ni] at h
  cases hl:O.aG.pure n with
  | some OJ=>
   simp only[hl,yb] at h;subst h;exact hO.aG n _ ap r hl hs
  | none=>
   simp only[hl] at h
   cases hb:yo n ex with
   | true=>rw[hb] at h;cases h
   | false=>
    rw[hb] at h;simp only[yJ] at h
    cases hf:CO n T with
    | none=>simp[hf] at h
    | some l=>
     simp only[hf,yb] at h;subst h;exact P5 hT hf ap r (aiW hs)
 E0 n sp hp ct ap v an aK h hs:=X3 (hO.E0 n sp hp ct ap v an aK h hs)
def P6{O:bk}{L:Lib}(hO:gC (O.oZ L)){f:Nat}{ap:List AV}{r:AV}:∀{t:Te},IV O.prog L f t=true->t.Has (ap,r)->dL O f ap r
 | .l,_,h=>h.elim
 | .n k e x y,h,hm=>by
  simp only[IV,ye] at h;rcases hm with e1 | hm | hm
  .subst e1;have h1:=h.1
   split at h1
   .rename_i r' hr;have e:r'=r:=YP _ _ h1;rw[<-e];exact sound hO hr
   .cases h1
  .exact P6 hO h.2.1 hm
  .exact P6 hO h.2.2 hm
def Xh{O:bk}{L:Lib}(hO:gC (O.oZ L)){f:Nat}:∀{l:bj},MJ O.prog L f l=true->lD O f l
 | [],_=>lD.nil
 | t::l,h=>by
  simp only[MJ,ye] at h;intro v q hm;have⟨t',h1,h2⟩:=hm;rcases xn.1 h1 with e | e
  .subst e;exact P6 hO h.1 h2
  .exact Xh hO h.2 v q ⟨t',e,h2⟩
def chunk_ok{O:bk}(hO:gC O){T:List (Tr bj)}(hT:fT O T):∀{C:List (Nat×bj)},bW O.prog O.aG T C=true->∀f l,(f,l)∈C->lD O f l
 | [],_,f,l,h=>by cases h
 | (g,l')::C,h,f,l,hm=>by
  simp only[bW,ye] at h;rcases xn.1 hm with e | hm
  .injection e with e1 e2
   subst e1;subst e2;exact Xh (ZX hO hT f) h.1
  .exact chunk_ok hO hT h.2 f l hm
def aN{α:Type}{p:Nat->α->Prop}{v:α}{a b:Tr α}(h:p k v)(ha:a.kU p)(hb:b.kU p):Tr.kU p (.n k v a b):=Tr.jH h ha hb
def aL{α:Type}{p:Nat->α->Prop}:Tr.kU p .l:=Tr.iW
end
end VE
end
section
namespace VE
open Go
structure HD where
 n:Nat
 live:List (Nat×List Nat)
 out:List (Nat×List Nat)
 mode:List (Nat×Md)
 fz:List (Nat×List Nat)
 deriving Inhabited
def IF{α:Type}(i:Nat):List (Nat×α)->Option α
 | []=>D6
 | (j,a)::l=>bif yo j i then D5 a else IF i l
def aph(bi:Nat->Option Nat)(d:HD):Hint where
 n:=d.n
 bi:=bi
 live:=fun l=>match IF l d.live with | some x=>x | none=>[]
 out:=fun l=>IF l d.out
 mode:=fun k=>match IF k d.mode with | some x=>x | none=>.pure
 fz:=fun i=>match IF i d.fz with | some x=>x | none=>[]
def MK(bi:Tr Nat)(t:Tr HD)(i:Nat):Hint:=aph bi.find (match t.find i with | some d=>d | none=>⟨0,[],[],[],[]⟩)
def Af(t:Tr Nat)(i:Nat):Nat:=match t.find i with | some f=>f | none=>0
def IG(ab:Tr Nat):Tr Nat->Bool
 | .l=>true
 | .n f g a b=>yo (Af ab g) f&&(IG ab a&&IG ab b)
def PI{ab:Tr Nat}:∀{t:Tr Nat},IG ab t=true->t.kU (fun f g=>Af ab g=f)
 | .l,_=>trivial
 | .n f g a b,h=>by
  simp only[IG,ye] at h;exact⟨yf h.1,PI h.2.1,PI h.2.2⟩
def RD(P:xi)(ab:Tr Nat)(bi:Tr Nat)(hd:Tr HD)(i:Nat)(F:az):Prop:=
 ∃fn,P.funcs[Af ab i]? =D5 fn/\Ew P (MK bi hd i) fn=D5 F/\fn.name≠ "runtime.NumGoroutine"
def aiX{P:xi}{ab bi:Tr Nat}{hd:Tr HD}{i:Nat}{F:az}(h:(P.funcs[Af ab i]?).bind (Ew P (MK bi hd i))=D5 F)(h2:(P.funcs[Af ab i]?).map (fun fn=>decide (fn.name= "runtime.NumGoroutine"))=D5 false):RD P ab bi hd i F:=by
 unfold RD
 cases hq:P.funcs[Af ab i]? with
 | none=>rw[hq] at h;cases h
 | some fn=>
  rw[hq] at h h2;refine⟨fn,rfl,h,fun e=>?_⟩;simp only[Option.map_some,yb,e,xa] at h2;cases h2
end VE
end
section
namespace VE
def ao{α:Type}{a b:α}(_:a=b):α:=b
attribute [go_sem] ao
def FG{α:Type}:Nat->List (Nat×α)->Tr α
 | 0,_=>.l
 | n+1,l=>match l.drop (l.length/2) with
  | []=>.l
  | a::r=>.n a.1 a.2 (FG n (l.take (l.length/2))) (FG n r)
namespace kD
open Go
open Go.Proofs
def fl:List (Nat×Nat):=[(29,32),(46,105),(49,76),(50,51),(62,46),(69,75),(70,83),(71,77),(73,156),(74,52),(86,112),(88,108),(98,119),(99,168),(100,122),(101,121),(102,91),(107,125),(108,49),(109,113),(110,115),(111,114),(117,150),(118,151),(119,120),(122,124),(123,126),(124,183),(125,182),(128,180),(129,181),(130,184),(135,240),(136,192),(137,241),(138,242),(139,243),(140,244),(141,245),(142,199),(143,198),(144,200),(145,193),(146,118),(147,158),(148,197),(149,232),(150,233),(151,202),(152,186),(153,187),(154,188),(155,189),(156,224),(157,194),(158,195),(159,196),(160,201),(162,249),(163,229),(164,250),(165,275),(166,258),(167,273),(168,276),(169,277),(170,282),(171,257),(172,230),(173,259),(174,314),(175,268),(193,176),(194,177),(202,228),(203,117),(206,283),(214,286),(217,246),(218,247),(228,256),(229,267),(230,234),(231,190),(232,191),(236,287),(238,284),(239,285),(241,163),(242,269),(243,270),(244,315),(245,236),(246,235),(247,304),(248,272),(249,305),(250,306),(251,271),(252,238),(262,60),(263,59),(264,62),(265,208),(267,152),(268,138),(271,64),(272,128),(273,129),(274,130),(275,131),(276,133),(277,134),(278,137),(279,136),(280,135),(281,205),(282,214),(283,263),(284,141),(285,140),(286,142),(287,203),(288,204),(289,206),(290,210),(291,211),(292,212),(293,219),(294,215),(295,216),(296,217),(297,218),(298,213),(299,260),(300,261),(301,262),(302,264),(315,72),(389,209),(427,78),(429,132),(430,207),(634,6),(636,7),(637,8),(639,10),(640,25),(641,86),(642,57),(643,42),(644,11),(645,80),(647,70),(648,58),(650,31),(652,26),(653,27),(654,15),(655,28),(656,9),(657,29),(658,30),(659,33),(660,21),(661,34),(662,35),(663,36),(664,37),(665,24),(666,38),(667,39),(668,40),(669,41),(670,81),(671,82),(672,74),(673,47),(674,54),(675,84),(676,44),(677,43),(678,127),(679,153),(680,22),(685,48),(686,56),(687,69),(688,68),(689,45),(690,85),(691,50),(692,53),(693,55),(694,88),(695,87),(696,89),(697,92),(698,93),(699,73),(700,94),(701,95),(702,96),(703,97),(704,99),(705,98),(706,100),(707,101),(708,102),(709,104),(710,103),(711,106),(712,107),(713,109),(714,110),(715,111),(716,154),(717,144),(718,149),(719,116),(720,123),(721,157),(722,225),(723,227),(724,143),(725,90),(726,159),(727,145),(728,161),(729,160),(730,162),(731,164),(732,165),(733,166),(734,167),(735,170),(736,169),(737,173),(738,172),(739,178),(740,179),(741,146),(742,155),(743,231),(744,226),(745,266),(746,147),(747,237),(748,239),(749,171),(750,174),(751,175),(752,223),(753,148),(756,5),(773,23),(788,61),(791,79)]
def ab:Tr Nat:=ao (a:=FG 9 fl) (by conv=>{lhs;reduce})
def ins(x:Nat×Nat):List (Nat×Nat)->List (Nat×Nat)
 | []=>[x]
 | y::r=>bif yF x.1 y.1 then x::y::r else y::ins x r
def inv:List (Nat×Nat)->List (Nat×Nat)
 | []=>[]
 | p::r=>ins (p.2,p.1) (inv r)
def bi:Tr Nat:=ao (a:=FG 9 (inv fl)) (by conv=>{lhs;reduce})
def h0(n:Nat):HD:=⟨n,[],[],[],[]⟩
def hd:Tr HD:=ao (a:=FG 9 [(29,⟨26,[(1,[0,1,5])],[(1,[])],[],[]⟩),(46,h0 16),(49,h0 16),(50,h0 9),(62,h0 22),(69,h0 6),(70,h0 9),(71,h0 16),(73,h0 8),(74,h0 34),(86,h0 76),(88,⟨23,[(0,[3,9,10,11])],[(0,[3])],[],[]⟩),(98,h0 13),(99,⟨69,[(1,[3,4,5,6]),(6,[6,10,11])],[(1,[3,6]),(6,[10])],[],[]⟩),(100,h0 66),(101,h0 34),(102,h0 9),(107,h0 11),(108,h0 6),(110,⟨41,[(0,[0,2,3,4])],[(0,[2,3,4])],[],[]⟩),(111,h0 6),(117,h0 5),(118,h0 29),(119,h0 67),(122,h0 9),(123,⟨23,[(0,[3,9,10,11])],[(0,[3])],[],[]⟩),(124,h0 7),(125,⟨15,[(0,[5,6,7])],[(0,[])],[],[]⟩),(129,h0 19),(130,⟨23,[(0,[2,3,4])],[(0,[2,4])],[],[]⟩),(136,h0 24),(137,⟨137,[(2,[0,1,6,7,8]),(4,[9,10,11,12,13,14]),(6,[9,11,12,13,96,97])],[(2,[6,7]),(4,[9,11,12,13]),(6,[11,12,13])],[(5,.own),(7,.own),(8,.heap)],[]⟩),(142,h0 10),(144,⟨80,[(0,[1,5,20,21,22]),(2,[1,5,6,7,8,20,21,22,27,28,29])],[(0,[5]),(2,[1,5,6,8,20,21,22])],[],[]⟩),(145,h0 50),(146,h0 7),(147,h0 26),(148,h0 21),(149,h0 14),(150,h0 9),(151,h0 13),(155,⟨23,[(0,[1,2,4,5])],[(0,[4,5])],[],[]⟩),(156,h0 9),(157,⟨54,[(1,[0,1,5,6,21,22])],[(1,[0,5,6])],[],[]⟩),(158,⟨41,[(2,[0,1,5])],[(2,[])],[],[]⟩),(159,⟨41,[(0,[0,1,5,6,13,14])],[(0,[5])],[],[]⟩),(160,⟨19,[(0,[0,1,7,8])],[(0,[])],[],[]⟩),(163,h0 9),(164,h0 84),(165,⟨135,[(3,[2,8,9,10,11,13,14,15,16]),(6,[2,8,9,10,14,15,16,17,18])],[(3,[2,8,9,10,11,13,14,15]),(6,[2,8,14,15,17,18])],[],[]⟩),(166,⟨21,[(0,[0,3])],[(0,[0,3])],[],[]⟩),(168,⟨40,[(0,[1,5,12,13,14])],[(0,[5])],[],[]⟩),(169,⟨186,[(1,[0,1,5,6,7,8]),(4,[0,1,5,6,11,12,104,105]),(7,[0,1,5,6,17,156,157])],[(1,[0,1,5,6]),(4,[0,1,5,6,11,12]),(7,[0,5,6,17])],[],[]⟩),(172,h0 25),(202,⟨73,[(2,[5,6,7])],[(2,[5,6,7])],[],[]⟩),(203,h0 10),(228,h0 13),(229,h0 32),(230,h0 11),(231,h0 7),(232,⟨28,[(0,[0,2,3]),(2,[0,2,3])],[(0,[0,2,3]),(2,[0,2,3])],[],[]⟩),(241,h0 14),(243,h0 63),(245,h0 15),(246,h0 6),(247,h0 10),(252,h0 7),(262,h0 13),(263,h0 96),(264,h0 63),(265,h0 6),(267,h0 55),(268,h0 14),(271,h0 9),(272,⟨17,[(0,[0,3])],[(0,[0])],[],[]⟩),(273,h0 18),(274,h0 25),(275,⟨19,[(0,[0,1])],[(0,[0])],[],[]⟩),(276,h0 54),(277,h0 61),(278,h0 16),(279,h0 40),(280,h0 57),(281,⟨25,[(0,[0,2,3,4])],[(0,[2,3,4])],[],[]⟩),(282,⟨39,[(1,[1,3,4])],[(1,[1,3])],[],[]⟩),(283,h0 13),(284,h0 7),(285,h0 9),(286,h0 14),(287,⟨20,[(0,[0,3])],[(0,[])],[],[]⟩),(288,⟨40,[(1,[0,2,3,4])],[(1,[0,2,3,4])],[],[]⟩),(289,⟨206,[(2,[0,8,9,10,11]),(4,[8,9,10,11,12,13]),(6,[8,9,10,11,12,13,14,15,16]),(10,[8,9,10,11,12,13,14,19,20])],[(2,[8,9,10,11]),(4,[8,10,11,12]),(6,[8,9,10,11,12,13,14,15]),(10,[8,9,10,11,12,13,14,19])],[(5,.heap)],[]⟩),(290,⟨20,[(0,[0,3,4])],[(0,[3])],[],[]⟩),(291,⟨12,[(0,[0,1])],[(0,[0])],[],[]⟩),(292,⟨25,[(0,[0,1,5])],[(0,[5])],[],[]⟩),(293,⟨72,[(0,[0,1,5,6]),(2,[0,1,5,6,7,8])],[(0,[5]),(2,[0,1,5,6,7])],[],[]⟩),(294,h0 15),(295,⟨42,[(0,[0,1,5,6,7])],[(0,[5])],[],[]⟩),(296,⟨41,[(2,[0,1,5])],[(2,[])],[],[]⟩),(297,⟨35,[(0,[0,1,5,6,7])],[(0,[5])],[],[]⟩),(298,h0 9),(299,⟨39,[(0,[0,1,6,7,8])],[(0,[6,7])],[],[]⟩),(300,⟨21,[(0,[0])],[(0,[0])],[],[]⟩),(301,⟨77,[(0,[0,1,2,7,9,10])],[(0,[9])],[],[]⟩),(302,h0 13),(315,h0 9),(389,⟨27,[(1,[0,1,5])],[(1,[5])],[],[]⟩),(429,h0 21),(430,⟨23,[(0,[0,4]),(2,[0,4])],[(0,[0,4]),(2,[0,4])],[],[]⟩),(634,h0 31),(636,⟨19,[(1,[0,3])],[(1,[])],[],[]⟩),(637,h0 287),(639,⟨20,[(0,[3,6,7,8])],[(0,[3])],[],[]⟩),(640,⟨182,[(2,[3,4,5,10,40,41,42]),(4,[3,5,10,13,14,58,59]),(7,[3,10,13,14,18,19,20,100,101,102])],[(2,[3,4,5,10]),(4,[3,10,13,14]),(7,[14,19,20])],[],[]⟩),(641,h0 14),(642,h0 14),(643,h0 14),(644,h0 14),(645,h0 14),(647,⟨19,[(0,[0,3])],[(0,[])],[],[]⟩),(648,h0 17),(650,⟨53,[(1,[0,1,5]),(4,[0,1,5,6])],[(1,[]),(4,[0,1,5])],[],[]⟩),(652,h0 14),(653,h0 50),(654,h0 18),(655,h0 27),(656,h0 162),(657,⟨111,[(2,[3,4,5,10,52,53])],[(2,[3,4,5,10])],[],[]⟩),(658,⟨70,[(1,[1,7,26,27,28]),(4,[1,7,8,9,26,27,28,46])],[(1,[7]),(4,[1,7,26,27,28])],[],[]⟩),(659,⟨26,[(1,[0,1,5])],[(1,[])],[],[]⟩),(660,⟨136,[(2,[4,5,6,7,12,14,15,16,17,18])],[(2,[12,15])],[],[]⟩),(661,⟨45,[(1,[5,6,19,20,21]),(3,[5,6,9,19,20,21,25,26,27])],[(1,[6]),(3,[5,6,9,19,20,21])],[],[(15,[9])]⟩),(662,⟨101,[(3,[0,6,7,34,35]),(5,[0,6,7,8,9,34,35,38,39]),(7,[0,6,7,8,9,10,11,34,35,38,39,42,43]),(9,[0,6,7,8,9,10,11,12,34,35,38,39,42,43,46,47])],[(3,[7]),(5,[0,6,7,9,34,35]),(7,[0,6,7,8,9,11,34,35,38,39]),(9,[0,6,7,8,9,10,11,34,35,38,39,42,43])],[],[(31,[9])]⟩),(663,⟨128,[(1,[2,7,8,9,35]),(3,[2,7,8,9,10,35,38,39]),(5,[2,7,8,9,10,11,12,35,38,39,42,43]),(7,[2,7,8,9,10,11,12,13,14,35,38,39,42,43,49,50]),(9,[2,7,8,9,10,11,12,13,14,15,35,38,39,42,43,49,50,53,54])],[(1,[2,9]),(3,[2,7,8,9,35]),(5,[2,7,8,9,10,12,35,38,39]),(7,[2,7,8,9,10,11,12,14,35,38,39,42,43]),(9,[2,7,8,9,10,11,12,13,14,35,38,39,42,43,49,50])],[],[(32,[12])]⟩),(664,⟨145,[(1,[1,4,32,33]),(4,[1,4,9,44,45]),(6,[1,4,9,44,45,48,49,50]),(9,[1,4,14,15,70,71]),(11,[1,4,14,15,16,17,70,71,74,75]),(13,[1,4,14,15,16,17,18,19,70,71,74,75,78])],[(1,[1,4]),(4,[1,4,9]),(6,[1,4,9,44,45]),(9,[15]),(11,[1,4,14,15,17,70,71]),(13,[1,4,14,15,16,17,19,70,71,74,75])],[],[(44,[17])]⟩),(665,⟨26,[(1,[0,1,5])],[(1,[])],[],[]⟩),(666,⟨53,[(1,[0,1,5]),(4,[0,1,5,6])],[(1,[]),(4,[0,1,5])],[],[]⟩),(667,⟨74,[(4,[1,7,49,50]),(6,[1,7,9,49,50,56,57,58])],[(4,[]),(6,[1,7,49,50])],[],[]⟩),(668,⟨90,[(2,[1,8,40,41]),(4,[1,8,9,10,40,41,50,51]),(6,[1,8,9,10,11,12,40,41,50,51,55,56,57])],[(2,[8]),(4,[1,8,10,40,41]),(6,[1,8,9,10,12,40,41,50,51])],[],[(23,[10])]⟩),(669,⟨27,[(1,[0,1,5])],[(1,[])],[],[]⟩),(670,h0 16),(671,h0 39),(672,h0 4),(673,h0 6),(674,h0 6),(675,⟨50,[(0,[4,13,14,15]),(2,[4,6,7,13,14,15,19,20,21])],[(0,[4]),(2,[4,6,7,13,14,15])],[],[(16,[12])]⟩),(676,h0 16),(677,⟨15,[(0,[5,6,7])],[(0,[])],[],[]⟩),(678,h0 15),(679,⟨106,[(2,[2,3,42,43,44])],[(2,[])],[],[]⟩),(680,⟨44,[(1,[0,2,7]),(4,[0,2,7,8])],[(1,[]),(4,[0,2,7])],[],[]⟩),(685,h0 12),(686,h0 8),(687,h0 14),(688,⟨67,[(1,[4,5,10,31,32,33])],[(1,[4,5,10])],[],[]⟩),(689,h0 14),(690,h0 18),(691,h0 8),(692,h0 7),(693,⟨119,[(0,[1,2,3,4,8,9,10,11]),(2,[1,2,3,4,8,9,10,11,12,13,35,36,37])],[(0,[8,9]),(2,[1,2,3,4,8,9,10,11,12,13])],[],[]⟩),(694,⟨50,[(1,[6,7,27,28])],[(1,[7])],[],[]⟩),(695,⟨21,[(0,[1,8,9,10])],[(0,[])],[],[]⟩),(696,h0 22),(697,h0 8),(698,h0 8),(699,h0 6),(700,h0 16),(701,h0 12),(702,h0 13),(703,⟨38,[(0,[3,9,10,11]),(2,[3,6,9,10,11,15,16,17])],[(0,[3]),(2,[3,6,9,10,11])],[],[(11,[6])]⟩),(704,⟨66,[(0,[0,3,4,13,14]),(2,[0,3,4,5,6,13,14,17,18]),(4,[0,3,4,5,6,7,8,13,14,17,18,24,25]),(6,[0,3,4,5,6,7,8,9,13,14,17,18,24,25,28,29])],[(0,[4]),(2,[0,3,4,6,13,14]),(4,[0,3,4,5,6,8,13,14,17,18]),(6,[0,3,4,5,6,7,8,13,14,17,18,24,25])],[],[(22,[6])]⟩),(705,⟨59,[(0,[4,15,16,17]),(2,[4,7,15,16,17,21,22,23])],[(0,[4]),(2,[4,7,15,16,17])],[],[(16,[7])]⟩),(709,h0 33),(710,h0 16),(711,⟨17,[(0,[0,7,8,9])],[(0,[])],[],[]⟩),(712,h0 12),(713,h0 6),(715,⟨21,[(0,[1,8,9,10])],[(0,[])],[],[]⟩),(716,h0 18),(717,⟨21,[(0,[1,8,9,10])],[(0,[])],[],[]⟩),(718,⟨26,[(0,[0,1,8,9])],[(0,[])],[(0,.heap)],[]⟩),(719,⟨39,[(0,[0,1,2,7,8]),(2,[0,1,2,4,7,8,12,13])],[(0,[]),(2,[0,1,2,7,8])],[(0,.heap)],[]⟩),(720,⟨21,[(0,[2,4,6,9,10,11])],[(0,[4,6])],[],[]⟩),(721,⟨94,[(1,[1,4,5])],[(1,[1,4,5])],[],[]⟩),(722,h0 5),(723,h0 9),(724,h0 49),(725,h0 14),(726,h0 11),(727,h0 15),(728,h0 10),(729,⟨21,[(0,[1,8,9,10])],[(0,[])],[],[]⟩),(735,h0 10),(736,⟨21,[(0,[1,8,9,10])],[(0,[])],[],[]⟩),(737,h0 11),(738,⟨21,[(0,[1,8,9,10])],[(0,[])],[],[]⟩),(741,h0 9),(742,h0 6),(744,h0 6),(745,⟨19,[(0,[0,1,7,8])],[(0,[])],[],[]⟩),(746,h0 6),(749,⟨21,[(0,[1,8,9,10])],[(0,[])],[],[]⟩),(750,⟨21,[(0,[1,8,9,10])],[(0,[])],[],[]⟩),(751,h0 14),(752,⟨19,[(0,[0,1,7,8])],[(0,[])],[],[]⟩),(753,h0 7),(756,h0 84),(773,⟨68,[(0,[1,2,3,4,9,10]),(2,[1,2,3,4,9,10,11,12,13,14,15]),(4,[1,2,3,4,9,10,11,12,13,14,15,16])],[(0,[9]),(2,[1,2,3,4,9,10,13]),(4,[1,2,3,4,9,10,11,12,13,14,15])],[],[]⟩),(788,⟨59,[(0,[1,3,7,8,9,10]),(2,[1,3,7,8,9,10,11,12])],[(0,[9]),(2,[1,3,7,8,9,10,11])],[],[]⟩),(791,⟨71,[(0,[1,2,3,4,5,11,12]),(2,[1,2,3,4,5,11,12,13])],[(0,[11]),(2,[1,2,3,4,5,11,12])],[],[]⟩)]) (by conv=>{lhs;reduce})
def api:IG ab bi=true:=by decide+kernel
noncomputable def cc(i:Nat):az:=match (Tryz.prog.funcs[Af ab i]?).bind (Ew Tryz.prog (MK bi hd i)) with
 | some F=>F
 | none=>⟨[],.skip⟩
end kD
def nest:VC->List VC
 | .seq a b=>nest a++nest b
 | .cond _ a b=>nest a++nest b
 | .dz _ a=>nest a
 | .loop _ a=>[a]
 | .rf _ _ a b=>[a,b]
 | _=>[]
def nt:VC->List VC->VC×List VC
 | .seq a b,l=>(.seq (nt a l).1 (nt b (nt a l).2).1,(nt b (nt a l).2).2)
 | .cond x a b,l=>(.cond x (nt a l).1 (nt b (nt a l).2).1,(nt b (nt a l).2).2)
 | .dz i a,l=>(.dz i (nt a l).1,(nt a l).2)
 | .loop v a,l=>(.loop v (l.headD a),l.tail)
 | .rf f ps a b,l=>(.rf f ps (l.headD a) (l.tail.headD b),l.tail.tail)
 | c,l=>(c,l)
def acP(c:VC):List Nat->VC
 | []=>c
 | i::r=>acP ((nest c).getD i .skip) r
noncomputable def bA(F:az)(p:List Nat)(l:List VC):VC:=(nt (acP F.body p) l).1
noncomputable def cw(F:az)(l:List VC):az:=⟨F.eA,(nt F.body l).1⟩
end VE
end
