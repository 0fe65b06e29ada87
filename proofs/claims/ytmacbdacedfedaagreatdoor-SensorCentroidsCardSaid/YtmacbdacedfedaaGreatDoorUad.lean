import Derived.Lib.AppendIntMem
import Derived.OwnWalk
import Derived.WalkKit
import Derived.KernelRfl
import Derived.Attr
import Derived.Test.YtmacbdacedfedaaGreatDoorUac
import Derived.Test.YtmacbdacedfedaaGreatDoorUab
set_option linter.all false
set_option maxRecDepth 100000
open Array renaming size_replicate->ux
open Bool renaming and_eq_true->ye,false_eq_true->yD
open Go renaming FloatKind->wc,IntKind->xe,Program->xx,World->yk
open List renaming mem_cons->xy,mem_cons_of_mem->xM,mem_cons_self->wA
open Nat renaming beq->yq,blt->yL,eq_of_beq_eq_true->yg
open Option.some renaming injEq->yc
open Option renaming some->Gp,none->Gq
section
namespace Go.Proofs
open Go.Shelf
open Go.RowKit Go.Sort Go.Lib
set_option maxHeartbeats 6400000 in
set_option maxRecDepth 100000 in
def Tryz.ak6(u:Nat)(Fg:u<18446744073709551616)(w:yk)(Ff:Lib.TabIs Tryz.prog w "internal/strconv.uint64pow10" .u64 Lib.pow10Tab):
  Calls Tryz.prog 271 #[.int .u64 u,.int .i64 10] w fun e w'=>e=.returned (.string ⟨(Lib.decDigits u).toArray⟩)/\∃k os,w'=grow (w.drewN k) os:=by
 by_cases hs:u<100
 .go_enter Tryz.func271,Tryz.ntmps271
  go_wp2_with (go_at_call 301;refine (Tryz.internal_strconv_small u hs _).mono ?_;rintro e w' ⟨rfl,rfl⟩)
  go_ret
  exact⟨rfl,0,#[],by simp[World.drewN_zero]⟩
 .have zA:1<=u:=by omega
  have aF2:Lib.nDigits u<=20:=by have:=Lib.numDigits_eq u zA Fg;split at this<;>omega
  have hal:Tryz.prog.arrayLen 343=24:=by simp[Program.arrayLen,Tryz.underlying343]
  have Ik:∀W,(Instr.sliceAt 343 (.pointer (Gp ⟨w.heap.size,0,Gq⟩)) Gq (Gp (.int .i64 (Lib.nDigits u:Int))) Gq).run Tryz.prog W=.ok (.slice (Gp ⟨w.heap.size,0,Gq⟩) (Lib.nDigits u) 24) W:=fun W=>by
   rw[run_sliceAt_array_h W 343 ⟨w.heap.size,0,Gq⟩ (by simp[Program.arrayLen,Program.elem,Tryz.underlying343]) .i64 (Lib.nDigits u:Int) (by omega) (by rw[hal];omega)]
   go_simp
  have Y4:=Lib.holds_zero0 w 343 (Lib.nDigits u) (by omega);have ahu:=Tryz.internal_strconv_formatBase10 w.heap.size 0 24 u (Array.replicate (Lib.nDigits u) 0) (w.alloc (.cells Lib.zeros24 343)) Y4 (by rw[ux];exact Lib.lt_pow_nDigits u) Fg (by rw[ux];omega)
  rw[ux] at ahu;have HH0:=Lib.hid Y4;have iu:(100:Int)<=(u:Int):=by omega
  clear Y4 hal
  go_enter Tryz.func271,Tryz.ntmps271
  go_wp2_with (first
   | (go_at_call 302;refine (Tryz.internal_strconv_numDigits u zA Fg _ (Lib.tabIs_alloc Ff _)).mono ?_;rintro e w' ⟨rfl,rfl⟩))
  go_at_call 303
  refine ahu.mono ?_;rintro e w' ⟨rfl,k,v',dk,rfl,hF⟩;have hcv:(convert 49 9 (.slice (Gp ⟨w.heap.size,0,Gq⟩) (Lib.nDigits u) 24)).run Tryz.prog ((putRow (fun (b:UInt8)=>Value.int .u8 (b.toNat:Int)) (w.alloc (.cells Lib.zeros24 343)) w.heap.size 0 dk).drewN k)=.ok (.string ⟨(Lib.decDigits u).toArray⟩) ((putRow (fun (b:UInt8)=>Value.int .u8 (b.toNat:Int)) (w.alloc (.cells Lib.zeros24 343)) w.heap.size 0 dk).drewN k):=by
   have h:=run_convert_bytes_back (P:=Tryz.prog) ((putRow (fun (b:UInt8)=>Value.int .u8 (b.toNat:Int)) (w.alloc (.cells Lib.zeros24 343)) w.heap.size 0 dk).drewN k) 49 9 5 ⟨w.heap.size,0,Gq⟩ 24 (Lib.decDigits u) Tryz.underlying49 Tryz.underlying5 Tryz.underlying9 (fun j hj=>by
    rw[Lib.row_is_numeral hF j hj,Lib.add_plain,World.cell?_drewN]
    exact cell?_putRow (fun (b:UInt8)=>Value.int .u8 (b.toNat:Int)) _ w.heap.size 0 _ dk HH0.out (by rw[hF.size,ux]) j (by rw[hF.size];rw[Lib.decDigits_length] at hj;exact hj))
   rw[Lib.decDigits_length] at h;exact h
  go_wp2
  go_ret
  obtain⟨os,eo⟩:=Lib.fin_at w (.cells Lib.zeros24 343) dk k 0;exact⟨rfl,k,os,eo⟩
def Tryz.ak8(u:Nat)(Fg:u<18446744073709551616)(w:yk)(Ff:Lib.TabIs Tryz.prog w "internal/strconv.uint64pow10" .u64 Lib.pow10Tab):
  Calls Tryz.prog 241 #[.int .u64 u,.int .i64 10] w fun e w'=>e=.returned (.string ⟨(Lib.decDigits u).toArray⟩)/\∃k os,w'=grow (w.drewN k) os:=by
 go_enter Tryz.func241,Tryz.ntmps241
 go_wp2_with (go_at_call 271;refine (Tryz.ak6 u Fg _ Ff).mono ?_;rintro e w' ⟨rfl,k,os,rfl⟩)
 go_ret
 exact⟨rfl,k,os,rfl⟩
end Go.Proofs
end
section
namespace VE
abbrev Rq(d:Nat)(o:Op):aS:=⟨Gp d,Gq,o⟩
abbrev Rt(d g:Nat)(o:Op):aS:=⟨Gp d,Gp (g,true),o⟩
abbrev Rf(d g:Nat)(o:Op):aS:=⟨Gp d,Gp (g,false),o⟩
abbrev qm(d s:Nat):aS:=⟨Gp d,Gq,.rR (.t s)⟩
abbrev qc0(d f:Nat):aS:=⟨Gp d,Gq,.call .pure (.c (.fn (.f f) [] [])) []⟩
abbrev qc1(d f a:Nat):aS:=⟨Gp d,Gq,.call .pure (.c (.fn (.f f) [] [])) [.t a]⟩
abbrev qc2(d f a b:Nat):aS:=⟨Gp d,Gq,.call .pure (.c (.fn (.f f) [] [])) [.t a,.t b]⟩
abbrev qc3(d f a b c:Nat):aS:=⟨Gp d,Gq,.call .pure (.c (.fn (.f f) [] [])) [.t a,.t b,.t c]⟩
abbrev ql(d n s:Nat):aS:=⟨Gp d,Gq,.ld n false (.t s)⟩
abbrev qL(d n s:Nat):aS:=⟨Gp d,Gq,.ld n true (.t s)⟩
abbrev qk(d:Nat)(k:Int):aS:=⟨Gp d,Gq,.rR (.c (.int .i64 k))⟩
abbrev qf(d:Nat):aS:=⟨Gp d,Gq,.rR (.c (.bool false))⟩
abbrev qz(d:Nat):aS:=⟨Gp d,Gq,.rR (.c .ah)⟩
abbrev qi(d n s i:Nat):aS:=⟨Gp d,Gq,.bk n (.t s) (.t i)⟩
abbrev qo(d n s:Nat):aS:=⟨Gp d,Gq,.off n (.t s)⟩
abbrev qn(d n s:Nat):aS:=⟨Gp d,Gq,.len n (.t s)⟩
abbrev qe(d n s:Nat):aS:=⟨Gp d,Gq,.ext n (.t s)⟩
abbrev qb(d n s:Nat):aS:=⟨Gp d,Gq,.box n (.t s)⟩
abbrev qs(n a b:Nat):aS:=⟨Gq,Gq,.st n (.t a) (.t b)⟩
abbrev qa(d a:Nat)(k:Int):aS:=⟨Gp d,Gq,.bin .add (.t a) (.c (.int .i64 k))⟩
abbrev qN(d a:Nat)(k:Int):aS:=⟨Gp d,Gq,.bin .neq (.t a) (.c (.int .i64 k))⟩
abbrev qE(d a:Nat)(k:Int):aS:=⟨Gp d,Gq,.bin .eql (.t a) (.c (.int .i64 k))⟩
abbrev qA(d a b:Nat):aS:=⟨Gp d,Gq,.bin .add (.t a) (.t b)⟩
abbrev qT(d a b:Nat):aS:=⟨Gp d,Gq,.bin .lss (.t a) (.t b)⟩
abbrev qp(d c b:Nat):aS:=⟨Gp d,Gq,.pick (.t c) (.c (.bool true)) (.t b)⟩
abbrev qq(d c b:Nat):aS:=⟨Gp d,Gq,.pick (.t c) (.t b) (.c (.bool false))⟩
abbrev X.k(n:Int):X:=.c (.int .i64 n)
abbrev X.u(n:Int):X:=.c (.int .u64 n)
abbrev X.F(n:Nat):X:=.c (.fn (.f n) [] [])
abbrev X.s(l:List Nat):X:=.c (.str l)
abbrev AV.i(n:Int):AV:=.int .i64 n
abbrev Op.q(f:Nat)(l:List X):Op:=.call .pure (.c (.fn (.f f) [] [])) l
abbrev Op.y(o:Go.BinOp)(a:Nat)(n:Int):Op:=.bin o (.t a) (.c (.int .i64 n))
abbrev Op.z(o:Go.BinOp)(a b:Nat):Op:=.bin o (.t a) (.t b)
abbrev Op.m(a:Nat):Op:=.rR (.t a)
abbrev VC.g(o:List aS)(b:VC):VC:=.seq (.oO o) b
abbrev VC.q(a b:VC):VC:=.seq a b
abbrev VC.e(o:List aS):VC:=.seq (.oO o) .ret
abbrev VC.i(t:Nat)(a:VC):VC:=.cond (.t t) a .skip
abbrev VC.h(o:List aS)(t:Nat)(a b:VC):VC:=.seq (.seq (.oO o) (.cond (.t t) a .skip)) b
end VE
end
section
namespace VE
inductive Tr(α:Type) where
 | l
 | n (k:Nat) (v:α) (a b:Tr α)
def Tr.find{α:Type}:Tr α->Nat->Option α
 | .l,_=>Gq
 | .n k v a b,i=>bif yq i k then Gp v else bif yL i k then a.find i else b.find i
end VE
end
section
namespace VE
open Go (IntKind FloatKind)
def Qa:xe->Nat
 | .i8=>0 | .i16=>1 | .i32=>2 | .i64=>3 | .u8=>4 | .u16=>5 | .u32=>6 | .u64=>7
def Y5:Int->Int->Bool
 | .ofNat a,.ofNat b=>yq a b
 | .negSucc a,.negSucc b=>yq a b
 | _,_=>false
def Sy:Bool->Bool->Bool
 | true,true | false,false=>true
 | _,_=>false
def Y6:wc->wc->Bool
 | .f32,.f32 | .f64,.f64=>true
 | _,_=>false
mutual
def il:AV->AV->Bool
 | .int k a,.int k' b=>yq (Qa k) (Qa k')&&Y5 a b
 | .bool a,.bool b=>Sy a b
 | .aw k a,.aw k' b=>Y6 k k'&&yq a b
 | .dh k a b,.dh k' c d=>Y6 k k'&&(yq a c&&yq b d)
 | .str a,.str b=>cK a b
 | .kN,.kN=>true
 | .bC a,.bC b=>nJ a b
 | .ah,.ah=>true
 | .ap e n a,.ap e' n' b=>Sy e e'&&(yq n n'&&nJ a b)
 | .cF e s n a,.cF e' s' n' b=>Sy e e'&&(yq s s'&&(yq n n'&&nJ a b))
 | .fn (.f g) a b,.fn (.f g') a' b'=>yq g g'&&(nJ a a'&&nJ b b')
 | .iE,.iE=>true
 | .jF,.jF=>true
 | .jG a b,.jG a' b'=>nJ a a'&&nJ b b'
 | .agg a,.agg b=>nJ a b
 | .av a,.av b=>nJ a b
 | .undef,.undef=>true
 | _,_=>false
def nJ:List AV->List AV->Bool
 | [],[]=>true
 | a::x,b::y=>il a b&&nJ x y
 | _,_=>false
end
def hI:Int->Nat
 | .ofNat n=>n
 | .negSucc n=>n+n
def hS:List Nat->Nat
 | []=>1
 | b::r=>(b+257*hS r)%65521
mutual
def hV:AV->Nat
 | .int _ n=>hI n
 | .bool b=>bif b then 1 else 2
 | .aw _ n=>n
 | .dh _ n k=>n+k
 | .str s=>hS s
 | .ap _ n cs=>n+hL cs
 | .agg cs=>hL cs
 | .av cs=>hL cs
 | _=>5
def hL:List AV->Nat
 | []=>7
 | v::r=>(hV v+263*hL r)%65521
end
abbrev Te:=Tr (List AV×AV)
abbrev br:=List Te
def EA(h:Nat)(au:List AV):br->Option AV
 | []=>Gq
 | t::l=>match t.find h with
  | some (a,r)=>bif nJ a au then Gp r else EA h au l
  | none=>EA h au l
def afN(au:List AV)(l:br):Option AV:=EA (hL au) au l
abbrev Te.o(h:Nat)(a:List AV)(r:AV):Te:=.n h (a,r) .l .l
abbrev Te.m(h:Nat)(a:List AV)(r:AV)(x y:Te):Te:=.n h (a,r) x y
def EB(n:Nat):List (Tr br)->Option br
 | []=>Gq
 | t::r=>match t.find n with
  | none=>EB n r
  | some l=>match EB n r with | none=>Gp l | some m=>Gp (l++m)
def QM(L:Lib)(T:List (Tr br))(ex:Nat):Lib:=
 ⟨fun i=>match L.pure i with
  | some sp=>Gp sp
  | none=>bif yq i ex then Gq else match EB i T with | some l=>Gp (fun au=>afN au l) | none=>Gq,L.heap⟩
def LM(P:aE)(L:Lib)(f:Nat):Te->Bool
 | .l=>true
 | .n _ e x y=>(match YF P L 100000 f e.1 with | some r'=>il r' e.2 | none=>false)&&(LM P L f x&&LM P L f y)
def Qb(P:aE)(L:Lib)(f:Nat):br->Bool
 | []=>true
 | t::l=>LM P L f t&&Qb P L f l
def cw(P:aE)(L:Lib)(T:List (Tr br)):List (Nat×br)->Bool
 | []=>true
 | (f,l)::C=>Qb P (QM L T f) f l&&cw P L T C
end VE
end
section
namespace VE
open Go
section
variable {L:Lib}{au:List AV}{f k:Nat}
def anC{a b:xe}(h:yq (Qa a) (Qa b)=true):a=b:=by
 cases a<;>cases b<;>first | rfl | (exact absurd h (by decide))
def apG{a b:Int}(h:Y5 a b=true):a=b:=by
 cases a<;>cases b<;>simp only[Y5,reduceCtorEq] at h<;>rw[yg h]
def UL{a b:Bool}(h:Sy a b=true):a=b:=by
 cases a<;>cases b<;>first | rfl | (exact absurd h (by decide))
def acX{a b:wc}(h:Y6 a b=true):a=b:=by
 cases a<;>cases b<;>first | rfl | (exact absurd h (by decide))
mutual
def acY:∀(a b:AV),il a b=true->a=b
 | .int k a,b,h=>by
  cases b<;>simp only[il,ye,yD] at h
  rw[anC h.1,apG h.2]
 | .bool a,b,h=>by
  cases b<;>simp only[il,yD] at h
  rw[UL h]
 | .aw k a,b,h=>by
  cases b<;>simp only[il,ye,yD] at h
  rw[acX h.1,yg h.2]
 | .dh k a c,b,h=>by
  cases b<;>simp only[il,ye,yD] at h
  rw[acX h.1,yg h.2.1,yg h.2.2]
 | .str a,b,h=>by
  cases b<;>simp only[il,yD] at h
  rw[UG h]
 | .kN,b,h=>by cases b<;>simp only[il,yD] at h;rfl
 | .ptr _ _,b,h=>by cases b<;>simp only[il,yD] at h
 | .bC a,b,h=>by
  cases b<;>simp only[il,yD] at h
  rw[sK _ _ h]
 | .ah,b,h=>by cases b<;>simp only[il,yD] at h;rfl
 | .ap e n a,b,h=>by
  cases b<;>simp only[il,ye,yD] at h
  rw[UL h.1,yg h.2.1,sK _ _ h.2.2]
 | .cF e s n a,b,h=>by
  cases b<;>simp only[il,ye,yD] at h
  rw[UL h.1,yg h.2.1,yg h.2.2.1,sK _ _ h.2.2.2]
 | .aq _ _ _,b,h=>by cases b<;>simp only[il,yD] at h
 | .fn (.f g) x y,b,h=>by
  cases b<;>try (simp only[il,yD] at h;done)
  rename_i fr _ _;cases fr<;>simp only[il,ye,yD] at h
  rw[yg h.1,sK _ _ h.2.1,sK _ _ h.2.2]
 | .fn (.y _) _ _,b,h=>by cases b<;>simp only[il,yD] at h
 | .iE,b,h=>by cases b<;>simp only[il,yD] at h;rfl
 | .jF,b,h=>by cases b<;>simp only[il,yD] at h;rfl
 | .map _,b,h=>by cases b<;>simp only[il,yD] at h
 | .jG x y,b,h=>by
  cases b<;>simp only[il,ye,yD] at h
  rw[sK _ _ h.1,sK _ _ h.2]
 | .it _,b,h=>by cases b<;>simp only[il,yD] at h
 | .agg a,b,h=>by
  cases b<;>simp only[il,yD] at h
  rw[sK _ _ h]
 | .av a,b,h=>by
  cases b<;>simp only[il,yD] at h
  rw[sK _ _ h]
 | .undef,b,h=>by cases b<;>simp only[il,yD] at h;rfl
def sK:∀(a b:List AV),nJ a b=true->a=b
 | [],b,h=>by cases b<;>simp only[nJ,yD] at h;rfl
 | x::a,b,h=>by
  cases b<;>simp only[nJ,ye,yD] at h
  rw[acY _ _ h.1,sK _ _ h.2]
end
def Tr.Has{α:Type}(x:α):Tr α->Prop
 | .l=>False
 | .n _ v a b=>v=x\/a.Has x\/b.Has x
def Tr.UM{α:Type}{h:Nat}{x:α}:∀{t:Tr α},t.find h=Gp x->t.Has x
 | .l,hf=>by simp[Tr.find] at hf
 | .n k v a b,hf=>by
  simp only[Tr.find] at hf
  cases h1:yq h k with
  | true=>rw[h1] at hf;simp only[yu,yc] at hf;exact .inl hf
  | false=>
   rw[h1] at hf
   cases h2:yL h k with
   | true=>rw[h2] at hf;exact .inr (.inl (Tr.UM hf))
   | false=>rw[h2] at hf;exact .inr (.inr (Tr.UM hf))
def Sz(au:List AV)(r:AV)(l:br):Prop:=∃t,t∈l/\t.Has (au,r)
def abc{h:Nat}{au:List AV}{r:AV}:∀{l:br},EA h au l=Gp r->Sz au r l
 | [],hf=>by simp[EA] at hf
 | t::l,hf=>by
  have tail:EA h au l=Gp r->Sz au r (t::l):=fun q=>by
   have⟨t',h1,h2⟩:=abc q;exact⟨t',xM _ h1,h2⟩
  simp only[EA] at hf
  split at hf
  .rename_i a q he
   cases hb:nJ a au with
   | true=>
    rw[hb] at hf;simp only[yu,yc] at hf;rw[sK _ _ hb,hf] at he;exact⟨t,wA,Tr.UM he⟩
   | false=>
    grind
  .grind
def anD{r:AV}{l:br}(h:afN au l=Gp r):Sz au r l:=abc h
def mU(O:bz)(f:Nat)(l:br):Prop:=∀au r,Sz au r l->eG O f au r
def mU.nil{O:bz}:mU O f []:=fun _ _ h=>by have⟨t,h,_⟩:=h;cases h
def mU.di{O:bz}{a b:br}(ha:mU O f a)(hb:mU O f b):mU O f (a++b):=fun v r h=>by
 have⟨t,h,h2⟩:=h;exact (List.mem_append.1 h).elim (fun h=>ha v r ⟨t,h,h2⟩) (fun h=>hb v r ⟨t,h,h2⟩)
def mU.one{O:bz}{r:AV}(h:eG O f au r):mU O f [.n k (au,r) .l .l]:=fun v q hm=>by
 have⟨t,h1,h2⟩:=hm;rcases xy.1 h1 with e | e
 .subst e;rcases h2 with h2 | h2 | h2
  .grind
  .exact h2.elim
  .exact h2.elim
 .cases e
def Tr.mB{α:Type}(p:Nat->α->Prop):Tr α->Prop
 | .l=>True
 | .n k v a b=>p k v/\a.mB p/\b.mB p
def Tr.kh{α:Type}{p:Nat->α->Prop}:Tr.mB p .l:=trivial
def Tr.kU{α:Type}{p:Nat->α->Prop}{v:α}{a b:Tr α}(h:p k v)(ha:a.mB p)(hb:b.mB p):Tr.mB p (.n k v a b):=⟨h,ha,hb⟩
def Tr.Em{α:Type}{p:Nat->α->Prop}{i:Nat}{v:α}:∀{t:Tr α},t.mB p->t.find i=Gp v->p i v
 | .l,_,h=>by simp[Tr.find] at h
 | .n k w a b,ha,h=>by
  simp only[Tr.find] at h
  cases hb:yq i k with
  | true=>
   rw[hb] at h;simp only[yu,yc] at h;subst h;rw[yg hb];exact ha.1
  | false=>
   rw[hb] at h
   cases hc:yL i k with
   | true=>rw[hc] at h;exact Tr.Em ha.2.1 h
   | false=>rw[hc] at h;exact Tr.Em ha.2.2 h
abbrev bz.qZ(O:bz)(L:Lib):bz:={O with aJ:=L}
def acZ{O:bz}{m:Mp}{S:Nat->Prop}{w:yk}{id:Nat}{o:Obj}:fp (O.qZ L) m S w id o↔fp O m S w id o:=by
 cases o<;>exact Iff.rfl
def ac0{O:bz}{m:Mp}{S:Nat->Prop}{w:yk}{hp:Hp}{ct:Nat}:aT (O.qZ L) m S w hp ct↔aT O m S w hp ct:=
 ⟨fun h=>⟨fun id o p h1 h2=>acZ.1 (h.obj id o p h1 h2),h.lt,h.inj,h.slt,h.blt,h.low,h.mS,h.gI,h.aH⟩,
  fun h=>⟨fun id o p h1 h2=>acZ.2 (h.obj id o p h1 h2),h.lt,h.inj,h.slt,h.blt,h.low,h.mS,h.gI,h.aH⟩⟩
def ab3{O:bz}{n:Nat}{hp:Hp}{ct:Nat}{v:AV}{an:Hp}{aI:Nat}(h:C2 O n hp ct au v an aI):C2 (O.qZ L) n hp ct au v an aI:=by
 intro m S w args h1 h2;have post:∀e w',Bh O m S w hp ct v an aI e w'->Bh (O.qZ L) m S w hp ct v an aI e w':=by
  rintro e w' ⟨u,m',S',k1,k2,k3,k4,k5⟩;exact⟨u,m',S',k1,ac0.2 k2,k3,k4,k5⟩
 exact CF.mono (h m S w args (ac0.1 h1) h2) post
def iF(O:bz)(T:List (Tr br)):Prop:=∀t,t∈T->t.mB (mU O)
def iF.nil{O:bz}:iF O []:=fun _ h=>by cases h
def iF.cons{O:bz}{t:Tr br}{T:List (Tr br)}(h:t.mB (mU O))(hT:iF O T):iF O (t::T):=fun u hu=>by
 rcases xy.1 hu with e | e
 .grind
 .exact hT u e
def Ue{O:bz}{n:Nat}:∀{T:List (Tr br)} {l:br},iF O T->EB n T=Gp l->mU O n l
 | [],_,_,h=>by simp[EB] at h
 | t::T,l,hT,h=>by
  have SA:iF O T:=fun u hu=>hT u (xM _ hu)
  simp only[EB] at h
  split at h
  .exact Ue SA h
  .rename_i l1 h1;have c1:=Tr.Em (hT t wA) h1
   split at h
   .grind
   .rename_i m h2;simp only[yc] at h;subst h;exact mU.di c1 (Ue SA h2)
def aea{O:bz}(hO:iR O){T:List (Tr br)}(hT:iF O T)(ex:Nat):iR (O.qZ (QM O.aJ T ex)) where
 hint:=hO.hint
 mixed:=hO.mixed
 prog:=hO.prog
 aJ n sp au r h hs:=by
  simp only[QM] at h
  cases hl:O.aJ.pure n with
  | some SB=>
   simp only[hl,yc] at h;subst h;exact hO.aJ n _ au r hl hs
  | none=>
   simp only[hl] at h
   cases hb:yq n ex with
   | true=>rw[hb] at h;cases h
   | false=>
    rw[hb] at h;simp only[yP] at h
    cases hf:EB n T with
    | none=>simp[hf] at h
    | some l=>
     simp only[hf,yc] at h;subst h;exact Ue hT hf au r (anD hs)
 Hu n sp hp ct au v an aI h hs:=ab3 (hO.Hu n sp hp ct au v an aI h hs)
def Uf{O:bz}{L:Lib}(hO:iR (O.qZ L)){f:Nat}{au:List AV}{r:AV}:∀{t:Te},LM O.prog L f t=true->t.Has (au,r)->eG O f au r
 | .l,_,h=>h.elim
 | .n k e x y,h,hm=>by
  simp only[LM,ye] at h;rcases hm with e1 | hm | hm
  .subst e1;have h1:=h.1
   split at h1
   .rename_i r' hr;have e:r'=r:=acY _ _ h1;rw[<-e];exact sound hO hr
   .cases h1
  .exact Uf hO h.2.1 hm
  .exact Uf hO h.2.2 hm
def abd{O:bz}{L:Lib}(hO:iR (O.qZ L)){f:Nat}:∀{l:br},Qb O.prog L f l=true->mU O f l
 | [],_=>mU.nil
 | t::l,h=>by
  simp only[Qb,ye] at h;intro v q hm;have⟨t',h1,h2⟩:=hm;rcases xy.1 h1 with e | e
  .subst e;exact Uf hO h.1 h2
  .exact abd hO h.2 v q ⟨t',e,h2⟩
def chunk_ok{O:bz}(hO:iR O){T:List (Tr br)}(hT:iF O T):∀{C:List (Nat×br)},cw O.prog O.aJ T C=true->∀f l,(f,l)∈C->mU O f l
 | [],_,f,l,h=>by cases h
 | (g,l')::C,h,f,l,hm=>by
  simp only[cw,ye] at h;rcases xy.1 hm with e | hm
  .injection e with e1 e2
   subst e1;subst e2;exact abd (aea hO hT f) h.1
  .exact chunk_ok hO hT h.2 f l hm
def aN{α:Type}{p:Nat->α->Prop}{v:α}{a b:Tr α}(h:p k v)(ha:a.mB p)(hb:b.mB p):Tr.mB p (.n k v a b):=Tr.kU h ha hb
def aL{α:Type}{p:Nat->α->Prop}:Tr.mB p .l:=Tr.kh
end
end VE
end
section
namespace VE
open Go
structure HD where
 n:Nat
 live:List (Nat×List Nat)
 out:List (Nat×List Nat)
 mode:List (Nat×Md)
 fz:List (Nat×List Nat)
 deriving Inhabited
def Lv{α:Type}(i:Nat):List (Nat×α)->Option α
 | []=>Gq
 | (j,a)::l=>bif yq j i then Gp a else Lv i l
def aup(bq:Nat->Option Nat)(d:HD):Hint where
 n:=d.n
 bq:=bq
 live:=fun l=>match Lv l d.live with | some x=>x | none=>[]
 out:=fun l=>Lv l d.out
 mode:=fun k=>match Lv k d.mode with | some x=>x | none=>.pure
 fz:=fun i=>match Lv i d.fz with | some x=>x | none=>[]
def Qc(bq:Tr Nat)(t:Tr HD)(i:Nat):Hint:=aup bq.find (match t.find i with | some d=>d | none=>⟨0,[],[],[],[]⟩)
def BJ(t:Tr Nat)(i:Nat):Nat:=match t.find i with | some f=>f | none=>0
def Lw(ae:Tr Nat):Tr Nat->Bool
 | .l=>true
 | .n f g a b=>yq (BJ ae g) f&&(Lw ae a&&Lw ae b)
def TJ{ae:Tr Nat}:∀{t:Tr Nat},Lw ae t=true->t.mB (fun f g=>BJ ae g=f)
 | .l,_=>trivial
 | .n f g a b,h=>by
  simp only[Lw,ye] at h;exact⟨yg h.1,TJ h.2.1,TJ h.2.2⟩
def VI(P:xx)(ae:Tr Nat)(bq:Tr Nat)(hd:Tr HD)(i:Nat)(F:az):Prop:=
 ∃fn,P.funcs[BJ ae i]? =Gp fn/\GU P (Qc bq hd i) fn=Gp F/\fn.name≠ "runtime.NumGoroutine"
def anE{P:xx}{ae bq:Tr Nat}{hd:Tr HD}{i:Nat}{F:az}(h:(P.funcs[BJ ae i]?).bind (GU P (Qc bq hd i))=Gp F)(h2:(P.funcs[BJ ae i]?).map (fun fn=>decide (fn.name= "runtime.NumGoroutine"))=Gp false):VI P ae bq hd i F:=by
 unfold VI
 cases hq:P.funcs[BJ ae i]? with
 | none=>rw[hq] at h;cases h
 | some fn=>
  rw[hq] at h h2;refine⟨fn,rfl,h,fun e=>?_⟩;simp only[Option.map_some,yc,e,yI] at h2;cases h2
end VE
end
section
namespace VE
def ao{α:Type}{a b:α}(_:a=b):α:=b
attribute [go_sem] ao
def It{α:Type}:Nat->List (Nat×α)->Tr α
 | 0,_=>.l
 | n+1,l=>match l.drop (l.length/2) with
  | []=>.l
  | a::r=>.n a.1 a.2 (It n (l.take (l.length/2))) (It n r)
namespace lY
open Go
open Go.Proofs
def fl:List (Nat×Nat):=[(29,17),(46,104),(49,88),(50,54),(62,51),(69,75),(70,74),(71,92),(73,153),(74,79),(86,119),(88,107),(98,157),(99,174),(100,160),(101,159),(102,87),(107,116),(108,78),(109,120),(110,122),(111,121),(117,154),(118,165),(119,158),(122,115),(123,117),(124,193),(125,192),(128,190),(129,191),(130,194),(135,239),(136,224),(137,240),(138,241),(139,242),(140,243),(141,244),(142,231),(143,230),(144,232),(145,225),(146,156),(147,161),(148,229),(149,221),(150,222),(151,189),(152,196),(153,197),(154,198),(155,199),(156,233),(157,226),(158,227),(159,228),(160,188),(162,249),(163,218),(164,250),(165,268),(166,262),(167,266),(168,269),(169,270),(170,275),(171,261),(172,219),(173,263),(174,307),(175,258),(193,182),(194,183),(202,217),(203,113),(206,276),(214,279),(217,245),(218,246),(228,247),(229,257),(230,223),(231,186),(232,187),(236,280),(238,277),(239,278),(241,169),(242,259),(243,260),(244,308),(245,235),(246,234),(247,297),(248,265),(249,298),(250,299),(251,264),(252,237),(262,57),(263,56),(264,23),(265,203),(266,132),(267,24),(268,130),(269,133),(271,61),(272,124),(273,125),(274,67),(275,126),(276,65),(277,66),(278,70),(279,69),(280,68),(281,135),(282,141),(283,205),(284,207),(285,206),(286,208),(287,201),(288,138),(289,140),(290,134),(291,136),(292,137),(293,146),(294,142),(295,143),(296,144),(297,145),(298,139),(299,209),(300,210),(301,211),(302,212),(315,129),(389,204),(427,200),(429,128),(430,202),(449,60),(634,5),(636,6),(637,7),(639,9),(640,25),(641,82),(642,19),(643,41),(644,12),(645,71),(647,13),(648,55),(650,30),(652,26),(653,8),(654,10),(655,11),(656,27),(657,28),(658,29),(659,20),(660,31),(661,32),(662,33),(663,34),(664,35),(665,36),(666,37),(667,38),(668,39),(669,40),(670,72),(671,73),(672,42),(673,43),(674,45),(675,76),(676,77),(677,49),(678,64),(679,147),(680,123),(685,44),(686,46),(687,48),(688,47),(689,50),(690,52),(691,53),(692,80),(693,81),(694,84),(695,83),(696,85),(697,89),(698,90),(699,91),(700,93),(701,94),(702,95),(703,96),(704,98),(705,97),(706,99),(707,100),(708,101),(709,103),(710,102),(711,105),(712,106),(713,108),(714,109),(715,110),(716,149),(717,148),(718,111),(719,112),(720,114),(721,155),(722,213),(723,215),(724,118),(725,86),(726,162),(727,163),(728,167),(729,166),(730,168),(731,170),(732,171),(733,172),(734,173),(735,176),(736,175),(737,179),(738,178),(739,184),(740,185),(741,150),(742,151),(743,220),(744,214),(745,256),(746,164),(747,236),(748,238),(749,177),(750,180),(751,181),(752,216),(753,152),(755,3),(768,63),(769,14),(770,15),(771,16),(772,18),(788,59),(789,58),(790,62),(800,127),(801,131)]
def ae:Tr Nat:=ao (a:=It 9 fl) (by conv=>{lhs;reduce})
def ins(x:Nat×Nat):List (Nat×Nat)->List (Nat×Nat)
 | []=>[x]
 | y::r=>bif yL x.1 y.1 then x::y::r else y::ins x r
def inv:List (Nat×Nat)->List (Nat×Nat)
 | []=>[]
 | p::r=>ins (p.2,p.1) (inv r)
def bq:Tr Nat:=ao (a:=It 9 (inv fl)) (by conv=>{lhs;reduce})
def h0(n:Nat):HD:=⟨n,[],[],[],[]⟩
def hd:Tr HD:=ao (a:=It 9 [(29,⟨26,[(1,[0,1,5])],[(1,[])],[],[]⟩),(46,h0 16),(49,h0 16),(50,h0 9),(62,h0 22),(69,h0 6),(70,h0 9),(71,h0 16),(73,h0 8),(74,h0 34),(86,h0 76),(88,⟨23,[(0,[3,9,10,11])],[(0,[3])],[],[]⟩),(98,h0 13),(99,⟨69,[(1,[3,4,5,6]),(6,[6,10,11])],[(1,[3,6]),(6,[10])],[],[]⟩),(100,h0 66),(101,h0 34),(102,h0 9),(107,h0 11),(108,h0 6),(110,⟨41,[(0,[0,2,3,4])],[(0,[2,3,4])],[],[]⟩),(111,h0 6),(117,h0 5),(118,h0 29),(119,h0 67),(122,h0 9),(123,⟨23,[(0,[3,9,10,11])],[(0,[3])],[],[]⟩),(124,h0 7),(125,⟨15,[(0,[5,6,7])],[(0,[])],[],[]⟩),(129,h0 19),(130,⟨23,[(0,[2,3,4])],[(0,[2,4])],[],[]⟩),(136,h0 24),(137,⟨137,[(2,[0,1,6,7,8]),(4,[9,10,11,12,13,14]),(6,[9,11,12,13,96,97])],[(2,[6,7]),(4,[9,11,12,13]),(6,[11,12,13])],[(5,.own),(7,.own),(8,.heap)],[]⟩),(142,h0 10),(144,⟨80,[(0,[1,5,20,21,22]),(2,[1,5,6,7,8,20,21,22,27,28,29])],[(0,[5]),(2,[1,5,6,8,20,21,22])],[],[]⟩),(145,h0 50),(146,h0 7),(147,h0 26),(148,h0 21),(149,h0 14),(150,h0 9),(151,h0 13),(155,⟨23,[(0,[1,2,4,5])],[(0,[4,5])],[],[]⟩),(156,h0 9),(157,⟨54,[(1,[0,1,5,6,21,22])],[(1,[0,5,6])],[],[]⟩),(158,⟨41,[(2,[0,1,5])],[(2,[])],[],[]⟩),(159,⟨41,[(0,[0,1,5,6,13,14])],[(0,[5])],[],[]⟩),(160,⟨19,[(0,[0,1,7,8])],[(0,[])],[],[]⟩),(163,h0 9),(164,h0 84),(165,⟨135,[(3,[2,8,9,10,11,13,14,15,16]),(6,[2,8,9,10,14,15,16,17,18])],[(3,[2,8,9,10,11,13,14,15]),(6,[2,8,14,15,17,18])],[],[]⟩),(166,⟨21,[(0,[0,3])],[(0,[0,3])],[],[]⟩),(168,⟨40,[(0,[1,5,12,13,14])],[(0,[5])],[],[]⟩),(169,⟨186,[(1,[0,1,5,6,7,8]),(4,[0,1,5,6,11,12,104,105]),(7,[0,1,5,6,17,156,157])],[(1,[0,1,5,6]),(4,[0,1,5,6,11,12]),(7,[0,5,6,17])],[],[]⟩),(172,h0 25),(202,⟨73,[(2,[5,6,7])],[(2,[5,6,7])],[],[]⟩),(203,h0 10),(228,h0 13),(229,h0 32),(230,h0 11),(231,h0 7),(232,⟨28,[(0,[0,2,3]),(2,[0,2,3])],[(0,[0,2,3]),(2,[0,2,3])],[],[]⟩),(241,h0 14),(243,h0 63),(245,h0 15),(246,h0 6),(247,h0 10),(252,h0 7),(262,h0 13),(263,h0 96),(264,h0 63),(265,h0 6),(266,h0 9),(267,h0 55),(268,h0 14),(269,h0 14),(271,h0 9),(272,⟨17,[(0,[0,3])],[(0,[0])],[],[]⟩),(273,h0 18),(274,h0 25),(275,⟨19,[(0,[0,1])],[(0,[0])],[],[]⟩),(276,h0 54),(277,h0 61),(278,h0 16),(279,h0 40),(280,h0 57),(281,⟨25,[(0,[0,2,3,4])],[(0,[2,3,4])],[],[]⟩),(282,⟨39,[(1,[1,3,4])],[(1,[1,3])],[],[]⟩),(283,h0 13),(284,h0 7),(285,h0 9),(286,h0 14),(287,⟨20,[(0,[0,3])],[(0,[])],[],[]⟩),(288,⟨40,[(1,[0,2,3,4])],[(1,[0,2,3,4])],[],[]⟩),(289,⟨206,[(2,[0,8,9,10,11]),(4,[8,9,10,11,12,13]),(6,[8,9,10,11,12,13,14,15,16]),(10,[8,9,10,11,12,13,14,19,20])],[(2,[8,9,10,11]),(4,[8,10,11,12]),(6,[8,9,10,11,12,13,14,15]),(10,[8,9,10,11,12,13,14,19])],[(5,.heap)],[]⟩),(290,⟨20,[(0,[0,3,4])],[(0,[3])],[],[]⟩),(291,⟨12,[(0,[0,1])],[(0,[0])],[],[]⟩),(292,⟨25,[(0,[0,1,5])],[(0,[5])],[],[]⟩),(293,⟨72,[(0,[0,1,5,6]),(2,[0,1,5,6,7,8])],[(0,[5]),(2,[0,1,5,6,7])],[],[]⟩),(294,h0 15),(295,⟨42,[(0,[0,1,5,6,7])],[(0,[5])],[],[]⟩),(296,⟨41,[(2,[0,1,5])],[(2,[])],[],[]⟩),(297,⟨35,[(0,[0,1,5,6,7])],[(0,[5])],[],[]⟩),(298,h0 9),(299,⟨39,[(0,[0,1,6,7,8])],[(0,[6,7])],[],[]⟩),(300,⟨21,[(0,[0])],[(0,[0])],[],[]⟩),(301,⟨77,[(0,[0,1,2,7,9,10])],[(0,[9])],[],[]⟩),(302,h0 13),(315,h0 9),(389,⟨27,[(1,[0,1,5])],[(1,[5])],[],[]⟩),(429,h0 21),(430,⟨23,[(0,[0,4]),(2,[0,4])],[(0,[0,4]),(2,[0,4])],[],[]⟩),(449,h0 11),(634,h0 31),(636,⟨19,[(1,[0,3])],[(1,[])],[],[]⟩),(637,h0 287),(639,⟨20,[(0,[3,6,7,8])],[(0,[3])],[],[]⟩),(640,⟨182,[(2,[3,4,5,10,40,41,42]),(4,[3,5,10,13,14,58,59]),(7,[3,10,13,14,18,19,20,100,101,102])],[(2,[3,4,5,10]),(4,[3,10,13,14]),(7,[14,19,20])],[],[]⟩),(641,h0 14),(642,h0 14),(643,h0 14),(644,h0 14),(645,h0 14),(647,⟨19,[(0,[0,3])],[(0,[])],[],[]⟩),(648,h0 17),(650,⟨53,[(1,[0,1,5]),(4,[0,1,5,6])],[(1,[]),(4,[0,1,5])],[],[]⟩),(652,h0 14),(653,h0 50),(654,h0 18),(655,h0 27),(656,h0 162),(657,⟨111,[(2,[3,4,5,10,52,53])],[(2,[3,4,5,10])],[],[]⟩),(658,⟨70,[(1,[1,7,26,27,28]),(4,[1,7,8,9,26,27,28,46])],[(1,[7]),(4,[1,7,26,27,28])],[],[]⟩),(659,⟨26,[(1,[0,1,5])],[(1,[])],[],[]⟩),(660,⟨136,[(2,[4,5,6,7,12,14,15,16,17,18])],[(2,[12,15])],[],[]⟩),(661,⟨45,[(1,[5,6,19,20,21]),(3,[5,6,9,19,20,21,25,26,27])],[(1,[6]),(3,[5,6,9,19,20,21])],[],[(15,[9])]⟩),(662,⟨101,[(3,[0,6,7,34,35]),(5,[0,6,7,8,9,34,35,38,39]),(7,[0,6,7,8,9,10,11,34,35,38,39,42,43]),(9,[0,6,7,8,9,10,11,12,34,35,38,39,42,43,46,47])],[(3,[7]),(5,[0,6,7,9,34,35]),(7,[0,6,7,8,9,11,34,35,38,39]),(9,[0,6,7,8,9,10,11,34,35,38,39,42,43])],[],[(31,[9])]⟩),(663,⟨128,[(1,[2,7,8,9,35]),(3,[2,7,8,9,10,35,38,39]),(5,[2,7,8,9,10,11,12,35,38,39,42,43]),(7,[2,7,8,9,10,11,12,13,14,35,38,39,42,43,49,50]),(9,[2,7,8,9,10,11,12,13,14,15,35,38,39,42,43,49,50,53,54])],[(1,[2,9]),(3,[2,7,8,9,35]),(5,[2,7,8,9,10,12,35,38,39]),(7,[2,7,8,9,10,11,12,14,35,38,39,42,43]),(9,[2,7,8,9,10,11,12,13,14,35,38,39,42,43,49,50])],[],[(32,[12])]⟩),(664,⟨145,[(1,[1,4,32,33]),(4,[1,4,9,44,45]),(6,[1,4,9,44,45,48,49,50]),(9,[1,4,14,15,70,71]),(11,[1,4,14,15,16,17,70,71,74,75]),(13,[1,4,14,15,16,17,18,19,70,71,74,75,78])],[(1,[1,4]),(4,[1,4,9]),(6,[1,4,9,44,45]),(9,[15]),(11,[1,4,14,15,17,70,71]),(13,[1,4,14,15,16,17,19,70,71,74,75])],[],[(44,[17])]⟩),(665,⟨26,[(1,[0,1,5])],[(1,[])],[],[]⟩),(666,⟨53,[(1,[0,1,5]),(4,[0,1,5,6])],[(1,[]),(4,[0,1,5])],[],[]⟩),(667,⟨74,[(4,[1,7,49,50]),(6,[1,7,9,49,50,56,57,58])],[(4,[]),(6,[1,7,49,50])],[],[]⟩),(668,⟨90,[(2,[1,8,40,41]),(4,[1,8,9,10,40,41,50,51]),(6,[1,8,9,10,11,12,40,41,50,51,55,56,57])],[(2,[8]),(4,[1,8,10,40,41]),(6,[1,8,9,10,12,40,41,50,51])],[],[(23,[10])]⟩),(669,⟨27,[(1,[0,1,5])],[(1,[])],[],[]⟩),(670,h0 16),(671,h0 39),(672,h0 4),(673,h0 6),(674,h0 6),(675,⟨50,[(0,[4,13,14,15]),(2,[4,6,7,13,14,15,19,20,21])],[(0,[4]),(2,[4,6,7,13,14,15])],[],[(16,[12])]⟩),(676,h0 16),(677,⟨15,[(0,[5,6,7])],[(0,[])],[],[]⟩),(678,h0 15),(679,⟨106,[(2,[2,3,42,43,44])],[(2,[])],[],[]⟩),(680,⟨44,[(1,[0,2,7]),(4,[0,2,7,8])],[(1,[]),(4,[0,2,7])],[],[]⟩),(685,h0 12),(686,h0 8),(687,h0 14),(688,⟨67,[(1,[4,5,10,31,32,33])],[(1,[4,5,10])],[],[]⟩),(689,h0 14),(690,h0 18),(691,h0 8),(692,h0 7),(693,⟨119,[(0,[1,2,3,4,8,9,10,11]),(2,[1,2,3,4,8,9,10,11,12,13,35,36,37])],[(0,[8,9]),(2,[1,2,3,4,8,9,10,11,12,13])],[],[]⟩),(694,⟨50,[(1,[6,7,27,28])],[(1,[7])],[],[]⟩),(695,⟨21,[(0,[1,8,9,10])],[(0,[])],[],[]⟩),(696,h0 22),(697,h0 8),(698,h0 8),(699,h0 6),(700,h0 16),(701,h0 12),(702,h0 13),(703,⟨38,[(0,[3,9,10,11]),(2,[3,6,9,10,11,15,16,17])],[(0,[3]),(2,[3,6,9,10,11])],[],[(11,[6])]⟩),(704,⟨66,[(0,[0,3,4,13,14]),(2,[0,3,4,5,6,13,14,17,18]),(4,[0,3,4,5,6,7,8,13,14,17,18,24,25]),(6,[0,3,4,5,6,7,8,9,13,14,17,18,24,25,28,29])],[(0,[4]),(2,[0,3,4,6,13,14]),(4,[0,3,4,5,6,8,13,14,17,18]),(6,[0,3,4,5,6,7,8,13,14,17,18,24,25])],[],[(22,[6])]⟩),(705,⟨59,[(0,[4,15,16,17]),(2,[4,7,15,16,17,21,22,23])],[(0,[4]),(2,[4,7,15,16,17])],[],[(16,[7])]⟩),(709,h0 33),(710,h0 16),(711,⟨17,[(0,[0,7,8,9])],[(0,[])],[],[]⟩),(712,h0 12),(713,h0 6),(715,⟨21,[(0,[1,8,9,10])],[(0,[])],[],[]⟩),(716,h0 18),(717,⟨21,[(0,[1,8,9,10])],[(0,[])],[],[]⟩),(718,⟨26,[(0,[0,1,8,9])],[(0,[])],[(0,.heap)],[]⟩),(719,⟨39,[(0,[0,1,2,7,8]),(2,[0,1,2,4,7,8,12,13])],[(0,[]),(2,[0,1,2,7,8])],[(0,.heap)],[]⟩),(720,⟨21,[(0,[2,4,6,9,10,11])],[(0,[4,6])],[],[]⟩),(721,⟨94,[(1,[1,4,5])],[(1,[1,4,5])],[],[]⟩),(722,h0 5),(723,h0 9),(724,h0 49),(725,h0 14),(726,h0 11),(727,h0 15),(728,h0 10),(729,⟨21,[(0,[1,8,9,10])],[(0,[])],[],[]⟩),(735,h0 10),(736,⟨21,[(0,[1,8,9,10])],[(0,[])],[],[]⟩),(737,h0 11),(738,⟨21,[(0,[1,8,9,10])],[(0,[])],[],[]⟩),(741,h0 9),(742,h0 6),(744,h0 6),(745,⟨19,[(0,[0,1,7,8])],[(0,[])],[],[]⟩),(746,h0 6),(749,⟨21,[(0,[1,8,9,10])],[(0,[])],[],[]⟩),(750,⟨21,[(0,[1,8,9,10])],[(0,[])],[],[]⟩),(751,h0 14),(752,⟨19,[(0,[0,1,7,8])],[(0,[])],[],[]⟩),(753,h0 7),(755,h0 111),(768,⟨19,[(0,[0,7,8,9])],[(0,[0])],[],[]⟩),(769,h0 14),(770,⟨25,[(0,[1,2,5,6])],[(0,[5])],[],[]⟩),(771,⟨70,[(0,[1,2,3,4,10,11]),(2,[1,2,3,4,10,11,12,13]),(4,[1,2,3,4,10,11,12,13,14])],[(0,[10]),(2,[1,2,3,4,10,11,12]),(4,[1,2,3,4,10,11,12,13])],[(0,.heap)],[]⟩),(772,⟨31,[(0,[0,1,2,3,11,12,13])],[(0,[0,1,2,3])],[],[(4,[10])]⟩),(788,⟨59,[(0,[1,3,7,8,9,10]),(2,[1,3,7,8,9,10,11,12])],[(0,[9]),(2,[1,3,7,8,9,10,11])],[],[]⟩),(789,⟨19,[(0,[0,3,4])],[(0,[3])],[],[]⟩),(790,⟨57,[(0,[1,2,4,5,6,7]),(2,[1,2,4,5,6,7,8])],[(0,[1,4,5,6]),(2,[1,2,4,5,6,7])],[],[]⟩),(800,⟨18,[(0,[0,3,4])],[(0,[3])],[],[]⟩),(801,h0 12)]) (by conv=>{lhs;reduce})
def auq:Lw ae bq=true:=by decide+kernel
noncomputable def cc(i:Nat):az:=match (Tryz.prog.funcs[BJ ae i]?).bind (GU Tryz.prog (Qc bq hd i)) with
 | some F=>F
 | none=>⟨[],.skip⟩
end lY
def nest:VC->List VC
 | .seq a b=>nest a++nest b
 | .cond _ a b=>nest a++nest b
 | .eb _ a=>nest a
 | .loop _ a=>[a]
 | .rf _ _ a b=>[a,b]
 | _=>[]
def oR:VC->List VC->VC×List VC
 | .seq a b,l=>(.seq (oR a l).1 (oR b (oR a l).2).1,(oR b (oR a l).2).2)
 | .cond x a b,l=>(.cond x (oR a l).1 (oR b (oR a l).2).1,(oR b (oR a l).2).2)
 | .eb i a,l=>(.eb i (oR a l).1,(oR a l).2)
 | .loop v a,l=>(.loop v (l.headD a),l.tail)
 | .rf f ps a b,l=>(.rf f ps (l.headD a) (l.tail.headD b),l.tail.tail)
 | c,l=>(c,l)
def ahv(c:VC):List Nat->VC
 | []=>c
 | i::r=>ahv ((nest c).getD i .skip) r
noncomputable def bG(F:az)(p:List Nat)(l:List VC):VC:=(oR (ahv F.body p) l).1
noncomputable def cy(F:az)(l:List VC):az:=⟨F.dR,(oR F.body l).1⟩
end VE
end
