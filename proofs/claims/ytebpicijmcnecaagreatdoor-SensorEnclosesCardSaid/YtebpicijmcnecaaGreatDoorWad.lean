import Derived.Lib.AppendIntMem
import Derived.OwnWalk
import Derived.WalkKit
import Derived.KernelRfl
import Derived.Attr
import Derived.Test.YtebpicijmcnecaaGreatDoorWac
import Derived.Test.YtebpicijmcnecaaGreatDoorWab
set_option linter.all false
set_option maxRecDepth 100000
open Array renaming size_replicate->uE
open Bool renaming and_eq_true->ye,false_eq_true->yD
open Go renaming FloatKind->wm,IntKind->xg,Program->xy,World->yk
open List renaming mem_cons->wB,mem_cons_of_mem->wJ,mem_cons_self->vj
open Nat renaming beq->yo,blt->yM,eq_of_beq_eq_true->yf
open Option.some renaming injEq->yc
open Option renaming some->F5,none->F6
section
namespace Go.Proofs
open Go.Shelf
open Go.RowKit Go.Sort Go.Lib
set_option maxHeartbeats 6400000 in
set_option maxRecDepth 100000 in
def Tryz.aj5(u:Nat)(E5:u<18446744073709551616)(w:yk)(E4:Lib.TabIs Tryz.prog w "internal/strconv.uint64pow10" .u64 Lib.pow10Tab):
  Calls Tryz.prog 278 #[.int .u64 u,.int .i64 10] w fun e w'=>e=.returned (.string ⟨(Lib.decDigits u).toArray⟩)/\∃k os,w'=grow (w.drewN k) os:=by
 by_cases hs:u<100
 .go_enter Tryz.func278,Tryz.ntmps278
  go_wp2_with (go_at_call 308;refine (Tryz.internal_strconv_small u hs _).mono ?_;rintro e w' ⟨rfl,rfl⟩)
  go_ret
  exact⟨rfl,0,#[],by simp[World.drewN_zero]⟩
 .have zF:1<=u:=by omega
  have aFj:Lib.nDigits u<=20:=by have:=Lib.numDigits_eq u zF E5;split at this<;>omega
  have hal:Tryz.prog.arrayLen 354=24:=by simp[Program.arrayLen,Tryz.underlying354]
  have Dt:∀W,(Instr.sliceAt 354 (.pointer (F5 ⟨w.heap.size,0,F6⟩)) F6 (F5 (.int .i64 (Lib.nDigits u:Int))) F6).run Tryz.prog W=.ok (.slice (F5 ⟨w.heap.size,0,F6⟩) (Lib.nDigits u) 24) W:=fun W=>by
   rw[run_sliceAt_array_h W 354 ⟨w.heap.size,0,F6⟩ (by simp[Program.arrayLen,Program.elem,Tryz.underlying354]) .i64 (Lib.nDigits u:Int) (by omega) (by rw[hal];omega)]
   go_simp
  have XT:=Lib.holds_zero0 w 354 (Lib.nDigits u) (by omega);have ags:=Tryz.internal_strconv_formatBase10 w.heap.size 0 24 u (Array.replicate (Lib.nDigits u) 0) (w.alloc (.cells Lib.zeros24 354)) XT (by rw[uE];exact Lib.lt_pow_nDigits u) E5 (by rw[uE];omega)
  rw[uE] at ags;have HH0:=Lib.hid XT;have iu:(100:Int)<=(u:Int):=by omega
  clear XT hal
  go_enter Tryz.func278,Tryz.ntmps278
  go_wp2_with (first
   | (go_at_call 309;refine (Tryz.internal_strconv_numDigits u zF E5 _ (Lib.tabIs_alloc E4 _)).mono ?_;rintro e w' ⟨rfl,rfl⟩))
  go_at_call 310
  refine ags.mono ?_;rintro e w' ⟨rfl,k,v',dk,rfl,hF⟩;have lX:(convert 45 9 (.slice (F5 ⟨w.heap.size,0,F6⟩) (Lib.nDigits u) 24)).run Tryz.prog ((putRow (fun (b:UInt8)=>Value.int .u8 (b.toNat:Int)) (w.alloc (.cells Lib.zeros24 354)) w.heap.size 0 dk).drewN k)=.ok (.string ⟨(Lib.decDigits u).toArray⟩) ((putRow (fun (b:UInt8)=>Value.int .u8 (b.toNat:Int)) (w.alloc (.cells Lib.zeros24 354)) w.heap.size 0 dk).drewN k):=by
   have h:=run_convert_bytes_back (P:=Tryz.prog) ((putRow (fun (b:UInt8)=>Value.int .u8 (b.toNat:Int)) (w.alloc (.cells Lib.zeros24 354)) w.heap.size 0 dk).drewN k) 45 9 5 ⟨w.heap.size,0,F6⟩ 24 (Lib.decDigits u) Tryz.underlying45 Tryz.underlying5 Tryz.underlying9 (fun j hj=>by
    rw[Lib.row_is_numeral hF j hj,Lib.add_plain,World.cell?_drewN]
    exact cell?_putRow (fun (b:UInt8)=>Value.int .u8 (b.toNat:Int)) _ w.heap.size 0 _ dk HH0.out (by rw[hF.size,uE]) j (by rw[hF.size];rw[Lib.decDigits_length] at hj;exact hj))
   rw[Lib.decDigits_length] at h;exact h
  go_wp2
  go_ret
  obtain⟨os,eo⟩:=Lib.fin_at w (.cells Lib.zeros24 354) dk k 0;exact⟨rfl,k,os,eo⟩
def Tryz.aj7(u:Nat)(E5:u<18446744073709551616)(w:yk)(E4:Lib.TabIs Tryz.prog w "internal/strconv.uint64pow10" .u64 Lib.pow10Tab):
  Calls Tryz.prog 242 #[.int .u64 u,.int .i64 10] w fun e w'=>e=.returned (.string ⟨(Lib.decDigits u).toArray⟩)/\∃k os,w'=grow (w.drewN k) os:=by
 go_enter Tryz.func242,Tryz.ntmps242
 go_wp2_with (go_at_call 278;refine (Tryz.aj5 u E5 _ E4).mono ?_;rintro e w' ⟨rfl,k,os,rfl⟩)
 go_ret
 exact⟨rfl,k,os,rfl⟩
end Go.Proofs
end
section
namespace VE
abbrev Rq(d:Nat)(o:Op):aS:=⟨F5 d,F6,o⟩
abbrev Rt(d g:Nat)(o:Op):aS:=⟨F5 d,F5 (g,true),o⟩
abbrev Rf(d g:Nat)(o:Op):aS:=⟨F5 d,F5 (g,false),o⟩
abbrev qm(d s:Nat):aS:=⟨F5 d,F6,.zk (.t s)⟩
abbrev ME(d f a:Nat):aS:=⟨F5 d,F6,.call .pure (.c (.fn (.f f) [] [])) [.t a]⟩
abbrev qc2(d f a b:Nat):aS:=⟨F5 d,F6,.call .pure (.c (.fn (.f f) [] [])) [.t a,.t b]⟩
abbrev qc3(d f a b c:Nat):aS:=⟨F5 d,F6,.call .pure (.c (.fn (.f f) [] [])) [.t a,.t b,.t c]⟩
abbrev qc4(d f a b c e:Nat):aS:=⟨F5 d,F6,.call .pure (.c (.fn (.f f) [] [])) [.t a,.t b,.t c,.t e]⟩
abbrev ql(d n s:Nat):aS:=⟨F5 d,F6,.ld n false (.t s)⟩
abbrev qL(d n s:Nat):aS:=⟨F5 d,F6,.ld n true (.t s)⟩
abbrev qk(d:Nat)(k:Int):aS:=⟨F5 d,F6,.zk (.c (.int .i64 k))⟩
abbrev qf(d:Nat):aS:=⟨F5 d,F6,.zk (.c (.bool false))⟩
abbrev qz(d:Nat):aS:=⟨F5 d,F6,.zk (.c .af)⟩
abbrev qi(d n s i:Nat):aS:=⟨F5 d,F6,.bj n (.t s) (.t i)⟩
abbrev qo(d n s:Nat):aS:=⟨F5 d,F6,.off n (.t s)⟩
abbrev qn(d n s:Nat):aS:=⟨F5 d,F6,.len n (.t s)⟩
abbrev qe(d n s:Nat):aS:=⟨F5 d,F6,.ext n (.t s)⟩
abbrev qb(d n s:Nat):aS:=⟨F5 d,F6,.box n (.t s)⟩
abbrev qs(n a b:Nat):aS:=⟨F6,F6,.st n (.t a) (.t b)⟩
abbrev qa(d a:Nat)(k:Int):aS:=⟨F5 d,F6,.bin .add (.t a) (.c (.int .i64 k))⟩
abbrev qN(d a:Nat)(k:Int):aS:=⟨F5 d,F6,.bin .neq (.t a) (.c (.int .i64 k))⟩
abbrev qE(d a:Nat)(k:Int):aS:=⟨F5 d,F6,.bin .eql (.t a) (.c (.int .i64 k))⟩
abbrev qA(d a b:Nat):aS:=⟨F5 d,F6,.bin .add (.t a) (.t b)⟩
abbrev qT(d a b:Nat):aS:=⟨F5 d,F6,.bin .lss (.t a) (.t b)⟩
abbrev qp(d c b:Nat):aS:=⟨F5 d,F6,.pick (.t c) (.c (.bool true)) (.t b)⟩
abbrev qq(d c b:Nat):aS:=⟨F5 d,F6,.pick (.t c) (.t b) (.c (.bool false))⟩
abbrev X.k(n:Int):X:=.c (.int .i64 n)
abbrev X.u(n:Int):X:=.c (.int .u64 n)
abbrev X.F(n:Nat):X:=.c (.fn (.f n) [] [])
abbrev X.s(l:List Nat):X:=.c (.str l)
abbrev AV.i(n:Int):AV:=.int .i64 n
abbrev Op.q(f:Nat)(l:List X):Op:=.call .pure (.c (.fn (.f f) [] [])) l
abbrev Op.y(o:Go.BinOp)(a:Nat)(n:Int):Op:=.bin o (.t a) (.c (.int .i64 n))
abbrev Op.z(o:Go.BinOp)(a b:Nat):Op:=.bin o (.t a) (.t b)
abbrev Op.m(a:Nat):Op:=.zk (.t a)
abbrev VC.g(o:List aS)(b:VC):VC:=.seq (.kQ o) b
abbrev VC.q(a b:VC):VC:=.seq a b
abbrev VC.e(o:List aS):VC:=.seq (.kQ o) .ret
abbrev VC.i(t:Nat)(a:VC):VC:=.cond (.t t) a .skip
abbrev VC.h(o:List aS)(t:Nat)(a b:VC):VC:=.seq (.seq (.kQ o) (.cond (.t t) a .skip)) b
end VE
end
section
namespace VE
inductive Tr(α:Type) where
 | l
 | n (k:Nat) (v:α) (a b:Tr α)
def Tr.find{α:Type}:Tr α->Nat->Option α
 | .l,_=>F6
 | .n k v a b,i=>bif yo i k then F5 v else bif yM i k then a.find i else b.find i
end VE
end
section
namespace VE
open Go (IntKind FloatKind)
def Pm:xg->Nat
 | .i8=>0 | .i16=>1 | .i32=>2 | .i64=>3 | .u8=>4 | .u16=>5 | .u32=>6 | .u64=>7
def XU:Int->Int->Bool
 | .ofNat a,.ofNat b=>yo a b
 | .negSucc a,.negSucc b=>yo a b
 | _,_=>false
def Ro:Bool->Bool->Bool
 | true,true | false,false=>true
 | _,_=>false
def XV:wm->wm->Bool
 | .f32,.f32 | .f64,.f64=>true
 | _,_=>false
mutual
def gY:AV->AV->Bool
 | .int k a,.int k' b=>yo (Pm k) (Pm k')&&XU a b
 | .bool a,.bool b=>Ro a b
 | .ao k a,.ao k' b=>XV k k'&&yo a b
 | .df k a b,.df k' c d=>XV k k'&&(yo a c&&yo b d)
 | .str a,.str b=>c6 a b
 | .kL,.kL=>true
 | .bt a,.bt b=>nT a b
 | .af,.af=>true
 | .ap e n a,.ap e' n' b=>Ro e e'&&(yo n n'&&nT a b)
 | .cM e s n a,.cM e' s' n' b=>Ro e e'&&(yo s s'&&(yo n n'&&nT a b))
 | .fn (.f g) a b,.fn (.f g') a' b'=>yo g g'&&(nT a a'&&nT b b')
 | .ir,.ir=>true
 | .jw,.jw=>true
 | .jx a b,.jx a' b'=>nT a a'&&nT b b'
 | .agg a,.agg b=>nT a b
 | .aw a,.aw b=>nT a b
 | .undef,.undef=>true
 | _,_=>false
def nT:List AV->List AV->Bool
 | [],[]=>true
 | a::x,b::y=>gY a b&&nT x y
 | _,_=>false
end
def hI:Int->Nat
 | .ofNat n=>n
 | .negSucc n=>n+n
def hS:List Nat->Nat
 | []=>1
 | b::r=>(b+257*hS r)%65521
mutual
def hV:AV->Nat
 | .int _ n=>hI n
 | .bool b=>bif b then 1 else 2
 | .ao _ n=>n
 | .df _ n k=>n+k
 | .str s=>hS s
 | .ap _ n cs=>n+hL cs
 | .agg cs=>hL cs
 | .aw cs=>hL cs
 | _=>5
def hL:List AV->Nat
 | []=>7
 | v::r=>(hV v+263*hL r)%65521
end
abbrev Te:=Tr (List AV×AV)
abbrev bn:=List Te
def Ev(h:Nat)(aq:List AV):bn->Option AV
 | []=>F6
 | t::l=>match t.find h with
  | some (a,r)=>bif nT a aq then F5 r else Ev h aq l
  | none=>Ev h aq l
def aeP(aq:List AV)(l:bn):Option AV:=Ev (hL aq) aq l
abbrev Te.o(h:Nat)(a:List AV)(r:AV):Te:=.n h (a,r) .l .l
abbrev Te.m(h:Nat)(a:List AV)(r:AV)(x y:Te):Te:=.n h (a,r) x y
def Ew(n:Nat):List (Tr bn)->Option bn
 | []=>F6
 | t::r=>match t.find n with
  | none=>Ew n r
  | some l=>match Ew n r with | none=>F5 l | some m=>F5 (l++m)
def PW(L:Lib)(T:List (Tr bn))(ex:Nat):Lib:=
 ⟨fun i=>match L.pure i with
  | some sp=>F5 sp
  | none=>bif yo i ex then F6 else match Ew i T with | some l=>F5 (fun aq=>aeP aq l) | none=>F6,L.heap⟩
def Ld(P:aF)(L:Lib)(f:Nat):Te->Bool
 | .l=>true
 | .n _ e x y=>(match Xq P L 100000 f e.1 with | some r'=>gY r' e.2 | none=>false)&&(Ld P L f x&&Ld P L f y)
def Pn(P:aF)(L:Lib)(f:Nat):bn->Bool
 | []=>true
 | t::l=>Ld P L f t&&Pn P L f l
def cz(P:aF)(L:Lib)(T:List (Tr bn)):List (Nat×bn)->Bool
 | []=>true
 | (f,l)::C=>Pn P (PW L T f) f l&&cz P L T C
end VE
end
section
namespace VE
open Go
section
variable {L:Lib}{aq:List AV}{f k:Nat}
def amw{a b:xg}(h:yo (Pm a) (Pm b)=true):a=b:=by
 cases a<;>cases b<;>first | rfl | (exact absurd h (by decide))
def aow{a b:Int}(h:XU a b=true):a=b:=by
 cases a<;>cases b<;>simp only[XU,reduceCtorEq] at h<;>rw[yf h]
def TR{a b:Bool}(h:Ro a b=true):a=b:=by
 cases a<;>cases b<;>first | rfl | (exact absurd h (by decide))
def abI{a b:wm}(h:XV a b=true):a=b:=by
 cases a<;>cases b<;>first | rfl | (exact absurd h (by decide))
mutual
def abJ:∀(a b:AV),gY a b=true->a=b
 | .int k a,b,h=>by
  cases b<;>simp only[gY,ye,yD] at h
  rw[amw h.1,aow h.2]
 | .bool a,b,h=>by
  cases b<;>simp only[gY,yD] at h
  rw[TR h]
 | .ao k a,b,h=>by
  cases b<;>simp only[gY,ye,yD] at h
  rw[abI h.1,yf h.2]
 | .df k a c,b,h=>by
  cases b<;>simp only[gY,ye,yD] at h
  rw[abI h.1,yf h.2.1,yf h.2.2]
 | .str a,b,h=>by
  cases b<;>simp only[gY,yD] at h
  rw[TL h]
 | .kL,b,h=>by cases b<;>simp only[gY,yD] at h;rfl
 | .ptr _ _,b,h=>by cases b<;>simp only[gY,yD] at h
 | .bt a,b,h=>by
  cases b<;>simp only[gY,yD] at h
  rw[sQ _ _ h]
 | .af,b,h=>by cases b<;>simp only[gY,yD] at h;rfl
 | .ap e n a,b,h=>by
  cases b<;>simp only[gY,ye,yD] at h
  rw[TR h.1,yf h.2.1,sQ _ _ h.2.2]
 | .cM e s n a,b,h=>by
  cases b<;>simp only[gY,ye,yD] at h
  rw[TR h.1,yf h.2.1,yf h.2.2.1,sQ _ _ h.2.2.2]
 | .ay _ _ _,b,h=>by cases b<;>simp only[gY,yD] at h
 | .fn (.f g) x y,b,h=>by
  cases b<;>try (simp only[gY,yD] at h;done)
  rename_i fr _ _;cases fr<;>simp only[gY,ye,yD] at h
  rw[yf h.1,sQ _ _ h.2.1,sQ _ _ h.2.2]
 | .fn (.y _) _ _,b,h=>by cases b<;>simp only[gY,yD] at h
 | .ir,b,h=>by cases b<;>simp only[gY,yD] at h;rfl
 | .jw,b,h=>by cases b<;>simp only[gY,yD] at h;rfl
 | .map _,b,h=>by cases b<;>simp only[gY,yD] at h
 | .jx x y,b,h=>by
  cases b<;>simp only[gY,ye,yD] at h
  rw[sQ _ _ h.1,sQ _ _ h.2]
 | .it _,b,h=>by cases b<;>simp only[gY,yD] at h
 | .agg a,b,h=>by
  cases b<;>simp only[gY,yD] at h
  rw[sQ _ _ h]
 | .aw a,b,h=>by
  cases b<;>simp only[gY,yD] at h
  rw[sQ _ _ h]
 | .undef,b,h=>by cases b<;>simp only[gY,yD] at h;rfl
def sQ:∀(a b:List AV),nT a b=true->a=b
 | [],b,h=>by cases b<;>simp only[nT,yD] at h;rfl
 | x::a,b,h=>by
  cases b<;>simp only[nT,ye,yD] at h
  rw[abJ _ _ h.1,sQ _ _ h.2]
end
def Tr.Has{α:Type}(x:α):Tr α->Prop
 | .l=>False
 | .n _ v a b=>v=x\/a.Has x\/b.Has x
def Tr.TS{α:Type}{h:Nat}{x:α}:∀{t:Tr α},t.find h=F5 x->t.Has x
 | .l,hf=>by simp[Tr.find] at hf
 | .n k v a b,hf=>by
  simp only[Tr.find] at hf
  cases h1:yo h k with
  | true=>rw[h1] at hf;simp only[yu,yc] at hf;exact .inl hf
  | false=>
   rw[h1] at hf
   cases h2:yM h k with
   | true=>rw[h2] at hf;exact .inr (.inl (Tr.TS hf))
   | false=>rw[h2] at hf;exact .inr (.inr (Tr.TS hf))
def Rr(aq:List AV)(r:AV)(l:bn):Prop:=∃t,t∈l/\t.Has (aq,r)
def Z0{h:Nat}{aq:List AV}{r:AV}:∀{l:bn},Ev h aq l=F5 r->Rr aq r l
 | [],hf=>by simp[Ev] at hf
 | t::l,hf=>by
  have tail:Ev h aq l=F5 r->Rr aq r (t::l):=fun q=>by
   have⟨t',h1,h2⟩:=Z0 q;exact⟨t',wJ _ h1,h2⟩
  simp only[Ev] at hf
  split at hf
  .rename_i a q he
   cases hb:nT a aq with
   | true=>
    rw[hb] at hf;simp only[yu,yc] at hf;rw[sQ _ _ hb,hf] at he;exact⟨t,vj,Tr.TS he⟩
   | false=>
    grind
  .grind
def amx{r:AV}{l:bn}(h:aeP aq l=F5 r):Rr aq r l:=Z0 h
def mY(O:bq)(f:Nat)(l:bn):Prop:=∀aq r,Rr aq r l->eD O f aq r
def mY.nil{O:bq}:mY O f []:=fun _ _ h=>by have⟨t,h,_⟩:=h;cases h
def mY.cQ{O:bq}{a b:bn}(ha:mY O f a)(hb:mY O f b):mY O f (a++b):=fun v r h=>by
 have⟨t,h,h2⟩:=h;exact (List.mem_append.1 h).elim (fun h=>ha v r ⟨t,h,h2⟩) (fun h=>hb v r ⟨t,h,h2⟩)
def mY.one{O:bq}{r:AV}(h:eD O f aq r):mY O f [.n k (aq,r) .l .l]:=fun v q hm=>by
 have⟨t,h1,h2⟩:=hm;rcases wB.1 h1 with e | e
 .subst e;rcases h2 with h2 | h2 | h2
  .grind
  .exact h2.elim
  .exact h2.elim
 .cases e
def Tr.mF{α:Type}(p:Nat->α->Prop):Tr α->Prop
 | .l=>True
 | .n k v a b=>p k v/\a.mF p/\b.mF p
def Tr.jU{α:Type}{p:Nat->α->Prop}:Tr.mF p .l:=trivial
def Tr.kX{α:Type}{p:Nat->α->Prop}{v:α}{a b:Tr α}(h:p k v)(ha:a.mF p)(hb:b.mF p):Tr.mF p (.n k v a b):=⟨h,ha,hb⟩
def Tr.Eh{α:Type}{p:Nat->α->Prop}{i:Nat}{v:α}:∀{t:Tr α},t.mF p->t.find i=F5 v->p i v
 | .l,_,h=>by simp[Tr.find] at h
 | .n k w a b,ha,h=>by
  simp only[Tr.find] at h
  cases hb:yo i k with
  | true=>
   rw[hb] at h;simp only[yu,yc] at h;subst h;rw[yf hb];exact ha.1
  | false=>
   rw[hb] at h
   cases hc:yM i k with
   | true=>rw[hc] at h;exact Tr.Eh ha.2.1 h
   | false=>rw[hc] at h;exact Tr.Eh ha.2.2 h
abbrev bq.zY(O:bq)(L:Lib):bq:={O with aI:=L}
def abK{O:bq}{m:Mp}{S:Nat->Prop}{w:yk}{id:Nat}{o:Obj}:fk (O.zY L) m S w id o↔fk O m S w id o:=by
 cases o<;>exact Iff.rfl
def abL{O:bq}{m:Mp}{S:Nat->Prop}{w:yk}{hp:Hp}{ct:Nat}:aT (O.zY L) m S w hp ct↔aT O m S w hp ct:=
 ⟨fun h=>⟨fun id o p h1 h2=>abK.1 (h.obj id o p h1 h2),h.lt,h.inj,h.slt,h.blt,h.low,h.mW,h.gH,h.aM⟩,
  fun h=>⟨fun id o p h1 h2=>abK.2 (h.obj id o p h1 h2),h.lt,h.inj,h.slt,h.blt,h.low,h.mW,h.gH,h.aM⟩⟩
def aaO{O:bq}{n:Nat}{hp:Hp}{ct:Nat}{v:AV}{an:Hp}{aH:Nat}(h:CU O n hp ct aq v an aH):CU (O.zY L) n hp ct aq v an aH:=by
 intro m S w args h1 h2;have post:∀e w',Bb O m S w hp ct v an aH e w'->Bb (O.zY L) m S w hp ct v an aH e w':=by
  rintro e w' ⟨u,m',S',k1,k2,k3,k4,k5⟩;exact⟨u,m',S',k1,abL.2 k2,k3,k4,k5⟩
 exact Cx.mono (h m S w args (abL.1 h1) h2) post
def iy(O:bq)(T:List (Tr bn)):Prop:=∀t,t∈T->t.mF (mY O)
def iy.nil{O:bq}:iy O []:=fun _ h=>by cases h
def iy.cons{O:bq}{t:Tr bn}{T:List (Tr bn)}(h:t.mF (mY O))(hT:iy O T):iy O (t::T):=fun u hu=>by
 rcases wB.1 hu with e | e
 .grind
 .exact hT u e
def Tk{O:bq}{n:Nat}:∀{T:List (Tr bn)} {l:bn},iy O T->Ew n T=F5 l->mY O n l
 | [],_,_,h=>by simp[Ew] at h
 | t::T,l,hT,h=>by
  have Ru:iy O T:=fun u hu=>hT u (wJ _ hu)
  simp only[Ew] at h
  split at h
  .exact Tk Ru h
  .rename_i l1 h1;have c1:=Tr.Eh (hT t vj) h1
   split at h
   .grind
   .rename_i m h2;simp only[yc] at h;subst h;exact mY.cQ c1 (Tk Ru h2)
def ac3{O:bq}(hO:iK O){T:List (Tr bn)}(hT:iy O T)(ex:Nat):iK (O.zY (PW O.aI T ex)) where
 hint:=hO.hint
 mixed:=hO.mixed
 prog:=hO.prog
 aI n sp aq r h hs:=by
  simp only[PW] at h
  cases hl:O.aI.pure n with
  | some Rv=>
   simp only[hl,yc] at h;subst h;exact hO.aI n _ aq r hl hs
  | none=>
   simp only[hl] at h
   cases hb:yo n ex with
   | true=>rw[hb] at h;cases h
   | false=>
    rw[hb] at h;simp only[yO] at h
    cases hf:Ew n T with
    | none=>simp[hf] at h
    | some l=>
     simp only[hf,yc] at h;subst h;exact Tk hT hf aq r (amx hs)
 G6 n sp hp ct aq v an aH h hs:=aaO (hO.G6 n sp hp ct aq v an aH h hs)
def Tl{O:bq}{L:Lib}(hO:iK (O.zY L)){f:Nat}{aq:List AV}{r:AV}:∀{t:Te},Ld O.prog L f t=true->t.Has (aq,r)->eD O f aq r
 | .l,_,h=>h.elim
 | .n k e x y,h,hm=>by
  simp only[Ld,ye] at h;rcases hm with e1 | hm | hm
  .subst e1;have h1:=h.1
   split at h1
   .rename_i r' hr;have e:r'=r:=abJ _ _ h1;rw[<-e];exact sound hO hr
   .cases h1
  .exact Tl hO h.2.1 hm
  .exact Tl hO h.2.2 hm
def Z1{O:bq}{L:Lib}(hO:iK (O.zY L)){f:Nat}:∀{l:bn},Pn O.prog L f l=true->mY O f l
 | [],_=>mY.nil
 | t::l,h=>by
  simp only[Pn,ye] at h;intro v q hm;have⟨t',h1,h2⟩:=hm;rcases wB.1 h1 with e | e
  .subst e;exact Tl hO h.1 h2
  .exact Z1 hO h.2 v q ⟨t',e,h2⟩
def chunk_ok{O:bq}(hO:iK O){T:List (Tr bn)}(hT:iy O T):∀{C:List (Nat×bn)},cz O.prog O.aI T C=true->∀f l,(f,l)∈C->mY O f l
 | [],_,f,l,h=>by cases h
 | (g,l')::C,h,f,l,hm=>by
  simp only[cz,ye] at h;rcases wB.1 hm with e | hm
  .injection e with e1 e2
   subst e1;subst e2;exact Z1 (ac3 hO hT f) h.1
  .exact chunk_ok hO hT h.2 f l hm
def aN{α:Type}{p:Nat->α->Prop}{v:α}{a b:Tr α}(h:p k v)(ha:a.mF p)(hb:b.mF p):Tr.mF p (.n k v a b):=Tr.kX h ha hb
def aL{α:Type}{p:Nat->α->Prop}:Tr.mF p .l:=Tr.jU
end
end VE
end
section
namespace VE
open Go
structure HD where
 n:Nat
 live:List (Nat×List Nat)
 out:List (Nat×List Nat)
 mode:List (Nat×Md)
 fz:List (Nat×List Nat)
 deriving Inhabited
def KZ{α:Type}(i:Nat):List (Nat×α)->Option α
 | []=>F6
 | (j,a)::l=>bif yo j i then F5 a else KZ i l
def ath(br:Nat->Option Nat)(d:HD):Hint where
 n:=d.n
 br:=br
 live:=fun l=>match KZ l d.live with | some x=>x | none=>[]
 out:=fun l=>KZ l d.out
 mode:=fun k=>match KZ k d.mode with | some x=>x | none=>.pure
 fz:=fun i=>match KZ i d.fz with | some x=>x | none=>[]
def Po(br:Tr Nat)(t:Tr HD)(i:Nat):Hint:=ath br.find (match t.find i with | some d=>d | none=>⟨0,[],[],[],[]⟩)
def BE(t:Tr Nat)(i:Nat):Nat:=match t.find i with | some f=>f | none=>0
def K0(ab:Tr Nat):Tr Nat->Bool
 | .l=>true
 | .n f g a b=>yo (BE ab g) f&&(K0 ab a&&K0 ab b)
def SR{ab:Tr Nat}:∀{t:Tr Nat},K0 ab t=true->t.mF (fun f g=>BE ab g=f)
 | .l,_=>trivial
 | .n f g a b,h=>by
  simp only[K0,ye] at h;exact⟨yf h.1,SR h.2.1,SR h.2.2⟩
def UN(P:xy)(ab:Tr Nat)(br:Tr Nat)(hd:Tr HD)(i:Nat)(F:aD):Prop:=
 ∃fn,P.funcs[BE ab i]? =F5 fn/\Gu P (Po br hd i) fn=F5 F/\fn.name≠ "runtime.NumGoroutine"
def amy{P:xy}{ab br:Tr Nat}{hd:Tr HD}{i:Nat}{F:aD}(h:(P.funcs[BE ab i]?).bind (Gu P (Po br hd i))=F5 F)(h2:(P.funcs[BE ab i]?).map (fun fn=>decide (fn.name= "runtime.NumGoroutine"))=F5 false):UN P ab br hd i F:=by
 unfold UN
 cases hq:P.funcs[BE ab i]? with
 | none=>rw[hq] at h;cases h
 | some fn=>
  rw[hq] at h h2;refine⟨fn,rfl,h,fun e=>?_⟩;simp only[Option.map_some,yc,e,yN] at h2;cases h2
end VE
end
section
namespace VE
def au{α:Type}{a b:α}(_:a=b):α:=b
attribute [go_sem] au
def HX{α:Type}:Nat->List (Nat×α)->Tr α
 | 0,_=>.l
 | n+1,l=>match l.drop (l.length/2) with
  | []=>.l
  | a::r=>.n a.1 a.2 (HX n (l.take (l.length/2))) (HX n r)
namespace mG
open Go
open Go.Proofs
def fl:List (Nat×Nat):=[(29,32),(46,105),(49,76),(50,51),(62,46),(69,75),(70,83),(71,77),(73,156),(74,52),(86,112),(88,108),(98,119),(99,168),(100,122),(101,121),(102,91),(107,125),(108,49),(109,113),(110,115),(111,114),(117,150),(118,151),(119,120),(122,124),(123,126),(124,183),(125,182),(128,180),(129,181),(130,184),(135,240),(136,192),(137,241),(138,242),(139,243),(140,244),(141,245),(142,199),(143,198),(144,200),(145,193),(146,118),(147,158),(148,197),(149,232),(150,233),(151,202),(152,186),(153,187),(154,188),(155,189),(156,224),(157,194),(158,195),(159,196),(160,201),(162,249),(163,229),(164,250),(165,275),(166,258),(167,273),(168,276),(169,277),(170,282),(171,257),(172,230),(173,259),(174,314),(175,268),(193,176),(194,177),(202,228),(203,117),(206,283),(214,286),(217,246),(218,247),(219,17),(228,256),(229,267),(230,234),(231,190),(232,191),(236,287),(238,284),(239,285),(241,163),(242,269),(243,270),(244,315),(245,236),(246,235),(247,304),(248,272),(249,305),(250,306),(251,271),(252,238),(261,71),(262,60),(263,59),(264,62),(268,138),(271,64),(272,128),(273,129),(274,130),(275,131),(276,133),(277,134),(278,137),(279,136),(280,135),(281,205),(282,214),(284,141),(285,140),(286,142),(287,203),(288,204),(289,206),(290,210),(291,211),(292,212),(293,219),(294,215),(295,216),(296,217),(297,218),(298,213),(299,260),(300,261),(301,262),(302,264),(315,72),(419,18),(420,20),(424,19),(637,8),(639,10),(640,25),(641,86),(643,42),(645,80),(647,70),(650,31),(652,26),(653,27),(654,15),(655,28),(656,9),(657,29),(658,30),(659,33),(660,21),(661,34),(662,35),(663,36),(664,37),(665,24),(666,38),(667,39),(668,40),(669,41),(670,81),(671,82),(672,74),(673,47),(674,54),(675,84),(676,44),(677,43),(679,153),(685,48),(686,56),(687,69),(688,68),(689,45),(690,85),(691,50),(692,53),(693,55),(694,88),(695,87),(696,89),(697,92),(698,93),(699,73),(700,94),(701,95),(702,96),(703,97),(704,99),(705,98),(706,100),(707,101),(708,102),(709,104),(710,103),(711,106),(712,107),(713,109),(714,110),(715,111),(716,154),(717,144),(718,149),(719,116),(720,123),(721,157),(722,225),(723,227),(724,143),(725,90),(726,159),(727,145),(728,161),(729,160),(730,162),(731,164),(732,165),(733,166),(734,167),(735,170),(736,169),(737,173),(738,172),(739,178),(740,179),(741,146),(742,155),(743,231),(744,226),(745,266),(746,147),(747,237),(748,239),(749,171),(750,174),(751,175),(752,223),(753,148),(762,4),(766,16)]
def ab:Tr Nat:=au (a:=HX 9 fl) (by conv=>{lhs;reduce})
def ins(x:Nat×Nat):List (Nat×Nat)->List (Nat×Nat)
 | []=>[x]
 | y::r=>bif yM x.1 y.1 then x::y::r else y::ins x r
def inv:List (Nat×Nat)->List (Nat×Nat)
 | []=>[]
 | p::r=>ins (p.2,p.1) (inv r)
def br:Tr Nat:=au (a:=HX 9 (inv fl)) (by conv=>{lhs;reduce})
def h0(n:Nat):HD:=⟨n,[],[],[],[]⟩
def hd:Tr HD:=au (a:=HX 9 [(29,⟨26,[(1,[0,1,5])],[(1,[])],[],[]⟩),(46,h0 16),(49,h0 16),(50,h0 9),(62,h0 22),(69,h0 6),(70,h0 9),(71,h0 16),(73,h0 8),(74,h0 34),(86,h0 76),(88,⟨23,[(0,[3,9,10,11])],[(0,[3])],[],[]⟩),(98,h0 13),(99,⟨69,[(1,[3,4,5,6]),(6,[6,10,11])],[(1,[3,6]),(6,[10])],[],[]⟩),(100,h0 66),(101,h0 34),(102,h0 9),(107,h0 11),(108,h0 6),(110,⟨41,[(0,[0,2,3,4])],[(0,[2,3,4])],[],[]⟩),(111,h0 6),(117,h0 5),(118,h0 29),(119,h0 67),(122,h0 9),(123,⟨23,[(0,[3,9,10,11])],[(0,[3])],[],[]⟩),(124,h0 7),(125,⟨15,[(0,[5,6,7])],[(0,[])],[],[]⟩),(129,h0 19),(130,⟨23,[(0,[2,3,4])],[(0,[2,4])],[],[]⟩),(136,h0 24),(137,⟨137,[(2,[0,1,6,7,8]),(4,[9,10,11,12,13,14]),(6,[9,11,12,13,96,97])],[(2,[6,7]),(4,[9,11,12,13]),(6,[11,12,13])],[(5,.own),(7,.own),(8,.heap)],[]⟩),(142,h0 10),(144,⟨80,[(0,[1,5,20,21,22]),(2,[1,5,6,7,8,20,21,22,27,28,29])],[(0,[5]),(2,[1,5,6,8,20,21,22])],[],[]⟩),(145,h0 50),(146,h0 7),(147,h0 26),(148,h0 21),(149,h0 14),(150,h0 9),(151,h0 13),(155,⟨23,[(0,[1,2,4,5])],[(0,[4,5])],[],[]⟩),(156,h0 9),(157,⟨54,[(1,[0,1,5,6,21,22])],[(1,[0,5,6])],[],[]⟩),(158,⟨41,[(2,[0,1,5])],[(2,[])],[],[]⟩),(159,⟨41,[(0,[0,1,5,6,13,14])],[(0,[5])],[],[]⟩),(160,⟨19,[(0,[0,1,7,8])],[(0,[])],[],[]⟩),(163,h0 9),(164,h0 84),(165,⟨135,[(3,[2,8,9,10,11,13,14,15,16]),(6,[2,8,9,10,14,15,16,17,18])],[(3,[2,8,9,10,11,13,14,15]),(6,[2,8,14,15,17,18])],[],[]⟩),(166,⟨21,[(0,[0,3])],[(0,[0,3])],[],[]⟩),(168,⟨40,[(0,[1,5,12,13,14])],[(0,[5])],[],[]⟩),(169,⟨186,[(1,[0,1,5,6,7,8]),(4,[0,1,5,6,11,12,104,105]),(7,[0,1,5,6,17,156,157])],[(1,[0,1,5,6]),(4,[0,1,5,6,11,12]),(7,[0,5,6,17])],[],[]⟩),(172,h0 25),(202,⟨73,[(2,[5,6,7])],[(2,[5,6,7])],[],[]⟩),(203,h0 10),(219,h0 6),(228,h0 13),(229,h0 32),(230,h0 11),(231,h0 7),(232,⟨28,[(0,[0,2,3]),(2,[0,2,3])],[(0,[0,2,3]),(2,[0,2,3])],[],[]⟩),(241,h0 14),(243,h0 63),(245,h0 15),(246,h0 6),(247,h0 10),(252,h0 7),(261,⟨19,[(0,[0,3])],[(0,[])],[],[]⟩),(262,h0 13),(263,h0 96),(264,h0 63),(268,h0 14),(271,h0 9),(272,⟨17,[(0,[0,3])],[(0,[0])],[],[]⟩),(273,h0 18),(274,h0 25),(275,⟨19,[(0,[0,1])],[(0,[0])],[],[]⟩),(276,h0 54),(277,h0 61),(278,h0 16),(279,h0 40),(280,h0 57),(281,⟨25,[(0,[0,2,3,4])],[(0,[2,3,4])],[],[]⟩),(282,⟨39,[(1,[1,3,4])],[(1,[1,3])],[],[]⟩),(284,h0 7),(285,h0 9),(286,h0 14),(287,⟨20,[(0,[0,3])],[(0,[])],[],[]⟩),(288,⟨40,[(1,[0,2,3,4])],[(1,[0,2,3,4])],[],[]⟩),(289,⟨206,[(2,[0,8,9,10,11]),(4,[8,9,10,11,12,13]),(6,[8,9,10,11,12,13,14,15,16]),(10,[8,9,10,11,12,13,14,19,20])],[(2,[8,9,10,11]),(4,[8,10,11,12]),(6,[8,9,10,11,12,13,14,15]),(10,[8,9,10,11,12,13,14,19])],[(5,.heap)],[]⟩),(290,⟨20,[(0,[0,3,4])],[(0,[3])],[],[]⟩),(291,⟨12,[(0,[0,1])],[(0,[0])],[],[]⟩),(292,⟨25,[(0,[0,1,5])],[(0,[5])],[],[]⟩),(293,⟨72,[(0,[0,1,5,6]),(2,[0,1,5,6,7,8])],[(0,[5]),(2,[0,1,5,6,7])],[],[]⟩),(294,h0 15),(295,⟨42,[(0,[0,1,5,6,7])],[(0,[5])],[],[]⟩),(296,⟨41,[(2,[0,1,5])],[(2,[])],[],[]⟩),(297,⟨35,[(0,[0,1,5,6,7])],[(0,[5])],[],[]⟩),(298,h0 9),(299,⟨39,[(0,[0,1,6,7,8])],[(0,[6,7])],[],[]⟩),(300,⟨21,[(0,[0])],[(0,[0])],[],[]⟩),(301,⟨77,[(0,[0,1,2,7,9,10])],[(0,[9])],[],[]⟩),(302,h0 13),(315,h0 9),(419,h0 21),(420,h0 19),(424,h0 17),(637,h0 287),(639,⟨20,[(0,[3,6,7,8])],[(0,[3])],[],[]⟩),(640,⟨182,[(2,[3,4,5,10,40,41,42]),(4,[3,5,10,13,14,58,59]),(7,[3,10,13,14,18,19,20,100,101,102])],[(2,[3,4,5,10]),(4,[3,10,13,14]),(7,[14,19,20])],[],[]⟩),(641,h0 14),(643,h0 14),(645,h0 14),(647,⟨19,[(0,[0,3])],[(0,[])],[],[]⟩),(650,⟨53,[(1,[0,1,5]),(4,[0,1,5,6])],[(1,[]),(4,[0,1,5])],[],[]⟩),(652,h0 14),(653,h0 50),(654,h0 18),(655,h0 27),(656,h0 162),(657,⟨111,[(2,[3,4,5,10,52,53])],[(2,[3,4,5,10])],[],[]⟩),(658,⟨70,[(1,[1,7,26,27,28]),(4,[1,7,8,9,26,27,28,46])],[(1,[7]),(4,[1,7,26,27,28])],[],[]⟩),(659,⟨26,[(1,[0,1,5])],[(1,[])],[],[]⟩),(660,⟨136,[(2,[4,5,6,7,12,14,15,16,17,18])],[(2,[12,15])],[],[]⟩),(661,⟨45,[(1,[5,6,19,20,21]),(3,[5,6,9,19,20,21,25,26,27])],[(1,[6]),(3,[5,6,9,19,20,21])],[],[(15,[9])]⟩),(662,⟨101,[(3,[0,6,7,34,35]),(5,[0,6,7,8,9,34,35,38,39]),(7,[0,6,7,8,9,10,11,34,35,38,39,42,43]),(9,[0,6,7,8,9,10,11,12,34,35,38,39,42,43,46,47])],[(3,[7]),(5,[0,6,7,9,34,35]),(7,[0,6,7,8,9,11,34,35,38,39]),(9,[0,6,7,8,9,10,11,34,35,38,39,42,43])],[],[(31,[9])]⟩),(663,⟨128,[(1,[2,7,8,9,35]),(3,[2,7,8,9,10,35,38,39]),(5,[2,7,8,9,10,11,12,35,38,39,42,43]),(7,[2,7,8,9,10,11,12,13,14,35,38,39,42,43,49,50]),(9,[2,7,8,9,10,11,12,13,14,15,35,38,39,42,43,49,50,53,54])],[(1,[2,9]),(3,[2,7,8,9,35]),(5,[2,7,8,9,10,12,35,38,39]),(7,[2,7,8,9,10,11,12,14,35,38,39,42,43]),(9,[2,7,8,9,10,11,12,13,14,35,38,39,42,43,49,50])],[],[(32,[12])]⟩),(664,⟨145,[(1,[1,4,32,33]),(4,[1,4,9,44,45]),(6,[1,4,9,44,45,48,49,50]),(9,[1,4,14,15,70,71]),(11,[1,4,14,15,16,17,70,71,74,75]),(13,[1,4,14,15,16,17,18,19,70,71,74,75,78])],[(1,[1,4]),(4,[1,4,9]),(6,[1,4,9,44,45]),(9,[15]),(11,[1,4,14,15,17,70,71]),(13,[1,4,14,15,16,17,19,70,71,74,75])],[],[(44,[17])]⟩),(665,⟨26,[(1,[0,1,5])],[(1,[])],[],[]⟩),(666,⟨53,[(1,[0,1,5]),(4,[0,1,5,6])],[(1,[]),(4,[0,1,5])],[],[]⟩),(667,⟨74,[(4,[1,7,49,50]),(6,[1,7,9,49,50,56,57,58])],[(4,[]),(6,[1,7,49,50])],[],[]⟩),(668,⟨90,[(2,[1,8,40,41]),(4,[1,8,9,10,40,41,50,51]),(6,[1,8,9,10,11,12,40,41,50,51,55,56,57])],[(2,[8]),(4,[1,8,10,40,41]),(6,[1,8,9,10,12,40,41,50,51])],[],[(23,[10])]⟩),(669,⟨27,[(1,[0,1,5])],[(1,[])],[],[]⟩),(670,h0 16),(671,h0 39),(672,h0 4),(673,h0 6),(674,h0 6),(675,⟨50,[(0,[4,13,14,15]),(2,[4,6,7,13,14,15,19,20,21])],[(0,[4]),(2,[4,6,7,13,14,15])],[],[(16,[12])]⟩),(676,h0 16),(677,⟨15,[(0,[5,6,7])],[(0,[])],[],[]⟩),(679,⟨106,[(2,[2,3,42,43,44])],[(2,[])],[],[]⟩),(685,h0 12),(686,h0 8),(687,h0 14),(688,⟨67,[(1,[4,5,10,31,32,33])],[(1,[4,5,10])],[],[]⟩),(689,h0 14),(690,h0 18),(691,h0 8),(692,h0 7),(693,⟨119,[(0,[1,2,3,4,8,9,10,11]),(2,[1,2,3,4,8,9,10,11,12,13,35,36,37])],[(0,[8,9]),(2,[1,2,3,4,8,9,10,11,12,13])],[],[]⟩),(694,⟨50,[(1,[6,7,27,28])],[(1,[7])],[],[]⟩),(695,⟨21,[(0,[1,8,9,10])],[(0,[])],[],[]⟩),(696,h0 22),(697,h0 8),(698,h0 8),(699,h0 6),(700,h0 16),(701,h0 12),(702,h0 13),(703,⟨38,[(0,[3,9,10,11]),(2,[3,6,9,10,11,15,16,17])],[(0,[3]),(2,[3,6,9,10,11])],[],[(11,[6])]⟩),(704,⟨66,[(0,[0,3,4,13,14]),(2,[0,3,4,5,6,13,14,17,18]),(4,[0,3,4,5,6,7,8,13,14,17,18,24,25]),(6,[0,3,4,5,6,7,8,9,13,14,17,18,24,25,28,29])],[(0,[4]),(2,[0,3,4,6,13,14]),(4,[0,3,4,5,6,8,13,14,17,18]),(6,[0,3,4,5,6,7,8,13,14,17,18,24,25])],[],[(22,[6])]⟩),(705,⟨59,[(0,[4,15,16,17]),(2,[4,7,15,16,17,21,22,23])],[(0,[4]),(2,[4,7,15,16,17])],[],[(16,[7])]⟩),(709,h0 33),(710,h0 16),(711,⟨17,[(0,[0,7,8,9])],[(0,[])],[],[]⟩),(712,h0 12),(713,h0 6),(715,⟨21,[(0,[1,8,9,10])],[(0,[])],[],[]⟩),(716,h0 18),(717,⟨21,[(0,[1,8,9,10])],[(0,[])],[],[]⟩),(718,⟨26,[(0,[0,1,8,9])],[(0,[])],[(0,.heap)],[]⟩),(719,⟨39,[(0,[0,1,2,7,8]),(2,[0,1,2,4,7,8,12,13])],[(0,[]),(2,[0,1,2,7,8])],[(0,.heap)],[]⟩),(720,⟨21,[(0,[2,4,6,9,10,11])],[(0,[4,6])],[],[]⟩),(721,⟨94,[(1,[1,4,5])],[(1,[1,4,5])],[],[]⟩),(722,h0 5),(723,h0 9),(724,h0 49),(725,h0 14),(726,h0 11),(727,h0 15),(728,h0 10),(729,⟨21,[(0,[1,8,9,10])],[(0,[])],[],[]⟩),(735,h0 10),(736,⟨21,[(0,[1,8,9,10])],[(0,[])],[],[]⟩),(737,h0 11),(738,⟨21,[(0,[1,8,9,10])],[(0,[])],[],[]⟩),(741,h0 9),(742,h0 6),(744,h0 6),(745,⟨19,[(0,[0,1,7,8])],[(0,[])],[],[]⟩),(746,h0 6),(749,⟨21,[(0,[1,8,9,10])],[(0,[])],[],[]⟩),(750,⟨21,[(0,[1,8,9,10])],[(0,[])],[],[]⟩),(751,h0 14),(752,⟨19,[(0,[0,1,7,8])],[(0,[])],[],[]⟩),(753,h0 7),(762,⟨261,[(0,[1,2,7,8,9,10,35,36]),(2,[1,2,7,8,9,10,11,12,13,35,36,39,40]),(10,[18,20,21,24,26,200])],[(0,[8,9,10]),(2,[1,2,7,8,9,10,12,13,35,36]),(10,[21])],[],[(19,[12,13])]⟩),(766,⟨31,[(1,[0,3])],[(1,[])],[],[]⟩)]) (by conv=>{lhs;reduce})
def ati:K0 ab br=true:=by decide+kernel
noncomputable def cc(i:Nat):aD:=match (Tryz.prog.funcs[BE ab i]?).bind (Gu Tryz.prog (Po br hd i)) with
 | some F=>F
 | none=>⟨[],.skip⟩
end mG
def nest:VC->List VC
 | .seq a b=>nest a++nest b
 | .cond _ a b=>nest a++nest b
 | .dE _ a=>nest a
 | .loop _ a=>[a]
 | .rf _ _ a b=>[a,b]
 | _=>[]
def pq:VC->List VC->VC×List VC
 | .seq a b,l=>(.seq (pq a l).1 (pq b (pq a l).2).1,(pq b (pq a l).2).2)
 | .cond x a b,l=>(.cond x (pq a l).1 (pq b (pq a l).2).1,(pq b (pq a l).2).2)
 | .dE i a,l=>(.dE i (pq a l).1,(pq a l).2)
 | .loop v a,l=>(.loop v (l.headD a),l.tail)
 | .rf f ps a b,l=>(.rf f ps (l.headD a) (l.tail.headD b),l.tail.tail)
 | c,l=>(c,l)
def agt(c:VC):List Nat->VC
 | []=>c
 | i::r=>agt ((nest c).getD i .skip) r
noncomputable def bU(F:aD)(p:List Nat)(l:List VC):VC:=(pq (agt F.body p) l).1
noncomputable def cY(F:aD)(l:List VC):aD:=⟨F.dX,(pq F.body l).1⟩
end VE
end
