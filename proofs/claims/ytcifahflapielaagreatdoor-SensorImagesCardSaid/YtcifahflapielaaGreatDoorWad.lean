import Derived.Lib.AppendIntMem
import Derived.OwnWalk
import Derived.WalkKit
import Derived.KernelRfl
import Derived.Attr
import Derived.Test.YtcifahflapielaaGreatDoorWac
import Derived.Test.YtcifahflapielaaGreatDoorWab
set_option linter.all false
set_option maxRecDepth 100000
open Array renaming size_replicate->uo
open Bool renaming and_eq_true->ye,false_eq_true->yL
open Go renaming FloatKind->wD,IntKind->xj,Program->xy,World->ym
open List renaming mem_cons->xx,mem_cons_of_mem->wA,mem_cons_self->wS
open Nat renaming beq->yp,blt->yP,eq_of_beq_eq_true->yh
open Option.some renaming injEq->yd
open Option renaming some->GW,none->GX
section
namespace Go.Proofs
open Go.Shelf
open Go.RowKit Go.Sort Go.Lib
set_option maxHeartbeats 6400000 in
set_option maxRecDepth 100000 in
def Tryz.aj7(u:Nat)(FN:u<18446744073709551616)(w:ym)(FM:Lib.TabIs Tryz.prog w "internal/strconv.uint64pow10" .u64 Lib.pow10Tab):
  Calls Tryz.prog 277 #[.int .u64 u,.int .i64 10] w fun e w'=>e=.returned (.string ⟨(Lib.decDigits u).toArray⟩)/\∃k os,w'=grow (w.drewN k) os:=by
 by_cases hs:u<100
 .go_enter Tryz.func277,Tryz.ntmps277
  go_wp2_with (go_at_call 306;refine (Tryz.internal_strconv_small u hs _).mono ?_;rintro e w' ⟨rfl,rfl⟩)
  go_ret
  exact⟨rfl,0,#[],by simp[World.drewN_zero]⟩
 .have zM:1<=u:=by omega
  have aEx:Lib.nDigits u<=20:=by have:=Lib.numDigits_eq u zM FN;split at this<;>omega
  have hal:Tryz.prog.arrayLen 350=24:=by simp[Program.arrayLen,Tryz.underlying350]
  have I7:∀W,(Instr.sliceAt 350 (.pointer (GW ⟨w.heap.size,0,GX⟩)) GX (GW (.int .i64 (Lib.nDigits u:Int))) GX).run Tryz.prog W=.ok (.slice (GW ⟨w.heap.size,0,GX⟩) (Lib.nDigits u) 24) W:=fun W=>by
   rw[run_sliceAt_array_h W 350 ⟨w.heap.size,0,GX⟩ (by simp[Program.arrayLen,Program.elem,Tryz.underlying350]) .i64 (Lib.nDigits u:Int) (by omega) (by rw[hal];omega)]
   go_simp
  have YS:=Lib.holds_zero0 w 350 (Lib.nDigits u) (by omega);have agJ:=Tryz.internal_strconv_formatBase10 w.heap.size 0 24 u (Array.replicate (Lib.nDigits u) 0) (w.alloc (.cells Lib.zeros24 350)) YS (by rw[uo];exact Lib.lt_pow_nDigits u) FN (by rw[uo];omega)
  rw[uo] at agJ;have HH0:=Lib.hid YS;have iu:(100:Int)<=(u:Int):=by omega
  clear YS hal
  go_enter Tryz.func277,Tryz.ntmps277
  go_wp2_with (first
   | (go_at_call 307;refine (Tryz.internal_strconv_numDigits u zM FN _ (Lib.tabIs_alloc FM _)).mono ?_;rintro e w' ⟨rfl,rfl⟩))
  go_at_call 308
  refine agJ.mono ?_;rintro e w' ⟨rfl,k,v',dk,rfl,hF⟩;have hcv:(convert 286 9 (.slice (GW ⟨w.heap.size,0,GX⟩) (Lib.nDigits u) 24)).run Tryz.prog ((putRow (fun (b:UInt8)=>Value.int .u8 (b.toNat:Int)) (w.alloc (.cells Lib.zeros24 350)) w.heap.size 0 dk).drewN k)=.ok (.string ⟨(Lib.decDigits u).toArray⟩) ((putRow (fun (b:UInt8)=>Value.int .u8 (b.toNat:Int)) (w.alloc (.cells Lib.zeros24 350)) w.heap.size 0 dk).drewN k):=by
   have h:=run_convert_bytes_back (P:=Tryz.prog) ((putRow (fun (b:UInt8)=>Value.int .u8 (b.toNat:Int)) (w.alloc (.cells Lib.zeros24 350)) w.heap.size 0 dk).drewN k) 286 9 5 ⟨w.heap.size,0,GX⟩ 24 (Lib.decDigits u) Tryz.underlying286 Tryz.underlying5 Tryz.underlying9 (fun j hj=>by
    rw[Lib.row_is_numeral hF j hj,Lib.add_plain,World.cell?_drewN]
    exact cell?_putRow (fun (b:UInt8)=>Value.int .u8 (b.toNat:Int)) _ w.heap.size 0 _ dk HH0.out (by rw[hF.size,uo]) j (by rw[hF.size];rw[Lib.decDigits_length] at hj;exact hj))
   rw[Lib.decDigits_length] at h;exact h
  go_wp2
  go_ret
  obtain⟨os,eo⟩:=Lib.fin_at w (.cells Lib.zeros24 350) dk k 0;exact⟨rfl,k,os,eo⟩
def Tryz.aj9(u:Nat)(FN:u<18446744073709551616)(w:ym)(FM:Lib.TabIs Tryz.prog w "internal/strconv.uint64pow10" .u64 Lib.pow10Tab):
  Calls Tryz.prog 215 #[.int .u64 u,.int .i64 10] w fun e w'=>e=.returned (.string ⟨(Lib.decDigits u).toArray⟩)/\∃k os,w'=grow (w.drewN k) os:=by
 go_enter Tryz.func215,Tryz.ntmps215
 go_wp2_with (go_at_call 277;refine (Tryz.aj7 u FN _ FM).mono ?_;rintro e w' ⟨rfl,k,os,rfl⟩)
 go_ret
 exact⟨rfl,k,os,rfl⟩
end Go.Proofs
end
section
namespace VE
abbrev Rq(d:Nat)(o:Op):aS:=⟨GW d,GX,o⟩
abbrev Rt(d g:Nat)(o:Op):aS:=⟨GW d,GW (g,true),o⟩
abbrev Rf(d g:Nat)(o:Op):aS:=⟨GW d,GW (g,false),o⟩
abbrev qm(d s:Nat):aS:=⟨GW d,GX,.sr (.t s)⟩
abbrev qc0(d f:Nat):aS:=⟨GW d,GX,.call .pure (.c (.fn (.f f) [] [])) []⟩
abbrev qc1(d f a:Nat):aS:=⟨GW d,GX,.call .pure (.c (.fn (.f f) [] [])) [.t a]⟩
abbrev qc2(d f a b:Nat):aS:=⟨GW d,GX,.call .pure (.c (.fn (.f f) [] [])) [.t a,.t b]⟩
abbrev qc3(d f a b c:Nat):aS:=⟨GW d,GX,.call .pure (.c (.fn (.f f) [] [])) [.t a,.t b,.t c]⟩
abbrev ql(d n s:Nat):aS:=⟨GW d,GX,.ld n false (.t s)⟩
abbrev qL(d n s:Nat):aS:=⟨GW d,GX,.ld n true (.t s)⟩
abbrev qk(d:Nat)(k:Int):aS:=⟨GW d,GX,.sr (.c (.int .i64 k))⟩
abbrev qf(d:Nat):aS:=⟨GW d,GX,.sr (.c (.bool false))⟩
abbrev qz(d:Nat):aS:=⟨GW d,GX,.sr (.c .ab)⟩
abbrev qi(d n s i:Nat):aS:=⟨GW d,GX,.a6 n (.t s) (.t i)⟩
abbrev qo(d n s:Nat):aS:=⟨GW d,GX,.off n (.t s)⟩
abbrev qn(d n s:Nat):aS:=⟨GW d,GX,.len n (.t s)⟩
abbrev qe(d n s:Nat):aS:=⟨GW d,GX,.ext n (.t s)⟩
abbrev qb(d n s:Nat):aS:=⟨GW d,GX,.box n (.t s)⟩
abbrev qs(n a b:Nat):aS:=⟨GX,GX,.st n (.t a) (.t b)⟩
abbrev qa(d a:Nat)(k:Int):aS:=⟨GW d,GX,.bin .add (.t a) (.c (.int .i64 k))⟩
abbrev qN(d a:Nat)(k:Int):aS:=⟨GW d,GX,.bin .neq (.t a) (.c (.int .i64 k))⟩
abbrev qE(d a:Nat)(k:Int):aS:=⟨GW d,GX,.bin .eql (.t a) (.c (.int .i64 k))⟩
abbrev qA(d a b:Nat):aS:=⟨GW d,GX,.bin .add (.t a) (.t b)⟩
abbrev qT(d a b:Nat):aS:=⟨GW d,GX,.bin .lss (.t a) (.t b)⟩
abbrev qp(d c b:Nat):aS:=⟨GW d,GX,.pick (.t c) (.c (.bool true)) (.t b)⟩
abbrev qq(d c b:Nat):aS:=⟨GW d,GX,.pick (.t c) (.t b) (.c (.bool false))⟩
abbrev X.k(n:Int):X:=.c (.int .i64 n)
abbrev X.u(n:Int):X:=.c (.int .u64 n)
abbrev X.F(n:Nat):X:=.c (.fn (.f n) [] [])
abbrev X.s(l:List Nat):X:=.c (.str l)
abbrev AV.i(n:Int):AV:=.int .i64 n
abbrev Op.q(f:Nat)(l:List X):Op:=.call .pure (.c (.fn (.f f) [] [])) l
abbrev Op.y(o:Go.BinOp)(a:Nat)(n:Int):Op:=.bin o (.t a) (.c (.int .i64 n))
abbrev Op.z(o:Go.BinOp)(a b:Nat):Op:=.bin o (.t a) (.t b)
abbrev Op.m(a:Nat):Op:=.sr (.t a)
abbrev VC.g(o:List aS)(b:VC):VC:=.seq (.oR o) b
abbrev VC.q(a b:VC):VC:=.seq a b
abbrev VC.e(o:List aS):VC:=.seq (.oR o) .ret
abbrev VC.i(t:Nat)(a:VC):VC:=.cond (.t t) a .skip
abbrev VC.h(o:List aS)(t:Nat)(a b:VC):VC:=.seq (.seq (.oR o) (.cond (.t t) a .skip)) b
end VE
end
section
namespace VE
inductive Tr(α:Type) where
 | l
 | n (k:Nat) (v:α) (a b:Tr α)
def Tr.find{α:Type}:Tr α->Nat->Option α
 | .l,_=>GX
 | .n k v a b,i=>bif yp i k then GW v else bif yP i k then a.find i else b.find i
end VE
end
section
namespace VE
open Go (IntKind FloatKind)
def QC:xj->Nat
 | .i8=>0 | .i16=>1 | .i32=>2 | .i64=>3 | .u8=>4 | .u16=>5 | .u32=>6 | .u64=>7
def YT:Int->Int->Bool
 | .ofNat a,.ofNat b=>yp a b
 | .negSucc a,.negSucc b=>yp a b
 | _,_=>false
def SM:Bool->Bool->Bool
 | true,true | false,false=>true
 | _,_=>false
def YU:wD->wD->Bool
 | .f32,.f32 | .f64,.f64=>true
 | _,_=>false
mutual
def ib:AV->AV->Bool
 | .int k a,.int k' b=>yp (QC k) (QC k')&&YT a b
 | .bool a,.bool b=>SM a b
 | .ay k a,.ay k' b=>YU k k'&&yp a b
 | .bT k a b,.bT k' c d=>YU k k'&&(yp a c&&yp b d)
 | .str a,.str b=>cN a b
 | .mT,.mT=>true
 | .bN a,.bN b=>nT a b
 | .ab,.ab=>true
 | .ap e n a,.ap e' n' b=>SM e e'&&(yp n n'&&nT a b)
 | .cL e s n a,.cL e' s' n' b=>SM e e'&&(yp s s'&&(yp n n'&&nT a b))
 | .fn (.f g) a b,.fn (.f g') a' b'=>yp g g'&&(nT a a'&&nT b b')
 | .jH,.jH=>true
 | .lK,.lK=>true
 | .lL a b,.lL a' b'=>nT a a'&&nT b b'
 | .agg a,.agg b=>nT a b
 | .av a,.av b=>nT a b
 | .undef,.undef=>true
 | _,_=>false
def nT:List AV->List AV->Bool
 | [],[]=>true
 | a::x,b::y=>ib a b&&nT x y
 | _,_=>false
end
def hI:Int->Nat
 | .ofNat n=>n
 | .negSucc n=>n+n
def hS:List Nat->Nat
 | []=>1
 | b::r=>(b+257*hS r)%65521
mutual
def hV:AV->Nat
 | .int _ n=>hI n
 | .bool b=>bif b then 1 else 2
 | .ay _ n=>n
 | .bT _ n k=>n+k
 | .str s=>hS s
 | .ap _ n cs=>n+hL cs
 | .agg cs=>hL cs
 | .av cs=>hL cs
 | _=>5
def hL:List AV->Nat
 | []=>7
 | v::r=>(hV v+263*hL r)%65521
end
abbrev Te:=Tr (List AV×AV)
abbrev bn:=List Te
def ER(h:Nat)(aw:List AV):bn->Option AV
 | []=>GX
 | t::l=>match t.find h with
  | some (a,r)=>bif nT a aw then GW r else ER h aw l
  | none=>ER h aw l
def ae8(aw:List AV)(l:bn):Option AV:=ER (hL aw) aw l
abbrev Te.o(h:Nat)(a:List AV)(r:AV):Te:=.n h (a,r) .l .l
abbrev Te.m(h:Nat)(a:List AV)(r:AV)(x y:Te):Te:=.n h (a,r) x y
def ES(n:Nat):List (Tr bn)->Option bn
 | []=>GX
 | t::r=>match t.find n with
  | none=>ES n r
  | some l=>match ES n r with | none=>GW l | some m=>GW (l++m)
def Rk(L:Lib)(T:List (Tr bn))(ex:Nat):Lib:=
 ⟨fun i=>match L.pure i with
  | some sp=>GW sp
  | none=>bif yp i ex then GX else match ES i T with | some l=>GW (fun aw=>ae8 aw l) | none=>GX,L.heap⟩
def MN(P:aG)(L:Lib)(f:Nat):Te->Bool
 | .l=>true
 | .n _ e x y=>(match Yt P L 100000 f e.1 with | some r'=>ib r' e.2 | none=>false)&&(MN P L f x&&MN P L f y)
def QD(P:aG)(L:Lib)(f:Nat):bn->Bool
 | []=>true
 | t::l=>MN P L f t&&QD P L f l
def cD(P:aG)(L:Lib)(T:List (Tr bn)):List (Nat×bn)->Bool
 | []=>true
 | (f,l)::C=>QD P (Rk L T f) f l&&cD P L T C
end VE
end
section
namespace VE
open Go
section
variable {L:Lib}{aw:List AV}{f k:Nat}
def amA{a b:xj}(h:yp (QC a) (QC b)=true):a=b:=by
 cases a<;>cases b<;>first | rfl | (exact absurd h (by decide))
def aoC{a b:Int}(h:YT a b=true):a=b:=by
 cases a<;>cases b<;>simp only[YT,reduceCtorEq] at h<;>rw[yh h]
def UR{a b:Bool}(h:SM a b=true):a=b:=by
 cases a<;>cases b<;>first | rfl | (exact absurd h (by decide))
def acM{a b:wD}(h:YU a b=true):a=b:=by
 cases a<;>cases b<;>first | rfl | (exact absurd h (by decide))
mutual
def acN:∀(a b:AV),ib a b=true->a=b
 | .int k a,b,h=>by
  cases b<;>simp only[ib,ye,yL] at h
  rw[amA h.1,aoC h.2]
 | .bool a,b,h=>by
  cases b<;>simp only[ib,yL] at h
  rw[UR h]
 | .ay k a,b,h=>by
  cases b<;>simp only[ib,ye,yL] at h
  rw[acM h.1,yh h.2]
 | .bT k a c,b,h=>by
  cases b<;>simp only[ib,ye,yL] at h
  rw[acM h.1,yh h.2.1,yh h.2.2]
 | .str a,b,h=>by
  cases b<;>simp only[ib,yL] at h
  rw[UM h]
 | .mT,b,h=>by cases b<;>simp only[ib,yL] at h;rfl
 | .ptr _ _,b,h=>by cases b<;>simp only[ib,yL] at h
 | .bN a,b,h=>by
  cases b<;>simp only[ib,yL] at h
  rw[ze _ _ h]
 | .ab,b,h=>by cases b<;>simp only[ib,yL] at h;rfl
 | .ap e n a,b,h=>by
  cases b<;>simp only[ib,ye,yL] at h
  rw[UR h.1,yh h.2.1,ze _ _ h.2.2]
 | .cL e s n a,b,h=>by
  cases b<;>simp only[ib,ye,yL] at h
  rw[UR h.1,yh h.2.1,yh h.2.2.1,ze _ _ h.2.2.2]
 | .aq _ _ _,b,h=>by cases b<;>simp only[ib,yL] at h
 | .fn (.f g) x y,b,h=>by
  cases b<;>try (simp only[ib,yL] at h;done)
  rename_i fr _ _;cases fr<;>simp only[ib,ye,yL] at h
  rw[yh h.1,ze _ _ h.2.1,ze _ _ h.2.2]
 | .fn (.y _) _ _,b,h=>by cases b<;>simp only[ib,yL] at h
 | .jH,b,h=>by cases b<;>simp only[ib,yL] at h;rfl
 | .lK,b,h=>by cases b<;>simp only[ib,yL] at h;rfl
 | .map _,b,h=>by cases b<;>simp only[ib,yL] at h
 | .lL x y,b,h=>by
  cases b<;>simp only[ib,ye,yL] at h
  rw[ze _ _ h.1,ze _ _ h.2]
 | .it _,b,h=>by cases b<;>simp only[ib,yL] at h
 | .agg a,b,h=>by
  cases b<;>simp only[ib,yL] at h
  rw[ze _ _ h]
 | .av a,b,h=>by
  cases b<;>simp only[ib,yL] at h
  rw[ze _ _ h]
 | .undef,b,h=>by cases b<;>simp only[ib,yL] at h;rfl
def ze:∀(a b:List AV),nT a b=true->a=b
 | [],b,h=>by cases b<;>simp only[nT,yL] at h;rfl
 | x::a,b,h=>by
  cases b<;>simp only[nT,ye,yL] at h
  rw[acN _ _ h.1,ze _ _ h.2]
end
def Tr.Has{α:Type}(x:α):Tr α->Prop
 | .l=>False
 | .n _ v a b=>v=x\/a.Has x\/b.Has x
def Tr.US{α:Type}{h:Nat}{x:α}:∀{t:Tr α},t.find h=GW x->t.Has x
 | .l,hf=>by simp[Tr.find] at hf
 | .n k v a b,hf=>by
  simp only[Tr.find] at hf
  cases h1:yp h k with
  | true=>rw[h1] at hf;simp only[yC,yd] at hf;exact .inl hf
  | false=>
   rw[h1] at hf
   cases h2:yP h k with
   | true=>rw[h2] at hf;exact .inr (.inl (Tr.US hf))
   | false=>rw[h2] at hf;exact .inr (.inr (Tr.US hf))
def SN(aw:List AV)(r:AV)(l:bn):Prop:=∃t,t∈l/\t.Has (aw,r)
def abf{h:Nat}{aw:List AV}{r:AV}:∀{l:bn},ER h aw l=GW r->SN aw r l
 | [],hf=>by simp[ER] at hf
 | t::l,hf=>by
  have tail:ER h aw l=GW r->SN aw r (t::l):=fun q=>by
   have⟨t',h1,h2⟩:=abf q;exact⟨t',wA _ h1,h2⟩
  simp only[ER] at hf
  split at hf
  .rename_i a q he
   cases hb:nT a aw with
   | true=>
    rw[hb] at hf;simp only[yC,yd] at hf;rw[ze _ _ hb,hf] at he;exact⟨t,wS,Tr.US he⟩
   | false=>
    grind
  .grind
def amB{r:AV}{l:bn}(h:ae8 aw l=GW r):SN aw r l:=abf h
def mZ(O:bz)(f:Nat)(l:bn):Prop:=∀aw r,SN aw r l->eR O f aw r
def mZ.nil{O:bz}:mZ O f []:=fun _ _ h=>by have⟨t,h,_⟩:=h;cases h
def mZ.c9{O:bz}{a b:bn}(ha:mZ O f a)(hb:mZ O f b):mZ O f (a++b):=fun v r h=>by
 have⟨t,h,h2⟩:=h;exact (List.mem_append.1 h).elim (fun h=>ha v r ⟨t,h,h2⟩) (fun h=>hb v r ⟨t,h,h2⟩)
def mZ.one{O:bz}{r:AV}(h:eR O f aw r):mZ O f [.n k (aw,r) .l .l]:=fun v q hm=>by
 have⟨t,h1,h2⟩:=hm;rcases xx.1 h1 with e | e
 .subst e;rcases h2 with h2 | h2 | h2
  .grind
  .exact h2.elim
  .exact h2.elim
 .cases e
def Tr.mB{α:Type}(p:Nat->α->Prop):Tr α->Prop
 | .l=>True
 | .n k v a b=>p k v/\a.mB p/\b.mB p
def Tr.jG{α:Type}{p:Nat->α->Prop}:Tr.mB p .l:=trivial
def Tr.kP{α:Type}{p:Nat->α->Prop}{v:α}{a b:Tr α}(h:p k v)(ha:a.mB p)(hb:b.mB p):Tr.mB p (.n k v a b):=⟨h,ha,hb⟩
def Tr.EB{α:Type}{p:Nat->α->Prop}{i:Nat}{v:α}:∀{t:Tr α},t.mB p->t.find i=GW v->p i v
 | .l,_,h=>by simp[Tr.find] at h
 | .n k w a b,ha,h=>by
  simp only[Tr.find] at h
  cases hb:yp i k with
  | true=>
   rw[hb] at h;simp only[yC,yd] at h;subst h;rw[yh hb];exact ha.1
  | false=>
   rw[hb] at h
   cases hc:yP i k with
   | true=>rw[hc] at h;exact Tr.EB ha.2.1 h
   | false=>rw[hc] at h;exact Tr.EB ha.2.2 h
abbrev bz.Bt(O:bz)(L:Lib):bz:={O with aI:=L}
def acO{O:bz}{m:Mp}{S:Nat->Prop}{w:ym}{id:Nat}{o:Obj}:fJ (O.Bt L) m S w id o↔fJ O m S w id o:=by
 cases o<;>exact Iff.rfl
def acP{O:bz}{m:Mp}{S:Nat->Prop}{w:ym}{hp:Hp}{ct:Nat}:aT (O.Bt L) m S w hp ct↔aT O m S w hp ct:=
 ⟨fun h=>⟨fun id o p h1 h2=>acO.1 (h.obj id o p h1 h2),h.lt,h.inj,h.slt,h.blt,h.low,h.mX,h.gJ,h.aH⟩,
  fun h=>⟨fun id o p h1 h2=>acO.2 (h.obj id o p h1 h2),h.lt,h.inj,h.slt,h.blt,h.low,h.mX,h.gJ,h.aH⟩⟩
def ab0{O:bz}{n:Nat}{hp:Hp}{ct:Nat}{v:AV}{au:Hp}{aX:Nat}(h:Df O n hp ct aw v au aX):Df (O.Bt L) n hp ct aw v au aX:=by
 intro m S w args h1 h2;have post:∀e w',Bo O m S w hp ct v au aX e w'->Bo (O.Bt L) m S w hp ct v au aX e w':=by
  rintro e w' ⟨u,m',S',k1,k2,k3,k4,k5⟩;exact⟨u,m',S',k1,acP.2 k2,k3,k4,k5⟩
 exact CU.mono (h m S w args (acP.1 h1) h2) post
def iq(O:bz)(T:List (Tr bn)):Prop:=∀t,t∈T->t.mB (mZ O)
def iq.nil{O:bz}:iq O []:=fun _ h=>by cases h
def iq.cons{O:bz}{t:Tr bn}{T:List (Tr bn)}(h:t.mB (mZ O))(hT:iq O T):iq O (t::T):=fun u hu=>by
 rcases xx.1 hu with e | e
 .grind
 .exact hT u e
def Uq{O:bz}{n:Nat}:∀{T:List (Tr bn)} {l:bn},iq O T->ES n T=GW l->mZ O n l
 | [],_,_,h=>by simp[ES] at h
 | t::T,l,hT,h=>by
  have SO:iq O T:=fun u hu=>hT u (wA _ hu)
  simp only[ES] at h
  split at h
  .exact Uq SO h
  .rename_i l1 h1;have c1:=Tr.EB (hT t wS) h1
   split at h
   .grind
   .rename_i m h2;simp only[yd] at h;subst h;exact mZ.c9 c1 (Uq SO h2)
def adW{O:bz}(hO:iH O){T:List (Tr bn)}(hT:iq O T)(ex:Nat):iH (O.Bt (Rk O.aI T ex)) where
 hint:=hO.hint
 mixed:=hO.mixed
 prog:=hO.prog
 aI n sp aw r h hs:=by
  simp only[Rk] at h
  cases hl:O.aI.pure n with
  | some SP=>
   simp only[hl,yd] at h;subst h;exact hO.aI n _ aw r hl hs
  | none=>
   simp only[hl] at h
   cases hb:yp n ex with
   | true=>rw[hb] at h;cases h
   | false=>
    rw[hb] at h;simp only[yX] at h
    cases hf:ES n T with
    | none=>simp[hf] at h
    | some l=>
     simp only[hf,yd] at h;subst h;exact Uq hT hf aw r (amB hs)
 Il n sp hp ct aw v au aX h hs:=ab0 (hO.Il n sp hp ct aw v au aX h hs)
def Ur{O:bz}{L:Lib}(hO:iH (O.Bt L)){f:Nat}{aw:List AV}{r:AV}:∀{t:Te},MN O.prog L f t=true->t.Has (aw,r)->eR O f aw r
 | .l,_,h=>h.elim
 | .n k e x y,h,hm=>by
  simp only[MN,ye] at h;rcases hm with e1 | hm | hm
  .subst e1;have h1:=h.1
   split at h1
   .rename_i r' hr;have e:r'=r:=acN _ _ h1;rw[<-e];exact sound hO hr
   .cases h1
  .exact Ur hO h.2.1 hm
  .exact Ur hO h.2.2 hm
def abg{O:bz}{L:Lib}(hO:iH (O.Bt L)){f:Nat}:∀{l:bn},QD O.prog L f l=true->mZ O f l
 | [],_=>mZ.nil
 | t::l,h=>by
  simp only[QD,ye] at h;intro v q hm;have⟨t',h1,h2⟩:=hm;rcases xx.1 h1 with e | e
  .subst e;exact Ur hO h.1 h2
  .exact abg hO h.2 v q ⟨t',e,h2⟩
def chunk_ok{O:bz}(hO:iH O){T:List (Tr bn)}(hT:iq O T):∀{C:List (Nat×bn)},cD O.prog O.aI T C=true->∀f l,(f,l)∈C->mZ O f l
 | [],_,f,l,h=>by cases h
 | (g,l')::C,h,f,l,hm=>by
  simp only[cD,ye] at h;rcases xx.1 hm with e | hm
  .injection e with e1 e2
   subst e1;subst e2;exact abg (adW hO hT f) h.1
  .exact chunk_ok hO hT h.2 f l hm
def aN{α:Type}{p:Nat->α->Prop}{v:α}{a b:Tr α}(h:p k v)(ha:a.mB p)(hb:b.mB p):Tr.mB p (.n k v a b):=Tr.kP h ha hb
def aL{α:Type}{p:Nat->α->Prop}:Tr.mB p .l:=Tr.jG
end
end VE
end
section
namespace VE
open Go
structure HD where
 n:Nat
 live:List (Nat×List Nat)
 out:List (Nat×List Nat)
 mode:List (Nat×Md)
 fz:List (Nat×List Nat)
 deriving Inhabited
def Mt{α:Type}(i:Nat):List (Nat×α)->Option α
 | []=>GX
 | (j,a)::l=>bif yp j i then GW a else Mt i l
def asQ(b9:Nat->Option Nat)(d:HD):Hint where
 n:=d.n
 b9:=b9
 live:=fun l=>match Mt l d.live with | some x=>x | none=>[]
 out:=fun l=>Mt l d.out
 mode:=fun k=>match Mt k d.mode with | some x=>x | none=>.pure
 fz:=fun i=>match Mt i d.fz with | some x=>x | none=>[]
def QE(b9:Tr Nat)(t:Tr HD)(i:Nat):Hint:=asQ b9.find (match t.find i with | some d=>d | none=>⟨0,[],[],[],[]⟩)
def BU(t:Tr Nat)(i:Nat):Nat:=match t.find i with | some f=>f | none=>0
def Mu(ah:Tr Nat):Tr Nat->Bool
 | .l=>true
 | .n f g a b=>yp (BU ah g) f&&(Mu ah a&&Mu ah b)
def T8{ah:Tr Nat}:∀{t:Tr Nat},Mu ah t=true->t.mB (fun f g=>BU ah g=f)
 | .l,_=>trivial
 | .n f g a b,h=>by
  simp only[Mu,ye] at h;exact⟨yh h.1,T8 h.2.1,T8 h.2.2⟩
def VG(P:xy)(ah:Tr Nat)(b9:Tr Nat)(hd:Tr HD)(i:Nat)(F:aA):Prop:=
 ∃fn,P.funcs[BU ah i]? =GW fn/\Hl P (QE b9 hd i) fn=GW F/\fn.name≠ "runtime.NumGoroutine"
def amC{P:xy}{ah b9:Tr Nat}{hd:Tr HD}{i:Nat}{F:aA}(h:(P.funcs[BU ah i]?).bind (Hl P (QE b9 hd i))=GW F)(h2:(P.funcs[BU ah i]?).map (fun fn=>decide (fn.name= "runtime.NumGoroutine"))=GW false):VG P ah b9 hd i F:=by
 unfold VG
 cases hq:P.funcs[BU ah i]? with
 | none=>rw[hq] at h;cases h
 | some fn=>
  rw[hq] at h h2;refine⟨fn,rfl,h,fun e=>?_⟩;simp only[Option.map_some,yd,e,yy] at h2;cases h2
end VE
end
section
namespace VE
def ao{α:Type}{a b:α}(_:a=b):α:=b
attribute [go_sem] ao
def Jg{α:Type}:Nat->List (Nat×α)->Tr α
 | 0,_=>.l
 | n+1,l=>match l.drop (l.length/2) with
  | []=>.l
  | a::r=>.n a.1 a.2 (Jg n (l.take (l.length/2))) (Jg n r)
namespace mC
open Go
open Go.Proofs
def fl:List (Nat×Nat):=[(29,47),(46,63),(49,60),(50,71),(62,69),(69,57),(70,62),(71,127),(73,139),(74,61),(86,144),(88,67),(98,137),(99,140),(100,136),(101,135),(102,123),(107,150),(108,68),(109,147),(110,148),(111,133),(117,134),(118,194),(119,138),(122,149),(123,151),(124,222),(125,221),(128,219),(129,220),(130,203),(135,213),(136,207),(137,214),(138,215),(139,216),(140,217),(141,218),(142,206),(143,205),(144,209),(145,208),(146,146),(147,190),(148,204),(149,248),(150,249),(151,229),(152,224),(153,225),(154,226),(155,227),(156,265),(157,210),(158,211),(159,212),(160,228),(162,283),(163,245),(164,268),(165,273),(166,270),(167,274),(168,275),(169,276),(170,281),(171,269),(172,246),(173,271),(174,312),(175,293),(193,199),(194,200),(202,244),(203,170),(206,300),(214,303),(217,266),(218,267),(228,291),(229,292),(230,250),(231,242),(232,243),(236,304),(238,301),(239,302),(241,180),(242,294),(243,295),(244,332),(245,258),(246,257),(247,329),(248,299),(249,330),(250,331),(251,298),(252,260),(261,73),(262,240),(263,152),(264,78),(265,81),(266,82),(267,80),(268,158),(269,85),(271,79),(272,230),(273,231),(274,155),(275,186),(276,154),(277,39),(278,157),(279,156),(280,108),(281,109),(282,159),(283,160),(284,163),(285,162),(286,164),(287,289),(288,235),(289,187),(290,234),(291,110),(292,111),(293,239),(294,188),(295,236),(296,237),(297,238),(298,185),(299,262),(300,263),(301,264),(302,290),(355,84),(389,233),(429,153),(430,232),(637,8),(640,21),(641,24),(643,26),(645,28),(650,33),(652,40),(653,41),(654,42),(655,43),(656,44),(657,45),(658,46),(659,48),(660,49),(661,35),(662,36),(663,9),(664,10),(665,50),(666,51),(667,52),(668,53),(669,17),(670,86),(671,87),(672,89),(673,90),(674,66),(675,91),(676,93),(677,92),(679,95),(685,88),(686,70),(687,113),(688,112),(689,114),(690,115),(691,116),(692,117),(693,118),(694,120),(695,119),(696,121),(697,124),(698,125),(699,126),(700,54),(701,101),(702,102),(703,56),(704,55),(705,103),(706,104),(707,105),(708,106),(709,59),(710,58),(711,64),(712,65),(713,128),(714,129),(715,130),(716,166),(717,165),(718,171),(719,172),(720,145),(721,173),(722,174),(723,176),(724,189),(725,122),(726,191),(727,192),(728,132),(729,131),(730,179),(731,181),(732,182),(733,183),(734,184),(735,142),(736,141),(737,196),(738,195),(739,201),(740,202),(741,167),(742,168),(743,247),(744,175),(745,251),(746,193),(747,259),(748,261),(749,143),(750,197),(751,198),(752,241),(753,169),(759,3),(768,15),(779,6),(780,7),(781,11),(782,12),(783,13),(784,14),(785,16),(789,83),(794,72),(795,76),(796,75),(797,74),(798,77),(800,161)]
def ah:Tr Nat:=ao (a:=Jg 9 fl) (by conv=>{lhs;reduce})
def ins(x:Nat×Nat):List (Nat×Nat)->List (Nat×Nat)
 | []=>[x]
 | y::r=>bif yP x.1 y.1 then x::y::r else y::ins x r
def inv:List (Nat×Nat)->List (Nat×Nat)
 | []=>[]
 | p::r=>ins (p.2,p.1) (inv r)
def b9:Tr Nat:=ao (a:=Jg 9 (inv fl)) (by conv=>{lhs;reduce})
def h0(n:Nat):HD:=⟨n,[],[],[],[]⟩
def hd:Tr HD:=ao (a:=Jg 9 [(29,⟨26,[(1,[0,1,5])],[(1,[])],[],[]⟩),(46,h0 16),(49,h0 16),(50,h0 9),(62,h0 22),(69,h0 6),(70,h0 9),(71,h0 16),(73,h0 8),(74,h0 34),(86,h0 76),(88,⟨23,[(0,[3,9,10,11])],[(0,[3])],[],[]⟩),(98,h0 13),(99,⟨69,[(1,[3,4,5,6]),(6,[6,10,11])],[(1,[3,6]),(6,[10])],[],[]⟩),(100,h0 66),(101,h0 34),(102,h0 9),(107,h0 11),(108,h0 6),(110,⟨41,[(0,[0,2,3,4])],[(0,[2,3,4])],[],[]⟩),(111,h0 6),(117,h0 5),(118,h0 29),(119,h0 67),(122,h0 9),(123,⟨23,[(0,[3,9,10,11])],[(0,[3])],[],[]⟩),(124,h0 7),(125,⟨15,[(0,[5,6,7])],[(0,[])],[],[]⟩),(129,h0 19),(130,⟨23,[(0,[2,3,4])],[(0,[2,4])],[],[]⟩),(136,h0 24),(137,⟨137,[(2,[0,1,6,7,8]),(4,[9,10,11,12,13,14]),(6,[9,11,12,13,96,97])],[(2,[6,7]),(4,[9,11,12,13]),(6,[11,12,13])],[(5,.own),(7,.own),(8,.heap)],[]⟩),(142,h0 10),(144,⟨80,[(0,[1,5,20,21,22]),(2,[1,5,6,7,8,20,21,22,27,28,29])],[(0,[5]),(2,[1,5,6,8,20,21,22])],[],[]⟩),(145,h0 50),(146,h0 7),(147,h0 26),(148,h0 21),(149,h0 14),(150,h0 9),(151,h0 13),(155,⟨23,[(0,[1,2,4,5])],[(0,[4,5])],[],[]⟩),(156,h0 9),(157,⟨54,[(1,[0,1,5,6,21,22])],[(1,[0,5,6])],[],[]⟩),(158,⟨41,[(2,[0,1,5])],[(2,[])],[],[]⟩),(159,⟨41,[(0,[0,1,5,6,13,14])],[(0,[5])],[],[]⟩),(160,⟨19,[(0,[0,1,7,8])],[(0,[])],[],[]⟩),(163,h0 9),(164,h0 84),(165,⟨135,[(3,[2,8,9,10,11,13,14,15,16]),(6,[2,8,9,10,14,15,16,17,18])],[(3,[2,8,9,10,11,13,14,15]),(6,[2,8,14,15,17,18])],[],[]⟩),(166,⟨21,[(0,[0,3])],[(0,[0,3])],[],[]⟩),(168,⟨40,[(0,[1,5,12,13,14])],[(0,[5])],[],[]⟩),(169,⟨186,[(1,[0,1,5,6,7,8]),(4,[0,1,5,6,11,12,104,105]),(7,[0,1,5,6,17,156,157])],[(1,[0,1,5,6]),(4,[0,1,5,6,11,12]),(7,[0,5,6,17])],[],[]⟩),(172,h0 25),(202,⟨73,[(2,[5,6,7])],[(2,[5,6,7])],[],[]⟩),(203,h0 10),(228,h0 13),(229,h0 32),(230,h0 11),(231,h0 7),(232,⟨28,[(0,[0,2,3]),(2,[0,2,3])],[(0,[0,2,3]),(2,[0,2,3])],[],[]⟩),(241,h0 14),(243,h0 63),(245,h0 15),(246,h0 6),(247,h0 10),(252,h0 7),(261,⟨19,[(0,[0,3])],[(0,[])],[],[]⟩),(262,h0 13),(263,h0 96),(264,h0 63),(265,h0 6),(266,h0 9),(267,h0 55),(268,h0 14),(269,h0 14),(271,h0 9),(272,⟨17,[(0,[0,3])],[(0,[0])],[],[]⟩),(273,h0 18),(274,h0 25),(275,⟨19,[(0,[0,1])],[(0,[0])],[],[]⟩),(276,h0 54),(277,h0 61),(278,h0 16),(279,h0 40),(280,h0 57),(281,⟨25,[(0,[0,2,3,4])],[(0,[2,3,4])],[],[]⟩),(282,⟨39,[(1,[1,3,4])],[(1,[1,3])],[],[]⟩),(283,h0 13),(284,h0 7),(285,h0 9),(286,h0 14),(287,⟨20,[(0,[0,3])],[(0,[])],[],[]⟩),(288,⟨40,[(1,[0,2,3,4])],[(1,[0,2,3,4])],[],[]⟩),(289,⟨206,[(2,[0,8,9,10,11]),(4,[8,9,10,11,12,13]),(6,[8,9,10,11,12,13,14,15,16]),(10,[8,9,10,11,12,13,14,19,20])],[(2,[8,9,10,11]),(4,[8,10,11,12]),(6,[8,9,10,11,12,13,14,15]),(10,[8,9,10,11,12,13,14,19])],[(5,.heap)],[]⟩),(290,⟨20,[(0,[0,3,4])],[(0,[3])],[],[]⟩),(291,⟨12,[(0,[0,1])],[(0,[0])],[],[]⟩),(292,⟨25,[(0,[0,1,5])],[(0,[5])],[],[]⟩),(293,⟨72,[(0,[0,1,5,6]),(2,[0,1,5,6,7,8])],[(0,[5]),(2,[0,1,5,6,7])],[],[]⟩),(294,h0 15),(295,⟨42,[(0,[0,1,5,6,7])],[(0,[5])],[],[]⟩),(296,⟨41,[(2,[0,1,5])],[(2,[])],[],[]⟩),(297,⟨35,[(0,[0,1,5,6,7])],[(0,[5])],[],[]⟩),(298,h0 9),(299,⟨39,[(0,[0,1,6,7,8])],[(0,[6,7])],[],[]⟩),(300,⟨21,[(0,[0])],[(0,[0])],[],[]⟩),(301,⟨77,[(0,[0,1,2,7,9,10])],[(0,[9])],[],[]⟩),(302,h0 13),(355,h0 5),(389,⟨27,[(1,[0,1,5])],[(1,[5])],[],[]⟩),(429,h0 21),(430,⟨23,[(0,[0,4]),(2,[0,4])],[(0,[0,4]),(2,[0,4])],[],[]⟩),(637,h0 287),(640,⟨182,[(2,[3,4,5,10,40,41,42]),(4,[3,5,10,13,14,58,59]),(7,[3,10,13,14,18,19,20,100,101,102])],[(2,[3,4,5,10]),(4,[3,10,13,14]),(7,[14,19,20])],[],[]⟩),(641,h0 14),(643,h0 14),(645,h0 14),(650,⟨53,[(1,[0,1,5]),(4,[0,1,5,6])],[(1,[]),(4,[0,1,5])],[],[]⟩),(652,h0 14),(653,h0 50),(654,h0 18),(655,h0 27),(656,h0 162),(657,⟨111,[(2,[3,4,5,10,52,53])],[(2,[3,4,5,10])],[],[]⟩),(658,⟨70,[(1,[1,7,26,27,28]),(4,[1,7,8,9,26,27,28,46])],[(1,[7]),(4,[1,7,26,27,28])],[],[]⟩),(659,⟨26,[(1,[0,1,5])],[(1,[])],[],[]⟩),(660,⟨136,[(2,[4,5,6,7,12,14,15,16,17,18])],[(2,[12,15])],[],[]⟩),(661,⟨45,[(1,[5,6,19,20,21]),(3,[5,6,9,19,20,21,25,26,27])],[(1,[6]),(3,[5,6,9,19,20,21])],[],[(15,[9])]⟩),(662,⟨101,[(3,[0,6,7,34,35]),(5,[0,6,7,8,9,34,35,38,39]),(7,[0,6,7,8,9,10,11,34,35,38,39,42,43]),(9,[0,6,7,8,9,10,11,12,34,35,38,39,42,43,46,47])],[(3,[7]),(5,[0,6,7,9,34,35]),(7,[0,6,7,8,9,11,34,35,38,39]),(9,[0,6,7,8,9,10,11,34,35,38,39,42,43])],[],[(31,[9])]⟩),(663,⟨128,[(1,[2,7,8,9,35]),(3,[2,7,8,9,10,35,38,39]),(5,[2,7,8,9,10,11,12,35,38,39,42,43]),(7,[2,7,8,9,10,11,12,13,14,35,38,39,42,43,49,50]),(9,[2,7,8,9,10,11,12,13,14,15,35,38,39,42,43,49,50,53,54])],[(1,[2,9]),(3,[2,7,8,9,35]),(5,[2,7,8,9,10,12,35,38,39]),(7,[2,7,8,9,10,11,12,14,35,38,39,42,43]),(9,[2,7,8,9,10,11,12,13,14,35,38,39,42,43,49,50])],[],[(32,[12])]⟩),(664,⟨145,[(1,[1,4,32,33]),(4,[1,4,9,44,45]),(6,[1,4,9,44,45,48,49,50]),(9,[1,4,14,15,70,71]),(11,[1,4,14,15,16,17,70,71,74,75]),(13,[1,4,14,15,16,17,18,19,70,71,74,75,78])],[(1,[1,4]),(4,[1,4,9]),(6,[1,4,9,44,45]),(9,[15]),(11,[1,4,14,15,17,70,71]),(13,[1,4,14,15,16,17,19,70,71,74,75])],[],[(44,[17])]⟩),(665,⟨26,[(1,[0,1,5])],[(1,[])],[],[]⟩),(666,⟨53,[(1,[0,1,5]),(4,[0,1,5,6])],[(1,[]),(4,[0,1,5])],[],[]⟩),(667,⟨74,[(4,[1,7,49,50]),(6,[1,7,9,49,50,56,57,58])],[(4,[]),(6,[1,7,49,50])],[],[]⟩),(668,⟨90,[(2,[1,8,40,41]),(4,[1,8,9,10,40,41,50,51]),(6,[1,8,9,10,11,12,40,41,50,51,55,56,57])],[(2,[8]),(4,[1,8,10,40,41]),(6,[1,8,9,10,12,40,41,50,51])],[],[(23,[10])]⟩),(669,⟨27,[(1,[0,1,5])],[(1,[])],[],[]⟩),(670,h0 16),(671,h0 39),(672,h0 4),(673,h0 6),(674,h0 6),(675,⟨50,[(0,[4,13,14,15]),(2,[4,6,7,13,14,15,19,20,21])],[(0,[4]),(2,[4,6,7,13,14,15])],[],[(16,[12])]⟩),(676,h0 16),(677,⟨15,[(0,[5,6,7])],[(0,[])],[],[]⟩),(679,⟨106,[(2,[2,3,42,43,44])],[(2,[])],[],[]⟩),(685,h0 12),(686,h0 8),(687,h0 14),(688,⟨67,[(1,[4,5,10,31,32,33])],[(1,[4,5,10])],[],[]⟩),(689,h0 14),(690,h0 18),(691,h0 8),(692,h0 7),(693,⟨119,[(0,[1,2,3,4,8,9,10,11]),(2,[1,2,3,4,8,9,10,11,12,13,35,36,37])],[(0,[8,9]),(2,[1,2,3,4,8,9,10,11,12,13])],[],[]⟩),(694,⟨50,[(1,[6,7,27,28])],[(1,[7])],[],[]⟩),(695,⟨21,[(0,[1,8,9,10])],[(0,[])],[],[]⟩),(696,h0 22),(697,h0 8),(698,h0 8),(699,h0 6),(700,h0 16),(701,h0 12),(702,h0 13),(703,⟨38,[(0,[3,9,10,11]),(2,[3,6,9,10,11,15,16,17])],[(0,[3]),(2,[3,6,9,10,11])],[],[(11,[6])]⟩),(704,⟨66,[(0,[0,3,4,13,14]),(2,[0,3,4,5,6,13,14,17,18]),(4,[0,3,4,5,6,7,8,13,14,17,18,24,25]),(6,[0,3,4,5,6,7,8,9,13,14,17,18,24,25,28,29])],[(0,[4]),(2,[0,3,4,6,13,14]),(4,[0,3,4,5,6,8,13,14,17,18]),(6,[0,3,4,5,6,7,8,13,14,17,18,24,25])],[],[(22,[6])]⟩),(705,⟨59,[(0,[4,15,16,17]),(2,[4,7,15,16,17,21,22,23])],[(0,[4]),(2,[4,7,15,16,17])],[],[(16,[7])]⟩),(709,h0 33),(710,h0 16),(711,⟨17,[(0,[0,7,8,9])],[(0,[])],[],[]⟩),(712,h0 12),(713,h0 6),(715,⟨21,[(0,[1,8,9,10])],[(0,[])],[],[]⟩),(716,h0 18),(717,⟨21,[(0,[1,8,9,10])],[(0,[])],[],[]⟩),(718,⟨26,[(0,[0,1,8,9])],[(0,[])],[(0,.heap)],[]⟩),(719,⟨39,[(0,[0,1,2,7,8]),(2,[0,1,2,4,7,8,12,13])],[(0,[]),(2,[0,1,2,7,8])],[(0,.heap)],[]⟩),(720,⟨21,[(0,[2,4,6,9,10,11])],[(0,[4,6])],[],[]⟩),(721,⟨94,[(1,[1,4,5])],[(1,[1,4,5])],[],[]⟩),(722,h0 5),(723,h0 9),(724,h0 49),(725,h0 14),(726,h0 11),(727,h0 15),(728,h0 10),(729,⟨21,[(0,[1,8,9,10])],[(0,[])],[],[]⟩),(735,h0 10),(736,⟨21,[(0,[1,8,9,10])],[(0,[])],[],[]⟩),(737,h0 11),(738,⟨21,[(0,[1,8,9,10])],[(0,[])],[],[]⟩),(741,h0 9),(742,h0 6),(744,h0 6),(745,⟨19,[(0,[0,1,7,8])],[(0,[])],[],[]⟩),(746,h0 6),(749,⟨21,[(0,[1,8,9,10])],[(0,[])],[],[]⟩),(750,⟨21,[(0,[1,8,9,10])],[(0,[])],[],[]⟩),(751,h0 14),(752,⟨19,[(0,[0,1,7,8])],[(0,[])],[],[]⟩),(753,h0 7),(759,⟨91,[(3,[5,6,7,8,9,10,11,12,51,52,53]),(5,[5,6,7,8,9,10,11,12,51,52,53,57,58,59])],[(3,[5,6,7,8,9,10,11,12]),(5,[5,6,7,8,9,10,11,12,51,52,53])],[],[(18,[16])]⟩),(768,⟨19,[(0,[0,7,8,9])],[(0,[0])],[],[]⟩),(779,⟨19,[(1,[0,3])],[(1,[])],[],[]⟩),(780,⟨53,[(0,[1,3]),(3,[1,3,4]),(6,[1,3,4,5])],[(0,[]),(3,[1,3]),(6,[1,3,4])],[],[]⟩),(781,⟨25,[(1,[0,5])],[(1,[])],[],[]⟩),(782,⟨52,[(1,[1,3]),(4,[1,3,4])],[(1,[]),(4,[1,3])],[],[]⟩),(783,⟨162,[(0,[2,3,4,5,6]),(2,[2,3,4,5,6,7]),(4,[2,3,4,5,6,7,8,9]),(6,[2,3,4,5,6,7,8,9,10,11,12]),(8,[2,3,4,5,6,7,8,9,10,11,12,13])],[(0,[2,5]),(2,[2,3,4,5,6]),(4,[2,3,4,5,6,7,8]),(6,[2,3,4,5,6,7,8,9,10,11]),(8,[2,3,4,5,6,7,8,9,10,11,12])],[],[(25,[8])]⟩),(784,⟨109,[(0,[1,4,5,6]),(3,[1,4,5,7,8]),(5,[1,4,5,7,8,9,10])],[(0,[1,4,5]),(3,[7]),(5,[1,4,5,7,8,9])],[],[(22,[9])]⟩),(785,⟨42,[(0,[2,3,5]),(3,[2,3,5,6])],[(0,[]),(3,[2,3,5])],[],[]⟩),(789,⟨19,[(0,[0,3,4])],[(0,[3])],[],[]⟩),(794,h0 18),(795,⟨48,[(0,[0,3,4]),(2,[0,3,4,5,6])],[(0,[3]),(2,[0,3,4,5])],[],[(11,[5])]⟩),(796,⟨60,[(0,[0,2,3,4]),(2,[0,2,3,4,5,6,7])],[(0,[2,3]),(2,[0,2,3,4,5,6])],[],[(10,[5,6])]⟩),(797,⟨124,[(0,[1,2,3,4,5]),(2,[1,2,3,4,5,6,7,8]),(4,[1,2,3,4,5,6,7,8,9,10,11]),(6,[1,2,3,4,5,6,7,8,9,10,11,12])],[(0,[2,4]),(2,[1,2,3,4,5,6,7]),(4,[1,2,3,4,5,6,7,8,9,10]),(6,[1,2,3,4,5,6,7,8,9,10,11])],[],[(21,[6,7])]⟩),(798,h0 16),(800,⟨18,[(0,[0,3,4])],[(0,[3])],[],[]⟩)]) (by conv=>{lhs;reduce})
def asR:Mu ah b9=true:=by decide+kernel
noncomputable def cc(i:Nat):aA:=match (Tryz.prog.funcs[BU ah i]?).bind (Hl Tryz.prog (QE b9 hd i)) with
 | some F=>F
 | none=>⟨[],.skip⟩
end mC
def nest:VC->List VC
 | .seq a b=>nest a++nest b
 | .cond _ a b=>nest a++nest b
 | .ef _ a=>nest a
 | .loop _ a=>[a]
 | .rf _ _ a b=>[a,b]
 | _=>[]
def oW:VC->List VC->VC×List VC
 | .seq a b,l=>(.seq (oW a l).1 (oW b (oW a l).2).1,(oW b (oW a l).2).2)
 | .cond x a b,l=>(.cond x (oW a l).1 (oW b (oW a l).2).1,(oW b (oW a l).2).2)
 | .ef i a,l=>(.ef i (oW a l).1,(oW a l).2)
 | .loop v a,l=>(.loop v (l.headD a),l.tail)
 | .rf f ps a b,l=>(.rf f ps (l.headD a) (l.tail.headD b),l.tail.tail)
 | c,l=>(c,l)
def agK(c:VC):List Nat->VC
 | []=>c
 | i::r=>agK ((nest c).getD i .skip) r
noncomputable def a7(F:aA)(p:List Nat)(l:List VC):VC:=(oW (agK F.body p) l).1
noncomputable def cf(F:aA)(l:List VC):aA:=⟨F.eG,(oW F.body l).1⟩
end VE
end
