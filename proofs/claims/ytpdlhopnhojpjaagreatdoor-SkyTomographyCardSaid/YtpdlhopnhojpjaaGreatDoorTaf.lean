import Derived.Lib.AppendIntMem
import Derived.OwnWalk
import Derived.WalkKit
import Derived.Test.YtpdlhopnhojpjaaGreatDoorProg
import Derived.KernelRfl
import Derived.Attr
import Derived.Test.YtpdlhopnhojpjaaGreatDoorTae
import Derived.Test.YtpdlhopnhojpjaaGreatDoorTaa
import Derived.Test.YtpdlhopnhojpjaaGreatDoorTad
set_option linter.all false
set_option maxRecDepth 100000
open Array renaming size_replicate→vZ
open Bool renaming and_eq_true→yi,false_eq_true→yN
open Go renaming FloatKind→ug,IntKind→xc,Program→xa,World→ym
open List renaming mem_cons→wJ,mem_cons_of_mem→xY,mem_cons_self→wM
open Nat renaming beq→yz,blt→yQ,eq_of_beq_eq_true→yt
open Option.some renaming injEq→ye
section
namespace Go.Proofs
open Go.Shelf
open Go.RowKit Go.Sort Go.Lib
set_option maxHeartbeats 6400000 in
set_option maxRecDepth 100000 in
def Tryz.alh (u:Nat) (Eb:u<18446744073709551616) (w:ym)
  (Ea:Lib.TabIs Tryz.prog w "internal/strconv.uint64pow10" .u64 Lib.pow10Tab):
  Calls Tryz.prog 260 #[.int .u64 u,.int .i64 10] w fun e w'=>e= .returned (.string ⟨(Lib.decDigits u).toArray⟩)/\∃k os,w'=grow (w.drewN k) os:=by
 by_cases hs:u<100
 ·go_enter Tryz.func260,Tryz.ntmps260
  go_wp2_with (go_at_call 280;refine (Tryz.internal_strconv_small u hs _).mono ?_;rintro e w' ⟨rfl,rfl⟩)
  go_ret
  exact ⟨rfl,0,#[],by simp [World.drewN_zero]⟩
 ·have sd:1<=u:=by omega
  have aEg:Lib.nDigits u<=20:=by have:=Lib.numDigits_eq u sd Eb;split at this<;>omega
  have hal:Tryz.prog.arrayLen 299=24:=by simp [Program.arrayLen,Tryz.underlying299]
  have A9:∀W,(Instr.sliceAt 299 (.pointer (some ⟨w.heap.size,0,none⟩)) none (some (.int .i64 (Lib.nDigits u:Int))) none).run Tryz.prog W= .ok (.slice (some ⟨w.heap.size,0,none⟩) (Lib.nDigits u) 24) W:=fun W=>by
   rw [run_sliceAt_array_h W 299 ⟨w.heap.size,0,none⟩ (by simp [Program.arrayLen,Program.elem,Tryz.underlying299]) .i64 (Lib.nDigits u:Int) (by omega) (by rw [hal];omega)]
   go_simp
  have Xj:=Lib.holds_zero0 w 299 (Lib.nDigits u) (by omega);have ahy:=Tryz.internal_strconv_formatBase10 w.heap.size 0 24 u (Array.replicate (Lib.nDigits u) 0) (w.alloc (.cells Lib.zeros24 299)) Xj (by rw [vZ];exact Lib.lt_pow_nDigits u) Eb (by rw [vZ];omega)
  rw [vZ] at ahy;have HH0:=Lib.hid Xj;have iu:(100:Int)<=(u:Int):=by omega
  clear Xj hal
  go_enter Tryz.func260,Tryz.ntmps260
  go_wp2_with (first
   | (go_at_call 281;refine (Tryz.internal_strconv_numDigits u sd Eb _ (Lib.tabIs_alloc Ea _)).mono ?_;rintro e w' ⟨rfl,rfl⟩))
  go_at_call 282
  refine ahy.mono ?_;rintro e w' ⟨rfl,k,v',dk,rfl,hF⟩;have hcv:(convert 262 9 (.slice (some ⟨w.heap.size,0,none⟩) (Lib.nDigits u) 24)).run Tryz.prog ((putRow (fun (b:UInt8)=>Value.int .u8 (b.toNat:Int)) (w.alloc (.cells Lib.zeros24 299)) w.heap.size 0 dk).drewN k)= .ok (.string ⟨(Lib.decDigits u).toArray⟩) ((putRow (fun (b:UInt8)=>Value.int .u8 (b.toNat:Int)) (w.alloc (.cells Lib.zeros24 299)) w.heap.size 0 dk).drewN k):=by
   have h:=run_convert_bytes_back (P:=Tryz.prog) ((putRow (fun (b:UInt8)=>Value.int .u8 (b.toNat:Int)) (w.alloc (.cells Lib.zeros24 299)) w.heap.size 0 dk).drewN k) 262 9 5 ⟨w.heap.size,0,none⟩ 24 (Lib.decDigits u) Tryz.underlying262 Tryz.underlying5 Tryz.underlying9 (fun j hj=>by
    rw [Lib.row_is_numeral hF j hj,Lib.add_plain,World.cell?_drewN]
    exact cell?_putRow (fun (b:UInt8)=>Value.int .u8 (b.toNat:Int)) _ w.heap.size 0 _ dk HH0.out (by rw [hF.size,vZ]) j (by rw [hF.size];rw [Lib.decDigits_length] at hj;exact hj))
   rw [Lib.decDigits_length] at h;exact h
  go_wp2
  go_ret
  obtain ⟨os,eo⟩:=Lib.fin_at w (.cells Lib.zeros24 299) dk k 0;exact ⟨rfl,k,os,eo⟩
def Tryz.ali (u:Nat) (Eb:u<18446744073709551616) (w:ym)
  (Ea:Lib.TabIs Tryz.prog w "internal/strconv.uint64pow10" .u64 Lib.pow10Tab):
  Calls Tryz.prog 232 #[.int .u64 u,.int .i64 10] w fun e w'=>e= .returned (.string ⟨(Lib.decDigits u).toArray⟩)/\∃k os,w'=grow (w.drewN k) os:=by
 go_enter Tryz.func232,Tryz.ntmps232
 go_wp2_with (go_at_call 260;refine (Tryz.alh u Eb _ Ea).mono ?_;rintro e w' ⟨rfl,k,os,rfl⟩)
 go_ret
 exact ⟨rfl,k,os,rfl⟩
end Go.Proofs
end
section
namespace VE
abbrev Rq (d:Nat) (o:Op):bf:=⟨some d,none,o⟩
abbrev Rt (d g:Nat) (o:Op):bf:=⟨some d,some (g,true),o⟩
abbrev Rf (d g:Nat) (o:Op):bf:=⟨some d,some (g,false),o⟩
abbrev qm (d s:Nat):bf:=⟨some d,none,.rW (.t s)⟩
abbrev qc0 (d f:Nat):bf:=⟨some d,none,.call .pure (.c (.fn (.f f) [] [])) []⟩
abbrev qc1 (d f a:Nat):bf:=⟨some d,none,.call .pure (.c (.fn (.f f) [] [])) [.t a]⟩
abbrev qc2 (d f a b:Nat):bf:=⟨some d,none,.call .pure (.c (.fn (.f f) [] [])) [.t a,.t b]⟩
abbrev qc3 (d f a b c:Nat):bf:=⟨some d,none,.call .pure (.c (.fn (.f f) [] [])) [.t a,.t b,.t c]⟩
abbrev qc4 (d f a b c e:Nat):bf:=⟨some d,none,.call .pure (.c (.fn (.f f) [] [])) [.t a,.t b,.t c,.t e]⟩
abbrev ql (d n s:Nat):bf:=⟨some d,none,.ld n false (.t s)⟩
abbrev qL (d n s:Nat):bf:=⟨some d,none,.ld n true (.t s)⟩
abbrev qk (d:Nat) (k:Int):bf:=⟨some d,none,.rW (.c (.int .i64 k))⟩
abbrev qf (d:Nat):bf:=⟨some d,none,.rW (.c (.bool false))⟩
abbrev qz (d:Nat):bf:=⟨some d,none,.rW (.c .ab)⟩
abbrev qi (d n s i:Nat):bf:=⟨some d,none,.bi n (.t s) (.t i)⟩
abbrev qo (d n s:Nat):bf:=⟨some d,none,.off n (.t s)⟩
abbrev qn (d n s:Nat):bf:=⟨some d,none,.len n (.t s)⟩
abbrev qe (d n s:Nat):bf:=⟨some d,none,.ext n (.t s)⟩
abbrev qb (d n s:Nat):bf:=⟨some d,none,.box n (.t s)⟩
abbrev qs (n a b:Nat):bf:=⟨none,none,.st n (.t a) (.t b)⟩
abbrev qa (d a:Nat) (k:Int):bf:=⟨some d,none,.bin .add (.t a) (.c (.int .i64 k))⟩
abbrev qN (d a:Nat) (k:Int):bf:=⟨some d,none,.bin .neq (.t a) (.c (.int .i64 k))⟩
abbrev qE (d a:Nat) (k:Int):bf:=⟨some d,none,.bin .eql (.t a) (.c (.int .i64 k))⟩
abbrev qA (d a b:Nat):bf:=⟨some d,none,.bin .add (.t a) (.t b)⟩
abbrev qT (d a b:Nat):bf:=⟨some d,none,.bin .lss (.t a) (.t b)⟩
abbrev qp (d c b:Nat):bf:=⟨some d,none,.pick (.t c) (.c (.bool true)) (.t b)⟩
abbrev qq (d c b:Nat):bf:=⟨some d,none,.pick (.t c) (.t b) (.c (.bool false))⟩
abbrev X.k (n:Int):X:=.c (.int .i64 n)
abbrev X.u (n:Int):X:=.c (.int .u64 n)
abbrev X.F (n:Nat):X:=.c (.fn (.f n) [] [])
abbrev X.s (l:List Nat):X:=.c (.str l)
abbrev AV.i (n:Int):AV:=.int .i64 n
abbrev Op.q (f:Nat) (l:List X):Op:=.call .pure (.c (.fn (.f f) [] [])) l
abbrev Op.y (o:Go.BinOp) (a:Nat) (n:Int):Op:=.bin o (.t a) (.c (.int .i64 n))
abbrev Op.z (o:Go.BinOp) (a b:Nat):Op:=.bin o (.t a) (.t b)
abbrev Op.m (a:Nat):Op:=.rW (.t a)
abbrev VC.g (o:List bf) (b:VC):VC:=.seq (.mh o) b
abbrev VC.q (a b:VC):VC:=.seq a b
abbrev VC.e (o:List bf):VC:=.seq (.mh o) .ret
abbrev VC.i (t:Nat) (a:VC):VC:=.cond (.t t) a .skip
abbrev VC.h (o:List bf) (t:Nat) (a b:VC):VC:=.seq (.seq (.mh o) (.cond (.t t) a .skip)) b
end VE
end
section
namespace VE
inductive Tr (α:Type) where
 | l
 | n (k:Nat) (v:α) (a b:Tr α)
def Tr.find {α:Type}:Tr α->Nat->Option α
 | .l,_=>none
 | .n k v a b,i=>bif yz i k then some v else bif yQ i k then a.find i else b.find i
end VE
end
section
namespace VE
open Go (IntKind FloatKind)
def Pe:xc->Nat
 | .i8=>0 | .i16=>1 | .i32=>2 | .i64=>3 | .u8=>4 | .u16=>5 | .u32=>6 | .u64=>7
def Xk:Int->Int->Bool
 | .ofNat a,.ofNat b=>yz a b
 | .negSucc a,.negSucc b=>yz a b
 | _,_=>false
def QO:Bool->Bool->Bool
 | true,true | false,false=>true
 | _,_=>false
def eqF:ug->ug->Bool
 | .f32,.f32 | .f64,.f64=>true
 | _,_=>false
mutual
def il:AV->AV->Bool
 | .int k a,.int k' b=>yz (Pe k) (Pe k')&&Xk a b
 | .bool a,.bool b=>QO a b
 | .dD k a,.dD k' b=>eqF k k'&&yz a b
 | .str a,.str b=>de a b
 | .mH,.mH=>true
 | .aO a,.aO b=>nn a b
 | .ab,.ab=>true
 | .aE e n a,.aE e' n' b=>QO e e'&&(yz n n'&&nn a b)
 | .bV e s n a,.bV e' s' n' b=>QO e e'&&(yz s s'&&(yz n n'&&nn a b))
 | .fn (.f g) a b,.fn (.f g') a' b'=>yz g g'&&(nn a a'&&nn b b')
 | .jy,.jy=>true
 | .lh,.lh=>true
 | .ko a b,.ko a' b'=>nn a a'&&nn b b'
 | .agg a,.agg b=>nn a b
 | .az a,.az b=>nn a b
 | .undef,.undef=>true
 | _,_=>false
def nn:List AV->List AV->Bool
 | [],[]=>true
 | a::x,b::y=>il a b&&nn x y
 | _,_=>false
end
def hI:Int->Nat
 | .ofNat n=>n
 | .negSucc n=>n+n
def hS:List Nat->Nat
 | []=>1
 | b::r=>(b+257*hS r)%65521
mutual
def hV:AV->Nat
 | .int _ n=>hI n
 | .bool b=>bif b then 1 else 2
 | .dD _ n=>n
 | .str s=>hS s
 | .aE _ n cs=>n+hL cs
 | .agg cs=>hL cs
 | .az cs=>hL cs
 | _=>5
def hL:List AV->Nat
 | []=>7
 | v::r=>(hV v+263*hL r)%65521
end
abbrev Te:=Tr (List AV×AV)
abbrev aF:=List Te
def DE (h:Nat) (ax:List AV):aF->Option AV
 | []=>none
 | t::l=>match t.find h with
  | some (a,r)=>bif nn a ax then some r else DE h ax l
  | none=>DE h ax l
def ae7 (ax:List AV) (l:aF):Option AV:=DE (hL ax) ax l
abbrev Te.o (h:Nat) (a:List AV) (r:AV):Te:= .n h (a,r) .l .l
abbrev Te.m (h:Nat) (a:List AV) (r:AV) (x y:Te):Te:= .n h (a,r) x y
def DF (n:Nat):List (Tr aF)->Option aF
 | []=>none
 | t::r=>match t.find n with
  | none=>DF n r
  | some l=>match DF n r with | none=>some l | some m=>some (l++m)
def PO (L:Lib) (T:List (Tr aF)) (ex:Nat):Lib:=
 ⟨fun i=>match L.pure i with
  | some sp=>some sp
  | none=>bif yz i ex then none else match DF i T with | some l=>some (fun ax=>ae7 ax l) | none=>none,L.heap⟩
def K0 (P:aM) (L:Lib) (f:Nat):Te->Bool
 | .l=>true
 | .n _ e x y=>(match WV P L 100000 f e.1 with | some r'=>il r' e.2 | none=>false)&&(K0 P L f x&&K0 P L f y)
def Pf (P:aM) (L:Lib) (f:Nat):aF->Bool
 | []=>true
 | t::l=>K0 P L f t&&Pf P L f l
def js (P:aM) (L:Lib) (T:List (Tr aF)):List (Nat×aF)->Bool
 | []=>true
 | (f,l)::C=>Pf P (PO L T f) f l&&js P L T C
end VE
end
section
namespace VE
open Go
def anA {a b:xc} (h:yz (Pe a) (Pe b)=true):a=b:=by
 cases a<;>cases b<;>first | rfl | (exact absurd h (by decide))
def apA {a b:Int} (h:Xk a b=true):a=b:=by
 cases a<;>cases b<;>simp only [Xk,reduceCtorEq] at h<;>rw [yt h]
def Tb {a b:Bool} (h:QO a b=true):a=b:=by
 cases a<;>cases b<;>first | rfl | (exact absurd h (by decide))
def apB {a b:ug} (h:eqF a b=true):a=b:=by
 cases a<;>cases b<;>first | rfl | (exact absurd h (by decide))
mutual
def aa6:∀(a b:AV),il a b=true->a=b
 | .int k a,b,h=>by
  cases b<;>simp only [il,yi,yN] at h
  rw [anA h.1,apA h.2]
 | .bool a,b,h=>by
  cases b<;>simp only [il,yN] at h
  rw [Tb h]
 | .dD k a,b,h=>by
  cases b<;>simp only [il,yi,yN] at h
  rw [apB h.1,yt h.2]
 | .str a,b,h=>by
  cases b<;>simp only [il,yN] at h
  rw [S6 h]
 | .mH,b,h=>by cases b<;>simp only [il,yN] at h;rfl
 | .ptr _ _,b,h=>by cases b<;>simp only [il,yN] at h
 | .aO a,b,h=>by
  cases b<;>simp only [il,yN] at h
  rw [rG _ _ h]
 | .ab,b,h=>by cases b<;>simp only [il,yN] at h;rfl
 | .aE e n a,b,h=>by
  cases b<;>simp only [il,yi,yN] at h
  rw [Tb h.1,yt h.2.1,rG _ _ h.2.2]
 | .bV e s n a,b,h=>by
  cases b<;>simp only [il,yi,yN] at h
  rw [Tb h.1,yt h.2.1,yt h.2.2.1,rG _ _ h.2.2.2]
 | .ak _ _ _,b,h=>by cases b<;>simp only [il,yN] at h
 | .fn (.f g) x y,b,h=>by
  cases b<;>try (simp only [il,yN] at h;done)
  rename_i fr _ _;cases fr<;>simp only [il,yi,yN] at h
  rw [yt h.1,rG _ _ h.2.1,rG _ _ h.2.2]
 | .fn (.y _) _ _,b,h=>by cases b<;>simp only [il,yN] at h
 | .jy,b,h=>by cases b<;>simp only [il,yN] at h;rfl
 | .lh,b,h=>by cases b<;>simp only [il,yN] at h;rfl
 | .map _,b,h=>by cases b<;>simp only [il,yN] at h
 | .ko x y,b,h=>by
  cases b<;>simp only [il,yi,yN] at h
  rw [rG _ _ h.1,rG _ _ h.2]
 | .it _,b,h=>by cases b<;>simp only [il,yN] at h
 | .agg a,b,h=>by
  cases b<;>simp only [il,yN] at h
  rw [rG _ _ h]
 | .az a,b,h=>by
  cases b<;>simp only [il,yN] at h
  rw [rG _ _ h]
 | .undef,b,h=>by cases b<;>simp only [il,yN] at h;rfl
def rG:∀(a b:List AV),nn a b=true->a=b
 | [],b,h=>by cases b<;>simp only [nn,yN] at h;rfl
 | x::a,b,h=>by
  cases b<;>simp only [nn,yi,yN] at h
  rw [aa6 _ _ h.1,rG _ _ h.2]
end
def Tr.Has {α:Type} (x:α):Tr α->Prop
 | .l=>False
 | .n _ v a b=>v=x\/a.Has x\/b.Has x
def Tr.Tc {α:Type} {h:Nat} {x:α}:∀{t:Tr α},t.find h=some x->t.Has x
 | .l,hf=>by simp [Tr.find] at hf
 | .n k v a b,hf=>by
  simp only [Tr.find] at hf
  cases h1:yz h k with
  | true=>rw [h1] at hf;simp only [yD,ye] at hf;exact .inl hf
  | false=>
   rw [h1] at hf
   cases h2:yQ h k with
   | true=>rw [h2] at hf;exact .inr (.inl (Tr.Tc hf))
   | false=>rw [h2] at hf;exact .inr (.inr (Tr.Tc hf))
def QP (ax:List AV) (r:AV) (l:aF):Prop:=∃t,t∈l/\t.Has (ax,r)
def Zq {h:Nat} {ax:List AV} {r:AV}:∀{l:aF},DE h ax l=some r->QP ax r l
 | [],hf=>by simp [DE] at hf
 | t::l,hf=>by
  have tail:DE h ax l=some r->QP ax r (t::l):=fun q=>by
   obtain ⟨t',h1,h2⟩:=Zq q;exact ⟨t',xY _ h1,h2⟩
  simp only [DE] at hf
  split at hf
  ·rename_i a q he
   cases hb:nn a ax with
   | true=>
    rw [hb] at hf;simp only [yD,ye] at hf;rw [rG _ _ hb,hf] at he;exact ⟨t,wM,Tr.Tc he⟩
   | false=>
    grind
  ·grind
def anB {ax:List AV} {r:AV} {l:aF} (h:ae7 ax l=some r):QP ax r l:=Zq h
def mb (O:bl) (f:Nat) (l:aF):Prop:=∀ax r,QP ax r l->fc O f ax r
def mb.nil {O:bl} {f:Nat}:mb O f []:=fun _ _ h=>by obtain ⟨t,h,_⟩:=h;cases h
def mb.cX {O:bl} {f:Nat} {a b:aF} (ha:mb O f a) (hb:mb O f b):mb O f (a++b):=fun v r h=>by
 obtain ⟨t,h,h2⟩:=h;exact (List.mem_append.1 h).elim (fun h=>ha v r ⟨t,h,h2⟩) (fun h=>hb v r ⟨t,h,h2⟩)
def mb.one {O:bl} {f k:Nat} {ax:List AV} {r:AV} (h:fc O f ax r):mb O f [.n k (ax,r) .l .l]:=fun v q hm=>by
 obtain ⟨t,h1,h2⟩:=hm;rcases wJ.1 h1 with e | e
 ·subst e;rcases h2 with h2 | h2 | h2
  ·grind
  ·exact h2.elim
  ·exact h2.elim
 ·cases e
def Tr.mQ {α:Type} (p:Nat->α->Prop):Tr α->Prop
 | .l=>True
 | .n k v a b=>p k v/\a.mQ p/\b.mQ p
def Tr.j8 {α:Type} {p:Nat->α->Prop}:Tr.mQ p .l:=trivial
def Tr.lX {α:Type} {p:Nat->α->Prop} {k:Nat} {v:α} {a b:Tr α} (h:p k v) (ha:a.mQ p) (hb:b.mQ p):Tr.mQ p (.n k v a b):=⟨h,ha,hb⟩
def Tr.Dn {α:Type} {p:Nat->α->Prop} {i:Nat} {v:α}:∀{t:Tr α},t.mQ p->t.find i=some v->p i v
 | .l,_,h=>by simp [Tr.find] at h
 | .n k w a b,ha,h=>by
  simp only [Tr.find] at h
  cases hb:yz i k with
  | true=>
   rw [hb] at h;simp only [yD,ye] at h;subst h;rw [yt hb];exact ha.1
  | false=>
   rw [hb] at h
   cases hc:yQ i k with
   | true=>rw [hc] at h;exact Tr.Dn ha.2.1 h
   | false=>rw [hc] at h;exact Tr.Dn ha.2.2 h
abbrev bl.Af (O:bl) (L:Lib):bl:={O with aS:=L}
def aa7 {O:bl} {L:Lib} {m:Mp} {S:Nat->Prop} {w:ym} {id:Nat} {o:Obj}:fH (O.Af L) m S w id o↔fH O m S w id o:=by
 cases o<;>exact Iff.rfl
def aa8 {O:bl} {L:Lib} {m:Mp} {S:Nat->Prop} {w:ym} {hp:Hp} {ct:Nat}:aV (O.Af L) m S w hp ct↔aV O m S w hp ct:=
 ⟨fun h=>⟨fun id o p h1 h2=>aa7.1 (h.obj id o p h1 h2),h.lt,h.inj,h.slt,h.blt,h.low,h.lj,h.gH,h.aU⟩,
  fun h=>⟨fun id o p h1 h2=>aa7.2 (h.obj id o p h1 h2),h.lt,h.inj,h.slt,h.blt,h.low,h.lj,h.gH,h.aU⟩⟩
def aaf {O:bl} {L:Lib} {n:Nat} {hp:Hp} {ct:Nat} {ax:List AV} {v:AV} {ah:Hp} {aK:Nat} (h:B8 O n hp ct ax v ah aK):B8 (O.Af L) n hp ct ax v ah aK:=by
 intro m S w args h1 h2;have post:∀e w',zY O m S w hp ct v ah aK e w'->zY (O.Af L) m S w hp ct v ah aK e w':=by
  rintro e w' ⟨u,m',S',k1,k2,k3,k4,k5⟩;exact ⟨u,m',S',k1,aa8.2 k2,k3,k4,k5⟩
 exact BO.mono (h m S w args (aa8.1 h1) h2) post
def eY (O:bl) (T:List (Tr aF)):Prop:=∀t,t∈T->t.mQ (mb O)
def eY.nil {O:bl}:eY O []:=fun _ h=>by cases h
def eY.cons {O:bl} {t:Tr aF} {T:List (Tr aF)} (h:t.mQ (mb O)) (hT:eY O T):eY O (t::T):=fun u hu=>by
 rcases wJ.1 hu with e | e
 ·grind
 ·exact hT u e
def SD {O:bl} {n:Nat}:∀{T:List (Tr aF)} {l:aF},eY O T->DF n T=some l->mb O n l
 | [],_,_,h=>by simp [DF] at h
 | t::T,l,hT,h=>by
  have hT':eY O T:=fun u hu=>hT u (xY _ hu)
  simp only [DF] at h
  split at h
  ·exact SD hT' h
  ·rename_i l1 h1;have c1:=Tr.Dn (hT t wM) h1
   split at h
   ·grind
   ·rename_i m h2;simp only [ye] at h;subst h;exact mb.cX c1 (SD hT' h2)
def acn {O:bl} (hO:eU O) {T:List (Tr aF)} (hT:eY O T) (ex:Nat):eU (O.Af (PO O.aS T ex)) where
 hint:=hO.hint
 mixed:=hO.mixed
 prog:=hO.prog
 aS n sp ax r h hs:=by
  simp only [PO] at h
  cases hl:O.aS.pure n with
  | some QQ=>
   simp only [hl,ye] at h;subst h;exact hO.aS n _ ax r hl hs
  | none=>
   simp only [hl] at h
   cases hb:yz n ex with
   | true=>rw [hb] at h;cases h
   | false=>
    rw [hb] at h;simp only [yW] at h
    cases hf:DF n T with
    | none=>simp [hf] at h
    | some l=>
     simp only [hf,ye] at h;subst h;exact SD hT hf ax r (anB hs)
 GA n sp hp ct ax v ah aK h hs:=aaf (hO.GA n sp hp ct ax v ah aK h hs)
def SE {O:bl} {L:Lib} (hO:eU (O.Af L)) {f:Nat} {ax:List AV} {r:AV}:∀{t:Te},K0 O.prog L f t=true->t.Has (ax,r)->fc O f ax r
 | .l,_,h=>h.elim
 | .n k e x y,h,hm=>by
  simp only [K0,yi] at h;rcases hm with e1 | hm | hm
  ·subst e1;have h1:=h.1
   split at h1
   ·rename_i r' hr;have e:r'=r:=aa6 _ _ h1;rw [<-e];exact sound hO hr
   ·cases h1
  ·exact SE hO h.2.1 hm
  ·exact SE hO h.2.2 hm
def Zr {O:bl} {L:Lib} (hO:eU (O.Af L)) {f:Nat}:∀{l:aF},Pf O.prog L f l=true->mb O f l
 | [],_=>mb.nil
 | t::l,h=>by
  simp only [Pf,yi] at h;intro v q hm;obtain ⟨t',h1,h2⟩:=hm;rcases wJ.1 h1 with e | e
  ·subst e;exact SE hO h.1 h2
  ·exact Zr hO h.2 v q ⟨t',e,h2⟩
def chunk_ok {O:bl} (hO:eU O) {T:List (Tr aF)} (hT:eY O T):∀{C:List (Nat×aF)},js O.prog O.aS T C=true->∀f l,(f,l)∈C->mb O f l
 | [],_,f,l,h=>by cases h
 | (g,l')::C,h,f,l,hm=>by
  simp only [js,yi] at h;rcases wJ.1 hm with e | hm
  ·injection e with e1 e2
   subst e1;subst e2;exact Zr (acn hO hT f) h.1
  ·exact chunk_ok hO hT h.2 f l hm
def lO {O:bl} {P:aM} {L:Lib} (hO:eU O) (hp:O.prog=P) (hl:O.aS=L) {T:List (Tr aF)} (hT:eY O T) {C:List (Nat×aF)} (h:js P L T C=true) (i:Nat) {f:Nat} {l:aF} (hi:C[i]? =some (f,l)):mb O f l:=by
 subst hp;subst hl;exact chunk_ok hO hT h f l (List.mem_of_getElem? hi)
def aN {α:Type} {p:Nat->α->Prop} {k:Nat} {v:α} {a b:Tr α} (h:p k v) (ha:a.mQ p) (hb:b.mQ p):Tr.mQ p (.n k v a b):=Tr.lX h ha hb
def aL {α:Type} {p:Nat->α->Prop}:Tr.mQ p .l:=Tr.j8
end VE
end
section
namespace VE
open Go
structure HD where
 n:Nat
 live:List (Nat×List Nat)
 out:List (Nat×List Nat)
 mode:List (Nat×Md)
 fz:List (Nat×List Nat)
 deriving Inhabited
def KB {α:Type} (i:Nat):List (Nat×α)->Option α
 | []=>none
 | (j,a)::l=>bif yz j i then some a else KB i l
def atX (b8:Nat->Option Nat) (d:HD):Hint where
 n:=d.n
 b8:=b8
 live:=fun l=>match KB l d.live with | some x=>x | none=>[]
 out:=fun l=>KB l d.out
 mode:=fun k=>match KB k d.mode with | some x=>x | none=> .pure
 fz:=fun i=>match KB i d.fz with | some x=>x | none=>[]
def Pg (b8:Tr Nat) (t:Tr HD) (i:Nat):Hint:=atX b8.find (match t.find i with | some d=>d | none=>⟨0,[],[],[],[]⟩)
def AL (t:Tr Nat) (i:Nat):Nat:=match t.find i with | some f=>f | none=>0
def KC (ae:Tr Nat):Tr Nat->Bool
 | .l=>true
 | .n f g a b=>yz (AL ae g) f&&(KC ae a&&KC ae b)
def Sj {ae:Tr Nat}:∀{t:Tr Nat},KC ae t=true->t.mQ (fun f g=>AL ae g=f)
 | .l,_=>trivial
 | .n f g a b,h=>by
  simp only [KC,yi] at h;exact ⟨yt h.1,Sj h.2.1,Sj h.2.2⟩
def Ul (P:xa) (ae:Tr Nat) (b8:Tr Nat) (hd:Tr HD) (i:Nat) (F:av):Prop:=
 ∃fn,P.funcs[AL ae i]? =some fn/\FO P (Pg b8 hd i) fn=some F/\fn.name≠ "runtime.NumGoroutine"
def anC {P:xa} {ae b8:Tr Nat} {hd:Tr HD} {i:Nat} {F:av} (h:(P.funcs[AL ae i]?).bind (FO P (Pg b8 hd i))=some F) (h2:(P.funcs[AL ae i]?).map (fun fn=>decide (fn.name= "runtime.NumGoroutine"))=some false):Ul P ae b8 hd i F:=by
 unfold Ul
 cases hq:P.funcs[AL ae i]? with
 | none=>rw [hq] at h;cases h
 | some fn=>
  rw [hq] at h h2;refine ⟨fn,rfl,h,fun e=>?_⟩;simp only [Option.map_some,ye,e,yu] at h2;cases h2
end VE
end
section
namespace VE
namespace pP
open Go
open Go.Proofs
def ae:Tr Nat:=(.n 121 173 (.n 65 129 (.n 36 120 (.n 21 43 (.n 14 34 (.n 9 42 (.n 4 101 (.n 1 5 .l .l) (.n 5 41 .l .l)) (.n 13 12 (.n 11 8 .l .l) .l)) (.n 18 38 (.n 16 35 (.n 15 36 .l .l) (.n 17 37 .l .l)) (.n 20 40 (.n 19 39 .l .l) .l))) (.n 28 48 (.n 25 47 (.n 23 46 (.n 22 44 .l .l) (.n 24 45 .l .l)) (.n 27 7 (.n 26 21 .l .l) .l)) (.n 33 49 (.n 31 54 (.n 29 24 .l .l) (.n 32 123 .l .l)) (.n 35 119 (.n 34 118 .l .l) .l)))) (.n 51 81 (.n 44 103 (.n 40 116 (.n 38 121 (.n 37 82 .l .l) (.n 39 122 .l .l)) (.n 42 66 (.n 41 124 .l .l) .l)) (.n 48 106 (.n 46 104 (.n 45 102 .l .l) (.n 47 105 .l .l)) (.n 50 107 (.n 49 108 .l .l) .l))) (.n 58 117 (.n 55 113 (.n 53 111 (.n 52 109 .l .l) (.n 54 114 .l .l)) (.n 57 112 (.n 56 115 .l .l) .l)) (.n 62 60 (.n 60 79 (.n 59 126 .l .l) (.n 61 53 .l .l)) (.n 64 128 (.n 63 127 .l .l) .l))))) (.n 93 65 (.n 79 83 (.n 72 136 (.n 69 134 (.n 67 131 (.n 66 130 .l .l) (.n 68 132 .l .l)) (.n 71 135 (.n 70 133 .l .l) .l)) (.n 76 77 (.n 74 59 (.n 73 138 .l .l) (.n 75 137 .l .l)) (.n 78 80 (.n 77 78 .l .l) .l))) (.n 86 52 (.n 83 62 (.n 81 85 (.n 80 84 .l .l) (.n 82 86 .l .l)) (.n 85 51 (.n 84 50 .l .l) .l)) (.n 90 61 (.n 88 56 (.n 87 55 .l .l) (.n 89 57 .l .l)) (.n 92 63 (.n 91 64 .l .l) .l)))) (.n 107 158 (.n 100 156 (.n 97 110 (.n 95 193 (.n 94 194 .l .l) (.n 96 125 .l .l)) (.n 99 188 (.n 98 152 .l .l) .l)) (.n 104 175 (.n 102 189 (.n 101 155 .l .l) (.n 103 191 .l .l)) (.n 106 192 (.n 105 176 .l .l) .l))) (.n 114 198 (.n 111 153 (.n 109 145 (.n 108 151 .l .l) (.n 110 148 .l .l)) (.n 113 197 (.n 112 196 .l .l) .l)) (.n 118 149 (.n 116 174 (.n 115 172 .l .l) (.n 117 150 .l .l)) (.n 120 171 (.n 119 154 .l .l) .l)))))) (.n 262 100 (.n 149 236 (.n 135 230 (.n 128 144 (.n 125 139 (.n 123 159 (.n 122 157 .l .l) (.n 124 140 .l .l)) (.n 127 141 (.n 126 142 .l .l) .l)) (.n 132 238 (.n 130 147 (.n 129 146 .l .l) (.n 131 58 .l .l)) (.n 134 190 (.n 133 195 .l .l) .l))) (.n 142 218 (.n 139 233 (.n 137 231 (.n 136 211 .l .l) (.n 138 232 .l .l)) (.n 141 235 (.n 140 234 .l .l) .l)) (.n 146 203 (.n 144 219 (.n 143 217 .l .l) (.n 145 212 .l .l)) (.n 148 216 (.n 147 209 .l .l) .l)))) (.n 163 202 (.n 156 210 (.n 153 206 (.n 151 221 (.n 150 237 .l .l) (.n 152 205 .l .l)) (.n 155 208 (.n 154 207 .l .l) .l)) (.n 160 220 (.n 158 214 (.n 157 213 .l .l) (.n 159 215 .l .l)) (.n 162 201 (.n 161 143 .l .l) .l))) (.n 170 264 (.n 167 257 (.n 165 256 (.n 164 204 .l .l) (.n 166 252 .l .l)) (.n 169 259 (.n 168 258 .l .l) .l)) (.n 174 286 (.n 172 254 (.n 171 251 .l .l) (.n 173 253 .l .l)) (.n 261 10 (.n 175 278 .l .l) .l))))) (.n 293 187 (.n 279 98 (.n 272 160 (.n 268 92 (.n 264 31 (.n 263 67 .l .l) (.n 267 32 .l .l)) (.n 271 26 (.n 269 163 .l .l) .l)) (.n 276 94 (.n 274 96 (.n 273 161 .l .l) (.n 275 162 .l .l)) (.n 278 99 (.n 277 95 .l .l) .l))) (.n 286 170 (.n 283 225 (.n 281 88 (.n 280 97 .l .l) (.n 282 87 .l .l)) (.n 285 168 (.n 284 169 .l .l) .l)) (.n 290 179 (.n 288 181 (.n 287 222 .l .l) (.n 289 183 .l .l)) (.n 292 177 (.n 291 180 .l .l) .l)))) (.n 342 6 (.n 300 226 (.n 297 186 (.n 295 184 (.n 294 178 .l .l) (.n 296 185 .l .l)) (.n 299 227 (.n 298 182 .l .l) .l)) (.n 316 69 (.n 302 229 (.n 301 228 .l .l) (.n 314 68 .l .l)) (.n 341 3 (.n 332 165 .l .l) .l))) (.n 349 25 (.n 346 14 (.n 344 11 (.n 343 9 .l .l) (.n 345 13 .l .l)) (.n 348 70 (.n 347 27 .l .l) .l)) (.n 353 164 (.n 351 93 (.n 350 71 .l .l) (.n 352 30 .l .l)) (.n 355 224 (.n 354 223 .l .l) .l)))))))
def b8:Tr Nat:=(.n 134 69 (.n 70 348 (.n 42 9 (.n 25 349 (.n 10 261 (.n 7 27 (.n 5 1 (.n 3 341 .l .l) (.n 6 342 .l .l)) (.n 9 343 (.n 8 11 .l .l) .l)) (.n 14 346 (.n 12 13 (.n 11 344 .l .l) (.n 13 345 .l .l)) (.n 24 29 (.n 21 26 .l .l) .l))) (.n 35 16 (.n 31 264 (.n 27 347 (.n 26 271 .l .l) (.n 30 352 .l .l)) (.n 34 14 (.n 32 267 .l .l) .l)) (.n 39 19 (.n 37 17 (.n 36 15 .l .l) (.n 38 18 .l .l)) (.n 41 5 (.n 40 20 .l .l) .l)))) (.n 56 88 (.n 49 33 (.n 46 23 (.n 44 22 (.n 43 21 .l .l) (.n 45 24 .l .l)) (.n 48 28 (.n 47 25 .l .l) .l)) (.n 53 61 (.n 51 85 (.n 50 84 .l .l) (.n 52 86 .l .l)) (.n 55 87 (.n 54 31 .l .l) .l))) (.n 63 92 (.n 60 62 (.n 58 131 (.n 57 89 .l .l) (.n 59 74 .l .l)) (.n 62 83 (.n 61 90 .l .l) .l)) (.n 67 263 (.n 65 93 (.n 64 91 .l .l) (.n 66 42 .l .l)) (.n 69 316 (.n 68 314 .l .l) .l))))) (.n 106 48 (.n 92 268 (.n 82 37 (.n 79 60 (.n 77 76 (.n 71 350 .l .l) (.n 78 77 .l .l)) (.n 81 51 (.n 80 78 .l .l) .l)) (.n 86 82 (.n 84 80 (.n 83 79 .l .l) (.n 85 81 .l .l)) (.n 88 281 (.n 87 282 .l .l) .l))) (.n 99 278 (.n 96 274 (.n 94 276 (.n 93 351 .l .l) (.n 95 277 .l .l)) (.n 98 279 (.n 97 280 .l .l) .l)) (.n 103 44 (.n 101 4 (.n 100 262 .l .l) (.n 102 45 .l .l)) (.n 105 47 (.n 104 46 .l .l) .l)))) (.n 120 36 (.n 113 55 (.n 110 97 (.n 108 49 (.n 107 50 .l .l) (.n 109 52 .l .l)) (.n 112 57 (.n 111 53 .l .l) .l)) (.n 117 58 (.n 115 56 (.n 114 54 .l .l) (.n 116 40 .l .l)) (.n 119 35 (.n 118 34 .l .l) .l))) (.n 127 63 (.n 124 41 (.n 122 39 (.n 121 38 .l .l) (.n 123 32 .l .l)) (.n 126 59 (.n 125 96 .l .l) .l)) (.n 131 67 (.n 129 65 (.n 128 64 .l .l) (.n 130 66 .l .l)) (.n 133 70 (.n 132 68 .l .l) .l)))))) (.n 192 106 (.n 162 275 (.n 148 110 (.n 141 127 (.n 138 73 (.n 136 72 (.n 135 71 .l .l) (.n 137 75 .l .l)) (.n 140 124 (.n 139 125 .l .l) .l)) (.n 145 109 (.n 143 161 (.n 142 126 .l .l) (.n 144 128 .l .l)) (.n 147 130 (.n 146 129 .l .l) .l))) (.n 155 101 (.n 152 98 (.n 150 117 (.n 149 118 .l .l) (.n 151 108 .l .l)) (.n 154 119 (.n 153 111 .l .l) .l)) (.n 159 123 (.n 157 122 (.n 156 100 .l .l) (.n 158 107 .l .l)) (.n 161 273 (.n 160 272 .l .l) .l)))) (.n 178 294 (.n 171 120 (.n 168 285 (.n 164 353 (.n 163 269 .l .l) (.n 165 332 .l .l)) (.n 170 286 (.n 169 284 .l .l) .l)) (.n 175 104 (.n 173 121 (.n 172 115 .l .l) (.n 174 116 .l .l)) (.n 177 292 (.n 176 105 .l .l) .l))) (.n 185 296 (.n 182 298 (.n 180 291 (.n 179 290 .l .l) (.n 181 288 .l .l)) (.n 184 295 (.n 183 289 .l .l) .l)) (.n 189 102 (.n 187 293 (.n 186 297 .l .l) (.n 188 99 .l .l)) (.n 191 103 (.n 190 134 .l .l) .l))))) (.n 222 287 (.n 208 155 (.n 201 162 (.n 196 112 (.n 194 94 (.n 193 95 .l .l) (.n 195 133 .l .l)) (.n 198 114 (.n 197 113 .l .l) .l)) (.n 205 152 (.n 203 146 (.n 202 163 .l .l) (.n 204 164 .l .l)) (.n 207 154 (.n 206 153 .l .l) .l))) (.n 215 159 (.n 212 145 (.n 210 156 (.n 209 147 .l .l) (.n 211 136 .l .l)) (.n 214 158 (.n 213 157 .l .l) .l)) (.n 219 144 (.n 217 143 (.n 216 148 .l .l) (.n 218 142 .l .l)) (.n 221 151 (.n 220 160 .l .l) .l)))) (.n 236 149 (.n 229 302 (.n 226 300 (.n 224 355 (.n 223 354 .l .l) (.n 225 283 .l .l)) (.n 228 301 (.n 227 299 .l .l) .l)) (.n 233 139 (.n 231 137 (.n 230 135 .l .l) (.n 232 138 .l .l)) (.n 235 141 (.n 234 140 .l .l) .l))) (.n 256 165 (.n 252 166 (.n 238 132 (.n 237 150 .l .l) (.n 251 171 .l .l)) (.n 254 172 (.n 253 173 .l .l) .l)) (.n 264 170 (.n 258 168 (.n 257 167 .l .l) (.n 259 169 .l .l)) (.n 286 174 (.n 278 175 .l .l) .l)))))))
def hd:Tr HD:=(.n 113 ⟨11,[],[],[],[]⟩ (.n 61 ⟨17,[],[],[],[]⟩ (.n 34 ⟨16,[],[],[],[]⟩ (.n 20 ⟨24,[],[],[],[]⟩ (.n 14 ⟨8,[],[],[],[]⟩ (.n 9 ⟨42,[],[],[],[]⟩ (.n 4 ⟨15,[],[],[],[]⟩ (.n 1 ⟨240,[],[],[],[]⟩ .l .l) (.n 5 ⟨48,[],[],[(9,.heap)],[]⟩ .l .l)) (.n 13 ⟨7,[],[],[],[]⟩ (.n 11 ⟨5,[],[],[],[]⟩ .l .l) .l)) (.n 17 ⟨26,[],[],[],[]⟩ (.n 16 ⟨15,[],[],[],[]⟩ (.n 15 ⟨4,[],[],[],[]⟩ .l .l) .l) (.n 19 ⟨26,[],[],[],[]⟩ (.n 18 ⟨25,[],[],[],[]⟩ .l .l) .l))) (.n 27 ⟨100,[(2,[1,5,9,10,46,47]),(4,[1,5,9,10,11,46,47,50,51,52])],[(2,[1,5,9,10]),(4,[1,5,9,10,46,47])],[],[]⟩ (.n 24 ⟨27,[],[],[],[]⟩ (.n 22 ⟨36,[],[],[],[]⟩ (.n 21 ⟨27,[(1,[0,1,5])],[(1,[])],[],[]⟩ .l .l) (.n 23 ⟨5,[],[],[],[]⟩ .l .l)) (.n 26 ⟨101,[(2,[0,2,3,11,12,69,70,71]),(4,[0,2,3,11,12,14,69,70,71,75,76,77])],[(2,[12]),(4,[0,2,3,11,12,69,70,71])],[],[(18,[17])]⟩ (.n 25 ⟨67,[],[],[],[]⟩ .l .l) .l)) (.n 31 ⟨7,[],[],[],[]⟩ (.n 29 ⟨26,[(1,[0,1,5])],[(1,[])],[],[]⟩ (.n 28 ⟨27,[(1,[0,1,5])],[(1,[])],[],[]⟩ .l .l) .l) (.n 33 ⟨15,[(0,[5,6,7])],[(0,[])],[],[]⟩ (.n 32 ⟨32,[(0,[0,3,9,10,11])],[(0,[])],[],[]⟩ .l .l) .l)))) (.n 48 ⟨21,[],[],[],[]⟩ (.n 41 ⟨39,[],[],[],[]⟩ (.n 38 ⟨8,[],[],[],[]⟩ (.n 36 ⟨5,[],[],[],[]⟩ (.n 35 ⟨22,[(0,[1,5,8,9,10])],[(0,[5])],[],[]⟩ .l .l) (.n 37 ⟨21,[(0,[0,2,9,10,11])],[(0,[0])],[],[]⟩ .l .l)) (.n 40 ⟨32,[],[],[(1,.dyn)],[]⟩ (.n 39 ⟨38,[(0,[4,8,9,18,19,20])],[(0,[9])],[],[]⟩ .l .l) .l)) (.n 45 ⟨25,[],[],[],[]⟩ (.n 44 ⟨13,[],[],[],[]⟩ (.n 42 ⟨19,[(0,[0,3])],[(0,[])],[],[]⟩ .l .l) .l) (.n 47 ⟨13,[],[],[],[]⟩ (.n 46 ⟨16,[],[],[],[]⟩ .l .l) .l))) (.n 55 ⟨28,[],[],[],[]⟩ (.n 52 ⟨28,[],[],[],[]⟩ (.n 50 ⟨9,[],[],[],[]⟩ (.n 49 ⟨16,[],[],[],[]⟩ .l .l) (.n 51 ⟨5,[],[],[],[]⟩ .l .l)) (.n 54 ⟨10,[],[],[],[]⟩ (.n 53 ⟨11,[],[],[],[]⟩ .l .l) .l)) (.n 58 ⟨16,[],[],[],[]⟩ (.n 57 ⟨8,[],[],[],[]⟩ (.n 56 ⟨41,[(0,[1,2,4,5,11,12])],[(0,[4,5])],[],[]⟩ .l .l) .l) (.n 60 ⟨11,[],[],[],[]⟩ (.n 59 ⟨26,[(1,[0,1,5])],[(1,[])],[],[]⟩ .l .l) .l))))) (.n 87 ⟨22,[(0,[1,5,8,9,10])],[(0,[5])],[],[]⟩ (.n 74 ⟨34,[],[],[],[]⟩ (.n 68 ⟨8,[],[],[],[]⟩ (.n 65 ⟨9,[],[],[],[]⟩ (.n 63 ⟨15,[],[],[],[]⟩ (.n 62 ⟨22,[],[],[],[]⟩ .l .l) (.n 64 ⟨29,[],[],[],[]⟩ .l .l)) (.n 67 ⟨25,[],[],[],[]⟩ (.n 66 ⟨30,[],[],[],[]⟩ .l .l) .l)) (.n 71 ⟨16,[],[],[],[]⟩ (.n 70 ⟨9,[],[],[],[]⟩ (.n 69 ⟨6,[],[],[],[]⟩ .l .l) .l) (.n 73 ⟨8,[],[],[],[]⟩ (.n 72 ⟨16,[],[],[],[]⟩ .l .l) .l))) (.n 81 ⟨8,[],[],[],[]⟩ (.n 78 ⟨9,[],[],[],[]⟩ (.n 76 ⟨9,[],[],[],[]⟩ (.n 75 ⟨14,[],[],[],[]⟩ .l .l) (.n 77 ⟨22,[(0,[1,5,8,9,10])],[(0,[5])],[],[]⟩ .l .l)) (.n 80 ⟨10,[],[],[],[]⟩ (.n 79 ⟨22,[(0,[1,5,8,9,10])],[(0,[5])],[],[]⟩ .l .l) .l)) (.n 84 ⟨20,[],[],[],[]⟩ (.n 83 ⟨8,[],[],[],[]⟩ (.n 82 ⟨137,[(0,[3,4,6,7,11,12,32,33,34]),(3,[3,4,6,7,11,12,14,15,16,32,33,34,54,55]),(6,[3,4,6,7,11,12,14,15,32,33,34,89,90]),(9,[11,27,118,119])],[(0,[4,11]),(3,[3,4,6,7,11,12,14,15,32,33,34]),(6,[3,4,6,7,11,12,15,32,33,34]),(9,[27])],[],[]⟩ .l .l) .l) (.n 86 ⟨76,[],[],[],[]⟩ (.n 85 ⟨22,[(0,[1,5,8,9,10])],[(0,[5])],[],[]⟩ .l .l) .l)))) (.n 100 ⟨66,[],[],[],[]⟩ (.n 94 ⟨13,[],[],[],[]⟩ (.n 91 ⟨7,[],[],[],[]⟩ (.n 89 ⟨46,[(0,[0,1,4,11,12,13]),(2,[0,1,4,5,6,7,11,12,13,18,19,20])],[(0,[4]),(2,[0,1,4,7,11,12,13])],[],[(14,[7])]⟩ (.n 88 ⟨23,[(0,[3,9,10,11])],[(0,[3])],[],[]⟩ .l .l) (.n 90 ⟨143,[(0,[0,1,5,6,19,20]),(2,[5,6,49,50]),(4,[5,6,8,49,50,53,54]),(7,[5,6,8,9,10,11,49,50,53,54]),(9,[5,6,12,119,120])],[(0,[5,6]),(2,[5,6]),(4,[5,6,49,50]),(7,[5,6,8,49,50,53,54]),(9,[12])],[],[]⟩ .l .l)) (.n 93 ⟨7,[],[],[],[]⟩ (.n 92 ⟨22,[(0,[1,5,8,9,10])],[(0,[5])],[],[]⟩ .l .l) .l)) (.n 97 ⟨20,[],[],[],[]⟩ (.n 96 ⟨4,[],[],[],[]⟩ (.n 95 ⟨9,[],[],[],[]⟩ .l .l) .l) (.n 99 ⟨69,[(1,[3,4,5,6]),(6,[6,10,11])],[(1,[3,6]),(6,[10])],[],[]⟩ (.n 98 ⟨13,[],[],[],[]⟩ .l .l) .l))) (.n 106 ⟨21,[(0,[2,3,6,9,10,11])],[(0,[3,6])],[],[]⟩ (.n 103 ⟨34,[],[],[],[]⟩ (.n 102 ⟨9,[],[],[],[]⟩ (.n 101 ⟨34,[],[],[],[]⟩ .l .l) .l) (.n 105 ⟨22,[],[],[],[]⟩ (.n 104 ⟨32,[],[],[],[]⟩ .l .l) .l)) (.n 110 ⟨41,[(0,[0,2,3,4])],[(0,[2,3,4])],[],[]⟩ (.n 108 ⟨6,[],[],[],[]⟩ (.n 107 ⟨11,[],[],[],[]⟩ .l .l) .l) (.n 112 ⟨16,[],[],[],[]⟩ (.n 111 ⟨6,[],[],[],[]⟩ .l .l) .l)))))) (.n 269 ⟨14,[],[],[],[]⟩ (.n 146 ⟨7,[],[],[],[]⟩ (.n 126 ⟨24,[],[],[],[]⟩ (.n 120 ⟨22,[(0,[1,5,8,9,10])],[(0,[5])],[],[]⟩ (.n 117 ⟨5,[],[],[],[]⟩ (.n 115 ⟨23,[],[],[],[]⟩ (.n 114 ⟨10,[],[],[],[]⟩ .l .l) (.n 116 ⟨32,[],[],[],[]⟩ .l .l)) (.n 119 ⟨67,[],[],[],[]⟩ (.n 118 ⟨29,[],[],[],[]⟩ .l .l) .l)) (.n 123 ⟨23,[(0,[3,9,10,11])],[(0,[3])],[],[]⟩ (.n 122 ⟨9,[],[],[],[]⟩ (.n 121 ⟨22,[(0,[1,5,8,9,10])],[(0,[5])],[],[]⟩ .l .l) .l) (.n 125 ⟨15,[(0,[5,6,7])],[(0,[])],[],[]⟩ (.n 124 ⟨7,[],[],[],[]⟩ .l .l) .l))) (.n 134 ⟨12,[],[],[],[]⟩ (.n 131 ⟨26,[(0,[0,1,4,5,9,10])],[(0,[4,5])],[],[]⟩ (.n 129 ⟨19,[],[],[],[]⟩ (.n 127 ⟨21,[(0,[1,8,9,10])],[(0,[])],[],[]⟩ .l .l) (.n 130 ⟨23,[(0,[2,3,4])],[(0,[2,4])],[],[]⟩ .l .l)) (.n 133 ⟨20,[(0,[0,1,5,6]),(2,[0,1,3,5,6,9,10])],[(0,[]),(2,[0,1,5,6])],[(0,.heap)],[]⟩ (.n 132 ⟨19,[(0,[0,1,7,8])],[(0,[])],[],[]⟩ .l .l) .l)) (.n 142 ⟨10,[],[],[],[]⟩ (.n 137 ⟨137,[(2,[0,1,6,7,8]),(4,[9,10,11,12,13,14]),(6,[9,11,12,13,96,97])],[(2,[6,7]),(4,[9,11,12,13]),(6,[11,12,13])],[(5,.own),(7,.own),(8,.heap)],[]⟩ (.n 136 ⟨24,[],[],[],[]⟩ .l .l) .l) (.n 145 ⟨50,[],[],[],[]⟩ (.n 144 ⟨80,[(0,[1,5,20,21,22]),(2,[1,5,6,7,8,20,21,22,27,28,29])],[(0,[5]),(2,[1,5,6,8,20,21,22])],[],[]⟩ .l .l) .l)))) (.n 163 ⟨9,[],[],[],[]⟩ (.n 156 ⟨9,[],[],[],[]⟩ (.n 150 ⟨9,[],[],[],[]⟩ (.n 148 ⟨21,[],[],[],[]⟩ (.n 147 ⟨26,[],[],[],[]⟩ .l .l) (.n 149 ⟨14,[],[],[],[]⟩ .l .l)) (.n 155 ⟨23,[(0,[1,2,4,5])],[(0,[4,5])],[],[]⟩ (.n 151 ⟨13,[],[],[],[]⟩ .l .l) .l)) (.n 159 ⟨41,[(0,[0,1,5,6,13,14])],[(0,[5])],[],[]⟩ (.n 158 ⟨41,[(2,[0,1,5])],[(2,[])],[],[]⟩ (.n 157 ⟨54,[(1,[0,1,5,6,21,22])],[(1,[0,5,6])],[],[]⟩ .l .l) .l) (.n 161 ⟨18,[(0,[6,7,8])],[(0,[])],[],[]⟩ (.n 160 ⟨19,[(0,[0,1,7,8])],[(0,[])],[],[]⟩ .l .l) .l))) (.n 261 ⟨19,[(0,[0,3])],[(0,[])],[],[]⟩ (.n 168 ⟨40,[(0,[1,5,12,13,14])],[(0,[5])],[],[]⟩ (.n 165 ⟨135,[(3,[2,8,9,10,11,13,14,15,16]),(6,[2,8,9,10,14,15,16,17,18])],[(3,[2,8,9,10,11,13,14,15]),(6,[2,8,14,15,17,18])],[],[]⟩ (.n 164 ⟨84,[],[],[],[]⟩ .l .l) (.n 166 ⟨21,[(0,[0,3])],[(0,[0,3])],[],[]⟩ .l .l)) (.n 172 ⟨25,[],[],[],[]⟩ (.n 169 ⟨186,[(1,[0,1,5,6,7,8]),(4,[0,1,5,6,11,12,104,105]),(7,[0,1,5,6,17,156,157])],[(1,[0,1,5,6]),(4,[0,1,5,6,11,12]),(7,[0,5,6,17])],[],[]⟩ .l .l) .l)) (.n 264 ⟨63,[],[],[],[]⟩ (.n 263 ⟨96,[],[],[],[]⟩ (.n 262 ⟨13,[],[],[],[]⟩ .l .l) .l) (.n 268 ⟨14,[],[],[],[]⟩ (.n 267 ⟨55,[],[],[],[]⟩ .l .l) .l))))) (.n 296 ⟨41,[(2,[0,1,5])],[(2,[])],[],[]⟩ (.n 283 ⟨13,[],[],[],[]⟩ (.n 277 ⟨61,[],[],[],[]⟩ (.n 274 ⟨25,[],[],[],[]⟩ (.n 272 ⟨17,[(0,[0,3])],[(0,[0])],[],[]⟩ (.n 271 ⟨9,[],[],[],[]⟩ .l .l) (.n 273 ⟨18,[],[],[],[]⟩ .l .l)) (.n 276 ⟨54,[],[],[],[]⟩ (.n 275 ⟨19,[(0,[0,1])],[(0,[0])],[],[]⟩ .l .l) .l)) (.n 280 ⟨57,[],[],[],[]⟩ (.n 279 ⟨40,[],[],[],[]⟩ (.n 278 ⟨16,[],[],[],[]⟩ .l .l) .l) (.n 282 ⟨39,[(1,[1,3,4])],[(1,[1,3])],[],[]⟩ (.n 281 ⟨25,[(0,[0,2,3,4])],[(0,[2,3,4])],[],[]⟩ .l .l) .l))) (.n 290 ⟨20,[(0,[0,3,4])],[(0,[3])],[],[]⟩ (.n 287 ⟨20,[(0,[0,3])],[(0,[])],[],[]⟩ (.n 285 ⟨9,[],[],[],[]⟩ (.n 284 ⟨7,[],[],[],[]⟩ .l .l) (.n 286 ⟨14,[],[],[],[]⟩ .l .l)) (.n 289 ⟨206,[(2,[0,8,9,10,11]),(4,[8,9,10,11,12,13]),(6,[8,9,10,11,12,13,14,15,16]),(10,[8,9,10,11,12,13,14,19,20])],[(2,[8,9,10,11]),(4,[8,10,11,12]),(6,[8,9,10,11,12,13,14,15]),(10,[8,9,10,11,12,13,14,19])],[(5,.heap)],[]⟩ (.n 288 ⟨40,[(1,[0,2,3,4])],[(1,[0,2,3,4])],[],[]⟩ .l .l) .l)) (.n 293 ⟨72,[(0,[0,1,5,6]),(2,[0,1,5,6,7,8])],[(0,[5]),(2,[0,1,5,6,7])],[],[]⟩ (.n 292 ⟨25,[(0,[0,1,5])],[(0,[5])],[],[]⟩ (.n 291 ⟨12,[(0,[0,1])],[(0,[0])],[],[]⟩ .l .l) .l) (.n 295 ⟨42,[(0,[0,1,5,6,7])],[(0,[5])],[],[]⟩ (.n 294 ⟨15,[],[],[],[]⟩ .l .l) .l)))) (.n 344 ⟨5,[],[],[],[]⟩ (.n 314 ⟨17,[],[],[],[]⟩ (.n 300 ⟨21,[(0,[0])],[(0,[0])],[],[]⟩ (.n 298 ⟨9,[],[],[],[]⟩ (.n 297 ⟨35,[(0,[0,1,5,6,7])],[(0,[5])],[],[]⟩ .l .l) (.n 299 ⟨39,[(0,[0,1,6,7,8])],[(0,[6,7])],[],[]⟩ .l .l)) (.n 302 ⟨13,[],[],[],[]⟩ (.n 301 ⟨77,[(0,[0,1,2,7,9,10])],[(0,[9])],[],[]⟩ .l .l) .l)) (.n 341 ⟨125,[(1,[0,1,2,46,47]),(4,[0,1,2,7,46,47,76,77])],[(1,[0,1,2]),(4,[0,1,2,46,47])],[],[]⟩ (.n 332 ⟨14,[(0,[0,3,4])],[(0,[3])],[],[]⟩ (.n 316 ⟨16,[(0,[0,3])],[(0,[])],[],[]⟩ .l .l) .l) (.n 343 ⟨47,[(2,[0,3])],[(2,[])],[],[]⟩ (.n 342 ⟨23,[(1,[0,1,5])],[(1,[])],[],[]⟩ .l .l) .l))) (.n 350 ⟨69,[(0,[0,1,6,7,8]),(2,[7,9,10,11,12])],[(0,[6,7]),(2,[11])],[(2,.own)],[]⟩ (.n 347 ⟨34,[(0,[0,3,4]),(2,[0,3,4,5,6])],[(0,[3]),(2,[0,3,4,5])],[],[(10,[5])]⟩ (.n 346 ⟨47,[(0,[1,2,7,8,9])],[(0,[1,7,8])],[(1,.heap)],[]⟩ (.n 345 ⟨30,[],[],[],[]⟩ .l .l) .l) (.n 349 ⟨23,[(0,[0,1,5,6])],[(0,[5])],[],[]⟩ (.n 348 ⟨26,[(0,[0,5,6,7])],[(0,[6])],[(1,.own)],[]⟩ .l .l) .l)) (.n 353 ⟨159,[(0,[0,4,5]),(2,[0,4,5,6]),(5,[0,4,5,7,8,9]),(7,[0,4,5,7,10]),(10,[0,4,5,7,10,11,12])],[(0,[0,4]),(2,[0,4,5,6]),(5,[0,4,5,7]),(7,[0,4,5]),(10,[0,4,5,7,10])],[(0,.heap),(1,.heap)],[]⟩ (.n 352 ⟨25,[(0,[0,1,5,6])],[(0,[5])],[],[]⟩ (.n 351 ⟨10,[],[],[],[]⟩ .l .l) .l) (.n 355 ⟨5,[],[],[],[]⟩ (.n 354 ⟨21,[(0,[0,3,4])],[(0,[3])],[],[]⟩ .l .l) .l)))))))
def atY:KC ae b8=true:=by decide+kernel
noncomputable def cc (i:Nat):av:=match (Tryz.prog.funcs[AL ae i]?).bind (FO Tryz.prog (Pg b8 hd i)) with
 | some F=>F
 | none=>⟨[],.skip⟩
end pP
def nest:VC->List VC
 | .seq a b=>nest a++nest b
 | .cond _ a b=>nest a++nest b
 | .ef _ a=>nest a
 | .loop _ a=>[a]
 | .rf _ _ a b=>[a,b]
 | _=>[]
def oG:VC->List VC->VC×List VC
 | .seq a b,l=>(.seq (oG a l).1 (oG b (oG a l).2).1,(oG b (oG a l).2).2)
 | .cond x a b,l=>(.cond x (oG a l).1 (oG b (oG a l).2).1,(oG b (oG a l).2).2)
 | .ef i a,l=>(.ef i (oG a l).1,(oG a l).2)
 | .loop v a,l=>(.loop v (l.headD a),l.tail)
 | .rf f ps a b,l=>(.rf f ps (l.headD a) (l.tail.headD b),l.tail.tail)
 | c,l=>(c,l)
def ahz (c:VC):List Nat->VC
 | []=>c
 | i::r=>ahz ((nest c).getD i .skip) r
def ap {α:Type} {a b:α} (_:a=b):α:=b
attribute [go_sem] ap
noncomputable def bn (F:av) (p:List Nat) (l:List VC):VC:=(oG (ahz F.body p) l).1
noncomputable def b5 (F:av) (l:List VC):av:=⟨F.fm,(oG F.body l).1⟩
end VE
end
