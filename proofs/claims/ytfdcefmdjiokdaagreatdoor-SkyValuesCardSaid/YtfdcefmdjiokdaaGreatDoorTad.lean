import Derived.Lib.AppendIntMem
import Derived.OwnWalk
import Derived.WalkKit
import Derived.Test.YtfdcefmdjiokdaaGreatDoorProg
import Derived.KernelRfl
import Derived.Attr
import Derived.Test.YtfdcefmdjiokdaaGreatDoorTac
import Derived.Test.YtfdcefmdjiokdaaGreatDoorTaa
import Derived.Test.YtfdcefmdjiokdaaGreatDoorTab
set_option linter.all false
set_option maxRecDepth 100000
open Array renaming size_replicate→vR
open Bool renaming and_eq_true→yg,false_eq_true→yD
open Go renaming FloatKind→vZ,IntKind→y8,Program→y7,World→yi
open List renaming mem_cons→wA,mem_cons_of_mem→vl,mem_cons_self→ub
open Nat renaming beq→yt,blt→yK,eq_of_beq_eq_true→yk
open Option.some renaming injEq→yd
section
namespace Go.Proofs
open Go.Shelf
open Go.RowKit Go.Sort Go.Lib
set_option maxHeartbeats 6400000 in
set_option maxRecDepth 100000 in
def Tryz.agr (u:Nat) (CQ:u<18446744073709551616) (w:yi)
  (CP:Lib.TabIs Tryz.prog w "internal/strconv.uint64pow10" .u64 Lib.pow10Tab):
  Calls Tryz.prog 283 #[.int .u64 u,.int .i64 10] w fun e w'=>e= .returned (.string ⟨(Lib.decDigits u).toArray⟩)/\∃k os,w'=grow (w.drewN k) os:=by
 by_cases hs:u<100
 ·go_enter Tryz.func283,Tryz.ntmps283
  go_wp2_with (go_at_call 303;refine (Tryz.internal_strconv_small u hs _).mono ?_;rintro e w' ⟨rfl,rfl⟩)
  go_ret
  exact ⟨rfl,0,#[],by simp [World.drewN_zero]⟩
 ·have qu:1<=u:=by omega
  have azG:Lib.nDigits u<=20:=by have:=Lib.numDigits_eq u qu CQ;split at this<;>omega
  have hal:Tryz.prog.arrayLen 326=24:=by simp [Program.arrayLen,Tryz.underlying326]
  have Fo:∀W,(Instr.sliceAt 326 (.pointer (some ⟨w.heap.size,0,none⟩)) none (some (.int .i64 (Lib.nDigits u:Int))) none).run Tryz.prog W= .ok (.slice (some ⟨w.heap.size,0,none⟩) (Lib.nDigits u) 24) W:=fun W=>by
   rw [run_sliceAt_array_h W 326 ⟨w.heap.size,0,none⟩ (by simp [Program.arrayLen,Program.elem,Tryz.underlying326]) .i64 (Lib.nDigits u:Int) (by omega) (by rw [hal];omega)]
   go_simp
  have U2:=Lib.holds_zero0 w 326 (Lib.nDigits u) (by omega);have ac5:=Tryz.internal_strconv_formatBase10 w.heap.size 0 24 u (Array.replicate (Lib.nDigits u) 0) (w.alloc (.cells Lib.zeros24 326)) U2 (by rw [vR];exact Lib.lt_pow_nDigits u) CQ (by rw [vR];omega)
  rw [vR] at ac5;have HH0:=Lib.hid U2;have iu:(100:Int)<=(u:Int):=by omega
  clear U2 hal
  go_enter Tryz.func283,Tryz.ntmps283
  go_wp2_with (first
   | (go_at_call 304;refine (Tryz.internal_strconv_numDigits u qu CQ _ (Lib.tabIs_alloc CP _)).mono ?_;rintro e w' ⟨rfl,rfl⟩))
  go_at_call 305
  refine ac5.mono ?_;rintro e w' ⟨rfl,k,v',dk,rfl,hF⟩;have hcv:(convert 283 9 (.slice (some ⟨w.heap.size,0,none⟩) (Lib.nDigits u) 24)).run Tryz.prog ((putRow (fun (b:UInt8)=>Value.int .u8 (b.toNat:Int)) (w.alloc (.cells Lib.zeros24 326)) w.heap.size 0 dk).drewN k)= .ok (.string ⟨(Lib.decDigits u).toArray⟩) ((putRow (fun (b:UInt8)=>Value.int .u8 (b.toNat:Int)) (w.alloc (.cells Lib.zeros24 326)) w.heap.size 0 dk).drewN k):=by
   have h:=run_convert_bytes_back (P:=Tryz.prog) ((putRow (fun (b:UInt8)=>Value.int .u8 (b.toNat:Int)) (w.alloc (.cells Lib.zeros24 326)) w.heap.size 0 dk).drewN k) 283 9 5 ⟨w.heap.size,0,none⟩ 24 (Lib.decDigits u) Tryz.underlying283 Tryz.underlying5 Tryz.underlying9 (fun j hj=>by
    rw [Lib.row_is_numeral hF j hj,Lib.add_plain,World.cell?_drewN]
    exact cell?_putRow (fun (b:UInt8)=>Value.int .u8 (b.toNat:Int)) _ w.heap.size 0 _ dk HH0.out (by rw [hF.size,vR]) j (by rw [hF.size];rw [Lib.decDigits_length] at hj;exact hj))
   rw [Lib.decDigits_length] at h;exact h
  go_wp2
  go_ret
  obtain ⟨os,eo⟩:=Lib.fin_at w (.cells Lib.zeros24 326) dk k 0;exact ⟨rfl,k,os,eo⟩
def Tryz.ags (u:Nat) (CQ:u<18446744073709551616) (w:yi)
  (CP:Lib.TabIs Tryz.prog w "internal/strconv.uint64pow10" .u64 Lib.pow10Tab):
  Calls Tryz.prog 249 #[.int .u64 u,.int .i64 10] w fun e w'=>e= .returned (.string ⟨(Lib.decDigits u).toArray⟩)/\∃k os,w'=grow (w.drewN k) os:=by
 go_enter Tryz.func249,Tryz.ntmps249
 go_wp2_with (go_at_call 283;refine (Tryz.agr u CQ _ CP).mono ?_;rintro e w' ⟨rfl,k,os,rfl⟩)
 go_ret
 exact ⟨rfl,k,os,rfl⟩
end Go.Proofs
end
section
namespace VE
abbrev Rq (d:Nat) (o:Op):aY:=⟨some d,none,o⟩
abbrev Rt (d g:Nat) (o:Op):aY:=⟨some d,some (g,true),o⟩
abbrev Rf (d g:Nat) (o:Op):aY:=⟨some d,some (g,false),o⟩
abbrev qm (d s:Nat):aY:=⟨some d,none,.mC (.t s)⟩
abbrev qc0 (d f:Nat):aY:=⟨some d,none,.call .pure (.c (.fn (.f f) [] [])) []⟩
abbrev qc1 (d f a:Nat):aY:=⟨some d,none,.call .pure (.c (.fn (.f f) [] [])) [.t a]⟩
abbrev qc2 (d f a b:Nat):aY:=⟨some d,none,.call .pure (.c (.fn (.f f) [] [])) [.t a,.t b]⟩
abbrev qc3 (d f a b c:Nat):aY:=⟨some d,none,.call .pure (.c (.fn (.f f) [] [])) [.t a,.t b,.t c]⟩
abbrev qc4 (d f a b c e:Nat):aY:=⟨some d,none,.call .pure (.c (.fn (.f f) [] [])) [.t a,.t b,.t c,.t e]⟩
abbrev ql (d n s:Nat):aY:=⟨some d,none,.ld n false (.t s)⟩
abbrev qL (d n s:Nat):aY:=⟨some d,none,.ld n true (.t s)⟩
abbrev qk (d:Nat) (k:Int):aY:=⟨some d,none,.mC (.c (.int .i64 k))⟩
abbrev qf (d:Nat):aY:=⟨some d,none,.mC (.c (.bool false))⟩
abbrev qz (d:Nat):aY:=⟨some d,none,.mC (.c .af)⟩
abbrev qi (d n s i:Nat):aY:=⟨some d,none,.bn n (.t s) (.t i)⟩
abbrev qo (d n s:Nat):aY:=⟨some d,none,.off n (.t s)⟩
abbrev qn (d n s:Nat):aY:=⟨some d,none,.len n (.t s)⟩
abbrev qe (d n s:Nat):aY:=⟨some d,none,.ext n (.t s)⟩
abbrev qb (d n s:Nat):aY:=⟨some d,none,.box n (.t s)⟩
abbrev qs (n a b:Nat):aY:=⟨none,none,.st n (.t a) (.t b)⟩
abbrev qa (d a:Nat) (k:Int):aY:=⟨some d,none,.bin .add (.t a) (.c (.int .i64 k))⟩
abbrev qN (d a:Nat) (k:Int):aY:=⟨some d,none,.bin .neq (.t a) (.c (.int .i64 k))⟩
abbrev qE (d a:Nat) (k:Int):aY:=⟨some d,none,.bin .eql (.t a) (.c (.int .i64 k))⟩
abbrev qA (d a b:Nat):aY:=⟨some d,none,.bin .add (.t a) (.t b)⟩
abbrev qT (d a b:Nat):aY:=⟨some d,none,.bin .lss (.t a) (.t b)⟩
abbrev qp (d c b:Nat):aY:=⟨some d,none,.pick (.t c) (.c (.bool true)) (.t b)⟩
abbrev qq (d c b:Nat):aY:=⟨some d,none,.pick (.t c) (.t b) (.c (.bool false))⟩
abbrev X.k (n:Int):X:=.c (.int .i64 n)
abbrev X.u (n:Int):X:=.c (.int .u64 n)
abbrev X.F (n:Nat):X:=.c (.fn (.f n) [] [])
abbrev X.s (l:List Nat):X:=.c (.str l)
abbrev AV.i (n:Int):AV:=.int .i64 n
abbrev Op.q (f:Nat) (l:List X):Op:=.call .pure (.c (.fn (.f f) [] [])) l
abbrev Op.y (o:Go.BinOp) (a:Nat) (n:Int):Op:=.bin o (.t a) (.c (.int .i64 n))
abbrev Op.z (o:Go.BinOp) (a b:Nat):Op:=.bin o (.t a) (.t b)
abbrev Op.m (a:Nat):Op:=.mC (.t a)
abbrev VC.g (o:List aY) (b:VC):VC:=.seq (.jB o) b
abbrev VC.q (a b:VC):VC:=.seq a b
abbrev VC.e (o:List aY):VC:=.seq (.jB o) .ret
abbrev VC.i (t:Nat) (a:VC):VC:=.cond (.t t) a .skip
abbrev VC.h (o:List aY) (t:Nat) (a b:VC):VC:=.seq (.seq (.jB o) (.cond (.t t) a .skip)) b
end VE
end
section
namespace VE
inductive Tr (α:Type) where
 | l
 | n (k:Nat) (v:α) (a b:Tr α)
def Tr.find {α:Type}:Tr α->Nat->Option α
 | .l,_=>none
 | .n k v a b,i=>bif yt i k then some v else bif yK i k then a.find i else b.find i
end VE
end
section
namespace VE
open Go (IntKind FloatKind)
def MM:y8->Nat
 | .i8=>0 | .i16=>1 | .i32=>2 | .i64=>3 | .u8=>4 | .u16=>5 | .u32=>6 | .u64=>7
def U3:Int->Int->Bool
 | .ofNat a,.ofNat b=>yt a b
 | .negSucc a,.negSucc b=>yt a b
 | _,_=>false
def OK:Bool->Bool->Bool
 | true,true | false,false=>true
 | _,_=>false
def eqF:vZ->vZ->Bool
 | .f32,.f32 | .f64,.f64=>true
 | _,_=>false
mutual
def gH:AV->AV->Bool
 | .int k a,.int k' b=>yt (MM k) (MM k')&&U3 a b
 | .bool a,.bool b=>OK a b
 | .aB k a,.aB k' b=>eqF k k'&&yt a b
 | .str a,.str b=>cP a b
 | .kQ,.kQ=>true
 | .aJ a,.aJ b=>ml a b
 | .af,.af=>true
 | .aC e n a,.aC e' n' b=>OK e e'&&(yt n n'&&ml a b)
 | .cf e s n a,.cf e' s' n' b=>OK e e'&&(yt s s'&&(yt n n'&&ml a b))
 | .fn (.f g) a b,.fn (.f g') a' b'=>yt g g'&&(ml a a'&&ml b b')
 | .iF,.iF=>true
 | .jQ,.jQ=>true
 | .jz a b,.jz a' b'=>ml a a'&&ml b b'
 | .agg a,.agg b=>ml a b
 | .ap a,.ap b=>ml a b
 | .undef,.undef=>true
 | _,_=>false
def ml:List AV->List AV->Bool
 | [],[]=>true
 | a::x,b::y=>gH a b&&ml x y
 | _,_=>false
end
def hI:Int->Nat
 | .ofNat n=>n
 | .negSucc n=>n+n
def hS:List Nat->Nat
 | []=>1
 | b::r=>(b+257*hS r)%65521
mutual
def hV:AV->Nat
 | .int _ n=>hI n
 | .bool b=>bif b then 1 else 2
 | .aB _ n=>n
 | .str s=>hS s
 | .aC _ n cs=>n+hL cs
 | .agg cs=>hL cs
 | .ap cs=>hL cs
 | _=>5
def hL:List AV->Nat
 | []=>7
 | v::r=>(hV v+263*hL r)%65521
end
abbrev Te:=Tr (List AV×AV)
abbrev cu:=List Te
def Ch (h:Nat) (vals:List AV):cu->Option AV
 | []=>none
 | t::l=>match t.find h with
  | some (a,r)=>bif ml a vals then some r else Ch h vals l
  | none=>Ch h vals l
def abC (vals:List AV) (l:cu):Option AV:=Ch (hL vals) vals l
abbrev Te.o (h:Nat) (a:List AV) (r:AV):Te:= .n h (a,r) .l .l
abbrev Te.m (h:Nat) (a:List AV) (r:AV) (x y:Te):Te:= .n h (a,r) x y
def Ci (n:Nat):List (Tr cu)->Option cu
 | []=>none
 | t::r=>match t.find n with
  | none=>Ci n r
  | some l=>match Ci n r with | none=>some l | some m=>some (l++m)
def Nl (L:Lib) (T:List (Tr cu)) (ex:Nat):Lib:=
 ⟨fun i=>match L.pure i with
  | some sp=>some sp
  | none=>bif yt i ex then none else match Ci i T with | some l=>some (fun vals=>abC vals l) | none=>none,L.heap⟩
def I6 (P:aG) (L:Lib) (f:Nat):Te->Bool
 | .l=>true
 | .n _ e x y=>(match Ux P L 100000 f e.1 with | some r'=>gH r' e.2 | none=>false)&&(I6 P L f x&&I6 P L f y)
def MN (P:aG) (L:Lib) (f:Nat):cu->Bool
 | []=>true
 | t::l=>I6 P L f t&&MN P L f l
def iV (P:aG) (L:Lib) (T:List (Tr cu)):List (Nat×cu)->Bool
 | []=>true
 | (f,l)::C=>MN P (Nl L T f) f l&&iV P L T C
end VE
end
section
namespace VE
open Go
def ai4 {a b:y8} (h:yt (MM a) (MM b)=true):a=b:=by
 cases a<;>cases b<;>first | rfl | (exact absurd h (by decide))
def ald {a b:Int} (h:U3 a b=true):a=b:=by
 cases a<;>cases b<;>simp only [U3,reduceCtorEq] at h<;>rw [yk h]
def QF {a b:Bool} (h:OK a b=true):a=b:=by
 cases a<;>cases b<;>first | rfl | (exact absurd h (by decide))
def ale {a b:vZ} (h:eqF a b=true):a=b:=by
 cases a<;>cases b<;>first | rfl | (exact absurd h (by decide))
mutual
def Y8:∀(a b:AV),gH a b=true->a=b
 | .int k a,b,h=>by
  cases b<;>simp only [gH,yg,yD] at h
  rw [ai4 h.1,ald h.2]
 | .bool a,b,h=>by
  cases b<;>simp only [gH,yD] at h
  rw [QF h]
 | .aB k a,b,h=>by
  cases b<;>simp only [gH,yg,yD] at h
  rw [ale h.1,yk h.2]
 | .str a,b,h=>by
  cases b<;>simp only [gH,yD] at h
  rw [QA h]
 | .kQ,b,h=>by cases b<;>simp only [gH,yD] at h;rfl
 | .ptr _ _,b,h=>by cases b<;>simp only [gH,yD] at h
 | .aJ a,b,h=>by
  cases b<;>simp only [gH,yD] at h
  rw [pM _ _ h]
 | .af,b,h=>by cases b<;>simp only [gH,yD] at h;rfl
 | .aC e n a,b,h=>by
  cases b<;>simp only [gH,yg,yD] at h
  rw [QF h.1,yk h.2.1,pM _ _ h.2.2]
 | .cf e s n a,b,h=>by
  cases b<;>simp only [gH,yg,yD] at h
  rw [QF h.1,yk h.2.1,yk h.2.2.1,pM _ _ h.2.2.2]
 | .ay _ _ _,b,h=>by cases b<;>simp only [gH,yD] at h
 | .fn (.f g) x y,b,h=>by
  cases b<;>try (simp only [gH,yD] at h;done)
  rename_i fr _ _;cases fr<;>simp only [gH,yg,yD] at h
  rw [yk h.1,pM _ _ h.2.1,pM _ _ h.2.2]
 | .fn (.y _) _ _,b,h=>by cases b<;>simp only [gH,yD] at h
 | .iF,b,h=>by cases b<;>simp only [gH,yD] at h;rfl
 | .jQ,b,h=>by cases b<;>simp only [gH,yD] at h;rfl
 | .map _,b,h=>by cases b<;>simp only [gH,yD] at h
 | .jz x y,b,h=>by
  cases b<;>simp only [gH,yg,yD] at h
  rw [pM _ _ h.1,pM _ _ h.2]
 | .it _,b,h=>by cases b<;>simp only [gH,yD] at h
 | .agg a,b,h=>by
  cases b<;>simp only [gH,yD] at h
  rw [pM _ _ h]
 | .ap a,b,h=>by
  cases b<;>simp only [gH,yD] at h
  rw [pM _ _ h]
 | .undef,b,h=>by cases b<;>simp only [gH,yD] at h;rfl
def pM:∀(a b:List AV),ml a b=true->a=b
 | [],b,h=>by cases b<;>simp only [ml,yD] at h;rfl
 | x::a,b,h=>by
  cases b<;>simp only [ml,yg,yD] at h
  rw [Y8 _ _ h.1,pM _ _ h.2]
end
def Tr.Has {α:Type} (x:α):Tr α->Prop
 | .l=>False
 | .n _ v a b=>v=x\/a.Has x\/b.Has x
def Tr.QG {α:Type} {h:Nat} {x:α}:∀{t:Tr α},t.find h=some x->t.Has x
 | .l,hf=>by simp [Tr.find] at hf
 | .n k v a b,hf=>by
  simp only [Tr.find] at hf
  cases h1:yt h k with
  | true=>rw [h1] at hf;simp only [yx,yd] at hf;exact .inl hf
  | false=>
   rw [h1] at hf
   cases h2:yK h k with
   | true=>rw [h2] at hf;exact .inr (.inl (Tr.QG hf))
   | false=>rw [h2] at hf;exact .inr (.inr (Tr.QG hf))
def OL (vals:List AV) (r:AV) (l:cu):Prop:=∃t,t∈l/\t.Has (vals,r)
def Xs {h:Nat} {vals:List AV} {r:AV}:∀{l:cu},Ch h vals l=some r->OL vals r l
 | [],hf=>by simp [Ch] at hf
 | t::l,hf=>by
  have tail:Ch h vals l=some r->OL vals r (t::l):=fun q=>by
   obtain ⟨t',h1,h2⟩:=Xs q;exact ⟨t',vl _ h1,h2⟩
  simp only [Ch] at hf
  split at hf
  ·rename_i a q he
   cases hb:ml a vals with
   | true=>
    rw [hb] at hf;simp only [yx,yd] at hf;rw [pM _ _ hb,hf] at he;exact ⟨t,ub,Tr.QG he⟩
   | false=>
    grind
  ·grind
def ai5 {vals:List AV} {r:AV} {l:cu} (h:abC vals l=some r):OL vals r l:=Xs h
def lI (O:br) (f:Nat) (l:cu):Prop:=∀vals r,OL vals r l->ep O f vals r
def lI.nil {O:br} {f:Nat}:lI O f []:=fun _ _ h=>by obtain ⟨t,h,_⟩:=h;cases h
def lI.cR {O:br} {f:Nat} {a b:cu} (ha:lI O f a) (hb:lI O f b):lI O f (a++b):=fun v r h=>by
 obtain ⟨t,h,h2⟩:=h;exact (List.mem_append.1 h).elim (fun h=>ha v r ⟨t,h,h2⟩) (fun h=>hb v r ⟨t,h,h2⟩)
def lI.one {O:br} {f k:Nat} {vals:List AV} {r:AV} (h:ep O f vals r):lI O f [.n k (vals,r) .l .l]:=fun v q hm=>by
 obtain ⟨t,h1,h2⟩:=hm;rcases wA.1 h1 with e | e
 ·subst e;rcases h2 with h2 | h2 | h2
  ·grind
  ·exact h2.elim
  ·exact h2.elim
 ·cases e
def Tr.kX {α:Type} (p:Nat->α->Prop):Tr α->Prop
 | .l=>True
 | .n k v a b=>p k v/\a.kX p/\b.kX p
def Tr.iZ {α:Type} {p:Nat->α->Prop}:Tr.kX p .l:=trivial
def Tr.jK {α:Type} {p:Nat->α->Prop} {k:Nat} {v:α} {a b:Tr α} (h:p k v) (ha:a.kX p) (hb:b.kX p):Tr.kX p (.n k v a b):=⟨h,ha,hb⟩
def Tr.B3 {α:Type} {p:Nat->α->Prop} {i:Nat} {v:α}:∀{t:Tr α},t.kX p->t.find i=some v->p i v
 | .l,_,h=>by simp [Tr.find] at h
 | .n k w a b,ha,h=>by
  simp only [Tr.find] at h
  cases hb:yt i k with
  | true=>
   rw [hb] at h;simp only [yx,yd] at h;subst h;rw [yk hb];exact ha.1
  | false=>
   rw [hb] at h
   cases hc:yK i k with
   | true=>rw [hc] at h;exact Tr.B3 ha.2.1 h
   | false=>rw [hc] at h;exact Tr.B3 ha.2.2 h
abbrev br.sS (O:br) (L:Lib):br:={O with aX:=L}
def Y9 {O:br} {L:Lib} {m:Mp} {S:Nat->Prop} {w:yi} {id:Nat} {o:Obj}:eX (O.sS L) m S w id o↔eX O m S w id o:=by
 cases o<;>exact Iff.rfl
def Za {O:br} {L:Lib} {m:Mp} {S:Nat->Prop} {w:yi} {hp:Hp} {ct:Nat}:aR (O.sS L) m S w hp ct↔aR O m S w hp ct:=
 ⟨fun h=>⟨fun id o p h1 h2=>Y9.1 (h.obj id o p h1 h2),h.lt,h.inj,h.slt,h.blt,h.low,h.lG,h.fP,h.aP⟩,
  fun h=>⟨fun id o p h1 h2=>Y9.2 (h.obj id o p h1 h2),h.lt,h.inj,h.slt,h.blt,h.low,h.lG,h.fP,h.aP⟩⟩
def Yi {O:br} {L:Lib} {n:Nat} {hp:Hp} {ct:Nat} {vals:List AV} {v:AV} {ao:Hp} {aW:Nat} (h:AP O n hp ct vals v ao aW):AP (O.sS L) n hp ct vals v ao aW:=by
 intro m S w args h1 h2;have post:∀e w',sL O m S w hp ct v ao aW e w'->sL (O.sS L) m S w hp ct v ao aW e w':=by
  rintro e w' ⟨u,m',S',k1,k2,k3,k4,k5⟩;exact ⟨u,m',S',k1,Za.2 k2,k3,k4,k5⟩
 exact As.mono (h m S w args (Za.1 h1) h2) post
def fL (O:br) (T:List (Tr cu)):Prop:=∀t,t∈T->t.kX (lI O)
def fL.nil {O:br}:fL O []:=fun _ h=>by cases h
def fL.cons {O:br} {t:Tr cu} {T:List (Tr cu)} (h:t.kX (lI O)) (hT:fL O T):fL O (t::T):=fun u hu=>by
 rcases wA.1 hu with e | e
 ·grind
 ·exact hT u e
def Qf {O:br} {n:Nat}:∀{T:List (Tr cu)} {l:cu},fL O T->Ci n T=some l->lI O n l
 | [],_,_,h=>by simp [Ci] at h
 | t::T,l,hT,h=>by
  have OM:fL O T:=fun u hu=>hT u (vl _ hu)
  simp only [Ci] at h
  split at h
  ·exact Qf OM h
  ·rename_i l1 h1;have c1:=Tr.B3 (hT t ub) h1
   split at h
   ·grind
   ·rename_i m h2;simp only [yd] at h;subst h;exact lI.cR c1 (Qf OM h2)
def aad {O:br} (hO:gN O) {T:List (Tr cu)} (hT:fL O T) (ex:Nat):gN (O.sS (Nl O.aX T ex)) where
 hint:=hO.hint
 mixed:=hO.mixed
 prog:=hO.prog
 aX n sp vals r h hs:=by
  simp only [Nl] at h
  cases hl:O.aX.pure n with
  | some ON=>
   simp only [hl,yd] at h;subst h;exact hO.aX n _ vals r hl hs
  | none=>
   simp only [hl] at h
   cases hb:yt n ex with
   | true=>rw [hb] at h;cases h
   | false=>
    rw [hb] at h;simp only [yH] at h
    cases hf:Ci n T with
    | none=>simp [hf] at h
    | some l=>
     simp only [hf,yd] at h;subst h;exact Qf hT hf vals r (ai5 hs)
 EM n sp hp ct vals v ao aW h hs:=Yi (hO.EM n sp hp ct vals v ao aW h hs)
def Qg {O:br} {L:Lib} (hO:gN (O.sS L)) {f:Nat} {vals:List AV} {r:AV}:∀{t:Te},I6 O.prog L f t=true->t.Has (vals,r)->ep O f vals r
 | .l,_,h=>h.elim
 | .n k e x y,h,hm=>by
  simp only [I6,yg] at h;rcases hm with e1 | hm | hm
  ·subst e1;have h1:=h.1
   split at h1
   ·rename_i r' hr;have e:r'=r:=Y8 _ _ h1;rw [<-e];exact sound hO hr
   ·cases h1
  ·exact Qg hO h.2.1 hm
  ·exact Qg hO h.2.2 hm
def Xt {O:br} {L:Lib} (hO:gN (O.sS L)) {f:Nat}:∀{l:cu},MN O.prog L f l=true->lI O f l
 | [],_=>lI.nil
 | t::l,h=>by
  simp only [MN,yg] at h;intro v q hm;obtain ⟨t',h1,h2⟩:=hm;rcases wA.1 h1 with e | e
  ·subst e;exact Qg hO h.1 h2
  ·exact Xt hO h.2 v q ⟨t',e,h2⟩
def chunk_ok {O:br} (hO:gN O) {T:List (Tr cu)} (hT:fL O T):∀{C:List (Nat×cu)},iV O.prog O.aX T C=true->∀f l,(f,l)∈C->lI O f l
 | [],_,f,l,h=>by cases h
 | (g,l')::C,h,f,l,hm=>by
  simp only [iV,yg] at h;rcases wA.1 hm with e | hm
  ·injection e with e1 e2
   subst e1;subst e2;exact Xt (aad hO hT f) h.1
  ·exact chunk_ok hO hT h.2 f l hm
def aN {α:Type} {p:Nat->α->Prop} {k:Nat} {v:α} {a b:Tr α} (h:p k v) (ha:a.kX p) (hb:b.kX p):Tr.kX p (.n k v a b):=Tr.jK h ha hb
def aL {α:Type} {p:Nat->α->Prop}:Tr.kX p .l:=Tr.iZ
end VE
end
section
namespace VE
open Go
structure HD where
 n:Nat
 live:List (Nat×List Nat)
 out:List (Nat×List Nat)
 mode:List (Nat×Md)
 fz:List (Nat×List Nat)
 deriving Inhabited
def IQ {α:Type} (i:Nat):List (Nat×α)->Option α
 | []=>none
 | (j,a)::l=>bif yt j i then some a else IQ i l
def apI (bU:Nat->Option Nat) (d:HD):Hint where
 n:=d.n
 bU:=bU
 live:=fun l=>match IQ l d.live with | some x=>x | none=>[]
 out:=fun l=>IQ l d.out
 mode:=fun k=>match IQ k d.mode with | some x=>x | none=> .pure
 fz:=fun i=>match IQ i d.fz with | some x=>x | none=>[]
def MO (bU:Tr Nat) (t:Tr HD) (i:Nat):Hint:=apI bU.find (match t.find i with | some d=>d | none=>⟨0,[],[],[],[]⟩)
def zn (t:Tr Nat) (i:Nat):Nat:=match t.find i with | some f=>f | none=>0
def IR (ae:Tr Nat):Tr Nat->Bool
 | .l=>true
 | .n f g a b=>yt (zn ae g) f&&(IR ae a&&IR ae b)
def PW {ae:Tr Nat}:∀{t:Tr Nat},IR ae t=true->t.kX (fun f g=>zn ae g=f)
 | .l,_=>trivial
 | .n f g a b,h=>by
  simp only [IR,yg] at h;exact ⟨yk h.1,PW h.2.1,PW h.2.2⟩
def RE (P:y7) (ae:Tr Nat) (bU:Tr Nat) (hd:Tr HD) (i:Nat) (F:au):Prop:=
 ∃fn,P.funcs[zn ae i]? =some fn/\Ec P (MO bU hd i) fn=some F/\fn.name≠ "runtime.NumGoroutine"
def ai6 {P:y7} {ae bU:Tr Nat} {hd:Tr HD} {i:Nat} {F:au} (h:(P.funcs[zn ae i]?).bind (Ec P (MO bU hd i))=some F) (h2:(P.funcs[zn ae i]?).map (fun fn=>decide (fn.name= "runtime.NumGoroutine"))=some false):RE P ae bU hd i F:=by
 unfold RE
 cases hq:P.funcs[zn ae i]? with
 | none=>rw [hq] at h;cases h
 | some fn=>
  rw [hq] at h h2;refine ⟨fn,rfl,h,fun e=>?_⟩;simp only [Option.map_some,yd,e,yq] at h2;cases h2
end VE
end
section
namespace VE
namespace nd
open Go
open Go.Proofs
def ae:Tr Nat:=(.n 130 176 (.n 69 112 (.n 37 69 (.n 22 53 (.n 14 41 (.n 4 102 (.n 2 29 (.n 1 7 .l .l) (.n 3 33 .l .l)) (.n 9 51 (.n 5 50 .l .l) (.n 11 34 .l .l))) (.n 18 48 (.n 16 45 (.n 15 46 .l .l) (.n 17 47 .l .l)) (.n 20 49 (.n 19 31 .l .l) (.n 21 52 .l .l)))) (.n 30 58 (.n 26 13 (.n 24 54 (.n 23 55 .l .l) (.n 25 56 .l .l)) (.n 28 57 (.n 27 20 .l .l) (.n 29 18 .l .l))) (.n 34 133 (.n 32 138 (.n 31 63 .l .l) (.n 33 62 .l .l)) (.n 36 135 (.n 35 134 .l .l) .l)))) (.n 54 106 (.n 46 113 (.n 41 139 (.n 39 137 (.n 38 136 .l .l) (.n 40 131 .l .l)) (.n 44 125 (.n 42 114 .l .l) (.n 45 124 .l .l))) (.n 50 128 (.n 48 127 (.n 47 126 .l .l) (.n 49 111 .l .l)) (.n 52 129 (.n 51 68 .l .l) (.n 53 103 .l .l)))) (.n 62 89 (.n 58 132 (.n 56 107 (.n 55 105 .l .l) (.n 57 104 .l .l)) (.n 60 66 (.n 59 141 .l .l) (.n 61 83 .l .l))) (.n 66 145 (.n 64 143 (.n 63 142 .l .l) (.n 65 144 .l .l)) (.n 68 147 (.n 67 146 .l .l) .l))))) (.n 100 185 (.n 85 81 (.n 77 65 (.n 73 152 (.n 71 149 (.n 70 148 .l .l) (.n 72 150 .l .l)) (.n 75 151 (.n 74 88 .l .l) (.n 76 64 .l .l))) (.n 81 72 (.n 79 70 (.n 78 67 .l .l) (.n 80 71 .l .l)) (.n 83 73 (.n 82 74 .l .l) (.n 84 80 .l .l)))) (.n 93 93 (.n 89 86 (.n 87 84 (.n 86 82 .l .l) (.n 88 85 .l .l)) (.n 91 92 (.n 90 90 .l .l) (.n 92 91 .l .l))) (.n 97 130 (.n 95 209 (.n 94 210 .l .l) (.n 96 140 .l .l)) (.n 99 201 (.n 98 181 .l .l) .l)))) (.n 115 159 (.n 108 180 (.n 104 165 (.n 102 207 (.n 101 184 .l .l) (.n 103 194 .l .l)) (.n 106 195 (.n 105 166 .l .l) (.n 107 162 .l .l))) (.n 112 212 (.n 110 177 (.n 109 174 .l .l) (.n 111 182 .l .l)) (.n 114 214 (.n 113 213 .l .l) .l))) (.n 123 163 (.n 119 183 (.n 117 179 (.n 116 164 .l .l) (.n 118 178 .l .l)) (.n 121 160 (.n 120 158 .l .l) (.n 122 161 .l .l))) (.n 127 170 (.n 125 168 (.n 124 169 .l .l) (.n 126 171 .l .l)) (.n 129 175 (.n 128 173 .l .l) .l)))))) (.n 261 17 (.n 161 172 (.n 146 221 (.n 138 249 (.n 134 208 (.n 132 255 (.n 131 87 .l .l) (.n 133 211 .l .l)) (.n 136 229 (.n 135 247 .l .l) (.n 137 248 .l .l))) (.n 142 236 (.n 140 251 (.n 139 250 .l .l) (.n 141 252 .l .l)) (.n 144 237 (.n 143 235 .l .l) (.n 145 230 .l .l)))) (.n 154 225 (.n 150 242 (.n 148 234 (.n 147 227 .l .l) (.n 149 241 .l .l)) (.n 152 223 (.n 151 216 .l .l) (.n 153 224 .l .l))) (.n 158 232 (.n 156 228 (.n 155 226 .l .l) (.n 157 231 .l .l)) (.n 160 215 (.n 159 233 .l .l) .l)))) (.n 228 198 (.n 169 282 (.n 165 279 (.n 163 196 (.n 162 220 .l .l) (.n 164 222 .l .l)) (.n 167 280 (.n 166 269 .l .l) (.n 168 281 .l .l))) (.n 173 270 (.n 171 268 (.n 170 287 .l .l) (.n 172 197 .l .l)) (.n 175 243 (.n 174 309 .l .l) (.n 202 110 .l .l)))) (.n 247 273 (.n 242 245 (.n 230 200 (.n 229 199 .l .l) (.n 241 244 .l .l)) (.n 245 271 (.n 243 246 .l .l) (.n 246 272 .l .l))) (.n 251 277 (.n 249 275 (.n 248 274 .l .l) (.n 250 276 .l .l)) (.n 255 36 (.n 252 301 .l .l) .l))))) (.n 293 193 (.n 278 100 (.n 269 115 (.n 265 15 (.n 263 38 (.n 262 101 .l .l) (.n 264 26 .l .l)) (.n 267 27 (.n 266 253 .l .l) (.n 268 94 .l .l))) (.n 274 97 (.n 272 117 (.n 271 21 .l .l) (.n 273 118 .l .l)) (.n 276 96 (.n 275 119 .l .l) (.n 277 43 .l .l)))) (.n 286 157 (.n 282 75 (.n 280 98 (.n 279 99 .l .l) (.n 281 76 .l .l)) (.n 284 156 (.n 283 254 .l .l) (.n 285 155 .l .l))) (.n 290 186 (.n 288 187 (.n 287 203 .l .l) (.n 289 189 .l .l)) (.n 292 123 (.n 291 122 .l .l) .l)))) (.n 336 42 (.n 301 239 (.n 297 192 (.n 295 190 (.n 294 167 .l .l) (.n 296 191 .l .l)) (.n 299 238 (.n 298 188 .l .l) (.n 300 217 .l .l))) (.n 315 28 (.n 305 30 (.n 302 240 .l .l) (.n 308 35 .l .l)) (.n 334 116 (.n 319 23 .l .l) .l))) (.n 384 39 (.n 340 205 (.n 338 44 (.n 337 202 .l .l) (.n 339 121 .l .l)) (.n 382 4 (.n 377 37 .l .l) (.n 383 32 .l .l))) (.n 388 120 (.n 386 109 (.n 385 40 .l .l) (.n 387 108 .l .l)) (.n 390 206 (.n 389 204 .l .l) .l)))))))
def bU:Tr Nat:=(.n 146 67 (.n 84 87 (.n 47 17 (.n 32 383 (.n 21 271 (.n 15 265 (.n 7 1 (.n 4 382 .l .l) (.n 13 26 .l .l)) (.n 18 29 (.n 17 261 .l .l) (.n 20 27 .l .l))) (.n 28 315 (.n 26 264 (.n 23 319 .l .l) (.n 27 267 .l .l)) (.n 30 305 (.n 29 2 .l .l) (.n 31 19 .l .l)))) (.n 40 385 (.n 36 255 (.n 34 11 (.n 33 3 .l .l) (.n 35 308 .l .l)) (.n 38 263 (.n 37 377 .l .l) (.n 39 384 .l .l))) (.n 44 338 (.n 42 336 (.n 41 14 .l .l) (.n 43 277 .l .l)) (.n 46 15 (.n 45 16 .l .l) .l)))) (.n 66 60 (.n 55 23 (.n 51 9 (.n 49 20 (.n 48 18 .l .l) (.n 50 5 .l .l)) (.n 53 22 (.n 52 21 .l .l) (.n 54 24 .l .l))) (.n 62 33 (.n 57 28 (.n 56 25 .l .l) (.n 58 30 .l .l)) (.n 64 76 (.n 63 31 .l .l) (.n 65 77 .l .l)))) (.n 74 82 (.n 70 79 (.n 68 51 (.n 67 78 .l .l) (.n 69 37 .l .l)) (.n 72 81 (.n 71 80 .l .l) (.n 73 83 .l .l))) (.n 81 85 (.n 76 281 (.n 75 282 .l .l) (.n 80 84 .l .l)) (.n 83 61 (.n 82 86 .l .l) .l))))) (.n 116 334 (.n 101 262 (.n 92 91 (.n 88 74 (.n 86 89 (.n 85 88 .l .l) (.n 87 131 .l .l)) (.n 90 90 (.n 89 62 .l .l) (.n 91 92 .l .l))) (.n 97 274 (.n 94 268 (.n 93 93 .l .l) (.n 96 276 .l .l)) (.n 99 279 (.n 98 280 .l .l) (.n 100 278 .l .l)))) (.n 109 386 (.n 105 55 (.n 103 53 (.n 102 4 .l .l) (.n 104 57 .l .l)) (.n 107 56 (.n 106 54 .l .l) (.n 108 387 .l .l))) (.n 113 46 (.n 111 49 (.n 110 202 .l .l) (.n 112 69 .l .l)) (.n 115 269 (.n 114 42 .l .l) .l)))) (.n 131 40 (.n 124 45 (.n 120 388 (.n 118 273 (.n 117 272 .l .l) (.n 119 275 .l .l)) (.n 122 291 (.n 121 339 .l .l) (.n 123 292 .l .l))) (.n 128 50 (.n 126 47 (.n 125 44 .l .l) (.n 127 48 .l .l)) (.n 130 97 (.n 129 52 .l .l) .l))) (.n 139 41 (.n 135 36 (.n 133 34 (.n 132 58 .l .l) (.n 134 35 .l .l)) (.n 137 39 (.n 136 38 .l .l) (.n 138 32 .l .l))) (.n 143 64 (.n 141 59 (.n 140 96 .l .l) (.n 142 63 .l .l)) (.n 145 66 (.n 144 65 .l .l) .l)))))) (.n 210 94 (.n 179 117 (.n 164 116 (.n 156 284 (.n 150 72 (.n 148 70 (.n 147 68 .l .l) (.n 149 71 .l .l)) (.n 152 73 (.n 151 75 .l .l) (.n 155 285 .l .l))) (.n 160 121 (.n 158 120 (.n 157 286 .l .l) (.n 159 115 .l .l)) (.n 162 107 (.n 161 122 .l .l) (.n 163 123 .l .l)))) (.n 172 161 (.n 168 125 (.n 166 105 (.n 165 104 .l .l) (.n 167 294 .l .l)) (.n 170 127 (.n 169 124 .l .l) (.n 171 126 .l .l))) (.n 176 130 (.n 174 109 (.n 173 128 .l .l) (.n 175 129 .l .l)) (.n 178 118 (.n 177 110 .l .l) .l)))) (.n 195 106 (.n 187 288 (.n 183 119 (.n 181 98 (.n 180 108 .l .l) (.n 182 111 .l .l)) (.n 185 100 (.n 184 101 .l .l) (.n 186 290 .l .l))) (.n 191 296 (.n 189 289 (.n 188 298 .l .l) (.n 190 295 .l .l)) (.n 193 293 (.n 192 297 .l .l) (.n 194 103 .l .l)))) (.n 203 287 (.n 199 229 (.n 197 172 (.n 196 163 .l .l) (.n 198 228 .l .l)) (.n 201 99 (.n 200 230 .l .l) (.n 202 337 .l .l))) (.n 207 102 (.n 205 340 (.n 204 389 .l .l) (.n 206 390 .l .l)) (.n 209 95 (.n 208 134 .l .l) .l))))) (.n 243 175 (.n 228 156 (.n 220 162 (.n 214 114 (.n 212 112 (.n 211 133 .l .l) (.n 213 113 .l .l)) (.n 216 151 (.n 215 160 .l .l) (.n 217 300 .l .l))) (.n 224 153 (.n 222 164 (.n 221 146 .l .l) (.n 223 152 .l .l)) (.n 226 155 (.n 225 154 .l .l) (.n 227 147 .l .l)))) (.n 236 142 (.n 232 158 (.n 230 145 (.n 229 136 .l .l) (.n 231 157 .l .l)) (.n 234 148 (.n 233 159 .l .l) (.n 235 143 .l .l))) (.n 240 302 (.n 238 299 (.n 237 144 .l .l) (.n 239 301 .l .l)) (.n 242 150 (.n 241 149 .l .l) .l)))) (.n 270 173 (.n 251 140 (.n 247 135 (.n 245 242 (.n 244 241 .l .l) (.n 246 243 .l .l)) (.n 249 138 (.n 248 137 .l .l) (.n 250 139 .l .l))) (.n 255 132 (.n 253 266 (.n 252 141 .l .l) (.n 254 283 .l .l)) (.n 269 166 (.n 268 171 .l .l) .l))) (.n 279 165 (.n 274 248 (.n 272 246 (.n 271 245 .l .l) (.n 273 247 .l .l)) (.n 276 250 (.n 275 249 .l .l) (.n 277 251 .l .l))) (.n 287 170 (.n 281 168 (.n 280 167 .l .l) (.n 282 169 .l .l)) (.n 309 174 (.n 301 252 .l .l) .l)))))))
def hd:Tr HD:=(.n 120 ⟨22,[(0,[1,5,8,9,10])],[(0,[5])],[],[]⟩ (.n 63 ⟨15,[],[],[],[]⟩ (.n 34 ⟨16,[],[],[],[]⟩ (.n 20 ⟨24,[],[],[],[]⟩ (.n 11 ⟨5,[],[],[],[]⟩ (.n 4 ⟨15,[],[],[],[]⟩ (.n 2 ⟨32,[(1,[0,5])],[(1,[])],[],[]⟩ (.n 1 ⟨240,[],[],[],[]⟩ .l .l) (.n 3 ⟨40,[(2,[0,3]),(5,[0,3,4])],[(2,[]),(5,[0,3])],[],[]⟩ .l .l)) (.n 9 ⟨42,[],[],[],[]⟩ (.n 5 ⟨48,[],[],[(9,.heap)],[]⟩ .l .l) .l)) (.n 17 ⟨26,[],[],[],[]⟩ (.n 15 ⟨4,[],[],[],[]⟩ (.n 14 ⟨8,[],[],[],[]⟩ .l .l) (.n 16 ⟨15,[],[],[],[]⟩ .l .l)) (.n 19 ⟨26,[],[],[],[]⟩ (.n 18 ⟨25,[],[],[],[]⟩ .l .l) .l))) (.n 27 ⟨100,[(2,[1,5,9,10,46,47]),(4,[1,5,9,10,11,46,47,50,51,52])],[(2,[1,5,9,10]),(4,[1,5,9,10,46,47])],[],[]⟩ (.n 24 ⟨27,[],[],[],[]⟩ (.n 22 ⟨36,[],[],[],[]⟩ (.n 21 ⟨27,[(1,[0,1,5])],[(1,[])],[],[]⟩ .l .l) (.n 23 ⟨5,[],[],[],[]⟩ .l .l)) (.n 26 ⟨101,[(2,[0,2,3,11,12,69,70,71]),(4,[0,2,3,11,12,14,69,70,71,75,76,77])],[(2,[12]),(4,[0,2,3,11,12,69,70,71])],[],[(18,[17])]⟩ (.n 25 ⟨67,[],[],[],[]⟩ .l .l) .l)) (.n 31 ⟨7,[],[],[],[]⟩ (.n 29 ⟨26,[(1,[0,1,5])],[(1,[])],[],[]⟩ (.n 28 ⟨27,[(1,[0,1,5])],[(1,[])],[],[]⟩ .l .l) (.n 30 ⟨15,[],[],[],[]⟩ .l .l)) (.n 33 ⟨15,[(0,[5,6,7])],[(0,[])],[],[]⟩ (.n 32 ⟨32,[(0,[0,3,9,10,11])],[(0,[])],[],[]⟩ .l .l) .l)))) (.n 49 ⟨16,[],[],[],[]⟩ (.n 41 ⟨39,[],[],[],[]⟩ (.n 38 ⟨8,[],[],[],[]⟩ (.n 36 ⟨5,[],[],[],[]⟩ (.n 35 ⟨22,[(0,[1,5,8,9,10])],[(0,[5])],[],[]⟩ .l .l) (.n 37 ⟨21,[(0,[0,2,9,10,11])],[(0,[0])],[],[]⟩ .l .l)) (.n 40 ⟨32,[],[],[(1,.dyn)],[]⟩ (.n 39 ⟨38,[(0,[4,8,9,18,19,20])],[(0,[9])],[],[]⟩ .l .l) .l)) (.n 46 ⟨16,[],[],[],[]⟩ (.n 44 ⟨13,[],[],[],[]⟩ (.n 42 ⟨19,[(0,[0,3])],[(0,[])],[],[]⟩ .l .l) (.n 45 ⟨25,[],[],[],[]⟩ .l .l)) (.n 48 ⟨21,[],[],[],[]⟩ (.n 47 ⟨13,[],[],[],[]⟩ .l .l) .l))) (.n 56 ⟨41,[(0,[1,2,4,5,11,12])],[(0,[4,5])],[],[]⟩ (.n 53 ⟨11,[],[],[],[]⟩ (.n 51 ⟨5,[],[],[],[]⟩ (.n 50 ⟨9,[],[],[],[]⟩ .l .l) (.n 52 ⟨28,[],[],[],[]⟩ .l .l)) (.n 55 ⟨28,[],[],[],[]⟩ (.n 54 ⟨10,[],[],[],[]⟩ .l .l) .l)) (.n 60 ⟨11,[],[],[],[]⟩ (.n 58 ⟨16,[],[],[],[]⟩ (.n 57 ⟨8,[],[],[],[]⟩ .l .l) (.n 59 ⟨26,[(1,[0,1,5])],[(1,[])],[],[]⟩ .l .l)) (.n 62 ⟨22,[],[],[],[]⟩ (.n 61 ⟨17,[],[],[],[]⟩ .l .l) .l))))) (.n 91 ⟨7,[],[],[],[]⟩ (.n 77 ⟨22,[(0,[1,5,8,9,10])],[(0,[5])],[],[]⟩ (.n 70 ⟨9,[],[],[],[]⟩ (.n 67 ⟨25,[],[],[],[]⟩ (.n 65 ⟨9,[],[],[],[]⟩ (.n 64 ⟨29,[],[],[],[]⟩ .l .l) (.n 66 ⟨30,[],[],[],[]⟩ .l .l)) (.n 69 ⟨6,[],[],[],[]⟩ (.n 68 ⟨8,[],[],[],[]⟩ .l .l) .l)) (.n 74 ⟨34,[],[],[],[]⟩ (.n 72 ⟨16,[],[],[],[]⟩ (.n 71 ⟨16,[],[],[],[]⟩ .l .l) (.n 73 ⟨8,[],[],[],[]⟩ .l .l)) (.n 76 ⟨9,[],[],[],[]⟩ (.n 75 ⟨14,[],[],[],[]⟩ .l .l) .l))) (.n 84 ⟨20,[],[],[],[]⟩ (.n 81 ⟨8,[],[],[],[]⟩ (.n 79 ⟨22,[(0,[1,5,8,9,10])],[(0,[5])],[],[]⟩ (.n 78 ⟨9,[],[],[],[]⟩ .l .l) (.n 80 ⟨10,[],[],[],[]⟩ .l .l)) (.n 83 ⟨8,[],[],[],[]⟩ (.n 82 ⟨137,[(0,[3,4,6,7,11,12,32,33,34]),(3,[3,4,6,7,11,12,14,15,16,32,33,34,54,55]),(6,[3,4,6,7,11,12,14,15,32,33,34,89,90]),(9,[11,27,118,119])],[(0,[4,11]),(3,[3,4,6,7,11,12,14,15,32,33,34]),(6,[3,4,6,7,11,12,15,32,33,34]),(9,[27])],[],[]⟩ .l .l) .l)) (.n 88 ⟨23,[(0,[3,9,10,11])],[(0,[3])],[],[]⟩ (.n 86 ⟨76,[],[],[],[]⟩ (.n 85 ⟨22,[(0,[1,5,8,9,10])],[(0,[5])],[],[]⟩ .l .l) (.n 87 ⟨22,[(0,[1,5,8,9,10])],[(0,[5])],[],[]⟩ .l .l)) (.n 90 ⟨143,[(0,[0,1,5,6,19,20]),(2,[5,6,49,50]),(4,[5,6,8,49,50,53,54]),(7,[5,6,8,9,10,11,49,50,53,54]),(9,[5,6,12,119,120])],[(0,[5,6]),(2,[5,6]),(4,[5,6,49,50]),(7,[5,6,8,49,50,53,54]),(9,[12])],[],[]⟩ (.n 89 ⟨46,[(0,[0,1,4,11,12,13]),(2,[0,1,4,5,6,7,11,12,13,18,19,20])],[(0,[4]),(2,[0,1,4,7,11,12,13])],[],[(14,[7])]⟩ .l .l) .l)))) (.n 106 ⟨21,[(0,[2,3,6,9,10,11])],[(0,[3,6])],[],[]⟩ (.n 99 ⟨69,[(1,[3,4,5,6]),(6,[6,10,11])],[(1,[3,6]),(6,[10])],[],[]⟩ (.n 96 ⟨4,[],[],[],[]⟩ (.n 94 ⟨13,[],[],[],[]⟩ (.n 92 ⟨22,[(0,[1,5,8,9,10])],[(0,[5])],[],[]⟩ .l .l) (.n 95 ⟨9,[],[],[],[]⟩ .l .l)) (.n 98 ⟨13,[],[],[],[]⟩ (.n 97 ⟨20,[],[],[],[]⟩ .l .l) .l)) (.n 103 ⟨34,[],[],[],[]⟩ (.n 101 ⟨34,[],[],[],[]⟩ (.n 100 ⟨66,[],[],[],[]⟩ .l .l) (.n 102 ⟨9,[],[],[],[]⟩ .l .l)) (.n 105 ⟨22,[],[],[],[]⟩ (.n 104 ⟨32,[],[],[],[]⟩ .l .l) .l))) (.n 114 ⟨10,[],[],[],[]⟩ (.n 111 ⟨6,[],[],[],[]⟩ (.n 108 ⟨6,[],[],[],[]⟩ (.n 107 ⟨11,[],[],[],[]⟩ .l .l) (.n 110 ⟨41,[(0,[0,2,3,4])],[(0,[2,3,4])],[],[]⟩ .l .l)) (.n 113 ⟨11,[],[],[],[]⟩ (.n 112 ⟨16,[],[],[],[]⟩ .l .l) .l)) (.n 117 ⟨5,[],[],[],[]⟩ (.n 116 ⟨32,[],[],[],[]⟩ (.n 115 ⟨23,[],[],[],[]⟩ .l .l) .l) (.n 119 ⟨67,[],[],[],[]⟩ (.n 118 ⟨29,[],[],[],[]⟩ .l .l) .l)))))) (.n 267 ⟨55,[],[],[],[]⟩ (.n 158 ⟨41,[(2,[0,1,5])],[(2,[])],[],[]⟩ (.n 136 ⟨24,[],[],[],[]⟩ (.n 127 ⟨21,[(0,[1,8,9,10])],[(0,[])],[],[]⟩ (.n 124 ⟨7,[],[],[],[]⟩ (.n 122 ⟨9,[],[],[],[]⟩ (.n 121 ⟨22,[(0,[1,5,8,9,10])],[(0,[5])],[],[]⟩ .l .l) (.n 123 ⟨23,[(0,[3,9,10,11])],[(0,[3])],[],[]⟩ .l .l)) (.n 126 ⟨24,[],[],[],[]⟩ (.n 125 ⟨15,[(0,[5,6,7])],[(0,[])],[],[]⟩ .l .l) .l)) (.n 132 ⟨19,[(0,[0,1,7,8])],[(0,[])],[],[]⟩ (.n 130 ⟨23,[(0,[2,3,4])],[(0,[2,4])],[],[]⟩ (.n 129 ⟨19,[],[],[],[]⟩ .l .l) (.n 131 ⟨26,[(0,[0,1,4,5,9,10])],[(0,[4,5])],[],[]⟩ .l .l)) (.n 134 ⟨12,[],[],[],[]⟩ (.n 133 ⟨20,[(0,[0,1,5,6]),(2,[0,1,3,5,6,9,10])],[(0,[]),(2,[0,1,5,6])],[(0,.heap)],[]⟩ .l .l) .l))) (.n 148 ⟨21,[],[],[],[]⟩ (.n 145 ⟨50,[],[],[],[]⟩ (.n 142 ⟨10,[],[],[],[]⟩ (.n 137 ⟨137,[(2,[0,1,6,7,8]),(4,[9,10,11,12,13,14]),(6,[9,11,12,13,96,97])],[(2,[6,7]),(4,[9,11,12,13]),(6,[11,12,13])],[(5,.own),(7,.own),(8,.heap)],[]⟩ .l .l) (.n 144 ⟨80,[(0,[1,5,20,21,22]),(2,[1,5,6,7,8,20,21,22,27,28,29])],[(0,[5]),(2,[1,5,6,8,20,21,22])],[],[]⟩ .l .l)) (.n 147 ⟨26,[],[],[],[]⟩ (.n 146 ⟨7,[],[],[],[]⟩ .l .l) .l)) (.n 155 ⟨23,[(0,[1,2,4,5])],[(0,[4,5])],[],[]⟩ (.n 150 ⟨9,[],[],[],[]⟩ (.n 149 ⟨14,[],[],[],[]⟩ .l .l) (.n 151 ⟨13,[],[],[],[]⟩ .l .l)) (.n 157 ⟨54,[(1,[0,1,5,6,21,22])],[(1,[0,5,6])],[],[]⟩ (.n 156 ⟨9,[],[],[],[]⟩ .l .l) .l)))) (.n 230 ⟨11,[],[],[],[]⟩ (.n 166 ⟨21,[(0,[0,3])],[(0,[0,3])],[],[]⟩ (.n 163 ⟨9,[],[],[],[]⟩ (.n 160 ⟨19,[(0,[0,1,7,8])],[(0,[])],[],[]⟩ (.n 159 ⟨41,[(0,[0,1,5,6,13,14])],[(0,[5])],[],[]⟩ .l .l) (.n 161 ⟨18,[(0,[6,7,8])],[(0,[])],[],[]⟩ .l .l)) (.n 165 ⟨135,[(3,[2,8,9,10,11,13,14,15,16]),(6,[2,8,9,10,14,15,16,17,18])],[(3,[2,8,9,10,11,13,14,15]),(6,[2,8,14,15,17,18])],[],[]⟩ (.n 164 ⟨84,[],[],[],[]⟩ .l .l) .l)) (.n 202 ⟨73,[(2,[5,6,7])],[(2,[5,6,7])],[],[]⟩ (.n 169 ⟨186,[(1,[0,1,5,6,7,8]),(4,[0,1,5,6,11,12,104,105]),(7,[0,1,5,6,17,156,157])],[(1,[0,1,5,6]),(4,[0,1,5,6,11,12]),(7,[0,5,6,17])],[],[]⟩ (.n 168 ⟨40,[(0,[1,5,12,13,14])],[(0,[5])],[],[]⟩ .l .l) (.n 172 ⟨25,[],[],[],[]⟩ .l .l)) (.n 229 ⟨32,[],[],[],[]⟩ (.n 228 ⟨13,[],[],[],[]⟩ .l .l) .l))) (.n 255 ⟨29,[],[],[],[]⟩ (.n 246 ⟨6,[],[],[],[]⟩ (.n 243 ⟨63,[],[],[],[]⟩ (.n 241 ⟨14,[],[],[],[]⟩ .l .l) (.n 245 ⟨15,[],[],[],[]⟩ .l .l)) (.n 252 ⟨7,[],[],[],[]⟩ (.n 247 ⟨10,[],[],[],[]⟩ .l .l) .l)) (.n 264 ⟨63,[],[],[],[]⟩ (.n 262 ⟨13,[],[],[],[]⟩ (.n 261 ⟨19,[(0,[0,3])],[(0,[])],[],[]⟩ .l .l) (.n 263 ⟨96,[],[],[],[]⟩ .l .l)) (.n 266 ⟨9,[],[],[],[]⟩ (.n 265 ⟨6,[],[],[],[]⟩ .l .l) .l))))) (.n 296 ⟨41,[(2,[0,1,5])],[(2,[])],[],[]⟩ (.n 282 ⟨39,[(1,[1,3,4])],[(1,[1,3])],[],[]⟩ (.n 275 ⟨19,[(0,[0,1])],[(0,[0])],[],[]⟩ (.n 272 ⟨17,[(0,[0,3])],[(0,[0])],[],[]⟩ (.n 269 ⟨14,[],[],[],[]⟩ (.n 268 ⟨14,[],[],[],[]⟩ .l .l) (.n 271 ⟨9,[],[],[],[]⟩ .l .l)) (.n 274 ⟨25,[],[],[],[]⟩ (.n 273 ⟨18,[],[],[],[]⟩ .l .l) .l)) (.n 279 ⟨40,[],[],[],[]⟩ (.n 277 ⟨61,[],[],[],[]⟩ (.n 276 ⟨54,[],[],[],[]⟩ .l .l) (.n 278 ⟨16,[],[],[],[]⟩ .l .l)) (.n 281 ⟨25,[(0,[0,2,3,4])],[(0,[2,3,4])],[],[]⟩ (.n 280 ⟨57,[],[],[],[]⟩ .l .l) .l))) (.n 289 ⟨206,[(2,[0,8,9,10,11]),(4,[8,9,10,11,12,13]),(6,[8,9,10,11,12,13,14,15,16]),(10,[8,9,10,11,12,13,14,19,20])],[(2,[8,9,10,11]),(4,[8,10,11,12]),(6,[8,9,10,11,12,13,14,15]),(10,[8,9,10,11,12,13,14,19])],[(5,.heap)],[]⟩ (.n 286 ⟨14,[],[],[],[]⟩ (.n 284 ⟨7,[],[],[],[]⟩ (.n 283 ⟨13,[],[],[],[]⟩ .l .l) (.n 285 ⟨9,[],[],[],[]⟩ .l .l)) (.n 288 ⟨40,[(1,[0,2,3,4])],[(1,[0,2,3,4])],[],[]⟩ (.n 287 ⟨20,[(0,[0,3])],[(0,[])],[],[]⟩ .l .l) .l)) (.n 293 ⟨72,[(0,[0,1,5,6]),(2,[0,1,5,6,7,8])],[(0,[5]),(2,[0,1,5,6,7])],[],[]⟩ (.n 291 ⟨12,[(0,[0,1])],[(0,[0])],[],[]⟩ (.n 290 ⟨20,[(0,[0,3,4])],[(0,[3])],[],[]⟩ .l .l) (.n 292 ⟨25,[(0,[0,1,5])],[(0,[5])],[],[]⟩ .l .l)) (.n 295 ⟨42,[(0,[0,1,5,6,7])],[(0,[5])],[],[]⟩ (.n 294 ⟨15,[],[],[],[]⟩ .l .l) .l)))) (.n 338 ⟨8,[],[],[],[]⟩ (.n 305 ⟨16,[(0,[0,3])],[(0,[])],[],[]⟩ (.n 300 ⟨21,[(0,[0])],[(0,[0])],[],[]⟩ (.n 298 ⟨9,[],[],[],[]⟩ (.n 297 ⟨35,[(0,[0,1,5,6,7])],[(0,[5])],[],[]⟩ .l .l) (.n 299 ⟨39,[(0,[0,1,6,7,8])],[(0,[6,7])],[],[]⟩ .l .l)) (.n 302 ⟨13,[],[],[],[]⟩ (.n 301 ⟨77,[(0,[0,1,2,7,9,10])],[(0,[9])],[],[]⟩ .l .l) .l)) (.n 334 ⟨72,[],[],[],[]⟩ (.n 315 ⟨9,[],[],[],[]⟩ (.n 308 ⟨9,[],[],[],[]⟩ .l .l) (.n 319 ⟨5,[],[],[],[]⟩ .l .l)) (.n 337 ⟨23,[],[],[],[]⟩ (.n 336 ⟨17,[],[],[],[]⟩ .l .l) .l))) (.n 385 ⟨26,[(1,[0,1,5])],[(1,[])],[],[]⟩ (.n 382 ⟨159,[(5,[9,13,116,117]),(8,[9,13,15,116,117,134,135])],[(5,[]),(8,[9,13,116,117])],[],[]⟩ (.n 340 ⟨62,[(1,[4,5,6])],[(1,[5])],[],[]⟩ (.n 339 ⟨29,[],[],[],[]⟩ .l .l) (.n 377 ⟨38,[(0,[0,5,6,7])],[(0,[6])],[],[]⟩ .l .l)) (.n 384 ⟨56,[(0,[0,1,6,7]),(2,[0,1,6,7,8,9])],[(0,[6]),(2,[0,1,6,7,8])],[],[(14,[8])]⟩ (.n 383 ⟨26,[],[],[(3,.heap)],[]⟩ .l .l) .l)) (.n 388 ⟨84,[(4,[0,6]),(6,[0,6])],[(4,[0,6]),(6,[0,6])],[],[]⟩ (.n 387 ⟨32,[],[],[(1,.dyn)],[]⟩ (.n 386 ⟨31,[],[],[],[]⟩ .l .l) .l) (.n 390 ⟨25,[(0,[1,5,6]),(2,[1,5,7])],[(0,[1,5]),(2,[5])],[],[]⟩ (.n 389 ⟨27,[(1,[0,1,5])],[(1,[5])],[],[]⟩ .l .l) .l)))))))
def apJ:IR ae bU=true:=by decide+kernel
noncomputable def cc (i:Nat):au:=match (Tryz.prog.funcs[zn ae i]?).bind (Ec Tryz.prog (MO bU hd i)) with
 | some F=>F
 | none=>⟨[],.skip⟩
end nd
def nest:VC->List VC
 | .seq a b=>nest a++nest b
 | .cond _ a b=>nest a++nest b
 | .dD _ a=>nest a
 | .loop _ a=>[a]
 | .rf _ _ a b=>[a,b]
 | _=>[]
def nf:VC->List VC->VC×List VC
 | .seq a b,l=>(.seq (nf a l).1 (nf b (nf a l).2).1,(nf b (nf a l).2).2)
 | .cond x a b,l=>(.cond x (nf a l).1 (nf b (nf a l).2).1,(nf b (nf a l).2).2)
 | .dD i a,l=>(.dD i (nf a l).1,(nf a l).2)
 | .loop v a,l=>(.loop v (l.headD a),l.tail)
 | .rf f ps a b,l=>(.rf f ps (l.headD a) (l.tail.headD b),l.tail.tail)
 | c,l=>(c,l)
def ac6 (c:VC):List Nat->VC
 | []=>c
 | i::r=>ac6 ((nest c).getD i .skip) r
def ak {α:Type} {a b:α} (_:a=b):α:=b
attribute [go_sem] ak
noncomputable def bG (F:au) (p:List Nat) (l:List VC):VC:=(nf (ac6 F.body p) l).1
noncomputable def fnv (F:au) (l:List VC):au:=⟨F.dd,(nf F.body l).1⟩
end VE
end
