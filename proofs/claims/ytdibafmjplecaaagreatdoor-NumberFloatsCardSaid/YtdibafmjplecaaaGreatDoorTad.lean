import Derived.Lib.AppendIntMem
import Derived.OwnWalk
import Derived.WalkKit
import Derived.Test.YtdibafmjplecaaaGreatDoorProg
import Derived.KernelRfl
import Derived.Attr
import Derived.Test.YtdibafmjplecaaaGreatDoorTac
import Derived.Test.YtdibafmjplecaaaGreatDoorTaa
import Derived.Test.YtdibafmjplecaaaGreatDoorTab
set_option linter.all false
set_option maxRecDepth 100000
open Array renaming size_replicate→vJ
open Bool renaming and_eq_true→yf,false_eq_true→yC
open Go renaming FloatKind→vS,IntKind→xc,Program→y8,World→yi
open List renaming mem_cons→wV,mem_cons_of_mem→vt,mem_cons_self→uA
open Nat renaming beq→yq,blt→yK,eq_of_beq_eq_true→yj
open Option.some renaming injEq→yb
section
namespace Go.Proofs
open Go.Shelf
open Go.RowKit Go.Sort Go.Lib
set_option maxHeartbeats 6400000 in
set_option maxRecDepth 100000 in
def Tryz.ak7 (u:Nat) (BK:u<18446744073709551616) (w:yi)
  (BJ:Lib.TabIs Tryz.prog w "internal/strconv.uint64pow10" .u64 Lib.pow10Tab):
  Calls Tryz.prog 207 #[.int .u64 u,.int .i64 10] w fun e w'=>e= .returned (.string ⟨(Lib.decDigits u).toArray⟩)/\∃k os,w'=grow (w.drewN k) os:=by
 by_cases hs:u<100
 ·go_enter Tryz.func207,Tryz.ntmps207
  go_wp2_with (go_at_call 228;refine (Tryz.internal_strconv_small u hs _).mono ?_;rintro e w' ⟨rfl,rfl⟩)
  go_ret
  exact ⟨rfl,0,#[],by simp [World.drewN_zero]⟩
 ·have pL:1<=u:=by omega
  have aGl:Lib.nDigits u<=20:=by have:=Lib.numDigits_eq u pL BK;split at this<;>omega
  have hal:Tryz.prog.arrayLen 247=24:=by simp [Program.arrayLen,Tryz.underlying247]
  have Ei:∀W,(Instr.sliceAt 247 (.pointer (some ⟨w.heap.size,0,none⟩)) none (some (.int .i64 (Lib.nDigits u:Int))) none).run Tryz.prog W= .ok (.slice (some ⟨w.heap.size,0,none⟩) (Lib.nDigits u) 24) W:=fun W=>by
   rw [run_sliceAt_array_h W 247 ⟨w.heap.size,0,none⟩ (by simp [Program.arrayLen,Program.elem,Tryz.underlying247]) .i64 (Lib.nDigits u:Int) (by omega) (by rw [hal];omega)]
   go_simp
  have Xw:=Lib.holds_zero0 w 247 (Lib.nDigits u) (by omega);have ahv:=Tryz.internal_strconv_formatBase10 w.heap.size 0 24 u (Array.replicate (Lib.nDigits u) 0) (w.alloc (.cells Lib.zeros24 247)) Xw (by rw [vJ];exact Lib.lt_pow_nDigits u) BK (by rw [vJ];omega)
  rw [vJ] at ahv;have HH0:=Lib.hid Xw;have iu:(100:Int)<=(u:Int):=by omega
  clear Xw hal
  go_enter Tryz.func207,Tryz.ntmps207
  go_wp2_with (first
   | (go_at_call 229;refine (Tryz.internal_strconv_numDigits u pL BK _ (Lib.tabIs_alloc BJ _)).mono ?_;rintro e w' ⟨rfl,rfl⟩))
  go_at_call 230
  refine ahv.mono ?_;rintro e w' ⟨rfl,k,v',dk,rfl,hF⟩;have hcv:(convert 197 9 (.slice (some ⟨w.heap.size,0,none⟩) (Lib.nDigits u) 24)).run Tryz.prog ((putRow (fun (b:UInt8)=>Value.int .u8 (b.toNat:Int)) (w.alloc (.cells Lib.zeros24 247)) w.heap.size 0 dk).drewN k)= .ok (.string ⟨(Lib.decDigits u).toArray⟩) ((putRow (fun (b:UInt8)=>Value.int .u8 (b.toNat:Int)) (w.alloc (.cells Lib.zeros24 247)) w.heap.size 0 dk).drewN k):=by
   have h:=run_convert_bytes_back (P:=Tryz.prog) ((putRow (fun (b:UInt8)=>Value.int .u8 (b.toNat:Int)) (w.alloc (.cells Lib.zeros24 247)) w.heap.size 0 dk).drewN k) 197 9 5 ⟨w.heap.size,0,none⟩ 24 (Lib.decDigits u) Tryz.underlying197 Tryz.underlying5 Tryz.underlying9 (fun j hj=>by
    rw [Lib.row_is_numeral hF j hj,Lib.add_plain,World.cell?_drewN]
    exact cell?_putRow (fun (b:UInt8)=>Value.int .u8 (b.toNat:Int)) _ w.heap.size 0 _ dk HH0.out (by rw [hF.size,vJ]) j (by rw [hF.size];rw [Lib.decDigits_length] at hj;exact hj))
   rw [Lib.decDigits_length] at h;exact h
  go_wp2
  go_ret
  obtain ⟨os,eo⟩:=Lib.fin_at w (.cells Lib.zeros24 247) dk k 0;exact ⟨rfl,k,os,eo⟩
def Tryz.ak8 (u:Nat) (BK:u<18446744073709551616) (w:yi)
  (BJ:Lib.TabIs Tryz.prog w "internal/strconv.uint64pow10" .u64 Lib.pow10Tab):
  Calls Tryz.prog 170 #[.int .u64 u,.int .i64 10] w fun e w'=>e= .returned (.string ⟨(Lib.decDigits u).toArray⟩)/\∃k os,w'=grow (w.drewN k) os:=by
 go_enter Tryz.func170,Tryz.ntmps170
 go_wp2_with (go_at_call 207;refine (Tryz.ak7 u BK _ BJ).mono ?_;rintro e w' ⟨rfl,k,os,rfl⟩)
 go_ret
 exact ⟨rfl,k,os,rfl⟩
end Go.Proofs
end
section
namespace VE
abbrev Rq (d:Nat) (o:Op):aZ:=⟨some d,none,o⟩
abbrev Rt (d g:Nat) (o:Op):aZ:=⟨some d,some (g,true),o⟩
abbrev Rf (d g:Nat) (o:Op):aZ:=⟨some d,some (g,false),o⟩
abbrev qm (d s:Nat):aZ:=⟨some d,none,.pG (.t s)⟩
abbrev qc0 (d f:Nat):aZ:=⟨some d,none,.call .pure (.c (.fn (.f f) [] [])) []⟩
abbrev Cm (d f a:Nat):aZ:=⟨some d,none,.call .pure (.c (.fn (.f f) [] [])) [.t a]⟩
abbrev qc2 (d f a b:Nat):aZ:=⟨some d,none,.call .pure (.c (.fn (.f f) [] [])) [.t a,.t b]⟩
abbrev qc3 (d f a b c:Nat):aZ:=⟨some d,none,.call .pure (.c (.fn (.f f) [] [])) [.t a,.t b,.t c]⟩
abbrev ql (d n s:Nat):aZ:=⟨some d,none,.ld n false (.t s)⟩
abbrev qL (d n s:Nat):aZ:=⟨some d,none,.ld n true (.t s)⟩
abbrev qk (d:Nat) (k:Int):aZ:=⟨some d,none,.pG (.c (.int .i64 k))⟩
abbrev qf (d:Nat):aZ:=⟨some d,none,.pG (.c (.bool false))⟩
abbrev qz (d:Nat):aZ:=⟨some d,none,.pG (.c .ae)⟩
abbrev qi (d n s i:Nat):aZ:=⟨some d,none,.cd n (.t s) (.t i)⟩
abbrev qo (d n s:Nat):aZ:=⟨some d,none,.off n (.t s)⟩
abbrev qn (d n s:Nat):aZ:=⟨some d,none,.len n (.t s)⟩
abbrev qe (d n s:Nat):aZ:=⟨some d,none,.ext n (.t s)⟩
abbrev qb (d n s:Nat):aZ:=⟨some d,none,.box n (.t s)⟩
abbrev qs (n a b:Nat):aZ:=⟨none,none,.st n (.t a) (.t b)⟩
abbrev qa (d a:Nat) (k:Int):aZ:=⟨some d,none,.bin .add (.t a) (.c (.int .i64 k))⟩
abbrev qN (d a:Nat) (k:Int):aZ:=⟨some d,none,.bin .neq (.t a) (.c (.int .i64 k))⟩
abbrev qE (d a:Nat) (k:Int):aZ:=⟨some d,none,.bin .eql (.t a) (.c (.int .i64 k))⟩
abbrev qA (d a b:Nat):aZ:=⟨some d,none,.bin .add (.t a) (.t b)⟩
abbrev qT (d a b:Nat):aZ:=⟨some d,none,.bin .lss (.t a) (.t b)⟩
abbrev qp (d c b:Nat):aZ:=⟨some d,none,.pick (.t c) (.c (.bool true)) (.t b)⟩
abbrev qq (d c b:Nat):aZ:=⟨some d,none,.pick (.t c) (.t b) (.c (.bool false))⟩
abbrev X.k (n:Int):X:=.c (.int .i64 n)
abbrev X.u (n:Int):X:=.c (.int .u64 n)
abbrev X.F (n:Nat):X:=.c (.fn (.f n) [] [])
abbrev X.s (l:List Nat):X:=.c (.str l)
abbrev AV.i (n:Int):AV:=.int .i64 n
abbrev Op.q (f:Nat) (l:List X):Op:=.call .pure (.c (.fn (.f f) [] [])) l
abbrev Op.y (o:Go.BinOp) (a:Nat) (n:Int):Op:=.bin o (.t a) (.c (.int .i64 n))
abbrev Op.z (o:Go.BinOp) (a b:Nat):Op:=.bin o (.t a) (.t b)
abbrev Op.m (a:Nat):Op:=.pG (.t a)
abbrev VC.g (o:List aZ) (b:VC):VC:=.seq (.mY o) b
abbrev VC.q (a b:VC):VC:=.seq a b
abbrev VC.e (o:List aZ):VC:=.seq (.mY o) .ret
abbrev VC.i (t:Nat) (a:VC):VC:=.cond (.t t) a .skip
abbrev VC.h (o:List aZ) (t:Nat) (a b:VC):VC:=.seq (.seq (.mY o) (.cond (.t t) a .skip)) b
end VE
end
section
namespace VE
inductive Tr (α:Type) where
 | l
 | n (k:Nat) (v:α) (a b:Tr α)
def Tr.find {α:Type}:Tr α->Nat->Option α
 | .l,_=>none
 | .n k v a b,i=>bif yq i k then some v else bif yK i k then a.find i else b.find i
end VE
end
section
namespace VE
open Go (IntKind FloatKind)
def K0:xc->Nat
 | .i8=>0 | .i16=>1 | .i32=>2 | .i64=>3 | .u8=>4 | .u16=>5 | .u32=>6 | .u64=>7
def Xx:Int->Int->Bool
 | .ofNat a,.ofNat b=>yq a b
 | .negSucc a,.negSucc b=>yq a b
 | _,_=>false
def NK:Bool->Bool->Bool
 | true,true | false,false=>true
 | _,_=>false
def eqF:vS->vS->Bool
 | .f32,.f32 | .f64,.f64=>true
 | _,_=>false
mutual
def fS:AV->AV->Bool
 | .int k a,.int k' b=>yq (K0 k) (K0 k')&&Xx a b
 | .bool a,.bool b=>NK a b
 | .aw k a,.aw k' b=>eqF k k'&&yq a b
 | .str a,.str b=>cG a b
 | .km,.km=>true
 | .b7 a,.b7 b=>lj a b
 | .ae,.ae=>true
 | .aC e n a,.aC e' n' b=>NK e e'&&(yq n n'&&lj a b)
 | .bE e s n a,.bE e' s' n' b=>NK e e'&&(yq s s'&&(yq n n'&&lj a b))
 | .fn (.f g) a b,.fn (.f g') a' b'=>yq g g'&&(lj a a'&&lj b b')
 | .ic,.ic=>true
 | .ju,.ju=>true
 | .iL a b,.iL a' b'=>lj a a'&&lj b b'
 | .agg a,.agg b=>lj a b
 | .aa a,.aa b=>lj a b
 | .undef,.undef=>true
 | _,_=>false
def lj:List AV->List AV->Bool
 | [],[]=>true
 | a::x,b::y=>fS a b&&lj x y
 | _,_=>false
end
def hI:Int->Nat
 | .ofNat n=>n
 | .negSucc n=>n+n
def hS:List Nat->Nat
 | []=>1
 | b::r=>(b+257*hS r)%65521
mutual
def hV:AV->Nat
 | .int _ n=>hI n
 | .bool b=>bif b then 1 else 2
 | .aw _ n=>n
 | .str s=>hS s
 | .aC _ n cs=>n+hL cs
 | .agg cs=>hL cs
 | .aa cs=>hL cs
 | _=>5
def hL:List AV->Nat
 | []=>7
 | v::r=>(hV v+263*hL r)%65521
end
abbrev Te:=Tr (List AV×AV)
abbrev ak:=List Te
def Bf (h:Nat) (ao:List AV):ak->Option AV
 | []=>none
 | t::l=>match t.find h with
  | some (a,r)=>bif lj a ao then some r else Bf h ao l
  | none=>Bf h ao l
def af5 (ao:List AV) (l:ak):Option AV:=Bf (hL ao) ao l
abbrev Te.o (h:Nat) (a:List AV) (r:AV):Te:= .n h (a,r) .l .l
abbrev Te.m (h:Nat) (a:List AV) (r:AV) (x y:Te):Te:= .n h (a,r) x y
def Bg (n:Nat):List (Tr ak)->Option ak
 | []=>none
 | t::r=>match t.find n with
  | none=>Bg n r
  | some l=>match Bg n r with | none=>some l | some m=>some (l++m)
def LA (L:Lib) (T:List (Tr ak)) (ex:Nat):Lib:=
 ⟨fun i=>match L.pure i with
  | some sp=>some sp
  | none=>bif yq i ex then none else match Bg i T with | some l=>some (fun ao=>af5 ao l) | none=>none,L.heap⟩
def Hv (P:aK) (L:Lib) (f:Nat):Te->Bool
 | .l=>true
 | .n _ e x y=>(match W2 P L 100000 f e.1 with | some r'=>fS r' e.2 | none=>false)&&(Hv P L f x&&Hv P L f y)
def K4 (P:aK) (L:Lib) (f:Nat):ak->Bool
 | []=>true
 | t::l=>Hv P L f t&&K4 P L f l
def bg (P:aK) (L:Lib) (T:List (Tr ak)):List (Nat×ak)->Bool
 | []=>true
 | (f,l)::C=>K4 P (LA L T f) f l&&bg P L T C
end VE
end
section
namespace VE
open Go
def anu {a b:xc} (h:yq (K0 a) (K0 b)=true):a=b:=by
 cases a<;>cases b<;>first | rfl | (exact absurd h (by decide))
def apq {a b:Int} (h:Xx a b=true):a=b:=by
 cases a<;>cases b<;>simp only [Xx,reduceCtorEq] at h<;>rw [yj h]
def Ps {a b:Bool} (h:NK a b=true):a=b:=by
 cases a<;>cases b<;>first | rfl | (exact absurd h (by decide))
def apr {a b:vS} (h:eqF a b=true):a=b:=by
 cases a<;>cases b<;>first | rfl | (exact absurd h (by decide))
mutual
def aaR:∀(a b:AV),fS a b=true->a=b
 | .int k a,b,h=>by
  cases b<;>simp only [fS,yf,yC] at h
  rw [anu h.1,apq h.2]
 | .bool a,b,h=>by
  cases b<;>simp only [fS,yC] at h
  rw [Ps h]
 | .aw k a,b,h=>by
  cases b<;>simp only [fS,yf,yC] at h
  rw [apr h.1,yj h.2]
 | .str a,b,h=>by
  cases b<;>simp only [fS,yC] at h
  rw [Pn h]
 | .km,b,h=>by cases b<;>simp only [fS,yC] at h;rfl
 | .ptr _ _,b,h=>by cases b<;>simp only [fS,yC] at h
 | .b7 a,b,h=>by
  cases b<;>simp only [fS,yC] at h
  rw [oS _ _ h]
 | .ae,b,h=>by cases b<;>simp only [fS,yC] at h;rfl
 | .aC e n a,b,h=>by
  cases b<;>simp only [fS,yf,yC] at h
  rw [Ps h.1,yj h.2.1,oS _ _ h.2.2]
 | .bE e s n a,b,h=>by
  cases b<;>simp only [fS,yf,yC] at h
  rw [Ps h.1,yj h.2.1,yj h.2.2.1,oS _ _ h.2.2.2]
 | .aE _ _ _,b,h=>by cases b<;>simp only [fS,yC] at h
 | .fn (.f g) x y,b,h=>by
  cases b<;>try (simp only [fS,yC] at h;done)
  rename_i fr _ _;cases fr<;>simp only [fS,yf,yC] at h
  rw [yj h.1,oS _ _ h.2.1,oS _ _ h.2.2]
 | .fn (.y _) _ _,b,h=>by cases b<;>simp only [fS,yC] at h
 | .ic,b,h=>by cases b<;>simp only [fS,yC] at h;rfl
 | .ju,b,h=>by cases b<;>simp only [fS,yC] at h;rfl
 | .map _,b,h=>by cases b<;>simp only [fS,yC] at h
 | .iL x y,b,h=>by
  cases b<;>simp only [fS,yf,yC] at h
  rw [oS _ _ h.1,oS _ _ h.2]
 | .it _,b,h=>by cases b<;>simp only [fS,yC] at h
 | .agg a,b,h=>by
  cases b<;>simp only [fS,yC] at h
  rw [oS _ _ h]
 | .aa a,b,h=>by
  cases b<;>simp only [fS,yC] at h
  rw [oS _ _ h]
 | .undef,b,h=>by cases b<;>simp only [fS,yC] at h;rfl
def oS:∀(a b:List AV),lj a b=true->a=b
 | [],b,h=>by cases b<;>simp only [lj,yC] at h;rfl
 | x::a,b,h=>by
  cases b<;>simp only [lj,yf,yC] at h
  rw [aaR _ _ h.1,oS _ _ h.2]
end
def Tr.Has {α:Type} (x:α):Tr α->Prop
 | .l=>False
 | .n _ v a b=>v=x\/a.Has x\/b.Has x
def Tr.Pt {α:Type} {h:Nat} {x:α}:∀{t:Tr α},t.find h=some x->t.Has x
 | .l,hf=>by simp [Tr.find] at hf
 | .n k v a b,hf=>by
  simp only [Tr.find] at hf
  cases h1:yq h k with
  | true=>rw [h1] at hf;simp only [yz,yb] at hf;exact .inl hf
  | false=>
   rw [h1] at hf
   cases h2:yK h k with
   | true=>rw [h2] at hf;exact .inr (.inl (Tr.Pt hf))
   | false=>rw [h2] at hf;exact .inr (.inr (Tr.Pt hf))
def NL (ao:List AV) (r:AV) (l:ak):Prop:=∃t,t∈l/\t.Has (ao,r)
def Zl {h:Nat} {ao:List AV} {r:AV}:∀{l:ak},Bf h ao l=some r->NL ao r l
 | [],hf=>by simp [Bf] at hf
 | t::l,hf=>by
  have tail:Bf h ao l=some r->NL ao r (t::l):=fun q=>by
   obtain ⟨t',h1,h2⟩:=Zl q;exact ⟨t',vt _ h1,h2⟩
  simp only [Bf] at hf
  split at hf
  ·rename_i a q he
   cases hb:lj a ao with
   | true=>
    rw [hb] at hf;simp only [yz,yb] at hf;rw [oS _ _ hb,hf] at he;exact ⟨t,uA,Tr.Pt he⟩
   | false=>
    grind
  ·grind
def anv {ao:List AV} {r:AV} {l:ak} (h:af5 ao l=some r):NL ao r l:=Zl h
def jM (O:a8) (f:Nat) (l:ak):Prop:=∀ao r,NL ao r l->dN O f ao r
def jM.nil {O:a8} {f:Nat}:jM O f []:=fun _ _ h=>by obtain ⟨t,h,_⟩:=h;cases h
def jM.aT {O:a8} {f:Nat} {a b:ak} (ha:jM O f a) (hb:jM O f b):jM O f (a++b):=fun v r h=>by
 obtain ⟨t,h,h2⟩:=h;exact (List.mem_append.1 h).elim (fun h=>ha v r ⟨t,h,h2⟩) (fun h=>hb v r ⟨t,h,h2⟩)
def jM.one {O:a8} {f k:Nat} {ao:List AV} {r:AV} (h:dN O f ao r):jM O f [.n k (ao,r) .l .l]:=fun v q hm=>by
 obtain ⟨t,h1,h2⟩:=hm;rcases wV.1 h1 with e | e
 ·subst e;rcases h2 with h2 | h2 | h2
  ·grind
  ·exact h2.elim
  ·exact h2.elim
 ·cases e
def Tr.kL {α:Type} (p:Nat->α->Prop):Tr α->Prop
 | .l=>True
 | .n k v a b=>p k v/\a.kL p/\b.kL p
def Tr.ib {α:Type} {p:Nat->α->Prop}:Tr.kL p .l:=trivial
def Tr.iW {α:Type} {p:Nat->α->Prop} {k:Nat} {v:α} {a b:Tr α} (h:p k v) (ha:a.kL p) (hb:b.kL p):Tr.kL p (.n k v a b):=⟨h,ha,hb⟩
def Tr.A3 {α:Type} {p:Nat->α->Prop} {i:Nat} {v:α}:∀{t:Tr α},t.kL p->t.find i=some v->p i v
 | .l,_,h=>by simp [Tr.find] at h
 | .n k w a b,ha,h=>by
  simp only [Tr.find] at h
  cases hb:yq i k with
  | true=>
   rw [hb] at h;simp only [yz,yb] at h;subst h;rw [yj hb];exact ha.1
  | false=>
   rw [hb] at h
   cases hc:yK i k with
   | true=>rw [hc] at h;exact Tr.A3 ha.2.1 h
   | false=>rw [hc] at h;exact Tr.A3 ha.2.2 h
abbrev a8.nK (O:a8) (L:Lib):a8:={O with az:=L}
def aaS {O:a8} {L:Lib} {m:Mp} {S:Nat->Prop} {w:yi} {id:Nat} {o:Obj}:eJ (O.nK L) m S w id o↔eJ O m S w id o:=by
 cases o<;>exact Iff.rfl
def aaT {O:a8} {L:Lib} {m:Mp} {S:Nat->Prop} {w:yi} {hp:Hp} {ct:Nat}:aP (O.nK L) m S w hp ct↔aP O m S w hp ct:=
 ⟨fun h=>⟨fun id o p h1 h2=>aaS.1 (h.obj id o p h1 h2),h.lt,h.inj,h.slt,h.blt,h.low,h.jb,h.fw,h.aG⟩,
  fun h=>⟨fun id o p h1 h2=>aaS.2 (h.obj id o p h1 h2),h.lt,h.inj,h.slt,h.blt,h.low,h.jb,h.fw,h.aG⟩⟩
def Z7 {O:a8} {L:Lib} {n:Nat} {hp:Hp} {ct:Nat} {ao:List AV} {v:AV} {ap:Hp} {aX:Nat} (h:zO O n hp ct ao v ap aX):zO (O.nK L) n hp ct ao v ap aX:=by
 intro m S w args h1 h2;have post:∀e w',rE O m S w hp ct v ap aX e w'->rE (O.nK L) m S w hp ct v ap aX e w':=by
  rintro e w' ⟨u,m',S',k1,k2,k3,k4,k5⟩;exact ⟨u,m',S',k1,aaT.2 k2,k3,k4,k5⟩
 exact zx.mono (h m S w args (aaT.1 h1) h2) post
def eA (O:a8) (T:List (Tr ak)):Prop:=∀t,t∈T->t.kL (jM O)
def eA.nil {O:a8}:eA O []:=fun _ h=>by cases h
def eA.cons {O:a8} {t:Tr ak} {T:List (Tr ak)} (h:t.kL (jM O)) (hT:eA O T):eA O (t::T):=fun u hu=>by
 rcases wV.1 hu with e | e
 ·grind
 ·exact hT u e
def O1 {O:a8} {n:Nat}:∀{T:List (Tr ak)} {l:ak},eA O T->Bg n T=some l->jM O n l
 | [],_,_,h=>by simp [Bg] at h
 | t::T,l,hT,h=>by
  have hT':eA O T:=fun u hu=>hT u (vt _ hu)
  simp only [Bg] at h
  split at h
  ·exact O1 hT' h
  ·rename_i l1 h1;have c1:=Tr.A3 (hT t uA) h1
   split at h
   ·grind
   ·rename_i m h2;simp only [yb] at h;subst h;exact jM.aT c1 (O1 hT' h2)
def abP {O:a8} (hO:ef O) {T:List (Tr ak)} (hT:eA O T) (ex:Nat):ef (O.nK (LA O.az T ex)) where
 hint:=hO.hint
 mixed:=hO.mixed
 prog:=hO.prog
 az n sp ao r h hs:=by
  simp only [LA] at h
  cases hl:O.az.pure n with
  | some NM=>
   simp only [hl,yb] at h;subst h;exact hO.az n _ ao r hl hs
  | none=>
   simp only [hl] at h
   cases hb:yq n ex with
   | true=>rw [hb] at h;cases h
   | false=>
    rw [hb] at h;simp only [yY] at h
    cases hf:Bg n T with
    | none=>simp [hf] at h
    | some l=>
     simp only [hf,yb] at h;subst h;exact O1 hT hf ao r (anv hs)
 Dp n sp hp ct ao v ap aX h hs:=Z7 (hO.Dp n sp hp ct ao v ap aX h hs)
def O2 {O:a8} {L:Lib} (hO:ef (O.nK L)) {f:Nat} {ao:List AV} {r:AV}:∀{t:Te},Hv O.prog L f t=true->t.Has (ao,r)->dN O f ao r
 | .l,_,h=>h.elim
 | .n k e x y,h,hm=>by
  simp only [Hv,yf] at h;rcases hm with e1 | hm | hm
  ·subst e1;have h1:=h.1
   split at h1
   ·rename_i r' hr;have e:r'=r:=aaR _ _ h1;rw [<-e];exact sound hO hr
   ·cases h1
  ·exact O2 hO h.2.1 hm
  ·exact O2 hO h.2.2 hm
def Zm {O:a8} {L:Lib} (hO:ef (O.nK L)) {f:Nat}:∀{l:ak},K4 O.prog L f l=true->jM O f l
 | [],_=>jM.nil
 | t::l,h=>by
  simp only [K4,yf] at h;intro v q hm;obtain ⟨t',h1,h2⟩:=hm;rcases wV.1 h1 with e | e
  ·subst e;exact O2 hO h.1 h2
  ·exact Zm hO h.2 v q ⟨t',e,h2⟩
def chunk_ok {O:a8} (hO:ef O) {T:List (Tr ak)} (hT:eA O T):∀{C:List (Nat×ak)},bg O.prog O.az T C=true->∀f l,(f,l)∈C->jM O f l
 | [],_,f,l,h=>by cases h
 | (g,l')::C,h,f,l,hm=>by
  simp only [bg,yf] at h;rcases wV.1 hm with e | hm
  ·injection e with e1 e2
   subst e1;subst e2;exact Zm (abP hO hT f) h.1
  ·exact chunk_ok hO hT h.2 f l hm
def bk {O:a8} {P:aK} {L:Lib} (hO:ef O) (hp:O.prog=P) (hl:O.az=L) {T:List (Tr ak)} (hT:eA O T) {C:List (Nat×ak)} (h:bg P L T C=true) (i:Nat) {f:Nat} {l:ak} (hi:C[i]? =some (f,l)):jM O f l:=by
 subst hp;subst hl;exact chunk_ok hO hT h f l (List.mem_of_getElem? hi)
def aN {α:Type} {p:Nat->α->Prop} {k:Nat} {v:α} {a b:Tr α} (h:p k v) (ha:a.kL p) (hb:b.kL p):Tr.kL p (.n k v a b):=Tr.iW h ha hb
def aL {α:Type} {p:Nat->α->Prop}:Tr.kL p .l:=Tr.ib
end VE
end
section
namespace VE
open Go
structure HD where
 n:Nat
 live:List (Nat×List Nat)
 out:List (Nat×List Nat)
 mode:List (Nat×Md)
 fz:List (Nat×List Nat)
 deriving Inhabited
def Hf {α:Type} (i:Nat):List (Nat×α)->Option α
 | []=>none
 | (j,a)::l=>bif yq j i then some a else Hf i l
def atv (bT:Nat->Option Nat) (d:HD):Hint where
 n:=d.n
 bT:=bT
 live:=fun l=>match Hf l d.live with | some x=>x | none=>[]
 out:=fun l=>Hf l d.out
 mode:=fun k=>match Hf k d.mode with | some x=>x | none=> .pure
 fz:=fun i=>match Hf i d.fz with | some x=>x | none=>[]
def K5 (bT:Tr Nat) (t:Tr HD) (i:Nat):Hint:=atv bT.find (match t.find i with | some d=>d | none=>⟨0,[],[],[],[]⟩)
def sc (t:Tr Nat) (i:Nat):Nat:=match t.find i with | some f=>f | none=>0
def Hg (af:Tr Nat):Tr Nat->Bool
 | .l=>true
 | .n f g a b=>yq (sc af g) f&&(Hg af a&&Hg af b)
def OJ {af:Tr Nat}:∀{t:Tr Nat},Hg af t=true->t.kL (fun f g=>sc af g=f)
 | .l,_=>trivial
 | .n f g a b,h=>by
  simp only [Hg,yf] at h;exact ⟨yj h.1,OJ h.2.1,OJ h.2.2⟩
def P9 (P:y8) (af:Tr Nat) (bT:Tr Nat) (hd:Tr HD) (i:Nat) (F:aD):Prop:=
 ∃fn,P.funcs[sc af i]? =some fn/\CX P (K5 bT hd i) fn=some F/\fn.name≠ "runtime.NumGoroutine"
def anw {P:y8} {af bT:Tr Nat} {hd:Tr HD} {i:Nat} {F:aD} (h:(P.funcs[sc af i]?).bind (CX P (K5 bT hd i))=some F) (h2:(P.funcs[sc af i]?).map (fun fn=>decide (fn.name= "runtime.NumGoroutine"))=some false):P9 P af bT hd i F:=by
 unfold P9
 cases hq:P.funcs[sc af i]? with
 | none=>rw [hq] at h;cases h
 | some fn=>
  rw [hq] at h h2;refine ⟨fn,rfl,h,fun e=>?_⟩;simp only [Option.map_some,yb,e,yo] at h2;cases h2
end VE
end
section
namespace VE
namespace lF
open Go
open Go.Proofs
def af:Tr Nat:=(.n 209 88 (.n 149 87 (.n 117 85 (.n 84 107 (.n 62 57 (.n 49 64 (.n 29 45 (.n 28 44 .l .l) (.n 46 51 .l .l)) (.n 59 46 (.n 50 100 .l .l) .l)) (.n 71 61 (.n 70 92 (.n 69 109 .l .l) .l) (.n 74 110 (.n 73 134 .l .l) .l))) (.n 102 114 (.n 99 117 (.n 88 154 (.n 86 56 .l .l) (.n 98 116 .l .l)) (.n 101 84 (.n 100 132 .l .l) .l)) (.n 109 123 (.n 108 58 (.n 107 151 .l .l) .l) (.n 111 86 (.n 110 126 .l .l) .l)))) (.n 137 169 (.n 127 164 (.n 124 80 (.n 119 160 (.n 118 127 .l .l) (.n 123 166 .l .l)) (.n 126 165 (.n 125 89 .l .l) .l)) (.n 130 125 (.n 129 124 (.n 128 122 .l .l) .l) (.n 136 130 (.n 135 168 .l .l) .l))) (.n 143 186 (.n 140 172 (.n 139 171 (.n 138 170 .l .l) .l) (.n 142 185 (.n 141 173 .l .l) .l)) (.n 146 128 (.n 145 184 (.n 144 187 .l .l) .l) (.n 148 152 (.n 147 129 .l .l) .l))))) (.n 179 5 (.n 163 59 (.n 156 163 (.n 153 181 (.n 151 196 (.n 150 135 .l .l) (.n 152 180 .l .l)) (.n 155 183 (.n 154 182 .l .l) .l)) (.n 159 199 (.n 158 198 (.n 157 197 .l .l) .l) (.n 162 179 (.n 161 112 .l .l) .l))) (.n 170 211 (.n 167 204 (.n 165 202 (.n 164 153 .l .l) (.n 166 203 .l .l)) (.n 169 206 (.n 168 205 .l .l) .l)) (.n 173 226 (.n 172 60 (.n 171 224 .l .l) .l) (.n 175 131 (.n 174 234 .l .l) .l)))) (.n 196 36 (.n 190 29 (.n 187 27 (.n 185 24 (.n 180 43 .l .l) (.n 186 25 .l .l)) (.n 189 28 (.n 188 26 .l .l) .l)) (.n 193 32 (.n 192 31 (.n 191 30 .l .l) .l) (.n 195 34 (.n 194 33 .l .l) .l))) (.n 202 10 (.n 199 38 (.n 198 37 (.n 197 35 .l .l) .l) (.n 201 40 (.n 200 39 .l .l) .l)) (.n 205 42 (.n 204 41 (.n 203 8 .l .l) .l) (.n 208 83 (.n 206 115 .l .l) .l)))))) (.n 271 13 (.n 235 157 (.n 222 105 (.n 216 97 (.n 213 94 (.n 211 91 (.n 210 90 .l .l) (.n 212 93 .l .l)) (.n 215 96 (.n 214 95 .l .l) .l)) (.n 219 106 (.n 218 99 (.n 217 98 .l .l) .l) (.n 221 103 (.n 220 101 .l .l) .l))) (.n 229 63 (.n 226 111 (.n 224 102 (.n 223 104 .l .l) (.n 225 108 .l .l)) (.n 228 62 (.n 227 113 .l .l) .l)) (.n 232 50 (.n 231 49 (.n 230 65 .l .l) .l) (.n 234 156 (.n 233 155 .l .l) .l)))) (.n 248 191 (.n 242 136 (.n 239 162 (.n 237 159 (.n 236 158 .l .l) (.n 238 161 .l .l)) (.n 241 133 (.n 240 167 .l .l) .l)) (.n 245 188 (.n 244 200 (.n 243 137 .l .l) .l) (.n 247 190 (.n 246 189 .l .l) .l))) (.n 263 9 (.n 251 194 (.n 250 193 (.n 249 192 .l .l) .l) (.n 262 66 (.n 252 225 .l .l) .l)) (.n 267 69 (.n 265 75 (.n 264 17 .l .l) .l) (.n 269 77 (.n 268 14 .l .l) .l))))) (.n 297 146 (.n 284 47 (.n 278 74 (.n 275 55 (.n 273 53 (.n 272 52 .l .l) (.n 274 54 .l .l)) (.n 277 71 (.n 276 70 .l .l) .l)) (.n 281 120 (.n 280 72 (.n 279 73 .l .l) .l) (.n 283 148 (.n 282 142 .l .l) .l))) (.n 291 139 (.n 288 119 (.n 286 48 (.n 285 12 .l .l) (.n 287 118 .l .l)) (.n 290 138 (.n 289 121 .l .l) .l)) (.n 294 143 (.n 293 147 (.n 292 140 .l .l) .l) (.n 296 145 (.n 295 144 .l .l) .l)))) (.n 389 76 (.n 319 16 (.n 301 176 (.n 299 174 (.n 298 141 .l .l) (.n 300 175 .l .l)) (.n 315 11 (.n 302 195 .l .l) .l)) (.n 339 150 (.n 338 149 (.n 336 82 .l .l) .l) (.n 388 23 (.n 340 81 .l .l) .l))) (.n 459 4 (.n 427 7 (.n 393 19 (.n 390 68 .l .l) .l) (.n 430 67 (.n 429 18 .l .l) .l)) (.n 462 22 (.n 461 21 (.n 460 20 .l .l) .l) (.n 464 79 (.n 463 78 .l .l) .l)))))))
def bT:Tr Nat:=(.n 107 84 (.n 56 86 (.n 31 192 (.n 18 429 (.n 11 315 (.n 8 203 (.n 5 179 (.n 4 459 .l .l) (.n 7 427 .l .l)) (.n 10 202 (.n 9 263 .l .l) .l)) (.n 14 268 (.n 13 271 (.n 12 285 .l .l) .l) (.n 17 264 (.n 16 319 .l .l) .l))) (.n 25 186 (.n 22 462 (.n 20 460 (.n 19 393 .l .l) (.n 21 461 .l .l)) (.n 24 185 (.n 23 388 .l .l) .l)) (.n 28 189 (.n 27 187 (.n 26 188 .l .l) .l) (.n 30 191 (.n 29 190 .l .l) .l)))) (.n 44 28 (.n 38 199 (.n 35 197 (.n 33 194 (.n 32 193 .l .l) (.n 34 195 .l .l)) (.n 37 198 (.n 36 196 .l .l) .l)) (.n 41 204 (.n 40 201 (.n 39 200 .l .l) .l) (.n 43 180 (.n 42 205 .l .l) .l))) (.n 50 232 (.n 47 284 (.n 46 59 (.n 45 29 .l .l) .l) (.n 49 231 (.n 48 286 .l .l) .l)) (.n 53 273 (.n 52 272 (.n 51 46 .l .l) .l) (.n 55 275 (.n 54 274 .l .l) .l))))) (.n 82 336 (.n 69 267 (.n 63 229 (.n 60 172 (.n 58 108 (.n 57 62 .l .l) (.n 59 163 .l .l)) (.n 62 228 (.n 61 71 .l .l) .l)) (.n 66 262 (.n 65 230 (.n 64 49 .l .l) .l) (.n 68 390 (.n 67 430 .l .l) .l))) (.n 76 389 (.n 73 279 (.n 71 277 (.n 70 276 .l .l) (.n 72 280 .l .l)) (.n 75 265 (.n 74 278 .l .l) .l)) (.n 79 464 (.n 78 463 (.n 77 269 .l .l) .l) (.n 81 340 (.n 80 124 .l .l) .l)))) (.n 95 214 (.n 89 125 (.n 86 111 (.n 84 101 (.n 83 208 .l .l) (.n 85 117 .l .l)) (.n 88 209 (.n 87 149 .l .l) .l)) (.n 92 70 (.n 91 211 (.n 90 210 .l .l) .l) (.n 94 213 (.n 93 212 .l .l) .l))) (.n 101 220 (.n 98 217 (.n 97 216 (.n 96 215 .l .l) .l) (.n 100 50 (.n 99 218 .l .l) .l)) (.n 104 223 (.n 103 221 (.n 102 224 .l .l) .l) (.n 106 219 (.n 105 222 .l .l) .l)))))) (.n 158 236 (.n 133 241 (.n 120 281 (.n 114 102 (.n 111 226 (.n 109 69 (.n 108 225 .l .l) (.n 110 74 .l .l)) (.n 113 227 (.n 112 161 .l .l) .l)) (.n 117 99 (.n 116 98 (.n 115 206 .l .l) .l) (.n 119 288 (.n 118 287 .l .l) .l))) (.n 127 118 (.n 124 129 (.n 122 128 (.n 121 289 .l .l) (.n 123 109 .l .l)) (.n 126 110 (.n 125 130 .l .l) .l)) (.n 130 136 (.n 129 147 (.n 128 146 .l .l) .l) (.n 132 100 (.n 131 175 .l .l) .l)))) (.n 146 297 (.n 140 292 (.n 137 243 (.n 135 150 (.n 134 73 .l .l) (.n 136 242 .l .l)) (.n 139 291 (.n 138 290 .l .l) .l)) (.n 143 294 (.n 142 282 (.n 141 298 .l .l) .l) (.n 145 296 (.n 144 295 .l .l) .l))) (.n 152 148 (.n 149 338 (.n 148 283 (.n 147 293 .l .l) .l) (.n 151 107 (.n 150 339 .l .l) .l)) (.n 155 233 (.n 154 88 (.n 153 164 .l .l) .l) (.n 157 235 (.n 156 234 .l .l) .l))))) (.n 186 143 (.n 171 139 (.n 165 126 (.n 162 239 (.n 160 119 (.n 159 237 .l .l) (.n 161 238 .l .l)) (.n 164 127 (.n 163 156 .l .l) .l)) (.n 168 135 (.n 167 240 (.n 166 123 .l .l) .l) (.n 170 138 (.n 169 137 .l .l) .l))) (.n 180 152 (.n 175 300 (.n 173 141 (.n 172 140 .l .l) (.n 174 299 .l .l)) (.n 179 162 (.n 176 301 .l .l) .l)) (.n 183 155 (.n 182 154 (.n 181 153 .l .l) .l) (.n 185 142 (.n 184 145 .l .l) .l)))) (.n 199 159 (.n 193 250 (.n 190 247 (.n 188 245 (.n 187 144 .l .l) (.n 189 246 .l .l)) (.n 192 249 (.n 191 248 .l .l) .l)) (.n 196 151 (.n 195 302 (.n 194 251 .l .l) .l) (.n 198 158 (.n 197 157 .l .l) .l))) (.n 206 169 (.n 203 166 (.n 202 165 (.n 200 244 .l .l) .l) (.n 205 168 (.n 204 167 .l .l) .l)) (.n 225 252 (.n 224 171 (.n 211 170 .l .l) .l) (.n 234 174 (.n 226 173 .l .l) .l)))))))
def hd:Tr HD:=(.n 215 ⟨5,[],[],[],[]⟩ (.n 151 ⟨13,[],[],[],[]⟩ (.n 110 ⟨41,[(0,[0,2,3,4])],[(0,[2,3,4])],[],[]⟩ (.n 74 ⟨34,[],[],[],[]⟩ (.n 59 ⟨26,[(1,[0,1,5])],[(1,[])],[],[]⟩ (.n 46 ⟨16,[],[],[],[]⟩ (.n 29 ⟨26,[(1,[0,1,5])],[(1,[])],[],[]⟩ (.n 28 ⟨27,[(1,[0,1,5])],[(1,[])],[],[]⟩ .l .l) .l) (.n 50 ⟨9,[],[],[],[]⟩ (.n 49 ⟨16,[],[],[],[]⟩ .l .l) .l)) (.n 70 ⟨9,[],[],[],[]⟩ (.n 69 ⟨6,[],[],[],[]⟩ (.n 62 ⟨22,[],[],[],[]⟩ .l .l) .l) (.n 73 ⟨8,[],[],[],[]⟩ (.n 71 ⟨16,[],[],[],[]⟩ .l .l) .l))) (.n 100 ⟨66,[],[],[],[]⟩ (.n 88 ⟨23,[(0,[3,9,10,11])],[(0,[3])],[],[]⟩ (.n 86 ⟨76,[],[],[],[]⟩ (.n 84 ⟨20,[],[],[],[]⟩ .l .l) .l) (.n 99 ⟨69,[(1,[3,4,5,6]),(6,[6,10,11])],[(1,[3,6]),(6,[10])],[],[]⟩ (.n 98 ⟨13,[],[],[],[]⟩ .l .l) .l)) (.n 107 ⟨11,[],[],[],[]⟩ (.n 102 ⟨9,[],[],[],[]⟩ (.n 101 ⟨34,[],[],[],[]⟩ .l .l) .l) (.n 108 ⟨6,[],[],[],[]⟩ .l .l)))) (.n 130 ⟨23,[(0,[2,3,4])],[(0,[2,4])],[],[]⟩ (.n 124 ⟨7,[],[],[],[]⟩ (.n 118 ⟨29,[],[],[],[]⟩ (.n 117 ⟨5,[],[],[],[]⟩ (.n 111 ⟨6,[],[],[],[]⟩ .l .l) .l) (.n 123 ⟨23,[(0,[3,9,10,11])],[(0,[3])],[],[]⟩ (.n 119 ⟨67,[],[],[],[]⟩ .l .l) .l)) (.n 127 ⟨21,[(0,[1,8,9,10])],[(0,[])],[],[]⟩ (.n 126 ⟨24,[],[],[],[]⟩ (.n 125 ⟨15,[(0,[5,6,7])],[(0,[])],[],[]⟩ .l .l) .l) (.n 129 ⟨19,[],[],[],[]⟩ .l .l))) (.n 146 ⟨7,[],[],[],[]⟩ (.n 142 ⟨10,[],[],[],[]⟩ (.n 137 ⟨137,[(2,[0,1,6,7,8]),(4,[9,10,11,12,13,14]),(6,[9,11,12,13,96,97])],[(2,[6,7]),(4,[9,11,12,13]),(6,[11,12,13])],[(5,.own),(7,.own),(8,.heap)],[]⟩ (.n 136 ⟨24,[],[],[],[]⟩ .l .l) .l) (.n 145 ⟨50,[],[],[],[]⟩ (.n 144 ⟨80,[(0,[1,5,20,21,22]),(2,[1,5,6,7,8,20,21,22,27,28,29])],[(0,[5]),(2,[1,5,6,8,20,21,22])],[],[]⟩ .l .l) .l)) (.n 149 ⟨14,[],[],[],[]⟩ (.n 148 ⟨21,[],[],[],[]⟩ (.n 147 ⟨26,[],[],[],[]⟩ .l .l) .l) (.n 150 ⟨9,[],[],[],[]⟩ .l .l))))) (.n 192 ⟨33,[],[],[],[]⟩ (.n 169 ⟨186,[(1,[0,1,5,6,7,8]),(4,[0,1,5,6,11,12,104,105]),(7,[0,1,5,6,17,156,157])],[(1,[0,1,5,6]),(4,[0,1,5,6,11,12]),(7,[0,5,6,17])],[],[]⟩ (.n 161 ⟨18,[(0,[6,7,8])],[(0,[])],[],[]⟩ (.n 157 ⟨54,[(1,[0,1,5,6,21,22])],[(1,[0,5,6])],[],[]⟩ (.n 156 ⟨9,[],[],[],[]⟩ (.n 155 ⟨23,[(0,[1,2,4,5])],[(0,[4,5])],[],[]⟩ .l .l) .l) (.n 159 ⟨41,[(0,[0,1,5,6,13,14])],[(0,[5])],[],[]⟩ (.n 158 ⟨41,[(2,[0,1,5])],[(2,[])],[],[]⟩ .l .l) .l)) (.n 165 ⟨135,[(3,[2,8,9,10,11,13,14,15,16]),(6,[2,8,9,10,14,15,16,17,18])],[(3,[2,8,9,10,11,13,14,15]),(6,[2,8,14,15,17,18])],[],[]⟩ (.n 164 ⟨84,[],[],[],[]⟩ (.n 163 ⟨9,[],[],[],[]⟩ .l .l) .l) (.n 168 ⟨40,[(0,[1,5,12,13,14])],[(0,[5])],[],[]⟩ (.n 166 ⟨21,[(0,[0,3])],[(0,[0,3])],[],[]⟩ .l .l) .l))) (.n 187 ⟨8,[],[],[],[]⟩ (.n 180 ⟨59,[(1,[0,1,7,21,22]),(3,[7,9,10])],[(1,[0,1,7]),(3,[7])],[],[]⟩ (.n 179 ⟨318,[],[],[],[]⟩ (.n 172 ⟨25,[],[],[],[]⟩ .l .l) .l) (.n 186 ⟨17,[],[],[],[]⟩ (.n 185 ⟨16,[],[],[],[]⟩ .l .l) .l)) (.n 190 ⟨22,[],[],[],[]⟩ (.n 189 ⟨35,[],[],[],[]⟩ (.n 188 ⟨11,[],[],[],[]⟩ .l .l) .l) (.n 191 ⟨45,[],[],[],[]⟩ .l .l)))) (.n 203 ⟨10,[],[],[],[]⟩ (.n 198 ⟨21,[],[],[],[]⟩ (.n 195 ⟨45,[],[],[],[]⟩ (.n 194 ⟨24,[],[],[],[]⟩ (.n 193 ⟨20,[],[],[],[]⟩ .l .l) .l) (.n 197 ⟨51,[],[],[],[]⟩ (.n 196 ⟨10,[],[],[],[]⟩ .l .l) .l)) (.n 201 ⟨102,[(1,[0,1,7,34,35,36]),(4,[10,13,76,77,78])],[(1,[0,7]),(4,[13])],[],[(20,[13])]⟩ (.n 200 ⟨84,[(2,[8,9,37,38,39]),(4,[8,9,11,12,37,38,39,46,47]),(6,[8,9,11,12,13,14,37,38,39,46,47,51,52,53])],[(2,[9]),(4,[8,9,12,37,38,39]),(6,[8,9,11,12,14,37,38,39,46,47])],[],[(23,[12])]⟩ (.n 199 ⟨28,[],[],[],[]⟩ .l .l) .l) (.n 202 ⟨73,[(2,[5,6,7])],[(2,[5,6,7])],[],[]⟩ .l .l))) (.n 210 ⟨22,[],[],[],[]⟩ (.n 206 ⟨16,[],[],[],[]⟩ (.n 205 ⟨20,[],[],[],[]⟩ (.n 204 ⟨95,[(1,[5,6,7,8,32,33]),(3,[5,6,7,8,9,10,32,33,39,40]),(5,[5,6,7,8,9,10,12,32,33,52,53,54])],[(1,[8]),(3,[5,6,7,8,9,10,32,33]),(5,[5,6,7,8,10,12,32,33])],[],[(25,[10])]⟩ .l .l) .l) (.n 209 ⟨25,[],[],[],[]⟩ (.n 208 ⟨8,[],[],[],[]⟩ .l .l) .l)) (.n 213 ⟨35,[],[],[],[]⟩ (.n 212 ⟨10,[],[],[],[]⟩ (.n 211 ⟨51,[(0,[2,4,6,8,18,19,20]),(2,[2,4,6,8,10,18,19,20,29,30,31])],[(0,[6,8]),(2,[2,4,6,8,18,19,20])],[],[]⟩ .l .l) .l) (.n 214 ⟨18,[],[],[],[]⟩ .l .l)))))) (.n 276 ⟨54,[],[],[],[]⟩ (.n 238 ⟨3,[],[],[],[]⟩ (.n 227 ⟨140,[(0,[4,5,6,7,8,24,25]),(2,[4,5,6,7,8,9,10,11,24,25]),(5,[4,5,6,7,8,9,10,24,25,89,90])],[(0,[4,8]),(2,[4,5,6,7,8,9,10,11,24,25]),(5,[4,5,6,7,8,9,24,25])],[],[]⟩ (.n 221 ⟨32,[],[],[],[]⟩ (.n 218 ⟨68,[],[],[],[]⟩ (.n 217 ⟨22,[],[],[],[]⟩ (.n 216 ⟨42,[],[],[],[]⟩ .l .l) .l) (.n 220 ⟨11,[],[],[],[]⟩ (.n 219 ⟨6,[],[],[],[]⟩ .l .l) .l)) (.n 224 ⟨38,[],[],[],[]⟩ (.n 223 ⟨16,[],[],[],[]⟩ (.n 222 ⟨10,[],[],[],[]⟩ .l .l) .l) (.n 226 ⟨31,[(0,[4,9,10,11]),(2,[4,6,9,10,11,15,16,17])],[(0,[4]),(2,[4,6,9,10,11])],[],[]⟩ (.n 225 ⟨19,[(0,[3,6,7,8])],[(0,[3])],[],[]⟩ .l .l) .l))) (.n 233 ⟨33,[(1,[0,1,4,5,6])],[(1,[4,5])],[],[]⟩ (.n 230 ⟨11,[],[],[],[]⟩ (.n 229 ⟨32,[],[],[],[]⟩ (.n 228 ⟨13,[],[],[],[]⟩ .l .l) .l) (.n 232 ⟨28,[(0,[0,2,3]),(2,[0,2,3])],[(0,[0,2,3]),(2,[0,2,3])],[],[]⟩ (.n 231 ⟨7,[],[],[],[]⟩ .l .l) .l)) (.n 236 ⟨6,[],[],[],[]⟩ (.n 235 ⟨35,[],[],[],[]⟩ (.n 234 ⟨33,[(1,[0,1,4,5,6])],[(1,[4,5])],[],[]⟩ .l .l) .l) (.n 237 ⟨38,[(1,[1,2,3])],[(1,[2])],[],[]⟩ .l .l)))) (.n 263 ⟨96,[],[],[],[]⟩ (.n 245 ⟨15,[],[],[],[]⟩ (.n 241 ⟨14,[],[],[],[]⟩ (.n 240 ⟨34,[(0,[0,1,6,7,9,12,13])],[(0,[9])],[],[]⟩ (.n 239 ⟨40,[(0,[1,2,4,5,11,12])],[(0,[4,5])],[],[]⟩ .l .l) .l) (.n 244 ⟨56,[(0,[4,5,6,7,8,9])],[(0,[4,7])],[],[]⟩ (.n 243 ⟨63,[],[],[],[]⟩ .l .l) .l)) (.n 252 ⟨7,[],[],[],[]⟩ (.n 247 ⟨10,[],[],[],[]⟩ (.n 246 ⟨6,[],[],[],[]⟩ .l .l) .l) (.n 262 ⟨13,[],[],[],[]⟩ .l .l))) (.n 271 ⟨9,[],[],[],[]⟩ (.n 267 ⟨55,[],[],[],[]⟩ (.n 265 ⟨6,[],[],[],[]⟩ (.n 264 ⟨63,[],[],[],[]⟩ .l .l) .l) (.n 269 ⟨14,[],[],[],[]⟩ (.n 268 ⟨14,[],[],[],[]⟩ .l .l) .l)) (.n 274 ⟨25,[],[],[],[]⟩ (.n 273 ⟨18,[],[],[],[]⟩ (.n 272 ⟨17,[(0,[0,3])],[(0,[0])],[],[]⟩ .l .l) .l) (.n 275 ⟨19,[(0,[0,1])],[(0,[0])],[],[]⟩ .l .l))))) (.n 299 ⟨39,[(0,[0,1,6,7,8])],[(0,[6,7])],[],[]⟩ (.n 288 ⟨40,[(1,[0,2,3,4])],[(1,[0,2,3,4])],[],[]⟩ (.n 282 ⟨39,[(1,[1,3,4])],[(1,[1,3])],[],[]⟩ (.n 279 ⟨40,[],[],[],[]⟩ (.n 278 ⟨16,[],[],[],[]⟩ (.n 277 ⟨61,[],[],[],[]⟩ .l .l) .l) (.n 281 ⟨25,[(0,[0,2,3,4])],[(0,[2,3,4])],[],[]⟩ (.n 280 ⟨57,[],[],[],[]⟩ .l .l) .l)) (.n 285 ⟨9,[],[],[],[]⟩ (.n 284 ⟨7,[],[],[],[]⟩ (.n 283 ⟨13,[],[],[],[]⟩ .l .l) .l) (.n 287 ⟨20,[(0,[0,3])],[(0,[])],[],[]⟩ (.n 286 ⟨14,[],[],[],[]⟩ .l .l) .l))) (.n 294 ⟨15,[],[],[],[]⟩ (.n 291 ⟨12,[(0,[0,1])],[(0,[0])],[],[]⟩ (.n 290 ⟨20,[(0,[0,3,4])],[(0,[3])],[],[]⟩ (.n 289 ⟨206,[(2,[0,8,9,10,11]),(4,[8,9,10,11,12,13]),(6,[8,9,10,11,12,13,14,15,16]),(10,[8,9,10,11,12,13,14,19,20])],[(2,[8,9,10,11]),(4,[8,10,11,12]),(6,[8,9,10,11,12,13,14,15]),(10,[8,9,10,11,12,13,14,19])],[(5,.heap)],[]⟩ .l .l) .l) (.n 293 ⟨72,[(0,[0,1,5,6]),(2,[0,1,5,6,7,8])],[(0,[5]),(2,[0,1,5,6,7])],[],[]⟩ (.n 292 ⟨25,[(0,[0,1,5])],[(0,[5])],[],[]⟩ .l .l) .l)) (.n 297 ⟨35,[(0,[0,1,5,6,7])],[(0,[5])],[],[]⟩ (.n 296 ⟨41,[(2,[0,1,5])],[(2,[])],[],[]⟩ (.n 295 ⟨42,[(0,[0,1,5,6,7])],[(0,[5])],[],[]⟩ .l .l) .l) (.n 298 ⟨9,[],[],[],[]⟩ .l .l)))) (.n 389 ⟨27,[(1,[0,1,5])],[(1,[5])],[],[]⟩ (.n 336 ⟨17,[],[],[],[]⟩ (.n 302 ⟨13,[],[],[],[]⟩ (.n 301 ⟨77,[(0,[0,1,2,7,9,10])],[(0,[9])],[],[]⟩ (.n 300 ⟨21,[(0,[0])],[(0,[0])],[],[]⟩ .l .l) .l) (.n 319 ⟨5,[],[],[],[]⟩ (.n 315 ⟨9,[],[],[],[]⟩ .l .l) .l)) (.n 340 ⟨62,[(1,[4,5,6])],[(1,[5])],[],[]⟩ (.n 339 ⟨29,[],[],[],[]⟩ (.n 338 ⟨8,[],[],[],[]⟩ .l .l) .l) (.n 388 ⟨84,[(4,[0,6]),(6,[0,6])],[(4,[0,6]),(6,[0,6])],[],[]⟩ .l .l))) (.n 460 ⟨29,[],[],[],[]⟩ (.n 429 ⟨21,[],[],[],[]⟩ (.n 393 ⟨16,[(0,[0,3])],[(0,[])],[],[]⟩ (.n 390 ⟨25,[(0,[1,5,6]),(2,[1,5,7])],[(0,[1,5]),(2,[5])],[],[]⟩ .l .l) .l) (.n 459 ⟨105,[],[],[],[]⟩ (.n 430 ⟨23,[(0,[0,4]),(2,[0,4])],[(0,[0,4]),(2,[0,4])],[],[]⟩ .l .l) .l)) (.n 463 ⟨21,[(0,[1,8,9,10])],[(0,[])],[],[]⟩ (.n 462 ⟨19,[(1,[0,3])],[(1,[])],[],[]⟩ (.n 461 ⟨8,[],[],[],[]⟩ .l .l) .l) (.n 464 ⟨7,[],[],[],[]⟩ .l .l)))))))
def atw:Hg af bT=true:=by decide+kernel
noncomputable def cc (i:Nat):aD:=match (Tryz.prog.funcs[sc af i]?).bind (CX Tryz.prog (K5 bT hd i)) with
 | some F=>F
 | none=>⟨[],.skip⟩
end lF
def nest:VC->List VC
 | .seq a b=>nest a++nest b
 | .cond _ a b=>nest a++nest b
 | .dj _ a=>nest a
 | .loop _ a=>[a]
 | .rf _ _ a b=>[a,b]
 | _=>[]
def me:VC->List VC->VC×List VC
 | .seq a b,l=>(.seq (me a l).1 (me b (me a l).2).1,(me b (me a l).2).2)
 | .cond x a b,l=>(.cond x (me a l).1 (me b (me a l).2).1,(me b (me a l).2).2)
 | .dj i a,l=>(.dj i (me a l).1,(me a l).2)
 | .loop v a,l=>(.loop v (l.headD a),l.tail)
 | .rf f ps a b,l=>(.rf f ps (l.headD a) (l.tail.headD b),l.tail.tail)
 | c,l=>(c,l)
def ahw (c:VC):List Nat->VC
 | []=>c
 | i::r=>ahw ((nest c).getD i .skip) r
def av {α:Type} {a b:α} (_:a=b):α:=b
attribute [go_sem] av
noncomputable def bZ (F:aD) (p:List Nat) (l:List VC):VC:=(me (ahw F.body p) l).1
noncomputable def cK (F:aD) (l:List VC):aD:=⟨F.cZ,(me F.body l).1⟩
end VE
end
