import Derived.Lib.AppendIntMem
import Derived.OwnWalk
import Derived.WalkKit
import Derived.Test.YtdibafmjplecaaaGreatDoorProg
import Derived.KernelRfl
import Derived.Attr
import Derived.Test.YtdibafmjplecaaaGreatDoorUac
import Derived.Test.YtdibafmjplecaaaGreatDoorUaa
import Derived.Test.YtdibafmjplecaaaGreatDoorUab
set_option linter.all false
set_option maxRecDepth 100000
open Array renaming size_replicate→vJ
open Bool renaming and_eq_true→yf,false_eq_true→yB
open Go renaming FloatKind→vS,IntKind→xc,Program→xa,World→yi
open List renaming mem_cons→wZ,mem_cons_of_mem→vz,mem_cons_self→uG
open Nat renaming beq→yp,blt→yI,eq_of_beq_eq_true→yj
open Option.some renaming injEq→yb
section
namespace Go.Proofs
open Go.Shelf
open Go.RowKit Go.Sort Go.Lib
set_option maxHeartbeats 6400000 in
set_option maxRecDepth 100000 in
def Tryz.akW (u:Nat) (BK:u<18446744073709551616) (w:yi)
  (BJ:Lib.TabIs Tryz.prog w "internal/strconv.uint64pow10" .u64 Lib.pow10Tab):
  Calls Tryz.prog 207 #[.int .u64 u,.int .i64 10] w fun e w'=>e= .returned (.string ⟨(Lib.decDigits u).toArray⟩)/\∃k os,w'=grow (w.drewN k) os:=by
 by_cases hs:u<100
 ·go_enter Tryz.func207,Tryz.ntmps207
  go_wp2_with (go_at_call 228;refine (Tryz.internal_strconv_small u hs _).mono ?_;rintro e w' ⟨rfl,rfl⟩)
  go_ret
  exact ⟨rfl,0,#[],by simp [World.drewN_zero]⟩
 ·have pI:1<=u:=by omega
  have aFV:Lib.nDigits u<=20:=by have:=Lib.numDigits_eq u pI BK;split at this<;>omega
  have hal:Tryz.prog.arrayLen 247=24:=by simp [Program.arrayLen,Tryz.underlying247]
  have D8:∀W,(Instr.sliceAt 247 (.pointer (some ⟨w.heap.size,0,none⟩)) none (some (.int .i64 (Lib.nDigits u:Int))) none).run Tryz.prog W= .ok (.slice (some ⟨w.heap.size,0,none⟩) (Lib.nDigits u) 24) W:=fun W=>by
   rw [run_sliceAt_array_h W 247 ⟨w.heap.size,0,none⟩ (by simp [Program.arrayLen,Program.elem,Tryz.underlying247]) .i64 (Lib.nDigits u:Int) (by omega) (by rw [hal];omega)]
   go_simp
  have Xd:=Lib.holds_zero0 w 247 (Lib.nDigits u) (by omega);have ahf:=Tryz.internal_strconv_formatBase10 w.heap.size 0 24 u (Array.replicate (Lib.nDigits u) 0) (w.alloc (.cells Lib.zeros24 247)) Xd (by rw [vJ];exact Lib.lt_pow_nDigits u) BK (by rw [vJ];omega)
  rw [vJ] at ahf;have HH0:=Lib.hid Xd;have iu:(100:Int)<=(u:Int):=by omega
  clear Xd hal
  go_enter Tryz.func207,Tryz.ntmps207
  go_wp2_with (first
   | (go_at_call 229;refine (Tryz.internal_strconv_numDigits u pI BK _ (Lib.tabIs_alloc BJ _)).mono ?_;rintro e w' ⟨rfl,rfl⟩))
  go_at_call 230
  refine ahf.mono ?_;rintro e w' ⟨rfl,k,v',dk,rfl,hF⟩;have hcv:(convert 197 9 (.slice (some ⟨w.heap.size,0,none⟩) (Lib.nDigits u) 24)).run Tryz.prog ((putRow (fun (b:UInt8)=>Value.int .u8 (b.toNat:Int)) (w.alloc (.cells Lib.zeros24 247)) w.heap.size 0 dk).drewN k)= .ok (.string ⟨(Lib.decDigits u).toArray⟩) ((putRow (fun (b:UInt8)=>Value.int .u8 (b.toNat:Int)) (w.alloc (.cells Lib.zeros24 247)) w.heap.size 0 dk).drewN k):=by
   have h:=run_convert_bytes_back (P:=Tryz.prog) ((putRow (fun (b:UInt8)=>Value.int .u8 (b.toNat:Int)) (w.alloc (.cells Lib.zeros24 247)) w.heap.size 0 dk).drewN k) 197 9 5 ⟨w.heap.size,0,none⟩ 24 (Lib.decDigits u) Tryz.underlying197 Tryz.underlying5 Tryz.underlying9 (fun j hj=>by
    rw [Lib.row_is_numeral hF j hj,Lib.add_plain,World.cell?_drewN]
    exact cell?_putRow (fun (b:UInt8)=>Value.int .u8 (b.toNat:Int)) _ w.heap.size 0 _ dk HH0.out (by rw [hF.size,vJ]) j (by rw [hF.size];rw [Lib.decDigits_length] at hj;exact hj))
   rw [Lib.decDigits_length] at h;exact h
  go_wp2
  go_ret
  obtain ⟨os,eo⟩:=Lib.fin_at w (.cells Lib.zeros24 247) dk k 0;exact ⟨rfl,k,os,eo⟩
def Tryz.akX (u:Nat) (BK:u<18446744073709551616) (w:yi)
  (BJ:Lib.TabIs Tryz.prog w "internal/strconv.uint64pow10" .u64 Lib.pow10Tab):
  Calls Tryz.prog 170 #[.int .u64 u,.int .i64 10] w fun e w'=>e= .returned (.string ⟨(Lib.decDigits u).toArray⟩)/\∃k os,w'=grow (w.drewN k) os:=by
 go_enter Tryz.func170,Tryz.ntmps170
 go_wp2_with (go_at_call 207;refine (Tryz.akW u BK _ BJ).mono ?_;rintro e w' ⟨rfl,k,os,rfl⟩)
 go_ret
 exact ⟨rfl,k,os,rfl⟩
end Go.Proofs
end
section
namespace VE
abbrev Rq (d:Nat) (o:Op):aX:=⟨some d,none,o⟩
abbrev Rt (d g:Nat) (o:Op):aX:=⟨some d,some (g,true),o⟩
abbrev Rf (d g:Nat) (o:Op):aX:=⟨some d,some (g,false),o⟩
abbrev qm (d s:Nat):aX:=⟨some d,none,.py (.t s)⟩
abbrev qc0 (d f:Nat):aX:=⟨some d,none,.call .pure (.c (.fn (.f f) [] [])) []⟩
abbrev Ch (d f a:Nat):aX:=⟨some d,none,.call .pure (.c (.fn (.f f) [] [])) [.t a]⟩
abbrev qc2 (d f a b:Nat):aX:=⟨some d,none,.call .pure (.c (.fn (.f f) [] [])) [.t a,.t b]⟩
abbrev qc3 (d f a b c:Nat):aX:=⟨some d,none,.call .pure (.c (.fn (.f f) [] [])) [.t a,.t b,.t c]⟩
abbrev ql (d n s:Nat):aX:=⟨some d,none,.ld n false (.t s)⟩
abbrev qL (d n s:Nat):aX:=⟨some d,none,.ld n true (.t s)⟩
abbrev qk (d:Nat) (k:Int):aX:=⟨some d,none,.py (.c (.int .i64 k))⟩
abbrev qf (d:Nat):aX:=⟨some d,none,.py (.c (.bool false))⟩
abbrev qz (d:Nat):aX:=⟨some d,none,.py (.c .ae)⟩
abbrev qi (d n s i:Nat):aX:=⟨some d,none,.cB n (.t s) (.t i)⟩
abbrev qo (d n s:Nat):aX:=⟨some d,none,.off n (.t s)⟩
abbrev qn (d n s:Nat):aX:=⟨some d,none,.len n (.t s)⟩
abbrev qe (d n s:Nat):aX:=⟨some d,none,.ext n (.t s)⟩
abbrev qb (d n s:Nat):aX:=⟨some d,none,.box n (.t s)⟩
abbrev qs (n a b:Nat):aX:=⟨none,none,.st n (.t a) (.t b)⟩
abbrev qa (d a:Nat) (k:Int):aX:=⟨some d,none,.bin .add (.t a) (.c (.int .i64 k))⟩
abbrev qN (d a:Nat) (k:Int):aX:=⟨some d,none,.bin .neq (.t a) (.c (.int .i64 k))⟩
abbrev qE (d a:Nat) (k:Int):aX:=⟨some d,none,.bin .eql (.t a) (.c (.int .i64 k))⟩
abbrev qA (d a b:Nat):aX:=⟨some d,none,.bin .add (.t a) (.t b)⟩
abbrev qT (d a b:Nat):aX:=⟨some d,none,.bin .lss (.t a) (.t b)⟩
abbrev qp (d c b:Nat):aX:=⟨some d,none,.pick (.t c) (.c (.bool true)) (.t b)⟩
abbrev qq (d c b:Nat):aX:=⟨some d,none,.pick (.t c) (.t b) (.c (.bool false))⟩
abbrev X.k (n:Int):X:=.c (.int .i64 n)
abbrev X.u (n:Int):X:=.c (.int .u64 n)
abbrev X.F (n:Nat):X:=.c (.fn (.f n) [] [])
abbrev X.s (l:List Nat):X:=.c (.str l)
abbrev AV.i (n:Int):AV:=.int .i64 n
abbrev Op.q (f:Nat) (l:List X):Op:=.call .pure (.c (.fn (.f f) [] [])) l
abbrev Op.y (o:Go.BinOp) (a:Nat) (n:Int):Op:=.bin o (.t a) (.c (.int .i64 n))
abbrev Op.z (o:Go.BinOp) (a b:Nat):Op:=.bin o (.t a) (.t b)
abbrev Op.m (a:Nat):Op:=.py (.t a)
abbrev VC.g (o:List aX) (b:VC):VC:=.seq (.nd o) b
abbrev VC.q (a b:VC):VC:=.seq a b
abbrev VC.e (o:List aX):VC:=.seq (.nd o) .ret
abbrev VC.i (t:Nat) (a:VC):VC:=.cond (.t t) a .skip
abbrev VC.h (o:List aX) (t:Nat) (a b:VC):VC:=.seq (.seq (.nd o) (.cond (.t t) a .skip)) b
end VE
end
section
namespace VE
inductive Tr (α:Type) where
 | l
 | n (k:Nat) (v:α) (a b:Tr α)
def Tr.find {α:Type}:Tr α->Nat->Option α
 | .l,_=>none
 | .n k v a b,i=>bif yp i k then some v else bif yI i k then a.find i else b.find i
end VE
end
section
namespace VE
open Go (IntKind FloatKind)
def KQ:xc->Nat
 | .i8=>0 | .i16=>1 | .i32=>2 | .i64=>3 | .u8=>4 | .u16=>5 | .u32=>6 | .u64=>7
def Xe:Int->Int->Bool
 | .ofNat a,.ofNat b=>yp a b
 | .negSucc a,.negSucc b=>yp a b
 | _,_=>false
def Ns:Bool->Bool->Bool
 | true,true | false,false=>true
 | _,_=>false
def eqF:vS->vS->Bool
 | .f32,.f32 | .f64,.f64=>true
 | _,_=>false
mutual
def fW:AV->AV->Bool
 | .int k a,.int k' b=>yp (KQ k) (KQ k')&&Xe a b
 | .bool a,.bool b=>Ns a b
 | .aw k a,.aw k' b=>eqF k k'&&yp a b
 | .str a,.str b=>cM a b
 | .kG,.kG=>true
 | .cg a,.cg b=>lC a b
 | .ae,.ae=>true
 | .aB e n a,.aB e' n' b=>Ns e e'&&(yp n n'&&lC a b)
 | .bI e s n a,.bI e' s' n' b=>Ns e e'&&(yp s s'&&(yp n n'&&lC a b))
 | .fn (.f g) a b,.fn (.f g') a' b'=>yp g g'&&(lC a a'&&lC b b')
 | .ik,.ik=>true
 | .jt,.jt=>true
 | .iQ a b,.iQ a' b'=>lC a a'&&lC b b'
 | .agg a,.agg b=>lC a b
 | .aa a,.aa b=>lC a b
 | .undef,.undef=>true
 | _,_=>false
def lC:List AV->List AV->Bool
 | [],[]=>true
 | a::x,b::y=>fW a b&&lC x y
 | _,_=>false
end
def hI:Int->Nat
 | .ofNat n=>n
 | .negSucc n=>n+n
def hS:List Nat->Nat
 | []=>1
 | b::r=>(b+257*hS r)%65521
mutual
def hV:AV->Nat
 | .int _ n=>hI n
 | .bool b=>bif b then 1 else 2
 | .aw _ n=>n
 | .str s=>hS s
 | .aB _ n cs=>n+hL cs
 | .agg cs=>hL cs
 | .aa cs=>hL cs
 | _=>5
def hL:List AV->Nat
 | []=>7
 | v::r=>(hV v+263*hL r)%65521
end
abbrev Te:=Tr (List AV×AV)
abbrev ak:=List Te
def Bg (h:Nat) (ao:List AV):ak->Option AV
 | []=>none
 | t::l=>match t.find h with
  | some (a,r)=>bif lC a ao then some r else Bg h ao l
  | none=>Bg h ao l
def afS (ao:List AV) (l:ak):Option AV:=Bg (hL ao) ao l
abbrev Te.o (h:Nat) (a:List AV) (r:AV):Te:= .n h (a,r) .l .l
abbrev Te.m (h:Nat) (a:List AV) (r:AV) (x y:Te):Te:= .n h (a,r) x y
def Bh (n:Nat):List (Tr ak)->Option ak
 | []=>none
 | t::r=>match t.find n with
  | none=>Bh n r
  | some l=>match Bh n r with | none=>some l | some m=>some (l++m)
def Lr (L:Lib) (T:List (Tr ak)) (ex:Nat):Lib:=
 ⟨fun i=>match L.pure i with
  | some sp=>some sp
  | none=>bif yp i ex then none else match Bh i T with | some l=>some (fun ao=>afS ao l) | none=>none,L.heap⟩
def Hj (P:aM) (L:Lib) (f:Nat):Te->Bool
 | .l=>true
 | .n _ e x y=>(match WH P L 100000 f e.1 with | some r'=>fW r' e.2 | none=>false)&&(Hj P L f x&&Hj P L f y)
def KR (P:aM) (L:Lib) (f:Nat):ak->Bool
 | []=>true
 | t::l=>Hj P L f t&&KR P L f l
def bj (P:aM) (L:Lib) (T:List (Tr ak)):List (Nat×ak)->Bool
 | []=>true
 | (f,l)::C=>KR P (Lr L T f) f l&&bj P L T C
end VE
end
section
namespace VE
open Go
def ani {a b:xc} (h:yp (KQ a) (KQ b)=true):a=b:=by
 cases a<;>cases b<;>first | rfl | (exact absurd h (by decide))
def ao9 {a b:Int} (h:Xe a b=true):a=b:=by
 cases a<;>cases b<;>simp only [Xe,reduceCtorEq] at h<;>rw [yj h]
def Pa {a b:Bool} (h:Ns a b=true):a=b:=by
 cases a<;>cases b<;>first | rfl | (exact absurd h (by decide))
def apa {a b:vS} (h:eqF a b=true):a=b:=by
 cases a<;>cases b<;>first | rfl | (exact absurd h (by decide))
mutual
def aaz:∀(a b:AV),fW a b=true->a=b
 | .int k a,b,h=>by
  cases b<;>simp only [fW,yf,yB] at h
  rw [ani h.1,ao9 h.2]
 | .bool a,b,h=>by
  cases b<;>simp only [fW,yB] at h
  rw [Pa h]
 | .aw k a,b,h=>by
  cases b<;>simp only [fW,yf,yB] at h
  rw [apa h.1,yj h.2]
 | .str a,b,h=>by
  cases b<;>simp only [fW,yB] at h
  rw [O5 h]
 | .kG,b,h=>by cases b<;>simp only [fW,yB] at h;rfl
 | .ptr _ _,b,h=>by cases b<;>simp only [fW,yB] at h
 | .cg a,b,h=>by
  cases b<;>simp only [fW,yB] at h
  rw [oV _ _ h]
 | .ae,b,h=>by cases b<;>simp only [fW,yB] at h;rfl
 | .aB e n a,b,h=>by
  cases b<;>simp only [fW,yf,yB] at h
  rw [Pa h.1,yj h.2.1,oV _ _ h.2.2]
 | .bI e s n a,b,h=>by
  cases b<;>simp only [fW,yf,yB] at h
  rw [Pa h.1,yj h.2.1,yj h.2.2.1,oV _ _ h.2.2.2]
 | .aD _ _ _,b,h=>by cases b<;>simp only [fW,yB] at h
 | .fn (.f g) x y,b,h=>by
  cases b<;>try (simp only [fW,yB] at h;done)
  rename_i fr _ _;cases fr<;>simp only [fW,yf,yB] at h
  rw [yj h.1,oV _ _ h.2.1,oV _ _ h.2.2]
 | .fn (.y _) _ _,b,h=>by cases b<;>simp only [fW,yB] at h
 | .ik,b,h=>by cases b<;>simp only [fW,yB] at h;rfl
 | .jt,b,h=>by cases b<;>simp only [fW,yB] at h;rfl
 | .map _,b,h=>by cases b<;>simp only [fW,yB] at h
 | .iQ x y,b,h=>by
  cases b<;>simp only [fW,yf,yB] at h
  rw [oV _ _ h.1,oV _ _ h.2]
 | .it _,b,h=>by cases b<;>simp only [fW,yB] at h
 | .agg a,b,h=>by
  cases b<;>simp only [fW,yB] at h
  rw [oV _ _ h]
 | .aa a,b,h=>by
  cases b<;>simp only [fW,yB] at h
  rw [oV _ _ h]
 | .undef,b,h=>by cases b<;>simp only [fW,yB] at h;rfl
def oV:∀(a b:List AV),lC a b=true->a=b
 | [],b,h=>by cases b<;>simp only [lC,yB] at h;rfl
 | x::a,b,h=>by
  cases b<;>simp only [lC,yf,yB] at h
  rw [aaz _ _ h.1,oV _ _ h.2]
end
def Tr.Has {α:Type} (x:α):Tr α->Prop
 | .l=>False
 | .n _ v a b=>v=x\/a.Has x\/b.Has x
def Tr.Pb {α:Type} {h:Nat} {x:α}:∀{t:Tr α},t.find h=some x->t.Has x
 | .l,hf=>by simp [Tr.find] at hf
 | .n k v a b,hf=>by
  simp only [Tr.find] at hf
  cases h1:yp h k with
  | true=>rw [h1] at hf;simp only [yz,yb] at hf;exact .inl hf
  | false=>
   rw [h1] at hf
   cases h2:yI h k with
   | true=>rw [h2] at hf;exact .inr (.inl (Tr.Pb hf))
   | false=>rw [h2] at hf;exact .inr (.inr (Tr.Pb hf))
def Nt (ao:List AV) (r:AV) (l:ak):Prop:=∃t,t∈l/\t.Has (ao,r)
def Y3 {h:Nat} {ao:List AV} {r:AV}:∀{l:ak},Bg h ao l=some r->Nt ao r l
 | [],hf=>by simp [Bg] at hf
 | t::l,hf=>by
  have tail:Bg h ao l=some r->Nt ao r (t::l):=fun q=>by
   obtain ⟨t',h1,h2⟩:=Y3 q;exact ⟨t',vz _ h1,h2⟩
  simp only [Bg] at hf
  split at hf
  ·rename_i a q he
   cases hb:lC a ao with
   | true=>
    rw [hb] at hf;simp only [yz,yb] at hf;rw [oV _ _ hb,hf] at he;exact ⟨t,uG,Tr.Pb he⟩
   | false=>
    grind
  ·grind
def anj {ao:List AV} {r:AV} {l:ak} (h:afS ao l=some r):Nt ao r l:=Y3 h
def jQ (O:bh) (f:Nat) (l:ak):Prop:=∀ao r,Nt ao r l->dS O f ao r
def jQ.nil {O:bh} {f:Nat}:jQ O f []:=fun _ _ h=>by obtain ⟨t,h,_⟩:=h;cases h
def jQ.aS {O:bh} {f:Nat} {a b:ak} (ha:jQ O f a) (hb:jQ O f b):jQ O f (a++b):=fun v r h=>by
 obtain ⟨t,h,h2⟩:=h;exact (List.mem_append.1 h).elim (fun h=>ha v r ⟨t,h,h2⟩) (fun h=>hb v r ⟨t,h,h2⟩)
def jQ.one {O:bh} {f k:Nat} {ao:List AV} {r:AV} (h:dS O f ao r):jQ O f [.n k (ao,r) .l .l]:=fun v q hm=>by
 obtain ⟨t,h1,h2⟩:=hm;rcases wZ.1 h1 with e | e
 ·subst e;rcases h2 with h2 | h2 | h2
  ·grind
  ·exact h2.elim
  ·exact h2.elim
 ·cases e
def Tr.kS {α:Type} (p:Nat->α->Prop):Tr α->Prop
 | .l=>True
 | .n k v a b=>p k v/\a.kS p/\b.kS p
def Tr.ig {α:Type} {p:Nat->α->Prop}:Tr.kS p .l:=trivial
def Tr.iV {α:Type} {p:Nat->α->Prop} {k:Nat} {v:α} {a b:Tr α} (h:p k v) (ha:a.kS p) (hb:b.kS p):Tr.kS p (.n k v a b):=⟨h,ha,hb⟩
def Tr.A3 {α:Type} {p:Nat->α->Prop} {i:Nat} {v:α}:∀{t:Tr α},t.kS p->t.find i=some v->p i v
 | .l,_,h=>by simp [Tr.find] at h
 | .n k w a b,ha,h=>by
  simp only [Tr.find] at h
  cases hb:yp i k with
  | true=>
   rw [hb] at h;simp only [yz,yb] at h;subst h;rw [yj hb];exact ha.1
  | false=>
   rw [hb] at h
   cases hc:yI i k with
   | true=>rw [hc] at h;exact Tr.A3 ha.2.1 h
   | false=>rw [hc] at h;exact Tr.A3 ha.2.2 h
abbrev bh.nN (O:bh) (L:Lib):bh:={O with az:=L}
def aaA {O:bh} {L:Lib} {m:Mp} {S:Nat->Prop} {w:yi} {id:Nat} {o:Obj}:eM (O.nN L) m S w id o↔eM O m S w id o:=by
 cases o<;>exact Iff.rfl
def aaB {O:bh} {L:Lib} {m:Mp} {S:Nat->Prop} {w:yi} {hp:Hp} {ct:Nat}:aO (O.nN L) m S w hp ct↔aO O m S w hp ct:=
 ⟨fun h=>⟨fun id o p h1 h2=>aaA.1 (h.obj id o p h1 h2),h.lt,h.inj,h.slt,h.blt,h.low,h.ju,h.fB,h.aF⟩,
  fun h=>⟨fun id o p h1 h2=>aaA.2 (h.obj id o p h1 h2),h.lt,h.inj,h.slt,h.blt,h.low,h.ju,h.fB,h.aF⟩⟩
def ZP {O:bh} {L:Lib} {n:Nat} {hp:Hp} {ct:Nat} {ao:List AV} {v:AV} {ap:Hp} {aV:Nat} (h:zL O n hp ct ao v ap aV):zL (O.nN L) n hp ct ao v ap aV:=by
 intro m S w args h1 h2;have post:∀e w',rD O m S w hp ct v ap aV e w'->rD (O.nN L) m S w hp ct v ap aV e w':=by
  rintro e w' ⟨u,m',S',k1,k2,k3,k4,k5⟩;exact ⟨u,m',S',k1,aaB.2 k2,k3,k4,k5⟩
 exact zp.mono (h m S w args (aaB.1 h1) h2) post
def eE (O:bh) (T:List (Tr ak)):Prop:=∀t,t∈T->t.kS (jQ O)
def eE.nil {O:bh}:eE O []:=fun _ h=>by cases h
def eE.cons {O:bh} {t:Tr ak} {T:List (Tr ak)} (h:t.kS (jQ O)) (hT:eE O T):eE O (t::T):=fun u hu=>by
 rcases wZ.1 hu with e | e
 ·grind
 ·exact hT u e
def OM {O:bh} {n:Nat}:∀{T:List (Tr ak)} {l:ak},eE O T->Bh n T=some l->jQ O n l
 | [],_,_,h=>by simp [Bh] at h
 | t::T,l,hT,h=>by
  have hT':eE O T:=fun u hu=>hT u (vz _ hu)
  simp only [Bh] at h
  split at h
  ·exact OM hT' h
  ·rename_i l1 h1;have c1:=Tr.A3 (hT t uG) h1
   split at h
   ·grind
   ·rename_i m h2;simp only [yb] at h;subst h;exact jQ.aS c1 (OM hT' h2)
def abx {O:bh} (hO:er O) {T:List (Tr ak)} (hT:eE O T) (ex:Nat):er (O.nN (Lr O.az T ex)) where
 hint:=hO.hint
 mixed:=hO.mixed
 prog:=hO.prog
 az n sp ao r h hs:=by
  simp only [Lr] at h
  cases hl:O.az.pure n with
  | some Nv=>
   simp only [hl,yb] at h;subst h;exact hO.az n _ ao r hl hs
  | none=>
   simp only [hl] at h
   cases hb:yp n ex with
   | true=>rw [hb] at h;cases h
   | false=>
    rw [hb] at h;simp only [yX] at h
    cases hf:Bh n T with
    | none=>simp [hf] at h
    | some l=>
     simp only [hf,yb] at h;subst h;exact OM hT hf ao r (anj hs)
 Dd n sp hp ct ao v ap aV h hs:=ZP (hO.Dd n sp hp ct ao v ap aV h hs)
def ON {O:bh} {L:Lib} (hO:er (O.nN L)) {f:Nat} {ao:List AV} {r:AV}:∀{t:Te},Hj O.prog L f t=true->t.Has (ao,r)->dS O f ao r
 | .l,_,h=>h.elim
 | .n k e x y,h,hm=>by
  simp only [Hj,yf] at h;rcases hm with e1 | hm | hm
  ·subst e1;have h1:=h.1
   split at h1
   ·rename_i r' hr;have e:r'=r:=aaz _ _ h1;rw [<-e];exact sound hO hr
   ·cases h1
  ·exact ON hO h.2.1 hm
  ·exact ON hO h.2.2 hm
def Y4 {O:bh} {L:Lib} (hO:er (O.nN L)) {f:Nat}:∀{l:ak},KR O.prog L f l=true->jQ O f l
 | [],_=>jQ.nil
 | t::l,h=>by
  simp only [KR,yf] at h;intro v q hm;obtain ⟨t',h1,h2⟩:=hm;rcases wZ.1 h1 with e | e
  ·subst e;exact ON hO h.1 h2
  ·exact Y4 hO h.2 v q ⟨t',e,h2⟩
def chunk_ok {O:bh} (hO:er O) {T:List (Tr ak)} (hT:eE O T):∀{C:List (Nat×ak)},bj O.prog O.az T C=true->∀f l,(f,l)∈C->jQ O f l
 | [],_,f,l,h=>by cases h
 | (g,l')::C,h,f,l,hm=>by
  simp only [bj,yf] at h;rcases wZ.1 hm with e | hm
  ·injection e with e1 e2
   subst e1;subst e2;exact Y4 (abx hO hT f) h.1
  ·exact chunk_ok hO hT h.2 f l hm
def bn {O:bh} {P:aM} {L:Lib} (hO:er O) (hp:O.prog=P) (hl:O.az=L) {T:List (Tr ak)} (hT:eE O T) {C:List (Nat×ak)} (h:bj P L T C=true) (i:Nat) {f:Nat} {l:ak} (hi:C[i]? =some (f,l)):jQ O f l:=by
 subst hp;subst hl;exact chunk_ok hO hT h f l (List.mem_of_getElem? hi)
def aN {α:Type} {p:Nat->α->Prop} {k:Nat} {v:α} {a b:Tr α} (h:p k v) (ha:a.kS p) (hb:b.kS p):Tr.kS p (.n k v a b):=Tr.iV h ha hb
def aL {α:Type} {p:Nat->α->Prop}:Tr.kS p .l:=Tr.ig
end VE
end
section
namespace VE
open Go
structure HD where
 n:Nat
 live:List (Nat×List Nat)
 out:List (Nat×List Nat)
 mode:List (Nat×Md)
 fz:List (Nat×List Nat)
 deriving Inhabited
def G4 {α:Type} (i:Nat):List (Nat×α)->Option α
 | []=>none
 | (j,a)::l=>bif yp j i then some a else G4 i l
def atl (bX:Nat->Option Nat) (d:HD):Hint where
 n:=d.n
 bX:=bX
 live:=fun l=>match G4 l d.live with | some x=>x | none=>[]
 out:=fun l=>G4 l d.out
 mode:=fun k=>match G4 k d.mode with | some x=>x | none=> .pure
 fz:=fun i=>match G4 i d.fz with | some x=>x | none=>[]
def KS (bX:Tr Nat) (t:Tr HD) (i:Nat):Hint:=atl bX.find (match t.find i with | some d=>d | none=>⟨0,[],[],[],[]⟩)
def r8 (t:Tr Nat) (i:Nat):Nat:=match t.find i with | some f=>f | none=>0
def G5 (af:Tr Nat):Tr Nat->Bool
 | .l=>true
 | .n f g a b=>yp (r8 af g) f&&(G5 af a&&G5 af b)
def Ou {af:Tr Nat}:∀{t:Tr Nat},G5 af t=true->t.kS (fun f g=>r8 af g=f)
 | .l,_=>trivial
 | .n f g a b,h=>by
  simp only [G5,yf] at h;exact ⟨yj h.1,Ou h.2.1,Ou h.2.2⟩
def PQ (P:xa) (af:Tr Nat) (bX:Tr Nat) (hd:Tr HD) (i:Nat) (F:aE):Prop:=
 ∃fn,P.funcs[r8 af i]? =some fn/\CS P (KS bX hd i) fn=some F/\fn.name≠ "runtime.NumGoroutine"
def ank {P:xa} {af bX:Tr Nat} {hd:Tr HD} {i:Nat} {F:aE} (h:(P.funcs[r8 af i]?).bind (CS P (KS bX hd i))=some F) (h2:(P.funcs[r8 af i]?).map (fun fn=>decide (fn.name= "runtime.NumGoroutine"))=some false):PQ P af bX hd i F:=by
 unfold PQ
 cases hq:P.funcs[r8 af i]? with
 | none=>rw [hq] at h;cases h
 | some fn=>
  rw [hq] at h h2;refine ⟨fn,rfl,h,fun e=>?_⟩;simp only [Option.map_some,yb,e,yq] at h2;cases h2
end VE
end
section
namespace VE
namespace lL
open Go
open Go.Proofs
def af:Tr Nat:=(.n 203 8 (.n 147 129 (.n 111 86 (.n 84 107 (.n 62 57 (.n 49 64 (.n 29 45 (.n 28 44 .l .l) (.n 46 51 .l .l)) (.n 59 46 (.n 50 100 .l .l) .l)) (.n 71 61 (.n 70 92 (.n 69 109 .l .l) .l) (.n 74 110 (.n 73 134 .l .l) .l))) (.n 101 84 (.n 98 116 (.n 88 154 (.n 86 56 .l .l) .l) (.n 100 132 (.n 99 117 .l .l) .l)) (.n 108 58 (.n 107 151 (.n 102 114 .l .l) .l) (.n 110 126 (.n 109 123 .l .l) .l)))) (.n 135 168 (.n 125 89 (.n 119 160 (.n 118 127 (.n 117 85 .l .l) .l) (.n 124 80 (.n 123 166 .l .l) .l)) (.n 128 122 (.n 127 164 (.n 126 165 .l .l) .l) (.n 130 125 (.n 129 124 .l .l) .l))) (.n 141 173 (.n 138 170 (.n 137 169 (.n 136 130 .l .l) .l) (.n 140 172 (.n 139 171 .l .l) .l)) (.n 144 187 (.n 143 186 (.n 142 185 .l .l) .l) (.n 146 128 (.n 145 184 .l .l) .l))))) (.n 172 60 (.n 159 199 (.n 153 181 (.n 150 135 (.n 149 87 (.n 148 152 .l .l) .l) (.n 152 180 (.n 151 196 .l .l) .l)) (.n 156 163 (.n 155 183 (.n 154 182 .l .l) .l) (.n 158 198 (.n 157 197 .l .l) .l))) (.n 166 203 (.n 163 59 (.n 162 179 (.n 161 112 .l .l) .l) (.n 165 202 (.n 164 153 .l .l) .l)) (.n 169 206 (.n 168 205 (.n 167 204 .l .l) .l) (.n 171 224 (.n 170 211 .l .l) .l)))) (.n 191 30 (.n 185 24 (.n 175 131 (.n 174 234 (.n 173 226 .l .l) .l) (.n 180 43 (.n 179 5 .l .l) .l)) (.n 188 26 (.n 187 27 (.n 186 25 .l .l) .l) (.n 190 29 (.n 189 28 .l .l) .l))) (.n 197 35 (.n 194 33 (.n 193 32 (.n 192 31 .l .l) .l) (.n 196 36 (.n 195 34 .l .l) .l)) (.n 200 39 (.n 199 38 (.n 198 37 .l .l) .l) (.n 202 10 (.n 201 40 .l .l) .l)))))) (.n 262 66 (.n 229 63 (.n 217 98 (.n 211 91 (.n 208 83 (.n 205 42 (.n 204 41 .l .l) (.n 206 115 .l .l)) (.n 210 90 (.n 209 88 .l .l) .l)) (.n 214 95 (.n 213 94 (.n 212 93 .l .l) .l) (.n 216 97 (.n 215 96 .l .l) .l))) (.n 223 104 (.n 220 101 (.n 219 106 (.n 218 99 .l .l) .l) (.n 222 105 (.n 221 103 .l .l) .l)) (.n 226 111 (.n 225 108 (.n 224 102 .l .l) .l) (.n 228 62 (.n 227 113 .l .l) .l)))) (.n 241 133 (.n 235 157 (.n 232 50 (.n 231 49 (.n 230 65 .l .l) .l) (.n 234 156 (.n 233 155 .l .l) .l)) (.n 238 161 (.n 237 159 (.n 236 158 .l .l) .l) (.n 240 167 (.n 239 162 .l .l) .l))) (.n 247 190 (.n 244 200 (.n 243 137 (.n 242 136 .l .l) .l) (.n 246 189 (.n 245 188 .l .l) .l)) (.n 250 193 (.n 249 192 (.n 248 191 .l .l) .l) (.n 252 225 (.n 251 194 .l .l) .l))))) (.n 289 121 (.n 277 71 (.n 271 13 (.n 265 75 (.n 264 17 (.n 263 9 .l .l) .l) (.n 268 14 (.n 267 69 .l .l) .l)) (.n 274 54 (.n 273 53 (.n 272 52 .l .l) .l) (.n 276 70 (.n 275 55 .l .l) .l))) (.n 283 148 (.n 280 72 (.n 279 73 (.n 278 74 .l .l) .l) (.n 282 142 (.n 281 120 .l .l) .l)) (.n 286 48 (.n 285 12 (.n 284 47 .l .l) .l) (.n 288 119 (.n 287 118 .l .l) .l)))) (.n 301 176 (.n 295 144 (.n 292 140 (.n 291 139 (.n 290 138 .l .l) .l) (.n 294 143 (.n 293 147 .l .l) .l)) (.n 298 141 (.n 297 146 (.n 296 145 .l .l) .l) (.n 300 175 (.n 299 174 .l .l) .l))) (.n 390 68 (.n 319 16 (.n 315 11 (.n 302 195 .l .l) .l) (.n 389 76 (.n 359 6 .l .l) .l)) (.n 428 15 (.n 427 7 (.n 426 3 .l .l) .l) (.n 430 67 (.n 429 18 .l .l) .l)))))))
def bX:Tr Nat:=(.n 110 74 (.n 57 62 (.n 33 194 (.n 16 319 (.n 10 202 (.n 7 427 (.n 5 179 (.n 3 426 .l .l) (.n 6 359 .l .l)) (.n 9 263 (.n 8 203 .l .l) .l)) (.n 13 271 (.n 12 285 (.n 11 315 .l .l) .l) (.n 15 428 (.n 14 268 .l .l) .l))) (.n 27 187 (.n 24 185 (.n 18 429 (.n 17 264 .l .l) .l) (.n 26 188 (.n 25 186 .l .l) .l)) (.n 30 191 (.n 29 190 (.n 28 189 .l .l) .l) (.n 32 193 (.n 31 192 .l .l) .l)))) (.n 45 29 (.n 39 200 (.n 36 196 (.n 35 197 (.n 34 195 .l .l) .l) (.n 38 199 (.n 37 198 .l .l) .l)) (.n 42 205 (.n 41 204 (.n 40 201 .l .l) .l) (.n 44 28 (.n 43 180 .l .l) .l))) (.n 51 46 (.n 48 286 (.n 47 284 (.n 46 59 .l .l) .l) (.n 50 232 (.n 49 231 .l .l) .l)) (.n 54 274 (.n 53 273 (.n 52 272 .l .l) .l) (.n 56 86 (.n 55 275 .l .l) .l))))) (.n 86 111 (.n 69 267 (.n 63 229 (.n 60 172 (.n 59 163 (.n 58 108 .l .l) .l) (.n 62 228 (.n 61 71 .l .l) .l)) (.n 66 262 (.n 65 230 (.n 64 49 .l .l) .l) (.n 68 390 (.n 67 430 .l .l) .l))) (.n 75 265 (.n 72 280 (.n 71 277 (.n 70 276 .l .l) .l) (.n 74 278 (.n 73 279 .l .l) .l)) (.n 83 208 (.n 80 124 (.n 76 389 .l .l) .l) (.n 85 117 (.n 84 101 .l .l) .l)))) (.n 98 217 (.n 92 70 (.n 89 125 (.n 88 209 (.n 87 149 .l .l) .l) (.n 91 211 (.n 90 210 .l .l) .l)) (.n 95 214 (.n 94 213 (.n 93 212 .l .l) .l) (.n 97 216 (.n 96 215 .l .l) .l))) (.n 104 223 (.n 101 220 (.n 100 50 (.n 99 218 .l .l) .l) (.n 103 221 (.n 102 224 .l .l) .l)) (.n 107 84 (.n 106 219 (.n 105 222 .l .l) .l) (.n 109 69 (.n 108 225 .l .l) .l)))))) (.n 161 238 (.n 135 150 (.n 123 109 (.n 117 99 (.n 114 102 (.n 112 161 (.n 111 226 .l .l) (.n 113 227 .l .l)) (.n 116 98 (.n 115 206 .l .l) .l)) (.n 120 281 (.n 119 288 (.n 118 287 .l .l) .l) (.n 122 128 (.n 121 289 .l .l) .l))) (.n 129 147 (.n 126 110 (.n 125 130 (.n 124 129 .l .l) .l) (.n 128 146 (.n 127 118 .l .l) .l)) (.n 132 100 (.n 131 175 (.n 130 136 .l .l) .l) (.n 134 73 (.n 133 241 .l .l) .l)))) (.n 147 293 (.n 141 298 (.n 138 290 (.n 137 243 (.n 136 242 .l .l) .l) (.n 140 292 (.n 139 291 .l .l) .l)) (.n 144 295 (.n 143 294 (.n 142 282 .l .l) .l) (.n 146 297 (.n 145 296 .l .l) .l))) (.n 155 233 (.n 152 148 (.n 151 107 (.n 148 283 .l .l) .l) (.n 154 88 (.n 153 164 .l .l) .l)) (.n 158 236 (.n 157 235 (.n 156 234 .l .l) .l) (.n 160 119 (.n 159 237 .l .l) .l))))) (.n 187 144 (.n 173 141 (.n 167 240 (.n 164 127 (.n 163 156 (.n 162 239 .l .l) .l) (.n 166 123 (.n 165 126 .l .l) .l)) (.n 170 138 (.n 169 137 (.n 168 135 .l .l) .l) (.n 172 140 (.n 171 139 .l .l) .l))) (.n 181 153 (.n 176 301 (.n 175 300 (.n 174 299 .l .l) .l) (.n 180 152 (.n 179 162 .l .l) .l)) (.n 184 145 (.n 183 155 (.n 182 154 .l .l) .l) (.n 186 143 (.n 185 142 .l .l) .l)))) (.n 199 159 (.n 193 250 (.n 190 247 (.n 189 246 (.n 188 245 .l .l) .l) (.n 192 249 (.n 191 248 .l .l) .l)) (.n 196 151 (.n 195 302 (.n 194 251 .l .l) .l) (.n 198 158 (.n 197 157 .l .l) .l))) (.n 206 169 (.n 203 166 (.n 202 165 (.n 200 244 .l .l) .l) (.n 205 168 (.n 204 167 .l .l) .l)) (.n 225 252 (.n 224 171 (.n 211 170 .l .l) .l) (.n 234 174 (.n 226 173 .l .l) .l)))))))
def hd:Tr HD:=(.n 210 ⟨22,[],[],[],[]⟩ (.n 149 ⟨14,[],[],[],[]⟩ (.n 108 ⟨6,[],[],[],[]⟩ (.n 73 ⟨8,[],[],[],[]⟩ (.n 59 ⟨26,[(1,[0,1,5])],[(1,[])],[],[]⟩ (.n 46 ⟨16,[],[],[],[]⟩ (.n 29 ⟨26,[(1,[0,1,5])],[(1,[])],[],[]⟩ (.n 28 ⟨27,[(1,[0,1,5])],[(1,[])],[],[]⟩ .l .l) .l) (.n 50 ⟨9,[],[],[],[]⟩ (.n 49 ⟨16,[],[],[],[]⟩ .l .l) .l)) (.n 70 ⟨9,[],[],[],[]⟩ (.n 69 ⟨6,[],[],[],[]⟩ (.n 62 ⟨22,[],[],[],[]⟩ .l .l) .l) (.n 71 ⟨16,[],[],[],[]⟩ .l .l))) (.n 99 ⟨69,[(1,[3,4,5,6]),(6,[6,10,11])],[(1,[3,6]),(6,[10])],[],[]⟩ (.n 86 ⟨76,[],[],[],[]⟩ (.n 84 ⟨20,[],[],[],[]⟩ (.n 74 ⟨34,[],[],[],[]⟩ .l .l) .l) (.n 98 ⟨13,[],[],[],[]⟩ (.n 88 ⟨23,[(0,[3,9,10,11])],[(0,[3])],[],[]⟩ .l .l) .l)) (.n 102 ⟨9,[],[],[],[]⟩ (.n 101 ⟨34,[],[],[],[]⟩ (.n 100 ⟨66,[],[],[],[]⟩ .l .l) .l) (.n 107 ⟨11,[],[],[],[]⟩ .l .l)))) (.n 129 ⟨19,[],[],[],[]⟩ (.n 123 ⟨23,[(0,[3,9,10,11])],[(0,[3])],[],[]⟩ (.n 117 ⟨5,[],[],[],[]⟩ (.n 111 ⟨6,[],[],[],[]⟩ (.n 110 ⟨41,[(0,[0,2,3,4])],[(0,[2,3,4])],[],[]⟩ .l .l) .l) (.n 119 ⟨67,[],[],[],[]⟩ (.n 118 ⟨29,[],[],[],[]⟩ .l .l) .l)) (.n 126 ⟨24,[],[],[],[]⟩ (.n 125 ⟨15,[(0,[5,6,7])],[(0,[])],[],[]⟩ (.n 124 ⟨7,[],[],[],[]⟩ .l .l) .l) (.n 127 ⟨21,[(0,[1,8,9,10])],[(0,[])],[],[]⟩ .l .l))) (.n 144 ⟨80,[(0,[1,5,20,21,22]),(2,[1,5,6,7,8,20,21,22,27,28,29])],[(0,[5]),(2,[1,5,6,8,20,21,22])],[],[]⟩ (.n 137 ⟨137,[(2,[0,1,6,7,8]),(4,[9,10,11,12,13,14]),(6,[9,11,12,13,96,97])],[(2,[6,7]),(4,[9,11,12,13]),(6,[11,12,13])],[(5,.own),(7,.own),(8,.heap)],[]⟩ (.n 136 ⟨24,[],[],[],[]⟩ (.n 130 ⟨23,[(0,[2,3,4])],[(0,[2,4])],[],[]⟩ .l .l) .l) (.n 142 ⟨10,[],[],[],[]⟩ .l .l)) (.n 147 ⟨26,[],[],[],[]⟩ (.n 146 ⟨7,[],[],[],[]⟩ (.n 145 ⟨50,[],[],[],[]⟩ .l .l) .l) (.n 148 ⟨21,[],[],[],[]⟩ .l .l))))) (.n 188 ⟨11,[],[],[],[]⟩ (.n 165 ⟨135,[(3,[2,8,9,10,11,13,14,15,16]),(6,[2,8,9,10,14,15,16,17,18])],[(3,[2,8,9,10,11,13,14,15]),(6,[2,8,14,15,17,18])],[],[]⟩ (.n 158 ⟨41,[(2,[0,1,5])],[(2,[])],[],[]⟩ (.n 155 ⟨23,[(0,[1,2,4,5])],[(0,[4,5])],[],[]⟩ (.n 151 ⟨13,[],[],[],[]⟩ (.n 150 ⟨9,[],[],[],[]⟩ .l .l) .l) (.n 157 ⟨54,[(1,[0,1,5,6,21,22])],[(1,[0,5,6])],[],[]⟩ (.n 156 ⟨9,[],[],[],[]⟩ .l .l) .l)) (.n 163 ⟨9,[],[],[],[]⟩ (.n 161 ⟨18,[(0,[6,7,8])],[(0,[])],[],[]⟩ (.n 159 ⟨41,[(0,[0,1,5,6,13,14])],[(0,[5])],[],[]⟩ .l .l) .l) (.n 164 ⟨84,[],[],[],[]⟩ .l .l))) (.n 179 ⟨318,[],[],[],[]⟩ (.n 169 ⟨186,[(1,[0,1,5,6,7,8]),(4,[0,1,5,6,11,12,104,105]),(7,[0,1,5,6,17,156,157])],[(1,[0,1,5,6]),(4,[0,1,5,6,11,12]),(7,[0,5,6,17])],[],[]⟩ (.n 168 ⟨40,[(0,[1,5,12,13,14])],[(0,[5])],[],[]⟩ (.n 166 ⟨21,[(0,[0,3])],[(0,[0,3])],[],[]⟩ .l .l) .l) (.n 172 ⟨25,[],[],[],[]⟩ .l .l)) (.n 186 ⟨17,[],[],[],[]⟩ (.n 185 ⟨16,[],[],[],[]⟩ (.n 180 ⟨59,[(1,[0,1,7,21,22]),(3,[7,9,10])],[(1,[0,1,7]),(3,[7])],[],[]⟩ .l .l) .l) (.n 187 ⟨8,[],[],[],[]⟩ .l .l)))) (.n 199 ⟨28,[],[],[],[]⟩ (.n 194 ⟨24,[],[],[],[]⟩ (.n 191 ⟨45,[],[],[],[]⟩ (.n 190 ⟨22,[],[],[],[]⟩ (.n 189 ⟨35,[],[],[],[]⟩ .l .l) .l) (.n 193 ⟨20,[],[],[],[]⟩ (.n 192 ⟨33,[],[],[],[]⟩ .l .l) .l)) (.n 197 ⟨51,[],[],[],[]⟩ (.n 196 ⟨10,[],[],[],[]⟩ (.n 195 ⟨45,[],[],[],[]⟩ .l .l) .l) (.n 198 ⟨21,[],[],[],[]⟩ .l .l))) (.n 204 ⟨95,[(1,[5,6,7,8,32,33]),(3,[5,6,7,8,9,10,32,33,39,40]),(5,[5,6,7,8,9,10,12,32,33,52,53,54])],[(1,[8]),(3,[5,6,7,8,9,10,32,33]),(5,[5,6,7,8,10,12,32,33])],[],[(25,[10])]⟩ (.n 202 ⟨73,[(2,[5,6,7])],[(2,[5,6,7])],[],[]⟩ (.n 201 ⟨102,[(1,[0,1,7,34,35,36]),(4,[10,13,76,77,78])],[(1,[0,7]),(4,[13])],[],[(20,[13])]⟩ (.n 200 ⟨84,[(2,[8,9,37,38,39]),(4,[8,9,11,12,37,38,39,46,47]),(6,[8,9,11,12,13,14,37,38,39,46,47,51,52,53])],[(2,[9]),(4,[8,9,12,37,38,39]),(6,[8,9,11,12,14,37,38,39,46,47])],[],[(23,[12])]⟩ .l .l) .l) (.n 203 ⟨10,[],[],[],[]⟩ .l .l)) (.n 208 ⟨8,[],[],[],[]⟩ (.n 206 ⟨16,[],[],[],[]⟩ (.n 205 ⟨20,[],[],[],[]⟩ .l .l) .l) (.n 209 ⟨25,[],[],[],[]⟩ .l .l)))))) (.n 268 ⟨14,[],[],[],[]⟩ (.n 232 ⟨28,[(0,[0,2,3]),(2,[0,2,3])],[(0,[0,2,3]),(2,[0,2,3])],[],[]⟩ (.n 221 ⟨32,[],[],[],[]⟩ (.n 216 ⟨42,[],[],[],[]⟩ (.n 213 ⟨35,[],[],[],[]⟩ (.n 212 ⟨10,[],[],[],[]⟩ (.n 211 ⟨51,[(0,[2,4,6,8,18,19,20]),(2,[2,4,6,8,10,18,19,20,29,30,31])],[(0,[6,8]),(2,[2,4,6,8,18,19,20])],[],[]⟩ .l .l) .l) (.n 215 ⟨5,[],[],[],[]⟩ (.n 214 ⟨18,[],[],[],[]⟩ .l .l) .l)) (.n 219 ⟨6,[],[],[],[]⟩ (.n 218 ⟨68,[],[],[],[]⟩ (.n 217 ⟨22,[],[],[],[]⟩ .l .l) .l) (.n 220 ⟨11,[],[],[],[]⟩ .l .l))) (.n 227 ⟨140,[(0,[4,5,6,7,8,24,25]),(2,[4,5,6,7,8,9,10,11,24,25]),(5,[4,5,6,7,8,9,10,24,25,89,90])],[(0,[4,8]),(2,[4,5,6,7,8,9,10,11,24,25]),(5,[4,5,6,7,8,9,24,25])],[],[]⟩ (.n 224 ⟨38,[],[],[],[]⟩ (.n 223 ⟨16,[],[],[],[]⟩ (.n 222 ⟨10,[],[],[],[]⟩ .l .l) .l) (.n 226 ⟨31,[(0,[4,9,10,11]),(2,[4,6,9,10,11,15,16,17])],[(0,[4]),(2,[4,6,9,10,11])],[],[]⟩ (.n 225 ⟨19,[(0,[3,6,7,8])],[(0,[3])],[],[]⟩ .l .l) .l)) (.n 230 ⟨11,[],[],[],[]⟩ (.n 229 ⟨32,[],[],[],[]⟩ (.n 228 ⟨13,[],[],[],[]⟩ .l .l) .l) (.n 231 ⟨7,[],[],[],[]⟩ .l .l)))) (.n 244 ⟨56,[(0,[4,5,6,7,8,9])],[(0,[4,7])],[],[]⟩ (.n 238 ⟨3,[],[],[],[]⟩ (.n 235 ⟨35,[],[],[],[]⟩ (.n 234 ⟨33,[(1,[0,1,4,5,6])],[(1,[4,5])],[],[]⟩ (.n 233 ⟨33,[(1,[0,1,4,5,6])],[(1,[4,5])],[],[]⟩ .l .l) .l) (.n 237 ⟨38,[(1,[1,2,3])],[(1,[2])],[],[]⟩ (.n 236 ⟨6,[],[],[],[]⟩ .l .l) .l)) (.n 241 ⟨14,[],[],[],[]⟩ (.n 240 ⟨34,[(0,[0,1,6,7,9,12,13])],[(0,[9])],[],[]⟩ (.n 239 ⟨40,[(0,[1,2,4,5,11,12])],[(0,[4,5])],[],[]⟩ .l .l) .l) (.n 243 ⟨63,[],[],[],[]⟩ .l .l))) (.n 262 ⟨13,[],[],[],[]⟩ (.n 247 ⟨10,[],[],[],[]⟩ (.n 246 ⟨6,[],[],[],[]⟩ (.n 245 ⟨15,[],[],[],[]⟩ .l .l) .l) (.n 252 ⟨7,[],[],[],[]⟩ .l .l)) (.n 265 ⟨6,[],[],[],[]⟩ (.n 264 ⟨63,[],[],[],[]⟩ (.n 263 ⟨96,[],[],[],[]⟩ .l .l) .l) (.n 267 ⟨55,[],[],[],[]⟩ .l .l))))) (.n 291 ⟨12,[(0,[0,1])],[(0,[0])],[],[]⟩ (.n 281 ⟨25,[(0,[0,2,3,4])],[(0,[2,3,4])],[],[]⟩ (.n 276 ⟨54,[],[],[],[]⟩ (.n 273 ⟨18,[],[],[],[]⟩ (.n 272 ⟨17,[(0,[0,3])],[(0,[0])],[],[]⟩ (.n 271 ⟨9,[],[],[],[]⟩ .l .l) .l) (.n 275 ⟨19,[(0,[0,1])],[(0,[0])],[],[]⟩ (.n 274 ⟨25,[],[],[],[]⟩ .l .l) .l)) (.n 279 ⟨40,[],[],[],[]⟩ (.n 278 ⟨16,[],[],[],[]⟩ (.n 277 ⟨61,[],[],[],[]⟩ .l .l) .l) (.n 280 ⟨57,[],[],[],[]⟩ .l .l))) (.n 286 ⟨14,[],[],[],[]⟩ (.n 284 ⟨7,[],[],[],[]⟩ (.n 283 ⟨13,[],[],[],[]⟩ (.n 282 ⟨39,[(1,[1,3,4])],[(1,[1,3])],[],[]⟩ .l .l) .l) (.n 285 ⟨9,[],[],[],[]⟩ .l .l)) (.n 289 ⟨206,[(2,[0,8,9,10,11]),(4,[8,9,10,11,12,13]),(6,[8,9,10,11,12,13,14,15,16]),(10,[8,9,10,11,12,13,14,19,20])],[(2,[8,9,10,11]),(4,[8,10,11,12]),(6,[8,9,10,11,12,13,14,15]),(10,[8,9,10,11,12,13,14,19])],[(5,.heap)],[]⟩ (.n 288 ⟨40,[(1,[0,2,3,4])],[(1,[0,2,3,4])],[],[]⟩ (.n 287 ⟨20,[(0,[0,3])],[(0,[])],[],[]⟩ .l .l) .l) (.n 290 ⟨20,[(0,[0,3,4])],[(0,[3])],[],[]⟩ .l .l)))) (.n 302 ⟨13,[],[],[],[]⟩ (.n 297 ⟨35,[(0,[0,1,5,6,7])],[(0,[5])],[],[]⟩ (.n 294 ⟨15,[],[],[],[]⟩ (.n 293 ⟨72,[(0,[0,1,5,6]),(2,[0,1,5,6,7,8])],[(0,[5]),(2,[0,1,5,6,7])],[],[]⟩ (.n 292 ⟨25,[(0,[0,1,5])],[(0,[5])],[],[]⟩ .l .l) .l) (.n 296 ⟨41,[(2,[0,1,5])],[(2,[])],[],[]⟩ (.n 295 ⟨42,[(0,[0,1,5,6,7])],[(0,[5])],[],[]⟩ .l .l) .l)) (.n 300 ⟨21,[(0,[0])],[(0,[0])],[],[]⟩ (.n 299 ⟨39,[(0,[0,1,6,7,8])],[(0,[6,7])],[],[]⟩ (.n 298 ⟨9,[],[],[],[]⟩ .l .l) .l) (.n 301 ⟨77,[(0,[0,1,2,7,9,10])],[(0,[9])],[],[]⟩ .l .l))) (.n 390 ⟨25,[(0,[1,5,6]),(2,[1,5,7])],[(0,[1,5]),(2,[5])],[],[]⟩ (.n 359 ⟨31,[],[],[],[]⟩ (.n 319 ⟨5,[],[],[],[]⟩ (.n 315 ⟨9,[],[],[],[]⟩ .l .l) .l) (.n 389 ⟨27,[(1,[0,1,5])],[(1,[5])],[],[]⟩ .l .l)) (.n 429 ⟨21,[],[],[],[]⟩ (.n 428 ⟨37,[(0,[4,5]),(2,[4,5])],[(0,[4,5]),(2,[4,5])],[],[]⟩ (.n 426 ⟨178,[],[],[],[]⟩ .l .l) .l) (.n 430 ⟨23,[(0,[0,4]),(2,[0,4])],[(0,[0,4]),(2,[0,4])],[],[]⟩ .l .l)))))))
def atm:G5 af bX=true:=by decide+kernel
noncomputable def cc (i:Nat):aE:=match (Tryz.prog.funcs[r8 af i]?).bind (CS Tryz.prog (KS bX hd i)) with
 | some F=>F
 | none=>⟨[],.skip⟩
end lL
def nest:VC->List VC
 | .seq a b=>nest a++nest b
 | .cond _ a b=>nest a++nest b
 | .dz _ a=>nest a
 | .loop _ a=>[a]
 | .rf _ _ a b=>[a,b]
 | _=>[]
def ml:VC->List VC->VC×List VC
 | .seq a b,l=>(.seq (ml a l).1 (ml b (ml a l).2).1,(ml b (ml a l).2).2)
 | .cond x a b,l=>(.cond x (ml a l).1 (ml b (ml a l).2).1,(ml b (ml a l).2).2)
 | .dz i a,l=>(.dz i (ml a l).1,(ml a l).2)
 | .loop v a,l=>(.loop v (l.headD a),l.tail)
 | .rf f ps a b,l=>(.rf f ps (l.headD a) (l.tail.headD b),l.tail.tail)
 | c,l=>(c,l)
def ahg (c:VC):List Nat->VC
 | []=>c
 | i::r=>ahg ((nest c).getD i .skip) r
def ax {α:Type} {a b:α} (_:a=b):α:=b
attribute [go_sem] ax
noncomputable def ck (F:aE) (p:List Nat) (l:List VC):VC:=(ml (ahg F.body p) l).1
noncomputable def dd (F:aE) (l:List VC):aE:=⟨F.dj,(ml F.body l).1⟩
end VE
end
