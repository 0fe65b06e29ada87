import Derived.Lib.AppendIntMem
import Derived.OwnWalk
import Derived.WalkKit
import Derived.Test.YtfdcefmdjiokdaaGreatDoorProg
import Derived.KernelRfl
import Derived.Attr
import Derived.Test.YtfdcefmdjiokdaaGreatDoorUac
import Derived.Test.YtfdcefmdjiokdaaGreatDoorUaa
import Derived.Test.YtfdcefmdjiokdaaGreatDoorUab
set_option linter.all false
set_option maxRecDepth 100000
open Array renaming size_replicate→vY
open Bool renaming and_eq_true→yg,false_eq_true→yD
open Go renaming FloatKind→uk,IntKind→y8,Program→y5,World→yi
open List renaming mem_cons→wA,mem_cons_of_mem→wS,mem_cons_self→vH
open Nat renaming beq→yr,blt→yJ,eq_of_beq_eq_true→yj
open Option.some renaming injEq→yb
section
namespace Go.Proofs
open Go.Shelf
open Go.RowKit Go.Sort Go.Lib
set_option maxHeartbeats 6400000 in
set_option maxRecDepth 100000 in
def Tryz.ae4 (u:Nat) (Cl:u<18446744073709551616) (w:yi)
  (Cj:Lib.TabIs Tryz.prog w "internal/strconv.uint64pow10" .u64 Lib.pow10Tab):
  Calls Tryz.prog 283 #[.int .u64 u,.int .i64 10] w fun e w'=>e= .returned (.string ⟨(Lib.decDigits u).toArray⟩)/\∃k os,w'=grow (w.drewN k) os:=by
 by_cases hs:u<100
 ·go_enter Tryz.func283,Tryz.ntmps283
  go_wp2_with (go_at_call 303;refine (Tryz.internal_strconv_small u hs _).mono ?_;rintro e w' ⟨rfl,rfl⟩)
  go_ret
  exact ⟨rfl,0,#[],by simp [World.drewN_zero]⟩
 ·have p8:1<=u:=by omega
  have ayc:Lib.nDigits u<=20:=by have:=Lib.numDigits_eq u p8 Cl;split at this<;>omega
  have hal:Tryz.prog.arrayLen 326=24:=by simp [Program.arrayLen,Tryz.underlying326]
  have EF:∀W,(Instr.sliceAt 326 (.pointer (some ⟨w.heap.size,0,none⟩)) none (some (.int .i64 (Lib.nDigits u:Int))) none).run Tryz.prog W= .ok (.slice (some ⟨w.heap.size,0,none⟩) (Lib.nDigits u) 24) W:=fun W=>by
   rw [run_sliceAt_array_h W 326 ⟨w.heap.size,0,none⟩ (by simp [Program.arrayLen,Program.elem,Tryz.underlying326]) .i64 (Lib.nDigits u:Int) (by omega) (by rw [hal];omega)]
   go_simp
  have TI:=Lib.holds_zero0 w 326 (Lib.nDigits u) (by omega);have abF:=Tryz.internal_strconv_formatBase10 w.heap.size 0 24 u (Array.replicate (Lib.nDigits u) 0) (w.alloc (.cells Lib.zeros24 326)) TI (by rw [vY];exact Lib.lt_pow_nDigits u) Cl (by rw [vY];omega)
  rw [vY] at abF;have HH0:=Lib.hid TI;have iu:(100:Int)<=(u:Int):=by omega
  clear TI hal
  go_enter Tryz.func283,Tryz.ntmps283
  go_wp2_with (first
   | (go_at_call 304;refine (Tryz.internal_strconv_numDigits u p8 Cl _ (Lib.tabIs_alloc Cj _)).mono ?_;rintro e w' ⟨rfl,rfl⟩))
  go_at_call 305
  refine abF.mono ?_;rintro e w' ⟨rfl,k,v',dk,rfl,hF⟩;have hcv:(convert 283 9 (.slice (some ⟨w.heap.size,0,none⟩) (Lib.nDigits u) 24)).run Tryz.prog ((putRow (fun (b:UInt8)=>Value.int .u8 (b.toNat:Int)) (w.alloc (.cells Lib.zeros24 326)) w.heap.size 0 dk).drewN k)= .ok (.string ⟨(Lib.decDigits u).toArray⟩) ((putRow (fun (b:UInt8)=>Value.int .u8 (b.toNat:Int)) (w.alloc (.cells Lib.zeros24 326)) w.heap.size 0 dk).drewN k):=by
   have h:=run_convert_bytes_back (P:=Tryz.prog) ((putRow (fun (b:UInt8)=>Value.int .u8 (b.toNat:Int)) (w.alloc (.cells Lib.zeros24 326)) w.heap.size 0 dk).drewN k) 283 9 5 ⟨w.heap.size,0,none⟩ 24 (Lib.decDigits u) Tryz.underlying283 Tryz.underlying5 Tryz.underlying9 (fun j hj=>by
    rw [Lib.row_is_numeral hF j hj,Lib.add_plain,World.cell?_drewN]
    exact cell?_putRow (fun (b:UInt8)=>Value.int .u8 (b.toNat:Int)) _ w.heap.size 0 _ dk HH0.out (by rw [hF.size,vY]) j (by rw [hF.size];rw [Lib.decDigits_length] at hj;exact hj))
   rw [Lib.decDigits_length] at h;exact h
  go_wp2
  go_ret
  obtain ⟨os,eo⟩:=Lib.fin_at w (.cells Lib.zeros24 326) dk k 0;exact ⟨rfl,k,os,eo⟩
def Tryz.ae5 (u:Nat) (Cl:u<18446744073709551616) (w:yi)
  (Cj:Lib.TabIs Tryz.prog w "internal/strconv.uint64pow10" .u64 Lib.pow10Tab):
  Calls Tryz.prog 249 #[.int .u64 u,.int .i64 10] w fun e w'=>e= .returned (.string ⟨(Lib.decDigits u).toArray⟩)/\∃k os,w'=grow (w.drewN k) os:=by
 go_enter Tryz.func249,Tryz.ntmps249
 go_wp2_with (go_at_call 283;refine (Tryz.ae4 u Cl _ Cj).mono ?_;rintro e w' ⟨rfl,k,os,rfl⟩)
 go_ret
 exact ⟨rfl,k,os,rfl⟩
end Go.Proofs
end
section
namespace VE
abbrev Rq (d:Nat) (o:Op):aZ:=⟨some d,none,o⟩
abbrev Rt (d g:Nat) (o:Op):aZ:=⟨some d,some (g,true),o⟩
abbrev Rf (d g:Nat) (o:Op):aZ:=⟨some d,some (g,false),o⟩
abbrev qm (d s:Nat):aZ:=⟨some d,none,.mj (.t s)⟩
abbrev qc0 (d f:Nat):aZ:=⟨some d,none,.call .pure (.c (.fn (.f f) [] [])) []⟩
abbrev qc1 (d f a:Nat):aZ:=⟨some d,none,.call .pure (.c (.fn (.f f) [] [])) [.t a]⟩
abbrev qc2 (d f a b:Nat):aZ:=⟨some d,none,.call .pure (.c (.fn (.f f) [] [])) [.t a,.t b]⟩
abbrev qc3 (d f a b c:Nat):aZ:=⟨some d,none,.call .pure (.c (.fn (.f f) [] [])) [.t a,.t b,.t c]⟩
abbrev qc4 (d f a b c e:Nat):aZ:=⟨some d,none,.call .pure (.c (.fn (.f f) [] [])) [.t a,.t b,.t c,.t e]⟩
abbrev ql (d n s:Nat):aZ:=⟨some d,none,.ld n false (.t s)⟩
abbrev qL (d n s:Nat):aZ:=⟨some d,none,.ld n true (.t s)⟩
abbrev qk (d:Nat) (k:Int):aZ:=⟨some d,none,.mj (.c (.int .i64 k))⟩
abbrev qf (d:Nat):aZ:=⟨some d,none,.mj (.c (.bool false))⟩
abbrev qz (d:Nat):aZ:=⟨some d,none,.mj (.c .ae)⟩
abbrev qi (d n s i:Nat):aZ:=⟨some d,none,.br n (.t s) (.t i)⟩
abbrev qo (d n s:Nat):aZ:=⟨some d,none,.off n (.t s)⟩
abbrev qn (d n s:Nat):aZ:=⟨some d,none,.len n (.t s)⟩
abbrev qe (d n s:Nat):aZ:=⟨some d,none,.ext n (.t s)⟩
abbrev qb (d n s:Nat):aZ:=⟨some d,none,.box n (.t s)⟩
abbrev qs (n a b:Nat):aZ:=⟨none,none,.st n (.t a) (.t b)⟩
abbrev qa (d a:Nat) (k:Int):aZ:=⟨some d,none,.bin .add (.t a) (.c (.int .i64 k))⟩
abbrev qN (d a:Nat) (k:Int):aZ:=⟨some d,none,.bin .neq (.t a) (.c (.int .i64 k))⟩
abbrev qE (d a:Nat) (k:Int):aZ:=⟨some d,none,.bin .eql (.t a) (.c (.int .i64 k))⟩
abbrev qA (d a b:Nat):aZ:=⟨some d,none,.bin .add (.t a) (.t b)⟩
abbrev qT (d a b:Nat):aZ:=⟨some d,none,.bin .lss (.t a) (.t b)⟩
abbrev qp (d c b:Nat):aZ:=⟨some d,none,.pick (.t c) (.c (.bool true)) (.t b)⟩
abbrev qq (d c b:Nat):aZ:=⟨some d,none,.pick (.t c) (.t b) (.c (.bool false))⟩
abbrev X.k (n:Int):X:=.c (.int .i64 n)
abbrev X.u (n:Int):X:=.c (.int .u64 n)
abbrev X.F (n:Nat):X:=.c (.fn (.f n) [] [])
abbrev X.s (l:List Nat):X:=.c (.str l)
abbrev AV.i (n:Int):AV:=.int .i64 n
abbrev Op.q (f:Nat) (l:List X):Op:=.call .pure (.c (.fn (.f f) [] [])) l
abbrev Op.y (o:Go.BinOp) (a:Nat) (n:Int):Op:=.bin o (.t a) (.c (.int .i64 n))
abbrev Op.z (o:Go.BinOp) (a b:Nat):Op:=.bin o (.t a) (.t b)
abbrev Op.m (a:Nat):Op:=.mj (.t a)
abbrev VC.g (o:List aZ) (b:VC):VC:=.seq (.jr o) b
abbrev VC.q (a b:VC):VC:=.seq a b
abbrev VC.e (o:List aZ):VC:=.seq (.jr o) .ret
abbrev VC.i (t:Nat) (a:VC):VC:=.cond (.t t) a .skip
abbrev VC.h (o:List aZ) (t:Nat) (a b:VC):VC:=.seq (.seq (.jr o) (.cond (.t t) a .skip)) b
end VE
end
section
namespace VE
inductive Tr (α:Type) where
 | l
 | n (k:Nat) (v:α) (a b:Tr α)
def Tr.find {α:Type}:Tr α->Nat->Option α
 | .l,_=>none
 | .n k v a b,i=>bif yr i k then some v else bif yJ i k then a.find i else b.find i
end VE
end
section
namespace VE
open Go (IntKind FloatKind)
def LW:y8->Nat
 | .i8=>0 | .i16=>1 | .i32=>2 | .i64=>3 | .u8=>4 | .u16=>5 | .u32=>6 | .u64=>7
def TJ:Int->Int->Bool
 | .ofNat a,.ofNat b=>yr a b
 | .negSucc a,.negSucc b=>yr a b
 | _,_=>false
def NU:Bool->Bool->Bool
 | true,true | false,false=>true
 | _,_=>false
def eqF:uk->uk->Bool
 | .f32,.f32 | .f64,.f64=>true
 | _,_=>false
mutual
def gA:AV->AV->Bool
 | .int k a,.int k' b=>yr (LW k) (LW k')&&TJ a b
 | .bool a,.bool b=>NU a b
 | .aK k a,.aK k' b=>eqF k k'&&yr a b
 | .str a,.str b=>cN a b
 | .kD,.kD=>true
 | .aH a,.aH b=>ma a b
 | .ae,.ae=>true
 | .aA e n a,.aA e' n' b=>NU e e'&&(yr n n'&&ma a b)
 | .cr e s n a,.cr e' s' n' b=>NU e e'&&(yr s s'&&(yr n n'&&ma a b))
 | .fn (.f g) a b,.fn (.f g') a' b'=>yr g g'&&(ma a a'&&ma b b')
 | .iA,.iA=>true
 | .jC,.jC=>true
 | .jo a b,.jo a' b'=>ma a a'&&ma b b'
 | .agg a,.agg b=>ma a b
 | .au a,.au b=>ma a b
 | .undef,.undef=>true
 | _,_=>false
def ma:List AV->List AV->Bool
 | [],[]=>true
 | a::x,b::y=>gA a b&&ma x y
 | _,_=>false
end
def hI:Int->Nat
 | .ofNat n=>n
 | .negSucc n=>n+n
def hS:List Nat->Nat
 | []=>1
 | b::r=>(b+257*hS r)%65521
mutual
def hV:AV->Nat
 | .int _ n=>hI n
 | .bool b=>bif b then 1 else 2
 | .aK _ n=>n
 | .str s=>hS s
 | .aA _ n cs=>n+hL cs
 | .agg cs=>hL cs
 | .au cs=>hL cs
 | _=>5
def hL:List AV->Nat
 | []=>7
 | v::r=>(hV v+263*hL r)%65521
end
abbrev Te:=Tr (List AV×AV)
abbrev cm:=List Te
def BR (h:Nat) (vals:List AV):cm->Option AV
 | []=>none
 | t::l=>match t.find h with
  | some (a,r)=>bif ma a vals then some r else BR h vals l
  | none=>BR h vals l
def aai (vals:List AV) (l:cm):Option AV:=BR (hL vals) vals l
abbrev Te.o (h:Nat) (a:List AV) (r:AV):Te:= .n h (a,r) .l .l
abbrev Te.m (h:Nat) (a:List AV) (r:AV) (x y:Te):Te:= .n h (a,r) x y
def BS (n:Nat):List (Tr cm)->Option cm
 | []=>none
 | t::r=>match t.find n with
  | none=>BS n r
  | some l=>match BS n r with | none=>some l | some m=>some (l++m)
def Mz (L:Lib) (T:List (Tr cm)) (ex:Nat):Lib:=
 ⟨fun i=>match L.pure i with
  | some sp=>some sp
  | none=>bif yr i ex then none else match BS i T with | some l=>some (fun vals=>aai vals l) | none=>none,L.heap⟩
def Ie (P:aF) (L:Lib) (f:Nat):Te->Bool
 | .l=>true
 | .n _ e x y=>(match S9 P L 100000 f e.1 with | some r'=>gA r' e.2 | none=>false)&&(Ie P L f x&&Ie P L f y)
def LX (P:aF) (L:Lib) (f:Nat):cm->Bool
 | []=>true
 | t::l=>Ie P L f t&&LX P L f l
def iO (P:aF) (L:Lib) (T:List (Tr cm)):List (Nat×cm)->Bool
 | []=>true
 | (f,l)::C=>LX P (Mz L T f) f l&&iO P L T C
end VE
end
section
namespace VE
open Go
def ahE {a b:y8} (h:yr (LW a) (LW b)=true):a=b:=by
 cases a<;>cases b<;>first | rfl | (exact absurd h (by decide))
def ajQ {a b:Int} (h:TJ a b=true):a=b:=by
 cases a<;>cases b<;>simp only [TJ,reduceCtorEq] at h<;>rw [yj h]
def PT {a b:Bool} (h:NU a b=true):a=b:=by
 cases a<;>cases b<;>first | rfl | (exact absurd h (by decide))
def ajR {a b:uk} (h:eqF a b=true):a=b:=by
 cases a<;>cases b<;>first | rfl | (exact absurd h (by decide))
mutual
def X3:∀(a b:AV),gA a b=true->a=b
 | .int k a,b,h=>by
  cases b<;>simp only [gA,yg,yD] at h
  rw [ahE h.1,ajQ h.2]
 | .bool a,b,h=>by
  cases b<;>simp only [gA,yD] at h
  rw [PT h]
 | .aK k a,b,h=>by
  cases b<;>simp only [gA,yg,yD] at h
  rw [ajR h.1,yj h.2]
 | .str a,b,h=>by
  cases b<;>simp only [gA,yD] at h
  rw [PO h]
 | .kD,b,h=>by cases b<;>simp only [gA,yD] at h;rfl
 | .ptr _ _,b,h=>by cases b<;>simp only [gA,yD] at h
 | .aH a,b,h=>by
  cases b<;>simp only [gA,yD] at h
  rw [pz _ _ h]
 | .ae,b,h=>by cases b<;>simp only [gA,yD] at h;rfl
 | .aA e n a,b,h=>by
  cases b<;>simp only [gA,yg,yD] at h
  rw [PT h.1,yj h.2.1,pz _ _ h.2.2]
 | .cr e s n a,b,h=>by
  cases b<;>simp only [gA,yg,yD] at h
  rw [PT h.1,yj h.2.1,yj h.2.2.1,pz _ _ h.2.2.2]
 | .ay _ _ _,b,h=>by cases b<;>simp only [gA,yD] at h
 | .fn (.f g) x y,b,h=>by
  cases b<;>try (simp only [gA,yD] at h;done)
  rename_i fr _ _;cases fr<;>simp only [gA,yg,yD] at h
  rw [yj h.1,pz _ _ h.2.1,pz _ _ h.2.2]
 | .fn (.y _) _ _,b,h=>by cases b<;>simp only [gA,yD] at h
 | .iA,b,h=>by cases b<;>simp only [gA,yD] at h;rfl
 | .jC,b,h=>by cases b<;>simp only [gA,yD] at h;rfl
 | .map _,b,h=>by cases b<;>simp only [gA,yD] at h
 | .jo x y,b,h=>by
  cases b<;>simp only [gA,yg,yD] at h
  rw [pz _ _ h.1,pz _ _ h.2]
 | .it _,b,h=>by cases b<;>simp only [gA,yD] at h
 | .agg a,b,h=>by
  cases b<;>simp only [gA,yD] at h
  rw [pz _ _ h]
 | .au a,b,h=>by
  cases b<;>simp only [gA,yD] at h
  rw [pz _ _ h]
 | .undef,b,h=>by cases b<;>simp only [gA,yD] at h;rfl
def pz:∀(a b:List AV),ma a b=true->a=b
 | [],b,h=>by cases b<;>simp only [ma,yD] at h;rfl
 | x::a,b,h=>by
  cases b<;>simp only [ma,yg,yD] at h
  rw [X3 _ _ h.1,pz _ _ h.2]
end
def Tr.Has {α:Type} (x:α):Tr α->Prop
 | .l=>False
 | .n _ v a b=>v=x\/a.Has x\/b.Has x
def Tr.PU {α:Type} {h:Nat} {x:α}:∀{t:Tr α},t.find h=some x->t.Has x
 | .l,hf=>by simp [Tr.find] at hf
 | .n k v a b,hf=>by
  simp only [Tr.find] at hf
  cases h1:yr h k with
  | true=>rw [h1] at hf;simp only [yt,yb] at hf;exact .inl hf
  | false=>
   rw [h1] at hf
   cases h2:yJ h k with
   | true=>rw [h2] at hf;exact .inr (.inl (Tr.PU hf))
   | false=>rw [h2] at hf;exact .inr (.inr (Tr.PU hf))
def NV (vals:List AV) (r:AV) (l:cm):Prop:=∃t,t∈l/\t.Has (vals,r)
def Wq {h:Nat} {vals:List AV} {r:AV}:∀{l:cm},BR h vals l=some r->NV vals r l
 | [],hf=>by simp [BR] at hf
 | t::l,hf=>by
  have tail:BR h vals l=some r->NV vals r (t::l):=fun q=>by
   obtain ⟨t',h1,h2⟩:=Wq q;exact ⟨t',wS _ h1,h2⟩
  simp only [BR] at hf
  split at hf
  ·rename_i a q he
   cases hb:ma a vals with
   | true=>
    rw [hb] at hf;simp only [yt,yb] at hf;rw [pz _ _ hb,hf] at he;exact ⟨t,vH,Tr.PU he⟩
   | false=>
    grind
  ·grind
def ahF {vals:List AV} {r:AV} {l:cm} (h:aai vals l=some r):NV vals r l:=Wq h
def lC (O:bk) (f:Nat) (l:cm):Prop:=∀vals r,NV vals r l->dV O f vals r
def lC.nil {O:bk} {f:Nat}:lC O f []:=fun _ _ h=>by obtain ⟨t,h,_⟩:=h;cases h
def lC.cQ {O:bk} {f:Nat} {a b:cm} (ha:lC O f a) (hb:lC O f b):lC O f (a++b):=fun v r h=>by
 obtain ⟨t,h,h2⟩:=h;exact (List.mem_append.1 h).elim (fun h=>ha v r ⟨t,h,h2⟩) (fun h=>hb v r ⟨t,h,h2⟩)
def lC.one {O:bk} {f k:Nat} {vals:List AV} {r:AV} (h:dV O f vals r):lC O f [.n k (vals,r) .l .l]:=fun v q hm=>by
 obtain ⟨t,h1,h2⟩:=hm;rcases wA.1 h1 with e | e
 ·subst e;rcases h2 with h2 | h2 | h2
  ·grind
  ·exact h2.elim
  ·exact h2.elim
 ·cases e
def Tr.kL {α:Type} (p:Nat->α->Prop):Tr α->Prop
 | .l=>True
 | .n k v a b=>p k v/\a.kL p/\b.kL p
def Tr.iT {α:Type} {p:Nat->α->Prop}:Tr.kL p .l:=trivial
def Tr.jy {α:Type} {p:Nat->α->Prop} {k:Nat} {v:α} {a b:Tr α} (h:p k v) (ha:a.kL p) (hb:b.kL p):Tr.kL p (.n k v a b):=⟨h,ha,hb⟩
def Tr.BH {α:Type} {p:Nat->α->Prop} {i:Nat} {v:α}:∀{t:Tr α},t.kL p->t.find i=some v->p i v
 | .l,_,h=>by simp [Tr.find] at h
 | .n k w a b,ha,h=>by
  simp only [Tr.find] at h
  cases hb:yr i k with
  | true=>
   rw [hb] at h;simp only [yt,yb] at h;subst h;rw [yj hb];exact ha.1
  | false=>
   rw [hb] at h
   cases hc:yJ i k with
   | true=>rw [hc] at h;exact Tr.BH ha.2.1 h
   | false=>rw [hc] at h;exact Tr.BH ha.2.2 h
abbrev bk.sK (O:bk) (L:Lib):bk:={O with aX:=L}
def X4 {O:bk} {L:Lib} {m:Mp} {S:Nat->Prop} {w:yi} {id:Nat} {o:Obj}:eJ (O.sK L) m S w id o↔eJ O m S w id o:=by
 cases o<;>exact Iff.rfl
def X5 {O:bk} {L:Lib} {m:Mp} {S:Nat->Prop} {w:yi} {hp:Hp} {ct:Nat}:aQ (O.sK L) m S w hp ct↔aQ O m S w hp ct:=
 ⟨fun h=>⟨fun id o p h1 h2=>X4.1 (h.obj id o p h1 h2),h.lt,h.inj,h.slt,h.blt,h.low,h.lA,h.fK,h.aR⟩,
  fun h=>⟨fun id o p h1 h2=>X4.2 (h.obj id o p h1 h2),h.lt,h.inj,h.slt,h.blt,h.low,h.lA,h.fK,h.aR⟩⟩
def Xg {O:bk} {L:Lib} {n:Nat} {hp:Hp} {ct:Nat} {vals:List AV} {v:AV} {an:Hp} {aV:Nat} (h:AA O n hp ct vals v an aV):AA (O.sK L) n hp ct vals v an aV:=by
 intro m S w args h1 h2;have post:∀e w',sC O m S w hp ct v an aV e w'->sC (O.sK L) m S w hp ct v an aV e w':=by
  rintro e w' ⟨u,m',S',k1,k2,k3,k4,k5⟩;exact ⟨u,m',S',k1,X5.2 k2,k3,k4,k5⟩
 exact Af.mono (h m S w args (X5.1 h1) h2) post
def fI (O:bk) (T:List (Tr cm)):Prop:=∀t,t∈T->t.kL (lC O)
def fI.nil {O:bk}:fI O []:=fun _ h=>by cases h
def fI.cons {O:bk} {t:Tr cm} {T:List (Tr cm)} (h:t.kL (lC O)) (hT:fI O T):fI O (t::T):=fun u hu=>by
 rcases wA.1 hu with e | e
 ·grind
 ·exact hT u e
def Pt {O:bk} {n:Nat}:∀{T:List (Tr cm)} {l:cm},fI O T->BS n T=some l->lC O n l
 | [],_,_,h=>by simp [BS] at h
 | t::T,l,hT,h=>by
  have NW:fI O T:=fun u hu=>hT u (wS _ hu)
  simp only [BS] at h
  split at h
  ·exact Pt NW h
  ·rename_i l1 h1;have c1:=Tr.BH (hT t vH) h1
   split at h
   ·grind
   ·rename_i m h2;simp only [yb] at h;subst h;exact lC.cQ c1 (Pt NW h2)
def Y2 {O:bk} (hO:gI O) {T:List (Tr cm)} (hT:fI O T) (ex:Nat):gI (O.sK (Mz O.aX T ex)) where
 hint:=hO.hint
 mixed:=hO.mixed
 prog:=hO.prog
 aX n sp vals r h hs:=by
  simp only [Mz] at h
  cases hl:O.aX.pure n with
  | some NX=>
   simp only [hl,yb] at h;subst h;exact hO.aX n _ vals r hl hs
  | none=>
   simp only [hl] at h
   cases hb:yr n ex with
   | true=>rw [hb] at h;cases h
   | false=>
    rw [hb] at h;simp only [yG] at h
    cases hf:BS n T with
    | none=>simp [hf] at h
    | some l=>
     simp only [hf,yb] at h;subst h;exact Pt hT hf vals r (ahF hs)
 D6 n sp hp ct vals v an aV h hs:=Xg (hO.D6 n sp hp ct vals v an aV h hs)
def Pu {O:bk} {L:Lib} (hO:gI (O.sK L)) {f:Nat} {vals:List AV} {r:AV}:∀{t:Te},Ie O.prog L f t=true->t.Has (vals,r)->dV O f vals r
 | .l,_,h=>h.elim
 | .n k e x y,h,hm=>by
  simp only [Ie,yg] at h;rcases hm with e1 | hm | hm
  ·subst e1;have h1:=h.1
   split at h1
   ·rename_i r' hr;have e:r'=r:=X3 _ _ h1;rw [<-e];exact sound hO hr
   ·cases h1
  ·exact Pu hO h.2.1 hm
  ·exact Pu hO h.2.2 hm
def Wr {O:bk} {L:Lib} (hO:gI (O.sK L)) {f:Nat}:∀{l:cm},LX O.prog L f l=true->lC O f l
 | [],_=>lC.nil
 | t::l,h=>by
  simp only [LX,yg] at h;intro v q hm;obtain ⟨t',h1,h2⟩:=hm;rcases wA.1 h1 with e | e
  ·subst e;exact Pu hO h.1 h2
  ·exact Wr hO h.2 v q ⟨t',e,h2⟩
def chunk_ok {O:bk} (hO:gI O) {T:List (Tr cm)} (hT:fI O T):∀{C:List (Nat×cm)},iO O.prog O.aX T C=true->∀f l,(f,l)∈C->lC O f l
 | [],_,f,l,h=>by cases h
 | (g,l')::C,h,f,l,hm=>by
  simp only [iO,yg] at h;rcases wA.1 hm with e | hm
  ·injection e with e1 e2
   subst e1;subst e2;exact Wr (Y2 hO hT f) h.1
  ·exact chunk_ok hO hT h.2 f l hm
def aN {α:Type} {p:Nat->α->Prop} {k:Nat} {v:α} {a b:Tr α} (h:p k v) (ha:a.kL p) (hb:b.kL p):Tr.kL p (.n k v a b):=Tr.jy h ha hb
def aL {α:Type} {p:Nat->α->Prop}:Tr.kL p .l:=Tr.iT
end VE
end
section
namespace VE
open Go
structure HD where
 n:Nat
 live:List (Nat×List Nat)
 out:List (Nat×List Nat)
 mode:List (Nat×Md)
 fz:List (Nat×List Nat)
 deriving Inhabited
def HW {α:Type} (i:Nat):List (Nat×α)->Option α
 | []=>none
 | (j,a)::l=>bif yr j i then some a else HW i l
def aor (bS:Nat->Option Nat) (d:HD):Hint where
 n:=d.n
 bS:=bS
 live:=fun l=>match HW l d.live with | some x=>x | none=>[]
 out:=fun l=>HW l d.out
 mode:=fun k=>match HW k d.mode with | some x=>x | none=> .pure
 fz:=fun i=>match HW i d.fz with | some x=>x | none=>[]
def LY (bS:Tr Nat) (t:Tr HD) (i:Nat):Hint:=aor bS.find (match t.find i with | some d=>d | none=>⟨0,[],[],[],[]⟩)
def zf (t:Tr Nat) (i:Nat):Nat:=match t.find i with | some f=>f | none=>0
def HX (ab:Tr Nat):Tr Nat->Bool
 | .l=>true
 | .n f g a b=>yr (zf ab g) f&&(HX ab a&&HX ab b)
def O7 {ab:Tr Nat}:∀{t:Tr Nat},HX ab t=true->t.kL (fun f g=>zf ab g=f)
 | .l,_=>trivial
 | .n f g a b,h=>by
  simp only [HX,yg] at h;exact ⟨yj h.1,O7 h.2.1,O7 h.2.2⟩
def QE (P:y5) (ab:Tr Nat) (bS:Tr Nat) (hd:Tr HD) (i:Nat) (F:ax):Prop:=
 ∃fn,P.funcs[zf ab i]? =some fn/\DC P (LY bS hd i) fn=some F/\fn.name≠ "runtime.NumGoroutine"
def ahG {P:y5} {ab bS:Tr Nat} {hd:Tr HD} {i:Nat} {F:ax} (h:(P.funcs[zf ab i]?).bind (DC P (LY bS hd i))=some F) (h2:(P.funcs[zf ab i]?).map (fun fn=>decide (fn.name= "runtime.NumGoroutine"))=some false):QE P ab bS hd i F:=by
 unfold QE
 cases hq:P.funcs[zf ab i]? with
 | none=>rw [hq] at h;cases h
 | some fn=>
  rw [hq] at h h2;refine ⟨fn,rfl,h,fun e=>?_⟩;simp only [Option.map_some,yb,e,yx] at h2;cases h2
end VE
end
section
namespace VE
namespace mU
open Go
open Go.Proofs
def ab:Tr Nat:=(.n 125 168 (.n 68 147 (.n 37 69 (.n 23 55 (.n 16 45 (.n 5 50 (.n 3 33 (.n 1 7 .l .l) (.n 4 102 .l .l)) (.n 14 41 (.n 9 51 .l .l) (.n 15 46 .l .l))) (.n 20 49 (.n 18 48 (.n 17 47 .l .l) (.n 19 31 .l .l)) (.n 22 53 (.n 21 52 .l .l) .l))) (.n 30 58 (.n 27 20 (.n 25 56 (.n 24 54 .l .l) (.n 26 13 .l .l)) (.n 29 18 (.n 28 57 .l .l) .l)) (.n 34 133 (.n 32 138 (.n 31 63 .l .l) (.n 33 62 .l .l)) (.n 36 135 (.n 35 134 .l .l) .l)))) (.n 54 106 (.n 47 126 (.n 41 139 (.n 39 137 (.n 38 136 .l .l) (.n 40 131 .l .l)) (.n 45 124 (.n 44 125 .l .l) (.n 46 113 .l .l))) (.n 51 68 (.n 49 111 (.n 48 127 .l .l) (.n 50 128 .l .l)) (.n 53 103 (.n 52 129 .l .l) .l))) (.n 61 83 (.n 58 132 (.n 56 107 (.n 55 105 .l .l) (.n 57 104 .l .l)) (.n 60 66 (.n 59 141 .l .l) .l)) (.n 65 144 (.n 63 142 (.n 62 89 .l .l) (.n 64 143 .l .l)) (.n 67 146 (.n 66 145 .l .l) .l))))) (.n 97 130 (.n 83 73 (.n 76 64 (.n 72 150 (.n 70 148 (.n 69 112 .l .l) (.n 71 149 .l .l)) (.n 74 88 (.n 73 152 .l .l) (.n 75 151 .l .l))) (.n 80 71 (.n 78 67 (.n 77 65 .l .l) (.n 79 70 .l .l)) (.n 82 74 (.n 81 72 .l .l) .l))) (.n 90 90 (.n 87 84 (.n 85 81 (.n 84 80 .l .l) (.n 86 82 .l .l)) (.n 89 86 (.n 88 85 .l .l) .l)) (.n 94 210 (.n 92 91 (.n 91 92 .l .l) (.n 93 93 .l .l)) (.n 96 140 (.n 95 209 .l .l) .l)))) (.n 111 182 (.n 104 165 (.n 101 184 (.n 99 201 (.n 98 181 .l .l) (.n 100 185 .l .l)) (.n 103 194 (.n 102 207 .l .l) .l)) (.n 108 180 (.n 106 195 (.n 105 166 .l .l) (.n 107 162 .l .l)) (.n 110 177 (.n 109 174 .l .l) .l))) (.n 118 178 (.n 115 159 (.n 113 213 (.n 112 212 .l .l) (.n 114 214 .l .l)) (.n 117 179 (.n 116 164 .l .l) .l)) (.n 122 161 (.n 120 158 (.n 119 183 .l .l) (.n 121 160 .l .l)) (.n 124 169 (.n 123 163 .l .l) .l)))))) (.n 245 271 (.n 154 225 (.n 140 251 (.n 133 211 (.n 129 175 (.n 127 170 (.n 126 171 .l .l) (.n 128 173 .l .l)) (.n 131 87 (.n 130 176 .l .l) (.n 132 255 .l .l))) (.n 137 248 (.n 135 247 (.n 134 208 .l .l) (.n 136 229 .l .l)) (.n 139 250 (.n 138 249 .l .l) .l))) (.n 147 227 (.n 144 237 (.n 142 236 (.n 141 252 .l .l) (.n 143 235 .l .l)) (.n 146 221 (.n 145 230 .l .l) .l)) (.n 151 216 (.n 149 241 (.n 148 234 .l .l) (.n 150 242 .l .l)) (.n 153 224 (.n 152 223 .l .l) .l)))) (.n 169 282 (.n 162 220 (.n 158 232 (.n 156 228 (.n 155 226 .l .l) (.n 157 231 .l .l)) (.n 160 215 (.n 159 233 .l .l) (.n 161 172 .l .l))) (.n 166 269 (.n 164 222 (.n 163 196 .l .l) (.n 165 279 .l .l)) (.n 168 281 (.n 167 280 .l .l) .l))) (.n 202 110 (.n 173 270 (.n 171 268 (.n 170 287 .l .l) (.n 172 197 .l .l)) (.n 175 243 (.n 174 309 .l .l) .l)) (.n 241 244 (.n 229 199 (.n 228 198 .l .l) (.n 230 200 .l .l)) (.n 243 246 (.n 242 245 .l .l) .l))))) (.n 286 157 (.n 271 21 (.n 261 17 (.n 249 275 (.n 247 273 (.n 246 272 .l .l) (.n 248 274 .l .l)) (.n 251 277 (.n 250 276 .l .l) (.n 252 301 .l .l))) (.n 265 15 (.n 263 38 (.n 262 101 .l .l) (.n 264 26 .l .l)) (.n 268 94 (.n 267 27 .l .l) .l))) (.n 278 100 (.n 275 119 (.n 273 118 (.n 272 117 .l .l) (.n 274 97 .l .l)) (.n 277 43 (.n 276 96 .l .l) .l)) (.n 282 75 (.n 280 98 (.n 279 99 .l .l) (.n 281 76 .l .l)) (.n 285 155 (.n 284 156 .l .l) .l)))) (.n 300 217 (.n 293 193 (.n 290 186 (.n 288 187 (.n 287 203 .l .l) (.n 289 189 .l .l)) (.n 292 123 (.n 291 122 .l .l) .l)) (.n 297 192 (.n 295 190 (.n 294 167 .l .l) (.n 296 191 .l .l)) (.n 299 238 (.n 298 188 .l .l) .l))) (.n 339 121 (.n 319 23 (.n 302 240 (.n 301 239 .l .l) (.n 315 28 .l .l)) (.n 338 44 (.n 336 42 .l .l) .l)) (.n 386 109 (.n 359 60 (.n 358 11 .l .l) (.n 383 32 .l .l)) (.n 391 5 (.n 387 108 .l .l) .l)))))))
def bS:Tr Nat:=(.n 148 70 (.n 86 89 (.n 52 21 (.n 32 383 (.n 20 27 (.n 13 26 (.n 7 1 (.n 5 391 .l .l) (.n 11 358 .l .l)) (.n 17 261 (.n 15 265 .l .l) (.n 18 29 .l .l))) (.n 27 267 (.n 23 319 (.n 21 271 .l .l) (.n 26 264 .l .l)) (.n 31 19 (.n 28 315 .l .l) .l))) (.n 45 16 (.n 42 336 (.n 38 263 (.n 33 3 .l .l) (.n 41 14 .l .l)) (.n 44 338 (.n 43 277 .l .l) .l)) (.n 49 20 (.n 47 17 (.n 46 15 .l .l) (.n 48 18 .l .l)) (.n 51 9 (.n 50 5 .l .l) .l)))) (.n 69 37 (.n 62 33 (.n 56 25 (.n 54 24 (.n 53 22 .l .l) (.n 55 23 .l .l)) (.n 58 30 (.n 57 28 .l .l) (.n 60 359 .l .l))) (.n 66 60 (.n 64 76 (.n 63 31 .l .l) (.n 65 77 .l .l)) (.n 68 51 (.n 67 78 .l .l) .l))) (.n 76 281 (.n 73 83 (.n 71 80 (.n 70 79 .l .l) (.n 72 81 .l .l)) (.n 75 282 (.n 74 82 .l .l) .l)) (.n 83 61 (.n 81 85 (.n 80 84 .l .l) (.n 82 86 .l .l)) (.n 85 88 (.n 84 87 .l .l) .l))))) (.n 119 275 (.n 102 4 (.n 94 268 (.n 90 90 (.n 88 74 (.n 87 131 .l .l) (.n 89 62 .l .l)) (.n 92 91 (.n 91 92 .l .l) (.n 93 93 .l .l))) (.n 99 279 (.n 97 274 (.n 96 276 .l .l) (.n 98 280 .l .l)) (.n 101 262 (.n 100 278 .l .l) .l))) (.n 109 386 (.n 106 54 (.n 104 57 (.n 103 53 .l .l) (.n 105 55 .l .l)) (.n 108 387 (.n 107 56 .l .l) .l)) (.n 113 46 (.n 111 49 (.n 110 202 .l .l) (.n 112 69 .l .l)) (.n 118 273 (.n 117 272 .l .l) .l)))) (.n 134 35 (.n 127 48 (.n 124 45 (.n 122 291 (.n 121 339 .l .l) (.n 123 292 .l .l)) (.n 126 47 (.n 125 44 .l .l) .l)) (.n 131 40 (.n 129 52 (.n 128 50 .l .l) (.n 130 97 .l .l)) (.n 133 34 (.n 132 58 .l .l) .l))) (.n 141 59 (.n 138 32 (.n 136 38 (.n 135 36 .l .l) (.n 137 39 .l .l)) (.n 140 96 (.n 139 41 .l .l) .l)) (.n 145 66 (.n 143 64 (.n 142 63 .l .l) (.n 144 65 .l .l)) (.n 147 68 (.n 146 67 .l .l) .l)))))) (.n 212 112 (.n 179 117 (.n 165 104 (.n 158 120 (.n 152 73 (.n 150 72 (.n 149 71 .l .l) (.n 151 75 .l .l)) (.n 156 284 (.n 155 285 .l .l) (.n 157 286 .l .l))) (.n 162 107 (.n 160 121 (.n 159 115 .l .l) (.n 161 122 .l .l)) (.n 164 116 (.n 163 123 .l .l) .l))) (.n 172 161 (.n 169 124 (.n 167 294 (.n 166 105 .l .l) (.n 168 125 .l .l)) (.n 171 126 (.n 170 127 .l .l) .l)) (.n 176 130 (.n 174 109 (.n 173 128 .l .l) (.n 175 129 .l .l)) (.n 178 118 (.n 177 110 .l .l) .l)))) (.n 194 103 (.n 187 288 (.n 183 119 (.n 181 98 (.n 180 108 .l .l) (.n 182 111 .l .l)) (.n 185 100 (.n 184 101 .l .l) (.n 186 290 .l .l))) (.n 191 296 (.n 189 289 (.n 188 298 .l .l) (.n 190 295 .l .l)) (.n 193 293 (.n 192 297 .l .l) .l))) (.n 201 99 (.n 198 228 (.n 196 163 (.n 195 106 .l .l) (.n 197 172 .l .l)) (.n 200 230 (.n 199 229 .l .l) .l)) (.n 209 95 (.n 207 102 (.n 203 287 .l .l) (.n 208 134 .l .l)) (.n 211 133 (.n 210 94 .l .l) .l))))) (.n 243 175 (.n 229 136 (.n 222 164 (.n 216 151 (.n 214 114 (.n 213 113 .l .l) (.n 215 160 .l .l)) (.n 220 162 (.n 217 300 .l .l) (.n 221 146 .l .l))) (.n 226 155 (.n 224 153 (.n 223 152 .l .l) (.n 225 154 .l .l)) (.n 228 156 (.n 227 147 .l .l) .l))) (.n 236 142 (.n 233 159 (.n 231 157 (.n 230 145 .l .l) (.n 232 158 .l .l)) (.n 235 143 (.n 234 148 .l .l) .l)) (.n 240 302 (.n 238 299 (.n 237 144 .l .l) (.n 239 301 .l .l)) (.n 242 150 (.n 241 149 .l .l) .l)))) (.n 271 245 (.n 250 139 (.n 247 135 (.n 245 242 (.n 244 241 .l .l) (.n 246 243 .l .l)) (.n 249 138 (.n 248 137 .l .l) .l)) (.n 268 171 (.n 252 141 (.n 251 140 .l .l) (.n 255 132 .l .l)) (.n 270 173 (.n 269 166 .l .l) .l))) (.n 279 165 (.n 275 249 (.n 273 247 (.n 272 246 .l .l) (.n 274 248 .l .l)) (.n 277 251 (.n 276 250 .l .l) .l)) (.n 287 170 (.n 281 168 (.n 280 167 .l .l) (.n 282 169 .l .l)) (.n 309 174 (.n 301 252 .l .l) .l)))))))
def hd:Tr HD:=(.n 115 ⟨23,[],[],[],[]⟩ (.n 62 ⟨22,[],[],[],[]⟩ (.n 34 ⟨16,[],[],[],[]⟩ (.n 21 ⟨27,[(1,[0,1,5])],[(1,[])],[],[]⟩ (.n 15 ⟨4,[],[],[],[]⟩ (.n 5 ⟨48,[],[],[(9,.heap)],[]⟩ (.n 3 ⟨40,[(2,[0,3]),(5,[0,3,4])],[(2,[]),(5,[0,3])],[],[]⟩ (.n 1 ⟨240,[],[],[],[]⟩ .l .l) (.n 4 ⟨15,[],[],[],[]⟩ .l .l)) (.n 14 ⟨8,[],[],[],[]⟩ (.n 9 ⟨42,[],[],[],[]⟩ .l .l) .l)) (.n 18 ⟨25,[],[],[],[]⟩ (.n 17 ⟨26,[],[],[],[]⟩ (.n 16 ⟨15,[],[],[],[]⟩ .l .l) .l) (.n 20 ⟨24,[],[],[],[]⟩ (.n 19 ⟨26,[],[],[],[]⟩ .l .l) .l))) (.n 28 ⟨27,[(1,[0,1,5])],[(1,[])],[],[]⟩ (.n 25 ⟨67,[],[],[],[]⟩ (.n 23 ⟨5,[],[],[],[]⟩ (.n 22 ⟨36,[],[],[],[]⟩ .l .l) (.n 24 ⟨27,[],[],[],[]⟩ .l .l)) (.n 27 ⟨100,[(2,[1,5,9,10,46,47]),(4,[1,5,9,10,11,46,47,50,51,52])],[(2,[1,5,9,10]),(4,[1,5,9,10,46,47])],[],[]⟩ (.n 26 ⟨101,[(2,[0,2,3,11,12,69,70,71]),(4,[0,2,3,11,12,14,69,70,71,75,76,77])],[(2,[12]),(4,[0,2,3,11,12,69,70,71])],[],[(18,[17])]⟩ .l .l) .l)) (.n 31 ⟨7,[],[],[],[]⟩ (.n 30 ⟨15,[],[],[],[]⟩ (.n 29 ⟨26,[(1,[0,1,5])],[(1,[])],[],[]⟩ .l .l) .l) (.n 33 ⟨15,[(0,[5,6,7])],[(0,[])],[],[]⟩ (.n 32 ⟨32,[(0,[0,3,9,10,11])],[(0,[])],[],[]⟩ .l .l) .l)))) (.n 49 ⟨16,[],[],[],[]⟩ (.n 41 ⟨39,[],[],[],[]⟩ (.n 38 ⟨8,[],[],[],[]⟩ (.n 36 ⟨5,[],[],[],[]⟩ (.n 35 ⟨22,[(0,[1,5,8,9,10])],[(0,[5])],[],[]⟩ .l .l) (.n 37 ⟨21,[(0,[0,2,9,10,11])],[(0,[0])],[],[]⟩ .l .l)) (.n 40 ⟨32,[],[],[(1,.dyn)],[]⟩ (.n 39 ⟨38,[(0,[4,8,9,18,19,20])],[(0,[9])],[],[]⟩ .l .l) .l)) (.n 46 ⟨16,[],[],[],[]⟩ (.n 45 ⟨25,[],[],[],[]⟩ (.n 44 ⟨13,[],[],[],[]⟩ .l .l) .l) (.n 48 ⟨21,[],[],[],[]⟩ (.n 47 ⟨13,[],[],[],[]⟩ .l .l) .l))) (.n 56 ⟨41,[(0,[1,2,4,5,11,12])],[(0,[4,5])],[],[]⟩ (.n 53 ⟨11,[],[],[],[]⟩ (.n 51 ⟨5,[],[],[],[]⟩ (.n 50 ⟨9,[],[],[],[]⟩ .l .l) (.n 52 ⟨28,[],[],[],[]⟩ .l .l)) (.n 55 ⟨28,[],[],[],[]⟩ (.n 54 ⟨10,[],[],[],[]⟩ .l .l) .l)) (.n 59 ⟨26,[(1,[0,1,5])],[(1,[])],[],[]⟩ (.n 58 ⟨16,[],[],[],[]⟩ (.n 57 ⟨8,[],[],[],[]⟩ .l .l) .l) (.n 61 ⟨17,[],[],[],[]⟩ (.n 60 ⟨11,[],[],[],[]⟩ .l .l) .l))))) (.n 88 ⟨23,[(0,[3,9,10,11])],[(0,[3])],[],[]⟩ (.n 75 ⟨14,[],[],[],[]⟩ (.n 69 ⟨6,[],[],[],[]⟩ (.n 66 ⟨30,[],[],[],[]⟩ (.n 64 ⟨29,[],[],[],[]⟩ (.n 63 ⟨15,[],[],[],[]⟩ .l .l) (.n 65 ⟨9,[],[],[],[]⟩ .l .l)) (.n 68 ⟨8,[],[],[],[]⟩ (.n 67 ⟨25,[],[],[],[]⟩ .l .l) .l)) (.n 72 ⟨16,[],[],[],[]⟩ (.n 71 ⟨16,[],[],[],[]⟩ (.n 70 ⟨9,[],[],[],[]⟩ .l .l) .l) (.n 74 ⟨34,[],[],[],[]⟩ (.n 73 ⟨8,[],[],[],[]⟩ .l .l) .l))) (.n 82 ⟨137,[(0,[3,4,6,7,11,12,32,33,34]),(3,[3,4,6,7,11,12,14,15,16,32,33,34,54,55]),(6,[3,4,6,7,11,12,14,15,32,33,34,89,90]),(9,[11,27,118,119])],[(0,[4,11]),(3,[3,4,6,7,11,12,14,15,32,33,34]),(6,[3,4,6,7,11,12,15,32,33,34]),(9,[27])],[],[]⟩ (.n 79 ⟨22,[(0,[1,5,8,9,10])],[(0,[5])],[],[]⟩ (.n 77 ⟨22,[(0,[1,5,8,9,10])],[(0,[5])],[],[]⟩ (.n 76 ⟨9,[],[],[],[]⟩ .l .l) (.n 78 ⟨9,[],[],[],[]⟩ .l .l)) (.n 81 ⟨8,[],[],[],[]⟩ (.n 80 ⟨10,[],[],[],[]⟩ .l .l) .l)) (.n 85 ⟨22,[(0,[1,5,8,9,10])],[(0,[5])],[],[]⟩ (.n 84 ⟨20,[],[],[],[]⟩ (.n 83 ⟨8,[],[],[],[]⟩ .l .l) .l) (.n 87 ⟨22,[(0,[1,5,8,9,10])],[(0,[5])],[],[]⟩ (.n 86 ⟨76,[],[],[],[]⟩ .l .l) .l)))) (.n 102 ⟨9,[],[],[],[]⟩ (.n 96 ⟨4,[],[],[],[]⟩ (.n 92 ⟨22,[(0,[1,5,8,9,10])],[(0,[5])],[],[]⟩ (.n 90 ⟨143,[(0,[0,1,5,6,19,20]),(2,[5,6,49,50]),(4,[5,6,8,49,50,53,54]),(7,[5,6,8,9,10,11,49,50,53,54]),(9,[5,6,12,119,120])],[(0,[5,6]),(2,[5,6]),(4,[5,6,49,50]),(7,[5,6,8,49,50,53,54]),(9,[12])],[],[]⟩ (.n 89 ⟨46,[(0,[0,1,4,11,12,13]),(2,[0,1,4,5,6,7,11,12,13,18,19,20])],[(0,[4]),(2,[0,1,4,7,11,12,13])],[],[(14,[7])]⟩ .l .l) (.n 91 ⟨7,[],[],[],[]⟩ .l .l)) (.n 95 ⟨9,[],[],[],[]⟩ (.n 94 ⟨13,[],[],[],[]⟩ .l .l) .l)) (.n 99 ⟨69,[(1,[3,4,5,6]),(6,[6,10,11])],[(1,[3,6]),(6,[10])],[],[]⟩ (.n 98 ⟨13,[],[],[],[]⟩ (.n 97 ⟨20,[],[],[],[]⟩ .l .l) .l) (.n 101 ⟨34,[],[],[],[]⟩ (.n 100 ⟨66,[],[],[],[]⟩ .l .l) .l))) (.n 108 ⟨6,[],[],[],[]⟩ (.n 105 ⟨22,[],[],[],[]⟩ (.n 104 ⟨32,[],[],[],[]⟩ (.n 103 ⟨34,[],[],[],[]⟩ .l .l) .l) (.n 107 ⟨11,[],[],[],[]⟩ (.n 106 ⟨21,[(0,[2,3,6,9,10,11])],[(0,[3,6])],[],[]⟩ .l .l) .l)) (.n 112 ⟨16,[],[],[],[]⟩ (.n 111 ⟨6,[],[],[],[]⟩ (.n 110 ⟨41,[(0,[0,2,3,4])],[(0,[2,3,4])],[],[]⟩ .l .l) .l) (.n 114 ⟨10,[],[],[],[]⟩ (.n 113 ⟨11,[],[],[],[]⟩ .l .l) .l)))))) (.n 247 ⟨10,[],[],[],[]⟩ (.n 148 ⟨21,[],[],[],[]⟩ (.n 129 ⟨19,[],[],[],[]⟩ (.n 122 ⟨9,[],[],[],[]⟩ (.n 119 ⟨67,[],[],[],[]⟩ (.n 117 ⟨5,[],[],[],[]⟩ (.n 116 ⟨32,[],[],[],[]⟩ .l .l) (.n 118 ⟨29,[],[],[],[]⟩ .l .l)) (.n 121 ⟨22,[(0,[1,5,8,9,10])],[(0,[5])],[],[]⟩ (.n 120 ⟨22,[(0,[1,5,8,9,10])],[(0,[5])],[],[]⟩ .l .l) .l)) (.n 125 ⟨15,[(0,[5,6,7])],[(0,[])],[],[]⟩ (.n 124 ⟨7,[],[],[],[]⟩ (.n 123 ⟨23,[(0,[3,9,10,11])],[(0,[3])],[],[]⟩ .l .l) .l) (.n 127 ⟨21,[(0,[1,8,9,10])],[(0,[])],[],[]⟩ (.n 126 ⟨24,[],[],[],[]⟩ .l .l) .l))) (.n 137 ⟨137,[(2,[0,1,6,7,8]),(4,[9,10,11,12,13,14]),(6,[9,11,12,13,96,97])],[(2,[6,7]),(4,[9,11,12,13]),(6,[11,12,13])],[(5,.own),(7,.own),(8,.heap)],[]⟩ (.n 133 ⟨20,[(0,[0,1,5,6]),(2,[0,1,3,5,6,9,10])],[(0,[]),(2,[0,1,5,6])],[(0,.heap)],[]⟩ (.n 131 ⟨26,[(0,[0,1,4,5,9,10])],[(0,[4,5])],[],[]⟩ (.n 130 ⟨23,[(0,[2,3,4])],[(0,[2,4])],[],[]⟩ .l .l) (.n 132 ⟨19,[(0,[0,1,7,8])],[(0,[])],[],[]⟩ .l .l)) (.n 136 ⟨24,[],[],[],[]⟩ (.n 134 ⟨12,[],[],[],[]⟩ .l .l) .l)) (.n 145 ⟨50,[],[],[],[]⟩ (.n 144 ⟨80,[(0,[1,5,20,21,22]),(2,[1,5,6,7,8,20,21,22,27,28,29])],[(0,[5]),(2,[1,5,6,8,20,21,22])],[],[]⟩ (.n 142 ⟨10,[],[],[],[]⟩ .l .l) .l) (.n 147 ⟨26,[],[],[],[]⟩ (.n 146 ⟨7,[],[],[],[]⟩ .l .l) .l)))) (.n 165 ⟨135,[(3,[2,8,9,10,11,13,14,15,16]),(6,[2,8,9,10,14,15,16,17,18])],[(3,[2,8,9,10,11,13,14,15]),(6,[2,8,14,15,17,18])],[],[]⟩ (.n 158 ⟨41,[(2,[0,1,5])],[(2,[])],[],[]⟩ (.n 155 ⟨23,[(0,[1,2,4,5])],[(0,[4,5])],[],[]⟩ (.n 150 ⟨9,[],[],[],[]⟩ (.n 149 ⟨14,[],[],[],[]⟩ .l .l) (.n 151 ⟨13,[],[],[],[]⟩ .l .l)) (.n 157 ⟨54,[(1,[0,1,5,6,21,22])],[(1,[0,5,6])],[],[]⟩ (.n 156 ⟨9,[],[],[],[]⟩ .l .l) .l)) (.n 161 ⟨18,[(0,[6,7,8])],[(0,[])],[],[]⟩ (.n 160 ⟨19,[(0,[0,1,7,8])],[(0,[])],[],[]⟩ (.n 159 ⟨41,[(0,[0,1,5,6,13,14])],[(0,[5])],[],[]⟩ .l .l) .l) (.n 164 ⟨84,[],[],[],[]⟩ (.n 163 ⟨9,[],[],[],[]⟩ .l .l) .l))) (.n 229 ⟨32,[],[],[],[]⟩ (.n 172 ⟨25,[],[],[],[]⟩ (.n 168 ⟨40,[(0,[1,5,12,13,14])],[(0,[5])],[],[]⟩ (.n 166 ⟨21,[(0,[0,3])],[(0,[0,3])],[],[]⟩ .l .l) (.n 169 ⟨186,[(1,[0,1,5,6,7,8]),(4,[0,1,5,6,11,12,104,105]),(7,[0,1,5,6,17,156,157])],[(1,[0,1,5,6]),(4,[0,1,5,6,11,12]),(7,[0,5,6,17])],[],[]⟩ .l .l)) (.n 228 ⟨13,[],[],[],[]⟩ (.n 202 ⟨73,[(2,[5,6,7])],[(2,[5,6,7])],[],[]⟩ .l .l) .l)) (.n 243 ⟨63,[],[],[],[]⟩ (.n 241 ⟨14,[],[],[],[]⟩ (.n 230 ⟨11,[],[],[],[]⟩ .l .l) .l) (.n 246 ⟨6,[],[],[],[]⟩ (.n 245 ⟨15,[],[],[],[]⟩ .l .l) .l))))) (.n 289 ⟨206,[(2,[0,8,9,10,11]),(4,[8,9,10,11,12,13]),(6,[8,9,10,11,12,13,14,15,16]),(10,[8,9,10,11,12,13,14,19,20])],[(2,[8,9,10,11]),(4,[8,10,11,12]),(6,[8,9,10,11,12,13,14,15]),(10,[8,9,10,11,12,13,14,19])],[(5,.heap)],[]⟩ (.n 275 ⟨19,[(0,[0,1])],[(0,[0])],[],[]⟩ (.n 267 ⟨55,[],[],[],[]⟩ (.n 263 ⟨96,[],[],[],[]⟩ (.n 261 ⟨19,[(0,[0,3])],[(0,[])],[],[]⟩ (.n 252 ⟨7,[],[],[],[]⟩ .l .l) (.n 262 ⟨13,[],[],[],[]⟩ .l .l)) (.n 265 ⟨6,[],[],[],[]⟩ (.n 264 ⟨63,[],[],[],[]⟩ .l .l) .l)) (.n 272 ⟨17,[(0,[0,3])],[(0,[0])],[],[]⟩ (.n 271 ⟨9,[],[],[],[]⟩ (.n 268 ⟨14,[],[],[],[]⟩ .l .l) .l) (.n 274 ⟨25,[],[],[],[]⟩ (.n 273 ⟨18,[],[],[],[]⟩ .l .l) .l))) (.n 282 ⟨39,[(1,[1,3,4])],[(1,[1,3])],[],[]⟩ (.n 279 ⟨40,[],[],[],[]⟩ (.n 277 ⟨61,[],[],[],[]⟩ (.n 276 ⟨54,[],[],[],[]⟩ .l .l) (.n 278 ⟨16,[],[],[],[]⟩ .l .l)) (.n 281 ⟨25,[(0,[0,2,3,4])],[(0,[2,3,4])],[],[]⟩ (.n 280 ⟨57,[],[],[],[]⟩ .l .l) .l)) (.n 286 ⟨14,[],[],[],[]⟩ (.n 285 ⟨9,[],[],[],[]⟩ (.n 284 ⟨7,[],[],[],[]⟩ .l .l) .l) (.n 288 ⟨40,[(1,[0,2,3,4])],[(1,[0,2,3,4])],[],[]⟩ (.n 287 ⟨20,[(0,[0,3])],[(0,[])],[],[]⟩ .l .l) .l)))) (.n 302 ⟨13,[],[],[],[]⟩ (.n 296 ⟨41,[(2,[0,1,5])],[(2,[])],[],[]⟩ (.n 293 ⟨72,[(0,[0,1,5,6]),(2,[0,1,5,6,7,8])],[(0,[5]),(2,[0,1,5,6,7])],[],[]⟩ (.n 291 ⟨12,[(0,[0,1])],[(0,[0])],[],[]⟩ (.n 290 ⟨20,[(0,[0,3,4])],[(0,[3])],[],[]⟩ .l .l) (.n 292 ⟨25,[(0,[0,1,5])],[(0,[5])],[],[]⟩ .l .l)) (.n 295 ⟨42,[(0,[0,1,5,6,7])],[(0,[5])],[],[]⟩ (.n 294 ⟨15,[],[],[],[]⟩ .l .l) .l)) (.n 299 ⟨39,[(0,[0,1,6,7,8])],[(0,[6,7])],[],[]⟩ (.n 298 ⟨9,[],[],[],[]⟩ (.n 297 ⟨35,[(0,[0,1,5,6,7])],[(0,[5])],[],[]⟩ .l .l) .l) (.n 301 ⟨77,[(0,[0,1,2,7,9,10])],[(0,[9])],[],[]⟩ (.n 300 ⟨21,[(0,[0])],[(0,[0])],[],[]⟩ .l .l) .l))) (.n 358 ⟨15,[],[],[],[]⟩ (.n 336 ⟨17,[],[],[],[]⟩ (.n 319 ⟨5,[],[],[],[]⟩ (.n 315 ⟨9,[],[],[],[]⟩ .l .l) .l) (.n 339 ⟨29,[],[],[],[]⟩ (.n 338 ⟨8,[],[],[],[]⟩ .l .l) .l)) (.n 386 ⟨31,[],[],[],[]⟩ (.n 383 ⟨26,[],[],[(3,.heap)],[]⟩ (.n 359 ⟨31,[],[],[],[]⟩ .l .l) .l) (.n 391 ⟨256,[(2,[0,8,14,24,26,27,28,194,195]),(5,[0,8,14,24,26,27,28,29,194,195,209,210,211])],[(2,[8,26,27,28]),(5,[0,8,14,24,26,27,28,194,195])],[],[]⟩ (.n 387 ⟨32,[],[],[(1,.dyn)],[]⟩ .l .l) .l)))))))
def aos:HX ab bS=true:=by decide+kernel
noncomputable def cc (i:Nat):ax:=match (Tryz.prog.funcs[zf ab i]?).bind (DC Tryz.prog (LY bS hd i)) with
 | some F=>F
 | none=>⟨[],.skip⟩
end mU
def nest:VC->List VC
 | .seq a b=>nest a++nest b
 | .cond _ a b=>nest a++nest b
 | .dt _ a=>nest a
 | .loop _ a=>[a]
 | .rf _ _ a b=>[a,b]
 | _=>[]
def mV:VC->List VC->VC×List VC
 | .seq a b,l=>(.seq (mV a l).1 (mV b (mV a l).2).1,(mV b (mV a l).2).2)
 | .cond x a b,l=>(.cond x (mV a l).1 (mV b (mV a l).2).1,(mV b (mV a l).2).2)
 | .dt i a,l=>(.dt i (mV a l).1,(mV a l).2)
 | .loop v a,l=>(.loop v (l.headD a),l.tail)
 | .rf f ps a b,l=>(.rf f ps (l.headD a) (l.tail.headD b),l.tail.tail)
 | c,l=>(c,l)
def abG (c:VC):List Nat->VC
 | []=>c
 | i::r=>abG ((nest c).getD i .skip) r
def ao {α:Type} {a b:α} (_:a=b):α:=b
attribute [go_sem] ao
noncomputable def bY (F:ax) (p:List Nat) (l:List VC):VC:=(mV (abG F.body p) l).1
noncomputable def fnv (F:ax) (l:List VC):ax:=⟨F.dQ,(mV F.body l).1⟩
end VE
end
