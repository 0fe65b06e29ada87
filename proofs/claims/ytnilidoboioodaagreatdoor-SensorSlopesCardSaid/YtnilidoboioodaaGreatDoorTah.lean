import Derived.Lib.AppendIntMem
import Derived.OwnWalk
import Derived.WalkKit
import Derived.Test.YtnilidoboioodaaGreatDoorProg
import Derived.KernelRfl
import Derived.Attr
import Derived.Test.YtnilidoboioodaaGreatDoorTag
import Derived.Test.YtnilidoboioodaaGreatDoorTaa
import Derived.Test.YtnilidoboioodaaGreatDoorTaf
set_option linter.all false
set_option maxRecDepth 100000
open Array renaming size_replicate→wY
open Bool renaming and_eq_true→yf,false_eq_true→yB
open Go renaming FloatKind→xV,IntKind→yV,Program→yK,World→yh
open List renaming mem_cons→wc,mem_cons_of_mem→wK,mem_cons_self→vK
open Nat renaming beq→ym,blt→yF,eq_of_beq_eq_true→yi
open Option.some renaming injEq→yb
section
namespace Go.Proofs
open Go.Shelf
open Go.RowKit Go.Sort Go.Lib
set_option maxHeartbeats 6400000 in
set_option maxRecDepth 100000 in
def Tryz.ZH (u:Nat) (AF:u<18446744073709551616) (w:yh)
  (AE:Lib.TabIs Tryz.prog w "internal/strconv.uint64pow10" .u64 Lib.pow10Tab):
  Calls Tryz.prog 286 #[.int .u64 u,.int .i64 10] w fun e w'=>e= .returned (.string ⟨(Lib.decDigits u).toArray⟩)/\∃k os,w'=grow (w.drewN k) os:=by
 by_cases hs:u<100
 ·go_enter Tryz.func286,Tryz.ntmps286
  go_wp2_with (go_at_call 320;refine (Tryz.internal_strconv_small u hs _).mono ?_;rintro e w' ⟨rfl,rfl⟩)
  go_ret
  exact ⟨rfl,0,#[],by simp [World.drewN_zero]⟩
 ·have nU:1<=u:=by omega
  have arn:Lib.nDigits u<=20:=by have:=Lib.numDigits_eq u nU AF;split at this<;>omega
  have Yf:Tryz.prog.arrayLen 369=24:=by simp [Program.arrayLen,Tryz.underlying369]
  have CM:∀W,(Instr.sliceAt 369 (.pointer (some ⟨w.heap.size,0,none⟩)) none (some (.int .i64 (Lib.nDigits u:Int))) none).run Tryz.prog W= .ok (.slice (some ⟨w.heap.size,0,none⟩) (Lib.nDigits u) 24) W:=fun W=>by
   rw [run_sliceAt_array_h W 369 ⟨w.heap.size,0,none⟩ (by simp [Program.arrayLen,Program.elem,Tryz.underlying369]) .i64 (Lib.nDigits u:Int) (by omega) (by rw [Yf];omega)]
   go_simp
  have Ps:=Lib.holds_zero0 w 369 (Lib.nDigits u) (by omega);have WB:=Tryz.internal_strconv_formatBase10 w.heap.size 0 24 u (Array.replicate (Lib.nDigits u) 0) (w.alloc (.cells Lib.zeros24 369)) Ps (by rw [wY];exact Lib.lt_pow_nDigits u) AF (by rw [wY];omega)
  rw [wY] at WB;have HH0:=Lib.hid Ps;have iu:(100:Int)<=(u:Int):=by omega
  clear Ps Yf
  go_enter Tryz.func286,Tryz.ntmps286
  go_wp2_with (first
   | (go_at_call 321;refine (Tryz.internal_strconv_numDigits u nU AF _ (Lib.tabIs_alloc AE _)).mono ?_;rintro e w' ⟨rfl,rfl⟩))
  go_at_call 322
  refine WB.mono ?_;rintro e w' ⟨rfl,k,v',dk,rfl,hF⟩;have hcv:(convert 308 9 (.slice (some ⟨w.heap.size,0,none⟩) (Lib.nDigits u) 24)).run Tryz.prog ((putRow (fun (b:UInt8)=>Value.int .u8 (b.toNat:Int)) (w.alloc (.cells Lib.zeros24 369)) w.heap.size 0 dk).drewN k)= .ok (.string ⟨(Lib.decDigits u).toArray⟩) ((putRow (fun (b:UInt8)=>Value.int .u8 (b.toNat:Int)) (w.alloc (.cells Lib.zeros24 369)) w.heap.size 0 dk).drewN k):=by
   have h:=run_convert_bytes_back (P:=Tryz.prog) ((putRow (fun (b:UInt8)=>Value.int .u8 (b.toNat:Int)) (w.alloc (.cells Lib.zeros24 369)) w.heap.size 0 dk).drewN k) 308 9 5 ⟨w.heap.size,0,none⟩ 24 (Lib.decDigits u) Tryz.underlying308 Tryz.underlying5 Tryz.underlying9 (fun j hj=>by
    rw [Lib.row_is_numeral hF j hj,Lib.add_plain,World.cell?_drewN]
    exact cell?_putRow (fun (b:UInt8)=>Value.int .u8 (b.toNat:Int)) _ w.heap.size 0 _ dk HH0.out (by rw [hF.size,wY]) j (by rw [hF.size];rw [Lib.decDigits_length] at hj;exact hj))
   rw [Lib.decDigits_length] at h;exact h
  go_wp2
  go_ret
  obtain ⟨os,eo⟩:=Lib.fin_at w (.cells Lib.zeros24 369) dk k 0;exact ⟨rfl,k,os,eo⟩
def Tryz.ZJ (u:Nat) (AF:u<18446744073709551616) (w:yh)
  (AE:Lib.TabIs Tryz.prog w "internal/strconv.uint64pow10" .u64 Lib.pow10Tab):
  Calls Tryz.prog 244 #[.int .u64 u,.int .i64 10] w fun e w'=>e= .returned (.string ⟨(Lib.decDigits u).toArray⟩)/\∃k os,w'=grow (w.drewN k) os:=by
 go_enter Tryz.func244,Tryz.ntmps244
 go_wp2_with (go_at_call 286;refine (Tryz.ZH u AF _ AE).mono ?_;rintro e w' ⟨rfl,k,os,rfl⟩)
 go_ret
 exact ⟨rfl,k,os,rfl⟩
end Go.Proofs
end
section
namespace VE
abbrev Rq (d:Nat) (o:Op):aM:=⟨some d,none,o⟩
abbrev Rt (d g:Nat) (o:Op):aM:=⟨some d,some (g,true),o⟩
abbrev Rf (d g:Nat) (o:Op):aM:=⟨some d,some (g,false),o⟩
abbrev qm (d s:Nat):aM:=⟨some d,none,.nO (.t s)⟩
abbrev qc0 (d f:Nat):aM:=⟨some d,none,.call .pure (.c (.fn (.f f) [] [])) []⟩
abbrev ze (d f a:Nat):aM:=⟨some d,none,.call .pure (.c (.fn (.f f) [] [])) [.t a]⟩
abbrev qc2 (d f a b:Nat):aM:=⟨some d,none,.call .pure (.c (.fn (.f f) [] [])) [.t a,.t b]⟩
abbrev qc3 (d f a b c:Nat):aM:=⟨some d,none,.call .pure (.c (.fn (.f f) [] [])) [.t a,.t b,.t c]⟩
abbrev ql (d n s:Nat):aM:=⟨some d,none,.ld n false (.t s)⟩
abbrev qL (d n s:Nat):aM:=⟨some d,none,.ld n true (.t s)⟩
abbrev qk (d:Nat) (k:Int):aM:=⟨some d,none,.nO (.c (.int .i64 k))⟩
abbrev qf (d:Nat):aM:=⟨some d,none,.nO (.c (.bool false))⟩
abbrev qz (d:Nat):aM:=⟨some d,none,.nO (.c .af)⟩
abbrev qi (d n s i:Nat):aM:=⟨some d,none,.bt n (.t s) (.t i)⟩
abbrev qo (d n s:Nat):aM:=⟨some d,none,.off n (.t s)⟩
abbrev qn (d n s:Nat):aM:=⟨some d,none,.len n (.t s)⟩
abbrev qe (d n s:Nat):aM:=⟨some d,none,.ext n (.t s)⟩
abbrev qb (d n s:Nat):aM:=⟨some d,none,.box n (.t s)⟩
abbrev qs (n a b:Nat):aM:=⟨none,none,.st n (.t a) (.t b)⟩
abbrev qa (d a:Nat) (k:Int):aM:=⟨some d,none,.bin .add (.t a) (.c (.int .i64 k))⟩
abbrev qN (d a:Nat) (k:Int):aM:=⟨some d,none,.bin .neq (.t a) (.c (.int .i64 k))⟩
abbrev qE (d a:Nat) (k:Int):aM:=⟨some d,none,.bin .eql (.t a) (.c (.int .i64 k))⟩
abbrev qA (d a b:Nat):aM:=⟨some d,none,.bin .add (.t a) (.t b)⟩
abbrev qT (d a b:Nat):aM:=⟨some d,none,.bin .lss (.t a) (.t b)⟩
abbrev qp (d c b:Nat):aM:=⟨some d,none,.pick (.t c) (.c (.bool true)) (.t b)⟩
abbrev qq (d c b:Nat):aM:=⟨some d,none,.pick (.t c) (.t b) (.c (.bool false))⟩
abbrev X.k (n:Int):X:=.c (.int .i64 n)
abbrev X.u (n:Int):X:=.c (.int .u64 n)
abbrev X.F (n:Nat):X:=.c (.fn (.f n) [] [])
abbrev X.s (l:List Nat):X:=.c (.str l)
abbrev AV.i (n:Int):AV:=.int .i64 n
abbrev Op.q (f:Nat) (l:List X):Op:=.call .pure (.c (.fn (.f f) [] [])) l
abbrev Op.y (o:Go.BinOp) (a:Nat) (n:Int):Op:=.bin o (.t a) (.c (.int .i64 n))
abbrev Op.z (o:Go.BinOp) (a b:Nat):Op:=.bin o (.t a) (.t b)
abbrev Op.m (a:Nat):Op:=.nO (.t a)
abbrev VC.g (o:List aM) (b:VC):VC:=.seq (.jM o) b
abbrev VC.q (a b:VC):VC:=.seq a b
abbrev VC.e (o:List aM):VC:=.seq (.jM o) .ret
abbrev VC.i (t:Nat) (a:VC):VC:=.cond (.t t) a .skip
abbrev VC.h (o:List aM) (t:Nat) (a b:VC):VC:=.seq (.seq (.jM o) (.cond (.t t) a .skip)) b
end VE
end
section
namespace VE
inductive Tr (α:Type) where
 | l
 | n (k:Nat) (v:α) (a b:Tr α)
def Tr.find {α:Type}:Tr α->Nat->Option α
 | .l,_=>none
 | .n k v a b,i=>bif ym i k then some v else bif yF i k then a.find i else b.find i
end VE
end
section
namespace VE
open Go (IntKind FloatKind)
def Ja:yV->Nat
 | .i8=>0 | .i16=>1 | .i32=>2 | .i64=>3 | .u8=>4 | .u16=>5 | .u32=>6 | .u64=>7
def Pt:Int->Int->Bool
 | .ofNat a,.ofNat b=>ym a b
 | .negSucc a,.negSucc b=>ym a b
 | _,_=>false
def Kv:Bool->Bool->Bool
 | true,true | false,false=>true
 | _,_=>false
def Pu:xV->xV->Bool
 | .f32,.f32 | .f64,.f64=>true
 | _,_=>false
mutual
def eW:AV->AV->Bool
 | .int k a,.int k' b=>ym (Ja k) (Ja k')&&Pt a b
 | .bool a,.bool b=>Kv a b
 | .aD k a,.aD k' b=>Pu k k'&&ym a b
 | .c9 k a b,.c9 k' c d=>Pu k k'&&(ym a c&&ym b d)
 | .str a,.str b=>bV a b
 | .jB,.jB=>true
 | .bR a,.bR b=>j8 a b
 | .af,.af=>true
 | .aq e n a,.aq e' n' b=>Kv e e'&&(ym n n'&&j8 a b)
 | .cx e s n a,.cx e' s' n' b=>Kv e e'&&(ym s s'&&(ym n n'&&j8 a b))
 | .fn (.f g) a b,.fn (.f g') a' b'=>ym g g'&&(j8 a a'&&j8 b b')
 | .gK,.gK=>true
 | .iO,.iO=>true
 | .iP a b,.iP a' b'=>j8 a a'&&j8 b b'
 | .agg a,.agg b=>j8 a b
 | .av a,.av b=>j8 a b
 | .undef,.undef=>true
 | _,_=>false
def j8:List AV->List AV->Bool
 | [],[]=>true
 | a::x,b::y=>eW a b&&j8 x y
 | _,_=>false
end
def hI:Int->Nat
 | .ofNat n=>n
 | .negSucc n=>n+n
def hS:List Nat->Nat
 | []=>1
 | b::r=>(b+257*hS r)%65521
mutual
def hV:AV->Nat
 | .int _ n=>hI n
 | .bool b=>bif b then 1 else 2
 | .aD _ n=>n
 | .c9 _ n k=>n+k
 | .str s=>hS s
 | .aq _ n cs=>n+hL cs
 | .agg cs=>hL cs
 | .av cs=>hL cs
 | _=>5
def hL:List AV->Nat
 | []=>7
 | v::r=>(hV v+263*hL r)%65521
end
abbrev Te:=Tr (List AV×AV)
abbrev bf:=List Te
def zX (h:Nat) (aj:List AV):bf->Option AV
 | []=>none
 | t::l=>match t.find h with
  | some (a,r)=>bif j8 a aj then some r else zX h aj l
  | none=>zX h aj l
def Vh (aj:List AV) (l:bf):Option AV:=zX (hL aj) aj l
abbrev Te.o (h:Nat) (a:List AV) (r:AV):Te:= .n h (a,r) .l .l
abbrev Te.m (h:Nat) (a:List AV) (r:AV) (x y:Te):Te:= .n h (a,r) x y
def zY (n:Nat):List (Tr bf)->Option bf
 | []=>none
 | t::r=>match t.find n with
  | none=>zY n r
  | some l=>match zY n r with | none=>some l | some m=>some (l++m)
def Jx (L:Lib) (T:List (Tr bf)) (ex:Nat):Lib:=
 ⟨fun i=>match L.pure i with
  | some sp=>some sp
  | none=>bif ym i ex then none else match zY i T with | some l=>some (fun aj=>Vh aj l) | none=>none,L.heap⟩
def FD (P:aR) (L:Lib) (f:Nat):Te->Bool
 | .l=>true
 | .n _ e x y=>(match OU P L 100000 f e.1 with | some r'=>eW r' e.2 | none=>false)&&(FD P L f x&&FD P L f y)
def Jb (P:aR) (L:Lib) (f:Nat):bf->Bool
 | []=>true
 | t::l=>FD P L f t&&Jb P L f l
def bU (P:aR) (L:Lib) (T:List (Tr bf)):List (Nat×bf)->Bool
 | []=>true
 | (f,l)::C=>Jb P (Jx L T f) f l&&bU P L T C
end VE
end
section
namespace VE
open Go
def ab6 {a b:yV} (h:ym (Ja a) (Ja b)=true):a=b:=by
 cases a<;>cases b<;>first | rfl | (exact absurd h (by decide))
def aea {a b:Int} (h:Pt a b=true):a=b:=by
 cases a<;>cases b<;>simp only [Pt,reduceCtorEq] at h<;>rw [yi h]
def Mh {a b:Bool} (h:Kv a b=true):a=b:=by
 cases a<;>cases b<;>first | rfl | (exact absurd h (by decide))
def SZ {a b:xV} (h:Pu a b=true):a=b:=by
 cases a<;>cases b<;>first | rfl | (exact absurd h (by decide))
mutual
def S3:∀(a b:AV),eW a b=true->a=b
 | .int k a,b,h=>by
  cases b<;>simp only [eW,yf,yB] at h
  rw [ab6 h.1,aea h.2]
 | .bool a,b,h=>by
  cases b<;>simp only [eW,yB] at h
  rw [Mh h]
 | .aD k a,b,h=>by
  cases b<;>simp only [eW,yf,yB] at h
  rw [SZ h.1,yi h.2]
 | .c9 k a c,b,h=>by
  cases b<;>simp only [eW,yf,yB] at h
  rw [SZ h.1,yi h.2.1,yi h.2.2]
 | .str a,b,h=>by
  cases b<;>simp only [eW,yB] at h
  rw [Mb h]
 | .jB,b,h=>by cases b<;>simp only [eW,yB] at h;rfl
 | .ptr _ _,b,h=>by cases b<;>simp only [eW,yB] at h
 | .bR a,b,h=>by
  cases b<;>simp only [eW,yB] at h
  rw [nv _ _ h]
 | .af,b,h=>by cases b<;>simp only [eW,yB] at h;rfl
 | .aq e n a,b,h=>by
  cases b<;>simp only [eW,yf,yB] at h
  rw [Mh h.1,yi h.2.1,nv _ _ h.2.2]
 | .cx e s n a,b,h=>by
  cases b<;>simp only [eW,yf,yB] at h
  rw [Mh h.1,yi h.2.1,yi h.2.2.1,nv _ _ h.2.2.2]
 | .ay _ _ _,b,h=>by cases b<;>simp only [eW,yB] at h
 | .fn (.f g) x y,b,h=>by
  cases b<;>try (simp only [eW,yB] at h;done)
  rename_i fr _ _;cases fr<;>simp only [eW,yf,yB] at h
  rw [yi h.1,nv _ _ h.2.1,nv _ _ h.2.2]
 | .fn (.y _) _ _,b,h=>by cases b<;>simp only [eW,yB] at h
 | .gK,b,h=>by cases b<;>simp only [eW,yB] at h;rfl
 | .iO,b,h=>by cases b<;>simp only [eW,yB] at h;rfl
 | .map _,b,h=>by cases b<;>simp only [eW,yB] at h
 | .iP x y,b,h=>by
  cases b<;>simp only [eW,yf,yB] at h
  rw [nv _ _ h.1,nv _ _ h.2]
 | .it _,b,h=>by cases b<;>simp only [eW,yB] at h
 | .agg a,b,h=>by
  cases b<;>simp only [eW,yB] at h
  rw [nv _ _ h]
 | .av a,b,h=>by
  cases b<;>simp only [eW,yB] at h
  rw [nv _ _ h]
 | .undef,b,h=>by cases b<;>simp only [eW,yB] at h;rfl
def nv:∀(a b:List AV),j8 a b=true->a=b
 | [],b,h=>by cases b<;>simp only [j8,yB] at h;rfl
 | x::a,b,h=>by
  cases b<;>simp only [j8,yf,yB] at h
  rw [S3 _ _ h.1,nv _ _ h.2]
end
def Tr.Has {α:Type} (x:α):Tr α->Prop
 | .l=>False
 | .n _ v a b=>v=x\/a.Has x\/b.Has x
def Tr.Mi {α:Type} {h:Nat} {x:α}:∀{t:Tr α},t.find h=some x->t.Has x
 | .l,hf=>by simp [Tr.find] at hf
 | .n k v a b,hf=>by
  simp only [Tr.find] at hf
  cases h1:ym h k with
  | true=>rw [h1] at hf;simp only [yp,yb] at hf;exact .inl hf
  | false=>
   rw [h1] at hf
   cases h2:yF h k with
   | true=>rw [h2] at hf;exact .inr (.inl (Tr.Mi hf))
   | false=>rw [h2] at hf;exact .inr (.inr (Tr.Mi hf))
def Kw (aj:List AV) (r:AV) (l:bf):Prop:=∃t,t∈l/\t.Has (aj,r)
def Rk {h:Nat} {aj:List AV} {r:AV}:∀{l:bf},zX h aj l=some r->Kw aj r l
 | [],hf=>by simp [zX] at hf
 | t::l,hf=>by
  have tail:zX h aj l=some r->Kw aj r (t::l):=fun q=>by
   obtain ⟨t',h1,h2⟩:=Rk q;exact ⟨t',wK _ h1,h2⟩
  simp only [zX] at hf
  split at hf
  ·rename_i a q he
   cases hb:j8 a aj with
   | true=>
    rw [hb] at hf;simp only [yp,yb] at hf;rw [nv _ _ hb,hf] at he;exact ⟨t,vK,Tr.Mi he⟩
   | false=>
    grind
  ·grind
def ab7 {aj:List AV} {r:AV} {l:bf} (h:Vh aj l=some r):Kw aj r l:=Rk h
def jH (O:bh) (f:Nat) (l:bf):Prop:=∀aj r,Kw aj r l->dG O f aj r
def jH.nil {O:bh} {f:Nat}:jH O f []:=fun _ _ h=>by obtain ⟨t,h,_⟩:=h;cases h
def jH.cD {O:bh} {f:Nat} {a b:bf} (ha:jH O f a) (hb:jH O f b):jH O f (a++b):=fun v r h=>by
 obtain ⟨t,h,h2⟩:=h;exact (List.mem_append.1 h).elim (fun h=>ha v r ⟨t,h,h2⟩) (fun h=>hb v r ⟨t,h,h2⟩)
def jH.one {O:bh} {f k:Nat} {aj:List AV} {r:AV} (h:dG O f aj r):jH O f [.n k (aj,r) .l .l]:=fun v q hm=>by
 obtain ⟨t,h1,h2⟩:=hm;rcases wc.1 h1 with e | e
 ·subst e;rcases h2 with h2 | h2 | h2
  ·grind
  ·exact h2.elim
  ·exact h2.elim
 ·cases e
def Tr.jm {α:Type} (p:Nat->α->Prop):Tr α->Prop
 | .l=>True
 | .n k v a b=>p k v/\a.jm p/\b.jm p
def Tr.gI {α:Type} {p:Nat->α->Prop}:Tr.jm p .l:=trivial
def Tr.iw {α:Type} {p:Nat->α->Prop} {k:Nat} {v:α} {a b:Tr α} (h:p k v) (ha:a.jm p) (hb:b.jm p):Tr.jm p (.n k v a b):=⟨h,ha,hb⟩
def Tr.zL {α:Type} {p:Nat->α->Prop} {i:Nat} {v:α}:∀{t:Tr α},t.jm p->t.find i=some v->p i v
 | .l,_,h=>by simp [Tr.find] at h
 | .n k w a b,ha,h=>by
  simp only [Tr.find] at h
  cases hb:ym i k with
  | true=>
   rw [hb] at h;simp only [yp,yb] at h;subst h;rw [yi hb];exact ha.1
  | false=>
   rw [hb] at h
   cases hc:yF i k with
   | true=>rw [hc] at h;exact Tr.zL ha.2.1 h
   | false=>rw [hc] at h;exact Tr.zL ha.2.2 h
abbrev bh.pK (O:bh) (L:Lib):bh:={O with aG:=L}
def S4 {O:bh} {L:Lib} {m:Mp} {S:Nat->Prop} {w:yh} {id:Nat} {o:Obj}:dX (O.pK L) m S w id o↔dX O m S w id o:=by
 cases o<;>exact Iff.rfl
def S5 {O:bh} {L:Lib} {m:Mp} {S:Nat->Prop} {w:yh} {hp:Hp} {ct:Nat}:aQ (O.pK L) m S w hp ct↔aQ O m S w hp ct:=
 ⟨fun h=>⟨fun id o p h1 h2=>S4.1 (h.obj id o p h1 h2),h.lt,h.inj,h.slt,h.blt,h.low,h.jF,h.eK,h.aO⟩,
  fun h=>⟨fun id o p h1 h2=>S4.2 (h.obj id o p h1 h2),h.lt,h.inj,h.slt,h.blt,h.low,h.jF,h.eK,h.aO⟩⟩
def Sh {O:bh} {L:Lib} {n:Nat} {hp:Hp} {ct:Nat} {aj:List AV} {v:AV} {an:Hp} {aT:Nat} (h:se O n hp ct aj v an aT):se (O.pK L) n hp ct aj v an aT:=by
 intro m S w args h1 h2;have post:∀e w',pE O m S w hp ct v an aT e w'->pE (O.pK L) m S w hp ct v an aT e w':=by
  rintro e w' ⟨u,m',S',k1,k2,k3,k4,k5⟩;exact ⟨u,m',S',k1,S5.2 k2,k3,k4,k5⟩
 exact rL.mono (h m S w args (S5.1 h1) h2) post
def ff (O:bh) (T:List (Tr bf)):Prop:=∀t,t∈T->t.jm (jH O)
def ff.nil {O:bh}:ff O []:=fun _ h=>by cases h
def ff.cons {O:bh} {t:Tr bf} {T:List (Tr bf)} (h:t.jm (jH O)) (hT:ff O T):ff O (t::T):=fun u hu=>by
 rcases wc.1 hu with e | e
 ·grind
 ·exact hT u e
def LO {O:bh} {n:Nat}:∀{T:List (Tr bf)} {l:bf},ff O T->zY n T=some l->jH O n l
 | [],_,_,h=>by simp [zY] at h
 | t::T,l,hT,h=>by
  have Kx:ff O T:=fun u hu=>hT u (wK _ hu)
  simp only [zY] at h
  split at h
  ·exact LO Kx h
  ·rename_i l1 h1;have c1:=Tr.zL (hT t vK) h1
   split at h
   ·grind
   ·rename_i m h2;simp only [yb] at h;subst h;exact jH.cD c1 (LO Kx h2)
def Ub {O:bh} (hO:fw O) {T:List (Tr bf)} (hT:ff O T) (ex:Nat):fw (O.pK (Jx O.aG T ex)) where
 hint:=hO.hint
 mixed:=hO.mixed
 prog:=hO.prog
 aG n sp aj r h hs:=by
  simp only [Jx] at h
  cases hl:O.aG.pure n with
  | some Ky=>
   simp only [hl,yb] at h;subst h;exact hO.aG n _ aj r hl hs
  | none=>
   simp only [hl] at h
   cases hb:ym n ex with
   | true=>rw [hb] at h;cases h
   | false=>
    rw [hb] at h;simp only [yI] at h
    cases hf:zY n T with
    | none=>simp [hf] at h
    | some l=>
     simp only [hf,yb] at h;subst h;exact LO hT hf aj r (ab7 hs)
 Cc n sp hp ct aj v an aT h hs:=Sh (hO.Cc n sp hp ct aj v an aT h hs)
def LP {O:bh} {L:Lib} (hO:fw (O.pK L)) {f:Nat} {aj:List AV} {r:AV}:∀{t:Te},FD O.prog L f t=true->t.Has (aj,r)->dG O f aj r
 | .l,_,h=>h.elim
 | .n k e x y,h,hm=>by
  simp only [FD,yf] at h;rcases hm with e1 | hm | hm
  ·subst e1;have h1:=h.1
   split at h1
   ·rename_i r' hr;have e:r'=r:=S3 _ _ h1;rw [<-e];exact sound hO hr
   ·cases h1
  ·exact LP hO h.2.1 hm
  ·exact LP hO h.2.2 hm
def Rn {O:bh} {L:Lib} (hO:fw (O.pK L)) {f:Nat}:∀{l:bf},Jb O.prog L f l=true->jH O f l
 | [],_=>jH.nil
 | t::l,h=>by
  simp only [Jb,yf] at h;intro v q hm;obtain ⟨t',h1,h2⟩:=hm;rcases wc.1 h1 with e | e
  ·subst e;exact LP hO h.1 h2
  ·exact Rn hO h.2 v q ⟨t',e,h2⟩
def chunk_ok {O:bh} (hO:fw O) {T:List (Tr bf)} (hT:ff O T):∀{C:List (Nat×bf)},bU O.prog O.aG T C=true->∀f l,(f,l)∈C->jH O f l
 | [],_,f,l,h=>by cases h
 | (g,l')::C,h,f,l,hm=>by
  simp only [bU,yf] at h;rcases wc.1 hm with e | hm
  ·injection e with e1 e2
   subst e1;subst e2;exact Rn (Ub hO hT f) h.1
  ·exact chunk_ok hO hT h.2 f l hm
def aN {α:Type} {p:Nat->α->Prop} {k:Nat} {v:α} {a b:Tr α} (h:p k v) (ha:a.jm p) (hb:b.jm p):Tr.jm p (.n k v a b):=Tr.iw h ha hb
def aL {α:Type} {p:Nat->α->Prop}:Tr.jm p .l:=Tr.gI
end VE
end
section
namespace VE
open Go
structure HD where
 n:Nat
 live:List (Nat×List Nat)
 out:List (Nat×List Nat)
 mode:List (Nat×Md)
 fz:List (Nat×List Nat)
 deriving Inhabited
def Fq {α:Type} (i:Nat):List (Nat×α)->Option α
 | []=>none
 | (j,a)::l=>bif ym j i then some a else Fq i l
def ah0 (bJ:Nat->Option Nat) (d:HD):Hint where
 n:=d.n
 bJ:=bJ
 live:=fun l=>match Fq l d.live with | some x=>x | none=>[]
 out:=fun l=>Fq l d.out
 mode:=fun k=>match Fq k d.mode with | some x=>x | none=> .pure
 fz:=fun i=>match Fq i d.fz with | some x=>x | none=>[]
def Jc (bJ:Tr Nat) (t:Tr HD) (i:Nat):Hint:=ah0 bJ.find (match t.find i with | some d=>d | none=>⟨0,[],[],[],[]⟩)
def qj (t:Tr Nat) (i:Nat):Nat:=match t.find i with | some f=>f | none=>0
def Fs (ab:Tr Nat):Tr Nat->Bool
 | .l=>true
 | .n f g a b=>ym (qj ab g) f&&(Fs ab a&&Fs ab b)
def Lu {ab:Tr Nat}:∀{t:Tr Nat},Fs ab t=true->t.jm (fun f g=>qj ab g=f)
 | .l,_=>trivial
 | .n f g a b,h=>by
  simp only [Fs,yf] at h;exact ⟨yi h.1,Lu h.2.1,Lu h.2.2⟩
def MV (P:yK) (ab:Tr Nat) (bJ:Tr Nat) (hd:Tr HD) (i:Nat) (F:aF):Prop:=
 ∃fn,P.funcs[qj ab i]? =some fn/\BL P (Jc bJ hd i) fn=some F/\fn.name≠ "runtime.NumGoroutine"
def ab8 {P:yK} {ab bJ:Tr Nat} {hd:Tr HD} {i:Nat} {F:aF} (h:(P.funcs[qj ab i]?).bind (BL P (Jc bJ hd i))=some F) (h2:(P.funcs[qj ab i]?).map (fun fn=>decide (fn.name= "runtime.NumGoroutine"))=some false):MV P ab bJ hd i F:=by
 unfold MV
 cases hq:P.funcs[qj ab i]? with
 | none=>rw [hq] at h;cases h
 | some fn=>
  rw [hq] at h h2;refine ⟨fn,rfl,h,fun e=>?_⟩;simp only [Option.map_some,yb,e,yJ] at h2;cases h2
end VE
end
section
namespace VE
namespace kW
open Go
open Go.Proofs
def ab:Tr Nat:=(.n 289 219 (.n 165 282 (.n 129 208 (.n 101 161 (.n 71 82 (.n 50 66 (.n 46 100 (.n 29 20 .l .l) (.n 49 81 .l .l)) (.n 69 79 (.n 62 63 .l .l) (.n 70 99 .l .l))) (.n 88 103 (.n 74 80 (.n 73 176 .l .l) (.n 86 140 .l .l)) (.n 99 177 (.n 98 159 .l .l) (.n 100 162 .l .l)))) (.n 118 163 (.n 109 141 (.n 107 137 (.n 102 122 .l .l) (.n 108 86 .l .l)) (.n 111 142 (.n 110 143 .l .l) (.n 117 158 .l .l))) (.n 124 210 (.n 122 136 (.n 119 160 .l .l) (.n 123 138 .l .l)) (.n 128 207 (.n 125 209 .l .l) .l)))) (.n 149 255 (.n 141 247 (.n 137 243 (.n 135 242 (.n 130 211 .l .l) (.n 136 223 .l .l)) (.n 139 245 (.n 138 244 .l .l) (.n 140 246 .l .l))) (.n 145 224 (.n 143 229 (.n 142 230 .l .l) (.n 144 231 .l .l)) (.n 147 188 (.n 146 164 .l .l) (.n 148 228 .l .l)))) (.n 157 225 (.n 153 214 (.n 151 206 (.n 150 256 .l .l) (.n 152 213 .l .l)) (.n 155 216 (.n 154 215 .l .l) (.n 156 232 .l .l))) (.n 162 267 (.n 159 227 (.n 158 226 .l .l) (.n 160 205 .l .l)) (.n 164 268 (.n 163 252 .l .l) .l))))) (.n 245 259 (.n 214 301 (.n 173 279 (.n 169 285 (.n 167 283 (.n 166 278 .l .l) (.n 168 284 .l .l)) (.n 171 277 (.n 170 290 .l .l) (.n 172 253 .l .l))) (.n 194 200 (.n 175 293 (.n 174 326 .l .l) (.n 193 199 .l .l)) (.n 203 134 (.n 202 251 .l .l) (.n 206 298 .l .l)))) (.n 236 302 (.n 229 292 (.n 218 264 (.n 217 263 .l .l) (.n 228 265 .l .l)) (.n 231 203 (.n 230 257 .l .l) (.n 232 204 .l .l))) (.n 242 294 (.n 239 300 (.n 238 299 .l .l) (.n 241 190 .l .l)) (.n 244 330 (.n 243 295 .l .l) .l)))) (.n 273 146 (.n 262 70 (.n 249 328 (.n 247 327 (.n 246 258 .l .l) (.n 248 297 .l .l)) (.n 251 296 (.n 250 329 .l .l) (.n 252 261 .l .l))) (.n 269 91 (.n 264 88 (.n 263 69 .l .l) (.n 268 151 .l .l)) (.n 272 145 (.n 271 74 .l .l) .l))) (.n 281 182 (.n 277 166 (.n 275 148 (.n 274 147 .l .l) (.n 276 165 .l .l)) (.n 279 168 (.n 278 169 .l .l) (.n 280 167 .l .l))) (.n 286 172 (.n 284 171 (.n 282 181 .l .l) (.n 285 170 .l .l)) (.n 288 218 (.n 287 217 .l .l) .l)))))) (.n 698 93 (.n 662 49 (.n 641 117 (.n 297 240 (.n 293 241 (.n 291 234 (.n 290 233 .l .l) (.n 292 235 .l .l)) (.n 295 238 (.n 294 237 .l .l) (.n 296 239 .l .l))) (.n 301 276 (.n 299 274 (.n 298 236 .l .l) (.n 300 275 .l .l)) (.n 637 10 (.n 302 280 .l .l) (.n 640 43 .l .l)))) (.n 655 14 (.n 650 46 (.n 645 113 (.n 643 53 .l .l) (.n 647 16 .l .l)) (.n 653 11 (.n 652 44 .l .l) (.n 654 13 .l .l))) (.n 659 47 (.n 657 45 (.n 656 26 .l .l) (.n 658 30 .l .l)) (.n 661 48 (.n 660 22 .l .l) .l)))) (.n 677 61 (.n 670 114 (.n 666 50 (.n 664 36 (.n 663 35 .l .l) (.n 665 25 .l .l)) (.n 668 52 (.n 667 51 .l .l) (.n 669 42 .l .l))) (.n 674 57 (.n 672 54 (.n 671 115 .l .l) (.n 673 55 .l .l)) (.n 676 78 (.n 675 116 .l .l) .l))) (.n 691 65 (.n 687 60 (.n 685 56 (.n 679 184 .l .l) (.n 686 58 .l .l)) (.n 689 62 (.n 688 59 .l .l) (.n 690 64 .l .l))) (.n 695 118 (.n 693 87 (.n 692 76 .l .l) (.n 694 119 .l .l)) (.n 697 92 (.n 696 120 .l .l) .l))))) (.n 729 174 (.n 714 130 (.n 706 126 (.n 702 124 (.n 700 94 (.n 699 77 .l .l) (.n 701 123 .l .l)) (.n 704 95 (.n 703 96 .l .l) (.n 705 125 .l .l))) (.n 710 97 (.n 708 128 (.n 707 127 .l .l) (.n 709 98 .l .l)) (.n 712 102 (.n 711 101 .l .l) (.n 713 129 .l .l)))) (.n 722 248 (.n 718 132 (.n 716 185 (.n 715 131 .l .l) (.n 717 153 .l .l)) (.n 720 135 (.n 719 133 .l .l) (.n 721 187 .l .l))) (.n 726 173 (.n 724 139 (.n 723 250 .l .l) (.n 725 121 .l .l)) (.n 728 175 (.n 727 154 .l .l) .l)))) (.n 744 249 (.n 737 196 (.n 733 193 (.n 731 191 (.n 730 189 .l .l) (.n 732 192 .l .l)) (.n 735 179 (.n 734 194 .l .l) (.n 736 178 .l .l))) (.n 741 155 (.n 739 201 (.n 738 195 .l .l) (.n 740 202 .l .l)) (.n 743 254 (.n 742 186 .l .l) .l))) (.n 752 222 (.n 748 262 (.n 746 156 (.n 745 291 .l .l) (.n 747 260 .l .l)) (.n 750 197 (.n 749 180 .l .l) (.n 751 198 .l .l))) (.n 766 31 (.n 754 6 (.n 753 157 .l .l) (.n 765 29 .l .l)) (.n 768 28 (.n 767 32 .l .l) .l)))))))
def bJ:Tr Nat:=(.n 171 284 (.n 97 710 (.n 55 673 (.n 35 663 (.n 22 660 (.n 13 654 (.n 10 637 (.n 6 754 .l .l) (.n 11 653 .l .l)) (.n 16 647 (.n 14 655 .l .l) (.n 20 29 .l .l))) (.n 29 765 (.n 26 656 (.n 25 665 .l .l) (.n 28 768 .l .l)) (.n 31 766 (.n 30 658 .l .l) (.n 32 767 .l .l)))) (.n 48 661 (.n 44 652 (.n 42 669 (.n 36 664 .l .l) (.n 43 640 .l .l)) (.n 46 650 (.n 45 657 .l .l) (.n 47 659 .l .l))) (.n 52 668 (.n 50 666 (.n 49 662 .l .l) (.n 51 667 .l .l)) (.n 54 672 (.n 53 643 .l .l) .l)))) (.n 77 699 (.n 63 62 (.n 59 688 (.n 57 674 (.n 56 685 .l .l) (.n 58 686 .l .l)) (.n 61 677 (.n 60 687 .l .l) (.n 62 689 .l .l))) (.n 69 263 (.n 65 691 (.n 64 690 .l .l) (.n 66 50 .l .l)) (.n 74 271 (.n 70 262 .l .l) (.n 76 692 .l .l)))) (.n 88 264 (.n 81 49 (.n 79 69 (.n 78 676 .l .l) (.n 80 74 .l .l)) (.n 86 108 (.n 82 71 .l .l) (.n 87 693 .l .l))) (.n 94 700 (.n 92 697 (.n 91 269 .l .l) (.n 93 698 .l .l)) (.n 96 703 (.n 95 704 .l .l) .l))))) (.n 137 107 (.n 122 102 (.n 114 670 (.n 101 711 (.n 99 70 (.n 98 709 .l .l) (.n 100 46 .l .l)) (.n 103 88 (.n 102 712 .l .l) (.n 113 645 .l .l))) (.n 118 695 (.n 116 675 (.n 115 671 .l .l) (.n 117 641 .l .l)) (.n 120 696 (.n 119 694 .l .l) (.n 121 725 .l .l)))) (.n 130 714 (.n 126 706 (.n 124 702 (.n 123 701 .l .l) (.n 125 705 .l .l)) (.n 128 708 (.n 127 707 .l .l) (.n 129 713 .l .l))) (.n 134 203 (.n 132 718 (.n 131 715 .l .l) (.n 133 719 .l .l)) (.n 136 122 (.n 135 720 .l .l) .l)))) (.n 156 746 (.n 146 273 (.n 141 109 (.n 139 724 (.n 138 123 .l .l) (.n 140 86 .l .l)) (.n 143 110 (.n 142 111 .l .l) (.n 145 272 .l .l))) (.n 153 717 (.n 148 275 (.n 147 274 .l .l) (.n 151 268 .l .l)) (.n 155 741 (.n 154 727 .l .l) .l))) (.n 164 146 (.n 160 119 (.n 158 117 (.n 157 753 .l .l) (.n 159 98 .l .l)) (.n 162 100 (.n 161 101 .l .l) (.n 163 118 .l .l))) (.n 168 279 (.n 166 277 (.n 165 276 .l .l) (.n 167 280 .l .l)) (.n 170 285 (.n 169 278 .l .l) .l)))))) (.n 236 298 (.n 203 231 (.n 188 147 (.n 179 735 (.n 175 728 (.n 173 726 (.n 172 286 .l .l) (.n 174 729 .l .l)) (.n 177 99 (.n 176 73 .l .l) (.n 178 736 .l .l))) (.n 184 679 (.n 181 282 (.n 180 749 .l .l) (.n 182 281 .l .l)) (.n 186 742 (.n 185 716 .l .l) (.n 187 721 .l .l)))) (.n 196 737 (.n 192 732 (.n 190 241 (.n 189 730 .l .l) (.n 191 731 .l .l)) (.n 194 734 (.n 193 733 .l .l) (.n 195 738 .l .l))) (.n 200 194 (.n 198 751 (.n 197 750 .l .l) (.n 199 193 .l .l)) (.n 202 740 (.n 201 739 .l .l) .l)))) (.n 219 289 (.n 211 130 (.n 207 128 (.n 205 160 (.n 204 232 .l .l) (.n 206 151 .l .l)) (.n 209 125 (.n 208 129 .l .l) (.n 210 124 .l .l))) (.n 216 155 (.n 214 153 (.n 213 152 .l .l) (.n 215 154 .l .l)) (.n 218 288 (.n 217 287 .l .l) .l))) (.n 229 143 (.n 225 157 (.n 223 136 (.n 222 752 .l .l) (.n 224 145 .l .l)) (.n 227 159 (.n 226 158 .l .l) (.n 228 148 .l .l))) (.n 233 290 (.n 231 144 (.n 230 142 .l .l) (.n 232 156 .l .l)) (.n 235 292 (.n 234 291 .l .l) .l))))) (.n 268 164 (.n 252 163 (.n 244 138 (.n 240 297 (.n 238 295 (.n 237 294 .l .l) (.n 239 296 .l .l)) (.n 242 135 (.n 241 293 .l .l) (.n 243 137 .l .l))) (.n 248 722 (.n 246 140 (.n 245 139 .l .l) (.n 247 141 .l .l)) (.n 250 723 (.n 249 744 .l .l) (.n 251 202 .l .l)))) (.n 260 747 (.n 256 150 (.n 254 743 (.n 253 172 .l .l) (.n 255 149 .l .l)) (.n 258 246 (.n 257 230 .l .l) (.n 259 245 .l .l))) (.n 264 218 (.n 262 748 (.n 261 252 .l .l) (.n 263 217 .l .l)) (.n 267 162 (.n 265 228 .l .l) .l)))) (.n 293 175 (.n 282 165 (.n 277 171 (.n 275 300 (.n 274 299 .l .l) (.n 276 301 .l .l)) (.n 279 173 (.n 278 166 .l .l) (.n 280 302 .l .l))) (.n 290 170 (.n 284 168 (.n 283 167 .l .l) (.n 285 169 .l .l)) (.n 292 229 (.n 291 745 .l .l) .l))) (.n 301 214 (.n 297 248 (.n 295 243 (.n 294 242 .l .l) (.n 296 251 .l .l)) (.n 299 238 (.n 298 206 .l .l) (.n 300 239 .l .l))) (.n 328 249 (.n 326 174 (.n 302 236 .l .l) (.n 327 247 .l .l)) (.n 330 244 (.n 329 250 .l .l) .l)))))))
def hd:Tr HD:=(.n 298 ⟨9,[],[],[],[]⟩ (.n 165 ⟨135,[(3,[2,8,9,10,11,13,14,15,16]),(6,[2,8,9,10,14,15,16,17,18])],[(3,[2,8,9,10,11,13,14,15]),(6,[2,8,14,15,17,18])],[],[]⟩ (.n 122 ⟨9,[],[],[],[]⟩ (.n 98 ⟨13,[],[],[],[]⟩ (.n 70 ⟨9,[],[],[],[]⟩ (.n 50 ⟨9,[],[],[],[]⟩ (.n 46 ⟨16,[],[],[],[]⟩ (.n 29 ⟨26,[(1,[0,1,5])],[(1,[])],[],[]⟩ .l .l) (.n 49 ⟨16,[],[],[],[]⟩ .l .l)) (.n 69 ⟨6,[],[],[],[]⟩ (.n 62 ⟨22,[],[],[],[]⟩ .l .l) .l)) (.n 74 ⟨34,[],[],[],[]⟩ (.n 73 ⟨8,[],[],[],[]⟩ (.n 71 ⟨16,[],[],[],[]⟩ .l .l) .l) (.n 88 ⟨23,[(0,[3,9,10,11])],[(0,[3])],[],[]⟩ (.n 86 ⟨76,[],[],[],[]⟩ .l .l) .l))) (.n 108 ⟨6,[],[],[],[]⟩ (.n 101 ⟨34,[],[],[],[]⟩ (.n 100 ⟨66,[],[],[],[]⟩ (.n 99 ⟨69,[(1,[3,4,5,6]),(6,[6,10,11])],[(1,[3,6]),(6,[10])],[],[]⟩ .l .l) .l) (.n 107 ⟨11,[],[],[],[]⟩ (.n 102 ⟨9,[],[],[],[]⟩ .l .l) .l)) (.n 117 ⟨5,[],[],[],[]⟩ (.n 111 ⟨6,[],[],[],[]⟩ (.n 110 ⟨41,[(0,[0,2,3,4])],[(0,[2,3,4])],[],[]⟩ .l .l) .l) (.n 119 ⟨67,[],[],[],[]⟩ (.n 118 ⟨29,[],[],[],[]⟩ .l .l) .l)))) (.n 148 ⟨21,[],[],[],[]⟩ (.n 137 ⟨137,[(2,[0,1,6,7,8]),(4,[9,10,11,12,13,14]),(6,[9,11,12,13,96,97])],[(2,[6,7]),(4,[9,11,12,13]),(6,[11,12,13])],[(5,.own),(7,.own),(8,.heap)],[]⟩ (.n 129 ⟨19,[],[],[],[]⟩ (.n 124 ⟨7,[],[],[],[]⟩ (.n 123 ⟨23,[(0,[3,9,10,11])],[(0,[3])],[],[]⟩ .l .l) (.n 125 ⟨15,[(0,[5,6,7])],[(0,[])],[],[]⟩ .l .l)) (.n 136 ⟨24,[],[],[],[]⟩ (.n 130 ⟨23,[(0,[2,3,4])],[(0,[2,4])],[],[]⟩ .l .l) .l)) (.n 145 ⟨50,[],[],[],[]⟩ (.n 144 ⟨80,[(0,[1,5,20,21,22]),(2,[1,5,6,7,8,20,21,22,27,28,29])],[(0,[5]),(2,[1,5,6,8,20,21,22])],[],[]⟩ (.n 142 ⟨10,[],[],[],[]⟩ .l .l) .l) (.n 147 ⟨26,[],[],[],[]⟩ (.n 146 ⟨7,[],[],[],[]⟩ .l .l) .l))) (.n 157 ⟨54,[(1,[0,1,5,6,21,22])],[(1,[0,5,6])],[],[]⟩ (.n 151 ⟨13,[],[],[],[]⟩ (.n 150 ⟨9,[],[],[],[]⟩ (.n 149 ⟨14,[],[],[],[]⟩ .l .l) .l) (.n 156 ⟨9,[],[],[],[]⟩ (.n 155 ⟨23,[(0,[1,2,4,5])],[(0,[4,5])],[],[]⟩ .l .l) .l)) (.n 160 ⟨19,[(0,[0,1,7,8])],[(0,[])],[],[]⟩ (.n 159 ⟨41,[(0,[0,1,5,6,13,14])],[(0,[5])],[],[]⟩ (.n 158 ⟨41,[(2,[0,1,5])],[(2,[])],[],[]⟩ .l .l) .l) (.n 164 ⟨84,[],[],[],[]⟩ (.n 163 ⟨9,[],[],[],[]⟩ .l .l) .l))))) (.n 273 ⟨18,[],[],[],[]⟩ (.n 243 ⟨63,[],[],[],[]⟩ (.n 228 ⟨13,[],[],[],[]⟩ (.n 172 ⟨25,[],[],[],[]⟩ (.n 168 ⟨40,[(0,[1,5,12,13,14])],[(0,[5])],[],[]⟩ (.n 166 ⟨21,[(0,[0,3])],[(0,[0,3])],[],[]⟩ .l .l) (.n 169 ⟨186,[(1,[0,1,5,6,7,8]),(4,[0,1,5,6,11,12,104,105]),(7,[0,1,5,6,17,156,157])],[(1,[0,1,5,6]),(4,[0,1,5,6,11,12]),(7,[0,5,6,17])],[],[]⟩ .l .l)) (.n 203 ⟨10,[],[],[],[]⟩ (.n 202 ⟨73,[(2,[5,6,7])],[(2,[5,6,7])],[],[]⟩ .l .l) .l)) (.n 231 ⟨7,[],[],[],[]⟩ (.n 230 ⟨11,[],[],[],[]⟩ (.n 229 ⟨32,[],[],[],[]⟩ .l .l) .l) (.n 241 ⟨14,[],[],[],[]⟩ (.n 232 ⟨28,[(0,[0,2,3]),(2,[0,2,3])],[(0,[0,2,3]),(2,[0,2,3])],[],[]⟩ .l .l) .l))) (.n 263 ⟨96,[],[],[],[]⟩ (.n 247 ⟨10,[],[],[],[]⟩ (.n 246 ⟨6,[],[],[],[]⟩ (.n 245 ⟨15,[],[],[],[]⟩ .l .l) .l) (.n 262 ⟨13,[],[],[],[]⟩ (.n 252 ⟨7,[],[],[],[]⟩ .l .l) .l)) (.n 269 ⟨14,[],[],[],[]⟩ (.n 268 ⟨14,[],[],[],[]⟩ (.n 264 ⟨63,[],[],[],[]⟩ .l .l) .l) (.n 272 ⟨17,[(0,[0,3])],[(0,[0])],[],[]⟩ (.n 271 ⟨9,[],[],[],[]⟩ .l .l) .l)))) (.n 286 ⟨14,[],[],[],[]⟩ (.n 279 ⟨40,[],[],[],[]⟩ (.n 276 ⟨54,[],[],[],[]⟩ (.n 275 ⟨19,[(0,[0,1])],[(0,[0])],[],[]⟩ (.n 274 ⟨25,[],[],[],[]⟩ .l .l) .l) (.n 278 ⟨16,[],[],[],[]⟩ (.n 277 ⟨61,[],[],[],[]⟩ .l .l) .l)) (.n 282 ⟨39,[(1,[1,3,4])],[(1,[1,3])],[],[]⟩ (.n 281 ⟨25,[(0,[0,2,3,4])],[(0,[2,3,4])],[],[]⟩ (.n 280 ⟨57,[],[],[],[]⟩ .l .l) .l) (.n 285 ⟨9,[],[],[],[]⟩ (.n 284 ⟨7,[],[],[],[]⟩ .l .l) .l))) (.n 292 ⟨25,[(0,[0,1,5])],[(0,[5])],[],[]⟩ (.n 289 ⟨206,[(2,[0,8,9,10,11]),(4,[8,9,10,11,12,13]),(6,[8,9,10,11,12,13,14,15,16]),(10,[8,9,10,11,12,13,14,19,20])],[(2,[8,9,10,11]),(4,[8,10,11,12]),(6,[8,9,10,11,12,13,14,15]),(10,[8,9,10,11,12,13,14,19])],[(5,.heap)],[]⟩ (.n 288 ⟨40,[(1,[0,2,3,4])],[(1,[0,2,3,4])],[],[]⟩ (.n 287 ⟨20,[(0,[0,3])],[(0,[])],[],[]⟩ .l .l) .l) (.n 291 ⟨12,[(0,[0,1])],[(0,[0])],[],[]⟩ (.n 290 ⟨20,[(0,[0,3,4])],[(0,[3])],[],[]⟩ .l .l) .l)) (.n 295 ⟨42,[(0,[0,1,5,6,7])],[(0,[5])],[],[]⟩ (.n 294 ⟨15,[],[],[],[]⟩ (.n 293 ⟨72,[(0,[0,1,5,6]),(2,[0,1,5,6,7,8])],[(0,[5]),(2,[0,1,5,6,7])],[],[]⟩ .l .l) .l) (.n 297 ⟨35,[(0,[0,1,5,6,7])],[(0,[5])],[],[]⟩ (.n 296 ⟨41,[(2,[0,1,5])],[(2,[])],[],[]⟩ .l .l) .l)))))) (.n 696 ⟨22,[],[],[],[]⟩ (.n 665 ⟨26,[(1,[0,1,5])],[(1,[])],[],[]⟩ (.n 653 ⟨50,[],[],[],[]⟩ (.n 641 ⟨14,[],[],[],[]⟩ (.n 302 ⟨13,[],[],[],[]⟩ (.n 300 ⟨21,[(0,[0])],[(0,[0])],[],[]⟩ (.n 299 ⟨39,[(0,[0,1,6,7,8])],[(0,[6,7])],[],[]⟩ .l .l) (.n 301 ⟨77,[(0,[0,1,2,7,9,10])],[(0,[9])],[],[]⟩ .l .l)) (.n 640 ⟨182,[(2,[3,4,5,10,40,41,42]),(4,[3,5,10,13,14,58,59]),(7,[3,10,13,14,18,19,20,100,101,102])],[(2,[3,4,5,10]),(4,[3,10,13,14]),(7,[14,19,20])],[],[]⟩ (.n 637 ⟨287,[],[],[],[]⟩ .l .l) .l)) (.n 647 ⟨19,[(0,[0,3])],[(0,[])],[],[]⟩ (.n 645 ⟨14,[],[],[],[]⟩ (.n 643 ⟨14,[],[],[],[]⟩ .l .l) .l) (.n 652 ⟨14,[],[],[],[]⟩ (.n 650 ⟨53,[(1,[0,1,5]),(4,[0,1,5,6])],[(1,[]),(4,[0,1,5])],[],[]⟩ .l .l) .l))) (.n 659 ⟨26,[(1,[0,1,5])],[(1,[])],[],[]⟩ (.n 656 ⟨162,[],[],[],[]⟩ (.n 655 ⟨27,[],[],[],[]⟩ (.n 654 ⟨18,[],[],[],[]⟩ .l .l) .l) (.n 658 ⟨70,[(1,[1,7,26,27,28]),(4,[1,7,8,9,26,27,28,46])],[(1,[7]),(4,[1,7,26,27,28])],[],[]⟩ (.n 657 ⟨111,[(2,[3,4,5,10,52,53])],[(2,[3,4,5,10])],[],[]⟩ .l .l) .l)) (.n 662 ⟨101,[(3,[0,6,7,34,35]),(5,[0,6,7,8,9,34,35,38,39]),(7,[0,6,7,8,9,10,11,34,35,38,39,42,43]),(9,[0,6,7,8,9,10,11,12,34,35,38,39,42,43,46,47])],[(3,[7]),(5,[0,6,7,9,34,35]),(7,[0,6,7,8,9,11,34,35,38,39]),(9,[0,6,7,8,9,10,11,34,35,38,39,42,43])],[],[(31,[9])]⟩ (.n 661 ⟨45,[(1,[5,6,19,20,21]),(3,[5,6,9,19,20,21,25,26,27])],[(1,[6]),(3,[5,6,9,19,20,21])],[],[(15,[9])]⟩ (.n 660 ⟨136,[(2,[4,5,6,7,12,14,15,16,17,18])],[(2,[12,15])],[],[]⟩ .l .l) .l) (.n 664 ⟨145,[(1,[1,4,32,33]),(4,[1,4,9,44,45]),(6,[1,4,9,44,45,48,49,50]),(9,[1,4,14,15,70,71]),(11,[1,4,14,15,16,17,70,71,74,75]),(13,[1,4,14,15,16,17,18,19,70,71,74,75,78])],[(1,[1,4]),(4,[1,4,9]),(6,[1,4,9,44,45]),(9,[15]),(11,[1,4,14,15,17,70,71]),(13,[1,4,14,15,16,17,19,70,71,74,75])],[],[(44,[17])]⟩ (.n 663 ⟨128,[(1,[2,7,8,9,35]),(3,[2,7,8,9,10,35,38,39]),(5,[2,7,8,9,10,11,12,35,38,39,42,43]),(7,[2,7,8,9,10,11,12,13,14,35,38,39,42,43,49,50]),(9,[2,7,8,9,10,11,12,13,14,15,35,38,39,42,43,49,50,53,54])],[(1,[2,9]),(3,[2,7,8,9,35]),(5,[2,7,8,9,10,12,35,38,39]),(7,[2,7,8,9,10,11,12,14,35,38,39,42,43]),(9,[2,7,8,9,10,11,12,13,14,35,38,39,42,43,49,50])],[],[(32,[12])]⟩ .l .l) .l)))) (.n 679 ⟨106,[(2,[2,3,42,43,44])],[(2,[])],[],[]⟩ (.n 672 ⟨4,[],[],[],[]⟩ (.n 669 ⟨27,[(1,[0,1,5])],[(1,[])],[],[]⟩ (.n 667 ⟨74,[(4,[1,7,49,50]),(6,[1,7,9,49,50,56,57,58])],[(4,[]),(6,[1,7,49,50])],[],[]⟩ (.n 666 ⟨53,[(1,[0,1,5]),(4,[0,1,5,6])],[(1,[]),(4,[0,1,5])],[],[]⟩ .l .l) (.n 668 ⟨90,[(2,[1,8,40,41]),(4,[1,8,9,10,40,41,50,51]),(6,[1,8,9,10,11,12,40,41,50,51,55,56,57])],[(2,[8]),(4,[1,8,10,40,41]),(6,[1,8,9,10,12,40,41,50,51])],[],[(23,[10])]⟩ .l .l)) (.n 671 ⟨39,[],[],[],[]⟩ (.n 670 ⟨16,[],[],[],[]⟩ .l .l) .l)) (.n 675 ⟨50,[(0,[4,13,14,15]),(2,[4,6,7,13,14,15,19,20,21])],[(0,[4]),(2,[4,6,7,13,14,15])],[],[(16,[12])]⟩ (.n 674 ⟨6,[],[],[],[]⟩ (.n 673 ⟨6,[],[],[],[]⟩ .l .l) .l) (.n 677 ⟨15,[(0,[5,6,7])],[(0,[])],[],[]⟩ (.n 676 ⟨16,[],[],[],[]⟩ .l .l) .l))) (.n 690 ⟨18,[],[],[],[]⟩ (.n 687 ⟨14,[],[],[],[]⟩ (.n 686 ⟨8,[],[],[],[]⟩ (.n 685 ⟨12,[],[],[],[]⟩ .l .l) .l) (.n 689 ⟨14,[],[],[],[]⟩ (.n 688 ⟨67,[(1,[4,5,10,31,32,33])],[(1,[4,5,10])],[],[]⟩ .l .l) .l)) (.n 693 ⟨119,[(0,[1,2,3,4,8,9,10,11]),(2,[1,2,3,4,8,9,10,11,12,13,35,36,37])],[(0,[8,9]),(2,[1,2,3,4,8,9,10,11,12,13])],[],[]⟩ (.n 692 ⟨7,[],[],[],[]⟩ (.n 691 ⟨8,[],[],[],[]⟩ .l .l) .l) (.n 695 ⟨21,[(0,[1,8,9,10])],[(0,[])],[],[]⟩ (.n 694 ⟨50,[(1,[6,7,27,28])],[(1,[7])],[],[]⟩ .l .l) .l))))) (.n 725 ⟨14,[],[],[],[]⟩ (.n 712 ⟨12,[],[],[],[]⟩ (.n 703 ⟨38,[(0,[3,9,10,11]),(2,[3,6,9,10,11,15,16,17])],[(0,[3]),(2,[3,6,9,10,11])],[],[(11,[6])]⟩ (.n 700 ⟨16,[],[],[],[]⟩ (.n 698 ⟨8,[],[],[],[]⟩ (.n 697 ⟨8,[],[],[],[]⟩ .l .l) (.n 699 ⟨6,[],[],[],[]⟩ .l .l)) (.n 702 ⟨13,[],[],[],[]⟩ (.n 701 ⟨12,[],[],[],[]⟩ .l .l) .l)) (.n 709 ⟨33,[],[],[],[]⟩ (.n 705 ⟨59,[(0,[4,15,16,17]),(2,[4,7,15,16,17,21,22,23])],[(0,[4]),(2,[4,7,15,16,17])],[],[(16,[7])]⟩ (.n 704 ⟨66,[(0,[0,3,4,13,14]),(2,[0,3,4,5,6,13,14,17,18]),(4,[0,3,4,5,6,7,8,13,14,17,18,24,25]),(6,[0,3,4,5,6,7,8,9,13,14,17,18,24,25,28,29])],[(0,[4]),(2,[0,3,4,6,13,14]),(4,[0,3,4,5,6,8,13,14,17,18]),(6,[0,3,4,5,6,7,8,13,14,17,18,24,25])],[],[(22,[6])]⟩ .l .l) .l) (.n 711 ⟨17,[(0,[0,7,8,9])],[(0,[])],[],[]⟩ (.n 710 ⟨16,[],[],[],[]⟩ .l .l) .l))) (.n 719 ⟨39,[(0,[0,1,2,7,8]),(2,[0,1,2,4,7,8,12,13])],[(0,[]),(2,[0,1,2,7,8])],[(0,.heap)],[]⟩ (.n 716 ⟨18,[],[],[],[]⟩ (.n 715 ⟨21,[(0,[1,8,9,10])],[(0,[])],[],[]⟩ (.n 713 ⟨6,[],[],[],[]⟩ .l .l) .l) (.n 718 ⟨26,[(0,[0,1,8,9])],[(0,[])],[(0,.heap)],[]⟩ (.n 717 ⟨21,[(0,[1,8,9,10])],[(0,[])],[],[]⟩ .l .l) .l)) (.n 722 ⟨5,[],[],[],[]⟩ (.n 721 ⟨94,[(1,[1,4,5])],[(1,[1,4,5])],[],[]⟩ (.n 720 ⟨21,[(0,[2,4,6,9,10,11])],[(0,[4,6])],[],[]⟩ .l .l) .l) (.n 724 ⟨49,[],[],[],[]⟩ (.n 723 ⟨9,[],[],[],[]⟩ .l .l) .l)))) (.n 745 ⟨19,[(0,[0,1,7,8])],[(0,[])],[],[]⟩ (.n 736 ⟨21,[(0,[1,8,9,10])],[(0,[])],[],[]⟩ (.n 728 ⟨10,[],[],[],[]⟩ (.n 727 ⟨15,[],[],[],[]⟩ (.n 726 ⟨11,[],[],[],[]⟩ .l .l) .l) (.n 735 ⟨10,[],[],[],[]⟩ (.n 729 ⟨21,[(0,[1,8,9,10])],[(0,[])],[],[]⟩ .l .l) .l)) (.n 741 ⟨9,[],[],[],[]⟩ (.n 738 ⟨21,[(0,[1,8,9,10])],[(0,[])],[],[]⟩ (.n 737 ⟨11,[],[],[],[]⟩ .l .l) .l) (.n 744 ⟨6,[],[],[],[]⟩ (.n 742 ⟨6,[],[],[],[]⟩ .l .l) .l))) (.n 753 ⟨7,[],[],[],[]⟩ (.n 750 ⟨21,[(0,[1,8,9,10])],[(0,[])],[],[]⟩ (.n 749 ⟨21,[(0,[1,8,9,10])],[(0,[])],[],[]⟩ (.n 746 ⟨6,[],[],[],[]⟩ .l .l) .l) (.n 752 ⟨19,[(0,[0,1,7,8])],[(0,[])],[],[]⟩ (.n 751 ⟨14,[],[],[],[]⟩ .l .l) .l)) (.n 766 ⟨31,[(1,[0,3])],[(1,[])],[],[]⟩ (.n 765 ⟨34,[(1,[0,3])],[(1,[])],[],[]⟩ (.n 754 ⟨58,[],[],[],[]⟩ .l .l) .l) (.n 768 ⟨19,[(0,[0,7,8,9])],[(0,[0])],[],[]⟩ (.n 767 ⟨45,[(1,[0,1,6,7])],[(1,[6])],[],[]⟩ .l .l) .l)))))))
def ah1:Fs ab bJ=true:=by decide+kernel
noncomputable def cc (i:Nat):aF:=match (Tryz.prog.funcs[qj ab i]?).bind (BL Tryz.prog (Jc bJ hd i)) with
 | some F=>F
 | none=>⟨[],.skip⟩
end kW
def nest:VC->List VC
 | .seq a b=>nest a++nest b
 | .cond _ a b=>nest a++nest b
 | .cT _ a=>nest a
 | .loop _ a=>[a]
 | .rf _ _ a b=>[a,b]
 | _=>[]
def kX:VC->List VC->VC×List VC
 | .seq a b,l=>(.seq (kX a l).1 (kX b (kX a l).2).1,(kX b (kX a l).2).2)
 | .cond x a b,l=>(.cond x (kX a l).1 (kX b (kX a l).2).1,(kX b (kX a l).2).2)
 | .cT i a,l=>(.cT i (kX a l).1,(kX a l).2)
 | .loop v a,l=>(.loop v (l.headD a),l.tail)
 | .rf f ps a b,l=>(.rf f ps (l.headD a) (l.tail.headD b),l.tail.tail)
 | c,l=>(c,l)
def WC (c:VC):List Nat->VC
 | []=>c
 | i::r=>WC ((nest c).getD i .skip) r
def az {α:Type} {a b:α} (_:a=b):α:=b
attribute [go_sem] az
noncomputable def cl (F:aF) (p:List Nat) (l:List VC):VC:=(kX (WC F.body p) l).1
noncomputable def c6 (F:aF) (l:List VC):aF:=⟨F.eT,(kX F.body l).1⟩
end VE
end
