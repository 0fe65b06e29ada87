import Derived.Lib.Index
import Derived.Lib.ItoaNum
import Derived.Lib.Atoi
import Derived.Lib.BitFns
import Derived.Lib.Repeat
import Derived.Lib.SlTrimSet
import Derived.Shelf.Strings.Cut
import Derived.Shelf.Strings.Prefix
import Derived.Shelf.Small.Bits
import Derived.RowKit
import Derived.Test.YtflgmingejdfnaaGreatDoorUaa
import Derived.Test.YtflgmingejdfnaaGreatDoorUag
set_option linter.all false
set_option maxRecDepth 100000
open Bool renaming and_eq_true→yg,false_eq_true→yA
open Go renaming Calls→xM,Value→yf,World→yh
open Int renaming natCast_nonneg→tg,ofNat→yaV
open List renaming length_map→xm,map_append→xt,map_cons→y8,map_reverse→tu
open Nat renaming beq→yx,ble→yE,ble_eq_true_of_le→yu,blt→yJ,eq_of_beq_eq_true→yo,le_of_ble_eq_true→yC,le_refl→yB
open Option.some renaming injEq→yc
open UInt8 renaming ofNat→ybu,toNat→yX,toNat_ofNat'→yac
namespace VE
section
open Go (IntKind)
def hO:List Nat->List Nat->Bool
 | [],_=>true
 | a::x,b::y=>yx a b&&hO x y
 | _::_,[]=>false
def nf (sub:List Nat):List Nat->Nat->Option Nat
 | [],k=>bif hO sub [] then some k else none
 | b::r,k=>bif hO sub (b::r) then some k else nf sub r (k+1)
def Pp:List AV->Option AV
 | [.str s,.str sep]=>
  bif yJ s.length 4294967281 then
   match nf sep s 0 with
   | some i=>some (.aw [.str (s.take i),.str (s.drop (i+sep.length)),.bool true])
   | none=>some (.aw [.str s,.str [],.bool false])
  else none
 | _=>none
def M9:List AV->Option AV
 | [.str s,.str p]=>some (bif hO p s then .aw [.str (s.drop p.length),.bool true] else .aw [.str s,.bool false])
 | _=>none
def Nb:List AV->Option AV
 | [.str s,.str p]=>some (.bool (hO p s))
 | _=>none
def MV:List AV->Option AV
 | [.str s,.str p]=>some (.str (bif hO p s then s.drop p.length else s))
 | _=>none
def GG (i:Nat):List Nat->Bool
 | []=>false
 | j::r=>bif yx j i then true else GG i r
def lT (set:List Nat):List Nat->List Nat
 | []=>[]
 | b::r=>bif GG b set then lT set r else b::r
def FR:List Nat->Bool
 | []=>true
 | b::r=>yJ b 128&&FR r
def trimS:List AV->Option AV
 | [.str s,.str set]=>bif FR set&&(yJ s.length 4294967281&&yJ set.length 4294967281) then some (.str (lT set (lT set s.reverse).reverse)) else none
 | _=>none
def iv (s:List Nat):Nat->List Nat
 | 0=>[]
 | n+1=>s++iv s n
def BZ:List AV->Option AV
 | [.str s,.int .i64 (.ofNat n)]=>bif yE n 1099511627776&&yE (s.length*n) 1099511627776 then some (.str (iv s n)) else none
 | _=>none
def nQ:Nat->Nat->List Nat->List Nat
 | 0,_,acc=>acc
 | f+1,n,acc=>bif yJ n 10 then (48+n)::acc else nQ f (n/10) ((48+n%10)::acc)
def an (n:Nat):List Nat:=nQ (n+1) n []
def aW:Int->List Nat
 | .ofNat n=>an n
 | .negSucc n=>45::an (n+1)
def zc:Int->Bool
 | .ofNat n=>yJ n 9223372036854775808
 | .negSucc n=>yJ n 9223372036854775808
def Gr:List AV->Option AV
 | [.int .i64 n]=>bif zc n then some (.str (aW n)) else none
 | _=>none
def BI:List AV->Option AV
 | [.int .u64 (.ofNat n),.int .i64 10]=>bif yJ n 18446744073709551616 then some (.str (an n)) else none
 | _=>none
def df:List Nat->Nat->Option Nat
 | [],a=>some a
 | b::r,a=>bif yE 48 b&&yE b 57 then df r (10*a+(b-48)) else none
def Kt:List AV->Option AV
 | [.str s]=>
  bif yJ 0 s.length&&yE s.length 18 then
   match df s 0 with | some n=>some (.aw [.int .i64 n,.undef]) | none=>none
  else none
 | _=>none
def oH:List AV->Option AV
 | [.int .u64 (.ofNat x),.int .u64 (.ofNat y),.int .u64 (.ofNat c)]=>
  bif yE c 1&&(yJ x 18446744073709551616&&yJ y 18446744073709551616) then some (.aw [.int .u64 ((x+y+c)%18446744073709551616:Nat),.int .u64 ((x+y+c)/18446744073709551616:Nat)]) else none
 | _=>none
def B4:List AV->Option AV
 | [.int .u64 (.ofNat x),.int .u64 (.ofNat y),.int .u64 (.ofNat c)]=>
  bif yE c 1&&(yJ x 18446744073709551616&&yJ y 18446744073709551616) then some (.aw [.int .u64 ((x+18446744073709551616*2-y-c)%18446744073709551616:Nat),.int .u64 (bif yE (y+c) x then 0 else 1)]) else none
 | _=>none
def oI:List AV->Option AV
 | [.int .u64 (.ofNat x),.int .u64 (.ofNat y)]=>bif yJ x 18446744073709551616&&yJ y 18446744073709551616 then some (.aw [.int .u64 (x*y/18446744073709551616:Nat),.int .u64 (x*y%18446744073709551616:Nat)]) else none
 | _=>none
def ff:Nat->Nat->Nat
 | 0,_=>0
 | f+1,n=>bif yx n 0 then 0 else 1+ff f (n/2)
def JS:List AV->Option AV
 | [.int .u64 (.ofNat x)]=>bif yJ x 18446744073709551616 then some (.int .i64 (ff 64 x)) else none
 | _=>none
def Gs:List AV->Option AV
 | [.int .u64 (.ofNat x)]=>bif yJ x 18446744073709551616 then some (.int .i64 (64-ff 64 x:Nat)) else none
 | _=>none
end
section
open Go
section
variable {O:bD} {n:Nat}
def Jb {w w':yh} (h:RowKit.Below w.heap.size w w'):Calm w w':=⟨h.os,h.tape,h.output,h.size,h.block⟩
def amp {w:yh} (k:Nat):Calm w (w.drewN k):=⟨rfl,rfl,rfl,yB _,fun _ _=>rfl⟩
def amq {w:yh} (h:Ch O w) {a:Addr} {v:yf} (hc:O.w0.cell? a=some v):w.cell? a=some v:=by
 have hb:a.block<O.w0.heap.size:=by
  unfold World.cell? at hc
  cases hq:O.w0.heap[a.block]? with
  | none=>simp [hq] at hc
  | some o=>exact (Array.getElem?_eq_some_iff.1 hq).1
 unfold World.cell? at hc ⊢;rw [h.1 _ hb];exact hc
def pI {vals:List AV} {r:AV} (hr:∀S w' lo u,aj O.ai fE S w' r u->oQ O.ai S w' lo r u)
  (gB:∀args w,(callFunc (O.ai n) args).run O.P w= .ok (.enter (O.ai n) args) w)
  (h:∀w S args,Ch O w->au O.ai fE S w vals args.toList->xM O.P (O.ai n) args w fun e w'=>∃u,e= .returned u/\Calm w w'/\∀S,aj O.ai fE S w' r u):eX O n vals r:=by
 intro w S args hg hS fh _;refine .inl ⟨gB args w,Go.callsIn_wide.2 ((h w S args hg fh).mono ?_)⟩;rintro e w' ⟨u,rfl,hc,hu⟩;exact ⟨u,S,rfl,hc,fun _ h=>h,fun _ h=> .inl h,fun b hb=>Nat.lt_of_lt_of_le (hS b hb) hc.size,hr S w' _ u (hu S)⟩
def abb {vals:List AV} {r:AV} (hr:∀S w' lo u,aj O.ai fE S w' r u->oQ O.ai S w' lo r u)
  (h:∀w S args,au O.ai fE S w vals args.toList->∃u,(callFunc (O.ai n) args).run O.P w= .ok (.value u) w/\∀S,aj O.ai fE S w r u):eX O n vals r:=by
 intro w S args _ hS fh _;obtain ⟨u,h1,h2⟩:=h w S args fh;exact .inr ⟨u,w,h1,u,S,rfl,Calm.refl,fun _ h=>h,fun _ h=> .inl h,hS,hr S w _ u (h2 S)⟩
def JI {s:List Nat}:∀S w' lo u,aj O.ai fE S w' (.str s) u->oQ O.ai S w' lo (.str s) u:=fun S w' lo u h=>⟨[],rfl,h,rfl⟩
def adm {k:IntKind} {z:Int}:∀S w' lo u,aj O.ai fE S w' (.int k z) u->oQ O.ai S w' lo (.int k z) u:=fun S w' lo u h=>⟨[],rfl,h,rfl⟩
def aom {b:Bool}:∀S w' lo u,aj O.ai fE S w' (.bool b) u->oQ O.ai S w' lo (.bool b) u:=fun S w' lo u h=>⟨[],rfl,h,rfl⟩
def aaj {S:Nat->Prop} {w':yh} {lo:Nat}:∀{vs:List AV} {us:List yf},(∀v,v∈vs->(∀ex sz k cs,v≠.cR ex sz k cs)/\aS v=true)->au O.ai fE S w' vs us->mb O.ai S w' lo vs us []
 | [],us,_,h=>by simp only [au] at h;exact ⟨h,rfl⟩
 | v::vs,us,hv,h=>by
  simp only [au] at h;obtain ⟨u,t,rfl,h1,h2⟩:=h;have h3:=hv v (by simp);refine ⟨u,t,[],[],rfl,rfl,?_,aaj (fun v hm=>hv v (by simp [hm])) h2⟩;cases v<;>first | exact ⟨rfl,h1,h3.2⟩ | exact absurd rfl (h3.1 _ _ _ _)
def FI {vs:List AV} (hv:∀v,v∈vs->(∀ex sz k cs,v≠.cR ex sz k cs)/\aS v=true):∀S w' lo u,aj O.ai fE S w' (.aw vs) u->oQ O.ai S w' lo (.aw vs) u:=by
 intro S w' lo u h;obtain ⟨xs,rfl,h⟩:=h;exact ⟨xs,[],rfl,aaj hv h,by simp⟩
def OG {S:Nat->Prop} {w:yh} {a:AV} {args:Array yf} (h:au O.ai fE S w [a] args.toList):∃u,args=#[u]/\aj O.ai fE S w a u:=by
 simp only [au] at h
 grind
def Cl {S:Nat->Prop} {w:yh} {a b:AV} {args:Array yf} (h:au O.ai fE S w [a,b] args.toList):∃u v,args=#[u,v]/\aj O.ai fE S w a u/\aj O.ai fE S w b v:=by
 simp only [au] at h
 grind
def agn {S:Nat->Prop} {w:yh} {a b c:AV} {args:Array yf} (h:au O.ai fE S w [a,b,c] args.toList):∃u v x,args=#[u,v,x]/\aj O.ai fE S w a u/\aj O.ai fE S w b v/\aj O.ai fE S w c x:=by
 simp only [au] at h
 grind
def Jc {S:Nat->Prop} {w:yh} {s:List Nat} {l:List UInt8} (h:l.map yX=s):aj O.ai fE S w (.str s) (.string ⟨l.toArray⟩):=by
 simp only [aj];exact ⟨_,rfl,h⟩
def toNat_inj {a b:UInt8}:yx a.toNat b.toNat=(a==b):=by
 by_cases h:a=b
 ·simp_all
 ·have h':a.toNat≠b.toNat:=fun e=>h (UInt8.toNat_inj.1 e)
  have e:(a==b)=false:=by simp_all
  rw [e]
  cases hq:yx a.toNat b.toNat with
  | false=>rfl
  | true=>exact absurd (yo hq) h'
def Jo:∀(p s:List UInt8),hO (p.map yX) (s.map yX)=p.isPrefixOf s
 | [],s=>by cases s<;>rfl
 | a::p,[]=>rfl
 | a::p,b::s=>by
  simp only [y8,hO,List.isPrefixOf,Jo p s,toNat_inj]
def aak:∀(s sep:List UInt8) (k:Nat),nf (sep.map yX) (s.map yX) k=if 0<=Lib.index s sep then some (k+(Lib.index s sep).toNat) else none
 | [],sep,k=>by
  simp only [List.map_nil,nf,Lib.index]
  cases sep with
  | nil=>simp [hO]
  | cons a r=>simp [hO]
 | b::s,sep,k=>by
  have ih:=aak s sep (k+1);have hp:=Jo sep (b::s);simp only [y8,nf,hp,Lib.index]
  grind
def ab6 (b:UInt8):∀cs:List UInt8,GG b.toNat (cs.map yX)=cs.contains b
 | []=>rfl
 | c::cs=>by
  simp only [y8,GG,ab6 b cs,List.contains_cons,toNat_inj]
  grind
def SD (cs:List UInt8):∀l:List UInt8,lT (cs.map yX) (l.map yX)=(l.dropWhile (cs.contains ·)).map yX
 | []=>rfl
 | b::l=>by
  simp only [y8,lT,ab6,List.dropWhile_cons,SD cs l]
  grind
def ab7 (l:List UInt8):∀n,iv (l.map yX) n=(Lib.repeatL l n).map yX
 | 0=>rfl
 | n+1=>by simp only [iv,Lib.repeatL,xt,ab7 l n]
def ZO:∀(f n:Nat) (acc:List Nat),n<f->nQ f n acc=(Lib.decDigits n).map yX++acc
 | 0,n,acc,h=>by omega
 | f+1,n,acc,h=>by
  rw [nQ,Lib.decDigits];by_cases hn:n<10
  ·rw [show yJ n 10=true from yu hn,ym,dif_pos hn]
   have:(ybu (48+n)).toNat=48+n:=by
    rw [yac];omega
   grind
  ·have hb:yJ n 10=false:=by
    cases hq:yJ n 10 with
    | false=>rfl
    | true=>exact absurd (yC hq) (by omega)
   rw [hb,yD,dif_neg hn,ZO f (n/10) _ (by omega),xt,List.append_assoc]
   have:(ybu (48+n%10)).toNat=48+n%10:=by
    rw [yac];omega
   grind
def Tc (n:Nat):an n=(Lib.decDigits n).map yX:=by
 rw [an,ZO (n+1) n [] (by omega),List.append_nil]
def aon (n:Int):aW n=(Lib.itoa n).map yX:=by
 cases n with
 | ofNat k=>
  have:¬yaV k<0:=by simp
  simp only [aW,Lib.itoa,this,yN,Tc];rfl
 | negSucc k=>
  have:Int.negSucc k<0:=Int.negSucc_lt_zero k
  simp only [aW,Lib.itoa,this,yV,Tc,y8];rfl
def Td:∀f x:Nat,ff f x=Lib.bitLenAux f x
 | 0,_=>rfl
 | f+1,x=>by
  rw [ff,Lib.bitLenAux];by_cases h:x=0
  ·simp_all
  ·have hb:yx x 0=false:=by
    cases hq:yx x 0 with
    | false=>rfl
    | true=>exact absurd (yo hq) h
   rw [hb,yD,yr h,Td f]
def aal:∀{cs:List UInt8},FR (cs.map yX)=true->∀(j:Nat) b,cs[j]? =some b->b.toNat<128
 | [],_,j,b,h=>by simp at h
 | c::cs,h,j,b,hb=>by
  simp only [y8,FR,yg] at h
  cases j with
  | zero=>
   simp_all
  | succ j=>exact aal h.2 j b (by simpa using hb)
def pT {a b:Nat} (h:yJ a b=true):a<b:=by simp_all
def ab8:∀{l:List UInt8} {a z:Nat},df (l.map yX) a=some z->Lib.decFrom a l=some z
 | [],a,z,h=>h
 | b::l,a,z,h=>by
  simp only [y8,df] at h
  cases hb:(yE 48 b.toNat&&yE b.toNat 57) with
  | false=>rw [hb] at h;cases h
  | true=>
   rw [hb] at h;simp only [yg] at hb;have h1:=yC hb.1;have h2:=yC hb.2
   have:=ab8 h
   rw [Lib.decFrom,Lib.digitVal,yF ⟨h1,h2⟩]
   grind
def aoo {l:List UInt8} {z:Nat} (h:df (l.map yX) 0=some z) (h0:0<l.length):Lib.atoi l=some (z:Int):=by
 cases l with
 | nil=>simp at h0
 | cons b r=>
  have hd:=ab8 h;have hb:48<=b.toNat:=by
   simp only [y8,df] at h
   cases hb:(yE 48 b.toNat&&yE b.toNat 57) with
   | false=>rw [hb] at h;cases h
   | true=>
    simp_all
  have h1:(b==45)=false:=by
   have:b≠45:=fun e=>by subst e;exact absurd hb (by decide)
   grind
  have h2:(b==43)=false:=by
   have:b≠43:=fun e=>by subst e;exact absurd hb (by decide)
   grind
  simp only [Lib.atoi,h1,h2,yA,yN,Lib.decNat,List.isEmpty_cons,hd,Option.map_some]
section
variable {f:FuncId}
def akg (hf:O.ai n=f) (gB:∀args w,(callFunc f args).run O.P w= .ok (.enter f args) w)
  (hc:∀(s p:ByteArray) (w:yh),xM O.P f #[.string s,.string p] w fun e w'=>e= .returned (.tuple #[.string ⟨(Lib.trimPrefix s.data.toList p.data.toList).toArray⟩,.bool (Lib.hasPrefix s.data.toList p.data.toList)])/\w'=w):
  ∀vals r,M9 vals=some r->eX O n vals r:=by
 intro vals r h;unfold M9 at h
 split at h
 ·rename_i s p;simp only [yc] at h;subst h;refine pI ?_ (by rw [hf];exact gB) ?_
  ·cases hO p s<;>exact FI (by simp [aS])
  ·intro w S args hg fh;obtain ⟨u,v,rfl,h1,h2⟩:=Cl fh;obtain ⟨t1,rfl,rfl⟩:=h1;obtain ⟨t2,rfl,rfl⟩:=h2;rw [hf];refine (hc t1 t2 w).mono ?_;rintro e w' ⟨rfl,rfl⟩;refine ⟨_,rfl,Calm.refl,fun S=>?_⟩;rw [Jo,xm];unfold Lib.trimPrefix Lib.hasPrefix
   cases hp:t2.data.toList.isPrefixOf t1.data.toList with
   | true=>
    simp only [ym,yV,aj,au]
    simp_all
   | false=>
    simp only [yD,yA,yN,aj,au]
    grind
 ·cases h
def akh (hf:O.ai n=f) (gB:∀args w,(callFunc f args).run O.P w= .ok (.enter f args) w)
  (hc:∀(s p:ByteArray) (w:yh),xM O.P f #[.string s,.string p] w fun e w'=>e= .returned (.bool (Lib.hasPrefix s.data.toList p.data.toList))/\w'=w):
  ∀vals r,Nb vals=some r->eX O n vals r:=by
 intro vals r h;unfold Nb at h
 split at h
 ·rename_i s p;simp only [yc] at h;subst h;refine pI aom (by rw [hf];exact gB) ?_
  intro w S args hg fh;obtain ⟨u,v,rfl,h1,h2⟩:=Cl fh;obtain ⟨t1,rfl,rfl⟩:=h1;obtain ⟨t2,rfl,rfl⟩:=h2;rw [hf];refine (hc t1 t2 w).mono ?_;rintro e w' ⟨rfl,rfl⟩;refine ⟨_,rfl,Calm.refl,fun S=>?_⟩;rw [Jo];simp only [aj,Lib.hasPrefix]
 ·cases h
def akc (hf:O.ai n=f) (gB:∀args w,(callFunc f args).run O.P w= .ok (.enter f args) w)
  (hc:∀(s p:ByteArray) (w:yh),xM O.P f #[.string s,.string p] w fun e w'=>e= .returned (.string ⟨(Lib.trimPrefix s.data.toList p.data.toList).toArray⟩)/\w'=w):
  ∀vals r,MV vals=some r->eX O n vals r:=by
 intro vals r h;unfold MV at h
 split at h
 ·rename_i s p;simp only [yc] at h;subst h;refine pI JI (by rw [hf];exact gB) ?_
  intro w S args hg fh;obtain ⟨u,v,rfl,h1,h2⟩:=Cl fh;obtain ⟨t1,rfl,rfl⟩:=h1;obtain ⟨t2,rfl,rfl⟩:=h2;rw [hf];refine (hc t1 t2 w).mono ?_;rintro e w' ⟨rfl,rfl⟩;refine ⟨_,rfl,Calm.refl,fun S=>?_⟩;rw [Jo,xm];refine Jc ?_;unfold Lib.trimPrefix Lib.hasPrefix
  cases hp:t2.data.toList.isPrefixOf t1.data.toList with
  | true=>simp [List.map_drop]
  | false=>simp
 ·cases h
def aqz (hf:O.ai n=f) (gB:∀args w,(callFunc f args).run O.P w= .ok (.enter f args) w) {a:Addr} {m:Int} (hm:O.w0.cell? a=some (.int .i64 m))
  (hc:∀(s sep:ByteArray) (w:yh),s.size<4294967281->w.cell? a=some (.int .i64 m)->xM O.P f #[.string s,.string sep] w fun e w'=>e= .returned (.tuple #[.string ⟨(Lib.cut s.data.toList sep.data.toList).1.toArray⟩,.string ⟨(Lib.cut s.data.toList sep.data.toList).2.1.toArray⟩,.bool (Lib.cut s.data.toList sep.data.toList).2.2])/\∃n,w'=w.drewN n):
  ∀vals r,Pp vals=some r->eX O n vals r:=by
 intro vals r h;unfold Pp at h
 split at h
 ·rename_i s sep
  cases hb:yJ s.length 4294967281 with
  | false=>rw [hb] at h;cases h
  | true=>
   rw [hb] at h;have key:∀(q:List UInt8×List UInt8×Bool),(∀t1 t2:ByteArray,t1.data.toList.map yX=s->t2.data.toList.map yX=sep->r= .aw [.str ((Lib.cut t1.data.toList t2.data.toList).1.map yX),.str ((Lib.cut t1.data.toList t2.data.toList).2.1.map yX),.bool (Lib.cut t1.data.toList t2.data.toList).2.2])->
     (∃a b c,r= .aw [.str a,.str b,.bool c])->eX O n [.str s,.str sep] r:=by
    intro q hq asV;obtain ⟨a',b',c',rfl⟩:=asV;refine pI (FI (by simp [aS])) (by rw [hf];exact gB) ?_
    intro w S args hg fh;obtain ⟨u,v,rfl,h1,h2⟩:=Cl fh;obtain ⟨t1,rfl,e1⟩:=h1;obtain ⟨t2,rfl,e2⟩:=h2;rw [hf];have hl:t1.size<4294967281:=by
     have:=pT hb
     rw [<-e1,xm] at this
     simp_all
    refine (hc t1 t2 w hl (amq hg hm)).mono ?_;rintro e w' ⟨rfl,k,rfl⟩;refine ⟨_,rfl,amp k,fun S=>?_⟩;simp only [aj,au]
    grind
   refine key ([],[],false) ?_ ?_
   ·intro t1 t2 e1 e2;subst e1;subst e2;rw [aak] at h;unfold Lib.cut;by_cases h0:0<=Lib.index t1.data.toList t2.data.toList
    ·simp_all
    ·grind
   ·grind
 ·cases h
def aop (hf:O.ai n=f) (gB:∀args w,(callFunc f args).run O.P w= .ok (.enter f args) w)
  (hc:∀(s cs:ByteArray) (w:yh),s.size<=9223372036854775807->cs.size<4294967281->(∀(j:Nat) b,cs.data.toList[j]? =some b->b.toNat<128)->xM O.P f #[.string s,.string cs] w fun e w'=>e= .returned (.string ⟨(Lib.trimS s.data.toList cs.data.toList).toArray⟩)/\RowKit.Below w.heap.size w w'):
  ∀vals r,trimS vals=some r->eX O n vals r:=by
 intro vals r h;unfold trimS at h
 split at h
 ·rename_i s cs
  cases hb:(FR cs&&(yJ s.length 4294967281&&yJ cs.length 4294967281)) with
  | false=>rw [hb] at h;cases h
  | true=>
   rw [hb] at h;simp only [ym,yc] at h;subst h;simp only [yg] at hb;refine pI JI (by rw [hf];exact gB) ?_
   intro w S args hg fh;obtain ⟨u,v,rfl,h1,h2⟩:=Cl fh;obtain ⟨t1,rfl,rfl⟩:=h1;obtain ⟨t2,rfl,rfl⟩:=h2;have og:=pT hb.2.1;have zI:=pT hb.2.2;rw [xm] at og zI;rw [hf];refine (hc t1 t2 w (by rw [Lib.size_eq];omega) (by rw [Lib.size_eq];omega) (aal hb.1)).mono ?_;rintro e w' ⟨rfl,hw⟩;refine ⟨_,rfl,Jb hw,fun S=>Jc ?_⟩;simp only [Lib.trimS,Lib.trimLeftS,Lib.trimRightS];rw [<-tu,SD,<-tu,SD]
 ·cases h
def alh (hf:O.ai n=f) (gB:∀args w,(callFunc f args).run O.P w= .ok (.enter f args) w)
  (hc:∀(s:ByteArray) (c:Nat) (w:yh),c<=9223372036854775807->s.size*c<=140737488355328->xM O.P f #[.string s,.int .i64 c] w fun e w'=>e= .returned (.string ⟨(Lib.repeatL s.data.toList c).toArray⟩)/\RowKit.Below w.heap.size w w'):
  ∀vals r,BZ vals=some r->eX O n vals r:=by
 intro vals r h;unfold BZ at h
 split at h
 ·rename_i s c
  cases hb:(yE c 1099511627776&&yE (s.length*c) 1099511627776) with
  | false=>rw [hb] at h;cases h
  | true=>
   rw [hb] at h;simp only [ym,yc] at h;subst h;simp only [yg] at hb;have l1:=yC hb.1;have l2:=yC hb.2;refine pI JI (by rw [hf];exact gB) ?_
   intro w S args hg fh;obtain ⟨u,v,rfl,h1,h2⟩:=Cl fh;obtain ⟨t1,rfl,rfl⟩:=h1;subst h2;rw [hf];rw [xm] at l2;refine (hc t1 c w (by omega) (by rw [Lib.size_eq];omega)).mono ?_;rintro e w' ⟨rfl,hw⟩;exact ⟨_,rfl,Jb hw,fun S=>Jc (ab7 _ _).symm⟩
 ·cases h
def aoq (hf:O.ai n=f) (gB:∀args w,(callFunc f args).run O.P w= .ok (.enter f args) w)
  (hc:∀(z:Int) (w:yh),-9223372036854775808<=z->z<=9223372036854775807->Ch O w->xM O.P f #[.int .i64 z] w fun e w'=>e= .returned (.string ⟨(Lib.itoa z).toArray⟩)/\Calm w w'):
  ∀vals r,Gr vals=some r->eX O n vals r:=by
 intro vals r h;unfold Gr at h
 split at h
 ·rename_i z
  cases hb:zc z with
  | false=>rw [hb] at h;cases h
  | true=>
   rw [hb] at h;simp only [ym,yc] at h;subst h;have hz: -9223372036854775808<=z/\z<=9223372036854775807:=by
    cases z with
    | ofNat k=>have:=pT hb;show -9223372036854775808<=(k:Int)/\(k:Int)<=9223372036854775807;omega
    | negSucc k=>have:=pT hb;omega
   refine pI JI (by rw [hf];exact gB) ?_
   intro w S args hg fh;obtain ⟨u,rfl,h1⟩:=OG fh;subst h1;rw [hf];refine (hc z w hz.1 hz.2 hg).mono ?_;rintro e w' ⟨rfl,hw⟩;exact ⟨_,rfl,hw,fun S=>Jc (aon z).symm⟩
 ·cases h
def akd (hf:O.ai n=f) (gB:∀args w,(callFunc f args).run O.P w= .ok (.enter f args) w)
  (hc:∀(z:Nat) (w:yh),z<18446744073709551616->Ch O w->xM O.P f #[.int .u64 z,.int .i64 10] w fun e w'=>e= .returned (.string ⟨(Lib.decDigits z).toArray⟩)/\Calm w w'):
  ∀vals r,BI vals=some r->eX O n vals r:=by
 intro vals r h;unfold BI at h
 split at h
 ·rename_i z
  cases hb:yJ z 18446744073709551616 with
  | false=>rw [hb] at h;cases h
  | true=>
   rw [hb] at h;simp only [ym,yc] at h;subst h;refine pI JI (by rw [hf];exact gB) ?_
   intro w S args hg fh;obtain ⟨u,v,rfl,h1,h2⟩:=Cl fh;subst h1;subst h2;rw [hf];refine (hc z w (pT hb) hg).mono ?_;rintro e w' ⟨rfl,hw⟩;exact ⟨_,rfl,hw,fun S=>Jc (Tc z).symm⟩
 ·cases h
def aor (hf:O.ai n=f) (gB:∀args w,(callFunc f args).run O.P w= .ok (.enter f args) w)
  (hc:∀(s:ByteArray) (z:Int) (w:yh),s.size<=18->Lib.atoi s.data.toList=some z->xM O.P f #[.string s] w fun e w'=>e= .returned (.tuple #[.int .i64 z,.nilIface])/\Calm w w'):
  ∀vals r,Kt vals=some r->eX O n vals r:=by
 intro vals r h;unfold Kt at h
 split at h
 ·rename_i s
  cases hb:(yJ 0 s.length&&yE s.length 18) with
  | false=>rw [hb] at h;cases h
  | true=>
   rw [hb] at h;simp only [ym] at h;simp only [yg] at hb;have l1:=pT hb.1;have l2:=yC hb.2
   split at h
   ·rename_i z hz;simp only [yc] at h;subst h;refine pI (FI (by simp [aS])) (by rw [hf];exact gB) ?_
    intro w S args hg fh;obtain ⟨u,rfl,h1⟩:=OG fh;obtain ⟨t1,rfl,rfl⟩:=h1;rw [xm] at l1 l2;have ha:Lib.atoi t1.data.toList=some (z:Int):=aoo hz l1;rw [hf];refine (hc t1 z w (by rw [Lib.size_eq];exact l2) ha).mono ?_
    simp only [aj,au]
    grind
   ·cases h
 ·cases h
def amr (hf:O.ai n=f) (gB:∀args w,(callFunc f args).run O.P w= .ok (.enter f args) w)
  (hc:∀(x y:Nat) (w:yh),x<18446744073709551616->y<18446744073709551616->xM O.P f #[.int .u64 x,.int .u64 y] w fun e w'=>e= .returned (.tuple #[.int .u64 ((x*y/18446744073709551616:Nat):Int),.int .u64 ((x*y%18446744073709551616:Nat):Int)])/\w'=w):
  ∀vals r,oI vals=some r->eX O n vals r:=by
 intro vals r h;unfold oI at h
 split at h
 ·rename_i x y
  cases hb:(yJ x 18446744073709551616&&yJ y 18446744073709551616) with
  | false=>rw [hb] at h;cases h
  | true=>
   rw [hb] at h;simp only [ym,yc] at h;subst h;simp only [yg] at hb;refine pI (FI (by simp [aS])) (by rw [hf];exact gB) ?_
   intro w S args hg fh;obtain ⟨u,v,rfl,h1,h2⟩:=Cl fh;subst h1;subst h2;rw [hf];refine (hc x y w (pT hb.1) (pT hb.2)).mono ?_;rintro e w' ⟨rfl,rfl⟩;refine ⟨_,rfl,Calm.refl,fun S=>?_⟩;simp only [aj,au]
   grind
 ·cases h
def ams (hf:O.ai n=f) (gB:∀args w,(callFunc f args).run O.P w= .ok (.enter f args) w)
  (hc:∀(x:Int) (w:yh),0<=x->x<=18446744073709551615->xM O.P f #[.int .u64 x] w fun e w'=>e= .returned (.int .i64 (Lib.bitLen x.toNat:Nat))/\w'=w):
  ∀vals r,JS vals=some r->eX O n vals r:=by
 intro vals r h;unfold JS at h
 split at h
 ·rename_i x
  cases hb:yJ x 18446744073709551616 with
  | false=>rw [hb] at h;cases h
  | true=>
   rw [hb] at h;simp only [ym,yc] at h;subst h
   have:=pT hb
   refine pI adm (by rw [hf];exact gB) ?_
   intro w S args hg fh;obtain ⟨u,rfl,h1⟩:=OG fh;subst h1;rw [hf];refine (hc (yaV x) w (tg x) (by show (x:Int)<=_;omega)).mono ?_;rintro e w' ⟨rfl,rfl⟩;refine ⟨_,rfl,Calm.refl,fun S=>?_⟩;rw [Td];rfl
 ·cases h
def aos (hf:O.ai n=f) (gB:∀args w,(callFunc f args).run O.P w= .ok (.enter f args) w)
  (hc:∀(x:Int) (w:yh),0<=x->x<=18446744073709551615->xM O.P f #[.int .u64 x] w fun e w'=>e= .returned (.int .i64 (64-(Lib.bitLen x.toNat:Nat)))/\w'=w):
  ∀vals r,Gs vals=some r->eX O n vals r:=by
 intro vals r h;unfold Gs at h
 split at h
 ·rename_i x
  cases hb:yJ x 18446744073709551616 with
  | false=>rw [hb] at h;cases h
  | true=>
   rw [hb] at h;simp only [ym,yc] at h;subst h
   have:=pT hb
   have hle:∀f x,Lib.bitLenAux f x<=f:=by
    intro f
    induction f with
    | zero=>intro x;exact yB _
    | succ f ih=>
     intro x;rw [Lib.bitLenAux]
     grind
   refine pI adm (by rw [hf];exact gB) ?_
   intro w S args hg fh;obtain ⟨u,rfl,h1⟩:=OG fh;subst h1;rw [hf];refine (hc (yaV x) w (tg x) (by show (x:Int)<=_;omega)).mono ?_;rintro e w' ⟨rfl,rfl⟩;refine ⟨_,rfl,Calm.refl,fun S=>?_⟩;simp only [aj,Td];show Value.int .i64 (64-(Lib.bitLenAux 64 x:Int))=Value.int .i64 ((64-Lib.bitLenAux 64 x:Nat):Int)
   grind
 ·cases h
def amt (hf:O.ai n=f)
  (hc:∀(x y c:Nat) (w:yh),c<=1->(callFunc f #[.int .u64 x,.int .u64 y,.int .u64 c]).run O.P w= .ok (.value (.tuple #[.int .u64 (((x+y+c)%18446744073709551616:Nat):Int),.int .u64 (((x+y+c)/18446744073709551616:Nat):Int)])) w):
  ∀vals r,oH vals=some r->eX O n vals r:=by
 intro vals r h;unfold oH at h
 split at h
 ·rename_i x y c
  cases hb:(yE c 1&&(yJ x 18446744073709551616&&yJ y 18446744073709551616)) with
  | false=>rw [hb] at h;cases h
  | true=>
   rw [hb] at h;simp only [ym,yc] at h;subst h;simp only [yg] at hb;refine abb (FI (by simp [aS])) ?_;intro w S args fh;obtain ⟨u,v,z,rfl,h1,h2,h3⟩:=agn fh;subst h1;subst h2;subst h3;rw [hf];refine ⟨_,hc x y c w (yC hb.1),fun S=>?_⟩;simp only [aj,au]
   grind
 ·cases h
def amu (hf:O.ai n=f)
  (hc:∀(x y b:Nat) (w:yh),b<=1->(callFunc f #[.int .u64 x,.int .u64 y,.int .u64 b]).run O.P w= .ok (.value (.tuple #[.int .u64 (((x+18446744073709551616-y-b)%18446744073709551616:Nat):Int),.int .u64 ((if x<y+b then 1 else 0:Nat):Int)])) w):
  ∀vals r,B4 vals=some r->eX O n vals r:=by
 intro vals r h;unfold B4 at h
 split at h
 ·rename_i x y c
  cases hb:(yE c 1&&(yJ x 18446744073709551616&&yJ y 18446744073709551616)) with
  | false=>rw [hb] at h;cases h
  | true=>
   rw [hb] at h;simp only [ym,yc] at h;subst h;simp only [yg] at hb;have eR:=yC hb.1;have hy:=pT hb.2.2;refine abb (FI (by simp [aS])) ?_;intro w S args fh;obtain ⟨u,v,z,rfl,h1,h2,h3⟩:=agn fh;subst h1;subst h2;subst h3;rw [hf];refine ⟨_,hc x y c w eR,fun S=>?_⟩;simp only [aj,au];refine ⟨_,rfl,_,_,rfl,?_,_,_,rfl,?_,rfl⟩
   ·grind
   ·congr 1
    by_cases h:x<y+c
    ·have:yE (y+c) x=false:=by
      cases hq:yE (y+c) x with
      | false=>rfl
      | true=>have:=yC hq;omega
     grind
    ·rw [yu (by omega),yr h];rfl
 ·cases h
end
end
end
end VE
