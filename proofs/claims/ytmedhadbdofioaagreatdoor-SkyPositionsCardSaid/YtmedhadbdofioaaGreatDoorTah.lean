import Derived.Lib.Index
import Derived.Lib.ItoaNum
import Derived.Lib.Atoi
import Derived.Lib.BitFns
import Derived.Lib.Repeat
import Derived.Lib.SlTrimSet
import Derived.Shelf.Strings.Cut
import Derived.Shelf.Strings.Prefix
import Derived.Shelf.Small.Bits
import Derived.RowKit
import Derived.Test.YtmedhadbdofioaaGreatDoorTaa
import Derived.Test.YtmedhadbdofioaaGreatDoorTag
set_option linter.all false
set_option maxRecDepth 100000
open Bool renaming and_eq_true→yg,false_eq_true→yD
open Go renaming Calls→xL,Value→yf,World→yi
open Int renaming natCast_nonneg→tT,ofNat→yag
open List renaming length_map→xu,map_append→xC,map_cons→yU,map_reverse→uR
open Nat renaming beq→yu,ble→yG,ble_eq_true_of_le→yv,blt→yK,eq_of_beq_eq_true→yp,le_of_ble_eq_true→yy,le_refl→yC
open Option.some renaming injEq→yc
open UInt8 renaming ofNat→yaC,toNat→yY,toNat_ofNat'→tB
namespace VE
section
open Go (IntKind)
def gR:List Nat->List Nat->Bool
 | [],_=>true
 | a::x,b::y=>yu a b&&gR x y
 | _::_,[]=>false
def mq (sub:List Nat):List Nat->Nat->Option Nat
 | [],k=>bif gR sub [] then some k else none
 | b::r,k=>bif gR sub (b::r) then some k else mq sub r (k+1)
def NX:List AV->Option AV
 | [.str s,.str sep]=>
  bif yK s.length 4294967281 then
   match mq sep s 0 with
   | some i=>some (.ap [.str (s.take i),.str (s.drop (i+sep.length)),.bool true])
   | none=>some (.ap [.str s,.str [],.bool false])
  else none
 | _=>none
def LR:List AV->Option AV
 | [.str s,.str p]=>some (bif gR p s then .ap [.str (s.drop p.length),.bool true] else .ap [.str s,.bool false])
 | _=>none
def LS:List AV->Option AV
 | [.str s,.str p]=>some (.bool (gR p s))
 | _=>none
def LB:List AV->Option AV
 | [.str s,.str p]=>some (.str (bif gR p s then s.drop p.length else s))
 | _=>none
def Fb (i:Nat):List Nat->Bool
 | []=>false
 | j::r=>bif yu j i then true else Fb i r
def kR (set:List Nat):List Nat->List Nat
 | []=>[]
 | b::r=>bif Fb b set then kR set r else b::r
def Ez:List Nat->Bool
 | []=>true
 | b::r=>yK b 128&&Ez r
def trimS:List AV->Option AV
 | [.str s,.str set]=>bif Ez set&&(yK s.length 4294967281&&yK set.length 4294967281) then some (.str (kR set (kR set s.reverse).reverse)) else none
 | _=>none
def ib (s:List Nat):Nat->List Nat
 | 0=>[]
 | n+1=>s++ib s n
def AZ:List AV->Option AV
 | [.str s,.int .i64 (.ofNat n)]=>bif yG n 1099511627776&&yG (s.length*n) 1099511627776 then some (.str (ib s n)) else none
 | _=>none
def mS:Nat->Nat->List Nat->List Nat
 | 0,_,acc=>acc
 | f+1,n,acc=>bif yK n 10 then (48+n)::acc else mS f (n/10) ((48+n%10)::acc)
def aw (n:Nat):List Nat:=mS (n+1) n []
def bh:Int->List Nat
 | .ofNat n=>aw n
 | .negSucc n=>45::aw (n+1)
def Bg:Int->Bool
 | .ofNat n=>yK n 9223372036854775808
 | .negSucc n=>yK n 9223372036854775808
def Ja:List AV->Option AV
 | [.int .i64 n]=>bif Bg n then some (.str (bh n)) else none
 | _=>none
def AH:List AV->Option AV
 | [.int .u64 (.ofNat n),.int .i64 10]=>bif yK n 18446744073709551616 then some (.str (aw n)) else none
 | _=>none
def cW:List Nat->Nat->Option Nat
 | [],a=>some a
 | b::r,a=>bif yG 48 b&&yG b 57 then cW r (10*a+(b-48)) else none
def Jb:List AV->Option AV
 | [.str s]=>
  bif yK 0 s.length&&yG s.length 18 then
   match cW s 0 with | some n=>some (.ap [.int .i64 n,.undef]) | none=>none
  else none
 | _=>none
def nE:List AV->Option AV
 | [.int .u64 (.ofNat x),.int .u64 (.ofNat y),.int .u64 (.ofNat c)]=>
  bif yG c 1&&(yK x 18446744073709551616&&yK y 18446744073709551616) then some (.ap [.int .u64 ((x+y+c)%18446744073709551616:Nat),.int .u64 ((x+y+c)/18446744073709551616:Nat)]) else none
 | _=>none
def A4:List AV->Option AV
 | [.int .u64 (.ofNat x),.int .u64 (.ofNat y),.int .u64 (.ofNat c)]=>
  bif yG c 1&&(yK x 18446744073709551616&&yK y 18446744073709551616) then some (.ap [.int .u64 ((x+18446744073709551616*2-y-c)%18446744073709551616:Nat),.int .u64 (bif yG (y+c) x then 0 else 1)]) else none
 | _=>none
def rq:List AV->Option AV
 | [.int .u64 (.ofNat x),.int .u64 (.ofNat y)]=>bif yK x 18446744073709551616&&yK y 18446744073709551616 then some (.ap [.int .u64 (x*y/18446744073709551616:Nat),.int .u64 (x*y%18446744073709551616:Nat)]) else none
 | _=>none
def eS:Nat->Nat->Nat
 | 0,_=>0
 | f+1,n=>bif yu n 0 then 0 else 1+eS f (n/2)
def Ix:List AV->Option AV
 | [.int .u64 (.ofNat x)]=>bif yK x 18446744073709551616 then some (.int .i64 (eS 64 x)) else none
 | _=>none
def EZ:List AV->Option AV
 | [.int .u64 (.ofNat x)]=>bif yK x 18446744073709551616 then some (.int .i64 (64-eS 64 x:Nat)) else none
 | _=>none
end
section
open Go
section
variable {O:bA} {n:Nat}
def Hz {w w':yi} (h:RowKit.Below w.heap.size w w'):Calm w w':=⟨h.os,h.tape,h.output,h.size,h.block⟩
def akA {w:yi} (k:Nat):Calm w (w.drewN k):=⟨rfl,rfl,rfl,yC _,fun _ _=>rfl⟩
def akB {w:yi} (h:Bc O w) {a:Addr} {v:yf} (hc:O.w0.cell? a=some v):w.cell? a=some v:=by
 have hb:a.block<O.w0.heap.size:=by
  unfold World.cell? at hc
  cases hq:O.w0.heap[a.block]? with
  | none=>simp [hq] at hc
  | some o=>exact (Array.getElem?_eq_some_iff.1 hq).1
 unfold World.cell? at hc ⊢;rw [h.1 _ hb];exact hc
def oD {vals:List AV} {r:AV} (hr:∀S w' lo u,aj O.ai fq S w' r u->nL O.ai S w' lo r u)
  (fW:∀args w,(callFunc (O.ai n) args).run O.P w= .ok (.enter (O.ai n) args) w)
  (h:∀w S args,Bc O w->au O.ai fq S w vals args.toList->xL O.P (O.ai n) args w fun e w'=>∃u,e= .returned u/\Calm w w'/\∀S,aj O.ai fq S w' r u):eX O n vals r:=by
 intro w S args hg hS eY _;refine .inl ⟨fW args w,Go.callsIn_wide.2 ((h w S args hg eY).mono ?_)⟩;rintro e w' ⟨u,rfl,hc,hu⟩;exact ⟨u,S,rfl,hc,fun _ h=>h,fun _ h=> .inl h,fun b hb=>Nat.lt_of_lt_of_le (hS b hb) hc.size,hr S w' _ u (hu S)⟩
def Zx {vals:List AV} {r:AV} (hr:∀S w' lo u,aj O.ai fq S w' r u->nL O.ai S w' lo r u)
  (h:∀w S args,au O.ai fq S w vals args.toList->∃u,(callFunc (O.ai n) args).run O.P w= .ok (.value u) w/\∀S,aj O.ai fq S w r u):eX O n vals r:=by
 intro w S args _ hS eY _;obtain ⟨u,h1,h2⟩:=h w S args eY;exact .inr ⟨u,w,h1,u,S,rfl,Calm.refl,fun _ h=>h,fun _ h=> .inl h,hS,hr S w _ u (h2 S)⟩
def Ii {s:List Nat}:∀S w' lo u,aj O.ai fq S w' (.str s) u->nL O.ai S w' lo (.str s) u:=fun S w' lo u h=>⟨[],rfl,h,rfl⟩
def abt {k:IntKind} {z:Int}:∀S w' lo u,aj O.ai fq S w' (.int k z) u->nL O.ai S w' lo (.int k z) u:=fun S w' lo u h=>⟨[],rfl,h,rfl⟩
def amB {b:Bool}:∀S w' lo u,aj O.ai fq S w' (.bool b) u->nL O.ai S w' lo (.bool b) u:=fun S w' lo u h=>⟨[],rfl,h,rfl⟩
def YI {S:Nat->Prop} {w':yi} {lo:Nat}:∀{vs:List AV} {us:List yf},(∀v,v∈vs->(∀ex sz k cs,v≠.cJ ex sz k cs)/\aR v=true)->au O.ai fq S w' vs us->kW O.ai S w' lo vs us []
 | [],us,_,h=>by simp only [au] at h;exact ⟨h,rfl⟩
 | v::vs,us,hv,h=>by
  simp only [au] at h;obtain ⟨u,t,rfl,h1,h2⟩:=h;have h3:=hv v (by simp);refine ⟨u,t,[],[],rfl,rfl,?_,YI (fun v hm=>hv v (by simp [hm])) h2⟩;cases v<;>first | exact ⟨rfl,h1,h3.2⟩ | exact absurd rfl (h3.1 _ _ _ _)
def En {vs:List AV} (hv:∀v,v∈vs->(∀ex sz k cs,v≠.cJ ex sz k cs)/\aR v=true):∀S w' lo u,aj O.ai fq S w' (.ap vs) u->nL O.ai S w' lo (.ap vs) u:=by
 intro S w' lo u h;obtain ⟨xs,rfl,h⟩:=h;exact ⟨xs,[],rfl,YI hv h,by simp⟩
def No {S:Nat->Prop} {w:yi} {a:AV} {args:Array yf} (h:au O.ai fq S w [a] args.toList):∃u,args=#[u]/\aj O.ai fq S w a u:=by
 simp only [au] at h
 grind
def Bh {S:Nat->Prop} {w:yi} {a b:AV} {args:Array yf} (h:au O.ai fq S w [a,b] args.toList):∃u v,args=#[u,v]/\aj O.ai fq S w a u/\aj O.ai fq S w b v:=by
 simp only [au] at h
 grind
def adZ {S:Nat->Prop} {w:yi} {a b c:AV} {args:Array yf} (h:au O.ai fq S w [a,b,c] args.toList):∃u v x,args=#[u,v,x]/\aj O.ai fq S w a u/\aj O.ai fq S w b v/\aj O.ai fq S w c x:=by
 simp only [au] at h
 grind
def HA {S:Nat->Prop} {w:yi} {s:List Nat} {l:List UInt8} (h:l.map yY=s):aj O.ai fq S w (.str s) (.string ⟨l.toArray⟩):=by
 simp only [aj];exact ⟨_,rfl,h⟩
def toNat_inj {a b:UInt8}:yu a.toNat b.toNat=(a==b):=by
 by_cases h:a=b
 ·simp_all
 ·have h':a.toNat≠b.toNat:=fun e=>h (UInt8.toNat_inj.1 e)
  have e:(a==b)=false:=by simp_all
  rw [e]
  cases hq:yu a.toNat b.toNat with
  | false=>rfl
  | true=>exact absurd (yp hq) h'
def HN:∀(p s:List UInt8),gR (p.map yY) (s.map yY)=p.isPrefixOf s
 | [],s=>by cases s<;>rfl
 | a::p,[]=>rfl
 | a::p,b::s=>by
  simp only [yU,gR,List.isPrefixOf,HN p s,toNat_inj]
def YJ:∀(s sep:List UInt8) (k:Nat),mq (sep.map yY) (s.map yY) k=if 0<=Lib.index s sep then some (k+(Lib.index s sep).toNat) else none
 | [],sep,k=>by
  simp only [List.map_nil,mq,Lib.index]
  cases sep with
  | nil=>simp [gR]
  | cons a r=>simp [gR]
 | b::s,sep,k=>by
  have ih:=YJ s sep (k+1);have hp:=HN sep (b::s);simp only [yU,mq,hp,Lib.index]
  grind
def aaq (b:UInt8):∀cs:List UInt8,Fb b.toNat (cs.map yY)=cs.contains b
 | []=>rfl
 | c::cs=>by
  simp only [yU,Fb,aaq b cs,List.contains_cons,toNat_inj]
  grind
def Ri (cs:List UInt8):∀l:List UInt8,kR (cs.map yY) (l.map yY)=(l.dropWhile (cs.contains ·)).map yY
 | []=>rfl
 | b::l=>by
  simp only [yU,kR,aaq,List.dropWhile_cons,Ri cs l]
  grind
def aar (l:List UInt8):∀n,ib (l.map yY) n=(Lib.repeatL l n).map yY
 | 0=>rfl
 | n+1=>by simp only [ib,Lib.repeatL,xC,aar l n]
def Yd:∀(f n:Nat) (acc:List Nat),n<f->mS f n acc=(Lib.decDigits n).map yY++acc
 | 0,n,acc,h=>by omega
 | f+1,n,acc,h=>by
  rw [mS,Lib.decDigits];by_cases hn:n<10
  ·rw [show yK n 10=true from yv hn,ym,dif_pos hn]
   have:(yaC (48+n)).toNat=48+n:=by
    rw [tB];omega
   grind
  ·have hb:yK n 10=false:=by
    cases hq:yK n 10 with
    | false=>rfl
    | true=>exact absurd (yy hq) (by omega)
   rw [hb,yA,dif_neg hn,Yd f (n/10) _ (by omega),xC,List.append_assoc]
   have:(yaC (48+n%10)).toNat=48+n%10:=by
    rw [tB];omega
   grind
def RR (n:Nat):aw n=(Lib.decDigits n).map yY:=by
 rw [aw,Yd (n+1) n [] (by omega),List.append_nil]
def amC (n:Int):bh n=(Lib.itoa n).map yY:=by
 cases n with
 | ofNat k=>
  have:¬yag k<0:=by simp
  simp only [bh,Lib.itoa,this,yO,RR];rfl
 | negSucc k=>
  have:Int.negSucc k<0:=Int.negSucc_lt_zero k
  simp only [bh,Lib.itoa,this,y5,RR,yU];rfl
def RS:∀f x:Nat,eS f x=Lib.bitLenAux f x
 | 0,_=>rfl
 | f+1,x=>by
  rw [eS,Lib.bitLenAux];by_cases h:x=0
  ·simp_all
  ·have hb:yu x 0=false:=by
    cases hq:yu x 0 with
    | false=>rfl
    | true=>exact absurd (yp hq) h
   rw [hb,yA,yB h,RS f]
def YK:∀{cs:List UInt8},Ez (cs.map yY)=true->∀(j:Nat) b,cs[j]? =some b->b.toNat<128
 | [],_,j,b,h=>by simp at h
 | c::cs,h,j,b,hb=>by
  simp only [yU,Ez,yg] at h
  cases j with
  | zero=>
   simp_all
  | succ j=>exact YK h.2 j b (by simpa using hb)
def oM {a b:Nat} (h:yK a b=true):a<b:=by simp_all
def aas:∀{l:List UInt8} {a z:Nat},cW (l.map yY) a=some z->Lib.decFrom a l=some z
 | [],a,z,h=>h
 | b::l,a,z,h=>by
  simp only [yU,cW] at h
  cases hb:(yG 48 b.toNat&&yG b.toNat 57) with
  | false=>rw [hb] at h;cases h
  | true=>
   rw [hb] at h;simp only [yg] at hb;have h1:=yy hb.1;have h2:=yy hb.2
   have:=aas h
   rw [Lib.decFrom,Lib.digitVal,yI ⟨h1,h2⟩]
   grind
def amD {l:List UInt8} {z:Nat} (h:cW (l.map yY) 0=some z) (h0:0<l.length):Lib.atoi l=some (z:Int):=by
 cases l with
 | nil=>simp at h0
 | cons b r=>
  have hd:=aas h;have hb:48<=b.toNat:=by
   simp only [yU,cW] at h
   cases hb:(yG 48 b.toNat&&yG b.toNat 57) with
   | false=>rw [hb] at h;cases h
   | true=>
    simp_all
  have h1:(b==45)=false:=by
   have:b≠45:=fun e=>by subst e;exact absurd hb (by decide)
   grind
  have h2:(b==43)=false:=by
   have:b≠43:=fun e=>by subst e;exact absurd hb (by decide)
   grind
  simp only [Lib.atoi,h1,h2,yD,yO,Lib.decNat,List.isEmpty_cons,hd,Option.map_some]
section
variable {f:FuncId}
def aio (hf:O.ai n=f) (fW:∀args w,(callFunc f args).run O.P w= .ok (.enter f args) w)
  (hc:∀(s p:ByteArray) (w:yi),xL O.P f #[.string s,.string p] w fun e w'=>e= .returned (.tuple #[.string ⟨(Lib.trimPrefix s.data.toList p.data.toList).toArray⟩,.bool (Lib.hasPrefix s.data.toList p.data.toList)])/\w'=w):
  ∀vals r,LR vals=some r->eX O n vals r:=by
 intro vals r h;unfold LR at h
 split at h
 ·rename_i s p;simp only [yc] at h;subst h;refine oD ?_ (by rw [hf];exact fW) ?_
  ·cases gR p s<;>exact En (by simp [aR])
  ·intro w S args hg eY;obtain ⟨u,v,rfl,h1,h2⟩:=Bh eY;obtain ⟨t1,rfl,rfl⟩:=h1;obtain ⟨t2,rfl,rfl⟩:=h2;rw [hf];refine (hc t1 t2 w).mono ?_;rintro e w' ⟨rfl,rfl⟩;refine ⟨_,rfl,Calm.refl,fun S=>?_⟩;rw [HN,xu];unfold Lib.trimPrefix Lib.hasPrefix
   cases hp:t2.data.toList.isPrefixOf t1.data.toList with
   | true=>
    simp only [ym,y5,aj,au]
    simp_all
   | false=>
    simp only [yA,yD,yO,aj,au]
    grind
 ·cases h
def aip (hf:O.ai n=f) (fW:∀args w,(callFunc f args).run O.P w= .ok (.enter f args) w)
  (hc:∀(s p:ByteArray) (w:yi),xL O.P f #[.string s,.string p] w fun e w'=>e= .returned (.bool (Lib.hasPrefix s.data.toList p.data.toList))/\w'=w):
  ∀vals r,LS vals=some r->eX O n vals r:=by
 intro vals r h;unfold LS at h
 split at h
 ·rename_i s p;simp only [yc] at h;subst h;refine oD amB (by rw [hf];exact fW) ?_
  intro w S args hg eY;obtain ⟨u,v,rfl,h1,h2⟩:=Bh eY;obtain ⟨t1,rfl,rfl⟩:=h1;obtain ⟨t2,rfl,rfl⟩:=h2;rw [hf];refine (hc t1 t2 w).mono ?_;rintro e w' ⟨rfl,rfl⟩;refine ⟨_,rfl,Calm.refl,fun S=>?_⟩;rw [HN];simp only [aj,Lib.hasPrefix]
 ·cases h
def aij (hf:O.ai n=f) (fW:∀args w,(callFunc f args).run O.P w= .ok (.enter f args) w)
  (hc:∀(s p:ByteArray) (w:yi),xL O.P f #[.string s,.string p] w fun e w'=>e= .returned (.string ⟨(Lib.trimPrefix s.data.toList p.data.toList).toArray⟩)/\w'=w):
  ∀vals r,LB vals=some r->eX O n vals r:=by
 intro vals r h;unfold LB at h
 split at h
 ·rename_i s p;simp only [yc] at h;subst h;refine oD Ii (by rw [hf];exact fW) ?_
  intro w S args hg eY;obtain ⟨u,v,rfl,h1,h2⟩:=Bh eY;obtain ⟨t1,rfl,rfl⟩:=h1;obtain ⟨t2,rfl,rfl⟩:=h2;rw [hf];refine (hc t1 t2 w).mono ?_;rintro e w' ⟨rfl,rfl⟩;refine ⟨_,rfl,Calm.refl,fun S=>?_⟩;rw [HN,xu];refine HA ?_;unfold Lib.trimPrefix Lib.hasPrefix
  cases hp:t2.data.toList.isPrefixOf t1.data.toList with
  | true=>simp [List.map_drop]
  | false=>simp
 ·cases h
def aoQ (hf:O.ai n=f) (fW:∀args w,(callFunc f args).run O.P w= .ok (.enter f args) w) {a:Addr} {m:Int} (hm:O.w0.cell? a=some (.int .i64 m))
  (hc:∀(s sep:ByteArray) (w:yi),s.size<4294967281->w.cell? a=some (.int .i64 m)->xL O.P f #[.string s,.string sep] w fun e w'=>e= .returned (.tuple #[.string ⟨(Lib.cut s.data.toList sep.data.toList).1.toArray⟩,.string ⟨(Lib.cut s.data.toList sep.data.toList).2.1.toArray⟩,.bool (Lib.cut s.data.toList sep.data.toList).2.2])/\∃n,w'=w.drewN n):
  ∀vals r,NX vals=some r->eX O n vals r:=by
 intro vals r h;unfold NX at h
 split at h
 ·rename_i s sep
  cases hb:yK s.length 4294967281 with
  | false=>rw [hb] at h;cases h
  | true=>
   rw [hb] at h;have key:∀(q:List UInt8×List UInt8×Bool),(∀t1 t2:ByteArray,t1.data.toList.map yY=s->t2.data.toList.map yY=sep->r= .ap [.str ((Lib.cut t1.data.toList t2.data.toList).1.map yY),.str ((Lib.cut t1.data.toList t2.data.toList).2.1.map yY),.bool (Lib.cut t1.data.toList t2.data.toList).2.2])->
     (∃a b c,r= .ap [.str a,.str b,.bool c])->eX O n [.str s,.str sep] r:=by
    intro q hq aqW;obtain ⟨a',b',c',rfl⟩:=aqW;refine oD (En (by simp [aR])) (by rw [hf];exact fW) ?_
    intro w S args hg eY;obtain ⟨u,v,rfl,h1,h2⟩:=Bh eY;obtain ⟨t1,rfl,e1⟩:=h1;obtain ⟨t2,rfl,e2⟩:=h2;rw [hf];have hl:t1.size<4294967281:=by
     have:=oM hb
     rw [<-e1,xu] at this
     simp_all
    refine (hc t1 t2 w hl (akB hg hm)).mono ?_;rintro e w' ⟨rfl,k,rfl⟩;refine ⟨_,rfl,akA k,fun S=>?_⟩;simp only [aj,au]
    grind
   refine key ([],[],false) ?_ ?_
   ·intro t1 t2 e1 e2;subst e1;subst e2;rw [YJ] at h;unfold Lib.cut;by_cases h0:0<=Lib.index t1.data.toList t2.data.toList
    ·simp_all
    ·grind
   ·grind
 ·cases h
def amE (hf:O.ai n=f) (fW:∀args w,(callFunc f args).run O.P w= .ok (.enter f args) w)
  (hc:∀(s cs:ByteArray) (w:yi),s.size<=9223372036854775807->cs.size<4294967281->(∀(j:Nat) b,cs.data.toList[j]? =some b->b.toNat<128)->xL O.P f #[.string s,.string cs] w fun e w'=>e= .returned (.string ⟨(Lib.trimS s.data.toList cs.data.toList).toArray⟩)/\RowKit.Below w.heap.size w w'):
  ∀vals r,trimS vals=some r->eX O n vals r:=by
 intro vals r h;unfold trimS at h
 split at h
 ·rename_i s cs
  cases hb:(Ez cs&&(yK s.length 4294967281&&yK cs.length 4294967281)) with
  | false=>rw [hb] at h;cases h
  | true=>
   rw [hb] at h;simp only [ym,yc] at h;subst h;simp only [yg] at hb;refine oD Ii (by rw [hf];exact fW) ?_
   intro w S args hg eY;obtain ⟨u,v,rfl,h1,h2⟩:=Bh eY;obtain ⟨t1,rfl,rfl⟩:=h1;obtain ⟨t2,rfl,rfl⟩:=h2;have ni:=oM hb.2.1;have rZ:=oM hb.2.2;rw [xu] at ni rZ;rw [hf];refine (hc t1 t2 w (by rw [Lib.size_eq];omega) (by rw [Lib.size_eq];omega) (YK hb.1)).mono ?_;rintro e w' ⟨rfl,hw⟩;refine ⟨_,rfl,Hz hw,fun S=>HA ?_⟩;simp only [Lib.trimS,Lib.trimLeftS,Lib.trimRightS];rw [<-uR,Ri,<-uR,Ri]
 ·cases h
def ajp (hf:O.ai n=f) (fW:∀args w,(callFunc f args).run O.P w= .ok (.enter f args) w)
  (hc:∀(s:ByteArray) (c:Nat) (w:yi),c<=9223372036854775807->s.size*c<=140737488355328->xL O.P f #[.string s,.int .i64 c] w fun e w'=>e= .returned (.string ⟨(Lib.repeatL s.data.toList c).toArray⟩)/\RowKit.Below w.heap.size w w'):
  ∀vals r,AZ vals=some r->eX O n vals r:=by
 intro vals r h;unfold AZ at h
 split at h
 ·rename_i s c
  cases hb:(yG c 1099511627776&&yG (s.length*c) 1099511627776) with
  | false=>rw [hb] at h;cases h
  | true=>
   rw [hb] at h;simp only [ym,yc] at h;subst h;simp only [yg] at hb;have l1:=yy hb.1;have l2:=yy hb.2;refine oD Ii (by rw [hf];exact fW) ?_
   intro w S args hg eY;obtain ⟨u,v,rfl,h1,h2⟩:=Bh eY;obtain ⟨t1,rfl,rfl⟩:=h1;subst h2;rw [hf];rw [xu] at l2;refine (hc t1 c w (by omega) (by rw [Lib.size_eq];omega)).mono ?_;rintro e w' ⟨rfl,hw⟩;exact ⟨_,rfl,Hz hw,fun S=>HA (aar _ _).symm⟩
 ·cases h
def amF (hf:O.ai n=f) (fW:∀args w,(callFunc f args).run O.P w= .ok (.enter f args) w)
  (hc:∀(z:Int) (w:yi),-9223372036854775808<=z->z<=9223372036854775807->Bc O w->xL O.P f #[.int .i64 z] w fun e w'=>e= .returned (.string ⟨(Lib.itoa z).toArray⟩)/\Calm w w'):
  ∀vals r,Ja vals=some r->eX O n vals r:=by
 intro vals r h;unfold Ja at h
 split at h
 ·rename_i z
  cases hb:Bg z with
  | false=>rw [hb] at h;cases h
  | true=>
   rw [hb] at h;simp only [ym,yc] at h;subst h;have hz: -9223372036854775808<=z/\z<=9223372036854775807:=by
    cases z with
    | ofNat k=>have:=oM hb;show -9223372036854775808<=(k:Int)/\(k:Int)<=9223372036854775807;omega
    | negSucc k=>have:=oM hb;omega
   refine oD Ii (by rw [hf];exact fW) ?_
   intro w S args hg eY;obtain ⟨u,rfl,h1⟩:=No eY;subst h1;rw [hf];refine (hc z w hz.1 hz.2 hg).mono ?_;rintro e w' ⟨rfl,hw⟩;exact ⟨_,rfl,hw,fun S=>HA (amC z).symm⟩
 ·cases h
def aik (hf:O.ai n=f) (fW:∀args w,(callFunc f args).run O.P w= .ok (.enter f args) w)
  (hc:∀(z:Nat) (w:yi),z<18446744073709551616->Bc O w->xL O.P f #[.int .u64 z,.int .i64 10] w fun e w'=>e= .returned (.string ⟨(Lib.decDigits z).toArray⟩)/\Calm w w'):
  ∀vals r,AH vals=some r->eX O n vals r:=by
 intro vals r h;unfold AH at h
 split at h
 ·rename_i z
  cases hb:yK z 18446744073709551616 with
  | false=>rw [hb] at h;cases h
  | true=>
   rw [hb] at h;simp only [ym,yc] at h;subst h;refine oD Ii (by rw [hf];exact fW) ?_
   intro w S args hg eY;obtain ⟨u,v,rfl,h1,h2⟩:=Bh eY;subst h1;subst h2;rw [hf];refine (hc z w (oM hb) hg).mono ?_;rintro e w' ⟨rfl,hw⟩;exact ⟨_,rfl,hw,fun S=>HA (RR z).symm⟩
 ·cases h
def amG (hf:O.ai n=f) (fW:∀args w,(callFunc f args).run O.P w= .ok (.enter f args) w)
  (hc:∀(s:ByteArray) (z:Int) (w:yi),s.size<=18->Lib.atoi s.data.toList=some z->xL O.P f #[.string s] w fun e w'=>e= .returned (.tuple #[.int .i64 z,.nilIface])/\Calm w w'):
  ∀vals r,Jb vals=some r->eX O n vals r:=by
 intro vals r h;unfold Jb at h
 split at h
 ·rename_i s
  cases hb:(yK 0 s.length&&yG s.length 18) with
  | false=>rw [hb] at h;cases h
  | true=>
   rw [hb] at h;simp only [ym] at h;simp only [yg] at hb;have l1:=oM hb.1;have l2:=yy hb.2
   split at h
   ·rename_i z hz;simp only [yc] at h;subst h;refine oD (En (by simp [aR])) (by rw [hf];exact fW) ?_
    intro w S args hg eY;obtain ⟨u,rfl,h1⟩:=No eY;obtain ⟨t1,rfl,rfl⟩:=h1;rw [xu] at l1 l2;have ha:Lib.atoi t1.data.toList=some (z:Int):=amD hz l1;rw [hf];refine (hc t1 z w (by rw [Lib.size_eq];exact l2) ha).mono ?_
    simp only [aj,au]
    grind
   ·cases h
 ·cases h
def akC (hf:O.ai n=f) (fW:∀args w,(callFunc f args).run O.P w= .ok (.enter f args) w)
  (hc:∀(x y:Nat) (w:yi),x<18446744073709551616->y<18446744073709551616->xL O.P f #[.int .u64 x,.int .u64 y] w fun e w'=>e= .returned (.tuple #[.int .u64 ((x*y/18446744073709551616:Nat):Int),.int .u64 ((x*y%18446744073709551616:Nat):Int)])/\w'=w):
  ∀vals r,rq vals=some r->eX O n vals r:=by
 intro vals r h;unfold rq at h
 split at h
 ·rename_i x y
  cases hb:(yK x 18446744073709551616&&yK y 18446744073709551616) with
  | false=>rw [hb] at h;cases h
  | true=>
   rw [hb] at h;simp only [ym,yc] at h;subst h;simp only [yg] at hb;refine oD (En (by simp [aR])) (by rw [hf];exact fW) ?_
   intro w S args hg eY;obtain ⟨u,v,rfl,h1,h2⟩:=Bh eY;subst h1;subst h2;rw [hf];refine (hc x y w (oM hb.1) (oM hb.2)).mono ?_;rintro e w' ⟨rfl,rfl⟩;refine ⟨_,rfl,Calm.refl,fun S=>?_⟩;simp only [aj,au]
   grind
 ·cases h
def akD (hf:O.ai n=f) (fW:∀args w,(callFunc f args).run O.P w= .ok (.enter f args) w)
  (hc:∀(x:Int) (w:yi),0<=x->x<=18446744073709551615->xL O.P f #[.int .u64 x] w fun e w'=>e= .returned (.int .i64 (Lib.bitLen x.toNat:Nat))/\w'=w):
  ∀vals r,Ix vals=some r->eX O n vals r:=by
 intro vals r h;unfold Ix at h
 split at h
 ·rename_i x
  cases hb:yK x 18446744073709551616 with
  | false=>rw [hb] at h;cases h
  | true=>
   rw [hb] at h;simp only [ym,yc] at h;subst h
   have:=oM hb
   refine oD abt (by rw [hf];exact fW) ?_
   intro w S args hg eY;obtain ⟨u,rfl,h1⟩:=No eY;subst h1;rw [hf];refine (hc (yag x) w (tT x) (by show (x:Int)<=_;omega)).mono ?_;rintro e w' ⟨rfl,rfl⟩;refine ⟨_,rfl,Calm.refl,fun S=>?_⟩;rw [RS];rfl
 ·cases h
def amH (hf:O.ai n=f) (fW:∀args w,(callFunc f args).run O.P w= .ok (.enter f args) w)
  (hc:∀(x:Int) (w:yi),0<=x->x<=18446744073709551615->xL O.P f #[.int .u64 x] w fun e w'=>e= .returned (.int .i64 (64-(Lib.bitLen x.toNat:Nat)))/\w'=w):
  ∀vals r,EZ vals=some r->eX O n vals r:=by
 intro vals r h;unfold EZ at h
 split at h
 ·rename_i x
  cases hb:yK x 18446744073709551616 with
  | false=>rw [hb] at h;cases h
  | true=>
   rw [hb] at h;simp only [ym,yc] at h;subst h
   have:=oM hb
   have hle:∀f x,Lib.bitLenAux f x<=f:=by
    intro f
    induction f with
    | zero=>intro x;exact yC _
    | succ f ih=>
     intro x;rw [Lib.bitLenAux]
     grind
   refine oD abt (by rw [hf];exact fW) ?_
   intro w S args hg eY;obtain ⟨u,rfl,h1⟩:=No eY;subst h1;rw [hf];refine (hc (yag x) w (tT x) (by show (x:Int)<=_;omega)).mono ?_;rintro e w' ⟨rfl,rfl⟩;refine ⟨_,rfl,Calm.refl,fun S=>?_⟩;simp only [aj,RS];show Value.int .i64 (64-(Lib.bitLenAux 64 x:Int))=Value.int .i64 ((64-Lib.bitLenAux 64 x:Nat):Int)
   grind
 ·cases h
def akE (hf:O.ai n=f)
  (hc:∀(x y c:Nat) (w:yi),c<=1->(callFunc f #[.int .u64 x,.int .u64 y,.int .u64 c]).run O.P w= .ok (.value (.tuple #[.int .u64 (((x+y+c)%18446744073709551616:Nat):Int),.int .u64 (((x+y+c)/18446744073709551616:Nat):Int)])) w):
  ∀vals r,nE vals=some r->eX O n vals r:=by
 intro vals r h;unfold nE at h
 split at h
 ·rename_i x y c
  cases hb:(yG c 1&&(yK x 18446744073709551616&&yK y 18446744073709551616)) with
  | false=>rw [hb] at h;cases h
  | true=>
   rw [hb] at h;simp only [ym,yc] at h;subst h;simp only [yg] at hb;refine Zx (En (by simp [aR])) ?_;intro w S args eY;obtain ⟨u,v,z,rfl,h1,h2,h3⟩:=adZ eY;subst h1;subst h2;subst h3;rw [hf];refine ⟨_,hc x y c w (yy hb.1),fun S=>?_⟩;simp only [aj,au]
   grind
 ·cases h
def akF (hf:O.ai n=f)
  (hc:∀(x y b:Nat) (w:yi),b<=1->(callFunc f #[.int .u64 x,.int .u64 y,.int .u64 b]).run O.P w= .ok (.value (.tuple #[.int .u64 (((x+18446744073709551616-y-b)%18446744073709551616:Nat):Int),.int .u64 ((if x<y+b then 1 else 0:Nat):Int)])) w):
  ∀vals r,A4 vals=some r->eX O n vals r:=by
 intro vals r h;unfold A4 at h
 split at h
 ·rename_i x y c
  cases hb:(yG c 1&&(yK x 18446744073709551616&&yK y 18446744073709551616)) with
  | false=>rw [hb] at h;cases h
  | true=>
   rw [hb] at h;simp only [ym,yc] at h;subst h;simp only [yg] at hb;have eh:=yy hb.1;have hy:=oM hb.2.2;refine Zx (En (by simp [aR])) ?_;intro w S args eY;obtain ⟨u,v,z,rfl,h1,h2,h3⟩:=adZ eY;subst h1;subst h2;subst h3;rw [hf];refine ⟨_,hc x y c w eh,fun S=>?_⟩;simp only [aj,au];refine ⟨_,rfl,_,_,rfl,?_,_,_,rfl,?_,rfl⟩
   ·grind
   ·congr 1
    by_cases h:x<y+c
    ·have:yG (y+c) x=false:=by
      cases hq:yG (y+c) x with
      | false=>rfl
      | true=>have:=yy hq;omega
     grind
    ·rw [yv (by omega),yB h];rfl
 ·cases h
end
end
end
end VE
