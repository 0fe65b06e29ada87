import Derived.Lib.Index
import Derived.Lib.ItoaNum
import Derived.Lib.Atoi
import Derived.Lib.BitFns
import Derived.Lib.Repeat
import Derived.Lib.SlTrimSet
import Derived.Shelf.Strings.Cut
import Derived.Shelf.Strings.Prefix
import Derived.Shelf.Small.Bits
import Derived.RowKit
import Derived.Test.YtflgmingejdfnaaGreatDoorTaa
import Derived.Test.YtflgmingejdfnaaGreatDoorTag
set_option linter.all false
set_option maxRecDepth 100000
open Bool renaming and_eq_true→ye,false_eq_true→yq
open Go renaming Calls→xx,Value→yd,World→yf
open Int renaming natCast_nonneg→ub,ofNat→tQ
open List renaming length_map→yL,map_append→xm,map_cons→yP,map_reverse→tK
open Nat renaming beq→yk,ble→yy,ble_eq_true_of_le→yt,blt→yA,eq_of_beq_eq_true→yh,le_of_ble_eq_true→yo,le_refl→yC
open Option.some renaming injEq→yb
open UInt8 renaming ofNat→yaq,toNat→yK,toNat_ofNat'→uQ
namespace VE
section
open Go (IntKind)
def lz:List Nat->List Nat->Bool
 | [],_=>true
 | a::x,b::y=>yk a b&&lz x y
 | _::_,[]=>false
def Bb (sub:List Nat):List Nat->Nat->Option Nat
 | [],k=>bif lz sub [] then some k else none
 | b::r,k=>bif lz sub (b::r) then some k else Bb sub r (k+1)
def Fb:List AV->Option AV
 | [.str s,.str sep]=>
  bif yA s.length 4294967281 then
   match Bb sep s 0 with
   | some i=>some (.aw [.str (s.take i),.str (s.drop (i+sep.length)),.bool true])
   | none=>some (.aw [.str s,.str [],.bool false])
  else none
 | _=>none
def Dx:List AV->Option AV
 | [.str s,.str p]=>some (bif lz p s then .aw [.str (s.drop p.length),.bool true] else .aw [.str s,.bool false])
 | _=>none
def Dy:List AV->Option AV
 | [.str s,.str p]=>some (.bool (lz p s))
 | _=>none
def Dk:List AV->Option AV
 | [.str s,.str p]=>some (.str (bif lz p s then s.drop p.length else s))
 | _=>none
def Fc (i:Nat):List Nat->Bool
 | []=>false
 | j::r=>bif yk j i then true else Fc i r
def BI (set:List Nat):List Nat->List Nat
 | []=>[]
 | b::r=>bif Fc b set then BI set r else b::r
def Bc:List Nat->Bool
 | []=>true
 | b::r=>yA b 128&&Bc r
def trimS:List AV->Option AV
 | [.str s,.str set]=>bif Bc set&&(yA s.length 4294967281&&yA set.length 4294967281) then some (.str (BI set (BI set s.reverse).reverse)) else none
 | _=>none
def Fe (s:List Nat):Nat->List Nat
 | 0=>[]
 | n+1=>s++Fe s n
def IC:List AV->Option AV
 | [.str s,.int .i64 (.ofNat n)]=>bif yy n 1099511627776&&yy (s.length*n) 1099511627776 then some (.str (Fe s n)) else none
 | _=>none
def jm:Nat->Nat->List Nat->List Nat
 | 0,_,acc=>acc
 | f+1,n,acc=>bif yA n 10 then (48+n)::acc else jm f (n/10) ((48+n%10)::acc)
def aD (n:Nat):List Nat:=jm (n+1) n []
def bE:Int->List Nat
 | .ofNat n=>aD n
 | .negSucc n=>45::aD (n+1)
def BJ:Int->Bool
 | .ofNat n=>yA n 9223372036854775808
 | .negSucc n=>yA n 9223372036854775808
def EK:List AV->Option AV
 | [.int .i64 n]=>bif BJ n then some (.str (bE n)) else none
 | _=>none
def G4:List AV->Option AV
 | [.int .u64 (.ofNat n),.int .i64 10]=>bif yA n 18446744073709551616 then some (.str (aD n)) else none
 | _=>none
def dT:List Nat->Nat->Option Nat
 | [],a=>some a
 | b::r,a=>bif yy 48 b&&yy b 57 then dT r (10*a+(b-48)) else none
def EL:List AV->Option AV
 | [.str s]=>
  bif yA 0 s.length&&yy s.length 18 then
   match dT s 0 with | some n=>some (.aw [.int .i64 n,.undef]) | none=>none
  else none
 | _=>none
def En:List AV->Option AV
 | [.int .u64 (.ofNat x),.int .u64 (.ofNat y),.int .u64 (.ofNat c)]=>
  bif yy c 1&&(yA x 18446744073709551616&&yA y 18446744073709551616) then some (.aw [.int .u64 ((x+y+c)%18446744073709551616:Nat),.int .u64 ((x+y+c)/18446744073709551616:Nat)]) else none
 | _=>none
def Eo:List AV->Option AV
 | [.int .u64 (.ofNat x),.int .u64 (.ofNat y),.int .u64 (.ofNat c)]=>
  bif yy c 1&&(yA x 18446744073709551616&&yA y 18446744073709551616) then some (.aw [.int .u64 ((x+18446744073709551616*2-y-c)%18446744073709551616:Nat),.int .u64 (bif yy (y+c) x then 0 else 1)]) else none
 | _=>none
def qG:List AV->Option AV
 | [.int .u64 (.ofNat x),.int .u64 (.ofNat y)]=>bif yA x 18446744073709551616&&yA y 18446744073709551616 then some (.aw [.int .u64 (x*y/18446744073709551616:Nat),.int .u64 (x*y%18446744073709551616:Nat)]) else none
 | _=>none
def BY:Nat->Nat->Nat
 | 0,_=>0
 | f+1,n=>bif yk n 0 then 0 else 1+BY f (n/2)
def Ep:List AV->Option AV
 | [.int .u64 (.ofNat x)]=>bif yA x 18446744073709551616 then some (.int .i64 (BY 64 x)) else none
 | _=>none
def EM:List AV->Option AV
 | [.int .u64 (.ofNat x)]=>bif yA x 18446744073709551616 then some (.int .i64 (64-BY 64 x:Nat)) else none
 | _=>none
end
section
open Go
section
variable {O:a8} {n:Nat}
def Dz {w w':yf} (h:RowKit.Below w.heap.size w w'):Calm w w':=⟨h.os,h.tape,h.output,h.size,h.block⟩
def Y7 {w:yf} (k:Nat):Calm w (w.drewN k):=⟨rfl,rfl,rfl,yC _,fun _ _=>rfl⟩
def Y8 {w:yf} (h:oS O w) {a:Addr} {v:yd} (hc:O.w0.cell? a=some v):w.cell? a=some v:=by
 have hb:a.block<O.w0.heap.size:=by
  unfold World.cell? at hc
  cases hq:O.w0.heap[a.block]? with
  | none=>simp [hq] at hc
  | some o=>exact (Array.getElem?_eq_some_iff.1 hq).1
 unfold World.cell? at hc ⊢;rw [h.1 _ hb];exact hc
def km {ap:List AV} {r:AV} (hr:∀S w' lo u,af O.ae dJ S w' r u->jQ O.ae S w' lo r u)
  (ef:∀args w,(callFunc (O.ae n) args).run O.P w= .ok (.enter (O.ae n) args) w)
  (h:∀w S args,oS O w->an O.ae dJ S w ap args.toList->xx O.P (O.ae n) args w fun e w'=>∃u,e= .returned u/\Calm w w'/\∀S,af O.ae dJ S w' r u):dQ O n ap r:=by
 intro w S args hg hS dD _;refine .inl ⟨ef args w,Go.callsIn_wide.2 ((h w S args hg dD).mono ?_)⟩;rintro e w' ⟨u,rfl,hc,hu⟩;exact ⟨u,S,rfl,hc,fun _ h=>h,fun _ h=> .inl h,fun b hb=>Nat.lt_of_lt_of_le (hS b hb) hc.size,hr S w' _ u (hu S)⟩
def Nz {ap:List AV} {r:AV} (hr:∀S w' lo u,af O.ae dJ S w' r u->jQ O.ae S w' lo r u)
  (h:∀w S args,an O.ae dJ S w ap args.toList->∃u,(callFunc (O.ae n) args).run O.P w= .ok (.value u) w/\∀S,af O.ae dJ S w r u):dQ O n ap r:=by
 intro w S args _ hS dD _;obtain ⟨u,h1,h2⟩:=h w S args dD;exact .inr ⟨u,w,h1,u,S,rfl,Calm.refl,fun _ h=>h,fun _ h=> .inl h,hS,hr S w _ u (h2 S)⟩
def A4 {s:List Nat}:∀S w' lo u,af O.ae dJ S w' (.str s) u->jQ O.ae S w' lo (.str s) u:=fun S w' lo u h=>⟨[],rfl,h,rfl⟩
def Pc {k:IntKind} {z:Int}:∀S w' lo u,af O.ae dJ S w' (.int k z) u->jQ O.ae S w' lo (.int k z) u:=fun S w' lo u h=>⟨[],rfl,h,rfl⟩
def aaR {b:Bool}:∀S w' lo u,af O.ae dJ S w' (.bool b) u->jQ O.ae S w' lo (.bool b) u:=fun S w' lo u h=>⟨[],rfl,h,rfl⟩
def MD {S:Nat->Prop} {w':yf} {lo:Nat}:∀{vs:List AV} {us:List yd},(∀v,v∈vs->(∀ex sz k cs,v≠.bX ex sz k cs)/\aI v=true)->an O.ae dJ S w' vs us->iv O.ae S w' lo vs us []
 | [],us,_,h=>by simp only [an] at h;exact ⟨h,rfl⟩
 | v::vs,us,hv,h=>by
  simp only [an] at h;obtain ⟨u,t,rfl,h1,h2⟩:=h;have h3:=hv v (by simp);refine ⟨u,t,[],[],rfl,rfl,?_,MD (fun v hm=>hv v (by simp [hm])) h2⟩;cases v<;>first | exact ⟨rfl,h1,h3.2⟩ | exact absurd rfl (h3.1 _ _ _ _)
def sP {vs:List AV} (hv:∀v,v∈vs->(∀ex sz k cs,v≠.bX ex sz k cs)/\aI v=true):∀S w' lo u,af O.ae dJ S w' (.aw vs) u->jQ O.ae S w' lo (.aw vs) u:=by
 intro S w' lo u h;obtain ⟨xs,rfl,h⟩:=h;exact ⟨xs,[],rfl,MD hv h,by simp⟩
def EN {S:Nat->Prop} {w:yf} {a:AV} {args:Array yd} (h:an O.ae dJ S w [a] args.toList):∃u,args=#[u]/\af O.ae dJ S w a u:=by
 simp only [an] at h
 grind
def oT {S:Nat->Prop} {w:yf} {a b:AV} {args:Array yd} (h:an O.ae dJ S w [a,b] args.toList):∃u v,args=#[u,v]/\af O.ae dJ S w a u/\af O.ae dJ S w b v:=by
 simp only [an] at h
 grind
def RL {S:Nat->Prop} {w:yf} {a b c:AV} {args:Array yd} (h:an O.ae dJ S w [a,b,c] args.toList):∃u v x,args=#[u,v,x]/\af O.ae dJ S w a u/\af O.ae dJ S w b v/\af O.ae dJ S w c x:=by
 simp only [an] at h
 grind
def AG {S:Nat->Prop} {w:yf} {s:List Nat} {l:List UInt8} (h:l.map yK=s):af O.ae dJ S w (.str s) (.string ⟨l.toArray⟩):=by
 simp only [af];exact ⟨_,rfl,h⟩
def toNat_inj {a b:UInt8}:yk a.toNat b.toNat=(a==b):=by
 by_cases h:a=b
 ·simp_all
 ·have h':a.toNat≠b.toNat:=fun e=>h (UInt8.toNat_inj.1 e)
  have e:(a==b)=false:=by simp_all
  rw [e]
  cases hq:yk a.toNat b.toNat with
  | false=>rfl
  | true=>exact absurd (yh hq) h'
def AQ:∀(p s:List UInt8),lz (p.map yK) (s.map yK)=p.isPrefixOf s
 | [],s=>by cases s<;>rfl
 | a::p,[]=>rfl
 | a::p,b::s=>by
  simp only [yP,lz,List.isPrefixOf,AQ p s,toNat_inj]
def ME:∀(s sep:List UInt8) (k:Nat),Bb (sep.map yK) (s.map yK) k=if 0<=Lib.index s sep then some (k+(Lib.index s sep).toNat) else none
 | [],sep,k=>by
  simp only [List.map_nil,Bb,Lib.index]
  cases sep with
  | nil=>simp [lz]
  | cons a r=>simp [lz]
 | b::s,sep,k=>by
  have ih:=ME s sep (k+1);have hp:=AQ sep (b::s);simp only [yP,Bb,hp,Lib.index]
  grind
def Of (b:UInt8):∀cs:List UInt8,Fc b.toNat (cs.map yK)=cs.contains b
 | []=>rfl
 | c::cs=>by
  simp only [yP,Fc,Of b cs,List.contains_cons,toNat_inj]
  grind
def HB (cs:List UInt8):∀l:List UInt8,BI (cs.map yK) (l.map yK)=(l.dropWhile (cs.contains ·)).map yK
 | []=>rfl
 | b::l=>by
  simp only [yP,BI,Of,List.dropWhile_cons,HB cs l]
  grind
def Og (l:List UInt8):∀n,Fe (l.map yK) n=(Lib.repeatL l n).map yK
 | 0=>rfl
 | n+1=>by simp only [Fe,Lib.repeatL,xm,Og l n]
def Ma:∀(f n:Nat) (acc:List Nat),n<f->jm f n acc=(Lib.decDigits n).map yK++acc
 | 0,n,acc,h=>by omega
 | f+1,n,acc,h=>by
  rw [jm,Lib.decDigits];by_cases hn:n<10
  ·rw [show yA n 10=true from yt hn,yi,dif_pos hn]
   have:(yaq (48+n)).toNat=48+n:=by
    rw [uQ];omega
   grind
  ·have hb:yA n 10=false:=by
    cases hq:yA n 10 with
    | false=>rfl
    | true=>exact absurd (yo hq) (by omega)
   rw [hb,yr,dif_neg hn,Ma f (n/10) _ (by omega),xm,List.append_assoc]
   have:(yaq (48+n%10)).toNat=48+n%10:=by
    rw [uQ];omega
   grind
def H7 (n:Nat):aD n=(Lib.decDigits n).map yK:=by
 rw [aD,Ma (n+1) n [] (by omega),List.append_nil]
def aaS (n:Int):bE n=(Lib.itoa n).map yK:=by
 cases n with
 | ofNat k=>
  have:¬tQ k<0:=by simp
  simp only [bE,Lib.itoa,this,yM,H7];rfl
 | negSucc k=>
  have:Int.negSucc k<0:=Int.negSucc_lt_zero k
  simp only [bE,Lib.itoa,this,yR,H7,yP];rfl
def H8:∀f x:Nat,BY f x=Lib.bitLenAux f x
 | 0,_=>rfl
 | f+1,x=>by
  rw [BY,Lib.bitLenAux];by_cases h:x=0
  ·simp_all
  ·have hb:yk x 0=false:=by
    cases hq:yk x 0 with
    | false=>rfl
    | true=>exact absurd (yh hq) h
   rw [hb,yr,yE h,H8 f]
def MF:∀{cs:List UInt8},Bc (cs.map yK)=true->∀(j:Nat) b,cs[j]? =some b->b.toNat<128
 | [],_,j,b,h=>by simp at h
 | c::cs,h,j,b,hb=>by
  simp only [yP,Bc,ye] at h
  cases j with
  | zero=>
   simp_all
  | succ j=>exact MF h.2 j b (by simpa using hb)
def ky {a b:Nat} (h:yA a b=true):a<b:=by simp_all
def Oh:∀{l:List UInt8} {a z:Nat},dT (l.map yK) a=some z->Lib.decFrom a l=some z
 | [],a,z,h=>h
 | b::l,a,z,h=>by
  simp only [yP,dT] at h
  cases hb:(yy 48 b.toNat&&yy b.toNat 57) with
  | false=>rw [hb] at h;cases h
  | true=>
   rw [hb] at h;simp only [ye] at hb;have h1:=yo hb.1;have h2:=yo hb.2
   have:=Oh h
   rw [Lib.decFrom,Lib.digitVal,yS ⟨h1,h2⟩]
   grind
def aaT {l:List UInt8} {z:Nat} (h:dT (l.map yK) 0=some z) (h0:0<l.length):Lib.atoi l=some (z:Int):=by
 cases l with
 | nil=>simp at h0
 | cons b r=>
  have hd:=Oh h;have hb:48<=b.toNat:=by
   simp only [yP,dT] at h
   cases hb:(yy 48 b.toNat&&yy b.toNat 57) with
   | false=>rw [hb] at h;cases h
   | true=>
    simp_all
  have h1:(b==45)=false:=by
   have:b≠45:=fun e=>by subst e;exact absurd hb (by decide)
   grind
  have h2:(b==43)=false:=by
   have:b≠43:=fun e=>by subst e;exact absurd hb (by decide)
   grind
  simp only [Lib.atoi,h1,h2,yq,yM,Lib.decNat,List.isEmpty_cons,hd,Option.map_some]
section
variable {f:FuncId}
def Xb (hf:O.ae n=f) (ef:∀args w,(callFunc f args).run O.P w= .ok (.enter f args) w)
  (hc:∀(s p:ByteArray) (w:yf),xx O.P f #[.string s,.string p] w fun e w'=>e= .returned (.tuple #[.string ⟨(Lib.trimPrefix s.data.toList p.data.toList).toArray⟩,.bool (Lib.hasPrefix s.data.toList p.data.toList)])/\w'=w):
  ∀ap r,Dx ap=some r->dQ O n ap r:=by
 intro ap r h;unfold Dx at h
 split at h
 ·rename_i s p;simp only [yb] at h;subst h;refine km ?_ (by rw [hf];exact ef) ?_
  ·cases lz p s<;>exact sP (by simp [aI])
  ·intro w S args hg dD;obtain ⟨u,v,rfl,h1,h2⟩:=oT dD;obtain ⟨t1,rfl,rfl⟩:=h1;obtain ⟨t2,rfl,rfl⟩:=h2;rw [hf];refine (hc t1 t2 w).mono ?_;rintro e w' ⟨rfl,rfl⟩;refine ⟨_,rfl,Calm.refl,fun S=>?_⟩;rw [AQ,yL];unfold Lib.trimPrefix Lib.hasPrefix
   cases hp:t2.data.toList.isPrefixOf t1.data.toList with
   | true=>
    simp only [yi,yR,af,an]
    simp_all
   | false=>
    simp only [yr,yq,yM,af,an]
    grind
 ·cases h
def Xc (hf:O.ae n=f) (ef:∀args w,(callFunc f args).run O.P w= .ok (.enter f args) w)
  (hc:∀(s p:ByteArray) (w:yf),xx O.P f #[.string s,.string p] w fun e w'=>e= .returned (.bool (Lib.hasPrefix s.data.toList p.data.toList))/\w'=w):
  ∀ap r,Dy ap=some r->dQ O n ap r:=by
 intro ap r h;unfold Dy at h
 split at h
 ·rename_i s p;simp only [yb] at h;subst h;refine km aaR (by rw [hf];exact ef) ?_
  intro w S args hg dD;obtain ⟨u,v,rfl,h1,h2⟩:=oT dD;obtain ⟨t1,rfl,rfl⟩:=h1;obtain ⟨t2,rfl,rfl⟩:=h2;rw [hf];refine (hc t1 t2 w).mono ?_;rintro e w' ⟨rfl,rfl⟩;refine ⟨_,rfl,Calm.refl,fun S=>?_⟩;rw [AQ];simp only [af,Lib.hasPrefix]
 ·cases h
def W7 (hf:O.ae n=f) (ef:∀args w,(callFunc f args).run O.P w= .ok (.enter f args) w)
  (hc:∀(s p:ByteArray) (w:yf),xx O.P f #[.string s,.string p] w fun e w'=>e= .returned (.string ⟨(Lib.trimPrefix s.data.toList p.data.toList).toArray⟩)/\w'=w):
  ∀ap r,Dk ap=some r->dQ O n ap r:=by
 intro ap r h;unfold Dk at h
 split at h
 ·rename_i s p;simp only [yb] at h;subst h;refine km A4 (by rw [hf];exact ef) ?_
  intro w S args hg dD;obtain ⟨u,v,rfl,h1,h2⟩:=oT dD;obtain ⟨t1,rfl,rfl⟩:=h1;obtain ⟨t2,rfl,rfl⟩:=h2;rw [hf];refine (hc t1 t2 w).mono ?_;rintro e w' ⟨rfl,rfl⟩;refine ⟨_,rfl,Calm.refl,fun S=>?_⟩;rw [AQ,yL];refine AG ?_;unfold Lib.trimPrefix Lib.hasPrefix
  cases hp:t2.data.toList.isPrefixOf t1.data.toList with
  | true=>simp [List.map_drop]
  | false=>simp
 ·cases h
def acT (hf:O.ae n=f) (ef:∀args w,(callFunc f args).run O.P w= .ok (.enter f args) w) {a:Addr} {m:Int} (hm:O.w0.cell? a=some (.int .i64 m))
  (hc:∀(s sep:ByteArray) (w:yf),s.size<4294967281->w.cell? a=some (.int .i64 m)->xx O.P f #[.string s,.string sep] w fun e w'=>e= .returned (.tuple #[.string ⟨(Lib.cut s.data.toList sep.data.toList).1.toArray⟩,.string ⟨(Lib.cut s.data.toList sep.data.toList).2.1.toArray⟩,.bool (Lib.cut s.data.toList sep.data.toList).2.2])/\∃n,w'=w.drewN n):
  ∀ap r,Fb ap=some r->dQ O n ap r:=by
 intro ap r h;unfold Fb at h
 split at h
 ·rename_i s sep
  cases hb:yA s.length 4294967281 with
  | false=>rw [hb] at h;cases h
  | true=>
   rw [hb] at h;have key:∀(q:List UInt8×List UInt8×Bool),(∀t1 t2:ByteArray,t1.data.toList.map yK=s->t2.data.toList.map yK=sep->r= .aw [.str ((Lib.cut t1.data.toList t2.data.toList).1.map yK),.str ((Lib.cut t1.data.toList t2.data.toList).2.1.map yK),.bool (Lib.cut t1.data.toList t2.data.toList).2.2])->
     (∃a b c,r= .aw [.str a,.str b,.bool c])->dQ O n [.str s,.str sep] r:=by
    intro q hq ae0;obtain ⟨a',b',c',rfl⟩:=ae0;refine km (sP (by simp [aI])) (by rw [hf];exact ef) ?_
    intro w S args hg dD;obtain ⟨u,v,rfl,h1,h2⟩:=oT dD;obtain ⟨t1,rfl,e1⟩:=h1;obtain ⟨t2,rfl,e2⟩:=h2;rw [hf];have hl:t1.size<4294967281:=by
     have:=ky hb
     rw [<-e1,yL] at this
     simp_all
    refine (hc t1 t2 w hl (Y8 hg hm)).mono ?_;rintro e w' ⟨rfl,k,rfl⟩;refine ⟨_,rfl,Y7 k,fun S=>?_⟩;simp only [af,an]
    grind
   refine key ([],[],false) ?_ ?_
   ·intro t1 t2 e1 e2;subst e1;subst e2;rw [ME] at h;unfold Lib.cut;by_cases h0:0<=Lib.index t1.data.toList t2.data.toList
    ·simp_all
    ·grind
   ·grind
 ·cases h
def aaU (hf:O.ae n=f) (ef:∀args w,(callFunc f args).run O.P w= .ok (.enter f args) w)
  (hc:∀(s cs:ByteArray) (w:yf),s.size<=9223372036854775807->cs.size<4294967281->(∀(j:Nat) b,cs.data.toList[j]? =some b->b.toNat<128)->xx O.P f #[.string s,.string cs] w fun e w'=>e= .returned (.string ⟨(Lib.trimS s.data.toList cs.data.toList).toArray⟩)/\RowKit.Below w.heap.size w w'):
  ∀ap r,trimS ap=some r->dQ O n ap r:=by
 intro ap r h;unfold trimS at h
 split at h
 ·rename_i s cs
  cases hb:(Bc cs&&(yA s.length 4294967281&&yA cs.length 4294967281)) with
  | false=>rw [hb] at h;cases h
  | true=>
   rw [hb] at h;simp only [yi,yb] at h;subst h;simp only [ye] at hb;refine km A4 (by rw [hf];exact ef) ?_
   intro w S args hg dD;obtain ⟨u,v,rfl,h1,h2⟩:=oT dD;obtain ⟨t1,rfl,rfl⟩:=h1;obtain ⟨t2,rfl,rfl⟩:=h2;have kP:=ky hb.2.1;have mM:=ky hb.2.2;rw [yL] at kP mM;rw [hf];refine (hc t1 t2 w (by rw [Lib.size_eq];omega) (by rw [Lib.size_eq];omega) (MF hb.1)).mono ?_;rintro e w' ⟨rfl,hw⟩;refine ⟨_,rfl,Dz hw,fun S=>AG ?_⟩;simp only [Lib.trimS,Lib.trimLeftS,Lib.trimRightS];rw [<-tK,HB,<-tK,HB]
 ·cases h
def X9 (hf:O.ae n=f) (ef:∀args w,(callFunc f args).run O.P w= .ok (.enter f args) w)
  (hc:∀(s:ByteArray) (c:Nat) (w:yf),c<=9223372036854775807->s.size*c<=140737488355328->xx O.P f #[.string s,.int .i64 c] w fun e w'=>e= .returned (.string ⟨(Lib.repeatL s.data.toList c).toArray⟩)/\RowKit.Below w.heap.size w w'):
  ∀ap r,IC ap=some r->dQ O n ap r:=by
 intro ap r h;unfold IC at h
 split at h
 ·rename_i s c
  cases hb:(yy c 1099511627776&&yy (s.length*c) 1099511627776) with
  | false=>rw [hb] at h;cases h
  | true=>
   rw [hb] at h;simp only [yi,yb] at h;subst h;simp only [ye] at hb;have l1:=yo hb.1;have l2:=yo hb.2;refine km A4 (by rw [hf];exact ef) ?_
   intro w S args hg dD;obtain ⟨u,v,rfl,h1,h2⟩:=oT dD;obtain ⟨t1,rfl,rfl⟩:=h1;subst h2;rw [hf];rw [yL] at l2;refine (hc t1 c w (by omega) (by rw [Lib.size_eq];omega)).mono ?_;rintro e w' ⟨rfl,hw⟩;exact ⟨_,rfl,Dz hw,fun S=>AG (Og _ _).symm⟩
 ·cases h
def aaV (hf:O.ae n=f) (ef:∀args w,(callFunc f args).run O.P w= .ok (.enter f args) w)
  (hc:∀(z:Int) (w:yf),-9223372036854775808<=z->z<=9223372036854775807->oS O w->xx O.P f #[.int .i64 z] w fun e w'=>e= .returned (.string ⟨(Lib.itoa z).toArray⟩)/\Calm w w'):
  ∀ap r,EK ap=some r->dQ O n ap r:=by
 intro ap r h;unfold EK at h
 split at h
 ·rename_i z
  cases hb:BJ z with
  | false=>rw [hb] at h;cases h
  | true=>
   rw [hb] at h;simp only [yi,yb] at h;subst h;have hz: -9223372036854775808<=z/\z<=9223372036854775807:=by
    cases z with
    | ofNat k=>have:=ky hb;show -9223372036854775808<=(k:Int)/\(k:Int)<=9223372036854775807;omega
    | negSucc k=>have:=ky hb;omega
   refine km A4 (by rw [hf];exact ef) ?_
   intro w S args hg dD;obtain ⟨u,rfl,h1⟩:=EN dD;subst h1;rw [hf];refine (hc z w hz.1 hz.2 hg).mono ?_;rintro e w' ⟨rfl,hw⟩;exact ⟨_,rfl,hw,fun S=>AG (aaS z).symm⟩
 ·cases h
def W8 (hf:O.ae n=f) (ef:∀args w,(callFunc f args).run O.P w= .ok (.enter f args) w)
  (hc:∀(z:Nat) (w:yf),z<18446744073709551616->oS O w->xx O.P f #[.int .u64 z,.int .i64 10] w fun e w'=>e= .returned (.string ⟨(Lib.decDigits z).toArray⟩)/\Calm w w'):
  ∀ap r,G4 ap=some r->dQ O n ap r:=by
 intro ap r h;unfold G4 at h
 split at h
 ·rename_i z
  cases hb:yA z 18446744073709551616 with
  | false=>rw [hb] at h;cases h
  | true=>
   rw [hb] at h;simp only [yi,yb] at h;subst h;refine km A4 (by rw [hf];exact ef) ?_
   intro w S args hg dD;obtain ⟨u,v,rfl,h1,h2⟩:=oT dD;subst h1;subst h2;rw [hf];refine (hc z w (ky hb) hg).mono ?_;rintro e w' ⟨rfl,hw⟩;exact ⟨_,rfl,hw,fun S=>AG (H7 z).symm⟩
 ·cases h
def aaW (hf:O.ae n=f) (ef:∀args w,(callFunc f args).run O.P w= .ok (.enter f args) w)
  (hc:∀(s:ByteArray) (z:Int) (w:yf),s.size<=18->Lib.atoi s.data.toList=some z->xx O.P f #[.string s] w fun e w'=>e= .returned (.tuple #[.int .i64 z,.nilIface])/\Calm w w'):
  ∀ap r,EL ap=some r->dQ O n ap r:=by
 intro ap r h;unfold EL at h
 split at h
 ·rename_i s
  cases hb:(yA 0 s.length&&yy s.length 18) with
  | false=>rw [hb] at h;cases h
  | true=>
   rw [hb] at h;simp only [yi] at h;simp only [ye] at hb;have l1:=ky hb.1;have l2:=yo hb.2
   split at h
   ·rename_i z hz;simp only [yb] at h;subst h;refine km (sP (by simp [aI])) (by rw [hf];exact ef) ?_
    intro w S args hg dD;obtain ⟨u,rfl,h1⟩:=EN dD;obtain ⟨t1,rfl,rfl⟩:=h1;rw [yL] at l1 l2;have ha:Lib.atoi t1.data.toList=some (z:Int):=aaT hz l1;rw [hf];refine (hc t1 z w (by rw [Lib.size_eq];exact l2) ha).mono ?_
    simp only [af,an]
    grind
   ·cases h
 ·cases h
def Y9 (hf:O.ae n=f) (ef:∀args w,(callFunc f args).run O.P w= .ok (.enter f args) w)
  (hc:∀(x y:Nat) (w:yf),x<18446744073709551616->y<18446744073709551616->xx O.P f #[.int .u64 x,.int .u64 y] w fun e w'=>e= .returned (.tuple #[.int .u64 ((x*y/18446744073709551616:Nat):Int),.int .u64 ((x*y%18446744073709551616:Nat):Int)])/\w'=w):
  ∀ap r,qG ap=some r->dQ O n ap r:=by
 intro ap r h;unfold qG at h
 split at h
 ·rename_i x y
  cases hb:(yA x 18446744073709551616&&yA y 18446744073709551616) with
  | false=>rw [hb] at h;cases h
  | true=>
   rw [hb] at h;simp only [yi,yb] at h;subst h;simp only [ye] at hb;refine km (sP (by simp [aI])) (by rw [hf];exact ef) ?_
   intro w S args hg dD;obtain ⟨u,v,rfl,h1,h2⟩:=oT dD;subst h1;subst h2;rw [hf];refine (hc x y w (ky hb.1) (ky hb.2)).mono ?_;rintro e w' ⟨rfl,rfl⟩;refine ⟨_,rfl,Calm.refl,fun S=>?_⟩;simp only [af,an]
   grind
 ·cases h
def Za (hf:O.ae n=f) (ef:∀args w,(callFunc f args).run O.P w= .ok (.enter f args) w)
  (hc:∀(x:Int) (w:yf),0<=x->x<=18446744073709551615->xx O.P f #[.int .u64 x] w fun e w'=>e= .returned (.int .i64 (Lib.bitLen x.toNat:Nat))/\w'=w):
  ∀ap r,Ep ap=some r->dQ O n ap r:=by
 intro ap r h;unfold Ep at h
 split at h
 ·rename_i x
  cases hb:yA x 18446744073709551616 with
  | false=>rw [hb] at h;cases h
  | true=>
   rw [hb] at h;simp only [yi,yb] at h;subst h
   have:=ky hb
   refine km Pc (by rw [hf];exact ef) ?_
   intro w S args hg dD;obtain ⟨u,rfl,h1⟩:=EN dD;subst h1;rw [hf];refine (hc (tQ x) w (ub x) (by show (x:Int)<=_;omega)).mono ?_;rintro e w' ⟨rfl,rfl⟩;refine ⟨_,rfl,Calm.refl,fun S=>?_⟩;rw [H8];rfl
 ·cases h
def aaX (hf:O.ae n=f) (ef:∀args w,(callFunc f args).run O.P w= .ok (.enter f args) w)
  (hc:∀(x:Int) (w:yf),0<=x->x<=18446744073709551615->xx O.P f #[.int .u64 x] w fun e w'=>e= .returned (.int .i64 (64-(Lib.bitLen x.toNat:Nat)))/\w'=w):
  ∀ap r,EM ap=some r->dQ O n ap r:=by
 intro ap r h;unfold EM at h
 split at h
 ·rename_i x
  cases hb:yA x 18446744073709551616 with
  | false=>rw [hb] at h;cases h
  | true=>
   rw [hb] at h;simp only [yi,yb] at h;subst h
   have:=ky hb
   have hle:∀f x,Lib.bitLenAux f x<=f:=by
    intro f
    induction f with
    | zero=>intro x;exact yC _
    | succ f ih=>
     intro x;rw [Lib.bitLenAux]
     grind
   refine km Pc (by rw [hf];exact ef) ?_
   intro w S args hg dD;obtain ⟨u,rfl,h1⟩:=EN dD;subst h1;rw [hf];refine (hc (tQ x) w (ub x) (by show (x:Int)<=_;omega)).mono ?_;rintro e w' ⟨rfl,rfl⟩;refine ⟨_,rfl,Calm.refl,fun S=>?_⟩;simp only [af,H8];show Value.int .i64 (64-(Lib.bitLenAux 64 x:Int))=Value.int .i64 ((64-Lib.bitLenAux 64 x:Nat):Int)
   grind
 ·cases h
def Zb (hf:O.ae n=f)
  (hc:∀(x y c:Nat) (w:yf),c<=1->(callFunc f #[.int .u64 x,.int .u64 y,.int .u64 c]).run O.P w= .ok (.value (.tuple #[.int .u64 (((x+y+c)%18446744073709551616:Nat):Int),.int .u64 (((x+y+c)/18446744073709551616:Nat):Int)])) w):
  ∀ap r,En ap=some r->dQ O n ap r:=by
 intro ap r h;unfold En at h
 split at h
 ·rename_i x y c
  cases hb:(yy c 1&&(yA x 18446744073709551616&&yA y 18446744073709551616)) with
  | false=>rw [hb] at h;cases h
  | true=>
   rw [hb] at h;simp only [yi,yb] at h;subst h;simp only [ye] at hb;refine Nz (sP (by simp [aI])) ?_;intro w S args dD;obtain ⟨u,v,z,rfl,h1,h2,h3⟩:=RL dD;subst h1;subst h2;subst h3;rw [hf];refine ⟨_,hc x y c w (yo hb.1),fun S=>?_⟩;simp only [af,an]
   grind
 ·cases h
def Zc (hf:O.ae n=f)
  (hc:∀(x y b:Nat) (w:yf),b<=1->(callFunc f #[.int .u64 x,.int .u64 y,.int .u64 b]).run O.P w= .ok (.value (.tuple #[.int .u64 (((x+18446744073709551616-y-b)%18446744073709551616:Nat):Int),.int .u64 ((if x<y+b then 1 else 0:Nat):Int)])) w):
  ∀ap r,Eo ap=some r->dQ O n ap r:=by
 intro ap r h;unfold Eo at h
 split at h
 ·rename_i x y c
  cases hb:(yy c 1&&(yA x 18446744073709551616&&yA y 18446744073709551616)) with
  | false=>rw [hb] at h;cases h
  | true=>
   rw [hb] at h;simp only [yi,yb] at h;subst h;simp only [ye] at hb;have fG:=yo hb.1;have hy:=ky hb.2.2;refine Nz (sP (by simp [aI])) ?_;intro w S args dD;obtain ⟨u,v,z,rfl,h1,h2,h3⟩:=RL dD;subst h1;subst h2;subst h3;rw [hf];refine ⟨_,hc x y c w fG,fun S=>?_⟩;simp only [af,an];refine ⟨_,rfl,_,_,rfl,?_,_,_,rfl,?_,rfl⟩
   ·grind
   ·congr 1
    by_cases h:x<y+c
    ·have:yy (y+c) x=false:=by
      cases hq:yy (y+c) x with
      | false=>rfl
      | true=>have:=yo hq;omega
     grind
    ·rw [yt (by omega),yE h];rfl
 ·cases h
end
end
end
end VE
