import Derived.Lib.Index
import Derived.Lib.ItoaNum
import Derived.Lib.Atoi
import Derived.Lib.BitFns
import Derived.Lib.Repeat
import Derived.Lib.SlTrimSet
import Derived.Shelf.Strings.Cut
import Derived.Shelf.Strings.Prefix
import Derived.Shelf.Small.Bits
import Derived.RowKit
import Derived.Test.YtflgmingejdfnaaGreatDoorVaa
import Derived.Test.YtflgmingejdfnaaGreatDoorVag
set_option linter.all false
set_option maxRecDepth 100000
open Bool renaming and_eq_true→yf,false_eq_true→yC
open Go renaming Calls→xL,Value→ye,World→yh
open Int renaming natCast_nonneg→yai,ofNat→yaF
open List renaming length_map→xx,map_append→xq,map_cons→y9,map_reverse→uX
open Nat renaming beq→yr,ble→yE,ble_eq_true_of_le→yu,blt→yG,eq_of_beq_eq_true→yo,le_of_ble_eq_true→yt,le_refl→yD
open Option.some renaming injEq→yc
open UInt8 renaming ofNat→ybe,toNat→yW,toNat_ofNat'→tT
namespace VE
section
open Go (IntKind)
def gB:List Nat->List Nat->Bool
 | [],_=>true
 | a::x,b::y=>yr a b&&gB x y
 | _::_,[]=>false
def mc (sub:List Nat):List Nat->Nat->Option Nat
 | [],k=>bif gB sub [] then some k else none
 | b::r,k=>bif gB sub (b::r) then some k else mc sub r (k+1)
def M0:List AV->Option AV
 | [.str s,.str sep]=>
  bif yG s.length 4294967281 then
   match mc sep s 0 with
   | some i=>some (.aq [.str (s.take i),.str (s.drop (i+sep.length)),.bool true])
   | none=>some (.aq [.str s,.str [],.bool false])
  else none
 | _=>none
def KT:List AV->Option AV
 | [.str s,.str p]=>some (bif gB p s then .aq [.str (s.drop p.length),.bool true] else .aq [.str s,.bool false])
 | _=>none
def KU:List AV->Option AV
 | [.str s,.str p]=>some (.bool (gB p s))
 | _=>none
def KF:List AV->Option AV
 | [.str s,.str p]=>some (.str (bif gB p s then s.drop p.length else s))
 | _=>none
def EK (i:Nat):List Nat->Bool
 | []=>false
 | j::r=>bif yr j i then true else EK i r
def kH (set:List Nat):List Nat->List Nat
 | []=>[]
 | b::r=>bif EK b set then kH set r else b::r
def D7:List Nat->Bool
 | []=>true
 | b::r=>yG b 128&&D7 r
def trimS:List AV->Option AV
 | [.str s,.str set]=>bif D7 set&&(yG s.length 4294967281&&yG set.length 4294967281) then some (.str (kH set (kH set s.reverse).reverse)) else none
 | _=>none
def gO (s:List Nat):Nat->List Nat
 | 0=>[]
 | n+1=>s++gO s n
def AL:List AV->Option AV
 | [.str s,.int .i64 (.ofNat n)]=>bif yE n 1099511627776&&yE (s.length*n) 1099511627776 then some (.str (gO s n)) else none
 | _=>none
def mK:Nat->Nat->List Nat->List Nat
 | 0,_,acc=>acc
 | f+1,n,acc=>bif yG n 10 then (48+n)::acc else mK f (n/10) ((48+n%10)::acc)
def an (n:Nat):List Nat:=mK (n+1) n []
def aW:Int->List Nat
 | .ofNat n=>an n
 | .negSucc n=>45::an (n+1)
def A2:Int->Bool
 | .ofNat n=>yG n 9223372036854775808
 | .negSucc n=>yG n 9223372036854775808
def Iy:List AV->Option AV
 | [.int .i64 n]=>bif A2 n then some (.str (aW n)) else none
 | _=>none
def At:List AV->Option AV
 | [.int .u64 (.ofNat n),.int .i64 10]=>bif yG n 18446744073709551616 then some (.str (an n)) else none
 | _=>none
def cR:List Nat->Nat->Option Nat
 | [],a=>some a
 | b::r,a=>bif yE 48 b&&yE b 57 then cR r (10*a+(b-48)) else none
def Iz:List AV->Option AV
 | [.str s]=>
  bif yG 0 s.length&&yE s.length 18 then
   match cR s 0 with | some n=>some (.aq [.int .i64 n,.undef]) | none=>none
  else none
 | _=>none
def nA:List AV->Option AV
 | [.int .u64 (.ofNat x),.int .u64 (.ofNat y),.int .u64 (.ofNat c)]=>
  bif yE c 1&&(yG x 18446744073709551616&&yG y 18446744073709551616) then some (.aq [.int .u64 ((x+y+c)%18446744073709551616:Nat),.int .u64 ((x+y+c)/18446744073709551616:Nat)]) else none
 | _=>none
def AP:List AV->Option AV
 | [.int .u64 (.ofNat x),.int .u64 (.ofNat y),.int .u64 (.ofNat c)]=>
  bif yE c 1&&(yG x 18446744073709551616&&yG y 18446744073709551616) then some (.aq [.int .u64 ((x+18446744073709551616*2-y-c)%18446744073709551616:Nat),.int .u64 (bif yE (y+c) x then 0 else 1)]) else none
 | _=>none
def q9:List AV->Option AV
 | [.int .u64 (.ofNat x),.int .u64 (.ofNat y)]=>bif yG x 18446744073709551616&&yG y 18446744073709551616 then some (.aq [.int .u64 (x*y/18446744073709551616:Nat),.int .u64 (x*y%18446744073709551616:Nat)]) else none
 | _=>none
def eK:Nat->Nat->Nat
 | 0,_=>0
 | f+1,n=>bif yr n 0 then 0 else 1+eK f (n/2)
def HV:List AV->Option AV
 | [.int .u64 (.ofNat x)]=>bif yG x 18446744073709551616 then some (.int .i64 (eK 64 x)) else none
 | _=>none
def Ey:List AV->Option AV
 | [.int .u64 (.ofNat x)]=>bif yG x 18446744073709551616 then some (.int .i64 (64-eK 64 x:Nat)) else none
 | _=>none
end
section
open Go
section
variable {O:bw} {n:Nat}
def G9 {w w':yh} (h:RowKit.Below w.heap.size w w'):Calm w w':=⟨h.os,h.tape,h.output,h.size,h.block⟩
def ajJ {w:yh} (k:Nat):Calm w (w.drewN k):=⟨rfl,rfl,rfl,yD _,fun _ _=>rfl⟩
def ajK {w:yh} (h:AZ O w) {a:Addr} {v:ye} (hc:O.w0.cell? a=some v):w.cell? a=some v:=by
 have hb:a.block<O.w0.heap.size:=by
  unfold World.cell? at hc
  cases hq:O.w0.heap[a.block]? with
  | none=>simp [hq] at hc
  | some o=>exact (Array.getElem?_eq_some_iff.1 hq).1
 unfold World.cell? at hc ⊢;rw [h.1 _ hb];exact hc
def og {vals:List AV} {r:AV} (hr:∀S w' lo u,aj O.ah eZ S w' r u->nH O.ah S w' lo r u)
  (fI:∀args w,(callFunc (O.ah n) args).run O.P w= .ok (.enter (O.ah n) args) w)
  (h:∀w S args,AZ O w->au O.ah eZ S w vals args.toList->xL O.P (O.ah n) args w fun e w'=>∃u,e= .returned u/\Calm w w'/\∀S,aj O.ah eZ S w' r u):eN O n vals r:=by
 intro w S args hg hS eO _;refine .inl ⟨fI args w,Go.callsIn_wide.2 ((h w S args hg eO).mono ?_)⟩;rintro e w' ⟨u,rfl,hc,hu⟩;exact ⟨u,S,rfl,hc,fun _ h=>h,fun _ h=> .inl h,fun b hb=>Nat.lt_of_lt_of_le (hS b hb) hc.size,hr S w' _ u (hu S)⟩
def YO {vals:List AV} {r:AV} (hr:∀S w' lo u,aj O.ah eZ S w' r u->nH O.ah S w' lo r u)
  (h:∀w S args,au O.ah eZ S w vals args.toList->∃u,(callFunc (O.ah n) args).run O.P w= .ok (.value u) w/\∀S,aj O.ah eZ S w r u):eN O n vals r:=by
 intro w S args _ hS eO _;obtain ⟨u,h1,h2⟩:=h w S args eO;exact .inr ⟨u,w,h1,u,S,rfl,Calm.refl,fun _ h=>h,fun _ h=> .inl h,hS,hr S w _ u (h2 S)⟩
def HK {s:List Nat}:∀S w' lo u,aj O.ah eZ S w' (.str s) u->nH O.ah S w' lo (.str s) u:=fun S w' lo u h=>⟨[],rfl,h,rfl⟩
def aaM {k:IntKind} {z:Int}:∀S w' lo u,aj O.ah eZ S w' (.int k z) u->nH O.ah S w' lo (.int k z) u:=fun S w' lo u h=>⟨[],rfl,h,rfl⟩
def alI {b:Bool}:∀S w' lo u,aj O.ah eZ S w' (.bool b) u->nH O.ah S w' lo (.bool b) u:=fun S w' lo u h=>⟨[],rfl,h,rfl⟩
def XX {S:Nat->Prop} {w':yh} {lo:Nat}:∀{vs:List AV} {us:List ye},(∀v,v∈vs->(∀ex sz k cs,v≠.cG ex sz k cs)/\aS v=true)->au O.ah eZ S w' vs us->kN O.ah S w' lo vs us []
 | [],us,_,h=>by simp only [au] at h;exact ⟨h,rfl⟩
 | v::vs,us,hv,h=>by
  simp only [au] at h;obtain ⟨u,t,rfl,h1,h2⟩:=h;have h3:=hv v (by simp);refine ⟨u,t,[],[],rfl,rfl,?_,XX (fun v hm=>hv v (by simp [hm])) h2⟩;cases v<;>first | exact ⟨rfl,h1,h3.2⟩ | exact absurd rfl (h3.1 _ _ _ _)
def DY {vs:List AV} (hv:∀v,v∈vs->(∀ex sz k cs,v≠.cG ex sz k cs)/\aS v=true):∀S w' lo u,aj O.ah eZ S w' (.aq vs) u->nH O.ah S w' lo (.aq vs) u:=by
 intro S w' lo u h;obtain ⟨xs,rfl,h⟩:=h;exact ⟨xs,[],rfl,XX hv h,by simp⟩
def Mt {S:Nat->Prop} {w:yh} {a:AV} {args:Array ye} (h:au O.ah eZ S w [a] args.toList):∃u,args=#[u]/\aj O.ah eZ S w a u:=by
 simp only [au] at h
 grind
def A3 {S:Nat->Prop} {w:yh} {a b:AV} {args:Array ye} (h:au O.ah eZ S w [a,b] args.toList):∃u v,args=#[u,v]/\aj O.ah eZ S w a u/\aj O.ah eZ S w b v:=by
 simp only [au] at h
 grind
def ado {S:Nat->Prop} {w:yh} {a b c:AV} {args:Array ye} (h:au O.ah eZ S w [a,b,c] args.toList):∃u v x,args=#[u,v,x]/\aj O.ah eZ S w a u/\aj O.ah eZ S w b v/\aj O.ah eZ S w c x:=by
 simp only [au] at h
 grind
def Ha {S:Nat->Prop} {w:yh} {s:List Nat} {l:List UInt8} (h:l.map yW=s):aj O.ah eZ S w (.str s) (.string ⟨l.toArray⟩):=by
 simp only [aj];exact ⟨_,rfl,h⟩
def toNat_inj {a b:UInt8}:yr a.toNat b.toNat=(a==b):=by
 by_cases h:a=b
 ·simp_all
 ·have h':a.toNat≠b.toNat:=fun e=>h (UInt8.toNat_inj.1 e)
  have e:(a==b)=false:=by simp_all
  rw [e]
  cases hq:yr a.toNat b.toNat with
  | false=>rfl
  | true=>exact absurd (yo hq) h'
def Hj:∀(p s:List UInt8),gB (p.map yW) (s.map yW)=p.isPrefixOf s
 | [],s=>by cases s<;>rfl
 | a::p,[]=>rfl
 | a::p,b::s=>by
  simp only [y9,gB,List.isPrefixOf,Hj p s,toNat_inj]
def XY:∀(s sep:List UInt8) (k:Nat),mc (sep.map yW) (s.map yW) k=if 0<=Lib.index s sep then some (k+(Lib.index s sep).toNat) else none
 | [],sep,k=>by
  simp only [List.map_nil,mc,Lib.index]
  cases sep with
  | nil=>simp [gB]
  | cons a r=>simp [gB]
 | b::s,sep,k=>by
  have ih:=XY s sep (k+1);have hp:=Hj sep (b::s);simp only [y9,mc,hp,Lib.index]
  grind
def ZI (b:UInt8):∀cs:List UInt8,EK b.toNat (cs.map yW)=cs.contains b
 | []=>rfl
 | c::cs=>by
  simp only [y9,EK,ZI b cs,List.contains_cons,toNat_inj]
  grind
def P9 (cs:List UInt8):∀l:List UInt8,kH (cs.map yW) (l.map yW)=(l.dropWhile (cs.contains ·)).map yW
 | []=>rfl
 | b::l=>by
  simp only [y9,kH,ZI,List.dropWhile_cons,P9 cs l]
  grind
def ZJ (l:List UInt8):∀n,gO (l.map yW) n=(Lib.repeatL l n).map yW
 | 0=>rfl
 | n+1=>by simp only [gO,Lib.repeatL,xq,ZJ l n]
def Xs:∀(f n:Nat) (acc:List Nat),n<f->mK f n acc=(Lib.decDigits n).map yW++acc
 | 0,n,acc,h=>by omega
 | f+1,n,acc,h=>by
  rw [mK,Lib.decDigits];by_cases hn:n<10
  ·rw [show yG n 10=true from yu hn,ym,dif_pos hn]
   have:(ybe (48+n)).toNat=48+n:=by
    rw [tT];omega
   grind
  ·have hb:yG n 10=false:=by
    cases hq:yG n 10 with
    | false=>rfl
    | true=>exact absurd (yt hq) (by omega)
   rw [hb,yB,dif_neg hn,Xs f (n/10) _ (by omega),xq,List.append_assoc]
   have:(ybe (48+n%10)).toNat=48+n%10:=by
    rw [tT];omega
   grind
def QB (n:Nat):an n=(Lib.decDigits n).map yW:=by
 rw [an,Xs (n+1) n [] (by omega),List.append_nil]
def alJ (n:Int):aW n=(Lib.itoa n).map yW:=by
 cases n with
 | ofNat k=>
  have:¬yaF k<0:=by simp
  simp only [aW,Lib.itoa,this,yR,QB];rfl
 | negSucc k=>
  have:Int.negSucc k<0:=Int.negSucc_lt_zero k
  simp only [aW,Lib.itoa,this,y7,QB,y9];rfl
def QC:∀f x:Nat,eK f x=Lib.bitLenAux f x
 | 0,_=>rfl
 | f+1,x=>by
  rw [eK,Lib.bitLenAux];by_cases h:x=0
  ·simp_all
  ·have hb:yr x 0=false:=by
    cases hq:yr x 0 with
    | false=>rfl
    | true=>exact absurd (yo hq) h
   rw [hb,yB,yz h,QC f]
def XZ:∀{cs:List UInt8},D7 (cs.map yW)=true->∀(j:Nat) b,cs[j]? =some b->b.toNat<128
 | [],_,j,b,h=>by simp at h
 | c::cs,h,j,b,hb=>by
  simp only [y9,D7,yf] at h
  cases j with
  | zero=>
   simp_all
  | succ j=>exact XZ h.2 j b (by simpa using hb)
def oF {a b:Nat} (h:yG a b=true):a<b:=by simp_all
def ZK:∀{l:List UInt8} {a z:Nat},cR (l.map yW) a=some z->Lib.decFrom a l=some z
 | [],a,z,h=>h
 | b::l,a,z,h=>by
  simp only [y9,cR] at h
  cases hb:(yE 48 b.toNat&&yE b.toNat 57) with
  | false=>rw [hb] at h;cases h
  | true=>
   rw [hb] at h;simp only [yf] at hb;have h1:=yt hb.1;have h2:=yt hb.2
   have:=ZK h
   rw [Lib.decFrom,Lib.digitVal,yJ ⟨h1,h2⟩]
   grind
def alK {l:List UInt8} {z:Nat} (h:cR (l.map yW) 0=some z) (h0:0<l.length):Lib.atoi l=some (z:Int):=by
 cases l with
 | nil=>simp at h0
 | cons b r=>
  have hd:=ZK h;have hb:48<=b.toNat:=by
   simp only [y9,cR] at h
   cases hb:(yE 48 b.toNat&&yE b.toNat 57) with
   | false=>rw [hb] at h;cases h
   | true=>
    simp_all
  have h1:(b==45)=false:=by
   have:b≠45:=fun e=>by subst e;exact absurd hb (by decide)
   grind
  have h2:(b==43)=false:=by
   have:b≠43:=fun e=>by subst e;exact absurd hb (by decide)
   grind
  simp only [Lib.atoi,h1,h2,yC,yR,Lib.decNat,List.isEmpty_cons,hd,Option.map_some]
section
variable {f:FuncId}
def ahA (hf:O.ah n=f) (fI:∀args w,(callFunc f args).run O.P w= .ok (.enter f args) w)
  (hc:∀(s p:ByteArray) (w:yh),xL O.P f #[.string s,.string p] w fun e w'=>e= .returned (.tuple #[.string ⟨(Lib.trimPrefix s.data.toList p.data.toList).toArray⟩,.bool (Lib.hasPrefix s.data.toList p.data.toList)])/\w'=w):
  ∀vals r,KT vals=some r->eN O n vals r:=by
 intro vals r h;unfold KT at h
 split at h
 ·rename_i s p;simp only [yc] at h;subst h;refine og ?_ (by rw [hf];exact fI) ?_
  ·cases gB p s<;>exact DY (by simp [aS])
  ·intro w S args hg eO;obtain ⟨u,v,rfl,h1,h2⟩:=A3 eO;obtain ⟨t1,rfl,rfl⟩:=h1;obtain ⟨t2,rfl,rfl⟩:=h2;rw [hf];refine (hc t1 t2 w).mono ?_;rintro e w' ⟨rfl,rfl⟩;refine ⟨_,rfl,Calm.refl,fun S=>?_⟩;rw [Hj,xx];unfold Lib.trimPrefix Lib.hasPrefix
   cases hp:t2.data.toList.isPrefixOf t1.data.toList with
   | true=>
    simp only [ym,y7,aj,au]
    simp_all
   | false=>
    simp only [yB,yC,yR,aj,au]
    grind
 ·cases h
def ahB (hf:O.ah n=f) (fI:∀args w,(callFunc f args).run O.P w= .ok (.enter f args) w)
  (hc:∀(s p:ByteArray) (w:yh),xL O.P f #[.string s,.string p] w fun e w'=>e= .returned (.bool (Lib.hasPrefix s.data.toList p.data.toList))/\w'=w):
  ∀vals r,KU vals=some r->eN O n vals r:=by
 intro vals r h;unfold KU at h
 split at h
 ·rename_i s p;simp only [yc] at h;subst h;refine og alI (by rw [hf];exact fI) ?_
  intro w S args hg eO;obtain ⟨u,v,rfl,h1,h2⟩:=A3 eO;obtain ⟨t1,rfl,rfl⟩:=h1;obtain ⟨t2,rfl,rfl⟩:=h2;rw [hf];refine (hc t1 t2 w).mono ?_;rintro e w' ⟨rfl,rfl⟩;refine ⟨_,rfl,Calm.refl,fun S=>?_⟩;rw [Hj];simp only [aj,Lib.hasPrefix]
 ·cases h
def ahx (hf:O.ah n=f) (fI:∀args w,(callFunc f args).run O.P w= .ok (.enter f args) w)
  (hc:∀(s p:ByteArray) (w:yh),xL O.P f #[.string s,.string p] w fun e w'=>e= .returned (.string ⟨(Lib.trimPrefix s.data.toList p.data.toList).toArray⟩)/\w'=w):
  ∀vals r,KF vals=some r->eN O n vals r:=by
 intro vals r h;unfold KF at h
 split at h
 ·rename_i s p;simp only [yc] at h;subst h;refine og HK (by rw [hf];exact fI) ?_
  intro w S args hg eO;obtain ⟨u,v,rfl,h1,h2⟩:=A3 eO;obtain ⟨t1,rfl,rfl⟩:=h1;obtain ⟨t2,rfl,rfl⟩:=h2;rw [hf];refine (hc t1 t2 w).mono ?_;rintro e w' ⟨rfl,rfl⟩;refine ⟨_,rfl,Calm.refl,fun S=>?_⟩;rw [Hj,xx];refine Ha ?_;unfold Lib.trimPrefix Lib.hasPrefix
  cases hp:t2.data.toList.isPrefixOf t1.data.toList with
  | true=>simp [List.map_drop]
  | false=>simp
 ·cases h
def anW (hf:O.ah n=f) (fI:∀args w,(callFunc f args).run O.P w= .ok (.enter f args) w) {a:Addr} {m:Int} (hm:O.w0.cell? a=some (.int .i64 m))
  (hc:∀(s sep:ByteArray) (w:yh),s.size<4294967281->w.cell? a=some (.int .i64 m)->xL O.P f #[.string s,.string sep] w fun e w'=>e= .returned (.tuple #[.string ⟨(Lib.cut s.data.toList sep.data.toList).1.toArray⟩,.string ⟨(Lib.cut s.data.toList sep.data.toList).2.1.toArray⟩,.bool (Lib.cut s.data.toList sep.data.toList).2.2])/\∃n,w'=w.drewN n):
  ∀vals r,M0 vals=some r->eN O n vals r:=by
 intro vals r h;unfold M0 at h
 split at h
 ·rename_i s sep
  cases hb:yG s.length 4294967281 with
  | false=>rw [hb] at h;cases h
  | true=>
   rw [hb] at h;have key:∀(q:List UInt8×List UInt8×Bool),(∀t1 t2:ByteArray,t1.data.toList.map yW=s->t2.data.toList.map yW=sep->r= .aq [.str ((Lib.cut t1.data.toList t2.data.toList).1.map yW),.str ((Lib.cut t1.data.toList t2.data.toList).2.1.map yW),.bool (Lib.cut t1.data.toList t2.data.toList).2.2])->
     (∃a b c,r= .aq [.str a,.str b,.bool c])->eN O n [.str s,.str sep] r:=by
    intro q hq ap7;obtain ⟨a',b',c',rfl⟩:=ap7;refine og (DY (by simp [aS])) (by rw [hf];exact fI) ?_
    intro w S args hg eO;obtain ⟨u,v,rfl,h1,h2⟩:=A3 eO;obtain ⟨t1,rfl,e1⟩:=h1;obtain ⟨t2,rfl,e2⟩:=h2;rw [hf];have hl:t1.size<4294967281:=by
     have:=oF hb
     rw [<-e1,xx] at this
     simp_all
    refine (hc t1 t2 w hl (ajK hg hm)).mono ?_;rintro e w' ⟨rfl,k,rfl⟩;refine ⟨_,rfl,ajJ k,fun S=>?_⟩;simp only [aj,au]
    grind
   refine key ([],[],false) ?_ ?_
   ·intro t1 t2 e1 e2;subst e1;subst e2;rw [XY] at h;unfold Lib.cut;by_cases h0:0<=Lib.index t1.data.toList t2.data.toList
    ·simp_all
    ·grind
   ·grind
 ·cases h
def alL (hf:O.ah n=f) (fI:∀args w,(callFunc f args).run O.P w= .ok (.enter f args) w)
  (hc:∀(s cs:ByteArray) (w:yh),s.size<=9223372036854775807->cs.size<4294967281->(∀(j:Nat) b,cs.data.toList[j]? =some b->b.toNat<128)->xL O.P f #[.string s,.string cs] w fun e w'=>e= .returned (.string ⟨(Lib.trimS s.data.toList cs.data.toList).toArray⟩)/\RowKit.Below w.heap.size w w'):
  ∀vals r,trimS vals=some r->eN O n vals r:=by
 intro vals r h;unfold trimS at h
 split at h
 ·rename_i s cs
  cases hb:(D7 cs&&(yG s.length 4294967281&&yG cs.length 4294967281)) with
  | false=>rw [hb] at h;cases h
  | true=>
   rw [hb] at h;simp only [ym,yc] at h;subst h;simp only [yf] at hb;refine og HK (by rw [hf];exact fI) ?_
   intro w S args hg eO;obtain ⟨u,v,rfl,h1,h2⟩:=A3 eO;obtain ⟨t1,rfl,rfl⟩:=h1;obtain ⟨t2,rfl,rfl⟩:=h2;have nd:=oF hb.2.1;have rR:=oF hb.2.2;rw [xx] at nd rR;rw [hf];refine (hc t1 t2 w (by rw [Lib.size_eq];omega) (by rw [Lib.size_eq];omega) (XZ hb.1)).mono ?_;rintro e w' ⟨rfl,hw⟩;refine ⟨_,rfl,G9 hw,fun S=>Ha ?_⟩;simp only [Lib.trimS,Lib.trimLeftS,Lib.trimRightS];rw [<-uX,P9,<-uX,P9]
 ·cases h
def aiA (hf:O.ah n=f) (fI:∀args w,(callFunc f args).run O.P w= .ok (.enter f args) w)
  (hc:∀(s:ByteArray) (c:Nat) (w:yh),c<=9223372036854775807->s.size*c<=140737488355328->xL O.P f #[.string s,.int .i64 c] w fun e w'=>e= .returned (.string ⟨(Lib.repeatL s.data.toList c).toArray⟩)/\RowKit.Below w.heap.size w w'):
  ∀vals r,AL vals=some r->eN O n vals r:=by
 intro vals r h;unfold AL at h
 split at h
 ·rename_i s c
  cases hb:(yE c 1099511627776&&yE (s.length*c) 1099511627776) with
  | false=>rw [hb] at h;cases h
  | true=>
   rw [hb] at h;simp only [ym,yc] at h;subst h;simp only [yf] at hb;have l1:=yt hb.1;have l2:=yt hb.2;refine og HK (by rw [hf];exact fI) ?_
   intro w S args hg eO;obtain ⟨u,v,rfl,h1,h2⟩:=A3 eO;obtain ⟨t1,rfl,rfl⟩:=h1;subst h2;rw [hf];rw [xx] at l2;refine (hc t1 c w (by omega) (by rw [Lib.size_eq];omega)).mono ?_;rintro e w' ⟨rfl,hw⟩;exact ⟨_,rfl,G9 hw,fun S=>Ha (ZJ _ _).symm⟩
 ·cases h
def alM (hf:O.ah n=f) (fI:∀args w,(callFunc f args).run O.P w= .ok (.enter f args) w)
  (hc:∀(z:Int) (w:yh),-9223372036854775808<=z->z<=9223372036854775807->AZ O w->xL O.P f #[.int .i64 z] w fun e w'=>e= .returned (.string ⟨(Lib.itoa z).toArray⟩)/\Calm w w'):
  ∀vals r,Iy vals=some r->eN O n vals r:=by
 intro vals r h;unfold Iy at h
 split at h
 ·rename_i z
  cases hb:A2 z with
  | false=>rw [hb] at h;cases h
  | true=>
   rw [hb] at h;simp only [ym,yc] at h;subst h;have hz: -9223372036854775808<=z/\z<=9223372036854775807:=by
    cases z with
    | ofNat k=>have:=oF hb;show -9223372036854775808<=(k:Int)/\(k:Int)<=9223372036854775807;omega
    | negSucc k=>have:=oF hb;omega
   refine og HK (by rw [hf];exact fI) ?_
   intro w S args hg eO;obtain ⟨u,rfl,h1⟩:=Mt eO;subst h1;rw [hf];refine (hc z w hz.1 hz.2 hg).mono ?_;rintro e w' ⟨rfl,hw⟩;exact ⟨_,rfl,hw,fun S=>Ha (alJ z).symm⟩
 ·cases h
def ahy (hf:O.ah n=f) (fI:∀args w,(callFunc f args).run O.P w= .ok (.enter f args) w)
  (hc:∀(z:Nat) (w:yh),z<18446744073709551616->AZ O w->xL O.P f #[.int .u64 z,.int .i64 10] w fun e w'=>e= .returned (.string ⟨(Lib.decDigits z).toArray⟩)/\Calm w w'):
  ∀vals r,At vals=some r->eN O n vals r:=by
 intro vals r h;unfold At at h
 split at h
 ·rename_i z
  cases hb:yG z 18446744073709551616 with
  | false=>rw [hb] at h;cases h
  | true=>
   rw [hb] at h;simp only [ym,yc] at h;subst h;refine og HK (by rw [hf];exact fI) ?_
   intro w S args hg eO;obtain ⟨u,v,rfl,h1,h2⟩:=A3 eO;subst h1;subst h2;rw [hf];refine (hc z w (oF hb) hg).mono ?_;rintro e w' ⟨rfl,hw⟩;exact ⟨_,rfl,hw,fun S=>Ha (QB z).symm⟩
 ·cases h
def alN (hf:O.ah n=f) (fI:∀args w,(callFunc f args).run O.P w= .ok (.enter f args) w)
  (hc:∀(s:ByteArray) (z:Int) (w:yh),s.size<=18->Lib.atoi s.data.toList=some z->xL O.P f #[.string s] w fun e w'=>e= .returned (.tuple #[.int .i64 z,.nilIface])/\Calm w w'):
  ∀vals r,Iz vals=some r->eN O n vals r:=by
 intro vals r h;unfold Iz at h
 split at h
 ·rename_i s
  cases hb:(yG 0 s.length&&yE s.length 18) with
  | false=>rw [hb] at h;cases h
  | true=>
   rw [hb] at h;simp only [ym] at h;simp only [yf] at hb;have l1:=oF hb.1;have l2:=yt hb.2
   split at h
   ·rename_i z hz;simp only [yc] at h;subst h;refine og (DY (by simp [aS])) (by rw [hf];exact fI) ?_
    intro w S args hg eO;obtain ⟨u,rfl,h1⟩:=Mt eO;obtain ⟨t1,rfl,rfl⟩:=h1;rw [xx] at l1 l2;have ha:Lib.atoi t1.data.toList=some (z:Int):=alK hz l1;rw [hf];refine (hc t1 z w (by rw [Lib.size_eq];exact l2) ha).mono ?_
    simp only [aj,au]
    grind
   ·cases h
 ·cases h
def ajL (hf:O.ah n=f) (fI:∀args w,(callFunc f args).run O.P w= .ok (.enter f args) w)
  (hc:∀(x y:Nat) (w:yh),x<18446744073709551616->y<18446744073709551616->xL O.P f #[.int .u64 x,.int .u64 y] w fun e w'=>e= .returned (.tuple #[.int .u64 ((x*y/18446744073709551616:Nat):Int),.int .u64 ((x*y%18446744073709551616:Nat):Int)])/\w'=w):
  ∀vals r,q9 vals=some r->eN O n vals r:=by
 intro vals r h;unfold q9 at h
 split at h
 ·rename_i x y
  cases hb:(yG x 18446744073709551616&&yG y 18446744073709551616) with
  | false=>rw [hb] at h;cases h
  | true=>
   rw [hb] at h;simp only [ym,yc] at h;subst h;simp only [yf] at hb;refine og (DY (by simp [aS])) (by rw [hf];exact fI) ?_
   intro w S args hg eO;obtain ⟨u,v,rfl,h1,h2⟩:=A3 eO;subst h1;subst h2;rw [hf];refine (hc x y w (oF hb.1) (oF hb.2)).mono ?_;rintro e w' ⟨rfl,rfl⟩;refine ⟨_,rfl,Calm.refl,fun S=>?_⟩;simp only [aj,au]
   grind
 ·cases h
def ajM (hf:O.ah n=f) (fI:∀args w,(callFunc f args).run O.P w= .ok (.enter f args) w)
  (hc:∀(x:Int) (w:yh),0<=x->x<=18446744073709551615->xL O.P f #[.int .u64 x] w fun e w'=>e= .returned (.int .i64 (Lib.bitLen x.toNat:Nat))/\w'=w):
  ∀vals r,HV vals=some r->eN O n vals r:=by
 intro vals r h;unfold HV at h
 split at h
 ·rename_i x
  cases hb:yG x 18446744073709551616 with
  | false=>rw [hb] at h;cases h
  | true=>
   rw [hb] at h;simp only [ym,yc] at h;subst h
   have:=oF hb
   refine og aaM (by rw [hf];exact fI) ?_
   intro w S args hg eO;obtain ⟨u,rfl,h1⟩:=Mt eO;subst h1;rw [hf];refine (hc (yaF x) w (yai x) (by show (x:Int)<=_;omega)).mono ?_;rintro e w' ⟨rfl,rfl⟩;refine ⟨_,rfl,Calm.refl,fun S=>?_⟩;rw [QC];rfl
 ·cases h
def alO (hf:O.ah n=f) (fI:∀args w,(callFunc f args).run O.P w= .ok (.enter f args) w)
  (hc:∀(x:Int) (w:yh),0<=x->x<=18446744073709551615->xL O.P f #[.int .u64 x] w fun e w'=>e= .returned (.int .i64 (64-(Lib.bitLen x.toNat:Nat)))/\w'=w):
  ∀vals r,Ey vals=some r->eN O n vals r:=by
 intro vals r h;unfold Ey at h
 split at h
 ·rename_i x
  cases hb:yG x 18446744073709551616 with
  | false=>rw [hb] at h;cases h
  | true=>
   rw [hb] at h;simp only [ym,yc] at h;subst h
   have:=oF hb
   have hle:∀f x,Lib.bitLenAux f x<=f:=by
    intro f
    induction f with
    | zero=>intro x;exact yD _
    | succ f ih=>
     intro x;rw [Lib.bitLenAux]
     grind
   refine og aaM (by rw [hf];exact fI) ?_
   intro w S args hg eO;obtain ⟨u,rfl,h1⟩:=Mt eO;subst h1;rw [hf];refine (hc (yaF x) w (yai x) (by show (x:Int)<=_;omega)).mono ?_;rintro e w' ⟨rfl,rfl⟩;refine ⟨_,rfl,Calm.refl,fun S=>?_⟩;simp only [aj,QC];show Value.int .i64 (64-(Lib.bitLenAux 64 x:Int))=Value.int .i64 ((64-Lib.bitLenAux 64 x:Nat):Int)
   grind
 ·cases h
def ajN (hf:O.ah n=f)
  (hc:∀(x y c:Nat) (w:yh),c<=1->(callFunc f #[.int .u64 x,.int .u64 y,.int .u64 c]).run O.P w= .ok (.value (.tuple #[.int .u64 (((x+y+c)%18446744073709551616:Nat):Int),.int .u64 (((x+y+c)/18446744073709551616:Nat):Int)])) w):
  ∀vals r,nA vals=some r->eN O n vals r:=by
 intro vals r h;unfold nA at h
 split at h
 ·rename_i x y c
  cases hb:(yE c 1&&(yG x 18446744073709551616&&yG y 18446744073709551616)) with
  | false=>rw [hb] at h;cases h
  | true=>
   rw [hb] at h;simp only [ym,yc] at h;subst h;simp only [yf] at hb;refine YO (DY (by simp [aS])) ?_;intro w S args eO;obtain ⟨u,v,z,rfl,h1,h2,h3⟩:=ado eO;subst h1;subst h2;subst h3;rw [hf];refine ⟨_,hc x y c w (yt hb.1),fun S=>?_⟩;simp only [aj,au]
   grind
 ·cases h
def ajO (hf:O.ah n=f)
  (hc:∀(x y b:Nat) (w:yh),b<=1->(callFunc f #[.int .u64 x,.int .u64 y,.int .u64 b]).run O.P w= .ok (.value (.tuple #[.int .u64 (((x+18446744073709551616-y-b)%18446744073709551616:Nat):Int),.int .u64 ((if x<y+b then 1 else 0:Nat):Int)])) w):
  ∀vals r,AP vals=some r->eN O n vals r:=by
 intro vals r h;unfold AP at h
 split at h
 ·rename_i x y c
  cases hb:(yE c 1&&(yG x 18446744073709551616&&yG y 18446744073709551616)) with
  | false=>rw [hb] at h;cases h
  | true=>
   rw [hb] at h;simp only [ym,yc] at h;subst h;simp only [yf] at hb;have ez:=yt hb.1;have hy:=oF hb.2.2;refine YO (DY (by simp [aS])) ?_;intro w S args eO;obtain ⟨u,v,z,rfl,h1,h2,h3⟩:=ado eO;subst h1;subst h2;subst h3;rw [hf];refine ⟨_,hc x y c w ez,fun S=>?_⟩;simp only [aj,au];refine ⟨_,rfl,_,_,rfl,?_,_,_,rfl,?_,rfl⟩
   ·grind
   ·congr 1
    by_cases h:x<y+c
    ·have:yE (y+c) x=false:=by
      cases hq:yE (y+c) x with
      | false=>rfl
      | true=>have:=yt hq;omega
     grind
    ·rw [yu (by omega),yz h];rfl
 ·cases h
end
end
end
end VE
