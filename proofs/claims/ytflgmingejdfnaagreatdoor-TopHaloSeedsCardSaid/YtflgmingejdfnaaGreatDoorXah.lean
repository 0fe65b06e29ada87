import Derived.Lib.Index
import Derived.Lib.ItoaNum
import Derived.Lib.Atoi
import Derived.Lib.BitFns
import Derived.Lib.Repeat
import Derived.Lib.SlTrimSet
import Derived.Shelf.Strings.Cut
import Derived.Shelf.Strings.Prefix
import Derived.Shelf.Small.Bits
import Derived.RowKit
import Derived.Test.YtflgmingejdfnaaGreatDoorXaa
import Derived.Test.YtflgmingejdfnaaGreatDoorXag
set_option linter.all false
set_option maxRecDepth 100000
open Bool renaming and_eq_true→yf,false_eq_true→yt
open Go renaming Calls→xv,Value→ye,World→yg
open Int renaming natCast_nonneg→ug,ofNat→tU
open List renaming length_map→yU,map_append→xG,map_cons→yV,map_reverse→tL
open Nat renaming beq→yq,ble→yA,ble_eq_true_of_le→yv,blt→yB,eq_of_beq_eq_true→yk,le_of_ble_eq_true→yr,le_refl→yC
open Option.some renaming injEq→yb
open UInt8 renaming ofNat→yaj,toNat→yN,toNat_ofNat'→uZ
namespace VE
section
open Go (IntKind)
def lI:List Nat->List Nat->Bool
 | [],_=>true
 | a::x,b::y=>yq a b&&lI x y
 | _::_,[]=>false
def Bg (sub:List Nat):List Nat->Nat->Option Nat
 | [],k=>bif lI sub [] then some k else none
 | b::r,k=>bif lI sub (b::r) then some k else Bg sub r (k+1)
def Ff:List AV->Option AV
 | [.str s,.str sep]=>
  bif yB s.length 4294967281 then
   match Bg sep s 0 with
   | some i=>some (.ay [.str (s.take i),.str (s.drop (i+sep.length)),.bool true])
   | none=>some (.ay [.str s,.str [],.bool false])
  else none
 | _=>none
def Dy:List AV->Option AV
 | [.str s,.str p]=>some (bif lI p s then .ay [.str (s.drop p.length),.bool true] else .ay [.str s,.bool false])
 | _=>none
def Dz:List AV->Option AV
 | [.str s,.str p]=>some (.bool (lI p s))
 | _=>none
def Dm:List AV->Option AV
 | [.str s,.str p]=>some (.str (bif lI p s then s.drop p.length else s))
 | _=>none
def Fg (i:Nat):List Nat->Bool
 | []=>false
 | j::r=>bif yq j i then true else Fg i r
def BM (set:List Nat):List Nat->List Nat
 | []=>[]
 | b::r=>bif Fg b set then BM set r else b::r
def Bh:List Nat->Bool
 | []=>true
 | b::r=>yB b 128&&Bh r
def trimS:List AV->Option AV
 | [.str s,.str set]=>bif Bh set&&(yB s.length 4294967281&&yB set.length 4294967281) then some (.str (BM set (BM set s.reverse).reverse)) else none
 | _=>none
def Fh (s:List Nat):Nat->List Nat
 | 0=>[]
 | n+1=>s++Fh s n
def IA:List AV->Option AV
 | [.str s,.int .i64 (.ofNat n)]=>bif yA n 1099511627776&&yA (s.length*n) 1099511627776 then some (.str (Fh s n)) else none
 | _=>none
def je:Nat->Nat->List Nat->List Nat
 | 0,_,acc=>acc
 | f+1,n,acc=>bif yB n 10 then (48+n)::acc else je f (n/10) ((48+n%10)::acc)
def az (n:Nat):List Nat:=je (n+1) n []
def bz:Int->List Nat
 | .ofNat n=>az n
 | .negSucc n=>45::az (n+1)
def BN:Int->Bool
 | .ofNat n=>yB n 9223372036854775808
 | .negSucc n=>yB n 9223372036854775808
def EI:List AV->Option AV
 | [.int .i64 n]=>bif BN n then some (.str (bz n)) else none
 | _=>none
def GX:List AV->Option AV
 | [.int .u64 (.ofNat n),.int .i64 10]=>bif yB n 18446744073709551616 then some (.str (az n)) else none
 | _=>none
def dT:List Nat->Nat->Option Nat
 | [],a=>some a
 | b::r,a=>bif yA 48 b&&yA b 57 then dT r (10*a+(b-48)) else none
def EJ:List AV->Option AV
 | [.str s]=>
  bif yB 0 s.length&&yA s.length 18 then
   match dT s 0 with | some n=>some (.ay [.int .i64 n,.undef]) | none=>none
  else none
 | _=>none
def Es:List AV->Option AV
 | [.int .u64 (.ofNat x),.int .u64 (.ofNat y),.int .u64 (.ofNat c)]=>
  bif yA c 1&&(yB x 18446744073709551616&&yB y 18446744073709551616) then some (.ay [.int .u64 ((x+y+c)%18446744073709551616:Nat),.int .u64 ((x+y+c)/18446744073709551616:Nat)]) else none
 | _=>none
def Et:List AV->Option AV
 | [.int .u64 (.ofNat x),.int .u64 (.ofNat y),.int .u64 (.ofNat c)]=>
  bif yA c 1&&(yB x 18446744073709551616&&yB y 18446744073709551616) then some (.ay [.int .u64 ((x+18446744073709551616*2-y-c)%18446744073709551616:Nat),.int .u64 (bif yA (y+c) x then 0 else 1)]) else none
 | _=>none
def qQ:List AV->Option AV
 | [.int .u64 (.ofNat x),.int .u64 (.ofNat y)]=>bif yB x 18446744073709551616&&yB y 18446744073709551616 then some (.ay [.int .u64 (x*y/18446744073709551616:Nat),.int .u64 (x*y%18446744073709551616:Nat)]) else none
 | _=>none
def B2:Nat->Nat->Nat
 | 0,_=>0
 | f+1,n=>bif yq n 0 then 0 else 1+B2 f (n/2)
def Eu:List AV->Option AV
 | [.int .u64 (.ofNat x)]=>bif yB x 18446744073709551616 then some (.int .i64 (B2 64 x)) else none
 | _=>none
def EK:List AV->Option AV
 | [.int .u64 (.ofNat x)]=>bif yB x 18446744073709551616 then some (.int .i64 (64-B2 64 x:Nat)) else none
 | _=>none
end
section
open Go
section
variable {O:aZ} {n:Nat}
def DA {w w':yg} (h:RowKit.Below w.heap.size w w'):Calm w w':=⟨h.os,h.tape,h.output,h.size,h.block⟩
def YR {w:yg} (k:Nat):Calm w (w.drewN k):=⟨rfl,rfl,rfl,yC _,fun _ _=>rfl⟩
def YS {w:yg} (h:o9 O w) {a:Addr} {v:ye} (hc:O.w0.cell? a=some v):w.cell? a=some v:=by
 have hb:a.block<O.w0.heap.size:=by
  unfold World.cell? at hc
  cases hq:O.w0.heap[a.block]? with
  | none=>simp [hq] at hc
  | some o=>exact (Array.getElem?_eq_some_iff.1 hq).1
 unfold World.cell? at hc ⊢;rw [h.1 _ hb];exact hc
def jZ {vals:List AV} {r:AV} (hr:∀S w' lo u,af O.ae dD S w' r u->jJ O.ae S w' lo r u)
  (dZ:∀args w,(callFunc (O.ae n) args).run O.P w= .ok (.enter (O.ae n) args) w)
  (h:∀w S args,o9 O w->ak O.ae dD S w vals args.toList->xv O.P (O.ae n) args w fun e w'=>∃u,e= .returned u/\Calm w w'/\∀S,af O.ae dD S w' r u):dO O n vals r:=by
 intro w S args hg hS du _;refine .inl ⟨dZ args w,Go.callsIn_wide.2 ((h w S args hg du).mono ?_)⟩;rintro e w' ⟨u,rfl,hc,hu⟩;exact ⟨u,S,rfl,hc,fun _ h=>h,fun _ h=> .inl h,fun b hb=>Nat.lt_of_lt_of_le (hS b hb) hc.size,hr S w' _ u (hu S)⟩
def Nb {vals:List AV} {r:AV} (hr:∀S w' lo u,af O.ae dD S w' r u->jJ O.ae S w' lo r u)
  (h:∀w S args,ak O.ae dD S w vals args.toList->∃u,(callFunc (O.ae n) args).run O.P w= .ok (.value u) w/\∀S,af O.ae dD S w r u):dO O n vals r:=by
 intro w S args _ hS du _;obtain ⟨u,h1,h2⟩:=h w S args du;exact .inr ⟨u,w,h1,u,S,rfl,Calm.refl,fun _ h=>h,fun _ h=> .inl h,hS,hr S w _ u (h2 S)⟩
def A7 {s:List Nat}:∀S w' lo u,af O.ae dD S w' (.str s) u->jJ O.ae S w' lo (.str s) u:=fun S w' lo u h=>⟨[],rfl,h,rfl⟩
def O6 {k:IntKind} {z:Int}:∀S w' lo u,af O.ae dD S w' (.int k z) u->jJ O.ae S w' lo (.int k z) u:=fun S w' lo u h=>⟨[],rfl,h,rfl⟩
def aax {b:Bool}:∀S w' lo u,af O.ae dD S w' (.bool b) u->jJ O.ae S w' lo (.bool b) u:=fun S w' lo u h=>⟨[],rfl,h,rfl⟩
def Mk {S:Nat->Prop} {w':yg} {lo:Nat}:∀{vs:List AV} {us:List ye},(∀v,v∈vs->(∀ex sz k cs,v≠.bS ex sz k cs)/\aG v=true)->ak O.ae dD S w' vs us->ia O.ae S w' lo vs us []
 | [],us,_,h=>by simp only [ak] at h;exact ⟨h,rfl⟩
 | v::vs,us,hv,h=>by
  simp only [ak] at h;obtain ⟨u,t,rfl,h1,h2⟩:=h;have h3:=hv v (by simp);refine ⟨u,t,[],[],rfl,rfl,?_,Mk (fun v hm=>hv v (by simp [hm])) h2⟩;cases v<;>first | exact ⟨rfl,h1,h3.2⟩ | exact absurd rfl (h3.1 _ _ _ _)
def sU {vs:List AV} (hv:∀v,v∈vs->(∀ex sz k cs,v≠.bS ex sz k cs)/\aG v=true):∀S w' lo u,af O.ae dD S w' (.ay vs) u->jJ O.ae S w' lo (.ay vs) u:=by
 intro S w' lo u h;obtain ⟨xs,rfl,h⟩:=h;exact ⟨xs,[],rfl,Mk hv h,by simp⟩
def EL {S:Nat->Prop} {w:yg} {a:AV} {args:Array ye} (h:ak O.ae dD S w [a] args.toList):∃u,args=#[u]/\af O.ae dD S w a u:=by
 simp only [ak] at h
 grind
def pc {S:Nat->Prop} {w:yg} {a b:AV} {args:Array ye} (h:ak O.ae dD S w [a,b] args.toList):∃u v,args=#[u,v]/\af O.ae dD S w a u/\af O.ae dD S w b v:=by
 simp only [ak] at h
 grind
def RZ {S:Nat->Prop} {w:yg} {a b c:AV} {args:Array ye} (h:ak O.ae dD S w [a,b,c] args.toList):∃u v x,args=#[u,v,x]/\af O.ae dD S w a u/\af O.ae dD S w b v/\af O.ae dD S w c x:=by
 simp only [ak] at h
 grind
def AG {S:Nat->Prop} {w:yg} {s:List Nat} {l:List UInt8} (h:l.map yN=s):af O.ae dD S w (.str s) (.string ⟨l.toArray⟩):=by
 simp only [af];exact ⟨_,rfl,h⟩
def toNat_inj {a b:UInt8}:yq a.toNat b.toNat=(a==b):=by
 by_cases h:a=b
 ·simp_all
 ·have h':a.toNat≠b.toNat:=fun e=>h (UInt8.toNat_inj.1 e)
  have e:(a==b)=false:=by simp_all
  rw [e]
  cases hq:yq a.toNat b.toNat with
  | false=>rfl
  | true=>exact absurd (yk hq) h'
def AS:∀(p s:List UInt8),lI (p.map yN) (s.map yN)=p.isPrefixOf s
 | [],s=>by cases s<;>rfl
 | a::p,[]=>rfl
 | a::p,b::s=>by
  simp only [yV,lI,List.isPrefixOf,AS p s,toNat_inj]
def Ml:∀(s sep:List UInt8) (k:Nat),Bg (sep.map yN) (s.map yN) k=if 0<=Lib.index s sep then some (k+(Lib.index s sep).toNat) else none
 | [],sep,k=>by
  simp only [List.map_nil,Bg,Lib.index]
  cases sep with
  | nil=>simp [lI]
  | cons a r=>simp [lI]
 | b::s,sep,k=>by
  have ih:=Ml s sep (k+1);have hp:=AS sep (b::s);simp only [yV,Bg,hp,Lib.index]
  grind
def N2 (b:UInt8):∀cs:List UInt8,Fg b.toNat (cs.map yN)=cs.contains b
 | []=>rfl
 | c::cs=>by
  simp only [yV,Fg,N2 b cs,List.contains_cons,toNat_inj]
  grind
def HA (cs:List UInt8):∀l:List UInt8,BM (cs.map yN) (l.map yN)=(l.dropWhile (cs.contains ·)).map yN
 | []=>rfl
 | b::l=>by
  simp only [yV,BM,N2,List.dropWhile_cons,HA cs l]
  grind
def N3 (l:List UInt8):∀n,Fh (l.map yN) n=(Lib.repeatL l n).map yN
 | 0=>rfl
 | n+1=>by simp only [Fh,Lib.repeatL,xG,N3 l n]
def LP:∀(f n:Nat) (acc:List Nat),n<f->je f n acc=(Lib.decDigits n).map yN++acc
 | 0,n,acc,h=>by omega
 | f+1,n,acc,h=>by
  rw [je,Lib.decDigits];by_cases hn:n<10
  ·rw [show yB n 10=true from yv hn,ym,dif_pos hn]
   have:(yaj (48+n)).toNat=48+n:=by
    rw [uZ];omega
   grind
  ·have hb:yB n 10=false:=by
    cases hq:yB n 10 with
    | false=>rfl
    | true=>exact absurd (yr hq) (by omega)
   rw [hb,yu,dif_neg hn,LP f (n/10) _ (by omega),xG,List.append_assoc]
   have:(yaj (48+n%10)).toNat=48+n%10:=by
    rw [uZ];omega
   grind
def H7 (n:Nat):az n=(Lib.decDigits n).map yN:=by
 rw [az,LP (n+1) n [] (by omega),List.append_nil]
def aay (n:Int):bz n=(Lib.itoa n).map yN:=by
 cases n with
 | ofNat k=>
  have:¬tU k<0:=by simp
  simp only [bz,Lib.itoa,this,yG,H7];rfl
 | negSucc k=>
  have:Int.negSucc k<0:=Int.negSucc_lt_zero k
  simp only [bz,Lib.itoa,this,yQ,H7,yV];rfl
def H8:∀f x:Nat,B2 f x=Lib.bitLenAux f x
 | 0,_=>rfl
 | f+1,x=>by
  rw [B2,Lib.bitLenAux];by_cases h:x=0
  ·simp_all
  ·have hb:yq x 0=false:=by
    cases hq:yq x 0 with
    | false=>rfl
    | true=>exact absurd (yk hq) h
   rw [hb,yu,yD h,H8 f]
def Mm:∀{cs:List UInt8},Bh (cs.map yN)=true->∀(j:Nat) b,cs[j]? =some b->b.toNat<128
 | [],_,j,b,h=>by simp at h
 | c::cs,h,j,b,hb=>by
  simp only [yV,Bh,yf] at h
  cases j with
  | zero=>
   simp_all
  | succ j=>exact Mm h.2 j b (by simpa using hb)
def j9 {a b:Nat} (h:yB a b=true):a<b:=by simp_all
def N4:∀{l:List UInt8} {a z:Nat},dT (l.map yN) a=some z->Lib.decFrom a l=some z
 | [],a,z,h=>h
 | b::l,a,z,h=>by
  simp only [yV,dT] at h
  cases hb:(yA 48 b.toNat&&yA b.toNat 57) with
  | false=>rw [hb] at h;cases h
  | true=>
   rw [hb] at h;simp only [yf] at hb;have h1:=yr hb.1;have h2:=yr hb.2
   have:=N4 h
   rw [Lib.decFrom,Lib.digitVal,yS ⟨h1,h2⟩]
   grind
def aaz {l:List UInt8} {z:Nat} (h:dT (l.map yN) 0=some z) (h0:0<l.length):Lib.atoi l=some (z:Int):=by
 cases l with
 | nil=>simp at h0
 | cons b r=>
  have hd:=N4 h;have hb:48<=b.toNat:=by
   simp only [yV,dT] at h
   cases hb:(yA 48 b.toNat&&yA b.toNat 57) with
   | false=>rw [hb] at h;cases h
   | true=>
    simp_all
  have h1:(b==45)=false:=by
   have:b≠45:=fun e=>by subst e;exact absurd hb (by decide)
   grind
  have h2:(b==43)=false:=by
   have:b≠43:=fun e=>by subst e;exact absurd hb (by decide)
   grind
  simp only [Lib.atoi,h1,h2,yt,yG,Lib.decNat,List.isEmpty_cons,hd,Option.map_some]
section
variable {f:FuncId}
def WM (hf:O.ae n=f) (dZ:∀args w,(callFunc f args).run O.P w= .ok (.enter f args) w)
  (hc:∀(s p:ByteArray) (w:yg),xv O.P f #[.string s,.string p] w fun e w'=>e= .returned (.tuple #[.string ⟨(Lib.trimPrefix s.data.toList p.data.toList).toArray⟩,.bool (Lib.hasPrefix s.data.toList p.data.toList)])/\w'=w):
  ∀vals r,Dy vals=some r->dO O n vals r:=by
 intro vals r h;unfold Dy at h
 split at h
 ·rename_i s p;simp only [yb] at h;subst h;refine jZ ?_ (by rw [hf];exact dZ) ?_
  ·cases lI p s<;>exact sU (by simp [aG])
  ·intro w S args hg du;obtain ⟨u,v,rfl,h1,h2⟩:=pc du;obtain ⟨t1,rfl,rfl⟩:=h1;obtain ⟨t2,rfl,rfl⟩:=h2;rw [hf];refine (hc t1 t2 w).mono ?_;rintro e w' ⟨rfl,rfl⟩;refine ⟨_,rfl,Calm.refl,fun S=>?_⟩;rw [AS,yU];unfold Lib.trimPrefix Lib.hasPrefix
   cases hp:t2.data.toList.isPrefixOf t1.data.toList with
   | true=>
    simp only [ym,yQ,af,ak]
    simp_all
   | false=>
    simp only [yu,yt,yG,af,ak]
    grind
 ·cases h
def WO (hf:O.ae n=f) (dZ:∀args w,(callFunc f args).run O.P w= .ok (.enter f args) w)
  (hc:∀(s p:ByteArray) (w:yg),xv O.P f #[.string s,.string p] w fun e w'=>e= .returned (.bool (Lib.hasPrefix s.data.toList p.data.toList))/\w'=w):
  ∀vals r,Dz vals=some r->dO O n vals r:=by
 intro vals r h;unfold Dz at h
 split at h
 ·rename_i s p;simp only [yb] at h;subst h;refine jZ aax (by rw [hf];exact dZ) ?_
  intro w S args hg du;obtain ⟨u,v,rfl,h1,h2⟩:=pc du;obtain ⟨t1,rfl,rfl⟩:=h1;obtain ⟨t2,rfl,rfl⟩:=h2;rw [hf];refine (hc t1 t2 w).mono ?_;rintro e w' ⟨rfl,rfl⟩;refine ⟨_,rfl,Calm.refl,fun S=>?_⟩;rw [AS];simp only [af,Lib.hasPrefix]
 ·cases h
def WI (hf:O.ae n=f) (dZ:∀args w,(callFunc f args).run O.P w= .ok (.enter f args) w)
  (hc:∀(s p:ByteArray) (w:yg),xv O.P f #[.string s,.string p] w fun e w'=>e= .returned (.string ⟨(Lib.trimPrefix s.data.toList p.data.toList).toArray⟩)/\w'=w):
  ∀vals r,Dm vals=some r->dO O n vals r:=by
 intro vals r h;unfold Dm at h
 split at h
 ·rename_i s p;simp only [yb] at h;subst h;refine jZ A7 (by rw [hf];exact dZ) ?_
  intro w S args hg du;obtain ⟨u,v,rfl,h1,h2⟩:=pc du;obtain ⟨t1,rfl,rfl⟩:=h1;obtain ⟨t2,rfl,rfl⟩:=h2;rw [hf];refine (hc t1 t2 w).mono ?_;rintro e w' ⟨rfl,rfl⟩;refine ⟨_,rfl,Calm.refl,fun S=>?_⟩;rw [AS,yU];refine AG ?_;unfold Lib.trimPrefix Lib.hasPrefix
  cases hp:t2.data.toList.isPrefixOf t1.data.toList with
  | true=>simp [List.map_drop]
  | false=>simp
 ·cases h
def acr (hf:O.ae n=f) (dZ:∀args w,(callFunc f args).run O.P w= .ok (.enter f args) w) {a:Addr} {m:Int} (hm:O.w0.cell? a=some (.int .i64 m))
  (hc:∀(s sep:ByteArray) (w:yg),s.size<4294967281->w.cell? a=some (.int .i64 m)->xv O.P f #[.string s,.string sep] w fun e w'=>e= .returned (.tuple #[.string ⟨(Lib.cut s.data.toList sep.data.toList).1.toArray⟩,.string ⟨(Lib.cut s.data.toList sep.data.toList).2.1.toArray⟩,.bool (Lib.cut s.data.toList sep.data.toList).2.2])/\∃n,w'=w.drewN n):
  ∀vals r,Ff vals=some r->dO O n vals r:=by
 intro vals r h;unfold Ff at h
 split at h
 ·rename_i s sep
  cases hb:yB s.length 4294967281 with
  | false=>rw [hb] at h;cases h
  | true=>
   rw [hb] at h;have key:∀(q:List UInt8×List UInt8×Bool),(∀t1 t2:ByteArray,t1.data.toList.map yN=s->t2.data.toList.map yN=sep->r= .ay [.str ((Lib.cut t1.data.toList t2.data.toList).1.map yN),.str ((Lib.cut t1.data.toList t2.data.toList).2.1.map yN),.bool (Lib.cut t1.data.toList t2.data.toList).2.2])->
     (∃a b c,r= .ay [.str a,.str b,.bool c])->dO O n [.str s,.str sep] r:=by
    intro q hq aeB;obtain ⟨a',b',c',rfl⟩:=aeB;refine jZ (sU (by simp [aG])) (by rw [hf];exact dZ) ?_
    intro w S args hg du;obtain ⟨u,v,rfl,h1,h2⟩:=pc du;obtain ⟨t1,rfl,e1⟩:=h1;obtain ⟨t2,rfl,e2⟩:=h2;rw [hf];have hl:t1.size<4294967281:=by
     have:=j9 hb
     rw [<-e1,yU] at this
     simp_all
    refine (hc t1 t2 w hl (YS hg hm)).mono ?_;rintro e w' ⟨rfl,k,rfl⟩;refine ⟨_,rfl,YR k,fun S=>?_⟩;simp only [af,ak]
    grind
   refine key ([],[],false) ?_ ?_
   ·intro t1 t2 e1 e2;subst e1;subst e2;rw [Ml] at h;unfold Lib.cut;by_cases h0:0<=Lib.index t1.data.toList t2.data.toList
    ·simp_all
    ·grind
   ·grind
 ·cases h
def aaA (hf:O.ae n=f) (dZ:∀args w,(callFunc f args).run O.P w= .ok (.enter f args) w)
  (hc:∀(s cs:ByteArray) (w:yg),s.size<=9223372036854775807->cs.size<4294967281->(∀(j:Nat) b,cs.data.toList[j]? =some b->b.toNat<128)->xv O.P f #[.string s,.string cs] w fun e w'=>e= .returned (.string ⟨(Lib.trimS s.data.toList cs.data.toList).toArray⟩)/\RowKit.Below w.heap.size w w'):
  ∀vals r,trimS vals=some r->dO O n vals r:=by
 intro vals r h;unfold trimS at h
 split at h
 ·rename_i s cs
  cases hb:(Bh cs&&(yB s.length 4294967281&&yB cs.length 4294967281)) with
  | false=>rw [hb] at h;cases h
  | true=>
   rw [hb] at h;simp only [ym,yb] at h;subst h;simp only [yf] at hb;refine jZ A7 (by rw [hf];exact dZ) ?_
   intro w S args hg du;obtain ⟨u,v,rfl,h1,h2⟩:=pc du;obtain ⟨t1,rfl,rfl⟩:=h1;obtain ⟨t2,rfl,rfl⟩:=h2;have kU:=j9 hb.2.1;have mS:=j9 hb.2.2;rw [yU] at kU mS;rw [hf];refine (hc t1 t2 w (by rw [Lib.size_eq];omega) (by rw [Lib.size_eq];omega) (Mm hb.1)).mono ?_;rintro e w' ⟨rfl,hw⟩;refine ⟨_,rfl,DA hw,fun S=>AG ?_⟩;simp only [Lib.trimS,Lib.trimLeftS,Lib.trimRightS];rw [<-tL,HA,<-tL,HA]
 ·cases h
def XO (hf:O.ae n=f) (dZ:∀args w,(callFunc f args).run O.P w= .ok (.enter f args) w)
  (hc:∀(s:ByteArray) (c:Nat) (w:yg),c<=9223372036854775807->s.size*c<=140737488355328->xv O.P f #[.string s,.int .i64 c] w fun e w'=>e= .returned (.string ⟨(Lib.repeatL s.data.toList c).toArray⟩)/\RowKit.Below w.heap.size w w'):
  ∀vals r,IA vals=some r->dO O n vals r:=by
 intro vals r h;unfold IA at h
 split at h
 ·rename_i s c
  cases hb:(yA c 1099511627776&&yA (s.length*c) 1099511627776) with
  | false=>rw [hb] at h;cases h
  | true=>
   rw [hb] at h;simp only [ym,yb] at h;subst h;simp only [yf] at hb;have l1:=yr hb.1;have l2:=yr hb.2;refine jZ A7 (by rw [hf];exact dZ) ?_
   intro w S args hg du;obtain ⟨u,v,rfl,h1,h2⟩:=pc du;obtain ⟨t1,rfl,rfl⟩:=h1;subst h2;rw [hf];rw [yU] at l2;refine (hc t1 c w (by omega) (by rw [Lib.size_eq];omega)).mono ?_;rintro e w' ⟨rfl,hw⟩;exact ⟨_,rfl,DA hw,fun S=>AG (N3 _ _).symm⟩
 ·cases h
def aaB (hf:O.ae n=f) (dZ:∀args w,(callFunc f args).run O.P w= .ok (.enter f args) w)
  (hc:∀(z:Int) (w:yg),-9223372036854775808<=z->z<=9223372036854775807->o9 O w->xv O.P f #[.int .i64 z] w fun e w'=>e= .returned (.string ⟨(Lib.itoa z).toArray⟩)/\Calm w w'):
  ∀vals r,EI vals=some r->dO O n vals r:=by
 intro vals r h;unfold EI at h
 split at h
 ·rename_i z
  cases hb:BN z with
  | false=>rw [hb] at h;cases h
  | true=>
   rw [hb] at h;simp only [ym,yb] at h;subst h;have hz: -9223372036854775808<=z/\z<=9223372036854775807:=by
    cases z with
    | ofNat k=>have:=j9 hb;show -9223372036854775808<=(k:Int)/\(k:Int)<=9223372036854775807;omega
    | negSucc k=>have:=j9 hb;omega
   refine jZ A7 (by rw [hf];exact dZ) ?_
   intro w S args hg du;obtain ⟨u,rfl,h1⟩:=EL du;subst h1;rw [hf];refine (hc z w hz.1 hz.2 hg).mono ?_;rintro e w' ⟨rfl,hw⟩;exact ⟨_,rfl,hw,fun S=>AG (aay z).symm⟩
 ·cases h
def WJ (hf:O.ae n=f) (dZ:∀args w,(callFunc f args).run O.P w= .ok (.enter f args) w)
  (hc:∀(z:Nat) (w:yg),z<18446744073709551616->o9 O w->xv O.P f #[.int .u64 z,.int .i64 10] w fun e w'=>e= .returned (.string ⟨(Lib.decDigits z).toArray⟩)/\Calm w w'):
  ∀vals r,GX vals=some r->dO O n vals r:=by
 intro vals r h;unfold GX at h
 split at h
 ·rename_i z
  cases hb:yB z 18446744073709551616 with
  | false=>rw [hb] at h;cases h
  | true=>
   rw [hb] at h;simp only [ym,yb] at h;subst h;refine jZ A7 (by rw [hf];exact dZ) ?_
   intro w S args hg du;obtain ⟨u,v,rfl,h1,h2⟩:=pc du;subst h1;subst h2;rw [hf];refine (hc z w (j9 hb) hg).mono ?_;rintro e w' ⟨rfl,hw⟩;exact ⟨_,rfl,hw,fun S=>AG (H7 z).symm⟩
 ·cases h
def aaC (hf:O.ae n=f) (dZ:∀args w,(callFunc f args).run O.P w= .ok (.enter f args) w)
  (hc:∀(s:ByteArray) (z:Int) (w:yg),s.size<=18->Lib.atoi s.data.toList=some z->xv O.P f #[.string s] w fun e w'=>e= .returned (.tuple #[.int .i64 z,.nilIface])/\Calm w w'):
  ∀vals r,EJ vals=some r->dO O n vals r:=by
 intro vals r h;unfold EJ at h
 split at h
 ·rename_i s
  cases hb:(yB 0 s.length&&yA s.length 18) with
  | false=>rw [hb] at h;cases h
  | true=>
   rw [hb] at h;simp only [ym] at h;simp only [yf] at hb;have l1:=j9 hb.1;have l2:=yr hb.2
   split at h
   ·rename_i z hz;simp only [yb] at h;subst h;refine jZ (sU (by simp [aG])) (by rw [hf];exact dZ) ?_
    intro w S args hg du;obtain ⟨u,rfl,h1⟩:=EL du;obtain ⟨t1,rfl,rfl⟩:=h1;rw [yU] at l1 l2;have ha:Lib.atoi t1.data.toList=some (z:Int):=aaz hz l1;rw [hf];refine (hc t1 z w (by rw [Lib.size_eq];exact l2) ha).mono ?_
    simp only [af,ak]
    grind
   ·cases h
 ·cases h
def YT (hf:O.ae n=f) (dZ:∀args w,(callFunc f args).run O.P w= .ok (.enter f args) w)
  (hc:∀(x y:Nat) (w:yg),x<18446744073709551616->y<18446744073709551616->xv O.P f #[.int .u64 x,.int .u64 y] w fun e w'=>e= .returned (.tuple #[.int .u64 ((x*y/18446744073709551616:Nat):Int),.int .u64 ((x*y%18446744073709551616:Nat):Int)])/\w'=w):
  ∀vals r,qQ vals=some r->dO O n vals r:=by
 intro vals r h;unfold qQ at h
 split at h
 ·rename_i x y
  cases hb:(yB x 18446744073709551616&&yB y 18446744073709551616) with
  | false=>rw [hb] at h;cases h
  | true=>
   rw [hb] at h;simp only [ym,yb] at h;subst h;simp only [yf] at hb;refine jZ (sU (by simp [aG])) (by rw [hf];exact dZ) ?_
   intro w S args hg du;obtain ⟨u,v,rfl,h1,h2⟩:=pc du;subst h1;subst h2;rw [hf];refine (hc x y w (j9 hb.1) (j9 hb.2)).mono ?_;rintro e w' ⟨rfl,rfl⟩;refine ⟨_,rfl,Calm.refl,fun S=>?_⟩;simp only [af,ak]
   grind
 ·cases h
def YU (hf:O.ae n=f) (dZ:∀args w,(callFunc f args).run O.P w= .ok (.enter f args) w)
  (hc:∀(x:Int) (w:yg),0<=x->x<=18446744073709551615->xv O.P f #[.int .u64 x] w fun e w'=>e= .returned (.int .i64 (Lib.bitLen x.toNat:Nat))/\w'=w):
  ∀vals r,Eu vals=some r->dO O n vals r:=by
 intro vals r h;unfold Eu at h
 split at h
 ·rename_i x
  cases hb:yB x 18446744073709551616 with
  | false=>rw [hb] at h;cases h
  | true=>
   rw [hb] at h;simp only [ym,yb] at h;subst h
   have:=j9 hb
   refine jZ O6 (by rw [hf];exact dZ) ?_
   intro w S args hg du;obtain ⟨u,rfl,h1⟩:=EL du;subst h1;rw [hf];refine (hc (tU x) w (ug x) (by show (x:Int)<=_;omega)).mono ?_;rintro e w' ⟨rfl,rfl⟩;refine ⟨_,rfl,Calm.refl,fun S=>?_⟩;rw [H8];rfl
 ·cases h
def aaD (hf:O.ae n=f) (dZ:∀args w,(callFunc f args).run O.P w= .ok (.enter f args) w)
  (hc:∀(x:Int) (w:yg),0<=x->x<=18446744073709551615->xv O.P f #[.int .u64 x] w fun e w'=>e= .returned (.int .i64 (64-(Lib.bitLen x.toNat:Nat)))/\w'=w):
  ∀vals r,EK vals=some r->dO O n vals r:=by
 intro vals r h;unfold EK at h
 split at h
 ·rename_i x
  cases hb:yB x 18446744073709551616 with
  | false=>rw [hb] at h;cases h
  | true=>
   rw [hb] at h;simp only [ym,yb] at h;subst h
   have:=j9 hb
   have hle:∀f x,Lib.bitLenAux f x<=f:=by
    intro f
    induction f with
    | zero=>intro x;exact yC _
    | succ f ih=>
     intro x;rw [Lib.bitLenAux]
     grind
   refine jZ O6 (by rw [hf];exact dZ) ?_
   intro w S args hg du;obtain ⟨u,rfl,h1⟩:=EL du;subst h1;rw [hf];refine (hc (tU x) w (ug x) (by show (x:Int)<=_;omega)).mono ?_;rintro e w' ⟨rfl,rfl⟩;refine ⟨_,rfl,Calm.refl,fun S=>?_⟩;simp only [af,H8];show Value.int .i64 (64-(Lib.bitLenAux 64 x:Int))=Value.int .i64 ((64-Lib.bitLenAux 64 x:Nat):Int)
   grind
 ·cases h
def YV (hf:O.ae n=f)
  (hc:∀(x y c:Nat) (w:yg),c<=1->(callFunc f #[.int .u64 x,.int .u64 y,.int .u64 c]).run O.P w= .ok (.value (.tuple #[.int .u64 (((x+y+c)%18446744073709551616:Nat):Int),.int .u64 (((x+y+c)/18446744073709551616:Nat):Int)])) w):
  ∀vals r,Es vals=some r->dO O n vals r:=by
 intro vals r h;unfold Es at h
 split at h
 ·rename_i x y c
  cases hb:(yA c 1&&(yB x 18446744073709551616&&yB y 18446744073709551616)) with
  | false=>rw [hb] at h;cases h
  | true=>
   rw [hb] at h;simp only [ym,yb] at h;subst h;simp only [yf] at hb;refine Nb (sU (by simp [aG])) ?_;intro w S args du;obtain ⟨u,v,z,rfl,h1,h2,h3⟩:=RZ du;subst h1;subst h2;subst h3;rw [hf];refine ⟨_,hc x y c w (yr hb.1),fun S=>?_⟩;simp only [af,ak]
   grind
 ·cases h
def YW (hf:O.ae n=f)
  (hc:∀(x y b:Nat) (w:yg),b<=1->(callFunc f #[.int .u64 x,.int .u64 y,.int .u64 b]).run O.P w= .ok (.value (.tuple #[.int .u64 (((x+18446744073709551616-y-b)%18446744073709551616:Nat):Int),.int .u64 ((if x<y+b then 1 else 0:Nat):Int)])) w):
  ∀vals r,Et vals=some r->dO O n vals r:=by
 intro vals r h;unfold Et at h
 split at h
 ·rename_i x y c
  cases hb:(yA c 1&&(yB x 18446744073709551616&&yB y 18446744073709551616)) with
  | false=>rw [hb] at h;cases h
  | true=>
   rw [hb] at h;simp only [ym,yb] at h;subst h;simp only [yf] at hb;have gS:=yr hb.1;have hy:=j9 hb.2.2;refine Nb (sU (by simp [aG])) ?_;intro w S args du;obtain ⟨u,v,z,rfl,h1,h2,h3⟩:=RZ du;subst h1;subst h2;subst h3;rw [hf];refine ⟨_,hc x y c w gS,fun S=>?_⟩;simp only [af,ak];refine ⟨_,rfl,_,_,rfl,?_,_,_,rfl,?_,rfl⟩
   ·grind
   ·congr 1
    by_cases h:x<y+c
    ·have:yA (y+c) x=false:=by
      cases hq:yA (y+c) x with
      | false=>rfl
      | true=>have:=yr hq;omega
     grind
    ·rw [yv (by omega),yD h];rfl
 ·cases h
end
end
end
end VE
