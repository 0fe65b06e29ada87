import Derived.Lib.Index
import Derived.Lib.ItoaNum
import Derived.Lib.Atoi
import Derived.Lib.BitFns
import Derived.Lib.Repeat
import Derived.Lib.SlTrimSet
import Derived.Shelf.Strings.Cut
import Derived.Shelf.Strings.Prefix
import Derived.Shelf.Small.Bits
import Derived.RowKit
import Derived.Test.YtkhmakhdoedjiaaGreatDoorTao
set_option linter.all false
set_option maxRecDepth 100000
namespace VE
open Go
section
variable {Λ:Link} {n:Nat}
theorem calm_below {w w':World} (h:RowKit.Below w.heap.size w w'):Calm w w':=⟨h.os,h.tape,h.output,h.size,h.block⟩
theorem ztJ {w:World} (k:Nat):Calm w (w.drewN k):=⟨rfl,rfl,rfl,Nat.le_refl _,fun _ _=>rfl⟩
theorem ztq {w:World} (h:ziP Λ w) {a:Addr} {v:Value} (hc:Λ.w0.cell? a=some v):w.cell? a=some v:=by
 have hb:a.block<Λ.w0.heap.size:=by
  unfold World.cell? at hc
  cases hq:Λ.w0.heap[a.block]? with
  | none=>simp [hq] at hc
  | some o=>exact (Array.getElem?_eq_some_iff.1 hq).1
 unfold World.cell? at hc ⊢;rw [h.1 _ hb];exact hc
theorem zbB {vals:List AV} {r:AV} (hr:∀S w' lo u,zm Λ.fid noM S w' r u→zf7 Λ.fid S w' lo r u)
  (hent:∀args w,(callFunc (Λ.fid n) args).run Λ.P w= .ok (.enter (Λ.fid n) args) w)
  (h:∀w S args,ziP Λ w→zi Λ.fid noM S w vals args.toList→Calls Λ.P (Λ.fid n) args w fun e w'=>∃u,e= .returned u∧Calm w w'∧∀S,zm Λ.fid noM S w' r u):PureC Λ n vals r:=by
 intro w S args hg hS hrep _;refine .inl ⟨hent args w,Go.callsIn_wide.2 ((h w S args hg hrep).mono ?_)⟩;rintro e w' ⟨u,rfl,hc,hu⟩;exact ⟨u,S,rfl,hc,fun _ h=>h,fun _ h=> .inl h,fun b hb=>Nat.lt_of_lt_of_le (hS b hb) hc.size,hr S w' _ u (hu S)⟩
theorem zf3 {vals:List AV} {r:AV} (hr:∀S w' lo u,zm Λ.fid noM S w' r u→zf7 Λ.fid S w' lo r u)
  (h:∀w S args,zi Λ.fid noM S w vals args.toList→∃u,(callFunc (Λ.fid n) args).run Λ.P w= .ok (.value u) w∧∀S,zm Λ.fid noM S w r u):PureC Λ n vals r:=by
 intro w S args _ hS hrep _;obtain ⟨u,h1,h2⟩:=h w S args hrep;exact .inr ⟨u,w,h1,u,S,rfl,Calm.refl,fun _ h=>h,fun _ h=> .inl h,hS,hr S w _ u (h2 S)⟩
theorem zhe {s:List Nat}:∀S w' lo u,zm Λ.fid noM S w' (.str s) u→zf7 Λ.fid S w' lo (.str s) u:=fun S w' lo u h=>⟨[],rfl,h,rfl⟩
theorem zmN {k:IntKind} {z:Int}:∀S w' lo u,zm Λ.fid noM S w' (.int k z) u→zf7 Λ.fid S w' lo (.int k z) u:=fun S w' lo u h=>⟨[],rfl,h,rfl⟩
theorem zBV {k:FloatKind} {z:Nat}:∀S w' lo u,zm Λ.fid noM S w' (.flt k z) u→zf7 Λ.fid S w' lo (.flt k z) u:=fun S w' lo u h=>⟨[],rfl,h,rfl⟩
theorem zwx {b:Bool}:∀S w' lo u,zm Λ.fid noM S w' (.bool b) u→zf7 Λ.fid S w' lo (.bool b) u:=fun S w' lo u h=>⟨[],rfl,h,rfl⟩
theorem zjs {S:Nat→Prop} {w':World} {lo:Nat}:∀{vs:List AV} {us:List Value},(∀v,v∈vs→(∀ex sz k cs,v≠.fsl ex sz k cs)∧zx v=true)→zi Λ.fid noM S w' vs us→zel Λ.fid S w' lo vs us []
 | [],us,_,h=>by simp only [zi] at h;exact ⟨h,rfl⟩
 | v::vs,us,hv,h=>by
  simp only [zi] at h;obtain ⟨u,t,rfl,h1,h2⟩:=h;have h3:=hv v (by simp);refine ⟨u,t,[],[],rfl,rfl,?_,zjs (fun v hm=>hv v (by simp [hm])) h2⟩;cases v<;>first | exact ⟨rfl,h1,h3.2⟩ | exact absurd rfl (h3.1 _ _ _ _)
theorem zfT {vs:List AV} (hv:∀v,v∈vs→(∀ex sz k cs,v≠.fsl ex sz k cs)∧zx v=true):∀S w' lo u,zm Λ.fid noM S w' (.tup vs) u→zf7 Λ.fid S w' lo (.tup vs) u:=by
 intro S w' lo u h;simp only [zm] at h;obtain ⟨xs,rfl,h⟩:=h;exact ⟨xs,[],rfl,zjs hv h,by simp⟩
theorem zlr {S:Nat→Prop} {w:World} {a:AV} {args:Array Value} (h:zi Λ.fid noM S w [a] args.toList):∃u,args=#[u]∧zm Λ.fid noM S w a u:=by
 simp only [zi] at h;obtain ⟨u,r,h1,h2,h3⟩:=h;subst h3;refine ⟨u,?_,h2⟩;cases args;simp_all
theorem ziO {S:Nat→Prop} {w:World} {a b:AV} {args:Array Value} (h:zi Λ.fid noM S w [a,b] args.toList):∃u v,args=#[u,v]∧zm Λ.fid noM S w a u∧zm Λ.fid noM S w b v:=by
 simp only [zi] at h;obtain ⟨u,r,h1,h2,v,q,h3,h4,h5⟩:=h;subst h5;subst h3;refine ⟨u,v,?_,h2,h4⟩;cases args;simp_all
theorem zDg {S:Nat→Prop} {w:World} {a b c:AV} {args:Array Value} (h:zi Λ.fid noM S w [a,b,c] args.toList):∃u v x,args=#[u,v,x]∧zm Λ.fid noM S w a u∧zm Λ.fid noM S w b v∧zm Λ.fid noM S w c x:=by
 simp only [zi] at h;obtain ⟨u,r,h1,h2,v,q,h3,h4,x,p,h5,h6,h7⟩:=h;subst h7;subst h5;subst h3;refine ⟨u,v,x,?_,h2,h4,h6⟩;cases args;simp_all
theorem zdS {S:Nat→Prop} {w:World} {s:List Nat} {l:List UInt8} (h:l.map UInt8.toNat=s):zm Λ.fid noM S w (.str s) (.string ⟨l.toArray⟩):=by
 simp only [zm];exact ⟨_,rfl,h⟩
theorem toNat_inj {a b:UInt8}:Nat.beq a.toNat b.toNat=(a==b):=by
 by_cases h:a=b
 ·subst h;simp
 ·have h':a.toNat≠b.toNat:=fun e=>h (UInt8.toNat_inj.1 e)
  have e:(a==b)=false:=by simpa using h
  rw [e]
  cases hq:Nat.beq a.toNat b.toNat with
  | false=>rfl
  | true=>exact absurd (Nat.eq_of_beq_eq_true hq) h'
theorem zeB:∀(p s:List UInt8),zbz (p.map UInt8.toNat) (s.map UInt8.toNat)=p.isPrefixOf s
 | [],s=>by cases s<;>rfl
 | a::p,[]=>rfl
 | a::p,b::s=>by
  simp only [List.map_cons,zbz,List.isPrefixOf,zeB p s,toNat_inj]
theorem zjS:∀(s sep:List UInt8) (k:Nat),zco (sep.map UInt8.toNat) (s.map UInt8.toNat) k=if 0≤Lib.index s sep then some (k+(Lib.index s sep).toNat) else none
 | [],sep,k=>by
  simp only [List.map_nil,zco,Lib.index]
  cases sep with
  | nil=>simp [zbz]
  | cons a r=>simp [zbz]
 | b::s,sep,k=>by
  have ih:=zjS s sep (k+1);have hp:=zeB sep (b::s);simp only [List.map_cons] at hp;simp only [List.map_cons,zco,hp,Lib.index];by_cases hc:sep.isPrefixOf (b::s)=true
  ·simp [hc]
  ·have hc:sep.isPrefixOf (b::s)=false:=Bool.not_eq_true _▸hc;simp only [hc,cond_false,ih,Bool.false_eq_true,if_false];have hge:=Lib.index_ge s sep;by_cases h0:Lib.index s sep= -1
   ·simp [h0]
   ·have:0≤Lib.index s sep:=by omega
    have hb:(Lib.index s sep== -1)=false:=by simpa using h0
    simp only [hb,Bool.false_eq_true,if_false,if_pos this,show 0≤Lib.index s sep+1 by omega,if_true]
    congr 1
    omega
theorem znV (b:UInt8):∀cs:List UInt8,zuz b.toNat (cs.map UInt8.toNat)=cs.contains b
 | []=>rfl
 | c::cs=>by
  simp only [List.map_cons,zuz,znV b cs,List.contains_cons,toNat_inj]
  rw [BEq.comm (a:=b) (b:=c)];cases (c==b)<;>rfl
theorem zhX (cs:List UInt8):∀l:List UInt8,zcD (cs.map UInt8.toNat) (l.map UInt8.toNat)=(l.dropWhile (cs.contains ·)).map UInt8.toNat
 | []=>rfl
 | b::l=>by
  simp only [List.map_cons,zcD,znV,List.dropWhile_cons,zhX cs l];cases cs.contains b<;>simp
theorem zoD (l:List UInt8):∀n,zdE (l.map UInt8.toNat) n=(Lib.repeatL l n).map UInt8.toNat
 | 0=>rfl
 | n+1=>by simp only [zdE,Lib.repeatL,List.map_append,zoD l n]
theorem zit:∀(f n:Nat) (acc:List Nat),n<f→zbK f n acc=(Lib.decDigits n).map UInt8.toNat++acc
 | 0,n,acc,h=>by omega
 | f+1,n,acc,h=>by
  rw [zbK,Lib.decDigits];by_cases hn:n<10
  ·rw [show Nat.blt n 10=true from Nat.ble_eq_true_of_le hn,cond_true,dif_pos hn]
   have:(UInt8.ofNat (48+n)).toNat=48+n:=by
    rw [UInt8.toNat_ofNat'];omega
   rw [List.map_cons,this];rfl
  ·have hb:Nat.blt n 10=false:=by
    cases hq:Nat.blt n 10 with
    | false=>rfl
    | true=>exact absurd (Nat.le_of_ble_eq_true hq) (by omega)
   rw [hb,cond_false,dif_neg hn,zit f (n/10) _ (by omega),List.map_append,List.append_assoc]
   have:(UInt8.ofNat (48+n%10)).toNat=48+n%10:=by
    rw [UInt8.toNat_ofNat'];omega
   rw [List.map_cons,this];rfl
theorem zkI (n:Nat):zo n=(Lib.decDigits n).map UInt8.toNat:=by
 rw [zo,zit (n+1) n [] (by omega),List.append_nil]
theorem zzd (n:Int):zW n=(Lib.itoa n).map UInt8.toNat:=by
 cases n with
 | ofNat k=>
  have:¬Int.ofNat k<0:=by simp
  simp only [zW,Lib.itoa,this,if_false,zkI];rfl
 | negSucc k=>
  have:Int.negSucc k<0:=Int.negSucc_lt_zero k
  simp only [zW,Lib.itoa,this,if_true,zkI,List.map_cons];rfl
theorem zkz:∀f x:Nat,zbM f x=Lib.bitLenAux f x
 | 0,_=>rfl
 | f+1,x=>by
  rw [zbM,Lib.bitLenAux];by_cases h:x=0
  ·subst h;rfl
  ·have hb:Nat.beq x 0=false:=by
    cases hq:Nat.beq x 0 with
    | false=>rfl
    | true=>exact absurd (Nat.eq_of_beq_eq_true hq) h
   rw [hb,cond_false,if_neg h,zkz f]
theorem zjX:∀{cs:List UInt8},zh8 (cs.map UInt8.toNat)=true→∀(j:Nat) b,cs[j]? =some b→b.toNat<128
 | [],_,j,b,h=>by simp at h
 | c::cs,h,j,b,hb=>by
  simp only [List.map_cons,zh8,Bool.and_eq_true] at h
  cases j with
  | zero=>
   simp only [List.getElem?_cons_zero,Option.some.injEq] at hb;subst hb;exact Nat.le_of_ble_eq_true h.1
  | succ j=>exact zjX h.2 j b (by simpa using hb)
theorem zds {a b:Nat} (h:Nat.blt a b=true):a<b:=Nat.le_of_ble_eq_true h
theorem zox:∀{l:List UInt8} {a z:Nat},zaV (l.map UInt8.toNat) a=some z→Lib.decFrom a l=some z
 | [],a,z,h=>h
 | b::l,a,z,h=>by
  simp only [List.map_cons,zaV] at h
  cases hb:(Nat.ble 48 b.toNat&&Nat.ble b.toNat 57) with
  | false=>rw [hb] at h;cases h
  | true=>
   rw [hb] at h;simp only [cond_true] at h;simp only [Bool.and_eq_true] at hb;have h1:=Nat.le_of_ble_eq_true hb.1;have h2:=Nat.le_of_ble_eq_true hb.2
   have:=zox h
   rw [Lib.decFrom,Lib.digitVal,if_pos ⟨h1,h2⟩];simp only;rw [Nat.mul_comm a 10];exact this
theorem zwc {l:List UInt8} {z:Nat} (h:zaV (l.map UInt8.toNat) 0=some z) (h0:0<l.length):Lib.atoi l=some (z:Int):=by
 cases l with
 | nil=>simp at h0
 | cons b r=>
  have hd:=zox h;have hb:48≤b.toNat:=by
   simp only [List.map_cons,zaV] at h
   cases hb:(Nat.ble 48 b.toNat&&Nat.ble b.toNat 57) with
   | false=>rw [hb] at h;cases h
   | true=>
    simp only [Bool.and_eq_true] at hb;exact Nat.le_of_ble_eq_true hb.1
  have h1:(b==45)=false:=by
   have:b≠45:=fun e=>by subst e;exact absurd hb (by decide)
   simpa using this
  have h2:(b==43)=false:=by
   have:b≠43:=fun e=>by subst e;exact absurd hb (by decide)
   simpa using this
  simp only [Lib.atoi,h1,h2,Bool.false_eq_true,if_false,Lib.decNat,List.isEmpty_cons,hd,Option.map_some]
section
variable {f:FuncId}
theorem zlg (hf:Λ.fid n=f) (hent:∀args w,(callFunc f args).run Λ.P w= .ok (.enter f args) w)
  (hc:∀(s p:ByteArray) (w:World),Calls Λ.P f #[.string s,.string p] w fun e w'=>e= .returned (.tuple #[.string ⟨(Lib.trimPrefix s.data.toList p.data.toList).toArray⟩,.bool (Lib.hasPrefix s.data.toList p.data.toList)])∧w'=w):
  ∀vals r,ze8 vals=some r→PureC Λ n vals r:=by
 intro vals r h;unfold ze8 at h
 split at h
 ·rename_i s p;simp only [Option.some.injEq] at h;subst h;refine zbB ?_ (by rw [hf];exact hent) ?_
  ·cases zbz p s<;>exact zfT (by simp [zx])
  ·intro w S args hg hrep;obtain ⟨u,v,rfl,h1,h2⟩:=ziO hrep;simp only [zm] at h1 h2;obtain ⟨t1,rfl,rfl⟩:=h1;obtain ⟨t2,rfl,rfl⟩:=h2;rw [hf];refine (hc t1 t2 w).mono ?_;rintro e w' ⟨rfl,rfl⟩;refine ⟨_,rfl,Calm.refl,fun S=>?_⟩;rw [zeB,List.length_map];unfold Lib.trimPrefix Lib.hasPrefix
   cases hp:t2.data.toList.isPrefixOf t1.data.toList with
   | true=>
    simp only [cond_true,if_true,zm,zi];exact ⟨_,rfl,_,_,rfl,⟨_,rfl,by simp [List.map_drop]⟩,_,_,rfl,rfl,rfl⟩
   | false=>
    simp only [cond_false,Bool.false_eq_true,if_false,zm,zi];exact ⟨_,rfl,_,_,rfl,⟨_,rfl,by simp⟩,_,_,rfl,rfl,rfl⟩
 ·cases h
theorem zk5 (hf:Λ.fid n=f) (hent:∀args w,(callFunc f args).run Λ.P w= .ok (.enter f args) w)
  (hc:∀(s p:ByteArray) (w:World),Calls Λ.P f #[.string s,.string p] w fun e w'=>e= .returned (.bool (Lib.hasPrefix s.data.toList p.data.toList))∧w'=w):
  ∀vals r,zeP vals=some r→PureC Λ n vals r:=by
 intro vals r h;unfold zeP at h
 split at h
 ·rename_i s p;simp only [Option.some.injEq] at h;subst h;refine zbB zwx (by rw [hf];exact hent) ?_
  intro w S args hg hrep;obtain ⟨u,v,rfl,h1,h2⟩:=ziO hrep;simp only [zm] at h1 h2;obtain ⟨t1,rfl,rfl⟩:=h1;obtain ⟨t2,rfl,rfl⟩:=h2;rw [hf];refine (hc t1 t2 w).mono ?_;rintro e w' ⟨rfl,rfl⟩;refine ⟨_,rfl,Calm.refl,fun S=>?_⟩;rw [zeB];simp only [zm,Lib.hasPrefix]
 ·cases h
theorem zkt (hf:Λ.fid n=f) (hent:∀args w,(callFunc f args).run Λ.P w= .ok (.enter f args) w)
  (hc:∀(s p:ByteArray) (w:World),Calls Λ.P f #[.string s,.string p] w fun e w'=>e= .returned (.string ⟨(Lib.trimPrefix s.data.toList p.data.toList).toArray⟩)∧w'=w):
  ∀vals r,zeg vals=some r→PureC Λ n vals r:=by
 intro vals r h;unfold zeg at h
 split at h
 ·rename_i s p;simp only [Option.some.injEq] at h;subst h;refine zbB zhe (by rw [hf];exact hent) ?_
  intro w S args hg hrep;obtain ⟨u,v,rfl,h1,h2⟩:=ziO hrep;simp only [zm] at h1 h2;obtain ⟨t1,rfl,rfl⟩:=h1;obtain ⟨t2,rfl,rfl⟩:=h2;rw [hf];refine (hc t1 t2 w).mono ?_;rintro e w' ⟨rfl,rfl⟩;refine ⟨_,rfl,Calm.refl,fun S=>?_⟩;rw [zeB,List.length_map];refine zdS ?_;unfold Lib.trimPrefix Lib.hasPrefix
  cases hp:t2.data.toList.isPrefixOf t1.data.toList with
  | true=>simp [List.map_drop]
  | false=>simp
 ·cases h
theorem zCc (hf:Λ.fid n=f) (hent:∀args w,(callFunc f args).run Λ.P w= .ok (.enter f args) w) {a:Addr} {m:Int} (hm:Λ.w0.cell? a=some (.int .i64 m))
  (hc:∀(s sep:ByteArray) (w:World),s.size<4294967281→w.cell? a=some (.int .i64 m)→Calls Λ.P f #[.string s,.string sep] w fun e w'=>e= .returned (.tuple #[.string ⟨(Lib.cut s.data.toList sep.data.toList).1.toArray⟩,.string ⟨(Lib.cut s.data.toList sep.data.toList).2.1.toArray⟩,.bool (Lib.cut s.data.toList sep.data.toList).2.2])∧∃n,w'=w.drewN n):
  ∀vals r,zBq vals=some r→PureC Λ n vals r:=by
 intro vals r h;unfold zBq at h
 split at h
 ·rename_i s sep
  cases hb:Nat.blt s.length 4294967281 with
  | false=>rw [hb] at h;cases h
  | true=>
   rw [hb] at h;simp only [cond_true] at h;have key:∀(q:List UInt8×List UInt8×Bool),(∀t1 t2:ByteArray,t1.data.toList.map UInt8.toNat=s→t2.data.toList.map UInt8.toNat=sep→r= .tup [.str ((Lib.cut t1.data.toList t2.data.toList).1.map UInt8.toNat),.str ((Lib.cut t1.data.toList t2.data.toList).2.1.map UInt8.toNat),.bool (Lib.cut t1.data.toList t2.data.toList).2.2])→
     (∃a b c,r= .tup [.str a,.str b,.bool c])→PureC Λ n [.str s,.str sep] r:=by
    intro q hq hshape;obtain ⟨a',b',c',rfl⟩:=hshape;refine zbB (zfT (by simp [zx])) (by rw [hf];exact hent) ?_
    intro w S args hg hrep;obtain ⟨u,v,rfl,h1,h2⟩:=ziO hrep;simp only [zm] at h1 h2;obtain ⟨t1,rfl,e1⟩:=h1;obtain ⟨t2,rfl,e2⟩:=h2;have hr:=hq t1 t2 e1 e2;rw [hf];have hl:t1.size<4294967281:=by
     have:=zds hb
     rw [←e1,List.length_map] at this;rw [Lib.size_eq];exact this
    refine (hc t1 t2 w hl (ztq hg hm)).mono ?_;rintro e w' ⟨rfl,k,rfl⟩;refine ⟨_,rfl,ztJ k,fun S=>?_⟩;rw [hr];simp only [zm,zi];exact ⟨_,rfl,_,_,rfl,⟨_,rfl,by simp⟩,_,_,rfl,⟨_,rfl,by simp⟩,_,_,rfl,rfl,rfl⟩
   refine key ([],[],false) ?_ ?_
   ·intro t1 t2 e1 e2;subst e1;subst e2;rw [zjS] at h;unfold Lib.cut;by_cases h0:0≤Lib.index t1.data.toList t2.data.toList
    ·simp only [h0,if_true,Nat.zero_add,Option.some.injEq] at h ⊢;rw [←h];simp [List.map_take,List.map_drop]
    ·simp only [h0,if_false,Option.some.injEq] at h ⊢;rw [←h];rfl
   ·split at h
    ·simp only [Option.some.injEq] at h;exact ⟨_,_,_,h.symm⟩
    ·simp only [Option.some.injEq] at h;exact ⟨_,_,_,h.symm⟩
 ·cases h
theorem zwG (hf:Λ.fid n=f) (hent:∀args w,(callFunc f args).run Λ.P w= .ok (.enter f args) w)
  (hc:∀(s cs:ByteArray) (w:World),s.size≤9223372036854775807→cs.size<4294967281→(∀(j:Nat) b,cs.data.toList[j]? =some b→b.toNat<128)→Calls Λ.P f #[.string s,.string cs] w fun e w'=>e= .returned (.string ⟨(Lib.trimS s.data.toList cs.data.toList).toArray⟩)∧RowKit.Below w.heap.size w w'):
  ∀vals r,trimS vals=some r→PureC Λ n vals r:=by
 intro vals r h;unfold trimS at h
 split at h
 ·rename_i s cs
  cases hb:(zh8 cs&&(Nat.blt s.length 4294967281&&Nat.blt cs.length 4294967281)) with
  | false=>rw [hb] at h;cases h
  | true=>
   rw [hb] at h;simp only [cond_true,Option.some.injEq] at h;subst h;simp only [Bool.and_eq_true] at hb;refine zbB zhe (by rw [hf];exact hent) ?_
   intro w S args hg hrep;obtain ⟨u,v,rfl,h1,h2⟩:=ziO hrep;simp only [zm] at h1 h2;obtain ⟨t1,rfl,rfl⟩:=h1;obtain ⟨t2,rfl,rfl⟩:=h2;have hl1:=zds hb.2.1;have hl2:=zds hb.2.2;rw [List.length_map] at hl1 hl2;rw [hf];refine (hc t1 t2 w (by rw [Lib.size_eq];omega) (by rw [Lib.size_eq];omega) (zjX hb.1)).mono ?_;rintro e w' ⟨rfl,hw⟩;refine ⟨_,rfl,calm_below hw,fun S=>zdS ?_⟩;simp only [Lib.trimS,Lib.trimLeftS,Lib.trimRightS];rw [←List.map_reverse,zhX,←List.map_reverse,zhX]
 ·cases h
theorem zpc (hf:Λ.fid n=f) (hent:∀args w,(callFunc f args).run Λ.P w= .ok (.enter f args) w)
  (hc:∀(s:ByteArray) (c:Nat) (w:World),c≤9223372036854775807→s.size*c≤140737488355328→Calls Λ.P f #[.string s,.int .i64 c] w fun e w'=>e= .returned (.string ⟨(Lib.repeatL s.data.toList c).toArray⟩)∧RowKit.Below w.heap.size w w'):
  ∀vals r,zee vals=some r→PureC Λ n vals r:=by
 intro vals r h;unfold zee at h
 split at h
 ·rename_i s c
  cases hb:(Nat.ble c 1099511627776&&Nat.ble (s.length*c) 1099511627776) with
  | false=>rw [hb] at h;cases h
  | true=>
   rw [hb] at h;simp only [cond_true,Option.some.injEq] at h;subst h;simp only [Bool.and_eq_true] at hb;have l1:=Nat.le_of_ble_eq_true hb.1;have l2:=Nat.le_of_ble_eq_true hb.2;refine zbB zhe (by rw [hf];exact hent) ?_
   intro w S args hg hrep;obtain ⟨u,v,rfl,h1,h2⟩:=ziO hrep;simp only [zm] at h1 h2;obtain ⟨t1,rfl,rfl⟩:=h1;subst h2;rw [hf];rw [List.length_map] at l2;refine (hc t1 c w (by omega) (by rw [Lib.size_eq];omega)).mono ?_;rintro e w' ⟨rfl,hw⟩;exact ⟨_,rfl,calm_below hw,fun S=>zdS (zoD _ _).symm⟩
 ·cases h
theorem zwo (hf:Λ.fid n=f) (hent:∀args w,(callFunc f args).run Λ.P w= .ok (.enter f args) w)
  (hc:∀(z:Int) (w:World),-9223372036854775808≤z→z≤9223372036854775807→ziP Λ w→Calls Λ.P f #[.int .i64 z] w fun e w'=>e= .returned (.string ⟨(Lib.itoa z).toArray⟩)∧Calm w w'):
  ∀vals r,znw vals=some r→PureC Λ n vals r:=by
 intro vals r h;unfold znw at h
 split at h
 ·rename_i z
  cases hb:ziz z with
  | false=>rw [hb] at h;cases h
  | true=>
   rw [hb] at h;simp only [cond_true,Option.some.injEq] at h;subst h;have hz: -9223372036854775808≤z∧z≤9223372036854775807:=by
    cases z with
    | ofNat k=>have:=zds hb;show -9223372036854775808≤(k:Int)∧(k:Int)≤9223372036854775807;omega
    | negSucc k=>have:=zds hb;omega
   refine zbB zhe (by rw [hf];exact hent) ?_
   intro w S args hg hrep;obtain ⟨u,rfl,h1⟩:=zlr hrep;simp only [zm] at h1;subst h1;rw [hf];refine (hc z w hz.1 hz.2 hg).mono ?_;rintro e w' ⟨rfl,hw⟩;exact ⟨_,rfl,hw,fun S=>zdS (zzd z).symm⟩
 ·cases h
theorem zkY (hf:Λ.fid n=f) (hent:∀args w,(callFunc f args).run Λ.P w= .ok (.enter f args) w)
  (hc:∀(z:Nat) (w:World),z<18446744073709551616→ziP Λ w→Calls Λ.P f #[.int .u64 z,.int .i64 10] w fun e w'=>e= .returned (.string ⟨(Lib.decDigits z).toArray⟩)∧Calm w w'):
  ∀vals r,zbs vals=some r→PureC Λ n vals r:=by
 intro vals r h;unfold zbs at h
 split at h
 ·rename_i z
  cases hb:Nat.blt z 18446744073709551616 with
  | false=>rw [hb] at h;cases h
  | true=>
   rw [hb] at h;simp only [cond_true,Option.some.injEq] at h;subst h;refine zbB zhe (by rw [hf];exact hent) ?_
   intro w S args hg hrep;obtain ⟨u,v,rfl,h1,h2⟩:=ziO hrep;simp only [zm] at h1 h2;subst h1;subst h2;rw [hf];refine (hc z w (zds hb) hg).mono ?_;rintro e w' ⟨rfl,hw⟩;exact ⟨_,rfl,hw,fun S=>zdS (zkI z).symm⟩
 ·cases h
theorem zyn (hf:Λ.fid n=f) (hent:∀args w,(callFunc f args).run Λ.P w= .ok (.enter f args) w)
  (hc:∀(s:ByteArray) (z:Int) (w:World),s.size≤18→Lib.atoi s.data.toList=some z→Calls Λ.P f #[.string s] w fun e w'=>e= .returned (.tuple #[.int .i64 z,.nilIface])∧Calm w w'):
  ∀vals r,zm9 vals=some r→PureC Λ n vals r:=by
 intro vals r h;unfold zm9 at h
 split at h
 ·rename_i s
  cases hb:(Nat.blt 0 s.length&&Nat.ble s.length 18) with
  | false=>rw [hb] at h;cases h
  | true=>
   rw [hb] at h;simp only [cond_true] at h;simp only [Bool.and_eq_true] at hb;have l1:=zds hb.1;have l2:=Nat.le_of_ble_eq_true hb.2
   split at h
   ·rename_i z hz;simp only [Option.some.injEq] at h;subst h;refine zbB (zfT (by simp [zx])) (by rw [hf];exact hent) ?_
    intro w S args hg hrep;obtain ⟨u,rfl,h1⟩:=zlr hrep;simp only [zm] at h1;obtain ⟨t1,rfl,rfl⟩:=h1;rw [List.length_map] at l1 l2;have ha:Lib.atoi t1.data.toList=some (z:Int):=zwc hz l1;rw [hf];refine (hc t1 z w (by rw [Lib.size_eq];exact l2) ha).mono ?_
    rintro e w' ⟨rfl,hw⟩;refine ⟨_,rfl,hw,fun S=>?_⟩;simp only [zm,zi];exact ⟨_,rfl,_,_,rfl,rfl,_,_,rfl,trivial,rfl⟩
   ·cases h
 ·cases h
theorem zuC (hf:Λ.fid n=f) (hent:∀args w,(callFunc f args).run Λ.P w= .ok (.enter f args) w)
  (hc:∀(x y:Nat) (w:World),x<18446744073709551616→y<18446744073709551616→Calls Λ.P f #[.int .u64 x,.int .u64 y] w fun e w'=>e= .returned (.tuple #[.int .u64 ((x*y/18446744073709551616:Nat):Int),.int .u64 ((x*y%18446744073709551616:Nat):Int)])∧w'=w):
  ∀vals r,zer vals=some r→PureC Λ n vals r:=by
 intro vals r h;unfold zer at h
 split at h
 ·rename_i x y
  cases hb:(Nat.blt x 18446744073709551616&&Nat.blt y 18446744073709551616) with
  | false=>rw [hb] at h;cases h
  | true=>
   rw [hb] at h;simp only [cond_true,Option.some.injEq] at h;subst h;simp only [Bool.and_eq_true] at hb;refine zbB (zfT (by simp [zx])) (by rw [hf];exact hent) ?_
   intro w S args hg hrep;obtain ⟨u,v,rfl,h1,h2⟩:=ziO hrep;simp only [zm] at h1 h2;subst h1;subst h2;rw [hf];refine (hc x y w (zds hb.1) (zds hb.2)).mono ?_;rintro e w' ⟨rfl,rfl⟩;refine ⟨_,rfl,Calm.refl,fun S=>?_⟩;simp only [zm,zi];exact ⟨_,rfl,_,_,rfl,rfl,_,_,rfl,rfl,rfl⟩
 ·cases h
theorem ztZ (hf:Λ.fid n=f) (hent:∀args w,(callFunc f args).run Λ.P w= .ok (.enter f args) w)
  (hc:∀(x:Int) (w:World),0≤x→x≤18446744073709551615→Calls Λ.P f #[.int .u64 x] w fun e w'=>e= .returned (.int .i64 (Lib.bitLen x.toNat:Nat))∧w'=w):
  ∀vals r,zkn vals=some r→PureC Λ n vals r:=by
 intro vals r h;unfold zkn at h
 split at h
 ·rename_i x
  cases hb:Nat.blt x 18446744073709551616 with
  | false=>rw [hb] at h;cases h
  | true=>
   rw [hb] at h;simp only [cond_true,Option.some.injEq] at h;subst h
   have:=zds hb
   refine zbB zmN (by rw [hf];exact hent) ?_
   intro w S args hg hrep;obtain ⟨u,rfl,h1⟩:=zlr hrep;simp only [zm] at h1;subst h1;rw [hf];refine (hc (Int.ofNat x) w (Int.natCast_nonneg x) (by show (x:Int)≤_;omega)).mono ?_;rintro e w' ⟨rfl,rfl⟩;refine ⟨_,rfl,Calm.refl,fun S=>?_⟩;simp only [zm];rw [zkz];rfl
 ·cases h
theorem zye (hf:Λ.fid n=f) (hent:∀args w,(callFunc f args).run Λ.P w= .ok (.enter f args) w)
  (hc:∀(x:Int) (w:World),0≤x→x≤18446744073709551615→Calls Λ.P f #[.int .u64 x] w fun e w'=>e= .returned (.int .i64 (64-(Lib.bitLen x.toNat:Nat)))∧w'=w):
  ∀vals r,zl2 vals=some r→PureC Λ n vals r:=by
 intro vals r h;unfold zl2 at h
 split at h
 ·rename_i x
  cases hb:Nat.blt x 18446744073709551616 with
  | false=>rw [hb] at h;cases h
  | true=>
   rw [hb] at h;simp only [cond_true,Option.some.injEq] at h;subst h
   have:=zds hb
   have hle:∀f x,Lib.bitLenAux f x≤f:=by
    intro f
    induction f with
    | zero=>intro x;exact Nat.le_refl _
    | succ f ih=>
     intro x;rw [Lib.bitLenAux]
     have:=ih (x/2)
     split<;>omega
   refine zbB zmN (by rw [hf];exact hent) ?_
   intro w S args hg hrep;obtain ⟨u,rfl,h1⟩:=zlr hrep;simp only [zm] at h1;subst h1;rw [hf];refine (hc (Int.ofNat x) w (Int.natCast_nonneg x) (by show (x:Int)≤_;omega)).mono ?_;rintro e w' ⟨rfl,rfl⟩;refine ⟨_,rfl,Calm.refl,fun S=>?_⟩;simp only [zm,zkz]
   have:=hle 64 x
   show Value.int .i64 (64-(Lib.bitLenAux 64 x:Int))=Value.int .i64 ((64-Lib.bitLenAux 64 x:Nat):Int)
   congr 1
   omega
 ·cases h
theorem zof (hf:Λ.fid n=f) (hc:∀(b:Nat) (w:World),(callFunc f #[.float .f64 b]).run Λ.P w= .ok (.value (.int .u64 b)) w):
  ∀vals r,zkE vals=some r→PureC Λ n vals r:=by
 intro vals r h;unfold zkE at h
 split at h
 ·rename_i b;simp only [Option.some.injEq] at h;subst h;refine zf3 zmN ?_;intro w S args hrep;obtain ⟨u,rfl,h1⟩:=zlr hrep;simp only [zm] at h1;subst h1;rw [hf];exact ⟨_,hc b w,fun S=>rfl⟩
 ·cases h
theorem ziY (hf:Λ.fid n=f) (hc:∀(b:Nat) (w:World),(callFunc f #[.int .u64 b]).run Λ.P w= .ok (.value (.float .f64 b)) w):
  ∀vals r,zeO vals=some r→PureC Λ n vals r:=by
 intro vals r h;unfold zeO at h
 split at h
 ·rename_i b;simp only [Option.some.injEq] at h;subst h;refine zf3 zBV ?_;intro w S args hrep;obtain ⟨u,rfl,h1⟩:=zlr hrep;simp only [zm] at h1;subst h1;rw [hf];exact ⟨_,hc b w,fun S=>rfl⟩
 ·cases h
theorem zvw (hf:Λ.fid n=f)
  (hc:∀(x y c:Nat) (w:World),c≤1→(callFunc f #[.int .u64 x,.int .u64 y,.int .u64 c]).run Λ.P w= .ok (.value (.tuple #[.int .u64 (((x+y+c)%18446744073709551616:Nat):Int),.int .u64 (((x+y+c)/18446744073709551616:Nat):Int)])) w):
  ∀vals r,zc5 vals=some r→PureC Λ n vals r:=by
 intro vals r h;unfold zc5 at h
 split at h
 ·rename_i x y c
  cases hb:(Nat.ble c 1&&(Nat.blt x 18446744073709551616&&Nat.blt y 18446744073709551616)) with
  | false=>rw [hb] at h;cases h
  | true=>
   rw [hb] at h;simp only [cond_true,Option.some.injEq] at h;subst h;simp only [Bool.and_eq_true] at hb;refine zf3 (zfT (by simp [zx])) ?_;intro w S args hrep;obtain ⟨u,v,z,rfl,h1,h2,h3⟩:=zDg hrep;simp only [zm] at h1 h2 h3;subst h1;subst h2;subst h3;rw [hf];refine ⟨_,hc x y c w (Nat.le_of_ble_eq_true hb.1),fun S=>?_⟩;simp only [zm,zi];exact ⟨_,rfl,_,_,rfl,rfl,_,_,rfl,rfl,rfl⟩
 ·cases h
theorem zuO (hf:Λ.fid n=f)
  (hc:∀(x y b:Nat) (w:World),b≤1→(callFunc f #[.int .u64 x,.int .u64 y,.int .u64 b]).run Λ.P w= .ok (.value (.tuple #[.int .u64 (((x+18446744073709551616-y-b)%18446744073709551616:Nat):Int),.int .u64 ((if x<y+b then 1 else 0:Nat):Int)])) w):
  ∀vals r,zfF vals=some r→PureC Λ n vals r:=by
 intro vals r h;unfold zfF at h
 split at h
 ·rename_i x y c
  cases hb:(Nat.ble c 1&&(Nat.blt x 18446744073709551616&&Nat.blt y 18446744073709551616)) with
  | false=>rw [hb] at h;cases h
  | true=>
   rw [hb] at h;simp only [cond_true,Option.some.injEq] at h;subst h;simp only [Bool.and_eq_true] at hb;have hc1:=Nat.le_of_ble_eq_true hb.1;have hy:=zds hb.2.2;refine zf3 (zfT (by simp [zx])) ?_;intro w S args hrep;obtain ⟨u,v,z,rfl,h1,h2,h3⟩:=zDg hrep;simp only [zm] at h1 h2 h3;subst h1;subst h2;subst h3;rw [hf];refine ⟨_,hc x y c w hc1,fun S=>?_⟩;simp only [zm,zi];refine ⟨_,rfl,_,_,rfl,?_,_,_,rfl,?_,rfl⟩
   ·congr 2
    omega
   ·congr 1
    by_cases h:x<y+c
    ·have:Nat.ble (y+c) x=false:=by
      cases hq:Nat.ble (y+c) x with
      | false=>rfl
      | true=>have:=Nat.le_of_ble_eq_true hq;omega
     rw [this,if_pos h];rfl
    ·rw [Nat.ble_eq_true_of_le (by omega),if_neg h];rfl
 ·cases h
end
end
end VE
