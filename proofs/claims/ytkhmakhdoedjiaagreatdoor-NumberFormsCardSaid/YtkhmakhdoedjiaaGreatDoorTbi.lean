import Derived.Test.YtkhmakhdoedjiaaGreatDoorTbh
set_option linter.all false
set_option maxRecDepth 100000
open Nat (reduceEqDiff)
section
namespace VE
open Go (IntKind)
theorem zry (n:Int):IntKind.wrap .u64 n=n%18446744073709551616:=by
 simp [IntKind.wrap,IntKind.signed,IntKind.bits]
theorem zju (n:Nat):IntKind.wrap .u64 (n:Int)=((n%18446744073709551616:Nat):Int):=by rw [zry];omega
theorem ziZ (a b:Nat):binOp .mul (uc a) (uc b)=some (uc (a*b%18446744073709551616)):=by
 rw [zsU,←Int.natCast_mul,zju]
theorem zio (a b:Nat):binOp .add (uc a) (uc b)=some (uc ((a+b)%18446744073709551616)):=by
 rw [zsQ,←Int.natCast_add,zju]
theorem zpN {a b c:Nat} (h:(a+18446744073709551616-b)%18446744073709551616=c) (hb:b≤18446744073709551616):binOp .sub (uc a) (uc b)=some (uc c):=by
 rw [zjg,zry]
 congr 2
 omega
theorem zJa (k k':IntKind) (a b:Int):binOp .shl (.int k a) (.int k' b)=zfe .shl k a b:=rfl
theorem zxH (k k':IntKind) (a b:Int):binOp .shr (.int k a) (.int k' b)=zfe .shr k a b:=rfl
theorem zxP (k:IntKind) (a:Nat) {s:Nat} (hs:s≤64):binOp .shl (.int .u64 (a:Int)) (.int k (s:Int))=some (uc (a*2^s%18446744073709551616)):=by
 rw [zJa];simp only [zfe,if_neg (show ¬(s:Int)<0 by omega),Int.toNat_natCast,IntKind.bits,Nat.min_eq_left hs];rw [show ((2:Int)^s)=((2^s:Nat):Int) by simp,←Int.natCast_mul,zju]
theorem zwS (k:IntKind) (a:Nat) {s:Nat} (hs:s≤64):binOp .shr (.int .u64 (a:Int)) (.int k (s:Int))=some (uc (a/2^s)):=by
 rw [zxH];simp only [zfe,if_neg (show ¬(s:Int)<0 by omega),Int.toNat_natCast,IntKind.bits,Nat.min_eq_left hs];rw [show ((2:Int)^s)=((2^s:Nat):Int) by simp,Int.fdiv_eq_ediv_of_nonneg _ (Int.natCast_nonneg _)];rfl
theorem zN9 (a:Nat):binOp .and (.int .u64 (a:Int)) (.int .u64 4294967295)=some (uc (a%4294967296)):=by
 show some (AV.int .u64 (IntKind.wrap .u64 ((BitVec.ofInt 64 (a:Int)&&&BitVec.ofInt 64 4294967295).toNat:Int)))=_
 congr 2
 rw [show BitVec.ofInt 64 (a:Int)=BitVec.ofNat 64 a from BitVec.ofInt_natCast 64 a,show BitVec.ofInt 64 4294967295=BitVec.ofNat 64 4294967295 from rfl];rw [BitVec.toNat_and,BitVec.toNat_ofNat,BitVec.toNat_ofNat,show (4294967295%2^64:Nat)=2^32-1 from rfl,Nat.and_two_pow_sub_one_eq_mod,zju]
 congr 1
 omega
theorem orU {a b:Nat} (ha:a<18446744073709551616) (hb:b<18446744073709551616):binOp .or (.int .u64 (a:Int)) (.int .u64 (b:Int))=some (uc (a|||b)):=by
 show some (AV.int .u64 (IntKind.wrap .u64 ((BitVec.ofInt 64 (a:Int)|||BitVec.ofInt 64 (b:Int)).toNat:Int)))=_
 congr 2
 rw [show BitVec.ofInt 64 (a:Int)=BitVec.ofNat 64 a from BitVec.ofInt_natCast 64 a,show BitVec.ofInt 64 (b:Int)=BitVec.ofNat 64 b from BitVec.ofInt_natCast 64 b];rw [BitVec.toNat_or,BitVec.toNat_ofNat,BitVec.toNat_ofNat,Nat.mod_eq_of_lt (show a<2^64 from ha),Nat.mod_eq_of_lt (show b<2^64 from hb),zju]
 have:a|||b<2^64:=Nat.or_lt_two_pow ha hb
 omega
theorem zpl {p s c:Nat} (h:c<2^s):(p*2^s)|||c=p*2^s+c:=by
 rw [←Nat.shiftLeft_eq,←Nat.shiftLeft_add_eq_or_of_lt h]
theorem zkQ:∀(f n:Nat),n<2^f→zbM f n≤f∧n<2^zbM f n∧(0<n→0<zbM f n∧2^(zbM f n-1)≤n)
 | 0,n,h=>by simp [zbM];simpa using h
 | f+1,n,h=>by
  simp only [zbM];by_cases h0:n=0
  ·subst h0;simp
  ·rw [zaH h0,cond_false];rw [Nat.pow_succ] at h;obtain ⟨h1,h2,h3⟩:=zkQ f (n/2) (by omega);refine ⟨by omega,?_,fun _=>⟨by omega,?_⟩⟩
   ·rw [Nat.add_comm,Nat.pow_succ];omega
   ·rw [Nat.add_sub_cancel_left];by_cases hn:0<n/2
    ·obtain ⟨h4,h5⟩:=h3 hn;obtain ⟨m,hm⟩:∃m,zbM f (n/2)=m+1:=⟨zbM f (n/2)-1,by omega⟩;rw [hm] at h5 ⊢;rw [Nat.add_sub_cancel] at h5;rw [Nat.pow_succ];omega
    ·have hz:n/2=0:=by omega
     rw [hz]
     have:zbM f 0=0:=by cases f with
      | zero=>rfl
      | succ f=>rfl
     rw [this];simp;omega
theorem zkK {y:Nat} (h0:0<y) (h:y<18446744073709551616):64-zbM 64 y<64∧9223372036854775808≤y*2^(64-zbM 64 y)∧y*2^(64-zbM 64 y)<18446744073709551616:=by
 obtain ⟨h1,h2,h3⟩:=zkQ 64 y h;obtain ⟨h4,h5⟩:=h3 h0;generalize zbM 64 y=k at*
 refine ⟨by omega,?_,?_⟩
 ·have:=Nat.mul_le_mul_right (2^(64-k)) h5
  rw [←Nat.pow_add,show k-1+(64-k)=63 by omega] at this;exact this
 ·have:=Nat.mul_lt_mul_of_pos_right h2 (Nat.two_pow_pos (64-k))
  rw [←Nat.pow_add,show k+(64-k)=64 by omega] at this;exact this
section
variable {P:zN} {L:Lib} {f:Run}
theorem zvI (h:L.pure 167=some zl2) {x:Nat} (hx:x<18446744073709551616):zk P L f 167 [uc x]=some (zh (64-zbM 64 x:Nat)):=by
 rw [zaA h];show (bif Nat.blt x 18446744073709551616 then _ else none)=_
 rw [zcP hx];rfl
theorem zut {b v1 v2 u u2 t r:Nat} (hv2:v2<b) (htb:t<b) (ht:t*v1+r=u) (h:b≤r∨t*v2≤b*r+u2):t*(v1*b+v2)≤u*b+u2:=by
 have h2:t*v2≤b*r+u2:=by
  rcases h with h | h
  ·have:=Nat.mul_le_mul (Nat.le_of_lt htb) (Nat.le_of_lt hv2)
   have:=Nat.mul_le_mul_left b h
   omega
  ·exact h
 rw [Nat.mul_add,←Nat.mul_assoc,←ht,Nat.add_mul,Nat.mul_comm r b];omega
theorem zML (n:Nat):ziV (.toInt .u64) (.int .i64 (n:Int))=some (uc (n%18446744073709551616)):=by
 show some (AV.int .u64 (IntKind.wrap .u64 (n:Int)))=_
 rw [zju]
theorem zir {y v1 v2 u u2 q r:Nat} (hy:y=v1*4294967296+v2) (hv2:v2<4294967296) (hv0:0<v1) (hv1:v1<4294967296) (hu:u<y) (hu2:u2<4294967296) (hq:q*v1+r=u) (hr:r<4294967296) (hQ:(u*4294967296+u2)/y≤q):
  (4294967296≤q∨4294967296*r+u2<q*v2→0<q∧(q-1)*v1+(r+v1)=u∧(u*4294967296+u2)/y≤q-1∧(4294967296≤r+v1→(u*4294967296+u2)/y=q-1))∧
  (¬4294967296≤q→q*v2≤4294967296*r+u2→(u*4294967296+u2)/y=q):=by
 have hy0:0<y:=by omega
 have big:∀t s,t*v1+s=u→4294967296≤t→s<4294967296:=fun t s h1 h2=>by
  have:=Nat.mul_le_mul_right v1 h2
  rw [Nat.mul_comm v1 4294967296] at hy;omega
 have exact':∀t s,t*v1+s=u→t<4294967296→(4294967296≤s∨t*v2≤4294967296*s+u2)→(u*4294967296+u2)/y≤t→(u*4294967296+u2)/y=t:=fun t s h1 h2 h3 h4=>by
  have:=zut hv2 h2 h1 h3
  rw [←hy] at this
  have:=(Nat.le_div_iff_mul_le hy0).2 this
  omega
 constructor
 ·intro h;have hq0:0<q:=by
   rcases Nat.eq_zero_or_pos q with h0 | h0
   ·subst h0;omega
   ·exact h0
  have h1:(q-1)*v1+(r+v1)=u:=by
   obtain ⟨p,rfl⟩:∃p,q=p+1:=⟨q-1,by omega⟩;rw [Nat.add_mul,Nat.one_mul] at hq;rw [Nat.add_sub_cancel];omega
  have h2:(u*4294967296+u2)/y≤q-1:=by
   have hlt:u*4294967296+u2<q*y:=by
    rcases h with h | h
    ·have h3:u*4294967296+u2<4294967296*y:=by omega
     exact Nat.lt_of_lt_of_le h3 (Nat.mul_le_mul_right y h)
    ·rw [hy,Nat.mul_add,←Nat.mul_assoc,←hq,Nat.add_mul,Nat.mul_comm r];omega
   have:=(Nat.div_lt_iff_lt_mul hy0).2 hlt
   omega
  exact ⟨hq0,h1,h2,fun h3=>exact' _ _ h1 (by
   by_cases hb:4294967296≤q-1
   ·have:=big _ _ h1 hb;omega
   ·omega) (.inl h3) h2⟩
 ·intro h1 h2;exact exact' q r hq (by omega) (.inr h2) hQ
theorem zJB {y s v1 v2 u u2 z:Nat} (hy:y=v1*4294967296+v2) (hv2:v2<4294967296) (hv0:0<v1) (hv1:v1<4294967296) (hu:u<y) (hu2:u2<4294967296):
  ∀k st,(∃q r:Nat,zA [2,8,9,10,11,13,14,15,16] st=⟨[(2,uc y),(8,uc s),(9,uc v1),(10,uc v2),(11,uc u),(13,uc u2),(14,uc z),(15,uc q),(16,uc r)],[],0,0⟩∧q*v1+r=u∧r<4294967296∧(u*4294967296+u2)/y≤q∧q=k)→
   ∃ex st',D P L (.loop [2,8,9,10,11,13,14,15,16] zfM) st=some (ex,st')∧∃tm ct,st'=⟨tm,[],ct,0⟩∧ex= .exit 0∧zc tm 2=uc y∧zc tm 8=uc s∧zc tm 9=uc v1∧zc tm 10=uc v2∧zc tm 11=uc u∧zc tm 13=uc u2∧zc tm 14=uc z∧zc tm 15=uc ((u*4294967296+u2)/y):=by
 refine zS (I:=fun k st=>∃q r:Nat,st=⟨[(2,uc y),(8,uc s),(9,uc v1),(10,uc v2),(11,uc u),(13,uc u2),(14,uc z),(15,uc q),(16,uc r)],[],0,0⟩∧q*v1+r=u∧r<4294967296∧(u*4294967296+u2)/y≤q∧q=k)
  (Q:=fun ex st'=>∃tm ct,st'=⟨tm,[],ct,0⟩∧ex= .exit 0∧zc tm 2=uc y∧zc tm 8=uc s∧zc tm 9=uc v1∧zc tm 10=uc v2∧zc tm 11=uc u∧zc tm 13=uc u2∧zc tm 14=uc z∧zc tm 15=uc ((u*4294967296+u2)/y)) ?_
 rintro k st ⟨q,r,rfl,hq,hr,hQ,rfl⟩;obtain ⟨g1,g2⟩:=zir hy hv2 hv0 hv1 hu hu2 hq hr hQ;have hqb:q*1≤q*v1:=Nat.mul_le_mul_left q hv0;have hv1m:=Nat.mul_le_mul_right 4294967296 (show v1≤4294967295 by omega);have hqW:q<18446744073709551616:=by omega
 have hbr:=Nat.mul_le_mul_left 4294967296 (show r≤4294967295 by omega);have e1:=ziZ 4294967296 r;rw [show uc 4294967296=AV.int .u64 4294967296 from rfl,Nat.mod_eq_of_lt (show 4294967296*r<18446744073709551616 by omega)] at e1;have e2:=zio (4294967296*r) u2;rw [Nat.mod_eq_of_lt (show 4294967296*r+u2<18446744073709551616 by omega)] at e2;have e4:=zio r v1;rw [Nat.mod_eq_of_lt (show r+v1<18446744073709551616 by omega)] at e4;by_cases hc:4294967296≤q∨4294967296*r+u2<q*v2
 ·obtain ⟨h0,h1,h2,h3⟩:=g1 hc;have e3:binOp .sub (uc q) (.int .u64 1)=some (uc (q-1)):=zpN (b:=1) (by omega) (by omega);by_cases hb:4294967296≤r+v1
  ·right
   have hQ1:=h3 hb;rcases (show 4294967296≤q∨(¬4294967296≤q∧4294967296*r+u2<q*v2) by omega) with t1 | ⟨t1,t2⟩
   ·simp only [go_sem,reduceEqDiff,zfM,show (4294967296:Int)≤(q:Int) by omega,e3,e4,show (4294967296:Int)≤((r+v1:Nat):Int) by omega];exact ⟨_,_,rfl,by simp,_,_,rfl,rfl,by simp only [go_sem,reduceEqDiff],by simp only [go_sem,reduceEqDiff],by simp only [go_sem,reduceEqDiff],by simp only [go_sem,reduceEqDiff],by simp only [go_sem,reduceEqDiff],by simp only [go_sem,reduceEqDiff],by simp only [go_sem,reduceEqDiff],by rw [hQ1];simp only [go_sem,reduceEqDiff]⟩
   ·have hqv:=Nat.mul_le_mul (show q≤4294967295 by omega) (show v2≤4294967295 by omega);have e5:=ziZ q v2;rw [Nat.mod_eq_of_lt (show q*v2<18446744073709551616 by omega)] at e5;simp only [go_sem,reduceEqDiff,zfM,show ¬(4294967296:Int)≤(q:Int) by omega,e5,e1,e2,show ((4294967296*r+u2:Nat):Int)<((q*v2:Nat):Int) by omega,e3,e4,show (4294967296:Int)≤((r+v1:Nat):Int) by omega];exact ⟨_,_,rfl,by simp,_,_,rfl,rfl,by simp only [go_sem,reduceEqDiff],by simp only [go_sem,reduceEqDiff],by simp only [go_sem,reduceEqDiff],by simp only [go_sem,reduceEqDiff],by simp only [go_sem,reduceEqDiff],by simp only [go_sem,reduceEqDiff],by simp only [go_sem,reduceEqDiff],by rw [hQ1];simp only [go_sem,reduceEqDiff]⟩
  ·left
   rcases (show 4294967296≤q∨(¬4294967296≤q∧4294967296*r+u2<q*v2) by omega) with t1 | ⟨t1,t2⟩
   ·simp only [go_sem,reduceEqDiff,zfM,show (4294967296:Int)≤(q:Int) by omega,e3,e4,show ¬(4294967296:Int)≤((r+v1:Nat):Int) by omega];exact ⟨_,q-1,rfl,by omega,q-1,r+v1,by simp only [go_sem,reduceEqDiff,za],h1,by omega,h2,rfl⟩
   ·have hqv:=Nat.mul_le_mul (show q≤4294967295 by omega) (show v2≤4294967295 by omega);have e5:=ziZ q v2;rw [Nat.mod_eq_of_lt (show q*v2<18446744073709551616 by omega)] at e5;simp only [go_sem,reduceEqDiff,zfM,show ¬(4294967296:Int)≤(q:Int) by omega,e5,e1,e2,show ((4294967296*r+u2:Nat):Int)<((q*v2:Nat):Int) by omega,e3,e4,show ¬(4294967296:Int)≤((r+v1:Nat):Int) by omega];exact ⟨_,q-1,rfl,by omega,q-1,r+v1,by simp only [go_sem,reduceEqDiff,za],h1,by omega,h2,rfl⟩
 ·right
  have hQ1:=g2 (by omega) (by omega);have hqv:=Nat.mul_le_mul (show q≤4294967295 by omega) (show v2≤4294967295 by omega);have e5:=ziZ q v2;rw [Nat.mod_eq_of_lt (show q*v2<18446744073709551616 by omega)] at e5;simp only [go_sem,reduceEqDiff,zfM,show ¬(4294967296:Int)≤(q:Int) by omega,e5,e1,e2,show ¬((4294967296*r+u2:Nat):Int)<((q*v2:Nat):Int) by omega];exact ⟨_,_,rfl,by simp,_,_,rfl,rfl,by simp only [go_sem,reduceEqDiff],by simp only [go_sem,reduceEqDiff],by simp only [go_sem,reduceEqDiff],by simp only [go_sem,reduceEqDiff],by simp only [go_sem,reduceEqDiff],by simp only [go_sem,reduceEqDiff],by simp only [go_sem,reduceEqDiff],by rw [hQ1];simp only [go_sem,reduceEqDiff]⟩
end
end VE
end
section
namespace VE
open Go (IntKind)
section
variable {P:zN} {L:Lib} {f:Run}
theorem zHr {y s v1 v2 u u2 z:Nat} (hy:y=v1*4294967296+v2) (hv2:v2<4294967296) (hv0:0<v1) (hv1:v1<4294967296) (hu:u<y) (hu2:u2<4294967296):
  ∀k st,(∃q r:Nat,zA [2,8,9,10,14,15,16,17,18] st=⟨[(2,uc y),(8,uc s),(9,uc v1),(10,uc v2),(14,uc u2),(15,uc z),(16,uc r),(17,uc u),(18,uc q)],[],0,0⟩∧q*v1+r=u∧r<4294967296∧(u*4294967296+u2)/y≤q∧q=k)→
   ∃ex st',D P L (.loop [2,8,9,10,14,15,16,17,18] zfC) st=some (ex,st')∧∃tm ct,st'=⟨tm,[],ct,0⟩∧ex= .exit 2∧zc tm 2=uc y∧zc tm 8=uc s∧zc tm 9=uc v1∧zc tm 10=uc v2∧zc tm 14=uc u2∧zc tm 15=uc z∧zc tm 17=uc u∧zc tm 18=uc ((u*4294967296+u2)/y):=by
 refine zS (I:=fun k st=>∃q r:Nat,st=⟨[(2,uc y),(8,uc s),(9,uc v1),(10,uc v2),(14,uc u2),(15,uc z),(16,uc r),(17,uc u),(18,uc q)],[],0,0⟩∧q*v1+r=u∧r<4294967296∧(u*4294967296+u2)/y≤q∧q=k)
  (Q:=fun ex st'=>∃tm ct,st'=⟨tm,[],ct,0⟩∧ex= .exit 2∧zc tm 2=uc y∧zc tm 8=uc s∧zc tm 9=uc v1∧zc tm 10=uc v2∧zc tm 14=uc u2∧zc tm 15=uc z∧zc tm 17=uc u∧zc tm 18=uc ((u*4294967296+u2)/y)) ?_
 rintro k st ⟨q,r,rfl,hq,hr,hQ,rfl⟩;obtain ⟨g1,g2⟩:=zir hy hv2 hv0 hv1 hu hu2 hq hr hQ;have hqb:q*1≤q*v1:=Nat.mul_le_mul_left q hv0;have hv1m:=Nat.mul_le_mul_right 4294967296 (show v1≤4294967295 by omega);have hqW:q<18446744073709551616:=by omega
 have hbr:=Nat.mul_le_mul_left 4294967296 (show r≤4294967295 by omega);have e1:=ziZ 4294967296 r;rw [show uc 4294967296=AV.int .u64 4294967296 from rfl,Nat.mod_eq_of_lt (show 4294967296*r<18446744073709551616 by omega)] at e1;have e2:=zio (4294967296*r) u2;rw [Nat.mod_eq_of_lt (show 4294967296*r+u2<18446744073709551616 by omega)] at e2;have e4:=zio r v1;rw [Nat.mod_eq_of_lt (show r+v1<18446744073709551616 by omega)] at e4;by_cases hc:4294967296≤q∨4294967296*r+u2<q*v2
 ·obtain ⟨h0,h1,h2,h3⟩:=g1 hc;have e3:binOp .sub (uc q) (.int .u64 1)=some (uc (q-1)):=zpN (b:=1) (by omega) (by omega);by_cases hb:4294967296≤r+v1
  ·right
   have hQ1:=h3 hb;rcases (show 4294967296≤q∨(¬4294967296≤q∧4294967296*r+u2<q*v2) by omega) with t1 | ⟨t1,t2⟩
   ·simp only [go_sem,reduceEqDiff,zfC,show (4294967296:Int)≤(q:Int) by omega,e3,e4,show (4294967296:Int)≤((r+v1:Nat):Int) by omega];exact ⟨_,_,rfl,by simp,_,_,rfl,rfl,by simp only [go_sem,reduceEqDiff],by simp only [go_sem,reduceEqDiff],by simp only [go_sem,reduceEqDiff],by simp only [go_sem,reduceEqDiff],by simp only [go_sem,reduceEqDiff],by simp only [go_sem,reduceEqDiff],by simp only [go_sem,reduceEqDiff],by rw [hQ1];simp only [go_sem,reduceEqDiff]⟩
   ·have hqv:=Nat.mul_le_mul (show q≤4294967295 by omega) (show v2≤4294967295 by omega);have e5:=ziZ q v2;rw [Nat.mod_eq_of_lt (show q*v2<18446744073709551616 by omega)] at e5;simp only [go_sem,reduceEqDiff,zfC,show ¬(4294967296:Int)≤(q:Int) by omega,e5,e1,e2,show ((4294967296*r+u2:Nat):Int)<((q*v2:Nat):Int) by omega,e3,e4,show (4294967296:Int)≤((r+v1:Nat):Int) by omega];exact ⟨_,_,rfl,by simp,_,_,rfl,rfl,by simp only [go_sem,reduceEqDiff],by simp only [go_sem,reduceEqDiff],by simp only [go_sem,reduceEqDiff],by simp only [go_sem,reduceEqDiff],by simp only [go_sem,reduceEqDiff],by simp only [go_sem,reduceEqDiff],by simp only [go_sem,reduceEqDiff],by rw [hQ1];simp only [go_sem,reduceEqDiff]⟩
  ·left
   rcases (show 4294967296≤q∨(¬4294967296≤q∧4294967296*r+u2<q*v2) by omega) with t1 | ⟨t1,t2⟩
   ·simp only [go_sem,reduceEqDiff,zfC,show (4294967296:Int)≤(q:Int) by omega,e3,e4,show ¬(4294967296:Int)≤((r+v1:Nat):Int) by omega];exact ⟨_,q-1,rfl,by omega,q-1,r+v1,by simp only [go_sem,reduceEqDiff,za],h1,by omega,h2,rfl⟩
   ·have hqv:=Nat.mul_le_mul (show q≤4294967295 by omega) (show v2≤4294967295 by omega);have e5:=ziZ q v2;rw [Nat.mod_eq_of_lt (show q*v2<18446744073709551616 by omega)] at e5;simp only [go_sem,reduceEqDiff,zfC,show ¬(4294967296:Int)≤(q:Int) by omega,e5,e1,e2,show ((4294967296*r+u2:Nat):Int)<((q*v2:Nat):Int) by omega,e3,e4,show ¬(4294967296:Int)≤((r+v1:Nat):Int) by omega];exact ⟨_,q-1,rfl,by omega,q-1,r+v1,by simp only [go_sem,reduceEqDiff,za],h1,by omega,h2,rfl⟩
 ·right
  have hQ1:=g2 (by omega) (by omega);have hqv:=Nat.mul_le_mul (show q≤4294967295 by omega) (show v2≤4294967295 by omega);have e5:=ziZ q v2;rw [Nat.mod_eq_of_lt (show q*v2<18446744073709551616 by omega)] at e5;simp only [go_sem,reduceEqDiff,zfC,show ¬(4294967296:Int)≤(q:Int) by omega,e5,e1,e2,show ¬((4294967296*r+u2:Nat):Int)<((q*v2:Nat):Int) by omega];exact ⟨_,_,rfl,by simp,_,_,rfl,rfl,by simp only [go_sem,reduceEqDiff],by simp only [go_sem,reduceEqDiff],by simp only [go_sem,reduceEqDiff],by simp only [go_sem,reduceEqDiff],by simp only [go_sem,reduceEqDiff],by simp only [go_sem,reduceEqDiff],by simp only [go_sem,reduceEqDiff],by rw [hQ1];simp only [go_sem,reduceEqDiff]⟩
theorem zDp (a:Nat):binOp .shr (.int .u64 (a:Int)) (.int .u64 32)=some (uc (a/4294967296)):=zwS .u64 a (s:=32) (by decide)
theorem zPb (a:Nat) {b:Nat} (ha:a<18446744073709551616) (hb:0<b):binOp .quo (uc a) (uc b)=some (uc (a/b)):=by
 rw [zai _ _ _ (by omega),Int.tdiv_eq_ediv_of_nonneg (by omega),←Int.natCast_ediv,zju,Nat.mod_eq_of_lt];exact Nat.lt_of_le_of_lt (Nat.div_le_self a b) ha
theorem zPJ (a:Nat) {b:Nat} (hb:0<b):binOp .rem (uc a) (uc b)=some (uc (a%b)):=by
 rw [zaK _ _ _ (by omega),Int.tmod_eq_emod_of_nonneg (by omega),←Int.natCast_emod]
theorem ztW {hi lo y s u z Y:Nat} (hs:s<64) (hlo:lo<18446744073709551616) (hY:Y=y*2^s) (hu:u=hi*2^s+lo/2^(64-s)) (hz:z=lo*2^s%18446744073709551616):
  (hi*18446744073709551616+lo)*2^s=u*18446744073709551616+z:=by
 have e:18446744073709551616=2^(64-s)*2^s:=by rw [←Nat.pow_add,show 64-s+s=64 by omega]
 have h1:lo*2^s/18446744073709551616=lo/2^(64-s):=by
  rw [e,Nat.mul_div_mul_right _ _ (Nat.two_pow_pos s)]
 have h2:=Nat.div_add_mod (lo*2^s) 18446744073709551616;rw [h1,←hz] at h2;rw [hu,Nat.add_mul,Nat.add_mul,←h2,Nat.mul_right_comm];omega
theorem zmb {Y q a b:Nat} (h1:a<Y) (h2:b<4294967296) (h3:q=(a*4294967296+b)/Y):q<4294967296:=by
 rw [h3];exact (Nat.div_lt_iff_lt_mul (by omega)).2 (by omega)
theorem zwl {u w x z z0 z1 q0 q1 Y:Nat} (hd1:q1*Y+w=u*4294967296+z1) (hd0:q0*Y+x=w*4294967296+z0) (hz:z=z1*4294967296+z0):u*18446744073709551616+z=(q1*4294967296+q0)*Y+x:=by
 have e:u*18446744073709551616=u*4294967296*4294967296:=by rw [Nat.mul_assoc]
 have h1:(q1*Y+w)*4294967296=(u*4294967296+z1)*4294967296:=by rw [hd1]
 have h2:(q1*4294967296+q0)*Y=q1*Y*4294967296+q0*Y:=by rw [Nat.add_mul,Nat.mul_right_comm]
 rw [Nat.add_mul,Nat.add_mul] at h1;have h3:w*4294967296+z0=q0*Y+x:=hd0.symm;rw [e,h2,hz];clear e h2 hz hd1 hd0;rw [show u*4294967296*4294967296+(z1*4294967296+z0)=(u*4294967296*4294967296+z1*4294967296)+z0 from (Nat.add_assoc _ _ _).symm,←h1,Nat.add_assoc,Nat.add_assoc,h3]
theorem zpy {q1 q0:Nat} (h1:q1<4294967296) (h0:q0<4294967296):q1*4294967296<18446744073709551616∧q1*4294967296+q0<18446744073709551616:=by
 have e:4294967296*4294967296=18446744073709551616:=rfl;have h2:=Nat.mul_le_mul_right 4294967296 (show q1+1≤4294967296 from h1);rw [e,Nat.add_mul,Nat.one_mul] at h2;exact ⟨Nat.lt_of_lt_of_le (Nat.lt_add_of_pos_right (by decide)) h2,Nat.lt_of_lt_of_le (Nat.add_lt_add_left h0 _) h2⟩
theorem zM3 (h:Has P L 165 zwz) (h167:L.pure 167=some zl2) {hi lo y:Nat} (hhi:hi<y) (hlo:lo<18446744073709551616) (hy:y<18446744073709551616):
  zK P L 165 [uc hi,uc lo,uc y] (.tup [uc ((hi*18446744073709551616+lo)/y),uc ((hi*18446744073709551616+lo)%y)]):=by
 have hy0:0<y:=by omega
 by_cases h0:hi=0
 ·subst h0;have e1:=zPb lo hlo hy0;have e2:=zPJ lo hy0;rw [Nat.zero_mul,Nat.zero_add];unfold zK;rw [zf h];simp only [go_sem,reduceEqDiff,zwz,show ¬(y:Int)=0 by omega,show ¬(y:Int)≤0 by omega,show ((0:Nat):Int)=0 from rfl,e1,e2];rfl
 ·obtain ⟨s,hs⟩:∃s,s=64-zbM 64 y:=⟨_,rfl⟩;have hl:=zvI (P:=P) (f:=D P L) h167 hy;obtain ⟨l1,l2,l3⟩:=zkK hy0 hy;rw [←hs] at hl l1 l2 l3;obtain ⟨Y,hY⟩:∃Y,Y=y*2^s:=⟨_,rfl⟩;obtain ⟨u,hu⟩:∃u,u=hi*2^s+lo/2^(64-s):=⟨_,rfl⟩;obtain ⟨z,hz⟩:∃z,z=lo*2^s%18446744073709551616:=⟨_,rfl⟩;have hdiv:=ztW l1 hlo hY hu hz;rw [←hY] at l2 l3;have hp:=Nat.two_pow_pos s;obtain ⟨v1,hv1⟩:∃v,v=Y/4294967296:=⟨_,rfl⟩;obtain ⟨v2,hv2⟩:∃v,v=Y%4294967296:=⟨_,rfl⟩;have hYv:Y=v1*4294967296+v2:=by omega
  obtain ⟨z1,hz1⟩:∃v,v=z/4294967296:=⟨_,rfl⟩;obtain ⟨z0,hz0⟩:∃v,v=z%4294967296:=⟨_,rfl⟩;have hzW:z<18446744073709551616:=by omega
  have hhY:hi*2^s<Y:=by rw [hY];exact Nat.mul_lt_mul_of_pos_right hhi hp
  have hcl:lo/2^(64-s)<2^s:=by
   refine (Nat.div_lt_iff_lt_mul (Nat.two_pow_pos _)).2 ?_;rw [←Nat.pow_add,show s+(64-s)=64 by omega];exact hlo
  have hor:hi*2^s|||lo/2^(64-s)=u:=by rw [zpl hcl,hu]
  have hN:hi*18446744073709551616+lo<y*18446744073709551616:=by
   have:=Nat.mul_le_mul_right 18446744073709551616 (show hi+1≤y from hhi)
   omega
  have huY:u<Y:=by
   have h1:=Nat.mul_lt_mul_of_pos_right hN hp;rw [hdiv,Nat.mul_right_comm,←hY] at h1;omega
  obtain ⟨q1,hq1⟩:∃q,q=(u*4294967296+z1)/Y:=⟨_,rfl⟩;obtain ⟨w,hw⟩:∃q,q=(u*4294967296+z1)%Y:=⟨_,rfl⟩;obtain ⟨q0,hq0⟩:∃q,q=(w*4294967296+z0)/Y:=⟨_,rfl⟩;obtain ⟨x,hx⟩:∃q,q=(w*4294967296+z0)%Y:=⟨_,rfl⟩;have hwY:w<Y:=by rw [hw];exact Nat.mod_lt _ (by omega)
  have hxY:x<Y:=by rw [hx];exact Nat.mod_lt _ (by omega)
  have hd1:=Nat.div_add_mod (u*4294967296+z1) Y;rw [←hq1,←hw,Nat.mul_comm] at hd1;have hd0:=Nat.div_add_mod (w*4294967296+z0) Y;rw [←hq0,←hx,Nat.mul_comm] at hd0;have hq1B:=zmb huY (show z1<4294967296 by omega) hq1;have hq0B:=zmb hwY (show z0<4294967296 by omega) hq0;obtain ⟨td1,td2⟩:=zpy hq1B hq0B;have hfin:(hi*18446744073709551616+lo)*2^s=(q1*4294967296+q0)*Y+x:=by
   rw [hdiv];exact zwl hd1 hd0 (by omega)
  have r1:(hi*18446744073709551616+lo)/y=q1*4294967296+q0:=by
   rw [←Nat.mul_div_mul_right _ _ hp,hfin,←hY,Nat.mul_comm _ Y,Nat.mul_add_div (by omega),Nat.div_eq_of_lt hxY,Nat.add_zero]
  have r2:x/2^s=(hi*18446744073709551616+lo)%y:=by
   have h1:x=(hi*18446744073709551616+lo)*2^s%(y*2^s):=by
    rw [hfin,←hY,Nat.mul_comm _ Y,Nat.mul_add_mod,Nat.mod_eq_of_lt hxY]
   rw [h1,Nat.mul_mod_mul_right,Nat.mul_div_cancel _ hp]
  have o1:=zxP .u64 y (s:=s) (by omega);rw [←hY,Nat.mod_eq_of_lt l3] at o1;have o2:=zDp Y;rw [←hv1] at o2;have o3:=zN9 Y;rw [←hv2] at o3;have o4:=zxP .u64 hi (s:=s) (by omega);rw [Nat.mod_eq_of_lt (show hi*2^s<18446744073709551616 by omega)] at o4;have o5:binOp .sub (.int .u64 64) (uc s)=some (uc (64-s)):=zpN (a:=64) (by omega) (by omega);have o6:=zwS .u64 lo (s:=64-s) (by omega);have o7:=orU (a:=hi*2^s) (b:=lo/2^(64-s)) (by omega) (Nat.lt_of_le_of_lt (Nat.div_le_self _ _) hlo);rw [hor] at o7;have o8:=zxP .u64 lo (s:=s) (by omega);rw [←hz] at o8;have o9:=zDp z;rw [←hz1] at o9;have o10:=zN9 z;rw [←hz0] at o10;have hv10:0<v1:=by omega
  have guess:∀{a:Nat},a<Y→binOp .quo (uc a) (uc v1)=some (uc (a/v1))∧binOp .mul (uc (a/v1)) (uc v1)=some (uc (a/v1*v1))∧binOp .sub (uc a) (uc (a/v1*v1))=some (uc (a%v1)):=fun {a} ha=>by
   have h1:=Nat.div_add_mod a v1;rw [Nat.mul_comm] at h1;have h2:=ziZ (a/v1) v1;generalize a/v1*v1=m at*
   rw [Nat.mod_eq_of_lt (show m<18446744073709551616 by omega)] at h2;exact ⟨zPb a (by omega) hv10,h2,zpN (by omega) (by omega)⟩
  obtain ⟨g1,g2,g3⟩:=guess huY;obtain ⟨g4,g5,g6⟩:=guess hwY;have first:∀{a b:Nat},b<4294967296→(a*4294967296+b)/Y≤a/v1:=fun {a b} hb=>by
   have:=zfv (b:=4294967296) (V:=Y) (v1:=v1) (v2:=v2) (vr:=0) (U:=a*4294967296+b) (u0:=0) (u1:=a) (u2:=b) (ur:=0) (p:=1) (by omega) (by omega) (by decide) hb hv10
   simpa using this
  have back:∀{a b q x:Nat},a*4294967296+b=q*Y+x→x<Y→binOp .mul (uc a) (.int .u64 4294967296)=some (uc (a*4294967296%18446744073709551616))∧binOp .add (uc (a*4294967296%18446744073709551616)) (uc b)=some (uc ((a*4294967296%18446744073709551616+b)%18446744073709551616))∧
    binOp .mul (uc q) (uc Y)=some (uc (q*Y%18446744073709551616))∧binOp .sub (uc ((a*4294967296%18446744073709551616+b)%18446744073709551616)) (uc (q*Y%18446744073709551616))=some (uc x):=fun {a b q x} h1 h2=>by
   refine ⟨ziZ a 4294967296,zio _ _,ziZ q Y,zpN ?_ (by omega)⟩;generalize q*Y=m at*
   omega
  obtain ⟨k1,k2,k3,k4⟩:=back hd1.symm hwY;obtain ⟨k5,k6,k7,k8⟩:=back hd0.symm hxY;have m1:=ziZ q1 4294967296;rw [Nat.mod_eq_of_lt td1,show uc 4294967296=AV.int .u64 4294967296 from rfl] at m1;have m2:=zio (q1*4294967296) q0;rw [Nat.mod_eq_of_lt td2] at m2;have m3:=zwS .u64 x (s:=s) (by omega);rw [r1,←r2];unfold zK;rw [zf h];simp only [go_sem,reduceEqDiff,zwz,show ¬(y:Int)=0 by omega,show ¬(y:Int)≤(hi:Int) by omega,show ¬(hi:Int)=0 by omega,hl,zML,Nat.mod_eq_of_lt (show s<18446744073709551616 by omega),o1,o2,o3,o4,o5,o6,o7,o8,o9,o10,g1,g2,g3];generalize hqq:D P L (.loop [2,8,9,10,11,13,14,15,16] zfM) _=qq
  obtain ⟨ex,st,rfl,tm,ct,rfl,rfl,t2,t8,t9,t10,t11,t13,t14,t15⟩:=z8 hqq (zJB (P:=P) (L:=L) (s:=s) (z:=z0) hYv (by omega) hv10 (by omega) huY (show z1<4294967296 by omega) (u/v1)) ⟨u/v1,u%v1,by simp only [go_sem,reduceEqDiff,za],by rw [Nat.mul_comm];exact Nat.div_add_mod u v1,by have:=Nat.mod_lt u hv10;omega,first (by omega),rfl⟩
  rw [←hq1] at t15;simp only [go_sem,reduceEqDiff,za,t2,t8,t9,t10,t11,t13,t14,t15,k1,k2,k3,k4,g4,g5,g6];generalize hqq2:D P L (.loop [2,8,9,10,14,15,16,17,18] zfC) _=qq2;obtain ⟨ex,st,rfl,tm2,ct2,rfl,rfl,t2,t8,t9,t10,t14,t15,t17,t18⟩:=z8 hqq2 (zHr (P:=P) (L:=L) (s:=s) (z:=q1) hYv (by omega) hv10 (by omega) hwY (show z0<4294967296 by omega) (w/v1)) ⟨w/v1,w%v1,by simp only [go_sem,reduceEqDiff,za],by rw [Nat.mul_comm];exact Nat.div_add_mod w v1,by have:=Nat.mod_lt w hv10;omega,first (by omega),rfl⟩
  rw [←hq0] at t18;simp only [go_sem,reduceEqDiff,za,t2,t8,t14,t15,t17,t18,m1,m2,k5,k6,k7,k8,m3];rfl
end
end VE
end
