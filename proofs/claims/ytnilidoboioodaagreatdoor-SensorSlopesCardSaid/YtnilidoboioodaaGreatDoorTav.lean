import Derived.Test.YtnilidoboioodaaGreatDoorTau
import Derived.Test.YtnilidoboioodaaGreatDoorTai
set_option linter.all false
set_option maxRecDepth 100000
open BitVec renaming ofInt→xD,ofInt_natCast→vT,ofNat→vS,toNat_ofNat→wV
open Bool renaming and_eq_true→yf,and_self→wC,false_and→wq,false_eq_true→yB
open Go renaming IntKind→yV
open Int renaming natCast_mul→vv,toNat_natCast→wm
open List renaming cons_append→xd,drop→vJ,drop_eq_getElem_cons→yP,drop_left'→yac,filter_cons→tX,filter_eq_nil_iff→tf,length_cons→yH,length_reverse→tE,length_take→yQ,map_append→xx,mem_append→xY,mem_singleton→wS,nil_append→xL,range'→xP,range'_succ→vt,replicate→yC,reverse_cons→tN,set_append_right→tj,take_of_length_le→yD
open Nat renaming add_mul→xZ,add_sub_cancel→uM,add_zero→yX,beq_refl→wI,ble_eq_true_of_le→yu,blt→yF,div_add_mod→xH,div_eq_of_lt→wa,div_le_self→wU,div_lt_iff_lt_mul→xG,eq_zero_or_pos→xj,le_of_lt→ug,le_refl→yv,lt_of_le_of_lt→xU,min_eq_left→xO,mod_add_div→yal,mod_eq_of_lt→yN,mod_lt→xq,mul_add→xt,mul_assoc→xf,mul_comm→xv,mul_div_mul_right→tx,mul_le_mul→wT,mul_le_mul_left→yO,mul_le_mul_right→yS,mul_lt_mul_of_pos_right→wz,mul_mod_mul_right→vV,mul_one→yo,mul_zero→xz,or_comm→ybi,pow_add→wi,pow_succ→y9,pow_zero→yaY,reduceAdd→yc,reduceEqDiff→ya,reduceLT→yz,reduceMul→xk,two_pow_pos→wg,zero_add→yj,zero_le→uY,zero_mul→yaX
namespace VE
open Go (IntKind)
def Jk (n:Int):IntKind.wrap .u64 n=n%18446744073709551616:=by
 simp [IntKind.wrap,IntKind.signed,IntKind.bits]
def wrapM (n:Nat):IntKind.wrap .u64 (n:Int)=((n%18446744073709551616:Nat):Int):=by rw [Jk];omega
def mP (a b:Nat):binOp .mul (uc a) (uc b)=some (uc (a*b%18446744073709551616)):=by
 rw [Ul,<-vv,wrapM]
def ss (a b:Nat):binOp .add (uc a) (uc b)=some (uc ((a+b)%18446744073709551616)):=by
 rw [Uk,<-Int.natCast_add,wrapM]
def AM {a b c:Nat} (h:(a+18446744073709551616-b)%18446744073709551616=c) (hb:b<=18446744073709551616):binOp .sub (uc a) (uc b)=some (uc c):=by
 rw [IF,Jk]
 grind
def ajZ (k k':yV) (a b:Int):binOp .shl (.int k a) (.int k' b)=zQ .shl k a b:=rfl
def aj0 (k k':yV) (a b:Int):binOp .shr (.int k a) (.int k' b)=zQ .shr k a b:=rfl
def F8 (k:yV) (a:Nat) {s:Nat} (hs:s<=64):binOp .shl (.int .u64 (a:Int)) (.int k (s:Int))=some (uc (a*2^s%18446744073709551616)):=by
 rw [ajZ];simp only [zQ,yE (show ¬(s:Int)<0 by omega),wm,IntKind.bits,xO hs];rw [show ((2:Int)^s)=((2^s:Nat):Int) by simp,<-vv,wrapM]
def F9 (k:yV) (a:Nat) {s:Nat} (hs:s<=64):binOp .shr (.int .u64 (a:Int)) (.int k (s:Int))=some (uc (a/2^s)):=by
 rw [aj0];simp only [zQ,yE (show ¬(s:Int)<0 by omega),wm,IntKind.bits,xO hs]
 grind
def WU (a:Nat):binOp .and (.int .u64 (a:Int)) (.int .u64 4294967295)=some (uc (a%4294967296)):=by
 show some (AV.int .u64 (IntKind.wrap .u64 ((xD 64 (a:Int)&&&xD 64 4294967295).toNat:Int)))=_
 rw [show xD 64 (a:Int)=vS 64 a from vT 64 a,show xD 64 4294967295=vS 64 4294967295 from rfl];rw [BitVec.toNat_and,wV,wV,show (4294967295%2^64:Nat)=2^32-1 from rfl,Nat.and_two_pow_sub_one_eq_mod,wrapM]
 grind
def PK {a b:Nat} (ha:a<18446744073709551616) (hb:b<18446744073709551616):binOp .or (.int .u64 (a:Int)) (.int .u64 (b:Int))=some (uc (a|||b)):=by
 show some (AV.int .u64 (IntKind.wrap .u64 ((xD 64 (a:Int)|||xD 64 (b:Int)).toNat:Int)))=_
 congr 2
 rw [show xD 64 (a:Int)=vS 64 a from vT 64 a,show xD 64 (b:Int)=vS 64 b from vT 64 b];rw [BitVec.toNat_or,wV,wV,yN (show a<2^64 from ha),yN (show b<2^64 from hb),wrapM]
 have:a|||b<2^64:=Nat.or_lt_two_pow ha hb
 omega
def M2 {p s c:Nat} (h:c<2^s):(p*2^s)|||c=p*2^s+c:=by
 rw [<-Nat.shiftLeft_eq,<-Nat.shiftLeft_add_eq_or_of_lt h]
def Rz:∀(f n:Nat),n<2^f->dI f n<=f/\n<2^dI f n/\(0<n->0<dI f n/\2^(dI f n-1)<=n)
 | 0,n,h=>by simp [dI];simpa using h
 | f+1,n,h=>by
  simp only [dI];by_cases h0:n=0
  ·simp_all
  ·rw [fM h0,yI];obtain ⟨h1,h2,h3⟩:=Rz f (n/2) (by omega);refine ⟨by omega,?_,fun _=>⟨by omega,?_⟩⟩
   ·grind
   ·rw [Nat.add_sub_cancel_left];by_cases hn:0<n/2
    ·obtain ⟨h4,h5⟩:=h3 hn;obtain ⟨m,hm⟩:∃m,dI f (n/2)=m+1:=⟨dI f (n/2)-1,by omega⟩
     grind
    ·have hz:n/2=0:=by omega
     have:dI f 0=0:=by cases f with
      | zero=>rfl
      | succ f=>rfl
     grind
def Ml {y:Nat} (h0:0<y) (h:y<18446744073709551616):64-dI 64 y<64/\9223372036854775808<=y*2^(64-dI 64 y)/\y*2^(64-dI 64 y)<18446744073709551616:=by
 obtain ⟨h1,h2,h3⟩:=Rz 64 y h;obtain ⟨h4,h5⟩:=h3 h0;generalize dI 64 y=k at*
 refine ⟨by omega,?_,?_⟩
 ·have:=yS (2^(64-k)) h5
  rw [<-wi,show k-1+(64-k)=63 by omega] at this;exact this
 ·have:=wz h2 (wg (64-k))
  rw [<-wi,show k+(64-k)=64 by omega] at this;exact this
section
variable {P:aR} {L:Lib} {f:bZ}
def US (h:L.pure 167=some B4) {x:Nat} (hx:x<18446744073709551616):bA P L f 167 [uc x]=some (aa (64-dI 64 x:Nat)):=by
 rw [gX h];show (bif yF x 18446744073709551616 then _ else none)=_
 rw [jd hx];rfl
def acZ {b v1 v2 u u2 t r:Nat} (cZ:v2<b) (iX:t<b) (ht:t*v1+r=u) (h:b<=r\/t*v2<=b*r+u2):t*(v1*b+v2)<=u*b+u2:=by
 have h2:t*v2<=b*r+u2:=by
  rcases h with h | h
  ·have:=wT (ug iX) (ug cZ)
   have:=yO b h
   omega
  ·exact h
 rw [xt,<-xf,<-ht,xZ,xv r b];omega
def alM (n:Nat):kL (.toInt .u64) (.int .i64 (n:Int))=some (uc (n%18446744073709551616)):=by
 show some (AV.int .u64 (IntKind.wrap .u64 (n:Int)))=_
 rw [wrapM]
def QT {y v1 v2 u u2 q r:Nat} (hy:y=v1*4294967296+v2) (cZ:v2<4294967296) (CW:0<v1) (dT:v1<4294967296) (hu:u<y) (qY:u2<4294967296) (hq:q*v1+r=u) (hr:r<4294967296) (hQ:(u*4294967296+u2)/y<=q):
  (4294967296<=q\/4294967296*r+u2<q*v2->0<q/\(q-1)*v1+(r+v1)=u/\(u*4294967296+u2)/y<=q-1/\(4294967296<=r+v1->(u*4294967296+u2)/y=q-1))/\
  (¬4294967296<=q->q*v2<=4294967296*r+u2->(u*4294967296+u2)/y=q):=by
 have iF:0<y:=by omega
 have KN:∀t s,t*v1+s=u->4294967296<=t->s<4294967296:=fun t s h1 h2=>by
  have:=yS v1 h2
  grind
 have UT:∀t s,t*v1+s=u->t<4294967296->(4294967296<=s\/t*v2<=4294967296*s+u2)->(u*4294967296+u2)/y<=t->(u*4294967296+u2)/y=t:=fun t s h1 h2 h3 h4=>by
  have:=acZ cZ h2 h1 h3
  rw [<-hy] at this
  have:=(Nat.le_div_iff_mul_le iF).2 this
  omega
 constructor
 ·intro h;have bz:0<q:=by
   grind
  have h1:(q-1)*v1+(r+v1)=u:=by
   obtain ⟨p,rfl⟩:∃p,q=p+1:=⟨q-1,by omega⟩
   grind
  have h2:(u*4294967296+u2)/y<=q-1:=by
   have aO:u*4294967296+u2<q*y:=by
    rcases h with h | h
    ·have h3:u*4294967296+u2<4294967296*y:=by omega
     exact Nat.lt_of_lt_of_le h3 (yS y h)
    ·rw [hy,xt,<-xf,<-hq,xZ,xv r];omega
   have:=(xG iF).2 aO
   omega
  exact ⟨bz,h1,h2,fun h3=>UT _ _ h1 (by
   by_cases hb:4294967296<=q-1
   ·have:=KN _ _ h1 hb;omega
   ·omega) (.inl h3) h2⟩
 ·intro h1 h2;exact UT q r hq (by omega) (.inr h2) hQ
def aj1 {y s v1 v2 u u2 z:Nat} (hy:y=v1*4294967296+v2) (cZ:v2<4294967296) (CW:0<v1) (dT:v1<4294967296) (hu:u<y) (qY:u2<4294967296):
  ∀k st,(∃q r:Nat,aV [2,8,9,10,11,13,14,15,16] st=⟨[(2,uc y),(8,uc s),(9,uc v1),(10,uc v2),(11,uc u),(13,uc u2),(14,uc z),(15,uc q),(16,uc r)],[],0,0⟩/\q*v1+r=u/\r<4294967296/\(u*4294967296+u2)/y<=q/\q=k)->
   ∃ex st',D P L (.loop [2,8,9,10,11,13,14,15,16] rS) st=some (ex,st')/\∃tm ct,st'=⟨tm,[],ct,0⟩/\ex= .exit 0/\ah tm 2=uc y/\ah tm 8=uc s/\ah tm 9=uc v1/\ah tm 10=uc v2/\ah tm 11=uc u/\ah tm 13=uc u2/\ah tm 14=uc z/\ah tm 15=uc ((u*4294967296+u2)/y):=by
 intro dq sq;generalize bz:aV [2,8,9,10,11,13,14,15,16] sq=s0;revert bz s0 sq dq;apply eb;rintro k st ⟨q,r,rfl,hq,hr,hQ,rfl⟩;obtain ⟨g1,g2⟩:=QT hy cZ CW dT hu qY hq hr hQ;have Y9:q*1<=q*v1:=yO q CW;have amZ:=yS 4294967296 (show v1<=4294967295 by omega);have mh:q<18446744073709551616:=by omega
 have Pj:=yO 4294967296 (show r<=4294967295 by omega);have e1:=mP 4294967296 r;rw [show uc 4294967296=AV.int .u64 4294967296 from rfl,yN (show 4294967296*r<18446744073709551616 by omega)] at e1;have e2:=ss (4294967296*r) u2;rw [yN (show 4294967296*r+u2<18446744073709551616 by omega)] at e2;have e4:=ss r v1;rw [yN (show r+v1<18446744073709551616 by omega)] at e4;by_cases hc:4294967296<=q\/4294967296*r+u2<q*v2
 ·obtain ⟨h0,h1,h2,h3⟩:=g1 hc;have e3:binOp .sub (uc q) (.int .u64 1)=some (uc (q-1)):=AM (b:=1) (by omega) (by omega);by_cases hb:4294967296<=r+v1
  ·right
   have qZ:=h3 hb;rcases (show 4294967296<=q\/(¬4294967296<=q/\4294967296*r+u2<q*v2) by omega) with t1 | ⟨t1,t2⟩
   ·simp only [go_sem,ya,rS,show (4294967296:Int)<=(q:Int) by omega,e3,e4,show (4294967296:Int)<=((r+v1:Nat):Int) by omega];exact ⟨_,_,rfl,by simp,_,_,rfl,rfl,by simp only [go_sem,ya],by simp only [go_sem,ya],by simp only [go_sem,ya],by simp only [go_sem,ya],by simp only [go_sem,ya],by simp only [go_sem,ya],by simp only [go_sem,ya],by rw [qZ];simp only [go_sem,ya]⟩
   ·have PL:=wT (show q<=4294967295 by omega) (show v2<=4294967295 by omega);have e5:=mP q v2;rw [yN (show q*v2<18446744073709551616 by omega)] at e5;simp only [go_sem,ya,rS,show ¬(4294967296:Int)<=(q:Int) by omega,e5,e1,e2,show ((4294967296*r+u2:Nat):Int)<((q*v2:Nat):Int) by omega,e3,e4,show (4294967296:Int)<=((r+v1:Nat):Int) by omega];exact ⟨_,_,rfl,by simp,_,_,rfl,rfl,by simp only [go_sem,ya],by simp only [go_sem,ya],by simp only [go_sem,ya],by simp only [go_sem,ya],by simp only [go_sem,ya],by simp only [go_sem,ya],by simp only [go_sem,ya],by rw [qZ];simp only [go_sem,ya]⟩
  ·left
   rcases (show 4294967296<=q\/(¬4294967296<=q/\4294967296*r+u2<q*v2) by omega) with t1 | ⟨t1,t2⟩
   ·simp only [go_sem,ya,rS,show (4294967296:Int)<=(q:Int) by omega,e3,e4,show ¬(4294967296:Int)<=((r+v1:Nat):Int) by omega];exact ⟨_,q-1,rfl,by omega,q-1,r+v1,by simp only [go_sem,ya,aA],h1,by omega,h2,rfl⟩
   ·have PL:=wT (show q<=4294967295 by omega) (show v2<=4294967295 by omega);have e5:=mP q v2;rw [yN (show q*v2<18446744073709551616 by omega)] at e5;simp only [go_sem,ya,rS,show ¬(4294967296:Int)<=(q:Int) by omega,e5,e1,e2,show ((4294967296*r+u2:Nat):Int)<((q*v2:Nat):Int) by omega,e3,e4,show ¬(4294967296:Int)<=((r+v1:Nat):Int) by omega];exact ⟨_,q-1,rfl,by omega,q-1,r+v1,by simp only [go_sem,ya,aA],h1,by omega,h2,rfl⟩
 ·right
  have qZ:=g2 (by omega) (by omega);have e5:=mP q v2;rw [yN (show q*v2<18446744073709551616 by omega)] at e5;simp only [go_sem,ya,rS,show ¬(4294967296:Int)<=(q:Int) by omega,e5,e1,e2,show ¬((4294967296*r+u2:Nat):Int)<((q*v2:Nat):Int) by omega];exact ⟨_,_,rfl,by simp,_,_,rfl,rfl,by simp only [go_sem,ya],by simp only [go_sem,ya],by simp only [go_sem,ya],by simp only [go_sem,ya],by simp only [go_sem,ya],by simp only [go_sem,ya],by simp only [go_sem,ya],by rw [qZ];simp only [go_sem,ya]⟩
def aj2 {y s v1 v2 u u2 z:Nat} (hy:y=v1*4294967296+v2) (cZ:v2<4294967296) (CW:0<v1) (dT:v1<4294967296) (hu:u<y) (qY:u2<4294967296):
  ∀k st,(∃q r:Nat,aV [2,8,9,10,14,15,16,17,18] st=⟨[(2,uc y),(8,uc s),(9,uc v1),(10,uc v2),(14,uc u2),(15,uc z),(16,uc r),(17,uc u),(18,uc q)],[],0,0⟩/\q*v1+r=u/\r<4294967296/\(u*4294967296+u2)/y<=q/\q=k)->
   ∃ex st',D P L (.loop [2,8,9,10,14,15,16,17,18] rT) st=some (ex,st')/\∃tm ct,st'=⟨tm,[],ct,0⟩/\ex= .exit 2/\ah tm 2=uc y/\ah tm 8=uc s/\ah tm 9=uc v1/\ah tm 10=uc v2/\ah tm 14=uc u2/\ah tm 15=uc z/\ah tm 17=uc u/\ah tm 18=uc ((u*4294967296+u2)/y):=by
 intro dq sq;generalize bz:aV [2,8,9,10,14,15,16,17,18] sq=s0;revert bz s0 sq dq;apply eb;rintro k st ⟨q,r,rfl,hq,hr,hQ,rfl⟩;obtain ⟨g1,g2⟩:=QT hy cZ CW dT hu qY hq hr hQ;have Y9:q*1<=q*v1:=yO q CW;have amZ:=yS 4294967296 (show v1<=4294967295 by omega);have mh:q<18446744073709551616:=by omega
 have Pj:=yO 4294967296 (show r<=4294967295 by omega);have e1:=mP 4294967296 r;rw [show uc 4294967296=AV.int .u64 4294967296 from rfl,yN (show 4294967296*r<18446744073709551616 by omega)] at e1;have e2:=ss (4294967296*r) u2;rw [yN (show 4294967296*r+u2<18446744073709551616 by omega)] at e2;have e4:=ss r v1;rw [yN (show r+v1<18446744073709551616 by omega)] at e4;by_cases hc:4294967296<=q\/4294967296*r+u2<q*v2
 ·obtain ⟨h0,h1,h2,h3⟩:=g1 hc;have e3:binOp .sub (uc q) (.int .u64 1)=some (uc (q-1)):=AM (b:=1) (by omega) (by omega);by_cases hb:4294967296<=r+v1
  ·right
   have qZ:=h3 hb;rcases (show 4294967296<=q\/(¬4294967296<=q/\4294967296*r+u2<q*v2) by omega) with t1 | ⟨t1,t2⟩
   ·simp only [go_sem,ya,rT,show (4294967296:Int)<=(q:Int) by omega,e3,e4,show (4294967296:Int)<=((r+v1:Nat):Int) by omega];exact ⟨_,_,rfl,by simp,_,_,rfl,rfl,by simp only [go_sem,ya],by simp only [go_sem,ya],by simp only [go_sem,ya],by simp only [go_sem,ya],by simp only [go_sem,ya],by simp only [go_sem,ya],by simp only [go_sem,ya],by rw [qZ];simp only [go_sem,ya]⟩
   ·have PL:=wT (show q<=4294967295 by omega) (show v2<=4294967295 by omega);have e5:=mP q v2;rw [yN (show q*v2<18446744073709551616 by omega)] at e5;simp only [go_sem,ya,rT,show ¬(4294967296:Int)<=(q:Int) by omega,e5,e1,e2,show ((4294967296*r+u2:Nat):Int)<((q*v2:Nat):Int) by omega,e3,e4,show (4294967296:Int)<=((r+v1:Nat):Int) by omega];exact ⟨_,_,rfl,by simp,_,_,rfl,rfl,by simp only [go_sem,ya],by simp only [go_sem,ya],by simp only [go_sem,ya],by simp only [go_sem,ya],by simp only [go_sem,ya],by simp only [go_sem,ya],by simp only [go_sem,ya],by rw [qZ];simp only [go_sem,ya]⟩
  ·left
   rcases (show 4294967296<=q\/(¬4294967296<=q/\4294967296*r+u2<q*v2) by omega) with t1 | ⟨t1,t2⟩
   ·simp only [go_sem,ya,rT,show (4294967296:Int)<=(q:Int) by omega,e3,e4,show ¬(4294967296:Int)<=((r+v1:Nat):Int) by omega];exact ⟨_,q-1,rfl,by omega,q-1,r+v1,by simp only [go_sem,ya,aA],h1,by omega,h2,rfl⟩
   ·have PL:=wT (show q<=4294967295 by omega) (show v2<=4294967295 by omega);have e5:=mP q v2;rw [yN (show q*v2<18446744073709551616 by omega)] at e5;simp only [go_sem,ya,rT,show ¬(4294967296:Int)<=(q:Int) by omega,e5,e1,e2,show ((4294967296*r+u2:Nat):Int)<((q*v2:Nat):Int) by omega,e3,e4,show ¬(4294967296:Int)<=((r+v1:Nat):Int) by omega];exact ⟨_,q-1,rfl,by omega,q-1,r+v1,by simp only [go_sem,ya,aA],h1,by omega,h2,rfl⟩
 ·right
  have qZ:=g2 (by omega) (by omega);have e5:=mP q v2;rw [yN (show q*v2<18446744073709551616 by omega)] at e5;simp only [go_sem,ya,rT,show ¬(4294967296:Int)<=(q:Int) by omega,e5,e1,e2,show ¬((4294967296*r+u2:Nat):Int)<((q*v2:Nat):Int) by omega];exact ⟨_,_,rfl,by simp,_,_,rfl,rfl,by simp only [go_sem,ya],by simp only [go_sem,ya],by simp only [go_sem,ya],by simp only [go_sem,ya],by simp only [go_sem,ya],by simp only [go_sem,ya],by simp only [go_sem,ya],by rw [qZ];simp only [go_sem,ya]⟩
def V4 (a:Nat):binOp .shr (.int .u64 (a:Int)) (.int .u64 32)=some (uc (a/4294967296)):=F9 .u64 a (s:=32) (by decide)
def WV (a:Nat) {b:Nat} (ha:a<18446744073709551616) (hb:0<b):binOp .quo (uc a) (uc b)=some (uc (a/b)):=by
 rw [e9 _ _ _ (by omega),Int.tdiv_eq_ediv_of_nonneg (by omega),<-Int.natCast_ediv,wrapM,yN];exact xU (wU a b) ha
def am0 (a:Nat) {b:Nat} (hb:0<b):binOp .rem (uc a) (uc b)=some (uc (a%b)):=by
 rw [gC _ _ _ (by omega),Int.tmod_eq_emod_of_nonneg (by omega),<-Int.natCast_emod]
def ac0 {hi lo y s u z Y:Nat} (hs:s<64) (aY:lo<18446744073709551616) (hY:Y=y*2^s) (hu:u=hi*2^s+lo/2^(64-s)) (hz:z=lo*2^s%18446744073709551616):
  (hi*18446744073709551616+lo)*2^s=u*18446744073709551616+z:=by
 have e:18446744073709551616=2^(64-s)*2^s:=by rw [<-wi,show 64-s+s=64 by omega]
 have h1:lo*2^s/18446744073709551616=lo/2^(64-s):=by
  rw [e,tx _ _ (wg s)]
 grind
def Sq {Y q a b:Nat} (h1:a<Y) (h2:b<4294967296) (h3:q=(a*4294967296+b)/Y):q<4294967296:=by
 rw [h3];exact (xG (by omega)).2 (by omega)
def ae7 {u w x z z0 z1 q0 q1 Y:Nat} (nd:q1*Y+w=u*4294967296+z1) (fU:q0*Y+x=w*4294967296+z0) (hz:z=z1*4294967296+z0):u*18446744073709551616+z=(q1*4294967296+q0)*Y+x:=by grind
def abp {q1 q0:Nat} (h1:q1<4294967296) (h0:q0<4294967296):q1*4294967296<18446744073709551616/\q1*4294967296+q0<18446744073709551616:=by omega
def WW (h:Has P L 165 FK) (Ga:L.pure 167=some B4) {hi lo y:Nat} (eY:hi<y) (aY:lo<18446744073709551616) (hy:y<18446744073709551616):
  ai P L 165 [uc hi,uc lo,uc y] (.av [uc ((hi*18446744073709551616+lo)/y),uc ((hi*18446744073709551616+lo)%y)]):=by
 have iF:0<y:=by omega
 by_cases h0:hi=0
 ·subst h0;have e1:=WV lo aY iF;have e2:=am0 lo iF;rw [yaX,yj];unfold ai;rw [aK h];simp only [go_sem,ya,FK,show ¬(y:Int)=0 by omega,show ¬(y:Int)<=0 by omega,show ((0:Nat):Int)=0 from rfl,e1,e2];rfl
 ·obtain ⟨s,hs⟩:∃s,s=64-dI 64 y:=⟨_,rfl⟩;have hl:=US (P:=P) (f:=D P L) Ga hy;obtain ⟨l1,l2,l3⟩:=Ml iF hy;rw [<-hs] at hl l1 l2 l3;obtain ⟨Y,hY⟩:∃Y,Y=y*2^s:=⟨_,rfl⟩;obtain ⟨u,hu⟩:∃u,u=hi*2^s+lo/2^(64-s):=⟨_,rfl⟩;obtain ⟨z,hz⟩:∃z,z=lo*2^s%18446744073709551616:=⟨_,rfl⟩;have hdiv:=ac0 l1 aY hY hu hz;rw [<-hY] at l2 l3;have hp:=wg s;obtain ⟨v1,dT⟩:∃v,v=Y/4294967296:=⟨_,rfl⟩;obtain ⟨v2,cZ⟩:∃v,v=Y%4294967296:=⟨_,rfl⟩;have Za:Y=v1*4294967296+v2:=by omega
  obtain ⟨z1,ku⟩:∃v,v=z/4294967296:=⟨_,rfl⟩;obtain ⟨z0,jP⟩:∃v,v=z%4294967296:=⟨_,rfl⟩;have CX:z<18446744073709551616:=by omega
  have hhY:hi*2^s<Y:=by rw [hY];exact wz eY hp
  have dR:lo/2^(64-s)<2^s:=by
   refine (xG (wg _)).2 ?_;rw [<-wi,show s+(64-s)=64 by omega];exact aY
  have lZ:hi*2^s|||lo/2^(64-s)=u:=by rw [M2 dR,hu]
  have hN:hi*18446744073709551616+lo<y*18446744073709551616:=by
   have:=yS 18446744073709551616 (show hi+1<=y from eY)
   omega
  have PM:u<Y:=by
   have h1:=wz hN hp;rw [hdiv,Nat.mul_right_comm,<-hY] at h1;omega
  obtain ⟨q1,eD⟩:∃q,q=(u*4294967296+z1)/Y:=⟨_,rfl⟩;obtain ⟨w,hw⟩:∃q,q=(u*4294967296+z1)%Y:=⟨_,rfl⟩;obtain ⟨q0,bz⟩:∃q,q=(w*4294967296+z0)/Y:=⟨_,rfl⟩;obtain ⟨x,hx⟩:∃q,q=(w*4294967296+z0)%Y:=⟨_,rfl⟩;have KO:w<Y:=by rw [hw];exact xq _ (by omega)
  have PN:x<Y:=by rw [hx];exact xq _ (by omega)
  have nd:=xH (u*4294967296+z1) Y;rw [<-eD,<-hw,xv] at nd;have fU:=xH (w*4294967296+z0) Y;rw [<-bz,<-hx,xv] at fU;have am1:=Sq PM (show z1<4294967296 by omega) eD;have am2:=Sq KO (show z0<4294967296 by omega) bz;obtain ⟨td1,td2⟩:=abp am1 am2;have JY:(hi*18446744073709551616+lo)*2^s=(q1*4294967296+q0)*Y+x:=by
   rw [hdiv];exact ae7 nd fU (by omega)
  have r1:(hi*18446744073709551616+lo)/y=q1*4294967296+q0:=by
   rw [<-tx _ _ hp,JY,<-hY,xv _ Y,Nat.mul_add_div (by omega),wa PN,yX]
  have r2:x/2^s=(hi*18446744073709551616+lo)%y:=by
   have h1:x=(hi*18446744073709551616+lo)*2^s%(y*2^s):=by
    rw [JY,<-hY,xv _ Y,Nat.mul_add_mod,yN PN]
   rw [h1,vV,Nat.mul_div_cancel _ hp]
  have o1:=F8 .u64 y (s:=s) (by omega);rw [<-hY,yN l3] at o1;have o2:=V4 Y;rw [<-dT] at o2;have o3:=WU Y;rw [<-cZ] at o3;have o4:=F8 .u64 hi (s:=s) (by omega);rw [yN (show hi*2^s<18446744073709551616 by omega)] at o4;have o5:binOp .sub (.int .u64 64) (uc s)=some (uc (64-s)):=AM (a:=64) (by omega) (by omega);have o6:=F9 .u64 lo (s:=64-s) (by omega);have o7:=PK (a:=hi*2^s) (b:=lo/2^(64-s)) (by omega) (xU (wU _ _) aY);rw [lZ] at o7;have o8:=F8 .u64 lo (s:=s) (by omega);rw [<-hz] at o8;have o9:=V4 z;rw [<-ku] at o9;have Zb:=WU z;rw [<-jP] at Zb;have Ct:0<v1:=by omega
  have V5:∀{a:Nat},a<Y->binOp .quo (uc a) (uc v1)=some (uc (a/v1))/\binOp .mul (uc (a/v1)) (uc v1)=some (uc (a/v1*v1))/\binOp .sub (uc a) (uc (a/v1*v1))=some (uc (a%v1)):=fun {a} ha=>by
   have h1:=xH a v1;rw [xv] at h1;have h2:=mP (a/v1) v1;generalize a/v1*v1=m at*
   rw [yN (show m<18446744073709551616 by omega)] at h2;exact ⟨WV a (by omega) Ct,h2,AM (by omega) (by omega)⟩
  obtain ⟨g1,g2,g3⟩:=V5 PM;obtain ⟨g4,g5,g6⟩:=V5 KO;have first:∀{a b:Nat},b<4294967296->(a*4294967296+b)/Y<=a/v1:=fun {a b} hb=>by
   have:=Lk (b:=4294967296) (V:=Y) (v1:=v1) (v2:=v2) (vr:=0) (U:=a*4294967296+b) (u0:=0) (u1:=a) (u2:=b) (ur:=0) (p:=1) (by omega) (by omega) (by decide) hb Ct
   simpa using this
  have back:∀{a b q x:Nat},a*4294967296+b=q*Y+x->x<Y->binOp .mul (uc a) (.int .u64 4294967296)=some (uc (a*4294967296%18446744073709551616))/\binOp .add (uc (a*4294967296%18446744073709551616)) (uc b)=some (uc ((a*4294967296%18446744073709551616+b)%18446744073709551616))/\
    binOp .mul (uc q) (uc Y)=some (uc (q*Y%18446744073709551616))/\binOp .sub (uc ((a*4294967296%18446744073709551616+b)%18446744073709551616)) (uc (q*Y%18446744073709551616))=some (uc x):=fun {a b q x} h1 h2=>by
   refine ⟨mP a 4294967296,ss _ _,mP q Y,AM ?_ (by omega)⟩;generalize q*Y=m at*
   omega
  obtain ⟨k1,k2,k3,k4⟩:=back nd.symm KO;obtain ⟨k5,k6,k7,k8⟩:=back fU.symm PN;have m1:=mP q1 4294967296;rw [yN td1,show uc 4294967296=AV.int .u64 4294967296 from rfl] at m1;have m2:=ss (q1*4294967296) q0;rw [yN td2] at m2;have m3:=F9 .u64 x (s:=s) (by omega);rw [r1,<-r2];unfold ai;rw [aK h];simp only [go_sem,ya,FK,show ¬(y:Int)=0 by omega,show ¬(y:Int)<=(hi:Int) by omega,show ¬(hi:Int)=0 by omega,hl,alM,yN (show s<18446744073709551616 by omega),o1,o2,o3,o4,o5,o6,o7,o8,o9,Zb,g1,g2,g3];generalize kz:D P L (.loop [2,8,9,10,11,13,14,15,16] rS) _=qq
  obtain ⟨ex,st,rfl,tm,ct,rfl,rfl,t2,t8,t9,t10,t11,t13,t14,t15⟩:=bP kz (aj1 (P:=P) (L:=L) (s:=s) (z:=z0) Za (by omega) Ct (by omega) PM (show z1<4294967296 by omega) (u/v1)) ⟨u/v1,u%v1,by simp only [go_sem,ya,aA],by rw [xv];exact xH u v1,by have:=xq u Ct;omega,first (by omega),rfl⟩
  rw [<-eD] at t15;simp only [go_sem,ya,aA,t2,t8,t9,t10,t11,t13,t14,t15,k1,k2,k3,k4,g4,g5,g6];generalize AN:D P L (.loop [2,8,9,10,14,15,16,17,18] rT) _=PO;obtain ⟨ex,st,rfl,oP,ct2,rfl,rfl,t2,t8,t9,t10,t14,t15,t17,t18⟩:=bP AN (aj2 (P:=P) (L:=L) (s:=s) (z:=q1) Za (by omega) Ct (by omega) KO (show z0<4294967296 by omega) (w/v1)) ⟨w/v1,w%v1,by simp only [go_sem,ya,aA],by rw [xv];exact xH w v1,by have:=xq w Ct;omega,first (by omega),rfl⟩
  rw [<-bz] at t18;simp only [go_sem,ya,aA,t2,t8,t14,t15,t17,t18,m1,m2,k5,k6,k7,k8,m3];rfl
end
mutual
def below (n:Nat):AV->Prop
 | .ptr id _=>id<n
 | .ay id _ _=>id<n
 | .map id=>id<n
 | .it id=>id<n
 | .fn (.f _) first cap=>nF n first/\nF n cap
 | .fn (.y l) first cap=>l<n/\first=[]/\cap=[]
 | .agg cs=>nF n cs
 | .av cs=>nF n cs
 | _=>True
def nF (n:Nat):List AV->Prop
 | []=>True
 | v::r=>below n v/\nF n r
end
def nG (n:Nat):Env->Prop
 | []=>True
 | (_,v)::r=>below n v/\nG n r
def Ah (n:Nat):Obj->Prop
 | .cells _ pu _ _ cs=>pu=true\/nF n cs
 | .mp _ ks vs=>nF n ks/\nF n vs
 | .si _ _=>True
 | .lp tm _ _ _ _ _=>nG n tm
def Fb (b n:Nat):Hp->Prop
 | []=>True
 | (id,o)::r=>id<b/\Ah n o/\Fb b n r
mutual
def Sr {f:Nat->Option Nat} {n:Nat} (hf:∀x,x<n->f x=some x):∀{v:AV},below n v->bJ f v=v
 | .int _ _,_ | .bool _,_ | .aD _ _,_ | .c9 _ _ _,_ | .str _,_ | .jB,_ | .bR _,_ | .af,_ | .aq _ _ _,_ | .gK,_ | .iO,_ | .iP _ _,_ | .undef,_ | .cx _ _ _ _,_=>rfl
 | .ptr id o,h=>by simp only [bJ,hf id h]
 | .ay id o k,h=>by simp only [bJ,hf id h]
 | .map id,h=>by simp only [bJ,hf id h]
 | .it id,h=>by simp only [bJ,hf id h]
 | .fn (.y l) first cap,h=>by
  obtain ⟨h1,rfl,rfl⟩:=h;simp only [bJ,hf l h1,eG]
 | .fn (.f _) first cap,h=>by
  simp only [bJ,rA hf h.1,rA hf h.2]
 | .agg cs,h=>by simp only [below] at h;simp only [bJ,rA hf h]
 | .av cs,h=>by simp only [below] at h;simp only [bJ,rA hf h]
def rA {f:Nat->Option Nat} {n:Nat} (hf:∀x,x<n->f x=some x):∀{vs:List AV},nF n vs->eG f vs=vs
 | [],_=>rfl
 | v::r,h=>by simp only [eG,Sr hf h.1,rA hf h.2]
end
def Lx {f:Nat->Option Nat} {n:Nat} (hf:∀x,x<n->f x=some x):∀{tm:Env},nG n tm->jf f tm=tm
 | [],_=>rfl
 | (_,v)::r,h=>by simp only [jf,Sr hf h.1,Lx hf h.2]
def abq {f:Nat->Option Nat} {n:Nat} (hf:∀x,x<n->f x=some x):∀{o:Obj},Ah n o->jC f o=o
 | .cells _ pu _ _ cs,h=>by
  cases pu with
  | true=>rfl
  | false=>simp only [Ah,yB,yaU] at h;simp only [jC,yI,rA hf h]
 | .mp _ ks vs,h=>by simp only [jC,rA hf h.1,rA hf h.2]
 | .si _ _,_=>rfl
 | .lp tm _ _ _ _ _,h=>by simp only [Ah] at h;simp only [jC,Lx hf h]
mutual
def RA {n:Nat}:∀{v:AV},below n v->∀x,x∈refs v->x<n
 | .int _ _,_,x,h | .bool _,_,x,h | .aD _ _,_,x,h | .c9 _ _ _,_,x,h | .str _,_,x,h | .jB,_,x,h | .bR _,_,x,h | .af,_,x,h | .aq _ _ _,_,x,h | .gK,_,x,h | .iO,_,x,h | .iP _ _,_,x,h | .undef,_,x,h | .cx _ _ _ _,_,x,h=>by simp [refs] at h
 | .ptr id o,h,x,hx=>by simp only [refs,wS] at hx;subst hx;exact h
 | .ay id o k,h,x,hx=>by simp only [refs,wS] at hx;subst hx;exact h
 | .map id,h,x,hx=>by simp only [refs,wS] at hx;subst hx;exact h
 | .it id,h,x,hx=>by simp only [refs,wS] at hx;subst hx;exact h
 | .fn (.y l) first cap,h,x,hx=>by simp only [refs,wS] at hx;subst hx;exact h.1
 | .fn (.f _) first cap,h,x,hx=>by
  simp only [refs,xY] at hx;exact hx.elim (ru h.1 x) (ru h.2 x)
 | .agg cs,h,x,hx=>by simp only [below] at h;simp only [refs] at hx;exact ru h x hx
 | .av cs,h,x,hx=>by simp only [below] at h;simp only [refs] at hx;exact ru h x hx
def ru {n:Nat}:∀{vs:List AV},nF n vs->∀x,x∈hX vs->x<n
 | [],_,x,h=>by simp [hX] at h
 | v::r,h,x,hx=>by
  simp only [hX,xY] at hx;exact hx.elim (RA h.1 x) (ru h.2 x)
end
def Ll {n:Nat}:∀{tm:Env},nG n tm->∀x,x∈hZ tm->x<n
 | [],_,x,h=>by simp [hZ] at h
 | (_,v)::r,h,x,hx=>by
  simp only [hZ,xY] at hx;exact hx.elim (RA h.1 x) (Ll h.2 x)
def aaF {n:Nat}:∀{o:Obj},Ah n o->∀x,x∈mF o->x<n
 | .cells _ pu _ _ cs,h,x,hx=>by
  cases pu with
  | true=>simp [mF] at hx
  | false=>simp only [Ah,yB,yaU] at h;exact ru h x hx
 | .mp _ ks vs,h,x,hx=>by
  simp only [mF,xY] at hx;exact hx.elim (ru h.1 x) (ru h.2 x)
 | .si _ _,_,x,hx=>by simp [mF] at hx
 | .lp tm _ _ _ _ _,h,x,hx=>by simp only [Ah] at h;exact Ll h x hx
def iN (B:Nat):List (List AV)->Hp
 | []=>[]
 | cs::r=>(B+r.length,.cells true true true 1 cs)::iN B r
def Av (B:Nat):List (List AV)->Hp->Hp
 | [],acc=>acc
 | cs::r,acc=>Av (B+1) r ((B,.cells true true true 1 cs)::acc)
def RB:∀(l:List (List AV)) (B:Nat) (x:List AV) (acc:Hp),Av B (l++[x]) acc=(B+l.length,.cells true true true 1 x)::Av B l acc
 | [],B,x,acc=>rfl
 | c::l,B,x,acc=>by
  simp only [xd,Av,RB l,yH]
  grind
def Ss (B:Nat) (acc:Hp):∀rs:List (List AV),Av B rs.reverse acc=iN B rs++acc
 | []=>rfl
 | c::r=>by
  simp only [tN,RB,Ss B acc r,tE,iN,xd]
def Su {B:Nat} {old:Hp}:∀{rs:List (List AV)} {i:Nat} (h:i<rs.length),ap (iN B rs++old) (B+i)=some (.cells true true true 1 (rs.reverse[i]'(by simpa using h)))
 | c::r,i,h=>by
  simp only [iN,xd,tN];by_cases hi:i=r.length
  ·subst hi;rw [ap,wI,yp]
   simp
  ·have aO:i<r.length:=by grind
   rw [ap,fM (by omega),yI,Su aO]
   grind
def Ai {a b:Nat} (h:a<b):yF a b=true:=by simp_all
def Fc {a b:Nat} (h:b<=a):yF a b=false:=by
 cases hq:yF a b with
 | false=>rfl
 | true=>have:=Nat.le_of_ble_eq_true hq;omega
def Lc {B:Nat} {old:Hp}:∀rs:List (List AV),gY B (iN B rs++old)=gY B old
 | []=>rfl
 | c::r=>by
  simp only [iN,xd];rw [gY,Fc (by omega),yI,Lc r]
def RC {B:Nat} {old:Hp} {f:Nat->Option Nat}:∀rs:List (List AV),jY B f (iN B rs++old)=jY B f old
 | []=>rfl
 | c::r=>by
  simp only [iN,xd];rw [jY,Fc (by omega),yI,RC r]
def QU {B n:Nat} {f:Nat->Option Nat} (hf:∀x,x<n->f x=some x):∀{old:Hp},Fb B n old->jY B f old=old
 | [],_=>rfl
 | (id,o)::r,h=>by
  rw [jY,Ai h.1,yp,abq hf h.2.1,QU hf h.2.2]
def abr {B s x:Nat} (h:B+s<=x):jD x (xP B s)=false:=by
 induction s generalizing B with
 | zero=>rfl
 | succ s ih=>rw [vt,jD,fM (by omega),yI,ih (by omega)]
def Ly {hp:Hp} {B R:Nat} (Cu:∀i,i<R->∃rw ex sz cs,ap hp (B+i)=some (.cells rw true ex sz cs)):
  ∀(W:List Nat) (bc s:Nat),W.length<bc->s<=R->W.filter (fun x=> !yF x B)=xP (B+s) (R-s)->reach hp B bc W (xP B s)=xP B R
 | [],0,s,hf,_,_=>by simp at hf
 | [],bc+1,s,hf,hs,h=>by
  have:R-s=0:=by
   grind
  rw [reach,show R=s by omega]
 | id::W,0,s,hf,_,_=>by simp at hf
 | id::W,bc+1,s,hf,hs,h=>by
  have gl:W.length<bc:=by simp_all
  rw [reach];by_cases hid:id<B
  ·rw [Ai hid,Bool.true_or,yp];rw [tX,Ai hid] at h;exact Ly Cu W bc s gl hs (by simpa using h)
  ·rw [tX,Fc (by omega)] at h;have hRs:R-s=(R-s-1)+1:=by
    have:=congrArg List.length h
    grind
   rw [hRs,vt] at h;injection h with h1 h2
   subst h1;rw [Fc (by omega),Bool.false_or,abr (yv _),yI];obtain ⟨rw,ex,sz,cs,ho⟩:=Cu s (by omega);simp only [ho,mF,yp,xL];have e:xP B s++[B+s]=xP B (s+1):=by rw [List.range'_concat];simp
   rw [e];exact Ly Cu W bc (s+1) gl (by omega) (by rw [h2,show R-s-1=R-(s+1) by omega,show B+s+1=B+(s+1) by omega])
def abt {B s i k:Nat} (h:i<s):jE (B+i) (xP B s) k=some (k+i):=by
 induction s generalizing B i k with
 | zero=>omega
 | succ s ih=>
  rw [vt,jE];by_cases hi:i=0
  ·simp_all
  ·rw [fM (by omega),yI]
   have:=ih (B:=B+1) (i:=i-1) (k:=k+1) (by omega)
   grind
def aaG {B R x:Nat} (h:x<B+R):ja B (xP B R) x=some x:=by
 unfold ja;by_cases hx:x<B
 ·rw [Ai hx,yp]
 ·rw [Fc (by omega),yI]
  have:=abt (B:=B) (s:=R) (i:=x-B) (k:=B) (by omega)
  grind
def RD {hp:Hp} {f:Nat->Option Nat}:∀(ro:List (List AV)) (B:Nat) (acc:Hp),(∀i (h:i<ro.length),ap hp (B+i)=some (.cells true true true 1 ro[i]))->jb hp f (xP B ro.length) B acc=Av B ro acc
 | [],B,acc,_=>rfl
 | c::r,B,acc,h=>by
  have h0:=h 0 (by simp);simp only [yX,List.getElem_cons_zero] at h0;rw [yH,vt,jb];simp only [h0,jC,yp,Av]
  exact RD r (B+1) _ (fun i hi=>by
   have:=h (i+1) (by simpa using hi)
   rw [show B+1+i=B+(i+1) by omega,this]
   simp)
def aaa {live:List Nat} {tm:Env} {B ct:Nat} {old:Hp} {rs:List (List AV)} (ht:nG B (dd tm live)) (ho:Fb B (B+rs.length) old) (hl:(hZ (dd tm live)).length+(gY B old).length<100000)
  (hr:(gY B old).filter (fun x=> !yF x B)=xP B rs.length):aV live ⟨tm,iN B rs++old,ct,B⟩=⟨dd tm live,iN B rs++old,B+rs.length,B⟩:=by
 have Cu:∀i (h:i<rs.length),ap (iN B rs++old) (B+i)=some (.cells true true true 1 (rs.reverse[i]'(by simpa using h))):=fun i h=>Su h
 have Vd:reach (iN B rs++old) B 100000 (hZ (dd tm live)++gY B (iN B rs++old)) []=xP B rs.length:=by
  have:=Ly (hp:=iN B rs++old) (B:=B) (R:=rs.length) (fun i hi=>⟨_,_,_,_,Cu i hi⟩) (hZ (dd tm live)++gY B (iN B rs++old)) 100000 0 (by rw [Lc,List.length_append];exact hl) (uY _) (by
   rw [List.filter_append,Lc,hr,tf.2 (fun x hx=>by
    have:=Ll ht x hx
    simp [Ai this])]
   simp)
  grind
 have hid:∀x,x<B+rs.length->ja B (xP B rs.length) x=some x:=fun x hx=>aaG hx
 have hn:=RD (hp:=iN B rs++old) (f:=ja B (xP B rs.length)) rs.reverse B old (fun i hi=>Cu i (by simpa using hi));rw [tE] at hn;simp only [aV,Vd,RC,QU hid ho,hn,Ss,List.length_range']
 rw [Lx (n:=B) (fun x hx=>hid x (by omega)) ht]
def RE {B b n:Nat} (hb:b<=B):∀{H:Hp},Fb b n H->∀x,x∈gY B H->x<n
 | [],_,x,hx=>by simp [gY] at hx
 | (id,o)::r,h,x,hx=>by
  rw [gY,Ai (by have:=h.1;omega),yp,xY] at hx;exact hx.elim (aaF h.2.1 x) (RE hb h.2.2 x)
def QV {live:List Nat} {tm:Env} {B ct:Nat} {old:Hp} (ht:nG B (dd tm live)) (ho:Fb B B old) (hl:(hZ (dd tm live)).length+(gY B old).length<100000):
  aV live ⟨tm,old,ct,B⟩=⟨dd tm live,old,B,B⟩:=by
 have:=aaa (rs:=[]) (ct:=ct) ht (by simpa using ho) hl (by
  rw [tf.2 (fun x hx=>by have:=RE (yv B) ho x hx;simp [Ai this])]
  rfl)
 simpa [iN] using this
section
variable {P:aR} {L:Lib}
def Uq {n:Nat} {F:aF} (h:Has P L n F) {hp:Hp} {ct:Nat} {aj:List AV} {ex:Ex} {s:St} {v:AV} (hD:D P L F.body ⟨eE 0 aj,hp,ct,ct⟩=some (ex,s)) (he:ex= .normal\/ex= .ret) (hr:gA s F.eT=some v):
  gD P L (D P L) hp ct n aj=some (v,s.hp,s.ct):=by
 simp only [gD,h.heap,h.code,hD]
 grind
mutual
def nt {n:Nat}:∀{v:AV},aX v=true->below n v
 | .int _ _,_ | .bool _,_ | .aD _ _,_ | .c9 _ _ _,_ | .str _,_ | .jB,_ | .bR _,_ | .af,_ | .aq _ _ _,_ | .gK,_ | .iO,_ | .iP _ _,_ | .undef,_=>trivial
 | .cx _ _ _ _,_=>trivial
 | .ptr _ _,h | .ay _ _ _,h | .map _,h | .it _,h=>by simp [aX] at h
 | .fn (.y _) _ _,h=>by simp [aX] at h
 | .fn (.f _) _ _,h=>by
  simp only [aX,yf] at h;exact ⟨D6 h.1,D6 h.2⟩
 | .agg cs,h=>by simp only [aX] at h;simp only [below];exact D6 h
 | .av cs,h=>by simp only [aX] at h;simp only [below];exact D6 h
def D6 {n:Nat}:∀{vs:List AV},aC vs=true->nF n vs
 | [],_=>trivial
 | _::_,h=>by
  simp only [aC,yf] at h;exact ⟨nt h.1,D6 h.2⟩
end
end
section
variable {pre x post:List Nat} {i:Nat}
def mC:(pre++x++post).length=pre.length+x.length+post.length:=by grind
def zU (h:i<x.length):(pre++x++post).getD (pre.length+i) 0=x.getD i 0:=by grind
def IK (a:Nat) (h:i<x.length):(pre++x++post).set (pre.length+i) a=pre++x.set i a++post:=by simp_all
end
def jX (n:Nat) (k:yV) (a:Int):below n (.int k a)=True:=rfl
def kH (n id o k:Nat):below n (.ay id o k)=(id<n):=rfl
def jT (n:Nat):nG n []=True:=rfl
def jR (n i:Nat) (v:AV) (r:Env):nG n ((i,v)::r)=(below n v/\nG n r):=rfl
def nC {live:List Nat} {tm:Env} {ct:Nat} {a b:List AV} (ht:nG 2 (dd tm live)) (hl:(hZ (dd tm live)).length<100000):
  aV live ⟨tm,[(1,.cells true true true 1 a),(0,.cells true true true 1 b)],ct,2⟩=⟨dd tm live,[(1,.cells true true true 1 a),(0,.cells true true true 1 b)],2,2⟩:=
 QV ht ⟨by omega,.inl rfl,by omega,.inl rfl,trivial⟩ (by
  have:gY 2 [(1,Obj.cells true true true 1 a),(0,Obj.cells true true true 1 b)]=[]:=rfl
  rw [this,List.length_nil,yX];exact hl)
section
variable {P:aR} {L:Lib}
def abu {x s c:Nat} (hs:s<64) (hx:x<18446744073709551616) (hc:c<2^s):
  c|||(x*2^s%18446744073709551616)<18446744073709551616/\c<18446744073709551616/\x/2^(64-s)<2^s/\(c|||(x*2^s%18446744073709551616))+18446744073709551616*(x/2^(64-s))=x*2^s+c:=by
 have e:18446744073709551616=2^(64-s)*2^s:=by rw [<-wi,show 64-s+s=64 by omega]
 have h1:x*2^s%18446744073709551616=(x%2^(64-s))*2^s:=by rw [e,vV]
 have h2:x/2^(64-s)<2^s:=by
  refine (xG (wg _)).2 ?_
  grind
 have h3:c|||(x*2^s%18446744073709551616)=(x%2^(64-s))*2^s+c:=by rw [h1,ybi,M2 hc]
 have h4:(x%2^(64-s))*2^s+c<18446744073709551616:=by
  have:=yS (2^s) (show x%2^(64-s)+1<=2^(64-s) from xq _ (wg _))
  grind
 have h5:=yal x (2^(64-s))
 grind
def aj3 {v:AV} {w:List Nat} (hv:bw v w) (hw:lo 18446744073709551616 w) (lw:w.length<=99999999999) {s n:Nat} (hs:s<64) (hn:n=w.length+1):
  ∀k st,(∃(i:Nat) (out:List Nat),aV [1,5,12,13,14] st=⟨[(1,aa s),(5,.ay 0 0 n),(12,v),(13,aa w.length),(14,aa i)],[(0,.cells true true true 1 (out.map uc))],1,0⟩/\i+k=w.length/\out.length=n/\lo 18446744073709551616 out/\bv 18446744073709551616 out=bv 18446744073709551616 (w.take i)*2^s/\out.getD i 0<2^s/\(∀m,i<m->out.getD m 0=0))->
   ∃ex st',D P L (.loop [1,5,12,13,14] BS) st=some (ex,st')/\∃tm out,st'=⟨tm,[(0,.cells true true true 1 (out.map uc))],1,0⟩/\ex= .exit 0/\ah tm 5= .ay 0 0 n/\out.length=n/\lo 18446744073709551616 out/\bv 18446744073709551616 out=bv 18446744073709551616 w*2^s:=by
 intro dq sq;generalize bz:aV [1,5,12,13,14] sq=s0;revert bz s0 sq dq;apply eb;rintro k st ⟨i,out,rfl,hk,hlen,aY,aI,hc,eY⟩;by_cases hi:i<w.length
 ·left
  have gx:=fy (show 0<18446744073709551616 by decide) hw i;have ex:=hv.bt hi;have ec:=p6 (l:=out) (o:=i) (by omega);have a6:=lG (b:=18446744073709551616) (l:=out) (i:=i) (x:=out.getD i 0|||(w.getD i 0*2^s%18446744073709551616)) (by omega);have hz:out.getD (i+1) 0=0:=eY _ (by omega);have dQ:=gZ (b:=18446744073709551616) (l:=w) i;generalize out.getD i 0=c at*
  generalize w.getD i 0=x at*
  obtain ⟨s1,s2,s3,s4⟩:=abu hs gx hc;have o1:=F8 .i64 x (s:=s) (by omega);have o2:=PK s2 (xq (x*2^s) (by decide));have o3:binOp .sub (.int .i64 64) (aa s)=some (aa (64-s:Nat)):=by
   rw [IF,wrap64 (by omega) (by omega)];congr 2;omega
  have o4:=F9 .i64 x (s:=64-s) (by omega);generalize jO:c|||(x*2^s%18446744073709551616)=c' at*
  by_cases h0:0<s
  ·have Jl:=lG (b:=18446744073709551616) (l:=out.set i c') (i:=i+1) (x:=x/2^(64-s)) (by simp;omega);rw [mA (by omega),hz,xz,yX] at Jl;have am3:x/2^(64-s)<18446744073709551616:=xU (wU _ _) gx;generalize x/2^(64-s)=y at*
   simp only [go_sem,ya,yo,BS,show (i:Int)<w.length by omega,ex,cK 0 0 (show i<n by omega),yj,ec,o1,o2,iY (l:=out) (o:=i) (by omega),show (0:Int)<(s:Int) by omega,show (i:Int)+1=((i+1:Nat):Int) from rfl,wrapN (n:=i+1) (by omega),o3,o4,cK 0 0 (show i+1<n by omega),iY (l:=out.set i c') (o:=i+1) (by simp;omega)];refine ⟨_,k-1,rfl,by omega,i+1,(out.set i c').set (i+1) y,by simp only [go_sem,ya,yc,aA,aB hv.pu,aE _ hv.pu]<;>rfl,by omega,by simp [hlen],jW (jW aY s1) am3,?_,by rw [aa4 (by simp;omega)];exact s3,fun m hm=>by rw [mA (by omega),mA (by omega)];exact eY m (by omega)⟩
   rw [dQ,xZ,Jl,<-aI,y9,xf,xf (18446744073709551616^i)];have e:=congrArg (fun t=>18446744073709551616^i*t) s4;simp only [xt] at e;generalize 18446744073709551616^i*(18446744073709551616*y)=p1 at*
   generalize 18446744073709551616^i*(x*2^s)=p2 at*
   generalize 18446744073709551616^i*c'=p3 at*
   omega
  ·have qM:s=0:=by omega
   subst qM;have jl:c=0:=by simpa using hc
   have q8:x/2^(64-0)=0:=wa gx;rw [q8,xz,yX,yaY,yo] at s4
   simp only [go_sem,ya,yo,BS,show (i:Int)<w.length by omega,ex,cK 0 0 (show i<n by omega),yj,ec,o1,o2,iY (l:=out) (o:=i) (by omega),show ¬(0:Int)<((0:Nat):Int) by omega,show (i:Int)+1=((i+1:Nat):Int) from rfl,wrapN (n:=i+1) (by omega)];refine ⟨_,k-1,rfl,by omega,i+1,out.set i c',by simp only [go_sem,ya,yc,aA,aB hv.pu,aE _ hv.pu]<;>rfl,by omega,by simp [hlen],jW aY s1,?_,by rw [mA (by omega),hz];exact wg _,fun m hm=>by rw [mA (by omega)];exact eY m (by omega)⟩
   rw [yaY,yo] at aI ⊢;rw [dQ,<-aI];rw [jl,xz,yX] at a6;rw [a6,s4,jl,yX]
 ·right
  have:i=w.length:=by omega
  subst this;rw [List.take_length] at aI;simp only [go_sem,ya,BS,show ¬(w.length:Int)<w.length by omega];exact ⟨_,_,rfl,by simp,_,out,rfl,rfl,by simp only [go_sem,ya],hlen,aY,aI⟩
def WX (h:Has P L 168 JI) {v:AV} {w:List Nat} (hv:bw v w) (hw:lo 18446744073709551616 w) (lw:w.length<=99999999999) {s:Nat} (hs:s<64):
  ∃out,ai P L 168 [v,aa s] (.cx true 1 (w.length+1) (out.map uc))/\out.length=w.length+1/\lo 18446744073709551616 out/\bv 18446744073709551616 out=bv 18446744073709551616 w*2^s:=by
 obtain ⟨n,hn⟩:∃n,n=w.length+1:=⟨_,rfl⟩;unfold ai;rw [aK h]
 simp only [go_sem,ya,yc,JI,hv.len,wrapN (n:=n) (by omega),show (w.length:Int)+1=((w.length+1:Nat):Int) from rfl,<-hn,AL (n:=n) _ (by omega)];generalize hq:D P L (.loop [1,5,12,13,14] BS) _=q;obtain ⟨ex,st,rfl,tm,o,rfl,rfl,t5,hlen,aY,aI⟩:=bP hq (aj3 (P:=P) (L:=L) hv hw lw hs hn w.length)
  ⟨0,yC n 0,by simp only [go_sem,ya,yc,aA,aB hv.pu,aE _ hv.pu]<;>rfl,by omega,by simp,BY (by decide) n,by rw [BZ];simp [bv],by rw [zT];exact wg _,fun m _=>zT n m⟩
 refine ⟨o,?_,hlen,aY,aI⟩;simp only [go_sem,yc,aA,t5];exact Lw (zM _ _ _) (by simp [hlen]) (by decide)
end
abbrev H2 (a b:List Nat):Hp:=[(1,.cells true true true 1 (a.map uc)),(0,.cells true true true 1 (b.map uc))]
structure fE (x vs:List Nat) (n v1 v2 u0 u1 u2:Nat):Prop where
 n2:2<=n
 nb:n<=99999999999
 lx:x.length=n+1
 lv:vs.length=n
 gx:lo 18446744073709551616 x
 gv:lo 18446744073709551616 vs
 dT:vs.getD (n-1) 0=v1
 cZ:vs.getD (n-2) 0=v2
 h0:x.getD n 0=u0
 h1:x.getD (n-1) 0=u1
 h2:x.getD (n-2) 0=u2
 pos:0<v1
 lt:bv 18446744073709551616 x<18446744073709551616*bv 18446744073709551616 vs
def alN (b p a v1 v2:Nat):a+p*v2+p*b*v1=(v1*b+v2)*p+a:=by grind
def alO (b p a v0 v1 v2:Nat):a+p*v2+p*b*v1+p*b*b*v0=((v0*b+v1)*b+v2)*p+a:=by grind
section
variable {x vs:List Nat} {n v1 v2 u0 u1 u2:Nat}
def fE.G0 (h:fE x vs n v1 v2 u0 u1 u2):v1<18446744073709551616:=h.dT▸fy (by decide) h.gv _
def fE.Bc (h:fE x vs n v1 v2 u0 u1 u2):v2<18446744073709551616:=h.cZ▸fy (by decide) h.gv _
def fE.G1 (h:fE x vs n v1 v2 u0 u1 u2):u1<18446744073709551616:=h.h1▸fy (by decide) h.gx _
def fE.G2 (h:fE x vs n v1 v2 u0 u1 u2):u2<18446744073709551616:=h.h2▸fy (by decide) h.gx _
def fE.parts (h:fE x vs n v1 v2 u0 u1 u2):∃p vr ur,bv 18446744073709551616 vs=(v1*18446744073709551616+v2)*p+vr/\vr<p/\bv 18446744073709551616 x=((u0*18446744073709551616+u1)*18446744073709551616+u2)*p+ur/\ur<p:=by
 obtain ⟨m,hm⟩:∃m,n=m+2:=⟨n-2,by have:=h.n2;omega⟩;subst hm;have e1:=gZ (b:=18446744073709551616) (l:=vs) (m+1);have e2:=gZ (b:=18446744073709551616) (l:=vs) m;have f0:=gZ (b:=18446744073709551616) (l:=x) (m+2);have f1:=gZ (b:=18446744073709551616) (l:=x) (m+1);have f2:=gZ (b:=18446744073709551616) (l:=x) m;have dT:vs.getD (m+1) 0=v1:=h.dT;have cZ:vs.getD m 0=v2:=h.cZ;have h0:x.getD (m+2) 0=u0:=h.h0;have h1:x.getD (m+1) 0=u1:=h.h1;have h2:x.getD m 0=u2:=h.h2
 rw [yD (by have:=h.lv;omega),dT,e2,cZ] at e1
 rw [yD (by have:=h.lx;omega),h0,f1,h1,f2,h2] at f0;have g1:=jZ (rN h.gv m)
 rw [yQ,xO (by have:=h.lv;omega)] at g1;have g2:=jZ (rN h.gx m)
 rw [yQ,xO (by have:=h.lx;omega)] at g2;refine ⟨18446744073709551616^m,_,_,?_,g1,?_,g2⟩
 ·grind
 ·grind
def fE.down (h:fE x vs n v1 v2 u0 u1 u2) {t r:Nat} (ht:t*v1+r=u0*18446744073709551616+u1) (hr:r*18446744073709551616+u2<t*v2):bv 18446744073709551616 x/bv 18446744073709551616 vs<=t-1:=by
 obtain ⟨p,vr,ur,h1,h2,h3,h4⟩:=h.parts;exact Ru h1 h3 h4 ht hr
def fE.stop (h:fE x vs n v1 v2 u0 u1 u2) {t r:Nat} (iX:t<18446744073709551616) (ht:t*v1+r=u0*18446744073709551616+u1) (hr:18446744073709551616<=r\/t*v2<=r*18446744073709551616+u2):t<=bv 18446744073709551616 x/bv 18446744073709551616 vs+1:=by
 obtain ⟨p,vr,ur,h1,h2,h3,h4⟩:=h.parts;exact Sl (by decide) h1 h2 h3 h.pos h.Bc iX ht hr
def fE.first (h:fE x vs n v1 v2 u0 u1 u2):bv 18446744073709551616 x/bv 18446744073709551616 vs<=(u0*18446744073709551616+u1)/v1:=by
 obtain ⟨p,vr,ur,h1,h2,h3,h4⟩:=h.parts;exact Lk h1 h3 h4 h.G2 h.pos
def fE.top (h:fE x vs n v1 v2 u0 u1 u2):u0<=v1:=by
 obtain ⟨p,vr,ur,h1,h2,h3,h4⟩:=h.parts;exact Sm h1 h3 h2 h.Bc h.lt
def fE.digit (h:fE x vs n v1 v2 u0 u1 u2):bv 18446744073709551616 x/bv 18446744073709551616 vs<18446744073709551616:=by
 refine (xG ?_).2 h.lt;rcases xj (bv 18446744073709551616 vs) with h0 | h0
 ·have:=h.lt;rw [h0] at this;simp at this
 ·exact h0
end
section
variable {P:aR} {L:Lib}
def UU (kj:L.pure 143=some og) (fh:L.pure 171=some lE) {w:AV} {x vs pre post qs:List Nat} (hw:bw w vs) {n v1 v2 u0 u1 u2:Nat} (hl:fE x vs n v1 v2 u0 u1 u2):
  ∀k s,(∃q r:Nat,aV [0,1,5,6,7,8] s=⟨[(0,.ay 0 pre.length (n+1)),(1,w),(5,aa n),(6,uc q),(7,uc (r%18446744073709551616)),(8,uc (r/18446744073709551616))],H2 qs (pre++x++post),2,2⟩/\q*v1+r=u0*18446744073709551616+u1/\r<2*18446744073709551616/\q<18446744073709551616/\bv 18446744073709551616 x/bv 18446744073709551616 vs<=q/\q=k)->
   ∃ex s',D P L (.loop [0,1,5,6,7,8] pP) s=some (ex,s')/\∃tm q,s'=⟨tm,H2 qs (pre++x++post),2,2⟩/\ex= .exit 0/\ah tm 0= .ay 0 pre.length (n+1)/\ah tm 1=w/\ah tm 5=aa n/\ah tm 6=uc q/\q<18446744073709551616/\bv 18446744073709551616 x/bv 18446744073709551616 vs<=q/\q<=bv 18446744073709551616 x/bv 18446744073709551616 vs+1:=by
 intro dq sq;generalize bz:aV [0,1,5,6,7,8] sq=s0;revert bz s0 sq dq;apply eb;rintro k s ⟨q,r,rfl,hq,hr,mh,hQ,rfl⟩;have da:=hl.n2;have mZ:=hl.nb;by_cases me:r<18446744073709551616
 ·have CY:r%18446744073709551616=r:=yN me;have zk:r/18446744073709551616=0:=wa me;rw [CY,zk];have Cv:=hl.G0;have Og:=hl.Bc;have WY:=hl.G2;have nf:=hw.bt (i:=n-2) (by have:=hl.lv;omega);have dU:=hw.bt (i:=n-1) (by have:=hl.lv;omega);rw [hl.cZ] at nf;rw [hl.dT] at dU;have pq:=p6 (l:=pre++x++post) (o:=pre.length+(n-2)) (by rw [mC];have:=hl.lx;omega)
  rw [zU (by have:=hl.lx;omega),hl.h2] at pq;have f1:=I2 (P:=P) (f:=D P L) kj mh Og;have f2:=Ag (P:=P) (f:=D P L) fh (x:=r) (y:=v1) (c:=0) me Cv (by omega);rw [show (uc 0)=AV.int .u64 0 from rfl] at f2;have eJ:=xH (q*v2) 18446744073709551616;have aY:=xq (q*v2) (show 0<18446744073709551616 by decide);obtain ⟨H,hH⟩:∃H,H=q*v2/18446744073709551616:=⟨_,rfl⟩;obtain ⟨G,hG⟩:∃G,G=q*v2%18446744073709551616:=⟨_,rfl⟩;rw [<-hH,<-hG] at f1 eJ;rw [<-hG] at aY;have q9:(n:Int)-2=((n-2:Nat):Int):=by omega
  have nh:(n:Int)-1=((n-1:Nat):Int):=by omega
  by_cases c1:H<r
  ·right
   simp only [go_sem,ya,pP,H2,show ((0:Nat):Int)=0 from rfl,q9,wrapN (n:=n-2) (by omega),nf,f1,show (H:Int)<(r:Int) by omega];exact ⟨_,_,rfl,by simp,_,q,rfl,rfl,by simp only [go_sem,ya],by simp only [go_sem,ya],by simp only [go_sem,ya],by simp only [go_sem,ya],mh,hQ,hl.stop mh hq (.inr (by omega))⟩
  ·by_cases c2:H=r/\G<=u2
   ·right
    obtain ⟨c2,c3⟩:=c2
    simp only [go_sem,ya,pP,H2,show ((0:Nat):Int)=0 from rfl,q9,wrapN (n:=n-2) (by omega),nf,f1,show (H:Int)=(r:Int) by omega];simp only [show ¬(r:Int)<(r:Int) by omega,yG]
    simp only [go_sem,ya,yo,q9,wrapN (n:=n-2) (by omega),cK 0 pre.length (show n-2<n+1 by omega),pq,show (G:Int)<=(u2:Int) by omega];exact ⟨_,_,rfl,by simp,_,q,rfl,rfl,by simp only [go_sem,ya],by simp only [go_sem,ya],by simp only [go_sem,ya],by simp only [go_sem,ya],mh,hQ,hl.stop mh hq (.inr (by omega))⟩
   ·left
    have zb:r*18446744073709551616+u2<q*v2:=by omega
    have bz:0<q:=by
     rcases xj q with h0 | h0
     ·subst h0;omega
     ·exact h0
    have e3:binOp .sub (uc q) (.int .u64 1)=some (uc (q-1)):=AM (b:=1) (by omega) (by omega);have h1:(q-1)*v1+(r+v1)=u0*18446744073709551616+u1:=by
     obtain ⟨p,rfl⟩:∃p,q=p+1:=⟨q-1,by omega⟩;rw [xZ,Nat.one_mul] at hq;rw [uM];omega
    have Be:=hl.down hq zb;rw [yX] at f2;by_cases c3:H=r
    ·have c4:¬G<=u2:=fun h=>c2 ⟨c3,h⟩
     subst c3
     simp only [go_sem,ya,xk,yo,pP,H2,show ((0:Nat):Int)=0 from rfl,q9,nh,wrapN (n:=n-2) (by omega),wrapN (n:=n-1) (by omega),nf,dU,f1,f2,show ¬(H:Int)<(H:Int) by omega,cK 0 pre.length (show n-2<n+1 by omega),pq,show ¬(G:Int)<=(u2:Int) by omega,e3];refine ⟨_,q-1,rfl,by omega,q-1,H+v1,?_,h1,by omega,by omega,Be,rfl⟩;rw [nC (by simp only [go_sem,ya,yz,jX,kH,jT,jR,nt hw.pu,wu]) (by simp only [go_sem,ya,yc,yz,aB hw.pu])];simp only [go_sem,ya]
    ·simp only [go_sem,ya,xk,pP,H2,show ((0:Nat):Int)=0 from rfl,q9,nh,wrapN (n:=n-2) (by omega),wrapN (n:=n-1) (by omega),nf,dU,f1,f2,show ¬(H:Int)<(r:Int) by omega,show ¬(H:Int)=(r:Int) by omega,e3];refine ⟨_,q-1,rfl,by omega,q-1,r+v1,?_,h1,by omega,by omega,Be,rfl⟩;rw [nC (by simp only [go_sem,ya,yz,jX,kH,jT,jR,nt hw.pu,wu]) (by simp only [go_sem,ya,yc,yz,aB hw.pu])];simp only [go_sem,ya]
 ·right
  have zk:r/18446744073709551616=1:=by omega
  rw [zk];simp only [go_sem,ya,pP,H2,show ((1:Nat):Int)=1 from rfl,Int.reduceEq];exact ⟨_,_,rfl,by simp,_,q,rfl,rfl,by simp only [go_sem,ya],by simp only [go_sem,ya],by simp only [go_sem,ya],by simp only [go_sem,ya],mh,hQ,hl.stop mh hq (.inl (by omega))⟩
end
def ac1 {b p x y z lc c bo rb ca q v X Y:Nat} (h1:q*v+c=b*ca+lc) (h2:z+lc+bo=x+b*rb) (h3:Y+q*X=y+p*(c+bo)) (W:Nat) (hW:W+p*x=Y+p*z):
  W+q*(X+p*v)=y+p*b*(ca+rb):=by grind
def ac2 {q v c:Nat} (hq:q<18446744073709551616) (hv:v<18446744073709551616) (hc:c<18446744073709551616):
  q*v+c=18446744073709551616*(q*v/18446744073709551616+(q*v%18446744073709551616+c+0)/18446744073709551616)+(q*v%18446744073709551616+c+0)%18446744073709551616/\
  q*v/18446744073709551616+(q*v%18446744073709551616+c+0)/18446744073709551616<18446744073709551616:=by
 have h:=wT (show q<=18446744073709551615 by omega) (show v<=18446744073709551615 by omega)
 grind
section
variable {P:aR} {L:Lib}
def aj4 (kj:L.pure 143=some og) (fh:L.pure 171=some lE) (oJ:L.pure 173=some rR) {w:AV} {x vs pre post qs:List Nat} (hw:bw w vs) {n:Nat} (mZ:n<=99999999999) (lv:vs.length=n) (gv:lo 18446744073709551616 vs) {q:Nat} (hq:q<18446744073709551616):
  ∀k s,(∃(i c bo:Nat) (y:List Nat),aV [0,1,5,6,11,12,104,105] s=⟨[(0,.ay 0 pre.length (n+1)),(1,w),(5,aa n),(6,uc q),(11,uc bo),(12,uc c),(104,aa n),(105,aa i)],H2 qs (pre++y++post),2,2⟩/\i+k=n/\y.length=n+1/\lo 18446744073709551616 y/\c<18446744073709551616/\bo<=1/\
    bv 18446744073709551616 y+q*bv 18446744073709551616 (vs.take i)=bv 18446744073709551616 x+18446744073709551616^i*(c+bo))->
   ∃ex s',D P L (.loop [0,1,5,6,11,12,104,105] EW) s=some (ex,s')/\∃tm c bo y,s'=⟨tm,H2 qs (pre++y++post),2,2⟩/\ex= .exit 2/\ah tm 0= .ay 0 pre.length (n+1)/\ah tm 1=w/\ah tm 5=aa n/\ah tm 6=uc q/\ah tm 11=uc bo/\ah tm 12=uc c/\y.length=n+1/\lo 18446744073709551616 y/\c<18446744073709551616/\bo<=1/\
    bv 18446744073709551616 y+q*bv 18446744073709551616 vs=bv 18446744073709551616 x+18446744073709551616^n*(c+bo):=by
 intro dq sq;generalize bz:aV [0,1,5,6,11,12,104,105] sq=s0;revert bz s0 sq dq;apply eb;rintro k s ⟨i,c,bo,y,rfl,hk,ly,gy,hc,gT,aI⟩;by_cases hi:i<n
 ·left
  have dl:(0:Nat)<18446744073709551616:=by decide
  have nX:=fy dl gv i;have ni:=fy dl gy i;have ev:=hw.bt (i:=i) (by omega);have ey:=p6 (l:=pre++y++post) (o:=pre.length+i) (by rw [mC];omega);rw [zU (by omega)] at ey;have dQ:=gZ (b:=18446744073709551616) (l:=vs) i;obtain ⟨a,ha⟩:∃a,a=vs.getD i 0:=⟨_,rfl⟩;obtain ⟨d,hd⟩:∃d,d=y.getD i 0:=⟨_,rfl⟩;rw [<-ha] at nX ev dQ;rw [<-hd] at ni ey;obtain ⟨m1,m2⟩:=ac2 hq nX hc;have f1:=I2 (P:=P) (f:=D P L) kj hq nX;have f2:=Ag (P:=P) (f:=D P L) fh (x:=q*a%18446744073709551616) (y:=c) (c:=0) (xq _ dl) hc (by omega);obtain ⟨lc,WZ⟩:∃t,t=(q*a%18446744073709551616+c+0)%18446744073709551616:=⟨_,rfl⟩;obtain ⟨c1,dE⟩:∃t,t=(q*a%18446744073709551616+c+0)/18446744073709551616:=⟨_,rfl⟩;have W0:lc<18446744073709551616:=by rw [WZ];exact xq _ dl
  rw [<-WZ,<-dE] at f2 m1;rw [<-dE] at m2;obtain ⟨h1,fI⟩:∃t,t=q*a/18446744073709551616:=⟨_,rfl⟩;rw [<-fI] at f1 m1 m2;rw [show (uc 0)=AV.int .u64 0 from rfl] at f2;have f3:=M1 (P:=P) (f:=D P L) oJ ni W0 gT;have nj:=Mk ni W0 gT;obtain ⟨z,hz⟩:∃t,t=(d+18446744073709551616*2-lc-bo)%18446744073709551616:=⟨_,rfl⟩;obtain ⟨b',bK⟩:∃t,t=(if lc+bo<=d then 0 else 1):=⟨_,rfl⟩;have iC:b'<=1:=by rw [bK];split<;>omega
  have CX:z<18446744073709551616:=by rw [hz];exact xq _ dl
  rw [<-hz,<-bK] at f3 nj;have f4:binOp .add (uc h1) (uc c1)=some (uc (h1+c1)):=by
   rw [ss,yN m2]
  have a6:=lG (b:=18446744073709551616) (l:=y) (i:=i) (x:=z) (by omega);rw [<-hd] at a6;have aP:=fun (hp:Hp) (ct:Nat)=>iY (hp:=hp) (ct:=ct) (id:=0) (v:=z) (ex:=true) (l:=pre++y++post) (o:=pre.length+i) (by rw [mC];omega)
  have lP:=IK (pre:=pre) (x:=y) (post:=post) (i:=i) z (by omega);simp only [go_sem,ya,yo,EW,H2,show (i:Int)<(n:Int) by omega,ev,f1,f2,f4,cK 0 pre.length (show i<n+1 by omega),ey,f3,aP,lP];refine ⟨_,k-1,rfl,by omega,i+1,h1+c1,b',y.set i z,?_,by omega,by simp [ly],jW gy CX,m2,iC,?_⟩
  ·rw [nC (by simp only [go_sem,ya,yz,jX,kH,jT,jR,nt hw.pu,wu]) (by simp only [go_sem,ya,yc,yz,aB hw.pu])];rw [wrap64 (by omega) (by omega)];simp only [go_sem,ya]<;>rfl
  ·rw [dQ,y9];exact ac1 m1 nj aI _ a6
 ·right
  have:i=n:=by omega
  subst this;rw [yD (by omega)] at aI;simp only [go_sem,ya,EW,H2,show ¬(i:Int)<(i:Int) by omega];exact ⟨_,_,rfl,by simp,_,c,bo,y,rfl,rfl,by simp only [go_sem,ya],by simp only [go_sem,ya],by simp only [go_sem,ya],by simp only [go_sem,ya],by simp only [go_sem,ya],by simp only [go_sem,ya],ly,gy,hc,gT,aI⟩
def aj5 (fh:L.pure 171=some lE) {w:AV} {y0 vs pre post qs:List Nat} (hw:bw w vs) {n:Nat} (mZ:n<=99999999999) (lv:vs.length=n) (gv:lo 18446744073709551616 vs) {q:Nat}:
  ∀k s,(∃(i c:Nat) (y:List Nat),aV [0,1,5,6,17,156,157] s=⟨[(0,.ay 0 pre.length (n+1)),(1,w),(5,aa n),(6,uc q),(17,uc c),(156,aa n),(157,aa i)],H2 qs (pre++y++post),2,2⟩/\i+k=n/\y.length=n+1/\lo 18446744073709551616 y/\c<=1/\
    bv 18446744073709551616 y+18446744073709551616^i*c=bv 18446744073709551616 y0+bv 18446744073709551616 (vs.take i))->
   ∃ex s',D P L (.loop [0,1,5,6,17,156,157] EX) s=some (ex,s')/\∃tm c y,s'=⟨tm,H2 qs (pre++y++post),2,2⟩/\ex= .exit 4/\ah tm 0= .ay 0 pre.length (n+1)/\ah tm 5=aa n/\ah tm 6=uc q/\ah tm 17=uc c/\y.length=n+1/\lo 18446744073709551616 y/\c<=1/\
    bv 18446744073709551616 y+18446744073709551616^n*c=bv 18446744073709551616 y0+bv 18446744073709551616 vs:=by
 intro dq sq;generalize bz:aV [0,1,5,6,17,156,157] sq=s0;revert bz s0 sq dq;apply eb;rintro k s ⟨i,c,y,rfl,hk,ly,gy,hc,aI⟩;by_cases hi:i<n
 ·left
  have dl:(0:Nat)<18446744073709551616:=by decide
  have nX:=fy dl gv i;have ni:=fy dl gy i;have ev:=hw.bt (i:=i) (by omega);have ey:=p6 (l:=pre++y++post) (o:=pre.length+i) (by rw [mC];omega);rw [zU (by omega)] at ey;have dQ:=gZ (b:=18446744073709551616) (l:=vs) i;obtain ⟨a,ha⟩:∃a,a=vs.getD i 0:=⟨_,rfl⟩;obtain ⟨d,hd⟩:∃d,d=y.getD i 0:=⟨_,rfl⟩;rw [<-ha] at nX ev dQ;rw [<-hd] at ni ey;have f1:=Ag (P:=P) (f:=D P L) fh ni nX hc;have a6:=lG (b:=18446744073709551616) (l:=y) (i:=i) (x:=(d+a+c)%18446744073709551616) (by omega);rw [<-hd] at a6;have gR:=HP (18446744073709551616^i) 18446744073709551616 (d+a+c);have jO:(d+a+c)/18446744073709551616<=1:=by omega
  have CX:(d+a+c)%18446744073709551616<18446744073709551616:=xq _ dl;generalize (d+a+c)%18446744073709551616=z at*
  generalize (d+a+c)/18446744073709551616=c' at*
  have aP:=fun (hp:Hp) (ct:Nat)=>iY (hp:=hp) (ct:=ct) (id:=0) (v:=z) (ex:=true) (l:=pre++y++post) (o:=pre.length+i) (by rw [mC];omega)
  have lP:=IK (pre:=pre) (x:=y) (post:=post) (i:=i) z (by omega);simp only [go_sem,ya,yo,EX,H2,show (i:Int)<(n:Int) by omega,ev,f1,cK 0 pre.length (show i<n+1 by omega),ey,aP,lP];refine ⟨_,k-1,rfl,by omega,i+1,c',y.set i z,?_,by omega,by simp [ly],jW gy CX,jO,?_⟩
  ·rw [nC (by simp only [go_sem,ya,yz,jX,kH,jT,jR,nt hw.pu,wu]) (by simp only [go_sem,ya,yc,yz,aB hw.pu])];rw [wrap64 (by omega) (by omega)];simp only [go_sem,ya]<;>rfl
  ·rw [dQ,y9];rw [xt,xt] at gR;omega
 ·right
  have:i=n:=by omega
  subst this;rw [yD (by omega)] at aI;simp only [go_sem,ya,EX,H2,show ¬(i:Int)<(i:Int) by omega];exact ⟨_,_,rfl,by simp,_,c,y,rfl,rfl,by simp only [go_sem,ya],by simp only [go_sem,ya],by simp only [go_sem,ya],by simp only [go_sem,ya],ly,gy,hc,aI⟩
end
def step_end {A V q Y B bo:Nat} (hV:0<V) (h:Y+q*V=A+B*bo) (h1:A/V<=q) (h2:q<=A/V+1) (hY:Y<B) (hVB:V<=B) (gT:bo<=1):
  (bo=0->q=A/V/\Y=A%V)/\(bo=1->q=A/V+1/\Y+V=B+A%V):=by
 have eJ:=xH A V;have hm:=xq A hV;generalize A/V=Q at*
 have hq:q=Q\/q=Q+1:=by omega
 constructor
 ·rintro rfl;rcases hq with rfl | rfl
  ·grind
  ·grind
 ·grind
section
variable {P:aR} {L:Lib}
structure Wd (P:aR) (L:Lib):Prop where
 kj:L.pure 143=some og
 fh:L.pure 171=some lE
 oJ:L.pure 173=some rR
 Ga:L.pure 167=some B4
 W1:Has P L 165 FK
 ki:Has P L 166 sB
 W2:Has P L 168 JI
 am4:Has P L 169 oE
 W3:Has P L 158 Cj
 am5:Has P L 157 FJ
 W4:Has P L 159 JG
 am6:Has P L 144 JD
 Oh:Has P L 137 FH
def ax:VC->VC
 | .seq _ b=>b
 | c=>c
def aj6 (h:Wd P L) {w:AV} {x vs pre post qs:List Nat} (hw:bw w vs) {n v1 v2 u0 u1 u2:Nat} (hl:fE x vs n v1 v2 u0 u1 u2) {q:Nat} (hq:q<18446744073709551616) (eD:bv 18446744073709551616 x/bv 18446744073709551616 vs<=q) (KP:q<=bv 18446744073709551616 x/bv 18446744073709551616 vs+1):
  ∃tm x',D P L (ax (ax (ax (ax (ax (ax oE.body)))))) ⟨[(0,.ay 0 pre.length (n+1)),(1,w),(5,aa n),(6,uc q)],H2 qs (pre++x++post),2,2⟩=some (.ret,⟨tm,H2 qs (pre++x'++post),2,2⟩)/\ah tm 4=uc (bv 18446744073709551616 x/bv 18446744073709551616 vs)/\x'.length=n+1/\lo 18446744073709551616 x'/\bv 18446744073709551616 x'=bv 18446744073709551616 x%bv 18446744073709551616 vs:=by
 have da:=hl.n2;have mZ:=hl.nb;have dl:(0:Nat)<18446744073709551616:=by decide
 have hV:0<bv 18446744073709551616 vs:=by
  rcases xj (bv 18446744073709551616 vs) with h0 | h0
  ·have:=hl.lt;rw [h0] at this;simp at this
  ·exact h0
 have pv:below 2 w:=nt hw.pu;have G3:=jZ hl.gv;rw [hl.lv] at G3;have arz:18446744073709551616^n<=18446744073709551616^(n+1):=Nat.pow_le_pow_right (by decide) (by omega);have arA:ax (ax (ax (ax (ax (ax oE.body)))))=ax (ax (ax (ax (ax (ax oE.body))))):=rfl;simp only [go_sem,ya,oE,ax,H2];generalize kz:D P L (.loop [0,1,5,6,11,12,104,105] EW) _=qq;obtain ⟨ex,s,rfl,tm,c,bo,y,rfl,rfl,t0,t1,t5,t6,t11,t12,ly,gy,hc,gT,aI⟩:=bP kz (aj4 (P:=P) (L:=L) h.kj h.fh h.oJ hw mZ hl.lv hl.gv hq (x:=x) (pre:=pre) (post:=post) (qs:=qs) n) ⟨0,0,0,x,by
  rw [nC (by simp only [go_sem,ya,yz,jX,kH,jT,jR,pv,wu]) (by simp only [go_sem,ya,yc,yz,aB hw.pu])]
  simp only [go_sem,ya]<;>rfl,by omega,hl.lx,hl.gx,dl,by omega,by simp [bv]⟩
 have PP:=fy dl gy n;have ey:=p6 (l:=pre++y++post) (o:=pre.length+n) (by rw [mC];omega);rw [zU (by omega)] at ey;obtain ⟨d,hd⟩:∃d,d=y.getD n 0:=⟨_,rfl⟩;rw [<-hd] at PP ey;have f3:=M1 (P:=P) (f:=D P L) h.oJ PP hc gT;have nj:=Mk PP hc gT;obtain ⟨z,hz⟩:∃t,t=(d+18446744073709551616*2-c-bo)%18446744073709551616:=⟨_,rfl⟩;obtain ⟨b',bK⟩:∃t,t=(if c+bo<=d then 0 else 1):=⟨_,rfl⟩;have iC:b'<=1:=by rw [bK];split<;>omega
 have CX:z<18446744073709551616:=by rw [hz];exact xq _ dl
 rw [<-hz,<-bK] at f3 nj;have a6:=lG (b:=18446744073709551616) (l:=y) (i:=n) (x:=z) (by omega);rw [<-hd] at a6;have aP:=fun (hp:Hp) (ct:Nat)=>iY (hp:=hp) (ct:=ct) (id:=0) (v:=z) (ex:=true) (l:=pre++y++post) (o:=pre.length+n) (by rw [mC];omega)
 have lP:=IK (pre:=pre) (x:=y) (post:=post) (i:=n) z (by omega);have Bf:lo 18446744073709551616 (y.set n z):=jW gy CX;have zm:(y.set n z).length=n+1:=by simp [ly]
 have hY:=jZ Bf;rw [zm] at hY;have am7:bv 18446744073709551616 (y.set n z)+q*bv 18446744073709551616 vs=bv 18446744073709551616 x+18446744073709551616^(n+1)*b':=by
  have e2:=congrArg (fun t=>18446744073709551616^n*t) nj;rw [y9,xf];simp only [xt] at e2 aI;generalize 18446744073709551616^n*(18446744073709551616*b')=p1 at*
  generalize 18446744073709551616^n*z=p2 at*
  generalize 18446744073709551616^n*d=p3 at*
  generalize 18446744073709551616^n*c=p4 at*
  generalize 18446744073709551616^n*bo=p5 at*
  omega
 obtain ⟨s0,s1⟩:=step_end hV am7 eD KP hY (by omega) iC;simp only [go_sem,ya,yc,yz,yo,nC,jX,kH,jT,jR,pv,wu,aB hw.pu,t0,t1,t5,t6,t11,t12,cK 0 pre.length (show n<n+1 by omega),ey,f3,aP,lP];by_cases jP:b'=0
 ·obtain ⟨e1,e2⟩:=s0 jP;simp only [go_sem,ya,show (b':Int)=0 by omega];exact ⟨_,y.set n z,rfl,by rw [<-e1];simp only [go_sem],zm,Bf,e2⟩
 ·obtain ⟨e1,e2⟩:=s1 (by omega);simp only [go_sem,ya,show ¬(b':Int)=0 by omega];generalize AN:D P L (.loop [0,1,5,6,17,156,157] EX) _=PO;obtain ⟨ex,s,rfl,oP,c2,y2,rfl,rfl,t0,t5,t6,t17,PQ,KQ,pg,alP⟩:=bP AN (aj5 (P:=P) (L:=L) h.fh hw mZ hl.lv hl.gv (y0:=y.set n z) (pre:=pre) (post:=post) (qs:=qs) (q:=q) n) ⟨0,0,y.set n z,by
   rw [nC (by simp only [go_sem,ya,yz,jX,kH,jT,jR,pv,wu]) (by simp only [go_sem,ya,yc,yz,aB hw.pu])]
   simp only [go_sem,ya]<;>rfl,by omega,zm,Bf,by omega,by simp [bv]⟩
  have am8:=fy dl KQ n;have PR:=p6 (l:=pre++y2++post) (o:=pre.length+n) (by rw [mC];omega);rw [zU (by omega)] at PR;obtain ⟨d2,ig⟩:∃d,d=y2.getD n 0:=⟨_,rfl⟩;rw [<-ig] at am8 PR;have f4:=ss d2 c2;have Jl:=lG (b:=18446744073709551616) (l:=y2) (i:=n) (x:=(d2+c2)%18446744073709551616) (by omega);rw [<-ig] at Jl;have gR:=HP (18446744073709551616^n) 18446744073709551616 (d2+c2);have am9:(d2+c2)%18446744073709551616<18446744073709551616:=xq _ dl;have hc3:(d2+c2)/18446744073709551616<=1:=by omega
  generalize (d2+c2)%18446744073709551616=z2 at*
  generalize (d2+c2)/18446744073709551616=c3 at*
  have JZ:=fun (hp:Hp) (ct:Nat)=>iY (hp:=hp) (ct:=ct) (id:=0) (v:=z2) (ex:=true) (l:=pre++y2++post) (o:=pre.length+n) (by rw [mC];omega)
  have Jm:=IK (pre:=pre) (x:=y2) (post:=post) (i:=n) z2 (by omega);have KR:lo 18446744073709551616 (y2.set n z2):=jW KQ am9;have G4:(y2.set n z2).length=n+1:=by simp [PQ]
  have hY3:=jZ KR;rw [G4] at hY3;have bz:0<q:=by rw [e1];exact Nat.succ_pos _
  have hq3:bv 18446744073709551616 x/bv 18446744073709551616 vs=q-1:=by rw [e1,uM]
  have f5:binOp .sub (uc q) (.int .u64 1)=some (uc (q-1)):=AM (b:=1) (by omega) (by omega);simp only [go_sem,ya,yc,yz,yo,nC,jX,kH,jT,jR,wu,t0,t5,t6,t17,cK 0 pre.length (show n<n+1 by omega),PR,f4,JZ,Jm,f5];refine ⟨_,y2.set n z2,rfl,by rw [hq3];simp only [go_sem],G4,KR,?_⟩;have e3:bv 18446744073709551616 (y2.set n z2)+18446744073709551616^(n+1)*c3=18446744073709551616^(n+1)+bv 18446744073709551616 x%bv 18446744073709551616 vs:=by
   rw [<-e2,<-alP,y9];rw [xt] at gR;omega
  rcases (show c3=0\/c3=1 by omega) with rfl | rfl
  ·omega
  ·omega
def ana (h:Wd P L) {w:AV} {x vs pre post qs:List Nat} (hw:bw w vs) {n v1 v2 u0 u1 u2:Nat} (hl:fE x vs n v1 v2 u0 u1 u2):
  ∃x',gD P L (D P L) (H2 qs (pre++x++post)) 2 169 [.ay 0 pre.length (n+1),w]=some (uc (bv 18446744073709551616 x/bv 18446744073709551616 vs),H2 qs (pre++x'++post),2)/\x'.length=n+1/\lo 18446744073709551616 x'/\bv 18446744073709551616 x'=bv 18446744073709551616 x%bv 18446744073709551616 vs:=by
 have da:=hl.n2;have mZ:=hl.nb;have pv:below 2 w:=nt hw.pu;have nh:(n:Int)-1=((n-1:Nat):Int):=by omega
 have dU:=hw.bt (i:=n-1) (by have:=hl.lv;omega);rw [hl.dT] at dU;have zn:=p6 (l:=pre++x++post) (o:=pre.length+n) (by rw [mC];have:=hl.lx;omega)
 rw [zU (by have:=hl.lx;omega),hl.h0] at zn;have zo:=p6 (l:=pre++x++post) (o:=pre.length+(n-1)) (by rw [mC];have:=hl.lx;omega)
 rw [zU (by have:=hl.lx;omega),hl.h1] at zo;have Cv:=hl.G0;have J0:=hl.G1;have lQ:=hl.top;have gN:∃tm x',D P L oE.body ⟨eE 0 [.ay 0 pre.length (n+1),w],H2 qs (pre++x++post),2,2⟩=some (.ret,⟨tm,H2 qs (pre++x'++post),2,2⟩)/\ah tm 4=uc (bv 18446744073709551616 x/bv 18446744073709551616 vs)/\x'.length=n+1/\lo 18446744073709551616 x'/\bv 18446744073709551616 x'=bv 18446744073709551616 x%bv 18446744073709551616 vs:=by
  have behind:∀(iA:Env) (q:Nat),ah iA 0= .ay 0 pre.length (n+1)->ah iA 1=w->ah iA 5=aa n->ah iA 6=uc q->q<18446744073709551616->bv 18446744073709551616 x/bv 18446744073709551616 vs<=q->q<=bv 18446744073709551616 x/bv 18446744073709551616 vs+1->
    ∃tm x',mJ P L (mJ P L (pW 0 (some (Ex.exit 0,⟨iA,H2 qs (pre++x++post),2,2⟩))) (.kp [0,1,5,6])) (ax (ax (ax (ax (ax (ax oE.body))))))=some (.ret,⟨tm,H2 qs (pre++x'++post),2,2⟩)/\ah tm 4=uc (bv 18446744073709551616 x/bv 18446744073709551616 vs)/\x'.length=n+1/\lo 18446744073709551616 x'/\bv 18446744073709551616 x'=bv 18446744073709551616 x%bv 18446744073709551616 vs:=by
   intro iA q t0 t1 t5 t6 g1 g2 g3;have hk:dd iA [0,1,5,6]=[(0,.ay 0 pre.length (n+1)),(1,w),(5,aa n),(6,uc q)]:=by simp only [go_sem,t0,t1,t5,t6]
   rw [Uj,fL,WK,nC (by rw [hk];simp only [go_sem,yz,jX,kH,jT,jR,pv,wu]) (by rw [hk];simp only [go_sem,yc,yz,aB hw.pu]),fL,hk];exact aj6 h hw hl g1 g2 g3
  by_cases hc:u0<v1
  ·have f1:=WW h.W1 h.Ga (P:=P) (L:=L) hc J0 Cv;have eJ:=xH (u0*18446744073709551616+u1) v1;have oL:=xq (u0*18446744073709551616+u1) hl.pos;have mh:(u0*18446744073709551616+u1)/v1<18446744073709551616:=by
    refine (xG hl.pos).2 ?_
    have:=yS 18446744073709551616 (show u0+1<=v1 from hc)
    rw [xv 18446744073709551616 v1];omega
   have I3:=hl.first;rw [xv] at eJ;generalize (u0*18446744073709551616+u1)/v1=q0 at*
   generalize (u0*18446744073709551616+u1)%v1=r0 at*
   simp only [go_sem,ya,yo,oE,H2,hw.len,hl.lv,nh,wrapN (n:=n-1) (by omega),dU,cK 0 pre.length (show n<n+1 by omega),cK 0 pre.length (show n-1<n+1 by omega),zn,zo,show ¬(v1:Int)<=(u0:Int) by omega,f1];generalize kz:D P L (.loop [0,1,5,6,7,8] pP) _=qq;obtain ⟨ex,s,rfl,iA,q,rfl,rfl,t0,t1,t5,t6,g1,g2,g3⟩:=bP kz (UU (P:=P) (L:=L) h.kj h.fh hw hl (pre:=pre) (post:=post) (qs:=qs) q0) ⟨q0,r0,by
    rw [nC (by simp only [go_sem,ya,yz,jX,kH,jT,jR,pv,wu]) (by simp only [go_sem,ya,yc,yz,aB hw.pu])];rw [yN (show r0<18446744073709551616 by omega),wa (show r0<18446744073709551616 by omega)]
    simp only [go_sem,ya]<;>rfl,eJ,by omega,mh,I3,rfl⟩
   exact behind iA q t0 t1 t5 t6 g1 g2 g3
  ·have iE:u0=v1:=by omega
   have f1:=Ag (P:=P) (f:=D P L) h.fh J0 Cv (c:=0) (by omega);rw [yX,show (uc 0)=AV.int .u64 0 from rfl] at f1;have J3:=hl.digit
   simp only [go_sem,ya,yo,oE,H2,hw.len,hl.lv,nh,wrapN (n:=n-1) (by omega),dU,cK 0 pre.length (show n<n+1 by omega),cK 0 pre.length (show n-1<n+1 by omega),zn,zo,show (v1:Int)<=(u0:Int) by omega,f1];generalize kz:D P L (.loop [0,1,5,6,7,8] pP) _=qq;obtain ⟨ex,s,rfl,iA,q,rfl,rfl,t0,t1,t5,t6,g1,g2,g3⟩:=bP kz (UU (P:=P) (L:=L) h.kj h.fh hw hl (pre:=pre) (post:=post) (qs:=qs) 18446744073709551615) ⟨18446744073709551615,u1+v1,by
    rw [nC (by simp only [go_sem,ya,yz,jX,kH,jT,jR,pv,wu]) (by simp only [go_sem,ya,yc,yz,aB hw.pu])]
    simp only [go_sem,ya]<;>rfl,by rw [iE];omega,by omega,by decide,by omega,rfl⟩
   exact behind iA q t0 t1 t5 t6 g1 g2 g3
 obtain ⟨tm,x',g1,g2,g3,g4,g5⟩:=gN;refine ⟨x',?_,g3,g4,g5⟩;exact Uq h.am4 g1 (.inr rfl) (by show gA _ [RV.t 4]=_;rw [N8,Nz,g2])
end
def WN (v:AV) (m:Nat):Prop:=∃l,bw v l/\lo 18446744073709551616 l/\fo l/\bv 18446744073709551616 l=m
def ae8 (i:Nat) (q:List Nat) (x:Nat):(yC (i+1) 0++q).set i x=yC i 0++x::q:=by
 rw [List.replicate_succ',List.append_assoc]
 simp_all
def IL {b:Nat} {l:List Nat} {i:Nat} (h:i<l.length):bv b (l.drop i)=l.getD i 0+b*bv b (l.drop (i+1)):=by
 rw [yP h,gd h];rfl
def M3 {v w:AV} {x y:List Nat} (hv:bw v x) (hw:bw w y) (hp:Hp):result hp (.av [v,w])=some (.av [v,w]):=by
 rcases hv with ⟨rfl,_⟩ | ⟨e,rfl⟩<;>rcases hw with ⟨rfl,_⟩ | ⟨e',rfl⟩<;>rfl
def aha {hp:Hp} {id n l h:Nat} {pu ex:Bool} {cs:List AV} {tm:Env} {x y:X} (hg:ap hp id=some (.cells true pu ex 1 cs)) (hx:cL tm 0 (some x)=some l) (hy:cL tm n (some y)=some h) (h1:l<h) (h2:h<=n):
  eB hp (.sl 1) (.ay id 0 n) tm (some x) (some y)=some (.ay id l (h-l)):=by
 simp only [eB,hg,hx,hy,yu (ug h1),yu h2,wI,wC,yp,fM (Nat.ne_of_lt h1),wq,yI,yj,yo]
def Tl {hp:Hp} {id n h:Nat} {pu ex:Bool} {cs:List AV} {tm:Env} {y:X} (hg:ap hp id=some (.cells true pu ex 1 cs)) (hy:cL tm n (some y)=some h) (h1:0<h) (h2:h<=n):
  eB hp (.sl 1) (.ay id 0 n) tm none (some y)=some (.ay id 0 h):=by
 have hx:cL tm 0 none=some 0:=rfl;simp only [eB,hg,hx,hy,yu (uY h),yu h2,wI,wC,yp,fM (show (0:Nat)≠h by omega),wq,yI,yaX,yX,Nat.sub_zero]
def V6 (P:aR) (L:Lib) (f:bZ) (hp:Hp) (ct n:Nat) (xs:List AV):dO P L f hp ct .heap (.fn (.f n) [] []) xs=gD P L f hp ct n xs:=by
 simp only [dO,xL,List.append_nil]
section
variable {P:aR} {L:Lib}
def aj7 (h:Wd P L) {v w:AV} {x:List Nat} (hv:bw v x) (hx:lo 18446744073709551616 x) (lx:x.length<=99999999999) {d:Nat} (hw:bw w [d]) (fU:0<d) (PS:d<18446744073709551616) {n:Nat} (hn:n=x.length):
  ∀k s,(∃(i r:Nat) (q:List Nat),aV [0,1,6,7,8] s=⟨[(0,v),(1,w),(6,.ay 0 0 n),(7,uc r),(8,aa ((i:Int)-1))],[(0,.cells true true true 1 ((yC i 0++q).map uc))],1,0⟩/\i=k/\i+q.length=n/\lo 18446744073709551616 q/\r<d/\bv 18446744073709551616 (x.drop i)=bv 18446744073709551616 q*d+r)->
   ∃ex s',D P L (.loop [0,1,6,7,8] ES) s=some (ex,s')/\∃tm r q,s'=⟨tm,[(0,.cells true true true 1 (q.map uc))],1,0⟩/\ex= .exit 0/\ah tm 6= .ay 0 0 n/\ah tm 7=uc r/\q.length=n/\lo 18446744073709551616 q/\r<d/\bv 18446744073709551616 x=bv 18446744073709551616 q*d+r:=by
 intro dq sq;generalize bz:aV [0,1,6,7,8] sq=s0;revert bz s0 sq dq;apply eb;rintro k s ⟨i,r,q,rfl,rfl,hlen,aY,hr,aI⟩
 cases i with
 | zero=>
  right
  simp only [go_sem,ya,ES,show ¬(0:Int)<=((0:Nat):Int)-1 by omega];exact ⟨_,_,rfl,by simp,_,r,q,rfl,rfl,by simp only [go_sem,ya],by simp only [go_sem,ya],by omega,aY,hr,by simpa using aI⟩
 | succ i=>
  left
  have gx:=fy (show 0<18446744073709551616 by decide) hx i;have e1:=hv.bt (i:=i) (by omega);have e2:=hw.bt (i:=0) (by simp);have gS:=IL (b:=18446744073709551616) (l:=x) (i:=i) (by omega);rw [show ([d]:List Nat).getD 0 0=d from rfl] at e2;generalize x.getD i 0=a at*
  have e3:=WW (P:=P) (L:=L) h.W1 h.Ga hr gx PS;have eJ:=xH (r*18446744073709551616+a) d;have oL:=xq (r*18446744073709551616+a) fU;have mh:(r*18446744073709551616+a)/d<18446744073709551616:=by
   refine (xG fU).2 ?_;omega
  generalize (r*18446744073709551616+a)/d=q1 at*
  generalize (r*18446744073709551616+a)%d=r1 at*
  have aP:=fun (hp:Hp) (ct:Nat)=>iY (hp:=hp) (ct:=ct) (id:=0) (v:=q1) (ex:=true) (l:=yC (i+1) 0++q) (o:=i) (by simp;omega)
  simp only [go_sem,ya,yo,ES,show ((i+1:Nat):Int)-1=(i:Int) by omega,show (0:Int)<=(i:Int) by omega,e1,e2,e3,cK 0 0 (show i<n by omega),yj,aP,ae8];refine ⟨_,i,rfl,by omega,i,r1,q1::q,?_,rfl,by simp;omega,H4.2 ⟨BX.2 mh,aY⟩,oL,?_⟩
  ·rw [wrap64 (by omega) (by omega)];simp only [go_sem,ya,yc,aA,aB hv.pu,aE _ hv.pu,aB hw.pu,aE _ hw.pu]<;>rfl
  ·rw [gS,aI];simp only [bv];rw [xZ,xt,<-xf 18446744073709551616];rw [xv d q1] at eJ;omega
def ac3 {s u u1:Nat} (hs:s<64) (hu:u<18446744073709551616):u/2^s<18446744073709551616/\(0<s->u/2^s|||(u1*2^(64-s)%18446744073709551616)<18446744073709551616)/\
  (if 0<s then (u/2^s|||(u1*2^(64-s)%18446744073709551616)) else u/2^s)*2^s+u%2^s=u+18446744073709551616*(u1%2^s):=by
 have e:18446744073709551616=2^s*2^(64-s):=by rw [<-wi,show s+(64-s)=64 by omega]
 have h1:u1*2^(64-s)%18446744073709551616=(u1%2^s)*2^(64-s):=by rw [e,vV]
 have hp:=wg s;have h2:u/2^s<2^(64-s):=by
  refine (xG hp).2 ?_
  grind
 have h3:u/2^s|||(u1*2^(64-s)%18446744073709551616)=(u1%2^s)*2^(64-s)+u/2^s:=by rw [h1,ybi,M2 h2]
 have h4:(u1%2^s)*2^(64-s)+u/2^s<18446744073709551616:=by
  have:=yS (2^(64-s)) (show u1%2^s+1<=2^s from xq _ hp)
  grind
 have h5:=yal u (2^s)
 grind
def aj8 {us qs:List Nat} {n la m s:Nat} (hs:s<64) (lu:us.length=la) (gu:lo 18446744073709551616 us) (hn:n<la) (G5:la<=100000000000):
  ∀k st,(∃(i:Nat) (rs:List Nat),aV [9,11,12,13,96,97] st=⟨[(9,aa s),(11,.ay 0 0 la),(12,aa n),(13,.ay 1 0 m),(96,aa n),(97,aa i)],H2 qs (rs++us.drop i),2,0⟩/\i+k=n/\rs.length=i/\lo 18446744073709551616 rs/\bv 18446744073709551616 rs*2^s+us.getD 0 0%2^s=bv 18446744073709551616 (us.take i)+18446744073709551616^i*(us.getD i 0%2^s))->
   ∃ex st',D P L (.loop [9,11,12,13,96,97] BP) st=some (ex,st')/\∃tm rs,st'=⟨tm,H2 qs (rs++us.drop n),2,0⟩/\ex= .exit 4/\ah tm 11= .ay 0 0 la/\ah tm 12=aa n/\ah tm 13= .ay 1 0 m/\rs.length=n/\lo 18446744073709551616 rs/\bv 18446744073709551616 rs*2^s+us.getD 0 0%2^s=bv 18446744073709551616 (us.take n)+18446744073709551616^n*(us.getD n 0%2^s):=by
 intro dq sq;generalize bz:aV [9,11,12,13,96,97] sq=s0;revert bz s0 sq dq;apply eb;rintro k st ⟨i,rs,rfl,hk,lr,gr,aI⟩;by_cases hi:i<n
 ·left
  have dl:(0:Nat)<18446744073709551616:=by decide
  have g0:=fy dl gu i;have g1:=fy dl gu (i+1);have d0:us.drop i=us.getD i 0::us.getD (i+1) 0::us.drop (i+2):=by
   rw [yP (show i<us.length by omega),yP (show i+1<us.length by omega),gd,gd]
  have dQ:=gZ (b:=18446744073709551616) (l:=us) i;have gM:∀r,r<18446744073709551616->r*2^s+us.getD i 0%2^s=us.getD i 0+18446744073709551616*(us.getD (i+1) 0%2^s)->lo 18446744073709551616 (rs++[r])/\bv 18446744073709551616 (rs++[r])*2^s+us.getD 0 0%2^s=bv 18446744073709551616 (us.take (i+1))+18446744073709551616^(i+1)*(us.getD (i+1) 0%2^s):=fun r h1 h2=>by
   refine ⟨H4.2 ⟨gr,BX.2 h1⟩,?_⟩;rw [n9,rX,lr,dQ,xZ,y9,xf,xf];have e2:=congrArg (fun t=>18446744073709551616^i*t) h2;simp only [xt] at e2;generalize 18446744073709551616^i*(r*2^s)=p1 at*
   generalize 18446744073709551616^i*(us.getD i 0%2^s)=p2 at*
   generalize 18446744073709551616^i*us.getD i 0=p3 at*
   generalize 18446744073709551616^i*(18446744073709551616*(us.getD (i+1) 0%2^s))=p4 at*
   omega
  have Oi:us.drop (i+1)=us.getD (i+1) 0::us.drop (i+2):=by
   rw [yP (show i+1<us.length by omega),gd]
  generalize us.getD i 0=a at*
  obtain ⟨c,hc⟩:∃c,c=us.getD (i+1) 0:=⟨_,rfl⟩;rw [<-hc] at g1 d0 Oi gM;generalize us.drop (i+2)=dr at*
  rw [d0];obtain ⟨n1,n2,n3⟩:=ac3 (u1:=c) hs g0;have o1:=F9 .i64 a (s:=s) (by omega);have o2:=F8 .i64 c (s:=64-s) (by omega);have o3:binOp .sub (.int .i64 64) (aa s)=some (aa (64-s:Nat)):=by
   rw [IF,wrap64 (by omega) (by omega)];congr 2;omega
  have o4:=PK n1 (xq (c*2^(64-s)) dl);have sa:∀z y,(rs++z::y).set i a=rs++a::y:=fun z y=>by rw [tj _ _ (by omega),lr];simp
  have e0:∀z y,vJ i ((rs++z::y).map uc)=uc z::y.map uc:=fun z y=>by
   rw [xx,yac (by simp [lr])];rfl
  have e1:∀z y u,vJ (i+1) ((rs++z::y::u).map uc)=uc y::u.map uc:=fun z y u=>by
   rw [show rs++z::y::u=(rs++[z])++y::u by simp,xx,yac (by simp [lr])];rfl
  have CR:∀(hp:Hp) (ct x z:Nat) (y:List Nat),ie hp ct 0 i 1 [.int .u64 (x:Int)] (some (.cells true true true 1 ((rs++z::y).map uc)))=some (.av [],a6 hp 0 (.cells true true true 1 ((rs++x::y).map uc)),ct):=fun hp ct x z y=>by
   rw [iY (by simp;omega),tj _ _ (by omega),lr];simp
  by_cases h0:0<s
  ·rw [yT h0] at n3;obtain ⟨f1,f2⟩:=gM _ (n2 h0) n3;generalize a/2^s=a1 at*
   generalize a1|||(c*2^(64-s)%18446744073709551616)=r at*
   simp only [go_sem,ya,yo,BP,H2,show (i:Int)<(n:Int) by omega,cK 0 0 (show i<la by omega),yj,e0,o1,CR,show (0:Int)<(s:Int) by omega,show (i:Int)+1=((i+1:Nat):Int) from rfl,wrapN (n:=i+1) (by omega),show ((i+1:Nat):Int)<(la:Int) by omega,cK 0 0 (show i+1<la by omega),e1,o3,o2,o4];refine ⟨_,k-1,rfl,by omega,i+1,rs++[r],by simp only [go_sem,ya,yc,aA];rw [Oi];simp,by omega,by simp [lr],f1,by rw [<-hc];exact f2⟩
  ·rw [yE h0] at n3;obtain ⟨f1,f2⟩:=gM _ n1 n3;generalize a/2^s=a1 at*
   simp only [go_sem,ya,yo,BP,H2,show (i:Int)<(n:Int) by omega,cK 0 0 (show i<la by omega),yj,e0,o1,CR,show ¬(0:Int)<(s:Int) by omega,show (i:Int)+1=((i+1:Nat):Int) from rfl,wrapN (n:=i+1) (by omega)];refine ⟨_,k-1,rfl,by omega,i+1,rs++[a1],by simp only [go_sem,ya,yc,aA];rw [Oi];simp,by omega,by simp [lr],f1,by rw [<-hc];exact f2⟩
 ·right
  have:i=n:=by omega
  subst this;simp only [go_sem,ya,BP,H2,show ¬(i:Int)<(i:Int) by omega];exact ⟨_,_,rfl,by simp,_,rs,rfl,rfl,by simp only [go_sem,ya],by simp only [go_sem,ya],by simp only [go_sem,ya],lr,gr,aI⟩
end
end VE
