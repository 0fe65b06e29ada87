import Derived.Test.YtjemkccfpkgopaaGreatDoorUaq
import Derived.Test.YtjemkccfpkgopaaGreatDoorUah
set_option linter.all false
set_option maxRecDepth 100000
open BitVec renaming ofInt→xG,ofInt_natCast→uv,ofNat→uo,toNat_ofNat→vl
open Bool renaming and_eq_true→ye,and_self→wN,false_and→xO,false_eq_true→yJ
open Go renaming IntKind→yY
open Int renaming natCast_mul→vv,toNat_natCast→xZ
open List renaming cons_append→xh,drop→vZ,drop_eq_getElem_cons→yX,drop_left'→yaD,filter_cons→yav,filter_eq_nil_iff→tG,length_cons→yG,length_reverse→tZ,length_take→yI,map_append→xy,mem_append→wJ,mem_singleton→ve,nil_append→wh,range'→xW,range'_succ→vQ,replicate→yq,replicate_succ→wH,reverse_cons→yak,set_append_right→tL,take_of_length_le→yN
open Nat renaming add_mul→wI,add_sub_cancel→tp,add_zero→yZ,beq_refl→vd,ble_eq_true_of_le→yt,blt→yP,div_add_mod→xR,div_eq_of_lt→wB,div_le_self→vh,div_lt_iff_lt_mul→xQ,eq_zero_or_pos→xn,le_of_lt→uH,le_refl→yo,lt_of_le_of_lt→we,min_eq_left→xE,mod_add_div→yaL,mod_eq_of_lt→yU,mod_lt→xp,mul_add→xt,mul_assoc→xk,mul_comm→xB,mul_div_mul_right→tU,mul_le_mul→xP,mul_le_mul_left→yW,mul_le_mul_right→yT,mul_lt_mul_of_pos_right→wK,mul_mod_mul_right→uz,mul_one→yi,mul_zero→xD,or_comm→ybO,pow_add→wG,pow_succ→xc,pow_zero→ybC,reduceAdd→yb,reduceEqDiff→ya,reduceLT→yM,reduceMul→xM,two_pow_pos→wC,zero_add→yg,zero_le→uG,zero_mul→ybB
namespace VE
section
open Go (IntKind)
def My (n:Int):IntKind.wrap .u64 n=n%18446744073709551616:=by
 simp [IntKind.wrap,IntKind.signed,IntKind.bits]
def wrapM (n:Nat):IntKind.wrap .u64 (n:Int)=((n%18446744073709551616:Nat):Int):=by rw [My];omega
def oK (a b:Nat):binOp .mul (uc a) (uc b)=some (uc (a*b%18446744073709551616)):=by
 rw [afD,<-vv,wrapM]
def Aq (a b:Nat):binOp .add (uc a) (uc b)=some (uc ((a+b)%18446744073709551616)):=by
 rw [afC,<-Int.natCast_add,wrapM]
def CB {a b c:Nat} (h:(a+18446744073709551616-b)%18446744073709551616=c) (hb:b<=18446744073709551616):binOp .sub (uc a) (uc b)=some (uc c):=by
 rw [LL,My]
 grind
def awV (k k':yY) (a b:Int):binOp .shl (.int k a) (.int k' b)=BE .shl k a b:=rfl
def awW (k k':yY) (a b:Int):binOp .shr (.int k a) (.int k' b)=BE .shr k a b:=rfl
def Jn (k:yY) (a:Nat) {s:Nat} (hs:s<=64):binOp .shl (.int .u64 (a:Int)) (.int k (s:Int))=some (uc (a*2^s%18446744073709551616)):=by
 rw [awV];simp only [BE,yr (show ¬(s:Int)<0 by omega),xZ,IntKind.bits,xE hs];rw [show ((2:Int)^s)=((2^s:Nat):Int) by simp,<-vv,wrapM]
def Jo (k:yY) (a:Nat) {s:Nat} (hs:s<=64):binOp .shr (.int .u64 (a:Int)) (.int k (s:Int))=some (uc (a/2^s)):=by
 rw [awW];simp only [BE,yr (show ¬(s:Int)<0 by omega),xZ,IntKind.bits,xE hs]
 grind
def aje (a:Nat):binOp .and (.int .u64 (a:Int)) (.int .u64 4294967295)=some (uc (a%4294967296)):=by
 show some (AV.int .u64 (IntKind.wrap .u64 ((xG 64 (a:Int)&&&xG 64 4294967295).toNat:Int)))=_
 rw [show xG 64 (a:Int)=uo 64 a from uv 64 a,show xG 64 4294967295=uo 64 4294967295 from rfl];rw [BitVec.toNat_and,vl,vl,show (4294967295%2^64:Nat)=2^32-1 from rfl,Nat.and_two_pow_sub_one_eq_mod,wrapM]
 grind
def YO {a b:Nat} (ha:a<18446744073709551616) (hb:b<18446744073709551616):binOp .or (.int .u64 (a:Int)) (.int .u64 (b:Int))=some (uc (a|||b)):=by
 show some (AV.int .u64 (IntKind.wrap .u64 ((xG 64 (a:Int)|||xG 64 (b:Int)).toNat:Int)))=_
 congr 2
 rw [show xG 64 (a:Int)=uo 64 a from uv 64 a,show xG 64 (b:Int)=uo 64 b from uv 64 b];rw [BitVec.toNat_or,vl,vl,yU (show a<2^64 from ha),yU (show b<2^64 from hb),wrapM]
 have:a|||b<2^64:=Nat.or_lt_two_pow ha hb
 omega
def RA {p s c:Nat} (h:c<2^s):(p*2^s)|||c=p*2^s+c:=by
 rw [<-Nat.shiftLeft_eq,<-Nat.shiftLeft_add_eq_or_of_lt h]
def aaI:∀(f n:Nat),n<2^f->et f n<=f/\n<2^et f n/\(0<n->0<et f n/\2^(et f n-1)<=n)
 | 0,n,h=>by simp [et];simpa using h
 | f+1,n,h=>by
  simp only [et];by_cases h0:n=0
  ·simp_all
  ·rw [fY h0,yS];obtain ⟨h1,h2,h3⟩:=aaI f (n/2) (by omega);refine ⟨by omega,?_,fun _=>⟨by omega,?_⟩⟩
   ·grind
   ·rw [Nat.add_sub_cancel_left];by_cases hn:0<n/2
    ·obtain ⟨h4,h5⟩:=h3 hn;obtain ⟨m,hm⟩:∃m,et f (n/2)=m+1:=⟨et f (n/2)-1,by omega⟩
     grind
    ·have hz:n/2=0:=by omega
     have:et f 0=0:=by cases f with
      | zero=>rfl
      | succ f=>rfl
     grind
def QA {y:Nat} (h0:0<y) (h:y<18446744073709551616):64-et 64 y<64/\9223372036854775808<=y*2^(64-et 64 y)/\y*2^(64-et 64 y)<18446744073709551616:=by
 obtain ⟨h1,h2,h3⟩:=aaI 64 y h;obtain ⟨h4,h5⟩:=h3 h0;generalize et 64 y=k at*
 refine ⟨by omega,?_,?_⟩
 ·have:=yT (2^(64-k)) h5
  rw [<-wG,show k-1+(64-k)=63 by omega] at this;exact this
 ·have:=wK h2 (wC (64-k))
  rw [<-wG,show k+(64-k)=64 by omega] at this;exact this
section
variable {P:aH} {L:Lib} {f:cy}
def agO (h:L.pure 167=some Ed) {x:Nat} (hx:x<18446744073709551616):bH P L f 167 [uc x]=some (ab (64-et 64 x:Nat)):=by
 rw [iL h];show (bif yP x 18446744073709551616 then _ else none)=_
 rw [jS hx];rfl
def aoZ {b v1 v2 u u2 t r:Nat} (dt:v2<b) (jG:t<b) (ht:t*v1+r=u) (h:b<=r\/t*v2<=b*r+u2):t*(v1*b+v2)<=u*b+u2:=by
 have h2:t*v2<=b*r+u2:=by
  rcases h with h | h
  ·have:=xP (uH jG) (uH dt)
   have:=yW b h
   omega
  ·exact h
 rw [xt,<-xk,<-ht,wI,xB r b];omega
def ay1 (n:Nat):oB (.toInt .u64) (.int .i64 (n:Int))=some (uc (n%18446744073709551616)):=by
 show some (AV.int .u64 (IntKind.wrap .u64 (n:Int)))=_
 rw [wrapM]
def aaa {y v1 v2 u u2 q r:Nat} (hy:y=v1*4294967296+v2) (dt:v2<4294967296) (FA:0<v1) (eJ:v1<4294967296) (hu:u<y) (zC:u2<4294967296) (hq:q*v1+r=u) (hr:r<4294967296) (hQ:(u*4294967296+u2)/y<=q):
  (4294967296<=q\/4294967296*r+u2<q*v2->0<q/\(q-1)*v1+(r+v1)=u/\(u*4294967296+u2)/y<=q-1/\(4294967296<=r+v1->(u*4294967296+u2)/y=q-1))/\
  (¬4294967296<=q->q*v2<=4294967296*r+u2->(u*4294967296+u2)/y=q):=by
 have jo:0<y:=by omega
 have OX:∀t s,t*v1+s=u->4294967296<=t->s<4294967296:=fun t s h1 h2=>by
  have:=yT v1 h2
  grind
 have agP:∀t s,t*v1+s=u->t<4294967296->(4294967296<=s\/t*v2<=4294967296*s+u2)->(u*4294967296+u2)/y<=t->(u*4294967296+u2)/y=t:=fun t s h1 h2 h3 h4=>by
  have:=aoZ dt h2 h1 h3
  rw [<-hy] at this
  have:=(Nat.le_div_iff_mul_le jo).2 this
  omega
 constructor
 ·intro h;have bk:0<q:=by
   grind
  have h1:(q-1)*v1+(r+v1)=u:=by
   obtain ⟨p,rfl⟩:∃p,q=p+1:=⟨q-1,by omega⟩
   grind
  have h2:(u*4294967296+u2)/y<=q-1:=by
   have aW:u*4294967296+u2<q*y:=by
    rcases h with h | h
    ·have h3:u*4294967296+u2<4294967296*y:=by omega
     exact Nat.lt_of_lt_of_le h3 (yT y h)
    ·rw [hy,xt,<-xk,<-hq,wI,xB r];omega
   have:=(xQ jo).2 aW
   omega
  exact ⟨bk,h1,h2,fun h3=>agP _ _ h1 (by
   by_cases hb:4294967296<=q-1
   ·have:=OX _ _ h1 hb;omega
   ·omega) (.inl h3) h2⟩
 ·intro h1 h2;exact agP q r hq (by omega) (.inr h2) hQ
def awX {y s v1 v2 u u2 z:Nat} (hy:y=v1*4294967296+v2) (dt:v2<4294967296) (FA:0<v1) (eJ:v1<4294967296) (hu:u<y) (zC:u2<4294967296):
  ∀k st,(∃q r:Nat,aQ [2,8,9,10,11,13,14,15,16] st=⟨[(2,uc y),(8,uc s),(9,uc v1),(10,uc v2),(11,uc u),(13,uc u2),(14,uc z),(15,uc q),(16,uc r)],[],0,0⟩/\q*v1+r=u/\r<4294967296/\(u*4294967296+u2)/y<=q/\q=k)->
   ∃ex st',D P L (.loop [2,8,9,10,11,13,14,15,16] Ac) st=some (ex,st')/\∃tm ct,st'=⟨tm,[],ct,0⟩/\ex= .exit 0/\aj tm 2=uc y/\aj tm 8=uc s/\aj tm 9=uc v1/\aj tm 10=uc v2/\aj tm 11=uc u/\aj tm 13=uc u2/\aj tm 14=uc z/\aj tm 15=uc ((u*4294967296+u2)/y):=by
 intro dq sq;generalize bk:aQ [2,8,9,10,11,13,14,15,16] sq=s0;revert bk s0 sq dq;apply di;rintro k st ⟨q,r,rfl,hq,hr,hQ,rfl⟩;obtain ⟨g1,g2⟩:=aaa hy dt FA eJ hu zC hq hr hQ;have hqb:q*1<=q*v1:=yW q FA;have aAg:=yT 4294967296 (show v1<=4294967295 by omega);have nN:q<18446744073709551616:=by omega
 have Yl:=yW 4294967296 (show r<=4294967295 by omega);have e1:=oK 4294967296 r;rw [show uc 4294967296=AV.int .u64 4294967296 from rfl,yU (show 4294967296*r<18446744073709551616 by omega)] at e1;have e2:=Aq (4294967296*r) u2;rw [yU (show 4294967296*r+u2<18446744073709551616 by omega)] at e2;have e4:=Aq r v1;rw [yU (show r+v1<18446744073709551616 by omega)] at e4;by_cases hc:4294967296<=q\/4294967296*r+u2<q*v2
 ·obtain ⟨h0,h1,h2,h3⟩:=g1 hc;have e3:binOp .sub (uc q) (.int .u64 1)=some (uc (q-1)):=CB (b:=1) (by omega) (by omega);by_cases hb:4294967296<=r+v1
  ·right
   have nO:=h3 hb;rcases (show 4294967296<=q\/(¬4294967296<=q/\4294967296*r+u2<q*v2) by omega) with t1 | ⟨t1,t2⟩
   ·simp only [go_sem,ya,Ac,show (4294967296:Int)<=(q:Int) by omega,e3,e4,show (4294967296:Int)<=((r+v1:Nat):Int) by omega];exact ⟨_,_,rfl,by simp,_,_,rfl,rfl,by simp only [go_sem,ya],by simp only [go_sem,ya],by simp only [go_sem,ya],by simp only [go_sem,ya],by simp only [go_sem,ya],by simp only [go_sem,ya],by simp only [go_sem,ya],by rw [nO];simp only [go_sem,ya]⟩
   ·have YP:=xP (show q<=4294967295 by omega) (show v2<=4294967295 by omega);have e5:=oK q v2;rw [yU (show q*v2<18446744073709551616 by omega)] at e5;simp only [go_sem,ya,Ac,show ¬(4294967296:Int)<=(q:Int) by omega,e5,e1,e2,show ((4294967296*r+u2:Nat):Int)<((q*v2:Nat):Int) by omega,e3,e4,show (4294967296:Int)<=((r+v1:Nat):Int) by omega];exact ⟨_,_,rfl,by simp,_,_,rfl,rfl,by simp only [go_sem,ya],by simp only [go_sem,ya],by simp only [go_sem,ya],by simp only [go_sem,ya],by simp only [go_sem,ya],by simp only [go_sem,ya],by simp only [go_sem,ya],by rw [nO];simp only [go_sem,ya]⟩
  ·left
   rcases (show 4294967296<=q\/(¬4294967296<=q/\4294967296*r+u2<q*v2) by omega) with t1 | ⟨t1,t2⟩
   ·simp only [go_sem,ya,Ac,show (4294967296:Int)<=(q:Int) by omega,e3,e4,show ¬(4294967296:Int)<=((r+v1:Nat):Int) by omega];exact ⟨_,q-1,rfl,by omega,q-1,r+v1,by simp only [go_sem,ya,av],h1,by omega,h2,rfl⟩
   ·have YP:=xP (show q<=4294967295 by omega) (show v2<=4294967295 by omega);have e5:=oK q v2;rw [yU (show q*v2<18446744073709551616 by omega)] at e5;simp only [go_sem,ya,Ac,show ¬(4294967296:Int)<=(q:Int) by omega,e5,e1,e2,show ((4294967296*r+u2:Nat):Int)<((q*v2:Nat):Int) by omega,e3,e4,show ¬(4294967296:Int)<=((r+v1:Nat):Int) by omega];exact ⟨_,q-1,rfl,by omega,q-1,r+v1,by simp only [go_sem,ya,av],h1,by omega,h2,rfl⟩
 ·right
  have nO:=g2 (by omega) (by omega);have e5:=oK q v2;rw [yU (show q*v2<18446744073709551616 by omega)] at e5;simp only [go_sem,ya,Ac,show ¬(4294967296:Int)<=(q:Int) by omega,e5,e1,e2,show ¬((4294967296*r+u2:Nat):Int)<((q*v2:Nat):Int) by omega];exact ⟨_,_,rfl,by simp,_,_,rfl,rfl,by simp only [go_sem,ya],by simp only [go_sem,ya],by simp only [go_sem,ya],by simp only [go_sem,ya],by simp only [go_sem,ya],by simp only [go_sem,ya],by simp only [go_sem,ya],by rw [nO];simp only [go_sem,ya]⟩
end
end
section
open Go (IntKind)
section
variable {P:aH} {L:Lib} {f:cy}
def awY {y s v1 v2 u u2 z:Nat} (hy:y=v1*4294967296+v2) (dt:v2<4294967296) (FA:0<v1) (eJ:v1<4294967296) (hu:u<y) (zC:u2<4294967296):
  ∀k st,(∃q r:Nat,aQ [2,8,9,10,14,15,16,17,18] st=⟨[(2,uc y),(8,uc s),(9,uc v1),(10,uc v2),(14,uc u2),(15,uc z),(16,uc r),(17,uc u),(18,uc q)],[],0,0⟩/\q*v1+r=u/\r<4294967296/\(u*4294967296+u2)/y<=q/\q=k)->
   ∃ex st',D P L (.loop [2,8,9,10,14,15,16,17,18] Ad) st=some (ex,st')/\∃tm ct,st'=⟨tm,[],ct,0⟩/\ex= .exit 2/\aj tm 2=uc y/\aj tm 8=uc s/\aj tm 9=uc v1/\aj tm 10=uc v2/\aj tm 14=uc u2/\aj tm 15=uc z/\aj tm 17=uc u/\aj tm 18=uc ((u*4294967296+u2)/y):=by
 intro dq sq;generalize bk:aQ [2,8,9,10,14,15,16,17,18] sq=s0;revert bk s0 sq dq;apply di;rintro k st ⟨q,r,rfl,hq,hr,hQ,rfl⟩;obtain ⟨g1,g2⟩:=aaa hy dt FA eJ hu zC hq hr hQ;have hqb:q*1<=q*v1:=yW q FA;have aAg:=yT 4294967296 (show v1<=4294967295 by omega);have nN:q<18446744073709551616:=by omega
 have Yl:=yW 4294967296 (show r<=4294967295 by omega);have e1:=oK 4294967296 r;rw [show uc 4294967296=AV.int .u64 4294967296 from rfl,yU (show 4294967296*r<18446744073709551616 by omega)] at e1;have e2:=Aq (4294967296*r) u2;rw [yU (show 4294967296*r+u2<18446744073709551616 by omega)] at e2;have e4:=Aq r v1;rw [yU (show r+v1<18446744073709551616 by omega)] at e4;by_cases hc:4294967296<=q\/4294967296*r+u2<q*v2
 ·obtain ⟨h0,h1,h2,h3⟩:=g1 hc;have e3:binOp .sub (uc q) (.int .u64 1)=some (uc (q-1)):=CB (b:=1) (by omega) (by omega);by_cases hb:4294967296<=r+v1
  ·right
   have nO:=h3 hb;rcases (show 4294967296<=q\/(¬4294967296<=q/\4294967296*r+u2<q*v2) by omega) with t1 | ⟨t1,t2⟩
   ·simp only [go_sem,ya,Ad,show (4294967296:Int)<=(q:Int) by omega,e3,e4,show (4294967296:Int)<=((r+v1:Nat):Int) by omega];exact ⟨_,_,rfl,by simp,_,_,rfl,rfl,by simp only [go_sem,ya],by simp only [go_sem,ya],by simp only [go_sem,ya],by simp only [go_sem,ya],by simp only [go_sem,ya],by simp only [go_sem,ya],by simp only [go_sem,ya],by rw [nO];simp only [go_sem,ya]⟩
   ·have YP:=xP (show q<=4294967295 by omega) (show v2<=4294967295 by omega);have e5:=oK q v2;rw [yU (show q*v2<18446744073709551616 by omega)] at e5;simp only [go_sem,ya,Ad,show ¬(4294967296:Int)<=(q:Int) by omega,e5,e1,e2,show ((4294967296*r+u2:Nat):Int)<((q*v2:Nat):Int) by omega,e3,e4,show (4294967296:Int)<=((r+v1:Nat):Int) by omega];exact ⟨_,_,rfl,by simp,_,_,rfl,rfl,by simp only [go_sem,ya],by simp only [go_sem,ya],by simp only [go_sem,ya],by simp only [go_sem,ya],by simp only [go_sem,ya],by simp only [go_sem,ya],by simp only [go_sem,ya],by rw [nO];simp only [go_sem,ya]⟩
  ·left
   rcases (show 4294967296<=q\/(¬4294967296<=q/\4294967296*r+u2<q*v2) by omega) with t1 | ⟨t1,t2⟩
   ·simp only [go_sem,ya,Ad,show (4294967296:Int)<=(q:Int) by omega,e3,e4,show ¬(4294967296:Int)<=((r+v1:Nat):Int) by omega];exact ⟨_,q-1,rfl,by omega,q-1,r+v1,by simp only [go_sem,ya,av],h1,by omega,h2,rfl⟩
   ·have YP:=xP (show q<=4294967295 by omega) (show v2<=4294967295 by omega);have e5:=oK q v2;rw [yU (show q*v2<18446744073709551616 by omega)] at e5;simp only [go_sem,ya,Ad,show ¬(4294967296:Int)<=(q:Int) by omega,e5,e1,e2,show ((4294967296*r+u2:Nat):Int)<((q*v2:Nat):Int) by omega,e3,e4,show ¬(4294967296:Int)<=((r+v1:Nat):Int) by omega];exact ⟨_,q-1,rfl,by omega,q-1,r+v1,by simp only [go_sem,ya,av],h1,by omega,h2,rfl⟩
 ·right
  have nO:=g2 (by omega) (by omega);have e5:=oK q v2;rw [yU (show q*v2<18446744073709551616 by omega)] at e5;simp only [go_sem,ya,Ad,show ¬(4294967296:Int)<=(q:Int) by omega,e5,e1,e2,show ¬((4294967296*r+u2:Nat):Int)<((q*v2:Nat):Int) by omega];exact ⟨_,_,rfl,by simp,_,_,rfl,rfl,by simp only [go_sem,ya],by simp only [go_sem,ya],by simp only [go_sem,ya],by simp only [go_sem,ya],by simp only [go_sem,ya],by simp only [go_sem,ya],by simp only [go_sem,ya],by rw [nO];simp only [go_sem,ya]⟩
def ahw (a:Nat):binOp .shr (.int .u64 (a:Int)) (.int .u64 32)=some (uc (a/4294967296)):=Jo .u64 a (s:=32) (by decide)
def ajf (a:Nat) {b:Nat} (ha:a<18446744073709551616) (hb:0<b):binOp .quo (uc a) (uc b)=some (uc (a/b)):=by
 rw [fO _ _ _ (by omega),Int.tdiv_eq_ediv_of_nonneg (by omega),<-Int.natCast_ediv,wrapM,yU];exact we (vh a b) ha
def aAh (a:Nat) {b:Nat} (hb:0<b):binOp .rem (uc a) (uc b)=some (uc (a%b)):=by
 rw [iq _ _ _ (by omega),Int.tmod_eq_emod_of_nonneg (by omega),<-Int.natCast_emod]
def ao0 {hi lo y s u z Y:Nat} (hs:s<64) (bf:lo<18446744073709551616) (hY:Y=y*2^s) (hu:u=hi*2^s+lo/2^(64-s)) (hz:z=lo*2^s%18446744073709551616):
  (hi*18446744073709551616+lo)*2^s=u*18446744073709551616+z:=by
 have e:18446744073709551616=2^(64-s)*2^s:=by rw [<-wG,show 64-s+s=64 by omega]
 have h1:lo*2^s/18446744073709551616=lo/2^(64-s):=by
  rw [e,tU _ _ (wC s)]
 grind
def abp {Y q a b:Nat} (h1:a<Y) (h2:b<4294967296) (h3:q=(a*4294967296+b)/Y):q<4294967296:=by
 rw [h3];exact (xQ (by omega)).2 (by omega)
def aq4 {u w x z z0 z1 q0 q1 Y:Nat} (iC:q1*Y+w=u*4294967296+z1) (fX:q0*Y+x=w*4294967296+z0) (hz:z=z1*4294967296+z0):u*18446744073709551616+z=(q1*4294967296+q0)*Y+x:=by grind
def anu {q1 q0:Nat} (h1:q1<4294967296) (h0:q0<4294967296):q1*4294967296<18446744073709551616/\q1*4294967296+q0<18446744073709551616:=by omega
def ajg (h:Has P L 165 IM) (Jp:L.pure 167=some Ed) {hi lo y:Nat} (fL:hi<y) (bf:lo<18446744073709551616) (hy:y<18446744073709551616):
  ak P L 165 [uc hi,uc lo,uc y] (.ae [uc ((hi*18446744073709551616+lo)/y),uc ((hi*18446744073709551616+lo)%y)]):=by
 have jo:0<y:=by omega
 by_cases h0:hi=0
 ·subst h0;have e1:=ajf lo bf jo;have e2:=aAh lo jo;rw [ybB,yg];unfold ak;rw [aI h];simp only [go_sem,ya,IM,show ¬(y:Int)=0 by omega,show ¬(y:Int)<=0 by omega,show ((0:Nat):Int)=0 from rfl,e1,e2];rfl
 ·obtain ⟨s,hs⟩:∃s,s=64-et 64 y:=⟨_,rfl⟩;have hl:=agO (P:=P) (f:=D P L) Jp hy;obtain ⟨l1,l2,l3⟩:=QA jo hy;rw [<-hs] at hl l1 l2 l3;obtain ⟨Y,hY⟩:∃Y,Y=y*2^s:=⟨_,rfl⟩;obtain ⟨u,hu⟩:∃u,u=hi*2^s+lo/2^(64-s):=⟨_,rfl⟩;obtain ⟨z,hz⟩:∃z,z=lo*2^s%18446744073709551616:=⟨_,rfl⟩;have hdiv:=ao0 l1 bf hY hu hz;rw [<-hY] at l2 l3;have hp:=wC s;obtain ⟨v1,eJ⟩:∃v,v=Y/4294967296:=⟨_,rfl⟩;obtain ⟨v2,dt⟩:∃v,v=Y%4294967296:=⟨_,rfl⟩;have hYv:Y=v1*4294967296+v2:=by omega
  obtain ⟨z1,mg⟩:∃v,v=z/4294967296:=⟨_,rfl⟩;obtain ⟨z0,lh⟩:∃v,v=z%4294967296:=⟨_,rfl⟩;have FB:z<18446744073709551616:=by omega
  have hhY:hi*2^s<Y:=by rw [hY];exact wK fL hp
  have iY:lo/2^(64-s)<2^s:=by
   refine (xQ (wC _)).2 ?_;rw [<-wG,show s+(64-s)=64 by omega];exact bf
  have nG:hi*2^s|||lo/2^(64-s)=u:=by rw [RA iY,hu]
  have hN:hi*18446744073709551616+lo<y*18446744073709551616:=by
   have:=yT 18446744073709551616 (show hi+1<=y from fL)
   omega
  have YQ:u<Y:=by
   have h1:=wK hN hp;rw [hdiv,Nat.mul_right_comm,<-hY] at h1;omega
  obtain ⟨q1,eZ⟩:∃q,q=(u*4294967296+z1)/Y:=⟨_,rfl⟩;obtain ⟨w,hw⟩:∃q,q=(u*4294967296+z1)%Y:=⟨_,rfl⟩;obtain ⟨q0,bk⟩:∃q,q=(w*4294967296+z0)/Y:=⟨_,rfl⟩;obtain ⟨x,hx⟩:∃q,q=(w*4294967296+z0)%Y:=⟨_,rfl⟩;have OY:w<Y:=by rw [hw];exact xp _ (by omega)
  have YR:x<Y:=by rw [hx];exact xp _ (by omega)
  have iC:=xR (u*4294967296+z1) Y;rw [<-eZ,<-hw,xB] at iC;have fX:=xR (w*4294967296+z0) Y;rw [<-bk,<-hx,xB] at fX;have aAi:=abp YQ (show z1<4294967296 by omega) eZ;have aAj:=abp OY (show z0<4294967296 by omega) bk;obtain ⟨td1,td2⟩:=anu aAi aAj;have EV:(hi*18446744073709551616+lo)*2^s=(q1*4294967296+q0)*Y+x:=by
   rw [hdiv];exact aq4 iC fX (by omega)
  have r1:(hi*18446744073709551616+lo)/y=q1*4294967296+q0:=by
   rw [<-tU _ _ hp,EV,<-hY,xB _ Y,Nat.mul_add_div (by omega),wB YR,yZ]
  have r2:x/2^s=(hi*18446744073709551616+lo)%y:=by
   have h1:x=(hi*18446744073709551616+lo)*2^s%(y*2^s):=by
    rw [EV,<-hY,xB _ Y,Nat.mul_add_mod,yU YR]
   rw [h1,uz,Nat.mul_div_cancel _ hp]
  have o1:=Jn .u64 y (s:=s) (by omega);rw [<-hY,yU l3] at o1;have o2:=ahw Y;rw [<-eJ] at o2;have o3:=aje Y;rw [<-dt] at o3;have o4:=Jn .u64 hi (s:=s) (by omega);rw [yU (show hi*2^s<18446744073709551616 by omega)] at o4;have o5:binOp .sub (.int .u64 64) (uc s)=some (uc (64-s)):=CB (a:=64) (by omega) (by omega);have o6:=Jo .u64 lo (s:=64-s) (by omega);have o7:=YO (a:=hi*2^s) (b:=lo/2^(64-s)) (by omega) (we (vh _ _) bf);rw [nG] at o7;have o8:=Jn .u64 lo (s:=s) (by omega);rw [<-hz] at o8;have o9:=ahw z;rw [<-mg] at o9;have o10:=aje z;rw [<-lh] at o10;have EW:0<v1:=by omega
  have ahx:∀{a:Nat},a<Y->binOp .quo (uc a) (uc v1)=some (uc (a/v1))/\binOp .mul (uc (a/v1)) (uc v1)=some (uc (a/v1*v1))/\binOp .sub (uc a) (uc (a/v1*v1))=some (uc (a%v1)):=fun {a} ha=>by
   have h1:=xR a v1;rw [xB] at h1;have h2:=oK (a/v1) v1;generalize a/v1*v1=m at*
   rw [yU (show m<18446744073709551616 by omega)] at h2;exact ⟨ajf a (by omega) EW,h2,CB (by omega) (by omega)⟩
  obtain ⟨g1,g2,g3⟩:=ahx YQ;obtain ⟨g4,g5,g6⟩:=ahx OY;have first:∀{a b:Nat},b<4294967296->(a*4294967296+b)/Y<=a/v1:=fun {a b} hb=>by
   have:=PF (b:=4294967296) (V:=Y) (v1:=v1) (v2:=v2) (vr:=0) (U:=a*4294967296+b) (u0:=0) (u1:=a) (u2:=b) (ur:=0) (p:=1) (by omega) (by omega) (by decide) hb EW
   simpa using this
  have back:∀{a b q x:Nat},a*4294967296+b=q*Y+x->x<Y->binOp .mul (uc a) (.int .u64 4294967296)=some (uc (a*4294967296%18446744073709551616))/\binOp .add (uc (a*4294967296%18446744073709551616)) (uc b)=some (uc ((a*4294967296%18446744073709551616+b)%18446744073709551616))/\
    binOp .mul (uc q) (uc Y)=some (uc (q*Y%18446744073709551616))/\binOp .sub (uc ((a*4294967296%18446744073709551616+b)%18446744073709551616)) (uc (q*Y%18446744073709551616))=some (uc x):=fun {a b q x} h1 h2=>by
   refine ⟨oK a 4294967296,Aq _ _,oK q Y,CB ?_ (by omega)⟩;generalize q*Y=m at*
   omega
  obtain ⟨k1,k2,k3,k4⟩:=back iC.symm OY;obtain ⟨k5,k6,k7,k8⟩:=back fX.symm YR;have m1:=oK q1 4294967296;rw [yU td1,show uc 4294967296=AV.int .u64 4294967296 from rfl] at m1;have m2:=Aq (q1*4294967296) q0;rw [yU td2] at m2;have m3:=Jo .u64 x (s:=s) (by omega);rw [r1,<-r2];unfold ak;rw [aI h];simp only [go_sem,ya,IM,show ¬(y:Int)=0 by omega,show ¬(y:Int)<=(hi:Int) by omega,show ¬(hi:Int)=0 by omega,hl,ay1,yU (show s<18446744073709551616 by omega),o1,o2,o3,o4,o5,o6,o7,o8,o9,o10,g1,g2,g3];generalize mj:D P L (.loop [2,8,9,10,11,13,14,15,16] Ac) _=qq
  obtain ⟨ex,st,rfl,tm,ct,rfl,rfl,t2,t8,t9,t10,t11,t13,t14,t15⟩:=bI mj (awX (P:=P) (L:=L) (s:=s) (z:=z0) hYv (by omega) EW (by omega) YQ (show z1<4294967296 by omega) (u/v1)) ⟨u/v1,u%v1,by simp only [go_sem,ya,av],by rw [xB];exact xR u v1,by have:=xp u EW;omega,first (by omega),rfl⟩
  rw [<-eZ] at t15;simp only [go_sem,ya,av,t2,t8,t9,t10,t11,t13,t14,t15,k1,k2,k3,k4,g4,g5,g6];generalize CC:D P L (.loop [2,8,9,10,14,15,16,17,18] Ad) _=YS;obtain ⟨ex,st,rfl,ru,ct2,rfl,rfl,t2,t8,t9,t10,t14,t15,t17,t18⟩:=bI CC (awY (P:=P) (L:=L) (s:=s) (z:=q1) hYv (by omega) EW (by omega) OY (show z0<4294967296 by omega) (w/v1)) ⟨w/v1,w%v1,by simp only [go_sem,ya,av],by rw [xB];exact xR w v1,by have:=xp w EW;omega,first (by omega),rfl⟩
  rw [<-bk] at t18;simp only [go_sem,ya,av,t2,t8,t14,t15,t17,t18,m1,m2,k5,k6,k7,k8,m3];rfl
end
end
section
open Go (IntKind)
mutual
def below (n:Nat):AV->Prop
 | .ptr id _=>id<n
 | .aC id _ _=>id<n
 | .map id=>id<n
 | .it id=>id<n
 | .fn (.f _) first cap=>pJ n first/\pJ n cap
 | .fn (.y l) first cap=>l<n/\first=[]/\cap=[]
 | .agg cs=>pJ n cs
 | .ae cs=>pJ n cs
 | _=>True
def pJ (n:Nat):List AV->Prop
 | []=>True
 | v::r=>below n v/\pJ n r
end
def pK (n:Nat):Env->Prop
 | []=>True
 | (_,v)::r=>below n v/\pK n r
def B2 (n:Nat):Obj->Prop
 | .cells _ pu _ _ cs=>pu=true\/pJ n cs
 | .mp _ ks vs=>pJ n ks/\pJ n vs
 | .si _ _=>True
 | .lp tm _ _ _ _ _=>pK n tm
def Ia (b n:Nat):Hp->Prop
 | []=>True
 | (id,o)::r=>id<b/\B2 n o/\Ia b n r
mutual
def abq {f:Nat->Option Nat} {n:Nat} (hf:∀x,x<n->f x=some x):∀{v:AV},below n v->b5 f v=v
 | .int _ _,_ | .bool _,_ | .bM _ _,_ | .str _,_ | .jU,_ | .bZ _,_ | .aa,_ | .ai _ _ _,_ | .iy,_ | .jy,_ | .iV _ _,_ | .undef,_ | .bt _ _ _ _,_=>rfl
 | .ptr id o,h=>by simp only [b5,hf id h]
 | .aC id o k,h=>by simp only [b5,hf id h]
 | .map id,h=>by simp only [b5,hf id h]
 | .it id,h=>by simp only [b5,hf id h]
 | .fn (.y l) first cap,h=>by
  obtain ⟨h1,rfl,rfl⟩:=h;simp only [b5,hf l h1,fq]
 | .fn (.f _) first cap,h=>by
  simp only [b5,zO hf h.1,zO hf h.2]
 | .agg cs,h=>by simp only [below] at h;simp only [b5,zO hf h]
 | .ae cs,h=>by simp only [below] at h;simp only [b5,zO hf h]
def zO {f:Nat->Option Nat} {n:Nat} (hf:∀x,x<n->f x=some x):∀{vs:List AV},pJ n vs->fq f vs=vs
 | [],_=>rfl
 | v::r,h=>by simp only [fq,abq hf h.1,zO hf h.2]
end
def PR {f:Nat->Option Nat} {n:Nat} (hf:∀x,x<n->f x=some x):∀{tm:Env},pK n tm->jV f tm=tm
 | [],_=>rfl
 | (_,v)::r,h=>by simp only [jV,abq hf h.1,PR hf h.2]
def anv {f:Nat->Option Nat} {n:Nat} (hf:∀x,x<n->f x=some x):∀{o:Obj},B2 n o->kN f o=o
 | .cells _ pu _ _ cs,h=>by
  cases pu with
  | true=>rfl
  | false=>simp only [B2,yJ,ybv] at h;simp only [kN,yS,zO hf h]
 | .mp _ ks vs,h=>by simp only [kN,zO hf h.1,zO hf h.2]
 | .si _ _,_=>rfl
 | .lp tm _ _ _ _ _,h=>by simp only [B2] at h;simp only [kN,PR hf h]
mutual
def aaJ {n:Nat}:∀{v:AV},below n v->∀x,x∈refs v->x<n
 | .int _ _,_,x,h | .bool _,_,x,h | .bM _ _,_,x,h | .str _,_,x,h | .jU,_,x,h | .bZ _,_,x,h | .aa,_,x,h | .ai _ _ _,_,x,h | .iy,_,x,h | .jy,_,x,h | .iV _ _,_,x,h | .undef,_,x,h | .bt _ _ _ _,_,x,h=>by simp [refs] at h
 | .ptr id o,h,x,hx=>by simp only [refs,ve] at hx;subst hx;exact h
 | .aC id o k,h,x,hx=>by simp only [refs,ve] at hx;subst hx;exact h
 | .map id,h,x,hx=>by simp only [refs,ve] at hx;subst hx;exact h
 | .it id,h,x,hx=>by simp only [refs,ve] at hx;subst hx;exact h
 | .fn (.y l) first cap,h,x,hx=>by simp only [refs,ve] at hx;subst hx;exact h.1
 | .fn (.f _) first cap,h,x,hx=>by
  simp only [refs,wJ] at hx;exact hx.elim (zL h.1 x) (zL h.2 x)
 | .agg cs,h,x,hx=>by simp only [below] at h;simp only [refs] at hx;exact zL h x hx
 | .ae cs,h,x,hx=>by simp only [below] at h;simp only [refs] at hx;exact zL h x hx
def zL {n:Nat}:∀{vs:List AV},pJ n vs->∀x,x∈iQ vs->x<n
 | [],_,x,h=>by simp [iQ] at h
 | v::r,h,x,hx=>by
  simp only [iQ,wJ] at hx;exact hx.elim (aaJ h.1 x) (zL h.2 x)
end
def PG {n:Nat}:∀{tm:Env},pK n tm->∀x,x∈iR tm->x<n
 | [],_,x,h=>by simp [iR] at h
 | (_,v)::r,h,x,hx=>by
  simp only [iR,wJ] at hx;exact hx.elim (aaJ h.1 x) (PG h.2 x)
def amQ {n:Nat}:∀{o:Obj},B2 n o->∀x,x∈om o->x<n
 | .cells _ pu _ _ cs,h,x,hx=>by
  cases pu with
  | true=>simp [om] at hx
  | false=>simp only [B2,yJ,ybv] at h;exact zL h x hx
 | .mp _ ks vs,h,x,hx=>by
  simp only [om,wJ] at hx;exact hx.elim (zL h.1 x) (zL h.2 x)
 | .si _ _,_,x,hx=>by simp [om] at hx
 | .lp tm _ _ _ _ _,h,x,hx=>by simp only [B2] at h;exact PG h x hx
def jx (B:Nat):List (List AV)->Hp
 | []=>[]
 | cs::r=>(B+r.length,.cells true true true 1 cs)::jx B r
def Cc (B:Nat):List (List AV)->Hp->Hp
 | [],acc=>acc
 | cs::r,acc=>Cc (B+1) r ((B,.cells true true true 1 cs)::acc)
def aaK:∀(l:List (List AV)) (B:Nat) (x:List AV) (acc:Hp),Cc B (l++[x]) acc=(B+l.length,.cells true true true 1 x)::Cc B l acc
 | [],B,x,acc=>rfl
 | c::l,B,x,acc=>by
  simp only [xh,Cc,aaK l,yG]
  grind
def abr (B:Nat) (acc:Hp):∀rs:List (List AV),Cc B rs.reverse acc=jx B rs++acc
 | []=>rfl
 | c::r=>by
  simp only [yak,aaK,abr B acc r,tZ,jx,xh]
def abt {B:Nat} {old:Hp}:∀{rs:List (List AV)} {i:Nat} (h:i<rs.length),aB (jx B rs++old) (B+i)=some (.cells true true true 1 (rs.reverse[i]'(by simpa using h)))
 | c::r,i,h=>by
  simp only [jx,xh,yak];by_cases hi:i=r.length
  ·subst hi;rw [aB,vd,yB]
   simp
  ·have aW:i<r.length:=by grind
   rw [aB,fY (by omega),yS,abt aW]
   grind
def B3 {a b:Nat} (h:a<b):yP a b=true:=by simp_all
def Ib {a b:Nat} (h:b<=a):yP a b=false:=by
 cases hq:yP a b with
 | false=>rfl
 | true=>have:=Nat.le_of_ble_eq_true hq;omega
def Pz {B:Nat} {old:Hp}:∀rs:List (List AV),iM B (jx B rs++old)=iM B old
 | []=>rfl
 | c::r=>by
  simp only [jx,xh];rw [iM,Ib (by omega),yS,Pz r]
def aaL {B:Nat} {old:Hp} {f:Nat->Option Nat}:∀rs:List (List AV),lO B f (jx B rs++old)=lO B f old
 | []=>rfl
 | c::r=>by
  simp only [jx,xh];rw [lO,Ib (by omega),yS,aaL r]
def aab {B n:Nat} {f:Nat->Option Nat} (hf:∀x,x<n->f x=some x):∀{old:Hp},Ia B n old->lO B f old=old
 | [],_=>rfl
 | (id,o)::r,h=>by
  rw [lO,B3 h.1,yB,anv hf h.2.1,aab hf h.2.2]
def anw {B s x:Nat} (h:B+s<=x):kO x (xW B s)=false:=by
 induction s generalizing B with
 | zero=>rfl
 | succ s ih=>rw [vQ,kO,fY (by omega),yS,ih (by omega)]
def PS {hp:Hp} {B R:Nat} (mL:∀i,i<R->∃rw ex sz cs,aB hp (B+i)=some (.cells rw true ex sz cs)):
  ∀(W:List Nat) (bn s:Nat),W.length<bn->s<=R->W.filter (fun x=> !yP x B)=xW (B+s) (R-s)->reach hp B bn W (xW B s)=xW B R
 | [],0,s,hf,_,_=>by simp at hf
 | [],bn+1,s,hf,hs,h=>by
  have:R-s=0:=by
   grind
  rw [reach,show R=s by omega]
 | id::W,0,s,hf,_,_=>by simp at hf
 | id::W,bn+1,s,hf,hs,h=>by
  have AX:W.length<bn:=by simp_all
  rw [reach];by_cases hid:id<B
  ·rw [B3 hid,Bool.true_or,yB];rw [yav,B3 hid] at h;exact PS mL W bn s AX hs (by simpa using h)
  ·rw [yav,Ib (by omega)] at h;have hRs:R-s=(R-s-1)+1:=by
    have:=congrArg List.length h
    grind
   rw [hRs,vQ] at h;injection h with h1 h2
   subst h1;rw [Ib (by omega),Bool.false_or,anw (yo _),yS];obtain ⟨rw,ex,sz,cs,ho⟩:=mL s (by omega);simp only [ho,om,yB,wh];have e:xW B s++[B+s]=xW B (s+1):=by rw [List.range'_concat];simp
   rw [e];exact PS mL W bn (s+1) AX (by omega) (by rw [h2,show R-s-1=R-(s+1) by omega,show B+s+1=B+(s+1) by omega])
def anx {B s i k:Nat} (h:i<s):lS (B+i) (xW B s) k=some (k+i):=by
 induction s generalizing B i k with
 | zero=>omega
 | succ s ih=>
  rw [vQ,lS];by_cases hi:i=0
  ·simp_all
  ·rw [fY (by omega),yS]
   have:=ih (B:=B+1) (i:=i-1) (k:=k+1) (by omega)
   grind
def amR {B R x:Nat} (h:x<B+R):jP B (xW B R) x=some x:=by
 unfold jP;by_cases hx:x<B
 ·rw [B3 hx,yB]
 ·rw [Ib (by omega),yS]
  have:=anx (B:=B) (s:=R) (i:=x-B) (k:=B) (by omega)
  grind
def aaM {hp:Hp} {f:Nat->Option Nat}:∀(ro:List (List AV)) (B:Nat) (acc:Hp),(∀i (h:i<ro.length),aB hp (B+i)=some (.cells true true true 1 ro[i]))->jQ hp f (xW B ro.length) B acc=Cc B ro acc
 | [],B,acc,_=>rfl
 | c::r,B,acc,h=>by
  have h0:=h 0 (by simp);simp only [yZ,List.getElem_cons_zero] at h0;rw [yG,vQ,jQ];simp only [h0,kN,yB,Cc]
  exact aaM r (B+1) _ (fun i hi=>by
   have:=h (i+1) (by simpa using hi)
   rw [show B+1+i=B+(i+1) by omega,this]
   simp)
def amn {live:List Nat} {tm:Env} {B ct:Nat} {old:Hp} {rs:List (List AV)} (ht:pK B (dN tm live)) (ho:Ia B (B+rs.length) old) (hl:(iR (dN tm live)).length+(iM B old).length<100000)
  (hr:(iM B old).filter (fun x=> !yP x B)=xW B rs.length):aQ live ⟨tm,jx B rs++old,ct,B⟩=⟨dN tm live,jx B rs++old,B+rs.length,B⟩:=by
 have mL:∀i (h:i<rs.length),aB (jx B rs++old) (B+i)=some (.cells true true true 1 (rs.reverse[i]'(by simpa using h))):=fun i h=>abt h
 have ahb:reach (jx B rs++old) B 100000 (iR (dN tm live)++iM B (jx B rs++old)) []=xW B rs.length:=by
  have:=PS (hp:=jx B rs++old) (B:=B) (R:=rs.length) (fun i hi=>⟨_,_,_,_,mL i hi⟩) (iR (dN tm live)++iM B (jx B rs++old)) 100000 0 (by rw [Pz,List.length_append];exact hl) (uG _) (by
   rw [List.filter_append,Pz,hr,tG.2 (fun x hx=>by
    have:=PG ht x hx
    simp [B3 this])]
   simp)
  grind
 have hid:∀x,x<B+rs.length->jP B (xW B rs.length) x=some x:=fun x hx=>amR hx
 have hn:=aaM (hp:=jx B rs++old) (f:=jP B (xW B rs.length)) rs.reverse B old (fun i hi=>mL i (by simpa using hi));rw [tZ] at hn;simp only [aQ,ahb,aaL,aab hid ho,hn,abr,List.length_range']
 rw [PR (n:=B) (fun x hx=>hid x (by omega)) ht]
def aaN {B b n:Nat} (hb:b<=B):∀{H:Hp},Ia b n H->∀x,x∈iM B H->x<n
 | [],_,x,hx=>by simp [iM] at hx
 | (id,o)::r,h,x,hx=>by
  rw [iM,B3 (by have:=h.1;omega),yB,wJ] at hx;exact hx.elim (amQ h.2.1 x) (aaN hb h.2.2 x)
def aac {live:List Nat} {tm:Env} {B ct:Nat} {old:Hp} (ht:pK B (dN tm live)) (ho:Ia B B old) (hl:(iR (dN tm live)).length+(iM B old).length<100000):
  aQ live ⟨tm,old,ct,B⟩=⟨dN tm live,old,B,B⟩:=by
 have:=amn (rs:=[]) (ct:=ct) ht (by simpa using ho) hl (by
  rw [tG.2 (fun x hx=>by have:=aaN (yo B) ho x hx;simp [B3 this])]
  rfl)
 simpa [jx] using this
end
section
open Go (IntKind)
section
variable {P:aH} {L:Lib}
def QX {n:Nat} {F:aX} (h:Has P L n F) {hp:Hp} {ct:Nat} {aq:List AV} {ex:Ex} {s:St} {v:AV} (hD:D P L F.body ⟨eO 0 aq,hp,ct,ct⟩=some (ex,s)) (he:ex= .normal\/ex= .ret) (hr:ik s F.fT=some v):
  gZ P L (D P L) hp ct n aq=some (v,s.hp,s.ct):=by
 simp only [gZ,h.heap,h.code,hD]
 grind
def acm (z:AV):∀n,(yq n [z]).flatten=yq n z
 | 0=>rfl
 | n+1=>by rw [wH,List.flatten_cons,acm z n,wH];rfl
mutual
def pC {n:Nat}:∀{v:AV},aZ v=true->below n v
 | .int _ _,_ | .bool _,_ | .bM _ _,_ | .str _,_ | .jU,_ | .bZ _,_ | .aa,_ | .ai _ _ _,_ | .iy,_ | .jy,_ | .iV _ _,_ | .undef,_=>trivial
 | .bt _ _ _ _,_=>trivial
 | .ptr _ _,h | .aC _ _ _,h | .map _,h | .it _,h=>by simp [aZ] at h
 | .fn (.y _) _ _,h=>by simp [aZ] at h
 | .fn (.f _) _ _,h=>by
  simp only [aZ,ye] at h;exact ⟨GR h.1,GR h.2⟩
 | .agg cs,h=>by simp only [aZ] at h;simp only [below];exact GR h
 | .ae cs,h=>by simp only [aZ] at h;simp only [below];exact GR h
def GR {n:Nat}:∀{vs:List AV},aG vs=true->pJ n vs
 | [],_=>trivial
 | _::_,h=>by
  simp only [aG,ye] at h;exact ⟨pC h.1,GR h.2⟩
end
end
end
section
open Go (IntKind)
section
variable {pre x post:List Nat} {i:Nat}
def n9:(pre++x++post).length=pre.length+x.length+post.length:=by grind
def BI (h:i<x.length):(pre++x++post).getD (pre.length+i) 0=x.getD i 0:=by grind
def LP (a:Nat) (h:i<x.length):(pre++x++post).set (pre.length+i) a=pre++x.set i a++post:=by simp_all
end
def lL (n:Nat) (k:yY) (a:Int):below n (.int k a)=True:=rfl
def my (n id o k:Nat):below n (.aC id o k)=(id<n):=rfl
def lG (n:Nat):pK n []=True:=rfl
def lD (n i:Nat) (v:AV) (r:Env):pK n ((i,v)::r)=(below n v/\pK n r):=rfl
def pG {live:List Nat} {tm:Env} {ct:Nat} {a b:List AV} (ht:pK 2 (dN tm live)) (hl:(iR (dN tm live)).length<100000):
  aQ live ⟨tm,[(1,.cells true true true 1 a),(0,.cells true true true 1 b)],ct,2⟩=⟨dN tm live,[(1,.cells true true true 1 a),(0,.cells true true true 1 b)],2,2⟩:=
 aac ht ⟨by omega,.inl rfl,by omega,.inl rfl,trivial⟩ (by
  have:iM 2 [(1,Obj.cells true true true 1 a),(0,Obj.cells true true true 1 b)]=[]:=rfl
  rw [this,List.length_nil,yZ];exact hl)
section
variable {P:aH} {L:Lib}
def anz {x s c:Nat} (hs:s<64) (hx:x<18446744073709551616) (hc:c<2^s):
  c|||(x*2^s%18446744073709551616)<18446744073709551616/\c<18446744073709551616/\x/2^(64-s)<2^s/\(c|||(x*2^s%18446744073709551616))+18446744073709551616*(x/2^(64-s))=x*2^s+c:=by
 have e:18446744073709551616=2^(64-s)*2^s:=by rw [<-wG,show 64-s+s=64 by omega]
 have h1:x*2^s%18446744073709551616=(x%2^(64-s))*2^s:=by rw [e,uz]
 have h2:x/2^(64-s)<2^s:=by
  refine (xQ (wC _)).2 ?_
  grind
 have h3:c|||(x*2^s%18446744073709551616)=(x%2^(64-s))*2^s+c:=by rw [h1,ybO,RA hc]
 have h4:(x%2^(64-s))*2^s+c<18446744073709551616:=by
  have:=yT (2^s) (show x%2^(64-s)+1<=2^(64-s) from xp _ (wC _))
  grind
 have h5:=yaL x (2^(64-s))
 grind
def awZ {v:AV} {w:List Nat} (hv:bO v w) (hw:lo 18446744073709551616 w) (lw:w.length<=99999999999) {s n:Nat} (hs:s<64) (hn:n=w.length+1):
  ∀k st,(∃(i:Nat) (out:List Nat),aQ [1,5,12,13,14] st=⟨[(1,ab s),(5,.aC 0 0 n),(12,v),(13,ab w.length),(14,ab i)],[(0,.cells true true true 1 (out.map uc))],1,0⟩/\i+k=w.length/\out.length=n/\lo 18446744073709551616 out/\bv 18446744073709551616 out=bv 18446744073709551616 (w.take i)*2^s/\out.getD i 0<2^s/\(∀m,i<m->out.getD m 0=0))->
   ∃ex st',D P L (.loop [1,5,12,13,14] DR) st=some (ex,st')/\∃tm out,st'=⟨tm,[(0,.cells true true true 1 (out.map uc))],1,0⟩/\ex= .exit 0/\aj tm 5= .aC 0 0 n/\out.length=n/\lo 18446744073709551616 out/\bv 18446744073709551616 out=bv 18446744073709551616 w*2^s:=by
 intro dq sq;generalize bk:aQ [1,5,12,13,14] sq=s0;revert bk s0 sq dq;apply di;rintro k st ⟨i,out,rfl,hk,hlen,bf,aO,hc,fL⟩;by_cases hi:i<w.length
 ·left
  have gx:=gg (show 0<18446744073709551616 by decide) hw i;have ex:=hv.aM hi;have ec:=sJ (l:=out) (o:=i) (by omega);have bc:=ni (b:=18446744073709551616) (l:=out) (i:=i) (x:=out.getD i 0|||(w.getD i 0*2^s%18446744073709551616)) (by omega);have hz:out.getD (i+1) 0=0:=fL _ (by omega);have eD:=iO (b:=18446744073709551616) (l:=w) i;generalize out.getD i 0=c at*
  generalize w.getD i 0=x at*
  obtain ⟨s1,s2,s3,s4⟩:=anz hs gx hc;have o1:=Jn .i64 x (s:=s) (by omega);have o2:=YO s2 (xp (x*2^s) (by decide));have o3:binOp .sub (.int .i64 64) (ab s)=some (ab (64-s:Nat)):=by
   rw [LL,wrap64 (by omega) (by omega)];congr 2;omega
  have o4:=Jo .i64 x (s:=64-s) (by omega);generalize kD:c|||(x*2^s%18446744073709551616)=c' at*
  by_cases h0:0<s
  ·have Mz:=ni (b:=18446744073709551616) (l:=out.set i c') (i:=i+1) (x:=x/2^(64-s)) (by simp;omega);rw [n8 (by omega),hz,xD,yZ] at Mz;have aAk:x/2^(64-s)<18446744073709551616:=we (vh _ _) gx;generalize x/2^(64-s)=y at*
   simp only [go_sem,ya,yi,DR,show (i:Int)<w.length by omega,ex,cp 0 0 (show i<n by omega),yg,ec,o1,o2,jH (l:=out) (o:=i) (by omega),show (0:Int)<(s:Int) by omega,show (i:Int)+1=((i+1:Nat):Int) from rfl,wrapN (n:=i+1) (by omega),o3,o4,cp 0 0 (show i+1<n by omega),jH (l:=out.set i c') (o:=i+1) (by simp;omega)];refine ⟨_,k-1,rfl,by omega,i+1,(out.set i c').set (i+1) y,by simp only [go_sem,ya,yb,av,au hv.pu,ax _ hv.pu]<;>rfl,by omega,by simp [hlen],lK (lK bf s1) aAk,?_,by rw [anb (by simp;omega)];exact s3,fun m hm=>by rw [n8 (by omega),n8 (by omega)];exact fL m (by omega)⟩
   rw [eD,wI,Mz,<-aO,xc,xk,xk (18446744073709551616^i)];have e:=congrArg (fun t=>18446744073709551616^i*t) s4;simp only [xt] at e;generalize 18446744073709551616^i*(18446744073709551616*y)=p1 at*
   generalize 18446744073709551616^i*(x*2^s)=p2 at*
   generalize 18446744073709551616^i*c'=p3 at*
   omega
  ·have zk:s=0:=by omega
   subst zk;have kB:c=0:=by simpa using hc
   have zD:x/2^(64-0)=0:=wB gx;rw [zD,xD,yZ,ybC,yi] at s4
   simp only [go_sem,ya,yi,DR,show (i:Int)<w.length by omega,ex,cp 0 0 (show i<n by omega),yg,ec,o1,o2,jH (l:=out) (o:=i) (by omega),show ¬(0:Int)<((0:Nat):Int) by omega,show (i:Int)+1=((i+1:Nat):Int) from rfl,wrapN (n:=i+1) (by omega)];refine ⟨_,k-1,rfl,by omega,i+1,out.set i c',by simp only [go_sem,ya,yb,av,au hv.pu,ax _ hv.pu]<;>rfl,by omega,by simp [hlen],lK bf s1,?_,by rw [n8 (by omega),hz];exact wC _,fun m hm=>by rw [n8 (by omega)];exact fL m (by omega)⟩
   rw [ybC,yi] at aO ⊢;rw [eD,<-aO];rw [kB,xD,yZ] at bc;rw [bc,s4,kB,yZ]
 ·right
  have:i=w.length:=by omega
  subst this;rw [List.take_length] at aO;simp only [go_sem,ya,DR,show ¬(w.length:Int)<w.length by omega];exact ⟨_,_,rfl,by simp,_,out,rfl,rfl,by simp only [go_sem,ya],hlen,bf,aO⟩
def ajh (h:Has P L 168 MX) {v:AV} {w:List Nat} (hv:bO v w) (hw:lo 18446744073709551616 w) (lw:w.length<=99999999999) {s:Nat} (hs:s<64):
  ∃out,ak P L 168 [v,ab s] (.bt true 1 (w.length+1) (out.map uc))/\out.length=w.length+1/\lo 18446744073709551616 out/\bv 18446744073709551616 out=bv 18446744073709551616 w*2^s:=by
 obtain ⟨n,hn⟩:∃n,n=w.length+1:=⟨_,rfl⟩;unfold ak;rw [aI h]
 simp only [go_sem,ya,yb,MX,hv.len,wrapN (n:=n) (by omega),show (w.length:Int)+1=((w.length+1:Nat):Int) from rfl,<-hn,CA (n:=n) _ (by omega)];generalize hq:D P L (.loop [1,5,12,13,14] DR) _=q;obtain ⟨ex,st,rfl,tm,o,rfl,rfl,t5,hlen,bf,aO⟩:=bI hq (awZ (P:=P) (L:=L) hv hw lw hs hn w.length)
  ⟨0,yq n 0,by simp only [go_sem,ya,yb,av,au hv.pu,ax _ hv.pu]<;>rfl,by omega,by simp,D7 (by decide) n,by rw [D8];simp [bv],by rw [BH];exact wC _,fun m _=>BH n m⟩
 refine ⟨o,?_,hlen,bf,aO⟩;simp only [go_sem,yb,av,t5];exact By (qt _ _ _) (by simp [hlen]) (by decide)
end
end
section
open Go (IntKind)
abbrev H2 (a b:List Nat):Hp:=[(1,.cells true true true 1 (a.map uc)),(0,.cells true true true 1 (b.map uc))]
structure gA (x vs:List Nat) (n v1 v2 u0 u1 u2:Nat):Prop where
 n2:2<=n
 nb:n<=99999999999
 lx:x.length=n+1
 lv:vs.length=n
 gx:lo 18446744073709551616 x
 gv:lo 18446744073709551616 vs
 eJ:vs.getD (n-1) 0=v1
 dt:vs.getD (n-2) 0=v2
 h0:x.getD n 0=u0
 h1:x.getD (n-1) 0=u1
 h2:x.getD (n-2) 0=u2
 pos:0<v1
 lt:bv 18446744073709551616 x<18446744073709551616*bv 18446744073709551616 vs
def ay2 (b p a v1 v2:Nat):a+p*v2+p*b*v1=(v1*b+v2)*p+a:=by grind
def ay3 (b p a v0 v1 v2:Nat):a+p*v2+p*b*v1+p*b*b*v0=((v0*b+v1)*b+v2)*p+a:=by grind
section
variable {x vs:List Nat} {n v1 v2 u0 u1 u2:Nat}
def gA.Ke (h:gA x vs n v1 v2 u0 u1 u2):v1<18446744073709551616:=h.eJ▸gg (by decide) h.gv _
def gA.CW (h:gA x vs n v1 v2 u0 u1 u2):v2<18446744073709551616:=h.dt▸gg (by decide) h.gv _
def gA.Kf (h:gA x vs n v1 v2 u0 u1 u2):u1<18446744073709551616:=h.h1▸gg (by decide) h.gx _
def gA.Kg (h:gA x vs n v1 v2 u0 u1 u2):u2<18446744073709551616:=h.h2▸gg (by decide) h.gx _
def gA.parts (h:gA x vs n v1 v2 u0 u1 u2):∃p vr ur,bv 18446744073709551616 vs=(v1*18446744073709551616+v2)*p+vr/\vr<p/\bv 18446744073709551616 x=((u0*18446744073709551616+u1)*18446744073709551616+u2)*p+ur/\ur<p:=by
 obtain ⟨m,hm⟩:∃m,n=m+2:=⟨n-2,by have:=h.n2;omega⟩;subst hm;have e1:=iO (b:=18446744073709551616) (l:=vs) (m+1);have e2:=iO (b:=18446744073709551616) (l:=vs) m;have f0:=iO (b:=18446744073709551616) (l:=x) (m+2);have f1:=iO (b:=18446744073709551616) (l:=x) (m+1);have f2:=iO (b:=18446744073709551616) (l:=x) m;have eJ:vs.getD (m+1) 0=v1:=h.eJ;have dt:vs.getD m 0=v2:=h.dt;have h0:x.getD (m+2) 0=u0:=h.h0;have h1:x.getD (m+1) 0=u1:=h.h1;have h2:x.getD m 0=u2:=h.h2
 rw [yN (by have:=h.lv;omega),eJ,e2,dt] at e1
 rw [yN (by have:=h.lx;omega),h0,f1,h1,f2,h2] at f0;have g1:=lQ (z6 h.gv m)
 rw [yI,xE (by have:=h.lv;omega)] at g1;have g2:=lQ (z6 h.gx m)
 rw [yI,xE (by have:=h.lx;omega)] at g2;refine ⟨18446744073709551616^m,_,_,?_,g1,?_,g2⟩
 ·grind
 ·grind
def gA.down (h:gA x vs n v1 v2 u0 u1 u2) {t r:Nat} (ht:t*v1+r=u0*18446744073709551616+u1) (hr:r*18446744073709551616+u2<t*v2):bv 18446744073709551616 x/bv 18446744073709551616 vs<=t-1:=by
 obtain ⟨p,vr,ur,h1,h2,h3,h4⟩:=h.parts;exact aaC h1 h3 h4 ht hr
def gA.stop (h:gA x vs n v1 v2 u0 u1 u2) {t r:Nat} (jG:t<18446744073709551616) (ht:t*v1+r=u0*18446744073709551616+u1) (hr:18446744073709551616<=r\/t*v2<=r*18446744073709551616+u2):t<=bv 18446744073709551616 x/bv 18446744073709551616 vs+1:=by
 obtain ⟨p,vr,ur,h1,h2,h3,h4⟩:=h.parts;exact abl (by decide) h1 h2 h3 h.pos h.CW jG ht hr
def gA.first (h:gA x vs n v1 v2 u0 u1 u2):bv 18446744073709551616 x/bv 18446744073709551616 vs<=(u0*18446744073709551616+u1)/v1:=by
 obtain ⟨p,vr,ur,h1,h2,h3,h4⟩:=h.parts;exact PF h1 h3 h4 h.Kg h.pos
def gA.top (h:gA x vs n v1 v2 u0 u1 u2):u0<=v1:=by
 obtain ⟨p,vr,ur,h1,h2,h3,h4⟩:=h.parts;exact abm h1 h3 h2 h.CW h.lt
def gA.digit (h:gA x vs n v1 v2 u0 u1 u2):bv 18446744073709551616 x/bv 18446744073709551616 vs<18446744073709551616:=by
 refine (xQ ?_).2 h.lt;rcases xn (bv 18446744073709551616 vs) with h0 | h0
 ·have:=h.lt;rw [h0] at this;simp at this
 ·exact h0
end
section
variable {P:aH} {L:Lib}
def agQ (ma:L.pure 143=some qH) (fS:L.pure 171=some nf) {w:AV} {x vs pre post qs:List Nat} (hw:bO w vs) {n v1 v2 u0 u1 u2:Nat} (hl:gA x vs n v1 v2 u0 u1 u2):
  ∀k s,(∃q r:Nat,aQ [0,1,5,6,7,8] s=⟨[(0,.aC 0 pre.length (n+1)),(1,w),(5,ab n),(6,uc q),(7,uc (r%18446744073709551616)),(8,uc (r/18446744073709551616))],H2 qs (pre++x++post),2,2⟩/\q*v1+r=u0*18446744073709551616+u1/\r<2*18446744073709551616/\q<18446744073709551616/\bv 18446744073709551616 x/bv 18446744073709551616 vs<=q/\q=k)->
   ∃ex s',D P L (.loop [0,1,5,6,7,8] sA) s=some (ex,s')/\∃tm q,s'=⟨tm,H2 qs (pre++x++post),2,2⟩/\ex= .exit 0/\aj tm 0= .aC 0 pre.length (n+1)/\aj tm 1=w/\aj tm 5=ab n/\aj tm 6=uc q/\q<18446744073709551616/\bv 18446744073709551616 x/bv 18446744073709551616 vs<=q/\q<=bv 18446744073709551616 x/bv 18446744073709551616 vs+1:=by
 intro dq sq;generalize bk:aQ [0,1,5,6,7,8] sq=s0;revert bk s0 sq dq;apply di;rintro k s ⟨q,r,rfl,hq,hr,nN,hQ,rfl⟩;have dV:=hl.n2;have oY:=hl.nb;by_cases eN:r<18446744073709551616
 ·have FC:r%18446744073709551616=r:=yU eN;have Ba:r/18446744073709551616=0:=wB eN;rw [FC,Ba];have EX:=hl.Ke;have Xf:=hl.CW;have aji:=hl.Kg;have po:=hw.aM (i:=n-2) (by have:=hl.lv;omega);have eK:=hw.aM (i:=n-1) (by have:=hl.lv;omega);rw [hl.dt] at po;rw [hl.eJ] at eK;have rO:=sJ (l:=pre++x++post) (o:=pre.length+(n-2)) (by rw [n9];have:=hl.lx;omega)
  rw [BI (by have:=hl.lx;omega),hl.h2] at rO;have f1:=Mb (P:=P) (f:=D P L) ma nN Xf;have f2:=B1 (P:=P) (f:=D P L) fS (x:=r) (y:=v1) (c:=0) eN EX (by omega);rw [show (uc 0)=AV.int .u64 0 from rfl] at f2;have fy:=xR (q*v2) 18446744073709551616;have bf:=xp (q*v2) (show 0<18446744073709551616 by decide);obtain ⟨H,hH⟩:∃H,H=q*v2/18446744073709551616:=⟨_,rfl⟩;obtain ⟨G,hG⟩:∃G,G=q*v2%18446744073709551616:=⟨_,rfl⟩;rw [<-hH,<-hG] at f1 fy;rw [<-hG] at bf;have zE:(n:Int)-2=((n-2:Nat):Int):=by omega
  have pq:(n:Int)-1=((n-1:Nat):Int):=by omega
  by_cases c1:H<r
  ·right
   simp only [go_sem,ya,sA,H2,show ((0:Nat):Int)=0 from rfl,zE,wrapN (n:=n-2) (by omega),po,f1,show (H:Int)<(r:Int) by omega];exact ⟨_,_,rfl,by simp,_,q,rfl,rfl,by simp only [go_sem,ya],by simp only [go_sem,ya],by simp only [go_sem,ya],by simp only [go_sem,ya],nN,hQ,hl.stop nN hq (.inr (by omega))⟩
  ·by_cases c2:H=r/\G<=u2
   ·right
    obtain ⟨c2,c3⟩:=c2
    simp only [go_sem,ya,sA,H2,show ((0:Nat):Int)=0 from rfl,zE,wrapN (n:=n-2) (by omega),po,f1,show (H:Int)=(r:Int) by omega];simp only [show ¬(r:Int)<(r:Int) by omega,yv]
    simp only [go_sem,ya,yi,zE,wrapN (n:=n-2) (by omega),cp 0 pre.length (show n-2<n+1 by omega),rO,show (G:Int)<=(u2:Int) by omega];exact ⟨_,_,rfl,by simp,_,q,rfl,rfl,by simp only [go_sem,ya],by simp only [go_sem,ya],by simp only [go_sem,ya],by simp only [go_sem,ya],nN,hQ,hl.stop nN hq (.inr (by omega))⟩
   ·left
    have Fp:r*18446744073709551616+u2<q*v2:=by omega
    have bk:0<q:=by
     rcases xn q with h0 | h0
     ·subst h0;omega
     ·exact h0
    have e3:binOp .sub (uc q) (.int .u64 1)=some (uc (q-1)):=CB (b:=1) (by omega) (by omega);have h1:(q-1)*v1+(r+v1)=u0*18446744073709551616+u1:=by
     obtain ⟨p,rfl⟩:∃p,q=p+1:=⟨q-1,by omega⟩;rw [wI,Nat.one_mul] at hq;rw [tp];omega
    have CX:=hl.down hq Fp;rw [yZ] at f2;by_cases c3:H=r
    ·have c4:¬G<=u2:=fun h=>c2 ⟨c3,h⟩
     subst c3
     simp only [go_sem,ya,xM,yi,sA,H2,show ((0:Nat):Int)=0 from rfl,zE,pq,wrapN (n:=n-2) (by omega),wrapN (n:=n-1) (by omega),po,eK,f1,f2,show ¬(H:Int)<(H:Int) by omega,cp 0 pre.length (show n-2<n+1 by omega),rO,show ¬(G:Int)<=(u2:Int) by omega,e3];refine ⟨_,q-1,rfl,by omega,q-1,H+v1,?_,h1,by omega,by omega,CX,rfl⟩;rw [pG (by simp only [go_sem,ya,yM,lL,my,lG,lD,pC hw.pu,wW]) (by simp only [go_sem,ya,yb,yM,au hw.pu])];simp only [go_sem,ya]
    ·simp only [go_sem,ya,xM,sA,H2,show ((0:Nat):Int)=0 from rfl,zE,pq,wrapN (n:=n-2) (by omega),wrapN (n:=n-1) (by omega),po,eK,f1,f2,show ¬(H:Int)<(r:Int) by omega,show ¬(H:Int)=(r:Int) by omega,e3];refine ⟨_,q-1,rfl,by omega,q-1,r+v1,?_,h1,by omega,by omega,CX,rfl⟩;rw [pG (by simp only [go_sem,ya,yM,lL,my,lG,lD,pC hw.pu,wW]) (by simp only [go_sem,ya,yb,yM,au hw.pu])];simp only [go_sem,ya]
 ·right
  have Ba:r/18446744073709551616=1:=by omega
  rw [Ba];simp only [go_sem,ya,sA,H2,show ((1:Nat):Int)=1 from rfl,Int.reduceEq];exact ⟨_,_,rfl,by simp,_,q,rfl,rfl,by simp only [go_sem,ya],by simp only [go_sem,ya],by simp only [go_sem,ya],by simp only [go_sem,ya],nN,hQ,hl.stop nN hq (.inl (by omega))⟩
end
end
section
open Go (IntKind)
def ao1 {b p x y z mT c bo zF ca q v X Y:Nat} (h1:q*v+c=b*ca+mT) (h2:z+mT+bo=x+b*zF) (h3:Y+q*X=y+p*(c+bo)) (W:Nat) (hW:W+p*x=Y+p*z):
  W+q*(X+p*v)=y+p*b*(ca+zF):=by grind
def ao2 {q v c:Nat} (hq:q<18446744073709551616) (hv:v<18446744073709551616) (hc:c<18446744073709551616):
  q*v+c=18446744073709551616*(q*v/18446744073709551616+(q*v%18446744073709551616+c+0)/18446744073709551616)+(q*v%18446744073709551616+c+0)%18446744073709551616/\
  q*v/18446744073709551616+(q*v%18446744073709551616+c+0)/18446744073709551616<18446744073709551616:=by
 have h:=xP (show q<=18446744073709551615 by omega) (show v<=18446744073709551615 by omega)
 grind
section
variable {P:aH} {L:Lib}
def aw0 (ma:L.pure 143=some qH) (fS:L.pure 171=some nf) (re:L.pure 173=some Ab) {w:AV} {x vs pre post qs:List Nat} (hw:bO w vs) {n:Nat} (oY:n<=99999999999) (lv:vs.length=n) (gv:lo 18446744073709551616 vs) {q:Nat} (hq:q<18446744073709551616):
  ∀k s,(∃(i c bo:Nat) (y:List Nat),aQ [0,1,5,6,11,12,104,105] s=⟨[(0,.aC 0 pre.length (n+1)),(1,w),(5,ab n),(6,uc q),(11,uc bo),(12,uc c),(104,ab n),(105,ab i)],H2 qs (pre++y++post),2,2⟩/\i+k=n/\y.length=n+1/\lo 18446744073709551616 y/\c<18446744073709551616/\bo<=1/\
    bv 18446744073709551616 y+q*bv 18446744073709551616 (vs.take i)=bv 18446744073709551616 x+18446744073709551616^i*(c+bo))->
   ∃ex s',D P L (.loop [0,1,5,6,11,12,104,105] HP) s=some (ex,s')/\∃tm c bo y,s'=⟨tm,H2 qs (pre++y++post),2,2⟩/\ex= .exit 2/\aj tm 0= .aC 0 pre.length (n+1)/\aj tm 1=w/\aj tm 5=ab n/\aj tm 6=uc q/\aj tm 11=uc bo/\aj tm 12=uc c/\y.length=n+1/\lo 18446744073709551616 y/\c<18446744073709551616/\bo<=1/\
    bv 18446744073709551616 y+q*bv 18446744073709551616 vs=bv 18446744073709551616 x+18446744073709551616^n*(c+bo):=by
 intro dq sq;generalize bk:aQ [0,1,5,6,11,12,104,105] sq=s0;revert bk s0 sq dq;apply di;rintro k s ⟨i,c,bo,y,rfl,hk,ly,gy,hc,iH,aO⟩;by_cases hi:i<n
 ·left
  have dH:(0:Nat)<18446744073709551616:=by decide
  have p6:=gg dH gv i;have pw:=gg dH gy i;have ev:=hw.aM (i:=i) (by omega);have ey:=sJ (l:=pre++y++post) (o:=pre.length+i) (by rw [n9];omega);rw [BI (by omega)] at ey;have eD:=iO (b:=18446744073709551616) (l:=vs) i;obtain ⟨a,ha⟩:∃a,a=vs.getD i 0:=⟨_,rfl⟩;obtain ⟨d,hd⟩:∃d,d=y.getD i 0:=⟨_,rfl⟩;rw [<-ha] at p6 ev eD;rw [<-hd] at pw ey;obtain ⟨m1,m2⟩:=ao2 hq p6 hc;have f1:=Mb (P:=P) (f:=D P L) ma hq p6;have f2:=B1 (P:=P) (f:=D P L) fS (x:=q*a%18446744073709551616) (y:=c) (c:=0) (xp _ dH) hc (by omega);obtain ⟨mT,ajj⟩:∃t,t=(q*a%18446744073709551616+c+0)%18446744073709551616:=⟨_,rfl⟩;obtain ⟨c1,dW⟩:∃t,t=(q*a%18446744073709551616+c+0)/18446744073709551616:=⟨_,rfl⟩;have ajk:mT<18446744073709551616:=by rw [ajj];exact xp _ dH
  rw [<-ajj,<-dW] at f2 m1;rw [<-dW] at m2;obtain ⟨h1,iD⟩:∃t,t=q*a/18446744073709551616:=⟨_,rfl⟩;rw [<-iD] at f1 m1 m2;rw [show (uc 0)=AV.int .u64 0 from rfl] at f2;have f3:=Rz (P:=P) (f:=D P L) re pw ajk iH;have jI:=Qz pw ajk iH;obtain ⟨z,hz⟩:∃t,t=(d+18446744073709551616*2-mT-bo)%18446744073709551616:=⟨_,rfl⟩;obtain ⟨b',cC⟩:∃t,t=(if mT+bo<=d then 0 else 1):=⟨_,rfl⟩;have mi:b'<=1:=by rw [cC];split<;>omega
  have FB:z<18446744073709551616:=by rw [hz];exact xp _ dH
  rw [<-hz,<-cC] at f3 jI;have f4:binOp .add (uc h1) (uc c1)=some (uc (h1+c1)):=by
   rw [Aq,yU m2]
  have bc:=ni (b:=18446744073709551616) (l:=y) (i:=i) (x:=z) (by omega);rw [<-hd] at bc;have aP:=fun (hp:Hp) (ct:Nat)=>jH (hp:=hp) (ct:=ct) (id:=0) (v:=z) (ex:=true) (l:=pre++y++post) (o:=pre.length+i) (by rw [n9];omega)
  have nv:=LP (pre:=pre) (x:=y) (post:=post) (i:=i) z (by omega);simp only [go_sem,ya,yi,HP,H2,show (i:Int)<(n:Int) by omega,ev,f1,f2,f4,cp 0 pre.length (show i<n+1 by omega),ey,f3,aP,nv];refine ⟨_,k-1,rfl,by omega,i+1,h1+c1,b',y.set i z,?_,by omega,by simp [ly],lK gy FB,m2,mi,?_⟩
  ·rw [pG (by simp only [go_sem,ya,yM,lL,my,lG,lD,pC hw.pu,wW]) (by simp only [go_sem,ya,yb,yM,au hw.pu])];rw [wrap64 (by omega) (by omega)];simp only [go_sem,ya]<;>rfl
  ·rw [eD,xc];exact ao1 m1 jI aO _ bc
 ·right
  have:i=n:=by omega
  subst this;rw [yN (by omega)] at aO;simp only [go_sem,ya,HP,H2,show ¬(i:Int)<(i:Int) by omega];exact ⟨_,_,rfl,by simp,_,c,bo,y,rfl,rfl,by simp only [go_sem,ya],by simp only [go_sem,ya],by simp only [go_sem,ya],by simp only [go_sem,ya],by simp only [go_sem,ya],by simp only [go_sem,ya],ly,gy,hc,iH,aO⟩
def aw1 (fS:L.pure 171=some nf) {w:AV} {y0 vs pre post qs:List Nat} (hw:bO w vs) {n:Nat} (oY:n<=99999999999) (lv:vs.length=n) (gv:lo 18446744073709551616 vs) {q:Nat}:
  ∀k s,(∃(i c:Nat) (y:List Nat),aQ [0,1,5,6,17,156,157] s=⟨[(0,.aC 0 pre.length (n+1)),(1,w),(5,ab n),(6,uc q),(17,uc c),(156,ab n),(157,ab i)],H2 qs (pre++y++post),2,2⟩/\i+k=n/\y.length=n+1/\lo 18446744073709551616 y/\c<=1/\
    bv 18446744073709551616 y+18446744073709551616^i*c=bv 18446744073709551616 y0+bv 18446744073709551616 (vs.take i))->
   ∃ex s',D P L (.loop [0,1,5,6,17,156,157] HQ) s=some (ex,s')/\∃tm c y,s'=⟨tm,H2 qs (pre++y++post),2,2⟩/\ex= .exit 4/\aj tm 0= .aC 0 pre.length (n+1)/\aj tm 5=ab n/\aj tm 6=uc q/\aj tm 17=uc c/\y.length=n+1/\lo 18446744073709551616 y/\c<=1/\
    bv 18446744073709551616 y+18446744073709551616^n*c=bv 18446744073709551616 y0+bv 18446744073709551616 vs:=by
 intro dq sq;generalize bk:aQ [0,1,5,6,17,156,157] sq=s0;revert bk s0 sq dq;apply di;rintro k s ⟨i,c,y,rfl,hk,ly,gy,hc,aO⟩;by_cases hi:i<n
 ·left
  have dH:(0:Nat)<18446744073709551616:=by decide
  have p6:=gg dH gv i;have pw:=gg dH gy i;have ev:=hw.aM (i:=i) (by omega);have ey:=sJ (l:=pre++y++post) (o:=pre.length+i) (by rw [n9];omega);rw [BI (by omega)] at ey;have eD:=iO (b:=18446744073709551616) (l:=vs) i;obtain ⟨a,ha⟩:∃a,a=vs.getD i 0:=⟨_,rfl⟩;obtain ⟨d,hd⟩:∃d,d=y.getD i 0:=⟨_,rfl⟩;rw [<-ha] at p6 ev eD;rw [<-hd] at pw ey;have f1:=B1 (P:=P) (f:=D P L) fS pw p6 hc;have bc:=ni (b:=18446744073709551616) (l:=y) (i:=i) (x:=(d+a+c)%18446744073709551616) (by omega);rw [<-hd] at bc;have gI:=KZ (18446744073709551616^i) 18446744073709551616 (d+a+c);have kD:(d+a+c)/18446744073709551616<=1:=by omega
  have FB:(d+a+c)%18446744073709551616<18446744073709551616:=xp _ dH;generalize (d+a+c)%18446744073709551616=z at*
  generalize (d+a+c)/18446744073709551616=c' at*
  have aP:=fun (hp:Hp) (ct:Nat)=>jH (hp:=hp) (ct:=ct) (id:=0) (v:=z) (ex:=true) (l:=pre++y++post) (o:=pre.length+i) (by rw [n9];omega)
  have nv:=LP (pre:=pre) (x:=y) (post:=post) (i:=i) z (by omega);simp only [go_sem,ya,yi,HQ,H2,show (i:Int)<(n:Int) by omega,ev,f1,cp 0 pre.length (show i<n+1 by omega),ey,aP,nv];refine ⟨_,k-1,rfl,by omega,i+1,c',y.set i z,?_,by omega,by simp [ly],lK gy FB,kD,?_⟩
  ·rw [pG (by simp only [go_sem,ya,yM,lL,my,lG,lD,pC hw.pu,wW]) (by simp only [go_sem,ya,yb,yM,au hw.pu])];rw [wrap64 (by omega) (by omega)];simp only [go_sem,ya]<;>rfl
  ·rw [eD,xc];rw [xt,xt] at gI;omega
 ·right
  have:i=n:=by omega
  subst this;rw [yN (by omega)] at aO;simp only [go_sem,ya,HQ,H2,show ¬(i:Int)<(i:Int) by omega];exact ⟨_,_,rfl,by simp,_,c,y,rfl,rfl,by simp only [go_sem,ya],by simp only [go_sem,ya],by simp only [go_sem,ya],by simp only [go_sem,ya],ly,gy,hc,aO⟩
end
end
section
open Go (IntKind)
def step_end {A V q Y B bo:Nat} (hV:0<V) (h:Y+q*V=A+B*bo) (h1:A/V<=q) (h2:q<=A/V+1) (hY:Y<B) (hVB:V<=B) (iH:bo<=1):
  (bo=0->q=A/V/\Y=A%V)/\(bo=1->q=A/V+1/\Y+V=B+A%V):=by
 have fy:=xR A V;have hm:=xp A hV;generalize A/V=Q at*
 have hq:q=Q\/q=Q+1:=by omega
 constructor
 ·rintro rfl;rcases hq with rfl | rfl
  ·grind
  ·grind
 ·grind
section
variable {P:aH} {L:Lib}
structure Wd (P:aH) (L:Lib):Prop where
 ma:L.pure 143=some qH
 fS:L.pure 171=some nf
 re:L.pure 173=some Ab
 Jp:L.pure 167=some Ed
 ajl:Has P L 165 IM
 lZ:Has P L 166 Aw
 ajm:Has P L 168 MX
 aAl:Has P L 169 qW
 ajn:Has P L 158 Er
 aAm:Has P L 157 IL
 ajo:Has P L 159 MV
 aAn:Has P L 144 MS
 Xg:Has P L 137 IJ
def aA:VC->VC
 | .seq _ b=>b
 | c=>c
def aw2 (h:Wd P L) {w:AV} {x vs pre post qs:List Nat} (hw:bO w vs) {n v1 v2 u0 u1 u2:Nat} (hl:gA x vs n v1 v2 u0 u1 u2) {q:Nat} (hq:q<18446744073709551616) (eZ:bv 18446744073709551616 x/bv 18446744073709551616 vs<=q) (px:q<=bv 18446744073709551616 x/bv 18446744073709551616 vs+1):
  ∃tm x',D P L (aA (aA (aA (aA (aA (aA qW.body)))))) ⟨[(0,.aC 0 pre.length (n+1)),(1,w),(5,ab n),(6,uc q)],H2 qs (pre++x++post),2,2⟩=some (.ret,⟨tm,H2 qs (pre++x'++post),2,2⟩)/\aj tm 4=uc (bv 18446744073709551616 x/bv 18446744073709551616 vs)/\x'.length=n+1/\lo 18446744073709551616 x'/\bv 18446744073709551616 x'=bv 18446744073709551616 x%bv 18446744073709551616 vs:=by
 have dV:=hl.n2;have oY:=hl.nb;have dH:(0:Nat)<18446744073709551616:=by decide
 have hV:0<bv 18446744073709551616 vs:=by
  rcases xn (bv 18446744073709551616 vs) with h0 | h0
  ·have:=hl.lt;rw [h0] at this;simp at this
  ·exact h0
 have rQ:below 2 w:=pC hw.pu;have Kh:=lQ hl.gv;rw [hl.lv] at Kh;have aHd:18446744073709551616^n<=18446744073709551616^(n+1):=Nat.pow_le_pow_right (by decide) (by omega);have aHe:aA (aA (aA (aA (aA (aA qW.body)))))=aA (aA (aA (aA (aA (aA qW.body))))):=rfl;simp only [go_sem,ya,qW,aA,H2];generalize mj:D P L (.loop [0,1,5,6,11,12,104,105] HP) _=qq;obtain ⟨ex,s,rfl,tm,c,bo,y,rfl,rfl,t0,t1,t5,t6,t11,t12,ly,gy,hc,iH,aO⟩:=bI mj (aw0 (P:=P) (L:=L) h.ma h.fS h.re hw oY hl.lv hl.gv hq (x:=x) (pre:=pre) (post:=post) (qs:=qs) n) ⟨0,0,0,x,by
  rw [pG (by simp only [go_sem,ya,yM,lL,my,lG,lD,rQ,wW]) (by simp only [go_sem,ya,yb,yM,au hw.pu])]
  simp only [go_sem,ya]<;>rfl,by omega,hl.lx,hl.gx,dH,by omega,by simp [bv]⟩
 have YT:=gg dH gy n;have ey:=sJ (l:=pre++y++post) (o:=pre.length+n) (by rw [n9];omega);rw [BI (by omega)] at ey;obtain ⟨d,hd⟩:∃d,d=y.getD n 0:=⟨_,rfl⟩;rw [<-hd] at YT ey;have f3:=Rz (P:=P) (f:=D P L) h.re YT hc iH;have jI:=Qz YT hc iH;obtain ⟨z,hz⟩:∃t,t=(d+18446744073709551616*2-c-bo)%18446744073709551616:=⟨_,rfl⟩;obtain ⟨b',cC⟩:∃t,t=(if c+bo<=d then 0 else 1):=⟨_,rfl⟩;have mi:b'<=1:=by rw [cC];split<;>omega
 have FB:z<18446744073709551616:=by rw [hz];exact xp _ dH
 rw [<-hz,<-cC] at f3 jI;have bc:=ni (b:=18446744073709551616) (l:=y) (i:=n) (x:=z) (by omega);rw [<-hd] at bc;have aP:=fun (hp:Hp) (ct:Nat)=>jH (hp:=hp) (ct:=ct) (id:=0) (v:=z) (ex:=true) (l:=pre++y++post) (o:=pre.length+n) (by rw [n9];omega)
 have nv:=LP (pre:=pre) (x:=y) (post:=post) (i:=n) z (by omega);have CY:lo 18446744073709551616 (y.set n z):=lK gy FB;have Bb:(y.set n z).length=n+1:=by simp [ly]
 have hY:=lQ CY;rw [Bb] at hY;have aAo:bv 18446744073709551616 (y.set n z)+q*bv 18446744073709551616 vs=bv 18446744073709551616 x+18446744073709551616^(n+1)*b':=by
  have e2:=congrArg (fun t=>18446744073709551616^n*t) jI;rw [xc,xk];simp only [xt] at e2 aO;generalize 18446744073709551616^n*(18446744073709551616*b')=p1 at*
  generalize 18446744073709551616^n*z=p2 at*
  generalize 18446744073709551616^n*d=p3 at*
  generalize 18446744073709551616^n*c=p4 at*
  generalize 18446744073709551616^n*bo=p5 at*
  omega
 obtain ⟨s0,s1⟩:=step_end hV aAo eZ px hY (by omega) mi;simp only [go_sem,ya,yb,yM,yi,pG,lL,my,lG,lD,rQ,wW,au hw.pu,t0,t1,t5,t6,t11,t12,cp 0 pre.length (show n<n+1 by omega),ey,f3,aP,nv];by_cases lh:b'=0
 ·obtain ⟨e1,e2⟩:=s0 lh;simp only [go_sem,ya,show (b':Int)=0 by omega];exact ⟨_,y.set n z,rfl,by rw [<-e1];simp only [go_sem],Bb,CY,e2⟩
 ·obtain ⟨e1,e2⟩:=s1 (by omega);simp only [go_sem,ya,show ¬(b':Int)=0 by omega];generalize CC:D P L (.loop [0,1,5,6,17,156,157] HQ) _=YS;obtain ⟨ex,s,rfl,ru,c2,y2,rfl,rfl,t0,t5,t6,t17,YU,OZ,rI,ay4⟩:=bI CC (aw1 (P:=P) (L:=L) h.fS hw oY hl.lv hl.gv (y0:=y.set n z) (pre:=pre) (post:=post) (qs:=qs) (q:=q) n) ⟨0,0,y.set n z,by
   rw [pG (by simp only [go_sem,ya,yM,lL,my,lG,lD,rQ,wW]) (by simp only [go_sem,ya,yb,yM,au hw.pu])]
   simp only [go_sem,ya]<;>rfl,by omega,Bb,CY,by omega,by simp [bv]⟩
  have aAp:=gg dH OZ n;have YV:=sJ (l:=pre++y2++post) (o:=pre.length+n) (by rw [n9];omega);rw [BI (by omega)] at YV;obtain ⟨d2,gH⟩:∃d,d=y2.getD n 0:=⟨_,rfl⟩;rw [<-gH] at aAp YV;have f4:=Aq d2 c2;have Mz:=ni (b:=18446744073709551616) (l:=y2) (i:=n) (x:=(d2+c2)%18446744073709551616) (by omega);rw [<-gH] at Mz;have gI:=KZ (18446744073709551616^n) 18446744073709551616 (d2+c2);have aAq:(d2+c2)%18446744073709551616<18446744073709551616:=xp _ dH;have hc3:(d2+c2)/18446744073709551616<=1:=by omega
  generalize (d2+c2)%18446744073709551616=z2 at*
  generalize (d2+c2)/18446744073709551616=c3 at*
  have N6:=fun (hp:Hp) (ct:Nat)=>jH (hp:=hp) (ct:=ct) (id:=0) (v:=z2) (ex:=true) (l:=pre++y2++post) (o:=pre.length+n) (by rw [n9];omega)
  have MA:=LP (pre:=pre) (x:=y2) (post:=post) (i:=n) z2 (by omega);have O0:lo 18446744073709551616 (y2.set n z2):=lK OZ aAq;have Ki:(y2.set n z2).length=n+1:=by simp [YU]
  have hY3:=lQ O0;rw [Ki] at hY3;have bk:0<q:=by rw [e1];exact Nat.succ_pos _
  have zG:bv 18446744073709551616 x/bv 18446744073709551616 vs=q-1:=by rw [e1,tp]
  have f5:binOp .sub (uc q) (.int .u64 1)=some (uc (q-1)):=CB (b:=1) (by omega) (by omega);simp only [go_sem,ya,yb,yM,yi,pG,lL,my,lG,lD,wW,t0,t5,t6,t17,cp 0 pre.length (show n<n+1 by omega),YV,f4,N6,MA,f5];refine ⟨_,y2.set n z2,rfl,by rw [zG];simp only [go_sem],Ki,O0,?_⟩;have e3:bv 18446744073709551616 (y2.set n z2)+18446744073709551616^(n+1)*c3=18446744073709551616^(n+1)+bv 18446744073709551616 x%bv 18446744073709551616 vs:=by
   rw [<-e2,<-ay4,xc];rw [xt] at gI;omega
  rcases (show c3=0\/c3=1 by omega) with rfl | rfl
  ·omega
  ·omega
def aAr (h:Wd P L) {w:AV} {x vs pre post qs:List Nat} (hw:bO w vs) {n v1 v2 u0 u1 u2:Nat} (hl:gA x vs n v1 v2 u0 u1 u2):
  ∃x',gZ P L (D P L) (H2 qs (pre++x++post)) 2 169 [.aC 0 pre.length (n+1),w]=some (uc (bv 18446744073709551616 x/bv 18446744073709551616 vs),H2 qs (pre++x'++post),2)/\x'.length=n+1/\lo 18446744073709551616 x'/\bv 18446744073709551616 x'=bv 18446744073709551616 x%bv 18446744073709551616 vs:=by
 have dV:=hl.n2;have oY:=hl.nb;have rQ:below 2 w:=pC hw.pu;have pq:(n:Int)-1=((n-1:Nat):Int):=by omega
 have eK:=hw.aM (i:=n-1) (by have:=hl.lv;omega);rw [hl.eJ] at eK;have Bc:=sJ (l:=pre++x++post) (o:=pre.length+n) (by rw [n9];have:=hl.lx;omega)
 rw [BI (by have:=hl.lx;omega),hl.h0] at Bc;have Be:=sJ (l:=pre++x++post) (o:=pre.length+(n-1)) (by rw [n9];have:=hl.lx;omega)
 rw [BI (by have:=hl.lx;omega),hl.h1] at Be;have EX:=hl.Ke;have N7:=hl.Kf;have nA:=hl.top;have iB:∃tm x',D P L qW.body ⟨eO 0 [.aC 0 pre.length (n+1),w],H2 qs (pre++x++post),2,2⟩=some (.ret,⟨tm,H2 qs (pre++x'++post),2,2⟩)/\aj tm 4=uc (bv 18446744073709551616 x/bv 18446744073709551616 vs)/\x'.length=n+1/\lo 18446744073709551616 x'/\bv 18446744073709551616 x'=bv 18446744073709551616 x%bv 18446744073709551616 vs:=by
  have behind:∀(jk:Env) (q:Nat),aj jk 0= .aC 0 pre.length (n+1)->aj jk 1=w->aj jk 5=ab n->aj jk 6=uc q->q<18446744073709551616->bv 18446744073709551616 x/bv 18446744073709551616 vs<=q->q<=bv 18446744073709551616 x/bv 18446744073709551616 vs+1->
    ∃tm x',mC P L (mC P L (sH 0 (some (Ex.exit 0,⟨jk,H2 qs (pre++x++post),2,2⟩))) (.kp [0,1,5,6])) (aA (aA (aA (aA (aA (aA qW.body))))))=some (.ret,⟨tm,H2 qs (pre++x'++post),2,2⟩)/\aj tm 4=uc (bv 18446744073709551616 x/bv 18446744073709551616 vs)/\x'.length=n+1/\lo 18446744073709551616 x'/\bv 18446744073709551616 x'=bv 18446744073709551616 x%bv 18446744073709551616 vs:=by
   intro jk q t0 t1 t5 t6 g1 g2 g3;have hk:dN jk [0,1,5,6]=[(0,.aC 0 pre.length (n+1)),(1,w),(5,ab n),(6,uc q)]:=by simp only [go_sem,t0,t1,t5,t6]
   rw [afB,fD,ai6,pG (by rw [hk];simp only [go_sem,yM,lL,my,lG,lD,rQ,wW]) (by rw [hk];simp only [go_sem,yb,yM,au hw.pu]),fD,hk];exact aw2 h hw hl g1 g2 g3
  by_cases hc:u0<v1
  ·have f1:=ajg h.ajl h.Jp (P:=P) (L:=L) hc N7 EX;have fy:=xR (u0*18446744073709551616+u1) v1;have ri:=xp (u0*18446744073709551616+u1) hl.pos;have nN:(u0*18446744073709551616+u1)/v1<18446744073709551616:=by
    refine (xQ hl.pos).2 ?_
    have:=yT 18446744073709551616 (show u0+1<=v1 from hc)
    rw [xB 18446744073709551616 v1];omega
   have Mc:=hl.first;rw [xB] at fy;generalize (u0*18446744073709551616+u1)/v1=q0 at*
   generalize (u0*18446744073709551616+u1)%v1=r0 at*
   simp only [go_sem,ya,yi,qW,H2,hw.len,hl.lv,pq,wrapN (n:=n-1) (by omega),eK,cp 0 pre.length (show n<n+1 by omega),cp 0 pre.length (show n-1<n+1 by omega),Bc,Be,show ¬(v1:Int)<=(u0:Int) by omega,f1];generalize mj:D P L (.loop [0,1,5,6,7,8] sA) _=qq;obtain ⟨ex,s,rfl,jk,q,rfl,rfl,t0,t1,t5,t6,g1,g2,g3⟩:=bI mj (agQ (P:=P) (L:=L) h.ma h.fS hw hl (pre:=pre) (post:=post) (qs:=qs) q0) ⟨q0,r0,by
    rw [pG (by simp only [go_sem,ya,yM,lL,my,lG,lD,rQ,wW]) (by simp only [go_sem,ya,yb,yM,au hw.pu])];rw [yU (show r0<18446744073709551616 by omega),wB (show r0<18446744073709551616 by omega)]
    simp only [go_sem,ya]<;>rfl,fy,by omega,nN,Mc,rfl⟩
   exact behind jk q t0 t1 t5 t6 g1 g2 g3
  ·have nK:u0=v1:=by omega
   have f1:=B1 (P:=P) (f:=D P L) h.fS N7 EX (c:=0) (by omega);rw [yZ,show (uc 0)=AV.int .u64 0 from rfl] at f1;have N8:=hl.digit
   simp only [go_sem,ya,yi,qW,H2,hw.len,hl.lv,pq,wrapN (n:=n-1) (by omega),eK,cp 0 pre.length (show n<n+1 by omega),cp 0 pre.length (show n-1<n+1 by omega),Bc,Be,show (v1:Int)<=(u0:Int) by omega,f1];generalize mj:D P L (.loop [0,1,5,6,7,8] sA) _=qq;obtain ⟨ex,s,rfl,jk,q,rfl,rfl,t0,t1,t5,t6,g1,g2,g3⟩:=bI mj (agQ (P:=P) (L:=L) h.ma h.fS hw hl (pre:=pre) (post:=post) (qs:=qs) 18446744073709551615) ⟨18446744073709551615,u1+v1,by
    rw [pG (by simp only [go_sem,ya,yM,lL,my,lG,lD,rQ,wW]) (by simp only [go_sem,ya,yb,yM,au hw.pu])]
    simp only [go_sem,ya]<;>rfl,by rw [nK];omega,by omega,by decide,by omega,rfl⟩
   exact behind jk q t0 t1 t5 t6 g1 g2 g3
 obtain ⟨tm,x',g1,g2,g3,g4,g5⟩:=iB;refine ⟨x',?_,g3,g4,g5⟩;exact QX h.aAl g1 (.inr rfl) (by show ik _ [RV.t 4]=_;rw [W7,R4,g2])
end
end
section
open Go (IntKind)
def WN (v:AV) (m:Nat):Prop:=∃l,bO v l/\lo 18446744073709551616 l/\fW l/\bv 18446744073709551616 l=m
def aq5 (i:Nat) (q:List Nat) (x:Nat):(yq (i+1) 0++q).set i x=yq i 0++x::q:=by
 rw [List.replicate_succ',List.append_assoc]
 simp_all
def LQ {b:Nat} {l:List Nat} {i:Nat} (h:i<l.length):bv b (l.drop i)=l.getD i 0+b*bv b (l.drop (i+1)):=by
 rw [yX h,gd h];rfl
def RB {v w:AV} {x y:List Nat} (hv:bO v x) (hw:bO w y) (hp:Hp):result hp (.ae [v,w])=some (.ae [v,w]):=by
 rcases hv with ⟨rfl,_⟩ | ⟨e,rfl⟩<;>rcases hw with ⟨rfl,_⟩ | ⟨e',rfl⟩<;>rfl
def ath {hp:Hp} {id n l h:Nat} {pu ex:Bool} {cs:List AV} {tm:Env} {x y:X} (hg:aB hp id=some (.cells true pu ex 1 cs)) (hx:cW tm 0 (some x)=some l) (hy:cW tm n (some y)=some h) (h1:l<h) (h2:h<=n):
  eV hp (.sl 1) (.aC id 0 n) tm (some x) (some y)=some (.aC id l (h-l)):=by
 simp only [eV,hg,hx,hy,yt (uH h1),yt h2,vd,wN,yB,fY (Nat.ne_of_lt h1),xO,yS,yg,yi]
def acn {hp:Hp} {id n h:Nat} {pu ex:Bool} {cs:List AV} {tm:Env} {y:X} (hg:aB hp id=some (.cells true pu ex 1 cs)) (hy:cW tm n (some y)=some h) (h1:0<h) (h2:h<=n):
  eV hp (.sl 1) (.aC id 0 n) tm none (some y)=some (.aC id 0 h):=by
 have hx:cW tm 0 none=some 0:=rfl;simp only [eV,hg,hx,hy,yt (uG h),yt h2,vd,wN,yB,fY (show (0:Nat)≠h by omega),xO,yS,ybB,yZ,Nat.sub_zero]
def ahy (P:aH) (L:Lib) (f:cy) (hp:Hp) (ct n:Nat) (xs:List AV):ez P L f hp ct .heap (.fn (.f n) [] []) xs=gZ P L f hp ct n xs:=by
 simp only [ez,wh,List.append_nil]
section
variable {P:aH} {L:Lib}
def aw3 (h:Wd P L) {v w:AV} {x:List Nat} (hv:bO v x) (hx:lo 18446744073709551616 x) (lx:x.length<=99999999999) {d:Nat} (hw:bO w [d]) (fX:0<d) (YW:d<18446744073709551616) {n:Nat} (hn:n=x.length):
  ∀k s,(∃(i r:Nat) (q:List Nat),aQ [0,1,6,7,8] s=⟨[(0,v),(1,w),(6,.aC 0 0 n),(7,uc r),(8,ab ((i:Int)-1))],[(0,.cells true true true 1 ((yq i 0++q).map uc))],1,0⟩/\i=k/\i+q.length=n/\lo 18446744073709551616 q/\r<d/\bv 18446744073709551616 (x.drop i)=bv 18446744073709551616 q*d+r)->
   ∃ex s',D P L (.loop [0,1,6,7,8] HL) s=some (ex,s')/\∃tm r q,s'=⟨tm,[(0,.cells true true true 1 (q.map uc))],1,0⟩/\ex= .exit 0/\aj tm 6= .aC 0 0 n/\aj tm 7=uc r/\q.length=n/\lo 18446744073709551616 q/\r<d/\bv 18446744073709551616 x=bv 18446744073709551616 q*d+r:=by
 intro dq sq;generalize bk:aQ [0,1,6,7,8] sq=s0;revert bk s0 sq dq;apply di;rintro k s ⟨i,r,q,rfl,rfl,hlen,bf,hr,aO⟩
 cases i with
 | zero=>
  right
  simp only [go_sem,ya,HL,show ¬(0:Int)<=((0:Nat):Int)-1 by omega];exact ⟨_,_,rfl,by simp,_,r,q,rfl,rfl,by simp only [go_sem,ya],by simp only [go_sem,ya],by omega,bf,hr,by simpa using aO⟩
 | succ i=>
  left
  have gx:=gg (show 0<18446744073709551616 by decide) hx i;have e1:=hv.aM (i:=i) (by omega);have e2:=hw.aM (i:=0) (by simp);have gV:=LQ (b:=18446744073709551616) (l:=x) (i:=i) (by omega);rw [show ([d]:List Nat).getD 0 0=d from rfl] at e2;generalize x.getD i 0=a at*
  have e3:=ajg (P:=P) (L:=L) h.ajl h.Jp hr gx YW;have fy:=xR (r*18446744073709551616+a) d;have ri:=xp (r*18446744073709551616+a) fX;have nN:(r*18446744073709551616+a)/d<18446744073709551616:=by
   refine (xQ fX).2 ?_;omega
  generalize (r*18446744073709551616+a)/d=q1 at*
  generalize (r*18446744073709551616+a)%d=r1 at*
  have aP:=fun (hp:Hp) (ct:Nat)=>jH (hp:=hp) (ct:=ct) (id:=0) (v:=q1) (ex:=true) (l:=yq (i+1) 0++q) (o:=i) (by simp;omega)
  simp only [go_sem,ya,yi,HL,show ((i+1:Nat):Int)-1=(i:Int) by omega,show (0:Int)<=(i:Int) by omega,e1,e2,e3,cp 0 0 (show i<n by omega),yg,aP,aq5];refine ⟨_,i,rfl,by omega,i,r1,q1::q,?_,rfl,by simp;omega,K8.2 ⟨D6.2 nN,bf⟩,ri,?_⟩
  ·rw [wrap64 (by omega) (by omega)];simp only [go_sem,ya,yb,av,au hv.pu,ax _ hv.pu,au hw.pu,ax _ hw.pu]<;>rfl
  ·rw [gV,aO];simp only [bv];rw [wI,xt,<-xk 18446744073709551616];rw [xB d q1] at fy;omega
def ao3 {s u u1:Nat} (hs:s<64) (hu:u<18446744073709551616):u/2^s<18446744073709551616/\(0<s->u/2^s|||(u1*2^(64-s)%18446744073709551616)<18446744073709551616)/\
  (if 0<s then (u/2^s|||(u1*2^(64-s)%18446744073709551616)) else u/2^s)*2^s+u%2^s=u+18446744073709551616*(u1%2^s):=by
 have e:18446744073709551616=2^s*2^(64-s):=by rw [<-wG,show s+(64-s)=64 by omega]
 have h1:u1*2^(64-s)%18446744073709551616=(u1%2^s)*2^(64-s):=by rw [e,uz]
 have hp:=wC s;have h2:u/2^s<2^(64-s):=by
  refine (xQ hp).2 ?_
  grind
 have h3:u/2^s|||(u1*2^(64-s)%18446744073709551616)=(u1%2^s)*2^(64-s)+u/2^s:=by rw [h1,ybO,RA h2]
 have h4:(u1%2^s)*2^(64-s)+u/2^s<18446744073709551616:=by
  have:=yT (2^(64-s)) (show u1%2^s+1<=2^s from xp _ hp)
  grind
 have h5:=yaL u (2^s)
 grind
def aw4 {us qs:List Nat} {n la m s:Nat} (hs:s<64) (lu:us.length=la) (gu:lo 18446744073709551616 us) (hn:n<la) (Kj:la<=100000000000):
  ∀k st,(∃(i:Nat) (rs:List Nat),aQ [9,11,12,13,96,97] st=⟨[(9,ab s),(11,.aC 0 0 la),(12,ab n),(13,.aC 1 0 m),(96,ab n),(97,ab i)],H2 qs (rs++us.drop i),2,0⟩/\i+k=n/\rs.length=i/\lo 18446744073709551616 rs/\bv 18446744073709551616 rs*2^s+us.getD 0 0%2^s=bv 18446744073709551616 (us.take i)+18446744073709551616^i*(us.getD i 0%2^s))->
   ∃ex st',D P L (.loop [9,11,12,13,96,97] DP) st=some (ex,st')/\∃tm rs,st'=⟨tm,H2 qs (rs++us.drop n),2,0⟩/\ex= .exit 4/\aj tm 11= .aC 0 0 la/\aj tm 12=ab n/\aj tm 13= .aC 1 0 m/\rs.length=n/\lo 18446744073709551616 rs/\bv 18446744073709551616 rs*2^s+us.getD 0 0%2^s=bv 18446744073709551616 (us.take n)+18446744073709551616^n*(us.getD n 0%2^s):=by
 intro dq sq;generalize bk:aQ [9,11,12,13,96,97] sq=s0;revert bk s0 sq dq;apply di;rintro k st ⟨i,rs,rfl,hk,lr,gr,aO⟩;by_cases hi:i<n
 ·left
  have dH:(0:Nat)<18446744073709551616:=by decide
  have g0:=gg dH gu i;have g1:=gg dH gu (i+1);have d0:us.drop i=us.getD i 0::us.getD (i+1) 0::us.drop (i+2):=by
   rw [yX (show i<us.length by omega),yX (show i+1<us.length by omega),gd,gd]
  have eD:=iO (b:=18446744073709551616) (l:=us) i;have kR:∀r,r<18446744073709551616->r*2^s+us.getD i 0%2^s=us.getD i 0+18446744073709551616*(us.getD (i+1) 0%2^s)->lo 18446744073709551616 (rs++[r])/\bv 18446744073709551616 (rs++[r])*2^s+us.getD 0 0%2^s=bv 18446744073709551616 (us.take (i+1))+18446744073709551616^(i+1)*(us.getD (i+1) 0%2^s):=fun r h1 h2=>by
   refine ⟨K8.2 ⟨gr,D6.2 h1⟩,?_⟩;rw [qh,Af,lr,eD,wI,xc,xk,xk];have e2:=congrArg (fun t=>18446744073709551616^i*t) h2;simp only [xt] at e2;generalize 18446744073709551616^i*(r*2^s)=p1 at*
   generalize 18446744073709551616^i*(us.getD i 0%2^s)=p2 at*
   generalize 18446744073709551616^i*us.getD i 0=p3 at*
   generalize 18446744073709551616^i*(18446744073709551616*(us.getD (i+1) 0%2^s))=p4 at*
   omega
  have Xh:us.drop (i+1)=us.getD (i+1) 0::us.drop (i+2):=by
   rw [yX (show i+1<us.length by omega),gd]
  generalize us.getD i 0=a at*
  obtain ⟨c,hc⟩:∃c,c=us.getD (i+1) 0:=⟨_,rfl⟩;rw [<-hc] at g1 d0 Xh kR;generalize us.drop (i+2)=dr at*
  rw [d0];obtain ⟨n1,n2,n3⟩:=ao3 (u1:=c) hs g0;have o1:=Jo .i64 a (s:=s) (by omega);have o2:=Jn .i64 c (s:=64-s) (by omega);have o3:binOp .sub (.int .i64 64) (ab s)=some (ab (64-s:Nat)):=by
   rw [LL,wrap64 (by omega) (by omega)];congr 2;omega
  have o4:=YO n1 (xp (c*2^(64-s)) dH);have sa:∀z y,(rs++z::y).set i a=rs++a::y:=fun z y=>by rw [tL _ _ (by omega),lr];simp
  have e0:∀z y,vZ i ((rs++z::y).map uc)=uc z::y.map uc:=fun z y=>by
   rw [xy,yaD (by simp [lr])];rfl
  have e1:∀z y u,vZ (i+1) ((rs++z::y::u).map uc)=uc y::u.map uc:=fun z y u=>by
   rw [show rs++z::y::u=(rs++[z])++y::u by simp,xy,yaD (by simp [lr])];rfl
  have kz:∀(hp:Hp) (ct x z:Nat) (y:List Nat),gU hp ct 0 i 1 [.int .u64 (x:Int)] (some (.cells true true true 1 ((rs++z::y).map uc)))=some (.ae [],bc hp 0 (.cells true true true 1 ((rs++x::y).map uc)),ct):=fun hp ct x z y=>by
   rw [jH (by simp;omega),tL _ _ (by omega),lr];simp
  by_cases h0:0<s
  ·rw [yE h0] at n3;obtain ⟨f1,f2⟩:=kR _ (n2 h0) n3;generalize a/2^s=a1 at*
   generalize a1|||(c*2^(64-s)%18446744073709551616)=r at*
   simp only [go_sem,ya,yi,DP,H2,show (i:Int)<(n:Int) by omega,cp 0 0 (show i<la by omega),yg,e0,o1,kz,show (0:Int)<(s:Int) by omega,show (i:Int)+1=((i+1:Nat):Int) from rfl,wrapN (n:=i+1) (by omega),show ((i+1:Nat):Int)<(la:Int) by omega,cp 0 0 (show i+1<la by omega),e1,o3,o2,o4];refine ⟨_,k-1,rfl,by omega,i+1,rs++[r],by simp only [go_sem,ya,yb,av];rw [Xh];simp,by omega,by simp [lr],f1,by rw [<-hc];exact f2⟩
  ·rw [yr h0] at n3;obtain ⟨f1,f2⟩:=kR _ n1 n3;generalize a/2^s=a1 at*
   simp only [go_sem,ya,yi,DP,H2,show (i:Int)<(n:Int) by omega,cp 0 0 (show i<la by omega),yg,e0,o1,kz,show ¬(0:Int)<(s:Int) by omega,show (i:Int)+1=((i+1:Nat):Int) from rfl,wrapN (n:=i+1) (by omega)];refine ⟨_,k-1,rfl,by omega,i+1,rs++[a1],by simp only [go_sem,ya,yb,av];rw [Xh];simp,by omega,by simp [lr],f1,by rw [<-hc];exact f2⟩
 ·right
  have:i=n:=by omega
  subst this;simp only [go_sem,ya,DP,H2,show ¬(i:Int)<(i:Int) by omega];exact ⟨_,_,rfl,by simp,_,rs,rfl,rfl,by simp only [go_sem,ya],by simp only [go_sem,ya],by simp only [go_sem,ya],lr,gr,aO⟩
end
end
end VE
