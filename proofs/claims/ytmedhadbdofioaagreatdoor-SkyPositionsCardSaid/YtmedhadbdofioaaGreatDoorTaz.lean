import Derived.Test.YtmedhadbdofioaaGreatDoorTay
import Derived.Test.YtmedhadbdofioaaGreatDoorTat
set_option linter.all false
set_option maxRecDepth 100000
open Bool renaming and_true→uF
open Int renaming le_of_lt→ut,mul_le_mul_of_nonneg_left→vn,mul_nonneg→vS,ofNat_eq_natCast→tG,pow_pos→ybo,pow_succ→yar,tdiv_eq_ediv_of_nonneg→xK,tmod_eq_emod_of_nonneg→xn,toNat_natCast→xI
open Int.ofNat renaming inj→tP
open List renaming append_assoc→xp,cons_append→y7,drop_drop→wX,drop_eq_getElem_cons→yL,drop_eq_nil_of_le→y8,drop_left→yan,drop_zero→yj,eq_nil_of_length_eq_zero→yJ,getD_eq_getElem?_getD→y9,getElem?_eq_getElem→xz,length_append→yQ,length_cons→yr,length_drop→xS,length_map→xu,length_nil→yE,length_pos_iff→uv,length_take→yT,map_append→xC,map_cons→yU,map_nil→xU,nil_append→wa,replicate→yz,set_eq_of_length_le→uT,take_append_drop→xN,take_left→yam,take_length→wo,take_of_length_le→yM,take_set→uX
open Nat renaming add_comm→yaj,add_zero→yX,div_eq_of_lt→wH,eq_zero_or_pos→xo,gcd→wg,gcd_comm→uj,le_refl→yC,le_trans→xj,lt_of_lt_of_le→yN,min_eq_left→wu,mod_eq_of_lt→yP,mod_lt→xy,mul_add→xt,mul_assoc→xk,mul_comm→xE,mul_le_mul_left→yS,mul_lt_mul_of_pos_right→wD,mul_one→yh,mul_pos→yaR,mul_zero→xF,pow_lt_pow_iff_right→uZ,pow_succ→xg,reduceAdd→yb,reduceEqDiff→ya,reduceLT→yt,reduceLeDiff→ye,reduceMul→xQ,zero_add→yd
namespace VE
section
open Go (IntKind)
def awr {t v bo:Int} (ht:0<=t/\t<1000000000) (hv:0<=v/\v<1000000000) (hb:0<=bo/\bo<1000000000):0<=t*v/\t*v<=999999998000000001/\0<=t*v+bo/\t*v+bo<=999999999000000000:=by
 have h1:=vS ht.1 hv.1;have h2:=Int.mul_le_mul (show t<=999999999 by omega) (show v<=999999999 by omega) hv.1 (by decide);omega
def aws {x p:Int} (hx:0<=x/\x<1000000000) (hp:0<=p/\p<=999999999000000000):
  (x-p.tmod 1000000000<0->0<=x-p.tmod 1000000000+1000000000/\x-p.tmod 1000000000+1000000000<1000000000/\0<=p.tdiv 1000000000+1/\p.tdiv 1000000000+1<1000000000/\x-p.tmod 1000000000+1000000000+p=x+1000000000*(p.tdiv 1000000000+1))/\
  (¬x-p.tmod 1000000000<0->x-p.tmod 1000000000<1000000000/\0<=p.tdiv 1000000000/\p.tdiv 1000000000<1000000000/\x-p.tmod 1000000000+p=x+1000000000*p.tdiv 1000000000):=by grind
def Ss {l:List Int} (h:dg l) {i:Nat} {z:Int} (hz:0<=z/\z<1000000000):dg (l.set i z):=M3 h hz
def aqj {b p z q v bo Ax x X Y S:Int} (h2:z+(q*v+bo)=x+b*Ax) (h3:Y+q*X=S+p*bo):(Y+p*(z-x))+q*(X+p*v)=S+p*b*Ax:=by grind
section
variable {P:aG} {L:Lib}
def aqk {w:AV} {x vs pre post qs:List Int} {f:Int} (hw:br w vs) {n M m:Nat} (lv:vs.length=n) (hM:M=pre.length+(n+1)+post.length) (Lf:M<=50000000000) (gv:dg vs) {t:Int} (ht:0<=t/\t<1000000000):
  ∀k s,(∃(i:Nat) (bo:Int) (y:List Int),bD [8,9,10,11,12,13,14,15,16] s=⟨[(8,.an 0 0 1),(9,w),(10,aa n),(11,.an 1 0 M),(12,.an 2 0 m),(13,aa pre.length),(14,aa t),(15,aa bo),(16,aa i)],H3 qs (pre++y++post) f,3,0⟩/\i+k=n/\y.length=n+1/\dg y/\(0<=bo/\bo<1000000000)/\
    sv y+t*sv (vs.take i)=sv x+1000000000^i*bo)->
   ∃ex s',D P L (.loop [8,9,10,11,12,13,14,15,16] EG) s=some (ex,s')/\∃tm bo y,s'=⟨tm,H3 qs (pre++y++post) f,3,0⟩/\ex= .exit 4/\af tm 8= .an 0 0 1/\af tm 9=w/\af tm 10=aa n/\af tm 11= .an 1 0 M/\af tm 12= .an 2 0 m/\af tm 13=aa pre.length/\af tm 14=aa t/\af tm 15=aa bo/\y.length=n+1/\dg y/\(0<=bo/\bo<1000000000)/\
    sv y+t*sv vs=sv x+1000000000^n*bo:=by
 refine cg (I:=fun k s=>∃(i:Nat) (bo:Int) (y:List Int),s=⟨[(8,.an 0 0 1),(9,w),(10,aa n),(11,.an 1 0 M),(12,.an 2 0 m),(13,aa pre.length),(14,aa t),(15,aa bo),(16,aa i)],H3 qs (pre++y++post) f,3,0⟩/\i+k=n/\y.length=n+1/\dg y/\(0<=bo/\bo<1000000000)/\
    sv y+t*sv (vs.take i)=sv x+1000000000^i*bo)
  (Q:=fun ex s'=>∃tm bo y,s'=⟨tm,H3 qs (pre++y++post) f,3,0⟩/\ex= .exit 4/\af tm 8= .an 0 0 1/\af tm 9=w/\af tm 10=aa n/\af tm 11= .an 1 0 M/\af tm 12= .an 2 0 m/\af tm 13=aa pre.length/\af tm 14=aa t/\af tm 15=aa bo/\y.length=n+1/\dg y/\(0<=bo/\bo<1000000000)/\
    sv y+t*sv vs=sv x+1000000000^n*bo) ?_
 rintro k s ⟨i,bo,y,rfl,hk,ly,gy,jn,aQ⟩;by_cases hi:i<n
 ·left
  have qU:=iv gv i;have pO:=iv gy i;have ev:=qv hw (i:=i) (by omega);have ey:=rE (l:=pre++y++post) (o:=pre.length+i) (by rw [nI];omega);rw [A9 (by omega)] at ey;have eF:=MX (l:=vs) i;obtain ⟨a,ha⟩:∃a,a=vs.getD i 0:=⟨_,rfl⟩;obtain ⟨d,hd⟩:∃d,d=y.getD i 0:=⟨_,rfl⟩;rw [<-ha] at qU ev eF;rw [<-hd] at pO ey;obtain ⟨p1,p2,p3,p4⟩:=awr ht qU jn;obtain ⟨s1,s2⟩:=aws pO ⟨p3,p4⟩;have fp:(i:Int)+(pre.length:Int)=((pre.length+i:Nat):Int):=by omega
  have aX:=fun (hp:Hp) (ct:Nat) (z:Int)=>B8 (hp:=hp) (ct:=ct) (id:=1) (v:=z) (ex:=false) (l:=pre++y++post) (o:=pre.length+i) (by rw [nI];omega)
  have nP:=fun z=>Ng (pre:=pre) (x:=y) (post:=post) (i:=i) z (by omega)
  have aW:=fun z=>ER (l:=y) (i:=i) (x:=z) (by omega)
  rw [<-hd] at aW;obtain ⟨pr,n5⟩:∃pr,pr=t*a+bo:=⟨_,rfl⟩;obtain ⟨dm,eO⟩:∃dm,pr.tmod 1000000000=dm:=⟨_,rfl⟩;obtain ⟨dq,DK⟩:∃dq,pr.tdiv 1000000000=dq:=⟨_,rfl⟩;have aA4:0<=dm/\dm<1000000000:=by rw [<-eO,xn (by omega)];omega
  have aA5:0<=dq/\dq<1000000000:=by rw [<-DK,xK (by omega)];omega
  rw [<-n5,eO,DK] at s1 s2;have key:∀z Ax,z+(t*a+bo)=d+1000000000*Ax->sv (y.set i z)+t*sv (vs.take (i+1))=sv x+1000000000^(i+1)*Ax:=fun z Ax h=>by
   rw [aW,eF,yar];exact aqj h aQ
  rw [<-n5] at key;by_cases fP:d-dm<0
  ·obtain ⟨q1,q2,q3,q4,q5⟩:=s1 fP;have kk:=key _ _ q5;obtain ⟨dr,jm⟩:∃dr,d-dm=dr:=⟨_,rfl⟩;rw [jm] at fP kk q1 q2
   simp only [go_sem,ya,yh,EG,H3,show (i:Int)<(n:Int) by omega,ev,wrap64 (n:=t*a) (by omega) (by omega),<-n5,wrap64 (n:=pr) (by omega) (by omega),fp,wrapN (n:=pre.length+i) (by omega),dj 1 0 (show pre.length+i<M by omega),yd,ey,er _ _ _ (show (1000000000:Int)≠0 by decide),eU _ _ _ (show (1000000000:Int)≠0 by decide),eO,DK,jm,wrap64 (n:=dr) (by omega) (by omega),wrap64 (n:=dq) (by omega) (by omega),fP,wrap64 (n:=dr+1000000000) (by omega) (by omega),wrap64 (n:=dq+1) (by omega) (by omega),aX,nP];refine ⟨_,k-1,rfl,by omega,i+1,dq+1,y.set i (dr+1000000000),?_,by omega,by simp [ly],Ss gy ⟨q1,q2⟩,⟨q3,q4⟩,kk⟩;rw [wrap64 (by omega) (by omega)];simp only [go_sem,ya,yb,ay,aJ hw.pu,aO _ hw.pu]<;>rfl
  ·obtain ⟨q2,q3,q4,q5⟩:=s2 fP;have kk:=key _ _ q5;obtain ⟨dr,jm⟩:∃dr,d-dm=dr:=⟨_,rfl⟩;rw [jm] at fP kk q2
   simp only [go_sem,ya,yh,EG,H3,show (i:Int)<(n:Int) by omega,ev,wrap64 (n:=t*a) (by omega) (by omega),<-n5,wrap64 (n:=pr) (by omega) (by omega),fp,wrapN (n:=pre.length+i) (by omega),dj 1 0 (show pre.length+i<M by omega),yd,ey,er _ _ _ (show (1000000000:Int)≠0 by decide),eU _ _ _ (show (1000000000:Int)≠0 by decide),eO,DK,jm,wrap64 (n:=dr) (by omega) (by omega),wrap64 (n:=dq) (by omega) (by omega),fP,aX,nP];refine ⟨_,k-1,rfl,by omega,i+1,dq,y.set i dr,?_,by omega,by simp [ly],Ss gy ⟨by omega,q2⟩,⟨q3,q4⟩,kk⟩;rw [wrap64 (by omega) (by omega)];simp only [go_sem,ya,yb,ay,aJ hw.pu,aO _ hw.pu]<;>rfl
 ·right
  have:i=n:=by omega
  subst this;rw [yM (by omega)] at aQ;simp only [go_sem,ya,EG,H3,show ¬(i:Int)<(i:Int) by omega];exact ⟨_,_,rfl,by simp,_,bo,y,rfl,rfl,by simp only [go_sem,ya],by simp only [go_sem,ya],by simp only [go_sem,ya],by simp only [go_sem,ya],by simp only [go_sem,ya],by simp only [go_sem,ya],by simp only [go_sem,ya],by simp only [go_sem,ya],ly,gy,jn,aQ⟩
def aql {b p z v c c' x X Y S:Int} (h2:z+b*c'=x+v+c) (h3:Y+p*c=S+X):(Y+p*(z-x))+p*b*c'=S+(X+p*v):=by grind
def aqm {w:AV} {y0 vs pre post qs:List Int} {f:Int} (hw:br w vs) {n M m:Nat} (lv:vs.length=n) (hM:M=pre.length+(n+1)+post.length) (Lf:M<=50000000000) (gv:dg vs) {t top:Int}:
  ∀k s,(∃(i:Nat) (c:Int) (y:List Int),bD [8,9,10,11,12,13,14,19,20] s=⟨[(8,.an 0 0 1),(9,w),(10,aa n),(11,.an 1 0 M),(12,.an 2 0 m),(13,aa pre.length),(14,aa t),(19,aa c),(20,aa i)],H3 qs (pre++y++post) f,3,0⟩/\i+k=n/\y.length=n+1/\dg (y.take n)/\y.getD n 0=top/\(0<=c/\c<=1)/\
    sv y+1000000000^i*c=sv y0+sv (vs.take i))->
   ∃ex s',D P L (.loop [8,9,10,11,12,13,14,19,20] IK) s=some (ex,s')/\∃tm c y,s'=⟨tm,H3 qs (pre++y++post) f,3,0⟩/\ex= .exit 6/\af tm 8= .an 0 0 1/\af tm 9=w/\af tm 10=aa n/\af tm 11= .an 1 0 M/\af tm 12= .an 2 0 m/\af tm 13=aa pre.length/\af tm 14=aa t/\af tm 19=aa c/\y.length=n+1/\dg (y.take n)/\y.getD n 0=top/\(0<=c/\c<=1)/\
    sv y+1000000000^n*c=sv y0+sv vs:=by
 refine cg (I:=fun k s=>∃(i:Nat) (c:Int) (y:List Int),s=⟨[(8,.an 0 0 1),(9,w),(10,aa n),(11,.an 1 0 M),(12,.an 2 0 m),(13,aa pre.length),(14,aa t),(19,aa c),(20,aa i)],H3 qs (pre++y++post) f,3,0⟩/\i+k=n/\y.length=n+1/\dg (y.take n)/\y.getD n 0=top/\(0<=c/\c<=1)/\
    sv y+1000000000^i*c=sv y0+sv (vs.take i))
  (Q:=fun ex s'=>∃tm c y,s'=⟨tm,H3 qs (pre++y++post) f,3,0⟩/\ex= .exit 6/\af tm 8= .an 0 0 1/\af tm 9=w/\af tm 10=aa n/\af tm 11= .an 1 0 M/\af tm 12= .an 2 0 m/\af tm 13=aa pre.length/\af tm 14=aa t/\af tm 19=aa c/\y.length=n+1/\dg (y.take n)/\y.getD n 0=top/\(0<=c/\c<=1)/\
    sv y+1000000000^n*c=sv y0+sv vs) ?_
 rintro k s ⟨i,c,y,rfl,hk,ly,gy,nQ,hc,aQ⟩;by_cases hi:i<n
 ·left
  have qU:=iv gv i;have pO:=iv gy i;have e0:(y.take n).getD i 0=y.getD i 0:=by
   simp [y9,hi]
  rw [e0] at pO;have ev:=qv hw (i:=i) (by omega);have ey:=rE (l:=pre++y++post) (o:=pre.length+i) (by rw [nI];omega);rw [A9 (by omega)] at ey;have eF:=MX (l:=vs) i;obtain ⟨a,ha⟩:∃a,a=vs.getD i 0:=⟨_,rfl⟩;obtain ⟨d,hd⟩:∃d,d=y.getD i 0:=⟨_,rfl⟩;rw [<-ha] at qU ev eF;rw [<-hd] at pO ey;have fp:(i:Int)+(pre.length:Int)=((pre.length+i:Nat):Int):=by omega
  have aW:=fun z=>ER (l:=y) (i:=i) (x:=z) (by omega)
  rw [<-hd] at aW;have pc:(d+a+c).tmod 1000000000=(d+a+c)%1000000000:=xn (by omega);have hdiv:(d+a+c).tdiv 1000000000=(d+a+c)/1000000000:=xK (by omega);obtain ⟨z,hz⟩:∃z,z=(d+a+c)%1000000000:=⟨_,rfl⟩;obtain ⟨c',ma⟩:∃z,z=(d+a+c)/1000000000:=⟨_,rfl⟩;have Vw:z+1000000000*c'=d+a+c:=by omega
  rw [<-hz] at pc;rw [<-ma] at hdiv;have aX:=fun (hp:Hp) (ct:Nat)=>B8 (hp:=hp) (ct:=ct) (id:=1) (v:=z) (ex:=false) (l:=pre++y++post) (o:=pre.length+i) (by rw [nI];omega)
  have nP:=Ng (pre:=pre) (x:=y) (post:=post) (i:=i) z (by omega)
  simp only [go_sem,ya,yh,IK,H3,show (i:Int)<(n:Int) by omega,ev,fp,wrapN (n:=pre.length+i) (by omega),dj 1 0 (show pre.length+i<M by omega),yd,ey,wrap64 (n:=d+a) (by omega) (by omega),wrap64 (n:=d+a+c) (by omega) (by omega),er _ _ _ (show (1000000000:Int)≠0 by decide),eU _ _ _ (show (1000000000:Int)≠0 by decide),pc,hdiv,wrap64 (n:=c') (by omega) (by omega),aX,nP];refine ⟨_,k-1,rfl,by omega,i+1,c',y.set i z,?_,by omega,by simp [ly],?_,by rw [adK (by omega)];exact nQ,⟨by omega,by omega⟩,?_⟩
  ·rw [wrap64 (by omega) (by omega)];simp only [go_sem,ya,yb,ay,aJ hw.pu,aO _ hw.pu]<;>rfl
  ·rw [uX];exact Ss gy ⟨by omega,by omega⟩
  ·rw [aW,eF,yar];exact aql Vw aQ
 ·right
  have:i=n:=by omega
  subst this;rw [yM (show vs.length<=i by omega)] at aQ;simp only [go_sem,ya,IK,H3,show ¬(i:Int)<(i:Int) by omega];exact ⟨_,_,rfl,by simp,_,c,y,rfl,rfl,by simp only [go_sem,ya],by simp only [go_sem,ya],by simp only [go_sem,ya],by simp only [go_sem,ya],by simp only [go_sem,ya],by simp only [go_sem,ya],by simp only [go_sem,ya],by simp only [go_sem,ya],ly,gy,nQ,hc,aQ⟩
def aqn {A V t:Nat} {y:List Int} {n:Nat} (hV:0<V) (ly:y.length=n+1) (gy:dg (y.take n)) (h:sv y=(A:Int)-t*V) (h1:A/V<=t) (h2:t<=A/V+1):
  (¬y.getD n 0<0->t=A/V/\sv y=((A%V:Nat):Int))/\(y.getD n 0<0->t=A/V+1/\sv y+V=((A%V:Nat):Int)):=by
 have eO:=Nat.div_add_mod A V;have hm:=xy A hV;have eF:=MX (l:=y) n;rw [yM (by omega),zD gy] at eF;have J8:=jL gy;have hp:(0:Int)<1000000000^n:=ybo (by decide);generalize y.getD n 0=top at*
 generalize A/V=Q at*
 have hq:t=Q\/t=Q+1:=by omega
 constructor
 ·intro h0;have h3:0<=(1000000000:Int)^n*top:=vS (ut hp) (by omega);rcases hq with rfl | rfl
  ·grind
  ·grind
 ·intro h0;have h3:(1000000000:Int)^n*top<=-(1000000000^n):=by
   have:=vn (show top<=-1 by omega) (ut hp)
   grind
  rcases hq with rfl | rfl
  ·grind
  ·grind
def aa0 {y:List Int} {n:Nat} (ly:y.length=n+1) (gy:dg (y.take n)) (h0:0<=sv y) (h1:sv y<1000000000^n):y.getD n 0=0/\dg y/\sv y=dv y:=by
 have eF:=MX (l:=y) n;rw [yM (by omega),zD gy] at eF;have J8:=jL gy;rw [yT,wu (by omega)] at J8;have hp:(0:Int)<1000000000^n:=ybo (by decide);have E3:((1000000000^n:Nat):Int)=(1000000000:Int)^n:=by simp
 have aAR:(dv (y.take n):Int)<1000000000^n:=by omega
 have ht:y.getD n 0=0:=by
  generalize y.getD n 0=top at*
  rcases Int.lt_trichotomy top 0 with h | h | h
  ·have:=vn (show top<=-1 by omega) (ut hp)
   grind
  ·grind
  ·have:=vn (show 1<=top by omega) (ut hp)
   grind
 have hg:dg y:=by
  have e:y=y.take n++[0]:=by
   have h1:y=y.take n++y.drop n:=(xN n y).symm;have h2:y.drop n=[0]:=by
    rw [yL (by omega),y8 (by omega)]
    grind
   grind
  rw [e];exact hJ.2 ⟨gy,jF.2 ⟨by decide,by decide⟩⟩
 exact ⟨ht,hg,zD hg⟩
end
end
section
open Go (IntKind)
def aqo {l:List Int} {i:Nat} (h:i<l.length):dv (l.drop i)=(l.getD i 0).toNat+1000000000*dv (l.drop (i+1)):=by
 rw [yL h]
 have:l[i]=l.getD i 0:=by simp [y9,xz h]
 rw [this];rfl
def R2 (l:List Int) (i:Nat) (h:i<=l.length):dv l=dv (l.take i)+1000000000^i*dv (l.drop i):=by
 conv=>lhs;rw [<-xN i l]
 rw [mh,yT,wu h]
def aqp {sx sy sV:Int} {p:Int} {bo t:Int} {yn z:Int} {szy:Int} (h1:sy+t*sV=sx+p*bo) (h2:szy=sy+p*(z-yn)) (h3:z=yn-bo):szy=sx-t*sV:=by
 subst h3;rw [show yn-bo-yn= -bo by omega,Int.mul_neg] at h2;omega
section
variable {P:aG} {L:Lib}
def aqq (qF:Has P L 301 zN) {w:AV} {vs:List Int} {f:Int} (hw:br w vs) (gv:dg vs) {n M m:Nat} (lv:vs.length=n) (eH:2<=n) (hnM:n<M) (Lf:M<=20000000000) (hm:m=M-n) (eG:0<vs.getD (n-1) 0) {U0:Nat}:
  ∀k st,(∃(j:Nat) (us qs:List Int),bD [8,9,10,11,12,13] st=⟨[(8,.an 0 0 1),(9,w),(10,aa n),(11,.an 1 0 M),(12,.an 2 0 m),(13,aa ((j:Int)-1))],H3 qs us f,3,0⟩/\j=k/\j<=m/\us.length=M/\qs.length=m/\dg us/\dg qs/\(∀i,i<j->qs.getD i 0=0)/\
    dv us+dv qs*dv vs=U0/\dv (us.drop j)<dv vs)->
   ∃ex st',D P L (.loop [8,9,10,11,12,13] IL) st=some (ex,st')/\∃tm us qs,st'=⟨tm,H3 qs us f,3,0⟩/\ex= .exit 2/\af tm 8= .an 0 0 1/\af tm 10=aa n/\af tm 11= .an 1 0 M/\af tm 12= .an 2 0 m/\us.length=M/\qs.length=m/\dg us/\dg qs/\
    dv us+dv qs*dv vs=U0/\dv us<dv vs:=by
 refine cg (I:=fun k st=>∃(j:Nat) (us qs:List Int),st=⟨[(8,.an 0 0 1),(9,w),(10,aa n),(11,.an 1 0 M),(12,.an 2 0 m),(13,aa ((j:Int)-1))],H3 qs us f,3,0⟩/\j=k/\j<=m/\us.length=M/\qs.length=m/\dg us/\dg qs/\(∀i,i<j->qs.getD i 0=0)/\
    dv us+dv qs*dv vs=U0/\dv (us.drop j)<dv vs)
  (Q:=fun ex st'=>∃tm us qs,st'=⟨tm,H3 qs us f,3,0⟩/\ex= .exit 2/\af tm 8= .an 0 0 1/\af tm 10=aa n/\af tm 11= .an 1 0 M/\af tm 12= .an 2 0 m/\us.length=M/\qs.length=m/\dg us/\dg qs/\
    dv us+dv qs*dv vs=U0/\dv us<dv vs) ?_
 rintro k st ⟨j,us,qs,rfl,rfl,hj,lu,lq,gu,gq,hz,aQ,nQ⟩
 cases j with
 | zero=>
  right
  simp only [go_sem,ya,IL,H3,show ¬(0:Int)<=((0:Nat):Int)-1 by omega];exact ⟨_,_,rfl,by simp,_,us,qs,rfl,rfl,by simp only [go_sem,ya],by simp only [go_sem,ya],by simp only [go_sem,ya],by simp only [go_sem,ya],lu,lq,gu,gq,aQ,by simpa using nQ⟩
 | succ j=>
  left
  obtain ⟨pre,fp⟩:∃p,p=us.take j:=⟨_,rfl⟩;obtain ⟨x,hx⟩:∃p,p=(us.drop j).take (n+1):=⟨_,rfl⟩;obtain ⟨post,gQ⟩:∃p,p=us.drop (j+(n+1)):=⟨_,rfl⟩;have lp:pre.length=j:=by rw [fp,yT];omega
  have lx:x.length=n+1:=by rw [hx,yT,xS];omega
  have lpo:M=pre.length+(n+1)+post.length:=by rw [lp,gQ,xS];omega
  have kq:us=pre++x++post:=by
   rw [fp,hx,gQ,<-wX,xp,xN,xN]
  have gpo:dg post:=by
   have:=gu;rw [kq] at this;exact (hJ.1 this).2
  have gpx:=by have:=gu;rw [kq] at this;exact (hJ.1 this).1
  have gx:dg x:=(hJ.1 gpx).2;have UA:dg pre:=(hJ.1 gpx).1;have hA:=aqo (l:=us) (i:=j) (by omega);have hgj:=iv gu j;have F9:us.drop j=x++post:=by rw [gQ,hx,<-wX,xN]
  have Ay:dv (us.drop j)=dv x+1000000000^(n+1)*dv post:=by rw [F9,mh,lx]
  have K2:=jL gv;rw [lv] at K2;have bi:dv (us.drop j)<1000000000*dv vs:=by omega
  have hp0:dv post=0:=by
   rcases xo (dv post) with e | e
   ·exact e
   ·have h1:=yS (1000000000^(n+1)) e;rw [yh,xg] at h1;rw [xg] at Ay;omega
  rw [hp0,xF,yX] at Ay;have Lh:=fun (l:List Int) (hl:dg l) (i:Nat)=>iv hl i
  obtain ⟨v1,fh⟩:∃v:Nat,vs.getD (n-1) 0=v:=⟨(vs.getD (n-1) 0).toNat,by have:=Lh vs gv (n-1);omega⟩;obtain ⟨v2,pM⟩:∃v:Nat,vs.getD (n-2) 0=v:=⟨(vs.getD (n-2) 0).toNat,by have:=Lh vs gv (n-2);omega⟩;obtain ⟨u0,B0⟩:∃v:Nat,x.getD n 0=v:=⟨(x.getD n 0).toNat,by have:=Lh x gx n;omega⟩;obtain ⟨u1,B1⟩:∃v:Nat,x.getD (n-1) 0=v:=⟨(x.getD (n-1) 0).toNat,by have:=Lh x gx (n-1);omega⟩;obtain ⟨u2,sH⟩:∃v:Nat,x.getD (n-2) 0=v:=⟨(x.getD (n-2) 0).toNat,by have:=Lh x gx (n-2);omega⟩;have hl:gG x vs n v1 v2 u0 u1 u2:=⟨eH,by omega,lx,lv,gx,gv,fh,pM,B0,B1,sH,by omega,by rw [<-Ay];exact bi⟩
  have OO:=hl.digit;have qS:0<dv vs:=by omega
  have pc:=xy (dv x) qS;obtain ⟨t,e1,Pw,VR,ht3⟩:=auB (P:=P) (L:=L) qF hw hl (pre:=pre) (post:=post) (qs:=qs) (f:=f) (M:=M) (by omega) (by omega);rw [<-kq,lp] at e1;have WJ:dv us=dv pre+1000000000^j*dv x:=by
   have:=R2 us j (by omega)
   rw [Ay,<-fp] at this;exact this
  have UB:∀y,dv (pre++y++post)=dv pre+1000000000^j*dv y:=fun y=>by
   rw [xp,mh,mh,hp0,xF,yX,lp]
  have lS:=ZO (b:=0) WJ aQ;have sI:below 3 w:=mg hw.pu;have aW:=ER (l:=qs) (i:=j) (x:=((dv x/dv vs:Nat):Int)) (by omega);have gq':dg (qs.set j ((dv x/dv vs:Nat):Int)):=M3 gq ⟨Int.natCast_nonneg _,Int.ofNat_lt.2 OO⟩;rw [hz j (by omega),Int.sub_zero,zD gq,zD gq'] at aW;have aW:dv (qs.set j ((dv x/dv vs:Nat):Int))=dv qs+1000000000^j*(dv x/dv vs):=by
   have E3:((1000000000^j*(dv x/dv vs):Nat):Int)=(1000000000:Int)^j*((dv x/dv vs:Nat):Int):=by rw [Int.natCast_mul];simp
   rw [<-E3] at aW;exact tP (by rw [tG,tG,aW,Int.natCast_add])
  have fin:∀(s':St) (x':List Int),bD [8,9,10,11,12,13] s'=⟨[(8,.an 0 0 1),(9,w),(10,aa n),(11,.an 1 0 M),(12,.an 2 0 m),(13,aa ((j:Int)-1))],H3 (qs.set j ((dv x/dv vs:Nat):Int)) (pre++x'++post) f,3,0⟩->x'.length=n+1->dg x'->sv x'=((dv x%dv vs:Nat):Int)->
    ∃(j':Nat) (us qs:List Int),bD [8,9,10,11,12,13] s'=⟨[(8,.an 0 0 1),(9,w),(10,aa n),(11,.an 1 0 M),(12,.an 2 0 m),(13,aa ((j':Int)-1))],H3 qs us f,3,0⟩/\j'=j/\j'<=m/\us.length=M/\qs.length=m/\dg us/\dg qs/\(∀i,i<j'->qs.getD i 0=0)/\dv us+dv qs*dv vs=U0/\dv (us.drop j')<dv vs:=fun s' x' hc WI P7 K5=>by
   have agm:dv x'=dv x%dv vs:=by rw [zD P7] at K5;exact tP K5
   refine ⟨j,_,_,hc,rfl,by omega,by rw [nI,WI];omega,by simp [lq],hJ.2 ⟨hJ.2 ⟨UA,P7⟩,gpo⟩,gq',fun i hi=>by rw [adK (by omega)];exact hz i (by omega),?_,?_⟩
   ·rw [UB,agm,aW];exact lS
   ·rw [xp,List.drop_left' lp,mh,hp0,xF,yX,agm];exact pc
  have agn:=fun (z:Int) (hp:Hp) (ct:Nat)=>B8 (hp:=hp) (ct:=ct) (id:=2) (v:=z) (ex:=true) (l:=qs) (o:=j) (by omega)
  have svx:=zD gx;have svv:=zD gv;simp only [H3] at e1;simp only [go_sem,ya,IL,H3,show ((j+1:Nat):Int)-1=(j:Int) by omega,show (0:Int)<=(j:Int) by omega,afb,e1];generalize mQ:D P L (.loop [8,9,10,11,12,13,14,15,16] EG) _=qq;obtain ⟨ex,s,rfl,tm,bo,y,rfl,rfl,t8,t9,t10,t11,t12,t13,t14,t15,ly,gy,jn,hv⟩:=bP mQ (aqk (P:=P) (L:=L) (x:=x) (pre:=pre) (post:=post) (qs:=qs) (f:=f) (m:=m) (M:=M) hw lv lpo (by omega) gv (t:=t) (by omega) n) ⟨0,0,x,by
   rw [kq,lp]
   simp only [go_sem,ya,yb,ay,aJ hw.pu,aO _ hw.pu]<;>rfl,by omega,lx,gx,by omega,by simp [sv]⟩
  rw [lp] at t13;have hyn:=iv gy n;have Xk:=rE (l:=pre++y++post) (o:=pre.length+n) (by rw [nI];omega);rw [A9 (by omega),lp] at Xk;obtain ⟨z,Xl⟩:∃z,z=y.getD n 0-bo:=⟨_,rfl⟩;have Br:=fun (hp:Hp) (ct:Nat)=>B8 (hp:=hp) (ct:=ct) (id:=1) (v:=z) (ex:=false) (l:=pre++y++post) (o:=j+n) (by rw [nI];omega)
  have nP:=Ng (pre:=pre) (x:=y) (post:=post) (i:=n) z (by omega);rw [lp] at nP;rw [nP] at Br;have nj:=ER (l:=y) (i:=n) (x:=z) (by omega);have NW:=aqp hv nj Xl;have BZ:(y.set n z).length=n+1:=by simp [ly]
  have DH:dg ((y.set n z).take n):=by
   have:(y.set n z).take n=y.take n:=by rw [uX,uT (by simp;omega)]
   rw [this];exact Cu gy n
  rw [svx,svv] at NW;obtain ⟨s0,s1⟩:=aqn qS BZ DH NW VR ht3;have eg:(y.set n z).getD n 0=z:=alQ (by omega);rw [eg] at s0 s1;have Xm:=rE (l:=pre++y.set n z++post) (o:=pre.length+n) (by rw [nI];omega);rw [A9 (by omega),lp,eg] at Xm;generalize y.set n z=y1 at*
  have hpn:((10^9:Int))=1000000000:=by decide
  by_cases fP:z<0
  ·obtain ⟨f1,f2⟩:=s1 fP
   simp only [go_sem,ya,yb,yh,ay,aJ hw.pu,aO _ hw.pu,t8,t9,t10,t11,t12,t13,t14,t15,show (j:Int)+(n:Int)=((j+n:Nat):Int) from rfl,wrapN (n:=j+n) (by omega),dj 1 0 (show j+n<M by omega),yd,Xk,<-Xl,wrap64 (n:=z) (by omega) (by omega),Br,Xm,fP];generalize Dh:D P L (.loop [8,9,10,11,12,13,14,19,20] IK) _=WA;obtain ⟨ex,s,rfl,jh,c,y2,rfl,rfl,t8,t9,t10,t11,t12,t13,t14,t19,WD,P5,afh,hc,cX⟩:=bP Dh (aqm (P:=P) (L:=L) (y0:=y1) (pre:=pre) (post:=post) (qs:=qs) (f:=f) (m:=m) (M:=M) (t:=(t:Int)-1) (top:=z) hw lv lpo (by omega) gv n) ⟨0,0,y1,by
    rw [lp,wrap64 (n:=(t:Int)-1) (by omega) (by omega)]
    simp only [go_sem,ya,yb,ay,aJ hw.pu,aO _ hw.pu]<;>rfl,by omega,BZ,DH,eg,by omega,by simp [sv]⟩
   rw [lp] at t13;have ago:=rE (l:=pre++y2++post) (o:=pre.length+n) (by rw [nI];omega);rw [A9 (by omega),lp,afh] at ago;have OM:=fun (hp:Hp) (ct:Nat)=>B8 (hp:=hp) (ct:=ct) (id:=1) (v:=z+c) (ex:=false) (l:=pre++y2++post) (o:=j+n) (by rw [nI];omega)
   have NI:=Ng (pre:=pre) (x:=y2) (post:=post) (i:=n) (z+c) (by omega);rw [lp] at NI;rw [NI] at OM;have Ah:=ER (l:=y2) (i:=n) (x:=z+c) (by omega);rw [afh,show z+c-z=c by omega,cX,svv,f2] at Ah;have K3:(y2.set n (z+c)).length=n+1:=by simp [WD]
   have P6:dg ((y2.set n (z+c)).take n):=by
    have:(y2.set n (z+c)).take n=y2.take n:=by rw [uX,uT (by simp;omega)]
    rw [this];exact P5
   have Xn:((dv x%dv vs:Nat):Int)<1000000000^n:=by
    have E3:((1000000000^n:Nat):Int)=(1000000000:Int)^n:=by simp
    rw [<-E3];omega
   obtain ⟨g1,g2,g3⟩:=aa0 K3 P6 (by rw [Ah];omega) (by rw [Ah];exact Xn)
   generalize y2.set n (z+c)=y3 at*
   have ft:(t:Int)-1=((dv x/dv vs:Nat):Int):=by rw [f1];omega
   simp only [go_sem,ya,yb,yh,ay,aJ hw.pu,aO _ hw.pu,t8,t9,t10,t11,t12,t13,t14,t19,show (j:Int)+(n:Int)=((j+n:Nat):Int) from rfl,wrapN (n:=j+n) (by omega),dj 1 0 (show j+n<M by omega),yd,ago,wrap64 (n:=z+c) (by omega) (by omega),OM,dj 2 0 (show j<m by omega),agn];rw [ft];refine ⟨_,j,rfl,by omega,fin _ y3 ?_ K3 g2 Ah⟩;rw [wrap64 (by omega) (by omega)];simp only [go_sem,ya,yb,ay,aJ hw.pu,aO _ hw.pu]<;>rfl
  ·obtain ⟨f1,f2⟩:=s0 fP;have Xn:((dv x%dv vs:Nat):Int)<1000000000^n:=by
    have E3:((1000000000^n:Nat):Int)=(1000000000:Int)^n:=by simp
    rw [<-E3];omega
   obtain ⟨g1,g2,g3⟩:=aa0 BZ DH (by rw [f2];omega) (by rw [f2];exact Xn)
   simp only [go_sem,ya,yb,yh,ay,aJ hw.pu,aO _ hw.pu,t8,t9,t10,t11,t12,t13,t14,t15,show (j:Int)+(n:Int)=((j+n:Nat):Int) from rfl,wrapN (n:=j+n) (by omega),dj 1 0 (show j+n<M by omega),yd,Xk,<-Xl,wrap64 (n:=z) (by omega) (by omega),Br,Xm,fP,dj 2 0 (show j<m by omega),agn];rw [f1];refine ⟨_,j,rfl,by omega,fin _ y1 ?_ BZ g2 f2⟩;rw [wrap64 (by omega) (by omega)];simp only [go_sem,ya,yb,ay,aJ hw.pu,aO _ hw.pu]<;>rfl
end
end
section
open Go (IntKind)
section
variable {P:aG} {L:Lib}
def asX (h:Has P L 292 zM) {n:Nat} (hn:n<1000000000):ae P L 292 [aa n,aa 9] (.str (iN 9 n)):=by
 have key:=cg (P:=P) (L:=L) (live:=[0,1,5]) (a:=nF)
  (I:=fun k st=>∃(m:Nat) (s:List Nat),st=⟨[(0,aa m),(1,aa 9),(5,.str s)],[],0,0⟩/\s.length+k=9/\m<10^k/\iN 9 n=iN k m++s)
  (Q:=fun ex st=>∃tm ct,st=⟨tm,[],ct,0⟩/\ex= .exit 0/\af tm 5= .str (iN 9 n)) ?_
 ·unfold ae;rw [av h];simp only [go_sem,zM];generalize hq:D P L (.loop [0,1,5] nF) _=q;obtain ⟨ex,st,rfl,tm,ct,rfl,rfl,h2⟩:=bP hq (key 9) ⟨n,[],by simp only [go_sem,ya,ay]<;>rfl,rfl,by omega,by simp⟩
  simp only [go_sem,ay,h2]
 ·rintro k st ⟨m,s,rfl,hk,hm,hs⟩
  cases k with
  | zero=>
   right
   have K9:m=0:=by simpa using hm
   subst K9;simp only [go_sem,ya,nF,show ¬(0:Int)<((0:Nat):Int) by omega,show ¬((s.length:Nat):Int)<9 by omega];refine ⟨_,_,rfl,by simp,_,_,rfl,rfl,?_⟩;simp only [go_sem,ya];rw [hs];rfl
  | succ k=>
   left
   have hr:((m:Int)).tmod 10=((m%10:Nat):Int):=by rw [xn (by omega)];rfl
   have hq:((m:Int)).tdiv 10=((m/10:Nat):Int):=by rw [xK (by omega)];rfl
   have hd:=YV (r:=m%10) (by omega);have Ks:m<10000000000:=yN hm (by simpa using Nat.pow_le_pow_right (show 0<10 by decide) (show k+1<=10 by omega));have fin:∃s',D P L nF ⟨[(0,aa m),(1,aa 9),(5,.str s)],[],0,0⟩=some (.normal,s')/\bD [0,1,5] s'=⟨[(0,aa (m/10:Nat)),(1,aa 9),(5,.str ([48+m%10]++s))],[],0,0⟩:=by
    by_cases hc:(0:Int)<m
    ·simp only [go_sem,ya,yb,nF,hc,er _ _ _ (show (10:Int)≠0 by decide),eU _ _ _ (show (10:Int)≠0 by decide),hr,hq,wrapN (n:=m%10+1) (by omega),wrap64 (n:=((m/10:Nat):Int)) (by omega) (by omega),eV,dQ,show ((m%10:Nat):Int)+1=((m%10+1:Nat):Int) from rfl,hd,gO (a:=[48+m%10]) (b:=s) (by simp;omega)];exact ⟨_,rfl,by simp only [go_sem,ya,ay]⟩
    ·simp only [go_sem,ya,yb,nF,hc,show ((s.length:Nat):Int)<9 by omega,er _ _ _ (show (10:Int)≠0 by decide),eU _ _ _ (show (10:Int)≠0 by decide),hr,hq,wrapN (n:=m%10+1) (by omega),wrap64 (n:=((m/10:Nat):Int)) (by omega) (by omega),eV,dQ,show ((m%10:Nat):Int)+1=((m%10+1:Nat):Int) from rfl,hd,gO (a:=[48+m%10]) (b:=s) (by simp;omega)];exact ⟨_,rfl,by simp only [go_sem,ya,ay]⟩
   obtain ⟨s',f1,f2⟩:=fin;exact ⟨s',k,f1,by omega,m/10,_,f2,by simp;omega,by rw [xg] at hm;omega,by rw [hs];simp [iN]⟩
end
end
section
open Go (IntKind)
def last_pos {l:List Int} (hd:dg l) (hn:nz l) (h:0<l.length):0<l.getD (l.length-1) 0:=by
 rcases snoc l with rfl | ⟨m,a,rfl⟩
 ·simp at h
 ·have e:(m++[a]).getD ((m++[a]).length-1) 0=a:=by simp [y9]
  rw [e];have ha:=jF.1 (hJ.1 hd).2;by_cases h0:a=0
  ·subst h0
   have:=L7 m
   have e:=congrArg List.length hn;rw [HB] at e;simp at e;omega
  ·omega
section
variable {P:aG} {L:Lib}
def asY (nO:Has P L 292 zM) {neg:Bool} {w:AV} {l:List Int} (hw:br w l) (hd:dg l) (hn:nz l) (hl:l.length<=20000000000):
  ∀k s,(∃(j:Nat) (t:List Nat),bD [1,3,4] s=⟨[(1,.ptr 0 0),(3,.str t),(4,aa ((j:Int)-1))],[(0,.cells true true true 2 [.bool neg,w])],1,0⟩/\j=k/\j<l.length/\0<dv (l.drop j)/\t=aw (dv (l.drop j))/\t.length<=9*(l.length-j))->
   ∃ex s',D P L (.loop [1,3,4] II) s=some (ex,s')/\∃tm,s'=⟨tm,[(0,.cells true true true 2 [.bool neg,w])],1,0⟩/\ex= .exit 0/\af tm 1= .ptr 0 0/\af tm 3= .str (aw (dv l))/\(aw (dv l)).length<=180000000000:=by
 refine cg (I:=fun k s=>∃(j:Nat) (t:List Nat),s=⟨[(1,.ptr 0 0),(3,.str t),(4,aa ((j:Int)-1))],[(0,.cells true true true 2 [.bool neg,w])],1,0⟩/\j=k/\j<l.length/\0<dv (l.drop j)/\t=aw (dv (l.drop j))/\t.length<=9*(l.length-j))
  (Q:=fun ex s'=>∃tm,s'=⟨tm,[(0,.cells true true true 2 [.bool neg,w])],1,0⟩/\ex= .exit 0/\af tm 1= .ptr 0 0/\af tm 3= .str (aw (dv l))/\(aw (dv l)).length<=180000000000) ?_
 rintro k s ⟨j,t,rfl,rfl,hj,BG,ht,Xe⟩
 cases j with
 | zero=>
  right
  rw [yj] at ht;simp only [go_sem,ya,II,show ¬(0:Int)<=((0:Nat):Int)-1 by omega];exact ⟨_,_,rfl,by simp,_,rfl,rfl,by simp only [go_sem,ya],by rw [<-ht];simp only [go_sem,ya],by rw [<-ht];omega⟩
 | succ i=>
  left
  have hi:i<l.length:=by omega
  obtain ⟨x,hx⟩:∃x,x=l.getD i 0:=⟨_,rfl⟩;have e1:=qv hw hi;have gx:=iv hd i;rw [<-hx] at e1 gx;obtain ⟨m,rfl⟩:∃m:Nat,x=m:=⟨x.toNat,by omega⟩;have e2:=asX nO (n:=m) (by omega);unfold ae at e2;have hlp:=RY 9 m;have jm:dv (l.drop i)=dv (l.drop (i+1))*10^9+m:=by
   have:l.drop i=(m:Int)::l.drop (i+1):=by
    rw [yL hi,hx];simp [y9,xz hi]
   rw [this];simp only [dv,xI];omega
  have awt:aw (dv (l.drop i))=t++iN 9 m:=by
   rw [jm,Mt 9 _ m BG (by omega),ht]
  simp only [go_sem,ya,II,show ((i+1:Nat):Int)-1=(i:Int) by omega,show (0:Int)<=(i:Int) by omega,aV,yd,bU,e1,e2,gO (a:=t) (b:=iN 9 m) (by omega)];refine ⟨_,i,rfl,by omega,i,t++iN 9 m,?_,rfl,by omega,by omega,awt.symm,by simp;omega⟩;rw [wrap64 (by omega) (by omega)];simp only [go_sem,ya,yb,ay]<;>rfl
def OZ (h:Has P L 282 JB) (nO:Has P L 292 zM) {v:AV} {n:Int} {K:Nat} (hK:K<=18000000000) (hv:iW v n) (hn:n.natAbs<1000000000^K):ae P L 282 [v] (.str (bh n))/\(bh n).length<=180000000001:=by
 obtain ⟨w,l,rfl,hw,hd,hz,pP⟩:=hv;have hl:=xj (ix hd hz (by rw [pP];exact hn)) hK
 by_cases h0:l=[]
 ·subst h0;have lB:n=0:=by simp [dv] at pP;omega
  subst lB;refine ⟨?_,by decide⟩;unfold ae;rw [av h];simp only [go_sem,ya,yb,JB,aB,hw.len,hw.pu,hw.one,aV,yd,bU,yE,show ((0:Nat):Int)=(0:Int) from rfl,yq];rfl
 ·have BG:0<l.length:=uv.2 h0;obtain ⟨x,hx⟩:∃x,x=l.getD (l.length-1) 0:=⟨_,rfl⟩;have e1:=qv hw (show l.length-1<l.length by omega);have gx:=iv hd (l.length-1);have gp:=last_pos hd hz BG;rw [<-hx] at e1 gx gp;obtain ⟨m,rfl⟩:∃m:Nat,x=m:=⟨x.toNat,by omega⟩;have e2:=Uu nO (n:=m) (by omega);unfold ae at e2;have jm:dv (l.drop (l.length-1))=m:=by
   rw [yL (show l.length-1<l.length by omega),y8 (by omega)]
   have:l[l.length-1]=(m:Int):=by rw [hx];simp [y9,xz (show l.length-1<l.length by omega)]
   simp [dv,this]
  have h9:(aw m).length<=9:=p9 (k:=8) (by omega);have fin:∀neg:Bool,bO P L (D P L) 282 [.agg [.bool neg,w]]=some (.str ((if neg=true then [45] else [])++aw (dv l)))/\(aw (dv l)).length<=180000000000:=fun neg=>by
   rw [av h]
   simp only [go_sem,ya,yb,JB,aB,hw.len,hw.pu,hw.one,aV,yd,bU,show ¬(l.length:Int)=0 by omega,show (l.length:Int)-1=((l.length-1:Nat):Int) by omega,wrapN (n:=l.length-1) (by omega),e1,e2];generalize hq:D P L (.loop [1,3,4] II) _=q;obtain ⟨ex,s,rfl,tm,rfl,rfl,t1,t3,hlen⟩:=bP hq (asY (P:=P) (L:=L) nO (neg:=neg) hw hd hz (by omega) (l.length-1)) ⟨l.length-1,aw m,by
    rw [show (l.length:Int)-2=((l.length-1:Nat):Int)-1 by omega,wrap64 (by omega) (by omega)]
    simp only [go_sem,ya,yb,ay]<;>rfl,rfl,by omega,by rw [jm];omega,by rw [jm],by omega⟩
   refine ⟨?_,hlen⟩
   cases neg with
   | true=>
    simp only [go_sem,ya,ay,t1,t3,aV,yd,gO (a:=[45]) (b:=aw (dv l)) (by simp;omega),y5]
   | false=>
    simp only [go_sem,ya,ay,t1,t3,aV,yd];rfl
  obtain ⟨f1,f2⟩:=fin (decide (n<0));rw [pP] at f1 f2;simp only [wP] at f1;rw [nB] at f1;refine ⟨f1,?_⟩;rw [<-nB]
  split<;>simp<;>omega
structure Rb (P:aG) (L:Lib):Prop where
 awu:Has P L 262 Jv
 zR:Has P L 272 JA
 agp:Has P L 274 Oj
 agq:Has P L 275 Ok
 awv:Has P L 277 C8
 aww:Has P L 280 nM
 agr:Has P L 281 Om
 O0:Has P L 282 JB
 ags:Has P L 288 Oq
 Ka:Has P L 289 rL
 zS:Has P L 290 Fm
 Uv:Has P L 291 JD
 nO:Has P L 292 zM
 ll:Has P L 293 Bt
 ie:Has P L 294 Bu
 OX:Has P L 295 JE
 nV:Has P L 296 rM
 agt:Has P L 298 Ot
 pf:Has P L 299 Bv
 cR:Has P L 300 lT
 mK:Has P L 302 rN
structure Ras (P:aG) (L:Lib):Prop extends Rb P L where
 agu:Has P L 264 Jw
 awx:Has P L 268 Jy
 awy:Has P L 271 TZ
 awz:Has P L 276 oV
 Kb:Has P L 278 Ol
 awA:Has P L 279 Fl
 OY:Has P L 297 JF
structure Ra (P:aG) (L:Lib):Prop extends Ras P L where
 agv:Has P L 267 Jx
end
end
section
open Go (IntKind)
section
variable {P:aG} {L:Lib}
def aqr {v w:AV} {a vs:List Int} {f:Int} (hv:br v a) (hw:br w vs) {n:Nat} (la:a.length<=9000000000) {A:Nat}:
  ∀k st,(∃us:List Int,bD [0,8,9,10,11] st=⟨[(0,v),(8,.an 0 0 1),(9,w),(10,aa n),(11,.an 1 0 us.length)],[(1,.cells true true false 1 (us.map aa)),(0,.cells false true true 1 [aa f])],2,0⟩/\us.length+k=a.length+1/\dg us/\dv us=A)->
   ∃ex st',D P L (.loop [0,8,9,10,11] IJ) st=some (ex,st')/\∃tm us,st'=⟨tm,[(1,.cells true true false 1 (us.map aa)),(0,.cells false true true 1 [aa f])],2,0⟩/\ex= .exit 0/\af tm 8= .an 0 0 1/\af tm 9=w/\af tm 10=aa n/\af tm 11= .an 1 0 (a.length+1)/\us.length=a.length+1/\dg us/\dv us=A:=by
 refine cg (I:=fun k st=>∃us:List Int,st=⟨[(0,v),(8,.an 0 0 1),(9,w),(10,aa n),(11,.an 1 0 us.length)],[(1,.cells true true false 1 (us.map aa)),(0,.cells false true true 1 [aa f])],2,0⟩/\us.length+k=a.length+1/\dg us/\dv us=A)
  (Q:=fun ex st'=>∃tm us,st'=⟨tm,[(1,.cells true true false 1 (us.map aa)),(0,.cells false true true 1 [aa f])],2,0⟩/\ex= .exit 0/\af tm 8= .an 0 0 1/\af tm 9=w/\af tm 10=aa n/\af tm 11= .an 1 0 (a.length+1)/\us.length=a.length+1/\dg us/\dv us=A) ?_
 rintro k st ⟨us,rfl,hk,gu,aQ⟩;have ea:((a.length:Nat):Int)+1=((a.length+1:Nat):Int):=rfl;by_cases hi:us.length<a.length+1
 ·left
  simp only [go_sem,ya,yb,ye,yh,IJ,hv.len,ea,wrapN (n:=a.length+1) (by omega),show ((us.length:Nat):Int)<((a.length+1:Nat):Int) by omega]
  rw [ki (ex:=false) (pu:=true) (cs:=us.map aa) (by simp only [go_sem,ya]) (by simp) (by omega) (by omega) (by decide) (by simp only [go_sem])];refine ⟨_,k-1,rfl,by omega,us++[0],?_,by simp;omega,hJ.2 ⟨gu,jF.2 (by decide)⟩,by rw [mh];simp [dv,aQ]⟩;rw [xC,yQ];simp only [go_sem,ya,yb,ay,aJ hv.pu,aO _ hv.pu,aJ hw.pu,aO _ hw.pu]<;>rfl
 ·right
  have hl:us.length=a.length+1:=by omega
  rw [hl]
  simp only [go_sem,ya,IJ,hv.len,ea,wrapN (n:=a.length+1) (by omega),show ¬((a.length+1:Nat):Int)<((a.length+1:Nat):Int) by omega];exact ⟨_,_,rfl,by simp,_,us,rfl,rfl,by simp only [go_sem,ya],by simp only [go_sem,ya],by simp only [go_sem,ya],by simp only [go_sem,ya],hl,gu,aQ⟩
end
def adL:∀l:List Int,bK (l.map aa)=true
 | []=>rfl
 | a::r=>by rw [yU,ZG,adL r];rfl
def adM:∀l:List Int,aH (l.map aa)=true
 | []=>rfl
 | a::r=>by rw [yU,aH,adM r];rfl
def aqs {hp:Hp} {ct:Nat} {e:Bool} {us:List Int} {o:Obj} (h:us.length<=100000000000):
  Db ((1,.cells true true true 1 [])::(0,o)::hp) ct 1 8 (.an 1 0 0) (qd ((1,.cells true true true 1 [])::(0,o)::hp) 1 (.aE e us.length (us.map aa)))=some (.an ct 0 us.length,(ct,.cells true true false 1 (us.map aa))::dA ((1,.cells true true true 1 [])::(0,o)::hp) 1,ct+1):=by
 have h1:qd ((1,.cells true true true 1 [])::(0,o)::hp) 1 (.aE e us.length (us.map aa))=some (us.length,us.map aa):=by
  simp [qd]
 rw [h1,ki (cs:=[]) (pu:=true) (ex:=true) rfl (by simp) (by omega) (by omega) (by decide) (adL us),adM,yd];rfl
def asZ {l:List Int} (hd:dg l) (hn:nz l) (h:0<l.length):1000000000^(l.length-1)<=dv l:=NA hn hd (fun e=>by subst e;simp at h)
def an9 {n top f V:Nat} (hf:f=1000000000/(top+1)) (Xj:0<top) (ht:top<1000000000) (h1:V<1000000000^(n-1)*(top+1)) (hn:0<n):0<f/\f<1000000000/\V*f<1000000000^n:=by
 have h2:f*(top+1)<=1000000000:=by rw [hf];exact Nat.div_mul_le_self _ _
 have h3:0<f:=by rw [hf];exact Nat.div_pos (by omega) (by omega)
 refine ⟨h3,?_,?_⟩
 ·have:=yS f (show 2<=top+1 by omega)
  omega
 ·have e1:=wD h1 h3;have e2:=yS (1000000000^(n-1)) h2;rw [<-xg,show (n-1).succ=n by omega] at e2
  grind
section
variable {P:aG} {L:Lib}
def as0 (h:Has P L 289 rL) (ll:Has P L 293 Bt) (pf:Has P L 299 Bv) (cR:Has P L 300 lT) (qF:Has P L 301 zN) {v w:AV} {a b:List Int} (hv:br v a) (hw:br w b) (ha:dg a) (hb:dg b) (na:nz a) (nb:nz b) (la:a.length<=8000000000) (lb:2<=b.length) (ec:ae P L 296 [v,w] (aa (eb (dv a) (dv b)))) (hc:dv b<=dv a):
  ∃q r lq lr,ae P L 289 [v,w] (.ap [q,r])/\br q lq/\br r lr/\dg lq/\nz lq/\dg lr/\nz lr/\dv lq=dv a/dv b/\dv lr=dv a%dv b:=by
 have eh:¬eb (dv a) (dv b)<0:=by unfold eb;rw [yB (by omega)];split<;>decide
 have auC:=asZ hb nb (by omega);have hba:b.length<=a.length:=by
  have:=jL ha
  have h1:1000000000^(b.length-1)<1000000000^a.length:=by omega
  have:=(uZ (show 1<1000000000 by decide)).1 h1
  omega
 obtain ⟨n,hn⟩:∃n,n=b.length:=⟨_,rfl⟩;have awB:=iv hb (n-1);have Bk:=last_pos hb nb (by omega);rw [<-hn] at Bk;obtain ⟨top,nQ⟩:∃v:Nat,b.getD (n-1) 0=v:=⟨(b.getD (n-1) 0).toNat,by omega⟩;have agw:=qv hw (i:=n-1) (by omega);rw [nQ] at awB Bk agw;have hbt:=oG (l:=b) (n-1);rw [show n-1+1=n by omega,yM (by omega),nQ,xI] at hbt;have auD:=jL (Cu hb (n-1));rw [yT,wu (by omega)] at auD;obtain ⟨f,hf⟩:∃f,f=1000000000/(top+1):=⟨_,rfl⟩;obtain ⟨DT,hfB,hfV⟩:=an9 (n:=n) (V:=dv b) hf (by omega) (by omega) (by rw [xt,yh];omega) (by omega);have hIf:br (.aE true 1 [aa f]) [(f:Int)]:=fm true [(f:Int)];have gf:dg [(f:Int)]:=jF.2 (by omega);have vf:dv [(f:Int)]=f:=by simp [dv]
 obtain ⟨v',vs,e1,eL,hsv,DJ,K6,sJ⟩:=UX ll cR hw hIf hb gf (by omega) (by simp);obtain ⟨u',B9,e2,jo,DF,Ga,nus,Li⟩:=UX ll cR hv hIf ha gf (by omega) (by simp);rw [vf] at sJ Li;have qS:0<dv b:=by have:=Nat.pow_pos (n:=b.length-1) (show 0<1000000000 by decide);omega
 have Az:vs.length=n:=by
  have h1:vs.length<=n:=ix DJ K6 (by rw [sJ];exact hfV)
  have h2:dv b<=dv vs:=by rw [sJ];exact Nat.le_mul_of_pos_right _ DT
  have h3:=jL DJ;have h4:1000000000^(n-1)<1000000000^vs.length:=by rw [hn];omega
  have:=(uZ (show 1<1000000000 by decide)).1 h4
  omega
 have P8:B9.length<=a.length+1:=by
  refine ix Ga nus ?_;rw [Li,xg];exact Nat.mul_lt_mul'' (jL ha) hfB
 have agx:0<B9.length:=by
  rcases xo B9.length with e | e
  ·have h1:0<dv a*f:=yaR (by omega) DT;rw [yJ e] at Li;simp only [dv] at Li;omega
  ·exact e
 have eG:0<vs.getD (n-1) 0:=by
  have:=last_pos DJ K6 (by omega)
  rwa [Az] at this
 obtain ⟨m,hm⟩:∃m,m=a.length+1-n:=⟨_,rfl⟩;have cU:∀ct:Nat,zQ ct 1 8 [.int .i64 0] (some m) (some m)=some (.an ct 0 m,.cells true true true 1 ((yz m (0:Int)).map aa)):=fun ct=>by
  rw [EO (sz:=1) (by omega) (by omega) (by rfl) (by rfl),Q0];rfl
 obtain ⟨e,rfl⟩:∃e,u'= .aE e B9.length (B9.map aa):=by
  rcases jo with ⟨rfl,h0⟩ | ⟨e,rfl⟩
  ·rw [List.map_eq_nil_iff] at h0;rw [h0] at agx;simp at agx
  ·exact ⟨e,by rw [xu]⟩
 have Tm:∀us:List Int,us.length=a.length+1->dv us=dv a*f->dv (us.drop m)<dv vs:=fun us hl hd=>by
  have e1:=R2 us m (by omega);have e2:=jL ha;have e3:=wD e2 DT;have e4:1000000000^a.length=1000000000^m*1000000000^(n-1):=by rw [<-Nat.pow_add];congr 1;omega
  rw [<-hd,e4,xk] at e3;have e5:1000000000^m*dv (us.drop m)<1000000000^m*(1000000000^(n-1)*f):=by omega
  refine yN (Nat.lt_of_mul_lt_mul_left e5) ?_;rw [sJ,hn];exact Nat.mul_le_mul_right _ auC
 have je:∃us qs,(us.length=a.length+1/\qs.length=m/\dg us/\dg qs/\dv us+dv qs*dv vs=dv a*f/\dv us<dv vs)/\
   ∃q1 r1 lr,br q1 (et qs)/\br r1 lr/\dg lr/\nz lr/\dv lr=dv (us.take n)/f/\ae P L 289 [v,w] (.ap [q1,r1]):=by
  unfold ae at ec e1 e2;unfold ae;rw [av h];have J0:IntKind.wrap .i64 ((1000000000:Int).tdiv ((top+1:Nat):Int))=(f:Int):=by
   rw [xK (by decide),show (1000000000:Int)/((top+1:Nat):Int)=((1000000000/(top+1):Nat):Int) from rfl,<-hf,wrap64 (by omega) (by omega)]
  simp only [go_sem,ya,yb,yt,ye,yh,rL,hv.ah,hw.len,hw.ah,ec,eh,show ¬(n:Int)=1 by omega,<-hn,show (n:Int)-1=((n-1:Nat):Int) by omega,wrapN (n:=n-1) (by omega),agw,show ((top:Nat):Int)+1=((top+1:Nat):Int) from rfl,wrapN (n:=top+1) (by omega),eU _ _ _ (show ((top+1:Nat):Int)≠0 by omega),J0,e1,hsv,eL.len,Az,e2,DF,aqs (us:=B9) (e:=e) (by omega)];generalize Aq:D P L (.loop [0,8,9,10,11] IJ) _=q0;obtain ⟨ex,st,rfl,tm,us,rfl,rfl,t8,t9,t10,t11,lu,gu,vu⟩:=bP Aq (aqr (P:=P) (L:=L) (f:=(f:Int)) (n:=n) (A:=dv a*f) hv eL (by omega) (a.length+1-B9.length)) ⟨B9,by
   simp only [go_sem,ya,yb,ay,aJ hv.pu,aO _ hv.pu,aJ eL.pu,aO _ eL.pu]<;>rfl,by omega,Ga,Li⟩
  have em:((a.length+1:Nat):Int)-(n:Int)=(m:Int):=by omega
  have em1:(m:Int)-1=((m-1:Nat):Int):=by omega
  simp only [go_sem,ya,yb,ay,aJ eL.pu,aO _ eL.pu,t8,t9,t10,t11,em,wrapN (n:=m) (by omega),cU,em1,wrapN (n:=m-1) (by omega)];generalize eN:D P L (.loop [8,9,10,11,12,13] IL) _=q1;obtain ⟨ex,st,rfl,jh,Ca,qs,rfl,rfl,t8,t10,t11,t12,lu1,Lb,gu1,gq1,aQ,bi⟩:=bP eN (aqq (P:=P) (L:=L) qF (f:=(f:Int)) eL DJ Az (by omega) (show n<a.length+1 by omega) (by omega) (by omega) eG (U0:=dv a*f) m) ⟨m,us,yz m 0,by
   rw [show ((m-1:Nat):Int)=(m:Int)-1 by omega]
   simp only [go_sem,ya,yb,ay,aJ eL.pu,aO _ eL.pu]<;>rfl,rfl,yC _,lu,by simp,gu,aaB m,fun i _=>Y6 m i,by rw [aaA,Nat.zero_mul,yX,vu],Tm us lu vu⟩
  have lj:∀(hp:Hp) tm (y:X),ak hp 1=some (.cells true true false 1 (Ca.map aa))->cP tm (a.length+1) (some y)=some n->fL hp (.sl 1) (.an 1 0 (a.length+1)) tm none (some y)=some (.an 1 0 n):=fun hp tm y h1 h2=>aaN h1 h2 (by omega) (by omega)
  obtain ⟨e',K8⟩:∃e',∀hp:Hp,lU 0 n (some (false,1,Ca.map aa,hp))=some (.aE e' n ((Ca.take n).map aa),hp):=by
   refine ⟨false&&Nat.blt 0 1&&Nat.beq n (Ca.map aa).length,fun hp=>?_⟩;simp only [lU,yd,yh,slice,yj,<-List.map_take];rw [Nat.ble_eq_true_of_le (by simp;omega)];rfl
  have ltk:(Ca.take n).length=n:=by rw [yT];omega
  have gZ:=fm e' (Ca.take n);rw [ltk] at gZ;obtain ⟨r0,f1,lY,awC⟩:=Bz cR gZ (by omega);obtain ⟨r1,lr,f2,cp,aA6,auE,dr,nr,vr⟩:=agl pf cR lY (AT (Cu gu1 n)) (by have:=L7 (Ca.take n);omega) DT hfB;have K7:=fm true qs;rw [Lb] at K7;obtain ⟨q1,f3,eN,awD⟩:=Bz cR K7 (by omega);rw [sP] at vr;unfold ae at f1 f2 f3;refine ⟨Ca,qs,⟨lu1,Lb,gu1,gq1,aQ,bi⟩,q1,r1,lr,eN,cp,dr,nr,vr,?_⟩;have oh:jx 1 0 (AV.an 0 0 1)=some (.ptr 0 0):=dj 0 0 (show 0<1 by omega)
  simp only [go_sem,ya,yb,ay,t8,t10,t11,t12,lj,dQ,K8,f1,awC,lY.ah,oh,f2,auE,fun hp=>nC (hp:=hp) (k:=m) (sz:=1) (cs:=qs.map aa) true (by simp [Lb]) (by decide),f3,awD];rcases eN with ⟨rfl,_⟩ | ⟨_,rfl⟩<;>rcases cp with ⟨rfl,_⟩ | ⟨_,rfl⟩<;>rfl
 obtain ⟨us,qs,⟨lu,lq,gu,gq,aQ,bi⟩,q1,r1,lr,eN,cp,dr,nr,vr,e⟩:=je;rw [sJ] at aQ bi;have J0:dv qs=dv a/dv b:=by
  rw [<-Nat.mul_div_mul_right _ _ DT,<-aQ,yaj,xE,Nat.mul_add_div (yaR qS DT),wH bi,yX]
 have Qa:dv us=(dv a%dv b)*f:=by
  rw [<-Nat.mul_mod_mul_right,<-aQ,yaj,xE (dv qs),Nat.mul_add_mod,yP bi]
 have kq:=R2 us n (by omega);have iE:dv (us.drop n)=0:=by
  rcases xo (dv (us.drop n)) with h0 | h0
  ·exact h0
  ·have:=yS (1000000000^n) h0
   omega
 rw [iE,xF,yX] at kq;rw [<-kq,Qa,Nat.mul_div_cancel _ DT] at vr;exact ⟨q1,r1,_,lr,e,eN,cp,AT gq,Eo _,dr,nr,by rw [sP,J0],vr⟩
def afi (h:Has P L 289 rL) (ll:Has P L 293 Bt) (nV:Has P L 296 rM) (pf:Has P L 299 Bv) (cR:Has P L 300 lT) (qF:Has P L 301 zN) {v w:AV} {a b:List Int} (hv:br v a) (hw:br w b) (ha:dg a) (hb:dg b) (na:nz a) (nb:nz b) (la:a.length<=8000000000) (lb:b.length<=8000000000) (h0:0<dv b):
  ∃q r lq lr,ae P L 289 [v,w] (.ap [q,r])/\br q lq/\br r lr/\dg lq/\nz lq/\dg lr/\nz lr/\dv lq=dv a/dv b/\dv lr=dv a%dv b:=by
 by_cases hl:b.length<=1
 ·exact awn h nV pf cR hv hw ha hb na nb (by omega) hl h0
 have ec:=UW nV hv hw ha hb na nb (by omega) (by omega);by_cases hc:dv a<dv b
 ·unfold ae at ec;have eh:eb (dv a) (dv b)= -1:=by unfold eb;rw [yI hc]
  rw [eh] at ec;refine ⟨.ab,v,[],a,?_,pZ,hv,rfl,rfl,ha,na,?_,?_⟩
  ·unfold ae;rw [av h];simp only [go_sem,ya,rL,hv.ah,hw.ah,ec,show (-1:Int)<0 by decide];rcases hv with ⟨rfl,_⟩ | ⟨e,rfl⟩<;>rfl
  ·rw [wH hc];rfl
  ·rw [yP hc]
 ·exact as0 h ll pf cR qF hv hw ha hb na nb la (by omega) ec (by omega)
def afj (h:Has P L 275 Ok) (Ka:Has P L 289 rL) (ll:Has P L 293 Bt) (nV:Has P L 296 rM) (pf:Has P L 299 Bv) (cR:Has P L 300 lT) (qF:Has P L 301 zN) {v w:AV} {a b:List Int} (hv:br v a) (hw:br w b) (ha:dg a) (hb:dg b) (na:nz a) (nb:nz b) (la:a.length<=8000000000) (lb:b.length<=8000000000):
  ∃r l,ae P L 275 [v,w] r/\br r l/\dg l/\nz l/\dv l=wg (dv a) (dv b):=by
 have key:=cg (P:=P) (L:=L) (live:=[0,1]) (a:=IG)
  (I:=fun k st=>∃x y lx ly,st=⟨[(0,x),(1,y)],[],0,0⟩/\br x lx/\br y ly/\dg lx/\nz lx/\dg ly/\nz ly/\lx.length<=8000000000/\ly.length<=8000000000/\dv ly=k/\wg (dv lx) (dv ly)=wg (dv a) (dv b))
  (Q:=fun ex st=>∃tm ct,st=⟨tm,[],ct,0⟩/\ex= .exit 0/\∃x lx,af tm 0=x/\br x lx/\dg lx/\nz lx/\dv lx=wg (dv a) (dv b)) ?_
 ·unfold ae;rw [av h];simp only [go_sem,Ok];generalize hq:D P L (.loop [0,1] IG) _=q;obtain ⟨ex,st,rfl,tm,ct,rfl,rfl,x,lx,h2,hx,dx,nx,vx⟩:=bP hq (key (dv b)) ⟨v,w,a,b,by simp only [go_sem,ya,ay,aJ hv.pu,aO _ hv.pu,aJ hw.pu,aO _ hw.pu]<;>rfl,hv,hw,ha,na,hb,nb,la,lb,rfl,rfl⟩
  refine ⟨x,lx,?_,hx,dx,nx,vx⟩;simp only [go_sem,ay,h2,hx.dT,aJ hx.pu,aO _ hx.pu]
 ·rintro k st ⟨x,y,lx,ly,rfl,hx,hy,dx,nx,dy,ny,llx,lly,rfl,hg⟩;by_cases h0:ly=[]
  ·right
   subst h0;simp only [go_sem,ya,IG,hy.len,yE,show ¬(0:Int)<((0:Nat):Int) by omega];refine ⟨_,_,rfl,by simp,_,_,rfl,rfl,x,lx,by simp only [go_sem,ya],hx,dx,nx,?_⟩;rw [<-hg];simp [dv]
  ·left
   have hp:0<dv ly:=by
    rcases xo (dv ly) with e | e
    ·exact absurd (Sc ny dy e) h0
    ·exact e
   have hl:0<ly.length:=uv.2 h0;obtain ⟨q,r,lq,lr,e1,hq,hr,dq,nq,dr,nr,vq,vr⟩:=afi Ka ll nV pf cR qF hx hy dx dy nx ny llx lly hp;have bi:dv lr<dv ly:=by rw [vr];exact xy _ hp
   have hB:=jL dy;simp only [go_sem,ya,IG,hx.ah,hy.len,hy.ah,show (0:Int)<ly.length by omega,e1,hq.bT,hr.bT];refine ⟨_,dv lr,rfl,bi,y,r,ly,lr,?_,hy,hr,dy,ny,dr,nr,by omega,xj (ix dr nr (Nat.lt_trans bi hB)) lly,rfl,?_⟩
   ·simp only [go_sem,ya,ay,aJ hy.pu,aO _ hy.pu,aJ hr.pu,aO _ hr.pu]<;>rfl
   ·rw [<-hg,vr,uj (dv ly),<-Nat.gcd_rec,uj]
end
end
section
open Go (IntKind)
section
variable {P:aG} {L:Lib}
def as3 (zS:Has P L 290 Fm) {neg:Bool} {N:Nat} (hN:(aw N).length<=180000000000):
  ∀k s,(∃(i m:Nat) (out:List Int),m=k/\out.length=i/\dg out/\dv out+1000000000^i*m=N/\(aw m).length+9*i<=180000000000/\
    ((i=0/\bD [0,2,3,4] s=⟨[(0,.str (aw m)),(2,.ptr 0 0),(3,.bool neg),(4,.ab)],[(0,.cells true true true 2 [.bool false,.ab])],1,0⟩)\/
    (0<i/\bD [0,2,3,4] s=⟨[(0,.str (aw m)),(2,.ptr 0 0),(3,.bool neg),(4,.an 1 0 i)],[(1,.cells true true false 1 (out.map aa)),(0,.cells true true true 2 [.bool false,.ab])],2,0⟩)))->
   ∃ex s',D P L (.loop [0,2,3,4] zi) s=some (ex,s')/\∃tm i m out,ex= .exit 0/\m<1000000000/\out.length=i/\dg out/\dv out+1000000000^i*m=N/\i<20000000000/\af tm 0= .str (aw m)/\af tm 2= .ptr 0 0/\af tm 3= .bool neg/\
    ((i=0/\af tm 4= .ab/\s'=⟨tm,[(0,.cells true true true 2 [.bool false,.ab])],1,0⟩)\/(0<i/\af tm 4= .an 1 0 i/\s'=⟨tm,[(1,.cells true true false 1 (out.map aa)),(0,.cells true true true 2 [.bool false,.ab])],2,0⟩)):=by
 refine cg (I:=fun k s=>∃(i m:Nat) (out:List Int),m=k/\out.length=i/\dg out/\dv out+1000000000^i*m=N/\(aw m).length+9*i<=180000000000/\
    ((i=0/\s=⟨[(0,.str (aw m)),(2,.ptr 0 0),(3,.bool neg),(4,.ab)],[(0,.cells true true true 2 [.bool false,.ab])],1,0⟩)\/
    (0<i/\s=⟨[(0,.str (aw m)),(2,.ptr 0 0),(3,.bool neg),(4,.an 1 0 i)],[(1,.cells true true false 1 (out.map aa)),(0,.cells true true true 2 [.bool false,.ab])],2,0⟩)))
  (Q:=fun ex s'=>∃tm i m out,ex= .exit 0/\m<1000000000/\out.length=i/\dg out/\dv out+1000000000^i*m=N/\i<20000000000/\af tm 0= .str (aw m)/\af tm 2= .ptr 0 0/\af tm 3= .bool neg/\
    ((i=0/\af tm 4= .ab/\s'=⟨tm,[(0,.cells true true true 2 [.bool false,.ab])],1,0⟩)\/(0<i/\af tm 4= .an 1 0 i/\s'=⟨tm,[(1,.cells true true false 1 (out.map aa)),(0,.cells true true true 2 [.bool false,.ab])],2,0⟩))) ?_
 rintro k s ⟨i,m,out,rfl,hlen,hd,aQ,hl,hs⟩;by_cases hm:1000000000<=m
 ·left
  obtain ⟨q,hq⟩:∃q,q=m/1000000000:=⟨_,rfl⟩;obtain ⟨r,hr⟩:∃r,r=m%1000000000:=⟨_,rfl⟩;have lj:=anK hm;rw [<-hq,<-hr] at lj;have py:=RY 9 r;have hqp:=ri q;have hlm:(aw m).length=(aw q).length+9:=by rw [lj,yQ,py]
  have c1:iC (aw m) (some (aw q).length) (some (aw m).length)=some (.str (iN 9 r)):=by
   rw [lK (by omega) (yC _),wo,lj,yan]
  have c2:iC (aw m) (some 0) (some (aw q).length)=some (.str (aw q)):=by
   rw [lK (by omega) (by omega),yj,lj,yam]
  have e1:=JV zS (s:=iN 9 r) (v:=r) (by omega) (by rw [aaJ 9 r 0 (by omega)];simp)
  unfold ae at e1;have qD:dg (out++[(r:Int)]):=hJ.2 ⟨hd,jF.2 (by omega)⟩;have NJ:dv (out++[(r:Int)])+1000000000^(i+1)*q=N:=by
   rw [mh,hlen,<-aQ,xg];have e:=Nat.mod_add_div m 1000000000;rw [<-hr,<-hq] at e;rw [<-e];simp only [dv,xI,xF,yX,xt,xk];omega
  have Jn:((aw m).length:Int)-9=((aw q).length:Int):=by omega
  rcases hs with ⟨h0,rfl⟩ | ⟨h0,rfl⟩
  ·subst h0;have jf:out=[]:=yJ hlen;subst jf
   simp only [go_sem,ya,yb,xQ,yt,ye,yh,zi,show (9:Int)<((aw m).length:Int) by omega,Jn,wrapN (n:=(aw q).length) (by omega),eV,fo,dQ,c1,c2,e1,kL];refine ⟨_,q,rfl,by omega,1,q,[]++[(r:Int)],rfl,rfl,qD,NJ,by omega,.inr ⟨by omega,?_⟩⟩;simp only [go_sem,ya,yb,ay];rfl
  ·simp only [go_sem,ya,yb,ye,yh,zi,show (9:Int)<((aw m).length:Int) by omega,Jn,wrapN (n:=(aw q).length) (by omega),eV,fo,dQ,c1,e1]
   rw [ki (ex:=false) (pu:=true) (cs:=out.map aa) (by simp only [go_sem,ya]) (by rw [xu,hlen,yh]) (by omega) (by omega) (by decide) (by simp only [go_sem])]
   simp only [go_sem,ya,yb,eV,fo,dQ,Jn,wrapN (n:=(aw q).length) (by omega),c2];refine ⟨_,q,rfl,by omega,i+1,q,out++[(r:Int)],rfl,by simp [hlen],qD,NJ,by omega,.inr ⟨by omega,?_⟩⟩;rw [xC];simp only [go_sem,ya,yb,ay]<;>rfl
 ·right
  have h9:(aw m).length<=9:=p9 (k:=8) (by omega);have hp0:=ri m;rcases hs with ⟨h0,rfl⟩ | ⟨h0,rfl⟩
  ·simp only [go_sem,zi,show ¬(9:Int)<((aw m).length:Int) by omega];exact ⟨_,_,rfl,by simp,_,i,m,out,rfl,by omega,hlen,hd,aQ,by omega,by simp only [go_sem,ya],by simp only [go_sem,ya],by simp only [go_sem,ya],.inl ⟨h0,by simp only [go_sem,ya],rfl⟩⟩
  ·simp only [go_sem,zi,show ¬(9:Int)<((aw m).length:Int) by omega];exact ⟨_,_,rfl,by simp,_,i,m,out,rfl,by omega,hlen,hd,aQ,by omega,by simp only [go_sem,ya],by simp only [go_sem,ya],by simp only [go_sem,ya],.inr ⟨h0,by simp only [go_sem,ya],rfl⟩⟩
end
end
section
open Go (IntKind)
section
variable {P:aG} {L:Lib}
def U1 (h:Rb P L) {n:Int} (hn:(aw n.natAbs).length<=180000000000):∃r,ae P L 288 [.str (bh n)] r/\iW r n:=by
 obtain ⟨u,hu⟩:∃u,u=aw n.natAbs:=⟨_,rfl⟩;obtain ⟨b,t,hb,ff,lG⟩:=Ef n.natAbs;have hs:bh n=(if n<0 then [45] else [])++u:=by rw [hu,nB]
 have BX:0<u.length:=by rw [hu];exact ri _
 have qP:u[0]=b:=by
  have:u=b::t:=by rw [hu,hb]
  simp [this]
 have key:∀(s:St),bD [0,2,3,4] s=⟨[(0,.str u),(2,.ptr 0 0),(3,.bool (decide (n<0))),(4,.ab)],[(0,.cells true true true 2 [.bool false,.ab])],1,0⟩->
   ∃ex s',D P L (.loop [0,2,3,4] zi) s=some (ex,s')/\∃tm i m out,ex= .exit 0/\m<1000000000/\out.length=i/\dg out/\dv out+1000000000^i*m=n.natAbs/\i<20000000000/\af tm 0= .str (aw m)/\af tm 2= .ptr 0 0/\af tm 3= .bool (decide (n<0))/\
    ((i=0/\af tm 4= .ab/\s'=⟨tm,[(0,.cells true true true 2 [.bool false,.ab])],1,0⟩)\/(0<i/\af tm 4= .an 1 0 i/\s'=⟨tm,[(1,.cells true true false 1 (out.map aa)),(0,.cells true true true 2 [.bool false,.ab])],2,0⟩)):=fun s hc=>
  as3 (P:=P) (L:=L) h.zS (neg:=decide (n<0)) hn n.natAbs s ⟨0,n.natAbs,[],rfl,rfl,rfl,by simp [dv],by omega,.inl ⟨rfl,by rw [hc,hu]⟩⟩
 have fin:∀(i m:Nat) (out:List Int),m<1000000000->out.length=i->dg out->dv out+1000000000^i*m=n.natAbs->i<20000000000->∃w l,bO P L (D P L) 294 [.bool (decide (n<0)),.aE false (i+1) ((out++[(m:Int)]).map aa)]=some (.agg [.bool (decide (n<0)),w])/\br w l/\dg l/\nz l/\dv l=n.natAbs:=fun i m out h1 h2 h3 h4 h5=>by
  have hv:=fm false (out++[(m:Int)]);have hd:dg (out++[(m:Int)]):=hJ.2 ⟨h3,jF.2 (by omega)⟩;have aQ:dv (out++[(m:Int)])=n.natAbs:=by rw [mh,h2];simp [dv];exact h4
  obtain ⟨r,e,hr⟩:=nS h.ie h.cR (decide (n<0)) hv hd (by simp;omega);have Gc:ck (decide (n<0)) (dv (out++[(m:Int)]))=n:=by
   rw [aQ];unfold ck;by_cases h0:n<0
   ·simp only [h0,yq,y5];omega
   ·simp only [h0,yo,Bool.false_eq_true,yO];omega
  rw [Gc] at hr;obtain ⟨w,l,rfl,hw,dU,iS,cX⟩:=hr;simp only [yQ,List.length_singleton,h2] at e;exact ⟨w,l,e,hw,dU,iS,cX⟩
 unfold ae;rw [hs];by_cases h0:n<0
 ·rw [yI h0,av h.ags];have lD:iC (45::u) (some 1) (some (u.length+1))=some (.str u):=by rw [lK (s:=45::u) (l:=1) (h:=u.length+1) (by omega) (by simp)];simp
  simp only [h0,yq] at key fin ⊢;simp only [go_sem,ya,yb,Oq,aB,show (0:Int)<((u.length+1:Nat):Int) by omega,y7,wa,De,yq,eV,fo,dQ,lD];generalize hq:D P L (.loop [0,2,3,4] zi) _=q;obtain ⟨ex,s,rfl,tm,i,m,out,rfl,hm,hlen,hd,aQ,hi,t0,t2,t3,CW⟩:=bP hq key (by simp only [go_sem,ya,yb,ay]<;>rfl)
  have e1:=JV h.zS (s:=aw m) (v:=m) (by have:=p9 (k:=8) (n:=m) (by omega);omega) (Cn m);have cu:i<20000000000:=hi;obtain ⟨w,l,e2,hw,dU,iS,cX⟩:=fin i m out hm hlen hd aQ cu;refine ⟨_,?_,w,l,rfl,hw,dU,iS,cX⟩;unfold ae at e1;rcases CW with ⟨qV,t4,rfl⟩ | ⟨qV,t4,rfl⟩
  ·subst qV;have jf:out=[]:=yJ hlen;subst jf;have gZ:∀hp:Hp,lU 0 1 (some (false,1,[AV.int .i64 (m:Int)],hp))=some (.aE false 1 [AV.int .i64 (m:Int)],hp):=fun hp=>rfl
   simp only [wa,yU,xU,yd] at e2;simp only [go_sem,ya,yb,xQ,yt,ye,yh,ay,t0,t2,t3,t4,e1,kL,gZ,e2,bl,hw.pu,hw.one,de];rcases hw with ⟨rfl,_⟩ | ⟨e,rfl⟩<;>simp only [h0,yq]<;>rfl
  ·simp only [go_sem,ya,yb,ye,yh,ay,t0,t2,t3,t4,e1]
   rw [ki (ex:=false) (pu:=true) (cs:=out.map aa) (by simp only [go_sem,ya]) (by rw [xu,hlen,yh]) (by omega) (by omega) (by decide) (by simp only [go_sem])];have gZ:∀hp:Hp,lU 0 (i+1) (some (false,1,out.map aa++[AV.int .i64 (m:Int)],hp))=some (.aE false (i+1) (out.map aa++[AV.int .i64 (m:Int)]),hp):=fun hp=>nC false (by simp [hlen]) (by decide)
   simp only [xC,yU,xU] at e2;simp only [go_sem,ya,yb,gZ,e2,bl,hw.pu,hw.one,de,uF];rcases hw with ⟨rfl,_⟩ | ⟨e,rfl⟩<;>simp only [h0,yq]<;>rfl
 ·rw [yB h0,av h.ags,wa];simp only [h0,yo] at key fin ⊢;simp only [go_sem,ya,yb,Oq,aB,show (0:Int)<(u.length:Int) by omega,qh BX,qP,show ¬((b:Nat):Int)=45 by omega];generalize hq:D P L (.loop [0,2,3,4] zi) _=q;obtain ⟨ex,s,rfl,tm,i,m,out,rfl,hm,hlen,hd,aQ,hi,t0,t2,t3,CW⟩:=bP hq key (by simp only [go_sem,ya,yb,ay]<;>rfl)
  have e1:=JV h.zS (s:=aw m) (v:=m) (by have:=p9 (k:=8) (n:=m) (by omega);omega) (Cn m);have cu:i<20000000000:=hi;obtain ⟨w,l,e2,hw,dU,iS,cX⟩:=fin i m out hm hlen hd aQ cu;refine ⟨_,?_,w,l,rfl,hw,dU,iS,cX⟩;unfold ae at e1;rcases CW with ⟨qV,t4,rfl⟩ | ⟨qV,t4,rfl⟩
  ·subst qV;have jf:out=[]:=yJ hlen;subst jf;have gZ:∀hp:Hp,lU 0 1 (some (false,1,[AV.int .i64 (m:Int)],hp))=some (.aE false 1 [AV.int .i64 (m:Int)],hp):=fun hp=>rfl
   simp only [wa,yU,xU,yd] at e2;simp only [go_sem,ya,yb,xQ,yt,ye,yh,ay,t0,t2,t3,t4,e1,kL,gZ,e2,bl,hw.pu,hw.one,de];rcases hw with ⟨rfl,_⟩ | ⟨e,rfl⟩<;>simp only [h0,yo]<;>rfl
  ·simp only [go_sem,ya,yb,ye,yh,ay,t0,t2,t3,t4,e1]
   rw [ki (ex:=false) (pu:=true) (cs:=out.map aa) (by simp only [go_sem,ya]) (by rw [xu,hlen,yh]) (by omega) (by omega) (by decide) (by simp only [go_sem])];have gZ:∀hp:Hp,lU 0 (i+1) (some (false,1,out.map aa++[AV.int .i64 (m:Int)],hp))=some (.aE false (i+1) (out.map aa++[AV.int .i64 (m:Int)]),hp):=fun hp=>nC false (by simp [hlen]) (by decide)
   simp only [xC,yU,xU] at e2;simp only [go_sem,ya,yb,gZ,e2,bl,hw.pu,hw.one,de,uF];rcases hw with ⟨rfl,_⟩ | ⟨e,rfl⟩<;>simp only [h0,yo]<;>rfl
end
end
section
open Go (IntKind)
def D7 (n:Int) (r:List Nat):bS (bh n++r)=(bh n).length+bS r:=by
 rw [<-nB]
 split
 ·simp only [y7,wa,bS,yr];rw [yB (by decide),LD r (HR _)];omega
 ·rw [wa];exact LD r (HR _)
def R3:∀{a b:List Nat},cA a b=true->a=b
 | [],[],_=>rfl
 | [],_::_,h=>by simp [cA] at h
 | _::_,[],h=>by simp [cA] at h
 | x::a,y::b,h=>by
  simp only [cA,Bool.and_eq_true] at h;rw [Nat.eq_of_beq_eq_true h.1,R3 h.2]
def afk {n:Int} {d:Nat} (h:n≠0):cA (TT n d) [48]=false:=by
 cases hb:cA (TT n d) [48] with
 | false=>rfl
 | true=>
  have e:=R3 hb;unfold TT at e;by_cases h0:n<0
  ·rw [mR h0] at e;simp at e
  ·obtain ⟨m,rfl⟩:∃m:Nat,n=m:=⟨n.toNat,by omega⟩;rw [kM] at e;obtain ⟨b,r,cY,_,_⟩:=Ef m;rw [cY] at e;simp only [y7,List.cons.injEq,List.append_eq_nil_iff] at e;have hv:=Cn m;rw [cY,e.1,e.2.1] at hv
   have:(some 0:Option Nat)=some m:=hv
   injection this with this
   omega
section
variable {P:aG} {L:Lib}
def as4 (h:Rb P L):∃r,ae P L 281 [aa 1] r/\iW r 1:=by
 obtain ⟨r,e,hr⟩:=nS h.ie h.cR false (fm false [(1:Int)]) (by decide) (by decide)
 have:ck false (dv [(1:Int)])=1:=by decide
 rw [this] at hr;obtain ⟨w,l,rfl,hw,hd,hz,hv⟩:=hr;refine ⟨_,?_,w,l,rfl,hw,hd,hz,hv⟩;simp only [yU,xU,yr,yE,yd] at e;have gZ:∀hp:Hp,lU 0 1 (some (false,1,[AV.int .i64 1],hp))=some (.aE false 1 [AV.int .i64 1],hp):=fun hp=>rfl
 unfold ae at e ⊢;rw [av h.agr];simp only [go_sem,ya,yb,xQ,yt,ye,yh,Om,aB,Int.reduceLT,yo,EN,ay,ru,Int.reduceEq,Bool.not_false,Bool.not_true,yq,er _ _ _ (show (1000000000:Int)≠0 by decide),eU _ _ _ (show (1000000000:Int)≠0 by decide),show Int.tmod 1 1000000000=1 from rfl,show Int.tdiv 1 1000000000=0 from rfl,show IntKind.wrap .i64 0=0 from rfl,kL,gZ,e,hw.pu,hw.one,bl,de];rcases hw with ⟨rfl,_⟩ | ⟨e,rfl⟩<;>rfl
def agy (h:Rb P L) {n:Int} {d:Nat} (hn:(aw n.natAbs).length<=144000000000) (hd:(aw d).length<=144000000000):
  ∃x y,ae P L 274 [.str (TT n d)] (.ap [x,y])/\iW x n/\iW y d:=by
 obtain ⟨x,e1,hx⟩:=U1 h (n:=n) (by omega);have hli:(bh n).length<=(aw n.natAbs).length+1:=by rw [<-nB];split<;>simp
 by_cases h1:d=1
 ·subst h1;obtain ⟨y,e2,hy⟩:=as4 h;have hT:TT n 1=bh n:=by unfold TT;simp
  have hs:=D7 n [];rw [List.append_nil] at hs;have e3:=Dd h.zR (s:=bh n) (by omega);rw [hs] at e3;refine ⟨x,y,?_,hx,hy⟩;obtain ⟨xw,xl,rfl,dW,_,_,_⟩:=hx;obtain ⟨yw,yl,rfl,dX,_,_,_⟩:=hy;rw [hT];unfold ae at e1 e2 e3 ⊢;rw [av h.agp];simp only [go_sem,ya,yb,Oj,aB,e3,bS,yX,yq,e1,e2,bl,dW.pu,dW.one,dX.pu,dX.one,de];rcases dW with ⟨rfl,_⟩ | ⟨e,rfl⟩<;>rcases dX with ⟨rfl,_⟩ | ⟨e',rfl⟩<;>rfl
 ·obtain ⟨y,e2,hy⟩:=U1 h (n:=(d:Int)) (by simp;omega);rw [kM] at e2;obtain ⟨s,La⟩:∃s,s=TT n d:=⟨_,rfl⟩;have hT:s=bh n++47::aw d:=by rw [La];unfold TT;rw [yB h1]
  have hs:bS s=(bh n).length:=by rw [hT,D7];rfl
  have hlen:s.length=(bh n).length+(aw d).length+1:=by rw [hT];simp;omega
  have hp:=ri d;have e3:=Dd h.zR (s:=s) (by omega);rw [hs] at e3;have c1:iC s (some 0) (some (bh n).length)=some (.str (bh n)):=by
   rw [lK (by omega) (by omega),yj,hT,yam]
  have c2:iC s (some ((bh n).length+1)) (some s.length)=some (.str (aw d)):=by
   rw [lK (by omega) (yC _),wo,hT,show bh n++47::aw d=(bh n++[47])++aw d by simp,show (bh n).length+1=(bh n++[47]).length by simp,yan]
  refine ⟨x,y,?_,hx,hy⟩;obtain ⟨xw,xl,rfl,dW,_,_,_⟩:=hx;obtain ⟨yw,yl,rfl,dX,_,_,_⟩:=hy;rw [<-La];unfold ae at e1 e2 e3 ⊢;rw [av h.agp]
  simp only [go_sem,ya,yb,Oj,aB,e3,show ¬((bh n).length:Int)=(s.length:Int) by omega,eV,fo,dQ,c1,wrapN (n:=(bh n).length+1) (by omega),show ((bh n).length:Int)+1=(((bh n).length+1:Nat):Int) from rfl,c2,e1,e2,bl,dW.pu,dW.one,dX.pu,dX.one,de];rcases dW with ⟨rfl,_⟩ | ⟨e,rfl⟩<;>rcases dX with ⟨rfl,_⟩ | ⟨e',rfl⟩<;>rfl
end
end
end VE
