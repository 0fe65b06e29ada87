import Derived.Test.YtflgmingejdfnaaGreatDoorVax
import Derived.Test.YtflgmingejdfnaaGreatDoorVat
set_option linter.all false
set_option maxRecDepth 100000
open Bool renaming and_true→tj
open Int renaming le_of_lt→uC,mul_le_mul_of_nonneg_left→vG,mul_nonneg→vW,ofNat_eq_natCast→tX,pow_pos→ybN,pow_succ→yaQ,tdiv_eq_ediv_of_nonneg→xK,tmod_eq_emod_of_nonneg→xm,toNat_natCast→wC
open Int.ofNat renaming inj→yae
open List renaming append_assoc→xu,cons_append→y8,drop_drop→vC,drop_eq_getElem_cons→yO,drop_eq_nil_of_le→xj,drop_left→yaN,drop_zero→yj,eq_nil_of_length_eq_zero→yN,getD_eq_getElem?_getD→xM,getElem?_eq_getElem→wh,length_append→yQ,length_cons→yv,length_drop→wu,length_map→xx,length_nil→yF,length_pos_iff→uE,length_take→yT,map_append→xq,map_cons→y9,map_nil→wM,nil_append→xS,replicate→yA,set_eq_of_length_le→uZ,take_append_drop→xP,take_left→yaM,take_length→wz,take_of_length_le→yL,take_set→tg
open List.cons renaming injEq→tL
open Nat renaming add_comm→yaI,add_zero→yX,div_eq_of_lt→wS,eq_zero_or_pos→xr,gcd→wi,gcd_comm→um,le_refl→yD,le_trans→xi,lt_of_lt_of_le→yH,min_eq_left→wE,mod_eq_of_lt→yP,mod_lt→xC,mul_add→xD,mul_assoc→xk,mul_comm→xN,mul_le_mul_left→yS,mul_lt_mul_of_pos_right→wH,mul_one→yi,mul_pos→yaK,mul_zero→xJ,pow_lt_pow_iff_right→th,pow_succ→xg,reduceAdd→yb,reduceEqDiff→ya,reduceLT→yy,reduceLeDiff→yg,reduceMul→xR,zero_add→yd
namespace VE
section
open Go (IntKind)
def avr {t v bo:Int} (ht:0<=t/\t<1000000000) (hv:0<=v/\v<1000000000) (hb:0<=bo/\bo<1000000000):0<=t*v/\t*v<=999999998000000001/\0<=t*v+bo/\t*v+bo<=999999999000000000:=by
 have h1:=vW ht.1 hv.1;have h2:=Int.mul_le_mul (show t<=999999999 by omega) (show v<=999999999 by omega) hv.1 (by decide);omega
def avt {x p:Int} (hx:0<=x/\x<1000000000) (hp:0<=p/\p<=999999999000000000):
  (x-p.tmod 1000000000<0->0<=x-p.tmod 1000000000+1000000000/\x-p.tmod 1000000000+1000000000<1000000000/\0<=p.tdiv 1000000000+1/\p.tdiv 1000000000+1<1000000000/\x-p.tmod 1000000000+1000000000+p=x+1000000000*(p.tdiv 1000000000+1))/\
  (¬x-p.tmod 1000000000<0->x-p.tmod 1000000000<1000000000/\0<=p.tdiv 1000000000/\p.tdiv 1000000000<1000000000/\x-p.tmod 1000000000+p=x+1000000000*p.tdiv 1000000000):=by grind
def Ri {l:List Int} (h:dg l) {i:Nat} {z:Int} (hz:0<=z/\z<1000000000):dg (l.set i z):=Mb h hz
def apq {b p z q v bo Al x X Y S:Int} (h2:z+(q*v+bo)=x+b*Al) (h3:Y+q*X=S+p*bo):(Y+p*(z-x))+q*(X+p*v)=S+p*b*Al:=by grind
section
variable {P:aK} {L:Lib}
def apr {w:AV} {x vs pre post qs:List Int} {f:Int} (hw:bq w vs) {n M m:Nat} (lv:vs.length=n) (hM:M=pre.length+(n+1)+post.length) (Ks:M<=50000000000) (gv:dg vs) {t:Int} (ht:0<=t/\t<1000000000):
  ∀k s,(∃(i:Nat) (bo:Int) (y:List Int),bH [8,9,10,11,12,13,14,15,16] s=⟨[(8,.ak 0 0 1),(9,w),(10,aa n),(11,.ak 1 0 M),(12,.ak 2 0 m),(13,aa pre.length),(14,aa t),(15,aa bo),(16,aa i)],H3 qs (pre++y++post) f,3,0⟩/\i+k=n/\y.length=n+1/\dg y/\(0<=bo/\bo<1000000000)/\
    sv y+t*sv (vs.take i)=sv x+1000000000^i*bo)->
   ∃ex s',D P L (.loop [8,9,10,11,12,13,14,15,16] Ee) s=some (ex,s')/\∃tm bo y,s'=⟨tm,H3 qs (pre++y++post) f,3,0⟩/\ex= .exit 4/\af tm 8= .ak 0 0 1/\af tm 9=w/\af tm 10=aa n/\af tm 11= .ak 1 0 M/\af tm 12= .ak 2 0 m/\af tm 13=aa pre.length/\af tm 14=aa t/\af tm 15=aa bo/\y.length=n+1/\dg y/\(0<=bo/\bo<1000000000)/\
    sv y+t*sv vs=sv x+1000000000^n*bo:=by
 refine cC (I:=fun k s=>∃(i:Nat) (bo:Int) (y:List Int),s=⟨[(8,.ak 0 0 1),(9,w),(10,aa n),(11,.ak 1 0 M),(12,.ak 2 0 m),(13,aa pre.length),(14,aa t),(15,aa bo),(16,aa i)],H3 qs (pre++y++post) f,3,0⟩/\i+k=n/\y.length=n+1/\dg y/\(0<=bo/\bo<1000000000)/\
    sv y+t*sv (vs.take i)=sv x+1000000000^i*bo)
  (Q:=fun ex s'=>∃tm bo y,s'=⟨tm,H3 qs (pre++y++post) f,3,0⟩/\ex= .exit 4/\af tm 8= .ak 0 0 1/\af tm 9=w/\af tm 10=aa n/\af tm 11= .ak 1 0 M/\af tm 12= .ak 2 0 m/\af tm 13=aa pre.length/\af tm 14=aa t/\af tm 15=aa bo/\y.length=n+1/\dg y/\(0<=bo/\bo<1000000000)/\
    sv y+t*sv vs=sv x+1000000000^n*bo) ?_
 rintro k s ⟨i,bo,y,rfl,hk,ly,gy,iO,aT⟩;by_cases hi:i<n
 ·left
  have qF:=gW gv i;have pD:=gW gy i;have ev:=pU hw (i:=i) (by omega);have ey:=rn (l:=pre++y++post) (o:=pre.length+i) (by rw [nE];omega);rw [AW (by omega)] at ey;have ep:=L5 (l:=vs) i;obtain ⟨a,ha⟩:∃a,a=vs.getD i 0:=⟨_,rfl⟩;obtain ⟨d,hd⟩:∃d,d=y.getD i 0:=⟨_,rfl⟩;rw [<-ha] at qF ev ep;rw [<-hd] at pD ey;obtain ⟨p1,p2,p3,p4⟩:=avr ht qF iO;obtain ⟨s1,s2⟩:=avt pD ⟨p3,p4⟩;have eV:(i:Int)+(pre.length:Int)=((pre.length+i:Nat):Int):=by omega
  have bf:=fun (hp:Hp) (ct:Nat) (z:Int)=>B0 (hp:=hp) (ct:=ct) (id:=1) (v:=z) (ex:=false) (l:=pre++y++post) (o:=pre.length+i) (by rw [nE];omega)
  have nK:=fun z=>Mk (pre:=pre) (x:=y) (post:=post) (i:=i) z (by omega)
  have aY:=fun z=>En (l:=y) (i:=i) (x:=z) (by omega)
  rw [<-hd] at aY;obtain ⟨pr,nR⟩:∃pr,pr=t*a+bo:=⟨_,rfl⟩;obtain ⟨dm,fL⟩:∃dm,pr.tmod 1000000000=dm:=⟨_,rfl⟩;obtain ⟨dq,Dr⟩:∃dq,pr.tdiv 1000000000=dq:=⟨_,rfl⟩;have azM:0<=dm/\dm<1000000000:=by rw [<-fL,xm (by omega)];omega
  have azN:0<=dq/\dq<1000000000:=by rw [<-Dr,xK (by omega)];omega
  rw [<-nR,fL,Dr] at s1 s2;have key:∀z Al,z+(t*a+bo)=d+1000000000*Al->sv (y.set i z)+t*sv (vs.take (i+1))=sv x+1000000000^(i+1)*Al:=fun z Al h=>by
   rw [aY,ep,yaQ];exact apq h aT
  rw [<-nR] at key;by_cases fK:d-dm<0
  ·obtain ⟨q1,q2,q3,q4,q5⟩:=s1 fK;have kk:=key _ _ q5;obtain ⟨dr,ig⟩:∃dr,d-dm=dr:=⟨_,rfl⟩;rw [ig] at fK kk q1 q2
   simp only [go_sem,ya,yi,Ee,H3,show (i:Int)<(n:Int) by omega,ev,wrap64 (n:=t*a) (by omega) (by omega),<-nR,wrap64 (n:=pr) (by omega) (by omega),eV,wrapN (n:=pre.length+i) (by omega),dd 1 0 (show pre.length+i<M by omega),yd,ey,eD _ _ _ (show (1000000000:Int)≠0 by decide),fq _ _ _ (show (1000000000:Int)≠0 by decide),fL,Dr,ig,wrap64 (n:=dr) (by omega) (by omega),wrap64 (n:=dq) (by omega) (by omega),fK,wrap64 (n:=dr+1000000000) (by omega) (by omega),wrap64 (n:=dq+1) (by omega) (by omega),bf,nK];refine ⟨_,k-1,rfl,by omega,i+1,dq+1,y.set i (dr+1000000000),?_,by omega,by simp [ly],Ri gy ⟨q1,q2⟩,⟨q3,q4⟩,kk⟩;rw [wrap64 (by omega) (by omega)];simp only [go_sem,ya,yb,aD,aM hw.pu,aQ _ hw.pu]<;>rfl
  ·obtain ⟨q2,q3,q4,q5⟩:=s2 fK;have kk:=key _ _ q5;obtain ⟨dr,ig⟩:∃dr,d-dm=dr:=⟨_,rfl⟩;rw [ig] at fK kk q2
   simp only [go_sem,ya,yi,Ee,H3,show (i:Int)<(n:Int) by omega,ev,wrap64 (n:=t*a) (by omega) (by omega),<-nR,wrap64 (n:=pr) (by omega) (by omega),eV,wrapN (n:=pre.length+i) (by omega),dd 1 0 (show pre.length+i<M by omega),yd,ey,eD _ _ _ (show (1000000000:Int)≠0 by decide),fq _ _ _ (show (1000000000:Int)≠0 by decide),fL,Dr,ig,wrap64 (n:=dr) (by omega) (by omega),wrap64 (n:=dq) (by omega) (by omega),fK,bf,nK];refine ⟨_,k-1,rfl,by omega,i+1,dq,y.set i dr,?_,by omega,by simp [ly],Ri gy ⟨by omega,q2⟩,⟨q3,q4⟩,kk⟩;rw [wrap64 (by omega) (by omega)];simp only [go_sem,ya,yb,aD,aM hw.pu,aQ _ hw.pu]<;>rfl
 ·right
  have:i=n:=by omega
  subst this;rw [yL (by omega)] at aT;simp only [go_sem,ya,Ee,H3,show ¬(i:Int)<(i:Int) by omega];exact ⟨_,_,rfl,by simp,_,bo,y,rfl,rfl,by simp only [go_sem,ya],by simp only [go_sem,ya],by simp only [go_sem,ya],by simp only [go_sem,ya],by simp only [go_sem,ya],by simp only [go_sem,ya],by simp only [go_sem,ya],by simp only [go_sem,ya],ly,gy,iO,aT⟩
def aps {b p z v c c' x X Y S:Int} (h2:z+b*c'=x+v+c) (h3:Y+p*c=S+X):(Y+p*(z-x))+p*b*c'=S+(X+p*v):=by grind
def apt {w:AV} {y0 vs pre post qs:List Int} {f:Int} (hw:bq w vs) {n M m:Nat} (lv:vs.length=n) (hM:M=pre.length+(n+1)+post.length) (Ks:M<=50000000000) (gv:dg vs) {t top:Int}:
  ∀k s,(∃(i:Nat) (c:Int) (y:List Int),bH [8,9,10,11,12,13,14,19,20] s=⟨[(8,.ak 0 0 1),(9,w),(10,aa n),(11,.ak 1 0 M),(12,.ak 2 0 m),(13,aa pre.length),(14,aa t),(19,aa c),(20,aa i)],H3 qs (pre++y++post) f,3,0⟩/\i+k=n/\y.length=n+1/\dg (y.take n)/\y.getD n 0=top/\(0<=c/\c<=1)/\
    sv y+1000000000^i*c=sv y0+sv (vs.take i))->
   ∃ex s',D P L (.loop [8,9,10,11,12,13,14,19,20] Ia) s=some (ex,s')/\∃tm c y,s'=⟨tm,H3 qs (pre++y++post) f,3,0⟩/\ex= .exit 6/\af tm 8= .ak 0 0 1/\af tm 9=w/\af tm 10=aa n/\af tm 11= .ak 1 0 M/\af tm 12= .ak 2 0 m/\af tm 13=aa pre.length/\af tm 14=aa t/\af tm 19=aa c/\y.length=n+1/\dg (y.take n)/\y.getD n 0=top/\(0<=c/\c<=1)/\
    sv y+1000000000^n*c=sv y0+sv vs:=by
 refine cC (I:=fun k s=>∃(i:Nat) (c:Int) (y:List Int),s=⟨[(8,.ak 0 0 1),(9,w),(10,aa n),(11,.ak 1 0 M),(12,.ak 2 0 m),(13,aa pre.length),(14,aa t),(19,aa c),(20,aa i)],H3 qs (pre++y++post) f,3,0⟩/\i+k=n/\y.length=n+1/\dg (y.take n)/\y.getD n 0=top/\(0<=c/\c<=1)/\
    sv y+1000000000^i*c=sv y0+sv (vs.take i))
  (Q:=fun ex s'=>∃tm c y,s'=⟨tm,H3 qs (pre++y++post) f,3,0⟩/\ex= .exit 6/\af tm 8= .ak 0 0 1/\af tm 9=w/\af tm 10=aa n/\af tm 11= .ak 1 0 M/\af tm 12= .ak 2 0 m/\af tm 13=aa pre.length/\af tm 14=aa t/\af tm 19=aa c/\y.length=n+1/\dg (y.take n)/\y.getD n 0=top/\(0<=c/\c<=1)/\
    sv y+1000000000^n*c=sv y0+sv vs) ?_
 rintro k s ⟨i,c,y,rfl,hk,ly,gy,nL,hc,aT⟩;by_cases hi:i<n
 ·left
  have qF:=gW gv i;have pD:=gW gy i;have e0:(y.take n).getD i 0=y.getD i 0:=by
   simp [xM,hi]
  rw [e0] at pD;have ev:=pU hw (i:=i) (by omega);have ey:=rn (l:=pre++y++post) (o:=pre.length+i) (by rw [nE];omega);rw [AW (by omega)] at ey;have ep:=L5 (l:=vs) i;obtain ⟨a,ha⟩:∃a,a=vs.getD i 0:=⟨_,rfl⟩;obtain ⟨d,hd⟩:∃d,d=y.getD i 0:=⟨_,rfl⟩;rw [<-ha] at qF ev ep;rw [<-hd] at pD ey;have eV:(i:Int)+(pre.length:Int)=((pre.length+i:Nat):Int):=by omega
  have aY:=fun z=>En (l:=y) (i:=i) (x:=z) (by omega)
  rw [<-hd] at aY;have p9:(d+a+c).tmod 1000000000=(d+a+c)%1000000000:=xm (by omega);have hdiv:(d+a+c).tdiv 1000000000=(d+a+c)/1000000000:=xK (by omega);obtain ⟨z,hz⟩:∃z,z=(d+a+c)%1000000000:=⟨_,rfl⟩;obtain ⟨c',nl⟩:∃z,z=(d+a+c)/1000000000:=⟨_,rfl⟩;have Ul:z+1000000000*c'=d+a+c:=by omega
  rw [<-hz] at p9;rw [<-nl] at hdiv;have bf:=fun (hp:Hp) (ct:Nat)=>B0 (hp:=hp) (ct:=ct) (id:=1) (v:=z) (ex:=false) (l:=pre++y++post) (o:=pre.length+i) (by rw [nE];omega)
  have nK:=Mk (pre:=pre) (x:=y) (post:=post) (i:=i) z (by omega)
  simp only [go_sem,ya,yi,Ia,H3,show (i:Int)<(n:Int) by omega,ev,eV,wrapN (n:=pre.length+i) (by omega),dd 1 0 (show pre.length+i<M by omega),yd,ey,wrap64 (n:=d+a) (by omega) (by omega),wrap64 (n:=d+a+c) (by omega) (by omega),eD _ _ _ (show (1000000000:Int)≠0 by decide),fq _ _ _ (show (1000000000:Int)≠0 by decide),p9,hdiv,wrap64 (n:=c') (by omega) (by omega),bf,nK];refine ⟨_,k-1,rfl,by omega,i+1,c',y.set i z,?_,by omega,by simp [ly],?_,by rw [ac3 (by omega)];exact nL,⟨by omega,by omega⟩,?_⟩
  ·rw [wrap64 (by omega) (by omega)];simp only [go_sem,ya,yb,aD,aM hw.pu,aQ _ hw.pu]<;>rfl
  ·rw [tg];exact Ri gy ⟨by omega,by omega⟩
  ·rw [aY,ep,yaQ];exact aps Ul aT
 ·right
  have:i=n:=by omega
  subst this;rw [yL (show vs.length<=i by omega)] at aT;simp only [go_sem,ya,Ia,H3,show ¬(i:Int)<(i:Int) by omega];exact ⟨_,_,rfl,by simp,_,c,y,rfl,rfl,by simp only [go_sem,ya],by simp only [go_sem,ya],by simp only [go_sem,ya],by simp only [go_sem,ya],by simp only [go_sem,ya],by simp only [go_sem,ya],by simp only [go_sem,ya],by simp only [go_sem,ya],ly,gy,nL,hc,aT⟩
def apu {A V t:Nat} {y:List Int} {n:Nat} (hV:0<V) (ly:y.length=n+1) (gy:dg (y.take n)) (h:sv y=(A:Int)-t*V) (h1:A/V<=t) (h2:t<=A/V+1):
  (¬y.getD n 0<0->t=A/V/\sv y=((A%V:Nat):Int))/\(y.getD n 0<0->t=A/V+1/\sv y+V=((A%V:Nat):Int)):=by
 have fL:=Nat.div_add_mod A V;have hm:=xC A hV;have ep:=L5 (l:=y) n;rw [yL (by omega),zn gy] at ep;have Jp:=jx gy;have hp:(0:Int)<1000000000^n:=ybN (by decide);generalize y.getD n 0=top at*
 generalize A/V=Q at*
 have hq:t=Q\/t=Q+1:=by omega
 constructor
 ·intro h0;have h3:0<=(1000000000:Int)^n*top:=vW (uC hp) (by omega);rcases hq with rfl | rfl
  ·grind
  ·grind
 ·intro h0;have h3:(1000000000:Int)^n*top<=-(1000000000^n):=by
   have:=vG (show top<=-1 by omega) (uC hp)
   grind
  rcases hq with rfl | rfl
  ·grind
  ·grind
def aaf {y:List Int} {n:Nat} (ly:y.length=n+1) (gy:dg (y.take n)) (h0:0<=sv y) (h1:sv y<1000000000^n):y.getD n 0=0/\dg y/\sv y=dv y:=by
 have ep:=L5 (l:=y) n;rw [yL (by omega),zn gy] at ep;have Jp:=jx gy;rw [yT,wE (by omega)] at Jp;have hp:(0:Int)<1000000000^n:=ybN (by decide);have EC:((1000000000^n:Nat):Int)=(1000000000:Int)^n:=by simp
 have azy:(dv (y.take n):Int)<1000000000^n:=by omega
 have ht:y.getD n 0=0:=by
  generalize y.getD n 0=top at*
  rcases Int.lt_trichotomy top 0 with h | h | h
  ·have:=vG (show top<=-1 by omega) (uC hp)
   grind
  ·grind
  ·have:=vG (show 1<=top by omega) (uC hp)
   grind
 have hg:dg y:=by
  have e:y=y.take n++[0]:=by
   have h1:y=y.take n++y.drop n:=(xP n y).symm;have h2:y.drop n=[0]:=by
    rw [yO (by omega),xj (by omega)]
    grind
   grind
  rw [e];exact gV.2 ⟨gy,jO.2 ⟨by decide,by decide⟩⟩
 exact ⟨ht,hg,zn hg⟩
end
end
section
open Go (IntKind)
def apv {l:List Int} {i:Nat} (h:i<l.length):dv (l.drop i)=(l.getD i 0).toNat+1000000000*dv (l.drop (i+1)):=by
 rw [yO h]
 have:l[i]=l.getD i 0:=by simp_all
 rw [this];rfl
def QQ (l:List Int) (i:Nat) (h:i<=l.length):dv l=dv (l.take i)+1000000000^i*dv (l.drop i):=by
 conv=>lhs;rw [<-xP i l]
 rw [mJ,yT,wE h]
def apw {sx sy sV:Int} {p:Int} {bo t:Int} {yn z:Int} {szy:Int} (h1:sy+t*sV=sx+p*bo) (h2:szy=sy+p*(z-yn)) (h3:z=yn-bo):szy=sx-t*sV:=by grind
section
variable {P:aK} {L:Lib}
def apx (qc:Has P L 301 zB) {w:AV} {vs:List Int} {f:Int} (hw:bq w vs) (gv:dg vs) {n M m:Nat} (lv:vs.length=n) (ew:2<=n) (hnM:n<M) (Ks:M<=20000000000) (hm:m=M-n) (er:0<vs.getD (n-1) 0) {U0:Nat}:
  ∀k st,(∃(j:Nat) (us qs:List Int),bH [8,9,10,11,12,13] st=⟨[(8,.ak 0 0 1),(9,w),(10,aa n),(11,.ak 1 0 M),(12,.ak 2 0 m),(13,aa ((j:Int)-1))],H3 qs us f,3,0⟩/\j=k/\j<=m/\us.length=M/\qs.length=m/\dg us/\dg qs/\(∀i,i<j->qs.getD i 0=0)/\
    dv us+dv qs*dv vs=U0/\dv (us.drop j)<dv vs)->
   ∃ex st',D P L (.loop [8,9,10,11,12,13] Ib) st=some (ex,st')/\∃tm us qs,st'=⟨tm,H3 qs us f,3,0⟩/\ex= .exit 2/\af tm 8= .ak 0 0 1/\af tm 10=aa n/\af tm 11= .ak 1 0 M/\af tm 12= .ak 2 0 m/\us.length=M/\qs.length=m/\dg us/\dg qs/\
    dv us+dv qs*dv vs=U0/\dv us<dv vs:=by
 refine cC (I:=fun k st=>∃(j:Nat) (us qs:List Int),st=⟨[(8,.ak 0 0 1),(9,w),(10,aa n),(11,.ak 1 0 M),(12,.ak 2 0 m),(13,aa ((j:Int)-1))],H3 qs us f,3,0⟩/\j=k/\j<=m/\us.length=M/\qs.length=m/\dg us/\dg qs/\(∀i,i<j->qs.getD i 0=0)/\
    dv us+dv qs*dv vs=U0/\dv (us.drop j)<dv vs)
  (Q:=fun ex st'=>∃tm us qs,st'=⟨tm,H3 qs us f,3,0⟩/\ex= .exit 2/\af tm 8= .ak 0 0 1/\af tm 10=aa n/\af tm 11= .ak 1 0 M/\af tm 12= .ak 2 0 m/\us.length=M/\qs.length=m/\dg us/\dg qs/\
    dv us+dv qs*dv vs=U0/\dv us<dv vs) ?_
 rintro k st ⟨j,us,qs,rfl,rfl,hj,lu,lq,gu,gq,hz,aT,nL⟩
 cases j with
 | zero=>
  right
  simp only [go_sem,ya,Ib,H3,show ¬(0:Int)<=((0:Nat):Int)-1 by omega];exact ⟨_,_,rfl,by simp,_,us,qs,rfl,rfl,by simp only [go_sem,ya],by simp only [go_sem,ya],by simp only [go_sem,ya],by simp only [go_sem,ya],lu,lq,gu,gq,aT,by simpa using nL⟩
 | succ j=>
  left
  obtain ⟨pre,eV⟩:∃p,p=us.take j:=⟨_,rfl⟩;obtain ⟨x,hx⟩:∃p,p=(us.drop j).take (n+1):=⟨_,rfl⟩;obtain ⟨post,gA⟩:∃p,p=us.drop (j+(n+1)):=⟨_,rfl⟩;have lp:pre.length=j:=by rw [eV,yT];omega
  have lx:x.length=n+1:=by rw [hx,yT,wu];omega
  have lpo:M=pre.length+(n+1)+post.length:=by rw [lp,gA,wu];omega
  have jQ:us=pre++x++post:=by
   rw [eV,hx,gA,<-vC,xu,xP,xP]
  have gpo:dg post:=by
   have:=gu;rw [jQ] at this;exact (gV.1 this).2
  have gpx:=by have:=gu;rw [jQ] at this;exact (gV.1 this).1
  have gx:dg x:=(gV.1 gpx).2;have Th:dg pre:=(gV.1 gpx).1;have hA:=apv (l:=us) (i:=j) (by omega);have hgj:=gW gu j;have FG:us.drop j=x++post:=by rw [gA,hx,<-vC,xP]
  have Am:dv (us.drop j)=dv x+1000000000^(n+1)*dv post:=by rw [FG,mJ,lx]
  have Kd:=jx gv;rw [lv] at Kd;have bi:dv (us.drop j)<1000000000*dv vs:=by omega
  have hp0:dv post=0:=by
   rcases xr (dv post) with e | e
   ·exact e
   ·have h1:=yS (1000000000^(n+1)) e;rw [yi,xg] at h1;rw [xg] at Am;omega
  rw [hp0,xJ,yX] at Am;have Ku:=fun (l:List Int) (hl:dg l) (i:Nat)=>gW hl i
  obtain ⟨v1,eT⟩:∃v:Nat,vs.getD (n-1) 0=v:=⟨(vs.getD (n-1) 0).toNat,by have:=Ku vs gv (n-1);omega⟩;obtain ⟨v2,pz⟩:∃v:Nat,vs.getD (n-2) 0=v:=⟨(vs.getD (n-2) 0).toNat,by have:=Ku vs gv (n-2);omega⟩;obtain ⟨u0,BR⟩:∃v:Nat,x.getD n 0=v:=⟨(x.getD n 0).toNat,by have:=Ku x gx n;omega⟩;obtain ⟨u1,BS⟩:∃v:Nat,x.getD (n-1) 0=v:=⟨(x.getD (n-1) 0).toNat,by have:=Ku x gx (n-1);omega⟩;obtain ⟨u2,sr⟩:∃v:Nat,x.getD (n-2) 0=v:=⟨(x.getD (n-2) 0).toNat,by have:=Ku x gx (n-2);omega⟩;have hl:fS x vs n v1 v2 u0 u1 u2:=⟨ew,by omega,lx,lv,gx,gv,eT,pz,BR,BS,sr,by omega,by rw [<-Am];exact bi⟩
  have NM:=hl.digit;have qC:0<dv vs:=by omega
  have p9:=xC (dv x) qC;obtain ⟨t,e1,On,UH,ht3⟩:=atv (P:=P) (L:=L) qc hw hl (pre:=pre) (post:=post) (qs:=qs) (f:=f) (M:=M) (by omega) (by omega);rw [<-jQ,lp] at e1;have Vx:dv us=dv pre+1000000000^j*dv x:=by
   have:=QQ us j (by omega)
   rw [Am,<-eV] at this;exact this
  have Ti:∀y,dv (pre++y++post)=dv pre+1000000000^j*dv y:=fun y=>by
   rw [xu,mJ,mJ,hp0,xJ,yX,lp]
  have lF:=Y5 (b:=0) Vx aT;have ss:below 3 w:=lV hw.pu;have aY:=En (l:=qs) (i:=j) (x:=((dv x/dv vs:Nat):Int)) (by omega);have gq':dg (qs.set j ((dv x/dv vs:Nat):Int)):=Mb gq ⟨Int.natCast_nonneg _,Int.ofNat_lt.2 NM⟩;rw [hz j (by omega),Int.sub_zero,zn gq,zn gq'] at aY;have aY:dv (qs.set j ((dv x/dv vs:Nat):Int))=dv qs+1000000000^j*(dv x/dv vs):=by
   have EC:((1000000000^j*(dv x/dv vs):Nat):Int)=(1000000000:Int)^j*((dv x/dv vs:Nat):Int):=by rw [Int.natCast_mul];simp
   rw [<-EC] at aY;exact yae (by rw [tX,tX,aY,Int.natCast_add])
  have fin:∀(s':St) (x':List Int),bH [8,9,10,11,12,13] s'=⟨[(8,.ak 0 0 1),(9,w),(10,aa n),(11,.ak 1 0 M),(12,.ak 2 0 m),(13,aa ((j:Int)-1))],H3 (qs.set j ((dv x/dv vs:Nat):Int)) (pre++x'++post) f,3,0⟩->x'.length=n+1->dg x'->sv x'=((dv x%dv vs:Nat):Int)->
    ∃(j':Nat) (us qs:List Int),bH [8,9,10,11,12,13] s'=⟨[(8,.ak 0 0 1),(9,w),(10,aa n),(11,.ak 1 0 M),(12,.ak 2 0 m),(13,aa ((j':Int)-1))],H3 qs us f,3,0⟩/\j'=j/\j'<=m/\us.length=M/\qs.length=m/\dg us/\dg qs/\(∀i,i<j'->qs.getD i 0=0)/\dv us+dv qs*dv vs=U0/\dv (us.drop j')<dv vs:=fun s' x' hc Vw O3 Kg=>by
   have afK:dv x'=dv x%dv vs:=by rw [zn O3] at Kg;exact yae Kg
   refine ⟨j,_,_,hc,rfl,by omega,by rw [nE,Vw];omega,by simp [lq],gV.2 ⟨gV.2 ⟨Th,O3⟩,gpo⟩,gq',fun i hi=>by rw [ac3 (by omega)];exact hz i (by omega),?_,?_⟩
   ·rw [Ti,afK,aY];exact lF
   ·rw [xu,List.drop_left' lp,mJ,hp0,xJ,yX,afK];exact p9
  have afL:=fun (z:Int) (hp:Hp) (ct:Nat)=>B0 (hp:=hp) (ct:=ct) (id:=2) (v:=z) (ex:=true) (l:=qs) (o:=j) (by omega)
  have svx:=zn gx;have svv:=zn gv;simp only [H3] at e1;simp only [go_sem,ya,Ib,H3,show ((j+1:Nat):Int)-1=(j:Int) by omega,show (0:Int)<=(j:Int) by omega,aeA,e1];generalize mI:D P L (.loop [8,9,10,11,12,13,14,15,16] Ee) _=qq;obtain ⟨ex,s,rfl,tm,bo,y,rfl,rfl,t8,t9,t10,t11,t12,t13,t14,t15,ly,gy,iO,hv⟩:=cd mI (apr (P:=P) (L:=L) (x:=x) (pre:=pre) (post:=post) (qs:=qs) (f:=f) (m:=m) (M:=M) hw lv lpo (by omega) gv (t:=t) (by omega) n) ⟨0,0,x,by
   rw [jQ,lp]
   simp only [go_sem,ya,yb,aD,aM hw.pu,aQ _ hw.pu]<;>rfl,by omega,lx,gx,by omega,by simp [sv]⟩
  rw [lp] at t13;have hyn:=gW gy n;have We:=rn (l:=pre++y++post) (o:=pre.length+n) (by rw [nE];omega);rw [AW (by omega),lp] at We;obtain ⟨z,Wf⟩:∃z,z=y.getD n 0-bo:=⟨_,rfl⟩;have Bc:=fun (hp:Hp) (ct:Nat)=>B0 (hp:=hp) (ct:=ct) (id:=1) (v:=z) (ex:=false) (l:=pre++y++post) (o:=j+n) (by rw [nE];omega)
  have nK:=Mk (pre:=pre) (x:=y) (post:=post) (i:=n) z (by omega);rw [lp] at nK;rw [nK] at Bc;have lM:=En (l:=y) (i:=n) (x:=z) (by omega);have MZ:=apw hv lM Wf;have BQ:(y.set n z).length=n+1:=by simp [ly]
  have Dn:dg ((y.set n z).take n):=by
   have:(y.set n z).take n=y.take n:=by rw [tg,uZ (by simp;omega)]
   rw [this];exact Ch gy n
  rw [svx,svv] at MZ;obtain ⟨s0,s1⟩:=apu qC BQ Dn MZ UH ht3;have eg:(y.set n z).getD n 0=z:=akX (by omega);rw [eg] at s0 s1;have Wg:=rn (l:=pre++y.set n z++post) (o:=pre.length+n) (by rw [nE];omega);rw [AW (by omega),lp,eg] at Wg;generalize y.set n z=y1 at*
  have hpn:((10^9:Int))=1000000000:=by decide
  by_cases fK:z<0
  ·obtain ⟨f1,f2⟩:=s1 fK
   simp only [go_sem,ya,yb,yi,aD,aM hw.pu,aQ _ hw.pu,t8,t9,t10,t11,t12,t13,t14,t15,show (j:Int)+(n:Int)=((j+n:Nat):Int) from rfl,wrapN (n:=j+n) (by omega),dd 1 0 (show j+n<M by omega),yd,We,<-Wf,wrap64 (n:=z) (by omega) (by omega),Bc,Wg,fK];generalize CZ:D P L (.loop [8,9,10,11,12,13,14,19,20] Ia) _=Vq;obtain ⟨ex,s,rfl,nQ,c,y2,rfl,rfl,t8,t9,t10,t11,t12,t13,t14,t19,Vt,O1,aeG,hc,cZ⟩:=cd CZ (apt (P:=P) (L:=L) (y0:=y1) (pre:=pre) (post:=post) (qs:=qs) (f:=f) (m:=m) (M:=M) (t:=(t:Int)-1) (top:=z) hw lv lpo (by omega) gv n) ⟨0,0,y1,by
    rw [lp,wrap64 (n:=(t:Int)-1) (by omega) (by omega)]
    simp only [go_sem,ya,yb,aD,aM hw.pu,aQ _ hw.pu]<;>rfl,by omega,BQ,Dn,eg,by omega,by simp [sv]⟩
   rw [lp] at t13;have afM:=rn (l:=pre++y2++post) (o:=pre.length+n) (by rw [nE];omega);rw [AW (by omega),lp,aeG] at afM;have NK:=fun (hp:Hp) (ct:Nat)=>B0 (hp:=hp) (ct:=ct) (id:=1) (v:=z+c) (ex:=false) (l:=pre++y2++post) (o:=j+n) (by rw [nE];omega)
   have ML:=Mk (pre:=pre) (x:=y2) (post:=post) (i:=n) (z+c) (by omega);rw [lp] at ML;rw [ML] at NK;have z7:=En (l:=y2) (i:=n) (x:=z+c) (by omega);rw [aeG,show z+c-z=c by omega,cZ,svv,f2] at z7;have Ke:(y2.set n (z+c)).length=n+1:=by simp [Vt]
   have O2:dg ((y2.set n (z+c)).take n):=by
    have:(y2.set n (z+c)).take n=y2.take n:=by rw [tg,uZ (by simp;omega)]
    rw [this];exact O1
   have Wh:((dv x%dv vs:Nat):Int)<1000000000^n:=by
    have EC:((1000000000^n:Nat):Int)=(1000000000:Int)^n:=by simp
    rw [<-EC];omega
   obtain ⟨g1,g2,g3⟩:=aaf Ke O2 (by rw [z7];omega) (by rw [z7];exact Wh)
   generalize y2.set n (z+c)=y3 at*
   have ft:(t:Int)-1=((dv x/dv vs:Nat):Int):=by rw [f1];omega
   simp only [go_sem,ya,yb,yi,aD,aM hw.pu,aQ _ hw.pu,t8,t9,t10,t11,t12,t13,t14,t19,show (j:Int)+(n:Int)=((j+n:Nat):Int) from rfl,wrapN (n:=j+n) (by omega),dd 1 0 (show j+n<M by omega),yd,afM,wrap64 (n:=z+c) (by omega) (by omega),NK,dd 2 0 (show j<m by omega),afL];rw [ft];refine ⟨_,j,rfl,by omega,fin _ y3 ?_ Ke g2 z7⟩;rw [wrap64 (by omega) (by omega)];simp only [go_sem,ya,yb,aD,aM hw.pu,aQ _ hw.pu]<;>rfl
  ·obtain ⟨f1,f2⟩:=s0 fK;have Wh:((dv x%dv vs:Nat):Int)<1000000000^n:=by
    have EC:((1000000000^n:Nat):Int)=(1000000000:Int)^n:=by simp
    rw [<-EC];omega
   obtain ⟨g1,g2,g3⟩:=aaf BQ Dn (by rw [f2];omega) (by rw [f2];exact Wh)
   simp only [go_sem,ya,yb,yi,aD,aM hw.pu,aQ _ hw.pu,t8,t9,t10,t11,t12,t13,t14,t15,show (j:Int)+(n:Int)=((j+n:Nat):Int) from rfl,wrapN (n:=j+n) (by omega),dd 1 0 (show j+n<M by omega),yd,We,<-Wf,wrap64 (n:=z) (by omega) (by omega),Bc,Wg,fK,dd 2 0 (show j<m by omega),afL];rw [f1];refine ⟨_,j,rfl,by omega,fin _ y1 ?_ BQ g2 f2⟩;rw [wrap64 (by omega) (by omega)];simp only [go_sem,ya,yb,aD,aM hw.pu,aQ _ hw.pu]<;>rfl
end
end
section
open Go (IntKind)
section
variable {P:aK} {L:Lib}
def ar4 (h:Has P L 292 zA) {n:Nat} (hn:n<1000000000):ae P L 292 [aa n,aa 9] (.str (iv 9 n)):=by
 have key:=cC (P:=P) (L:=L) (live:=[0,1,5]) (a:=nB)
  (I:=fun k st=>∃(m:Nat) (s:List Nat),st=⟨[(0,aa m),(1,aa 9),(5,.str s)],[],0,0⟩/\s.length+k=9/\m<10^k/\iv 9 n=iv k m++s)
  (Q:=fun ex st=>∃tm ct,st=⟨tm,[],ct,0⟩/\ex= .exit 0/\af tm 5= .str (iv 9 n)) ?_
 ·unfold ae;rw [av h];simp only [go_sem,zA];generalize hq:D P L (.loop [0,1,5] nB) _=q;obtain ⟨ex,st,rfl,tm,ct,rfl,rfl,h2⟩:=cd hq (key 9) ⟨n,[],by simp only [go_sem,ya,aD]<;>rfl,rfl,by omega,by simp⟩
  simp only [go_sem,aD,h2]
 ·rintro k st ⟨m,s,rfl,hk,hm,hs⟩
  cases k with
  | zero=>
   right
   have VF:m=0:=by simpa using hm
   subst VF;simp only [go_sem,ya,nB,show ¬(0:Int)<((0:Nat):Int) by omega,show ¬((s.length:Nat):Int)<9 by omega];refine ⟨_,_,rfl,by simp,_,_,rfl,rfl,?_⟩;rw [hs];rfl
  | succ k=>
   left
   have hr:((m:Int)).tmod 10=((m%10:Nat):Int):=by rw [xm (by omega)];rfl
   have hq:((m:Int)).tdiv 10=((m/10:Nat):Int):=by rw [xK (by omega)];rfl
   have hd:=Ya (r:=m%10) (by omega);have JF:m<10000000000:=yH hm (by simpa using Nat.pow_le_pow_right (show 0<10 by decide) (show k+1<=10 by omega));have fin:∃s',D P L nB ⟨[(0,aa m),(1,aa 9),(5,.str s)],[],0,0⟩=some (.normal,s')/\bH [0,1,5] s'=⟨[(0,aa (m/10:Nat)),(1,aa 9),(5,.str ([48+m%10]++s))],[],0,0⟩:=by
    by_cases hc:(0:Int)<m
    ·simp only [go_sem,ya,yb,nB,hc,eD _ _ _ (show (10:Int)≠0 by decide),fq _ _ _ (show (10:Int)≠0 by decide),hr,hq,wrapN (n:=m%10+1) (by omega),wrap64 (n:=((m/10:Nat):Int)) (by omega) (by omega),eM,dO,show ((m%10:Nat):Int)+1=((m%10+1:Nat):Int) from rfl,hd,gl (a:=[48+m%10]) (b:=s) (by simp;omega)];exact ⟨_,rfl,by simp only [go_sem,ya,aD]⟩
    ·simp only [go_sem,ya,yb,nB,hc,show ((s.length:Nat):Int)<9 by omega,eD _ _ _ (show (10:Int)≠0 by decide),fq _ _ _ (show (10:Int)≠0 by decide),hr,hq,wrapN (n:=m%10+1) (by omega),wrap64 (n:=((m/10:Nat):Int)) (by omega) (by omega),eM,dO,show ((m%10:Nat):Int)+1=((m%10+1:Nat):Int) from rfl,hd,gl (a:=[48+m%10]) (b:=s) (by simp;omega)];exact ⟨_,rfl,by simp only [go_sem,ya,aD]⟩
   obtain ⟨s',f1,f2⟩:=fin;exact ⟨s',k,f1,by omega,m/10,_,f2,by simp;omega,by rw [xg] at hm;omega,by rw [hs];simp [iv]⟩
end
end
section
open Go (IntKind)
def last_pos {l:List Int} (hd:dg l) (hn:nz l) (h:0<l.length):0<l.getD (l.length-1) 0:=by
 rcases snoc l with rfl | ⟨m,a,rfl⟩
 ·grind
 ·have e:(m++[a]).getD ((m++[a]).length-1) 0=a:=by simp_all
  have ha:=jO.1 (gV.1 hd).2;by_cases h0:a=0
  ·subst h0
   have:=K7 m
   have e:=congrArg List.length hn;rw [Hb] at e
   grind
  ·omega
section
variable {P:aK} {L:Lib}
def ar5 (pZ:Has P L 292 zA) {neg:Bool} {w:AV} {l:List Int} (hw:bq w l) (hd:dg l) (hn:nz l) (hl:l.length<=20000000000):
  ∀k s,(∃(j:Nat) (t:List Nat),bH [1,3,4] s=⟨[(1,.ptr 0 0),(3,.str t),(4,aa ((j:Int)-1))],[(0,.cells true true true 2 [.bool neg,w])],1,0⟩/\j=k/\j<l.length/\0<dv (l.drop j)/\t=an (dv (l.drop j))/\t.length<=9*(l.length-j))->
   ∃ex s',D P L (.loop [1,3,4] H8) s=some (ex,s')/\∃tm,s'=⟨tm,[(0,.cells true true true 2 [.bool neg,w])],1,0⟩/\ex= .exit 0/\af tm 1= .ptr 0 0/\af tm 3= .str (an (dv l))/\(an (dv l)).length<=180000000000:=by
 refine cC (I:=fun k s=>∃(j:Nat) (t:List Nat),s=⟨[(1,.ptr 0 0),(3,.str t),(4,aa ((j:Int)-1))],[(0,.cells true true true 2 [.bool neg,w])],1,0⟩/\j=k/\j<l.length/\0<dv (l.drop j)/\t=an (dv (l.drop j))/\t.length<=9*(l.length-j))
  (Q:=fun ex s'=>∃tm,s'=⟨tm,[(0,.cells true true true 2 [.bool neg,w])],1,0⟩/\ex= .exit 0/\af tm 1= .ptr 0 0/\af tm 3= .str (an (dv l))/\(an (dv l)).length<=180000000000) ?_
 rintro k s ⟨j,t,rfl,rfl,hj,Bt,ht,V7⟩
 cases j with
 | zero=>
  right
  rw [yj] at ht;simp only [go_sem,ya,H8,show ¬(0:Int)<=((0:Nat):Int)-1 by omega];exact ⟨_,_,rfl,by simp,_,rfl,rfl,by simp only [go_sem,ya],by rw [<-ht];simp only [go_sem,ya],by rw [<-ht];omega⟩
 | succ i=>
  left
  have hi:i<l.length:=by omega
  obtain ⟨x,hx⟩:∃x,x=l.getD i 0:=⟨_,rfl⟩;have e1:=pU hw hi;have gx:=gW hd i;rw [<-hx] at e1 gx;obtain ⟨m,rfl⟩:∃m:Nat,x=m:=⟨x.toNat,by omega⟩;have e2:=ar4 pZ (n:=m) (by omega);unfold ae at e2;have hlp:=QJ 9 m;have ig:dv (l.drop i)=dv (l.drop (i+1))*10^9+m:=by
   have:l.drop i=(m:Int)::l.drop (i+1):=by
    rw [yO hi,hx];simp [xM,wh hi]
   rw [this];simp only [dv,wC];omega
  have avu:an (dv (l.drop i))=t++iv 9 m:=by
   rw [ig,Lv 9 _ m Bt (by omega),ht]
  simp only [go_sem,ya,H8,show ((i+1:Nat):Int)-1=(i:Int) by omega,show (0:Int)<=(i:Int) by omega,bg,yd,bY,e1,e2,gl (a:=t) (b:=iv 9 m) (by omega)];refine ⟨_,i,rfl,by omega,i,t++iv 9 m,?_,rfl,by omega,by omega,avu.symm,by simp;omega⟩;rw [wrap64 (by omega) (by omega)];simp only [go_sem,ya,yb,aD]<;>rfl
def afN (h:Has P L 282 IX) (pZ:Has P L 292 zA) {v:AV} {n:Int} {K:Nat} (hK:K<=18000000000) (hv:km v n) (hn:n.natAbs<1000000000^K):ae P L 282 [v] (.str (aW n))/\(aW n).length<=180000000001:=by
 obtain ⟨w,l,rfl,hw,hd,hz,pE⟩:=hv;have hl:=xi (iY hd hz (by rw [pE];exact hn)) hK
 by_cases h0:l=[]
 ·subst h0;have rW:n=0:=by simp [dv] at pE;omega
  subst rW;refine ⟨?_,by decide⟩;unfold ae;rw [av h];simp only [go_sem,ya,yb,IX,aH,hw.len,hw.pu,hw.one,bg,yd,bY,yF,show ((0:Nat):Int)=(0:Int) from rfl,yq];rfl
 ·have Bt:0<l.length:=uE.2 h0;obtain ⟨x,hx⟩:∃x,x=l.getD (l.length-1) 0:=⟨_,rfl⟩;have e1:=pU hw (show l.length-1<l.length by omega);have gx:=gW hd (l.length-1);have gp:=last_pos hd hz Bt;rw [<-hx] at e1 gx gp;obtain ⟨m,rfl⟩:∃m:Nat,x=m:=⟨x.toNat,by omega⟩;have e2:=Ta pZ (n:=m) (by omega);have ig:dv (l.drop (l.length-1))=m:=by
   rw [yO (show l.length-1<l.length by omega),xj (by omega)]
   have:l[l.length-1]=(m:Int):=by rw [hx];simp [xM,wh (show l.length-1<l.length by omega)]
   simp [dv,this]
  have h9:(an m).length<=9:=om (k:=8) (by omega);have fin:∀neg:Bool,bR P L (D P L) 282 [.agg [.bool neg,w]]=some (.str ((if neg=true then [45] else [])++an (dv l)))/\(an (dv l)).length<=180000000000:=fun neg=>by
   rw [av h]
   simp only [go_sem,ya,yb,IX,aH,hw.len,hw.pu,hw.one,bg,yd,bY,show ¬(l.length:Int)=0 by omega,show (l.length:Int)-1=((l.length-1:Nat):Int) by omega,wrapN (n:=l.length-1) (by omega),e1,e2];generalize hq:D P L (.loop [1,3,4] H8) _=q;obtain ⟨ex,s,rfl,tm,rfl,rfl,t1,t3,hlen⟩:=cd hq (ar5 (P:=P) (L:=L) pZ (neg:=neg) hw hd hz (by omega) (l.length-1)) ⟨l.length-1,an m,by
    rw [show (l.length:Int)-2=((l.length-1:Nat):Int)-1 by omega,wrap64 (by omega) (by omega)]
    simp only [go_sem,ya,yb,aD]<;>rfl,rfl,by omega,by rw [ig];omega,by rw [ig],by omega⟩
   refine ⟨?_,hlen⟩
   cases neg with
   | true=>
    simp only [go_sem,ya,aD,t1,t3,bg,yd,gl (a:=[45]) (b:=an (dv l)) (by simp;omega),y7]
   | false=>
    simp only [go_sem,ya,aD,t1,t3,bg,yd];rfl
  obtain ⟨f1,f2⟩:=fin (decide (n<0));rw [pE] at f1 f2;simp only [wN] at f1;rw [lW] at f1;refine ⟨f1,?_⟩;rw [<-lW]
  split<;>simp<;>omega
structure Rb (P:aK) (L:Lib):Prop where
 avv:Has P L 262 IT
 zF:Has P L 272 IW
 afO:Has P L 274 Nn
 afP:Has P L 275 No
 avw:Has P L 277 CR
 avx:Has P L 280 nI
 avy:Has P L 281 SS
 afQ:Has P L 282 IX
 afR:Has P L 288 Ns
 Jq:Has P L 289 rB
 zG:Has P L 290 ET
 Tb:Has P L 291 IZ
 pZ:Has P L 292 zA
 mC:Has P L 293 Bf
 jV:Has P L 294 Bg
 TJ:Has P L 295 I0
 nO:Has P L 296 rC
 afS:Has P L 298 Nt
 oV:Has P L 299 Bh
 cY:Has P L 300 lG
 nc:Has P L 302 rD
structure Ras (P:aK) (L:Lib):Prop extends Rb P L where
 afT:Has P L 264 IU
 avz:Has P L 268 IV
 avA:Has P L 271 SR
 avB:Has P L 276 oP
 TN:Has P L 278 Np
 avC:Has P L 279 ES
 NU:Has P L 297 I1
end
end
section
open Go (IntKind)
section
variable {P:aK} {L:Lib}
def apy {v w:AV} {a vs:List Int} {f:Int} (hv:bq v a) (hw:bq w vs) {n:Nat} (la:a.length<=9000000000) {A:Nat}:
  ∀k st,(∃us:List Int,bH [0,8,9,10,11] st=⟨[(0,v),(8,.ak 0 0 1),(9,w),(10,aa n),(11,.ak 1 0 us.length)],[(1,.cells true true false 1 (us.map aa)),(0,.cells false true true 1 [aa f])],2,0⟩/\us.length+k=a.length+1/\dg us/\dv us=A)->
   ∃ex st',D P L (.loop [0,8,9,10,11] H9) st=some (ex,st')/\∃tm us,st'=⟨tm,[(1,.cells true true false 1 (us.map aa)),(0,.cells false true true 1 [aa f])],2,0⟩/\ex= .exit 0/\af tm 8= .ak 0 0 1/\af tm 9=w/\af tm 10=aa n/\af tm 11= .ak 1 0 (a.length+1)/\us.length=a.length+1/\dg us/\dv us=A:=by
 refine cC (I:=fun k st=>∃us:List Int,st=⟨[(0,v),(8,.ak 0 0 1),(9,w),(10,aa n),(11,.ak 1 0 us.length)],[(1,.cells true true false 1 (us.map aa)),(0,.cells false true true 1 [aa f])],2,0⟩/\us.length+k=a.length+1/\dg us/\dv us=A)
  (Q:=fun ex st'=>∃tm us,st'=⟨tm,[(1,.cells true true false 1 (us.map aa)),(0,.cells false true true 1 [aa f])],2,0⟩/\ex= .exit 0/\af tm 8= .ak 0 0 1/\af tm 9=w/\af tm 10=aa n/\af tm 11= .ak 1 0 (a.length+1)/\us.length=a.length+1/\dg us/\dv us=A) ?_
 rintro k st ⟨us,rfl,hk,gu,aT⟩;have ea:((a.length:Nat):Int)+1=((a.length+1:Nat):Int):=rfl;by_cases hi:us.length<a.length+1
 ·left
  simp only [go_sem,ya,yb,yg,yi,H9,hv.len,ea,wrapN (n:=a.length+1) (by omega),show ((us.length:Nat):Int)<((a.length+1:Nat):Int) by omega]
  rw [lk (ex:=false) (pu:=true) (cs:=us.map aa) (by simp only [go_sem,ya]) (by simp) (by omega) (by omega) (by decide) (by simp only [go_sem])];refine ⟨_,k-1,rfl,by omega,us++[0],?_,by simp;omega,gV.2 ⟨gu,jO.2 (by decide)⟩,by rw [mJ];simp [dv,aT]⟩;rw [xq,yQ];simp only [go_sem,ya,yb,aD,aM hv.pu,aQ _ hv.pu,aM hw.pu,aQ _ hw.pu]<;>rfl
 ·right
  have hl:us.length=a.length+1:=by omega
  rw [hl]
  simp only [go_sem,ya,H9,hv.len,ea,wrapN (n:=a.length+1) (by omega),show ¬((a.length+1:Nat):Int)<((a.length+1:Nat):Int) by omega];exact ⟨_,_,rfl,by simp,_,us,rfl,rfl,by simp only [go_sem,ya],by simp only [go_sem,ya],by simp only [go_sem,ya],by simp only [go_sem,ya],hl,gu,aT⟩
end
def ac4:∀l:List Int,bQ (l.map aa)=true
 | []=>rfl
 | a::r=>by rw [y9,YX,ac4 r];rfl
def ac5:∀l:List Int,aJ (l.map aa)=true
 | []=>rfl
 | a::r=>by rw [y9,aJ,ac5 r];rfl
def apz {hp:Hp} {ct:Nat} {e:Bool} {us:List Int} {o:Obj} (h:us.length<=100000000000):
  CT ((1,.cells true true true 1 [])::(0,o)::hp) ct 1 8 (.ak 1 0 0) (pM ((1,.cells true true true 1 [])::(0,o)::hp) 1 (.aE e us.length (us.map aa)))=some (.ak ct 0 us.length,(ct,.cells true true false 1 (us.map aa))::dz ((1,.cells true true true 1 [])::(0,o)::hp) 1,ct+1):=by
 have h1:pM ((1,.cells true true true 1 [])::(0,o)::hp) 1 (.aE e us.length (us.map aa))=some (us.length,us.map aa):=by
  simp [pM]
 rw [h1,lk (cs:=[]) (pu:=true) (ex:=true) rfl (by simp) (by omega) (by omega) (by decide) (ac4 us),ac5,yd];rfl
def ar6 {l:List Int} (hd:dg l) (hn:nz l) (h:0<l.length):1000000000^(l.length-1)<=dv l:=ME hn hd (fun e=>by subst e;simp at h)
def anh {n top f V:Nat} (hf:f=1000000000/(top+1)) (Wc:0<top) (ht:top<1000000000) (h1:V<1000000000^(n-1)*(top+1)) (hn:0<n):0<f/\f<1000000000/\V*f<1000000000^n:=by
 have h2:f*(top+1)<=1000000000:=by rw [hf];exact Nat.div_mul_le_self _ _
 have h3:0<f:=by rw [hf];exact Nat.div_pos (by omega) (by omega)
 refine ⟨h3,?_,?_⟩
 ·have:=yS f (show 2<=top+1 by omega)
  omega
 ·have e1:=wH h1 h3;have e2:=yS (1000000000^(n-1)) h2;rw [<-xg,show (n-1).succ=n by omega] at e2
  grind
section
variable {P:aK} {L:Lib}
def ar7 (h:Has P L 289 rB) (mC:Has P L 293 Bf) (oV:Has P L 299 Bh) (cY:Has P L 300 lG) (qc:Has P L 301 zB) {v w:AV} {a b:List Int} (hv:bq v a) (hw:bq w b) (ha:dg a) (hb:dg b) (na:nz a) (nb:nz b) (la:a.length<=8000000000) (lb:2<=b.length) (ec:ae P L 296 [v,w] (aa (dX (dv a) (dv b)))) (hc:dv b<=dv a):
  ∃q r lq lr,ae P L 289 [v,w] (.aq [q,r])/\bq q lq/\bq r lr/\dg lq/\nz lq/\dg lr/\nz lr/\dv lq=dv a/dv b/\dv lr=dv a%dv b:=by
 have ez:¬dX (dv a) (dv b)<0:=by unfold dX;rw [yz (by omega)];split<;>decide
 have atw:=ar6 hb nb (by omega);have hba:b.length<=a.length:=by
  have:=jx ha
  have h1:1000000000^(b.length-1)<1000000000^a.length:=by omega
  have:=(th (show 1<1000000000 by decide)).1 h1
  omega
 obtain ⟨n,hn⟩:∃n,n=b.length:=⟨_,rfl⟩;have avD:=gW hb (n-1);have A6:=last_pos hb nb (by omega);rw [<-hn] at A6;obtain ⟨top,nL⟩:∃v:Nat,b.getD (n-1) 0=v:=⟨(b.getD (n-1) 0).toNat,by omega⟩;have afU:=pU hw (i:=n-1) (by omega);rw [nL] at avD A6 afU;have hbt:=oz (l:=b) (n-1);rw [show n-1+1=n by omega,yL (by omega),nL,wC] at hbt;have atx:=jx (Ch hb (n-1));rw [yT,wE (by omega)] at atx;obtain ⟨f,hf⟩:∃f,f=1000000000/(top+1):=⟨_,rfl⟩;obtain ⟨B1,hfB,hfV⟩:=anh (n:=n) (V:=dv b) hf (by omega) (by omega) (by rw [xD,yi];omega) (by omega);have hIf:bq (.aE true 1 [aa f]) [(f:Int)]:=fN true [(f:Int)];have gf:dg [(f:Int)]:=jO.2 (by omega);have vf:dv [(f:Int)]=f:=by simp [dv]
 obtain ⟨v',vs,e1,eF,hsv,Dq,Kh,su⟩:=TH mC cY hw hIf hb gf (by omega) (by simp);obtain ⟨u',B2,e2,iP,Dl,FH,nus,Kv⟩:=TH mC cY hv hIf ha gf (by omega) (by simp);rw [vf] at su Kv;have qC:0<dv b:=by have:=Nat.pow_pos (n:=b.length-1) (show 0<1000000000 by decide);omega
 have An:vs.length=n:=by
  have h1:vs.length<=n:=iY Dq Kh (by rw [su];exact hfV)
  have h2:dv b<=dv vs:=by rw [su];exact Nat.le_mul_of_pos_right _ B1
  have h3:=jx Dq;have h4:1000000000^(n-1)<1000000000^vs.length:=by rw [hn];omega
  have:=(th (show 1<1000000000 by decide)).1 h4
  omega
 have O4:B2.length<=a.length+1:=by
  refine iY FH nus ?_;rw [Kv,xg];exact Nat.mul_lt_mul'' (jx ha) hfB
 have afV:0<B2.length:=by
  rcases xr B2.length with e | e
  ·have h1:0<dv a*f:=yaK (by omega) B1;rw [yN e] at Kv;simp only [dv] at Kv;omega
  ·exact e
 have er:0<vs.getD (n-1) 0:=by
  have:=last_pos Dq Kh (by omega)
  rwa [An] at this
 obtain ⟨m,hm⟩:∃m,m=a.length+1-n:=⟨_,rfl⟩;have cQ:∀ct:Nat,zE ct 1 8 [.int .i64 0] (some m) (some m)=some (.ak ct 0 m,.cells true true true 1 ((yA m (0:Int)).map aa)):=fun ct=>by
  rw [Ek (sz:=1) (by omega) (by omega) (by rfl) (by rfl),PW];rfl
 obtain ⟨e,rfl⟩:∃e,u'= .aE e B2.length (B2.map aa):=by
  rcases iP with ⟨rfl,h0⟩ | ⟨e,rfl⟩
  ·rw [List.map_eq_nil_iff] at h0;rw [h0] at afV;simp at afV
  ·exact ⟨e,by rw [xx]⟩
 have Sk:∀us:List Int,us.length=a.length+1->dv us=dv a*f->dv (us.drop m)<dv vs:=fun us hl hd=>by
  have e1:=QQ us m (by omega);have e2:=jx ha;have e3:=wH e2 B1;have e4:1000000000^a.length=1000000000^m*1000000000^(n-1):=by rw [<-Nat.pow_add];congr 1;omega
  rw [<-hd,e4,xk] at e3;have e5:1000000000^m*dv (us.drop m)<1000000000^m*(1000000000^(n-1)*f):=by omega
  refine yH (Nat.lt_of_mul_lt_mul_left e5) ?_;rw [su,hn];exact Nat.mul_le_mul_right _ atw
 have iL:∃us qs,(us.length=a.length+1/\qs.length=m/\dg us/\dg qs/\dv us+dv qs*dv vs=dv a*f/\dv us<dv vs)/\
   ∃q1 r1 lr,bq q1 (dZ qs)/\bq r1 lr/\dg lr/\nz lr/\dv lr=dv (us.take n)/f/\ae P L 289 [v,w] (.aq [q1,r1]):=by
  unfold ae at ec e1 e2;unfold ae;rw [av h];have Ji:IntKind.wrap .i64 ((1000000000:Int).tdiv ((top+1:Nat):Int))=(f:Int):=by
   rw [xK (by decide),show (1000000000:Int)/((top+1:Nat):Int)=((1000000000/(top+1):Nat):Int) from rfl,<-hf,wrap64 (by omega) (by omega)]
  simp only [go_sem,ya,yb,yy,yg,yi,rB,hv.ai,hw.len,hw.ai,ec,ez,show ¬(n:Int)=1 by omega,<-hn,show (n:Int)-1=((n-1:Nat):Int) by omega,wrapN (n:=n-1) (by omega),afU,show ((top:Nat):Int)+1=((top+1:Nat):Int) from rfl,wrapN (n:=top+1) (by omega),fq _ _ _ (show ((top+1:Nat):Int)≠0 by omega),Ji,e1,hsv,eF.len,An,e2,Dl,apz (us:=B2) (e:=e) (by omega)];generalize Ah:D P L (.loop [0,8,9,10,11] H9) _=q0;obtain ⟨ex,st,rfl,tm,us,rfl,rfl,t8,t9,t10,t11,lu,gu,vu⟩:=cd Ah (apy (P:=P) (L:=L) (f:=(f:Int)) (n:=n) (A:=dv a*f) hv eF (by omega) (a.length+1-B2.length)) ⟨B2,by
   simp only [go_sem,ya,yb,aD,aM hv.pu,aQ _ hv.pu,aM eF.pu,aQ _ eF.pu]<;>rfl,by omega,FH,Kv⟩
  have em:((a.length+1:Nat):Int)-(n:Int)=(m:Int):=by omega
  have em1:(m:Int)-1=((m-1:Nat):Int):=by omega
  simp only [go_sem,ya,yb,aD,aM eF.pu,aQ _ eF.pu,t8,t9,t10,t11,em,wrapN (n:=m) (by omega),cQ,em1,wrapN (n:=m-1) (by omega)];generalize eG:D P L (.loop [8,9,10,11,12,13] Ib) _=q1;obtain ⟨ex,st,rfl,nQ,B3,qs,rfl,rfl,t8,t10,t11,t12,lu1,Kl,gu1,gq1,aT,bi⟩:=cd eG (apx (P:=P) (L:=L) qc (f:=(f:Int)) eF Dq An (by omega) (show n<a.length+1 by omega) (by omega) (by omega) er (U0:=dv a*f) m) ⟨m,us,yA m 0,by
   rw [show ((m-1:Nat):Int)=(m:Int)-1 by omega]
   simp only [go_sem,ya,yb,aD,aM eF.pu,aQ _ eF.pu]<;>rfl,rfl,yD _,lu,by simp,gu,ZT m,fun i _=>Yl m i,by rw [ZS,Nat.zero_mul,yX,vu],Sk us lu vu⟩
  have lI:∀(hp:Hp) tm (y:X),ap hp 1=some (.cells true true false 1 (B3.map aa))->cV tm (a.length+1) (some y)=some n->fA hp (.sl 1) (.ak 1 0 (a.length+1)) tm none (some y)=some (.ak 1 0 n):=fun hp tm y h1 h2=>Z2 h1 h2 (by omega) (by omega)
  obtain ⟨e',Kj⟩:∃e',∀hp:Hp,lH 0 n (some (false,1,B3.map aa,hp))=some (.aE e' n ((B3.take n).map aa),hp):=by
   refine ⟨false&&Nat.blt 0 1&&Nat.beq n (B3.map aa).length,fun hp=>?_⟩;simp only [lH,yd,yi,slice,yj,<-List.map_take];rw [Nat.ble_eq_true_of_le (by simp;omega)];rfl
  have ltk:(B3.take n).length=n:=by rw [yT];omega
  have gH:=fN e' (B3.take n);rw [ltk] at gH;obtain ⟨r0,f1,nX,avE⟩:=Bm cY gH (by omega);obtain ⟨r1,lr,f2,cw,azO,aty,dr,nr,vr⟩:=afJ oV cY nX (AF (Ch gu1 n)) (by have:=K7 (B3.take n);omega) B1 hfB;have Ki:=fN true qs;rw [Kl] at Ki;obtain ⟨q1,f3,eG,avF⟩:=Bm cY Ki (by omega);rw [sI] at vr;unfold ae at f1 f2 f3;refine ⟨B3,qs,⟨lu1,Kl,gu1,gq1,aT,bi⟩,q1,r1,lr,eG,cw,dr,nr,vr,?_⟩;have n5:gZ 1 0 (AV.ak 0 0 1)=some (.ptr 0 0):=dd 0 0 (show 0<1 by omega)
  simp only [go_sem,ya,yb,aD,t8,t10,t11,t12,lI,dO,Kj,f1,avE,nX.ai,n5,f2,aty,fun hp=>oh (hp:=hp) (k:=m) (sz:=1) (cs:=qs.map aa) true (by simp [Kl]) (by decide),f3,avF];rcases eG with ⟨rfl,_⟩ | ⟨_,rfl⟩<;>rcases cw with ⟨rfl,_⟩ | ⟨_,rfl⟩<;>rfl
 obtain ⟨us,qs,⟨lu,lq,gu,gq,aT,bi⟩,q1,r1,lr,eG,cw,dr,nr,vr,e⟩:=iL;rw [su] at aT bi;have Ji:dv qs=dv a/dv b:=by
  rw [<-Nat.mul_div_mul_right _ _ B1,<-aT,yaI,xN,Nat.mul_add_div (yaK qC B1),wS bi,yX]
 have O6:dv us=(dv a%dv b)*f:=by
  rw [<-Nat.mul_mod_mul_right,<-aT,yaI,xN (dv qs),Nat.mul_add_mod,yP bi]
 have jQ:=QQ us n (by omega);have fR:dv (us.drop n)=0:=by
  rcases xr (dv (us.drop n)) with h0 | h0
  ·exact h0
  ·have:=yS (1000000000^n) h0
   omega
 rw [fR,xJ,yX] at jQ;rw [<-jQ,O6,Nat.mul_div_cancel _ B1] at vr;exact ⟨q1,r1,_,lr,e,eG,cw,AF gq,DZ _,dr,nr,by rw [sI,Ji],vr⟩
def aeH (h:Has P L 289 rB) (mC:Has P L 293 Bf) (nO:Has P L 296 rC) (oV:Has P L 299 Bh) (cY:Has P L 300 lG) (qc:Has P L 301 zB) {v w:AV} {a b:List Int} (hv:bq v a) (hw:bq w b) (ha:dg a) (hb:dg b) (na:nz a) (nb:nz b) (la:a.length<=8000000000) (lb:b.length<=8000000000) (h0:0<dv b):
  ∃q r lq lr,ae P L 289 [v,w] (.aq [q,r])/\bq q lq/\bq r lr/\dg lq/\nz lq/\dg lr/\nz lr/\dv lq=dv a/dv b/\dv lr=dv a%dv b:=by
 by_cases hl:b.length<=1
 ·exact avn h nO oV cY hv hw ha hb na nb (by omega) hl h0
 have ec:=TG nO hv hw ha hb na nb (by omega) (by omega);by_cases hc:dv a<dv b
 ·unfold ae at ec;have ez:dX (dv a) (dv b)= -1:=by unfold dX;rw [yJ hc]
  rw [ez] at ec;refine ⟨.ab,v,[],a,?_,qV,hv,rfl,rfl,ha,na,?_,?_⟩
  ·unfold ae;rw [av h];simp only [go_sem,ya,rB,hv.ai,hw.ai,ec,show (-1:Int)<0 by decide];rcases hv with ⟨rfl,_⟩ | ⟨e,rfl⟩<;>rfl
  ·rw [wS hc];rfl
  ·rw [yP hc]
 ·exact ar7 h mC oV cY qc hv hw ha hb na nb la (by omega) ec (by omega)
def aeI (h:Has P L 275 No) (Jq:Has P L 289 rB) (mC:Has P L 293 Bf) (nO:Has P L 296 rC) (oV:Has P L 299 Bh) (cY:Has P L 300 lG) (qc:Has P L 301 zB) {v w:AV} {a b:List Int} (hv:bq v a) (hw:bq w b) (ha:dg a) (hb:dg b) (na:nz a) (nb:nz b) (la:a.length<=8000000000) (lb:b.length<=8000000000):
  ∃r l,ae P L 275 [v,w] r/\bq r l/\dg l/\nz l/\dv l=wi (dv a) (dv b):=by
 have key:=cC (P:=P) (L:=L) (live:=[0,1]) (a:=H7)
  (I:=fun k st=>∃x y lx ly,st=⟨[(0,x),(1,y)],[],0,0⟩/\bq x lx/\bq y ly/\dg lx/\nz lx/\dg ly/\nz ly/\lx.length<=8000000000/\ly.length<=8000000000/\dv ly=k/\wi (dv lx) (dv ly)=wi (dv a) (dv b))
  (Q:=fun ex st=>∃tm ct,st=⟨tm,[],ct,0⟩/\ex= .exit 0/\∃x lx,af tm 0=x/\bq x lx/\dg lx/\nz lx/\dv lx=wi (dv a) (dv b)) ?_
 ·unfold ae;rw [av h];simp only [go_sem,No];generalize hq:D P L (.loop [0,1] H7) _=q;obtain ⟨ex,st,rfl,tm,ct,rfl,rfl,x,lx,h2,hx,dx,nx,vx⟩:=cd hq (key (dv b)) ⟨v,w,a,b,by simp only [go_sem,ya,aD,aM hv.pu,aQ _ hv.pu,aM hw.pu,aQ _ hw.pu]<;>rfl,hv,hw,ha,na,hb,nb,la,lb,rfl,rfl⟩
  refine ⟨x,lx,?_,hx,dx,nx,vx⟩;simp only [go_sem,aD,h2,hx.dn,aM hx.pu,aQ _ hx.pu]
 ·rintro k st ⟨x,y,lx,ly,rfl,hx,hy,dx,nx,dy,ny,llx,lly,rfl,hg⟩;by_cases h0:ly=[]
  ·right
   subst h0;simp only [go_sem,ya,H7,hy.len,yF,show ¬(0:Int)<((0:Nat):Int) by omega];refine ⟨_,_,rfl,by simp,_,_,rfl,rfl,x,lx,by simp only [go_sem,ya],hx,dx,nx,?_⟩;rw [<-hg];simp [dv]
  ·left
   have hp:0<dv ly:=by
    rcases xr (dv ly) with e | e
    ·exact absurd (aa2 ny dy e) h0
    ·exact e
   have hl:0<ly.length:=uE.2 h0;obtain ⟨q,r,lq,lr,e1,hq,hr,dq,nq,dr,nr,vq,vr⟩:=aeH Jq mC nO oV cY qc hx hy dx dy nx ny llx lly hp;have bi:dv lr<dv ly:=by rw [vr];exact xC _ hp
   have hB:=jx dy;simp only [go_sem,ya,H7,hx.ai,hy.len,hy.ai,show (0:Int)<ly.length by omega,e1,hq.bO,hr.bO];refine ⟨_,dv lr,rfl,bi,y,r,ly,lr,?_,hy,hr,dy,ny,dr,nr,by omega,xi (iY dr nr (Nat.lt_trans bi hB)) lly,rfl,?_⟩
   ·simp only [go_sem,ya,aD,aM hy.pu,aQ _ hy.pu,aM hr.pu,aQ _ hr.pu]<;>rfl
   ·rw [<-hg,vr,um (dv ly),<-Nat.gcd_rec,um]
end
end
section
open Go (IntKind)
section
variable {P:aK} {L:Lib}
def ar8 (zG:Has P L 290 ET) {neg:Bool} {N:Nat} (hN:(an N).length<=180000000000):
  ∀k s,(∃(i m:Nat) (out:List Int),m=k/\out.length=i/\dg out/\dv out+1000000000^i*m=N/\(an m).length+9*i<=180000000000/\
    ((i=0/\bH [0,2,3,4] s=⟨[(0,.str (an m)),(2,.ptr 0 0),(3,.bool neg),(4,.ab)],[(0,.cells true true true 2 [.bool false,.ab])],1,0⟩)\/
    (0<i/\bH [0,2,3,4] s=⟨[(0,.str (an m)),(2,.ptr 0 0),(3,.bool neg),(4,.ak 1 0 i)],[(1,.cells true true false 1 (out.map aa)),(0,.cells true true true 2 [.bool false,.ab])],2,0⟩)))->
   ∃ex s',D P L (.loop [0,2,3,4] zb) s=some (ex,s')/\∃tm i m out,ex= .exit 0/\m<1000000000/\out.length=i/\dg out/\dv out+1000000000^i*m=N/\i<20000000000/\af tm 0= .str (an m)/\af tm 2= .ptr 0 0/\af tm 3= .bool neg/\
    ((i=0/\af tm 4= .ab/\s'=⟨tm,[(0,.cells true true true 2 [.bool false,.ab])],1,0⟩)\/(0<i/\af tm 4= .ak 1 0 i/\s'=⟨tm,[(1,.cells true true false 1 (out.map aa)),(0,.cells true true true 2 [.bool false,.ab])],2,0⟩)):=by
 refine cC (I:=fun k s=>∃(i m:Nat) (out:List Int),m=k/\out.length=i/\dg out/\dv out+1000000000^i*m=N/\(an m).length+9*i<=180000000000/\
    ((i=0/\s=⟨[(0,.str (an m)),(2,.ptr 0 0),(3,.bool neg),(4,.ab)],[(0,.cells true true true 2 [.bool false,.ab])],1,0⟩)\/
    (0<i/\s=⟨[(0,.str (an m)),(2,.ptr 0 0),(3,.bool neg),(4,.ak 1 0 i)],[(1,.cells true true false 1 (out.map aa)),(0,.cells true true true 2 [.bool false,.ab])],2,0⟩)))
  (Q:=fun ex s'=>∃tm i m out,ex= .exit 0/\m<1000000000/\out.length=i/\dg out/\dv out+1000000000^i*m=N/\i<20000000000/\af tm 0= .str (an m)/\af tm 2= .ptr 0 0/\af tm 3= .bool neg/\
    ((i=0/\af tm 4= .ab/\s'=⟨tm,[(0,.cells true true true 2 [.bool false,.ab])],1,0⟩)\/(0<i/\af tm 4= .ak 1 0 i/\s'=⟨tm,[(1,.cells true true false 1 (out.map aa)),(0,.cells true true true 2 [.bool false,.ab])],2,0⟩))) ?_
 rintro k s ⟨i,m,out,rfl,hlen,hd,aT,hl,hs⟩;by_cases hm:1000000000<=m
 ·left
  obtain ⟨q,hq⟩:∃q,q=m/1000000000:=⟨_,rfl⟩;obtain ⟨r,hr⟩:∃r,r=m%1000000000:=⟨_,rfl⟩;have lI:=amQ hm;rw [<-hq,<-hr] at lI;have pg:=QJ 9 r;have hqp:=pK q;have hlm:(an m).length=(an q).length+9:=by rw [lI,yQ,pg]
  have c1:hZ (an m) (some (an q).length) (some (an m).length)=some (.str (iv 9 r)):=by
   rw [ll (by omega) (yD _),wz,lI,yaN]
  have c2:hZ (an m) (some 0) (some (an q).length)=some (.str (an q)):=by
   rw [ll (by omega) (by omega),yj,lI,yaM]
  have e1:=Jd zG (s:=iv 9 r) (v:=r) (by omega) (by rw [ZY 9 r 0 (by omega)];simp)
  unfold ae at e1;have E6:dg (out++[(r:Int)]):=gV.2 ⟨hd,jO.2 (by omega)⟩;have aeJ:dv (out++[(r:Int)])+1000000000^(i+1)*q=N:=by
   rw [mJ,hlen,<-aT,xg];have e:=Nat.mod_add_div m 1000000000;rw [<-hr,<-hq] at e;rw [<-e];simp only [dv,wC,xJ,yX,xD,xk];omega
  have MW:((an m).length:Int)-9=((an q).length:Int):=by omega
  rcases hs with ⟨h0,rfl⟩ | ⟨h0,rfl⟩
  ·subst h0;have mB:out=[]:=yN hlen;subst mB
   simp only [go_sem,ya,yb,xR,yy,yg,yi,zb,show (9:Int)<((an m).length:Int) by omega,MW,wrapN (n:=(an q).length) (by omega),eM,eU,dO,c1,c2,e1,lY];refine ⟨_,q,rfl,by omega,1,q,[]++[(r:Int)],rfl,rfl,E6,aeJ,by omega,.inr ⟨by omega,?_⟩⟩;rfl
  ·simp only [go_sem,ya,yb,yg,yi,zb,show (9:Int)<((an m).length:Int) by omega,MW,wrapN (n:=(an q).length) (by omega),eM,eU,dO,c1,e1]
   rw [lk (ex:=false) (pu:=true) (cs:=out.map aa) (by simp only [go_sem,ya]) (by rw [xx,hlen,yi]) (by omega) (by omega) (by decide) (by simp only [go_sem])]
   simp only [go_sem,ya,yb,eM,eU,dO,MW,wrapN (n:=(an q).length) (by omega),c2];refine ⟨_,q,rfl,by omega,i+1,q,out++[(r:Int)],rfl,by simp [hlen],E6,aeJ,by omega,.inr ⟨by omega,?_⟩⟩;rw [xq];simp only [go_sem,ya,yb,aD]<;>rfl
 ·right
  have h9:(an m).length<=9:=om (k:=8) (by omega);have hp0:=pK m;rcases hs with ⟨h0,rfl⟩ | ⟨h0,rfl⟩
  ·simp only [go_sem,zb,show ¬(9:Int)<((an m).length:Int) by omega];exact ⟨_,_,rfl,by simp,_,i,m,out,rfl,by omega,hlen,hd,aT,by omega,by simp only [go_sem,ya],by simp only [go_sem,ya],by simp only [go_sem,ya],.inl ⟨h0,by simp only [go_sem,ya],rfl⟩⟩
  ·simp only [go_sem,zb,show ¬(9:Int)<((an m).length:Int) by omega];exact ⟨_,_,rfl,by simp,_,i,m,out,rfl,by omega,hlen,hd,aT,by omega,by simp only [go_sem,ya],by simp only [go_sem,ya],by simp only [go_sem,ya],.inr ⟨h0,by simp only [go_sem,ya],rfl⟩⟩
end
end
section
open Go (IntKind)
section
variable {P:aK} {L:Lib}
def NV (h:Rb P L) {n:Int} (hn:(an n.natAbs).length<=180000000000):∃r,ae P L 288 [.str (aW n)] r/\km r n:=by
 obtain ⟨u,hu⟩:∃u,u=an n.natAbs:=⟨_,rfl⟩;obtain ⟨b,t,hb,jG,hb2⟩:=DQ n.natAbs;have hs:aW n=(if n<0 then [45] else [])++u:=by rw [hu,lW]
 have BO:0<u.length:=by rw [hu];exact pK _
 have qv:u[0]=b:=by
  have:u=b::t:=by rw [hu,hb]
  simp [this]
 have key:∀(s:St),bH [0,2,3,4] s=⟨[(0,.str u),(2,.ptr 0 0),(3,.bool (decide (n<0))),(4,.ab)],[(0,.cells true true true 2 [.bool false,.ab])],1,0⟩->
   ∃ex s',D P L (.loop [0,2,3,4] zb) s=some (ex,s')/\∃tm i m out,ex= .exit 0/\m<1000000000/\out.length=i/\dg out/\dv out+1000000000^i*m=n.natAbs/\i<20000000000/\af tm 0= .str (an m)/\af tm 2= .ptr 0 0/\af tm 3= .bool (decide (n<0))/\
    ((i=0/\af tm 4= .ab/\s'=⟨tm,[(0,.cells true true true 2 [.bool false,.ab])],1,0⟩)\/(0<i/\af tm 4= .ak 1 0 i/\s'=⟨tm,[(1,.cells true true false 1 (out.map aa)),(0,.cells true true true 2 [.bool false,.ab])],2,0⟩)):=fun s hc=>
  ar8 (P:=P) (L:=L) h.zG (neg:=decide (n<0)) hn n.natAbs s ⟨0,n.natAbs,[],rfl,rfl,rfl,by simp [dv],by omega,.inl ⟨rfl,by rw [hc,hu]⟩⟩
 have fin:∀(i m:Nat) (out:List Int),m<1000000000->out.length=i->dg out->dv out+1000000000^i*m=n.natAbs->i<20000000000->∃w l,bR P L (D P L) 294 [.bool (decide (n<0)),.aE false (i+1) ((out++[(m:Int)]).map aa)]=some (.agg [.bool (decide (n<0)),w])/\bq w l/\dg l/\nz l/\dv l=n.natAbs:=fun i m out h1 h2 h3 h4 h5=>by
  have hv:=fN false (out++[(m:Int)]);have hd:dg (out++[(m:Int)]):=gV.2 ⟨h3,jO.2 (by omega)⟩;have aT:dv (out++[(m:Int)])=n.natAbs:=by rw [mJ,h2];simp [dv];exact h4
  obtain ⟨r,e,hr⟩:=zH h.jV h.cY (decide (n<0)) hv hd (by simp;omega);have FJ:cL (decide (n<0)) (dv (out++[(m:Int)]))=n:=by
   rw [aT];unfold cL;by_cases h0:n<0
   ·simp only [h0,yq,y7];omega
   ·simp only [h0,yp,Bool.false_eq_true,yR];omega
  rw [FJ] at hr;obtain ⟨w,l,rfl,hw,dR,iz,cZ⟩:=hr;simp only [yQ,List.length_singleton,h2] at e;exact ⟨w,l,e,hw,dR,iz,cZ⟩
 unfold ae;rw [hs];by_cases h0:n<0
 ·rw [yJ h0,av h.afR];have kZ:hZ (45::u) (some 1) (some (u.length+1))=some (.str u):=by rw [ll (s:=45::u) (l:=1) (h:=u.length+1) (by omega) (by simp)];simp
  simp only [h0,yq] at key fin ⊢;simp only [go_sem,ya,yb,Ns,aH,show (0:Int)<((u.length+1:Nat):Int) by omega,y8,xS,CW,yq,eM,eU,dO,kZ];generalize hq:D P L (.loop [0,2,3,4] zb) _=q;obtain ⟨ex,s,rfl,tm,i,m,out,rfl,hm,hlen,hd,aT,hi,t0,t2,t3,IG⟩:=cd hq key (by simp only [go_sem,ya,yb,aD]<;>rfl)
  have e1:=Jd h.zG (s:=an m) (v:=m) (by have:=om (k:=8) (n:=m) (by omega);omega) (qU m);have cz:i<20000000000:=hi;obtain ⟨w,l,e2,hw,dR,iz,cZ⟩:=fin i m out hm hlen hd aT cz;refine ⟨_,?_,w,l,rfl,hw,dR,iz,cZ⟩;unfold ae at e1;rcases IG with ⟨BV,t4,rfl⟩ | ⟨BV,t4,rfl⟩
  ·subst BV;have mB:out=[]:=yN hlen;subst mB;have gH:∀hp:Hp,lH 0 1 (some (false,1,[AV.int .i64 (m:Int)],hp))=some (.aE false 1 [AV.int .i64 (m:Int)],hp):=fun hp=>rfl
   simp only [xS,y9,wM,yd] at e2;simp only [go_sem,ya,yb,xR,yy,yg,yi,aD,t0,t2,t3,t4,e1,lY,gH,e2,bE,hw.pu,hw.one,fe];rcases hw with ⟨rfl,_⟩ | ⟨e,rfl⟩<;>simp only [h0,yq]<;>rfl
  ·simp only [go_sem,ya,yb,yg,yi,aD,t0,t2,t3,t4,e1]
   rw [lk (ex:=false) (pu:=true) (cs:=out.map aa) (by simp only [go_sem,ya]) (by rw [xx,hlen,yi]) (by omega) (by omega) (by decide) (by simp only [go_sem])];have gH:∀hp:Hp,lH 0 (i+1) (some (false,1,out.map aa++[AV.int .i64 (m:Int)],hp))=some (.aE false (i+1) (out.map aa++[AV.int .i64 (m:Int)]),hp):=fun hp=>oh false (by simp [hlen]) (by decide)
   simp only [xq,y9,wM] at e2;simp only [go_sem,ya,yb,gH,e2,bE,hw.pu,hw.one,fe,tj];rcases hw with ⟨rfl,_⟩ | ⟨e,rfl⟩<;>simp only [h0,yq]<;>rfl
 ·rw [yz h0,av h.afR,xS];simp only [h0,yp] at key fin ⊢;simp only [go_sem,ya,yb,Ns,aH,show (0:Int)<(u.length:Int) by omega,pO BO,qv,show ¬((b:Nat):Int)=45 by omega];generalize hq:D P L (.loop [0,2,3,4] zb) _=q;obtain ⟨ex,s,rfl,tm,i,m,out,rfl,hm,hlen,hd,aT,hi,t0,t2,t3,IG⟩:=cd hq key (by simp only [go_sem,ya,yb,aD]<;>rfl)
  have e1:=Jd h.zG (s:=an m) (v:=m) (by have:=om (k:=8) (n:=m) (by omega);omega) (qU m);have cz:i<20000000000:=hi;obtain ⟨w,l,e2,hw,dR,iz,cZ⟩:=fin i m out hm hlen hd aT cz;refine ⟨_,?_,w,l,rfl,hw,dR,iz,cZ⟩;rcases IG with ⟨BV,t4,rfl⟩ | ⟨BV,t4,rfl⟩
  ·subst BV;have mB:out=[]:=yN hlen;subst mB;have gH:∀hp:Hp,lH 0 1 (some (false,1,[AV.int .i64 (m:Int)],hp))=some (.aE false 1 [AV.int .i64 (m:Int)],hp):=fun hp=>rfl
   simp only [xS,y9,wM,yd] at e2;simp only [go_sem,ya,yb,xR,yy,yg,yi,aD,t0,t2,t3,t4,e1,lY,gH,e2,bE,hw.pu,hw.one,fe];rcases hw with ⟨rfl,_⟩ | ⟨e,rfl⟩<;>simp only [h0,yp]<;>rfl
  ·simp only [go_sem,ya,yb,yg,yi,aD,t0,t2,t3,t4,e1]
   rw [lk (ex:=false) (pu:=true) (cs:=out.map aa) (by simp only [go_sem,ya]) (by rw [xx,hlen,yi]) (by omega) (by omega) (by decide) (by simp only [go_sem])];have gH:∀hp:Hp,lH 0 (i+1) (some (false,1,out.map aa++[AV.int .i64 (m:Int)],hp))=some (.aE false (i+1) (out.map aa++[AV.int .i64 (m:Int)]),hp):=fun hp=>oh false (by simp [hlen]) (by decide)
   simp only [xq,y9,wM] at e2;simp only [go_sem,ya,yb,gH,e2,bE,hw.pu,hw.one,fe,tj];rcases hw with ⟨rfl,_⟩ | ⟨e,rfl⟩<;>simp only [h0,yp]<;>rfl
end
end
section
open Go (IntKind)
def B7 (n:Int) (r:List Nat):bN (aW n++r)=(aW n).length+bN r:=by
 rw [<-lW]
 split
 ·simp only [y8,xS,bN,yv];rw [yz (by decide),G6 r (sG _)];omega
 ·rw [xS];exact G6 r (sG _)
def QR:∀{a b:List Nat},cI a b=true->a=b
 | [],[],_=>rfl
 | [],_::_,h=>by simp [cI] at h
 | _::_,[],h=>by simp [cI] at h
 | x::a,y::b,h=>by
  simp only [cI,Bool.and_eq_true] at h;rw [Nat.eq_of_beq_eq_true h.1,QR h.2]
def aeK {n:Int} {d:Nat} (h:n≠0):cI (TT n d) [48]=false:=by
 cases hb:cI (TT n d) [48] with
 | false=>rfl
 | true=>
  have e:=QR hb;unfold TT at e;by_cases h0:n<0
  ·rw [jL h0] at e;simp at e
  ·obtain ⟨m,rfl⟩:∃m:Nat,n=m:=⟨n.toNat,by omega⟩;rw [jK] at e;obtain ⟨b,r,cS,_,_⟩:=DQ m;rw [cS] at e;simp only [y8,tL,List.append_eq_nil_iff] at e;have hv:=qU m;rw [cS,e.1,e.2.1] at hv
   have:(some 0:Option Nat)=some m:=hv
   grind
section
variable {P:aK} {L:Lib}
def ar9 (h:Rb P L):∃r,ae P L 281 [aa 1] r/\km r 1:=by
 obtain ⟨r,e,hr⟩:=zH h.jV h.cY false (fN false [(1:Int)]) (by decide) (by decide);obtain ⟨w,l,rfl,hw,hd,hz,hv⟩:=hr;refine ⟨_,?_,w,l,rfl,hw,hd,hz,hv⟩;simp only [y9,wM,yv,yF,yd] at e;have gH:∀hp:Hp,lH 0 1 (some (false,1,[AV.int .i64 1],hp))=some (.aE false 1 [AV.int .i64 1],hp):=fun hp=>rfl
 unfold ae at e ⊢;rw [av h.avy];simp only [go_sem,ya,yb,xR,yy,yg,yi,SS,aH,Int.reduceLT,yp,Cw,aD,abt,Int.reduceEq,Bool.not_false,Bool.not_true,yq,eD _ _ _ (show (1000000000:Int)≠0 by decide),fq _ _ _ (show (1000000000:Int)≠0 by decide),show Int.tmod 1 1000000000=1 from rfl,show Int.tdiv 1 1000000000=0 from rfl,show IntKind.wrap .i64 0=0 from rfl,lY,gH,e,hw.pu,hw.one,bE,fe];rcases hw with ⟨rfl,_⟩ | ⟨e,rfl⟩<;>rfl
def afW (h:Rb P L) {n:Int} {d:Nat} (hn:(an n.natAbs).length<=144000000000) (hd:(an d).length<=144000000000):
  ∃x y,ae P L 274 [.str (TT n d)] (.aq [x,y])/\km x n/\km y d:=by
 obtain ⟨x,e1,hx⟩:=NV h (n:=n) (by omega);have hli:(aW n).length<=(an n.natAbs).length+1:=by rw [<-lW];split<;>simp
 by_cases h1:d=1
 ·subst h1;obtain ⟨y,e2,hy⟩:=ar9 h;have hT:TT n 1=aW n:=by unfold TT;simp
  have hs:=B7 n [];rw [List.append_nil] at hs;have e3:=CV h.zF (s:=aW n) (by omega);rw [hs] at e3;refine ⟨x,y,?_,hx,hy⟩;obtain ⟨xw,xl,rfl,gI,_,_,_⟩:=hx;obtain ⟨yw,yl,rfl,gJ,_,_,_⟩:=hy;rw [hT];unfold ae at e1 e2 e3 ⊢;rw [av h.afO];simp only [go_sem,ya,yb,Nn,aH,e3,bN,yX,yq,e1,e2,bE,gI.pu,gI.one,gJ.pu,gJ.one,fe];rcases gI with ⟨rfl,_⟩ | ⟨e,rfl⟩<;>rcases gJ with ⟨rfl,_⟩ | ⟨e',rfl⟩<;>rfl
 ·obtain ⟨y,e2,hy⟩:=NV h (n:=(d:Int)) (by simp;omega);rw [jK] at e2;obtain ⟨s,Kk⟩:∃s,s=TT n d:=⟨_,rfl⟩;have hT:s=aW n++47::an d:=by rw [Kk];unfold TT;rw [yz h1]
  have hs:bN s=(aW n).length:=by rw [hT,B7];rfl
  have hlen:s.length=(aW n).length+(an d).length+1:=by rw [hT];simp;omega
  have e3:=CV h.zF (s:=s) (by omega);rw [hs] at e3;have c1:hZ s (some 0) (some (aW n).length)=some (.str (aW n)):=by
   rw [ll (by omega) (by omega),yj,hT,yaM]
  have c2:hZ s (some ((aW n).length+1)) (some s.length)=some (.str (an d)):=by
   rw [ll (by omega) (yD _),wz,hT,show aW n++47::an d=(aW n++[47])++an d by simp,show (aW n).length+1=(aW n++[47]).length by simp,yaN]
  refine ⟨x,y,?_,hx,hy⟩;obtain ⟨xw,xl,rfl,gI,_,_,_⟩:=hx;obtain ⟨yw,yl,rfl,gJ,_,_,_⟩:=hy;rw [<-Kk];unfold ae at e1 e2 e3 ⊢;rw [av h.afO]
  simp only [go_sem,ya,yb,Nn,aH,e3,show ¬((aW n).length:Int)=(s.length:Int) by omega,eM,eU,dO,c1,wrapN (n:=(aW n).length+1) (by omega),show ((aW n).length:Int)+1=(((aW n).length+1:Nat):Int) from rfl,c2,e1,e2,bE,gI.pu,gI.one,gJ.pu,gJ.one,fe];rcases gI with ⟨rfl,_⟩ | ⟨e,rfl⟩<;>rcases gJ with ⟨rfl,_⟩ | ⟨e',rfl⟩<;>rfl
end
end
end VE
