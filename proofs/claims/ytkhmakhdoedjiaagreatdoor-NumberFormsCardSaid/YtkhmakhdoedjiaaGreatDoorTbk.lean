import Derived.Test.YtkhmakhdoedjiaaGreatDoorTbj
set_option linter.all false
set_option maxRecDepth 100000
open Nat (reduceAdd reduceEqDiff reduceLT)
section
namespace VE
open Go (IntKind)
theorem zu7 {b p x y z lo' c bo bo' ca q v X Y:Nat} (h1:q*v+c=b*ca+lo') (h2:z+lo'+bo=x+b*bo') (h3:Y+q*X=y+p*(c+bo)) (W:Nat) (hW:W+p*x=Y+p*z):
  W+q*(X+p*v)=y+p*b*(ca+bo'):=by
 have e1:=congrArg (fun t=>p*t) h1;have e2:=congrArg (fun t=>p*t) h2;simp only [Nat.mul_add] at e1 e2 h3 ⊢;rw [Nat.mul_left_comm q p v,Nat.mul_assoc p b ca,Nat.mul_assoc p b bo'];rw [show p*(q*v)=p*(q*v) from rfl] at e1;generalize p*(q*v)=a1 at*
 generalize p*(b*ca)=a2 at*
 generalize p*(b*bo')=a3 at*
 generalize p*lo'=a4 at*
 generalize p*c=a5 at*
 generalize p*bo=a6 at*
 generalize p*x=a7 at*
 generalize p*z=a8 at*
 generalize q*X=a9 at*
 omega
theorem ztN {q v c:Nat} (hq:q<18446744073709551616) (hv:v<18446744073709551616) (hc:c<18446744073709551616):
  q*v+c=18446744073709551616*(q*v/18446744073709551616+(q*v%18446744073709551616+c+0)/18446744073709551616)+(q*v%18446744073709551616+c+0)%18446744073709551616∧
  q*v/18446744073709551616+(q*v%18446744073709551616+c+0)/18446744073709551616<18446744073709551616:=by
 have h:=Nat.mul_le_mul (show q≤18446744073709551615 by omega) (show v≤18446744073709551615 by omega);generalize q*v=m at*
 omega
section
variable {P:zN} {L:Lib}
theorem zLf (h143:L.pure 143=some zer) (h171:L.pure 171=some zc5) (h173:L.pure 173=some zfF) {w:AV} {x vs pre post qs:List Nat} (hw:IsU w vs) {n:Nat} (hnb:n≤99999999999) (lv:vs.length=n) (gv:lo 18446744073709551616 vs) {q:Nat} (hq:q<18446744073709551616):
  ∀k s,(∃(i c bo:Nat) (y:List Nat),zA [0,1,5,6,11,12,104,105] s=⟨[(0,.osl 0 pre.length (n+1)),(1,w),(5,zh n),(6,uc q),(11,uc bo),(12,uc c),(104,zh n),(105,zh i)],H2 qs (pre++y++post),2,2⟩∧i+k=n∧y.length=n+1∧lo 18446744073709551616 y∧c<18446744073709551616∧bo≤1∧
    bv 18446744073709551616 y+q*bv 18446744073709551616 (vs.take i)=bv 18446744073709551616 x+18446744073709551616^i*(c+bo))→
   ∃ex s',D P L (.loop [0,1,5,6,11,12,104,105] zjx) s=some (ex,s')∧∃tm c bo y,s'=⟨tm,H2 qs (pre++y++post),2,2⟩∧ex= .exit 2∧zc tm 0= .osl 0 pre.length (n+1)∧zc tm 1=w∧zc tm 5=zh n∧zc tm 6=uc q∧zc tm 11=uc bo∧zc tm 12=uc c∧y.length=n+1∧lo 18446744073709551616 y∧c<18446744073709551616∧bo≤1∧
    bv 18446744073709551616 y+q*bv 18446744073709551616 vs=bv 18446744073709551616 x+18446744073709551616^n*(c+bo):=by
 refine zS (I:=fun k s=>∃(i c bo:Nat) (y:List Nat),s=⟨[(0,.osl 0 pre.length (n+1)),(1,w),(5,zh n),(6,uc q),(11,uc bo),(12,uc c),(104,zh n),(105,zh i)],H2 qs (pre++y++post),2,2⟩∧i+k=n∧y.length=n+1∧lo 18446744073709551616 y∧c<18446744073709551616∧bo≤1∧
    bv 18446744073709551616 y+q*bv 18446744073709551616 (vs.take i)=bv 18446744073709551616 x+18446744073709551616^i*(c+bo))
  (Q:=fun ex s'=>∃tm c bo y,s'=⟨tm,H2 qs (pre++y++post),2,2⟩∧ex= .exit 2∧zc tm 0= .osl 0 pre.length (n+1)∧zc tm 1=w∧zc tm 5=zh n∧zc tm 6=uc q∧zc tm 11=uc bo∧zc tm 12=uc c∧y.length=n+1∧lo 18446744073709551616 y∧c<18446744073709551616∧bo≤1∧
    bv 18446744073709551616 y+q*bv 18446744073709551616 vs=bv 18446744073709551616 x+18446744073709551616^n*(c+bo)) ?_
 rintro k s ⟨i,c,bo,y,rfl,hk,ly,gy,hc,hbo,hval⟩;by_cases hi:i<n
 ·left
  have hb0:(0:Nat)<18446744073709551616:=by decide
  have gvi:=zaZ hb0 gv i;have gyi:=zaZ hb0 gy i;have ev:=hw.ixa (i:=i) (by omega);have ey:=zhz (l:=pre++y++post) (o:=pre.length+i) (by rw [zcb];omega);rw [ze6 (by omega)] at ey;have htk:=zaW (b:=18446744073709551616) (l:=vs) i;obtain ⟨a,ha⟩:∃a,a=vs.getD i 0:=⟨_,rfl⟩;obtain ⟨d,hd⟩:∃d,d=y.getD i 0:=⟨_,rfl⟩;rw [←ha] at gvi ev htk;rw [←hd] at gyi ey;obtain ⟨m1,m2⟩:=ztN hq gvi hc;have f1:=zmo (P:=P) (f:=D P L) h143 hq gvi;have f2:=zgE (P:=P) (f:=D P L) h171 (x:=q*a%18446744073709551616) (y:=c) (c:=0) (Nat.mod_lt _ hb0) hc (by omega);obtain ⟨lo',hlo'⟩:∃t,t=(q*a%18446744073709551616+c+0)%18446744073709551616:=⟨_,rfl⟩;obtain ⟨c1,hc1⟩:∃t,t=(q*a%18446744073709551616+c+0)/18446744073709551616:=⟨_,rfl⟩;have hloW:lo'<18446744073709551616:=by rw [hlo'];exact Nat.mod_lt _ hb0
  rw [←hlo',←hc1] at f2 m1;rw [←hc1] at m2;obtain ⟨h1,hh1⟩:∃t,t=q*a/18446744073709551616:=⟨_,rfl⟩;rw [←hh1] at f1 m1 m2;rw [show (uc 0)=AV.int .u64 0 from rfl] at f2;have f3:=zpn (P:=P) (f:=D P L) h173 gyi hloW hbo;have hsw:=zkP gyi hloW hbo;obtain ⟨z,hz⟩:∃t,t=(d+18446744073709551616*2-lo'-bo)%18446744073709551616:=⟨_,rfl⟩;obtain ⟨b',hb'⟩:∃t,t=(if lo'+bo≤d then 0 else 1):=⟨_,rfl⟩;have hb1:b'≤1:=by rw [hb'];split<;>omega
  have hzW:z<18446744073709551616:=by rw [hz];exact Nat.mod_lt _ hb0
  rw [←hz,←hb'] at f3 hsw;have f4:binOp .add (uc h1) (uc c1)=some (uc (h1+c1)):=by
   rw [zio,Nat.mod_eq_of_lt m2]
  have z7:=zcW (b:=18446744073709551616) (l:=y) (i:=i) (x:=z) (by omega);rw [←hd] at z7;have hst:=fun (hp:Hp) (ct:Nat)=>stU (hp:=hp) (ct:=ct) (id:=0) (v:=z) (ex:=true) (l:=pre++y++post) (o:=pre.length+i) (by rw [zcb];omega)
  have hmid:=zjf (pre:=pre) (x:=y) (post:=post) (i:=i) z (by omega);simp only [go_sem,reduceEqDiff,Nat.mul_one,zjx,H2,show (i:Int)<(n:Int) by omega,ev,f1,f2,f4,zY 0 pre.length (show i<n+1 by omega),ey,f3,hst,hmid];refine ⟨_,k-1,rfl,by omega,i+1,h1+c1,b',y.set i z,?_,by omega,by simp [ly],zcj gy hzW,m2,hb1,?_⟩
  ·rw [zbP (by simp only [go_sem,reduceEqDiff,reduceLT,zck,zcG,zbt,za8,zba hw.pu,and_true]) (by simp only [go_sem,reduceEqDiff,reduceAdd,reduceLT,zb hw.pu])];rw [ze (by omega) (by omega)];simp only [go_sem,reduceEqDiff]<;>rfl
  ·rw [htk,Nat.pow_succ];exact zu7 m1 hsw hval _ z7
 ·right
  have:i=n:=by omega
  subst this;rw [List.take_of_length_le (by omega)] at hval;simp only [go_sem,reduceEqDiff,zjx,H2,show ¬(i:Int)<(i:Int) by omega];exact ⟨_,_,rfl,by simp,_,c,bo,y,rfl,rfl,by simp only [go_sem,reduceEqDiff],by simp only [go_sem,reduceEqDiff],by simp only [go_sem,reduceEqDiff],by simp only [go_sem,reduceEqDiff],by simp only [go_sem,reduceEqDiff],by simp only [go_sem,reduceEqDiff],ly,gy,hc,hbo,hval⟩
theorem zF7 (h171:L.pure 171=some zc5) {w:AV} {y0 vs pre post qs:List Nat} (hw:IsU w vs) {n:Nat} (hnb:n≤99999999999) (lv:vs.length=n) (gv:lo 18446744073709551616 vs) {q:Nat}:
  ∀k s,(∃(i c:Nat) (y:List Nat),zA [0,1,5,6,17,156,157] s=⟨[(0,.osl 0 pre.length (n+1)),(1,w),(5,zh n),(6,uc q),(17,uc c),(156,zh n),(157,zh i)],H2 qs (pre++y++post),2,2⟩∧i+k=n∧y.length=n+1∧lo 18446744073709551616 y∧c≤1∧
    bv 18446744073709551616 y+18446744073709551616^i*c=bv 18446744073709551616 y0+bv 18446744073709551616 (vs.take i))→
   ∃ex s',D P L (.loop [0,1,5,6,17,156,157] zkk) s=some (ex,s')∧∃tm c y,s'=⟨tm,H2 qs (pre++y++post),2,2⟩∧ex= .exit 4∧zc tm 0= .osl 0 pre.length (n+1)∧zc tm 5=zh n∧zc tm 6=uc q∧zc tm 17=uc c∧y.length=n+1∧lo 18446744073709551616 y∧c≤1∧
    bv 18446744073709551616 y+18446744073709551616^n*c=bv 18446744073709551616 y0+bv 18446744073709551616 vs:=by
 refine zS (I:=fun k s=>∃(i c:Nat) (y:List Nat),s=⟨[(0,.osl 0 pre.length (n+1)),(1,w),(5,zh n),(6,uc q),(17,uc c),(156,zh n),(157,zh i)],H2 qs (pre++y++post),2,2⟩∧i+k=n∧y.length=n+1∧lo 18446744073709551616 y∧c≤1∧
    bv 18446744073709551616 y+18446744073709551616^i*c=bv 18446744073709551616 y0+bv 18446744073709551616 (vs.take i))
  (Q:=fun ex s'=>∃tm c y,s'=⟨tm,H2 qs (pre++y++post),2,2⟩∧ex= .exit 4∧zc tm 0= .osl 0 pre.length (n+1)∧zc tm 5=zh n∧zc tm 6=uc q∧zc tm 17=uc c∧y.length=n+1∧lo 18446744073709551616 y∧c≤1∧
    bv 18446744073709551616 y+18446744073709551616^n*c=bv 18446744073709551616 y0+bv 18446744073709551616 vs) ?_
 rintro k s ⟨i,c,y,rfl,hk,ly,gy,hc,hval⟩;by_cases hi:i<n
 ·left
  have hb0:(0:Nat)<18446744073709551616:=by decide
  have gvi:=zaZ hb0 gv i;have gyi:=zaZ hb0 gy i;have ev:=hw.ixa (i:=i) (by omega);have ey:=zhz (l:=pre++y++post) (o:=pre.length+i) (by rw [zcb];omega);rw [ze6 (by omega)] at ey;have htk:=zaW (b:=18446744073709551616) (l:=vs) i;obtain ⟨a,ha⟩:∃a,a=vs.getD i 0:=⟨_,rfl⟩;obtain ⟨d,hd⟩:∃d,d=y.getD i 0:=⟨_,rfl⟩;rw [←ha] at gvi ev htk;rw [←hd] at gyi ey;have f1:=zgE (P:=P) (f:=D P L) h171 gyi gvi hc;have z7:=zcW (b:=18446744073709551616) (l:=y) (i:=i) (x:=(d+a+c)%18446744073709551616) (by omega);rw [←hd] at z7;have hsp:=zeZ (18446744073709551616^i) 18446744073709551616 (d+a+c);have hc':(d+a+c)/18446744073709551616≤1:=by omega
  have hzW:(d+a+c)%18446744073709551616<18446744073709551616:=Nat.mod_lt _ hb0;generalize (d+a+c)%18446744073709551616=z at*
  generalize (d+a+c)/18446744073709551616=c' at*
  have hst:=fun (hp:Hp) (ct:Nat)=>stU (hp:=hp) (ct:=ct) (id:=0) (v:=z) (ex:=true) (l:=pre++y++post) (o:=pre.length+i) (by rw [zcb];omega)
  have hmid:=zjf (pre:=pre) (x:=y) (post:=post) (i:=i) z (by omega);simp only [go_sem,reduceEqDiff,Nat.mul_one,zkk,H2,show (i:Int)<(n:Int) by omega,ev,f1,zY 0 pre.length (show i<n+1 by omega),ey,hst,hmid];refine ⟨_,k-1,rfl,by omega,i+1,c',y.set i z,?_,by omega,by simp [ly],zcj gy hzW,hc',?_⟩
  ·rw [zbP (by simp only [go_sem,reduceEqDiff,reduceLT,zck,zcG,zbt,za8,zba hw.pu,and_true]) (by simp only [go_sem,reduceEqDiff,reduceAdd,reduceLT,zb hw.pu])];rw [ze (by omega) (by omega)];simp only [go_sem,reduceEqDiff]<;>rfl
  ·rw [htk,Nat.pow_succ];rw [Nat.mul_add,Nat.mul_add] at hsp;generalize 18446744073709551616^i*18446744073709551616*c'=p1 at*
   generalize 18446744073709551616^i*z=p2 at*
   generalize 18446744073709551616^i*d=p3 at*
   generalize 18446744073709551616^i*a=p4 at*
   generalize 18446744073709551616^i*c=p5 at*
   omega
 ·right
  have:i=n:=by omega
  subst this;rw [List.take_of_length_le (by omega)] at hval;simp only [go_sem,reduceEqDiff,zkk,H2,show ¬(i:Int)<(i:Int) by omega];exact ⟨_,_,rfl,by simp,_,c,y,rfl,rfl,by simp only [go_sem,reduceEqDiff],by simp only [go_sem,reduceEqDiff],by simp only [go_sem,reduceEqDiff],by simp only [go_sem,reduceEqDiff],ly,gy,hc,hval⟩
end
end VE
end
section
namespace VE
open Go (IntKind)
theorem zxD {A V q Y B bo:Nat} (hV:0<V) (h:Y+q*V=A+B*bo) (h1:A/V≤q) (h2:q≤A/V+1) (hY:Y<B) (hVB:V≤B) (hbo:bo≤1):
  (bo=0→q=A/V∧Y=A%V)∧(bo=1→q=A/V+1∧Y+V=B+A%V):=by
 have hdm:=Nat.div_add_mod A V;have hm:=Nat.mod_lt A hV;generalize A/V=Q at*
 generalize A%V=R at*
 rw [Nat.mul_comm] at hdm;have hq:q=Q∨q=Q+1:=by omega
 constructor
 ·rintro rfl;rw [Nat.mul_zero,Nat.add_zero] at h;rcases hq with rfl | rfl
  ·exact ⟨rfl,by omega⟩
  ·rw [Nat.add_mul,Nat.one_mul] at h;omega
 ·rintro rfl;rw [Nat.mul_one] at h;rcases hq with rfl | rfl
  ·omega
  ·rw [Nat.add_mul,Nat.one_mul] at h;exact ⟨rfl,by omega⟩
section
variable {P:zN} {L:Lib}
structure Wd (P:zN) (L:Lib):Prop where
 h143:L.pure 143=some zer
 h171:L.pure 171=some zc5
 h173:L.pure 173=some zfF
 h167:L.pure 167=some zl2
 h165:Has P L 165 zwz
 h166:Has P L 166 zne
 h168:Has P L 168 zAo
 h169:Has P L 169 c169
 h158:Has P L 158 zvC
 h157:Has P L 157 zxm
 h159:Has P L 159 zBG
 h144:Has P L 144 zAS
 h137:Has P L 137 zxO
def zw:VC→VC
 | .seq _ b=>b
 | c=>c
theorem zHt (h:Wd P L) {w:AV} {x vs pre post qs:List Nat} (hw:IsU w vs) {n v1 v2 u0 u1 u2:Nat} (hl:Lead x vs n v1 v2 u0 u1 u2) {q:Nat} (hq:q<18446744073709551616) (hq1:bv 18446744073709551616 x/bv 18446744073709551616 vs≤q) (hq2:q≤bv 18446744073709551616 x/bv 18446744073709551616 vs+1):
  ∃tm x',D P L (zw (zw (zw (zw (zw (zw c169.body)))))) ⟨[(0,.osl 0 pre.length (n+1)),(1,w),(5,zh n),(6,uc q)],H2 qs (pre++x++post),2,2⟩=some (.ret,⟨tm,H2 qs (pre++x'++post),2,2⟩)∧zc tm 4=uc (bv 18446744073709551616 x/bv 18446744073709551616 vs)∧x'.length=n+1∧lo 18446744073709551616 x'∧bv 18446744073709551616 x'=bv 18446744073709551616 x%bv 18446744073709551616 vs:=by
 have hn2:=hl.n2;have hnb:=hl.nb;have hb0:(0:Nat)<18446744073709551616:=by decide
 have hV:0<bv 18446744073709551616 vs:=by
  rcases Nat.eq_zero_or_pos (bv 18446744073709551616 vs) with h0 | h0
  ·have:=hl.lt;rw [h0] at this;simp at this
  ·exact h0
 have hbw:zcT 2 w:=zba hw.pu;have hVn:=zd4 hl.gv;rw [hl.lv] at hVn;have hpow:18446744073709551616^n≤18446744073709551616^(n+1):=Nat.pow_le_pow_right (by decide) (by omega);have hind:zw (zw (zw (zw (zw (zw c169.body)))))=zw (zw (zw (zw (zw (zw c169.body))))):=rfl;simp only [go_sem,reduceEqDiff,c169,zw,H2];generalize hqq:D P L (.loop [0,1,5,6,11,12,104,105] zjx) _=qq;obtain ⟨ex,s,rfl,tm,c,bo,y,rfl,rfl,t0,t1,t5,t6,t11,t12,ly,gy,hc,hbo,hval⟩:=z8 hqq (zLf (P:=P) (L:=L) h.h143 h.h171 h.h173 hw hnb hl.lv hl.gv hq (x:=x) (pre:=pre) (post:=post) (qs:=qs) n) ⟨0,0,0,x,by
  rw [zbP (by simp only [go_sem,reduceEqDiff,reduceLT,zck,zcG,zbt,za8,hbw,and_true]) (by simp only [go_sem,reduceEqDiff,reduceAdd,reduceLT,zb hw.pu])]
  simp only [go_sem,reduceEqDiff]<;>rfl,by omega,hl.lx,hl.gx,hb0,by omega,by simp [bv]⟩
 have gyn:=zaZ hb0 gy n;have ey:=zhz (l:=pre++y++post) (o:=pre.length+n) (by rw [zcb];omega);rw [ze6 (by omega)] at ey;obtain ⟨d,hd⟩:∃d,d=y.getD n 0:=⟨_,rfl⟩;rw [←hd] at gyn ey;have f3:=zpn (P:=P) (f:=D P L) h.h173 gyn hc hbo;have hsw:=zkP gyn hc hbo;obtain ⟨z,hz⟩:∃t,t=(d+18446744073709551616*2-c-bo)%18446744073709551616:=⟨_,rfl⟩;obtain ⟨b',hb'⟩:∃t,t=(if c+bo≤d then 0 else 1):=⟨_,rfl⟩;have hb1:b'≤1:=by rw [hb'];split<;>omega
 have hzW:z<18446744073709551616:=by rw [hz];exact Nat.mod_lt _ hb0
 rw [←hz,←hb'] at f3 hsw;have z7:=zcW (b:=18446744073709551616) (l:=y) (i:=n) (x:=z) (by omega);rw [←hd] at z7;have hst:=fun (hp:Hp) (ct:Nat)=>stU (hp:=hp) (ct:=ct) (id:=0) (v:=z) (ex:=true) (l:=pre++y++post) (o:=pre.length+n) (by rw [zcb];omega)
 have hmid:=zjf (pre:=pre) (x:=y) (post:=post) (i:=n) z (by omega);have gy1:lo 18446744073709551616 (y.set n z):=zcj gy hzW;have ly1:(y.set n z).length=n+1:=by simp [ly]
 have hY:=zd4 gy1;rw [ly1] at hY;have htot:bv 18446744073709551616 (y.set n z)+q*bv 18446744073709551616 vs=bv 18446744073709551616 x+18446744073709551616^(n+1)*b':=by
  have e2:=congrArg (fun t=>18446744073709551616^n*t) hsw;rw [Nat.pow_succ,Nat.mul_assoc];simp only [Nat.mul_add] at e2 hval;generalize 18446744073709551616^n*(18446744073709551616*b')=p1 at*
  generalize 18446744073709551616^n*z=p2 at*
  generalize 18446744073709551616^n*d=p3 at*
  generalize 18446744073709551616^n*c=p4 at*
  generalize 18446744073709551616^n*bo=p5 at*
  omega
 obtain ⟨s0,s1⟩:=zxD hV htot hq1 hq2 hY (by omega) hb1;simp only [go_sem,reduceEqDiff,reduceAdd,reduceLT,Nat.mul_one,zbP,zck,zcG,zbt,za8,hbw,and_true,zb hw.pu,t0,t1,t5,t6,t11,t12,zY 0 pre.length (show n<n+1 by omega),ey,f3,hst,hmid];by_cases hz0:b'=0
 ·obtain ⟨e1,e2⟩:=s0 hz0;simp only [go_sem,reduceEqDiff,show (b':Int)=0 by omega];exact ⟨_,y.set n z,rfl,by rw [←e1];simp only [go_sem],ly1,gy1,e2⟩
 ·obtain ⟨e1,e2⟩:=s1 (by omega);simp only [go_sem,reduceEqDiff,show ¬(b':Int)=0 by omega];generalize hqq2:D P L (.loop [0,1,5,6,17,156,157] zkk) _=qq2;obtain ⟨ex,s,rfl,tm2,c2,y2,rfl,rfl,t0,t5,t6,t17,ly2,gy2,hc2,hval2⟩:=z8 hqq2 (zF7 (P:=P) (L:=L) h.h171 hw hnb hl.lv hl.gv (y0:=y.set n z) (pre:=pre) (post:=post) (qs:=qs) (q:=q) n) ⟨0,0,y.set n z,by
   rw [zbP (by simp only [go_sem,reduceEqDiff,reduceLT,zck,zcG,zbt,za8,hbw,and_true]) (by simp only [go_sem,reduceEqDiff,reduceAdd,reduceLT,zb hw.pu])]
   simp only [go_sem,reduceEqDiff]<;>rfl,by omega,ly1,gy1,by omega,by simp [bv]⟩
  have gyn2:=zaZ hb0 gy2 n;have ey2:=zhz (l:=pre++y2++post) (o:=pre.length+n) (by rw [zcb];omega);rw [ze6 (by omega)] at ey2;obtain ⟨d2,hd2⟩:∃d,d=y2.getD n 0:=⟨_,rfl⟩;rw [←hd2] at gyn2 ey2;have f4:=zio d2 c2;have hset2:=zcW (b:=18446744073709551616) (l:=y2) (i:=n) (x:=(d2+c2)%18446744073709551616) (by omega);rw [←hd2] at hset2;have hsp:=zeZ (18446744073709551616^n) 18446744073709551616 (d2+c2);have hz2W:(d2+c2)%18446744073709551616<18446744073709551616:=Nat.mod_lt _ hb0;have hc3:(d2+c2)/18446744073709551616≤1:=by omega
  generalize (d2+c2)%18446744073709551616=z2 at*
  generalize (d2+c2)/18446744073709551616=c3 at*
  have hst2:=fun (hp:Hp) (ct:Nat)=>stU (hp:=hp) (ct:=ct) (id:=0) (v:=z2) (ex:=true) (l:=pre++y2++post) (o:=pre.length+n) (by rw [zcb];omega)
  have hmid2:=zjf (pre:=pre) (x:=y2) (post:=post) (i:=n) z2 (by omega);have gy3:lo 18446744073709551616 (y2.set n z2):=zcj gy2 hz2W;have ly3:(y2.set n z2).length=n+1:=by simp [ly2]
  have hY3:=zd4 gy3;rw [ly3] at hY3;have hq0:0<q:=by rw [e1];exact Nat.succ_pos _
  have hq3:bv 18446744073709551616 x/bv 18446744073709551616 vs=q-1:=by rw [e1,Nat.add_sub_cancel]
  have f5:binOp .sub (uc q) (.int .u64 1)=some (uc (q-1)):=zpN (b:=1) (by omega) (by omega);simp only [go_sem,reduceEqDiff,reduceAdd,reduceLT,Nat.mul_one,zbP,zck,zcG,zbt,za8,and_true,t0,t5,t6,t17,zY 0 pre.length (show n<n+1 by omega),ey2,f4,hst2,hmid2,f5];refine ⟨_,y2.set n z2,rfl,by rw [hq3];simp only [go_sem],ly3,gy3,?_⟩;have hm:=Nat.mod_lt (bv 18446744073709551616 x) hV;have e3:bv 18446744073709551616 (y2.set n z2)+18446744073709551616^(n+1)*c3=18446744073709551616^(n+1)+bv 18446744073709551616 x%bv 18446744073709551616 vs:=by
   rw [←e2,←hval2,Nat.pow_succ];rw [Nat.mul_add] at hsp;generalize 18446744073709551616^n*18446744073709551616*c3=p1 at*
   generalize 18446744073709551616^n*z2=p2 at*
   generalize 18446744073709551616^n*d2=p3 at*
   generalize 18446744073709551616^n*c2=p4 at*
   omega
  rcases (show c3=0∨c3=1 by omega) with rfl | rfl
  ·omega
  ·omega
theorem zQo (h:Wd P L) {w:AV} {x vs pre post qs:List Nat} (hw:IsU w vs) {n v1 v2 u0 u1 u2:Nat} (hl:Lead x vs n v1 v2 u0 u1 u2):
  ∃x',zbj P L (D P L) (H2 qs (pre++x++post)) 2 169 [.osl 0 pre.length (n+1),w]=some (uc (bv 18446744073709551616 x/bv 18446744073709551616 vs),H2 qs (pre++x'++post),2)∧x'.length=n+1∧lo 18446744073709551616 x'∧bv 18446744073709551616 x'=bv 18446744073709551616 x%bv 18446744073709551616 vs:=by
 have hn2:=hl.n2;have hnb:=hl.nb;have hbw:zcT 2 w:=zba hw.pu;have n1e:(n:Int)-1=((n-1:Nat):Int):=by omega
 have ev1:=hw.ixa (i:=n-1) (by have:=hl.lv;omega);rw [hl.hv1] at ev1;have eu0:=zhz (l:=pre++x++post) (o:=pre.length+n) (by rw [zcb];have:=hl.lx;omega)
 rw [ze6 (by have:=hl.lx;omega),hl.h0] at eu0;have eu1:=zhz (l:=pre++x++post) (o:=pre.length+(n-1)) (by rw [zcb];have:=hl.lx;omega)
 rw [ze6 (by have:=hl.lx;omega),hl.h1] at eu1;have hv1W:=hl.v1W;have hu1W:=hl.u1W;have htop:=hl.top;have goal:∃tm x',D P L c169.body ⟨zab 0 [.osl 0 pre.length (n+1),w],H2 qs (pre++x++post),2,2⟩=some (.ret,⟨tm,H2 qs (pre++x'++post),2,2⟩)∧zc tm 4=uc (bv 18446744073709551616 x/bv 18446744073709551616 vs)∧x'.length=n+1∧lo 18446744073709551616 x'∧bv 18446744073709551616 x'=bv 18446744073709551616 x%bv 18446744073709551616 vs:=by
  have behind:∀(tm1:Env) (q:Nat),zc tm1 0= .osl 0 pre.length (n+1)→zc tm1 1=w→zc tm1 5=zh n→zc tm1 6=uc q→q<18446744073709551616→bv 18446744073709551616 x/bv 18446744073709551616 vs≤q→q≤bv 18446744073709551616 x/bv 18446744073709551616 vs+1→
    ∃tm x',zfp P L (zfp P L (zhb 0 (some (Ex.exit 0,⟨tm1,H2 qs (pre++x++post),2,2⟩))) (.kp [0,1,5,6])) (zw (zw (zw (zw (zw (zw c169.body))))))=some (.ret,⟨tm,H2 qs (pre++x'++post),2,2⟩)∧zc tm 4=uc (bv 18446744073709551616 x/bv 18446744073709551616 vs)∧x'.length=n+1∧lo 18446744073709551616 x'∧bv 18446744073709551616 x'=bv 18446744073709551616 x%bv 18446744073709551616 vs:=by
   intro tm1 q t0 t1 t5 t6 g1 g2 g3;have hk:keep tm1 [0,1,5,6]=[(0,.osl 0 pre.length (n+1)),(1,w),(5,zh n),(6,uc q)]:=by simp only [go_sem,t0,t1,t5,t6]
   rw [zsq,zaI,zNe,zbP (by rw [hk];simp only [go_sem,reduceLT,zck,zcG,zbt,za8,hbw,and_true]) (by rw [hk];simp only [go_sem,reduceAdd,reduceLT,zb hw.pu]),zaI,hk];exact zHt h hw hl g1 g2 g3
  by_cases hc:u0<v1
  ·have f1:=zM3 h.h165 h.h167 (P:=P) (L:=L) hc hu1W hv1W;have hdm:=Nat.div_add_mod (u0*18446744073709551616+u1) v1;have hmod:=Nat.mod_lt (u0*18446744073709551616+u1) hl.pos;have hqW:(u0*18446744073709551616+u1)/v1<18446744073709551616:=by
    refine (Nat.div_lt_iff_lt_mul hl.pos).2 ?_
    have:=Nat.mul_le_mul_right 18446744073709551616 (show u0+1≤v1 from hc)
    rw [Nat.mul_comm 18446744073709551616 v1];omega
   have hfirst:=hl.first;rw [Nat.mul_comm] at hdm;generalize (u0*18446744073709551616+u1)/v1=q0 at*
   generalize (u0*18446744073709551616+u1)%v1=r0 at*
   unfold zK at f1
   simp only [go_sem,reduceEqDiff,Nat.mul_one,c169,H2,hw.len,hl.lv,n1e,zy (n:=n-1) (by omega),ev1,zY 0 pre.length (show n<n+1 by omega),zY 0 pre.length (show n-1<n+1 by omega),eu0,eu1,show ¬(v1:Int)≤(u0:Int) by omega,f1];generalize hqq:D P L (.loop [0,1,5,6,7,8] zeX) _=qq;obtain ⟨ex,s,rfl,tm1,q,rfl,rfl,t0,t1,t5,t6,g1,g2,g3⟩:=z8 hqq (zxZ (P:=P) (L:=L) h.h143 h.h171 hw hl (pre:=pre) (post:=post) (qs:=qs) q0) ⟨q0,r0,by
    rw [zbP (by simp only [go_sem,reduceEqDiff,reduceLT,zck,zcG,zbt,za8,hbw,and_true]) (by simp only [go_sem,reduceEqDiff,reduceAdd,reduceLT,zb hw.pu])];rw [Nat.mod_eq_of_lt (show r0<18446744073709551616 by omega),Nat.div_eq_of_lt (show r0<18446744073709551616 by omega)]
    simp only [go_sem,reduceEqDiff]<;>rfl,hdm,by omega,hqW,hfirst,rfl⟩
   exact behind tm1 q t0 t1 t5 t6 g1 g2 g3
  ·have heq:u0=v1:=by omega
   have f1:=zgE (P:=P) (f:=D P L) h.h171 hu1W hv1W (c:=0) (by omega);rw [Nat.add_zero,show (uc 0)=AV.int .u64 0 from rfl] at f1;have hdig:=hl.digit
   simp only [go_sem,reduceEqDiff,Nat.mul_one,c169,H2,hw.len,hl.lv,n1e,zy (n:=n-1) (by omega),ev1,zY 0 pre.length (show n<n+1 by omega),zY 0 pre.length (show n-1<n+1 by omega),eu0,eu1,show (v1:Int)≤(u0:Int) by omega,f1];generalize hqq:D P L (.loop [0,1,5,6,7,8] zeX) _=qq;obtain ⟨ex,s,rfl,tm1,q,rfl,rfl,t0,t1,t5,t6,g1,g2,g3⟩:=z8 hqq (zxZ (P:=P) (L:=L) h.h143 h.h171 hw hl (pre:=pre) (post:=post) (qs:=qs) 18446744073709551615) ⟨18446744073709551615,u1+v1,by
    rw [zbP (by simp only [go_sem,reduceEqDiff,reduceLT,zck,zcG,zbt,za8,hbw,and_true]) (by simp only [go_sem,reduceEqDiff,reduceAdd,reduceLT,zb hw.pu])]
    simp only [go_sem,reduceEqDiff]<;>rfl,by rw [heq];omega,by omega,by decide,by omega,rfl⟩
   exact behind tm1 q t0 t1 t5 t6 g1 g2 g3
 obtain ⟨tm,x',g1,g2,g3,g4,g5⟩:=goal;refine ⟨x',?_,g3,g4,g5⟩;exact zrO h.h169 g1 (.inr rfl) (by show zaq _ [RV.t 4]=_;rw [zGN,zxK,g2])
end
end VE
end
section
namespace VE
open Go (IntKind)
def WN (v:AV) (m:Nat):Prop:=∃l,IsU v l∧lo 18446744073709551616 l∧nzN l∧bv 18446744073709551616 l=m
theorem zwy (i:Nat) (q:List Nat) (x:Nat):(List.replicate (i+1) 0++q).set i x=List.replicate i 0++x::q:=by
 rw [List.replicate_succ',List.append_assoc];rw [List.set_append_right _ _ (by simp)]
 simp
theorem zi6 {b:Nat} {l:List Nat} {i:Nat} (h:i<l.length):bv b (l.drop i)=l.getD i 0+b*bv b (l.drop (i+1)):=by
 rw [List.drop_eq_getElem_cons h,gd h];rfl
theorem zp1 {v w:AV} {x y:List Nat} (hv:IsU v x) (hw:IsU w y) (hp:Hp):zaL hp (.tup [v,w])=some (.tup [v,w]):=by
 rcases hv with ⟨rfl,_⟩ | ⟨e,rfl⟩<;>rcases hw with ⟨rfl,_⟩ | ⟨e',rfl⟩<;>rfl
theorem zBL {hp:Hp} {id n l h:Nat} {pu ex:Bool} {cs:List AV} {tm:Env} {x y:X} (hg:zq hp id=some (.cells true pu ex 1 cs)) (hx:zao tm 0 (some x)=some l) (hy:zao tm n (some y)=some h) (h1:l<h) (h2:h≤n):
  zbe hp (.sl 1) (.osl id 0 n) tm (some x) (some y)=some (.osl id l (h-l)):=by
 simp only [zbe,hg,hx,hy,Nat.ble_eq_true_of_le (Nat.le_of_lt h1),Nat.ble_eq_true_of_le h2,Nat.beq_refl,Bool.and_self,cond_true,zaH (Nat.ne_of_lt h1),Bool.false_and,cond_false,Nat.zero_add,Nat.mul_one]
theorem zoz {hp:Hp} {id n h:Nat} {pu ex:Bool} {cs:List AV} {tm:Env} {y:X} (hg:zq hp id=some (.cells true pu ex 1 cs)) (hy:zao tm n (some y)=some h) (h1:0<h) (h2:h≤n):
  zbe hp (.sl 1) (.osl id 0 n) tm none (some y)=some (.osl id 0 h):=by
 have hx:zao tm 0 none=some 0:=rfl;simp only [zbe,hg,hx,hy,Nat.ble_eq_true_of_le (Nat.zero_le h),Nat.ble_eq_true_of_le h2,Nat.beq_refl,Bool.and_self,cond_true,zaH (show (0:Nat)≠h by omega),Bool.false_and,cond_false,Nat.zero_mul,Nat.add_zero,Nat.sub_zero]
theorem zDr (P:zN) (L:Lib) (f:Run) (hp:Hp) (ct n:Nat) (xs:List AV):zaw P L f hp ct .heap (.fn (.f n) [] []) xs=zbj P L f hp ct n xs:=by
 simp only [zaw,List.nil_append,List.append_nil]
section
variable {P:zN} {L:Lib}
theorem zJr (h:Wd P L) {v w:AV} {x:List Nat} (hv:IsU v x) (hx:lo 18446744073709551616 x) (lx:x.length≤99999999999) {d:Nat} (hw:IsU w [d]) (hd0:0<d) (hdW:d<18446744073709551616) {n:Nat} (hn:n=x.length):
  ∀k s,(∃(i r:Nat) (q:List Nat),zA [0,1,6,7,8] s=⟨[(0,v),(1,w),(6,.osl 0 0 n),(7,uc r),(8,zh ((i:Int)-1))],[(0,.cells true true true 1 ((List.replicate i 0++q).map uc))],1,0⟩∧i=k∧i+q.length=n∧lo 18446744073709551616 q∧r<d∧bv 18446744073709551616 (x.drop i)=bv 18446744073709551616 q*d+r)→
   ∃ex s',D P L (.loop [0,1,6,7,8] zkm) s=some (ex,s')∧∃tm r q,s'=⟨tm,[(0,.cells true true true 1 (q.map uc))],1,0⟩∧ex= .exit 0∧zc tm 6= .osl 0 0 n∧zc tm 7=uc r∧q.length=n∧lo 18446744073709551616 q∧r<d∧bv 18446744073709551616 x=bv 18446744073709551616 q*d+r:=by
 refine zS (I:=fun k s=>∃(i r:Nat) (q:List Nat),s=⟨[(0,v),(1,w),(6,.osl 0 0 n),(7,uc r),(8,zh ((i:Int)-1))],[(0,.cells true true true 1 ((List.replicate i 0++q).map uc))],1,0⟩∧i=k∧i+q.length=n∧lo 18446744073709551616 q∧r<d∧bv 18446744073709551616 (x.drop i)=bv 18446744073709551616 q*d+r)
  (Q:=fun ex s'=>∃tm r q,s'=⟨tm,[(0,.cells true true true 1 (q.map uc))],1,0⟩∧ex= .exit 0∧zc tm 6= .osl 0 0 n∧zc tm 7=uc r∧q.length=n∧lo 18446744073709551616 q∧r<d∧bv 18446744073709551616 x=bv 18446744073709551616 q*d+r) ?_
 rintro k s ⟨i,r,q,rfl,rfl,hlen,hlo,hr,hval⟩
 cases i with
 | zero=>
  right
  simp only [go_sem,reduceEqDiff,zkm,show ¬(0:Int)≤((0:Nat):Int)-1 by omega];exact ⟨_,_,rfl,by simp,_,r,q,rfl,rfl,by simp only [go_sem,reduceEqDiff],by simp only [go_sem,reduceEqDiff],by omega,hlo,hr,by simpa using hval⟩
 | succ i=>
  left
  have gx:=zaZ (show 0<18446744073709551616 by decide) hx i;have e1:=hv.ixa (i:=i) (by omega);have e2:=hw.ixa (i:=0) (by simp);have hdr:=zi6 (b:=18446744073709551616) (l:=x) (i:=i) (by omega);rw [show ([d]:List Nat).getD 0 0=d from rfl] at e2;generalize x.getD i 0=a at*
  have e3:=zM3 (P:=P) (L:=L) h.h165 h.h167 hr gx hdW;have hdm:=Nat.div_add_mod (r*18446744073709551616+a) d;have hmod:=Nat.mod_lt (r*18446744073709551616+a) hd0;have hqW:(r*18446744073709551616+a)/d<18446744073709551616:=by
   refine (Nat.div_lt_iff_lt_mul hd0).2 ?_
   have:=Nat.mul_le_mul_right 18446744073709551616 (show r+1≤d from hr)
   rw [Nat.mul_comm 18446744073709551616 d];omega
  generalize (r*18446744073709551616+a)/d=q1 at*
  generalize (r*18446744073709551616+a)%d=r1 at*
  unfold zK at e3;have hst:=fun (hp:Hp) (ct:Nat)=>stU (hp:=hp) (ct:=ct) (id:=0) (v:=q1) (ex:=true) (l:=List.replicate (i+1) 0++q) (o:=i) (by simp;omega)
  simp only [go_sem,reduceEqDiff,Nat.mul_one,zkm,show ((i+1:Nat):Int)-1=(i:Int) by omega,show (0:Int)≤(i:Int) by omega,e1,e2,e3,zY 0 0 (show i<n by omega),Nat.zero_add,hst,zwy];refine ⟨_,i,rfl,by omega,i,r1,q1::q,?_,rfl,by simp;omega,lo_append.2 ⟨lo_one.2 hqW,hlo⟩,hmod,?_⟩
  ·rw [ze (by omega) (by omega)];have hw':=hw;simp only [go_sem,reduceEqDiff,reduceAdd,za,zb hv.pu,zd _ hv.pu,zb hw.pu,zd _ hw.pu]<;>rfl
  ·rw [hdr,hval];simp only [bv];rw [Nat.add_mul,Nat.mul_add,←Nat.mul_assoc 18446744073709551616];rw [Nat.mul_comm d q1] at hdm;generalize 18446744073709551616*bv 18446744073709551616 q*d=p at*
   omega
theorem ztS {s u u1:Nat} (hs:s<64) (hu:u<18446744073709551616):u/2^s<18446744073709551616∧(0<s→u/2^s|||(u1*2^(64-s)%18446744073709551616)<18446744073709551616)∧
  (if 0<s then (u/2^s|||(u1*2^(64-s)%18446744073709551616)) else u/2^s)*2^s+u%2^s=u+18446744073709551616*(u1%2^s):=by
 have e:18446744073709551616=2^s*2^(64-s):=by rw [←Nat.pow_add,show s+(64-s)=64 by omega]
 have h1:u1*2^(64-s)%18446744073709551616=(u1%2^s)*2^(64-s):=by rw [e,Nat.mul_mod_mul_right]
 have hp:=Nat.two_pow_pos s;have h2:u/2^s<2^(64-s):=by
  refine (Nat.div_lt_iff_lt_mul hp).2 ?_;rw [Nat.mul_comm,←e];exact hu
 have h3:u/2^s|||(u1*2^(64-s)%18446744073709551616)=(u1%2^s)*2^(64-s)+u/2^s:=by rw [h1,Nat.or_comm,zpl h2]
 have h4:(u1%2^s)*2^(64-s)+u/2^s<18446744073709551616:=by
  have:=Nat.mul_le_mul_right (2^(64-s)) (show u1%2^s+1≤2^s from Nat.mod_lt _ hp)
  rw [←e,Nat.add_mul,Nat.one_mul] at this;exact Nat.lt_of_lt_of_le (Nat.add_lt_add_left h2 _) this
 have h5:=Nat.mod_add_div u (2^s);refine ⟨Nat.lt_of_le_of_lt (Nat.div_le_self _ _) hu,fun _=>by rw [h3];exact h4,?_⟩
 split
 ·rw [h3,Nat.add_mul,Nat.mul_assoc,Nat.mul_comm (2^(64-s)),←e];rw [Nat.mul_comm (2^s)] at h5;rw [Nat.mul_comm _ 18446744073709551616,Nat.add_assoc,Nat.add_comm (_*_) (u%2^s),h5,Nat.add_comm]
 ·have:s=0:=by omega
  subst this;simp [Nat.mod_one]
theorem zDY {us qs:List Nat} {n la m s:Nat} (hs:s<64) (lu:us.length=la) (gu:lo 18446744073709551616 us) (hn:n<la) (hla:la≤100000000000):
  ∀k st,(∃(i:Nat) (rs:List Nat),zA [9,11,12,13,96,97] st=⟨[(9,zh s),(11,.osl 0 0 la),(12,zh n),(13,.osl 1 0 m),(96,zh n),(97,zh i)],H2 qs (rs++us.drop i),2,0⟩∧i+k=n∧rs.length=i∧lo 18446744073709551616 rs∧bv 18446744073709551616 rs*2^s+us.getD 0 0%2^s=bv 18446744073709551616 (us.take i)+18446744073709551616^i*(us.getD i 0%2^s))→
   ∃ex st',D P L (.loop [9,11,12,13,96,97] zif) st=some (ex,st')∧∃tm rs,st'=⟨tm,H2 qs (rs++us.drop n),2,0⟩∧ex= .exit 4∧zc tm 11= .osl 0 0 la∧zc tm 12=zh n∧zc tm 13= .osl 1 0 m∧rs.length=n∧lo 18446744073709551616 rs∧bv 18446744073709551616 rs*2^s+us.getD 0 0%2^s=bv 18446744073709551616 (us.take n)+18446744073709551616^n*(us.getD n 0%2^s):=by
 refine zS (I:=fun k st=>∃(i:Nat) (rs:List Nat),st=⟨[(9,zh s),(11,.osl 0 0 la),(12,zh n),(13,.osl 1 0 m),(96,zh n),(97,zh i)],H2 qs (rs++us.drop i),2,0⟩∧i+k=n∧rs.length=i∧lo 18446744073709551616 rs∧bv 18446744073709551616 rs*2^s+us.getD 0 0%2^s=bv 18446744073709551616 (us.take i)+18446744073709551616^i*(us.getD i 0%2^s))
  (Q:=fun ex st'=>∃tm rs,st'=⟨tm,H2 qs (rs++us.drop n),2,0⟩∧ex= .exit 4∧zc tm 11= .osl 0 0 la∧zc tm 12=zh n∧zc tm 13= .osl 1 0 m∧rs.length=n∧lo 18446744073709551616 rs∧bv 18446744073709551616 rs*2^s+us.getD 0 0%2^s=bv 18446744073709551616 (us.take n)+18446744073709551616^n*(us.getD n 0%2^s)) ?_
 rintro k st ⟨i,rs,rfl,hk,lr,gr,hval⟩;by_cases hi:i<n
 ·left
  have hb0:(0:Nat)<18446744073709551616:=by decide
  have g0:=zaZ hb0 gu i;have g1:=zaZ hb0 gu (i+1);have d0:us.drop i=us.getD i 0::us.getD (i+1) 0::us.drop (i+2):=by
   rw [List.drop_eq_getElem_cons (show i<us.length by omega),List.drop_eq_getElem_cons (show i+1<us.length by omega),gd,gd]
  have htk:=zaW (b:=18446744073709551616) (l:=us) i;have hnew:∀r,r<18446744073709551616→r*2^s+us.getD i 0%2^s=us.getD i 0+18446744073709551616*(us.getD (i+1) 0%2^s)→lo 18446744073709551616 (rs++[r])∧bv 18446744073709551616 (rs++[r])*2^s+us.getD 0 0%2^s=bv 18446744073709551616 (us.take (i+1))+18446744073709551616^(i+1)*(us.getD (i+1) 0%2^s):=fun r h1 h2=>by
   refine ⟨lo_append.2 ⟨gr,lo_one.2 h1⟩,?_⟩;rw [zbG,zfi,lr,htk,Nat.add_mul,Nat.pow_succ,Nat.mul_assoc,Nat.mul_assoc];have e2:=congrArg (fun t=>18446744073709551616^i*t) h2;simp only [Nat.mul_add] at e2;generalize 18446744073709551616^i*(r*2^s)=p1 at*
   generalize 18446744073709551616^i*(us.getD i 0%2^s)=p2 at*
   generalize 18446744073709551616^i*us.getD i 0=p3 at*
   generalize 18446744073709551616^i*(18446744073709551616*(us.getD (i+1) 0%2^s))=p4 at*
   omega
  have hdr1:us.drop (i+1)=us.getD (i+1) 0::us.drop (i+2):=by
   rw [List.drop_eq_getElem_cons (show i+1<us.length by omega),gd]
  generalize us.getD i 0=a at*
  obtain ⟨c,hc⟩:∃c,c=us.getD (i+1) 0:=⟨_,rfl⟩;rw [←hc] at g1 d0 hdr1 hnew;generalize us.drop (i+2)=dr at*
  rw [d0];obtain ⟨n1,n2,n3⟩:=ztS (u1:=c) hs g0;have o1:=zwS .i64 a (s:=s) (by omega);have o2:=zxP .i64 c (s:=64-s) (by omega);have o3:binOp .sub (.int .i64 64) (zh s)=some (zh (64-s:Nat)):=by
   rw [zjg,ze (by omega) (by omega)];congr 2;omega
  have o4:=orU n1 (Nat.mod_lt (c*2^(64-s)) hb0);have sa:∀z y,(rs++z::y).set i a=rs++a::y:=fun z y=>by rw [List.set_append_right _ _ (by omega),lr];simp
  have e0:∀z y,List.drop i ((rs++z::y).map uc)=uc z::y.map uc:=fun z y=>by
   rw [List.map_append,List.drop_left' (by simp [lr])];rfl
  have e1:∀z y u,List.drop (i+1) ((rs++z::y::u).map uc)=uc y::u.map uc:=fun z y u=>by
   rw [show rs++z::y::u=(rs++[z])++y::u by simp,List.map_append,List.drop_left' (by simp [lr])];rfl
  have st0:∀(hp:Hp) (ct x z:Nat) (y:List Nat),stC hp ct 0 i 1 [.int .u64 (x:Int)] (some (.cells true true true 1 ((rs++z::y).map uc)))=some (.tup [],z7 hp 0 (.cells true true true 1 ((rs++x::y).map uc)),ct):=fun hp ct x z y=>by
   rw [stU (by simp;omega),List.set_append_right _ _ (by omega),lr];simp
  by_cases h0:0<s
  ·rw [if_pos h0] at n3;obtain ⟨f1,f2⟩:=hnew _ (n2 h0) n3;generalize a/2^s=a1 at*
   generalize a1|||(c*2^(64-s)%18446744073709551616)=r at*
   simp only [go_sem,reduceEqDiff,Nat.mul_one,zif,H2,show (i:Int)<(n:Int) by omega,zY 0 0 (show i<la by omega),Nat.zero_add,e0,o1,st0,show (0:Int)<(s:Int) by omega,show (i:Int)+1=((i+1:Nat):Int) from rfl,zy (n:=i+1) (by omega),show ((i+1:Nat):Int)<(la:Int) by omega,zY 0 0 (show i+1<la by omega),e1,o3,o2,o4];refine ⟨_,k-1,rfl,by omega,i+1,rs++[r],by simp only [go_sem,reduceEqDiff,reduceAdd,za];rw [hdr1];simp,by omega,by simp [lr],f1,by rw [←hc];exact f2⟩
  ·rw [if_neg h0] at n3;obtain ⟨f1,f2⟩:=hnew _ n1 n3;generalize a/2^s=a1 at*
   simp only [go_sem,reduceEqDiff,Nat.mul_one,zif,H2,show (i:Int)<(n:Int) by omega,zY 0 0 (show i<la by omega),Nat.zero_add,e0,o1,st0,show ¬(0:Int)<(s:Int) by omega,show (i:Int)+1=((i+1:Nat):Int) from rfl,zy (n:=i+1) (by omega)];refine ⟨_,k-1,rfl,by omega,i+1,rs++[a1],by simp only [go_sem,reduceEqDiff,reduceAdd,za];rw [hdr1];simp,by omega,by simp [lr],f1,by rw [←hc];exact f2⟩
 ·right
  have:i=n:=by omega
  subst this;simp only [go_sem,reduceEqDiff,zif,H2,show ¬(i:Int)<(i:Int) by omega];exact ⟨_,_,rfl,by simp,_,rs,rfl,rfl,by simp only [go_sem,reduceEqDiff],by simp only [go_sem,reduceEqDiff],by simp only [go_sem,reduceEqDiff],lr,gr,hval⟩
end
end VE
end
