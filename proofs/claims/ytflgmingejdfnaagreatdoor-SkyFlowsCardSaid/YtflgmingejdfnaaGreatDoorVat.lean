import Derived.Test.YtflgmingejdfnaaGreatDoorVas
import Derived.Test.YtflgmingejdfnaaGreatDoorVaq
set_option linter.all false
set_option maxRecDepth 100000
open Bool renaming and_self→ve,not_false→yI,true_and→xt
open Int renaming ediv_emod_unique→uD,reduceEq→tk
open List renaming append_assoc→xu,drop_drop→vC,drop_zero→yj,length_cons→yv,length_drop→wu,length_nil→yF,length_pos_iff→uE,length_take→yT,take_append_drop→xP,take_of_length_le→yL
open Nat renaming add_comm→yaI,add_zero→yX,div_add_mod→wB,div_eq_of_lt→wS,div_le_self→uy,eq_zero_or_pos→xr,le_trans→xi,lt_of_le_of_lt→wD,lt_of_lt_of_le→yH,mod_eq_of_lt→yP,mod_le→ybQ,mod_lt→xC,mul_add_div→yaO,mul_add_mod→yaP,mul_assoc→xk,mul_comm→xN,mul_le_mul_left→yS,mul_le_mul_right→yZ,mul_lt_mul''→tv,mul_lt_mul_of_pos_right→wH,mul_one→yi,mul_zero→xJ,pos_of_ne_zero→yap,pow_add→wP,pow_le_pow_right→xn,pow_succ→xg,reduceAdd→yb,reduceEqDiff→ya,reduceLeDiff→yg,zero_add→yd
namespace VE
section
open Go (IntKind)
def Y5 {b p A V bu bq0 U0 pre:Nat} (h1:bu=pre+p*A) (h2:bu+bq0*V=U0):(pre+p*(A%V))+(bq0+p*(A/V))*V=U0:=by
 have fL:=wB A V
 grind
def atl (hp:Hp) (ct:Nat) (ex:Bool) (sz n:Nat) (cs:List AV):own hp ct (.cG ex sz n cs)=(.ak ct 0 n,(ct,.cells true true ex sz cs)::hp,ct+1):=rfl
section
variable {P:aK} {L:Lib}
def arF (h:Wd P L) {w:AV} {vs:List Nat} (hw:bJ w vs) (gv:lo 18446744073709551616 vs) {n la m:Nat} (lv:vs.length=n) (ew:2<=n) (Od:n<=la) (Kf:la<=99999999999) (hm:m=la-n+1) (er:0<vs.getD (n-1) 0) {s U0:Nat}:
  ∀k st,(∃(j:Nat) (us qs:List Nat),bH [9,10,11,12,13,14] st=⟨[(9,aa s),(10,w),(11,.ak 0 0 (la+1)),(12,aa n),(13,.ak 1 0 m),(14,aa ((j:Int)-1))],H2 qs us,2,0⟩/\j=k/\j<=m/\us.length=la+1/\qs.length=m/\lo 18446744073709551616 us/\lo 18446744073709551616 qs/\(∀i,i<j->qs.getD i 0=0)/\
    bv 18446744073709551616 us+bv 18446744073709551616 qs*bv 18446744073709551616 vs=U0/\bv 18446744073709551616 (us.drop j)<bv 18446744073709551616 vs)->
   ∃ex st',D P L (.loop [9,10,11,12,13,14] HZ) st=some (ex,st')/\∃tm us qs,st'=⟨tm,H2 qs us,2,0⟩/\ex= .exit 2/\af tm 9=aa s/\af tm 11= .ak 0 0 (la+1)/\af tm 12=aa n/\af tm 13= .ak 1 0 m/\us.length=la+1/\qs.length=m/\lo 18446744073709551616 us/\lo 18446744073709551616 qs/\
    bv 18446744073709551616 us+bv 18446744073709551616 qs*bv 18446744073709551616 vs=U0/\bv 18446744073709551616 us<bv 18446744073709551616 vs:=by
 refine cC (I:=fun k st=>∃(j:Nat) (us qs:List Nat),st=⟨[(9,aa s),(10,w),(11,.ak 0 0 (la+1)),(12,aa n),(13,.ak 1 0 m),(14,aa ((j:Int)-1))],H2 qs us,2,0⟩/\j=k/\j<=m/\us.length=la+1/\qs.length=m/\lo 18446744073709551616 us/\lo 18446744073709551616 qs/\(∀i,i<j->qs.getD i 0=0)/\
    bv 18446744073709551616 us+bv 18446744073709551616 qs*bv 18446744073709551616 vs=U0/\bv 18446744073709551616 (us.drop j)<bv 18446744073709551616 vs)
  (Q:=fun ex st'=>∃tm us qs,st'=⟨tm,H2 qs us,2,0⟩/\ex= .exit 2/\af tm 9=aa s/\af tm 11= .ak 0 0 (la+1)/\af tm 12=aa n/\af tm 13= .ak 1 0 m/\us.length=la+1/\qs.length=m/\lo 18446744073709551616 us/\lo 18446744073709551616 qs/\
    bv 18446744073709551616 us+bv 18446744073709551616 qs*bv 18446744073709551616 vs=U0/\bv 18446744073709551616 us<bv 18446744073709551616 vs) ?_
 rintro k st ⟨j,us,qs,rfl,rfl,hj,lu,lq,gu,gq,hz,aT,nL⟩
 cases j with
 | zero=>
  right
  simp only [go_sem,ya,HZ,H2,show ¬(0:Int)<=((0:Nat):Int)-1 by omega];exact ⟨_,_,rfl,by simp,_,us,qs,rfl,rfl,by simp only [go_sem,ya],by simp only [go_sem,ya],by simp only [go_sem,ya],by simp only [go_sem,ya],lu,lq,gu,gq,aT,by simpa using nL⟩
 | succ j=>
  left
  have dL:(0:Nat)<18446744073709551616:=by decide
  obtain ⟨pre,eV⟩:∃p,p=us.take j:=⟨_,rfl⟩;obtain ⟨x,hx⟩:∃p,p=(us.drop j).take (n+1):=⟨_,rfl⟩;obtain ⟨post,gA⟩:∃p,p=us.drop (j+(n+1)):=⟨_,rfl⟩;have lp:pre.length=j:=by rw [eV,yT];omega
  have lx:x.length=n+1:=by rw [hx,yT,wu];omega
  have jQ:us=pre++x++post:=by
   rw [eV,hx,gA,<-vC,xu,xP,xP]
  have gx:lo 18446744073709551616 x:=by rw [hx];exact AM (aa4 gu _) _
  have Th:lo 18446744073709551616 pre:=by rw [eV];exact AM gu _
  have atm:lo 18446744073709551616 post:=by rw [gA];exact aa4 gu _
  have hA:bv 18446744073709551616 (us.drop j)=us.getD j 0+18446744073709551616*bv 18446744073709551616 (us.drop (j+1)):=LY (by omega);have hgj:=gm dL gu j;have FG:us.drop j=x++post:=by rw [gA,hx,<-vC,xP]
  have Am:bv 18446744073709551616 (us.drop j)=bv 18446744073709551616 x+18446744073709551616^(n+1)*bv 18446744073709551616 post:=by rw [FG,qR,lx]
  have Kd:=mi gv;rw [lv] at Kd;have bi:bv 18446744073709551616 (us.drop j)<18446744073709551616*bv 18446744073709551616 vs:=by omega
  have hp0:bv 18446744073709551616 post=0:=by
   rcases xr (bv 18446744073709551616 post) with e | e
   ·exact e
   ·have h1:=yS (18446744073709551616^(n+1)) e;rw [yi,xg] at h1;rw [xg] at Am;omega
  rw [hp0,xJ,yX] at Am;have hl:fT x vs n (vs.getD (n-1) 0) (vs.getD (n-2) 0) (x.getD n 0) (x.getD (n-1) 0) (x.getD (n-2) 0):=
   ⟨ew,by omega,lx,lv,gx,gv,rfl,rfl,rfl,rfl,rfl,er,by rw [<-Am];exact bi⟩
  have NM:=hl.digit;obtain ⟨x',e1,Vw,O3,Kg⟩:=auO h hw hl (pre:=pre) (post:=post) (qs:=qs);rw [lp,<-jQ] at e1;have Vx:bv 18446744073709551616 us=bv 18446744073709551616 pre+18446744073709551616^j*bv 18446744073709551616 x:=by
   have:=Hw (b:=18446744073709551616) us j (by omega)
   rw [Am,<-eV] at this;exact this
  have Ti:bv 18446744073709551616 (pre++x'++post)=bv 18446744073709551616 pre+18446744073709551616^j*bv 18446744073709551616 x':=by
   rw [xu,qR,qR,hp0,xJ,yX,lp]
  have aY:=nC (b:=18446744073709551616) (l:=qs) (i:=j) (x:=bv 18446744073709551616 x/bv 18446744073709551616 vs) (by omega);rw [hz j (by omega),xJ,yX] at aY;have lF:=Y5 (b:=0) Vx aT;have bf:=fun (hp:Hp) (ct:Nat)=>kj (hp:=hp) (ct:=ct) (id:=1) (v:=bv 18446744073709551616 x/bv 18446744073709551616 vs) (ex:=true) (l:=qs) (o:=j) (by omega)
  have qC:0<bv 18446744073709551616 vs:=by omega
  have p9:=xC (bv 18446744073709551616 x) qC;have lI:∀tm (x y:X),cV tm 0 (some x)=some j->cV tm (la+1) (some y)=some (j+n+1)->fA (H2 qs us) (.sl 1) (.ak 0 0 (la+1)) tm (some x) (some y)=some (.ak 0 j (n+1)):=fun tm x y h1 h2=>by
   rw [ape (cs:=us.map uc) (pu:=true) (ex:=true) rfl h1 h2 (by omega) (by omega),show j+n+1-j=n+1 by omega]
  simp only [go_sem,ya,yi,HZ,H2,show ((j+1:Nat):Int)-1=(j:Int) by omega,show (0:Int)<=(j:Int) by omega,show (j:Int)+(n:Int)=((j+n:Nat):Int) from rfl,wrapN (n:=j+n) (by omega),show ((j+n:Nat):Int)+1=((j+n+1:Nat):Int) from rfl,wrapN (n:=j+n+1) (by omega),lI,dO,aeA,e1,dd 1 0 (show j<m by omega),yd,bf];refine ⟨_,j,rfl,by omega,j,pre++x'++post,qs.set j (bv 18446744073709551616 x/bv 18446744073709551616 vs),?_,rfl,by omega,by rw [oB,lp,Vw,gA,wu];omega,by simp [lq],K8.2 ⟨K8.2 ⟨Th,O3⟩,atm⟩,me gq NM,fun i hi=>by rw [oA (by omega)];exact hz i (by omega),?_,?_⟩
  ·rw [wrap64 (by omega) (by omega)];simp only [go_sem,ya,yb,aD,aM hw.pu,aQ _ hw.pu]<;>rfl
  ·rw [Ti,Kg,aY];exact lF
  ·rw [xu,List.drop_left' lp,qR,hp0,xJ,yX,Kg];exact p9
def atn {l:List Nat} {n:Nat} (h:l.length=n+1):18446744073709551616^n*l.getD n 0<=bv 18446744073709551616 l:=by
 have:=iV (b:=18446744073709551616) (l:=l) n
 grind
def nM {m K:Nat} {l:List Nat} (hn:fX l) (hv:bv 18446744073709551616 l=m) (h:m<18446744073709551616^K):l.length<=K:=ajX (b:=18446744073709551616) (by decide) hn (by rw [hv];exact h)
def arG (h:Wd P L) {v w:AV} {x:List Nat} {d:Nat} (hv:bJ v x) (hw:bJ w [d]) (gx:lo 18446744073709551616 x) (lx:x.length<=90000000000) (fR:0<d) (Vv:d<18446744073709551616) (ec:ae P L 158 [v,w] (aa (dX (bv 18446744073709551616 x) d))) (hc:d<=bv 18446744073709551616 x):
  ∃q r,ae P L 137 [v,w] (.aq [q,r])/\WN q (bv 18446744073709551616 x/d)/\WN r (bv 18446744073709551616 x%d):=by
 have ez:¬dX (bv 18446744073709551616 x) d<0:=by unfold dX;rw [yz (by omega)];split<;>decide
 obtain ⟨n,hn⟩:∃n,n=x.length:=⟨_,rfl⟩;have main:∃r l,(∀c:Nat->AV->AV->Option AV,True)/\r<d/\l.length=n/\lo 18446744073709551616 l/\bv 18446744073709551616 x=bv 18446744073709551616 l*d+r/\
   ∃q1 r1,bJ q1 (eb l)/\bJ r1 (eb [r])/\ae P L 137 [v,w] (.aq [q1,r1]):=by
  unfold ae;rw [av h.Tf]
  simp only [go_sem,ya,IQ,hv.len,hv.ai,hw.len,hw.ai,ec,ez,yv,yF,yd,show ((1:Nat):Int)=(1:Int) from rfl,<-hn,CX (n:=n) _ (by omega)];generalize hq:D P L (.loop [0,1,6,7,8] HY) _=q;obtain ⟨ex,s,rfl,tm,r,l,rfl,rfl,t6,t7,nh,bn,hr,aT⟩:=cd hq (arD (P:=P) (L:=L) h hv gx (by omega) hw fR Vv hn n) ⟨n,0,[],by
   rw [wrap64 (by omega) (by omega),List.append_nil]
   simp only [go_sem,ya,yb,aD,aM hv.pu,aQ _ hv.pu,aM hw.pu,aQ _ hw.pu]<;>rfl,rfl,rfl,Mc,fR,by rw [List.drop_eq_nil_of_le (by omega)];simp [bv]⟩
  have hf:=mM true l;rw [nh] at hf;obtain ⟨q1,e1,eG⟩:=Bo h.my hf (by omega);obtain ⟨r1,e2,cw⟩:=Bo h.my (mM true [r]) (by simp);simp only [yv,yF,yd,List.map_cons,List.map_nil] at e2;refine ⟨r,l,fun _=>trivial,hr,nh,bn,aT,q1,r1,eG,cw,?_⟩
  simp only [go_sem,ya,yb,Nat.reduceLT,yg,yi,aD,t6,t7,Bn _ (n:=n) (l:=l) nh true,e1,eG.shut,e2,cw.shut];exact RL eG cw _
 obtain ⟨r,l,_,hr,nh,bn,aT,q1,r1,eG,cw,e⟩:=main;have hq:bv 18446744073709551616 l=bv 18446744073709551616 x/d:=by
  rw [aT,xN,yaO fR,wS hr,yX]
 have hm:r=bv 18446744073709551616 x%d:=by
  rw [aT,xN,yaP,yP hr]
 exact ⟨q1,r1,e,⟨_,eG,AI bn,AH _,by rw [AG,hq]⟩,⟨_,cw,AI (Eg.2 (by omega)),AH _,by rw [AG,AT,hm]⟩⟩
def arH (h:Wd P L) {v w:AV} {x y:List Nat} (hv:bJ v x) (hw:bJ w y) (gx:lo 18446744073709551616 x) (gy:lo 18446744073709551616 y) (nx:fX x) (ny:fX y) (lx:x.length<=90000000000) (ly:2<=y.length) (ec:ae P L 158 [v,w] (aa (dX (bv 18446744073709551616 x) (bv 18446744073709551616 y)))) (hc:bv 18446744073709551616 y<=bv 18446744073709551616 x):
  ∃q r,ae P L 137 [v,w] (.aq [q,r])/\WN q (bv 18446744073709551616 x/bv 18446744073709551616 y)/\WN r (bv 18446744073709551616 x%bv 18446744073709551616 y):=by
 have dL:(0:Nat)<18446744073709551616:=by decide
 have ez:¬dX (bv 18446744073709551616 x) (bv 18446744073709551616 y)<0:=by unfold dX;rw [yz (by omega)];split<;>decide
 have hyx:y.length<=x.length:=by
  by_cases hh:x.length<y.length
  ·have:=LR (b:=18446744073709551616) (by decide) gx ny hh;omega
  ·omega
 obtain ⟨n,hn⟩:∃n,n=y.length:=⟨_,rfl⟩;obtain ⟨la,Kf⟩:∃la,la=x.length:=⟨_,rfl⟩;have A6:=Lt ny (fun e=>by subst e;simp at ly);have Dp:=gm dL gy (y.length-1);have Vy:=hw.bj (i:=y.length-1) (by omega);have lO:=atn (l:=y) (n:=n-1) (by omega);rw [<-hn] at A6 Dp Vy;obtain ⟨top,nL⟩:∃top,y.getD (n-1) 0=top:=⟨_,rfl⟩;rw [nL] at A6 Dp Vy lO;have elz:=acU (P:=P) (f:=D P L) h.Jh Dp;obtain ⟨z1,z2,z3⟩:=QM (yap A6) Dp;generalize 64-eK 64 top=s at*
 obtain ⟨ov,ev,lov,gov,vov⟩:=afh h.afm hw gy (by omega) z1;obtain ⟨ou,eu,lou,gou,vou⟩:=afh h.afm hv gx (by omega) z1;obtain ⟨v',Vz,eF⟩:=Bo h.my (mM true ov) (by omega);rw [lov,<-hn] at Vz;rw [<-hn] at ev;rw [<-Kf] at eu lou;have iN:=Nat.two_pow_pos s;obtain ⟨vs,zU⟩:∃vs,vs=eb ov:=⟨_,rfl⟩;rw [<-zU] at eF;have Dq:lo 18446744073709551616 vs:=by rw [zU];exact AI gov
 have Kh:fX vs:=by rw [zU];exact AH _
 have su:bv 18446744073709551616 vs=bv 18446744073709551616 y*2^s:=by rw [zU,AG,vov]
 have hyW:bv 18446744073709551616 y*2^s<18446744073709551616^n:=by
  have e:18446744073709551616=2^(64-s)*2^s:=by rw [<-wP,show 64-s+s=64 by omega]
  have e1:=iV (b:=18446744073709551616) (l:=y) (n-1);rw [show n-1+1=n by omega,yL (by omega),nL] at e1;have e2:=mi (AM gy (n-1));rw [yT,Nat.min_eq_left (by omega)] at e2;have e3:top<2^(64-s):=Nat.lt_of_mul_lt_mul_right (a:=2^s) (Nat.lt_of_lt_of_eq z3 e);have e4:=yZ (2^s) (show top+1<=2^(64-s) from e3);rw [<-e] at e4;have e5:bv 18446744073709551616 y<18446744073709551616^(n-1)*(top+1):=by rw [Nat.mul_add,yi];omega
  have e6:=wH e5 iN;rw [xk] at e6;have e7:=yS (18446744073709551616^(n-1)) e4;rw [<-xg,show (n-1).succ=n by omega] at e7;exact yH e6 e7
 have auP:18446744073709551616^(n-1)*2^s<=bv 18446744073709551616 vs:=by
  rw [su];refine yZ _ (xi ?_ lO)
  have:=yS (18446744073709551616^(n-1)) (show 1<=top by omega)
  omega
 have An:vs.length=n:=by
  have h1:vs.length<=n:=by
   refine nM Kh su ?_;exact hyW
  have h2:¬vs.length<n:=fun hh=>by
   have e1:=mi Dq;have e2:18446744073709551616^vs.length<=18446744073709551616^(n-1):=xn dL (by omega);have e3:=yZ (2^s) lO;rw [xk,<-su] at e3;have e4:=yS (18446744073709551616^(n-1)) (show 1<=top*2^s by omega);omega
  omega
 have er:0<vs.getD (n-1) 0:=by
  have:=Lt Kh (fun e=>by rw [e] at An;simp at An;omega)
  rw [An] at this;exact yap this
 obtain ⟨m,hm⟩:∃m,m=la-n+1:=⟨_,rfl⟩;have Sk:bv 18446744073709551616 (ou.drop m)<bv 18446744073709551616 vs:=by
  have e1:=Hw (b:=18446744073709551616) ou m (by omega);have e2:=mi gx;rw [<-Kf] at e2;have e3:=wH e2 iN;rw [<-vou] at e3;have e4:18446744073709551616^la=18446744073709551616^m*18446744073709551616^(n-1):=by rw [<-wP];congr 1;omega
  rw [e4,xk] at e3;have e5:18446744073709551616^m*bv 18446744073709551616 (ou.drop m)<18446744073709551616^m*(18446744073709551616^(n-1)*2^s):=by omega
  exact yH (Nat.lt_of_mul_lt_mul_left e5) auP
 have e1y:(y.length:Int)-1=((n-1:Nat):Int):=by omega
 have auQ:((la:Nat):Int)-(n:Int)=((m-1:Nat):Int):=by omega
 have iL:∃tm us qs rs,(us.length=la+1/\qs.length=m/\lo 18446744073709551616 us/\lo 18446744073709551616 qs/\bv 18446744073709551616 us+bv 18446744073709551616 qs*bv 18446744073709551616 vs=bv 18446744073709551616 x*2^s/\bv 18446744073709551616 us<bv 18446744073709551616 vs/\
   rs.length=n/\lo 18446744073709551616 rs/\bv 18446744073709551616 rs*2^s+us.getD 0 0%2^s=bv 18446744073709551616 (us.take n)+18446744073709551616^n*(us.getD n 0%2^s))/\af tm 0=v/\
   ∃q1 r1,bJ q1 (eb qs)/\bJ r1 (eb rs)/\ae P L 137 [v,w] (.aq [q1,r1]):=by
  unfold ae at ec ev eu Vz;unfold ae;rw [av h.Tf];have hfo:=Bn (n:=n+1) (l:=ov) (hp:=[]) (by omega) true
  simp only [go_sem,ya,yb,IQ,hv.len,hv.ai,hw.len,hw.ai,ec,ez,show ¬(y.length:Int)=1 by omega,e1y,wrapN (n:=n-1) (by omega),Vy,elz,ev,atl,Bn _ (n:=n+1) (l:=ov) (by omega) true,Vz,eF.len,eF.shut,eu,An,<-Kf,auQ,wrapN (n:=m-1) (by omega),show ((m-1:Nat):Int)+1=(m:Int) by omega,wrapN (n:=m) (by omega),CX (n:=m) _ (by omega)];generalize mI:D P L (.loop [9,10,11,12,13,14] HZ) _=qq;obtain ⟨ex,st,rfl,tm,us,qs,rfl,rfl,t9,t11,t12,t13,O4,O5,FH,VA,aT,bi⟩:=cd mI (arF (P:=P) (L:=L) h eF Dq An (by omega) (by omega) (by omega) hm er (s:=s) (U0:=bv 18446744073709551616 x*2^s) m) ⟨m,ou,List.replicate m 0,by
   rw [show ((m-1:Nat):Int)=(m:Int)-1 by omega]
   simp only [go_sem,ya,yb,aD,aM eF.pu,aQ _ eF.pu]<;>rfl,rfl,Nat.le_refl _,lou,by simp,gou,Eh dL m,fun i _=>Ci m i,by rw [Ei,Nat.zero_mul,yX,vou],Sk⟩
  simp only [go_sem,ya,yb,aD,t9,t11,t12,t13];generalize CZ:D P L (.loop [9,11,12,13,96,97] D9) _=Vq;obtain ⟨ex,st,rfl,nQ,rs,rfl,rfl,t11,t12,t13,VB,VD,NN⟩:=cd CZ (arE (P:=P) (L:=L) (qs:=qs) (m:=m) (la:=la+1) (n:=n) z1 O4 FH (by omega) (by omega) n) ⟨0,[],by simp only [go_sem,ya,yb,aD]<;>rfl,by omega,rfl,Mc,by simp [bv]⟩
  have lI:∀(hp:Hp) tm (y:X),ap hp 0=some (.cells true true true 1 ((rs++us.drop n).map uc))->cV tm (la+1) (some y)=some n->fA hp (.sl 1) (.ak 0 0 (la+1)) tm none (some y)=some (.ak 0 0 n):=fun hp tm y h1 h2=>Z2 h1 h2 (by omega) (by omega)
  have Ki:=mM true qs;rw [O5] at Ki;obtain ⟨q1,f1,eG⟩:=Bo h.my Ki (by omega);have ep:(rs++us.drop n).take n=rs:=by rw [List.take_append_of_le_length (by omega),yL (by omega)]
  have Kj:∃e,∀hp:Hp,lH 0 n (some (true,1,(rs++us.drop n).map uc,hp))=some (.aE e n (rs.map uc),hp):=by
   refine ⟨true&&Nat.blt 0 1&&Nat.beq n ((rs++us.drop n).map uc).length,fun hp=>?_⟩;simp only [lH,yd,yi,slice,yj,<-List.map_take,ep];rw [Nat.ble_eq_true_of_le (by simp;omega)];rfl
  obtain ⟨e,Kj⟩:=Kj;have gH:=mM e rs;rw [VB] at gH;obtain ⟨r1,f2,cw⟩:=Bo h.my gH (by omega);unfold ae at f1 f2;refine ⟨[(0,v)],us,qs,rs,⟨O4,O5,FH,VA,aT,bi,VB,VD,NN⟩,rfl,q1,r1,eG,cw,?_⟩
  simp only [go_sem,ya,yb,aD,t11,t12,t13,Bn _ (n:=m) (l:=qs) O5 true,f1,eG.shut,lI,dO,Kj,f2,cw.shut];exact RL eG cw _
 obtain ⟨tm,us,qs,rs,⟨O4,O5,FH,VA,aT,bi,VB,VD,NN⟩,_,q1,r1,eG,cw,e⟩:=iL;have iD:0<bv 18446744073709551616 y:=by
  have:=yS (18446744073709551616^(n-1)) (show 1<=top by omega)
  have:=Nat.pow_pos (n:=n-1) dL
  omega
 rw [su] at aT bi;have Ji:bv 18446744073709551616 qs=bv 18446744073709551616 x/bv 18446744073709551616 y:=by
  rw [<-Nat.mul_div_mul_right _ _ iN,<-aT,yaI,xN,yaO (Nat.mul_pos iD iN),wS bi,yX]
 have O6:bv 18446744073709551616 us=(bv 18446744073709551616 x%bv 18446744073709551616 y)*2^s:=by
  rw [<-Nat.mul_mod_mul_right,<-aT,yaI,xN (bv _ qs),yaP,yP bi]
 have jQ:=Hw (b:=18446744073709551616) us n (by omega);have fR:bv 18446744073709551616 (us.drop n)=0:=by
  rcases xr (bv 18446744073709551616 (us.drop n)) with h0 | h0
  ·exact h0
  ·have:=yS (18446744073709551616^n) h0
   omega
 have hun:us.getD n 0=0:=by
  have:=LY (b:=18446744073709551616) (l:=us) (i:=n) (by omega)
  omega
 rw [fR,xJ,yX] at jQ;have BO:us.getD 0 0%2^s=0:=by
  have e1:=LY (b:=18446744073709551616) (l:=us) (i:=0) (by omega);rw [yj,O6] at e1;have e2:18446744073709551616=2^s*2^(64-s):=by rw [<-wP,show s+(64-s)=64 by omega]
  have e3:(us.getD 0 0+18446744073709551616*bv 18446744073709551616 (us.drop (0+1)))%2^s=us.getD 0 0%2^s:=by
   conv=>lhs;rw [e2,xk]
   exact Nat.add_mul_mod_self_left _ _ _
  rw [<-e3,<-e1,Nat.mul_mod_left]
 rw [hun,BO,Nat.zero_mod,xJ,yX,yX,<-jQ,O6] at NN;have aeB:bv 18446744073709551616 rs=bv 18446744073709551616 x%bv 18446744073709551616 y:=Nat.eq_of_mul_eq_mul_right iN NN;exact ⟨q1,r1,e,⟨_,eG,AI VA,AH _,by rw [AG,Ji]⟩,⟨_,cw,AI VD,AH _,by rw [AG,aeB]⟩⟩
def afp (h:Wd P L) {v w:AV} {a b K:Nat} (hv:WN v a) (hw:WN w b) (hb:0<b) (ha:a<18446744073709551616^K) (hbK:b<18446744073709551616^K) (hK:K<=90000000000):
  ∃q r,ae P L 137 [v,w] (.aq [q,r])/\WN q (a/b)/\WN r (a%b):=by
 obtain ⟨x,FI,gx,nx,vx⟩:=hv;obtain ⟨y,O7,gy,ny,vy⟩:=hw;have lx:x.length<=90000000000:=xi (nM nx vx ha) hK;have ly:y.length<=90000000000:=xi (nM ny vy hbK) hK;have ec:=afc h.afn FI O7 gx gy nx ny (by omega) (by omega);subst vx;subst vy;by_cases hc:bv 18446744073709551616 x<bv 18446744073709551616 y
 ·have ez:dX (bv 18446744073709551616 x) (bv 18446744073709551616 y)= -1:=by unfold dX;rw [yJ hc]
  rw [ez] at ec;refine ⟨.ab,v,?_,⟨[],sJ,Mc,rfl,by rw [wS hc];rfl⟩,⟨x,FI,gx,nx,by rw [yP hc]⟩⟩
  unfold ae;rw [av h.Tf];simp only [go_sem,ya,IQ,FI.ai,O7.ai,ec,show (-1:Int)<0 by decide];exact RL sJ FI _
 ·rcases (show y.length=0\/y.length=1\/2<=y.length by omega) with h0 | h1 | h2
  ·rw [List.eq_nil_of_length_eq_zero h0] at hb;simp [bv] at hb
  ·obtain ⟨d,rfl⟩:∃d,y=[d]:=by
    cases y with
    | nil=>simp at h1
    | cons d r=>cases r with
     | nil=>exact ⟨d,rfl⟩
     | cons e r=>simp at h1
   exact arG h FI O7 gx lx hb (Eg.1 gy) ec (by omega)
  ·exact arH h FI O7 gx gy nx ny lx h2 ec (by omega)
end
end
section
open Go (IntKind)
def km (v:AV) (n:Int):Prop:=∃w l,v= .agg [.bool (decide (n<0)),w]/\bq w l/\dg l/\nz l/\dv l=n.natAbs
def iY {l:List Int} {k:Nat} (hd:dg l) (hn:nz l) (h:dv l<1000000000^k):l.length<=k:=by
 by_cases h0:l=[]
 ·grind
 ·have h1:=ME hn hd h0;have h2:1000000000^(l.length-1)<1000000000^k:=wD h1 h;have h3:=(Nat.pow_lt_pow_iff_right (show 1<1000000000 by decide)).1 h2;omega
def fe {hp:Hp} {ct id:Nat} {a b x y:AV} (h1:bA a=true) (h2:bA b=true) (p1:aS a=true) (p2:aS b=true):
  fy hp ct id 0 2 [a,b] (some (.cells true true true 2 [x,y]))=some (.aq [],aY hp id (.cells true true true 2 [a,b]),ct):=by
 rw [mj (by rfl) (by simp) (by simp [bQ,h1,h2])];simp [aJ,p1,p2,over]
section
variable {P:aK} {L:Lib}
def cL (neg:Bool) (m:Nat):Int:=if neg=true then -(m:Int) else m
def zH (h:Has P L 294 Bg) (cY:Has P L 300 lG) (neg:Bool) {v:AV} {l:List Int} (hv:bq v l) (hd:dg l) (hl:l.length<=20000000000):
  ∃r,ae P L 294 [.bool neg,v] r/\km r (cL neg (dv l)):=by
 obtain ⟨w,e1,hw,ij⟩:=Bm cY hv hl;have pE:=sI l;have BT:=DZ l;have li:=AF hd;have hc:(neg&&decide ((0:Int)<((dZ l).length:Nat)))=decide (cL neg (dv l)<0):=by
  unfold cL
  cases neg with
  | false=>simp
  | true=>
   simp only [xt,y7];by_cases h0:dZ l=[]
   ·rw [h0] at pE ⊢;simp only [dv] at pE;simp [<-pE]
   ·have h1:0<(dZ l).length:=uE.2 h0;have h2:0<dv l:=by
     rw [<-pE];rcases xr (dv (dZ l)) with h | h
     ·exact absurd (aa2 BT li h) h0
     ·exact h
    rw [yV (by omega),yV (by omega)]
 refine ⟨.agg [.bool (decide (cL neg (dv l)<0)),w],?_,w,dZ l,rfl,hw,li,BT,?_⟩
 ·rw [<-hc];unfold ae at e1 ⊢;rw [av h]
  cases neg with
  | false=>
   simp only [go_sem,ya,yb,yg,Bg,aH,hv.ai,e1,hw.pu,hw.shut,hw.one,hw.cells,fe];rcases hw with ⟨rfl,_⟩ | ⟨e,rfl⟩<;>rfl
  | true=>
   simp only [go_sem,ya,yb,yg,Bg,aH,hv.ai,e1,hw.len,hw.pu,hw.shut,hw.one,hw.cells,fe];rcases hw with ⟨rfl,_⟩ | ⟨e,rfl⟩<;>rfl
 ·rw [pE];unfold cL;split<;>omega
def afq (h:Has P L 298 Nt) (jV:Has P L 294 Bg) (cY:Has P L 300 lG) {v:AV} {n:Int} {K:Nat} (hK:K<=20000000000) (hv:km v n) (hn:n.natAbs<1000000000^K):∃r,ae P L 298 [v] r/\km r (-n):=by
 obtain ⟨w,l,rfl,hw,hd,hz,pE⟩:=hv;obtain ⟨r,e1,hr⟩:=zH jV cY (!decide (n<0)) hw hd (xi (iY hd hz (by rw [pE];exact hn)) hK)
 have e:cL (!decide (n<0)) (dv l)= -n:=by
  rw [pE];unfold cL;by_cases h0:n<0
  ·simp [h0];omega
  ·simp [h0];omega
 rw [e] at hr;obtain ⟨w2,l2,rfl,gR,dR,iz,zI⟩:=hr;refine ⟨_,?_,w2,l2,rfl,gR,dR,iz,zI⟩;unfold ae at e1 ⊢;rw [av h];simp only [go_sem,ya,yb,Nt,aH,hw.pu,hw.ai,hw.one,gR.pu,gR.one,bg,yd,bY,e1,fe,bE];rcases gR with ⟨rfl,_⟩ | ⟨e,rfl⟩<;>rfl
end
end
section
open Go (IntKind)
def cM (s:Int) (w:AV) (z:Int):Prop:=
 (w= .ab/\s=z/\-9223372036854775808<=z/\z<9223372036854775808)\/
 (∃e l,w= .aE e l.length (l.map uc)/\lo 18446744073709551616 l/\fX l/\bv 18446744073709551616 l=z.natAbs/\s=(if z<0 then -1 else 1)/\9223372036854775808<=z.natAbs)
def cD (v:AV) (z:Int):Prop:=∃s w,v= .agg [aa s,w]/\cM s w z
def Bd (k:Nat) (z:Int):Prop:=z.natAbs<2^k
def AU (k:Nat):2^k<=18446744073709551616^k:=Nat.pow_le_pow_left (by decide) k
def Bd.mono {k m:Nat} {z:Int} (h:Bd k z) (hk:k<=m):Bd m z:=yH h (xn (by decide) hk)
def Bd.neg {k:Nat} {z:Int} (h:Bd k z):Bd k (-z):=by unfold Bd at h ⊢;rwa [Int.natAbs_neg]
def Bd.add {k m:Nat} {a b:Int} (ha:Bd k a) (hb:Bd m b):Bd (max k m+1) (a+b):=by
 have h1:Bd (max k m) a:=ha.mono (by omega);have h2:Bd (max k m) b:=hb.mono (by omega);unfold Bd at h1 h2 ⊢
 grind
def Bd.sub {k m:Nat} {a b:Int} (ha:Bd k a) (hb:Bd m b):Bd (max k m+1) (a-b):=by
 rw [Int.sub_eq_add_neg];exact ha.add hb.neg
def Bd.mul {k m:Nat} {a b:Int} (ha:Bd k a) (hb:Bd m b):Bd (k+m) (a*b):=by
 unfold Bd at*
 rw [Int.natAbs_mul,wP];exact tv ha hb
def Bd.le {k:Nat} {a b:Int} (hb:Bd k b) (h:a.natAbs<=b.natAbs):Bd k a:=wD h hb
def WN.pos {v:AV} {m:Nat} (h:WN v m) (h0:0<m):∃e l,v= .aE e l.length (l.map uc)/\l≠[]/\lo 18446744073709551616 l/\fX l/\bv 18446744073709551616 l=m:=by
 obtain ⟨l,hv,g,n,hb⟩:=h;have hl:l≠[]:=fun e=>by subst e;simp [bv] at hb;omega
 rcases hv with ⟨_,e⟩ | ⟨e,rfl⟩
 ·simp_all
 ·exact ⟨e,l,by simp,hl,g,n,hb⟩
def WN.zero {v:AV} (h:WN v 0):∃n,gK [] 1 v=some (.int .i64 n)/\n=0:=by
 obtain ⟨l,hv,g,n,hb⟩:=h
 have:=alZ (b:=18446744073709551616) (by decide) n hb
 subst this;exact ⟨_,hv.len,rfl⟩
def WN.aw {v:AV} {m:Nat} (h:WN v m):∃l,bJ v l/\lo 18446744073709551616 l/\fX l/\bv 18446744073709551616 l=m:=h
def nD (e:Bool) (n:Nat) (cs:List AV):im .sl (.aE e n cs) .ab=some false:=rfl
def gC:im .sl .ab .ab=some true:=rfl
def LZ (hp:Hp) (ct id:Nat) (a:Int) (e:Bool) (n:Nat) (cs:List AV) (x y:AV):fy hp ct id 0 2 [.int .i64 a,.aE e n cs] (some (.cells true true true 2 [x,y]))=some (.aq [],aY hp id (.cells true true true 2 [.int .i64 a,.aE e n cs]),ct):=fe rfl rfl rfl rfl
def qX {tm:Env} {a x y:AV} {r:List (Nat×Nat×X)} (h:bA a=true):hJ tm [x,y] 0 1 [a] r=fill tm [a,y] r:=abb (by simp) h
def cM.ot {z:Int} (h1: -9223372036854775808<=z) (h2:z<9223372036854775808):cD (.agg [aa z,.ab]) z:=⟨z,.ab,rfl,.inl ⟨rfl,rfl,h1,h2⟩⟩
def cM.bZ {s:Int} {w:AV} {z:Int} (h:cM s w z):(s<0↔z<0)/\(s=0↔z=0)/\-9223372036854775808<=s/\s<9223372036854775808:=by
 rcases h with ⟨_,rfl,h1,h2⟩ | ⟨e,l,_,_,_,_,rfl,h1⟩
 ·grind
 ·grind
section
variable {P:aK} {L:Lib}
structure Nu (P:aK) (L:Lib):Prop extends Wd P L where
 auR:Has P L 117 Na
 auS:Has P L 142 Nc
 Tj:Has P L 136 IP
 Jj:Has P L 145 zu
 oR:Has P L 146 zx
 rG:Has P L 147 rz
 CU:Has P L 163 zy
 auT:Has P L 118 CO
 afr:Has P L 119 c119
 auU:Has P L 156 SQ
 NO:Has P L 100 mv
 nJ:Has P L 164 ir
 NH:Has P L 148 EP
 S9:Has P L 130 EN
def C0 (h:Nu P L) {z:Int} (h1: -9223372036854775808<=z) (h2:z<9223372036854775808):ae P L 117 [aa z] (.agg [aa z,.ab])/\cD (.agg [aa z,.ab]) z:=⟨n117 h.auR z,cM.ot h1 h2⟩
def Tk (h:Nu P L) {n:Int} (h1: -9223372036854775808<=n) (h2:n<9223372036854775808):ae P L 142 [aa n] (uc n.natAbs):=by
 unfold ae;rw [av h.auS];by_cases h0:n<0
 ·have e:IntKind.wrap .u64 (IntKind.wrap .i64 (0-n))=(n.natAbs:Int):=by
   by_cases hm:n= -9223372036854775808
   ·subst hm;rfl
   ·rw [wrap64 (by omega) (by omega),MI];omega
  simp only [go_sem,ya,Nc,h0,acN,e]
 ·have e:IntKind.wrap .u64 n=(n.natAbs:Int):=by rw [MI];omega
  simp only [go_sem,ya,Nc,h0,acN,e]
def zJ (h:Nu P L) {s:Int} {w:AV} {z:Int} (hz:cM s w z):∃r,ae P L 136 [.agg [aa s,w]] (.aq [.bool (decide (z<0)),r])/\WN (bO r) z.natAbs:=by
 rcases hz with ⟨rfl,rfl,h1,h2⟩ | ⟨e,l,rfl,g,n,hb,hs,h1⟩
 ·by_cases h0:s=0
  ·subst h0;refine ⟨.ab,?_,[],sJ,Mc,rfl,rfl⟩;unfold ae;rw [av h.Tj];simp only [go_sem,ya,yb,IP,aH,bg,yd,bY,gC,Ij,Int.reduceLT];rfl
  ·have e1:=Tk h h1 h2;refine ⟨.cG true 1 1 [uc s.natAbs],?_,[s.natAbs],mM true [s.natAbs],Eg.2 (by omega),DL (by omega) [],AT _⟩;unfold ae;rw [av h.Tj];simp only [go_sem,ya,yb,yg,yi,IP,aH,bg,yd,bY,gC,Ij,h0,e1];rfl
 ·have iy:decide (s<0)=decide (z<0):=by rw [hs];split<;>simp<;>omega
  refine ⟨.aE e l.length (l.map uc),?_,l,mM e l,g,n,hb⟩;unfold ae;rw [av h.Tj];simp only [go_sem,ya,yb,IP,aH,bg,yd,bY,nD,Ij,iy];rfl
def Y6 {d:Nat} (h:d<=9223372036854775807):IntKind.wrap .i64 (d:Int)=d:=wrapN (by omega)
def C1 (h:Nu P L) (neg:Bool) {w:AV} {m K:Nat} (hw:WN w m) (hm:m<18446744073709551616^K) (hK:K<=90000000000):∃r,ae P L 145 [.bool neg,w] r/\cD r (cL neg m):=by
 obtain ⟨l,hu,g,n,hb⟩:=hw;have nh:l.length<=90000000000:=xi (nM n hb hm) hK;by_cases h0:l=[]
 ·subst h0
  have:m=0:=by rw [<-hb];rfl
  subst this;have e:cL neg 0=0:=by unfold cL;cases neg<;>rfl
  rw [e];refine ⟨.agg [aa 0,.ab],?_,cM.ot (by decide) (by decide)⟩;unfold ae;rw [av h.Jj];simp only [go_sem,ya,yb,zu,aH,hu.len,yF,show (((0:Nat):Nat):Int)=0 from rfl,iX];rfl
 ·have lL:0<l.length:=uE.2 h0;by_cases h1:l.length=1/\l.getD 0 0<=9223372036854775807
  ·obtain ⟨h1,h2⟩:=h1;obtain ⟨d,rfl⟩:∃d,l=[d]:=by
    cases l with
    | nil=>simp at h1
    | cons d r=>cases r with
     | nil=>exact ⟨d,rfl⟩
     | cons e r=>simp at h1
   have h2:d<=9223372036854775807:=h2;rw [AT] at hb;subst hb;have ex:=hu.bj (i:=0) (by simp);rw [show ([d]:List Nat).getD 0 0=d from rfl] at ex;have hlen:∀hp,gK hp 1 w=some (.int .i64 1):=fun hp=>hu.len
   cases neg with
   | true=>
    refine ⟨.agg [aa (0-(d:Int)),.ab],?_,?_⟩
    ·unfold ae;rw [av h.Jj]
     simp only [go_sem,ya,yb,yg,zu,aH,hlen,tk,ex,show (d:Int)<=9223372036854775807 by omega,Mh,Y6 h2,wrap64 (n:=0-(d:Int)) (by omega) (by omega),iX];rfl
    ·have:cL true d=0-(d:Int):=by unfold cL;simp
     rw [this];exact cM.ot (by omega) (by omega)
   | false=>
    refine ⟨.agg [aa (d:Int),.ab],?_,?_⟩
    ·unfold ae;rw [av h.Jj];simp only [go_sem,ya,yb,yg,zu,aH,hlen,tk,ex,show (d:Int)<=9223372036854775807 by omega,Mh,Y6 h2,iX];rfl
    ·have:cL false d=(d:Int):=by unfold cL;simp
     rw [this];exact cM.ot (by omega) (by omega)
  ·have VF:9223372036854775808<=m:=by
    rw [<-hb];by_cases h2:l.length=1
    ·obtain ⟨d,rfl⟩:∃d,l=[d]:=by
      cases l with
      | nil=>simp at h2
      | cons d r=>cases r with
       | nil=>exact ⟨d,rfl⟩
       | cons e r=>simp at h2
     have:¬d<=9223372036854775807:=fun hd=>h1 ⟨h2,hd⟩
     rw [AT];omega
    ·have h3:=Me (b:=18446744073709551616) (by decide) n h0;have h4:18446744073709551616^1<=18446744073709551616^(l.length-1):=xn (by decide) (by omega);rw [Nat.pow_one] at h4;omega
   have cZ:∃e,w= .aE e l.length (l.map uc):=by
    rcases hu with ⟨rfl,hh⟩ | ⟨e,rfl⟩
    ·simp at hh;exact absurd hh h0
    ·exact ⟨e,by simp⟩
   obtain ⟨e,rfl⟩:=cZ;have ex:=hu.bj (i:=0) lL;have first:(decide ((l.length:Int)=1)=true/\¬((l.getD 0 0:Nat):Int)<=9223372036854775807)\/decide ((l.length:Int)=1)=false:=by
    by_cases h2:l.length=1
    ·left;refine ⟨by simp;omega,fun hd=>h1 ⟨h2,by omega⟩⟩
    ·right;simp;omega
   cases neg with
   | true=>
    refine ⟨.agg [aa (-1),.aE e l.length (l.map uc)],?_,-1,_,rfl,.inr ⟨e,l,rfl,g,n,by rw [hb];unfold cL;simp,by unfold cL;simp;omega,by unfold cL;simp;omega⟩⟩
    unfold ae;rw [av h.Jj];rcases first with ⟨f1,f2⟩ | f1
    ·simp only [go_sem,ya,yb,yg,zu,aH,show ¬(l.length:Int)=0 by omega,f1,f2,ex,qX,LZ];rfl
    ·simp only [go_sem,ya,yb,yg,zu,aH,show ¬(l.length:Int)=0 by omega,f1,qX,LZ];rfl
   | false=>
    refine ⟨.agg [aa 1,.aE e l.length (l.map uc)],?_,1,_,rfl,.inr ⟨e,l,rfl,g,n,by rw [hb];unfold cL;simp,by unfold cL;simp,by unfold cL;simp;omega⟩⟩
    unfold ae;rw [av h.Jj];rcases first with ⟨f1,f2⟩ | f1
    ·simp only [go_sem,ya,yb,yg,zu,aH,show ¬(l.length:Int)=0 by omega,f1,f2,ex,qX,LZ];rfl
    ·simp only [go_sem,ya,yb,yg,zu,aH,show ¬(l.length:Int)=0 by omega,f1,qX,LZ];rfl
end
end
section
open Go (IntKind)
def bK:VC->VC
 | .seq a _=>a
 | c=>c
def amY {a b:Int} {x y:Nat} (ha:a.natAbs=x) (hb:b.natAbs=y) (h:decide (a<0)=decide (b<0)):cL (decide (a<0)) (x+y)=a+b:=by
 unfold cL
 grind
def Z3 {a b:Int} {m:Nat} (hm:m+b.natAbs=a.natAbs) (h:¬decide (a<0)=decide (b<0)):cL (decide (a<0)) m=a+b:=by
 unfold cL
 grind
def amZ {a:Int}:cL (!decide (a<0)) a.natAbs= -a:=by
 unfold cL
 grind
def Z4 {a b:Int}:cL (decide (a<0) !=decide (b<0)) (a.natAbs*b.natAbs)=a*b:=by
 unfold cL
 grind
def ml {s:Int} {w:AV} {l:List Nat} (h:bJ w l) (hp:Hp):result hp (.agg [aa s,w])=some (.agg [aa s,w]):=by
 rcases h with ⟨rfl,_⟩ | ⟨e,rfl⟩<;>rfl
def dQ {s:Int} {w:AV} {l:List Nat} (h:bJ w l) (hp:Hp) (ct id:Nat) (x y:AV):fy hp ct id 0 2 [.int .i64 s,w] (some (.cells true true true 2 [x,y]))=some (.aq [],aY hp id (.cells true true true 2 [.int .i64 s,w]),ct):=fe rfl h.one rfl h.pu
def cM.aw {s:Int} {w:AV} {z:Int} (h:cM s w z):∃l,bJ w l:=by
 rcases h with ⟨rfl,_⟩ | ⟨e,l,rfl,_⟩
 ·exact ⟨[],sJ⟩
 ·exact ⟨l,mM e l⟩
def aeC (hp:Hp) (sz:Nat) (ag:Bool):AV->Option AV
 | .ptr id o=>OW sz ag o (ap hp id)
 | .aF cs=>eX sz ag cs
 | _=>none
def db (tm:Env) (hp:Hp) (ct base i sz:Nat) (ag:Bool):results1 ⟨tm,hp,ct,base⟩ (.cell i sz ag)=aeC hp sz ag (af tm i):=by
 rfl
def de (hp:Hp) (sz:Nat) (ag:Bool) (id o:Nat):aeC hp sz ag (.ptr id o)=OW sz ag o (ap hp id):=rfl
section
variable {P:aK} {L:Lib}
def E3 (h:Nu P L) {v:AV} {z:Int} (hv:cD v z):ae P L 146 [v] (aa (bZ z)):=by
 obtain ⟨s,w,rfl,hn⟩:=hv;obtain ⟨l,hu⟩:=hn.aw;have e:bZ s=bZ z:=by
  obtain ⟨h1,h2,_⟩:=hn.bZ;unfold bZ;by_cases h0:z<0
  ·rw [yJ h0,yJ (h1.2 h0)]
  ·by_cases h3:z=0
   ·rw [yz (fun h=>h0 (h1.1 h)),yJ (h2.2 h3),yz h0,yJ h3]
   ·rw [yz (fun h=>h0 (h1.1 h)),yz (fun h=>h3 (h2.1 h)),yz h0,yz h3]
 unfold ae;rw [av h.oR];simp only [go_sem,ya,yb,zx,aH,hu.pu,hu.one,bg,yd,RG,El,QG,DT,acM,e]
def E4 (h:Nu P L) {v:AV} {z:Int} {K:Nat} (hv:cD v z) (hz:Bd K z) (hK:K<=90000000000):∃r,ae P L 147 [v] r/\cD r (-z):=by
 obtain ⟨s,w,rfl,hn⟩:=hv;obtain ⟨p,e1,hp⟩:=zJ h hn;obtain ⟨lp,gQ,_⟩:=hp.aw;obtain ⟨r,e2,hr⟩:=C1 h (!decide (z<0)) hp (yH hz (AU K)) hK;rw [amZ] at hr;have bX:=hr;obtain ⟨s',w',rfl,jZ⟩:=hr;obtain ⟨l',iP⟩:=jZ.aw;rcases hn with ⟨rfl,rfl,h1,h2⟩ | ⟨e,l0,rfl,g,n,hb,hs,h1⟩
 ·by_cases h0:s= -9223372036854775808
  ·refine ⟨_,?_,bX⟩;unfold ae;rw [av h.rG];simp only [go_sem,ya,yb,rz,aH,bg,yd,bY,gC,dw,h0];rw [h0] at e1 e2;simp only [go_sem,ya,bW,bk,e1,e2,gQ.ai,bE,db,de,bW,yj,ml iP,dQ iP]
  ·refine ⟨.agg [aa (-s),.ab],?_,cM.ot (by omega) (by omega)⟩;unfold ae;rw [av h.rG]
   simp only [go_sem,ya,yb,rz,aH,bg,yd,bY,gC,dw,h0,wrap64 (n:=0-s) (by omega) (by omega),iX,qX];rw [Int.zero_sub];rfl
 ·refine ⟨_,?_,bX⟩;unfold ae;rw [av h.rG];simp only [go_sem,ya,yb,rz,aH,bg,yd,bY,nD,dw,bW,bk,e1,e2,gQ.ai,bE,db,de,bW,yj,ml iP,dQ iP]
def afs (h:Nu P L) {v:AV} {z:Int} {K:Nat} (hv:cD v z) (hz:Bd K z) (hK:K<=90000000000):∃r,ae P L 163 [v] r/\cD r (z.natAbs:Nat):=by
 have eF:=hv;obtain ⟨s,w,rfl,hn⟩:=hv;obtain ⟨l,hu⟩:=hn.aw;have FJ:=hn.bZ.1;by_cases h0:z<0
 ·obtain ⟨r,e1,hr⟩:=E4 h eF hz hK;rw [show -z=(z.natAbs:Int) by omega] at hr;have bX:=hr;obtain ⟨s',w',rfl,jZ⟩:=hr;obtain ⟨l',iP⟩:=jZ.aw;refine ⟨_,?_,bX⟩;unfold ae;rw [av h.CU];simp only [go_sem,ya,yb,zy,aH,hu.pu,hu.ai,hu.one,bg,yd,FJ.2 h0,bW,bk,e1,bE,db,de,bW,yj,ml iP,dQ iP]
 ·rw [show ((z.natAbs:Nat):Int)=z by omega];refine ⟨_,?_,eF⟩;unfold ae;rw [av h.CU];simp only [go_sem,ya,yb,zy,aH,hu.pu,hu.one,bg,yd,show ¬s<0 from fun h=>h0 (FJ.1 h),bW,db,de,bW,yj,ml hu,dQ hu]
def arI (h:Nu P L) {s1 s2:Int} {w1 w2:AV} {a b:Int} {K:Nat} (ha:cM s1 w1 a) (hb:cM s2 w2 b) (ka:Bd K a) (kb:Bd K b) (hK:K<=40000000000):
  ∃r,cD r (a+b)/\∀tm,af tm 2= .ptr 0 0->af tm 3= .ptr 1 0->af tm 4= .ptr 2 0->gD [.cell 4 2 true] (D P L (aA (aA c119.body)) ⟨tm,[(2,.cells true true true 2 [.int .i64 0,.ab]),(1,.cells true true true 2 [aa s2,w2]),(0,.cells true true true 2 [aa s1,w1])],3,0⟩)=some r:=by
 obtain ⟨l1,u1⟩:=ha.aw;obtain ⟨l2,u2⟩:=hb.aw;obtain ⟨p,e1,hp⟩:=zJ h ha;obtain ⟨q,e2,hq⟩:=zJ h hb;obtain ⟨lp,gQ,gp,np,vp⟩:=hp.aw;obtain ⟨lq,oc,gq,nq,vq⟩:=hq.aw;have BU:=yH ka (AU K);have FK:=yH kb (AU K);have llp:lp.length<=40000000000:=xi (nM np vp BU) hK;have llq:lq.length<=40000000000:=xi (nM nq vq FK) hK;by_cases hs:decide (a<0)=decide (b<0)
 ·obtain ⟨o,nn,e3,ho,nm,no,vo⟩:=auy h.auJ h.my h.gE gQ oc gp gq (by omega) (by omega);obtain ⟨r,e4,hr⟩:=C1 h (decide (a<0)) ⟨nn,ho,nm,no,vo⟩ (K:=K+1) (by rw [vp,vq,xg];omega) (by omega);rw [amY vp.symm vq.symm hs] at hr;have bX:=hr;obtain ⟨s',w',rfl,jZ⟩:=hr;obtain ⟨l',iP⟩:=jZ.aw;refine ⟨_,bX,fun tm t2 t3 t4=>?_⟩;simp only [go_sem,ya,c119,aA,t2,t3,bW,bk,u1.ai,u2.ai,e1,e2,gQ.ai,oc.ai,dw,oM,hs,tx];rw [hs] at e4;simp only [go_sem,ya,t4,e3,ho.ai,ho.shut,e4,bE,db,de,bW,yj,ml iP,dQ iP]
 ·have Kk:(decide (a<0)==decide (b<0))=false:=by simpa using hs
  have e3:=afc h.afn gQ oc gp gq np nq (by omega) (by omega);rw [vp,vq] at e3;by_cases hc:b.natAbs<=a.natAbs
  ·obtain ⟨o,nn,e4,ho,nm,no,vo⟩:=afd h.afo h.my h.rH gQ oc gp gq nq (by omega) (by rw [vp,vq];exact hc)
   rw [vp,vq] at vo;obtain ⟨r,e5,hr⟩:=C1 h (decide (a<0)) ⟨nn,ho,nm,no,rfl⟩ (K:=K) (by omega) (by omega);rw [Z3 vo hs] at hr;have bX:=hr;obtain ⟨s',w',rfl,jZ⟩:=hr;obtain ⟨l',iP⟩:=jZ.aw;have ez:(0:Int)<=dX a.natAbs b.natAbs:=by unfold dX;rw [yz (by omega)];split<;>decide
   refine ⟨_,bX,fun tm t2 t3 t4=>?_⟩;simp only [go_sem,ya,c119,aA,t2,t3,t4,bW,bk,u1.ai,u2.ai,e1,e2,gQ.ai,oc.ai,dw,oM,Kk,e3,ez,e4,ho.ai,ho.shut,e5,bE,db,de,bW,yj,ml iP,dQ iP]
  ·obtain ⟨o,nn,e4,ho,nm,no,vo⟩:=afd h.afo h.my h.rH oc gQ gq gp np (by omega) (by rw [vp,vq];omega);rw [vp,vq] at vo;obtain ⟨r,e5,hr⟩:=C1 h (decide (b<0)) ⟨nn,ho,nm,no,rfl⟩ (K:=K) (by omega) (by omega);rw [Z3 vo (fun e=>hs e.symm),Int.add_comm] at hr;have bX:=hr;obtain ⟨s',w',rfl,jZ⟩:=hr;obtain ⟨l',iP⟩:=jZ.aw;have ez:¬(0:Int)<=dX a.natAbs b.natAbs:=by unfold dX;rw [yJ (by omega)];decide
   refine ⟨_,bX,fun tm t2 t3 t4=>?_⟩;simp only [go_sem,ya,c119,aA,t2,t3,t4,bW,bk,u1.ai,u2.ai,e1,e2,gQ.ai,oc.ai,dw,oM,Kk,e3,ez,e4,ho.ai,ho.shut,e5,bE,db,de,bW,yj,ml iP,dQ iP]
def Jk (h:Nu P L) {v w:AV} {a b:Int} {K:Nat} (hv:cD v a) (hw:cD w b) (ka:Bd K a) (kb:Bd K b) (hK:K<=40000000000):∃r,ae P L 119 [v,w] r/\cD r (a+b):=by
 obtain ⟨s1,w1,rfl,h1⟩:=hv;obtain ⟨s2,w2,rfl,h2⟩:=hw;obtain ⟨l2,u2⟩:=h2.aw;obtain ⟨r,hr,tail⟩:=arI h h1 h2 ka kb hK;have fin:∀tm,af tm 2= .ptr 0 0->af tm 3= .ptr 1 0->af tm 4= .ptr 2 0->
   D P L (.seq (bK c119.body) (bK (aA c119.body))) ⟨[(0,.agg [aa s1,w1]),(1,.agg [aa s2,w2])],[],0,0⟩=some (.normal,⟨tm,[(2,.cells true true true 2 [.int .i64 0,.ab]),(1,.cells true true true 2 [aa s2,w2]),(0,.cells true true true 2 [aa s1,w1])],3,0⟩)->ae P L 119 [.agg [aa s1,w1],.agg [aa s2,w2]] r:=fun tm t2 t3 t4 e=>by
  unfold ae;rw [av h.afr];show gD [.cell 4 2 true] (D P L (.seq (bK c119.body) (.seq (bK (aA c119.body)) (aA (aA c119.body)))) ⟨[(0,.agg [aa s1,w1]),(1,.agg [aa s2,w2])],[],0,0⟩)=_
  have e2:D P L (.seq (bK c119.body) (.seq (bK (aA c119.body)) (aA (aA c119.body)))) ⟨[(0,.agg [aa s1,w1]),(1,.agg [aa s2,w2])],[],0,0⟩=oK P L (D P L (.seq (bK c119.body) (bK (aA c119.body))) ⟨[(0,.agg [aa s1,w1]),(1,.agg [aa s2,w2])],[],0,0⟩) (aA (aA c119.body)):=by
   rw [jy,jy]
   cases D P L (bK c119.body) ⟨[(0,.agg [aa s1,w1]),(1,.agg [aa s2,w2])],[],0,0⟩ with
   | none=>rfl
   | some q=>
    obtain ⟨ex,st⟩:=q
    cases ex with
    | normal=>rw [fM,fM,jy]
    | ret=>rfl
    | exit id=>rfl
  rw [e2,e,fM];exact tail tm t2 t3 t4
 rcases h1 with ⟨rfl,rfl,a1,a2⟩ | ⟨e,l,rfl,ga,na,va,sa,a1⟩
 ·rcases h2 with ⟨rfl,rfl,b1,b2⟩ | ⟨e,l,rfl,gb,nb,vb,sb,b1⟩
  ·by_cases ic: -9223372036854775808<=s1+s2/\s1+s2<9223372036854775808
   ·refine ⟨.agg [aa (s1+s2),.ab],?_,cM.ot ic.1 ic.2⟩;have e:decide (s1<s1+s2)=decide (0<s2):=by
     by_cases h:0<s2
     ·simp only [h,yq];exact yV (by omega)
     ·simp only [h,yp];exact yM (by omega)
    unfold ae;rw [av h.afr]
    simp only [go_sem,ya,yb,c119,aH,iX,gC,dw,oM,bg,yd,bY,wrap64 (n:=s1+s2) ic.1 ic.2,e,tx,qX];rfl
   ·have e:(decide (s1<IntKind.wrap .i64 (s1+s2))==decide (0<s2))=false:=by
     have hw:(9223372036854775808<=s1+s2/\IntKind.wrap .i64 (s1+s2)=s1+s2-18446744073709551616)\/(s1+s2< -9223372036854775808/\IntKind.wrap .i64 (s1+s2)=s1+s2+18446744073709551616):=by
      simp only [IntKind.wrap,IntKind.bits,IntKind.signed,xt]
      split<;>rename_i h<;>simp at h<;>omega
     by_cases h0:0<s2
     ·rw [yV h0,yM (by omega)];rfl
     ·rw [yM h0,yV (by omega)];rfl
    refine ⟨r,fin _ ?_ ?_ ?_ (by simp only [go_sem,ya,yb,bK,aA,c119,aH,gC,dw,oM,bg,yd,bY,e]<;>rfl),hr⟩<;>simp only [go_sem,ya]
  ·refine ⟨r,fin _ ?_ ?_ ?_ (by simp only [go_sem,ya,yb,bK,aA,c119,aH,gC,nD,dw,bg,yd,bY]<;>rfl),hr⟩<;>simp only [go_sem,ya]
 ·refine ⟨r,fin _ ?_ ?_ ?_ (by simp only [go_sem,ya,yb,bK,aA,c119,aH,u2.pu,u2.one,nD,dw,bg,yd,bY]<;>rfl),hr⟩<;>simp only [go_sem,ya]
end
end
section
open Go (IntKind)
def Ce {P:aK} {L:Lib} (a b c:VC) (s:St):D P L (.seq a (.seq b c)) s=oK P L (D P L (.seq a b) s) c:=by
 rw [jy,jy]
 cases D P L a s with
 | none=>rfl
 | some q=>
  obtain ⟨ex,st⟩:=q
  cases ex with
  | normal=>rw [fM,fM,jy]
  | ret=>rfl
  | exit id=>rfl
def acX {s s':Int} {w w':AV} {l l':List Nat} (h:bJ w l) (h':bJ w' l') (hp:Hp):result hp (.aq [.agg [aa s,w],.agg [aa s',w']])=some (.aq [.agg [aa s,w],.agg [aa s',w']]):=by
 rcases h with ⟨rfl,_⟩ | ⟨e,rfl⟩<;>rcases h' with ⟨rfl,_⟩ | ⟨e',rfl⟩<;>rfl
def NP (tm:Env) (hp:Hp) (ct:Nat) (rs:List (Nat×Bool×Nat)) (sz:Nat) (p:AV) (new:List AV):fQ:=match p with | .ptr id o=>bif oD tm id rs then fy hp ct id o sz new (ap hp id) else none | _=>none
def NQ (id:Nat):AV->Bool | .ptr j _=> !Nat.beq j id | .aF _=>true | _=>false
def RM {P:aK} {L:Lib} (f:cJ) (tm:Env) (hp:Hp) (ct:Nat) (rs:List (Nat×Bool×Nat)) (sz:Nat) (x v:X):bt P L f tm hp ct (.jE rs sz x v)=NP tm hp ct rs sz (az tm x) (cellsOf (az tm v)):=by
 simp only [bt,NP]
 cases hx:az tm x with
 | ptr id o=>
  rw [ZV,hx,aer]
 | _=>rfl
def RN {tm:Env} {hp:Hp} {ct:Nat} {rs:List (Nat×Bool×Nat)} {sz id o:Nat} {new:List AV} (h:oD tm id rs=true):NP tm hp ct rs sz (.ptr id o) new=fy hp ct id o sz new (ap hp id):=by
 simp only [NP,h,ym]
def Q8 (tm:Env) (id:Nat):oD tm id []=true:=(rfl)
def QO (tm:Env) (id sz x:Nat) (ag:Bool) (r:List (Nat×Bool×Nat)):oD tm id ((sz,ag,x)::r)=(NQ id (af tm x)&&oD tm id r):=by
 simp only [oD,NQ]
 grind
def RO {id j o:Nat} (h:j≠id):NQ id (.ptr j o)=true:=by simp only [NQ,cE h,yI]
section
variable {P:aK} {L:Lib}
def aft (h:Nu P L) {v w:AV} {a b:Int} {K:Nat} (hv:cD v a) (hw:cD w b) (ka:Bd K a) (kb:Bd K b) (hK:K<=40000000000):∃r,ae P L 156 [v,w] r/\cD r (a-b):=by
 obtain ⟨n,e1,hn⟩:=E4 h hw kb (by omega);obtain ⟨r,e2,hr⟩:=Jk h hv hn ka kb.neg hK;have bX:=hr;obtain ⟨s1,w1,rfl,h1⟩:=hv;obtain ⟨s2,w2,rfl,h2⟩:=hw;obtain ⟨s3,w3,rfl,h3⟩:=hn;obtain ⟨s4,w4,rfl,h4⟩:=hr;obtain ⟨l1,u1⟩:=h1.aw;obtain ⟨l2,u2⟩:=h2.aw;obtain ⟨l3,u3⟩:=h3.aw;obtain ⟨l4,u4⟩:=h4.aw;refine ⟨_,?_,bX⟩;unfold ae;rw [av h.auU];simp only [go_sem,ya,yb,SQ,aH,u1.pu,u1.ai,u1.one,u2.pu,u2.ai,u2.one,u3.ai,bk,e1,e2,bE,db,de,bW,yj,ml u4,dQ u4]
def afu (h:Nu P L) {v w:AV} {a b:Int} {K:Nat} (hv:cD v a) (hw:cD w b) (ka:Bd K a) (kb:Bd K b) (hK:K<=40000000000):ae P L 118 [v,w] (aa (bZ (a-b))):=by
 obtain ⟨d,e1,hd⟩:=aft h hv hw ka kb hK;have e2:=E3 h hd;obtain ⟨s1,w1,rfl,h1⟩:=hv;obtain ⟨s2,w2,rfl,h2⟩:=hw;obtain ⟨s3,w3,rfl,h3⟩:=hd;obtain ⟨l2,u2⟩:=h2.aw;obtain ⟨l3,u3⟩:=h3.aw;unfold ae;rw [av h.auT];rcases h1 with ⟨rfl,rfl,a1,a2⟩ | ⟨e,l,rfl,ga,na,va,sa,a1⟩
 ·rcases h2 with ⟨rfl,rfl,b1,b2⟩ | ⟨e,l,rfl,gb,nb,vb,sb,b1⟩
  ·by_cases c1:s1<s2
   ·rw [show bZ (s1-s2)= -1 by unfold bZ;rw [yJ (by omega)]];simp only [go_sem,ya,yb,CO,aH,gC,dw,bg,yd,bY,c1]
   ·by_cases c2:s2<s1
    ·rw [show bZ (s1-s2)=1 by unfold bZ;rw [yz (by omega),yz (by omega)]];simp only [go_sem,ya,yb,CO,aH,gC,dw,bg,yd,bY,c1,c2]
    ·rw [show bZ (s1-s2)=0 by unfold bZ;rw [yz (by omega),yJ (by omega)]];simp only [go_sem,ya,yb,CO,aH,gC,dw,bg,yd,bY,c1,c2]
  ·simp only [go_sem,ya,yb,CO,aH,gC,nD,dw,bg,yd,bY,bW,bk,e1,e2,u3.ai,bE]
 ·simp only [go_sem,ya,yb,CO,aH,u2.pu,u2.ai,u2.one,nD,dw,bg,yd,bY,bW,bk,e1,e2,u3.ai,bE]
def arJ (h:Nu P L) {s1 s2:Int} {w1 w2:AV} {a b:Int} {K:Nat} (ha:cM s1 w1 a) (hb:cM s2 w2 b) (ka:Bd K a) (kb:Bd K b) (hK:K<=40000000000):
  ∃r,cD r (a*b)/\∀tm,af tm 2= .ptr 0 0->af tm 3= .ptr 1 0->af tm 4= .ptr 2 0->gD [.cell 4 2 true] (D P L (aA (aA mv.body)) ⟨tm,[(2,.cells true true true 2 [.int .i64 0,.ab]),(1,.cells true true true 2 [aa s2,w2]),(0,.cells true true true 2 [aa s1,w1])],3,0⟩)=some r:=by
 obtain ⟨l1,u1⟩:=ha.aw;obtain ⟨l2,u2⟩:=hb.aw;obtain ⟨p,e1,hp⟩:=zJ h ha;obtain ⟨q,e2,hq⟩:=zJ h hb;obtain ⟨lp,gQ,gp,np,vp⟩:=hp.aw;obtain ⟨lq,oc,gq,nq,vq⟩:=hq.aw;have BU:=yH ka (AU K);have FK:=yH kb (AU K);have llp:lp.length<=40000000000:=xi (nM np vp BU) hK;have llq:lq.length<=40000000000:=xi (nM nq vq FK) hK;obtain ⟨o,nn,e3,ho,nm,no,vo⟩:=auB h.auK h.my h.mz h.gE gQ oc gp gq (by omega) (by omega);obtain ⟨r,e4,hr⟩:=C1 h (decide (a<0) !=decide (b<0)) ⟨nn,ho,nm,no,vo⟩ (K:=K+K) (by rw [vp,vq,wP];exact tv BU FK) (by omega)
 rw [vp,vq,Z4] at hr;have bX:=hr;obtain ⟨s',w',rfl,jZ⟩:=hr;obtain ⟨l',iP⟩:=jZ.aw;refine ⟨_,bX,fun tm t2 t3 t4=>?_⟩;have rT:∀x y:Bool,I9 true (some (x==y))=some (.bool (x !=y)):=fun x y=>by cases x<;>cases y<;>rfl
 simp only [go_sem,ya,mv,aA,t2,t3,t4,bW,bk,u1.ai,u2.ai,e1,e2,gQ.ai,oc.ai,oM,rT,e3,ho.ai,ho.shut,e4,bE,db,de,bW,yj,ml iP,dQ iP]
def am0 {a b:Int} {m:Nat} (h:a.natAbs*b.natAbs=m):a*b=if (decide (a<0)==decide (b<0))=true then (m:Int) else 0-(m:Int):=by
 have:=Z4 (a:=a) (b:=b)
 rw [h] at this;unfold cL at this
 cases hd:(decide (a<0)==decide (b<0)) with
 | true=>simp only [bne,hd,Bool.not_true,Bool.false_eq_true,yR] at this;exact this.symm
 | false=>simp only [bne,hd,yI,y7] at this;rw [yz (by decide)];omega
def rJ (h:Nu P L) {v w:AV} {a b:Int} {K:Nat} (hv:cD v a) (hw:cD w b) (ka:Bd K a) (kb:Bd K b) (hK:K<=40000000000):∃r,ae P L 100 [v,w] r/\cD r (a*b):=by
 obtain ⟨s1,w1,rfl,h1⟩:=hv;obtain ⟨s2,w2,rfl,h2⟩:=hw;obtain ⟨l1,u1⟩:=h1.aw;obtain ⟨l2,u2⟩:=h2.aw;obtain ⟨r,hr,tail⟩:=arJ h h1 h2 ka kb hK;have fin:∀tm,af tm 2= .ptr 0 0->af tm 3= .ptr 1 0->af tm 4= .ptr 2 0->
   D P L (.seq (bK mv.body) (bK (aA mv.body))) ⟨[(0,.agg [aa s1,w1]),(1,.agg [aa s2,w2])],[],0,0⟩=some (.normal,⟨tm,[(2,.cells true true true 2 [.int .i64 0,.ab]),(1,.cells true true true 2 [aa s2,w2]),(0,.cells true true true 2 [aa s1,w1])],3,0⟩)->ae P L 100 [.agg [aa s1,w1],.agg [aa s2,w2]] r:=fun tm t2 t3 t4 e=>by
  unfold ae;rw [av h.NO];show gD [.cell 4 2 true] (D P L (.seq (bK mv.body) (.seq (bK (aA mv.body)) (aA (aA mv.body)))) ⟨[(0,.agg [aa s1,w1]),(1,.agg [aa s2,w2])],[],0,0⟩)=_
  rw [Ce,e,fM];exact tail tm t2 t3 t4
 rcases h1 with ⟨rfl,rfl,a1,a2⟩ | ⟨e,l,rfl,ga,na,va,sa,a1⟩
 ·rcases h2 with ⟨rfl,rfl,b1,b2⟩ | ⟨e,l,rfl,gb,nb,vb,sb,b1⟩
  ·have f1:=Tk h a1 a2;have f2:=Tk h b1 b2;have f3:=Mi (P:=P) (f:=D P L) h.mz (x:=s1.natAbs) (y:=s2.natAbs) (by omega) (by omega);obtain ⟨m,hm⟩:∃m,s1.natAbs*s2.natAbs=m:=⟨_,rfl⟩;rw [hm] at f3;have nR:=am0 hm;by_cases ic:m<=9223372036854775807
   ·rw [wS (by omega),yP (by omega)] at f3;rw [show (uc 0)=AV.int .u64 0 from rfl] at f3;by_cases hs:(decide (s1<0)==decide (s2<0))=true
    ·rw [yJ hs] at nR;refine ⟨.agg [aa (m:Int),.ab],?_,by rw [nR];exact cM.ot (by omega) (by omega)⟩
     unfold ae;rw [av h.NO]
     simp only [go_sem,ya,yb,mv,aH,iX,gC,dw,Ij,oM,bg,yd,bY,f1,f2,f3,show (m:Int)<=9223372036854775807 by omega,hs,Mh,wrap64 (n:=(m:Int)) (by omega) (by omega),qX];rfl
    ·rw [yz hs] at nR;refine ⟨.agg [aa (0-(m:Int)),.ab],?_,by rw [nR];exact cM.ot (by omega) (by omega)⟩
     unfold ae;rw [av h.NO]
     simp only [go_sem,ya,yb,mv,aH,iX,gC,dw,Ij,oM,bg,yd,bY,f1,f2,f3,show (m:Int)<=9223372036854775807 by omega,hs,Mh,wrap64 (n:=(m:Int)) (by omega) (by omega),wrap64 (n:=0-(m:Int)) (by omega) (by omega),qX];rfl
   ·by_cases BV:m/18446744073709551616=0
    ·rw [BV,yP (by omega)] at f3;rw [show (uc 0)=AV.int .u64 0 from rfl] at f3;refine ⟨r,fin _ ?_ ?_ ?_ (by simp only [go_sem,ya,yb,bK,aA,mv,aH,gC,dw,bg,yd,bY,f1,f2,f3,show ¬(m:Int)<=9223372036854775807 by omega]<;>rfl),hr⟩<;>simp only [go_sem,ya]
    ·obtain ⟨q,hq⟩:∃q,q=m/18446744073709551616:=⟨_,rfl⟩;rw [<-hq] at f3 BV;refine ⟨r,fin _ ?_ ?_ ?_ (by simp only [go_sem,ya,yb,bK,aA,mv,aH,gC,dw,bg,yd,bY,f1,f2,f3,show ¬(q:Int)=0 by omega]<;>rfl),hr⟩<;>simp only [go_sem,ya]
  ·refine ⟨r,fin _ ?_ ?_ ?_ (by simp only [go_sem,ya,yb,bK,aA,mv,aH,gC,nD,dw,bg,yd,bY]<;>rfl),hr⟩<;>simp only [go_sem,ya]
 ·refine ⟨r,fin _ ?_ ?_ ?_ (by simp only [go_sem,ya,yb,bK,aA,mv,aH,u2.pu,u2.one,nD,dw,bg,yd,bY]<;>rfl),hr⟩<;>simp only [go_sem,ya]
end
end
section
open Go (IntKind)
def akL {a b:Int} {q r:Nat} (hb:0<b) (h:q=a.natAbs/b.natAbs) (h2:r=a.natAbs%b.natAbs):
  (cL (decide (a<0)) r<0->a/b=cL (decide (a<0)) q-1/\a%b=cL (decide (a<0)) r+b)/\(¬cL (decide (a<0)) r<0->a/b=cL (decide (a<0)) q/\a%b=cL (decide (a<0)) r):=by
 have fL:=wB a.natAbs b.natAbs;have bi:r<b.natAbs:=by rw [h2];exact xC _ (by omega)
 unfold cL;by_cases h0:a<0
 ·simp only [h0,yq,y7];constructor
  ·intro h3;refine (uD hb).2 ⟨?_,by omega,by omega⟩
   grind
  ·intro h3;refine (uD hb).2 ⟨?_,by omega,by omega⟩
   grind
 ·grind
section
variable {P:aK} {L:Lib}
def arK (h:Nu P L) {s1 s2:Int} {w1 w2:AV} {a b:Int} {K:Nat} (ha:cM s1 w1 a) (hb:cM s2 w2 b) (dL:0<b) (ka:Bd K a) (kb:Bd K b) (hK:K<=30000000000):
  ∃q r,cD q (a/b)/\cD r (a%b)/\∀tm,af tm 2= .ptr 0 0->af tm 3= .ptr 1 0->af tm 4= .ptr 2 0->af tm 5= .ptr 3 0->gD [.cell 4 2 true,.cell 5 2 true] (D P L (aA (aA ir.body)) ⟨tm,[(3,.cells true true true 2 [.int .i64 0,.ab]),(2,.cells true true true 2 [.int .i64 0,.ab]),(1,.cells true true true 2 [aa s2,w2]),(0,.cells true true true 2 [aa s1,w1])],4,0⟩)=some (.aq [q,r]):=by
 obtain ⟨l1,u1⟩:=ha.aw;obtain ⟨l2,u2⟩:=hb.aw;obtain ⟨p,e1,hp⟩:=zJ h ha;obtain ⟨q,e2,hq⟩:=zJ h hb;have cS:cD (.agg [aa s2,w2]) b:=⟨s2,w2,rfl,hb⟩;obtain ⟨lp,gQ,_⟩:=hp.aw;obtain ⟨lq,oc,_⟩:=hq.aw;have BU:=yH ka (AU K);have FK:=yH kb (AU K);obtain ⟨dq,dr,e3,Dr,ig⟩:=afp h.toWd hp hq (by omega) BU FK (by omega);obtain ⟨Kl,uq,_⟩:=Dr.aw;obtain ⟨lr1,ur,_⟩:=ig.aw;have hqk:a.natAbs/b.natAbs<18446744073709551616^K:=wD (uy _ _) BU;have hrk:a.natAbs%b.natAbs<18446744073709551616^K:=wD (ybQ _ _) BU;have hqb:a.natAbs/b.natAbs<2^K:=wD (uy _ _) ka;have VG:a.natAbs%b.natAbs<2^K:=wD (ybQ _ _) ka;obtain ⟨f1,f2⟩:=akL (a:=a) dL rfl rfl;generalize a.natAbs/b.natAbs=Q at*
 generalize a.natAbs%b.natAbs=R at*
 obtain ⟨vq,e4,hvq⟩:=C1 h (decide (a<0)) Dr hqk (by omega);obtain ⟨vr,e5,J5⟩:=C1 h (decide (a<0)) ig hrk (by omega);have hsq:Bd K (cL (decide (a<0)) Q):=by unfold Bd cL;split<;>omega
 have hsr:Bd K (cL (decide (a<0)) R):=by unfold Bd cL;split<;>omega
 generalize cL (decide (a<0)) R=Rs at*
 have e6:=E3 h J5;have afv:=hvq;have afw:=J5;obtain ⟨s3,w3,rfl,h3⟩:=hvq;obtain ⟨s4,w4,rfl,h4⟩:=J5;obtain ⟨l3,u3⟩:=h3.aw;obtain ⟨l4,u4⟩:=h4.aw;by_cases h0:Rs<0
 ·obtain ⟨g1,g2⟩:=f1 h0;have jG:Bd (K+1) 1:=Bd.mono (k:=1) (by unfold Bd;decide) (by omega)
  obtain ⟨o1,o2⟩:=C0 h (z:=1) (by decide) (by decide);obtain ⟨vq2,e7,Tl⟩:=aft h afv o2 (K:=K+1) (hsq.mono (by omega)) jG (by omega);obtain ⟨vr2,e8,Tm⟩:=Jk h afw cS (K:=K+1) (hsr.mono (by omega)) (kb.mono (by omega)) (by omega);rw [<-g1] at Tl;rw [<-g2] at Tm;have lM:bZ Rs<0:=by unfold bZ;rw [yJ h0];decide
  have k1:=Tl;have k2:=Tm;obtain ⟨s5,w5,rfl,h5⟩:=Tl;obtain ⟨s6,w6,rfl,h6⟩:=Tm;obtain ⟨l5,u5⟩:=h5.aw;obtain ⟨l6,u6⟩:=h6.aw;refine ⟨_,_,k1,k2,fun tm t2 t3 t4 t5=>?_⟩;simp only [go_sem,ya,yb,ir,aA,t2,t3,t4,t5,RM,RN,Q8,QO,RO,ve,aH,bW,bk,u1.ai,u2.ai,e1,e2,gQ.ai,oc.ai,e3,uq.ai,uq.bO,ur.ai,ur.bO,e4,e5,bE,db,de,bW,yj,dQ u3,dQ u4,u3.ai,u4.ai,e6,lM,o1,e7,e8,db,de,bW,yj,dQ u5,dQ u6,acX u5 u6]
 ·obtain ⟨g1,g2⟩:=f2 h0;have lM:¬bZ Rs<0:=by unfold bZ;rw [yz h0];split<;>decide
  refine ⟨_,_,by rw [g1];exact afv,by rw [g2];exact afw,fun tm t2 t3 t4 t5=>?_⟩
  simp only [go_sem,ya,yb,ir,aA,t2,t3,t4,t5,RM,RN,Q8,QO,RO,ve,aH,bW,bk,u1.ai,u2.ai,e1,e2,gQ.ai,oc.ai,e3,uq.ai,uq.bO,ur.ai,ur.bO,e4,e5,bE,db,de,bW,yj,dQ u3,dQ u4,u4.ai,e6,lM,acX u3 u4]
def Tn (h:Nu P L) {v w:AV} {a b:Int} {K:Nat} (hv:cD v a) (hw:cD w b) (dL:0<b) (ka:Bd K a) (kb:Bd K b) (hK:K<=30000000000):∃q r,ae P L 164 [v,w] (.aq [q,r])/\cD q (a/b)/\cD r (a%b):=by
 obtain ⟨s1,w1,rfl,h1⟩:=hv;obtain ⟨s2,w2,rfl,h2⟩:=hw;obtain ⟨l1,u1⟩:=h1.aw;obtain ⟨l2,u2⟩:=h2.aw;obtain ⟨q,r,hq,hr,tail⟩:=arK h h1 h2 dL ka kb hK;have fin:∀tm,af tm 2= .ptr 0 0->af tm 3= .ptr 1 0->af tm 4= .ptr 2 0->af tm 5= .ptr 3 0->
   D P L (.seq (bK ir.body) (bK (aA ir.body))) ⟨[(0,.agg [aa s1,w1]),(1,.agg [aa s2,w2])],[],0,0⟩=some (.normal,⟨tm,[(3,.cells true true true 2 [.int .i64 0,.ab]),(2,.cells true true true 2 [.int .i64 0,.ab]),(1,.cells true true true 2 [aa s2,w2]),(0,.cells true true true 2 [aa s1,w1])],4,0⟩)->ae P L 164 [.agg [aa s1,w1],.agg [aa s2,w2]] (.aq [q,r]):=fun tm t2 t3 t4 t5 e=>by
  unfold ae;rw [av h.nJ];show gD [.cell 4 2 true,.cell 5 2 true] (D P L (.seq (bK ir.body) (.seq (bK (aA ir.body)) (aA (aA ir.body)))) ⟨[(0,.agg [aa s1,w1]),(1,.agg [aa s2,w2])],[],0,0⟩)=_
  rw [Ce,e,fM];exact tail tm t2 t3 t4 t5
 rcases h1 with ⟨rfl,rfl,a1,a2⟩ | ⟨e,l,rfl,ga,na,va,sa,a1⟩
 ·rcases h2 with ⟨rfl,rfl,b1,b2⟩ | ⟨e,l,rfl,gb,nb,vb,sb,b1⟩
  ·by_cases hm:s1= -9223372036854775808
   ·refine ⟨q,r,fin _ ?_ ?_ ?_ ?_ (by simp only [go_sem,ya,yb,bK,aA,ir,aH,gC,dw,bg,yd,bY,hm]<;>rfl),hq,hr⟩<;>simp only [go_sem,ya]
   ·obtain ⟨f1,f2⟩:=YZ (a:=s1) dL;have cf:s1.tdiv s2=0\/(s1.tdiv s2).natAbs<=s1.natAbs:= .inr (Int.natAbs_tdiv_le_natAbs s1 s2);have cw:=Int.tmod_lt_of_pos s1 dL;have fh:=Int.lt_tmod_of_pos s1 dL;by_cases h0:s1.tmod s2<0
    ·obtain ⟨g1,g2⟩:=f1 h0;rw [g1,g2];refine ⟨.agg [aa (s1.tdiv s2-1),.ab],.agg [aa (s1.tmod s2+s2),.ab],?_,cM.ot (by omega) (by omega),cM.ot (by omega) (by omega)⟩;unfold ae;rw [av h.nJ]
     simp only [go_sem,ya,yb,ir,aH,iX,gC,dw,bg,yd,bY,hm,fq _ _ _ (show s2≠0 by omega),eD _ _ _ (show s2≠0 by omega),h0,wrap64 (n:=s1.tdiv s2) (by omega) (by omega),wrap64 (n:=s1.tdiv s2-1) (by omega) (by omega),wrap64 (n:=s1.tmod s2+s2) (by omega) (by omega),qX];rfl
    ·obtain ⟨g1,g2⟩:=f2 h0;rw [g1,g2];refine ⟨.agg [aa (s1.tdiv s2),.ab],.agg [aa (s1.tmod s2),.ab],?_,cM.ot (by omega) (by omega),cM.ot (by omega) (by omega)⟩;unfold ae;rw [av h.nJ]
     simp only [go_sem,ya,yb,ir,aH,iX,gC,dw,bg,yd,bY,hm,fq _ _ _ (show s2≠0 by omega),eD _ _ _ (show s2≠0 by omega),h0,wrap64 (n:=s1.tdiv s2) (by omega) (by omega),qX];rfl
  ·refine ⟨q,r,fin _ ?_ ?_ ?_ ?_ (by simp only [go_sem,ya,yb,bK,aA,ir,aH,gC,nD,dw,bg,yd,bY]<;>rfl),hq,hr⟩<;>simp only [go_sem,ya]
 ·refine ⟨q,r,fin _ ?_ ?_ ?_ ?_ (by simp only [go_sem,ya,yb,bK,aA,ir,aH,u2.pu,u2.one,nD,dw,bg,yd,bY]<;>rfl),hq,hr⟩<;>simp only [go_sem,ya]
end
end
end VE
