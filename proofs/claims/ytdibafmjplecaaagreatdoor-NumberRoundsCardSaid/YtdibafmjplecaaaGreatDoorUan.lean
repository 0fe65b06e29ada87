import Derived.Test.YtdibafmjplecaaaGreatDoorUam
import Derived.Test.YtdibafmjplecaaaGreatDoorUab
set_option linter.all false
set_option maxRecDepth 100000
open BitVec renaming ofInt→xC,ofNat→td,toNat_ofNat→vD
open Bool renaming and_self→uF,false_eq_true→yB,not_false→yS,not_true→yN,true_and→wq
open Go renaming Code→wK,Func→yai,World→yi
open Go.Fence renaming wide→yaR
open Int renaming ediv_emod_unique→tK,gcd→wJ,gcd_comm→yca,natAbs_ediv_of_dvd→uy,natAbs_mul→yby,natCast_mul→wY,pow_zero→yaq,reduceEq→vE,reduceLT→ybZ
open List renaming append_assoc→xt,append_nil→xV,drop_drop→vN,drop_zero→yt,eq_nil_of_length_eq_zero→yD,length_append→yY,length_cons→yM,length_drop→xN,length_nil→yV,length_pos_iff→uz,length_take→yW,map_append→xH,map_cons→xm,map_map→ybF,map_reverse→yae,nil_append→xW,take_append_drop→xT,take_of_length_le→yQ
open Nat renaming add_comm→ybl,add_zero→yZ,beq→yp,ble→yy,ble_eq_true_of_le→yr,blt→yI,div_add_mod→xM,div_eq_of_lt→xL,div_le_self→wN,eq_zero_or_pos→xh,le_refl→yA,le_trans→xe,lt_of_le_of_lt→xJ,lt_of_lt_of_le→yE,mod_eq_of_lt→yG,mod_le→ycz,mod_lt→xv,mul_add→xr,mul_add_div→yaw,mul_add_mod→yax,mul_assoc→xb,mul_comm→xg,mul_le_mul_left→yP,mul_le_mul_right→yT,mul_lt_mul''→tz,mul_lt_mul_of_pos_right→xI,mul_one→ym,mul_zero→xp,pos_of_ne_zero→uQ,pow_add→xj,pow_le_pow_left→wX,pow_le_pow_right→yR,pow_one→ycm,pow_pos→yao,pow_succ→yU,reduceAdd→yd,reduceEqDiff→ya,reduceLT→yO,reduceLeDiff→yC,reduceMul→xQ,zero_add→yh
open Rat renaming den_divInt→ybA,divInt→wu,divInt_ofNat→ybg,lt_iff→ycA,num_divInt→ybz,sub_eq_add_neg→yaQ
open UInt8 renaming toNat→xf
namespace VE
open Go (IntKind)
def Z1 {b p A V bu bq0 U0 pre:Nat} (h1:bu=pre+p*A) (h2:bu+bq0*V=U0):(pre+p*(A%V))+(bq0+p*(A/V))*V=U0:=by
 have eB:=xM A V
 grind
def ayk (hp:Hp) (ct:Nat) (ex:Bool) (sz n:Nat) (cs:List AV):own hp ct (.bI ex sz n cs)=(.aD ct 0 n,(ct,.cells true true ex sz cs)::hp,ct+1):=rfl
section
variable {P:aM} {L:Lib}
def awe (h:Wd P L) {w:AV} {vs:List Nat} (hw:bO w vs) (gv:lo 18446744073709551616 vs) {n la m:Nat} (lv:vs.length=n) (cX:2<=n) (Iw:n<=la) (IZ:la<=99999999999) (hm:m=la-n+1) (eG:0<vs.getD (n-1) 0) {s U0:Nat}:
  ∀k st,(∃(j:Nat) (us qs:List Nat),aP [9,10,11,12,13,14] st=⟨[(9,ab s),(10,w),(11,.aD 0 0 (la+1)),(12,ab n),(13,.aD 1 0 m),(14,ab ((j:Int)-1))],H2 qs us,2,0⟩/\j=k/\j<=m/\us.length=la+1/\qs.length=m/\lo 18446744073709551616 us/\lo 18446744073709551616 qs/\(∀i,i<j->qs.getD i 0=0)/\
    bv 18446744073709551616 us+bv 18446744073709551616 qs*bv 18446744073709551616 vs=U0/\bv 18446744073709551616 (us.drop j)<bv 18446744073709551616 vs)->
   ∃ex st',D P L (.loop [9,10,11,12,13,14] Gp) st=some (ex,st')/\∃tm us qs,st'=⟨tm,H2 qs us,2,0⟩/\ex= .exit 2/\aj tm 9=ab s/\aj tm 11= .aD 0 0 (la+1)/\aj tm 12=ab n/\aj tm 13= .aD 1 0 m/\us.length=la+1/\qs.length=m/\lo 18446744073709551616 us/\lo 18446744073709551616 qs/\
    bv 18446744073709551616 us+bv 18446744073709551616 qs*bv 18446744073709551616 vs=U0/\bv 18446744073709551616 us<bv 18446744073709551616 vs:=by
 intro dq sq;generalize bq:aP [9,10,11,12,13,14] sq=s0;revert bq s0 sq dq;apply dt;rintro k st ⟨j,us,qs,rfl,rfl,hj,lu,lq,gu,gq,hz,aI,mU⟩
 cases j with
 | zero=>
  right
  simp only [go_sem,ya,Gp,H2,show ¬(0:Int)<=((0:Nat):Int)-1 by omega];exact ⟨_,_,rfl,by simp,_,us,qs,rfl,rfl,by simp only [go_sem,ya],by simp only [go_sem,ya],by simp only [go_sem,ya],by simp only [go_sem,ya],lu,lq,gu,gq,aI,by simpa using mU⟩
 | succ j=>
  left
  have de:(0:Nat)<18446744073709551616:=by decide
  obtain ⟨pre,eL⟩:∃p,p=us.take j:=⟨_,rfl⟩;obtain ⟨x,hx⟩:∃p,p=(us.drop j).take (n+1):=⟨_,rfl⟩;obtain ⟨post,fI⟩:∃p,p=us.drop (j+(n+1)):=⟨_,rfl⟩;have lp:pre.length=j:=by rw [eL,yW];omega
  have lx:x.length=n+1:=by rw [hx,yW,xN];omega
  have jn:us=pre++x++post:=by
   rw [eL,hx,fI,<-vN,xt,xT,xT]
  have gx:lo 18446744073709551616 x:=by rw [hx];exact zt (ad6 gu _) _
  have V3:lo 18446744073709551616 pre:=by rw [eL];exact zt gu _
  have ayl:lo 18446744073709551616 post:=by rw [fI];exact ad6 gu _
  have hA:bv 18446744073709551616 (us.drop j)=us.getD j 0+18446744073709551616*bv 18446744073709551616 (us.drop (j+1)):=Kn (by omega);have hgj:=gi de gu j;have XG:us.drop j=x++post:=by rw [fI,hx,<-vN,xT]
  have sS:bv 18446744073709551616 (us.drop j)=bv 18446744073709551616 x+18446744073709551616^(n+1)*bv 18446744073709551616 post:=by rw [XG,pV,lx]
  have IX:=lk gv;rw [lv] at IX;have aF:bv 18446744073709551616 (us.drop j)<18446744073709551616*bv 18446744073709551616 vs:=by omega
  have hp0:bv 18446744073709551616 post=0:=by
   rcases xh (bv 18446744073709551616 post) with e | e
   ·exact e
   ·have h1:=yP (18446744073709551616^(n+1)) e;rw [ym,yU] at h1;rw [yU] at sS;omega
  rw [hp0,xp,yZ] at sS;have hl:gm x vs n (vs.getD (n-1) 0) (vs.getD (n-2) 0) (x.getD n 0) (x.getD (n-1) 0) (x.getD (n-2) 0):=
   ⟨cX,by omega,lx,lv,gx,gv,rfl,rfl,rfl,rfl,rfl,eG,by rw [<-sS];exact aF⟩
  have MP:=hl.digit;obtain ⟨x',e1,XH,NS,I0⟩:=azC h hw hl (pre:=pre) (post:=post) (qs:=qs);rw [lp,<-jn] at e1;have XI:bv 18446744073709551616 us=bv 18446744073709551616 pre+18446744073709551616^j*bv 18446744073709551616 x:=by
   have:=FW (b:=18446744073709551616) us j (by omega)
   rw [sS,<-eL] at this;exact this
  have V4:bv 18446744073709551616 (pre++x'++post)=bv 18446744073709551616 pre+18446744073709551616^j*bv 18446744073709551616 x':=by
   rw [xt,pV,pV,hp0,xp,yZ,lp]
  have bi:=mJ (b:=18446744073709551616) (l:=qs) (i:=j) (x:=bv 18446744073709551616 x/bv 18446744073709551616 vs) (by omega);rw [hz j (by omega),xp,yZ] at bi;have im:=Z1 (b:=0) XI aI;have aT:=fun (hp:Hp) (ct:Nat)=>jD (hp:=hp) (ct:=ct) (id:=1) (v:=bv 18446744073709551616 x/bv 18446744073709551616 vs) (ex:=true) (l:=qs) (o:=j) (by omega)
  have pL:0<bv 18446744073709551616 vs:=by omega
  have kO:=xv (bv 18446744073709551616 x) pL;have kN:∀tm (x y:X),cP tm 0 (some x)=some j->cP tm (la+1) (some y)=some (j+n+1)->fb (H2 qs us) (.sl 1) (.aD 0 0 (la+1)) tm (some x) (some y)=some (.aD 0 j (n+1)):=fun tm x y h1 h2=>by
   rw [aso (cs:=us.map uc) (pu:=true) (ex:=true) rfl h1 h2 (by omega) (by omega),show j+n+1-j=n+1 by omega]
  simp only [go_sem,ya,ym,Gp,H2,show ((j+1:Nat):Int)-1=(j:Int) by omega,show (0:Int)<=(j:Int) by omega,show (j:Int)+(n:Int)=((j+n:Nat):Int) from rfl,wrapN (n:=j+n) (by omega),show ((j+n:Nat):Int)+1=((j+n+1:Nat):Int) from rfl,wrapN (n:=j+n+1) (by omega),kN,df,agE,e1,cS 1 0 (show j<m by omega),yh,aT];refine ⟨_,j,rfl,by omega,j,pre++x'++post,qs.set j (bv 18446744073709551616 x/bv 18446744073709551616 vs),?_,rfl,by omega,by rw [nQ,lp,XH,fI,xN];omega,by simp [lq],JM.2 ⟨JM.2 ⟨V3,NS⟩,ayl⟩,lf gq MP,fun i hi=>by rw [nP (by omega)];exact hz i (by omega),?_,?_⟩
  ·rw [wrap64 (by omega) (by omega)];simp only [go_sem,ya,yd,aC,aR hw.pu,bc _ hw.pu]<;>rfl
  ·rw [V4,I0,bi];exact im
  ·rw [xt,List.drop_left' lp,pV,hp0,xp,yZ,I0];exact kO
def aym {l:List Nat} {n:Nat} (h:l.length=n+1):18446744073709551616^n*l.getD n 0<=bv 18446744073709551616 l:=by
 have:=iK (b:=18446744073709551616) (l:=l) n
 grind
def mV {m K:Nat} {l:List Nat} (hn:fX l) (hv:bv 18446744073709551616 l=m) (h:m<18446744073709551616^K):l.length<=K:=anq (b:=18446744073709551616) (by decide) hn (by rw [hv];exact h)
def awf (h:Wd P L) {v w:AV} {x:List Nat} {d:Nat} (hv:bO v x) (hw:bO w [d]) (gx:lo 18446744073709551616 x) (lx:x.length<=90000000000) (fE:0<d) (XF:d<18446744073709551616) (ec:ai P L 158 [v,w] (ab (dF (bv 18446744073709551616 x) d))) (hc:d<=bv 18446744073709551616 x):
  ∃q r,ai P L 137 [v,w] (.aa [q,r])/\WN q (bv 18446744073709551616 x/d)/\WN r (bv 18446744073709551616 x%d):=by
 have dU:¬dF (bv 18446744073709551616 x) d<0:=by unfold dF;rw [yu (by omega)];split<;>decide
 obtain ⟨n,hn⟩:∃n,n=x.length:=⟨_,rfl⟩;have main:∃r l,(∀c:Nat->AV->AV->Option AV,True)/\r<d/\l.length=n/\lo 18446744073709551616 l/\bv 18446744073709551616 x=bv 18446744073709551616 l*d+r/\
   ∃q1 r1,bO q1 (dI l)/\bO r1 (dI [r])/\ai P L 137 [v,w] (.aa [q1,r1]):=by
  unfold ai;rw [aG h.V1]
  simp only [go_sem,ya,Hl,hv.len,hv.an,hw.len,hw.an,ec,dU,yM,yV,yh,show ((1:Nat):Int)=(1:Int) from rfl,<-hn,BV (n:=n) _ (by omega)];generalize hq:D P L (.loop [0,1,6,7,8] Gn) _=q;obtain ⟨ex,s,rfl,tm,r,l,rfl,rfl,t6,t7,qV,aY,hr,aI⟩:=cr hq (awc (P:=P) (L:=L) h hv gx (by omega) hw fE XF hn n) ⟨n,0,[],by
   rw [wrap64 (by omega) (by omega),xV]
   simp only [go_sem,ya,yd,aC,aR hv.pu,bc _ hv.pu,aR hw.pu,bc _ hw.pu]<;>rfl,rfl,rfl,Kz,fE,by rw [List.drop_eq_nil_of_le (by omega)];simp [bv]⟩
  have hf:=lT true l;rw [qV] at hf;obtain ⟨q1,e1,fk⟩:=Af h.lG hf (by omega);obtain ⟨r1,e2,dO⟩:=Af h.lG (lT true [r]) (by simp);simp only [yM,yV,yh,xm,List.map_nil] at e2;refine ⟨r,l,fun _=>trivial,hr,qV,aY,aI,q1,r1,fk,dO,?_⟩
  simp only [go_sem,ya,yd,yO,yC,ym,aC,t6,t7,Ae _ (n:=n) (l:=l) qV true,e1,fk.shut,e2,dO.shut];exact PY fk dO _
 obtain ⟨r,l,_,hr,qV,aY,aI,q1,r1,fk,dO,e⟩:=main;have hq:bv 18446744073709551616 l=bv 18446744073709551616 x/d:=by
  rw [aI,xg,yaw fE,xL hr,yZ]
 have hm:r=bv 18446744073709551616 x%d:=by
  rw [aI,xg,yax,yG hr]
 exact ⟨q1,r1,e,⟨_,fk,zm aY,zk _,by rw [zj,hq]⟩,⟨_,dO,zm (C2.2 (by omega)),zk _,by rw [zj,zE,hm]⟩⟩
def awg (h:Wd P L) {v w:AV} {x y:List Nat} (hv:bO v x) (hw:bO w y) (gx:lo 18446744073709551616 x) (gy:lo 18446744073709551616 y) (nx:fX x) (ny:fX y) (lx:x.length<=90000000000) (ly:2<=y.length) (ec:ai P L 158 [v,w] (ab (dF (bv 18446744073709551616 x) (bv 18446744073709551616 y)))) (hc:bv 18446744073709551616 y<=bv 18446744073709551616 x):
  ∃q r,ai P L 137 [v,w] (.aa [q,r])/\WN q (bv 18446744073709551616 x/bv 18446744073709551616 y)/\WN r (bv 18446744073709551616 x%bv 18446744073709551616 y):=by
 have de:(0:Nat)<18446744073709551616:=by decide
 have dU:¬dF (bv 18446744073709551616 x) (bv 18446744073709551616 y)<0:=by unfold dF;rw [yu (by omega)];split<;>decide
 have hyx:y.length<=x.length:=by
  by_cases hh:x.length<y.length
  ·have:=Ki (b:=18446744073709551616) (by decide) gx ny hh;omega
  ·omega
 obtain ⟨n,hn⟩:∃n,n=y.length:=⟨_,rfl⟩;obtain ⟨la,IZ⟩:∃la,la=x.length:=⟨_,rfl⟩;have mM:=J0 ny (fun e=>by subst e;simp at ly);have AG:=gi de gy (y.length-1);have XJ:=hw.cB (i:=y.length-1) (by omega);have iz:=aym (l:=y) (n:=n-1) (by omega);rw [<-hn] at mM AG XJ;obtain ⟨top,mU⟩:∃top,y.getD (n-1) 0=top:=⟨_,rfl⟩;rw [mU] at mM AG XJ iz;have elz:=afp (P:=P) (f:=D P L) h.H0 AG;obtain ⟨z1,z2,z3⟩:=Pf (uQ mM) AG;generalize 64-dK 64 top=s at*
 obtain ⟨ov,ev,lov,gov,vov⟩:=aiv h.aiA hw gy (by omega) z1;obtain ⟨ou,eu,lou,gou,vou⟩:=aiv h.aiA hv gx (by omega) z1;obtain ⟨v',XK,eA⟩:=Af h.lG (lT true ov) (by omega);rw [lov,<-hn] at XK;rw [<-hn] at ev;rw [<-IZ] at eu lou;have iC:=Nat.two_pow_pos s;obtain ⟨vs,sF⟩:∃vs,vs=dI ov:=⟨_,rfl⟩;rw [<-sF] at eA;have Cs:lo 18446744073709551616 vs:=by rw [sF];exact zm gov
 have I1:fX vs:=by rw [sF];exact zk _
 have rm:bv 18446744073709551616 vs=bv 18446744073709551616 y*2^s:=by rw [sF,zj,vov]
 have hyW:bv 18446744073709551616 y*2^s<18446744073709551616^n:=by
  have e:18446744073709551616=2^(64-s)*2^s:=by rw [<-xj,show 64-s+s=64 by omega]
  have e1:=iK (b:=18446744073709551616) (l:=y) (n-1);rw [show n-1+1=n by omega,yQ (by omega),mU] at e1;have e2:=lk (zt gy (n-1));rw [yW,Nat.min_eq_left (by omega)] at e2;have e3:top<2^(64-s):=Nat.lt_of_mul_lt_mul_right (a:=2^s) (Nat.lt_of_lt_of_eq z3 e);have e4:=yT (2^s) (show top+1<=2^(64-s) from e3);rw [<-e] at e4;have e5:bv 18446744073709551616 y<18446744073709551616^(n-1)*(top+1):=by rw [xr,ym];omega
  have e6:=xI e5 iC;rw [xb] at e6;have e7:=yP (18446744073709551616^(n-1)) e4;rw [<-yU,show (n-1).succ=n by omega] at e7;exact yE e6 e7
 have azD:18446744073709551616^(n-1)*2^s<=bv 18446744073709551616 vs:=by
  rw [rm];refine yT _ (xe ?_ iz)
  have:=yP (18446744073709551616^(n-1)) (show 1<=top by omega)
  omega
 have sT:vs.length=n:=by
  have h1:vs.length<=n:=by
   refine mV I1 rm ?_;exact hyW
  have h2:¬vs.length<n:=fun hh=>by
   have e1:=lk Cs;have e2:18446744073709551616^vs.length<=18446744073709551616^(n-1):=yR de (by omega);have e3:=yT (2^s) iz;rw [xb,<-rm] at e3;have e4:=yP (18446744073709551616^(n-1)) (show 1<=top*2^s by omega);omega
  omega
 have eG:0<vs.getD (n-1) 0:=by
  have:=J0 I1 (fun e=>by rw [e] at sT;simp at sT;omega)
  rw [sT] at this;exact uQ this
 obtain ⟨m,hm⟩:∃m,m=la-n+1:=⟨_,rfl⟩;have Qy:bv 18446744073709551616 (ou.drop m)<bv 18446744073709551616 vs:=by
  have e1:=FW (b:=18446744073709551616) ou m (by omega);have e2:=lk gx;rw [<-IZ] at e2;have e3:=xI e2 iC;rw [<-vou] at e3;have e4:18446744073709551616^la=18446744073709551616^m*18446744073709551616^(n-1):=by rw [<-xj];congr 1;omega
  rw [e4,xb] at e3;have e5:18446744073709551616^m*bv 18446744073709551616 (ou.drop m)<18446744073709551616^m*(18446744073709551616^(n-1)*2^s):=by omega
  exact yE (Nat.lt_of_mul_lt_mul_left e5) azD
 have e1y:(y.length:Int)-1=((n-1:Nat):Int):=by omega
 have azE:((la:Nat):Int)-(n:Int)=((m-1:Nat):Int):=by omega
 have iq:∃tm us qs rs,(us.length=la+1/\qs.length=m/\lo 18446744073709551616 us/\lo 18446744073709551616 qs/\bv 18446744073709551616 us+bv 18446744073709551616 qs*bv 18446744073709551616 vs=bv 18446744073709551616 x*2^s/\bv 18446744073709551616 us<bv 18446744073709551616 vs/\
   rs.length=n/\lo 18446744073709551616 rs/\bv 18446744073709551616 rs*2^s+us.getD 0 0%2^s=bv 18446744073709551616 (us.take n)+18446744073709551616^n*(us.getD n 0%2^s))/\aj tm 0=v/\
   ∃q1 r1,bO q1 (dI qs)/\bO r1 (dI rs)/\ai P L 137 [v,w] (.aa [q1,r1]):=by
  unfold ai at ec ev eu XK;unfold ai;rw [aG h.V1];have hfo:=Ae (n:=n+1) (l:=ov) (hp:=[]) (by omega) true
  simp only [go_sem,ya,yd,Hl,hv.len,hv.an,hw.len,hw.an,ec,dU,show ¬(y.length:Int)=1 by omega,e1y,wrapN (n:=n-1) (by omega),XJ,elz,ev,ayk,Ae _ (n:=n+1) (l:=ov) (by omega) true,XK,eA.len,eA.shut,eu,sT,<-IZ,azE,wrapN (n:=m-1) (by omega),show ((m-1:Nat):Int)+1=(m:Int) by omega,wrapN (n:=m) (by omega),BV (n:=m) _ (by omega)];generalize lO:D P L (.loop [9,10,11,12,13,14] Gp) _=qq;obtain ⟨ex,st,rfl,tm,us,qs,rfl,rfl,t9,t11,t12,t13,NT,NU,Ep,XL,aI,aF⟩:=cr lO (awe (P:=P) (L:=L) h eA Cs sT (by omega) (by omega) (by omega) hm eG (s:=s) (U0:=bv 18446744073709551616 x*2^s) m) ⟨m,ou,List.replicate m 0,by
   rw [show ((m-1:Nat):Int)=(m:Int)-1 by omega]
   simp only [go_sem,ya,yd,aC,aR eA.pu,bc _ eA.pu]<;>rfl,rfl,yA _,lou,by simp,gou,C3 de m,fun i _=>A8 m i,by rw [C4,Nat.zero_mul,yZ,vou],Qy⟩
  simp only [go_sem,ya,yd,aC,t9,t11,t12,t13];generalize BX:D P L (.loop [9,11,12,13,96,97] CV) _=XB;obtain ⟨ex,st,rfl,pz,rs,rfl,rfl,t11,t12,t13,XM,XN,MQ⟩:=cr BX (awd (P:=P) (L:=L) (qs:=qs) (m:=m) (la:=la+1) (n:=n) z1 NT Ep (by omega) (by omega) n) ⟨0,[],by simp only [go_sem,ya,yd,aC]<;>rfl,by omega,rfl,Kz,by simp [bv]⟩
  have kN:∀(hp:Hp) tm (y:X),aA hp 0=some (.cells true true true 1 ((rs++us.drop n).map uc))->cP tm (la+1) (some y)=some n->fb hp (.sl 1) (.aD 0 0 (la+1)) tm none (some y)=some (.aD 0 0 n):=fun hp tm y h1 h2=>aaR h1 h2 (by omega) (by omega)
  have I2:=lT true qs;rw [NU] at I2;obtain ⟨q1,f1,fk⟩:=Af h.lG I2 (by omega);have ep:(rs++us.drop n).take n=rs:=by rw [List.take_append_of_le_length (by omega),yQ (by omega)]
  have I3:∃e,∀hp:Hp,kM 0 n (some (true,1,(rs++us.drop n).map uc,hp))=some (.aB e n (rs.map uc),hp):=by
   refine ⟨true&&yI 0 1&&yp n ((rs++us.drop n).map uc).length,fun hp=>?_⟩;simp only [kM,yh,ym,slice,yt,<-List.map_take,ep];rw [yr (by simp;omega)];rfl
  obtain ⟨e,I3⟩:=I3;have iE:=lT e rs;rw [XM] at iE;obtain ⟨r1,f2,dO⟩:=Af h.lG iE (by omega);unfold ai at f1 f2;refine ⟨[(0,v)],us,qs,rs,⟨NT,NU,Ep,XL,aI,aF,XM,XN,MQ⟩,rfl,q1,r1,fk,dO,?_⟩
  simp only [go_sem,ya,yd,aC,t11,t12,t13,Ae _ (n:=m) (l:=qs) NU true,f1,fk.shut,kN,df,I3,f2,dO.shut];exact PY fk dO _
 obtain ⟨tm,us,qs,rs,⟨NT,NU,Ep,XL,aI,aF,XM,XN,MQ⟩,_,q1,r1,fk,dO,e⟩:=iq;have gA:0<bv 18446744073709551616 y:=by
  have:=yP (18446744073709551616^(n-1)) (show 1<=top by omega)
  have:=yao (n:=n-1) de
  omega
 rw [rm] at aI aF;have H4:bv 18446744073709551616 qs=bv 18446744073709551616 x/bv 18446744073709551616 y:=by
  rw [<-Nat.mul_div_mul_right _ _ iC,<-aI,ybl,xg,yaw (Nat.mul_pos gA iC),xL aF,yZ]
 have NV:bv 18446744073709551616 us=(bv 18446744073709551616 x%bv 18446744073709551616 y)*2^s:=by
  rw [<-Nat.mul_mod_mul_right,<-aI,ybl,xg (bv _ qs),yax,yG aF]
 have jn:=FW (b:=18446744073709551616) us n (by omega);have fE:bv 18446744073709551616 (us.drop n)=0:=by
  rcases xh (bv 18446744073709551616 (us.drop n)) with h0 | h0
  ·exact h0
  ·have:=yP (18446744073709551616^n) h0
   omega
 have hun:us.getD n 0=0:=by
  have:=Kn (b:=18446744073709551616) (l:=us) (i:=n) (by omega)
  omega
 rw [fE,xp,yZ] at jn;have AA:us.getD 0 0%2^s=0:=by
  have e1:=Kn (b:=18446744073709551616) (l:=us) (i:=0) (by omega);rw [yt,NV] at e1;have e2:18446744073709551616=2^s*2^(64-s):=by rw [<-xj,show s+(64-s)=64 by omega]
  have e3:(us.getD 0 0+18446744073709551616*bv 18446744073709551616 (us.drop (0+1)))%2^s=us.getD 0 0%2^s:=by
   conv=>lhs;rw [e2,xb]
   exact Nat.add_mul_mod_self_left _ _ _
  rw [<-e3,<-e1,Nat.mul_mod_left]
 rw [hun,AA,Nat.zero_mod,xp,yZ,yZ,<-jn,NV] at MQ;have agF:bv 18446744073709551616 rs=bv 18446744073709551616 x%bv 18446744073709551616 y:=Nat.eq_of_mul_eq_mul_right iC MQ;exact ⟨q1,r1,e,⟨_,fk,zm XL,zk _,by rw [zj,H4]⟩,⟨_,dO,zm XN,zk _,by rw [zj,agF]⟩⟩
def aiD (h:Wd P L) {v w:AV} {a b K:Nat} (hv:WN v a) (hw:WN w b) (hb:0<b) (ha:a<18446744073709551616^K) (hbK:b<18446744073709551616^K) (hK:K<=90000000000):
  ∃q r,ai P L 137 [v,w] (.aa [q,r])/\WN q (a/b)/\WN r (a%b):=by
 obtain ⟨x,Er,gx,nx,vx⟩:=hv;obtain ⟨y,NW,gy,ny,vy⟩:=hw;have lx:x.length<=90000000000:=xe (mV nx vx ha) hK;have ly:y.length<=90000000000:=xe (mV ny vy hbK) hK;have ec:=aiq h.aiB Er NW gx gy nx ny (by omega) (by omega);subst vx;subst vy;by_cases hc:bv 18446744073709551616 x<bv 18446744073709551616 y
 ·have dU:dF (bv 18446744073709551616 x) (bv 18446744073709551616 y)= -1:=by unfold dF;rw [yL hc]
  rw [dU] at ec;refine ⟨.ae,v,?_,⟨[],oX,Kz,rfl,by rw [xL hc];rfl⟩,⟨x,Er,gx,nx,by rw [yG hc]⟩⟩
  unfold ai;rw [aG h.V1];simp only [go_sem,ya,Hl,Er.an,NW.an,ec,show (-1:Int)<0 by decide];exact PY oX Er _
 ·rcases (show y.length=0\/y.length=1\/2<=y.length by omega) with h0 | h1 | h2
  ·rw [yD h0] at hb;simp [bv] at hb
  ·obtain ⟨d,rfl⟩:∃d,y=[d]:=by
    cases y with
    | nil=>simp at h1
    | cons d r=>cases r with
     | nil=>exact ⟨d,rfl⟩
     | cons e r=>simp at h1
   exact awf h Er NW gx lx hb (C2.1 gy) ec (by omega)
  ·exact awg h Er NW gx gy nx ny lx h2 ec (by omega)
end
def je (v:AV) (n:Int):Prop:=∃w l,v= .agg [.bool (decide (n<0)),w]/\bw w l/\dg l/\nz l/\dv l=n.natAbs
def iM {l:List Int} {k:Nat} (hd:dg l) (hn:nz l) (h:dv l<1000000000^k):l.length<=k:=by
 by_cases h0:l=[]
 ·grind
 ·have h1:=KW hn hd h0;have h2:1000000000^(l.length-1)<1000000000^k:=xJ h1 h;have h3:=(Nat.pow_lt_pow_iff_right (show 1<1000000000 by decide)).1 h2;omega
def fD {hp:Hp} {ct id:Nat} {a b x y:AV} (h1:eb a=true) (h2:eb b=true) (p1:bk a=true) (p2:bk b=true):
  jY hp ct id 0 2 [a,b] (some (.cells true true true 2 [x,y]))=some (.aa [],bi hp id (.cells true true true 2 [a,b]),ct):=by
 rw [KZ (by rfl) (by simp) (by simp [cK,h1,h2])];simp [aH,p1,p2,over]
section
variable {P:aM} {L:Lib}
def cp (neg:Bool) (m:Nat):Int:=if neg=true then -(m:Int) else m
def pq (h:Has P L 294 zW) (cD:Has P L 300 kK) (neg:Bool) {v:AV} {l:List Int} (hv:bw v l) (hd:dg l) (hl:l.length<=20000000000):
  ∃r,ai P L 294 [.bool neg,v] r/\je r (cp neg (dv l)):=by
 obtain ⟨w,e1,hw,iF⟩:=Ad cD hv hl;have oO:=rE l;have AH:=CQ l;have j8:=zi hd;have hc:(neg&&decide ((0:Int)<((dH l).length:Nat)))=decide (cp neg (dv l)<0):=by
  unfold cp
  cases neg with
  | false=>simp
  | true=>
   simp only [wq,xR];by_cases h0:dH l=[]
   ·rw [h0] at oO ⊢;simp only [dv] at oO;simp [<-oO]
   ·have h1:0<(dH l).length:=uz.2 h0;have h2:0<dv l:=by
     rw [<-oO];rcases xh (dv (dH l)) with h | h
     ·exact absurd (ad4 AH j8 h) h0
     ·exact h
    rw [y5 (by omega),y5 (by omega)]
 refine ⟨.agg [.bool (decide (cp neg (dv l)<0)),w],?_,w,dH l,rfl,hw,j8,AH,?_⟩
 ·rw [<-hc];unfold ai at e1 ⊢;rw [aG h]
  cases neg with
  | false=>
   simp only [go_sem,ya,yd,yC,zW,bf,hv.an,e1,hw.pu,hw.shut,hw.one,hw.cells,fD];rcases hw with ⟨rfl,_⟩ | ⟨e,rfl⟩<;>rfl
  | true=>
   simp only [go_sem,ya,yd,yC,zW,bf,hv.an,e1,hw.len,hw.pu,hw.shut,hw.one,hw.cells,fD];rcases hw with ⟨rfl,_⟩ | ⟨e,rfl⟩<;>rfl
 ·rw [oO];unfold cp;split<;>omega
def aiE (h:Has P L 298 LL) (gT:Has P L 294 zW) (cD:Has P L 300 kK) {v:AV} {n:Int} {K:Nat} (hK:K<=20000000000) (hv:je v n) (hn:n.natAbs<1000000000^K):∃r,ai P L 298 [v] r/\je r (-n):=by
 obtain ⟨w,l,rfl,hw,hd,hz,oO⟩:=hv;obtain ⟨r,e1,hr⟩:=pq gT cD (!decide (n<0)) hw hd (xe (iM hd hz (by rw [oO];exact hn)) hK)
 have e:cp (!decide (n<0)) (dv l)= -n:=by
  rw [oO];unfold cp;by_cases h0:n<0
  ·simp [h0];omega
  ·simp [h0];omega
 rw [e] at hr;obtain ⟨w2,l2,rfl,fY,fN,jc,so⟩:=hr;refine ⟨_,?_,w2,l2,rfl,fY,fN,jc,so⟩;unfold ai at e1 ⊢;rw [aG h];simp only [go_sem,ya,yd,LL,bf,hw.pu,hw.an,hw.one,fY.pu,fY.one,bQ,yh,cO,e1,fD,bF];rcases fY with ⟨rfl,_⟩ | ⟨e,rfl⟩<;>rfl
end
def cY (s:Int) (w:AV) (z:Int):Prop:=
 (w= .ae/\s=z/\-9223372036854775808<=z/\z<9223372036854775808)\/
 (∃e l,w= .aB e l.length (l.map uc)/\lo 18446744073709551616 l/\fX l/\bv 18446744073709551616 l=z.natAbs/\s=(if z<0 then -1 else 1)/\9223372036854775808<=z.natAbs)
def cw (v:AV) (z:Int):Prop:=∃s w,v= .agg [ab s,w]/\cY s w z
def Bd (k:Nat) (z:Int):Prop:=z.natAbs<2^k
def zF (k:Nat):2^k<=18446744073709551616^k:=wX (by decide) k
def Bd.mono {k m:Nat} {z:Int} (h:Bd k z) (hk:k<=m):Bd m z:=yE h (yR (by decide) hk)
def Bd.neg {k:Nat} {z:Int} (h:Bd k z):Bd k (-z):=by unfold Bd at h ⊢;rwa [Int.natAbs_neg]
def Bd.add {k m:Nat} {a b:Int} (ha:Bd k a) (hb:Bd m b):Bd (max k m+1) (a+b):=by
 have h1:Bd (max k m) a:=ha.mono (by omega);have h2:Bd (max k m) b:=hb.mono (by omega);unfold Bd at h1 h2 ⊢
 grind
def Bd.mul {k m:Nat} {a b:Int} (ha:Bd k a) (hb:Bd m b):Bd (k+m) (a*b):=by
 unfold Bd at*
 rw [yby,xj];exact tz ha hb
def Bd.le {k:Nat} {a b:Int} (hb:Bd k b) (h:a.natAbs<=b.natAbs):Bd k a:=xJ h hb
def WN.pos {v:AV} {m:Nat} (h:WN v m) (h0:0<m):∃e l,v= .aB e l.length (l.map uc)/\l≠[]/\lo 18446744073709551616 l/\fX l/\bv 18446744073709551616 l=m:=by
 obtain ⟨l,hv,g,n,hb⟩:=h;have hl:l≠[]:=fun e=>by subst e;simp [bv] at hb;omega
 rcases hv with ⟨_,e⟩ | ⟨e,rfl⟩
 ·simp_all
 ·exact ⟨e,l,by simp,hl,g,n,hb⟩
def WN.aJ {v:AV} {m:Nat} (h:WN v m):∃l,bO v l/\lo 18446744073709551616 l/\fX l/\bv 18446744073709551616 l=m:=h
def mK (e:Bool) (n:Nat) (cs:List AV):iZ .sl (.aB e n cs) .ae=some false:=rfl
def fR:iZ .sl .ae .ae=some true:=rfl
def Ko (hp:Hp) (ct id:Nat) (a:Int) (e:Bool) (n:Nat) (cs:List AV) (x y:AV):jY hp ct id 0 2 [.int .i64 a,.aB e n cs] (some (.cells true true true 2 [x,y]))=some (.aa [],bi hp id (.cells true true true 2 [.int .i64 a,.aB e n cs]),ct):=fD rfl rfl rfl rfl
def pY {tm:Env} {a x y:AV} {r:List (Nat×Nat×X)} (h:eb a=true):zP tm [x,y] 0 1 [a] r=fill tm [a,y] r:=aef (by simp) h
def cY.nJ {z:Int} (h1: -9223372036854775808<=z) (h2:z<9223372036854775808):cw (.agg [ab z,.ae]) z:=⟨z,.ae,rfl,.inl ⟨rfl,rfl,h1,h2⟩⟩
def cY.bV {s:Int} {w:AV} {z:Int} (h:cY s w z):(s<0↔z<0)/\(s=0↔z=0)/\-9223372036854775808<=s/\s<9223372036854775808:=by
 rcases h with ⟨_,rfl,h1,h2⟩ | ⟨e,l,_,_,_,_,rfl,h1⟩
 ·grind
 ·grind
section
variable {P:aM} {L:Lib}
structure Nu (P:aM) (L:Lib):Prop extends Wd P L where
 azF:Has P L 117 Lt
 azG:Has P L 142 Lv
 V5:Has P L 136 Hk
 H5:Has P L 145 r9
 azH:Has P L 146 Q1
 V6:Has P L 147 Hm
 aiF:Has P L 163 Ly
 azI:Has P L 118 BL
 aiG:Has P L 119 c119
 azJ:Has P L 156 Q4
 MR:Has P L 100 lD
 V7:Has P L 164 lE
 azK:Has P L 148 Q2
 azL:Has P L 130 Q0
def sr (h:Nu P L) {z:Int} (h1: -9223372036854775808<=z) (h2:z<9223372036854775808):ai P L 117 [ab z] (.agg [ab z,.ae])/\cw (.agg [ab z,.ae]) z:=⟨n117 h.azF z,cY.nJ h1 h2⟩
def V8 (h:Nu P L) {n:Int} (h1: -9223372036854775808<=n) (h2:n<9223372036854775808):ai P L 142 [ab n] (uc n.natAbs):=by
 unfold ai;rw [aG h.azG];by_cases h0:n<0
 ·have e:IntKind.wrap .u64 (IntKind.wrap .i64 (0-n))=(n.natAbs:Int):=by
   by_cases hm:n= -9223372036854775808
   ·subst hm;rfl
   ·rw [wrap64 (by omega) (by omega),K4];omega
  simp only [go_sem,ya,Lv,h0,afl,e]
 ·have e:IntKind.wrap .u64 n=(n.natAbs:Int):=by rw [K4];omega
  simp only [go_sem,ya,Lv,h0,afl,e]
def ss (h:Nu P L) {s:Int} {w:AV} {z:Int} (hz:cY s w z):∃r,ai P L 136 [.agg [ab s,w]] (.aa [.bool (decide (z<0)),r])/\WN (b9 r) z.natAbs:=by
 rcases hz with ⟨rfl,rfl,h1,h2⟩ | ⟨e,l,rfl,g,n,hb,hs,h1⟩
 ·by_cases h0:s=0
  ·subst h0;refine ⟨.ae,?_,[],oX,Kz,rfl,rfl⟩;unfold ai;rw [aG h.V5];simp only [go_sem,ya,yd,Hk,bf,bQ,yh,cO,fR,GN,ybZ];rfl
  ·have e1:=V8 h h1 h2;refine ⟨.bI true 1 1 [uc s.natAbs],?_,[s.natAbs],lT true [s.natAbs],C2.2 (by omega),CG (by omega) [],zE _⟩;unfold ai;rw [aG h.V5];simp only [go_sem,ya,yd,yC,ym,Hk,bf,bQ,yh,cO,fR,GN,h0,e1];rfl
 ·have sE:decide (s<0)=decide (z<0):=by rw [hs];split<;>simp<;>omega
  refine ⟨.aB e l.length (l.map uc),?_,l,lT e l,g,n,hb⟩;unfold ai;rw [aG h.V5];simp only [go_sem,ya,yd,Hk,bf,bQ,yh,cO,mK,GN,sE];rfl
def Z2 {d:Nat} (h:d<=9223372036854775807):IntKind.wrap .i64 (d:Int)=d:=wrapN (by omega)
def BY (h:Nu P L) (neg:Bool) {w:AV} {m K:Nat} (hw:WN w m) (hm:m<18446744073709551616^K) (hK:K<=90000000000):∃r,ai P L 145 [.bool neg,w] r/\cw r (cp neg m):=by
 obtain ⟨l,hu,g,n,hb⟩:=hw;have qV:l.length<=90000000000:=xe (mV n hb hm) hK;by_cases h0:l=[]
 ·subst h0
  have:m=0:=by rw [<-hb];rfl
  subst this;have e:cp neg 0=0:=by unfold cp;cases neg<;>rfl
  rw [e];refine ⟨.agg [ab 0,.ae],?_,cY.nJ (by decide) (by decide)⟩;unfold ai;rw [aG h.H5];simp only [go_sem,ya,yd,r9,bf,hu.len,yV,show (((0:Nat):Nat):Int)=0 from rfl,p9];rfl
 ·have jx:0<l.length:=uz.2 h0;by_cases h1:l.length=1/\l.getD 0 0<=9223372036854775807
  ·obtain ⟨h1,h2⟩:=h1;obtain ⟨d,rfl⟩:∃d,l=[d]:=by
    cases l with
    | nil=>simp at h1
    | cons d r=>cases r with
     | nil=>exact ⟨d,rfl⟩
     | cons e r=>simp at h1
   have h2:d<=9223372036854775807:=h2;rw [zE] at hb;subst hb;have ex:=hu.cB (i:=0) (by simp);rw [show ([d]:List Nat).getD 0 0=d from rfl] at ex;have hlen:∀hp,jI hp 1 w=some (.int .i64 1):=fun hp=>hu.len
   cases neg with
   | true=>
    refine ⟨.agg [ab (0-(d:Int)),.ae],?_,?_⟩
    ·unfold ai;rw [aG h.H5]
     simp only [go_sem,ya,yd,yC,r9,bf,hlen,vE,ex,show (d:Int)<=9223372036854775807 by omega,KC,Z2 h2,wrap64 (n:=0-(d:Int)) (by omega) (by omega),p9];rfl
    ·have:cp true d=0-(d:Int):=by unfold cp;simp
     rw [this];exact cY.nJ (by omega) (by omega)
   | false=>
    refine ⟨.agg [ab (d:Int),.ae],?_,?_⟩
    ·unfold ai;rw [aG h.H5];simp only [go_sem,ya,yd,yC,r9,bf,hlen,vE,ex,show (d:Int)<=9223372036854775807 by omega,KC,Z2 h2,p9];rfl
    ·have:cp false d=(d:Int):=by unfold cp;simp
     rw [this];exact cY.nJ (by omega) (by omega)
  ·have pN:9223372036854775808<=m:=by
    rw [<-hb];by_cases h2:l.length=1
    ·obtain ⟨d,rfl⟩:∃d,l=[d]:=by
      cases l with
      | nil=>simp at h2
      | cons d r=>cases r with
       | nil=>exact ⟨d,rfl⟩
       | cons e r=>simp at h2
     have:¬d<=9223372036854775807:=fun hd=>h1 ⟨h2,hd⟩
     rw [zE];omega
    ·have h3:=PU (b:=18446744073709551616) (by decide) n h0;have h4:18446744073709551616^1<=18446744073709551616^(l.length-1):=yR (by decide) (by omega);rw [ycm] at h4;omega
   have cI:∃e,w= .aB e l.length (l.map uc):=by
    rcases hu with ⟨rfl,hh⟩ | ⟨e,rfl⟩
    ·simp at hh;exact absurd hh h0
    ·exact ⟨e,by simp⟩
   obtain ⟨e,rfl⟩:=cI;have ex:=hu.cB (i:=0) jx;have first:(decide ((l.length:Int)=1)=true/\¬((l.getD 0 0:Nat):Int)<=9223372036854775807)\/decide ((l.length:Int)=1)=false:=by
    by_cases h2:l.length=1
    ·left;refine ⟨by simp;omega,fun hd=>h1 ⟨h2,by omega⟩⟩
    ·right;simp;omega
   cases neg with
   | true=>
    refine ⟨.agg [ab (-1),.aB e l.length (l.map uc)],?_,-1,_,rfl,.inr ⟨e,l,rfl,g,n,by rw [hb];unfold cp;simp,by unfold cp;simp;omega,by unfold cp;simp;omega⟩⟩
    unfold ai;rw [aG h.H5];rcases first with ⟨f1,f2⟩ | f1
    ·simp only [go_sem,ya,yd,yC,r9,bf,show ¬(l.length:Int)=0 by omega,f1,f2,ex,pY,Ko];rfl
    ·simp only [go_sem,ya,yd,yC,r9,bf,show ¬(l.length:Int)=0 by omega,f1,pY,Ko];rfl
   | false=>
    refine ⟨.agg [ab 1,.aB e l.length (l.map uc)],?_,1,_,rfl,.inr ⟨e,l,rfl,g,n,by rw [hb];unfold cp;simp,by unfold cp;simp,by unfold cp;simp;omega⟩⟩
    unfold ai;rw [aG h.H5];rcases first with ⟨f1,f2⟩ | f1
    ·simp only [go_sem,ya,yd,yC,r9,bf,show ¬(l.length:Int)=0 by omega,f1,f2,ex,pY,Ko];rfl
    ·simp only [go_sem,ya,yd,yC,r9,bf,show ¬(l.length:Int)=0 by omega,f1,pY,Ko];rfl
end
def aW:VC->VC
 | .seq a _=>a
 | c=>c
def aqa {a b:Int} {x y:Nat} (ha:a.natAbs=x) (hb:b.natAbs=y) (h:decide (a<0)=decide (b<0)):cp (decide (a<0)) (x+y)=a+b:=by
 unfold cp
 grind
def aaS {a b:Int} {m:Nat} (hm:m+b.natAbs=a.natAbs) (h:¬decide (a<0)=decide (b<0)):cp (decide (a<0)) m=a+b:=by
 unfold cp
 grind
def aqb {a:Int}:cp (!decide (a<0)) a.natAbs= -a:=by
 unfold cp
 grind
def aaT {a b:Int}:cp (decide (a<0) !=decide (b<0)) (a.natAbs*b.natAbs)=a*b:=by
 unfold cp
 grind
def ll {s:Int} {w:AV} {l:List Nat} (h:bO w l) (hp:Hp):result hp (.agg [ab s,w])=some (.agg [ab s,w]):=by
 rcases h with ⟨rfl,_⟩ | ⟨e,rfl⟩<;>rfl
def cT {s:Int} {w:AV} {l:List Nat} (h:bO w l) (hp:Hp) (ct id:Nat) (x y:AV):jY hp ct id 0 2 [.int .i64 s,w] (some (.cells true true true 2 [x,y]))=some (.aa [],bi hp id (.cells true true true 2 [.int .i64 s,w]),ct):=fD rfl h.one rfl h.pu
def cY.aJ {s:Int} {w:AV} {z:Int} (h:cY s w z):∃l,bO w l:=by
 rcases h with ⟨rfl,_⟩ | ⟨e,l,rfl,_⟩
 ·exact ⟨[],oX⟩
 ·exact ⟨l,lT e l⟩
def agG (hp:Hp) (sz:Nat) (ag:Bool):AV->Option AV
 | .ptr id o=>NL sz ag o (aA hp id)
 | .cg cs=>iv sz ag cs
 | _=>none
def dV (tm:Env) (hp:Hp) (ct base i sz:Nat) (ag:Bool):results1 ⟨tm,hp,ct,base⟩ (.cell i sz ag)=agG hp sz ag (aj tm i):=by
 rfl
def dX (hp:Hp) (sz:Nat) (ag:Bool) (id o:Nat):agG hp sz ag (.ptr id o)=NL sz ag o (aA hp id):=rfl
section
variable {P:aM} {L:Lib}
def DS (h:Nu P L) {v:AV} {z:Int} (hv:cw v z):ai P L 146 [v] (ab (bV z)):=by
 obtain ⟨s,w,rfl,hn⟩:=hv;obtain ⟨l,hu⟩:=hn.aJ;have e:bV s=bV z:=by
  obtain ⟨h1,h2,_⟩:=hn.bV;unfold bV;by_cases h0:z<0
  ·rw [yL h0,yL (h1.2 h0)]
  ·by_cases h3:z=0
   ·rw [yu (fun h=>h0 (h1.1 h)),yL (h2.2 h3),yu h0,yL h3]
   ·rw [yu (fun h=>h0 (h1.1 h)),yu (fun h=>h3 (h2.1 h)),yu h0,yu h3]
 unfold ai;rw [aG h.azH];simp only [go_sem,ya,yd,Q1,bf,hu.pu,hu.one,bQ,yh,afk,lW,aaM,nH,av0,e]
def DT (h:Nu P L) {v:AV} {z:Int} {K:Nat} (hv:cw v z) (hz:Bd K z) (hK:K<=90000000000):∃r,ai P L 147 [v] r/\cw r (-z):=by
 obtain ⟨s,w,rfl,hn⟩:=hv;obtain ⟨p,e1,hp⟩:=ss h hn;obtain ⟨lp,gU,_⟩:=hp.aJ;obtain ⟨r,e2,hr⟩:=BY h (!decide (z<0)) hp (yE hz (zF K)) hK;rw [aqb] at hr;have bZ:=hr;obtain ⟨s',w',rfl,fU⟩:=hr;obtain ⟨l',iG⟩:=fU.aJ;rcases hn with ⟨rfl,rfl,h1,h2⟩ | ⟨e,l0,rfl,g,n,hb,hs,h1⟩
 ·by_cases h0:s= -9223372036854775808
  ·refine ⟨_,?_,bZ⟩;unfold ai;rw [aG h.V6];simp only [go_sem,ya,yd,Hm,bf,bQ,yh,cO,fR,dR,h0];rw [h0] at e1 e2;simp only [go_sem,ya,cm,b8,e1,e2,gU.an,bF,dV,dX,cm,yt,ll iG,cT iG]
  ·refine ⟨.agg [ab (-s),.ae],?_,cY.nJ (by omega) (by omega)⟩;unfold ai;rw [aG h.V6]
   simp only [go_sem,ya,yd,Hm,bf,bQ,yh,cO,fR,dR,h0,wrap64 (n:=0-s) (by omega) (by omega),p9,pY];rw [Int.zero_sub];rfl
 ·refine ⟨_,?_,bZ⟩;unfold ai;rw [aG h.V6];simp only [go_sem,ya,yd,Hm,bf,bQ,yh,cO,mK,dR,cm,b8,e1,e2,gU.an,bF,dV,dX,cm,yt,ll iG,cT iG]
def V9 (h:Nu P L) {v:AV} {z:Int} {K:Nat} (hv:cw v z) (hz:Bd K z) (hK:K<=90000000000):∃r,ai P L 163 [v] r/\cw r (z.natAbs:Nat):=by
 have eA:=hv;obtain ⟨s,w,rfl,hn⟩:=hv;obtain ⟨l,hu⟩:=hn.aJ;have oP:=hn.bV.1;by_cases h0:z<0
 ·obtain ⟨r,e1,hr⟩:=DT h eA hz hK;rw [show -z=(z.natAbs:Int) by omega] at hr;have bZ:=hr;obtain ⟨s',w',rfl,fU⟩:=hr;obtain ⟨l',iG⟩:=fU.aJ;refine ⟨_,?_,bZ⟩;unfold ai;rw [aG h.aiF];simp only [go_sem,ya,yd,Ly,bf,hu.pu,hu.an,hu.one,bQ,yh,oP.2 h0,cm,b8,e1,bF,dV,dX,cm,yt,ll iG,cT iG]
 ·rw [show ((z.natAbs:Nat):Int)=z by omega];refine ⟨_,?_,eA⟩;unfold ai;rw [aG h.aiF];simp only [go_sem,ya,yd,Ly,bf,hu.pu,hu.one,bQ,yh,show ¬s<0 from fun h=>h0 (oP.1 h),cm,dV,dX,cm,yt,ll hu,cT hu]
def awh (h:Nu P L) {s1 s2:Int} {w1 w2:AV} {a b:Int} {K:Nat} (ha:cY s1 w1 a) (hb:cY s2 w2 b) (ka:Bd K a) (kb:Bd K b) (hK:K<=40000000000):
  ∃r,cw r (a+b)/\∀tm,aj tm 2= .ptr 0 0->aj tm 3= .ptr 1 0->aj tm 4= .ptr 2 0->db [.cell 4 2 true] (D P L (au (au c119.body)) ⟨tm,[(2,.cells true true true 2 [.int .i64 0,.ae]),(1,.cells true true true 2 [ab s2,w2]),(0,.cells true true true 2 [ab s1,w1])],3,0⟩)=some r:=by
 obtain ⟨l1,u1⟩:=ha.aJ;obtain ⟨l2,u2⟩:=hb.aJ;obtain ⟨p,e1,hp⟩:=ss h ha;obtain ⟨q,e2,hq⟩:=ss h hb;obtain ⟨lp,gU,gp,np,vp⟩:=hp.aJ;obtain ⟨lq,nA,gq,nq,vq⟩:=hq.aJ;have AI:=yE ka (zF K);have Es:=yE kb (zF K);have llp:lp.length<=40000000000:=xe (mV np vp AI) hK;have llq:lq.length<=40000000000:=xe (mV nq vq Es) hK;by_cases hs:decide (a<0)=decide (b<0)
 ·obtain ⟨o,mv,e3,ho,mu,no,vo⟩:=azn h.azx h.lG h.fS gU nA gp gq (by omega) (by omega);obtain ⟨r,e4,hr⟩:=BY h (decide (a<0)) ⟨mv,ho,mu,no,vo⟩ (K:=K+1) (by rw [vp,vq,yU];omega) (by omega);rw [aqa vp.symm vq.symm hs] at hr;have bZ:=hr;obtain ⟨s',w',rfl,fU⟩:=hr;obtain ⟨l',iG⟩:=fU.aJ;refine ⟨_,bZ,fun tm t2 t3 t4=>?_⟩;simp only [go_sem,ya,c119,au,t2,t3,cm,b8,u1.an,u2.an,e1,e2,gU.an,nA.an,dR,nZ,hs,yam];rw [hs] at e4;simp only [go_sem,ya,t4,e3,ho.an,ho.shut,e4,bF,dV,dX,cm,yt,ll iG,cT iG]
 ·have I4:(decide (a<0)==decide (b<0))=false:=by simpa using hs
  have e3:=aiq h.aiB gU nA gp gq np nq (by omega) (by omega);rw [vp,vq] at e3;by_cases hc:b.natAbs<=a.natAbs
  ·obtain ⟨o,mv,e4,ho,mu,no,vo⟩:=air h.aiC h.lG h.qG gU nA gp gq nq (by omega) (by rw [vp,vq];exact hc)
   rw [vp,vq] at vo;obtain ⟨r,e5,hr⟩:=BY h (decide (a<0)) ⟨mv,ho,mu,no,rfl⟩ (K:=K) (by omega) (by omega);rw [aaS vo hs] at hr;have bZ:=hr;obtain ⟨s',w',rfl,fU⟩:=hr;obtain ⟨l',iG⟩:=fU.aJ;have dU:(0:Int)<=dF a.natAbs b.natAbs:=by unfold dF;rw [yu (by omega)];split<;>decide
   refine ⟨_,bZ,fun tm t2 t3 t4=>?_⟩;simp only [go_sem,ya,c119,au,t2,t3,t4,cm,b8,u1.an,u2.an,e1,e2,gU.an,nA.an,dR,nZ,I4,e3,dU,e4,ho.an,ho.shut,e5,bF,dV,dX,cm,yt,ll iG,cT iG]
  ·obtain ⟨o,mv,e4,ho,mu,no,vo⟩:=air h.aiC h.lG h.qG nA gU gq gp np (by omega) (by rw [vp,vq];omega);rw [vp,vq] at vo;obtain ⟨r,e5,hr⟩:=BY h (decide (b<0)) ⟨mv,ho,mu,no,rfl⟩ (K:=K) (by omega) (by omega);rw [aaS vo (fun e=>hs e.symm),Int.add_comm] at hr;have bZ:=hr;obtain ⟨s',w',rfl,fU⟩:=hr;obtain ⟨l',iG⟩:=fU.aJ;have dU:¬(0:Int)<=dF a.natAbs b.natAbs:=by unfold dF;rw [yL (by omega)];decide
   refine ⟨_,bZ,fun tm t2 t3 t4=>?_⟩;simp only [go_sem,ya,c119,au,t2,t3,t4,cm,b8,u1.an,u2.an,e1,e2,gU.an,nA.an,dR,nZ,I4,e3,dU,e4,ho.an,ho.shut,e5,bF,dV,dX,cm,yt,ll iG,cT iG]
def H6 (h:Nu P L) {v w:AV} {a b:Int} {K:Nat} (hv:cw v a) (hw:cw w b) (ka:Bd K a) (kb:Bd K b) (hK:K<=40000000000):∃r,ai P L 119 [v,w] r/\cw r (a+b):=by
 obtain ⟨s1,w1,rfl,h1⟩:=hv;obtain ⟨s2,w2,rfl,h2⟩:=hw;obtain ⟨l2,u2⟩:=h2.aJ;obtain ⟨r,hr,tail⟩:=awh h h1 h2 ka kb hK;have fin:∀tm,aj tm 2= .ptr 0 0->aj tm 3= .ptr 1 0->aj tm 4= .ptr 2 0->
   D P L (.seq (aW c119.body) (aW (au c119.body))) ⟨[(0,.agg [ab s1,w1]),(1,.agg [ab s2,w2])],[],0,0⟩=some (.normal,⟨tm,[(2,.cells true true true 2 [.int .i64 0,.ae]),(1,.cells true true true 2 [ab s2,w2]),(0,.cells true true true 2 [ab s1,w1])],3,0⟩)->ai P L 119 [.agg [ab s1,w1],.agg [ab s2,w2]] r:=fun tm t2 t3 t4 e=>by
  unfold ai;rw [aG h.aiG];show db [.cell 4 2 true] (D P L (.seq (aW c119.body) (.seq (aW (au c119.body)) (au (au c119.body)))) ⟨[(0,.agg [ab s1,w1]),(1,.agg [ab s2,w2])],[],0,0⟩)=_
  have e2:D P L (.seq (aW c119.body) (.seq (aW (au c119.body)) (au (au c119.body)))) ⟨[(0,.agg [ab s1,w1]),(1,.agg [ab s2,w2])],[],0,0⟩=kF P L (D P L (.seq (aW c119.body) (aW (au c119.body))) ⟨[(0,.agg [ab s1,w1]),(1,.agg [ab s2,w2])],[],0,0⟩) (au (au c119.body)):=by
   rw [jo,jo]
   cases D P L (aW c119.body) ⟨[(0,.agg [ab s1,w1]),(1,.agg [ab s2,w2])],[],0,0⟩ with
   | none=>rfl
   | some q=>
    obtain ⟨ex,st⟩:=q
    cases ex with
    | normal=>rw [fa,fa,jo]
    | ret=>rfl
    | exit id=>rfl
  rw [e2,e,fa];exact tail tm t2 t3 t4
 rcases h1 with ⟨rfl,rfl,a1,a2⟩ | ⟨e,l,rfl,ga,na,va,sa,a1⟩
 ·rcases h2 with ⟨rfl,rfl,b1,b2⟩ | ⟨e,l,rfl,gb,nb,vb,sb,b1⟩
  ·by_cases gL: -9223372036854775808<=s1+s2/\s1+s2<9223372036854775808
   ·refine ⟨.agg [ab (s1+s2),.ae],?_,cY.nJ gL.1 gL.2⟩;have e:decide (s1<s1+s2)=decide (0<s2):=by
     by_cases h:0<s2
     ·simp only [h,yq];exact y5 (by omega)
     ·simp only [h,yv];exact yF (by omega)
    unfold ai;rw [aG h.aiG]
    simp only [go_sem,ya,yd,c119,bf,p9,fR,dR,nZ,bQ,yh,cO,wrap64 (n:=s1+s2) gL.1 gL.2,e,yam,pY];rfl
   ·have e:(decide (s1<IntKind.wrap .i64 (s1+s2))==decide (0<s2))=false:=by
     have hw:(9223372036854775808<=s1+s2/\IntKind.wrap .i64 (s1+s2)=s1+s2-18446744073709551616)\/(s1+s2< -9223372036854775808/\IntKind.wrap .i64 (s1+s2)=s1+s2+18446744073709551616):=by
      simp only [IntKind.wrap,IntKind.bits,IntKind.signed,wq]
      split<;>rename_i h<;>simp at h<;>omega
     by_cases h0:0<s2
     ·rw [y5 h0,yF (by omega)];rfl
     ·rw [yF h0,y5 (by omega)];rfl
    refine ⟨r,fin _ ?_ ?_ ?_ (by simp only [go_sem,ya,yd,aW,au,c119,bf,fR,dR,nZ,bQ,yh,cO,e]<;>rfl),hr⟩<;>simp only [go_sem,ya]
  ·refine ⟨r,fin _ ?_ ?_ ?_ (by simp only [go_sem,ya,yd,aW,au,c119,bf,fR,mK,dR,bQ,yh,cO]<;>rfl),hr⟩<;>simp only [go_sem,ya]
 ·refine ⟨r,fin _ ?_ ?_ ?_ (by simp only [go_sem,ya,yd,aW,au,c119,bf,u2.pu,u2.one,mK,dR,bQ,yh,cO]<;>rfl),hr⟩<;>simp only [go_sem,ya]
end
def A4 {P:aM} {L:Lib} (a b c:VC) (s:St):D P L (.seq a (.seq b c)) s=kF P L (D P L (.seq a b) s) c:=by
 rw [jo,jo]
 cases D P L a s with
 | none=>rfl
 | some q=>
  obtain ⟨ex,st⟩:=q
  cases ex with
  | normal=>rw [fa,fa,jo]
  | ret=>rfl
  | exit id=>rfl
def afs {s s':Int} {w w':AV} {l l':List Nat} (h:bO w l) (h':bO w' l') (hp:Hp):result hp (.aa [.agg [ab s,w],.agg [ab s',w']])=some (.aa [.agg [ab s,w],.agg [ab s',w']]):=by
 rcases h with ⟨rfl,_⟩ | ⟨e,rfl⟩<;>rcases h' with ⟨rfl,_⟩ | ⟨e',rfl⟩<;>rfl
def MS (tm:Env) (hp:Hp) (ct:Nat) (rs:List (Nat×Bool×Nat)) (sz:Nat) (p:AV) (new:List AV):fT:=match p with | .ptr id o=>bif mE tm id rs then jY hp ct id o sz new (aA hp id) else none | _=>none
def MT (id:Nat):AV->Bool | .ptr j _=> !yp j id | .cg _=>true | _=>false
def PZ {P:aM} {L:Lib} (f:cx) (tm:Env) (hp:Hp) (ct:Nat) (rs:List (Nat×Bool×Nat)) (sz:Nat) (x v:X):bg P L f tm hp ct (.jv rs sz x v)=MS tm hp ct rs sz (ay tm x) (cellsOf (ay tm v)):=by
 simp only [bg,MS]
 cases hx:ay tm x with
 | ptr id o=>
  rw [aaK,hx,agw]
 | _=>rfl
def P0 {tm:Env} {hp:Hp} {ct:Nat} {rs:List (Nat×Bool×Nat)} {sz id o:Nat} {new:List AV} (h:mE tm id rs=true):MS tm hp ct rs sz (.ptr id o) new=jY hp ct id o sz new (aA hp id):=by
 simp only [MS,h,yz]
def Px (tm:Env) (id:Nat):mE tm id []=true:=(rfl)
def Pg (tm:Env) (id sz x:Nat) (ag:Bool) (r:List (Nat×Bool×Nat)):mE tm id ((sz,ag,x)::r)=(MT id (aj tm x)&&mE tm id r):=by
 simp only [mE,MT]
 grind
def P1 {id j o:Nat} (h:j≠id):MT id (.ptr j o)=true:=by simp only [MT,gB h,yS]
section
variable {P:aM} {L:Lib}
def aiH (h:Nu P L) {v w:AV} {a b:Int} {K:Nat} (hv:cw v a) (hw:cw w b) (ka:Bd K a) (kb:Bd K b) (hK:K<=40000000000):∃r,ai P L 156 [v,w] r/\cw r (a-b):=by
 obtain ⟨n,e1,hn⟩:=DT h hw kb (by omega);obtain ⟨r,e2,hr⟩:=H6 h hv hn ka kb.neg hK;have bZ:=hr;obtain ⟨s1,w1,rfl,h1⟩:=hv;obtain ⟨s2,w2,rfl,h2⟩:=hw;obtain ⟨s3,w3,rfl,h3⟩:=hn;obtain ⟨s4,w4,rfl,h4⟩:=hr;obtain ⟨l1,u1⟩:=h1.aJ;obtain ⟨l2,u2⟩:=h2.aJ;obtain ⟨l3,u3⟩:=h3.aJ;obtain ⟨l4,u4⟩:=h4.aJ;refine ⟨_,?_,bZ⟩;unfold ai;rw [aG h.azJ];simp only [go_sem,ya,yd,Q4,bf,u1.pu,u1.an,u1.one,u2.pu,u2.an,u2.one,u3.an,b8,e1,e2,bF,dV,dX,cm,yt,ll u4,cT u4]
def aiI (h:Nu P L) {v w:AV} {a b:Int} {K:Nat} (hv:cw v a) (hw:cw w b) (ka:Bd K a) (kb:Bd K b) (hK:K<=40000000000):ai P L 118 [v,w] (ab (bV (a-b))):=by
 obtain ⟨d,e1,hd⟩:=aiH h hv hw ka kb hK;have e2:=DS h hd;obtain ⟨s1,w1,rfl,h1⟩:=hv;obtain ⟨s2,w2,rfl,h2⟩:=hw;obtain ⟨s3,w3,rfl,h3⟩:=hd;obtain ⟨l2,u2⟩:=h2.aJ;obtain ⟨l3,u3⟩:=h3.aJ;unfold ai;rw [aG h.azI];rcases h1 with ⟨rfl,rfl,a1,a2⟩ | ⟨e,l,rfl,ga,na,va,sa,a1⟩
 ·rcases h2 with ⟨rfl,rfl,b1,b2⟩ | ⟨e,l,rfl,gb,nb,vb,sb,b1⟩
  ·by_cases c1:s1<s2
   ·rw [show bV (s1-s2)= -1 by unfold bV;rw [yL (by omega)]];simp only [go_sem,ya,yd,BL,bf,fR,dR,bQ,yh,cO,c1]
   ·by_cases c2:s2<s1
    ·rw [show bV (s1-s2)=1 by unfold bV;rw [yu (by omega),yu (by omega)]];simp only [go_sem,ya,yd,BL,bf,fR,dR,bQ,yh,cO,c1,c2]
    ·rw [show bV (s1-s2)=0 by unfold bV;rw [yu (by omega),yL (by omega)]];simp only [go_sem,ya,yd,BL,bf,fR,dR,bQ,yh,cO,c1,c2]
  ·simp only [go_sem,ya,yd,BL,bf,fR,mK,dR,bQ,yh,cO,cm,b8,e1,e2,u3.an,bF]
 ·simp only [go_sem,ya,yd,BL,bf,u2.pu,u2.an,u2.one,mK,dR,bQ,yh,cO,cm,b8,e1,e2,u3.an,bF]
def awi (h:Nu P L) {s1 s2:Int} {w1 w2:AV} {a b:Int} {K:Nat} (ha:cY s1 w1 a) (hb:cY s2 w2 b) (ka:Bd K a) (kb:Bd K b) (hK:K<=40000000000):
  ∃r,cw r (a*b)/\∀tm,aj tm 2= .ptr 0 0->aj tm 3= .ptr 1 0->aj tm 4= .ptr 2 0->db [.cell 4 2 true] (D P L (au (au lD.body)) ⟨tm,[(2,.cells true true true 2 [.int .i64 0,.ae]),(1,.cells true true true 2 [ab s2,w2]),(0,.cells true true true 2 [ab s1,w1])],3,0⟩)=some r:=by
 obtain ⟨l1,u1⟩:=ha.aJ;obtain ⟨l2,u2⟩:=hb.aJ;obtain ⟨p,e1,hp⟩:=ss h ha;obtain ⟨q,e2,hq⟩:=ss h hb;obtain ⟨lp,gU,gp,np,vp⟩:=hp.aJ;obtain ⟨lq,nA,gq,nq,vq⟩:=hq.aJ;have AI:=yE ka (zF K);have Es:=yE kb (zF K);have llp:lp.length<=40000000000:=xe (mV np vp AI) hK;have llq:lq.length<=40000000000:=xe (mV nq vq Es) hK;obtain ⟨o,mv,e3,ho,mu,no,vo⟩:=azq h.azy h.lG h.lH h.fS gU nA gp gq (by omega) (by omega);obtain ⟨r,e4,hr⟩:=BY h (decide (a<0) !=decide (b<0)) ⟨mv,ho,mu,no,vo⟩ (K:=K+K) (by rw [vp,vq,xj];exact tz AI Es) (by omega)
 rw [vp,vq,aaT] at hr;have bZ:=hr;obtain ⟨s',w',rfl,fU⟩:=hr;obtain ⟨l',iG⟩:=fU.aJ;refine ⟨_,bZ,fun tm t2 t3 t4=>?_⟩;have qR:∀x y:Bool,HU true (some (x==y))=some (.bool (x !=y)):=fun x y=>by cases x<;>cases y<;>rfl
 simp only [go_sem,ya,lD,au,t2,t3,t4,cm,b8,u1.an,u2.an,e1,e2,gU.an,nA.an,nZ,qR,e3,ho.an,ho.shut,e4,bF,dV,dX,cm,yt,ll iG,cT iG]
def aqc {a b:Int} {m:Nat} (h:a.natAbs*b.natAbs=m):a*b=if (decide (a<0)==decide (b<0))=true then (m:Int) else 0-(m:Int):=by
 have:=aaT (a:=a) (b:=b)
 rw [h] at this;unfold cp at this
 cases hd:(decide (a<0)==decide (b<0)) with
 | true=>simp only [bne,hd,yN,yB,xk] at this;exact this.symm
 | false=>simp only [bne,hd,yS,xR] at this;rw [yu (by decide)];omega
def qI (h:Nu P L) {v w:AV} {a b:Int} {K:Nat} (hv:cw v a) (hw:cw w b) (ka:Bd K a) (kb:Bd K b) (hK:K<=40000000000):∃r,ai P L 100 [v,w] r/\cw r (a*b):=by
 obtain ⟨s1,w1,rfl,h1⟩:=hv;obtain ⟨s2,w2,rfl,h2⟩:=hw;obtain ⟨l1,u1⟩:=h1.aJ;obtain ⟨l2,u2⟩:=h2.aJ;obtain ⟨r,hr,tail⟩:=awi h h1 h2 ka kb hK;have fin:∀tm,aj tm 2= .ptr 0 0->aj tm 3= .ptr 1 0->aj tm 4= .ptr 2 0->
   D P L (.seq (aW lD.body) (aW (au lD.body))) ⟨[(0,.agg [ab s1,w1]),(1,.agg [ab s2,w2])],[],0,0⟩=some (.normal,⟨tm,[(2,.cells true true true 2 [.int .i64 0,.ae]),(1,.cells true true true 2 [ab s2,w2]),(0,.cells true true true 2 [ab s1,w1])],3,0⟩)->ai P L 100 [.agg [ab s1,w1],.agg [ab s2,w2]] r:=fun tm t2 t3 t4 e=>by
  unfold ai;rw [aG h.MR];show db [.cell 4 2 true] (D P L (.seq (aW lD.body) (.seq (aW (au lD.body)) (au (au lD.body)))) ⟨[(0,.agg [ab s1,w1]),(1,.agg [ab s2,w2])],[],0,0⟩)=_
  rw [A4,e,fa];exact tail tm t2 t3 t4
 rcases h1 with ⟨rfl,rfl,a1,a2⟩ | ⟨e,l,rfl,ga,na,va,sa,a1⟩
 ·rcases h2 with ⟨rfl,rfl,b1,b2⟩ | ⟨e,l,rfl,gb,nb,vb,sb,b1⟩
  ·have f1:=V8 h a1 a2;have f2:=V8 h b1 b2;have f3:=KD (P:=P) (f:=D P L) h.lH (x:=s1.natAbs) (y:=s2.natAbs) (by omega) (by omega);obtain ⟨m,hm⟩:∃m,s1.natAbs*s2.natAbs=m:=⟨_,rfl⟩;rw [hm] at f3;have nf:=aqc hm;by_cases gL:m<=9223372036854775807
   ·rw [xL (by omega),yG (by omega)] at f3;rw [show (uc 0)=AV.int .u64 0 from rfl] at f3;by_cases hs:(decide (s1<0)==decide (s2<0))=true
    ·rw [yL hs] at nf;refine ⟨.agg [ab (m:Int),.ae],?_,by rw [nf];exact cY.nJ (by omega) (by omega)⟩
     unfold ai;rw [aG h.MR]
     simp only [go_sem,ya,yd,lD,bf,p9,fR,dR,GN,nZ,bQ,yh,cO,f1,f2,f3,show (m:Int)<=9223372036854775807 by omega,hs,KC,wrap64 (n:=(m:Int)) (by omega) (by omega),pY];rfl
    ·rw [yu hs] at nf;refine ⟨.agg [ab (0-(m:Int)),.ae],?_,by rw [nf];exact cY.nJ (by omega) (by omega)⟩
     unfold ai;rw [aG h.MR]
     simp only [go_sem,ya,yd,lD,bf,p9,fR,dR,GN,nZ,bQ,yh,cO,f1,f2,f3,show (m:Int)<=9223372036854775807 by omega,hs,KC,wrap64 (n:=(m:Int)) (by omega) (by omega),wrap64 (n:=0-(m:Int)) (by omega) (by omega),pY];rfl
   ·by_cases oQ:m/18446744073709551616=0
    ·rw [oQ,yG (by omega)] at f3;rw [show (uc 0)=AV.int .u64 0 from rfl] at f3;refine ⟨r,fin _ ?_ ?_ ?_ (by simp only [go_sem,ya,yd,aW,au,lD,bf,fR,dR,bQ,yh,cO,f1,f2,f3,show ¬(m:Int)<=9223372036854775807 by omega]<;>rfl),hr⟩<;>simp only [go_sem,ya]
    ·obtain ⟨q,hq⟩:∃q,q=m/18446744073709551616:=⟨_,rfl⟩;rw [<-hq] at f3 oQ;refine ⟨r,fin _ ?_ ?_ ?_ (by simp only [go_sem,ya,yd,aW,au,lD,bf,fR,dR,bQ,yh,cO,f1,f2,f3,show ¬(q:Int)=0 by omega]<;>rfl),hr⟩<;>simp only [go_sem,ya]
  ·refine ⟨r,fin _ ?_ ?_ ?_ (by simp only [go_sem,ya,yd,aW,au,lD,bf,fR,mK,dR,bQ,yh,cO]<;>rfl),hr⟩<;>simp only [go_sem,ya]
 ·refine ⟨r,fin _ ?_ ?_ ?_ (by simp only [go_sem,ya,yd,aW,au,lD,bf,u2.pu,u2.one,mK,dR,bQ,yh,cO]<;>rfl),hr⟩<;>simp only [go_sem,ya]
end
def aob {a b:Int} {q r:Nat} (hb:0<b) (h:q=a.natAbs/b.natAbs) (h2:r=a.natAbs%b.natAbs):
  (cp (decide (a<0)) r<0->a/b=cp (decide (a<0)) q-1/\a%b=cp (decide (a<0)) r+b)/\(¬cp (decide (a<0)) r<0->a/b=cp (decide (a<0)) q/\a%b=cp (decide (a<0)) r):=by
 have eB:=xM a.natAbs b.natAbs;have aF:r<b.natAbs:=by rw [h2];exact xv _ (by omega)
 unfold cp;by_cases h0:a<0
 ·simp only [h0,yq,xR];constructor
  ·intro h3;refine (tK hb).2 ⟨?_,by omega,by omega⟩
   grind
  ·intro h3;refine (tK hb).2 ⟨?_,by omega,by omega⟩
   grind
 ·grind
section
variable {P:aM} {L:Lib}
def awj (h:Nu P L) {s1 s2:Int} {w1 w2:AV} {a b:Int} {K:Nat} (ha:cY s1 w1 a) (hb:cY s2 w2 b) (de:0<b) (ka:Bd K a) (kb:Bd K b) (hK:K<=30000000000):
  ∃q r,cw q (a/b)/\cw r (a%b)/\∀tm,aj tm 2= .ptr 0 0->aj tm 3= .ptr 1 0->aj tm 4= .ptr 2 0->aj tm 5= .ptr 3 0->db [.cell 4 2 true,.cell 5 2 true] (D P L (au (au lE.body)) ⟨tm,[(3,.cells true true true 2 [.int .i64 0,.ae]),(2,.cells true true true 2 [.int .i64 0,.ae]),(1,.cells true true true 2 [ab s2,w2]),(0,.cells true true true 2 [ab s1,w1])],4,0⟩)=some (.aa [q,r]):=by
 obtain ⟨l1,u1⟩:=ha.aJ;obtain ⟨l2,u2⟩:=hb.aJ;obtain ⟨p,e1,hp⟩:=ss h ha;obtain ⟨q,e2,hq⟩:=ss h hb;have bJ:cw (.agg [ab s2,w2]) b:=⟨s2,w2,rfl,hb⟩;obtain ⟨lp,gU,_⟩:=hp.aJ;obtain ⟨lq,nA,_⟩:=hq.aJ;have AI:=yE ka (zF K);have Es:=yE kb (zF K);obtain ⟨dq,dr,e3,Ct,gM⟩:=aiD h.toWd hp hq (by omega) AI Es (by omega);obtain ⟨I5,uq,_⟩:=Ct.aJ;obtain ⟨lr1,ur,_⟩:=gM.aJ;have hqk:a.natAbs/b.natAbs<18446744073709551616^K:=xJ (wN _ _) AI;have hrk:a.natAbs%b.natAbs<18446744073709551616^K:=xJ (ycz _ _) AI;have hqb:a.natAbs/b.natAbs<2^K:=xJ (wN _ _) ka;have XO:a.natAbs%b.natAbs<2^K:=xJ (ycz _ _) ka;obtain ⟨f1,f2⟩:=aob (a:=a) de rfl rfl;generalize a.natAbs/b.natAbs=Q at*
 generalize a.natAbs%b.natAbs=R at*
 obtain ⟨vq,e4,hvq⟩:=BY h (decide (a<0)) Ct hqk (by omega);obtain ⟨vr,e5,IQ⟩:=BY h (decide (a<0)) gM hrk (by omega);have hsq:Bd K (cp (decide (a<0)) Q):=by unfold Bd cp;split<;>omega
 have hsr:Bd K (cp (decide (a<0)) R):=by unfold Bd cp;split<;>omega
 generalize cp (decide (a<0)) R=Rs at*
 have e6:=DS h IQ;have aiJ:=hvq;have aiK:=IQ;obtain ⟨s3,w3,rfl,h3⟩:=hvq;obtain ⟨s4,w4,rfl,h4⟩:=IQ;obtain ⟨l3,u3⟩:=h3.aJ;obtain ⟨l4,u4⟩:=h4.aJ;by_cases h0:Rs<0
 ·obtain ⟨g1,g2⟩:=f1 h0;have jU:Bd (K+1) 1:=Bd.mono (k:=1) (by unfold Bd;decide) (by omega)
  obtain ⟨o1,o2⟩:=sr h (z:=1) (by decide) (by decide);obtain ⟨vq2,e7,Wa⟩:=aiH h aiJ o2 (K:=K+1) (hsq.mono (by omega)) jU (by omega);obtain ⟨vr2,e8,Wb⟩:=H6 h aiK bJ (K:=K+1) (hsr.mono (by omega)) (kb.mono (by omega)) (by omega);rw [<-g1] at Wa;rw [<-g2] at Wb;have kP:bV Rs<0:=by unfold bV;rw [yL h0];decide
  have k1:=Wa;have k2:=Wb;obtain ⟨s5,w5,rfl,h5⟩:=Wa;obtain ⟨s6,w6,rfl,h6⟩:=Wb;obtain ⟨l5,u5⟩:=h5.aJ;obtain ⟨l6,u6⟩:=h6.aJ;refine ⟨_,_,k1,k2,fun tm t2 t3 t4 t5=>?_⟩;simp only [go_sem,ya,yd,lE,au,t2,t3,t4,t5,PZ,P0,Px,Pg,P1,uF,bf,cm,b8,u1.an,u2.an,e1,e2,gU.an,nA.an,e3,uq.an,uq.b9,ur.an,ur.b9,e4,e5,bF,dV,dX,cm,yt,cT u3,cT u4,u3.an,u4.an,e6,kP,o1,e7,e8,dV,dX,cm,yt,cT u5,cT u6,afs u5 u6]
 ·obtain ⟨g1,g2⟩:=f2 h0;have kP:¬bV Rs<0:=by unfold bV;rw [yu h0];split<;>decide
  refine ⟨_,_,by rw [g1];exact aiJ,by rw [g2];exact aiK,fun tm t2 t3 t4 t5=>?_⟩
  simp only [go_sem,ya,yd,lE,au,t2,t3,t4,t5,PZ,P0,Px,Pg,P1,uF,bf,cm,b8,u1.an,u2.an,e1,e2,gU.an,nA.an,e3,uq.an,uq.b9,ur.an,ur.b9,e4,e5,bF,dV,dX,cm,yt,cT u3,cT u4,u4.an,e6,kP,afs u3 u4]
def Wc (h:Nu P L) {v w:AV} {a b:Int} {K:Nat} (hv:cw v a) (hw:cw w b) (de:0<b) (ka:Bd K a) (kb:Bd K b) (hK:K<=30000000000):∃q r,ai P L 164 [v,w] (.aa [q,r])/\cw q (a/b)/\cw r (a%b):=by
 obtain ⟨s1,w1,rfl,h1⟩:=hv;obtain ⟨s2,w2,rfl,h2⟩:=hw;obtain ⟨l1,u1⟩:=h1.aJ;obtain ⟨l2,u2⟩:=h2.aJ;obtain ⟨q,r,hq,hr,tail⟩:=awj h h1 h2 de ka kb hK;have fin:∀tm,aj tm 2= .ptr 0 0->aj tm 3= .ptr 1 0->aj tm 4= .ptr 2 0->aj tm 5= .ptr 3 0->
   D P L (.seq (aW lE.body) (aW (au lE.body))) ⟨[(0,.agg [ab s1,w1]),(1,.agg [ab s2,w2])],[],0,0⟩=some (.normal,⟨tm,[(3,.cells true true true 2 [.int .i64 0,.ae]),(2,.cells true true true 2 [.int .i64 0,.ae]),(1,.cells true true true 2 [ab s2,w2]),(0,.cells true true true 2 [ab s1,w1])],4,0⟩)->ai P L 164 [.agg [ab s1,w1],.agg [ab s2,w2]] (.aa [q,r]):=fun tm t2 t3 t4 t5 e=>by
  unfold ai;rw [aG h.V7];show db [.cell 4 2 true,.cell 5 2 true] (D P L (.seq (aW lE.body) (.seq (aW (au lE.body)) (au (au lE.body)))) ⟨[(0,.agg [ab s1,w1]),(1,.agg [ab s2,w2])],[],0,0⟩)=_
  rw [A4,e,fa];exact tail tm t2 t3 t4 t5
 rcases h1 with ⟨rfl,rfl,a1,a2⟩ | ⟨e,l,rfl,ga,na,va,sa,a1⟩
 ·rcases h2 with ⟨rfl,rfl,b1,b2⟩ | ⟨e,l,rfl,gb,nb,vb,sb,b1⟩
  ·by_cases hm:s1= -9223372036854775808
   ·refine ⟨q,r,fin _ ?_ ?_ ?_ ?_ (by simp only [go_sem,ya,yd,aW,au,lE,bf,fR,dR,bQ,yh,cO,hm]<;>rfl),hq,hr⟩<;>simp only [go_sem,ya]
   ·obtain ⟨f1,f2⟩:=an1 (a:=s1) de;have bL:s1.tdiv s2=0\/(s1.tdiv s2).natAbs<=s1.natAbs:= .inr (Int.natAbs_tdiv_le_natAbs s1 s2);have dO:=Int.tmod_lt_of_pos s1 de;have lK:=Int.lt_tmod_of_pos s1 de;by_cases h0:s1.tmod s2<0
    ·obtain ⟨g1,g2⟩:=f1 h0;rw [g1,g2];refine ⟨.agg [ab (s1.tdiv s2-1),.ae],.agg [ab (s1.tmod s2+s2),.ae],?_,cY.nJ (by omega) (by omega),cY.nJ (by omega) (by omega)⟩;unfold ai;rw [aG h.V7]
     simp only [go_sem,ya,yd,lE,bf,p9,fR,dR,bQ,yh,cO,hm,eI _ _ _ (show s2≠0 by omega),fo _ _ _ (show s2≠0 by omega),h0,wrap64 (n:=s1.tdiv s2) (by omega) (by omega),wrap64 (n:=s1.tdiv s2-1) (by omega) (by omega),wrap64 (n:=s1.tmod s2+s2) (by omega) (by omega),pY];rfl
    ·obtain ⟨g1,g2⟩:=f2 h0;rw [g1,g2];refine ⟨.agg [ab (s1.tdiv s2),.ae],.agg [ab (s1.tmod s2),.ae],?_,cY.nJ (by omega) (by omega),cY.nJ (by omega) (by omega)⟩;unfold ai;rw [aG h.V7]
     simp only [go_sem,ya,yd,lE,bf,p9,fR,dR,bQ,yh,cO,hm,eI _ _ _ (show s2≠0 by omega),fo _ _ _ (show s2≠0 by omega),h0,wrap64 (n:=s1.tdiv s2) (by omega) (by omega),pY];rfl
  ·refine ⟨q,r,fin _ ?_ ?_ ?_ ?_ (by simp only [go_sem,ya,yd,aW,au,lE,bf,fR,mK,dR,bQ,yh,cO]<;>rfl),hq,hr⟩<;>simp only [go_sem,ya]
 ·refine ⟨q,r,fin _ ?_ ?_ ?_ ?_ (by simp only [go_sem,ya,yd,aW,au,lE,bf,u2.pu,u2.one,mK,dR,bQ,yh,cO]<;>rfl),hq,hr⟩<;>simp only [go_sem,ya]
def aiL (h:Nu P L) {v w:AV} {a b:Int} {K:Nat} (hv:cw v a) (hw:cw w b) (de:0<b) (ka:Bd K a) (kb:Bd K b) (hK:K<=30000000000):∃r,ai P L 148 [v,w] r/\cw r (a/b):=by
 have e1:=DS h hw;obtain ⟨q,r,e2,hq,hr⟩:=Wc h hv hw de ka kb hK;have e3:bV b=1:=by unfold bV;rw [yu (by omega),yu (by omega)]
 rw [e3] at e1;have bL:=hq;obtain ⟨s1,w1,rfl,h1⟩:=hv;obtain ⟨s2,w2,rfl,h2⟩:=hw;obtain ⟨s3,w3,rfl,h3⟩:=hq;obtain ⟨s4,w4,rfl,h4⟩:=hr;obtain ⟨l1,u1⟩:=h1.aJ;obtain ⟨l2,u2⟩:=h2.aJ;obtain ⟨l3,u3⟩:=h3.aJ;obtain ⟨l4,u4⟩:=h4.aJ;refine ⟨_,?_,bL⟩;unfold ai;rw [aG h.azK];simp only [go_sem,ya,yd,Q2,ybZ,yv,bf,u1.pu,u1.an,u1.one,u2.pu,u2.an,u2.one,yh,b8,e1,e2,rB,dV,dX,cm,yt,ll u3,cT u3,cT u4]
def awk (h:Nu P L) (G:Nat) {K:Nat} (hK:K<=30000000000) {o1 o2:AV}:
  ∀k s,(∃(x y:Nat) (s1 s2:Int) (w1 w2:AV),aP [2,3,4] s=⟨[(2,.ptr 0 0),(3,.ptr 1 0),(4,.ptr 2 0)],[(2,.cells true true true 2 [o1,o2]),(1,.cells true true true 2 [ab s2,w2]),(0,.cells true true true 2 [ab s1,w1])],3,0⟩/\cY s1 w1 x/\cY s2 w2 y/\Bd K x/\Bd K y/\Nat.gcd x y=G/\y=k)->
   ∃ex s',D P L (.loop [2,3,4] Gm) s=some (ex,s')/\∃tm s1 w1 c1,s'=⟨tm,[(2,.cells true true true 2 [o1,o2]),(1,c1),(0,.cells true true true 2 [ab s1,w1])],3,0⟩/\ex= .exit 0/\aj tm 2= .ptr 0 0/\aj tm 4= .ptr 2 0/\cY s1 w1 G:=by
 intro dq sq;generalize bq:aP [2,3,4] sq=s0;revert bq s0 sq dq;apply dt;rintro k s ⟨x,y,s1,s2,w1,w2,rfl,h1,h2,k1,k2,hG,rfl⟩;obtain ⟨l1,u1⟩:=h1.aJ;obtain ⟨l2,u2⟩:=h2.aJ;have i1:cw (.agg [ab s1,w1]) (x:Int):=⟨s1,w1,rfl,h1⟩;have i2:cw (.agg [ab s2,w2]) (y:Int):=⟨s2,w2,rfl,h2⟩;have e1:=DS h i2;by_cases gA:y=0
 ·right
  subst gA;rw [show bV ((0:Nat):Int)=0 from rfl] at e1;simp only [go_sem,ya,Gm,yq,yN,cm,b8,u2.an,e1];obtain rfl:x=G:=by rw [<-hG,Nat.gcd_zero_right]
  exact ⟨_,_,rfl,by simp,_,s1,w1,_,rfl,rfl,by simp only [go_sem,ya],by simp only [go_sem,ya],h1⟩
 ·left
  have e3:bV (y:Int)=1:=by unfold bV;rw [yu (by omega),yu (by omega)]
  rw [e3] at e1;obtain ⟨q,r,e2,hq,hr⟩:=Wc h i1 i2 (by omega) k1 k2 hK;obtain ⟨s3,w3,rfl,h3⟩:=hq;obtain ⟨s4,w4,rfl,h4⟩:=hr;obtain ⟨l3,u3⟩:=h3.aJ;obtain ⟨l4,u4⟩:=h4.aJ;have aF:=xv x (show 0<y by omega);have kr:Bd K ((x%y:Nat):Int):=k2.le (by omega);simp only [go_sem,ya,yd,Gm,PZ,P0,Px,Pg,P1,uF,vE,yv,yS,bf,cm,b8,u1.an,u2.an,e1,e2,rB,cm,yt,cT u2,cT u3,cT u4];refine ⟨_,x%y,rfl,aF,y,x%y,s2,s4,w2,w4,?_,h2,h4,k2,kr,by rw [<-hG];exact ap2 x y gA,rfl⟩
  simp only [go_sem,ya,yd,aC]
def aiM (h:Nu P L) {v w:AV} {a b:Int} {K:Nat} (hv:cw v a) (hw:cw w b) (ka:Bd K a) (kb:Bd K b) (hK:K<=30000000000):∃r,ai P L 130 [v,w] r/\cw r (wJ a b:Nat):=by
 obtain ⟨va,e1,ha⟩:=V9 h hv ka (by omega);obtain ⟨vb,e2,hb⟩:=V9 h hw kb (by omega);obtain ⟨s1,w1,rfl,h1⟩:=hv;obtain ⟨s2,w2,rfl,h2⟩:=hw;obtain ⟨s3,w3,rfl,h3⟩:=ha;obtain ⟨s4,w4,rfl,h4⟩:=hb;obtain ⟨l1,u1⟩:=h1.aJ;obtain ⟨l2,u2⟩:=h2.aJ;obtain ⟨l3,u3⟩:=h3.aJ;obtain ⟨l4,u4⟩:=h4.aJ;have iq:∃s w,ai P L 130 [.agg [ab s1,w1],.agg [ab s2,w2]] (.agg [ab s,w])/\cY s w (wJ a b:Nat):=by
  unfold ai;rw [aG h.azL];simp only [go_sem,ya,yd,Q0,bf,u1.pu,u1.an,u1.one,u2.pu,u2.an,u2.one,cm,b8,e1,e2,bF,cm,yt,cT u3,cT u4,yh];generalize hq:D P L (.loop [2,3,4] Gm) _=q;obtain ⟨ex,s,rfl,tm,s5,w5,c1,rfl,rfl,t2,t4,h5⟩:=cr hq (awk (P:=P) (L:=L) h (wJ a b) (K:=K) hK (o1:= .int .i64 0) (o2:= .ae) b.natAbs) ⟨a.natAbs,b.natAbs,s3,s4,w3,w4,by simp only [go_sem,ya,yd,aC],h3,h4,ka,kb,rfl,rfl⟩;obtain ⟨l5,u5⟩:=h5.aJ;refine ⟨s5,w5,?_,h5⟩;simp only [go_sem,ya,yd,aC,t2,t4,dV,dX,cm,yt,ll u5,cT u5]
 obtain ⟨s,w,e,hn⟩:=iq;exact ⟨_,e,s,w,rfl,hn⟩
end
def dG (v:AV) (r:Rat):Prop:=∃s1 w1 s2 w2,v= .agg [ab s1,w1,ab s2,w2]/\cY s1 w1 r.num/\cY s2 w2 (r.den:Int)
def Hq (k:Nat) (r:Rat):Prop:=Bd k r.num/\Bd k (r.den:Int)
def Ob {a b:Int} (hb:0<b):(wu a b).num=a/(wJ a b:Nat)/\((wu a b).den:Int)=b/(wJ a b:Nat):=by
 constructor
 ·rw [ybz,Int.sign_eq_one_of_pos hb,Int.one_mul,yca]
 ·rw [ybA,yu (by omega),yca]
  grind
def Hq.divInt {k:Nat} {a b:Int} (hb:0<b) (ka:Bd k a) (kb:Bd k b):Hq k (wu a b):=by
 obtain ⟨h1,h2⟩:=Ob (a:=a) hb;refine ⟨ka.le ?_,kb.le ?_⟩
 ·rw [h1,uy (Int.gcd_dvd_left a b)];exact wN _ _
 ·rw [h2,uy (Int.gcd_dvd_right a b)];exact wN _ _
section
def zu {tm:Env} {a b x y z w:AV} {r:List (Nat×Nat×X)} (h1:eb a=true) (h2:eb b=true):zP tm [x,y,z,w] 0 2 [a,b] r=fill tm [a,b,z,w] r:=by
 rw [aeg (by rfl) (by simp) (by simp [cK,h1,h2])];rfl
def zx {tm:Env} {a b x y z w:AV} {r:List (Nat×Nat×X)} (h1:eb a=true) (h2:eb b=true):zP tm [x,y,z,w] 2 2 [a,b] r=fill tm [x,y,a,b] r:=by
 rw [aeg (by rfl) (by simp) (by simp [cK,h1,h2])];rfl
def jr {s t:Int} {v w:AV} {l m:List Nat} (hv:bO v l) (hw:bO w m) (hp:Hp) (ct id:Nat) (a b x y:AV):jY hp ct id 0 4 [.int .i64 s,v,.int .i64 t,w] (some (.cells true true true 4 [a,b,x,y]))=some (.aa [],bi hp id (.cells true true true 4 [.int .i64 s,v,.int .i64 t,w]),ct):=by
 rw [KZ (by rfl) (by simp) (by simp [cK,hv.one,hw.one,aee])];simp [aH,hv.pu,hw.pu,over,afi]
def js {s t:Int} {v w:AV} {l m:List Nat} (hv:bO v l) (hw:bO w m) (hp:Hp):result hp (.agg [ab s,v,ab t,w])=some (.agg [ab s,v,ab t,w]):=by
 rcases hv with ⟨rfl,_⟩ | ⟨e,rfl⟩<;>rcases hw with ⟨rfl,_⟩ | ⟨e',rfl⟩<;>rfl
variable {P:aM} {L:Lib}
structure Fr' (P:aM) (L:Lib):Prop extends Nu P L where
 azM:Has P L 101 mc
 XP:Has P L 69 IG
 azN:Has P L 111 QZ
 h98:Has P L 98 Nw
 azO:Has P L 108 QY
 azP:Has P L 102 QX
 h74:Has P L 74 sL
 XQ:Has P L 50 Eh
 nB:Has P L 49 c49
 h73:Has P L 73 Aw
 h70:Has P L 70 II
 h71:Has P L 71 Ci
 azQ:Has P L 149 Q3
def aft (h:Fr' P L) {s1 s2:Int} {w1 w2:AV} {a b:Int} {K:Nat} (h1:cY s1 w1 a) (h2:cY s2 w2 b) (de:0<b) (ka:Bd K a) (kb:Bd K b) (hK:K<=30000000000):
  ∃r,dG r (wu a b)/\∀tm,aj tm 2= .ptr 0 0->aj tm 3= .ptr 1 0->aj tm 4= .ptr 2 0->db [.cell 4 4 true] (D P L (au (au mc.body)) ⟨tm,[(2,.cells true true true 4 [.int .i64 0,.ae,.int .i64 0,.ae]),(1,.cells true true true 2 [ab s2,w2]),(0,.cells true true true 2 [ab s1,w1])],3,0⟩)=some r:=by
 have hv:cw (.agg [ab s1,w1]) a:=⟨s1,w1,rfl,h1⟩;have hw:cw (.agg [ab s2,w2]) b:=⟨s2,w2,rfl,h2⟩;obtain ⟨p1,p2⟩:=Ob (a:=a) de;have hgp:=Kk (a:=a) de;have hgk:Bd K ((wJ a b:Nat):Int):=kb.le (by
  have:=Int.gcd_le_natAbs_right a (show b≠0 by omega)
  omega)
 obtain ⟨g,e2,hg⟩:=aiM h.toNu hv hw ka kb hK;obtain ⟨q1,e4,fk⟩:=aiL h.toNu hv hg hgp ka hgk hK;obtain ⟨q2,e5,ri⟩:=aiL h.toNu hw hg hgp kb hgk hK;rw [<-p1] at fk;rw [<-p2] at ri;obtain ⟨s3,w3,rfl,h3⟩:=hg;obtain ⟨s4,w4,rfl,h4⟩:=fk;obtain ⟨s5,w5,rfl,h5⟩:=ri;obtain ⟨l1,u1⟩:=h1.aJ;obtain ⟨l2,u2⟩:=h2.aJ;obtain ⟨l3,u3⟩:=h3.aJ;obtain ⟨l4,u4⟩:=h4.aJ;obtain ⟨l5,u5⟩:=h5.aJ;by_cases fK:w2= .ae/\s2=1
 ·obtain ⟨rfl,rfl⟩:=fK;have jU:b=1:=by
   rcases h2 with ⟨_,h,_⟩ | ⟨_,_,h,_⟩
   ·exact h.symm
   ·cases h
  subst jU;rw [Int.gcd_one] at p1 p2;have p1:(wu a 1).num=a:=by rw [p1];exact Int.ediv_one a
  refine ⟨.agg [ab s1,w1,ab 1,.ae],⟨s1,w1,1,.ae,rfl,by rw [p1];exact h1,by rw [p2];exact h2⟩,fun tm t2 t3 t4=>?_⟩
  have un:=oX;simp only [go_sem,ya,mc,au,t2,t3,t4,u1.one,cm,bQ,yh,cO,fR,dR,zu,zx,jr u1 un,dV,dX,yt,dT,js u1 un]
 ·refine ⟨.agg [ab s4,w4,ab s5,w5],⟨s4,w4,s5,w5,rfl,h4,h5⟩,fun tm t2 t3 t4=>?_⟩;rcases u2 with ⟨rfl,_⟩ | ⟨e,rfl⟩
  ·simp only [go_sem,ya,yd,mc,au,t2,t3,t4,bf,u1.an,cm,b8,bQ,yh,cO,fR,dR,show ¬s2=1 from fun e=>fK ⟨rfl,e⟩,e2,e4,e5,bF,dV,dX,cm,yt,cT u3,u3.an,u4.one,u5.one,zu,zx,jr u4 u5,dT,js u4 u5]
  ·simp only [go_sem,ya,yd,mc,au,t2,t3,t4,bf,u1.an,cm,b8,bQ,yh,cO,mK,dR,e2,e4,e5,bF,dV,dX,cm,yt,cT u3,u3.an,u4.one,u5.one,zu,zx,jr u4 u5,dT,js u4 u5]
def MU (h:Fr' P L) {v w:AV} {a b:Int} {K:Nat} (hv:cw v a) (hw:cw w b) (de:b≠0) (ka:Bd K a) (kb:Bd K b) (hK:K<=30000000000):∃r,ai P L 101 [v,w] r/\dG r (wu a b):=by
 have e1:=DS h.toNu hw;have eA:=hv;have XR:=hw;obtain ⟨s1,w1,rfl,h1⟩:=hv;obtain ⟨s2,w2,rfl,h2⟩:=hw;obtain ⟨l1,u1⟩:=h1.aJ;obtain ⟨l2,u2⟩:=h2.aJ;have fin:∀r t1 t2 v1 v2 tm,(∀tm,aj tm 2= .ptr 0 0->aj tm 3= .ptr 1 0->aj tm 4= .ptr 2 0->db [.cell 4 4 true] (D P L (au (au mc.body)) ⟨tm,[(2,.cells true true true 4 [.int .i64 0,.ae,.int .i64 0,.ae]),(1,.cells true true true 2 [ab t2,v2]),(0,.cells true true true 2 [ab t1,v1])],3,0⟩)=some r)->aj tm 2= .ptr 0 0->aj tm 3= .ptr 1 0->aj tm 4= .ptr 2 0->
   D P L (.seq (aW mc.body) (aW (au mc.body))) ⟨[(0,.agg [ab s1,w1]),(1,.agg [ab s2,w2])],[],0,0⟩=some (.normal,⟨tm,[(2,.cells true true true 4 [.int .i64 0,.ae,.int .i64 0,.ae]),(1,.cells true true true 2 [ab t2,v2]),(0,.cells true true true 2 [ab t1,v1])],3,0⟩)->ai P L 101 [.agg [ab s1,w1],.agg [ab s2,w2]] r:=fun r t1 t2 v1 v2 tm tail k2 k3 k4 e=>by
  unfold ai;rw [aG h.azM];show db [.cell 4 4 true] (D P L (.seq (aW mc.body) (.seq (aW (au mc.body)) (au (au mc.body)))) ⟨[(0,.agg [ab s1,w1]),(1,.agg [ab s2,w2])],[],0,0⟩)=_
  rw [A4,e,fa];exact tail tm k2 k3 k4
 by_cases hn:b<0
 ·obtain ⟨n1,e2,jz⟩:=DT h.toNu eA ka (by omega);obtain ⟨n2,e3,cX⟩:=DT h.toNu XR kb (by omega);obtain ⟨s3,w3,rfl,h3⟩:=jz;obtain ⟨s4,w4,rfl,h4⟩:=cX;obtain ⟨l3,u3⟩:=h3.aJ;obtain ⟨l4,u4⟩:=h4.aJ;obtain ⟨r,hr,tail⟩:=aft h h3 h4 (by omega) ka.neg kb.neg hK;rw [Rat.neg_divInt_neg] at hr;have hs:bV b<0:=by unfold bV;rw [yL hn];decide
  refine ⟨r,fin r _ _ _ _ _ tail ?_ ?_ ?_ (by simp only [go_sem,ya,yd,mc,aW,au,hs,bf,u1.pu,u1.an,u1.one,u2.pu,u2.an,u2.one,cm,b8,e1,e2,e3,bF,cT u3,cT u4]<;>rfl),hr⟩<;>simp only [go_sem,ya]
 ·obtain ⟨r,hr,tail⟩:=aft h h1 h2 (by omega) ka kb hK;have hs:¬bV b<0:=by unfold bV;rw [yu hn];split<;>decide
  refine ⟨r,fin r _ _ _ _ _ tail ?_ ?_ ?_ (by simp only [go_sem,ya,yd,mc,aW,au,hs,bf,u1.pu,u1.one,u2.pu,u2.an,u2.one,cm,b8,e1]<;>rfl),hr⟩<;>simp only [go_sem,ya]
end
def Hq.mono {k m:Nat} {r:Rat} (h:Hq k r) (hk:k<=m):Hq m r:=⟨h.1.mono hk,h.2.mono hk⟩
def Hq.neg {k:Nat} {r:Rat} (h:Hq k r):Hq k (-r):=⟨h.1.neg,h.2⟩
def add_eq (a b:Rat):a+b=wu (a.num*b.den+b.num*a.den) ((a.den:Int)*b.den):=by
 rw [Rat.add_def',<-ybg,wY]
def mul_eq (a b:Rat):a*b=wu (a.num*b.num) ((a.den:Int)*b.den):=by
 rw [Rat.mul_def',<-ybg,wY]
def Ph (a:Rat):0<(a.den:Int):=by have:=a.den_pos;omega
def CC (a b:Rat):0<(a.den:Int)*b.den:=Int.mul_pos (Ph a) (Ph b)
def Bd.We {k:Nat} {a b:Int} (ha:Bd k a) (hb:Bd k b):Bd (k+1) (a+b):=by
 have:=ha.add hb
 grind
def Hq.add {k m:Nat} {a b:Rat} (ha:Hq k a) (hb:Hq m b):Hq (k+m+1) (a+b):=by
 rw [add_eq];refine Hq.divInt (CC a b) ?_ ((ha.2.mul hb.2).mono (by omega));exact (ha.1.mul hb.2).We ((hb.1.mul ha.2).mono (by omega))
def Hq.mul {k m:Nat} {a b:Rat} (ha:Hq k a) (hb:Hq m b):Hq (k+m) (a*b):=by
 rw [mul_eq];exact Hq.divInt (CC a b) (ha.1.mul hb.1) (ha.2.mul hb.2)
def Hq.sub {k m:Nat} {a b:Rat} (ha:Hq k a) (hb:Hq m b):Hq (k+m+1) (a-b):=by
 rw [yaQ];exact ha.add hb.neg
def Hq.inv {k:Nat} {a:Rat} (ha:Hq k a):Hq k a⁻¹:=by
 have h1:(a⁻¹).num.natAbs<=a.den:=by
  rw [Rat.num_inv,yby]
  grind
 refine ⟨ha.2.le (by simpa using h1),?_⟩;unfold Bd;rw [Rat.den_inv]
 split
 ·have h2:=ha.2;unfold Bd at h2
  simp_all
 ·exact ha.1
def og (a b:Rat):Int:=if a<b then -1 else if a=b then 0 else 1
def asp (a b:Rat):bV (a.num*b.den-b.num*a.den)=og a b:=by
 unfold bV og;by_cases h:a<b
 ·rw [yL h]
  have:=(ycA a b).1 h
  grind
 ·rw [yu h];have h1:¬a.num*b.den<b.num*a.den:=fun e=>h ((ycA a b).2 e)
  rw [yu (by omega)];by_cases h2:a=b
  ·grind
  ·rw [yu h2,yu (by have:¬a.num*b.den=b.num*a.den:=fun e=>h2 (Rat.eq_iff_mul_eq_mul.2 e);omega)]
def Py (a:Rat) (h:a.den=1):a=(a.num:Rat):=by
 have:=Rat.num_divInt_den a
 rw [h] at this;rw [<-this];exact (Rat.ext (by simp [ybz]) (by simp [ybA]))
def qj (a b c d:AV) (r:List AV):iv 2 true (List.drop 2 (a::b::c::d::r))=some (.agg [c,d]):=rfl
def mN (a b:AV) (r:List AV):iv 2 true (a::b::r)=some (.agg [a,b]):=rfl
section
variable {P:aM} {L:Lib}
def MV (h:Fr' P L) {v:AV} {z:Int} (hv:cw v z):∃r,ai P L 111 [v] r/\dG r (z:Rat):=by
 obtain ⟨o1,o2⟩:=sr h.toNu (z:=1) (by decide) (by decide);obtain ⟨s1,w1,rfl,h1⟩:=hv;obtain ⟨l1,u1⟩:=h1.aJ;have un:=oX;refine ⟨.agg [ab s1,w1,ab 1,.ae],?_,s1,w1,1,.ae,rfl,h1,.inl ⟨rfl,rfl,(by show (-9223372036854775808:Int)<=1;decide),(by show (1:Int)<9223372036854775808;decide)⟩⟩
 unfold ai;rw [aG h.azN];simp only [go_sem,ya,yd,QZ,bf,u1.pu,u1.one,cm,o1,bF,zu,zx,jr u1 un,dV,dX,yt,dT,js u1 un]
def m69 (h:Fr' P L) {z:Int} (h1: -9223372036854775808<=z) (h2:z<9223372036854775808):∃r,ai P L 69 [ab z] r/\dG r (z:Rat):=by
 obtain ⟨o1,o2⟩:=sr h.toNu h1 h2;obtain ⟨r,e,hr⟩:=MV h o2;have bZ:=hr;obtain ⟨s1,w1,s2,w2,rfl,k1,k2⟩:=hr;obtain ⟨l1,u1⟩:=k1.aJ;obtain ⟨l2,u2⟩:=k2.aJ;refine ⟨_,?_,bZ⟩;unfold ai;rw [aG h.XP];simp only [go_sem,ya,yd,IG,bf,b8,o1,e,bF,jr u1 u2,dV,dX,yt,dT,js u1 u2]
def XS (h:Fr' P L) {v:AV} {a:Rat} (hv:dG v a):ai P L 98 [v] (.bool (decide (a.den=1))):=by
 obtain ⟨s1,w1,s2,w2,rfl,h1,h2⟩:=hv;obtain ⟨l1,u1⟩:=h1.aJ;unfold ai;rw [aG h.h98];rcases h2 with ⟨rfl,rfl,b1,b2⟩ | ⟨e,l,rfl,gb,nb,vb,sb,b1⟩
 ·have e:decide (((a.den:Nat):Int)=1)=decide (a.den=1):=by simp;omega
  simp only [go_sem,ya,yd,Nw,bf,u1.pu,u1.one,bQ,yh,aye,agz,fR,dR,e]
 ·have e:decide (a.den=1)=false:=yF (by omega);rw [e];simp only [go_sem,ya,yd,Nw,bf,u1.pu,u1.one,bQ,yh,agz,mK,dR]
def aiN (h:Fr' P L) {v:AV} {a:Rat} (hv:dG v a):ai P L 108 [v] (ab (bV a.num)):=by
 obtain ⟨s1,w1,s2,w2,rfl,h1,h2⟩:=hv;obtain ⟨l1,u1⟩:=h1.aJ;obtain ⟨l2,u2⟩:=h2.aJ;have e1:=DS h.toNu ⟨s1,w1,rfl,h1⟩;unfold ai;rw [aG h.azO];simp only [go_sem,ya,yd,QY,bf,u1.pu,u1.an,u1.one,u2.pu,u2.one,bQ,yh,mN,b8,e1]
def azR (h:Fr' P L) {v:AV} {a:Rat} {K:Nat} (hv:dG v a) (ka:Hq K a) (hK:K<=30000000000):∃r,ai P L 102 [v] r/\dG r (-a):=by
 obtain ⟨s1,w1,s2,w2,rfl,h1,h2⟩:=hv;obtain ⟨l1,u1⟩:=h1.aJ;obtain ⟨l2,u2⟩:=h2.aJ;obtain ⟨n,e1,hn⟩:=DT h.toNu ⟨s1,w1,rfl,h1⟩ ka.1 (by omega);obtain ⟨s3,w3,rfl,h3⟩:=hn;obtain ⟨l3,u3⟩:=h3.aJ;refine ⟨.agg [ab s3,w3,ab s2,w2],?_,s3,w3,s2,w2,rfl,h3,h2⟩;unfold ai;rw [aG h.azP];simp only [go_sem,ya,yd,QX,bf,u1.pu,u1.an,u1.one,u2.pu,u2.one,u3.one,bQ,yh,mN,qj,b8,e1,bF,zu,zx,jr u3 u2,dV,dX,yt,dT,js u3 u2]
def m74 (h:Fr' P L) {v w:AV} {a b:Rat} {K:Nat} (hv:dG v a) (hw:dG w b) (ka:Hq K a) (kb:Hq K b) (hK:K<=10000000000):∃r,ai P L 74 [v,w] r/\dG r (a+b):=by
 have i1:=XS h hv;have i2:=XS h hw;obtain ⟨s1,w1,s2,w2,rfl,h1,h2⟩:=hv;obtain ⟨s3,w3,s4,w4,rfl,h3,h4⟩:=hw;obtain ⟨l1,u1⟩:=h1.aJ;obtain ⟨l2,u2⟩:=h2.aJ;obtain ⟨l3,u3⟩:=h3.aJ;obtain ⟨l4,u4⟩:=h4.aJ;have n1:cw (.agg [ab s1,w1]) a.num:=⟨s1,w1,rfl,h1⟩;have n2:cw (.agg [ab s2,w2]) a.den:=⟨s2,w2,rfl,h2⟩;have n3:cw (.agg [ab s3,w3]) b.num:=⟨s3,w3,rfl,h3⟩;have n4:cw (.agg [ab s4,w4]) b.den:=⟨s4,w4,rfl,h4⟩;by_cases re:a.den=1/\b.den=1
 ·obtain ⟨d1,d2⟩:=re;obtain ⟨p,e1,hp⟩:=H6 h.toNu n1 n3 ka.1 kb.1 (by omega);obtain ⟨r,e2,hr⟩:=MV h hp;have he:((a.num+b.num:Int):Rat)=a+b:=by
   rw [Rat.intCast_add,<-Py a d1,<-Py b d2]
  rw [he] at hr;have bZ:=hr;obtain ⟨s5,w5,rfl,h5⟩:=hp;obtain ⟨s6,w6,s7,w7,rfl,h6,h7⟩:=hr;obtain ⟨l5,u5⟩:=h5.aJ;obtain ⟨l6,u6⟩:=h6.aJ;obtain ⟨l7,u7⟩:=h7.aJ;refine ⟨_,?_,bZ⟩;rw [d1] at i1;rw [d2] at i2;unfold ai;rw [aG h.h74];simp only [go_sem,ya,yd,sL,bf,u1.pu,u1.an,u1.one,u2.pu,u2.an,u2.one,u3.pu,u3.an,u3.one,u4.pu,u4.an,u4.one,bQ,yh,dT,mN,b8,i1,i2,e1,u5.an,e2,bF,jr u6 u7,dV,dX,yt,dT,js u6 u7]
 ·obtain ⟨p1,e1,bm⟩:=qI h.toNu n1 n4 ka.1 kb.2 (by omega);obtain ⟨p2,e2,iS⟩:=qI h.toNu n3 n2 kb.1 ka.2 (by omega);obtain ⟨p3,e3,hp3⟩:=H6 h.toNu bm iS (ka.1.mul kb.2) (kb.1.mul ka.2) (by omega);obtain ⟨p4,e4,hp4⟩:=qI h.toNu n2 n4 ka.2 kb.2 (by omega);obtain ⟨r,e5,hr⟩:=MU h hp3 hp4 (by have:=CC a b;omega) ((ka.1.mul kb.2).We (kb.1.mul ka.2)) ((ka.2.mul kb.2).mono (by omega)) (by omega);rw [<-add_eq] at hr;have bZ:=hr;obtain ⟨s5,w5,rfl,h5⟩:=bm;obtain ⟨s6,w6,rfl,h6⟩:=iS;obtain ⟨s7,w7,rfl,h7⟩:=hp3;obtain ⟨s8,w8,rfl,h8⟩:=hp4;obtain ⟨s9,w9,s10,w10,rfl,h9,gY⟩:=hr;obtain ⟨l5,u5⟩:=h5.aJ;obtain ⟨l6,u6⟩:=h6.aJ;obtain ⟨l7,u7⟩:=h7.aJ;obtain ⟨l8,u8⟩:=h8.aJ;obtain ⟨l9,u9⟩:=h9.aJ;obtain ⟨l10,NX⟩:=gY.aJ;refine ⟨_,?_,bZ⟩;unfold ai;rw [aG h.h74];by_cases d1:a.den=1
  ·rw [d1] at i1;rw [yF (fun d2=>re ⟨d1,d2⟩)] at i2;simp only [go_sem,ya,yd,sL,bf,u1.pu,u1.an,u1.one,u2.pu,u2.an,u2.one,u3.pu,u3.an,u3.one,u4.pu,u4.an,u4.one,bQ,yh,dT,mN,qj,b8,i1,i2,e1,e2,u5.an,u6.an,e3,e4,u7.an,u8.an,e5,bF,jr u9 NX,dV,dX,yt,dT,js u9 NX]
  ·rw [yF d1] at i1;simp only [go_sem,ya,yd,sL,bf,u1.pu,u1.an,u1.one,u2.pu,u2.an,u2.one,u3.pu,u3.an,u3.one,u4.pu,u4.an,u4.one,bQ,yh,dT,mN,qj,b8,i1,e1,e2,u5.an,u6.an,e3,e4,u7.an,u8.an,e5,bF,jr u9 NX,dV,dX,yt,dT,js u9 NX]
def m50 (h:Fr' P L) {v w:AV} {a b:Rat} {K:Nat} (hv:dG v a) (hw:dG w b) (ka:Hq K a) (kb:Hq K b) (hK:K<=10000000000):∃r,ai P L 50 [v,w] r/\dG r (a-b):=by
 obtain ⟨n,e1,hn⟩:=azR h hw kb (by omega);obtain ⟨r,e2,hr⟩:=m74 h hv hn ka kb.neg hK;rw [<-yaQ] at hr;have bZ:=hr;obtain ⟨s1,w1,s2,w2,rfl,h1,h2⟩:=hv;obtain ⟨s3,w3,s4,w4,rfl,h3,h4⟩:=hw;obtain ⟨s5,w5,s6,w6,rfl,h5,h6⟩:=hn;obtain ⟨s7,w7,s8,w8,rfl,h7,h8⟩:=hr;obtain ⟨l1,u1⟩:=h1.aJ;obtain ⟨l2,u2⟩:=h2.aJ;obtain ⟨l3,u3⟩:=h3.aJ;obtain ⟨l4,u4⟩:=h4.aJ;obtain ⟨l5,u5⟩:=h5.aJ;obtain ⟨l6,u6⟩:=h6.aJ;obtain ⟨l7,u7⟩:=h7.aJ;obtain ⟨l8,u8⟩:=h8.aJ;refine ⟨_,?_,bZ⟩;unfold ai;rw [aG h.XQ];simp only [go_sem,ya,yd,Eh,bf,u1.pu,u1.an,u1.one,u2.pu,u2.an,u2.one,u3.pu,u3.an,u3.one,u4.pu,u4.an,u4.one,u5.an,u6.an,dT,b8,e1,e2,bF,jr u7 u8,dV,dX,yt,dT,js u7 u8]
def m49 (h:Fr' P L) {v w:AV} {a b:Rat} {K:Nat} (hv:dG v a) (hw:dG w b) (ka:Hq K a) (kb:Hq K b) (hK:K<=10000000000):∃r,ai P L 49 [v,w] r/\dG r (a*b):=by
 obtain ⟨s1,w1,s2,w2,rfl,h1,h2⟩:=hv;obtain ⟨s3,w3,s4,w4,rfl,h3,h4⟩:=hw;obtain ⟨l1,u1⟩:=h1.aJ;obtain ⟨l2,u2⟩:=h2.aJ;obtain ⟨l3,u3⟩:=h3.aJ;obtain ⟨l4,u4⟩:=h4.aJ;obtain ⟨p1,e1,bm⟩:=qI h.toNu (v:= .agg [ab s1,w1]) (w:= .agg [ab s3,w3]) ⟨s1,w1,rfl,h1⟩ ⟨s3,w3,rfl,h3⟩ ka.1 kb.1 (by omega);obtain ⟨p2,e2,iS⟩:=qI h.toNu (v:= .agg [ab s2,w2]) (w:= .agg [ab s4,w4]) ⟨s2,w2,rfl,h2⟩ ⟨s4,w4,rfl,h4⟩ ka.2 kb.2 (by omega);obtain ⟨r,e3,hr⟩:=MU h bm iS (by have:=CC a b;omega) (ka.1.mul kb.1) (ka.2.mul kb.2) (by omega);rw [<-mul_eq] at hr;have bZ:=hr;obtain ⟨s5,w5,rfl,h5⟩:=bm;obtain ⟨s6,w6,rfl,h6⟩:=iS;obtain ⟨s7,w7,s8,w8,rfl,h7,h8⟩:=hr;obtain ⟨l5,u5⟩:=h5.aJ;obtain ⟨l6,u6⟩:=h6.aJ;obtain ⟨l7,u7⟩:=h7.aJ;obtain ⟨l8,u8⟩:=h8.aJ;refine ⟨_,?_,bZ⟩;unfold ai;rw [aG h.nB]
 simp only [go_sem,ya,yd,c49,bf,u1.pu,u1.an,u1.one,u2.pu,u2.an,u2.one,u3.pu,u3.an,u3.one,u4.pu,u4.an,u4.one,u5.an,u6.an,bQ,yh,mN,qj,b8,e1,e2,e3,bF,jr u7 u8,dV,dX,yt,dT,js u7 u8]
def m73 (h:Fr' P L) {v:AV} {a:Rat} {K:Nat} (hv:dG v a) (h0:a≠0) (ka:Hq K a) (hK:K<=10000000000):∃r,ai P L 73 [v] r/\dG r a⁻¹:=by
 obtain ⟨s1,w1,s2,w2,rfl,h1,h2⟩:=hv;obtain ⟨l1,u1⟩:=h1.aJ;obtain ⟨l2,u2⟩:=h2.aJ;obtain ⟨r,e1,hr⟩:=MU h (v:= .agg [ab s2,w2]) (w:= .agg [ab s1,w1]) ⟨s2,w2,rfl,h2⟩ ⟨s1,w1,rfl,h1⟩ (fun e=>h0 (Rat.num_eq_zero.1 e)) ka.2 ka.1 (by omega);rw [<-Rat.inv_def] at hr;have bZ:=hr;obtain ⟨s7,w7,s8,w8,rfl,h7,h8⟩:=hr;obtain ⟨l7,u7⟩:=h7.aJ;obtain ⟨l8,u8⟩:=h8.aJ;refine ⟨_,?_,bZ⟩;unfold ai;rw [aG h.h73];simp only [go_sem,ya,yd,Aw,bf,u1.pu,u1.an,u1.one,u2.pu,u2.an,u2.one,bQ,yh,mN,qj,b8,e1,bF,jr u7 u8,dV,dX,yt,dT,js u7 u8]
def m71 (h:Fr' P L) {v w:AV} {a b:Rat} {K:Nat} (hv:dG v a) (hw:dG w b) (ka:Hq K a) (kb:Hq K b) (hK:K<=10000000000):ai P L 71 [v,w] (ab (og a b)):=by
 obtain ⟨s1,w1,s2,w2,rfl,h1,h2⟩:=hv;obtain ⟨s3,w3,s4,w4,rfl,h3,h4⟩:=hw;obtain ⟨l1,u1⟩:=h1.aJ;obtain ⟨l2,u2⟩:=h2.aJ;obtain ⟨l3,u3⟩:=h3.aJ;obtain ⟨l4,u4⟩:=h4.aJ;obtain ⟨p1,e1,bm⟩:=qI h.toNu (v:= .agg [ab s1,w1]) (w:= .agg [ab s4,w4]) ⟨s1,w1,rfl,h1⟩ ⟨s4,w4,rfl,h4⟩ ka.1 kb.2 (by omega);obtain ⟨p2,e2,iS⟩:=qI h.toNu (v:= .agg [ab s3,w3]) (w:= .agg [ab s2,w2]) ⟨s3,w3,rfl,h3⟩ ⟨s2,w2,rfl,h2⟩ kb.1 ka.2 (by omega);have e3:=aiI h.toNu bm iS (ka.1.mul kb.2) (kb.1.mul ka.2) (by omega);rw [asp] at e3;obtain ⟨s5,w5,rfl,h5⟩:=bm;obtain ⟨s6,w6,rfl,h6⟩:=iS;obtain ⟨l5,u5⟩:=h5.aJ;obtain ⟨l6,u6⟩:=h6.aJ;unfold ai;rw [aG h.h71];simp only [go_sem,ya,yd,Ci,bf,u1.pu,u1.an,u1.one,u2.pu,u2.an,u2.one,u3.pu,u3.an,u3.one,u4.pu,u4.an,u4.one,u5.an,u6.an,bQ,yh,mN,qj,b8,e1,e2,e3,bF]
def azS (h:Fr' P L) {v:AV} {a:Rat} {K:Nat} (hv:dG v a) (ka:Hq K a) (hK:K<=10000000000):∃r,ai P L 149 [v] r/\cw r a.floor:=by
 obtain ⟨s1,w1,s2,w2,rfl,h1,h2⟩:=hv;obtain ⟨l1,u1⟩:=h1.aJ;obtain ⟨l2,u2⟩:=h2.aJ;obtain ⟨q,r,e1,hq,hr⟩:=Wc h.toNu (v:= .agg [ab s1,w1]) (w:= .agg [ab s2,w2]) ⟨s1,w1,rfl,h1⟩ ⟨s2,w2,rfl,h2⟩ (Ph a) ka.1 ka.2 (by omega);rw [<-Rat.floor_def] at hq;have bL:=hq;obtain ⟨s3,w3,rfl,h3⟩:=hq;obtain ⟨s4,w4,rfl,h4⟩:=hr;obtain ⟨l3,u3⟩:=h3.aJ;obtain ⟨l4,u4⟩:=h4.aJ;refine ⟨_,?_,bL⟩;unfold ai;rw [aG h.azQ];simp only [go_sem,ya,yd,Q3,bf,u1.pu,u1.an,u1.one,u2.pu,u2.an,u2.one,bQ,yh,mN,qj,b8,e1,rB,dV,dX,yt,ll u3,cT u3,cT u4]
end
def qc:List AV->Option (List Nat)
 | []=>some []
 | .int .u64 (.ofNat d)::r=>bif yI d 18446744073709551616 then (match qc r with | some l=>some (d::l) | none=>none) else none
 | _::_=>none
def qJ:List Nat->Nat
 | []=>0
 | a::r=>a+18446744073709551616*qJ r
def zR:List Nat->Bool
 | []=>false
 | [a]=> !yp a 0
 | _::r=>zR r
def Kp:List AV->Option AV
 | [.agg [.int .i64 s,.ae]]=>bif zN s then some (.str (aU s)) else none
 | [.agg [.int .i64 s,.aB _ n cs]]=>
  match qc cs with
  | some l=>
   bif yp l.length n&&(yy n 4000000000&&(zR l&&yy 9223372036854775808 (qJ l))) then
    match s with
    | .ofNat 1=>some (.str (aq (qJ l)))
    | .negSucc 0=>some (.str (45::aq (qJ l)))
    | _=>none
   else none
  | none=>none
 | _=>none
def Zi:∀{l:List Nat},lo 18446744073709551616 l->qc (l.map uc)=some l
 | [],_=>rfl
 | a::l,h=>by
  have h1:=h a (by simp);have h2:=Zi (l:=l) (fun x hx=>h x (by simp [hx]));show (bif yI a 18446744073709551616 then (match qc (l.map uc) with | some l=>some (a::l) | none=>none) else none)=_
  rw [jL h1,h2];rfl
def Pz:∀l:List Nat,qJ l=bv 18446744073709551616 l
 | []=>rfl
 | a::l=>by simp only [qJ,bv,Pz l]
def aaU:∀{l:List Nat},l≠[]->fX l->zR l=true
 | [],h,_=>absurd rfl h
 | [a],_,h=>by
  have:a≠0:=fun e=>by
   subst e;have h:dI [0]=[0]:=h;simp [dI] at h
  simp [zR,gB this]
 | a::b::r,_,h=>by
  have h1:fX (b::r):=by
   have h:dI (a::b::r)=a::b::r:=h;rw [dI] at h
   grind
  have:=aaU (l:=b::r) (by simp) h1
  simpa [zR] using this
section
variable {P:aM} {L:Lib}
structure Tx (P:aM) (L:Lib):Prop extends Fr' P L where
 Et:L.pure 99=some Kp
 azT:L.pure 175=some Gk
 aiO:L.pure 152=some Jw
 aiP:L.pure 153=some Jl
 Wf:L.pure 154=some G3
 Wg:L.pure 109=some Lq
 mW:Has P L 155 BM
 azU:Has P L 172 Q5
 aF8:Has P L 151 ahj
 aF9:Has P L 107 ahi
 XT:Has P L 46 q8
 aiQ:Has P L 110 Ls
 NY:Has P L 62 Ei
def m99 (h:Tx P L) {v:AV} {z:Int} {K:Nat} (hv:cw v z) (hz:Bd K z) (hK:K<=4000000000):ai P L 99 [v] (.str (aU z)):=by
 obtain ⟨s,w,rfl,hn⟩:=hv;unfold ai;rw [gN h.Et];rcases hn with ⟨rfl,rfl,h1,h2⟩ | ⟨e,l,rfl,g,n,hb,hs,h1⟩
 ·show (bif zN s then some (AV.str (aU s)) else none)=_
  have:zN s=true:=by
   cases s with
   | ofNat k=>exact jL (by have:(Int.ofNat k)=(k:Int):=rfl;omega)
   | negSucc k=>exact jL (by omega)
  grind
 ·have jx:l≠[]:=fun e=>by subst e;simp [bv] at hb;omega
  have qV:l.length<=4000000000:=xe (mV n hb (yE hz (zF K))) hK
  show (match qc (l.map uc) with
   | some l'=>bif yp l'.length l.length&&(yy l.length 4000000000&&(zR l'&&yy 9223372036854775808 (qJ l'))) then (match s with | .ofNat 1=>some (AV.str (aq (qJ l'))) | .negSucc 0=>some (.str (45::aq (qJ l'))) | _=>none) else none
   | none=>none)=_
  rw [Zi g];simp only [Nat.beq_refl,yr qV,aaU jx n,Pz,hb,yr h1,uF,yz];by_cases h0:z<0
  ·rw [yL h0] at hs;subst hs;rw [lR h0];rfl
  ·rw [yu h0] at hs;subst hs;obtain ⟨m,rfl⟩:∃m:Nat,z=m:=⟨z.toNat,by omega⟩;rfl
def RT (r:Rat):List Nat:=aU r.num++(if r.den=1 then [] else 47::aq r.den)
def FQ {z:Int} {k:Nat} (h:Bd k z):(aU z).length<=k+1:=by
 have h1:∀m:Nat,m<2^k->(aq m).length<=max k 1:=fun m hm=>by
  cases k with
  | zero=>
       have:m=0:=by simpa using hm
       subst this;decide
  | succ k=>
   rw [Nat.max_eq_left (by omega)];exact pW (k:=k) (yE hm (wX (by decide) _))
 by_cases h0:z<0
 ·rw [lR h0];unfold Bd at h
  grind
 ·obtain ⟨m,rfl⟩:∃m:Nat,z=m:=⟨z.toNat,by omega⟩
  have:=h1 m (by unfold Bd at h;simpa using h)
  rw [km];omega
def m46 (h:Tx P L) {v:AV} {a:Rat} {K:Nat} (hv:dG v a) (ka:Hq K a) (hK:K<=4000000000):ai P L 46 [v] (.str (RT a)):=by
 have i1:=XS h.toFr' hv;obtain ⟨s1,w1,s2,w2,rfl,h1,h2⟩:=hv;obtain ⟨l1,u1⟩:=h1.aJ;obtain ⟨l2,u2⟩:=h2.aJ;have e1:=m99 h (v:= .agg [ab s1,w1]) ⟨s1,w1,rfl,h1⟩ ka.1 hK;have e2:=m99 h (v:= .agg [ab s2,w2]) ⟨s2,w2,rfl,h2⟩ ka.2 hK;have b1:=FQ ka.1;have b2:=FQ ka.2;rw [km] at e2 b2;unfold ai RT;rw [aG h.XT];by_cases hd:a.den=1
 ·rw [yL hd,xV];rw [hd] at i1;simp only [go_sem,ya,yd,q8,bf,u1.pu,u1.an,u1.one,u2.pu,u2.an,u2.one,dT,b8,i1,bQ,yh,mN,e1]
 ·rw [yu hd];rw [yF hd] at i1;have hc:aU a.num++47::aq a.den=(aU a.num++[47])++aq a.den:=by simp
  rw [hc]
  simp only [go_sem,ya,yd,q8,bf,u1.pu,u1.an,u1.one,u2.pu,u2.an,u2.one,dT,b8,i1,bQ,yh,mN,qj,e1,e2,fQ (a:=aU a.num) (b:=[47]) (by simp;omega),fQ (a:=aU a.num++[47]) (b:=aq a.den) (by simp;omega)]
end
def azV {n:Nat} (h:n<9223372036854775808):binOp .and (.int .i64 (n:Int)) (.int .i64 1)=some (.int .i64 ((n%2:Nat):Int)):=by
 show some (AV.int .i64 (IntKind.wrap .i64 ((xC 64 (n:Int)&&&xC 64 1).toNat:Int)))=_
 rw [show xC 64 (n:Int)=td 64 n from BitVec.ofInt_natCast 64 n,show xC 64 1=td 64 1 from rfl];rw [BitVec.toNat_and,vD,vD,show (1%2^64:Nat)=2^1-1 from rfl,Nat.and_two_pow_sub_one_eq_mod,wrapN (by omega)]
 grind
def azW (n:Nat):binOp .shr (.int .i64 (n:Int)) (.int .u64 1)=some (.int .i64 ((n/2:Nat):Int)):=by
 show some (AV.int .i64 ((n:Int).fdiv (2^1)))=_
 grind
def Bd.pow {k:Nat} {z:Int} (h:Bd k z):∀e,Bd (k*e+1) (z^e)
 | 0=>by rw [yaq,xp];unfold Bd;decide
 | e+1=>by
  have ih:=Bd.pow h e;rw [Int.pow_succ];exact (ih.mul h).mono (by rw [xr,ym];omega)
section
variable {P:aM} {L:Lib}
def awl (h:Nu P L) (MR:True) {z:Int} {K k0:Nat} (hz:Bd K z) (hK:K*k0+1<=30000000000) {o1 o2:AV}:
  ∀m st,(∃(k i e:Nat) (s1 s2:Int) (w1 w2:AV),aP [1,2,4,5] st=⟨[(1,ab k),(2,.ptr 0 0),(4,.ptr 1 0),(5,.ptr 2 0)],[(2,.cells true true true 2 [ab s2,w2]),(1,.cells true true true 2 [o1,o2]),(0,.cells true true true 2 [ab s1,w1])],3,0⟩/\cY s1 w1 (z^i)/\cY s2 w2 (z^e)/\e+i*k=k0/\(0<k->i<=k0)/\k<9223372036854775808/\k=m)->
   ∃ex st',D P L (.loop [1,2,4,5] Bi) st=some (ex,st')/\∃tm s2 w2 c0,st'=⟨tm,[(2,.cells true true true 2 [ab s2,w2]),(1,.cells true true true 2 [o1,o2]),(0,c0)],3,0⟩/\ex= .exit 0/\aj tm 4= .ptr 1 0/\aj tm 5= .ptr 2 0/\cY s2 w2 (z^k0):=by
 intro dq sq;generalize bq:aP [1,2,4,5] sq=s0;revert bq s0 sq dq;apply dt;rintro m st ⟨k,i,e,s1,s2,w1,w2,rfl,h1,h2,hk,hi,hkb,rfl⟩;obtain ⟨l1,u1⟩:=h1.aJ;obtain ⟨l2,u2⟩:=h2.aJ;by_cases Nh:k=0
 ·right
  subst Nh;rw [xp,yZ] at hk;subst hk;simp only [go_sem,Bi,show ¬(0:Int)<((0:Nat):Int) by omega];exact ⟨_,_,rfl,by simp,_,s2,w2,_,rfl,rfl,by simp only [go_sem,ya],by simp only [go_sem,ya],h2⟩
 ·left
  have jT:=hi (by omega);have he:e<=k0:=by omega
  have hik:i*1<=i*k:=yP i (by omega);have b1:Bd (K*k0+1) (z^i):=(hz.pow i).mono (by have:=yP K jT;omega);have b2:Bd (K*k0+1) (z^e):=(hz.pow e).mono (by have:=yP K he;omega);have n1:cw (.agg [ab s1,w1]) (z^i):=⟨s1,w1,rfl,h1⟩;have n2:cw (.agg [ab s2,w2]) (z^e):=⟨s2,w2,rfl,h2⟩;obtain ⟨p,e1,hp⟩:=qI h n2 n1 b2 b1 (by omega);obtain ⟨q,e2,hq⟩:=qI h n1 n1 b1 b1 (by omega);rw [<-Int.pow_add] at hp hq;obtain ⟨s3,w3,rfl,h3⟩:=hp;obtain ⟨s4,w4,rfl,h4⟩:=hq;obtain ⟨l3,u3⟩:=h3.aJ;obtain ⟨l4,u4⟩:=h4.aJ;have eB:=xM k 2;have I6:=azV (n:=k) hkb;have XU:=azW k;have agH:(i+i)*(k/2)=i*(2*(k/2)):=by rw [<-Nat.two_mul,xg 2 i,xb]
  by_cases azX:k%2=1
  ·rw [azX] at I6 eB;have pC:i*k=i*(2*(k/2))+i:=by
    conv=>lhs;rw [<-eB,xr,ym]
   by_cases fg:1<k
   ·simp only [go_sem,ya,Bi,show (0:Int)<(k:Int) by omega,I6,show ((1:Nat):Int)=1 from rfl,cm,b8,u1.an,u2.an,e1,bF,cm,yt,cT u3,cT u4,show (1:Int)<(k:Int) by omega,e2,XU]
    exact ⟨_,k/2,rfl,by omega,k/2,i+i,e+i,s4,s3,w4,w3,by simp only [go_sem,ya,yd,aC],h4,h3,by omega,fun h0=>by have:=yP (i+i) h0;omega,by omega,rfl⟩
   ·have fK:e+i+i*(k/2)=k0:=by
     have h1:k/2=0:=by omega
     rw [h1] at pC ⊢;omega
    simp only [go_sem,ya,Bi,show (0:Int)<(k:Int) by omega,I6,show ((1:Nat):Int)=1 from rfl,cm,b8,u1.an,u2.an,e1,bF,cm,yt,cT u3,show ¬(1:Int)<(k:Int) by omega,XU];exact ⟨_,k/2,rfl,by omega,k/2,i,e+i,s1,s3,w1,w3,by simp only [go_sem,ya,yd,aC],h1,h3,fK,fun h0=>by omega,by omega,rfl⟩
  ·have qY:k%2=0:=by omega
   rw [qY] at I6 eB;have pC:i*k=i*(2*(k/2)):=by
    conv=>lhs;rw [<-eB,yZ]
   simp only [go_sem,ya,Bi,show (0:Int)<(k:Int) by omega,I6,show ((0:Nat):Int)=0 from rfl,vE,cm,b8,u1.an,bF,cm,yt,cT u4,show (1:Int)<(k:Int) by omega,e2,XU]
   exact ⟨_,k/2,rfl,by omega,k/2,i+i,e,s4,s2,w4,w2,by simp only [go_sem,ya,yd,aC],h4,h2,by omega,fun h0=>by have:=yP (i+i) h0;omega,by omega,rfl⟩
def Wh (h:Nu P L) (mW:Has P L 155 BM) {v:AV} {z:Int} {K k:Nat} (hv:cw v z) (hz:Bd K z) (hK:K*k+1<=30000000000) (hk:k<9223372036854775808):∃r,ai P L 155 [v,ab k] r/\cw r (z^k):=by
 obtain ⟨o1,o2⟩:=sr h (z:=1) (by decide) (by decide);obtain ⟨s1,w1,rfl,h1⟩:=hv;obtain ⟨l1,u1⟩:=h1.aJ;have un:=oX;have iq:∃s w,ai P L 155 [.agg [ab s1,w1],ab k] (.agg [ab s,w])/\cY s w (z^k):=by
  unfold ai;rw [aG mW];simp only [go_sem,ya,yd,BM,bf,u1.pu,u1.one,o1,bF,cT un];generalize hq:D P L (.loop [1,2,4,5] Bi) _=q;obtain ⟨ex,st,rfl,tm,s5,w5,c1,rfl,rfl,t4,t5,h5⟩:=cr hq (awl (P:=P) (L:=L) h trivial hz (k0:=k) hK (o1:= .int .i64 0) (o2:= .ae) k) ⟨k,1,0,s1,1,w1,.ae,by simp only [go_sem,ya,yd,aC],by rw [Int.pow_one];exact h1,.inl ⟨rfl,(yaq z).symm,(by rw [yaq];decide)⟩,by omega,fun h0=>h0,hk,rfl⟩
  obtain ⟨l5,u5⟩:=h5.aJ;refine ⟨s5,w5,?_,h5⟩;simp only [go_sem,ya,yd,aC,t4,t5,dV,dX,cm,yt,ll u5,cT u5]
 obtain ⟨s,w,e,hn⟩:=iq;exact ⟨_,e,s,w,rfl,hn⟩
def FY:∀(l m:List Nat) (a:Nat),cC (l++m) a=(cC l a).bind (fun v=>cC m v)
 | [],m,a=>rfl
 | b::l,m,a=>by
  simp only [List.cons_append,cC]
  cases (yy 48 b&&yy b 57) with
  | true=>exact FY l m _
  | false=>rfl
def aqd:∀{l:List Nat} {a v:Nat},cC l 0=some v->cC l a=some (a*10^l.length+v):=by
 intro l
 suffices h:∀{l:List Nat} {a b v:Nat},cC l b=some v->b*10^l.length<=v/\cC l (a+b)=some (a*10^l.length+v) by
  intro a v hv
  have:=(h (a:=a) hv).2
  grind
 intro l
 induction l with
 | nil=>intro a b v h;simp [cC] at h ⊢;omega
 | cons c l ih=>
  intro a b v h;simp only [cC] at h ⊢
  cases hb:(yy 48 c&&yy c 57) with
  | false=>rw [hb] at h;cases h
  | true=>
   rw [hb] at h;obtain ⟨h1,h2⟩:=ih (a:=10*a) h;simp only [yM,yU]
   grind
def PA:∀{l:List Nat} {v:Nat},cC l 0=some v->v<10^l.length:=by
 suffices h:∀{l:List Nat} {b v:Nat},cC l b=some v->v<(b+1)*10^l.length by
  grind
 intro l
 induction l with
 | nil=>intro b v h;simp [cC] at h ⊢;omega
 | cons c l ih=>
  intro b v h;simp only [cC] at h
  cases hb:(yy 48 c&&yy c 57) with
  | false=>rw [hb] at h;cases h
  | true=>
   simp only [Bool.and_eq_true] at hb;have hc:=Nat.le_of_ble_eq_true hb.2;have h2:=yT (10^l.length) (show 10*b+(c-48)+1<=10*(b+1) by omega)
   grind
def asq (Wf:L.pure 154=some G3) {f:cx} {s:List Nat} {v:Nat} (h0:0<s.length) (h1:s.length<=18) (hv:cC s 0=some v):bM P L f 154 [.str s]=some (.aa [.int .i64 v,.undef]):=by
 rw [gN Wf];show (bif yI 0 s.length&&yy s.length 18 then (match cC s 0 with | some n=>some (AV.aa [.int .i64 n,.undef]) | none=>none) else none)=_
 rw [jL h0,yr h1,hv];rfl
end
def Z3:∀j:Nat,gl [48] j++[48]=[48]++gl [48] j
 | 0=>rfl
 | j+1=>by
  show ([48]++gl [48] j)++[48]=[48]++([48]++gl [48] j)
  rw [xt,Z3 j]
def CM:∀j:Nat,(gl [48] j).length=j
 | 0=>rfl
 | j+1=>by show ([48]++gl [48] j).length=_;rw [yY,CM j];simp;omega
def aoc:∀(k n:Nat),n<10^k->0<k->gS k n=gl [48] (k-(aq n).length)++aq n:=by
 intro k
 induction k with
 | zero=>intro n _ h;omega
 | succ k ih=>
  intro n hn _;rw [gS];by_cases gY:n<10
  ·rw [my gY,yG gY]
   cases k with
   | zero=>rfl
   | succ k=>
    rw [ih (n/10) (by rw [xL gY];exact yao (by decide)) (by omega),xL gY]
    rw [show aq 0=[48] by decide];rw [Z3];rfl
  ·have hk:0<k:=by
    grind
   rw [ih (n/10) (by rw [yU] at hn;omega) hk,nI gY,xt,yY]
   grind
def aod {m d r:Nat} (hd:d=m/1000000000000000000) (hr:r=m%1000000000000000000):(0<d->aq m=aq d++(gl [48] (18-(aq r).length)++aq r))/\(d=0->aq m=aq r):=by
 have XO:r<10^18:=by omega
 constructor
 ·intro h0;rw [<-aoc 18 r XO (by decide),<-J3 18 d r h0 XO]
  grind
 ·grind
section
variable {P:aM} {L:Lib}
def awm {f:cx} (h:L.pure 138=some sX) {n:Nat} (hn:n<18446744073709551616):bM P L f 138 [uc n,ab 10]=some (.str (aq n)):=by
 rw [gN h];show (bif yI n 18446744073709551616 then some (AV.str (aq n)) else none)=_
 rw [jL hn];rfl
def P2 {f:cx} (h:L.pure 139=some zq) {n:Nat} (hn:n<=100):bM P L f 139 [.str [48],ab (n:Nat)]=some (.str (gl [48] n)):=by
 rw [gN h];show (bif yy n 1099511627776&&yy (1*n) 1099511627776 then some (AV.str (gl [48] n)) else none)=_
 rw [yr (by omega),yr (by omega)];rfl
def awn (h:Wd P L) (BZ:L.pure 138=some sX) (su:L.pure 139=some zq) {neg:Bool} {M K:Nat} (rn:0<M) (hK:K<=4000000000) (hlen:(aq M).length<=300000000000):
  ∀k s,(∃(m:Nat) (w:AV) (ps:List (List Nat)) (fl:Bool),m=k/\WN w m/\m<18446744073709551616^K/\aq M=(if m=0 then [] else aq m)++ps.reverse.flatten/\((ps=[]->m=M)/\18*ps.length<=(aq M).length+18)/\(m≠0->18*ps.length+(aq m).length=(aq M).length)/\
    ((ps=[]/\aP [3,4,5,6] s=⟨[(3,.bool neg),(4,w),(5,.aD 0 0 1),(6,.ae)],[(0,.cells fl true true 1 [uc 1000000000000000000])],1,0⟩)\/
    (ps≠[]/\aP [3,4,5,6] s=⟨[(3,.bool neg),(4,w),(5,.aD 0 0 1),(6,.aD 1 0 ps.length)],[(1,.cells true true false 1 (ps.map .str)),(0,.cells fl true true 1 [uc 1000000000000000000])],2,0⟩)))->
   ∃ex s',D P L (.loop [3,4,5,6] nY) s=some (ex,s')/\∃tm ps fl,ex= .exit 0/\ps≠[]/\ps.length<=300000000000/\aq M=ps.reverse.flatten/\aj tm 3= .bool neg/\aj tm 6= .aD 1 0 ps.length/\s'=⟨tm,[(1,.cells true true false 1 (ps.map .str)),(0,.cells fl true true 1 [uc 1000000000000000000])],2,0⟩:=by
 intro dq sq;generalize bq:aP [3,4,5,6] sq=s0;revert bq s0 sq dq;apply dt;rintro k s ⟨m,w,ps,fl,rfl,hw,hmK,sU,aiR,mh,hs⟩;obtain ⟨lw,uw,gw,nw,vw⟩:=hw;by_cases hm:m=0
 ·right
  have jx:lw=[]:=yD (Nat.le_zero.1 (mV (K:=0) nw vw (by rw [hm];decide)))
  subst jx;rw [yL hm,xW] at sU;have fy:ps≠[]:=fun e=>by have:=aiR.1 e;omega
  have NZ:ps.length<=300000000000:=by have:=aiR.2;omega
  rcases hs with ⟨h0,_⟩ | ⟨_,rfl⟩
  ·exact absurd h0 fy
  ·simp only [go_sem,ya,nY,uw.len,yV,show ¬(0:Int)<((0:Nat):Int) by omega];exact ⟨_,_,rfl,by simp,_,ps,fl,rfl,fy,NZ,sU,by simp only [go_sem,ya],by simp only [go_sem,ya],rfl⟩
 ·left
  have hw:WN w m:=⟨lw,uw,gw,nw,vw⟩;have hB:WN (.aB true 1 [uc 1000000000000000000]) 1000000000000000000:=⟨[1000000000000000000],lT true [1000000000000000000],C2.2 (by decide),by decide,by simp [bv]⟩;obtain ⟨q,r,e1,hq,hr⟩:=aiD h hw hB (K:=K+1) (by decide) (yE hmK (yR (by decide) (by omega))) (by rw [yU];have:=yao (n:=K) (show 0<18446744073709551616 by decide);omega) (by omega)
  obtain ⟨t1,t2⟩:=aod (m:=m) rfl rfl;have eB:=xM m 1000000000000000000;have hrB:=xv m (show 0<1000000000000000000 by decide);obtain ⟨d,hd⟩:∃d,d=m/1000000000000000000:=⟨_,rfl⟩;obtain ⟨x,hx⟩:∃x,x=m%1000000000000000000:=⟨_,rfl⟩;rw [<-hd] at hq t1 t2 eB;rw [<-hx] at hr t1 t2 eB hrB;obtain ⟨lq,uq,gq,nq,vq⟩:=hq;obtain ⟨lr,ur,gr,nr,vr⟩:=hr;have hxl:(aq x).length<=18:=pW (k:=17) (by omega);have hxp:=rG x;have IS:(lr=[]/\x=0)\/lr=[x]:=by
   have h1:lr.length<=1:=mV (K:=1) nr vr (by rw [ycm];omega)
   cases lr with
   | nil=>exact .inl ⟨rfl,by rw [<-vr];rfl⟩
   | cons a l=>
    cases l with
    | nil=>rw [zE] at vr;exact .inr (by rw [vr])
    | cons b l=>simp at h1
  have I7:(lq=[]/\d=0)\/(0<lq.length/\0<d):=by
   cases lq with
   | nil=>exact .inl ⟨rfl,by rw [<-vq];rfl⟩
   | cons a l=>
    refine .inr ⟨by simp,?_⟩;rcases xh d with h0 | h0
    ·have:=mV (K:=0) nq vq (by rw [h0];decide)
     simp at this
    ·exact h0
  unfold ai at e1;have AJ:(0:Int)<(lw.length:Int):=by
   have:lw≠[]:=fun e=>by subst e;simp [bv] at vw;omega
   have:=uz.2 this
   omega
  have aGa:=mh hm;have hmp:=rG m;have new:∀t:List Nat,aq m=(if d=0 then [] else aq d)++t->(d≠0->t.length=18)->
    aq M=(if d=0 then [] else aq d)++(ps++[t]).reverse.flatten/\((ps++[t]=[]->d=M)/\18*(ps++[t]).length<=(aq M).length+18)/\(d≠0->18*(ps++[t]).length+(aq d).length=(aq M).length):=fun t h1 h2=>by
   rw [yu hm,h1] at sU;refine ⟨by rw [sU];simp,⟨by simp,by simp only [yY,yM,yV];omega⟩,fun h0=>?_⟩
   have h3:=congrArg List.length h1;rw [yu h0,yY,h2 h0] at h3;simp only [yY,yM,yV];omega
  have Ag:d<m:=by omega
  have AK:WN q d:=⟨lq,uq,gq,nq,vq⟩;have nt:lr=[x]->lj 1 0 r=some (.cg (.int .u64 x::([]:List AV))):=fun e=>by
   subst e
   have:=ur.cB (i:=0) (by simp)
   simpa using this
  have f1:=awm (P:=P) (f:=D P L) BZ (n:=x) (by omega);have f2:=P2 (P:=P) (f:=D P L) su (n:=18-(aq x).length) (by omega);have Wi:(18:Int)-((aq x).length:Int)=((18-(aq x).length:Nat):Int):=by omega
  have aGb:18*ps.length<=300000000000:=by omega
  have zl:(gl [48] (18-(aq x).length)++aq x).length=18:=by rw [yY,CM];omega
  obtain ⟨z,hz⟩:∃z,z=aq x:=⟨_,rfl⟩;have iT:x=0->z=[48]:=fun e=>by rw [hz,e];decide
  rw [<-hz] at f1 f2 Wi hxl hxp zl t1 t2;cases fl
  all_goals
   rcases I7 with ⟨rfl,fE⟩ | ⟨N1,fE⟩
   ·obtain ⟨n1,n2,n3⟩:=new z (by rw [yL fE,xW];exact t2 fE) (fun h=>absurd fE h)
    rcases IS with ⟨rfl,sP⟩ | rfl
    ·have lM:=iT sP;clear hz;subst lM;rcases hs with ⟨gI,rfl⟩ | ⟨gI,rfl⟩
     ·subst gI;simp only [go_sem,ya,yd,xQ,yO,yC,ym,nY,uw.len,uw.an,uq.len,uq.b9,ur.len,ur.b9,AJ,e1,yV,yV,show ¬(0:Int)<((0:Nat):Int) by omega,kU];refine ⟨_,d,rfl,Ag,d,q,[]++[[48]],false,rfl,AK,by omega,n1,n2,n3,.inr ⟨by simp,?_⟩⟩;simp only [go_sem,ya,yd,aC,aR uq.pu,bc _ uq.pu]<;>rfl
     ·simp only [go_sem,ya,yd,yO,yC,ym,nY,uw.len,uw.an,uq.len,uq.b9,ur.len,ur.b9,AJ,e1,yV,yV,show ¬(0:Int)<((0:Nat):Int) by omega]
      rw [kw (ex:=false) (pu:=true) (cs:=ps.map .str) (by simp only [go_sem,ya]) (by simp) (by omega) (by omega) (by decide) (by simp only [go_sem])];simp only [go_sem,ya,yd];refine ⟨_,d,rfl,Ag,d,q,ps++[[48]],false,rfl,AK,by omega,n1,n2,n3,.inr ⟨by simp,?_⟩⟩;rw [xH,yY];simp only [go_sem,ya,yd,aC,aR uq.pu,bc _ uq.pu]<;>rfl
    ·rcases hs with ⟨gI,rfl⟩ | ⟨gI,rfl⟩
     ·subst gI;simp only [go_sem,ya,yd,xQ,yO,yC,ym,nY,uw.len,uw.an,uq.len,uq.b9,ur.len,ur.b9,AJ,e1,yM,yV,yh,show (0:Int)<((1:Nat):Int) by omega,nt rfl,f1,yV,show ¬(0:Int)<((0:Nat):Int) by omega,kU];refine ⟨_,d,rfl,Ag,d,q,[]++[z],false,rfl,AK,by omega,n1,n2,n3,.inr ⟨by simp,?_⟩⟩;simp only [go_sem,ya,yd,aC,aR uq.pu,bc _ uq.pu]<;>rfl
     ·simp only [go_sem,ya,yd,yO,yC,ym,nY,uw.len,uw.an,uq.len,uq.b9,ur.len,ur.b9,AJ,e1,yM,yV,yh,show (0:Int)<((1:Nat):Int) by omega,nt rfl,f1,yV,show ¬(0:Int)<((0:Nat):Int) by omega]
      rw [kw (ex:=false) (pu:=true) (cs:=ps.map .str) (by simp only [go_sem,ya]) (by simp) (by omega) (by omega) (by decide) (by simp only [go_sem])];simp only [go_sem,ya,yd];refine ⟨_,d,rfl,Ag,d,q,ps++[z],false,rfl,AK,by omega,n1,n2,n3,.inr ⟨by simp,?_⟩⟩;rw [xH,yY];simp only [go_sem,ya,yd,aC,aR uq.pu,bc _ uq.pu]<;>rfl
   ·obtain ⟨n1,n2,n3⟩:=new (gl [48] (18-z.length)++z) (by rw [yu (by omega)];exact t1 fE) (fun _=>zl)
    rcases IS with ⟨rfl,sP⟩ | rfl
    ·have lM:=iT sP;clear hz;subst lM;rcases hs with ⟨gI,rfl⟩ | ⟨gI,rfl⟩
     ·subst gI
      simp only [go_sem,ya,yd,xQ,yO,yC,ym,nY,uw.len,uw.an,uq.len,uq.b9,ur.len,ur.b9,AJ,e1,yV,show ¬(0:Int)<((0:Nat):Int) by omega,show (0:Int)<(lq.length:Int) by omega,show (18:Int)-((1:Nat):Int)=((17:Nat):Int) from rfl,wrapN (n:=17) (by omega),P2 (P:=P) (f:=D P L) su (n:=17) (by omega),fQ (a:=gl [48] 17) (b:=[48]) (by rw [CM];decide),kU]
      refine ⟨_,d,rfl,Ag,d,q,[]++[gl [48] 17++[48]],false,rfl,AK,by omega,n1,n2,n3,.inr ⟨by simp,?_⟩⟩;simp only [go_sem,ya,yd,aC,aR uq.pu,bc _ uq.pu]<;>rfl
     ·simp only [go_sem,ya,yd,yO,yC,ym,nY,uw.len,uw.an,uq.len,uq.b9,ur.len,ur.b9,AJ,e1,yV,show ¬(0:Int)<((0:Nat):Int) by omega,show (0:Int)<(lq.length:Int) by omega,show (18:Int)-((1:Nat):Int)=((17:Nat):Int) from rfl,wrapN (n:=17) (by omega),P2 (P:=P) (f:=D P L) su (n:=17) (by omega),fQ (a:=gl [48] 17) (b:=[48]) (by rw [CM];decide)]
      rw [kw (ex:=false) (pu:=true) (cs:=ps.map .str) (by simp only [go_sem,ya]) (by simp) (by omega) (by omega) (by decide) (by simp only [go_sem])];simp only [go_sem,ya,yd];refine ⟨_,d,rfl,Ag,d,q,ps++[gl [48] 17++[48]],false,rfl,AK,by omega,n1,n2,n3,.inr ⟨by simp,?_⟩⟩;rw [xH,yY];simp only [go_sem,ya,yd,aC,aR uq.pu,bc _ uq.pu]<;>rfl
    ·rcases hs with ⟨gI,rfl⟩ | ⟨gI,rfl⟩
     ·subst gI
      simp only [go_sem,ya,yd,xQ,yO,yC,ym,nY,uw.len,uw.an,uq.len,uq.b9,ur.len,ur.b9,AJ,e1,yM,yV,yh,show (0:Int)<((1:Nat):Int) by omega,nt rfl,f1,show (0:Int)<(lq.length:Int) by omega,Wi,wrapN (n:=18-z.length) (by omega),f2,fQ (a:=gl [48] (18-z.length)) (b:=z) (by rw [CM];omega),kU];refine ⟨_,d,rfl,Ag,d,q,[]++[gl [48] (18-z.length)++z],false,rfl,AK,by omega,n1,n2,n3,.inr ⟨by simp,?_⟩⟩;simp only [go_sem,ya,yd,aC,aR uq.pu,bc _ uq.pu]<;>rfl
     ·simp only [go_sem,ya,yd,yO,yC,ym,nY,uw.len,uw.an,uq.len,uq.b9,ur.len,ur.b9,AJ,e1,yM,yV,yh,show (0:Int)<((1:Nat):Int) by omega,nt rfl,f1,show (0:Int)<(lq.length:Int) by omega,Wi,wrapN (n:=18-z.length) (by omega),f2,fQ (a:=gl [48] (18-z.length)) (b:=z) (by rw [CM];omega)]
      rw [kw (ex:=false) (pu:=true) (cs:=ps.map .str) (by simp only [go_sem,ya]) (by simp) (by omega) (by omega) (by decide) (by simp only [go_sem])];simp only [go_sem,ya,yd];refine ⟨_,d,rfl,Ag,d,q,ps++[gl [48] (18-z.length)++z],false,rfl,AK,by omega,n1,n2,n3,.inr ⟨by simp,?_⟩⟩;rw [xH,yY];simp only [go_sem,ya,yd,aC,aR uq.pu,bc _ uq.pu]<;>rfl
end
def gH:Nat->VC->VC
 | 0,c=>aW c
 | n+1,c=> .seq (aW c) (gH n (au c))
def bT:Nat->VC->VC
 | 0,c=>au c
 | n+1,c=>bT n (au c)
def aiS:Nat->VC->Prop
 | 0,c=>c= .seq (aW c) (au c)
 | n+1,c=>c= .seq (aW c) (au c)/\aiS n (au c)
def Gc {P:aM} {L:Lib}:∀(n:Nat) {c:VC},aiS n c->∀s,D P L c s=kF P L (D P L (gH n c) s) (bT n c)
 | 0,c,h,s=>by
  conv=>lhs;rw [show c= .seq (aW c) (au c) from h]
  rw [jo];rfl
 | n+1,c,h,s=>by
  conv=>lhs;rw [show c= .seq (aW c) (au c) from h.1]
  show _=kF P L (D P L (.seq (aW c) (gH n (au c))) s) (bT n (au c))
  rw [jo,jo]
  cases D P L (aW c) s with
  | none=>rfl
  | some q=>
   obtain ⟨ex,st⟩:=q
   cases ex with
   | normal=>rw [fa,fa];exact Gc n h.2 st
   | ret=>rfl
   | exit id=>rfl
section
variable {P:aM} {L:Lib}
def amF (h:Nu P L) (BZ:L.pure 138=some sX) (su:L.pure 139=some zq) {s z:Int} {e:Bool} {l:List Nat} (hn:cY s (.aB e l.length (l.map uc)) z) {K:Nat} (lM:0<z.natAbs) (N3:z.natAbs<18446744073709551616^K) (hK:K<=4000000000) (hlen:(aq z.natAbs).length<=300000000000):
  ∃ps:List (List Nat),ps≠[]/\ps.length<=300000000000/\aq z.natAbs=ps.reverse.flatten/\D P L (gH 5 Cj.body) ⟨[(0,.agg [ab s,.aB e l.length (l.map uc)])],[],0,0⟩=some (.normal,⟨[(3,.bool (decide (z<0))),(6,.aD 0 0 ps.length)],[(0,.cells true true false 1 (ps.map .str))],1,0⟩):=by
 obtain ⟨r,e1,hr⟩:=ss h hn;have bZ:=hr;obtain ⟨lr,ur,gr,nr,vr⟩:=hr;simp only [go_sem,ya,yd,yC,ym,Cj,gH,aW,au,bf,bQ,yh,cO,mK,dR,cm,b8,e1];generalize lO:D P L (.loop [3,4,5,6] nY) _=qq;obtain ⟨ex,st,rfl,tm,ps,fl,rfl,fy,NZ,sU,t3,t6,rfl⟩:=cr lO (awn (P:=P) (L:=L) h.toWd BZ su (neg:=decide (z<0)) (M:=z.natAbs) (K:=K) lM hK hlen z.natAbs) ⟨z.natAbs,b9 r,[],true,rfl,bZ,N3,by rw [yu (by omega)];simp,⟨fun _=>rfl,by simp⟩,fun _=>by simp,.inl ⟨rfl,by
  simp only [go_sem,ya,yd,aC,aR ur.pu,bc _ ur.pu]<;>rfl⟩⟩
 refine ⟨ps,fy,NZ,sU,?_⟩;simp only [go_sem,yd,aC,t3,t6]
end
section
open Go
variable {O:bh}
def rW:Nat->wK->wK
 | 0,.seq _ b=>b
 | n+1,.seq _ b=>rW n b
 | _,c=>c
def MW:Nat->wK->Prop
 | 0,.seq _ _=>True
 | n+1,.seq _ b=>MW n b
 | _,_=>False
def aaV (hO:er O) {h:Nat} {c:wK} {l k:Nat} {s:St} {ex:Ex} {s':St} (hv:D O.prog O.az (comp O.P (O.hint h) c l k).1 s=some (ex,s')):zM O h c s ex s':=by
 obtain ⟨n,hn⟩:=VQ hv
 cases n with
 | zero=>rw [F8] at hn;cases hn
 | succ n=>
  exact abw hO n (fun k _=>Yz hO k) h c l k n (yA _) s ex s' hn
def afu (hO:er O) {h:Nat} {ro:Option Nat} {lo:Nat} {Q:Exit->Act->yi->Prop}:∀(n:Nat) (c:wK) (l k:Nat),MW n c->∀(s s1:St),D O.prog O.az (gH n (comp O.P (O.hint h) c l k).1) s=some (.normal,s1)->
  ∀(m:Mp) (S:Nat->Prop) (w:yi) (a:Act),rN ro w->bW O m S w s.tm a.tmps->aO O m S w s.hp s.ct->s.base<=s.ct->(O.hint h).n<=a.tmps.size->O.w0.heap.size<=lo->lo<=w.heap.size->Marks lo S w a.defers->
  (∀a' w',ew O m S w s .normal s1 a.tmps.size lo .normal a' w'->(rW n c).wpIn (WF ro) 0 O.P Q a' w')->c.wpIn (WF ro) 0 O.P Q a w
 | n,c,l,k,hc,s,s1,hv=>by
  intro m S w a cN ht hh hb hn aY eR cz hQ
  cases c with
  | seq x y=>
   cases n with
   | zero=>
    refine wpIn_seq (wpIn_mono (aaV hO (show D O.prog O.az (comp O.P (O.hint h) x l k).1 s=some (.normal,s1) from hv) ro lo m S w a cN ht hh hb hn aY eR cz) ?_);rintro e a' w' hp;have he:e= .normal:=hp.1;subst he;exact hQ a' w' hp
   | succ n=>
    have eA:D O.prog O.az (.seq (comp O.P (O.hint h) x l k).1 (gH n (comp O.P (O.hint h) y (comp O.P (O.hint h) x l k).2.1 (comp O.P (O.hint h) x l k).2.2).1)) s=some (.normal,s1):=hv;rw [jo] at eA
    cases hx:D O.prog O.az (comp O.P (O.hint h) x l k).1 s with
    | none=>rw [hx] at eA;cases eA
    | some q=>
     obtain ⟨ex,st⟩:=q;rw [hx] at eA
     cases ex with
     | ret=>exact absurd eA (by intro h;cases h)
     | exit id=>exact absurd eA (by intro h;cases h)
     | normal=>
      refine wpIn_seq (wpIn_mono (aaV hO hx ro lo m S w a cN ht hh hb hn aY eR cz) ?_);rintro e a' w' ⟨rfl,m',S',k1,k2,k3,k4,k5,k6,k7⟩;refine afu hO n y _ _ hc st s1 eA m' S' w' a' (JI k5 cN) k1 k2 (by omega) (by omega) aY (xe eR k5.size) k7 ?_;rintro a2 w2 ⟨_,m2,S2,g1,g2,g3,g4,g5,g6,g7⟩;exact hQ a2 w2 ⟨rfl,m2,S2,g1,g2,by omega,by omega,k5.trans (by rw [<-k3];exact g5),by omega,g7⟩
  | _=>cases n<;>exact hc.elim
def awo (hO:er O) {n:Nat} {F:aE} (hF:O.prog n=some F) {fn:yai} {c:wK} (jX:O.P.funcs[O.af n]? =some fn) (iD:fn.body=some c) {hp:Hp} {ct:Nat} {ao:List AV} {s:St}
  (hc:(comp O.P (O.hint n) c 0 0).1=F.body->∀m S w a,bW O m S w (dQ 0 ao) a.tmps->aO O m S w hp ct->(O.hint n).n<=a.tmps.size->a.tmps.size=max fn.ntmps ao.length->O.w0.heap.size<=w.heap.size->a.defers=[]->
   c.wpIn (WF none) 0 O.P (ew O m S w ⟨dQ 0 ao,hp,ct,ct⟩ .ret s a.tmps.size w.heap.size) a w) {v:AV} (hr:hZ s F.dj=some v):zL O n hp ct ao v s.hp s.ct:=by
 intro m S w args hh fC;obtain ⟨fn',q1,q2,q3⟩:=hO.prog n F hF;rw [jX] at q1;cases q1;obtain ⟨c',q4,q5,q6,q7⟩:=Of q2;rw [iD] at q4;cases q4;refine .inl ⟨CL jX (by rw [iD];rfl) q3,?_⟩
 have hlen:ao.length=args.size:=by have:=(gh _ _ fC).symm;simpa using this
 have hw:=hc q5.symm m S w {tmps:=args++Array.replicate (fn.ntmps-args.size) undef,defers:=[]} (ZO _ fC) hh (by simp;omega) (by simp;omega) hh.fB rfl
 refine callsIn_of_wp_marks (F:=yaR) jX iD trivial (wpIn_mono hw ?_);rintro e a' w' ⟨rfl,m',S',k1,k2,k3,k4,k5,k6,rs,k7,k8,k9⟩;show LeavesInM yaR 0 O.P fn a'.tmps (rD O m S w hp ct v s.hp s.ct) a'.defers .returning w'
 rw [k7];exact OK q6 hr k4 rs w' k8 k9 hh.fB k2 k1 k5
def aqe (hO:er O) {n:Nat} {F:aE} (hF:O.prog n=some F) {fn:yai} {c:wK} (jX:O.P.funcs[O.af n]? =some fn) (iD:fn.body=some c) {ao:List AV} {s:St}
  (hc:(comp O.P (O.hint n) c 0 0).1=F.body->∀m S w a,bW O m S w (dQ 0 ao) a.tmps->aO O m S w [] 0->(O.hint n).n<=a.tmps.size->a.tmps.size=max fn.ntmps ao.length->O.w0.heap.size<=w.heap.size->a.defers=[]->
   c.wpIn (WF none) 0 O.P (ew O m S w ⟨dQ 0 ao,[],0,0⟩ .ret s a.tmps.size w.heap.size) a w) {v r:AV} (hv:hZ s F.dj=some v) (hr:result s.hp v=some r):dS O n ao r:=
 N9 (awo hO hF jX iD hc hv) hr
end
section
open Go
def Zj {af:Nat->Nat} {m:Mp} {S:Nat->Prop} {w:yi} {b:Nat}:∀{ps:List (List Nat)} {o:Nat},bN af m S w (ps.map .str) b o->
  ∃ts:List ByteArray,(ts.map fun t=>t.data.toList.map xf)=ps/\∀i (h:i<ts.length),w.cell? ⟨b,o+i,none⟩=some (.string ts[i])
 | [],o,_=>⟨[],rfl,fun i h=>absurd h (Nat.not_lt_zero i)⟩
 | p::ps,o,h=>by
  obtain ⟨⟨u,h1,h2⟩,h3⟩:=h;obtain ⟨t,rfl,ht⟩:=h2;obtain ⟨ts,k1,k2⟩:=Zj h3;refine ⟨t::ts,by rw [xm,ht,k1],fun i hi=>?_⟩
  cases i with
  | zero=>exact h1
  | succ i=>
   grind
def mX (ts:List ByteArray):List UInt8:=(ts.map fun t=>t.data.toList).flatten
def asr {ts:List ByteArray} {ps:List (List Nat)} (h:(ts.map fun t=>t.data.toList.map xf)=ps):(mX ts.reverse).map xf=ps.reverse.flatten:=by
 subst h;unfold mX;rw [List.map_flatten,ybF,<-yae];rfl
def ass {ts:List ByteArray} {ps:List (List Nat)} (h:(ts.map fun t=>t.data.toList.map xf)=ps):(ts.map (·.size)).sum=ps.reverse.flatten.length:=by
 subst h;rw [List.length_flatten,yae,List.sum_reverse,ybF]
 congr 1
 simp_all
def PB (P:Program) (c:wK):Prop:=∀(Q:Exit->Act->yi->Prop) (a:Act) (w:yi) (neg:Bool) (ts:List ByteArray) (b o cc:Nat),a.tmps.size=69->a.tmps.getD 3 undef= .bool neg->a.tmps.getD 6 undef= .slice (some ⟨b,o,none⟩) ts.length cc->
  (∀i (h:i<ts.length),w.cell? ⟨b,o+i,none⟩=some (.string ts[i]))->(ts.map (·.size)).sum+1<=140737488355328->ts.length<=cc->ts.length<9223372036854775808->
  (∀a' w',Calm w w'->a'.tmps.size=69->a'.defers=a.defers->a'.tmps.getD 2 undef= .string ⟨((if neg then [45] else [])++mX ts.reverse).toArray⟩->Q .ret a' w')->
  (rW 5 c).wpIn Fence.wide 0 P Q a w
section
variable {O:bh}
def amG {n K:Nat} (h:n<18446744073709551616^K):(aq n).length<=20*K+1:=by
 refine pW (k:=20*K) (yE h ?_);have h1:(10:Nat)^(20*K)=(10^20)^K:=Nat.pow_mul ..;exact xe (by rw [h1];exact wX (by decide) K) (yR (by decide) (Nat.le_succ _))
def aqf (hO:er O) (hN:Nu O.prog O.az) (BZ:O.az.pure 138=some sX) (su:O.az.pure 139=some zq) (Et:O.prog 99=some Cj) {fn:yai} {c:wK} (jX:O.P.funcs[O.af 99]? =some fn) (iD:fn.body=some c) (Nj:fn.ntmps=69)
  (Wj:MW 5 c) (ht:PB O.P c) {s z:Int} {e:Bool} {l:List Nat} (hn:cY s (.aB e l.length (l.map uc)) z) (lM:0<z.natAbs) (hK:l.length<=4000000000) (N3:z.natAbs<18446744073709551616^l.length):
  dS O 99 [.agg [ab s,.aB e l.length (l.map uc)]] (.str (aU z)):=by
 have hlen:=amG N3;obtain ⟨ps,fy,NZ,sU,e1⟩:=amF (P:=O.prog) (L:=O.az) hN BZ su hn lM N3 hK (by omega)
 refine aqe hO Et jX iD (s:=⟨[(2,.str (aU z))],[(0,.cells true true false 1 (ps.map .str))],1,0⟩) (v:= .str (aU z)) ?_ rfl rfl;intro ayn m S w a htr hh qX ez hgs Cu;refine afu hO 5 c 0 0 Wj _ _ (by rw [ayn];exact e1) m S w a (fun l hl=>by cases hl) htr hh (yA _) qX hgs (yA _) ⟨[],by rw [Cu];rfl,by simp,by simp⟩ ?_
 rintro a' w' ⟨_,m',S',k1,k2,k3,k4,k5,k6,k7⟩;have r3:=k1 3;have r6:=k1 6;have g3:aj [(3,AV.bool (decide (z<0))),(6,.aD 0 0 ps.length)] 3= .bool (decide (z<0)):=rfl;have g6:aj [(3,AV.bool (decide (z<0))),(6,.aD 0 0 ps.length)] 6= .aD 0 0 ps.length:=rfl;rw [g3] at r3;rw [g6] at r6;simp only [ah] at r3 r6;obtain ⟨p,cc,hm,r6,hcc,_⟩:=r6;obtain ⟨p',arr,t,gW,_,_,_,_,_,B4,_⟩:=k2.obj 0 _ p rfl hm;rw [hm] at gW;cases gW;obtain ⟨ts,lJ,BB⟩:=Zj B4;have mi:ts.length=ps.length:=by rw [<-lJ,List.length_map]
 have Ah:=ass lJ;rw [<-sU] at Ah;have Wk:=asr lJ;rw [<-sU] at Wk;refine ht _ a' w' (decide (z<0)) ts p.b p.o cc ?_ r3 (by rw [mi];exact r6) BB (by omega) (by omega) (by omega) ?_
 ·grind
 ·intro a2 w2 hc h1 h2 h3;have ID:=A2 k2 hc (S':=S') (fun _ h=>h) (fun _ h=> .inl h) (fun b hb=>yE (k2.slt b hb) hc.size);refine ⟨rfl,m',S',?_,ID,rfl,Nat.zero_le _,k5.trans (zg k2 hc (fun _ h=>h) (fun _ h=> .inl h)),?_,?_⟩
  ·intro i;by_cases hi:i=2
   ·subst hi;rw [h3];show ah O.af m' S' w2 (.str (aU z)) _
    simp only [ah];refine ⟨_,rfl,?_⟩;by_cases h0:z<0
    ·rw [lR h0,y5 h0];simp only [xR,xH];rw [Wk];rfl
    ·obtain ⟨n,rfl⟩:∃n:Nat,z=n:=⟨z.toNat,by omega⟩;rw [yF h0];simp only [yB,xk,xW];rw [Wk];rfl
   ·have:aj [(2,AV.str (aU z))] i= .undef:=by
     have hb:yp 2 i=false:=by
      cases hq:yp 2 i with
      | false=>rfl
      | true=>exact absurd (Nat.eq_of_beq_eq_true hq).symm hi
     simp only [aj,hb,yX]
    show ah O.af m' S' w2 (aj [(2,AV.str (aU z))] i) _
    rw [this];simp only [ah]
  ·rw [h1,ez,Nj];simp
  ·rw [h2]
   exact zd k2 (zg (base:=0) k2 hc (fun _ h=>h) (fun _ h=> .inl h)) k7
end
end
end VE
