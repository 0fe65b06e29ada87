import Derived.Test.YtdibafmjplecaaaGreatDoorTam
import Derived.Test.YtdibafmjplecaaaGreatDoorTab
set_option linter.all false
set_option maxRecDepth 100000
open BitVec renaming ofInt→xC,ofNat→uV,toNat_ofNat→vC
open Bool renaming and_self→uz,false_eq_true→yC,not_false→yP,not_true→yN,true_and→wK
open Go renaming Code→wF,Func→yae,World→yi
open Go.Fence renaming wide→yaN
open Int renaming ediv_emod_unique→tD,gcd→wE,gcd_comm→ybY,natAbs_ediv_of_dvd→uo,natAbs_mul→ybw,natCast_mul→wG,pow_zero→yan,reduceEq→uC,reduceLT→ybX
open List renaming append_assoc→xx,append_nil→xZ,drop_drop→vN,drop_zero→yu,eq_nil_of_length_eq_zero→yD,length_append→y5,length_cons→yO,length_drop→xK,length_nil→yR,length_pos_iff→uv,length_take→yW,map_append→xI,map_cons→xi,map_map→ybD,map_reverse→tZ,nil_append→xT,take_append_drop→xR,take_of_length_le→yQ
open Nat renaming add_comm→ybj,add_zero→yV,beq→yq,ble→yy,ble_eq_true_of_le→yt,blt→yK,div_add_mod→xF,div_eq_of_lt→xD,div_le_self→wI,eq_zero_or_pos→xe,le_refl→yB,le_trans→xb,lt_of_le_of_lt→xB,lt_of_lt_of_le→yE,mod_eq_of_lt→yF,mod_le→ycy,mod_lt→xu,mul_add→xr,mul_add_div→tx,mul_add_mod→yat,mul_assoc→xd,mul_comm→xg,mul_le_mul_left→yS,mul_le_mul_right→yU,mul_lt_mul''→tn,mul_lt_mul_of_pos_right→xQ,mul_one→ym,mul_zero→xp,pos_of_ne_zero→uJ,pow_add→xn,pow_le_pow_left→wU,pow_le_pow_right→yT,pow_one→ycl,pow_pos→yal,pow_succ→yZ,reduceAdd→yd,reduceEqDiff→ya,reduceLT→yI,reduceLeDiff→yA,reduceMul→xN,zero_add→yh
open Rat renaming den_divInt→yby,divInt→wj,divInt_ofNat→ybe,lt_iff→ycz,num_divInt→ybx,sub_eq_add_neg→yaM
open UInt8 renaming toNat→xf
namespace VE
open Go (IntKind)
def aaj {b p A V bu bq0 U0 pre:Nat} (h1:bu=pre+p*A) (h2:bu+bq0*V=U0):(pre+p*(A%V))+(bq0+p*(A/V))*V=U0:=by
 have dZ:=xF A V
 grind
def ayv (hp:Hp) (ct:Nat) (ex:Bool) (sz n:Nat) (cs:List AV):own hp ct (.bE ex sz n cs)=(.aE ct 0 n,(ct,.cells true true ex sz cs)::hp,ct+1):=rfl
section
variable {P:aK} {L:Lib}
def awo (h:Wd P L) {w:AV} {vs:List Nat} (hw:bM w vs) (gv:lo 18446744073709551616 vs) {n la m:Nat} (lv:vs.length=n) (cU:2<=n) (IM:n<=la) (Jf:la<=99999999999) (hm:m=la-n+1) (eC:0<vs.getD (n-1) 0) {s U0:Nat}:
  ∀k st,(∃(j:Nat) (us qs:List Nat),aQ [9,10,11,12,13,14] st=⟨[(9,ab s),(10,w),(11,.aE 0 0 (la+1)),(12,ab n),(13,.aE 1 0 m),(14,ab ((j:Int)-1))],H2 qs us,2,0⟩/\j=k/\j<=m/\us.length=la+1/\qs.length=m/\lo 18446744073709551616 us/\lo 18446744073709551616 qs/\(∀i,i<j->qs.getD i 0=0)/\
    bv 18446744073709551616 us+bv 18446744073709551616 qs*bv 18446744073709551616 vs=U0/\bv 18446744073709551616 (us.drop j)<bv 18446744073709551616 vs)->
   ∃ex st',D P L (.loop [9,10,11,12,13,14] GA) st=some (ex,st')/\∃tm us qs,st'=⟨tm,H2 qs us,2,0⟩/\ex= .exit 2/\aj tm 9=ab s/\aj tm 11= .aE 0 0 (la+1)/\aj tm 12=ab n/\aj tm 13= .aE 1 0 m/\us.length=la+1/\qs.length=m/\lo 18446744073709551616 us/\lo 18446744073709551616 qs/\
    bv 18446744073709551616 us+bv 18446744073709551616 qs*bv 18446744073709551616 vs=U0/\bv 18446744073709551616 us<bv 18446744073709551616 vs:=by
 intro dq sq;generalize bq:aQ [9,10,11,12,13,14] sq=s0;revert bq s0 sq dq;apply dh;rintro k st ⟨j,us,qs,rfl,rfl,hj,lu,lq,gu,gq,hz,aH,mO⟩
 cases j with
 | zero=>
  right
  simp only [go_sem,ya,GA,H2,show ¬(0:Int)<=((0:Nat):Int)-1 by omega];exact ⟨_,_,rfl,by simp,_,us,qs,rfl,rfl,by simp only [go_sem,ya],by simp only [go_sem,ya],by simp only [go_sem,ya],by simp only [go_sem,ya],lu,lq,gu,gq,aH,by simpa using mO⟩
 | succ j=>
  left
  have da:(0:Nat)<18446744073709551616:=by decide
  obtain ⟨pre,eF⟩:∃p,p=us.take j:=⟨_,rfl⟩;obtain ⟨x,hx⟩:∃p,p=(us.drop j).take (n+1):=⟨_,rfl⟩;obtain ⟨post,fH⟩:∃p,p=us.drop (j+(n+1)):=⟨_,rfl⟩;have lp:pre.length=j:=by rw [eF,yW];omega
  have lx:x.length=n+1:=by rw [hx,yW,xK];omega
  have jn:us=pre++x++post:=by
   rw [eF,hx,fH,<-vN,xx,xR,xR]
  have gx:lo 18446744073709551616 x:=by rw [hx];exact zA (aen gu _) _
  have Wo:lo 18446744073709551616 pre:=by rw [eF];exact zA gu _
  have ayw:lo 18446744073709551616 post:=by rw [fH];exact aen gu _
  have hA:bv 18446744073709551616 (us.drop j)=us.getD j 0+18446744073709551616*bv 18446744073709551616 (us.drop (j+1)):=KB (by omega);have hgj:=fY da gu j;have XY:us.drop j=x++post:=by rw [fH,hx,<-vN,xR]
  have sY:bv 18446744073709551616 (us.drop j)=bv 18446744073709551616 x+18446744073709551616^(n+1)*bv 18446744073709551616 post:=by rw [XY,pY,lx]
  have Jd:=kZ gv;rw [lv] at Jd;have aG:bv 18446744073709551616 (us.drop j)<18446744073709551616*bv 18446744073709551616 vs:=by omega
  have hp0:bv 18446744073709551616 post=0:=by
   rcases xe (bv 18446744073709551616 post) with e | e
   ·exact e
   ·have h1:=yS (18446744073709551616^(n+1)) e;rw [ym,yZ] at h1;rw [yZ] at sY;omega
  rw [hp0,xp,yV] at sY;have hl:gj x vs n (vs.getD (n-1) 0) (vs.getD (n-2) 0) (x.getD n 0) (x.getD (n-1) 0) (x.getD (n-2) 0):=
   ⟨cU,by omega,lx,lv,gx,gv,rfl,rfl,rfl,rfl,rfl,eC,by rw [<-sY];exact aG⟩
  have M2:=hl.digit;obtain ⟨x',e1,XZ,Oa,Jg⟩:=azO h hw hl (pre:=pre) (post:=post) (qs:=qs);rw [lp,<-jn] at e1;have X0:bv 18446744073709551616 us=bv 18446744073709551616 pre+18446744073709551616^j*bv 18446744073709551616 x:=by
   have:=F9 (b:=18446744073709551616) us j (by omega)
   rw [sY,<-eF] at this;exact this
  have Wp:bv 18446744073709551616 (pre++x'++post)=bv 18446744073709551616 pre+18446744073709551616^j*bv 18446744073709551616 x':=by
   rw [xx,pY,pY,hp0,xp,yV,lp]
  have bf:=mC (b:=18446744073709551616) (l:=qs) (i:=j) (x:=bv 18446744073709551616 x/bv 18446744073709551616 vs) (by omega);rw [hz j (by omega),xp,yV] at bf;have ig:=aaj (b:=0) X0 aH;have aU:=fun (hp:Hp) (ct:Nat)=>jD (hp:=hp) (ct:=ct) (id:=1) (v:=bv 18446744073709551616 x/bv 18446744073709551616 vs) (ex:=true) (l:=qs) (o:=j) (by omega)
  have pO:0<bv 18446744073709551616 vs:=by omega
  have kG:=xu (bv 18446744073709551616 x) pO;have kF:∀tm (x y:X),cM tm 0 (some x)=some j->cM tm (la+1) (some y)=some (j+n+1)->eV (H2 qs us) (.sl 1) (.aE 0 0 (la+1)) tm (some x) (some y)=some (.aE 0 j (n+1)):=fun tm x y h1 h2=>by
   rw [asy (cs:=us.map uc) (pu:=true) (ex:=true) rfl h1 h2 (by omega) (by omega),show j+n+1-j=n+1 by omega]
  simp only [go_sem,ya,ym,GA,H2,show ((j+1:Nat):Int)-1=(j:Int) by omega,show (0:Int)<=(j:Int) by omega,show (j:Int)+(n:Int)=((j+n:Nat):Int) from rfl,wrapN (n:=j+n) (by omega),show ((j+n:Nat):Int)+1=((j+n+1:Nat):Int) from rfl,wrapN (n:=j+n+1) (by omega),kF,df,agV,e1,cP 1 0 (show j<m by omega),yh,aU];refine ⟨_,j,rfl,by omega,j,pre++x'++post,qs.set j (bv 18446744073709551616 x/bv 18446744073709551616 vs),?_,rfl,by omega,by rw [nN,lp,XZ,fH,xK];omega,by simp [lq],J0.2 ⟨J0.2 ⟨Wo,Oa⟩,ayw⟩,kW gq M2,fun i hi=>by rw [nM (by omega)];exact hz i (by omega),?_,?_⟩
  ·rw [wrap64 (by omega) (by omega)];simp only [go_sem,ya,yd,aB,aO hw.pu,aV _ hw.pu]<;>rfl
  ·rw [Wp,Jg,bf];exact ig
  ·rw [xx,List.drop_left' lp,pY,hp0,xp,yV,Jg];exact kG
def ayx {l:List Nat} {n:Nat} (h:l.length=n+1):18446744073709551616^n*l.getD n 0<=bv 18446744073709551616 l:=by
 have:=iH (b:=18446744073709551616) (l:=l) n
 grind
def mP {m K:Nat} {l:List Nat} (hn:fT l) (hv:bv 18446744073709551616 l=m) (h:m<18446744073709551616^K):l.length<=K:=anD (b:=18446744073709551616) (by decide) hn (by rw [hv];exact h)
def awp (h:Wd P L) {v w:AV} {x:List Nat} {d:Nat} (hv:bM v x) (hw:bM w [d]) (gx:lo 18446744073709551616 x) (lx:x.length<=90000000000) (fU:0<d) (XX:d<18446744073709551616) (ec:ai P L 158 [v,w] (ab (dA (bv 18446744073709551616 x) d))) (hc:d<=bv 18446744073709551616 x):
  ∃q r,ai P L 137 [v,w] (.aa [q,r])/\WN q (bv 18446744073709551616 x/d)/\WN r (bv 18446744073709551616 x%d):=by
 have dP:¬dA (bv 18446744073709551616 x) d<0:=by unfold dA;rw [yv (by omega)];split<;>decide
 obtain ⟨n,hn⟩:∃n,n=x.length:=⟨_,rfl⟩;have main:∃r l,(∀c:Nat->AV->AV->Option AV,True)/\r<d/\l.length=n/\lo 18446744073709551616 l/\bv 18446744073709551616 x=bv 18446744073709551616 l*d+r/\
   ∃q1 r1,bM q1 (dE l)/\bM r1 (dE [r])/\ai P L 137 [v,w] (.aa [q1,r1]):=by
  unfold ai;rw [aF h.Wm]
  simp only [go_sem,ya,Hx,hv.len,hv.an,hw.len,hw.an,ec,dP,yO,yR,yh,show ((1:Nat):Int)=(1:Int) from rfl,<-hn,BZ (n:=n) _ (by omega)];generalize hq:D P L (.loop [0,1,6,7,8] Gz) _=q;obtain ⟨ex,s,rfl,tm,r,l,rfl,rfl,t6,t7,oy,a6,hr,aH⟩:=b6 hq (awm (P:=P) (L:=L) h hv gx (by omega) hw fU XX hn n) ⟨n,0,[],by
   rw [wrap64 (by omega) (by omega),xZ]
   simp only [go_sem,ya,yd,aB,aO hv.pu,aV _ hv.pu,aO hw.pu,aV _ hw.pu]<;>rfl,rfl,rfl,KM,fU,by rw [List.drop_eq_nil_of_le (by omega)];simp [bv]⟩
  have hf:=lO true l;rw [oy] at hf;obtain ⟨q1,e1,eZ⟩:=Af h.lz hf (by omega);obtain ⟨r1,e2,dK⟩:=Af h.lz (lO true [r]) (by simp);simp only [yO,yR,yh,xi,List.map_nil] at e2;refine ⟨r,l,fun _=>trivial,hr,oy,a6,aH,q1,r1,eZ,dK,?_⟩
  simp only [go_sem,ya,yd,yI,yA,ym,aB,t6,t7,Ae _ (n:=n) (l:=l) oy true,e1,eZ.shut,e2,dK.shut];exact Qi eZ dK _
 obtain ⟨r,l,_,hr,oy,a6,aH,q1,r1,eZ,dK,e⟩:=main;have hq:bv 18446744073709551616 l=bv 18446744073709551616 x/d:=by
  rw [aH,xg,tx fU,xD hr,yV]
 have hm:r=bv 18446744073709551616 x%d:=by
  rw [aH,xg,yat,yF hr]
 exact ⟨q1,r1,e,⟨_,eZ,zq a6,zp _,by rw [zo,hq]⟩,⟨_,dK,zq (C9.2 (by omega)),zp _,by rw [zo,zI,hm]⟩⟩
def awq (h:Wd P L) {v w:AV} {x y:List Nat} (hv:bM v x) (hw:bM w y) (gx:lo 18446744073709551616 x) (gy:lo 18446744073709551616 y) (nx:fT x) (ny:fT y) (lx:x.length<=90000000000) (ly:2<=y.length) (ec:ai P L 158 [v,w] (ab (dA (bv 18446744073709551616 x) (bv 18446744073709551616 y)))) (hc:bv 18446744073709551616 y<=bv 18446744073709551616 x):
  ∃q r,ai P L 137 [v,w] (.aa [q,r])/\WN q (bv 18446744073709551616 x/bv 18446744073709551616 y)/\WN r (bv 18446744073709551616 x%bv 18446744073709551616 y):=by
 have da:(0:Nat)<18446744073709551616:=by decide
 have dP:¬dA (bv 18446744073709551616 x) (bv 18446744073709551616 y)<0:=by unfold dA;rw [yv (by omega)];split<;>decide
 have hyx:y.length<=x.length:=by
  by_cases hh:x.length<y.length
  ·have:=Kw (b:=18446744073709551616) (by decide) gx ny hh;omega
  ·omega
 obtain ⟨n,hn⟩:∃n,n=y.length:=⟨_,rfl⟩;obtain ⟨la,Jf⟩:∃la,la=x.length:=⟨_,rfl⟩;have mF:=Kf ny (fun e=>by subst e;simp at ly);have AG:=fY da gy (y.length-1);have X1:=hw.cd (i:=y.length-1) (by omega);have iv:=ayx (l:=y) (n:=n-1) (by omega);rw [<-hn] at mF AG X1;obtain ⟨top,mO⟩:∃top,y.getD (n-1) 0=top:=⟨_,rfl⟩;rw [mO] at mF AG X1 iv;have elz:=afC (P:=P) (f:=D P L) h.Ij AG;obtain ⟨z1,z2,z3⟩:=Px (uJ mF) AG;generalize 64-dG 64 top=s at*
 obtain ⟨ov,ev,lov,gov,vov⟩:=aiL h.aiQ hw gy (by omega) z1;obtain ⟨ou,eu,lou,gou,vou⟩:=aiL h.aiQ hv gx (by omega) z1;obtain ⟨v',X2,ek⟩:=Af h.lz (lO true ov) (by omega);rw [lov,<-hn] at X2;rw [<-hn] at ev;rw [<-Jf] at eu lou;have iy:=Nat.two_pow_pos s;obtain ⟨vs,sK⟩:∃vs,vs=dE ov:=⟨_,rfl⟩;rw [<-sK] at ek;have Cu:lo 18446744073709551616 vs:=by rw [sK];exact zq gov
 have Jh:fT vs:=by rw [sK];exact zp _
 have ru:bv 18446744073709551616 vs=bv 18446744073709551616 y*2^s:=by rw [sK,zo,vov]
 have hyW:bv 18446744073709551616 y*2^s<18446744073709551616^n:=by
  have e:18446744073709551616=2^(64-s)*2^s:=by rw [<-xn,show 64-s+s=64 by omega]
  have e1:=iH (b:=18446744073709551616) (l:=y) (n-1);rw [show n-1+1=n by omega,yQ (by omega),mO] at e1;have e2:=kZ (zA gy (n-1));rw [yW,Nat.min_eq_left (by omega)] at e2;have e3:top<2^(64-s):=Nat.lt_of_mul_lt_mul_right (a:=2^s) (Nat.lt_of_lt_of_eq z3 e);have e4:=yU (2^s) (show top+1<=2^(64-s) from e3);rw [<-e] at e4;have e5:bv 18446744073709551616 y<18446744073709551616^(n-1)*(top+1):=by rw [xr,ym];omega
  have e6:=xQ e5 iy;rw [xd] at e6;have e7:=yS (18446744073709551616^(n-1)) e4;rw [<-yZ,show (n-1).succ=n by omega] at e7;exact yE e6 e7
 have azP:18446744073709551616^(n-1)*2^s<=bv 18446744073709551616 vs:=by
  rw [ru];refine yU _ (xb ?_ iv)
  have:=yS (18446744073709551616^(n-1)) (show 1<=top by omega)
  omega
 have sZ:vs.length=n:=by
  have h1:vs.length<=n:=by
   refine mP Jh ru ?_;exact hyW
  have h2:¬vs.length<n:=fun hh=>by
   have e1:=kZ Cu;have e2:18446744073709551616^vs.length<=18446744073709551616^(n-1):=yT da (by omega);have e3:=yU (2^s) iv;rw [xd,<-ru] at e3;have e4:=yS (18446744073709551616^(n-1)) (show 1<=top*2^s by omega);omega
  omega
 have eC:0<vs.getD (n-1) 0:=by
  have:=Kf Jh (fun e=>by rw [e] at sZ;simp at sZ;omega)
  rw [sZ] at this;exact uJ this
 obtain ⟨m,hm⟩:∃m,m=la-n+1:=⟨_,rfl⟩;have QR:bv 18446744073709551616 (ou.drop m)<bv 18446744073709551616 vs:=by
  have e1:=F9 (b:=18446744073709551616) ou m (by omega);have e2:=kZ gx;rw [<-Jf] at e2;have e3:=xQ e2 iy;rw [<-vou] at e3;have e4:18446744073709551616^la=18446744073709551616^m*18446744073709551616^(n-1):=by rw [<-xn];congr 1;omega
  rw [e4,xd] at e3;have e5:18446744073709551616^m*bv 18446744073709551616 (ou.drop m)<18446744073709551616^m*(18446744073709551616^(n-1)*2^s):=by omega
  exact yE (Nat.lt_of_mul_lt_mul_left e5) azP
 have e1y:(y.length:Int)-1=((n-1:Nat):Int):=by omega
 have azQ:((la:Nat):Int)-(n:Int)=((m-1:Nat):Int):=by omega
 have ij:∃tm us qs rs,(us.length=la+1/\qs.length=m/\lo 18446744073709551616 us/\lo 18446744073709551616 qs/\bv 18446744073709551616 us+bv 18446744073709551616 qs*bv 18446744073709551616 vs=bv 18446744073709551616 x*2^s/\bv 18446744073709551616 us<bv 18446744073709551616 vs/\
   rs.length=n/\lo 18446744073709551616 rs/\bv 18446744073709551616 rs*2^s+us.getD 0 0%2^s=bv 18446744073709551616 (us.take n)+18446744073709551616^n*(us.getD n 0%2^s))/\aj tm 0=v/\
   ∃q1 r1,bM q1 (dE qs)/\bM r1 (dE rs)/\ai P L 137 [v,w] (.aa [q1,r1]):=by
  unfold ai at ec ev eu X2;unfold ai;rw [aF h.Wm];have hfo:=Ae (n:=n+1) (l:=ov) (hp:=[]) (by omega) true
  simp only [go_sem,ya,yd,Hx,hv.len,hv.an,hw.len,hw.an,ec,dP,show ¬(y.length:Int)=1 by omega,e1y,wrapN (n:=n-1) (by omega),X1,elz,ev,ayv,Ae _ (n:=n+1) (l:=ov) (by omega) true,X2,ek.len,ek.shut,eu,sZ,<-Jf,azQ,wrapN (n:=m-1) (by omega),show ((m-1:Nat):Int)+1=(m:Int) by omega,wrapN (n:=m) (by omega),BZ (n:=m) _ (by omega)];generalize lH:D P L (.loop [9,10,11,12,13,14] GA) _=qq;obtain ⟨ex,st,rfl,tm,us,qs,rfl,rfl,t9,t11,t12,t13,Ob,Oc,EB,X3,aH,aG⟩:=b6 lH (awo (P:=P) (L:=L) h ek Cu sZ (by omega) (by omega) (by omega) hm eC (s:=s) (U0:=bv 18446744073709551616 x*2^s) m) ⟨m,ou,List.replicate m 0,by
   rw [show ((m-1:Nat):Int)=(m:Int)-1 by omega]
   simp only [go_sem,ya,yd,aB,aO ek.pu,aV _ ek.pu]<;>rfl,rfl,yB _,lou,by simp,gou,Da da m,fun i _=>A8 m i,by rw [Db,Nat.zero_mul,yV,vou],QR⟩
  simp only [go_sem,ya,yd,aB,t9,t11,t12,t13];generalize B1:D P L (.loop [9,11,12,13,96,97] C0) _=XT;obtain ⟨ex,st,rfl,qP,rs,rfl,rfl,t11,t12,t13,X4,X5,M3⟩:=b6 B1 (awn (P:=P) (L:=L) (qs:=qs) (m:=m) (la:=la+1) (n:=n) z1 Ob EB (by omega) (by omega) n) ⟨0,[],by simp only [go_sem,ya,yd,aB]<;>rfl,by omega,rfl,KM,by simp [bv]⟩
  have kF:∀(hp:Hp) tm (y:X),aA hp 0=some (.cells true true true 1 ((rs++us.drop n).map uc))->cM tm (la+1) (some y)=some n->eV hp (.sl 1) (.aE 0 0 (la+1)) tm none (some y)=some (.aE 0 0 n):=fun hp tm y h1 h2=>aa9 h1 h2 (by omega) (by omega)
  have Ji:=lO true qs;rw [Oc] at Ji;obtain ⟨q1,f1,eZ⟩:=Af h.lz Ji (by omega);have dY:(rs++us.drop n).take n=rs:=by rw [List.take_append_of_le_length (by omega),yQ (by omega)]
  have Jj:∃e,∀hp:Hp,kE 0 n (some (true,1,(rs++us.drop n).map uc,hp))=some (.aC e n (rs.map uc),hp):=by
   refine ⟨true&&yK 0 1&&yq n ((rs++us.drop n).map uc).length,fun hp=>?_⟩;simp only [kE,yh,ym,slice,yu,<-List.map_take,dY];rw [yt (by simp;omega)];rfl
  obtain ⟨e,Jj⟩:=Jj;have iB:=lO e rs;rw [X4] at iB;obtain ⟨r1,f2,dK⟩:=Af h.lz iB (by omega);unfold ai at f1 f2;refine ⟨[(0,v)],us,qs,rs,⟨Ob,Oc,EB,X3,aH,aG,X4,X5,M3⟩,rfl,q1,r1,eZ,dK,?_⟩
  simp only [go_sem,ya,yd,aB,t11,t12,t13,Ae _ (n:=m) (l:=qs) Oc true,f1,eZ.shut,kF,df,Jj,f2,dK.shut];exact Qi eZ dK _
 obtain ⟨tm,us,qs,rs,⟨Ob,Oc,EB,X3,aH,aG,X4,X5,M3⟩,_,q1,r1,eZ,dK,e⟩:=ij;have fm:0<bv 18446744073709551616 y:=by
  have:=yS (18446744073709551616^(n-1)) (show 1<=top by omega)
  have:=yal (n:=n-1) da
  omega
 rw [ru] at aH aG;have Ik:bv 18446744073709551616 qs=bv 18446744073709551616 x/bv 18446744073709551616 y:=by
  rw [<-Nat.mul_div_mul_right _ _ iy,<-aH,ybj,xg,tx (Nat.mul_pos fm iy),xD aG,yV]
 have Od:bv 18446744073709551616 us=(bv 18446744073709551616 x%bv 18446744073709551616 y)*2^s:=by
  rw [<-Nat.mul_mod_mul_right,<-aH,ybj,xg (bv _ qs),yat,yF aG]
 have jn:=F9 (b:=18446744073709551616) us n (by omega);have fU:bv 18446744073709551616 (us.drop n)=0:=by
  rcases xe (bv 18446744073709551616 (us.drop n)) with h0 | h0
  ·exact h0
  ·have:=yS (18446744073709551616^n) h0
   omega
 have hun:us.getD n 0=0:=by
  have:=KB (b:=18446744073709551616) (l:=us) (i:=n) (by omega)
  omega
 rw [fU,xp,yV] at jn;have AA:us.getD 0 0%2^s=0:=by
  have e1:=KB (b:=18446744073709551616) (l:=us) (i:=0) (by omega);rw [yu,Od] at e1;have e2:18446744073709551616=2^s*2^(64-s):=by rw [<-xn,show s+(64-s)=64 by omega]
  have e3:(us.getD 0 0+18446744073709551616*bv 18446744073709551616 (us.drop (0+1)))%2^s=us.getD 0 0%2^s:=by
   conv=>lhs;rw [e2,xd]
   exact Nat.add_mul_mod_self_left _ _ _
  rw [<-e3,<-e1,Nat.mul_mod_left]
 rw [hun,AA,Nat.zero_mod,xp,yV,yV,<-jn,Od] at M3;have agW:bv 18446744073709551616 rs=bv 18446744073709551616 x%bv 18446744073709551616 y:=Nat.eq_of_mul_eq_mul_right iy M3;exact ⟨q1,r1,e,⟨_,eZ,zq X3,zp _,by rw [zo,Ik]⟩,⟨_,dK,zq X5,zp _,by rw [zo,agW]⟩⟩
def aiT (h:Wd P L) {v w:AV} {a b K:Nat} (hv:WN v a) (hw:WN w b) (hb:0<b) (ha:a<18446744073709551616^K) (hbK:b<18446744073709551616^K) (hK:K<=90000000000):
  ∃q r,ai P L 137 [v,w] (.aa [q,r])/\WN q (a/b)/\WN r (a%b):=by
 obtain ⟨x,EC,gx,nx,vx⟩:=hv;obtain ⟨y,Oe,gy,ny,vy⟩:=hw;have lx:x.length<=90000000000:=xb (mP nx vx ha) hK;have ly:y.length<=90000000000:=xb (mP ny vy hbK) hK;have ec:=aiG h.aiR EC Oe gx gy nx ny (by omega) (by omega);subst vx;subst vy;by_cases hc:bv 18446744073709551616 x<bv 18446744073709551616 y
 ·have dP:dA (bv 18446744073709551616 x) (bv 18446744073709551616 y)= -1:=by unfold dA;rw [yG hc]
  rw [dP] at ec;refine ⟨.ae,v,?_,⟨[],oW,KM,rfl,by rw [xD hc];rfl⟩,⟨x,EC,gx,nx,by rw [yF hc]⟩⟩
  unfold ai;rw [aF h.Wm];simp only [go_sem,ya,Hx,EC.an,Oe.an,ec,show (-1:Int)<0 by decide];exact Qi oW EC _
 ·rcases (show y.length=0\/y.length=1\/2<=y.length by omega) with h0 | h1 | h2
  ·rw [yD h0] at hb;simp [bv] at hb
  ·obtain ⟨d,rfl⟩:∃d,y=[d]:=by
    cases y with
    | nil=>simp at h1
    | cons d r=>cases r with
     | nil=>exact ⟨d,rfl⟩
     | cons e r=>simp at h1
   exact awp h EC Oe gx lx hb (C9.1 gy) ec (by omega)
  ·exact awq h EC Oe gx gy nx ny lx h2 ec (by omega)
end
def gW (v:AV) (n:Int):Prop:=∃w l,v= .agg [.bool (decide (n<0)),w]/\bn w l/\dg l/\nz l/\dv l=n.natAbs
def gB {l:List Int} {k:Nat} (hd:dg l) (hn:nz l) (h:dv l<1000000000^k):l.length<=k:=by
 by_cases h0:l=[]
 ·grind
 ·have h1:=K9 hn hd h0;have h2:1000000000^(l.length-1)<1000000000^k:=xB h1 h;have h3:=(Nat.pow_lt_pow_iff_right (show 1<1000000000 by decide)).1 h2;omega
def er {hp:Hp} {ct id:Nat} {a b x y:AV} (h1:dV a=true) (h2:dV b=true) (p1:bh a=true) (p2:bh b=true):
  jT hp ct id 0 2 [a,b] (some (.cells true true true 2 [x,y]))=some (.aa [],bf hp id (.cells true true true 2 [a,b]),ct):=by
 rw [Lc (by rfl) (by simp) (by simp [cF,h1,h2])];simp [aI,p1,p2,over]
section
variable {P:aK} {L:Lib}
def bX (neg:Bool) (m:Nat):Int:=if neg=true then -(m:Int) else m
def mQ (h:Has P L 294 zY) (cp:Has P L 300 kC) (neg:Bool) {v:AV} {l:List Int} (hv:bn v l) (hd:dg l) (hl:l.length<=20000000000):
  ∃r,ai P L 294 [.bool neg,v] r/\gW r (bX neg (dv l)):=by
 obtain ⟨w,e1,hw,iC⟩:=Ad cp hv hl;have oK:=rF l;have AH:=CV l;have ml:=zn hd;have hc:(neg&&decide ((0:Int)<((dD l).length:Nat)))=decide (bX neg (dv l)<0):=by
  unfold bX
  cases neg with
  | false=>simp
  | true=>
   simp only [wK,xO];by_cases h0:dD l=[]
   ·rw [h0] at oK ⊢;simp only [dv] at oK;simp [<-oK]
   ·have h1:0<(dD l).length:=uv.2 h0;have h2:0<dv l:=by
     rw [<-oK];rcases xe (dv (dD l)) with h | h
     ·exact absurd (PK AH ml h) h0
     ·exact h
    rw [xa (by omega),xa (by omega)]
 refine ⟨.agg [.bool (decide (bX neg (dv l)<0)),w],?_,w,dD l,rfl,hw,ml,AH,?_⟩
 ·rw [<-hc];unfold ai at e1 ⊢;rw [aF h]
  cases neg with
  | false=>
   simp only [go_sem,ya,yd,yA,zY,aY,hv.an,e1,hw.pu,hw.shut,hw.one,hw.cells,er];rcases hw with ⟨rfl,_⟩ | ⟨e,rfl⟩<;>rfl
  | true=>
   simp only [go_sem,ya,yd,yA,zY,aY,hv.an,e1,hw.len,hw.pu,hw.shut,hw.one,hw.cells,er];rcases hw with ⟨rfl,_⟩ | ⟨e,rfl⟩<;>rfl
 ·rw [oK];unfold bX;split<;>omega
def aiU (h:Has P L 298 LX) (gk:Has P L 294 zY) (cp:Has P L 300 kC) {v:AV} {n:Int} {K:Nat} (hK:K<=20000000000) (hv:gW v n) (hn:n.natAbs<1000000000^K):∃r,ai P L 298 [v] r/\gW r (-n):=by
 obtain ⟨w,l,rfl,hw,hd,hz,oK⟩:=hv;obtain ⟨r,e1,hr⟩:=mQ gk cp (!decide (n<0)) hw hd (xb (gB hd hz (by rw [oK];exact hn)) hK)
 have e:bX (!decide (n<0)) (dv l)= -n:=by
  rw [oK];unfold bX;by_cases h0:n<0
  ·simp [h0];omega
  ·simp [h0];omega
 rw [e] at hr;obtain ⟨w2,l2,rfl,gm,fK,jf,sA⟩:=hr;refine ⟨_,?_,w2,l2,rfl,gm,fK,jf,sA⟩;unfold ai at e1 ⊢;rw [aF h];simp only [go_sem,ya,yd,LX,aY,hw.pu,hw.an,hw.one,gm.pu,gm.one,bI,yh,cx,e1,er,bt];rcases gm with ⟨rfl,_⟩ | ⟨e,rfl⟩<;>rfl
end
def cV (s:Int) (w:AV) (z:Int):Prop:=
 (w= .ae/\s=z/\-9223372036854775808<=z/\z<9223372036854775808)\/
 (∃e l,w= .aC e l.length (l.map uc)/\lo 18446744073709551616 l/\fT l/\bv 18446744073709551616 l=z.natAbs/\s=(if z<0 then -1 else 1)/\9223372036854775808<=z.natAbs)
def ck (v:AV) (z:Int):Prop:=∃s w,v= .agg [ab s,w]/\cV s w z
def Bd (k:Nat) (z:Int):Prop:=z.natAbs<2^k
def zJ (k:Nat):2^k<=18446744073709551616^k:=wU (by decide) k
def Bd.mono {k m:Nat} {z:Int} (h:Bd k z) (hk:k<=m):Bd m z:=yE h (yT (by decide) hk)
def Bd.neg {k:Nat} {z:Int} (h:Bd k z):Bd k (-z):=by unfold Bd at h ⊢;rwa [Int.natAbs_neg]
def Bd.add {k m:Nat} {a b:Int} (ha:Bd k a) (hb:Bd m b):Bd (max k m+1) (a+b):=by
 have h1:Bd (max k m) a:=ha.mono (by omega);have h2:Bd (max k m) b:=hb.mono (by omega);unfold Bd at h1 h2 ⊢
 grind
def Bd.mul {k m:Nat} {a b:Int} (ha:Bd k a) (hb:Bd m b):Bd (k+m) (a*b):=by
 unfold Bd at*
 rw [ybw,xn];exact tn ha hb
def Bd.le {k:Nat} {a b:Int} (hb:Bd k b) (h:a.natAbs<=b.natAbs):Bd k a:=xB h hb
def WN.pos {v:AV} {m:Nat} (h:WN v m) (h0:0<m):∃e l,v= .aC e l.length (l.map uc)/\l≠[]/\lo 18446744073709551616 l/\fT l/\bv 18446744073709551616 l=m:=by
 obtain ⟨l,hv,g,n,hb⟩:=h;have hl:l≠[]:=fun e=>by subst e;simp [bv] at hb;omega
 rcases hv with ⟨_,e⟩ | ⟨e,rfl⟩
 ·simp_all
 ·exact ⟨e,l,by simp,hl,g,n,hb⟩
def WN.aJ {v:AV} {m:Nat} (h:WN v m):∃l,bM v l/\lo 18446744073709551616 l/\fT l/\bv 18446744073709551616 l=m:=h
def mD (e:Bool) (n:Nat) (cs:List AV):ja .sl (.aC e n cs) .ae=some false:=rfl
def fO:ja .sl .ae .ae=some true:=rfl
def KC (hp:Hp) (ct id:Nat) (a:Int) (e:Bool) (n:Nat) (cs:List AV) (x y:AV):jT hp ct id 0 2 [.int .i64 a,.aC e n cs] (some (.cells true true true 2 [x,y]))=some (.aa [],bf hp id (.cells true true true 2 [.int .i64 a,.aC e n cs]),ct):=er rfl rfl rfl rfl
def p6 {tm:Env} {a x y:AV} {r:List (Nat×Nat×X)} (h:dV a=true):rV tm [x,y] 0 1 [a] r=fill tm [a,y] r:=PM (by simp) h
def cV.nG {z:Int} (h1: -9223372036854775808<=z) (h2:z<9223372036854775808):ck (.agg [ab z,.ae]) z:=⟨z,.ae,rfl,.inl ⟨rfl,rfl,h1,h2⟩⟩
def cV.bL {s:Int} {w:AV} {z:Int} (h:cV s w z):(s<0↔z<0)/\(s=0↔z=0)/\-9223372036854775808<=s/\s<9223372036854775808:=by
 rcases h with ⟨_,rfl,h1,h2⟩ | ⟨e,l,_,_,_,_,rfl,h1⟩
 ·grind
 ·grind
section
variable {P:aK} {L:Lib}
structure Nu (P:aK) (L:Lib):Prop extends Wd P L where
 azR:Has P L 117 LC
 azS:Has P L 142 LF
 Wq:Has P L 136 Hw
 Il:Has P L 145 se
 azT:Has P L 146 Rv
 Wr:Has P L 147 Hy
 aiV:Has P L 163 LJ
 azU:Has P L 118 BL
 aiW:Has P L 119 c119
 azV:Has P L 156 Ry
 M4:Has P L 100 lk
 Ws:Has P L 164 ll
 azW:Has P L 148 Rw
 azX:Has P L 130 Ru
def sB (h:Nu P L) {z:Int} (h1: -9223372036854775808<=z) (h2:z<9223372036854775808):ai P L 117 [ab z] (.agg [ab z,.ae])/\ck (.agg [ab z,.ae]) z:=⟨n117 h.azR z,cV.nG h1 h2⟩
def Wt (h:Nu P L) {n:Int} (h1: -9223372036854775808<=n) (h2:n<9223372036854775808):ai P L 142 [ab n] (uc n.natAbs):=by
 unfold ai;rw [aF h.azS];by_cases h0:n<0
 ·have e:IntKind.wrap .u64 (IntKind.wrap .i64 (0-n))=(n.natAbs:Int):=by
   by_cases hm:n= -9223372036854775808
   ·subst hm;rfl
   ·rw [wrap64 (by omega) (by omega),Ld];omega
  simp only [go_sem,ya,LF,h0,afy,e]
 ·have e:IntKind.wrap .u64 n=(n.natAbs:Int):=by rw [Ld];omega
  simp only [go_sem,ya,LF,h0,afy,e]
def sC (h:Nu P L) {s:Int} {w:AV} {z:Int} (hz:cV s w z):∃r,ai P L 136 [.agg [ab s,w]] (.aa [.bool (decide (z<0)),r])/\WN (bR r) z.natAbs:=by
 rcases hz with ⟨rfl,rfl,h1,h2⟩ | ⟨e,l,rfl,g,n,hb,hs,h1⟩
 ·by_cases h0:s=0
  ·subst h0;refine ⟨.ae,?_,[],oW,KM,rfl,rfl⟩;unfold ai;rw [aF h.Wq];simp only [go_sem,ya,yd,Hw,aY,bI,yh,cx,fO,GZ,ybX];rfl
  ·have e1:=Wt h h1 h2;refine ⟨.bE true 1 1 [uc s.natAbs],?_,[s.natAbs],lO true [s.natAbs],C9.2 (by omega),CK (by omega) [],zI _⟩;unfold ai;rw [aF h.Wq];simp only [go_sem,ya,yd,yA,ym,Hw,aY,bI,yh,cx,fO,GZ,h0,e1];rfl
 ·have sJ:decide (s<0)=decide (z<0):=by rw [hs];split<;>simp<;>omega
  refine ⟨.aC e l.length (l.map uc),?_,l,lO e l,g,n,hb⟩;unfold ai;rw [aF h.Wq];simp only [go_sem,ya,yd,Hw,aY,bI,yh,cx,mD,GZ,sJ];rfl
def aak {d:Nat} (h:d<=9223372036854775807):IntKind.wrap .i64 (d:Int)=d:=wrapN (by omega)
def B2 (h:Nu P L) (neg:Bool) {w:AV} {m K:Nat} (hw:WN w m) (hm:m<18446744073709551616^K) (hK:K<=90000000000):∃r,ai P L 145 [.bool neg,w] r/\ck r (bX neg m):=by
 obtain ⟨l,hu,g,n,hb⟩:=hw;have oy:l.length<=90000000000:=xb (mP n hb hm) hK;by_cases h0:l=[]
 ·subst h0
  have:m=0:=by rw [<-hb];rfl
  subst this;have e:bX neg 0=0:=by unfold bX;cases neg<;>rfl
  rw [e];refine ⟨.agg [ab 0,.ae],?_,cV.nG (by decide) (by decide)⟩;unfold ai;rw [aF h.Il];simp only [go_sem,ya,yd,se,aY,hu.len,yR,show (((0:Nat):Nat):Int)=0 from rfl,qd];rfl
 ·have iP:0<l.length:=uv.2 h0;by_cases h1:l.length=1/\l.getD 0 0<=9223372036854775807
  ·obtain ⟨h1,h2⟩:=h1;obtain ⟨d,rfl⟩:∃d,l=[d]:=by
    cases l with
    | nil=>simp at h1
    | cons d r=>cases r with
     | nil=>exact ⟨d,rfl⟩
     | cons e r=>simp at h1
   have h2:d<=9223372036854775807:=h2;rw [zI] at hb;subst hb;have ex:=hu.cd (i:=0) (by simp);rw [show ([d]:List Nat).getD 0 0=d from rfl] at ex;have hlen:∀hp,jo hp 1 w=some (.int .i64 1):=fun hp=>hu.len
   cases neg with
   | true=>
    refine ⟨.agg [ab (0-(d:Int)),.ae],?_,?_⟩
    ·unfold ai;rw [aF h.Il]
     simp only [go_sem,ya,yd,yA,se,aY,hlen,uC,ex,show (d:Int)<=9223372036854775807 by omega,KO,aak h2,wrap64 (n:=0-(d:Int)) (by omega) (by omega),qd];rfl
    ·have:bX true d=0-(d:Int):=by unfold bX;simp
     rw [this];exact cV.nG (by omega) (by omega)
   | false=>
    refine ⟨.agg [ab (d:Int),.ae],?_,?_⟩
    ·unfold ai;rw [aF h.Il];simp only [go_sem,ya,yd,yA,se,aY,hlen,uC,ex,show (d:Int)<=9223372036854775807 by omega,KO,aak h2,qd];rfl
    ·have:bX false d=(d:Int):=by unfold bX;simp
     rw [this];exact cV.nG (by omega) (by omega)
  ·have pR:9223372036854775808<=m:=by
    rw [<-hb];by_cases h2:l.length=1
    ·obtain ⟨d,rfl⟩:∃d,l=[d]:=by
      cases l with
      | nil=>simp at h2
      | cons d r=>cases r with
       | nil=>exact ⟨d,rfl⟩
       | cons e r=>simp at h2
     have:¬d<=9223372036854775807:=fun hd=>h1 ⟨h2,hd⟩
     rw [zI];omega
    ·have h3:=Qe (b:=18446744073709551616) (by decide) n h0;have h4:18446744073709551616^1<=18446744073709551616^(l.length-1):=yT (by decide) (by omega);rw [ycl] at h4;omega
   have cC:∃e,w= .aC e l.length (l.map uc):=by
    rcases hu with ⟨rfl,hh⟩ | ⟨e,rfl⟩
    ·simp at hh;exact absurd hh h0
    ·exact ⟨e,by simp⟩
   obtain ⟨e,rfl⟩:=cC;have ex:=hu.cd (i:=0) iP;have first:(decide ((l.length:Int)=1)=true/\¬((l.getD 0 0:Nat):Int)<=9223372036854775807)\/decide ((l.length:Int)=1)=false:=by
    by_cases h2:l.length=1
    ·left;refine ⟨by simp;omega,fun hd=>h1 ⟨h2,by omega⟩⟩
    ·right;simp;omega
   cases neg with
   | true=>
    refine ⟨.agg [ab (-1),.aC e l.length (l.map uc)],?_,-1,_,rfl,.inr ⟨e,l,rfl,g,n,by rw [hb];unfold bX;simp,by unfold bX;simp;omega,by unfold bX;simp;omega⟩⟩
    unfold ai;rw [aF h.Il];rcases first with ⟨f1,f2⟩ | f1
    ·simp only [go_sem,ya,yd,yA,se,aY,show ¬(l.length:Int)=0 by omega,f1,f2,ex,p6,KC];rfl
    ·simp only [go_sem,ya,yd,yA,se,aY,show ¬(l.length:Int)=0 by omega,f1,p6,KC];rfl
   | false=>
    refine ⟨.agg [ab 1,.aC e l.length (l.map uc)],?_,1,_,rfl,.inr ⟨e,l,rfl,g,n,by rw [hb];unfold bX;simp,by unfold bX;simp,by unfold bX;simp;omega⟩⟩
    unfold ai;rw [aF h.Il];rcases first with ⟨f1,f2⟩ | f1
    ·simp only [go_sem,ya,yd,yA,se,aY,show ¬(l.length:Int)=0 by omega,f1,f2,ex,p6,KC];rfl
    ·simp only [go_sem,ya,yd,yA,se,aY,show ¬(l.length:Int)=0 by omega,f1,p6,KC];rfl
end
def aS:VC->VC
 | .seq a _=>a
 | c=>c
def aqo {a b:Int} {x y:Nat} (ha:a.natAbs=x) (hb:b.natAbs=y) (h:decide (a<0)=decide (b<0)):bX (decide (a<0)) (x+y)=a+b:=by
 unfold bX
 grind
def aba {a b:Int} {m:Nat} (hm:m+b.natAbs=a.natAbs) (h:¬decide (a<0)=decide (b<0)):bX (decide (a<0)) m=a+b:=by
 unfold bX
 grind
def aqp {a:Int}:bX (!decide (a<0)) a.natAbs= -a:=by
 unfold bX
 grind
def abb {a b:Int}:bX (decide (a<0) !=decide (b<0)) (a.natAbs*b.natAbs)=a*b:=by
 unfold bX
 grind
def lc {s:Int} {w:AV} {l:List Nat} (h:bM w l) (hp:Hp):result hp (.agg [ab s,w])=some (.agg [ab s,w]):=by
 rcases h with ⟨rfl,_⟩ | ⟨e,rfl⟩<;>rfl
def cQ {s:Int} {w:AV} {l:List Nat} (h:bM w l) (hp:Hp) (ct id:Nat) (x y:AV):jT hp ct id 0 2 [.int .i64 s,w] (some (.cells true true true 2 [x,y]))=some (.aa [],bf hp id (.cells true true true 2 [.int .i64 s,w]),ct):=er rfl h.one rfl h.pu
def cV.aJ {s:Int} {w:AV} {z:Int} (h:cV s w z):∃l,bM w l:=by
 rcases h with ⟨rfl,_⟩ | ⟨e,l,rfl,_⟩
 ·exact ⟨[],oW⟩
 ·exact ⟨l,lO e l⟩
def agX (hp:Hp) (sz:Nat) (ag:Bool):AV->Option AV
 | .ptr id o=>N3 sz ag o (aA hp id)
 | .b7 cs=>il sz ag cs
 | _=>none
def dQ (tm:Env) (hp:Hp) (ct base i sz:Nat) (ag:Bool):results1 ⟨tm,hp,ct,base⟩ (.cell i sz ag)=agX hp sz ag (aj tm i):=by
 rfl
def dT (hp:Hp) (sz:Nat) (ag:Bool) (id o:Nat):agX hp sz ag (.ptr id o)=N3 sz ag o (aA hp id):=rfl
section
variable {P:aK} {L:Lib}
def D1 (h:Nu P L) {v:AV} {z:Int} (hv:ck v z):ai P L 146 [v] (ab (bL z)):=by
 obtain ⟨s,w,rfl,hn⟩:=hv;obtain ⟨l,hu⟩:=hn.aJ;have e:bL s=bL z:=by
  obtain ⟨h1,h2,_⟩:=hn.bL;unfold bL;by_cases h0:z<0
  ·rw [yG h0,yG (h1.2 h0)]
  ·by_cases h3:z=0
   ·rw [yv (fun h=>h0 (h1.1 h)),yG (h2.2 h3),yv h0,yG h3]
   ·rw [yv (fun h=>h0 (h1.1 h)),yv (fun h=>h3 (h2.1 h)),yv h0,yv h3]
 unfold ai;rw [aF h.azT];simp only [go_sem,ya,yd,Rv,aY,hu.pu,hu.one,bI,yh,afx,lQ,aa4,nE,awa,e]
def D2 (h:Nu P L) {v:AV} {z:Int} {K:Nat} (hv:ck v z) (hz:Bd K z) (hK:K<=90000000000):∃r,ai P L 147 [v] r/\ck r (-z):=by
 obtain ⟨s,w,rfl,hn⟩:=hv;obtain ⟨p,e1,hp⟩:=sC h hn;obtain ⟨lp,gQ,_⟩:=hp.aJ;obtain ⟨r,e2,hr⟩:=B2 h (!decide (z<0)) hp (yE hz (zJ K)) hK;rw [aqp] at hr;have bW:=hr;obtain ⟨s',w',rfl,ir⟩:=hr;obtain ⟨l',iD⟩:=ir.aJ;rcases hn with ⟨rfl,rfl,h1,h2⟩ | ⟨e,l0,rfl,g,n,hb,hs,h1⟩
 ·by_cases h0:s= -9223372036854775808
  ·refine ⟨_,?_,bW⟩;unfold ai;rw [aF h.Wr];simp only [go_sem,ya,yd,Hy,aY,bI,yh,cx,fO,dM,h0];rw [h0] at e1 e2;simp only [go_sem,ya,cf,b5,e1,e2,gQ.an,bt,dQ,dT,cf,yu,lc iD,cQ iD]
  ·refine ⟨.agg [ab (-s),.ae],?_,cV.nG (by omega) (by omega)⟩;unfold ai;rw [aF h.Wr]
   simp only [go_sem,ya,yd,Hy,aY,bI,yh,cx,fO,dM,h0,wrap64 (n:=0-s) (by omega) (by omega),qd,p6];rw [Int.zero_sub];rfl
 ·refine ⟨_,?_,bW⟩;unfold ai;rw [aF h.Wr];simp only [go_sem,ya,yd,Hy,aY,bI,yh,cx,mD,dM,cf,b5,e1,e2,gQ.an,bt,dQ,dT,cf,yu,lc iD,cQ iD]
def Wu (h:Nu P L) {v:AV} {z:Int} {K:Nat} (hv:ck v z) (hz:Bd K z) (hK:K<=90000000000):∃r,ai P L 163 [v] r/\ck r (z.natAbs:Nat):=by
 have ek:=hv;obtain ⟨s,w,rfl,hn⟩:=hv;obtain ⟨l,hu⟩:=hn.aJ;have oL:=hn.bL.1;by_cases h0:z<0
 ·obtain ⟨r,e1,hr⟩:=D2 h ek hz hK;rw [show -z=(z.natAbs:Int) by omega] at hr;have bW:=hr;obtain ⟨s',w',rfl,ir⟩:=hr;obtain ⟨l',iD⟩:=ir.aJ;refine ⟨_,?_,bW⟩;unfold ai;rw [aF h.aiV];simp only [go_sem,ya,yd,LJ,aY,hu.pu,hu.an,hu.one,bI,yh,oL.2 h0,cf,b5,e1,bt,dQ,dT,cf,yu,lc iD,cQ iD]
 ·rw [show ((z.natAbs:Nat):Int)=z by omega];refine ⟨_,?_,ek⟩;unfold ai;rw [aF h.aiV];simp only [go_sem,ya,yd,LJ,aY,hu.pu,hu.one,bI,yh,show ¬s<0 from fun h=>h0 (oL.1 h),cf,dQ,dT,cf,yu,lc hu,cQ hu]
def awr (h:Nu P L) {s1 s2:Int} {w1 w2:AV} {a b:Int} {K:Nat} (ha:cV s1 w1 a) (hb:cV s2 w2 b) (ka:Bd K a) (kb:Bd K b) (hK:K<=40000000000):
  ∃r,ck r (a+b)/\∀tm,aj tm 2= .ptr 0 0->aj tm 3= .ptr 1 0->aj tm 4= .ptr 2 0->cX [.cell 4 2 true] (D P L (aq (aq c119.body)) ⟨tm,[(2,.cells true true true 2 [.int .i64 0,.ae]),(1,.cells true true true 2 [ab s2,w2]),(0,.cells true true true 2 [ab s1,w1])],3,0⟩)=some r:=by
 obtain ⟨l1,u1⟩:=ha.aJ;obtain ⟨l2,u2⟩:=hb.aJ;obtain ⟨p,e1,hp⟩:=sC h ha;obtain ⟨q,e2,hq⟩:=sC h hb;obtain ⟨lp,gQ,gp,np,vp⟩:=hp.aJ;obtain ⟨lq,ns,gq,nq,vq⟩:=hq.aJ;have AI:=yE ka (zJ K);have ED:=yE kb (zJ K);have llp:lp.length<=40000000000:=xb (mP np vp AI) hK;have llq:lq.length<=40000000000:=xb (mP nq vq ED) hK;by_cases hs:decide (a<0)=decide (b<0)
 ·obtain ⟨o,mj,e3,ho,mi,no,vo⟩:=azz h.azJ h.lz h.fP gQ ns gp gq (by omega) (by omega);obtain ⟨r,e4,hr⟩:=B2 h (decide (a<0)) ⟨mj,ho,mi,no,vo⟩ (K:=K+1) (by rw [vp,vq,yZ];omega) (by omega);rw [aqo vp.symm vq.symm hs] at hr;have bW:=hr;obtain ⟨s',w',rfl,ir⟩:=hr;obtain ⟨l',iD⟩:=ir.aJ;refine ⟨_,bW,fun tm t2 t3 t4=>?_⟩;simp only [go_sem,ya,c119,aq,t2,t3,cf,b5,u1.an,u2.an,e1,e2,gQ.an,ns.an,dM,nV,hs,yaj];rw [hs] at e4;simp only [go_sem,ya,t4,e3,ho.an,ho.shut,e4,bt,dQ,dT,cf,yu,lc iD,cQ iD]
 ·have Jk:(decide (a<0)==decide (b<0))=false:=by simpa using hs
  have e3:=aiG h.aiR gQ ns gp gq np nq (by omega) (by omega);rw [vp,vq] at e3;by_cases hc:b.natAbs<=a.natAbs
  ·obtain ⟨o,mj,e4,ho,mi,no,vo⟩:=aiH h.aiS h.lz h.qH gQ ns gp gq nq (by omega) (by rw [vp,vq];exact hc)
   rw [vp,vq] at vo;obtain ⟨r,e5,hr⟩:=B2 h (decide (a<0)) ⟨mj,ho,mi,no,rfl⟩ (K:=K) (by omega) (by omega);rw [aba vo hs] at hr;have bW:=hr;obtain ⟨s',w',rfl,ir⟩:=hr;obtain ⟨l',iD⟩:=ir.aJ;have dP:(0:Int)<=dA a.natAbs b.natAbs:=by unfold dA;rw [yv (by omega)];split<;>decide
   refine ⟨_,bW,fun tm t2 t3 t4=>?_⟩;simp only [go_sem,ya,c119,aq,t2,t3,t4,cf,b5,u1.an,u2.an,e1,e2,gQ.an,ns.an,dM,nV,Jk,e3,dP,e4,ho.an,ho.shut,e5,bt,dQ,dT,cf,yu,lc iD,cQ iD]
  ·obtain ⟨o,mj,e4,ho,mi,no,vo⟩:=aiH h.aiS h.lz h.qH ns gQ gq gp np (by omega) (by rw [vp,vq];omega);rw [vp,vq] at vo;obtain ⟨r,e5,hr⟩:=B2 h (decide (b<0)) ⟨mj,ho,mi,no,rfl⟩ (K:=K) (by omega) (by omega);rw [aba vo (fun e=>hs e.symm),Int.add_comm] at hr;have bW:=hr;obtain ⟨s',w',rfl,ir⟩:=hr;obtain ⟨l',iD⟩:=ir.aJ;have dP:¬(0:Int)<=dA a.natAbs b.natAbs:=by unfold dA;rw [yG (by omega)];decide
   refine ⟨_,bW,fun tm t2 t3 t4=>?_⟩;simp only [go_sem,ya,c119,aq,t2,t3,t4,cf,b5,u1.an,u2.an,e1,e2,gQ.an,ns.an,dM,nV,Jk,e3,dP,e4,ho.an,ho.shut,e5,bt,dQ,dT,cf,yu,lc iD,cQ iD]
def Im (h:Nu P L) {v w:AV} {a b:Int} {K:Nat} (hv:ck v a) (hw:ck w b) (ka:Bd K a) (kb:Bd K b) (hK:K<=40000000000):∃r,ai P L 119 [v,w] r/\ck r (a+b):=by
 obtain ⟨s1,w1,rfl,h1⟩:=hv;obtain ⟨s2,w2,rfl,h2⟩:=hw;obtain ⟨l2,u2⟩:=h2.aJ;obtain ⟨r,hr,tail⟩:=awr h h1 h2 ka kb hK;have fin:∀tm,aj tm 2= .ptr 0 0->aj tm 3= .ptr 1 0->aj tm 4= .ptr 2 0->
   D P L (.seq (aS c119.body) (aS (aq c119.body))) ⟨[(0,.agg [ab s1,w1]),(1,.agg [ab s2,w2])],[],0,0⟩=some (.normal,⟨tm,[(2,.cells true true true 2 [.int .i64 0,.ae]),(1,.cells true true true 2 [ab s2,w2]),(0,.cells true true true 2 [ab s1,w1])],3,0⟩)->ai P L 119 [.agg [ab s1,w1],.agg [ab s2,w2]] r:=fun tm t2 t3 t4 e=>by
  unfold ai;rw [aF h.aiW];show cX [.cell 4 2 true] (D P L (.seq (aS c119.body) (.seq (aS (aq c119.body)) (aq (aq c119.body)))) ⟨[(0,.agg [ab s1,w1]),(1,.agg [ab s2,w2])],[],0,0⟩)=_
  have e2:D P L (.seq (aS c119.body) (.seq (aS (aq c119.body)) (aq (aq c119.body)))) ⟨[(0,.agg [ab s1,w1]),(1,.agg [ab s2,w2])],[],0,0⟩=kj P L (D P L (.seq (aS c119.body) (aS (aq c119.body))) ⟨[(0,.agg [ab s1,w1]),(1,.agg [ab s2,w2])],[],0,0⟩) (aq (aq c119.body)):=by
   rw [jq,jq]
   cases D P L (aS c119.body) ⟨[(0,.agg [ab s1,w1]),(1,.agg [ab s2,w2])],[],0,0⟩ with
   | none=>rfl
   | some q=>
    obtain ⟨ex,st⟩:=q
    cases ex with
    | normal=>rw [fp,fp,jq]
    | ret=>rfl
    | exit id=>rfl
  rw [e2,e,fp];exact tail tm t2 t3 t4
 rcases h1 with ⟨rfl,rfl,a1,a2⟩ | ⟨e,l,rfl,ga,na,va,sa,a1⟩
 ·rcases h2 with ⟨rfl,rfl,b1,b2⟩ | ⟨e,l,rfl,gb,nb,vb,sb,b1⟩
  ·by_cases gI: -9223372036854775808<=s1+s2/\s1+s2<9223372036854775808
   ·refine ⟨.agg [ab (s1+s2),.ae],?_,cV.nG gI.1 gI.2⟩;have e:decide (s1<s1+s2)=decide (0<s2):=by
     by_cases h:0<s2
     ·simp only [h,yo];exact xa (by omega)
     ·simp only [h,yr];exact yM (by omega)
    unfold ai;rw [aF h.aiW]
    simp only [go_sem,ya,yd,c119,aY,qd,fO,dM,nV,bI,yh,cx,wrap64 (n:=s1+s2) gI.1 gI.2,e,yaj,p6];rfl
   ·have e:(decide (s1<IntKind.wrap .i64 (s1+s2))==decide (0<s2))=false:=by
     have hw:(9223372036854775808<=s1+s2/\IntKind.wrap .i64 (s1+s2)=s1+s2-18446744073709551616)\/(s1+s2< -9223372036854775808/\IntKind.wrap .i64 (s1+s2)=s1+s2+18446744073709551616):=by
      simp only [IntKind.wrap,IntKind.bits,IntKind.signed,wK]
      split<;>rename_i h<;>simp at h<;>omega
     by_cases h0:0<s2
     ·rw [xa h0,yM (by omega)];rfl
     ·rw [yM h0,xa (by omega)];rfl
    refine ⟨r,fin _ ?_ ?_ ?_ (by simp only [go_sem,ya,yd,aS,aq,c119,aY,fO,dM,nV,bI,yh,cx,e]<;>rfl),hr⟩<;>simp only [go_sem,ya]
  ·refine ⟨r,fin _ ?_ ?_ ?_ (by simp only [go_sem,ya,yd,aS,aq,c119,aY,fO,mD,dM,bI,yh,cx]<;>rfl),hr⟩<;>simp only [go_sem,ya]
 ·refine ⟨r,fin _ ?_ ?_ ?_ (by simp only [go_sem,ya,yd,aS,aq,c119,aY,u2.pu,u2.one,mD,dM,bI,yh,cx]<;>rfl),hr⟩<;>simp only [go_sem,ya]
end
def A4 {P:aK} {L:Lib} (a b c:VC) (s:St):D P L (.seq a (.seq b c)) s=kj P L (D P L (.seq a b) s) c:=by
 rw [jq,jq]
 cases D P L a s with
 | none=>rfl
 | some q=>
  obtain ⟨ex,st⟩:=q
  cases ex with
  | normal=>rw [fp,fp,jq]
  | ret=>rfl
  | exit id=>rfl
def afF {s s':Int} {w w':AV} {l l':List Nat} (h:bM w l) (h':bM w' l') (hp:Hp):result hp (.aa [.agg [ab s,w],.agg [ab s',w']])=some (.aa [.agg [ab s,w],.agg [ab s',w']]):=by
 rcases h with ⟨rfl,_⟩ | ⟨e,rfl⟩<;>rcases h' with ⟨rfl,_⟩ | ⟨e',rfl⟩<;>rfl
def M5 (tm:Env) (hp:Hp) (ct:Nat) (rs:List (Nat×Bool×Nat)) (sz:Nat) (p:AV) (new:List AV):fQ:=match p with | .ptr id o=>bif mw tm id rs then jT hp ct id o sz new (aA hp id) else none | _=>none
def M6 (id:Nat):AV->Bool | .ptr j _=> !yq j id | .b7 _=>true | _=>false
def Qj {P:aK} {L:Lib} (f:cm) (tm:Env) (hp:Hp) (ct:Nat) (rs:List (Nat×Bool×Nat)) (sz:Nat) (x v:X):a7 P L f tm hp ct (.jw rs sz x v)=M5 tm hp ct rs sz (ay tm x) (cellsOf (ay tm v)):=by
 simp only [a7,M5]
 cases hx:ay tm x with
 | ptr id o=>
  rw [aa2,hx,agN]
 | _=>rfl
def Qk {tm:Env} {hp:Hp} {ct:Nat} {rs:List (Nat×Bool×Nat)} {sz id o:Nat} {new:List AV} (h:mw tm id rs=true):M5 tm hp ct rs sz (.ptr id o) new=jT hp ct id o sz new (aA hp id):=by
 simp only [M5,h,yz]
def PP (tm:Env) (id:Nat):mw tm id []=true:=(rfl)
def Py (tm:Env) (id sz x:Nat) (ag:Bool) (r:List (Nat×Bool×Nat)):mw tm id ((sz,ag,x)::r)=(M6 id (aj tm x)&&mw tm id r):=by
 simp only [mw,M6]
 grind
def Ql {id j o:Nat} (h:j≠id):M6 id (.ptr j o)=true:=by simp only [M6,gn h,yP]
section
variable {P:aK} {L:Lib}
def aiX (h:Nu P L) {v w:AV} {a b:Int} {K:Nat} (hv:ck v a) (hw:ck w b) (ka:Bd K a) (kb:Bd K b) (hK:K<=40000000000):∃r,ai P L 156 [v,w] r/\ck r (a-b):=by
 obtain ⟨n,e1,hn⟩:=D2 h hw kb (by omega);obtain ⟨r,e2,hr⟩:=Im h hv hn ka kb.neg hK;have bW:=hr;obtain ⟨s1,w1,rfl,h1⟩:=hv;obtain ⟨s2,w2,rfl,h2⟩:=hw;obtain ⟨s3,w3,rfl,h3⟩:=hn;obtain ⟨s4,w4,rfl,h4⟩:=hr;obtain ⟨l1,u1⟩:=h1.aJ;obtain ⟨l2,u2⟩:=h2.aJ;obtain ⟨l3,u3⟩:=h3.aJ;obtain ⟨l4,u4⟩:=h4.aJ;refine ⟨_,?_,bW⟩;unfold ai;rw [aF h.azV];simp only [go_sem,ya,yd,Ry,aY,u1.pu,u1.an,u1.one,u2.pu,u2.an,u2.one,u3.an,b5,e1,e2,bt,dQ,dT,cf,yu,lc u4,cQ u4]
def aiY (h:Nu P L) {v w:AV} {a b:Int} {K:Nat} (hv:ck v a) (hw:ck w b) (ka:Bd K a) (kb:Bd K b) (hK:K<=40000000000):ai P L 118 [v,w] (ab (bL (a-b))):=by
 obtain ⟨d,e1,hd⟩:=aiX h hv hw ka kb hK;have e2:=D1 h hd;obtain ⟨s1,w1,rfl,h1⟩:=hv;obtain ⟨s2,w2,rfl,h2⟩:=hw;obtain ⟨s3,w3,rfl,h3⟩:=hd;obtain ⟨l2,u2⟩:=h2.aJ;obtain ⟨l3,u3⟩:=h3.aJ;unfold ai;rw [aF h.azU];rcases h1 with ⟨rfl,rfl,a1,a2⟩ | ⟨e,l,rfl,ga,na,va,sa,a1⟩
 ·rcases h2 with ⟨rfl,rfl,b1,b2⟩ | ⟨e,l,rfl,gb,nb,vb,sb,b1⟩
  ·by_cases c1:s1<s2
   ·rw [show bL (s1-s2)= -1 by unfold bL;rw [yG (by omega)]];simp only [go_sem,ya,yd,BL,aY,fO,dM,bI,yh,cx,c1]
   ·by_cases c2:s2<s1
    ·rw [show bL (s1-s2)=1 by unfold bL;rw [yv (by omega),yv (by omega)]];simp only [go_sem,ya,yd,BL,aY,fO,dM,bI,yh,cx,c1,c2]
    ·rw [show bL (s1-s2)=0 by unfold bL;rw [yv (by omega),yG (by omega)]];simp only [go_sem,ya,yd,BL,aY,fO,dM,bI,yh,cx,c1,c2]
  ·simp only [go_sem,ya,yd,BL,aY,fO,mD,dM,bI,yh,cx,cf,b5,e1,e2,u3.an,bt]
 ·simp only [go_sem,ya,yd,BL,aY,u2.pu,u2.an,u2.one,mD,dM,bI,yh,cx,cf,b5,e1,e2,u3.an,bt]
def aws (h:Nu P L) {s1 s2:Int} {w1 w2:AV} {a b:Int} {K:Nat} (ha:cV s1 w1 a) (hb:cV s2 w2 b) (ka:Bd K a) (kb:Bd K b) (hK:K<=40000000000):
  ∃r,ck r (a*b)/\∀tm,aj tm 2= .ptr 0 0->aj tm 3= .ptr 1 0->aj tm 4= .ptr 2 0->cX [.cell 4 2 true] (D P L (aq (aq lk.body)) ⟨tm,[(2,.cells true true true 2 [.int .i64 0,.ae]),(1,.cells true true true 2 [ab s2,w2]),(0,.cells true true true 2 [ab s1,w1])],3,0⟩)=some r:=by
 obtain ⟨l1,u1⟩:=ha.aJ;obtain ⟨l2,u2⟩:=hb.aJ;obtain ⟨p,e1,hp⟩:=sC h ha;obtain ⟨q,e2,hq⟩:=sC h hb;obtain ⟨lp,gQ,gp,np,vp⟩:=hp.aJ;obtain ⟨lq,ns,gq,nq,vq⟩:=hq.aJ;have AI:=yE ka (zJ K);have ED:=yE kb (zJ K);have llp:lp.length<=40000000000:=xb (mP np vp AI) hK;have llq:lq.length<=40000000000:=xb (mP nq vq ED) hK;obtain ⟨o,mj,e3,ho,mi,no,vo⟩:=azC h.azK h.lz h.lA h.fP gQ ns gp gq (by omega) (by omega);obtain ⟨r,e4,hr⟩:=B2 h (decide (a<0) !=decide (b<0)) ⟨mj,ho,mi,no,vo⟩ (K:=K+K) (by rw [vp,vq,xn];exact tn AI ED) (by omega)
 rw [vp,vq,abb] at hr;have bW:=hr;obtain ⟨s',w',rfl,ir⟩:=hr;obtain ⟨l',iD⟩:=ir.aJ;refine ⟨_,bW,fun tm t2 t3 t4=>?_⟩;have qV:∀x y:Bool,Ib true (some (x==y))=some (.bool (x !=y)):=fun x y=>by cases x<;>cases y<;>rfl
 simp only [go_sem,ya,lk,aq,t2,t3,t4,cf,b5,u1.an,u2.an,e1,e2,gQ.an,ns.an,nV,qV,e3,ho.an,ho.shut,e4,bt,dQ,dT,cf,yu,lc iD,cQ iD]
def aqq {a b:Int} {m:Nat} (h:a.natAbs*b.natAbs=m):a*b=if (decide (a<0)==decide (b<0))=true then (m:Int) else 0-(m:Int):=by
 have:=abb (a:=a) (b:=b)
 rw [h] at this;unfold bX at this
 cases hd:(decide (a<0)==decide (b<0)) with
 | true=>simp only [bne,hd,yN,yC,xj] at this;exact this.symm
 | false=>simp only [bne,hd,yP,xO] at this;rw [yv (by decide)];omega
def qJ (h:Nu P L) {v w:AV} {a b:Int} {K:Nat} (hv:ck v a) (hw:ck w b) (ka:Bd K a) (kb:Bd K b) (hK:K<=40000000000):∃r,ai P L 100 [v,w] r/\ck r (a*b):=by
 obtain ⟨s1,w1,rfl,h1⟩:=hv;obtain ⟨s2,w2,rfl,h2⟩:=hw;obtain ⟨l1,u1⟩:=h1.aJ;obtain ⟨l2,u2⟩:=h2.aJ;obtain ⟨r,hr,tail⟩:=aws h h1 h2 ka kb hK;have fin:∀tm,aj tm 2= .ptr 0 0->aj tm 3= .ptr 1 0->aj tm 4= .ptr 2 0->
   D P L (.seq (aS lk.body) (aS (aq lk.body))) ⟨[(0,.agg [ab s1,w1]),(1,.agg [ab s2,w2])],[],0,0⟩=some (.normal,⟨tm,[(2,.cells true true true 2 [.int .i64 0,.ae]),(1,.cells true true true 2 [ab s2,w2]),(0,.cells true true true 2 [ab s1,w1])],3,0⟩)->ai P L 100 [.agg [ab s1,w1],.agg [ab s2,w2]] r:=fun tm t2 t3 t4 e=>by
  unfold ai;rw [aF h.M4];show cX [.cell 4 2 true] (D P L (.seq (aS lk.body) (.seq (aS (aq lk.body)) (aq (aq lk.body)))) ⟨[(0,.agg [ab s1,w1]),(1,.agg [ab s2,w2])],[],0,0⟩)=_
  rw [A4,e,fp];exact tail tm t2 t3 t4
 rcases h1 with ⟨rfl,rfl,a1,a2⟩ | ⟨e,l,rfl,ga,na,va,sa,a1⟩
 ·rcases h2 with ⟨rfl,rfl,b1,b2⟩ | ⟨e,l,rfl,gb,nb,vb,sb,b1⟩
  ·have f1:=Wt h a1 a2;have f2:=Wt h b1 b2;have f3:=KQ (P:=P) (f:=D P L) h.lA (x:=s1.natAbs) (y:=s2.natAbs) (by omega) (by omega);obtain ⟨m,hm⟩:∃m,s1.natAbs*s2.natAbs=m:=⟨_,rfl⟩;rw [hm] at f3;have mZ:=aqq hm;by_cases gI:m<=9223372036854775807
   ·rw [xD (by omega),yF (by omega)] at f3;rw [show (uc 0)=AV.int .u64 0 from rfl] at f3;by_cases hs:(decide (s1<0)==decide (s2<0))=true
    ·rw [yG hs] at mZ;refine ⟨.agg [ab (m:Int),.ae],?_,by rw [mZ];exact cV.nG (by omega) (by omega)⟩
     unfold ai;rw [aF h.M4]
     simp only [go_sem,ya,yd,lk,aY,qd,fO,dM,GZ,nV,bI,yh,cx,f1,f2,f3,show (m:Int)<=9223372036854775807 by omega,hs,KO,wrap64 (n:=(m:Int)) (by omega) (by omega),p6];rfl
    ·rw [yv hs] at mZ;refine ⟨.agg [ab (0-(m:Int)),.ae],?_,by rw [mZ];exact cV.nG (by omega) (by omega)⟩
     unfold ai;rw [aF h.M4]
     simp only [go_sem,ya,yd,lk,aY,qd,fO,dM,GZ,nV,bI,yh,cx,f1,f2,f3,show (m:Int)<=9223372036854775807 by omega,hs,KO,wrap64 (n:=(m:Int)) (by omega) (by omega),wrap64 (n:=0-(m:Int)) (by omega) (by omega),p6];rfl
   ·by_cases oM:m/18446744073709551616=0
    ·rw [oM,yF (by omega)] at f3;rw [show (uc 0)=AV.int .u64 0 from rfl] at f3;refine ⟨r,fin _ ?_ ?_ ?_ (by simp only [go_sem,ya,yd,aS,aq,lk,aY,fO,dM,bI,yh,cx,f1,f2,f3,show ¬(m:Int)<=9223372036854775807 by omega]<;>rfl),hr⟩<;>simp only [go_sem,ya]
    ·obtain ⟨q,hq⟩:∃q,q=m/18446744073709551616:=⟨_,rfl⟩;rw [<-hq] at f3 oM;refine ⟨r,fin _ ?_ ?_ ?_ (by simp only [go_sem,ya,yd,aS,aq,lk,aY,fO,dM,bI,yh,cx,f1,f2,f3,show ¬(q:Int)=0 by omega]<;>rfl),hr⟩<;>simp only [go_sem,ya]
  ·refine ⟨r,fin _ ?_ ?_ ?_ (by simp only [go_sem,ya,yd,aS,aq,lk,aY,fO,mD,dM,bI,yh,cx]<;>rfl),hr⟩<;>simp only [go_sem,ya]
 ·refine ⟨r,fin _ ?_ ?_ ?_ (by simp only [go_sem,ya,yd,aS,aq,lk,aY,u2.pu,u2.one,mD,dM,bI,yh,cx]<;>rfl),hr⟩<;>simp only [go_sem,ya]
end
def aon {a b:Int} {q r:Nat} (hb:0<b) (h:q=a.natAbs/b.natAbs) (h2:r=a.natAbs%b.natAbs):
  (bX (decide (a<0)) r<0->a/b=bX (decide (a<0)) q-1/\a%b=bX (decide (a<0)) r+b)/\(¬bX (decide (a<0)) r<0->a/b=bX (decide (a<0)) q/\a%b=bX (decide (a<0)) r):=by
 have dZ:=xF a.natAbs b.natAbs;have aG:r<b.natAbs:=by rw [h2];exact xu _ (by omega)
 unfold bX;by_cases h0:a<0
 ·simp only [h0,yo,xO];constructor
  ·intro h3;refine (tD hb).2 ⟨?_,by omega,by omega⟩
   grind
  ·intro h3;refine (tD hb).2 ⟨?_,by omega,by omega⟩
   grind
 ·grind
section
variable {P:aK} {L:Lib}
def awt (h:Nu P L) {s1 s2:Int} {w1 w2:AV} {a b:Int} {K:Nat} (ha:cV s1 w1 a) (hb:cV s2 w2 b) (da:0<b) (ka:Bd K a) (kb:Bd K b) (hK:K<=30000000000):
  ∃q r,ck q (a/b)/\ck r (a%b)/\∀tm,aj tm 2= .ptr 0 0->aj tm 3= .ptr 1 0->aj tm 4= .ptr 2 0->aj tm 5= .ptr 3 0->cX [.cell 4 2 true,.cell 5 2 true] (D P L (aq (aq ll.body)) ⟨tm,[(3,.cells true true true 2 [.int .i64 0,.ae]),(2,.cells true true true 2 [.int .i64 0,.ae]),(1,.cells true true true 2 [ab s2,w2]),(0,.cells true true true 2 [ab s1,w1])],4,0⟩)=some (.aa [q,r]):=by
 obtain ⟨l1,u1⟩:=ha.aJ;obtain ⟨l2,u2⟩:=hb.aJ;obtain ⟨p,e1,hp⟩:=sC h ha;obtain ⟨q,e2,hq⟩:=sC h hb;have bC:ck (.agg [ab s2,w2]) b:=⟨s2,w2,rfl,hb⟩;obtain ⟨lp,gQ,_⟩:=hp.aJ;obtain ⟨lq,ns,_⟩:=hq.aJ;have AI:=yE ka (zJ K);have ED:=yE kb (zJ K);obtain ⟨dq,dr,e3,Cv,iz⟩:=aiT h.toWd hp hq (by omega) AI ED (by omega);obtain ⟨Jl,uq,_⟩:=Cv.aJ;obtain ⟨lr1,ur,_⟩:=iz.aJ;have hqk:a.natAbs/b.natAbs<18446744073709551616^K:=xB (wI _ _) AI;have hrk:a.natAbs%b.natAbs<18446744073709551616^K:=xB (ycy _ _) AI;have hqb:a.natAbs/b.natAbs<2^K:=xB (wI _ _) ka;have X6:a.natAbs%b.natAbs<2^K:=xB (ycy _ _) ka;obtain ⟨f1,f2⟩:=aon (a:=a) da rfl rfl;generalize a.natAbs/b.natAbs=Q at*
 generalize a.natAbs%b.natAbs=R at*
 obtain ⟨vq,e4,hvq⟩:=B2 h (decide (a<0)) Cv hqk (by omega);obtain ⟨vr,e5,I6⟩:=B2 h (decide (a<0)) iz hrk (by omega);have hsq:Bd K (bX (decide (a<0)) Q):=by unfold Bd bX;split<;>omega
 have hsr:Bd K (bX (decide (a<0)) R):=by unfold Bd bX;split<;>omega
 generalize bX (decide (a<0)) R=Rs at*
 have e6:=D1 h I6;have aiZ:=hvq;have ai0:=I6;obtain ⟨s3,w3,rfl,h3⟩:=hvq;obtain ⟨s4,w4,rfl,h4⟩:=I6;obtain ⟨l3,u3⟩:=h3.aJ;obtain ⟨l4,u4⟩:=h4.aJ;by_cases h0:Rs<0
 ·obtain ⟨g1,g2⟩:=f1 h0;have jP:Bd (K+1) 1:=Bd.mono (k:=1) (by unfold Bd;decide) (by omega)
  obtain ⟨o1,o2⟩:=sB h (z:=1) (by decide) (by decide);obtain ⟨vq2,e7,Wv⟩:=aiX h aiZ o2 (K:=K+1) (hsq.mono (by omega)) jP (by omega);obtain ⟨vr2,e8,Ww⟩:=Im h ai0 bC (K:=K+1) (hsr.mono (by omega)) (kb.mono (by omega)) (by omega);rw [<-g1] at Wv;rw [<-g2] at Ww;have kH:bL Rs<0:=by unfold bL;rw [yG h0];decide
  have k1:=Wv;have k2:=Ww;obtain ⟨s5,w5,rfl,h5⟩:=Wv;obtain ⟨s6,w6,rfl,h6⟩:=Ww;obtain ⟨l5,u5⟩:=h5.aJ;obtain ⟨l6,u6⟩:=h6.aJ;refine ⟨_,_,k1,k2,fun tm t2 t3 t4 t5=>?_⟩;simp only [go_sem,ya,yd,ll,aq,t2,t3,t4,t5,Qj,Qk,PP,Py,Ql,uz,aY,cf,b5,u1.an,u2.an,e1,e2,gQ.an,ns.an,e3,uq.an,uq.bR,ur.an,ur.bR,e4,e5,bt,dQ,dT,cf,yu,cQ u3,cQ u4,u3.an,u4.an,e6,kH,o1,e7,e8,dQ,dT,cf,yu,cQ u5,cQ u6,afF u5 u6]
 ·obtain ⟨g1,g2⟩:=f2 h0;have kH:¬bL Rs<0:=by unfold bL;rw [yv h0];split<;>decide
  refine ⟨_,_,by rw [g1];exact aiZ,by rw [g2];exact ai0,fun tm t2 t3 t4 t5=>?_⟩
  simp only [go_sem,ya,yd,ll,aq,t2,t3,t4,t5,Qj,Qk,PP,Py,Ql,uz,aY,cf,b5,u1.an,u2.an,e1,e2,gQ.an,ns.an,e3,uq.an,uq.bR,ur.an,ur.bR,e4,e5,bt,dQ,dT,cf,yu,cQ u3,cQ u4,u4.an,e6,kH,afF u3 u4]
def Wx (h:Nu P L) {v w:AV} {a b:Int} {K:Nat} (hv:ck v a) (hw:ck w b) (da:0<b) (ka:Bd K a) (kb:Bd K b) (hK:K<=30000000000):∃q r,ai P L 164 [v,w] (.aa [q,r])/\ck q (a/b)/\ck r (a%b):=by
 obtain ⟨s1,w1,rfl,h1⟩:=hv;obtain ⟨s2,w2,rfl,h2⟩:=hw;obtain ⟨l1,u1⟩:=h1.aJ;obtain ⟨l2,u2⟩:=h2.aJ;obtain ⟨q,r,hq,hr,tail⟩:=awt h h1 h2 da ka kb hK;have fin:∀tm,aj tm 2= .ptr 0 0->aj tm 3= .ptr 1 0->aj tm 4= .ptr 2 0->aj tm 5= .ptr 3 0->
   D P L (.seq (aS ll.body) (aS (aq ll.body))) ⟨[(0,.agg [ab s1,w1]),(1,.agg [ab s2,w2])],[],0,0⟩=some (.normal,⟨tm,[(3,.cells true true true 2 [.int .i64 0,.ae]),(2,.cells true true true 2 [.int .i64 0,.ae]),(1,.cells true true true 2 [ab s2,w2]),(0,.cells true true true 2 [ab s1,w1])],4,0⟩)->ai P L 164 [.agg [ab s1,w1],.agg [ab s2,w2]] (.aa [q,r]):=fun tm t2 t3 t4 t5 e=>by
  unfold ai;rw [aF h.Ws];show cX [.cell 4 2 true,.cell 5 2 true] (D P L (.seq (aS ll.body) (.seq (aS (aq ll.body)) (aq (aq ll.body)))) ⟨[(0,.agg [ab s1,w1]),(1,.agg [ab s2,w2])],[],0,0⟩)=_
  rw [A4,e,fp];exact tail tm t2 t3 t4 t5
 rcases h1 with ⟨rfl,rfl,a1,a2⟩ | ⟨e,l,rfl,ga,na,va,sa,a1⟩
 ·rcases h2 with ⟨rfl,rfl,b1,b2⟩ | ⟨e,l,rfl,gb,nb,vb,sb,b1⟩
  ·by_cases hm:s1= -9223372036854775808
   ·refine ⟨q,r,fin _ ?_ ?_ ?_ ?_ (by simp only [go_sem,ya,yd,aS,aq,ll,aY,fO,dM,bI,yh,cx,hm]<;>rfl),hq,hr⟩<;>simp only [go_sem,ya]
   ·obtain ⟨f1,f2⟩:=aod (a:=s1) da;have bH:s1.tdiv s2=0\/(s1.tdiv s2).natAbs<=s1.natAbs:= .inr (Int.natAbs_tdiv_le_natAbs s1 s2);have dK:=Int.tmod_lt_of_pos s1 da;have lE:=Int.lt_tmod_of_pos s1 da;by_cases h0:s1.tmod s2<0
    ·obtain ⟨g1,g2⟩:=f1 h0;rw [g1,g2];refine ⟨.agg [ab (s1.tdiv s2-1),.ae],.agg [ab (s1.tmod s2+s2),.ae],?_,cV.nG (by omega) (by omega),cV.nG (by omega) (by omega)⟩;unfold ai;rw [aF h.Ws]
     simp only [go_sem,ya,yd,ll,aY,qd,fO,dM,bI,yh,cx,hm,eH _ _ _ (show s2≠0 by omega),eP _ _ _ (show s2≠0 by omega),h0,wrap64 (n:=s1.tdiv s2) (by omega) (by omega),wrap64 (n:=s1.tdiv s2-1) (by omega) (by omega),wrap64 (n:=s1.tmod s2+s2) (by omega) (by omega),p6];rfl
    ·obtain ⟨g1,g2⟩:=f2 h0;rw [g1,g2];refine ⟨.agg [ab (s1.tdiv s2),.ae],.agg [ab (s1.tmod s2),.ae],?_,cV.nG (by omega) (by omega),cV.nG (by omega) (by omega)⟩;unfold ai;rw [aF h.Ws]
     simp only [go_sem,ya,yd,ll,aY,qd,fO,dM,bI,yh,cx,hm,eH _ _ _ (show s2≠0 by omega),eP _ _ _ (show s2≠0 by omega),h0,wrap64 (n:=s1.tdiv s2) (by omega) (by omega),p6];rfl
  ·refine ⟨q,r,fin _ ?_ ?_ ?_ ?_ (by simp only [go_sem,ya,yd,aS,aq,ll,aY,fO,mD,dM,bI,yh,cx]<;>rfl),hq,hr⟩<;>simp only [go_sem,ya]
 ·refine ⟨q,r,fin _ ?_ ?_ ?_ ?_ (by simp only [go_sem,ya,yd,aS,aq,ll,aY,u2.pu,u2.one,mD,dM,bI,yh,cx]<;>rfl),hq,hr⟩<;>simp only [go_sem,ya]
def ai1 (h:Nu P L) {v w:AV} {a b:Int} {K:Nat} (hv:ck v a) (hw:ck w b) (da:0<b) (ka:Bd K a) (kb:Bd K b) (hK:K<=30000000000):∃r,ai P L 148 [v,w] r/\ck r (a/b):=by
 have e1:=D1 h hw;obtain ⟨q,r,e2,hq,hr⟩:=Wx h hv hw da ka kb hK;have e3:bL b=1:=by unfold bL;rw [yv (by omega),yv (by omega)]
 rw [e3] at e1;have bH:=hq;obtain ⟨s1,w1,rfl,h1⟩:=hv;obtain ⟨s2,w2,rfl,h2⟩:=hw;obtain ⟨s3,w3,rfl,h3⟩:=hq;obtain ⟨s4,w4,rfl,h4⟩:=hr;obtain ⟨l1,u1⟩:=h1.aJ;obtain ⟨l2,u2⟩:=h2.aJ;obtain ⟨l3,u3⟩:=h3.aJ;obtain ⟨l4,u4⟩:=h4.aJ;refine ⟨_,?_,bH⟩;unfold ai;rw [aF h.azW];simp only [go_sem,ya,yd,Rw,ybX,yr,aY,u1.pu,u1.an,u1.one,u2.pu,u2.an,u2.one,yh,b5,e1,e2,pZ,dQ,dT,cf,yu,lc u3,cQ u3,cQ u4]
def awu (h:Nu P L) (G:Nat) {K:Nat} (hK:K<=30000000000) {o1 o2:AV}:
  ∀k s,(∃(x y:Nat) (s1 s2:Int) (w1 w2:AV),aQ [2,3,4] s=⟨[(2,.ptr 0 0),(3,.ptr 1 0),(4,.ptr 2 0)],[(2,.cells true true true 2 [o1,o2]),(1,.cells true true true 2 [ab s2,w2]),(0,.cells true true true 2 [ab s1,w1])],3,0⟩/\cV s1 w1 x/\cV s2 w2 y/\Bd K x/\Bd K y/\Nat.gcd x y=G/\y=k)->
   ∃ex s',D P L (.loop [2,3,4] Gy) s=some (ex,s')/\∃tm s1 w1 c1,s'=⟨tm,[(2,.cells true true true 2 [o1,o2]),(1,c1),(0,.cells true true true 2 [ab s1,w1])],3,0⟩/\ex= .exit 0/\aj tm 2= .ptr 0 0/\aj tm 4= .ptr 2 0/\cV s1 w1 G:=by
 intro dq sq;generalize bq:aQ [2,3,4] sq=s0;revert bq s0 sq dq;apply dh;rintro k s ⟨x,y,s1,s2,w1,w2,rfl,h1,h2,k1,k2,hG,rfl⟩;obtain ⟨l1,u1⟩:=h1.aJ;obtain ⟨l2,u2⟩:=h2.aJ;have i1:ck (.agg [ab s1,w1]) (x:Int):=⟨s1,w1,rfl,h1⟩;have i2:ck (.agg [ab s2,w2]) (y:Int):=⟨s2,w2,rfl,h2⟩;have e1:=D1 h i2;by_cases fm:y=0
 ·right
  subst fm;rw [show bL ((0:Nat):Int)=0 from rfl] at e1;simp only [go_sem,ya,Gy,yo,yN,cf,b5,u2.an,e1];obtain rfl:x=G:=by rw [<-hG,Nat.gcd_zero_right]
  exact ⟨_,_,rfl,by simp,_,s1,w1,_,rfl,rfl,by simp only [go_sem,ya],by simp only [go_sem,ya],h1⟩
 ·left
  have e3:bL (y:Int)=1:=by unfold bL;rw [yv (by omega),yv (by omega)]
  rw [e3] at e1;obtain ⟨q,r,e2,hq,hr⟩:=Wx h i1 i2 (by omega) k1 k2 hK;obtain ⟨s3,w3,rfl,h3⟩:=hq;obtain ⟨s4,w4,rfl,h4⟩:=hr;obtain ⟨l3,u3⟩:=h3.aJ;obtain ⟨l4,u4⟩:=h4.aJ;have aG:=xu x (show 0<y by omega);have kr:Bd K ((x%y:Nat):Int):=k2.le (by omega);simp only [go_sem,ya,yd,Gy,Qj,Qk,PP,Py,Ql,uz,uC,yr,yP,aY,cf,b5,u1.an,u2.an,e1,e2,pZ,cf,yu,cQ u2,cQ u3,cQ u4];refine ⟨_,x%y,rfl,aG,y,x%y,s2,s4,w2,w4,?_,h2,h4,k2,kr,by rw [<-hG];exact aqg x y fm,rfl⟩
  simp only [go_sem,ya,yd,aB]
def ai2 (h:Nu P L) {v w:AV} {a b:Int} {K:Nat} (hv:ck v a) (hw:ck w b) (ka:Bd K a) (kb:Bd K b) (hK:K<=30000000000):∃r,ai P L 130 [v,w] r/\ck r (wE a b:Nat):=by
 obtain ⟨va,e1,ha⟩:=Wu h hv ka (by omega);obtain ⟨vb,e2,hb⟩:=Wu h hw kb (by omega);obtain ⟨s1,w1,rfl,h1⟩:=hv;obtain ⟨s2,w2,rfl,h2⟩:=hw;obtain ⟨s3,w3,rfl,h3⟩:=ha;obtain ⟨s4,w4,rfl,h4⟩:=hb;obtain ⟨l1,u1⟩:=h1.aJ;obtain ⟨l2,u2⟩:=h2.aJ;obtain ⟨l3,u3⟩:=h3.aJ;obtain ⟨l4,u4⟩:=h4.aJ;have ij:∃s w,ai P L 130 [.agg [ab s1,w1],.agg [ab s2,w2]] (.agg [ab s,w])/\cV s w (wE a b:Nat):=by
  unfold ai;rw [aF h.azX];simp only [go_sem,ya,yd,Ru,aY,u1.pu,u1.an,u1.one,u2.pu,u2.an,u2.one,cf,b5,e1,e2,bt,cf,yu,cQ u3,cQ u4,yh];generalize hq:D P L (.loop [2,3,4] Gy) _=q;obtain ⟨ex,s,rfl,tm,s5,w5,c1,rfl,rfl,t2,t4,h5⟩:=b6 hq (awu (P:=P) (L:=L) h (wE a b) (K:=K) hK (o1:= .int .i64 0) (o2:= .ae) b.natAbs) ⟨a.natAbs,b.natAbs,s3,s4,w3,w4,by simp only [go_sem,ya,yd,aB],h3,h4,ka,kb,rfl,rfl⟩;obtain ⟨l5,u5⟩:=h5.aJ;refine ⟨s5,w5,?_,h5⟩;simp only [go_sem,ya,yd,aB,t2,t4,dQ,dT,cf,yu,lc u5,cQ u5]
 obtain ⟨s,w,e,hn⟩:=ij;exact ⟨_,e,s,w,rfl,hn⟩
end
def dC (v:AV) (r:Rat):Prop:=∃s1 w1 s2 w2,v= .agg [ab s1,w1,ab s2,w2]/\cV s1 w1 r.num/\cV s2 w2 (r.den:Int)
def Hq (k:Nat) (r:Rat):Prop:=Bd k r.num/\Bd k (r.den:Int)
def Ot {a b:Int} (hb:0<b):(wj a b).num=a/(wE a b:Nat)/\((wj a b).den:Int)=b/(wE a b:Nat):=by
 constructor
 ·rw [ybx,Int.sign_eq_one_of_pos hb,Int.one_mul,ybY]
 ·rw [yby,yv (by omega),ybY]
  grind
def Hq.divInt {k:Nat} {a b:Int} (hb:0<b) (ka:Bd k a) (kb:Bd k b):Hq k (wj a b):=by
 obtain ⟨h1,h2⟩:=Ot (a:=a) hb;refine ⟨ka.le ?_,kb.le ?_⟩
 ·rw [h1,uo (Int.gcd_dvd_left a b)];exact wI _ _
 ·rw [h2,uo (Int.gcd_dvd_right a b)];exact wI _ _
section
def zB {tm:Env} {a b x y z w:AV} {r:List (Nat×Nat×X)} (h1:dV a=true) (h2:dV b=true):rV tm [x,y,z,w] 0 2 [a,b] r=fill tm [a,b,z,w] r:=by
 rw [aew (by rfl) (by simp) (by simp [cF,h1,h2])];rfl
def zC {tm:Env} {a b x y z w:AV} {r:List (Nat×Nat×X)} (h1:dV a=true) (h2:dV b=true):rV tm [x,y,z,w] 2 2 [a,b] r=fill tm [x,y,a,b] r:=by
 rw [aew (by rfl) (by simp) (by simp [cF,h1,h2])];rfl
def js {s t:Int} {v w:AV} {l m:List Nat} (hv:bM v l) (hw:bM w m) (hp:Hp) (ct id:Nat) (a b x y:AV):jT hp ct id 0 4 [.int .i64 s,v,.int .i64 t,w] (some (.cells true true true 4 [a,b,x,y]))=some (.aa [],bf hp id (.cells true true true 4 [.int .i64 s,v,.int .i64 t,w]),ct):=by
 rw [Lc (by rfl) (by simp) (by simp [cF,hv.one,hw.one,aeu])];simp [aI,hv.pu,hw.pu,over,afv]
def jt {s t:Int} {v w:AV} {l m:List Nat} (hv:bM v l) (hw:bM w m) (hp:Hp):result hp (.agg [ab s,v,ab t,w])=some (.agg [ab s,v,ab t,w]):=by
 rcases hv with ⟨rfl,_⟩ | ⟨e,rfl⟩<;>rcases hw with ⟨rfl,_⟩ | ⟨e',rfl⟩<;>rfl
variable {P:aK} {L:Lib}
structure Fr' (P:aK) (L:Lib):Prop extends Nu P L where
 azY:Has P L 101 lW
 X7:Has P L 69 IX
 azZ:Has P L 111 Rr
 h98:Has P L 98 NN
 az0:Has P L 108 Ro
 az1:Has P L 102 Rk
 h74:Has P L 74 sQ
 X8:Has P L 50 Es
 nt:Has P L 49 c49
 h73:Has P L 73 Aw
 h70:Has P L 70 IY
 h71:Has P L 71 Cn
 az2:Has P L 149 Rx
def afG (h:Fr' P L) {s1 s2:Int} {w1 w2:AV} {a b:Int} {K:Nat} (h1:cV s1 w1 a) (h2:cV s2 w2 b) (da:0<b) (ka:Bd K a) (kb:Bd K b) (hK:K<=30000000000):
  ∃r,dC r (wj a b)/\∀tm,aj tm 2= .ptr 0 0->aj tm 3= .ptr 1 0->aj tm 4= .ptr 2 0->cX [.cell 4 4 true] (D P L (aq (aq lW.body)) ⟨tm,[(2,.cells true true true 4 [.int .i64 0,.ae,.int .i64 0,.ae]),(1,.cells true true true 2 [ab s2,w2]),(0,.cells true true true 2 [ab s1,w1])],3,0⟩)=some r:=by
 have hv:ck (.agg [ab s1,w1]) a:=⟨s1,w1,rfl,h1⟩;have hw:ck (.agg [ab s2,w2]) b:=⟨s2,w2,rfl,h2⟩;obtain ⟨p1,p2⟩:=Ot (a:=a) da;have hgp:=Ky (a:=a) da;have hgk:Bd K ((wE a b:Nat):Int):=kb.le (by
  have:=Int.gcd_le_natAbs_right a (show b≠0 by omega)
  omega)
 obtain ⟨g,e2,hg⟩:=ai2 h.toNu hv hw ka kb hK;obtain ⟨q1,e4,eZ⟩:=ai1 h.toNu hv hg hgp ka hgk hK;obtain ⟨q2,e5,rn⟩:=ai1 h.toNu hw hg hgp kb hgk hK;rw [<-p1] at eZ;rw [<-p2] at rn;obtain ⟨s3,w3,rfl,h3⟩:=hg;obtain ⟨s4,w4,rfl,h4⟩:=eZ;obtain ⟨s5,w5,rfl,h5⟩:=rn;obtain ⟨l1,u1⟩:=h1.aJ;obtain ⟨l2,u2⟩:=h2.aJ;obtain ⟨l3,u3⟩:=h3.aJ;obtain ⟨l4,u4⟩:=h4.aJ;obtain ⟨l5,u5⟩:=h5.aJ;by_cases ff:w2= .ae/\s2=1
 ·obtain ⟨rfl,rfl⟩:=ff;have jP:b=1:=by
   rcases h2 with ⟨_,h,_⟩ | ⟨_,_,h,_⟩
   ·exact h.symm
   ·cases h
  subst jP;rw [Int.gcd_one] at p1 p2;have p1:(wj a 1).num=a:=by rw [p1];exact Int.ediv_one a
  refine ⟨.agg [ab s1,w1,ab 1,.ae],⟨s1,w1,1,.ae,rfl,by rw [p1];exact h1,by rw [p2];exact h2⟩,fun tm t2 t3 t4=>?_⟩
  have un:=oW;simp only [go_sem,ya,lW,aq,t2,t3,t4,u1.one,cf,bI,yh,cx,fO,dM,zB,zC,js u1 un,dQ,dT,yu,dO,jt u1 un]
 ·refine ⟨.agg [ab s4,w4,ab s5,w5],⟨s4,w4,s5,w5,rfl,h4,h5⟩,fun tm t2 t3 t4=>?_⟩;rcases u2 with ⟨rfl,_⟩ | ⟨e,rfl⟩
  ·simp only [go_sem,ya,yd,lW,aq,t2,t3,t4,aY,u1.an,cf,b5,bI,yh,cx,fO,dM,show ¬s2=1 from fun e=>ff ⟨rfl,e⟩,e2,e4,e5,bt,dQ,dT,cf,yu,cQ u3,u3.an,u4.one,u5.one,zB,zC,js u4 u5,dO,jt u4 u5]
  ·simp only [go_sem,ya,yd,lW,aq,t2,t3,t4,aY,u1.an,cf,b5,bI,yh,cx,mD,dM,e2,e4,e5,bt,dQ,dT,cf,yu,cQ u3,u3.an,u4.one,u5.one,zB,zC,js u4 u5,dO,jt u4 u5]
def M7 (h:Fr' P L) {v w:AV} {a b:Int} {K:Nat} (hv:ck v a) (hw:ck w b) (da:b≠0) (ka:Bd K a) (kb:Bd K b) (hK:K<=30000000000):∃r,ai P L 101 [v,w] r/\dC r (wj a b):=by
 have e1:=D1 h.toNu hw;have ek:=hv;have X9:=hw;obtain ⟨s1,w1,rfl,h1⟩:=hv;obtain ⟨s2,w2,rfl,h2⟩:=hw;obtain ⟨l1,u1⟩:=h1.aJ;obtain ⟨l2,u2⟩:=h2.aJ;have fin:∀r t1 t2 v1 v2 tm,(∀tm,aj tm 2= .ptr 0 0->aj tm 3= .ptr 1 0->aj tm 4= .ptr 2 0->cX [.cell 4 4 true] (D P L (aq (aq lW.body)) ⟨tm,[(2,.cells true true true 4 [.int .i64 0,.ae,.int .i64 0,.ae]),(1,.cells true true true 2 [ab t2,v2]),(0,.cells true true true 2 [ab t1,v1])],3,0⟩)=some r)->aj tm 2= .ptr 0 0->aj tm 3= .ptr 1 0->aj tm 4= .ptr 2 0->
   D P L (.seq (aS lW.body) (aS (aq lW.body))) ⟨[(0,.agg [ab s1,w1]),(1,.agg [ab s2,w2])],[],0,0⟩=some (.normal,⟨tm,[(2,.cells true true true 4 [.int .i64 0,.ae,.int .i64 0,.ae]),(1,.cells true true true 2 [ab t2,v2]),(0,.cells true true true 2 [ab t1,v1])],3,0⟩)->ai P L 101 [.agg [ab s1,w1],.agg [ab s2,w2]] r:=fun r t1 t2 v1 v2 tm tail k2 k3 k4 e=>by
  unfold ai;rw [aF h.azY];show cX [.cell 4 4 true] (D P L (.seq (aS lW.body) (.seq (aS (aq lW.body)) (aq (aq lW.body)))) ⟨[(0,.agg [ab s1,w1]),(1,.agg [ab s2,w2])],[],0,0⟩)=_
  rw [A4,e,fp];exact tail tm k2 k3 k4
 by_cases hn:b<0
 ·obtain ⟨n1,e2,jz⟩:=D2 h.toNu ek ka (by omega);obtain ⟨n2,e3,cU⟩:=D2 h.toNu X9 kb (by omega);obtain ⟨s3,w3,rfl,h3⟩:=jz;obtain ⟨s4,w4,rfl,h4⟩:=cU;obtain ⟨l3,u3⟩:=h3.aJ;obtain ⟨l4,u4⟩:=h4.aJ;obtain ⟨r,hr,tail⟩:=afG h h3 h4 (by omega) ka.neg kb.neg hK;rw [Rat.neg_divInt_neg] at hr;have hs:bL b<0:=by unfold bL;rw [yG hn];decide
  refine ⟨r,fin r _ _ _ _ _ tail ?_ ?_ ?_ (by simp only [go_sem,ya,yd,lW,aS,aq,hs,aY,u1.pu,u1.an,u1.one,u2.pu,u2.an,u2.one,cf,b5,e1,e2,e3,bt,cQ u3,cQ u4]<;>rfl),hr⟩<;>simp only [go_sem,ya]
 ·obtain ⟨r,hr,tail⟩:=afG h h1 h2 (by omega) ka kb hK;have hs:¬bL b<0:=by unfold bL;rw [yv hn];split<;>decide
  refine ⟨r,fin r _ _ _ _ _ tail ?_ ?_ ?_ (by simp only [go_sem,ya,yd,lW,aS,aq,hs,aY,u1.pu,u1.one,u2.pu,u2.an,u2.one,cf,b5,e1]<;>rfl),hr⟩<;>simp only [go_sem,ya]
end
def Hq.mono {k m:Nat} {r:Rat} (h:Hq k r) (hk:k<=m):Hq m r:=⟨h.1.mono hk,h.2.mono hk⟩
def Hq.neg {k:Nat} {r:Rat} (h:Hq k r):Hq k (-r):=⟨h.1.neg,h.2⟩
def add_eq (a b:Rat):a+b=wj (a.num*b.den+b.num*a.den) ((a.den:Int)*b.den):=by
 rw [Rat.add_def',<-ybe,wG]
def mul_eq (a b:Rat):a*b=wj (a.num*b.num) ((a.den:Int)*b.den):=by
 rw [Rat.mul_def',<-ybe,wG]
def Kj (a:Rat):0<(a.den:Int):=by have:=a.den_pos;omega
def CF (a b:Rat):0<(a.den:Int)*b.den:=Int.mul_pos (Kj a) (Kj b)
def Bd.Wy {k:Nat} {a b:Int} (ha:Bd k a) (hb:Bd k b):Bd (k+1) (a+b):=by
 have:=ha.add hb
 grind
def Hq.add {k m:Nat} {a b:Rat} (ha:Hq k a) (hb:Hq m b):Hq (k+m+1) (a+b):=by
 rw [add_eq];refine Hq.divInt (CF a b) ?_ ((ha.2.mul hb.2).mono (by omega));exact (ha.1.mul hb.2).Wy ((hb.1.mul ha.2).mono (by omega))
def Hq.mul {k m:Nat} {a b:Rat} (ha:Hq k a) (hb:Hq m b):Hq (k+m) (a*b):=by
 rw [mul_eq];exact Hq.divInt (CF a b) (ha.1.mul hb.1) (ha.2.mul hb.2)
def Hq.sub {k m:Nat} {a b:Rat} (ha:Hq k a) (hb:Hq m b):Hq (k+m+1) (a-b):=by
 rw [yaM];exact ha.add hb.neg
def Hq.inv {k:Nat} {a:Rat} (ha:Hq k a):Hq k a⁻¹:=by
 have h1:(a⁻¹).num.natAbs<=a.den:=by
  rw [Rat.num_inv,ybw]
  grind
 refine ⟨ha.2.le (by simpa using h1),?_⟩;unfold Bd;rw [Rat.den_inv]
 split
 ·have h2:=ha.2;unfold Bd at h2
  simp_all
 ·exact ha.1
def n9 (a b:Rat):Int:=if a<b then -1 else if a=b then 0 else 1
def asz (a b:Rat):bL (a.num*b.den-b.num*a.den)=n9 a b:=by
 unfold bL n9;by_cases h:a<b
 ·rw [yG h]
  have:=(ycz a b).1 h
  grind
 ·rw [yv h];have h1:¬a.num*b.den<b.num*a.den:=fun e=>h ((ycz a b).2 e)
  rw [yv (by omega)];by_cases h2:a=b
  ·grind
  ·rw [yv h2,yv (by have:¬a.num*b.den=b.num*a.den:=fun e=>h2 (Rat.eq_iff_mul_eq_mul.2 e);omega)]
def KD (a:Rat) (h:a.den=1):a=(a.num:Rat):=by
 have:=Rat.num_divInt_den a
 rw [h] at this;rw [<-this];exact (Rat.ext (by simp [ybx]) (by simp [yby]))
def qu (a b c d:AV) (r:List AV):il 2 true (List.drop 2 (a::b::c::d::r))=some (.agg [c,d]):=rfl
def mG (a b:AV) (r:List AV):il 2 true (a::b::r)=some (.agg [a,b]):=rfl
section
variable {P:aK} {L:Lib}
def M8 (h:Fr' P L) {v:AV} {z:Int} (hv:ck v z):∃r,ai P L 111 [v] r/\dC r (z:Rat):=by
 obtain ⟨o1,o2⟩:=sB h.toNu (z:=1) (by decide) (by decide);obtain ⟨s1,w1,rfl,h1⟩:=hv;obtain ⟨l1,u1⟩:=h1.aJ;have un:=oW;refine ⟨.agg [ab s1,w1,ab 1,.ae],?_,s1,w1,1,.ae,rfl,h1,.inl ⟨rfl,rfl,(by show (-9223372036854775808:Int)<=1;decide),(by show (1:Int)<9223372036854775808;decide)⟩⟩
 unfold ai;rw [aF h.azZ];simp only [go_sem,ya,yd,Rr,aY,u1.pu,u1.one,cf,o1,bt,zB,zC,js u1 un,dQ,dT,yu,dO,jt u1 un]
def m69 (h:Fr' P L) {z:Int} (h1: -9223372036854775808<=z) (h2:z<9223372036854775808):∃r,ai P L 69 [ab z] r/\dC r (z:Rat):=by
 obtain ⟨o1,o2⟩:=sB h.toNu h1 h2;obtain ⟨r,e,hr⟩:=M8 h o2;have bW:=hr;obtain ⟨s1,w1,s2,w2,rfl,k1,k2⟩:=hr;obtain ⟨l1,u1⟩:=k1.aJ;obtain ⟨l2,u2⟩:=k2.aJ;refine ⟨_,?_,bW⟩;unfold ai;rw [aF h.X7];simp only [go_sem,ya,yd,IX,aY,b5,o1,e,bt,js u1 u2,dQ,dT,yu,dO,jt u1 u2]
def Ya (h:Fr' P L) {v:AV} {a:Rat} (hv:dC v a):ai P L 98 [v] (.bool (decide (a.den=1))):=by
 obtain ⟨s1,w1,s2,w2,rfl,h1,h2⟩:=hv;obtain ⟨l1,u1⟩:=h1.aJ;unfold ai;rw [aF h.h98];rcases h2 with ⟨rfl,rfl,b1,b2⟩ | ⟨e,l,rfl,gb,nb,vb,sb,b1⟩
 ·have e:decide (((a.den:Nat):Int)=1)=decide (a.den=1):=by simp;omega
  simp only [go_sem,ya,yd,NN,aY,u1.pu,u1.one,bI,yh,ayp,agQ,fO,dM,e]
 ·have e:decide (a.den=1)=false:=yM (by omega);rw [e];simp only [go_sem,ya,yd,NN,aY,u1.pu,u1.one,bI,yh,agQ,mD,dM]
def ai3 (h:Fr' P L) {v:AV} {a:Rat} (hv:dC v a):ai P L 108 [v] (ab (bL a.num)):=by
 obtain ⟨s1,w1,s2,w2,rfl,h1,h2⟩:=hv;obtain ⟨l1,u1⟩:=h1.aJ;obtain ⟨l2,u2⟩:=h2.aJ;have e1:=D1 h.toNu ⟨s1,w1,rfl,h1⟩;unfold ai;rw [aF h.az0];simp only [go_sem,ya,yd,Ro,aY,u1.pu,u1.an,u1.one,u2.pu,u2.one,bI,yh,mG,b5,e1]
def az3 (h:Fr' P L) {v:AV} {a:Rat} {K:Nat} (hv:dC v a) (ka:Hq K a) (hK:K<=30000000000):∃r,ai P L 102 [v] r/\dC r (-a):=by
 obtain ⟨s1,w1,s2,w2,rfl,h1,h2⟩:=hv;obtain ⟨l1,u1⟩:=h1.aJ;obtain ⟨l2,u2⟩:=h2.aJ;obtain ⟨n,e1,hn⟩:=D2 h.toNu ⟨s1,w1,rfl,h1⟩ ka.1 (by omega);obtain ⟨s3,w3,rfl,h3⟩:=hn;obtain ⟨l3,u3⟩:=h3.aJ;refine ⟨.agg [ab s3,w3,ab s2,w2],?_,s3,w3,s2,w2,rfl,h3,h2⟩;unfold ai;rw [aF h.az1];simp only [go_sem,ya,yd,Rk,aY,u1.pu,u1.an,u1.one,u2.pu,u2.one,u3.one,bI,yh,mG,qu,b5,e1,bt,zB,zC,js u3 u2,dQ,dT,yu,dO,jt u3 u2]
def m74 (h:Fr' P L) {v w:AV} {a b:Rat} {K:Nat} (hv:dC v a) (hw:dC w b) (ka:Hq K a) (kb:Hq K b) (hK:K<=10000000000):∃r,ai P L 74 [v,w] r/\dC r (a+b):=by
 have i1:=Ya h hv;have i2:=Ya h hw;obtain ⟨s1,w1,s2,w2,rfl,h1,h2⟩:=hv;obtain ⟨s3,w3,s4,w4,rfl,h3,h4⟩:=hw;obtain ⟨l1,u1⟩:=h1.aJ;obtain ⟨l2,u2⟩:=h2.aJ;obtain ⟨l3,u3⟩:=h3.aJ;obtain ⟨l4,u4⟩:=h4.aJ;have n1:ck (.agg [ab s1,w1]) a.num:=⟨s1,w1,rfl,h1⟩;have n2:ck (.agg [ab s2,w2]) a.den:=⟨s2,w2,rfl,h2⟩;have n3:ck (.agg [ab s3,w3]) b.num:=⟨s3,w3,rfl,h3⟩;have n4:ck (.agg [ab s4,w4]) b.den:=⟨s4,w4,rfl,h4⟩;by_cases rk:a.den=1/\b.den=1
 ·obtain ⟨d1,d2⟩:=rk;obtain ⟨p,e1,hp⟩:=Im h.toNu n1 n3 ka.1 kb.1 (by omega);obtain ⟨r,e2,hr⟩:=M8 h hp;have he:((a.num+b.num:Int):Rat)=a+b:=by
   rw [Rat.intCast_add,<-KD a d1,<-KD b d2]
  rw [he] at hr;have bW:=hr;obtain ⟨s5,w5,rfl,h5⟩:=hp;obtain ⟨s6,w6,s7,w7,rfl,h6,h7⟩:=hr;obtain ⟨l5,u5⟩:=h5.aJ;obtain ⟨l6,u6⟩:=h6.aJ;obtain ⟨l7,u7⟩:=h7.aJ;refine ⟨_,?_,bW⟩;rw [d1] at i1;rw [d2] at i2;unfold ai;rw [aF h.h74];simp only [go_sem,ya,yd,sQ,aY,u1.pu,u1.an,u1.one,u2.pu,u2.an,u2.one,u3.pu,u3.an,u3.one,u4.pu,u4.an,u4.one,bI,yh,dO,mG,b5,i1,i2,e1,u5.an,e2,bt,js u6 u7,dQ,dT,yu,dO,jt u6 u7]
 ·obtain ⟨p1,e1,bj⟩:=qJ h.toNu n1 n4 ka.1 kb.2 (by omega);obtain ⟨p2,e2,iO⟩:=qJ h.toNu n3 n2 kb.1 ka.2 (by omega);obtain ⟨p3,e3,hp3⟩:=Im h.toNu bj iO (ka.1.mul kb.2) (kb.1.mul ka.2) (by omega);obtain ⟨p4,e4,hp4⟩:=qJ h.toNu n2 n4 ka.2 kb.2 (by omega);obtain ⟨r,e5,hr⟩:=M7 h hp3 hp4 (by have:=CF a b;omega) ((ka.1.mul kb.2).Wy (kb.1.mul ka.2)) ((ka.2.mul kb.2).mono (by omega)) (by omega);rw [<-add_eq] at hr;have bW:=hr;obtain ⟨s5,w5,rfl,h5⟩:=bj;obtain ⟨s6,w6,rfl,h6⟩:=iO;obtain ⟨s7,w7,rfl,h7⟩:=hp3;obtain ⟨s8,w8,rfl,h8⟩:=hp4;obtain ⟨s9,w9,s10,w10,rfl,h9,gT⟩:=hr;obtain ⟨l5,u5⟩:=h5.aJ;obtain ⟨l6,u6⟩:=h6.aJ;obtain ⟨l7,u7⟩:=h7.aJ;obtain ⟨l8,u8⟩:=h8.aJ;obtain ⟨l9,u9⟩:=h9.aJ;obtain ⟨l10,Of⟩:=gT.aJ;refine ⟨_,?_,bW⟩;unfold ai;rw [aF h.h74];by_cases d1:a.den=1
  ·rw [d1] at i1;rw [yM (fun d2=>rk ⟨d1,d2⟩)] at i2;simp only [go_sem,ya,yd,sQ,aY,u1.pu,u1.an,u1.one,u2.pu,u2.an,u2.one,u3.pu,u3.an,u3.one,u4.pu,u4.an,u4.one,bI,yh,dO,mG,qu,b5,i1,i2,e1,e2,u5.an,u6.an,e3,e4,u7.an,u8.an,e5,bt,js u9 Of,dQ,dT,yu,dO,jt u9 Of]
  ·rw [yM d1] at i1;simp only [go_sem,ya,yd,sQ,aY,u1.pu,u1.an,u1.one,u2.pu,u2.an,u2.one,u3.pu,u3.an,u3.one,u4.pu,u4.an,u4.one,bI,yh,dO,mG,qu,b5,i1,e1,e2,u5.an,u6.an,e3,e4,u7.an,u8.an,e5,bt,js u9 Of,dQ,dT,yu,dO,jt u9 Of]
def m50 (h:Fr' P L) {v w:AV} {a b:Rat} {K:Nat} (hv:dC v a) (hw:dC w b) (ka:Hq K a) (kb:Hq K b) (hK:K<=10000000000):∃r,ai P L 50 [v,w] r/\dC r (a-b):=by
 obtain ⟨n,e1,hn⟩:=az3 h hw kb (by omega);obtain ⟨r,e2,hr⟩:=m74 h hv hn ka kb.neg hK;rw [<-yaM] at hr;have bW:=hr;obtain ⟨s1,w1,s2,w2,rfl,h1,h2⟩:=hv;obtain ⟨s3,w3,s4,w4,rfl,h3,h4⟩:=hw;obtain ⟨s5,w5,s6,w6,rfl,h5,h6⟩:=hn;obtain ⟨s7,w7,s8,w8,rfl,h7,h8⟩:=hr;obtain ⟨l1,u1⟩:=h1.aJ;obtain ⟨l2,u2⟩:=h2.aJ;obtain ⟨l3,u3⟩:=h3.aJ;obtain ⟨l4,u4⟩:=h4.aJ;obtain ⟨l5,u5⟩:=h5.aJ;obtain ⟨l6,u6⟩:=h6.aJ;obtain ⟨l7,u7⟩:=h7.aJ;obtain ⟨l8,u8⟩:=h8.aJ;refine ⟨_,?_,bW⟩;unfold ai;rw [aF h.X8];simp only [go_sem,ya,yd,Es,aY,u1.pu,u1.an,u1.one,u2.pu,u2.an,u2.one,u3.pu,u3.an,u3.one,u4.pu,u4.an,u4.one,u5.an,u6.an,dO,b5,e1,e2,bt,js u7 u8,dQ,dT,yu,dO,jt u7 u8]
def m49 (h:Fr' P L) {v w:AV} {a b:Rat} {K:Nat} (hv:dC v a) (hw:dC w b) (ka:Hq K a) (kb:Hq K b) (hK:K<=10000000000):∃r,ai P L 49 [v,w] r/\dC r (a*b):=by
 obtain ⟨s1,w1,s2,w2,rfl,h1,h2⟩:=hv;obtain ⟨s3,w3,s4,w4,rfl,h3,h4⟩:=hw;obtain ⟨l1,u1⟩:=h1.aJ;obtain ⟨l2,u2⟩:=h2.aJ;obtain ⟨l3,u3⟩:=h3.aJ;obtain ⟨l4,u4⟩:=h4.aJ;obtain ⟨p1,e1,bj⟩:=qJ h.toNu (v:= .agg [ab s1,w1]) (w:= .agg [ab s3,w3]) ⟨s1,w1,rfl,h1⟩ ⟨s3,w3,rfl,h3⟩ ka.1 kb.1 (by omega);obtain ⟨p2,e2,iO⟩:=qJ h.toNu (v:= .agg [ab s2,w2]) (w:= .agg [ab s4,w4]) ⟨s2,w2,rfl,h2⟩ ⟨s4,w4,rfl,h4⟩ ka.2 kb.2 (by omega);obtain ⟨r,e3,hr⟩:=M7 h bj iO (by have:=CF a b;omega) (ka.1.mul kb.1) (ka.2.mul kb.2) (by omega);rw [<-mul_eq] at hr;have bW:=hr;obtain ⟨s5,w5,rfl,h5⟩:=bj;obtain ⟨s6,w6,rfl,h6⟩:=iO;obtain ⟨s7,w7,s8,w8,rfl,h7,h8⟩:=hr;obtain ⟨l5,u5⟩:=h5.aJ;obtain ⟨l6,u6⟩:=h6.aJ;obtain ⟨l7,u7⟩:=h7.aJ;obtain ⟨l8,u8⟩:=h8.aJ;refine ⟨_,?_,bW⟩;unfold ai;rw [aF h.nt]
 simp only [go_sem,ya,yd,c49,aY,u1.pu,u1.an,u1.one,u2.pu,u2.an,u2.one,u3.pu,u3.an,u3.one,u4.pu,u4.an,u4.one,u5.an,u6.an,bI,yh,mG,qu,b5,e1,e2,e3,bt,js u7 u8,dQ,dT,yu,dO,jt u7 u8]
def m73 (h:Fr' P L) {v:AV} {a:Rat} {K:Nat} (hv:dC v a) (h0:a≠0) (ka:Hq K a) (hK:K<=10000000000):∃r,ai P L 73 [v] r/\dC r a⁻¹:=by
 obtain ⟨s1,w1,s2,w2,rfl,h1,h2⟩:=hv;obtain ⟨l1,u1⟩:=h1.aJ;obtain ⟨l2,u2⟩:=h2.aJ;obtain ⟨r,e1,hr⟩:=M7 h (v:= .agg [ab s2,w2]) (w:= .agg [ab s1,w1]) ⟨s2,w2,rfl,h2⟩ ⟨s1,w1,rfl,h1⟩ (fun e=>h0 (Rat.num_eq_zero.1 e)) ka.2 ka.1 (by omega);rw [<-Rat.inv_def] at hr;have bW:=hr;obtain ⟨s7,w7,s8,w8,rfl,h7,h8⟩:=hr;obtain ⟨l7,u7⟩:=h7.aJ;obtain ⟨l8,u8⟩:=h8.aJ;refine ⟨_,?_,bW⟩;unfold ai;rw [aF h.h73];simp only [go_sem,ya,yd,Aw,aY,u1.pu,u1.an,u1.one,u2.pu,u2.an,u2.one,bI,yh,mG,qu,b5,e1,bt,js u7 u8,dQ,dT,yu,dO,jt u7 u8]
def m71 (h:Fr' P L) {v w:AV} {a b:Rat} {K:Nat} (hv:dC v a) (hw:dC w b) (ka:Hq K a) (kb:Hq K b) (hK:K<=10000000000):ai P L 71 [v,w] (ab (n9 a b)):=by
 obtain ⟨s1,w1,s2,w2,rfl,h1,h2⟩:=hv;obtain ⟨s3,w3,s4,w4,rfl,h3,h4⟩:=hw;obtain ⟨l1,u1⟩:=h1.aJ;obtain ⟨l2,u2⟩:=h2.aJ;obtain ⟨l3,u3⟩:=h3.aJ;obtain ⟨l4,u4⟩:=h4.aJ;obtain ⟨p1,e1,bj⟩:=qJ h.toNu (v:= .agg [ab s1,w1]) (w:= .agg [ab s4,w4]) ⟨s1,w1,rfl,h1⟩ ⟨s4,w4,rfl,h4⟩ ka.1 kb.2 (by omega);obtain ⟨p2,e2,iO⟩:=qJ h.toNu (v:= .agg [ab s3,w3]) (w:= .agg [ab s2,w2]) ⟨s3,w3,rfl,h3⟩ ⟨s2,w2,rfl,h2⟩ kb.1 ka.2 (by omega);have e3:=aiY h.toNu bj iO (ka.1.mul kb.2) (kb.1.mul ka.2) (by omega);rw [asz] at e3;obtain ⟨s5,w5,rfl,h5⟩:=bj;obtain ⟨s6,w6,rfl,h6⟩:=iO;obtain ⟨l5,u5⟩:=h5.aJ;obtain ⟨l6,u6⟩:=h6.aJ;unfold ai;rw [aF h.h71];simp only [go_sem,ya,yd,Cn,aY,u1.pu,u1.an,u1.one,u2.pu,u2.an,u2.one,u3.pu,u3.an,u3.one,u4.pu,u4.an,u4.one,u5.an,u6.an,bI,yh,mG,qu,b5,e1,e2,e3,bt]
def az4 (h:Fr' P L) {v:AV} {a:Rat} {K:Nat} (hv:dC v a) (ka:Hq K a) (hK:K<=10000000000):∃r,ai P L 149 [v] r/\ck r a.floor:=by
 obtain ⟨s1,w1,s2,w2,rfl,h1,h2⟩:=hv;obtain ⟨l1,u1⟩:=h1.aJ;obtain ⟨l2,u2⟩:=h2.aJ;obtain ⟨q,r,e1,hq,hr⟩:=Wx h.toNu (v:= .agg [ab s1,w1]) (w:= .agg [ab s2,w2]) ⟨s1,w1,rfl,h1⟩ ⟨s2,w2,rfl,h2⟩ (Kj a) ka.1 ka.2 (by omega);rw [<-Rat.floor_def] at hq;have bH:=hq;obtain ⟨s3,w3,rfl,h3⟩:=hq;obtain ⟨s4,w4,rfl,h4⟩:=hr;obtain ⟨l3,u3⟩:=h3.aJ;obtain ⟨l4,u4⟩:=h4.aJ;refine ⟨_,?_,bH⟩;unfold ai;rw [aF h.az2];simp only [go_sem,ya,yd,Rx,aY,u1.pu,u1.an,u1.one,u2.pu,u2.an,u2.one,bI,yh,mG,qu,b5,e1,pZ,dQ,dT,yu,lc u3,cQ u3,cQ u4]
end
def qg:List AV->Option (List Nat)
 | []=>some []
 | .int .u64 (.ofNat d)::r=>bif yK d 18446744073709551616 then (match qg r with | some l=>some (d::l) | none=>none) else none
 | _::_=>none
def qK:List Nat->Nat
 | []=>0
 | a::r=>a+18446744073709551616*qK r
def zT:List Nat->Bool
 | []=>false
 | [a]=> !yq a 0
 | _::r=>zT r
def KE:List AV->Option AV
 | [.agg [.int .i64 s,.ae]]=>bif zQ s then some (.str (aW s)) else none
 | [.agg [.int .i64 s,.aC _ n cs]]=>
  match qg cs with
  | some l=>
   bif yq l.length n&&(yy n 4000000000&&(zT l&&yy 9223372036854775808 (qK l))) then
    match s with
    | .ofNat 1=>some (.str (ax (qK l)))
    | .negSucc 0=>some (.str (45::ax (qK l)))
    | _=>none
   else none
  | none=>none
 | _=>none
def Zz:∀{l:List Nat},lo 18446744073709551616 l->qg (l.map uc)=some l
 | [],_=>rfl
 | a::l,h=>by
  have h1:=h a (by simp);have h2:=Zz (l:=l) (fun x hx=>h x (by simp [hx]));show (bif yK a 18446744073709551616 then (match qg (l.map uc) with | some l=>some (a::l) | none=>none) else none)=_
  rw [jI h1,h2];rfl
def PQ:∀l:List Nat,qK l=bv 18446744073709551616 l
 | []=>rfl
 | a::l=>by simp only [qK,bv,PQ l]
def abc:∀{l:List Nat},l≠[]->fT l->zT l=true
 | [],h,_=>absurd rfl h
 | [a],_,h=>by
  have:a≠0:=fun e=>by
   subst e;have h:dE [0]=[0]:=h;simp [dE] at h
  simp [zT,gn this]
 | a::b::r,_,h=>by
  have h1:fT (b::r):=by
   have h:dE (a::b::r)=a::b::r:=h;rw [dE] at h
   grind
  have:=abc (l:=b::r) (by simp) h1
  simpa [zT] using this
section
variable {P:aK} {L:Lib}
structure Tx (P:aK) (L:Lib):Prop extends Fr' P L where
 EE:L.pure 99=some KE
 az5:L.pure 175=some Gw
 ai4:L.pure 152=some JL
 ai5:L.pure 153=some JA
 Wz:L.pure 154=some He
 WA:L.pure 109=some Lz
 mR:Has P L 155 BM
 az6:Has P L 172 Rz
 aGy:Has P L 151 ahz
 aGz:Has P L 107 ahy
 Yb:Has P L 46 re
 ai6:Has P L 110 LB
 Og:Has P L 62 Et
def m99 (h:Tx P L) {v:AV} {z:Int} {K:Nat} (hv:ck v z) (hz:Bd K z) (hK:K<=4000000000):ai P L 99 [v] (.str (aW z)):=by
 obtain ⟨s,w,rfl,hn⟩:=hv;unfold ai;rw [gK h.EE];rcases hn with ⟨rfl,rfl,h1,h2⟩ | ⟨e,l,rfl,g,n,hb,hs,h1⟩
 ·show (bif zQ s then some (AV.str (aW s)) else none)=_
  have:zQ s=true:=by
   cases s with
   | ofNat k=>exact jI (by have:(Int.ofNat k)=(k:Int):=rfl;omega)
   | negSucc k=>exact jI (by omega)
  grind
 ·have iP:l≠[]:=fun e=>by subst e;simp [bv] at hb;omega
  have oy:l.length<=4000000000:=xb (mP n hb (yE hz (zJ K))) hK
  show (match qg (l.map uc) with
   | some l'=>bif yq l'.length l.length&&(yy l.length 4000000000&&(zT l'&&yy 9223372036854775808 (qK l'))) then (match s with | .ofNat 1=>some (AV.str (ax (qK l'))) | .negSucc 0=>some (.str (45::ax (qK l'))) | _=>none) else none
   | none=>none)=_
  rw [Zz g];simp only [Nat.beq_refl,yt oy,abc iP n,PQ,hb,yt h1,uz,yz];by_cases h0:z<0
  ·rw [yG h0] at hs;subst hs;rw [nF h0];rfl
  ·rw [yv h0] at hs;subst hs;obtain ⟨m,rfl⟩:∃m:Nat,z=m:=⟨z.toNat,by omega⟩;rfl
def RT (r:Rat):List Nat:=aW r.num++(if r.den=1 then [] else 47::ax r.den)
def F3 {z:Int} {k:Nat} (h:Bd k z):(aW z).length<=k+1:=by
 have h1:∀m:Nat,m<2^k->(ax m).length<=max k 1:=fun m hm=>by
  cases k with
  | zero=>
       have:m=0:=by simpa using hm
       subst this;decide
  | succ k=>
   rw [Nat.max_eq_left (by omega)];exact oV (k:=k) (yE hm (wU (by decide) _))
 by_cases h0:z<0
 ·rw [nF h0];unfold Bd at h
  grind
 ·obtain ⟨m,rfl⟩:∃m:Nat,z=m:=⟨z.toNat,by omega⟩
  have:=h1 m (by unfold Bd at h;simpa using h)
  rw [kQ];omega
def m46 (h:Tx P L) {v:AV} {a:Rat} {K:Nat} (hv:dC v a) (ka:Hq K a) (hK:K<=4000000000):ai P L 46 [v] (.str (RT a)):=by
 have i1:=Ya h.toFr' hv;obtain ⟨s1,w1,s2,w2,rfl,h1,h2⟩:=hv;obtain ⟨l1,u1⟩:=h1.aJ;obtain ⟨l2,u2⟩:=h2.aJ;have e1:=m99 h (v:= .agg [ab s1,w1]) ⟨s1,w1,rfl,h1⟩ ka.1 hK;have e2:=m99 h (v:= .agg [ab s2,w2]) ⟨s2,w2,rfl,h2⟩ ka.2 hK;have b1:=F3 ka.1;have b2:=F3 ka.2;rw [kQ] at e2 b2;unfold ai RT;rw [aF h.Yb];by_cases hd:a.den=1
 ·rw [yG hd,xZ];rw [hd] at i1;simp only [go_sem,ya,yd,re,aY,u1.pu,u1.an,u1.one,u2.pu,u2.an,u2.one,dO,b5,i1,bI,yh,mG,e1]
 ·rw [yv hd];rw [yM hd] at i1;have hc:aW a.num++47::ax a.den=(aW a.num++[47])++ax a.den:=by simp
  rw [hc]
  simp only [go_sem,ya,yd,re,aY,u1.pu,u1.an,u1.one,u2.pu,u2.an,u2.one,dO,b5,i1,bI,yh,mG,qu,e1,e2,fN (a:=aW a.num) (b:=[47]) (by simp;omega),fN (a:=aW a.num++[47]) (b:=ax a.den) (by simp;omega)]
end
def az7 {n:Nat} (h:n<9223372036854775808):binOp .and (.int .i64 (n:Int)) (.int .i64 1)=some (.int .i64 ((n%2:Nat):Int)):=by
 show some (AV.int .i64 (IntKind.wrap .i64 ((xC 64 (n:Int)&&&xC 64 1).toNat:Int)))=_
 rw [show xC 64 (n:Int)=uV 64 n from BitVec.ofInt_natCast 64 n,show xC 64 1=uV 64 1 from rfl];rw [BitVec.toNat_and,vC,vC,show (1%2^64:Nat)=2^1-1 from rfl,Nat.and_two_pow_sub_one_eq_mod,wrapN (by omega)]
 grind
def az8 (n:Nat):binOp .shr (.int .i64 (n:Int)) (.int .u64 1)=some (.int .i64 ((n/2:Nat):Int)):=by
 show some (AV.int .i64 ((n:Int).fdiv (2^1)))=_
 grind
def Bd.pow {k:Nat} {z:Int} (h:Bd k z):∀e,Bd (k*e+1) (z^e)
 | 0=>by rw [yan,xp];unfold Bd;decide
 | e+1=>by
  have ih:=Bd.pow h e;rw [Int.pow_succ];exact (ih.mul h).mono (by rw [xr,ym];omega)
section
variable {P:aK} {L:Lib}
def awv (h:Nu P L) (M4:True) {z:Int} {K k0:Nat} (hz:Bd K z) (hK:K*k0+1<=30000000000) {o1 o2:AV}:
  ∀m st,(∃(k i e:Nat) (s1 s2:Int) (w1 w2:AV),aQ [1,2,4,5] st=⟨[(1,ab k),(2,.ptr 0 0),(4,.ptr 1 0),(5,.ptr 2 0)],[(2,.cells true true true 2 [ab s2,w2]),(1,.cells true true true 2 [o1,o2]),(0,.cells true true true 2 [ab s1,w1])],3,0⟩/\cV s1 w1 (z^i)/\cV s2 w2 (z^e)/\e+i*k=k0/\(0<k->i<=k0)/\k<9223372036854775808/\k=m)->
   ∃ex st',D P L (.loop [1,2,4,5] Bh) st=some (ex,st')/\∃tm s2 w2 c0,st'=⟨tm,[(2,.cells true true true 2 [ab s2,w2]),(1,.cells true true true 2 [o1,o2]),(0,c0)],3,0⟩/\ex= .exit 0/\aj tm 4= .ptr 1 0/\aj tm 5= .ptr 2 0/\cV s2 w2 (z^k0):=by
 intro dq sq;generalize bq:aQ [1,2,4,5] sq=s0;revert bq s0 sq dq;apply dh;rintro m st ⟨k,i,e,s1,s2,w1,w2,rfl,h1,h2,hk,hi,hkb,rfl⟩;obtain ⟨l1,u1⟩:=h1.aJ;obtain ⟨l2,u2⟩:=h2.aJ;by_cases Nz:k=0
 ·right
  subst Nz;rw [xp,yV] at hk;subst hk;simp only [go_sem,Bh,show ¬(0:Int)<((0:Nat):Int) by omega];exact ⟨_,_,rfl,by simp,_,s2,w2,_,rfl,rfl,by simp only [go_sem,ya],by simp only [go_sem,ya],h2⟩
 ·left
  have fB:=hi (by omega);have he:e<=k0:=by omega
  have hik:i*1<=i*k:=yS i (by omega);have b1:Bd (K*k0+1) (z^i):=(hz.pow i).mono (by have:=yS K fB;omega);have b2:Bd (K*k0+1) (z^e):=(hz.pow e).mono (by have:=yS K he;omega);have n1:ck (.agg [ab s1,w1]) (z^i):=⟨s1,w1,rfl,h1⟩;have n2:ck (.agg [ab s2,w2]) (z^e):=⟨s2,w2,rfl,h2⟩;obtain ⟨p,e1,hp⟩:=qJ h n2 n1 b2 b1 (by omega);obtain ⟨q,e2,hq⟩:=qJ h n1 n1 b1 b1 (by omega);rw [<-Int.pow_add] at hp hq;obtain ⟨s3,w3,rfl,h3⟩:=hp;obtain ⟨s4,w4,rfl,h4⟩:=hq;obtain ⟨l3,u3⟩:=h3.aJ;obtain ⟨l4,u4⟩:=h4.aJ;have dZ:=xF k 2;have Jm:=az7 (n:=k) hkb;have Yc:=az8 k;have agY:(i+i)*(k/2)=i*(2*(k/2)):=by rw [<-Nat.two_mul,xg 2 i,xd]
  by_cases az9:k%2=1
  ·rw [az9] at Jm dZ;have pH:i*k=i*(2*(k/2))+i:=by
    conv=>lhs;rw [<-dZ,xr,ym]
   by_cases fC:1<k
   ·simp only [go_sem,ya,Bh,show (0:Int)<(k:Int) by omega,Jm,show ((1:Nat):Int)=1 from rfl,cf,b5,u1.an,u2.an,e1,bt,cf,yu,cQ u3,cQ u4,show (1:Int)<(k:Int) by omega,e2,Yc]
    exact ⟨_,k/2,rfl,by omega,k/2,i+i,e+i,s4,s3,w4,w3,by simp only [go_sem,ya,yd,aB],h4,h3,by omega,fun h0=>by have:=yS (i+i) h0;omega,by omega,rfl⟩
   ·have ff:e+i+i*(k/2)=k0:=by
     have h1:k/2=0:=by omega
     rw [h1] at pH ⊢;omega
    simp only [go_sem,ya,Bh,show (0:Int)<(k:Int) by omega,Jm,show ((1:Nat):Int)=1 from rfl,cf,b5,u1.an,u2.an,e1,bt,cf,yu,cQ u3,show ¬(1:Int)<(k:Int) by omega,Yc];exact ⟨_,k/2,rfl,by omega,k/2,i,e+i,s1,s3,w1,w3,by simp only [go_sem,ya,yd,aB],h1,h3,ff,fun h0=>by omega,by omega,rfl⟩
  ·have q9:k%2=0:=by omega
   rw [q9] at Jm dZ;have pH:i*k=i*(2*(k/2)):=by
    conv=>lhs;rw [<-dZ,yV]
   simp only [go_sem,ya,Bh,show (0:Int)<(k:Int) by omega,Jm,show ((0:Nat):Int)=0 from rfl,uC,cf,b5,u1.an,bt,cf,yu,cQ u4,show (1:Int)<(k:Int) by omega,e2,Yc]
   exact ⟨_,k/2,rfl,by omega,k/2,i+i,e,s4,s2,w4,w2,by simp only [go_sem,ya,yd,aB],h4,h2,by omega,fun h0=>by have:=yS (i+i) h0;omega,by omega,rfl⟩
def WB (h:Nu P L) (mR:Has P L 155 BM) {v:AV} {z:Int} {K k:Nat} (hv:ck v z) (hz:Bd K z) (hK:K*k+1<=30000000000) (hk:k<9223372036854775808):∃r,ai P L 155 [v,ab k] r/\ck r (z^k):=by
 obtain ⟨o1,o2⟩:=sB h (z:=1) (by decide) (by decide);obtain ⟨s1,w1,rfl,h1⟩:=hv;obtain ⟨l1,u1⟩:=h1.aJ;have un:=oW;have ij:∃s w,ai P L 155 [.agg [ab s1,w1],ab k] (.agg [ab s,w])/\cV s w (z^k):=by
  unfold ai;rw [aF mR];simp only [go_sem,ya,yd,BM,aY,u1.pu,u1.one,o1,bt,cQ un];generalize hq:D P L (.loop [1,2,4,5] Bh) _=q;obtain ⟨ex,st,rfl,tm,s5,w5,c1,rfl,rfl,t4,t5,h5⟩:=b6 hq (awv (P:=P) (L:=L) h trivial hz (k0:=k) hK (o1:= .int .i64 0) (o2:= .ae) k) ⟨k,1,0,s1,1,w1,.ae,by simp only [go_sem,ya,yd,aB],by rw [Int.pow_one];exact h1,.inl ⟨rfl,(yan z).symm,(by rw [yan];decide)⟩,by omega,fun h0=>h0,hk,rfl⟩
  obtain ⟨l5,u5⟩:=h5.aJ;refine ⟨s5,w5,?_,h5⟩;simp only [go_sem,ya,yd,aB,t4,t5,dQ,dT,cf,yu,lc u5,cQ u5]
 obtain ⟨s,w,e,hn⟩:=ij;exact ⟨_,e,s,w,rfl,hn⟩
def Gb:∀(l m:List Nat) (a:Nat),cy (l++m) a=(cy l a).bind (fun v=>cy m v)
 | [],m,a=>rfl
 | b::l,m,a=>by
  simp only [List.cons_append,cy]
  cases (yy 48 b&&yy b 57) with
  | true=>exact Gb l m _
  | false=>rfl
def aqr:∀{l:List Nat} {a v:Nat},cy l 0=some v->cy l a=some (a*10^l.length+v):=by
 intro l
 suffices h:∀{l:List Nat} {a b v:Nat},cy l b=some v->b*10^l.length<=v/\cy l (a+b)=some (a*10^l.length+v) by
  intro a v hv
  have:=(h (a:=a) hv).2
  grind
 intro l
 induction l with
 | nil=>intro a b v h;simp [cy] at h ⊢;omega
 | cons c l ih=>
  intro a b v h;simp only [cy] at h ⊢
  cases hb:(yy 48 c&&yy c 57) with
  | false=>rw [hb] at h;cases h
  | true=>
   rw [hb] at h;obtain ⟨h1,h2⟩:=ih (a:=10*a) h;simp only [yO,yZ]
   grind
def PR:∀{l:List Nat} {v:Nat},cy l 0=some v->v<10^l.length:=by
 suffices h:∀{l:List Nat} {b v:Nat},cy l b=some v->v<(b+1)*10^l.length by
  grind
 intro l
 induction l with
 | nil=>intro b v h;simp [cy] at h ⊢;omega
 | cons c l ih=>
  intro b v h;simp only [cy] at h
  cases hb:(yy 48 c&&yy c 57) with
  | false=>rw [hb] at h;cases h
  | true=>
   simp only [Bool.and_eq_true] at hb;have hc:=Nat.le_of_ble_eq_true hb.2;have h2:=yU (10^l.length) (show 10*b+(c-48)+1<=10*(b+1) by omega)
   grind
def asA (Wz:L.pure 154=some He) {f:cm} {s:List Nat} {v:Nat} (h0:0<s.length) (h1:s.length<=18) (hv:cy s 0=some v):bG P L f 154 [.str s]=some (.aa [.int .i64 v,.undef]):=by
 rw [gK Wz];show (bif yK 0 s.length&&yy s.length 18 then (match cy s 0 with | some n=>some (AV.aa [.int .i64 n,.undef]) | none=>none) else none)=_
 rw [jI h0,yt h1,hv];rfl
end
def aal:∀j:Nat,gh [48] j++[48]=[48]++gh [48] j
 | 0=>rfl
 | j+1=>by
  show ([48]++gh [48] j)++[48]=[48]++([48]++gh [48] j)
  rw [xx,aal j]
def CR:∀j:Nat,(gh [48] j).length=j
 | 0=>rfl
 | j+1=>by show ([48]++gh [48] j).length=_;rw [y5,CR j];simp;omega
def aoo:∀(k n:Nat),n<10^k->0<k->gP k n=gh [48] (k-(ax n).length)++ax n:=by
 intro k
 induction k with
 | zero=>intro n _ h;omega
 | succ k ih=>
  intro n hn _;rw [gP];by_cases gT:n<10
  ·rw [nD gT,yF gT]
   cases k with
   | zero=>rfl
   | succ k=>
    rw [ih (n/10) (by rw [xD gT];exact yal (by decide)) (by omega),xD gT]
    rw [show ax 0=[48] by decide];rw [aal];rfl
  ·have hk:0<k:=by
    grind
   rw [ih (n/10) (by rw [yZ] at hn;omega) hk,oU gT,xx,y5]
   grind
def aop {m d r:Nat} (hd:d=m/1000000000000000000) (hr:r=m%1000000000000000000):(0<d->ax m=ax d++(gh [48] (18-(ax r).length)++ax r))/\(d=0->ax m=ax r):=by
 have X6:r<10^18:=by omega
 constructor
 ·intro h0;rw [<-aoo 18 r X6 (by decide),<-Kg 18 d r h0 X6]
  grind
 ·grind
section
variable {P:aK} {L:Lib}
def aww {f:cm} (h:L.pure 138=some zd) {n:Nat} (hn:n<18446744073709551616):bG P L f 138 [uc n,ab 10]=some (.str (ax n)):=by
 rw [gK h];show (bif yK n 18446744073709551616 then some (AV.str (ax n)) else none)=_
 rw [jI hn];rfl
def Qm {f:cm} (h:L.pure 139=some zy) {n:Nat} (hn:n<=100):bG P L f 139 [.str [48],ab (n:Nat)]=some (.str (gh [48] n)):=by
 rw [gK h];show (bif yy n 1099511627776&&yy (1*n) 1099511627776 then some (AV.str (gh [48] n)) else none)=_
 rw [yt (by omega),yt (by omega)];rfl
def awx (h:Wd P L) (B3:L.pure 138=some zd) (sD:L.pure 139=some zy) {neg:Bool} {M K:Nat} (rz:0<M) (hK:K<=4000000000) (hlen:(ax M).length<=300000000000):
  ∀k s,(∃(m:Nat) (w:AV) (ps:List (List Nat)) (fl:Bool),m=k/\WN w m/\m<18446744073709551616^K/\ax M=(if m=0 then [] else ax m)++ps.reverse.flatten/\((ps=[]->m=M)/\18*ps.length<=(ax M).length+18)/\(m≠0->18*ps.length+(ax m).length=(ax M).length)/\
    ((ps=[]/\aQ [3,4,5,6] s=⟨[(3,.bool neg),(4,w),(5,.aE 0 0 1),(6,.ae)],[(0,.cells fl true true 1 [uc 1000000000000000000])],1,0⟩)\/
    (ps≠[]/\aQ [3,4,5,6] s=⟨[(3,.bool neg),(4,w),(5,.aE 0 0 1),(6,.aE 1 0 ps.length)],[(1,.cells true true false 1 (ps.map .str)),(0,.cells fl true true 1 [uc 1000000000000000000])],2,0⟩)))->
   ∃ex s',D P L (.loop [3,4,5,6] nU) s=some (ex,s')/\∃tm ps fl,ex= .exit 0/\ps≠[]/\ps.length<=300000000000/\ax M=ps.reverse.flatten/\aj tm 3= .bool neg/\aj tm 6= .aE 1 0 ps.length/\s'=⟨tm,[(1,.cells true true false 1 (ps.map .str)),(0,.cells fl true true 1 [uc 1000000000000000000])],2,0⟩:=by
 intro dq sq;generalize bq:aQ [3,4,5,6] sq=s0;revert bq s0 sq dq;apply dh;rintro k s ⟨m,w,ps,fl,rfl,hw,hmK,za,ai7,lZ,hs⟩;obtain ⟨lw,uw,gw,nw,vw⟩:=hw;by_cases hm:m=0
 ·right
  have iP:lw=[]:=yD (Nat.le_zero.1 (mP (K:=0) nw vw (by rw [hm];decide)))
  subst iP;rw [yG hm,xT] at za;have fj:ps≠[]:=fun e=>by have:=ai7.1 e;omega
  have Oh:ps.length<=300000000000:=by have:=ai7.2;omega
  rcases hs with ⟨h0,_⟩ | ⟨_,rfl⟩
  ·exact absurd h0 fj
  ·simp only [go_sem,ya,nU,uw.len,yR,show ¬(0:Int)<((0:Nat):Int) by omega];exact ⟨_,_,rfl,by simp,_,ps,fl,rfl,fj,Oh,za,by simp only [go_sem,ya],by simp only [go_sem,ya],rfl⟩
 ·left
  have hw:WN w m:=⟨lw,uw,gw,nw,vw⟩;have hB:WN (.aC true 1 [uc 1000000000000000000]) 1000000000000000000:=⟨[1000000000000000000],lO true [1000000000000000000],C9.2 (by decide),by decide,by simp [bv]⟩;obtain ⟨q,r,e1,hq,hr⟩:=aiT h hw hB (K:=K+1) (by decide) (yE hmK (yT (by decide) (by omega))) (by rw [yZ];have:=yal (n:=K) (show 0<18446744073709551616 by decide);omega) (by omega)
  obtain ⟨t1,t2⟩:=aop (m:=m) rfl rfl;have dZ:=xF m 1000000000000000000;have hrB:=xu m (show 0<1000000000000000000 by decide);obtain ⟨d,hd⟩:∃d,d=m/1000000000000000000:=⟨_,rfl⟩;obtain ⟨x,hx⟩:∃x,x=m%1000000000000000000:=⟨_,rfl⟩;rw [<-hd] at hq t1 t2 dZ;rw [<-hx] at hr t1 t2 dZ hrB;obtain ⟨lq,uq,gq,nq,vq⟩:=hq;obtain ⟨lr,ur,gr,nr,vr⟩:=hr;have hxl:(ax x).length<=18:=oV (k:=17) (by omega);have hxp:=zu x;have I8:(lr=[]/\x=0)\/lr=[x]:=by
   have h1:lr.length<=1:=mP (K:=1) nr vr (by rw [ycl];omega)
   cases lr with
   | nil=>exact .inl ⟨rfl,by rw [<-vr];rfl⟩
   | cons a l=>
    cases l with
    | nil=>rw [zI] at vr;exact .inr (by rw [vr])
    | cons b l=>simp at h1
  have EF:(lq=[]/\d=0)\/(0<lq.length/\0<d):=by
   cases lq with
   | nil=>exact .inl ⟨rfl,by rw [<-vq];rfl⟩
   | cons a l=>
    refine .inr ⟨by simp,?_⟩;rcases xe d with h0 | h0
    ·have:=mP (K:=0) nq vq (by rw [h0];decide)
     simp at this
    ·exact h0
  unfold ai at e1;have AJ:(0:Int)<(lw.length:Int):=by
   have:lw≠[]:=fun e=>by subst e;simp [bv] at vw;omega
   have:=uv.2 this
   omega
  have aGA:=lZ hm;have hmp:=zu m;have new:∀t:List Nat,ax m=(if d=0 then [] else ax d)++t->(d≠0->t.length=18)->
    ax M=(if d=0 then [] else ax d)++(ps++[t]).reverse.flatten/\((ps++[t]=[]->d=M)/\18*(ps++[t]).length<=(ax M).length+18)/\(d≠0->18*(ps++[t]).length+(ax d).length=(ax M).length):=fun t h1 h2=>by
   rw [yv hm,h1] at za;refine ⟨by rw [za];simp,⟨by simp,by simp only [y5,yO,yR];omega⟩,fun h0=>?_⟩
   have h3:=congrArg List.length h1;rw [yv h0,y5,h2 h0] at h3;simp only [y5,yO,yR];omega
  have Ag:d<m:=by omega
  have AK:WN q d:=⟨lq,uq,gq,nq,vq⟩;have nl:lr=[x]->j8 1 0 r=some (.b7 (.int .u64 x::([]:List AV))):=fun e=>by
   subst e
   have:=ur.cd (i:=0) (by simp)
   simpa using this
  have f1:=aww (P:=P) (f:=D P L) B3 (n:=x) (by omega);have f2:=Qm (P:=P) (f:=D P L) sD (n:=18-(ax x).length) (by omega);have WC:(18:Int)-((ax x).length:Int)=((18-(ax x).length:Nat):Int):=by omega
  have aGB:18*ps.length<=300000000000:=by omega
  have zl:(gh [48] (18-(ax x).length)++ax x).length=18:=by rw [y5,CR];omega
  obtain ⟨z,hz⟩:∃z,z=ax x:=⟨_,rfl⟩;have iQ:x=0->z=[48]:=fun e=>by rw [hz,e];decide
  rw [<-hz] at f1 f2 WC hxl hxp zl t1 t2;cases fl
  all_goals
   rcases EF with ⟨rfl,fU⟩ | ⟨Oi,fU⟩
   ·obtain ⟨n1,n2,n3⟩:=new z (by rw [yG fU,xT];exact t2 fU) (fun h=>absurd fU h)
    rcases I8 with ⟨rfl,pP⟩ | rfl
    ·have lG:=iQ pP;clear hz;subst lG;rcases hs with ⟨gG,rfl⟩ | ⟨gG,rfl⟩
     ·subst gG;simp only [go_sem,ya,yd,xN,yI,yA,ym,nU,uw.len,uw.an,uq.len,uq.bR,ur.len,ur.bR,AJ,e1,yR,yR,show ¬(0:Int)<((0:Nat):Int) by omega,kP];refine ⟨_,d,rfl,Ag,d,q,[]++[[48]],false,rfl,AK,by omega,n1,n2,n3,.inr ⟨by simp,?_⟩⟩;simp only [go_sem,ya,yd,aB,aO uq.pu,aV _ uq.pu]<;>rfl
     ·simp only [go_sem,ya,yd,yI,yA,ym,nU,uw.len,uw.an,uq.len,uq.bR,ur.len,ur.bR,AJ,e1,yR,yR,show ¬(0:Int)<((0:Nat):Int) by omega]
      rw [jX (ex:=false) (pu:=true) (cs:=ps.map .str) (by simp only [go_sem,ya]) (by simp) (by omega) (by omega) (by decide) (by simp only [go_sem])];simp only [go_sem,ya,yd];refine ⟨_,d,rfl,Ag,d,q,ps++[[48]],false,rfl,AK,by omega,n1,n2,n3,.inr ⟨by simp,?_⟩⟩;rw [xI,y5];simp only [go_sem,ya,yd,aB,aO uq.pu,aV _ uq.pu]<;>rfl
    ·rcases hs with ⟨gG,rfl⟩ | ⟨gG,rfl⟩
     ·subst gG;simp only [go_sem,ya,yd,xN,yI,yA,ym,nU,uw.len,uw.an,uq.len,uq.bR,ur.len,ur.bR,AJ,e1,yO,yR,yh,show (0:Int)<((1:Nat):Int) by omega,nl rfl,f1,yR,show ¬(0:Int)<((0:Nat):Int) by omega,kP];refine ⟨_,d,rfl,Ag,d,q,[]++[z],false,rfl,AK,by omega,n1,n2,n3,.inr ⟨by simp,?_⟩⟩;simp only [go_sem,ya,yd,aB,aO uq.pu,aV _ uq.pu]<;>rfl
     ·simp only [go_sem,ya,yd,yI,yA,ym,nU,uw.len,uw.an,uq.len,uq.bR,ur.len,ur.bR,AJ,e1,yO,yR,yh,show (0:Int)<((1:Nat):Int) by omega,nl rfl,f1,yR,show ¬(0:Int)<((0:Nat):Int) by omega]
      rw [jX (ex:=false) (pu:=true) (cs:=ps.map .str) (by simp only [go_sem,ya]) (by simp) (by omega) (by omega) (by decide) (by simp only [go_sem])];simp only [go_sem,ya,yd];refine ⟨_,d,rfl,Ag,d,q,ps++[z],false,rfl,AK,by omega,n1,n2,n3,.inr ⟨by simp,?_⟩⟩;rw [xI,y5];simp only [go_sem,ya,yd,aB,aO uq.pu,aV _ uq.pu]<;>rfl
   ·obtain ⟨n1,n2,n3⟩:=new (gh [48] (18-z.length)++z) (by rw [yv (by omega)];exact t1 fU) (fun _=>zl)
    rcases I8 with ⟨rfl,pP⟩ | rfl
    ·have lG:=iQ pP;clear hz;subst lG;rcases hs with ⟨gG,rfl⟩ | ⟨gG,rfl⟩
     ·subst gG
      simp only [go_sem,ya,yd,xN,yI,yA,ym,nU,uw.len,uw.an,uq.len,uq.bR,ur.len,ur.bR,AJ,e1,yR,show ¬(0:Int)<((0:Nat):Int) by omega,show (0:Int)<(lq.length:Int) by omega,show (18:Int)-((1:Nat):Int)=((17:Nat):Int) from rfl,wrapN (n:=17) (by omega),Qm (P:=P) (f:=D P L) sD (n:=17) (by omega),fN (a:=gh [48] 17) (b:=[48]) (by rw [CR];decide),kP]
      refine ⟨_,d,rfl,Ag,d,q,[]++[gh [48] 17++[48]],false,rfl,AK,by omega,n1,n2,n3,.inr ⟨by simp,?_⟩⟩;simp only [go_sem,ya,yd,aB,aO uq.pu,aV _ uq.pu]<;>rfl
     ·simp only [go_sem,ya,yd,yI,yA,ym,nU,uw.len,uw.an,uq.len,uq.bR,ur.len,ur.bR,AJ,e1,yR,show ¬(0:Int)<((0:Nat):Int) by omega,show (0:Int)<(lq.length:Int) by omega,show (18:Int)-((1:Nat):Int)=((17:Nat):Int) from rfl,wrapN (n:=17) (by omega),Qm (P:=P) (f:=D P L) sD (n:=17) (by omega),fN (a:=gh [48] 17) (b:=[48]) (by rw [CR];decide)]
      rw [jX (ex:=false) (pu:=true) (cs:=ps.map .str) (by simp only [go_sem,ya]) (by simp) (by omega) (by omega) (by decide) (by simp only [go_sem])];simp only [go_sem,ya,yd];refine ⟨_,d,rfl,Ag,d,q,ps++[gh [48] 17++[48]],false,rfl,AK,by omega,n1,n2,n3,.inr ⟨by simp,?_⟩⟩;rw [xI,y5];simp only [go_sem,ya,yd,aB,aO uq.pu,aV _ uq.pu]<;>rfl
    ·rcases hs with ⟨gG,rfl⟩ | ⟨gG,rfl⟩
     ·subst gG
      simp only [go_sem,ya,yd,xN,yI,yA,ym,nU,uw.len,uw.an,uq.len,uq.bR,ur.len,ur.bR,AJ,e1,yO,yR,yh,show (0:Int)<((1:Nat):Int) by omega,nl rfl,f1,show (0:Int)<(lq.length:Int) by omega,WC,wrapN (n:=18-z.length) (by omega),f2,fN (a:=gh [48] (18-z.length)) (b:=z) (by rw [CR];omega),kP];refine ⟨_,d,rfl,Ag,d,q,[]++[gh [48] (18-z.length)++z],false,rfl,AK,by omega,n1,n2,n3,.inr ⟨by simp,?_⟩⟩;simp only [go_sem,ya,yd,aB,aO uq.pu,aV _ uq.pu]<;>rfl
     ·simp only [go_sem,ya,yd,yI,yA,ym,nU,uw.len,uw.an,uq.len,uq.bR,ur.len,ur.bR,AJ,e1,yO,yR,yh,show (0:Int)<((1:Nat):Int) by omega,nl rfl,f1,show (0:Int)<(lq.length:Int) by omega,WC,wrapN (n:=18-z.length) (by omega),f2,fN (a:=gh [48] (18-z.length)) (b:=z) (by rw [CR];omega)]
      rw [jX (ex:=false) (pu:=true) (cs:=ps.map .str) (by simp only [go_sem,ya]) (by simp) (by omega) (by omega) (by decide) (by simp only [go_sem])];simp only [go_sem,ya,yd];refine ⟨_,d,rfl,Ag,d,q,ps++[gh [48] (18-z.length)++z],false,rfl,AK,by omega,n1,n2,n3,.inr ⟨by simp,?_⟩⟩;rw [xI,y5];simp only [go_sem,ya,yd,aB,aO uq.pu,aV _ uq.pu]<;>rfl
end
def jc:Nat->VC->VC
 | 0,c=>aS c
 | n+1,c=> .seq (aS c) (jc n (aq c))
def bO:Nat->VC->VC
 | 0,c=>aq c
 | n+1,c=>bO n (aq c)
def ai8:Nat->VC->Prop
 | 0,c=>c= .seq (aS c) (aq c)
 | n+1,c=>c= .seq (aS c) (aq c)/\ai8 n (aq c)
def PS {P:aK} {L:Lib}:∀(n:Nat) {c:VC},ai8 n c->∀s,D P L c s=kj P L (D P L (jc n c) s) (bO n c)
 | 0,c,h,s=>by
  conv=>lhs;rw [show c= .seq (aS c) (aq c) from h]
  rw [jq];rfl
 | n+1,c,h,s=>by
  conv=>lhs;rw [show c= .seq (aS c) (aq c) from h.1]
  show _=kj P L (D P L (.seq (aS c) (jc n (aq c))) s) (bO n (aq c))
  rw [jq,jq]
  cases D P L (aS c) s with
  | none=>rfl
  | some q=>
   obtain ⟨ex,st⟩:=q
   cases ex with
   | normal=>rw [fp,fp];exact PS n h.2 st
   | ret=>rfl
   | exit id=>rfl
section
variable {P:aK} {L:Lib}
def amR (h:Nu P L) (B3:L.pure 138=some zd) (sD:L.pure 139=some zy) {s z:Int} {e:Bool} {l:List Nat} (hn:cV s (.aC e l.length (l.map uc)) z) {K:Nat} (lG:0<z.natAbs) (Oj:z.natAbs<18446744073709551616^K) (hK:K<=4000000000) (hlen:(ax z.natAbs).length<=300000000000):
  ∃ps:List (List Nat),ps≠[]/\ps.length<=300000000000/\ax z.natAbs=ps.reverse.flatten/\D P L (jc 5 Co.body) ⟨[(0,.agg [ab s,.aC e l.length (l.map uc)])],[],0,0⟩=some (.normal,⟨[(3,.bool (decide (z<0))),(6,.aE 0 0 ps.length)],[(0,.cells true true false 1 (ps.map .str))],1,0⟩):=by
 obtain ⟨r,e1,hr⟩:=sC h hn;have bW:=hr;obtain ⟨lr,ur,gr,nr,vr⟩:=hr;simp only [go_sem,ya,yd,yA,ym,Co,jc,aS,aq,aY,bI,yh,cx,mD,dM,cf,b5,e1];generalize lH:D P L (.loop [3,4,5,6] nU) _=qq;obtain ⟨ex,st,rfl,tm,ps,fl,rfl,fj,Oh,za,t3,t6,rfl⟩:=b6 lH (awx (P:=P) (L:=L) h.toWd B3 sD (neg:=decide (z<0)) (M:=z.natAbs) (K:=K) lG hK hlen z.natAbs) ⟨z.natAbs,bR r,[],true,rfl,bW,Oj,by rw [yv (by omega)];simp,⟨fun _=>rfl,by simp⟩,fun _=>by simp,.inl ⟨rfl,by
  simp only [go_sem,ya,yd,aB,aO ur.pu,aV _ ur.pu]<;>rfl⟩⟩
 refine ⟨ps,fj,Oh,za,?_⟩;simp only [go_sem,yd,aB,t3,t6]
end
section
open Go
variable {O:a8}
def rY:Nat->wF->wF
 | 0,.seq _ b=>b
 | n+1,.seq _ b=>rY n b
 | _,c=>c
def M9:Nat->wF->Prop
 | 0,.seq _ _=>True
 | n+1,.seq _ b=>M9 n b
 | _,_=>False
def abd (hO:ef O) {h:Nat} {c:wF} {l k:Nat} {s:St} {ex:Ex} {s':St} (hv:D O.prog O.az (comp O.P (O.hint h) c l k).1 s=some (ex,s')):zP O h c s ex s':=by
 obtain ⟨n,hn⟩:=Wb hv
 cases n with
 | zero=>rw [Gk] at hn;cases hn
 | succ n=>
  exact abO hO n (fun k _=>YR hO k) h c l k n (yB _) s ex s' hn
def afH (hO:ef O) {h:Nat} {ro:Option Nat} {lo:Nat} {Q:Exit->Act->yi->Prop}:∀(n:Nat) (c:wF) (l k:Nat),M9 n c->∀(s s1:St),D O.prog O.az (jc n (comp O.P (O.hint h) c l k).1) s=some (.normal,s1)->
  ∀(m:Mp) (S:Nat->Prop) (w:yi) (a:Act),rN ro w->bS O m S w s.tm a.tmps->aP O m S w s.hp s.ct->s.base<=s.ct->(O.hint h).n<=a.tmps.size->O.w0.heap.size<=lo->lo<=w.heap.size->Marks lo S w a.defers->
  (∀a' w',eh O m S w s .normal s1 a.tmps.size lo .normal a' w'->(rY n c).wpIn (WF ro) 0 O.P Q a' w')->c.wpIn (WF ro) 0 O.P Q a w
 | n,c,l,k,hc,s,s1,hv=>by
  intro m S w a cJ ht hh hb hn a6 eN cu hQ
  cases c with
  | seq x y=>
   cases n with
   | zero=>
    refine wpIn_seq (wpIn_mono (abd hO (show D O.prog O.az (comp O.P (O.hint h) x l k).1 s=some (.normal,s1) from hv) ro lo m S w a cJ ht hh hb hn a6 eN cu) ?_);rintro e a' w' hp;have he:e= .normal:=hp.1;subst he;exact hQ a' w' hp
   | succ n=>
    have ek:D O.prog O.az (.seq (comp O.P (O.hint h) x l k).1 (jc n (comp O.P (O.hint h) y (comp O.P (O.hint h) x l k).2.1 (comp O.P (O.hint h) x l k).2.2).1)) s=some (.normal,s1):=hv;rw [jq] at ek
    cases hx:D O.prog O.az (comp O.P (O.hint h) x l k).1 s with
    | none=>rw [hx] at ek;cases ek
    | some q=>
     obtain ⟨ex,st⟩:=q;rw [hx] at ek
     cases ex with
     | ret=>exact absurd ek (by intro h;cases h)
     | exit id=>exact absurd ek (by intro h;cases h)
     | normal=>
      refine wpIn_seq (wpIn_mono (abd hO hx ro lo m S w a cJ ht hh hb hn a6 eN cu) ?_);rintro e a' w' ⟨rfl,m',S',k1,k2,k3,k4,k5,k6,k7⟩;refine afH hO n y _ _ hc st s1 ek m' S' w' a' (JW k5 cJ) k1 k2 (by omega) (by omega) a6 (xb eN k5.size) k7 ?_;rintro a2 w2 ⟨_,m2,S2,g1,g2,g3,g4,g5,g6,g7⟩;exact hQ a2 w2 ⟨rfl,m2,S2,g1,g2,by omega,by omega,k5.trans (by rw [<-k3];exact g5),by omega,g7⟩
  | _=>cases n<;>exact hc.elim
def awy (hO:ef O) {n:Nat} {F:aD} (hF:O.prog n=some F) {fn:yae} {c:wF} (jS:O.P.funcs[O.af n]? =some fn) (iA:fn.body=some c) {hp:Hp} {ct:Nat} {ao:List AV} {s:St}
  (hc:(comp O.P (O.hint n) c 0 0).1=F.body->∀m S w a,bS O m S w (dR 0 ao) a.tmps->aP O m S w hp ct->(O.hint n).n<=a.tmps.size->a.tmps.size=max fn.ntmps ao.length->O.w0.heap.size<=w.heap.size->a.defers=[]->
   c.wpIn (WF none) 0 O.P (eh O m S w ⟨dR 0 ao,hp,ct,ct⟩ .ret s a.tmps.size w.heap.size) a w) {v:AV} (hr:gX s F.cZ=some v):zO O n hp ct ao v s.hp s.ct:=by
 intro m S w args hh fy;obtain ⟨fn',q1,q2,q3⟩:=hO.prog n F hF;rw [jS] at q1;cases q1;obtain ⟨c',q4,q5,q6,q7⟩:=Ox q2;rw [iA] at q4;cases q4;refine .inl ⟨CQ jS (by rw [iA];rfl) q3,?_⟩
 have hlen:ao.length=args.size:=by have:=(fX _ _ fy).symm;simpa using this
 have hw:=hc q5.symm m S w {tmps:=args++Array.replicate (fn.ntmps-args.size) undef,defers:=[]} (Z6 _ fy) hh (by simp;omega) (by simp;omega) hh.fw rfl
 refine callsIn_of_wp_marks (F:=yaN) jS iA trivial (wpIn_mono hw ?_);rintro e a' w' ⟨rfl,m',S',k1,k2,k3,k4,k5,k6,rs,k7,k8,k9⟩;show LeavesInM yaN 0 O.P fn a'.tmps (rE O m S w hp ct v s.hp s.ct) a'.defers .returning w'
 rw [k7];exact OZ q6 hr k4 rs w' k8 k9 hh.fw k2 k1 k5
def aqs (hO:ef O) {n:Nat} {F:aD} (hF:O.prog n=some F) {fn:yae} {c:wF} (jS:O.P.funcs[O.af n]? =some fn) (iA:fn.body=some c) {ao:List AV} {s:St}
  (hc:(comp O.P (O.hint n) c 0 0).1=F.body->∀m S w a,bS O m S w (dR 0 ao) a.tmps->aP O m S w [] 0->(O.hint n).n<=a.tmps.size->a.tmps.size=max fn.ntmps ao.length->O.w0.heap.size<=w.heap.size->a.defers=[]->
   c.wpIn (WF none) 0 O.P (eh O m S w ⟨dR 0 ao,[],0,0⟩ .ret s a.tmps.size w.heap.size) a w) {v r:AV} (hv:gX s F.cZ=some v) (hr:result s.hp v=some r):dN O n ao r:=
 Oo (awy hO hF jS iA hc hv) hr
end
section
open Go
def ZA {af:Nat->Nat} {m:Mp} {S:Nat->Prop} {w:yi} {b:Nat}:∀{ps:List (List Nat)} {o:Nat},bK af m S w (ps.map .str) b o->
  ∃ts:List ByteArray,(ts.map fun t=>t.data.toList.map xf)=ps/\∀i (h:i<ts.length),w.cell? ⟨b,o+i,none⟩=some (.string ts[i])
 | [],o,_=>⟨[],rfl,fun i h=>absurd h (Nat.not_lt_zero i)⟩
 | p::ps,o,h=>by
  obtain ⟨⟨u,h1,h2⟩,h3⟩:=h;obtain ⟨t,rfl,ht⟩:=h2;obtain ⟨ts,k1,k2⟩:=ZA h3;refine ⟨t::ts,by rw [xi,ht,k1],fun i hi=>?_⟩
  cases i with
  | zero=>exact h1
  | succ i=>
   grind
def mS (ts:List ByteArray):List UInt8:=(ts.map fun t=>t.data.toList).flatten
def asB {ts:List ByteArray} {ps:List (List Nat)} (h:(ts.map fun t=>t.data.toList.map xf)=ps):(mS ts.reverse).map xf=ps.reverse.flatten:=by
 subst h;unfold mS;rw [List.map_flatten,ybD,<-tZ];rfl
def asC {ts:List ByteArray} {ps:List (List Nat)} (h:(ts.map fun t=>t.data.toList.map xf)=ps):(ts.map (·.size)).sum=ps.reverse.flatten.length:=by
 subst h;rw [List.length_flatten,tZ,List.sum_reverse,ybD]
 congr 1
 simp_all
def PT (P:Program) (c:wF):Prop:=∀(Q:Exit->Act->yi->Prop) (a:Act) (w:yi) (neg:Bool) (ts:List ByteArray) (b o cc:Nat),a.tmps.size=69->a.tmps.getD 3 undef= .bool neg->a.tmps.getD 6 undef= .slice (some ⟨b,o,none⟩) ts.length cc->
  (∀i (h:i<ts.length),w.cell? ⟨b,o+i,none⟩=some (.string ts[i]))->(ts.map (·.size)).sum+1<=140737488355328->ts.length<=cc->ts.length<9223372036854775808->
  (∀a' w',Calm w w'->a'.tmps.size=69->a'.defers=a.defers->a'.tmps.getD 2 undef= .string ⟨((if neg then [45] else [])++mS ts.reverse).toArray⟩->Q .ret a' w')->
  (rY 5 c).wpIn Fence.wide 0 P Q a w
section
variable {O:a8}
def amS {n K:Nat} (h:n<18446744073709551616^K):(ax n).length<=20*K+1:=by
 refine oV (k:=20*K) (yE h ?_);have h1:(10:Nat)^(20*K)=(10^20)^K:=Nat.pow_mul ..;exact xb (by rw [h1];exact wU (by decide) K) (yT (by decide) (Nat.le_succ _))
def aqt (hO:ef O) (hN:Nu O.prog O.az) (B3:O.az.pure 138=some zd) (sD:O.az.pure 139=some zy) (EE:O.prog 99=some Co) {fn:yae} {c:wF} (jS:O.P.funcs[O.af 99]? =some fn) (iA:fn.body=some c) (NB:fn.ntmps=69)
  (WD:M9 5 c) (ht:PT O.P c) {s z:Int} {e:Bool} {l:List Nat} (hn:cV s (.aC e l.length (l.map uc)) z) (lG:0<z.natAbs) (hK:l.length<=4000000000) (Oj:z.natAbs<18446744073709551616^l.length):
  dN O 99 [.agg [ab s,.aC e l.length (l.map uc)]] (.str (aW z)):=by
 have hlen:=amS Oj;obtain ⟨ps,fj,Oh,za,e1⟩:=amR (P:=O.prog) (L:=O.az) hN B3 sD hn lG Oj hK (by omega)
 refine aqs hO EE jS iA (s:=⟨[(2,.str (aW z))],[(0,.cells true true false 1 (ps.map .str))],1,0⟩) (v:= .str (aW z)) ?_ rfl rfl;intro ayy m S w a htr hh q8 ej hgs Cw;refine afH hO 5 c 0 0 WD _ _ (by rw [ayy];exact e1) m S w a (fun l hl=>by cases hl) htr hh (yB _) q8 hgs (yB _) ⟨[],by rw [Cw];rfl,by simp,by simp⟩ ?_
 rintro a' w' ⟨_,m',S',k1,k2,k3,k4,k5,k6,k7⟩;have r3:=k1 3;have r6:=k1 6;have g3:aj [(3,AV.bool (decide (z<0))),(6,.aE 0 0 ps.length)] 3= .bool (decide (z<0)):=rfl;have g6:aj [(3,AV.bool (decide (z<0))),(6,.aE 0 0 ps.length)] 6= .aE 0 0 ps.length:=rfl;rw [g3] at r3;rw [g6] at r6;simp only [ah] at r3 r6;obtain ⟨p,cc,hm,r6,hcc,_⟩:=r6;obtain ⟨p',arr,t,gS,_,_,_,_,_,B9,_⟩:=k2.obj 0 _ p rfl hm;rw [hm] at gS;cases gS;obtain ⟨ts,lD,BB⟩:=ZA B9;have ma:ts.length=ps.length:=by rw [<-lD,List.length_map]
 have Ah:=asC lD;rw [<-za] at Ah;have WE:=asB lD;rw [<-za] at WE;refine ht _ a' w' (decide (z<0)) ts p.b p.o cc ?_ r3 (by rw [ma];exact r6) BB (by omega) (by omega) (by omega) ?_
 ·grind
 ·intro a2 w2 hc h1 h2 h3;have IU:=A1 k2 hc (S':=S') (fun _ h=>h) (fun _ h=> .inl h) (fun b hb=>yE (k2.slt b hb) hc.size);refine ⟨rfl,m',S',?_,IU,rfl,Nat.zero_le _,k5.trans (zk k2 hc (fun _ h=>h) (fun _ h=> .inl h)),?_,?_⟩
  ·intro i;by_cases hi:i=2
   ·subst hi;rw [h3];show ah O.af m' S' w2 (.str (aW z)) _
    simp only [ah];refine ⟨_,rfl,?_⟩;by_cases h0:z<0
    ·rw [nF h0,xa h0];simp only [xO,xI];rw [WE];rfl
    ·obtain ⟨n,rfl⟩:∃n:Nat,z=n:=⟨z.toNat,by omega⟩;rw [yM h0];simp only [yC,xj,xT];rw [WE];rfl
   ·have:aj [(2,AV.str (aW z))] i= .undef:=by
     have hb:yq 2 i=false:=by
      cases hq:yq 2 i with
      | false=>rfl
      | true=>exact absurd (Nat.eq_of_beq_eq_true hq).symm hi
     simp only [aj,hb,yY]
    show ah O.af m' S' w2 (aj [(2,AV.str (aW z))] i) _
    rw [this];simp only [ah]
  ·rw [h1,ej,NB];simp
  ·rw [h2]
   exact zj k2 (zk (base:=0) k2 hc (fun _ h=>h) (fun _ h=> .inl h)) k7
end
end
end VE
