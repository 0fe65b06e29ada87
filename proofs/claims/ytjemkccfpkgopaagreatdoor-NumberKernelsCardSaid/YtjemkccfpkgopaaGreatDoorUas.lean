import Derived.Test.YtjemkccfpkgopaaGreatDoorUar
import Derived.Test.YtjemkccfpkgopaaGreatDoorUaq
import Derived.Test.YtjemkccfpkgopaaGreatDoorUae
set_option linter.all false
set_option maxRecDepth 100000
open BitVec renaming ofInt→xG,ofNat→uo,toNat_ofNat→vl
open Bool renaming and_self→wN,not_false→yR,not_true→yQ,true_and→xH
open Int renaming ediv_emod_unique→uU,gcd→wO,gcd_comm→ybE,natAbs_ediv_of_dvd→ua,natAbs_mul→vO,natCast_mul→vv,pow_zero→tM,reduceEq→uJ,reduceLT→ybD
open List renaming append_assoc→xu,append_nil→wA,drop_drop→vH,drop_zero→yH,length_cons→yG,length_drop→xT,length_nil→yO,length_pos_iff→uV,length_take→yI,take_append_drop→xS,take_of_length_le→yN
open Nat renaming add_comm→yaH,add_zero→yZ,beq→yx,ble→yF,ble_eq_true_of_le→yt,blt→yP,div_add_mod→xR,div_eq_of_lt→wB,div_le_self→vh,eq_zero_or_pos→xn,le_trans→xf,lt_of_le_of_lt→we,lt_of_lt_of_le→yV,mod_eq_of_lt→yU,mod_le→ybW,mod_lt→xp,mul_add→xt,mul_add_div→yaN,mul_add_mod→yaO,mul_assoc→xk,mul_comm→xB,mul_le_mul_left→yW,mul_le_mul_right→yT,mul_lt_mul''→yaE,mul_lt_mul_of_pos_right→wK,mul_one→yi,mul_zero→xD,pos_of_ne_zero→yal,pow_add→wG,pow_le_pow_left→tg,pow_le_pow_right→xb,pow_succ→xc,reduceAdd→yb,reduceEqDiff→ya,reduceLeDiff→yy,zero_add→yg
open Rat renaming den_divInt→yaZ,divInt→wu,divInt_ofNat→yaF,num_divInt→yaY
namespace VE
section
open Go (IntKind)
def abu {b p A V bu bq0 U0 pre:Nat} (h1:bu=pre+p*A) (h2:bu+bq0*V=U0):(pre+p*(A%V))+(bq0+p*(A/V))*V=U0:=by
 have fy:=xR A V
 grind
def ay5 (hp:Hp) (ct:Nat) (ex:Bool) (sz n:Nat) (cs:List AV):own hp ct (.bt ex sz n cs)=(.aC ct 0 n,(ct,.cells true true ex sz cs)::hp,ct+1):=rfl
section
variable {P:aH} {L:Lib}
def aw5 (h:Wd P L) {w:AV} {vs:List Nat} (hw:bO w vs) (gv:lo 18446744073709551616 vs) {n la m:Nat} (lv:vs.length=n) (dV:2<=n) (Ot:n<=la) (Kj:la<=99999999999) (hm:m=la-n+1) (eJ:0<vs.getD (n-1) 0) {s U0:Nat}:
  ∀k st,(∃(j:Nat) (us qs:List Nat),aQ [9,10,11,12,13,14] st=⟨[(9,ab s),(10,w),(11,.aC 0 0 (la+1)),(12,ab n),(13,.aC 1 0 m),(14,ab ((j:Int)-1))],H2 qs us,2,0⟩/\j=k/\j<=m/\us.length=la+1/\qs.length=m/\lo 18446744073709551616 us/\lo 18446744073709551616 qs/\(∀i,i<j->qs.getD i 0=0)/\
    bv 18446744073709551616 us+bv 18446744073709551616 qs*bv 18446744073709551616 vs=U0/\bv 18446744073709551616 (us.drop j)<bv 18446744073709551616 vs)->
   ∃ex st',D P L (.loop [9,10,11,12,13,14] HM) st=some (ex,st')/\∃tm us qs,st'=⟨tm,H2 qs us,2,0⟩/\ex= .exit 2/\aj tm 9=ab s/\aj tm 11= .aC 0 0 (la+1)/\aj tm 12=ab n/\aj tm 13= .aC 1 0 m/\us.length=la+1/\qs.length=m/\lo 18446744073709551616 us/\lo 18446744073709551616 qs/\
    bv 18446744073709551616 us+bv 18446744073709551616 qs*bv 18446744073709551616 vs=U0/\bv 18446744073709551616 us<bv 18446744073709551616 vs:=by
 intro dq sq;generalize bk:aQ [9,10,11,12,13,14] sq=s0;revert bk s0 sq dq;apply di;rintro k st ⟨j,us,qs,rfl,rfl,hj,lu,lq,gu,gq,hz,aO,nA⟩
 cases j with
 | zero=>
  right
  simp only [go_sem,ya,HM,H2,show ¬(0:Int)<=((0:Nat):Int)-1 by omega];exact ⟨_,_,rfl,by simp,_,us,qs,rfl,rfl,by simp only [go_sem,ya],by simp only [go_sem,ya],by simp only [go_sem,ya],by simp only [go_sem,ya],lu,lq,gu,gq,aO,by simpa using nA⟩
 | succ j=>
  left
  have dH:(0:Nat)<18446744073709551616:=by decide
  obtain ⟨pre,eP⟩:∃p,p=us.take j:=⟨_,rfl⟩;obtain ⟨x,hx⟩:∃p,p=(us.drop j).take (n+1):=⟨_,rfl⟩;obtain ⟨post,fG⟩:∃p,p=us.drop (j+(n+1)):=⟨_,rfl⟩;have lp:pre.length=j:=by rw [eP,yI];omega
  have lx:x.length=n+1:=by rw [hx,yI,xT];omega
  have ju:us=pre++x++post:=by
   rw [eP,hx,fG,<-vH,xu,xS,xS]
  have gx:lo 18446744073709551616 x:=by rw [hx];exact z6 (afy gu _) _
  have Xi:lo 18446744073709551616 pre:=by rw [eP];exact z6 gu _
  have ay6:lo 18446744073709551616 post:=by rw [fG];exact afy gu _
  have hA:bv 18446744073709551616 (us.drop j)=us.getD j 0+18446744073709551616*bv 18446744073709551616 (us.drop (j+1)):=LQ (by omega);have CZ:=gg dH gu j;have YX:us.drop j=x++post:=by rw [fG,hx,<-vH,xS]
  have zH:bv 18446744073709551616 (us.drop j)=bv 18446744073709551616 x+18446744073709551616^(n+1)*bv 18446744073709551616 post:=by rw [YX,qh,lx]
  have Kh:=lQ gv;rw [lv] at Kh;have aW:bv 18446744073709551616 (us.drop j)<18446744073709551616*bv 18446744073709551616 vs:=by omega
  have hp0:bv 18446744073709551616 post=0:=by
   rcases xn (bv 18446744073709551616 post) with e | e
   ·exact e
   ·have h1:=yW (18446744073709551616^(n+1)) e;rw [yi,xc] at h1;rw [xc] at zH;omega
  rw [hp0,xD,yZ] at zH;have hl:gA x vs n (vs.getD (n-1) 0) (vs.getD (n-2) 0) (x.getD n 0) (x.getD (n-1) 0) (x.getD (n-2) 0):=
   ⟨dV,by omega,lx,lv,gx,gv,rfl,rfl,rfl,rfl,rfl,eJ,by rw [<-zH];exact aW⟩
  have N8:=hl.digit;obtain ⟨x',e1,YY,O1,Kk⟩:=aAr h hw hl (pre:=pre) (post:=post) (qs:=qs);rw [lp,<-ju] at e1;have YZ:bv 18446744073709551616 us=bv 18446744073709551616 pre+18446744073709551616^j*bv 18446744073709551616 x:=by
   have:=Hf (b:=18446744073709551616) us j (by omega)
   rw [zH,<-eP] at this;exact this
  have Xj:bv 18446744073709551616 (pre++x'++post)=bv 18446744073709551616 pre+18446744073709551616^j*bv 18446744073709551616 x':=by
   rw [xu,qh,qh,hp0,xD,yZ,lp]
  have bc:=ni (b:=18446744073709551616) (l:=qs) (i:=j) (x:=bv 18446744073709551616 x/bv 18446744073709551616 vs) (by omega);rw [hz j (by omega),xD,yZ] at bc;have kR:=abu (b:=0) YZ aO;have aP:=fun (hp:Hp) (ct:Nat)=>jH (hp:=hp) (ct:=ct) (id:=1) (v:=bv 18446744073709551616 x/bv 18446744073709551616 vs) (ex:=true) (l:=qs) (o:=j) (by omega)
  have p0:0<bv 18446744073709551616 vs:=by omega
  have ri:=xp (bv 18446744073709551616 x) p0;have kV:∀tm (x y:X),cW tm 0 (some x)=some j->cW tm (la+1) (some y)=some (j+n+1)->eV (H2 qs us) (.sl 1) (.aC 0 0 (la+1)) tm (some x) (some y)=some (.aC 0 j (n+1)):=fun tm x y h1 h2=>by
   rw [ath (cs:=us.map uc) (pu:=true) (ex:=true) rfl h1 h2 (by omega) (by omega),show j+n+1-j=n+1 by omega]
  simp only [go_sem,ya,yi,HM,H2,show ((j+1:Nat):Int)-1=(j:Int) by omega,show (0:Int)<=(j:Int) by omega,show (j:Int)+(n:Int)=((j+n:Nat):Int) from rfl,wrapN (n:=j+n) (by omega),show ((j+n:Nat):Int)+1=((j+n+1:Nat):Int) from rfl,wrapN (n:=j+n+1) (by omega),kV,dD,ahy,e1,cp 1 0 (show j<m by omega),yg,aP];refine ⟨_,j,rfl,by omega,j,pre++x'++post,qs.set j (bv 18446744073709551616 x/bv 18446744073709551616 vs),?_,rfl,by omega,by rw [n9,lp,YY,fG,xT];omega,by simp [lq],K8.2 ⟨K8.2 ⟨Xi,O1⟩,ay6⟩,lK gq N8,fun i hi=>by rw [n8 (by omega)];exact hz i (by omega),?_,?_⟩
  ·rw [wrap64 (by omega) (by omega)];simp only [go_sem,ya,yb,av,au hw.pu,ax _ hw.pu]<;>rfl
  ·rw [Xj,Kk,bc];exact kR
  ·rw [xu,List.drop_left' lp,qh,hp0,xD,yZ,Kk];exact ri
def ay7 {l:List Nat} {n:Nat} (h:l.length=n+1):18446744073709551616^n*l.getD n 0<=bv 18446744073709551616 l:=by
 have:=iO (b:=18446744073709551616) (l:=l) n
 grind
def nB {m K:Nat} {l:List Nat} (hn:fW l) (hv:bv 18446744073709551616 l=m) (h:m<18446744073709551616^K):l.length<=K:=aok (b:=18446744073709551616) (by decide) hn (by rw [hv];exact h)
def aw6 (h:Wd P L) {v w:AV} {x:List Nat} {d:Nat} (hv:bO v x) (hw:bO w [d]) (gx:lo 18446744073709551616 x) (lx:x.length<=90000000000) (fX:0<d) (YW:d<18446744073709551616) (ec:ak P L 158 [v,w] (ab (dF (bv 18446744073709551616 x) d))) (hc:d<=bv 18446744073709551616 x):
  ∃q r,ak P L 137 [v,w] (.ae [q,r])/\WN q (bv 18446744073709551616 x/d)/\WN r (bv 18446744073709551616 x%d):=by
 have dW:¬dF (bv 18446744073709551616 x) d<0:=by unfold dF;rw [yr (by omega)];split<;>decide
 obtain ⟨n,hn⟩:∃n,n=x.length:=⟨_,rfl⟩;have main:∃r l,(∀c:Nat->AV->AV->Option AV,True)/\r<d/\l.length=n/\lo 18446744073709551616 l/\bv 18446744073709551616 x=bv 18446744073709551616 l*d+r/\
   ∃q1 r1,bO q1 (dL l)/\bO r1 (dL [r])/\ak P L 137 [v,w] (.ae [q1,r1]):=by
  unfold ak;rw [aI h.Xg]
  simp only [go_sem,ya,IJ,hv.len,hv.ao,hw.len,hw.ao,ec,dW,yG,yO,yg,show ((1:Nat):Int)=(1:Int) from rfl,<-hn,CA (n:=n) _ (by omega)];generalize hq:D P L (.loop [0,1,6,7,8] HL) _=q;obtain ⟨ex,s,rfl,tm,r,l,rfl,rfl,t6,t7,nH,bf,hr,aO⟩:=bI hq (aw3 (P:=P) (L:=L) h hv gx (by omega) hw fX YW hn n) ⟨n,0,[],by
   rw [wrap64 (by omega) (by omega),wA]
   simp only [go_sem,ya,yb,av,au hv.pu,ax _ hv.pu,au hw.pu,ax _ hw.pu]<;>rfl,rfl,rfl,L8,fX,by rw [List.drop_eq_nil_of_le (by omega)];simp [bv]⟩
  have hf:=mw true l;rw [nH] at hf;obtain ⟨q1,e1,eZ⟩:=AI h.lZ hf (by omega);obtain ⟨r1,e2,cV⟩:=AI h.lZ (mw true [r]) (by simp);simp only [yG,yO,yg,List.map_cons,List.map_nil] at e2;refine ⟨r,l,fun _=>trivial,hr,nH,bf,aO,q1,r1,eZ,cV,?_⟩
  simp only [go_sem,ya,yb,Nat.reduceLT,yy,yi,av,t6,t7,AH _ (n:=n) (l:=l) nH true,e1,eZ.shut,e2,cV.shut];exact RB eZ cV _
 obtain ⟨r,l,_,hr,nH,bf,aO,q1,r1,eZ,cV,e⟩:=main;have hq:bv 18446744073709551616 l=bv 18446744073709551616 x/d:=by
  rw [aO,xB,yaN fX,wB hr,yZ]
 have hm:r=bv 18446744073709551616 x%d:=by
  rw [aO,xB,yaO,yU hr]
 exact ⟨q1,r1,e,⟨_,eZ,zW bf,zV _,by rw [zU,hq]⟩,⟨_,cV,zW (D6.2 (by omega)),zV _,by rw [zU,Af,hm]⟩⟩
def aw7 (h:Wd P L) {v w:AV} {x y:List Nat} (hv:bO v x) (hw:bO w y) (gx:lo 18446744073709551616 x) (gy:lo 18446744073709551616 y) (nx:fW x) (ny:fW y) (lx:x.length<=90000000000) (ly:2<=y.length) (ec:ak P L 158 [v,w] (ab (dF (bv 18446744073709551616 x) (bv 18446744073709551616 y)))) (hc:bv 18446744073709551616 y<=bv 18446744073709551616 x):
  ∃q r,ak P L 137 [v,w] (.ae [q,r])/\WN q (bv 18446744073709551616 x/bv 18446744073709551616 y)/\WN r (bv 18446744073709551616 x%bv 18446744073709551616 y):=by
 have dH:(0:Nat)<18446744073709551616:=by decide
 have dW:¬dF (bv 18446744073709551616 x) (bv 18446744073709551616 y)<0:=by unfold dF;rw [yr (by omega)];split<;>decide
 have hyx:y.length<=x.length:=by
  by_cases hh:x.length<y.length
  ·have:=LK (b:=18446744073709551616) (by decide) gx ny hh;omega
  ·omega
 obtain ⟨n,hn⟩:∃n,n=y.length:=⟨_,rfl⟩;obtain ⟨la,Kj⟩:∃la,la=x.length:=⟨_,rfl⟩;have Ar:=Lo ny (fun e=>by subst e;simp at ly);have C0:=gg dH gy (y.length-1);have Y0:=hw.aM (i:=y.length-1) (by omega);have kY:=ay7 (l:=y) (n:=n-1) (by omega);rw [<-hn] at Ar C0 Y0;obtain ⟨top,nA⟩:∃top,y.getD (n-1) 0=top:=⟨_,rfl⟩;rw [nA] at Ar C0 Y0 kY;have elz:=agO (P:=P) (f:=D P L) h.Jp C0;obtain ⟨z1,z2,z3⟩:=QA (yal Ar) C0;generalize 64-et 64 top=s at*
 obtain ⟨ov,ev,lov,gov,vov⟩:=ajh h.ajm hw gy (by omega) z1;obtain ⟨ou,eu,lou,gou,vou⟩:=ajh h.ajm hv gx (by omega) z1;obtain ⟨v',Y1,ek⟩:=AI h.lZ (mw true ov) (by omega);rw [lov,<-hn] at Y1;rw [<-hn] at ev;rw [<-Kj] at eu lou;have gI:=Nat.two_pow_pos s;obtain ⟨vs,zn⟩:∃vs,vs=dL ov:=⟨_,rfl⟩;rw [<-zn] at ek;have C1:lo 18446744073709551616 vs:=by rw [zn];exact zW gov
 have Kl:fW vs:=by rw [zn];exact zV _
 have rR:bv 18446744073709551616 vs=bv 18446744073709551616 y*2^s:=by rw [zn,zU,vov]
 have hyW:bv 18446744073709551616 y*2^s<18446744073709551616^n:=by
  have e:18446744073709551616=2^(64-s)*2^s:=by rw [<-wG,show 64-s+s=64 by omega]
  have e1:=iO (b:=18446744073709551616) (l:=y) (n-1);rw [show n-1+1=n by omega,yN (by omega),nA] at e1;have e2:=lQ (z6 gy (n-1));rw [yI,Nat.min_eq_left (by omega)] at e2;have e3:top<2^(64-s):=Nat.lt_of_mul_lt_mul_right (a:=2^s) (Nat.lt_of_lt_of_eq z3 e);have e4:=yT (2^s) (show top+1<=2^(64-s) from e3);rw [<-e] at e4;have e5:bv 18446744073709551616 y<18446744073709551616^(n-1)*(top+1):=by rw [xt,yi];omega
  have e6:=wK e5 gI;rw [xk] at e6;have e7:=yW (18446744073709551616^(n-1)) e4;rw [<-xc,show (n-1).succ=n by omega] at e7;exact yV e6 e7
 have aAs:18446744073709551616^(n-1)*2^s<=bv 18446744073709551616 vs:=by
  rw [rR];refine yT _ (xf ?_ kY)
  have:=yW (18446744073709551616^(n-1)) (show 1<=top by omega)
  omega
 have zI:vs.length=n:=by
  have h1:vs.length<=n:=by
   refine nB Kl rR ?_;exact hyW
  have h2:¬vs.length<n:=fun hh=>by
   have e1:=lQ C1;have e2:18446744073709551616^vs.length<=18446744073709551616^(n-1):=xb dH (by omega);have e3:=yT (2^s) kY;rw [xk,<-rR] at e3;have e4:=yW (18446744073709551616^(n-1)) (show 1<=top*2^s by omega);omega
  omega
 have eJ:0<vs.getD (n-1) 0:=by
  have:=Lo Kl (fun e=>by rw [e] at zI;simp at zI;omega)
  rw [zI] at this;exact yal this
 obtain ⟨m,hm⟩:∃m,m=la-n+1:=⟨_,rfl⟩;have R7:bv 18446744073709551616 (ou.drop m)<bv 18446744073709551616 vs:=by
  have e1:=Hf (b:=18446744073709551616) ou m (by omega);have e2:=lQ gx;rw [<-Kj] at e2;have e3:=wK e2 gI;rw [<-vou] at e3;have e4:18446744073709551616^la=18446744073709551616^m*18446744073709551616^(n-1):=by rw [<-wG];congr 1;omega
  rw [e4,xk] at e3;have e5:18446744073709551616^m*bv 18446744073709551616 (ou.drop m)<18446744073709551616^m*(18446744073709551616^(n-1)*2^s):=by omega
  exact yV (Nat.lt_of_mul_lt_mul_left e5) aAs
 have e1y:(y.length:Int)-1=((n-1:Nat):Int):=by omega
 have aAt:((la:Nat):Int)-(n:Int)=((m-1:Nat):Int):=by omega
 have iB:∃tm us qs rs,(us.length=la+1/\qs.length=m/\lo 18446744073709551616 us/\lo 18446744073709551616 qs/\bv 18446744073709551616 us+bv 18446744073709551616 qs*bv 18446744073709551616 vs=bv 18446744073709551616 x*2^s/\bv 18446744073709551616 us<bv 18446744073709551616 vs/\
   rs.length=n/\lo 18446744073709551616 rs/\bv 18446744073709551616 rs*2^s+us.getD 0 0%2^s=bv 18446744073709551616 (us.take n)+18446744073709551616^n*(us.getD n 0%2^s))/\aj tm 0=v/\
   ∃q1 r1,bO q1 (dL qs)/\bO r1 (dL rs)/\ak P L 137 [v,w] (.ae [q1,r1]):=by
  unfold ak at ec ev eu Y1;unfold ak;rw [aI h.Xg];have hfo:=AH (n:=n+1) (l:=ov) (hp:=[]) (by omega) true
  simp only [go_sem,ya,yb,IJ,hv.len,hv.ao,hw.len,hw.ao,ec,dW,show ¬(y.length:Int)=1 by omega,e1y,wrapN (n:=n-1) (by omega),Y0,elz,ev,ay5,AH _ (n:=n+1) (l:=ov) (by omega) true,Y1,ek.len,ek.shut,eu,zI,<-Kj,aAt,wrapN (n:=m-1) (by omega),show ((m-1:Nat):Int)+1=(m:Int) by omega,wrapN (n:=m) (by omega),CA (n:=m) _ (by omega)];generalize mj:D P L (.loop [9,10,11,12,13,14] HM) _=qq;obtain ⟨ex,st,rfl,tm,us,qs,rfl,rfl,t9,t11,t12,t13,O2,O3,FD,Y2,aO,aW⟩:=bI mj (aw5 (P:=P) (L:=L) h ek C1 zI (by omega) (by omega) (by omega) hm eJ (s:=s) (U0:=bv 18446744073709551616 x*2^s) m) ⟨m,ou,List.replicate m 0,by
   rw [show ((m-1:Nat):Int)=(m:Int)-1 by omega]
   simp only [go_sem,ya,yb,av,au ek.pu,ax _ ek.pu]<;>rfl,rfl,Nat.le_refl _,lou,by simp,gou,D7 dH m,fun i _=>BH m i,by rw [D8,Nat.zero_mul,yZ,vou],R7⟩
  simp only [go_sem,ya,yb,av,t9,t11,t12,t13];generalize CC:D P L (.loop [9,11,12,13,96,97] DP) _=YS;obtain ⟨ex,st,rfl,ru,rs,rfl,rfl,t11,t12,t13,Y3,Y4,N9⟩:=bI CC (aw4 (P:=P) (L:=L) (qs:=qs) (m:=m) (la:=la+1) (n:=n) z1 O2 FD (by omega) (by omega) n) ⟨0,[],by simp only [go_sem,ya,yb,av]<;>rfl,by omega,rfl,L8,by simp [bv]⟩
  have kV:∀(hp:Hp) tm (y:X),aB hp 0=some (.cells true true true 1 ((rs++us.drop n).map uc))->cW tm (la+1) (some y)=some n->eV hp (.sl 1) (.aC 0 0 (la+1)) tm none (some y)=some (.aC 0 0 n):=fun hp tm y h1 h2=>acn h1 h2 (by omega) (by omega)
  have Km:=mw true qs;rw [O3] at Km;obtain ⟨q1,f1,eZ⟩:=AI h.lZ Km (by omega);have eD:(rs++us.drop n).take n=rs:=by rw [List.take_append_of_le_length (by omega),yN (by omega)]
  have Kn:∃e,∀hp:Hp,jY 0 n (some (true,1,(rs++us.drop n).map uc,hp))=some (.ai e n (rs.map uc),hp):=by
   refine ⟨true&&yP 0 1&&yx n ((rs++us.drop n).map uc).length,fun hp=>?_⟩;simp only [jY,yg,yi,slice,yH,<-List.map_take,eD];rw [yt (by simp;omega)];rfl
  obtain ⟨e,Kn⟩:=Kn;have iI:=mw e rs;rw [Y3] at iI;obtain ⟨r1,f2,cV⟩:=AI h.lZ iI (by omega);unfold ak at f1 f2;refine ⟨[(0,v)],us,qs,rs,⟨O2,O3,FD,Y2,aO,aW,Y3,Y4,N9⟩,rfl,q1,r1,eZ,cV,?_⟩
  simp only [go_sem,ya,yb,av,t11,t12,t13,AH _ (n:=m) (l:=qs) O3 true,f1,eZ.shut,kV,dD,Kn,f2,cV.shut];exact RB eZ cV _
 obtain ⟨tm,us,qs,rs,⟨O2,O3,FD,Y2,aO,aW,Y3,Y4,N9⟩,_,q1,r1,eZ,cV,e⟩:=iB;have jo:0<bv 18446744073709551616 y:=by
  have:=yW (18446744073709551616^(n-1)) (show 1<=top by omega)
  have:=Nat.pow_pos (n:=n-1) dH
  omega
 rw [rR] at aO aW;have Jq:bv 18446744073709551616 qs=bv 18446744073709551616 x/bv 18446744073709551616 y:=by
  rw [<-Nat.mul_div_mul_right _ _ gI,<-aO,yaH,xB,yaN (Nat.mul_pos jo gI),wB aW,yZ]
 have O4:bv 18446744073709551616 us=(bv 18446744073709551616 x%bv 18446744073709551616 y)*2^s:=by
  rw [<-Nat.mul_mod_mul_right,<-aO,yaH,xB (bv _ qs),yaO,yU aW]
 have ju:=Hf (b:=18446744073709551616) us n (by omega);have fX:bv 18446744073709551616 (us.drop n)=0:=by
  rcases xn (bv 18446744073709551616 (us.drop n)) with h0 | h0
  ·exact h0
  ·have:=yW (18446744073709551616^n) h0
   omega
 have hun:us.getD n 0=0:=by
  have:=LQ (b:=18446744073709551616) (l:=us) (i:=n) (by omega)
  omega
 rw [fX,xD,yZ] at ju;have A9:us.getD 0 0%2^s=0:=by
  have e1:=LQ (b:=18446744073709551616) (l:=us) (i:=0) (by omega);rw [yH,O4] at e1;have e2:18446744073709551616=2^s*2^(64-s):=by rw [<-wG,show s+(64-s)=64 by omega]
  have e3:(us.getD 0 0+18446744073709551616*bv 18446744073709551616 (us.drop (0+1)))%2^s=us.getD 0 0%2^s:=by
   conv=>lhs;rw [e2,xk]
   exact Nat.add_mul_mod_self_left _ _ _
  rw [<-e3,<-e1,Nat.mul_mod_left]
 rw [hun,A9,Nat.zero_mod,xD,yZ,yZ,<-ju,O4] at N9;have ahz:bv 18446744073709551616 rs=bv 18446744073709551616 x%bv 18446744073709551616 y:=Nat.eq_of_mul_eq_mul_right gI N9;exact ⟨q1,r1,e,⟨_,eZ,zW Y2,zV _,by rw [zU,Jq]⟩,⟨_,cV,zW Y4,zV _,by rw [zU,ahz]⟩⟩
def ajp (h:Wd P L) {v w:AV} {a b K:Nat} (hv:WN v a) (hw:WN w b) (hb:0<b) (ha:a<18446744073709551616^K) (hbK:b<18446744073709551616^K) (hK:K<=90000000000):
  ∃q r,ak P L 137 [v,w] (.ae [q,r])/\WN q (a/b)/\WN r (a%b):=by
 obtain ⟨x,FE,gx,nx,vx⟩:=hv;obtain ⟨y,O5,gy,ny,vy⟩:=hw;have lx:x.length<=90000000000:=xf (nB nx vx ha) hK;have ly:y.length<=90000000000:=xf (nB ny vy hbK) hK;have ec:=ajc h.ajn FE O5 gx gy nx ny (by omega) (by omega);subst vx;subst vy;by_cases hc:bv 18446744073709551616 x<bv 18446744073709551616 y
 ·have dW:dF (bv 18446744073709551616 x) (bv 18446744073709551616 y)= -1:=by unfold dF;rw [yE hc]
  rw [dW] at ec;refine ⟨.aa,v,?_,⟨[],r8,L8,rfl,by rw [wB hc];rfl⟩,⟨x,FE,gx,nx,by rw [yU hc]⟩⟩
  unfold ak;rw [aI h.Xg];simp only [go_sem,ya,IJ,FE.ao,O5.ao,ec,show (-1:Int)<0 by decide];exact RB r8 FE _
 ·rcases (show y.length=0\/y.length=1\/2<=y.length by omega) with h0 | h1 | h2
  ·rw [List.eq_nil_of_length_eq_zero h0] at hb;simp [bv] at hb
  ·obtain ⟨d,rfl⟩:∃d,y=[d]:=by
    cases y with
    | nil=>simp at h1
    | cons d r=>cases r with
     | nil=>exact ⟨d,rfl⟩
     | cons e r=>simp at h1
   exact aw6 h FE O5 gx lx hb (D6.1 gy) ec (by omega)
  ·exact aw7 h FE O5 gx gy nx ny lx h2 ec (by omega)
end
end
section
open Go (IntKind)
def jJ (v:AV) (n:Int):Prop:=∃w l,v= .agg [.bool (decide (n<0)),w]/\br w l/\dg l/\nz l/\dv l=n.natAbs
def iP {l:List Int} {k:Nat} (hd:dg l) (hn:nz l) (h:dv l<1000000000^k):l.length<=k:=by
 by_cases h0:l=[]
 ·grind
 ·have h1:=Ms hn hd h0;have h2:1000000000^(l.length-1)<1000000000^k:=we h1 h;have h3:=(Nat.pow_lt_pow_iff_right (show 1<1000000000 by decide)).1 h2;omega
def gj {hp:Hp} {ct id:Nat} {a b x y:AV} (h1:dc a=true) (h2:dc b=true) (p1:aZ a=true) (p2:aZ b=true):
  gU hp ct id 0 2 [a,b] (some (.cells true true true 2 [x,y]))=some (.ae [],bc hp id (.cells true true true 2 [a,b]),ct):=by
 rw [qQ (by rfl) (by simp) (by simp [cm,h1,h2])];simp [aG,p1,p2,over]
section
variable {P:aH} {L:Lib}
def cA (neg:Bool) (m:Nat):Int:=if neg=true then -(m:Int) else m
def za (h:Has P L 294 Ay) (cR:Has P L 300 kS) (neg:Bool) {v:AV} {l:List Int} (hv:br v l) (hd:dg l) (hl:l.length<=20000000000):
  ∃r,ak P L 294 [.bool neg,v] r/\jJ r (cA neg (dv l)):=by
 obtain ⟨w,e1,hw,jq⟩:=AG cR hv hl;have py:=r7 l;have Bf:=DG l;have kF:=zT hd;have hc:(neg&&decide ((0:Int)<((dK l).length:Nat)))=decide (cA neg (dv l)<0):=by
  unfold cA
  cases neg with
  | false=>simp
  | true=>
   simp only [xH,xA];by_cases h0:dK l=[]
   ·rw [h0] at py ⊢;simp only [dv] at py;simp [<-py]
   ·have h1:0<(dK l).length:=uV.2 h0;have h2:0<dv l:=by
     rw [<-py];rcases xn (dv (dK l)) with h | h
     ·exact absurd (afw Bf kF h) h0
     ·exact h
    rw [xi (by omega),xi (by omega)]
 refine ⟨.agg [.bool (decide (cA neg (dv l)<0)),w],?_,w,dK l,rfl,hw,kF,Bf,?_⟩
 ·rw [<-hc];unfold ak at e1 ⊢;rw [aI h]
  cases neg with
  | false=>
   simp only [go_sem,ya,yb,yy,Ay,bg,hv.ao,e1,hw.pu,hw.shut,hw.one,hw.cells,gj];rcases hw with ⟨rfl,_⟩ | ⟨e,rfl⟩<;>rfl
  | true=>
   simp only [go_sem,ya,yb,yy,Ay,bg,hv.ao,e1,hw.len,hw.pu,hw.shut,hw.one,hw.cells,gj];rcases hw with ⟨rfl,_⟩ | ⟨e,rfl⟩<;>rfl
 ·rw [py];unfold cA;split<;>omega
def ajq (h:Has P L 298 M6) (iW:Has P L 294 Ay) (cR:Has P L 300 kS) {v:AV} {n:Int} {K:Nat} (hK:K<=20000000000) (hv:jJ v n) (hn:n.natAbs<1000000000^K):∃r,ak P L 298 [v] r/\jJ r (-n):=by
 obtain ⟨w,l,rfl,hw,hd,hz,py⟩:=hv;obtain ⟨r,e1,hr⟩:=za iW cR (!decide (n<0)) hw hd (xf (iP hd hz (by rw [py];exact hn)) hK)
 have e:cA (!decide (n<0)) (dv l)= -n:=by
  rw [py];unfold cA;by_cases h0:n<0
  ·simp [h0];omega
  ·simp [h0];omega
 rw [e] at hr;obtain ⟨w2,l2,rfl,gJ,gH,jm,zb⟩:=hr;refine ⟨_,?_,w2,l2,rfl,gJ,gH,jm,zb⟩;unfold ak at e1 ⊢;rw [aI h];simp only [go_sem,ya,yb,M6,bg,hw.pu,hw.ao,hw.one,gJ.pu,gJ.one,bY,yg,cX,e1,gj,bW];rcases gJ with ⟨rfl,_⟩ | ⟨e,rfl⟩<;>rfl
end
end
section
open Go (IntKind)
def dh (s:Int) (w:AV) (z:Int):Prop:=
 (w= .aa/\s=z/\-9223372036854775808<=z/\z<9223372036854775808)\/
 (∃e l,w= .ai e l.length (l.map uc)/\lo 18446744073709551616 l/\fW l/\bv 18446744073709551616 l=z.natAbs/\s=(if z<0 then -1 else 1)/\9223372036854775808<=z.natAbs)
def cE (v:AV) (z:Int):Prop:=∃s w,v= .agg [ab s,w]/\dh s w z
def Bd (k:Nat) (z:Int):Prop:=z.natAbs<2^k
def Ah (k:Nat):2^k<=18446744073709551616^k:=tg (by decide) k
def Bd.mono {k m:Nat} {z:Int} (h:Bd k z) (hk:k<=m):Bd m z:=yV h (xb (by decide) hk)
def Bd.neg {k:Nat} {z:Int} (h:Bd k z):Bd k (-z):=by unfold Bd at h ⊢;rwa [Int.natAbs_neg]
def Bd.add {k m:Nat} {a b:Int} (ha:Bd k a) (hb:Bd m b):Bd (max k m+1) (a+b):=by
 have h1:Bd (max k m) a:=ha.mono (by omega);have h2:Bd (max k m) b:=hb.mono (by omega);unfold Bd at h1 h2 ⊢
 grind
def Bd.mul {k m:Nat} {a b:Int} (ha:Bd k a) (hb:Bd m b):Bd (k+m) (a*b):=by
 unfold Bd at*
 rw [vO,wG];exact yaE ha hb
def Bd.le {k:Nat} {a b:Int} (hb:Bd k b) (h:a.natAbs<=b.natAbs):Bd k a:=we h hb
def WN.pos {v:AV} {m:Nat} (h:WN v m) (h0:0<m):∃e l,v= .ai e l.length (l.map uc)/\l≠[]/\lo 18446744073709551616 l/\fW l/\bv 18446744073709551616 l=m:=by
 obtain ⟨l,hv,g,n,hb⟩:=h;have hl:l≠[]:=fun e=>by subst e;simp [bv] at hb;omega
 rcases hv with ⟨_,e⟩ | ⟨e,rfl⟩
 ·simp_all
 ·exact ⟨e,l,by simp,hl,g,n,hb⟩
def WN.aV {v:AV} {m:Nat} (h:WN v m):∃l,bO v l/\lo 18446744073709551616 l/\fW l/\bv 18446744073709551616 l=m:=h
def nj (e:Bool) (n:Nat) (cs:List AV):jj .sl (.ai e n cs) .aa=some false:=rfl
def gk:jj .sl .aa .aa=some true:=rfl
def LR (hp:Hp) (ct id:Nat) (a:Int) (e:Bool) (n:Nat) (cs:List AV) (x y:AV):gU hp ct id 0 2 [.int .i64 a,.ai e n cs] (some (.cells true true true 2 [x,y]))=some (.ae [],bc hp id (.cells true true true 2 [.int .i64 a,.ai e n cs]),ct):=gj rfl rfl rfl rfl
def qD {tm:Env} {a x y:AV} {r:List (Nat×Nat×X)} (h:dc a=true):qR tm [x,y] 0 1 [a] r=fill tm [a,y] r:=afF (by simp) h
def dh.nY {z:Int} (h1: -9223372036854775808<=z) (h2:z<9223372036854775808):cE (.agg [ab z,.aa]) z:=⟨z,.aa,rfl,.inl ⟨rfl,rfl,h1,h2⟩⟩
def dh.db {s:Int} {w:AV} {z:Int} (h:dh s w z):(s<0↔z<0)/\(s=0↔z=0)/\-9223372036854775808<=s/\s<9223372036854775808:=by
 rcases h with ⟨_,rfl,h1,h2⟩ | ⟨e,l,_,_,_,_,rfl,h1⟩
 ·grind
 ·grind
section
variable {P:aH} {L:Lib}
structure Nu (P:aH) (L:Lib):Prop extends Wd P L where
 aAu:Has P L 117 MP
 aAv:Has P L 142 MR
 Xk:Has P L 136 II
 Jr:Has P L 145 sP
 aAw:Has P L 146 Sv
 Xl:Has P L 147 IK
 ajr:Has P L 163 MW
 aAx:Has P L 118 Cn
 ajs:Has P L 119 c119
 aAy:Has P L 156 Sx
 Oa:Has P L 100 lV
 Xm:Has P L 164 lW
 aAz:Has P L 148 Sw
 aAA:Has P L 130 Su
def CD (h:Nu P L) {z:Int} (h1: -9223372036854775808<=z) (h2:z<9223372036854775808):ak P L 117 [ab z] (.agg [ab z,.aa])/\cE (.agg [ab z,.aa]) z:=⟨n117 h.aAu z,dh.nY h1 h2⟩
def Xn (h:Nu P L) {n:Int} (h1: -9223372036854775808<=n) (h2:n<9223372036854775808):ak P L 142 [ab n] (uc n.natAbs):=by
 unfold ak;rw [aI h.aAv];by_cases h0:n<0
 ·have e:IntKind.wrap .u64 (IntKind.wrap .i64 (0-n))=(n.natAbs:Int):=by
   by_cases hm:n= -9223372036854775808
   ·subst hm;rfl
   ·rw [wrap64 (by omega) (by omega),My];omega
  simp only [go_sem,ya,MR,h0,agM,e]
 ·have e:IntKind.wrap .u64 n=(n.natAbs:Int):=by rw [My];omega
  simp only [go_sem,ya,MR,h0,agM,e]
def zd (h:Nu P L) {s:Int} {w:AV} {z:Int} (hz:dh s w z):∃r,ak P L 136 [.agg [ab s,w]] (.ae [.bool (decide (z<0)),r])/\WN (bT r) z.natAbs:=by
 rcases hz with ⟨rfl,rfl,h1,h2⟩ | ⟨e,l,rfl,g,n,hb,hs,h1⟩
 ·by_cases h0:s=0
  ·subst h0;refine ⟨.aa,?_,[],r8,L8,rfl,rfl⟩;unfold ak;rw [aI h.Xk];simp only [go_sem,ya,yb,II,bg,bY,yg,cX,gk,H9,ybD];rfl
  ·have e1:=Xn h h1 h2;refine ⟨.bt true 1 1 [uc s.natAbs],?_,[s.natAbs],mw true [s.natAbs],D6.2 (by omega),Dp (by omega) [],Af _⟩;unfold ak;rw [aI h.Xk];simp only [go_sem,ya,yb,yy,yi,II,bg,bY,yg,cX,gk,H9,h0,e1];rfl
 ·have zk:decide (s<0)=decide (z<0):=by rw [hs];split<;>simp<;>omega
  refine ⟨.ai e l.length (l.map uc),?_,l,mw e l,g,n,hb⟩;unfold ak;rw [aI h.Xk];simp only [go_sem,ya,yb,II,bg,bY,yg,cX,nj,H9,zk];rfl
def abv {d:Nat} (h:d<=9223372036854775807):IntKind.wrap .i64 (d:Int)=d:=wrapN (by omega)
def CE (h:Nu P L) (neg:Bool) {w:AV} {m K:Nat} (hw:WN w m) (hm:m<18446744073709551616^K) (hK:K<=90000000000):∃r,ak P L 145 [.bool neg,w] r/\cE r (cA neg m):=by
 obtain ⟨l,hu,g,n,hb⟩:=hw;have nH:l.length<=90000000000:=xf (nB n hb hm) hK;by_cases h0:l=[]
 ·subst h0
  have:m=0:=by rw [<-hb];rfl
  subst this;have e:cA neg 0=0:=by unfold cA;cases neg<;>rfl
  rw [e];refine ⟨.agg [ab 0,.aa],?_,dh.nY (by decide) (by decide)⟩;unfold ak;rw [aI h.Jr];simp only [go_sem,ya,yb,sP,bg,hu.len,yO,show (((0:Nat):Nat):Int)=0 from rfl,qJ];rfl
 ·have ko:0<l.length:=uV.2 h0;by_cases h1:l.length=1/\l.getD 0 0<=9223372036854775807
  ·obtain ⟨h1,h2⟩:=h1;obtain ⟨d,rfl⟩:∃d,l=[d]:=by
    cases l with
    | nil=>simp at h1
    | cons d r=>cases r with
     | nil=>exact ⟨d,rfl⟩
     | cons e r=>simp at h1
   have h2:d<=9223372036854775807:=h2;rw [Af] at hb;subst hb;have ex:=hu.aM (i:=0) (by simp);rw [show ([d]:List Nat).getD 0 0=d from rfl] at ex;have hlen:∀hp,fp hp 1 w=some (.int .i64 1):=fun hp=>hu.len
   cases neg with
   | true=>
    refine ⟨.agg [ab (0-(d:Int)),.aa],?_,?_⟩
    ·unfold ak;rw [aI h.Jr]
     simp only [go_sem,ya,yb,yy,sP,bg,hlen,uJ,ex,show (d:Int)<=9223372036854775807 by omega,Ma,abv h2,wrap64 (n:=0-(d:Int)) (by omega) (by omega),qJ];rfl
    ·have:cA true d=0-(d:Int):=by unfold cA;simp
     rw [this];exact dh.nY (by omega) (by omega)
   | false=>
    refine ⟨.agg [ab (d:Int),.aa],?_,?_⟩
    ·unfold ak;rw [aI h.Jr];simp only [go_sem,ya,yb,yy,sP,bg,hlen,uJ,ex,show (d:Int)<=9223372036854775807 by omega,Ma,abv h2,qJ];rfl
    ·have:cA false d=(d:Int):=by unfold cA;simp
     rw [this];exact dh.nY (by omega) (by omega)
  ·have hm0:9223372036854775808<=m:=by
    rw [<-hb];by_cases h2:l.length=1
    ·obtain ⟨d,rfl⟩:∃d,l=[d]:=by
      cases l with
      | nil=>simp at h2
      | cons d r=>cases r with
       | nil=>exact ⟨d,rfl⟩
       | cons e r=>simp at h2
     have:¬d<=9223372036854775807:=fun hd=>h1 ⟨h2,hd⟩
     rw [Af];omega
    ·have h3:=Rx (b:=18446744073709551616) (by decide) n h0;have h4:18446744073709551616^1<=18446744073709551616^(l.length-1):=xb (by decide) (by omega);rw [Nat.pow_one] at h4;omega
   have dt:∃e,w= .ai e l.length (l.map uc):=by
    rcases hu with ⟨rfl,hh⟩ | ⟨e,rfl⟩
    ·simp at hh;exact absurd hh h0
    ·exact ⟨e,by simp⟩
   obtain ⟨e,rfl⟩:=dt;have ex:=hu.aM (i:=0) ko;have first:(decide ((l.length:Int)=1)=true/\¬((l.getD 0 0:Nat):Int)<=9223372036854775807)\/decide ((l.length:Int)=1)=false:=by
    by_cases h2:l.length=1
    ·left;refine ⟨by simp;omega,fun hd=>h1 ⟨h2,by omega⟩⟩
    ·right;simp;omega
   cases neg with
   | true=>
    refine ⟨.agg [ab (-1),.ai e l.length (l.map uc)],?_,-1,_,rfl,.inr ⟨e,l,rfl,g,n,by rw [hb];unfold cA;simp,by unfold cA;simp;omega,by unfold cA;simp;omega⟩⟩
    unfold ak;rw [aI h.Jr];rcases first with ⟨f1,f2⟩ | f1
    ·simp only [go_sem,ya,yb,yy,sP,bg,show ¬(l.length:Int)=0 by omega,f1,f2,ex,qD,LR];rfl
    ·simp only [go_sem,ya,yb,yy,sP,bg,show ¬(l.length:Int)=0 by omega,f1,qD,LR];rfl
   | false=>
    refine ⟨.agg [ab 1,.ai e l.length (l.map uc)],?_,1,_,rfl,.inr ⟨e,l,rfl,g,n,by rw [hb];unfold cA;simp,by unfold cA;simp,by unfold cA;simp;omega⟩⟩
    unfold ak;rw [aI h.Jr];rcases first with ⟨f1,f2⟩ | f1
    ·simp only [go_sem,ya,yb,yy,sP,bg,show ¬(l.length:Int)=0 by omega,f1,f2,ex,qD,LR];rfl
    ·simp only [go_sem,ya,yb,yy,sP,bg,show ¬(l.length:Int)=0 by omega,f1,qD,LR];rfl
end
end
section
open Go (IntKind)
def bB:VC->VC
 | .seq a _=>a
 | c=>c
def aq6 {a b:Int} {x y:Nat} (ha:a.natAbs=x) (hb:b.natAbs=y) (h:decide (a<0)=decide (b<0)):cA (decide (a<0)) (x+y)=a+b:=by
 unfold cA
 grind
def aco {a b:Int} {m:Nat} (hm:m+b.natAbs=a.natAbs) (h:¬decide (a<0)=decide (b<0)):cA (decide (a<0)) m=a+b:=by
 unfold cA
 grind
def aq7 {a:Int}:cA (!decide (a<0)) a.natAbs= -a:=by
 unfold cA
 grind
def acp {a b:Int}:cA (decide (a<0) !=decide (b<0)) (a.natAbs*b.natAbs)=a*b:=by
 unfold cA
 grind
def mD {s:Int} {w:AV} {l:List Nat} (h:bO w l) (hp:Hp):result hp (.agg [ab s,w])=some (.agg [ab s,w]):=by
 rcases h with ⟨rfl,_⟩ | ⟨e,rfl⟩<;>rfl
def dM {s:Int} {w:AV} {l:List Nat} (h:bO w l) (hp:Hp) (ct id:Nat) (x y:AV):gU hp ct id 0 2 [.int .i64 s,w] (some (.cells true true true 2 [x,y]))=some (.ae [],bc hp id (.cells true true true 2 [.int .i64 s,w]),ct):=gj rfl h.one rfl h.pu
def dh.aV {s:Int} {w:AV} {z:Int} (h:dh s w z):∃l,bO w l:=by
 rcases h with ⟨rfl,_⟩ | ⟨e,l,rfl,_⟩
 ·exact ⟨[],r8⟩
 ·exact ⟨l,mw e l⟩
def ahA (hp:Hp) (sz:Nat) (ag:Bool):AV->Option AV
 | .ptr id o=>OW sz ag o (aB hp id)
 | .bZ cs=>gP sz ag cs
 | _=>none
def e9 (tm:Env) (hp:Hp) (ct base i sz:Nat) (ag:Bool):results1 ⟨tm,hp,ct,base⟩ (.cell i sz ag)=ahA hp sz ag (aj tm i):=by
 rfl
def fa (hp:Hp) (sz:Nat) (ag:Bool) (id o:Nat):ahA hp sz ag (.ptr id o)=OW sz ag o (aB hp id):=rfl
section
variable {P:aH} {L:Lib}
def EY (h:Nu P L) {v:AV} {z:Int} (hv:cE v z):ak P L 146 [v] (ab (db z)):=by
 obtain ⟨s,w,rfl,hn⟩:=hv;obtain ⟨l,hu⟩:=hn.aV;have e:db s=db z:=by
  obtain ⟨h1,h2,_⟩:=hn.db;unfold db;by_cases h0:z<0
  ·rw [yE h0,yE (h1.2 h0)]
  ·by_cases h3:z=0
   ·rw [yr (fun h=>h0 (h1.1 h)),yE (h2.2 h3),yr h0,yE h3]
   ·rw [yr (fun h=>h0 (h1.1 h)),yr (fun h=>h3 (h2.1 h)),yr h0,yr h3]
 unfold ak;rw [aI h.aAw];simp only [go_sem,ya,yb,Sv,bg,hu.pu,hu.one,bY,yg,agL,H8,acg,Hg,awP,e]
def EZ (h:Nu P L) {v:AV} {z:Int} {K:Nat} (hv:cE v z) (hz:Bd K z) (hK:K<=90000000000):∃r,ak P L 147 [v] r/\cE r (-z):=by
 obtain ⟨s,w,rfl,hn⟩:=hv;obtain ⟨p,e1,hp⟩:=zd h hn;obtain ⟨lp,ie,_⟩:=hp.aV;obtain ⟨r,e2,hr⟩:=CE h (!decide (z<0)) hp (yV hz (Ah K)) hK;rw [aq7] at hr;have bR:=hr;obtain ⟨s',w',rfl,jC⟩:=hr;obtain ⟨l',iJ⟩:=jC.aV;rcases hn with ⟨rfl,rfl,h1,h2⟩ | ⟨e,l0,rfl,g,n,hb,hs,h1⟩
 ·by_cases h0:s= -9223372036854775808
  ·refine ⟨_,?_,bR⟩;unfold ak;rw [aI h.Xl];simp only [go_sem,ya,yb,IK,bg,bY,yg,cX,gk,ed,h0];rw [h0] at e1 e2;simp only [go_sem,ya,cd,cG,e1,e2,ie.ao,bW,e9,fa,cd,yH,mD iJ,dM iJ]
  ·refine ⟨.agg [ab (-s),.aa],?_,dh.nY (by omega) (by omega)⟩;unfold ak;rw [aI h.Xl]
   simp only [go_sem,ya,yb,IK,bg,bY,yg,cX,gk,ed,h0,wrap64 (n:=0-s) (by omega) (by omega),qJ,qD];rw [Int.zero_sub];rfl
 ·refine ⟨_,?_,bR⟩;unfold ak;rw [aI h.Xl];simp only [go_sem,ya,yb,IK,bg,bY,yg,cX,nj,ed,cd,cG,e1,e2,ie.ao,bW,e9,fa,cd,yH,mD iJ,dM iJ]
def ajt (h:Nu P L) {v:AV} {z:Int} {K:Nat} (hv:cE v z) (hz:Bd K z) (hK:K<=90000000000):∃r,ak P L 163 [v] r/\cE r (z.natAbs:Nat):=by
 have ek:=hv;obtain ⟨s,w,rfl,hn⟩:=hv;obtain ⟨l,hu⟩:=hn.aV;have FF:=hn.db.1;by_cases h0:z<0
 ·obtain ⟨r,e1,hr⟩:=EZ h ek hz hK;rw [show -z=(z.natAbs:Int) by omega] at hr;have bR:=hr;obtain ⟨s',w',rfl,jC⟩:=hr;obtain ⟨l',iJ⟩:=jC.aV;refine ⟨_,?_,bR⟩;unfold ak;rw [aI h.ajr];simp only [go_sem,ya,yb,MW,bg,hu.pu,hu.ao,hu.one,bY,yg,FF.2 h0,cd,cG,e1,bW,e9,fa,cd,yH,mD iJ,dM iJ]
 ·rw [show ((z.natAbs:Nat):Int)=z by omega];refine ⟨_,?_,ek⟩;unfold ak;rw [aI h.ajr];simp only [go_sem,ya,yb,MW,bg,hu.pu,hu.one,bY,yg,show ¬s<0 from fun h=>h0 (FF.1 h),cd,e9,fa,cd,yH,mD hu,dM hu]
def aw8 (h:Nu P L) {s1 s2:Int} {w1 w2:AV} {a b:Int} {K:Nat} (ha:dh s1 w1 a) (hb:dh s2 w2 b) (ka:Bd K a) (kb:Bd K b) (hK:K<=40000000000):
  ∃r,cE r (a+b)/\∀tm,aj tm 2= .ptr 0 0->aj tm 3= .ptr 1 0->aj tm 4= .ptr 2 0->fR [.cell 4 2 true] (D P L (aA (aA c119.body)) ⟨tm,[(2,.cells true true true 2 [.int .i64 0,.aa]),(1,.cells true true true 2 [ab s2,w2]),(0,.cells true true true 2 [ab s1,w1])],3,0⟩)=some r:=by
 obtain ⟨l1,u1⟩:=ha.aV;obtain ⟨l2,u2⟩:=hb.aV;obtain ⟨p,e1,hp⟩:=zd h ha;obtain ⟨q,e2,hq⟩:=zd h hb;obtain ⟨lp,ie,gp,np,vp⟩:=hp.aV;obtain ⟨lq,nP,gq,nq,vq⟩:=hq.aV;have Bg:=yV ka (Ah K);have FG:=yV kb (Ah K);have llp:lp.length<=40000000000:=xf (nB np vp Bg) hK;have llq:lq.length<=40000000000:=xf (nB nq vq FG) hK;by_cases hs:decide (a<0)=decide (b<0)
 ·obtain ⟨o,mT,e3,ho,mS,no,vo⟩:=aAc h.aAm h.lZ h.fS ie nP gp gq (by omega) (by omega);obtain ⟨r,e4,hr⟩:=CE h (decide (a<0)) ⟨mT,ho,mS,no,vo⟩ (K:=K+1) (by rw [vp,vq,xc];omega) (by omega);rw [aq6 vp.symm vq.symm hs] at hr;have bR:=hr;obtain ⟨s',w',rfl,jC⟩:=hr;obtain ⟨l',iJ⟩:=jC.aV;refine ⟨_,bR,fun tm t2 t3 t4=>?_⟩;simp only [go_sem,ya,c119,aA,t2,t3,cd,cG,u1.ao,u2.ao,e1,e2,ie.ao,nP.ao,ed,oA,hs,tH];rw [hs] at e4;simp only [go_sem,ya,t4,e3,ho.ao,ho.shut,e4,bW,e9,fa,cd,yH,mD iJ,dM iJ]
 ·have Ko:(decide (a<0)==decide (b<0))=false:=by simpa using hs
  have e3:=ajc h.ajn ie nP gp gq np nq (by omega) (by omega);rw [vp,vq] at e3;by_cases hc:b.natAbs<=a.natAbs
  ·obtain ⟨o,mT,e4,ho,mS,no,vo⟩:=ajd h.ajo h.lZ h.re ie nP gp gq nq (by omega) (by rw [vp,vq];exact hc)
   rw [vp,vq] at vo;obtain ⟨r,e5,hr⟩:=CE h (decide (a<0)) ⟨mT,ho,mS,no,rfl⟩ (K:=K) (by omega) (by omega);rw [aco vo hs] at hr;have bR:=hr;obtain ⟨s',w',rfl,jC⟩:=hr;obtain ⟨l',iJ⟩:=jC.aV;have dW:(0:Int)<=dF a.natAbs b.natAbs:=by unfold dF;rw [yr (by omega)];split<;>decide
   refine ⟨_,bR,fun tm t2 t3 t4=>?_⟩;simp only [go_sem,ya,c119,aA,t2,t3,t4,cd,cG,u1.ao,u2.ao,e1,e2,ie.ao,nP.ao,ed,oA,Ko,e3,dW,e4,ho.ao,ho.shut,e5,bW,e9,fa,cd,yH,mD iJ,dM iJ]
  ·obtain ⟨o,mT,e4,ho,mS,no,vo⟩:=ajd h.ajo h.lZ h.re nP ie gq gp np (by omega) (by rw [vp,vq];omega);rw [vp,vq] at vo;obtain ⟨r,e5,hr⟩:=CE h (decide (b<0)) ⟨mT,ho,mS,no,rfl⟩ (K:=K) (by omega) (by omega);rw [aco vo (fun e=>hs e.symm),Int.add_comm] at hr;have bR:=hr;obtain ⟨s',w',rfl,jC⟩:=hr;obtain ⟨l',iJ⟩:=jC.aV;have dW:¬(0:Int)<=dF a.natAbs b.natAbs:=by unfold dF;rw [yE (by omega)];decide
   refine ⟨_,bR,fun tm t2 t3 t4=>?_⟩;simp only [go_sem,ya,c119,aA,t2,t3,t4,cd,cG,u1.ao,u2.ao,e1,e2,ie.ao,nP.ao,ed,oA,Ko,e3,dW,e4,ho.ao,ho.shut,e5,bW,e9,fa,cd,yH,mD iJ,dM iJ]
def Js (h:Nu P L) {v w:AV} {a b:Int} {K:Nat} (hv:cE v a) (hw:cE w b) (ka:Bd K a) (kb:Bd K b) (hK:K<=40000000000):∃r,ak P L 119 [v,w] r/\cE r (a+b):=by
 obtain ⟨s1,w1,rfl,h1⟩:=hv;obtain ⟨s2,w2,rfl,h2⟩:=hw;obtain ⟨l2,u2⟩:=h2.aV;obtain ⟨r,hr,tail⟩:=aw8 h h1 h2 ka kb hK;have fin:∀tm,aj tm 2= .ptr 0 0->aj tm 3= .ptr 1 0->aj tm 4= .ptr 2 0->
   D P L (.seq (bB c119.body) (bB (aA c119.body))) ⟨[(0,.agg [ab s1,w1]),(1,.agg [ab s2,w2])],[],0,0⟩=some (.normal,⟨tm,[(2,.cells true true true 2 [.int .i64 0,.aa]),(1,.cells true true true 2 [ab s2,w2]),(0,.cells true true true 2 [ab s1,w1])],3,0⟩)->ak P L 119 [.agg [ab s1,w1],.agg [ab s2,w2]] r:=fun tm t2 t3 t4 e=>by
  unfold ak;rw [aI h.ajs];show fR [.cell 4 2 true] (D P L (.seq (bB c119.body) (.seq (bB (aA c119.body)) (aA (aA c119.body)))) ⟨[(0,.agg [ab s1,w1]),(1,.agg [ab s2,w2])],[],0,0⟩)=_
  have e2:D P L (.seq (bB c119.body) (.seq (bB (aA c119.body)) (aA (aA c119.body)))) ⟨[(0,.agg [ab s1,w1]),(1,.agg [ab s2,w2])],[],0,0⟩=mC P L (D P L (.seq (bB c119.body) (bB (aA c119.body))) ⟨[(0,.agg [ab s1,w1]),(1,.agg [ab s2,w2])],[],0,0⟩) (aA (aA c119.body)):=by
   rw [jw,jw]
   cases D P L (bB c119.body) ⟨[(0,.agg [ab s1,w1]),(1,.agg [ab s2,w2])],[],0,0⟩ with
   | none=>rfl
   | some q=>
    obtain ⟨ex,st⟩:=q
    cases ex with
    | normal=>rw [fD,fD,jw]
    | ret=>rfl
    | exit id=>rfl
  rw [e2,e,fD];exact tail tm t2 t3 t4
 rcases h1 with ⟨rfl,rfl,a1,a2⟩ | ⟨e,l,rfl,ga,na,va,sa,a1⟩
 ·rcases h2 with ⟨rfl,rfl,b1,b2⟩ | ⟨e,l,rfl,gb,nb,vb,sb,b1⟩
  ·by_cases ej: -9223372036854775808<=s1+s2/\s1+s2<9223372036854775808
   ·refine ⟨.agg [ab (s1+s2),.aa],?_,dh.nY ej.1 ej.2⟩;have e:decide (s1<s1+s2)=decide (0<s2):=by
     by_cases h:0<s2
     ·simp only [h,yu];exact xi (by omega)
     ·simp only [h,yv];exact y7 (by omega)
    unfold ak;rw [aI h.ajs]
    simp only [go_sem,ya,yb,c119,bg,qJ,gk,ed,oA,bY,yg,cX,wrap64 (n:=s1+s2) ej.1 ej.2,e,tH,qD];rfl
   ·have e:(decide (s1<IntKind.wrap .i64 (s1+s2))==decide (0<s2))=false:=by
     have hw:(9223372036854775808<=s1+s2/\IntKind.wrap .i64 (s1+s2)=s1+s2-18446744073709551616)\/(s1+s2< -9223372036854775808/\IntKind.wrap .i64 (s1+s2)=s1+s2+18446744073709551616):=by
      simp only [IntKind.wrap,IntKind.bits,IntKind.signed,xH]
      split<;>rename_i h<;>simp at h<;>omega
     by_cases h0:0<s2
     ·rw [xi h0,y7 (by omega)];rfl
     ·rw [y7 h0,xi (by omega)];rfl
    refine ⟨r,fin _ ?_ ?_ ?_ (by simp only [go_sem,ya,yb,bB,aA,c119,bg,gk,ed,oA,bY,yg,cX,e]<;>rfl),hr⟩<;>simp only [go_sem,ya]
  ·refine ⟨r,fin _ ?_ ?_ ?_ (by simp only [go_sem,ya,yb,bB,aA,c119,bg,gk,nj,ed,bY,yg,cX]<;>rfl),hr⟩<;>simp only [go_sem,ya]
 ·refine ⟨r,fin _ ?_ ?_ ?_ (by simp only [go_sem,ya,yb,bB,aA,c119,bg,u2.pu,u2.one,nj,ed,bY,yg,cX]<;>rfl),hr⟩<;>simp only [go_sem,ya]
end
end
section
open Go (IntKind)
def BC {P:aH} {L:Lib} (a b c:VC) (s:St):D P L (.seq a (.seq b c)) s=mC P L (D P L (.seq a b) s) c:=by
 rw [jw,jw]
 cases D P L a s with
 | none=>rfl
 | some q=>
  obtain ⟨ex,st⟩:=q
  cases ex with
  | normal=>rw [fD,fD,jw]
  | ret=>rfl
  | exit id=>rfl
def agR {s s':Int} {w w':AV} {l l':List Nat} (h:bO w l) (h':bO w' l') (hp:Hp):result hp (.ae [.agg [ab s,w],.agg [ab s',w']])=some (.ae [.agg [ab s,w],.agg [ab s',w']]):=by
 rcases h with ⟨rfl,_⟩ | ⟨e,rfl⟩<;>rcases h' with ⟨rfl,_⟩ | ⟨e',rfl⟩<;>rfl
def Ob (tm:Env) (hp:Hp) (ct:Nat) (rs:List (Nat×Bool×Nat)) (sz:Nat) (p:AV) (new:List AV):fJ:=match p with | .ptr id o=>bif nd tm id rs then gU hp ct id o sz new (aB hp id) else none | _=>none
def Oc (id:Nat):AV->Bool | .ptr j _=> !yx j id | .bZ _=>true | _=>false
def RC {P:aH} {L:Lib} (f:cy) (tm:Env) (hp:Hp) (ct:Nat) (rs:List (Nat×Bool×Nat)) (sz:Nat) (x v:X):a8 P L f tm hp ct (.iX rs sz x v)=Ob tm hp ct rs sz (aE tm x) (cellsOf (aE tm v)):=by
 simp only [a8,Ob]
 cases hx:aE tm x with
 | ptr id o=>
  rw [ace,hx,ahq]
 | _=>rfl
def RD {tm:Env} {hp:Hp} {ct:Nat} {rs:List (Nat×Bool×Nat)} {sz id o:Nat} {new:List AV} (h:nd tm id rs=true):Ob tm hp ct rs sz (.ptr id o) new=gU hp ct id o sz new (aB hp id):=by
 simp only [Ob,h,yB]
def QY (tm:Env) (id:Nat):nd tm id []=true:=(rfl)
def QB (tm:Env) (id sz x:Nat) (ag:Bool) (r:List (Nat×Bool×Nat)):nd tm id ((sz,ag,x)::r)=(Oc id (aj tm x)&&nd tm id r):=by
 simp only [nd,Oc]
 grind
def RE {id j o:Nat} (h:j≠id):Oc id (.ptr j o)=true:=by simp only [Oc,fY h,yR]
section
variable {P:aH} {L:Lib}
def aju (h:Nu P L) {v w:AV} {a b:Int} {K:Nat} (hv:cE v a) (hw:cE w b) (ka:Bd K a) (kb:Bd K b) (hK:K<=40000000000):∃r,ak P L 156 [v,w] r/\cE r (a-b):=by
 obtain ⟨n,e1,hn⟩:=EZ h hw kb (by omega);obtain ⟨r,e2,hr⟩:=Js h hv hn ka kb.neg hK;have bR:=hr;obtain ⟨s1,w1,rfl,h1⟩:=hv;obtain ⟨s2,w2,rfl,h2⟩:=hw;obtain ⟨s3,w3,rfl,h3⟩:=hn;obtain ⟨s4,w4,rfl,h4⟩:=hr;obtain ⟨l1,u1⟩:=h1.aV;obtain ⟨l2,u2⟩:=h2.aV;obtain ⟨l3,u3⟩:=h3.aV;obtain ⟨l4,u4⟩:=h4.aV;refine ⟨_,?_,bR⟩;unfold ak;rw [aI h.aAy];simp only [go_sem,ya,yb,Sx,bg,u1.pu,u1.ao,u1.one,u2.pu,u2.ao,u2.one,u3.ao,cG,e1,e2,bW,e9,fa,cd,yH,mD u4,dM u4]
def aAB (h:Nu P L) {v w:AV} {a b:Int} {K:Nat} (hv:cE v a) (hw:cE w b) (ka:Bd K a) (kb:Bd K b) (hK:K<=40000000000):ak P L 118 [v,w] (ab (db (a-b))):=by
 obtain ⟨d,e1,hd⟩:=aju h hv hw ka kb hK;have e2:=EY h hd;obtain ⟨s1,w1,rfl,h1⟩:=hv;obtain ⟨s2,w2,rfl,h2⟩:=hw;obtain ⟨s3,w3,rfl,h3⟩:=hd;obtain ⟨l2,u2⟩:=h2.aV;obtain ⟨l3,u3⟩:=h3.aV;unfold ak;rw [aI h.aAx];rcases h1 with ⟨rfl,rfl,a1,a2⟩ | ⟨e,l,rfl,ga,na,va,sa,a1⟩
 ·rcases h2 with ⟨rfl,rfl,b1,b2⟩ | ⟨e,l,rfl,gb,nb,vb,sb,b1⟩
  ·by_cases c1:s1<s2
   ·rw [show db (s1-s2)= -1 by unfold db;rw [yE (by omega)]];simp only [go_sem,ya,yb,Cn,bg,gk,ed,bY,yg,cX,c1]
   ·by_cases c2:s2<s1
    ·rw [show db (s1-s2)=1 by unfold db;rw [yr (by omega),yr (by omega)]];simp only [go_sem,ya,yb,Cn,bg,gk,ed,bY,yg,cX,c1,c2]
    ·rw [show db (s1-s2)=0 by unfold db;rw [yr (by omega),yE (by omega)]];simp only [go_sem,ya,yb,Cn,bg,gk,ed,bY,yg,cX,c1,c2]
  ·simp only [go_sem,ya,yb,Cn,bg,gk,nj,ed,bY,yg,cX,cd,cG,e1,e2,u3.ao,bW]
 ·simp only [go_sem,ya,yb,Cn,bg,u2.pu,u2.ao,u2.one,nj,ed,bY,yg,cX,cd,cG,e1,e2,u3.ao,bW]
def aw9 (h:Nu P L) {s1 s2:Int} {w1 w2:AV} {a b:Int} {K:Nat} (ha:dh s1 w1 a) (hb:dh s2 w2 b) (ka:Bd K a) (kb:Bd K b) (hK:K<=40000000000):
  ∃r,cE r (a*b)/\∀tm,aj tm 2= .ptr 0 0->aj tm 3= .ptr 1 0->aj tm 4= .ptr 2 0->fR [.cell 4 2 true] (D P L (aA (aA lV.body)) ⟨tm,[(2,.cells true true true 2 [.int .i64 0,.aa]),(1,.cells true true true 2 [ab s2,w2]),(0,.cells true true true 2 [ab s1,w1])],3,0⟩)=some r:=by
 obtain ⟨l1,u1⟩:=ha.aV;obtain ⟨l2,u2⟩:=hb.aV;obtain ⟨p,e1,hp⟩:=zd h ha;obtain ⟨q,e2,hq⟩:=zd h hb;obtain ⟨lp,ie,gp,np,vp⟩:=hp.aV;obtain ⟨lq,nP,gq,nq,vq⟩:=hq.aV;have Bg:=yV ka (Ah K);have FG:=yV kb (Ah K);have llp:lp.length<=40000000000:=xf (nB np vp Bg) hK;have llq:lq.length<=40000000000:=xf (nB nq vq FG) hK;obtain ⟨o,mT,e3,ho,mS,no,vo⟩:=aAf h.aAn h.lZ h.ma h.fS ie nP gp gq (by omega) (by omega);obtain ⟨r,e4,hr⟩:=CE h (decide (a<0) !=decide (b<0)) ⟨mT,ho,mS,no,vo⟩ (K:=K+K) (by rw [vp,vq,wG];exact yaE Bg FG) (by omega)
 rw [vp,vq,acp] at hr;have bR:=hr;obtain ⟨s',w',rfl,jC⟩:=hr;obtain ⟨l',iJ⟩:=jC.aV;refine ⟨_,bR,fun tm t2 t3 t4=>?_⟩;have rF:∀x y:Bool,Ji true (some (x==y))=some (.bool (x !=y)):=fun x y=>by cases x<;>cases y<;>rfl
 simp only [go_sem,ya,lV,aA,t2,t3,t4,cd,cG,u1.ao,u2.ao,e1,e2,ie.ao,nP.ao,oA,rF,e3,ho.ao,ho.shut,e4,bW,e9,fa,cd,yH,mD iJ,dM iJ]
def aq8 {a b:Int} {m:Nat} (h:a.natAbs*b.natAbs=m):a*b=if (decide (a<0)==decide (b<0))=true then (m:Int) else 0-(m:Int):=by
 have:=acp (a:=a) (b:=b)
 rw [h] at this;unfold cA at this
 cases hd:(decide (a<0)==decide (b<0)) with
 | true=>simp only [bne,hd,yQ,Bool.false_eq_true,xd] at this;exact this.symm
 | false=>simp only [bne,hd,yR,xA] at this;rw [yr (by decide)];omega
def AJ (h:Nu P L) {v w:AV} {a b:Int} {K:Nat} (hv:cE v a) (hw:cE w b) (ka:Bd K a) (kb:Bd K b) (hK:K<=40000000000):∃r,ak P L 100 [v,w] r/\cE r (a*b):=by
 obtain ⟨s1,w1,rfl,h1⟩:=hv;obtain ⟨s2,w2,rfl,h2⟩:=hw;obtain ⟨l1,u1⟩:=h1.aV;obtain ⟨l2,u2⟩:=h2.aV;obtain ⟨r,hr,tail⟩:=aw9 h h1 h2 ka kb hK;have fin:∀tm,aj tm 2= .ptr 0 0->aj tm 3= .ptr 1 0->aj tm 4= .ptr 2 0->
   D P L (.seq (bB lV.body) (bB (aA lV.body))) ⟨[(0,.agg [ab s1,w1]),(1,.agg [ab s2,w2])],[],0,0⟩=some (.normal,⟨tm,[(2,.cells true true true 2 [.int .i64 0,.aa]),(1,.cells true true true 2 [ab s2,w2]),(0,.cells true true true 2 [ab s1,w1])],3,0⟩)->ak P L 100 [.agg [ab s1,w1],.agg [ab s2,w2]] r:=fun tm t2 t3 t4 e=>by
  unfold ak;rw [aI h.Oa];show fR [.cell 4 2 true] (D P L (.seq (bB lV.body) (.seq (bB (aA lV.body)) (aA (aA lV.body)))) ⟨[(0,.agg [ab s1,w1]),(1,.agg [ab s2,w2])],[],0,0⟩)=_
  rw [BC,e,fD];exact tail tm t2 t3 t4
 rcases h1 with ⟨rfl,rfl,a1,a2⟩ | ⟨e,l,rfl,ga,na,va,sa,a1⟩
 ·rcases h2 with ⟨rfl,rfl,b1,b2⟩ | ⟨e,l,rfl,gb,nb,vb,sb,b1⟩
  ·have f1:=Xn h a1 a2;have f2:=Xn h b1 b2;have f3:=Mb (P:=P) (f:=D P L) h.ma (x:=s1.natAbs) (y:=s2.natAbs) (by omega) (by omega);obtain ⟨m,hm⟩:∃m,s1.natAbs*s2.natAbs=m:=⟨_,rfl⟩;rw [hm] at f3;have gF:=aq8 hm;by_cases ej:m<=9223372036854775807
   ·rw [wB (by omega),yU (by omega)] at f3;rw [show (uc 0)=AV.int .u64 0 from rfl] at f3;by_cases hs:(decide (s1<0)==decide (s2<0))=true
    ·rw [yE hs] at gF;refine ⟨.agg [ab (m:Int),.aa],?_,by rw [gF];exact dh.nY (by omega) (by omega)⟩
     unfold ak;rw [aI h.Oa]
     simp only [go_sem,ya,yb,lV,bg,qJ,gk,ed,H9,oA,bY,yg,cX,f1,f2,f3,show (m:Int)<=9223372036854775807 by omega,hs,Ma,wrap64 (n:=(m:Int)) (by omega) (by omega),qD];rfl
    ·rw [yr hs] at gF;refine ⟨.agg [ab (0-(m:Int)),.aa],?_,by rw [gF];exact dh.nY (by omega) (by omega)⟩
     unfold ak;rw [aI h.Oa]
     simp only [go_sem,ya,yb,lV,bg,qJ,gk,ed,H9,oA,bY,yg,cX,f1,f2,f3,show (m:Int)<=9223372036854775807 by omega,hs,Ma,wrap64 (n:=(m:Int)) (by omega) (by omega),wrap64 (n:=0-(m:Int)) (by omega) (by omega),qD];rfl
   ·by_cases kG:m/18446744073709551616=0
    ·rw [kG,yU (by omega)] at f3;rw [show (uc 0)=AV.int .u64 0 from rfl] at f3;refine ⟨r,fin _ ?_ ?_ ?_ (by simp only [go_sem,ya,yb,bB,aA,lV,bg,gk,ed,bY,yg,cX,f1,f2,f3,show ¬(m:Int)<=9223372036854775807 by omega]<;>rfl),hr⟩<;>simp only [go_sem,ya]
    ·obtain ⟨q,hq⟩:∃q,q=m/18446744073709551616:=⟨_,rfl⟩;rw [<-hq] at f3 kG;refine ⟨r,fin _ ?_ ?_ ?_ (by simp only [go_sem,ya,yb,bB,aA,lV,bg,gk,ed,bY,yg,cX,f1,f2,f3,show ¬(q:Int)=0 by omega]<;>rfl),hr⟩<;>simp only [go_sem,ya]
  ·refine ⟨r,fin _ ?_ ?_ ?_ (by simp only [go_sem,ya,yb,bB,aA,lV,bg,gk,nj,ed,bY,yg,cX]<;>rfl),hr⟩<;>simp only [go_sem,ya]
 ·refine ⟨r,fin _ ?_ ?_ ?_ (by simp only [go_sem,ya,yb,bB,aA,lV,bg,u2.pu,u2.one,nj,ed,bY,yg,cX]<;>rfl),hr⟩<;>simp only [go_sem,ya]
end
end
section
open Go (IntKind)
def ao4 {a b:Int} {q r:Nat} (hb:0<b) (h:q=a.natAbs/b.natAbs) (h2:r=a.natAbs%b.natAbs):
  (cA (decide (a<0)) r<0->a/b=cA (decide (a<0)) q-1/\a%b=cA (decide (a<0)) r+b)/\(¬cA (decide (a<0)) r<0->a/b=cA (decide (a<0)) q/\a%b=cA (decide (a<0)) r):=by
 have fy:=xR a.natAbs b.natAbs;have aW:r<b.natAbs:=by rw [h2];exact xp _ (by omega)
 unfold cA;by_cases h0:a<0
 ·simp only [h0,yu,xA];constructor
  ·intro h3;refine (uU hb).2 ⟨?_,by omega,by omega⟩
   grind
  ·intro h3;refine (uU hb).2 ⟨?_,by omega,by omega⟩
   grind
 ·grind
section
variable {P:aH} {L:Lib}
def axa (h:Nu P L) {s1 s2:Int} {w1 w2:AV} {a b:Int} {K:Nat} (ha:dh s1 w1 a) (hb:dh s2 w2 b) (dH:0<b) (ka:Bd K a) (kb:Bd K b) (hK:K<=30000000000):
  ∃q r,cE q (a/b)/\cE r (a%b)/\∀tm,aj tm 2= .ptr 0 0->aj tm 3= .ptr 1 0->aj tm 4= .ptr 2 0->aj tm 5= .ptr 3 0->fR [.cell 4 2 true,.cell 5 2 true] (D P L (aA (aA lW.body)) ⟨tm,[(3,.cells true true true 2 [.int .i64 0,.aa]),(2,.cells true true true 2 [.int .i64 0,.aa]),(1,.cells true true true 2 [ab s2,w2]),(0,.cells true true true 2 [ab s1,w1])],4,0⟩)=some (.ae [q,r]):=by
 obtain ⟨l1,u1⟩:=ha.aV;obtain ⟨l2,u2⟩:=hb.aV;obtain ⟨p,e1,hp⟩:=zd h ha;obtain ⟨q,e2,hq⟩:=zd h hb;have cC:cE (.agg [ab s2,w2]) b:=⟨s2,w2,rfl,hb⟩;obtain ⟨lp,ie,_⟩:=hp.aV;obtain ⟨lq,nP,_⟩:=hq.aV;have Bg:=yV ka (Ah K);have FG:=yV kb (Ah K);obtain ⟨dq,dr,e3,C2,gV⟩:=ajp h.toWd hp hq (by omega) Bg FG (by omega);obtain ⟨Kp,uq,_⟩:=C2.aV;obtain ⟨lr1,ur,_⟩:=gV.aV;have hqk:a.natAbs/b.natAbs<18446744073709551616^K:=we (vh _ _) Bg;have hrk:a.natAbs%b.natAbs<18446744073709551616^K:=we (ybW _ _) Bg;have hqb:a.natAbs/b.natAbs<2^K:=we (vh _ _) ka;have Y5:a.natAbs%b.natAbs<2^K:=we (ybW _ _) ka;obtain ⟨f1,f2⟩:=ao4 (a:=a) dH rfl rfl;generalize a.natAbs/b.natAbs=Q at*
 generalize a.natAbs%b.natAbs=R at*
 obtain ⟨vq,e4,hvq⟩:=CE h (decide (a<0)) C2 hqk (by omega);obtain ⟨vr,e5,Ka⟩:=CE h (decide (a<0)) gV hrk (by omega);have hsq:Bd K (cA (decide (a<0)) Q):=by unfold Bd cA;split<;>omega
 have hsr:Bd K (cA (decide (a<0)) R):=by unfold Bd cA;split<;>omega
 generalize cA (decide (a<0)) R=Rs at*
 have e6:=EY h Ka;have ajv:=hvq;have ajw:=Ka;obtain ⟨s3,w3,rfl,h3⟩:=hvq;obtain ⟨s4,w4,rfl,h4⟩:=Ka;obtain ⟨l3,u3⟩:=h3.aV;obtain ⟨l4,u4⟩:=h4.aV;by_cases h0:Rs<0
 ·obtain ⟨g1,g2⟩:=f1 h0;have mi:Bd (K+1) 1:=Bd.mono (k:=1) (by unfold Bd;decide) (by omega)
  obtain ⟨o1,o2⟩:=CD h (z:=1) (by decide) (by decide);obtain ⟨vq2,e7,Xo⟩:=aju h ajv o2 (K:=K+1) (hsq.mono (by omega)) mi (by omega);obtain ⟨vr2,e8,Xp⟩:=Js h ajw cC (K:=K+1) (hsr.mono (by omega)) (kb.mono (by omega)) (by omega);rw [<-g1] at Xo;rw [<-g2] at Xp;have mP:db Rs<0:=by unfold db;rw [yE h0];decide
  have k1:=Xo;have k2:=Xp;obtain ⟨s5,w5,rfl,h5⟩:=Xo;obtain ⟨s6,w6,rfl,h6⟩:=Xp;obtain ⟨l5,u5⟩:=h5.aV;obtain ⟨l6,u6⟩:=h6.aV;refine ⟨_,_,k1,k2,fun tm t2 t3 t4 t5=>?_⟩;simp only [go_sem,ya,yb,lW,aA,t2,t3,t4,t5,RC,RD,QY,QB,RE,wN,bg,cd,cG,u1.ao,u2.ao,e1,e2,ie.ao,nP.ao,e3,uq.ao,uq.bT,ur.ao,ur.bT,e4,e5,bW,e9,fa,cd,yH,dM u3,dM u4,u3.ao,u4.ao,e6,mP,o1,e7,e8,e9,fa,cd,yH,dM u5,dM u6,agR u5 u6]
 ·obtain ⟨g1,g2⟩:=f2 h0;have mP:¬db Rs<0:=by unfold db;rw [yr h0];split<;>decide
  refine ⟨_,_,by rw [g1];exact ajv,by rw [g2];exact ajw,fun tm t2 t3 t4 t5=>?_⟩
  simp only [go_sem,ya,yb,lW,aA,t2,t3,t4,t5,RC,RD,QY,QB,RE,wN,bg,cd,cG,u1.ao,u2.ao,e1,e2,ie.ao,nP.ao,e3,uq.ao,uq.bT,ur.ao,ur.bT,e4,e5,bW,e9,fa,cd,yH,dM u3,dM u4,u4.ao,e6,mP,agR u3 u4]
def ajx (h:Nu P L) {v w:AV} {a b:Int} {K:Nat} (hv:cE v a) (hw:cE w b) (dH:0<b) (ka:Bd K a) (kb:Bd K b) (hK:K<=30000000000):∃q r,ak P L 164 [v,w] (.ae [q,r])/\cE q (a/b)/\cE r (a%b):=by
 obtain ⟨s1,w1,rfl,h1⟩:=hv;obtain ⟨s2,w2,rfl,h2⟩:=hw;obtain ⟨l1,u1⟩:=h1.aV;obtain ⟨l2,u2⟩:=h2.aV;obtain ⟨q,r,hq,hr,tail⟩:=axa h h1 h2 dH ka kb hK;have fin:∀tm,aj tm 2= .ptr 0 0->aj tm 3= .ptr 1 0->aj tm 4= .ptr 2 0->aj tm 5= .ptr 3 0->
   D P L (.seq (bB lW.body) (bB (aA lW.body))) ⟨[(0,.agg [ab s1,w1]),(1,.agg [ab s2,w2])],[],0,0⟩=some (.normal,⟨tm,[(3,.cells true true true 2 [.int .i64 0,.aa]),(2,.cells true true true 2 [.int .i64 0,.aa]),(1,.cells true true true 2 [ab s2,w2]),(0,.cells true true true 2 [ab s1,w1])],4,0⟩)->ak P L 164 [.agg [ab s1,w1],.agg [ab s2,w2]] (.ae [q,r]):=fun tm t2 t3 t4 t5 e=>by
  unfold ak;rw [aI h.Xm];show fR [.cell 4 2 true,.cell 5 2 true] (D P L (.seq (bB lW.body) (.seq (bB (aA lW.body)) (aA (aA lW.body)))) ⟨[(0,.agg [ab s1,w1]),(1,.agg [ab s2,w2])],[],0,0⟩)=_
  rw [BC,e,fD];exact tail tm t2 t3 t4 t5
 rcases h1 with ⟨rfl,rfl,a1,a2⟩ | ⟨e,l,rfl,ga,na,va,sa,a1⟩
 ·rcases h2 with ⟨rfl,rfl,b1,b2⟩ | ⟨e,l,rfl,gb,nb,vb,sb,b1⟩
  ·by_cases hm:s1= -9223372036854775808
   ·refine ⟨q,r,fin _ ?_ ?_ ?_ ?_ (by simp only [go_sem,ya,yb,bB,aA,lW,bg,gk,ed,bY,yg,cX,hm]<;>rfl),hq,hr⟩<;>simp only [go_sem,ya]
   ·obtain ⟨f1,f2⟩:=aoU (a:=s1) dH;have bK:s1.tdiv s2=0\/(s1.tdiv s2).natAbs<=s1.natAbs:= .inr (Int.natAbs_tdiv_le_natAbs s1 s2);have cV:=Int.tmod_lt_of_pos s1 dH;have mh:=Int.lt_tmod_of_pos s1 dH;by_cases h0:s1.tmod s2<0
    ·obtain ⟨g1,g2⟩:=f1 h0;rw [g1,g2];refine ⟨.agg [ab (s1.tdiv s2-1),.aa],.agg [ab (s1.tmod s2+s2),.aa],?_,dh.nY (by omega) (by omega),dh.nY (by omega) (by omega)⟩;unfold ak;rw [aI h.Xm]
     simp only [go_sem,ya,yb,lW,bg,qJ,gk,ed,bY,yg,cX,hm,fO _ _ _ (show s2≠0 by omega),iq _ _ _ (show s2≠0 by omega),h0,wrap64 (n:=s1.tdiv s2) (by omega) (by omega),wrap64 (n:=s1.tdiv s2-1) (by omega) (by omega),wrap64 (n:=s1.tmod s2+s2) (by omega) (by omega),qD];rfl
    ·obtain ⟨g1,g2⟩:=f2 h0;rw [g1,g2];refine ⟨.agg [ab (s1.tdiv s2),.aa],.agg [ab (s1.tmod s2),.aa],?_,dh.nY (by omega) (by omega),dh.nY (by omega) (by omega)⟩;unfold ak;rw [aI h.Xm]
     simp only [go_sem,ya,yb,lW,bg,qJ,gk,ed,bY,yg,cX,hm,fO _ _ _ (show s2≠0 by omega),iq _ _ _ (show s2≠0 by omega),h0,wrap64 (n:=s1.tdiv s2) (by omega) (by omega),qD];rfl
  ·refine ⟨q,r,fin _ ?_ ?_ ?_ ?_ (by simp only [go_sem,ya,yb,bB,aA,lW,bg,gk,nj,ed,bY,yg,cX]<;>rfl),hq,hr⟩<;>simp only [go_sem,ya]
 ·refine ⟨q,r,fin _ ?_ ?_ ?_ ?_ (by simp only [go_sem,ya,yb,bB,aA,lW,bg,u2.pu,u2.one,nj,ed,bY,yg,cX]<;>rfl),hq,hr⟩<;>simp only [go_sem,ya]
end
end
section
open Go (IntKind)
section
variable {P:aH} {L:Lib}
def ajy (h:Nu P L) {v w:AV} {a b:Int} {K:Nat} (hv:cE v a) (hw:cE w b) (dH:0<b) (ka:Bd K a) (kb:Bd K b) (hK:K<=30000000000):∃r,ak P L 148 [v,w] r/\cE r (a/b):=by
 have e1:=EY h hw;obtain ⟨q,r,e2,hq,hr⟩:=ajx h hv hw dH ka kb hK;have e3:db b=1:=by unfold db;rw [yr (by omega),yr (by omega)]
 rw [e3] at e1;have bK:=hq;obtain ⟨s1,w1,rfl,h1⟩:=hv;obtain ⟨s2,w2,rfl,h2⟩:=hw;obtain ⟨s3,w3,rfl,h3⟩:=hq;obtain ⟨s4,w4,rfl,h4⟩:=hr;obtain ⟨l1,u1⟩:=h1.aV;obtain ⟨l2,u2⟩:=h2.aV;obtain ⟨l3,u3⟩:=h3.aV;obtain ⟨l4,u4⟩:=h4.aV;refine ⟨_,?_,bK⟩;unfold ak;rw [aI h.aAz];simp only [go_sem,ya,yb,Sw,ybD,yv,bg,u1.pu,u1.ao,u1.one,u2.pu,u2.ao,u2.one,yg,cG,e1,e2,Bz,e9,fa,cd,yH,mD u3,dM u3,dM u4]
def axb (h:Nu P L) (G:Nat) {K:Nat} (hK:K<=30000000000) {o1 o2:AV}:
  ∀k s,(∃(x y:Nat) (s1 s2:Int) (w1 w2:AV),aQ [2,3,4] s=⟨[(2,.ptr 0 0),(3,.ptr 1 0),(4,.ptr 2 0)],[(2,.cells true true true 2 [o1,o2]),(1,.cells true true true 2 [ab s2,w2]),(0,.cells true true true 2 [ab s1,w1])],3,0⟩/\dh s1 w1 x/\dh s2 w2 y/\Bd K x/\Bd K y/\Nat.gcd x y=G/\y=k)->
   ∃ex s',D P L (.loop [2,3,4] HK) s=some (ex,s')/\∃tm s1 w1 c1,s'=⟨tm,[(2,.cells true true true 2 [o1,o2]),(1,c1),(0,.cells true true true 2 [ab s1,w1])],3,0⟩/\ex= .exit 0/\aj tm 2= .ptr 0 0/\aj tm 4= .ptr 2 0/\dh s1 w1 G:=by
 intro dq sq;generalize bk:aQ [2,3,4] sq=s0;revert bk s0 sq dq;apply di;rintro k s ⟨x,y,s1,s2,w1,w2,rfl,h1,h2,k1,k2,hG,rfl⟩;obtain ⟨l1,u1⟩:=h1.aV;obtain ⟨l2,u2⟩:=h2.aV;have i1:cE (.agg [ab s1,w1]) (x:Int):=⟨s1,w1,rfl,h1⟩;have i2:cE (.agg [ab s2,w2]) (y:Int):=⟨s2,w2,rfl,h2⟩;have e1:=EY h i2;by_cases jo:y=0
 ·right
  subst jo;rw [show db ((0:Nat):Int)=0 from rfl] at e1;simp only [go_sem,ya,HK,yu,yQ,cd,cG,u2.ao,e1];obtain rfl:x=G:=by rw [<-hG,Nat.gcd_zero_right]
  exact ⟨_,_,rfl,by simp,_,s1,w1,_,rfl,rfl,by simp only [go_sem,ya],by simp only [go_sem,ya],h1⟩
 ·left
  have e3:db (y:Int)=1:=by unfold db;rw [yr (by omega),yr (by omega)]
  rw [e3] at e1;obtain ⟨q,r,e2,hq,hr⟩:=ajx h i1 i2 (by omega) k1 k2 hK;obtain ⟨s3,w3,rfl,h3⟩:=hq;obtain ⟨s4,w4,rfl,h4⟩:=hr;obtain ⟨l3,u3⟩:=h3.aV;obtain ⟨l4,u4⟩:=h4.aV;have aW:=xp x (show 0<y by omega);have kr:Bd K ((x%y:Nat):Int):=k2.le (by omega);simp only [go_sem,ya,yb,HK,RC,RD,QY,QB,RE,wN,uJ,yv,yR,bg,cd,cG,u1.ao,u2.ao,e1,e2,Bz,cd,yH,dM u2,dM u3,dM u4];refine ⟨_,x%y,rfl,aW,y,x%y,s2,s4,w2,w4,?_,h2,h4,k2,kr,by rw [<-hG];exact aqY x y jo,rfl⟩
  simp only [go_sem,ya,yb,av]
def ajz (h:Nu P L) {v w:AV} {a b:Int} {K:Nat} (hv:cE v a) (hw:cE w b) (ka:Bd K a) (kb:Bd K b) (hK:K<=30000000000):∃r,ak P L 130 [v,w] r/\cE r (wO a b:Nat):=by
 obtain ⟨va,e1,ha⟩:=ajt h hv ka (by omega);obtain ⟨vb,e2,hb⟩:=ajt h hw kb (by omega);obtain ⟨s1,w1,rfl,h1⟩:=hv;obtain ⟨s2,w2,rfl,h2⟩:=hw;obtain ⟨s3,w3,rfl,h3⟩:=ha;obtain ⟨s4,w4,rfl,h4⟩:=hb;obtain ⟨l1,u1⟩:=h1.aV;obtain ⟨l2,u2⟩:=h2.aV;obtain ⟨l3,u3⟩:=h3.aV;obtain ⟨l4,u4⟩:=h4.aV;have iB:∃s w,ak P L 130 [.agg [ab s1,w1],.agg [ab s2,w2]] (.agg [ab s,w])/\dh s w (wO a b:Nat):=by
  unfold ak;rw [aI h.aAA];simp only [go_sem,ya,yb,Su,bg,u1.pu,u1.ao,u1.one,u2.pu,u2.ao,u2.one,cd,cG,e1,e2,bW,cd,yH,dM u3,dM u4,yg];generalize hq:D P L (.loop [2,3,4] HK) _=q;obtain ⟨ex,s,rfl,tm,s5,w5,c1,rfl,rfl,t2,t4,h5⟩:=bI hq (axb (P:=P) (L:=L) h (wO a b) (K:=K) hK (o1:= .int .i64 0) (o2:= .aa) b.natAbs) ⟨a.natAbs,b.natAbs,s3,s4,w3,w4,by simp only [go_sem,ya,yb,av],h3,h4,ka,kb,rfl,rfl⟩;obtain ⟨l5,u5⟩:=h5.aV;refine ⟨s5,w5,?_,h5⟩;simp only [go_sem,ya,yb,av,t2,t4,e9,fa,cd,yH,mD u5,dM u5]
 obtain ⟨s,w,e,hn⟩:=iB;exact ⟨_,e,s,w,rfl,hn⟩
end
def dX (v:AV) (r:Rat):Prop:=∃s1 w1 s2 w2,v= .agg [ab s1,w1,ab s2,w2]/\dh s1 w1 r.num/\dh s2 w2 (r.den:Int)
def Hq (k:Nat) (r:Rat):Prop:=Bd k r.num/\Bd k (r.den:Int)
def PA {a b:Int} (hb:0<b):(wu a b).num=a/(wO a b:Nat)/\((wu a b).den:Int)=b/(wO a b:Nat):=by
 constructor
 ·rw [yaY,Int.sign_eq_one_of_pos hb,Int.one_mul,ybE]
 ·rw [yaZ,yr (by omega),ybE]
  grind
def Hq.divInt {k:Nat} {a b:Int} (hb:0<b) (ka:Bd k a) (kb:Bd k b):Hq k (wu a b):=by
 obtain ⟨h1,h2⟩:=PA (a:=a) hb;refine ⟨ka.le ?_,kb.le ?_⟩
 ·rw [h1,ua (Int.gcd_dvd_left a b)];exact vh _ _
 ·rw [h2,ua (Int.gcd_dvd_right a b)];exact vh _ _
section
def DH {tm:Env} {a b x y z w:AV} {r:List (Nat×Nat×X)} (h1:dc a=true) (h2:dc b=true):qR tm [x,y,z,w] 0 2 [a,b] r=fill tm [a,b,z,w] r:=by
 rw [QU (by rfl) (by simp) (by simp [cm,h1,h2])];rfl
def DI {tm:Env} {a b x y z w:AV} {r:List (Nat×Nat×X)} (h1:dc a=true) (h2:dc b=true):qR tm [x,y,z,w] 2 2 [a,b] r=fill tm [x,y,a,b] r:=by
 rw [QU (by rfl) (by simp) (by simp [cm,h1,h2])];rfl
def mE {s t:Int} {v w:AV} {l m:List Nat} (hv:bO v l) (hw:bO w m) (hp:Hp) (ct id:Nat) (a b x y:AV):gU hp ct id 0 4 [.int .i64 s,v,.int .i64 t,w] (some (.cells true true true 4 [a,b,x,y]))=some (.ae [],bc hp id (.cells true true true 4 [.int .i64 s,v,.int .i64 t,w]),ct):=by
 rw [qQ (by rfl) (by simp) (by simp [cm,hv.one,hw.one,afE])];simp [aG,hv.pu,hw.pu,over,agJ]
def mF {s t:Int} {v w:AV} {l m:List Nat} (hv:bO v l) (hw:bO w m) (hp:Hp):result hp (.agg [ab s,v,ab t,w])=some (.agg [ab s,v,ab t,w]):=by
 rcases hv with ⟨rfl,_⟩ | ⟨e,rfl⟩<;>rcases hw with ⟨rfl,_⟩ | ⟨e',rfl⟩<;>rfl
variable {P:aH} {L:Lib}
structure Fr' (P:aH) (L:Lib):Prop extends Nu P L where
 aAC:Has P L 101 mJ
 Y6:Has P L 69 JW
 aAD:Has P L 111 Ss
 h98:Has P L 98 OF
 aAE:Has P L 108 Sr
 aAF:Has P L 102 Sq
 h74:Has P L 74 zA
 h50:Has P L 50 JV
 nQ:Has P L 49 c49
 h73:Has P L 73 A6
 h70:Has P L 70 JX
 h71:Has P L 71 Fw
 aHf:Has P L 149 aib
def agS (h:Fr' P L) {s1 s2:Int} {w1 w2:AV} {a b:Int} {K:Nat} (h1:dh s1 w1 a) (h2:dh s2 w2 b) (dH:0<b) (ka:Bd K a) (kb:Bd K b) (hK:K<=30000000000):
  ∃r,dX r (wu a b)/\∀tm,aj tm 2= .ptr 0 0->aj tm 3= .ptr 1 0->aj tm 4= .ptr 2 0->fR [.cell 4 4 true] (D P L (aA (aA mJ.body)) ⟨tm,[(2,.cells true true true 4 [.int .i64 0,.aa,.int .i64 0,.aa]),(1,.cells true true true 2 [ab s2,w2]),(0,.cells true true true 2 [ab s1,w1])],3,0⟩)=some r:=by
 have hv:cE (.agg [ab s1,w1]) a:=⟨s1,w1,rfl,h1⟩;have hw:cE (.agg [ab s2,w2]) b:=⟨s2,w2,rfl,h2⟩;obtain ⟨p1,p2⟩:=PA (a:=a) dH;have hgp:=LM (a:=a) dH;have hgk:Bd K ((wO a b:Nat):Int):=kb.le (by
  have:=Int.gcd_le_natAbs_right a (show b≠0 by omega)
  omega)
 obtain ⟨g,e2,hg⟩:=ajz h.toNu hv hw ka kb hK;obtain ⟨q1,e4,eZ⟩:=ajy h.toNu hv hg hgp ka hgk hK;obtain ⟨q2,e5,px⟩:=ajy h.toNu hw hg hgp kb hgk hK;rw [<-p1] at eZ;rw [<-p2] at px;obtain ⟨s3,w3,rfl,h3⟩:=hg;obtain ⟨s4,w4,rfl,h4⟩:=eZ;obtain ⟨s5,w5,rfl,h5⟩:=px;obtain ⟨l1,u1⟩:=h1.aV;obtain ⟨l2,u2⟩:=h2.aV;obtain ⟨l3,u3⟩:=h3.aV;obtain ⟨l4,u4⟩:=h4.aV;obtain ⟨l5,u5⟩:=h5.aV;by_cases eB:w2= .aa/\s2=1
 ·obtain ⟨rfl,rfl⟩:=eB;have mi:b=1:=by
   rcases h2 with ⟨_,h,_⟩ | ⟨_,_,h,_⟩
   ·exact h.symm
   ·cases h
  subst mi;rw [Int.gcd_one] at p1 p2;have p1:(wu a 1).num=a:=by rw [p1];exact Int.ediv_one a
  refine ⟨.agg [ab s1,w1,ab 1,.aa],⟨s1,w1,1,.aa,rfl,by rw [p1];exact h1,by rw [p2];exact h2⟩,fun tm t2 t3 t4=>?_⟩
  have un:=r8;simp only [go_sem,ya,mJ,aA,t2,t3,t4,u1.one,cd,bY,yg,cX,gk,ed,DH,DI,mE u1 un,e9,fa,yH,iT,mF u1 un]
 ·refine ⟨.agg [ab s4,w4,ab s5,w5],⟨s4,w4,s5,w5,rfl,h4,h5⟩,fun tm t2 t3 t4=>?_⟩;rcases u2 with ⟨rfl,_⟩ | ⟨e,rfl⟩
  ·simp only [go_sem,ya,yb,mJ,aA,t2,t3,t4,bg,u1.ao,cd,cG,bY,yg,cX,gk,ed,show ¬s2=1 from fun e=>eB ⟨rfl,e⟩,e2,e4,e5,bW,e9,fa,cd,yH,dM u3,u3.ao,u4.one,u5.one,DH,DI,mE u4 u5,iT,mF u4 u5]
  ·simp only [go_sem,ya,yb,mJ,aA,t2,t3,t4,bg,u1.ao,cd,cG,bY,yg,cX,nj,ed,e2,e4,e5,bW,e9,fa,cd,yH,dM u3,u3.ao,u4.one,u5.one,DH,DI,mE u4 u5,iT,mF u4 u5]
def Xq (h:Fr' P L) {v w:AV} {a b:Int} {K:Nat} (hv:cE v a) (hw:cE w b) (dH:b≠0) (ka:Bd K a) (kb:Bd K b) (hK:K<=30000000000):∃r,ak P L 101 [v,w] r/\dX r (wu a b):=by
 have e1:=EY h.toNu hw;have ek:=hv;have Y7:=hw;obtain ⟨s1,w1,rfl,h1⟩:=hv;obtain ⟨s2,w2,rfl,h2⟩:=hw;obtain ⟨l1,u1⟩:=h1.aV;obtain ⟨l2,u2⟩:=h2.aV;have fin:∀r t1 t2 v1 v2 tm,(∀tm,aj tm 2= .ptr 0 0->aj tm 3= .ptr 1 0->aj tm 4= .ptr 2 0->fR [.cell 4 4 true] (D P L (aA (aA mJ.body)) ⟨tm,[(2,.cells true true true 4 [.int .i64 0,.aa,.int .i64 0,.aa]),(1,.cells true true true 2 [ab t2,v2]),(0,.cells true true true 2 [ab t1,v1])],3,0⟩)=some r)->aj tm 2= .ptr 0 0->aj tm 3= .ptr 1 0->aj tm 4= .ptr 2 0->
   D P L (.seq (bB mJ.body) (bB (aA mJ.body))) ⟨[(0,.agg [ab s1,w1]),(1,.agg [ab s2,w2])],[],0,0⟩=some (.normal,⟨tm,[(2,.cells true true true 4 [.int .i64 0,.aa,.int .i64 0,.aa]),(1,.cells true true true 2 [ab t2,v2]),(0,.cells true true true 2 [ab t1,v1])],3,0⟩)->ak P L 101 [.agg [ab s1,w1],.agg [ab s2,w2]] r:=fun r t1 t2 v1 v2 tm tail k2 k3 k4 e=>by
  unfold ak;rw [aI h.aAC];show fR [.cell 4 4 true] (D P L (.seq (bB mJ.body) (.seq (bB (aA mJ.body)) (aA (aA mJ.body)))) ⟨[(0,.agg [ab s1,w1]),(1,.agg [ab s2,w2])],[],0,0⟩)=_
  rw [BC,e,fD];exact tail tm k2 k3 k4
 by_cases hn:b<0
 ·obtain ⟨n1,e2,ja⟩:=EZ h.toNu ek ka (by omega);obtain ⟨n2,e3,dV⟩:=EZ h.toNu Y7 kb (by omega);obtain ⟨s3,w3,rfl,h3⟩:=ja;obtain ⟨s4,w4,rfl,h4⟩:=dV;obtain ⟨l3,u3⟩:=h3.aV;obtain ⟨l4,u4⟩:=h4.aV;obtain ⟨r,hr,tail⟩:=agS h h3 h4 (by omega) ka.neg kb.neg hK;rw [Rat.neg_divInt_neg] at hr;have hs:db b<0:=by unfold db;rw [yE hn];decide
  refine ⟨r,fin r _ _ _ _ _ tail ?_ ?_ ?_ (by simp only [go_sem,ya,yb,mJ,bB,aA,hs,bg,u1.pu,u1.ao,u1.one,u2.pu,u2.ao,u2.one,cd,cG,e1,e2,e3,bW,dM u3,dM u4]<;>rfl),hr⟩<;>simp only [go_sem,ya]
 ·obtain ⟨r,hr,tail⟩:=agS h h1 h2 (by omega) ka kb hK;have hs:¬db b<0:=by unfold db;rw [yr hn];split<;>decide
  refine ⟨r,fin r _ _ _ _ _ tail ?_ ?_ ?_ (by simp only [go_sem,ya,yb,mJ,bB,aA,hs,bg,u1.pu,u1.one,u2.pu,u2.ao,u2.one,cd,cG,e1]<;>rfl),hr⟩<;>simp only [go_sem,ya]
end
end
section
open Go (IntKind)
def Hq.mono {k m:Nat} {r:Rat} (h:Hq k r) (hk:k<=m):Hq m r:=⟨h.1.mono hk,h.2.mono hk⟩
def Hq.neg {k:Nat} {r:Rat} (h:Hq k r):Hq k (-r):=⟨h.1.neg,h.2⟩
def add_eq (a b:Rat):a+b=wu (a.num*b.den+b.num*a.den) ((a.den:Int)*b.den):=by
 rw [Rat.add_def',<-yaF,vv]
def mul_eq (a b:Rat):a*b=wu (a.num*b.num) ((a.den:Int)*b.den):=by
 rw [Rat.mul_def',<-yaF,vv]
def acq (a:Rat):0<(a.den:Int):=by have:=a.den_pos;omega
def Dk (a b:Rat):0<(a.den:Int)*b.den:=Int.mul_pos (acq a) (acq b)
def Bd.Xr {k:Nat} {a b:Int} (ha:Bd k a) (hb:Bd k b):Bd (k+1) (a+b):=by
 have:=ha.add hb
 grind
def Hq.add {k m:Nat} {a b:Rat} (ha:Hq k a) (hb:Hq m b):Hq (k+m+1) (a+b):=by
 rw [add_eq];refine Hq.divInt (Dk a b) ?_ ((ha.2.mul hb.2).mono (by omega));exact (ha.1.mul hb.2).Xr ((hb.1.mul ha.2).mono (by omega))
def Hq.mul {k m:Nat} {a b:Rat} (ha:Hq k a) (hb:Hq m b):Hq (k+m) (a*b):=by
 rw [mul_eq];exact Hq.divInt (Dk a b) (ha.1.mul hb.1) (ha.2.mul hb.2)
def Hq.inv {k:Nat} {a:Rat} (ha:Hq k a):Hq k a⁻¹:=by
 have h1:(a⁻¹).num.natAbs<=a.den:=by
  rw [Rat.num_inv,vO]
  grind
 refine ⟨ha.2.le (by simpa using h1),?_⟩;unfold Bd;rw [Rat.den_inv]
 split
 ·have h2:=ha.2;unfold Bd at h2
  simp_all
 ·exact ha.1
def QZ (a:Rat) (h:a.den=1):a=(a.num:Rat):=by
 have:=Rat.num_divInt_den a
 rw [h] at this;rw [<-this];exact (Rat.ext (by simp [yaY]) (by simp [yaZ]))
def Ef (a b c d:AV) (r:List AV):gP 2 true (List.drop 2 (a::b::c::d::r))=some (.agg [c,d]):=rfl
def sK (a b:AV) (r:List AV):gP 2 true (a::b::r)=some (.agg [a,b]):=rfl
section
variable {P:aH} {L:Lib}
def Xs (h:Fr' P L) {v:AV} {z:Int} (hv:cE v z):∃r,ak P L 111 [v] r/\dX r (z:Rat):=by
 obtain ⟨o1,o2⟩:=CD h.toNu (z:=1) (by decide) (by decide);obtain ⟨s1,w1,rfl,h1⟩:=hv;obtain ⟨l1,u1⟩:=h1.aV;have un:=r8;refine ⟨.agg [ab s1,w1,ab 1,.aa],?_,s1,w1,1,.aa,rfl,h1,.inl ⟨rfl,rfl,(by show (-9223372036854775808:Int)<=1;decide),(by show (1:Int)<9223372036854775808;decide)⟩⟩
 unfold ak;rw [aI h.aAD];simp only [go_sem,ya,yb,Ss,bg,u1.pu,u1.one,cd,o1,bW,DH,DI,mE u1 un,e9,fa,yH,iT,mF u1 un]
def O6 (h:Fr' P L) {z:Int} (h1: -9223372036854775808<=z) (h2:z<9223372036854775808):∃r,ak P L 69 [ab z] r/\dX r (z:Rat):=by
 obtain ⟨o1,o2⟩:=CD h.toNu h1 h2;obtain ⟨r,e,hr⟩:=Xs h o2;have bR:=hr;obtain ⟨s1,w1,s2,w2,rfl,k1,k2⟩:=hr;obtain ⟨l1,u1⟩:=k1.aV;obtain ⟨l2,u2⟩:=k2.aV;refine ⟨_,?_,bR⟩;unfold ak;rw [aI h.Y6];simp only [go_sem,ya,yb,JW,bg,cG,o1,e,bW,mE u1 u2,e9,fa,yH,iT,mF u1 u2]
def Y8 (h:Fr' P L) {v:AV} {a:Rat} (hv:dX v a):ak P L 98 [v] (.bool (decide (a.den=1))):=by
 obtain ⟨s1,w1,s2,w2,rfl,h1,h2⟩:=hv;obtain ⟨l1,u1⟩:=h1.aV;unfold ak;rw [aI h.h98];rcases h2 with ⟨rfl,rfl,b1,b2⟩ | ⟨e,l,rfl,gb,nb,vb,sb,b1⟩
 ·have e:decide (((a.den:Nat):Int)=1)=decide (a.den=1):=by simp;omega
  simp only [go_sem,ya,yb,OF,bg,u1.pu,u1.one,bY,yg,ayZ,aht,gk,ed,e]
 ·have e:decide (a.den=1)=false:=y7 (by omega);rw [e];simp only [go_sem,ya,yb,OF,bg,u1.pu,u1.one,bY,yg,aht,nj,ed]
def ajA (h:Fr' P L) {v:AV} {a:Rat} (hv:dX v a):ak P L 108 [v] (ab (db a.num)):=by
 obtain ⟨s1,w1,s2,w2,rfl,h1,h2⟩:=hv;obtain ⟨l1,u1⟩:=h1.aV;obtain ⟨l2,u2⟩:=h2.aV;have e1:=EY h.toNu ⟨s1,w1,rfl,h1⟩;unfold ak;rw [aI h.aAE];simp only [go_sem,ya,yb,Sr,bg,u1.pu,u1.ao,u1.one,u2.pu,u2.one,bY,yg,sK,cG,e1]
def ajB (h:Fr' P L) {v:AV} {a:Rat} {K:Nat} (hv:dX v a) (ka:Hq K a) (hK:K<=30000000000):∃r,ak P L 102 [v] r/\dX r (-a):=by
 obtain ⟨s1,w1,s2,w2,rfl,h1,h2⟩:=hv;obtain ⟨l1,u1⟩:=h1.aV;obtain ⟨l2,u2⟩:=h2.aV;obtain ⟨n,e1,hn⟩:=EZ h.toNu ⟨s1,w1,rfl,h1⟩ ka.1 (by omega);obtain ⟨s3,w3,rfl,h3⟩:=hn;obtain ⟨l3,u3⟩:=h3.aV;refine ⟨.agg [ab s3,w3,ab s2,w2],?_,s3,w3,s2,w2,rfl,h3,h2⟩;unfold ak;rw [aI h.aAF];simp only [go_sem,ya,yb,Sq,bg,u1.pu,u1.ao,u1.one,u2.pu,u2.one,u3.one,bY,yg,sK,Ef,cG,e1,bW,DH,DI,mE u3 u2,e9,fa,yH,iT,mF u3 u2]
def m74 (h:Fr' P L) {v w:AV} {a b:Rat} {K:Nat} (hv:dX v a) (hw:dX w b) (ka:Hq K a) (kb:Hq K b) (hK:K<=10000000000):∃r,ak P L 74 [v,w] r/\dX r (a+b):=by
 have i1:=Y8 h hv;have i2:=Y8 h hw;obtain ⟨s1,w1,s2,w2,rfl,h1,h2⟩:=hv;obtain ⟨s3,w3,s4,w4,rfl,h3,h4⟩:=hw;obtain ⟨l1,u1⟩:=h1.aV;obtain ⟨l2,u2⟩:=h2.aV;obtain ⟨l3,u3⟩:=h3.aV;obtain ⟨l4,u4⟩:=h4.aV;have n1:cE (.agg [ab s1,w1]) a.num:=⟨s1,w1,rfl,h1⟩;have n2:cE (.agg [ab s2,w2]) a.den:=⟨s2,w2,rfl,h2⟩;have n3:cE (.agg [ab s3,w3]) b.num:=⟨s3,w3,rfl,h3⟩;have n4:cE (.agg [ab s4,w4]) b.den:=⟨s4,w4,rfl,h4⟩;by_cases CV:a.den=1/\b.den=1
 ·obtain ⟨d1,d2⟩:=CV;obtain ⟨p,e1,hp⟩:=Js h.toNu n1 n3 ka.1 kb.1 (by omega);obtain ⟨r,e2,hr⟩:=Xs h hp;have he:((a.num+b.num:Int):Rat)=a+b:=by
   rw [Rat.intCast_add,<-QZ a d1,<-QZ b d2]
  rw [he] at hr;have bR:=hr;obtain ⟨s5,w5,rfl,h5⟩:=hp;obtain ⟨s6,w6,s7,w7,rfl,h6,h7⟩:=hr;obtain ⟨l5,u5⟩:=h5.aV;obtain ⟨l6,u6⟩:=h6.aV;obtain ⟨l7,u7⟩:=h7.aV;refine ⟨_,?_,bR⟩;rw [d1] at i1;rw [d2] at i2;unfold ak;rw [aI h.h74];simp only [go_sem,ya,yb,zA,bg,u1.pu,u1.ao,u1.one,u2.pu,u2.ao,u2.one,u3.pu,u3.ao,u3.one,u4.pu,u4.ao,u4.one,bY,yg,iT,sK,cG,i1,i2,e1,u5.ao,e2,bW,mE u6 u7,e9,fa,yH,iT,mF u6 u7]
 ·obtain ⟨p1,e1,bi⟩:=AJ h.toNu n1 n4 ka.1 kb.2 (by omega);obtain ⟨p2,e2,kj⟩:=AJ h.toNu n3 n2 kb.1 ka.2 (by omega);obtain ⟨p3,e3,hp3⟩:=Js h.toNu bi kj (ka.1.mul kb.2) (kb.1.mul ka.2) (by omega);obtain ⟨p4,e4,hp4⟩:=AJ h.toNu n2 n4 ka.2 kb.2 (by omega);obtain ⟨r,e5,hr⟩:=Xq h hp3 hp4 (by have:=Dk a b;omega) ((ka.1.mul kb.2).Xr (kb.1.mul ka.2)) ((ka.2.mul kb.2).mono (by omega)) (by omega);rw [<-add_eq] at hr;have bR:=hr;obtain ⟨s5,w5,rfl,h5⟩:=bi;obtain ⟨s6,w6,rfl,h6⟩:=kj;obtain ⟨s7,w7,rfl,h7⟩:=hp3;obtain ⟨s8,w8,rfl,h8⟩:=hp4;obtain ⟨s9,w9,Y9,w10,rfl,h9,ig⟩:=hr;obtain ⟨l5,u5⟩:=h5.aV;obtain ⟨l6,u6⟩:=h6.aV;obtain ⟨l7,u7⟩:=h7.aV;obtain ⟨l8,u8⟩:=h8.aV;obtain ⟨l9,u9⟩:=h9.aV;obtain ⟨l10,O7⟩:=ig.aV;refine ⟨_,?_,bR⟩;unfold ak;rw [aI h.h74];by_cases d1:a.den=1
  ·rw [d1] at i1;rw [y7 (fun d2=>CV ⟨d1,d2⟩)] at i2;simp only [go_sem,ya,yb,zA,bg,u1.pu,u1.ao,u1.one,u2.pu,u2.ao,u2.one,u3.pu,u3.ao,u3.one,u4.pu,u4.ao,u4.one,bY,yg,iT,sK,Ef,cG,i1,i2,e1,e2,u5.ao,u6.ao,e3,e4,u7.ao,u8.ao,e5,bW,mE u9 O7,e9,fa,yH,iT,mF u9 O7]
  ·rw [y7 d1] at i1;simp only [go_sem,ya,yb,zA,bg,u1.pu,u1.ao,u1.one,u2.pu,u2.ao,u2.one,u3.pu,u3.ao,u3.one,u4.pu,u4.ao,u4.one,bY,yg,iT,sK,Ef,cG,i1,e1,e2,u5.ao,u6.ao,e3,e4,u7.ao,u8.ao,e5,bW,mE u9 O7,e9,fa,yH,iT,mF u9 O7]
def m49 (h:Fr' P L) {v w:AV} {a b:Rat} {K:Nat} (hv:dX v a) (hw:dX w b) (ka:Hq K a) (kb:Hq K b) (hK:K<=10000000000):∃r,ak P L 49 [v,w] r/\dX r (a*b):=by
 obtain ⟨s1,w1,s2,w2,rfl,h1,h2⟩:=hv;obtain ⟨s3,w3,s4,w4,rfl,h3,h4⟩:=hw;obtain ⟨l1,u1⟩:=h1.aV;obtain ⟨l2,u2⟩:=h2.aV;obtain ⟨l3,u3⟩:=h3.aV;obtain ⟨l4,u4⟩:=h4.aV;obtain ⟨p1,e1,bi⟩:=AJ h.toNu (v:= .agg [ab s1,w1]) (w:= .agg [ab s3,w3]) ⟨s1,w1,rfl,h1⟩ ⟨s3,w3,rfl,h3⟩ ka.1 kb.1 (by omega);obtain ⟨p2,e2,kj⟩:=AJ h.toNu (v:= .agg [ab s2,w2]) (w:= .agg [ab s4,w4]) ⟨s2,w2,rfl,h2⟩ ⟨s4,w4,rfl,h4⟩ ka.2 kb.2 (by omega);obtain ⟨r,e3,hr⟩:=Xq h bi kj (by have:=Dk a b;omega) (ka.1.mul kb.1) (ka.2.mul kb.2) (by omega);rw [<-mul_eq] at hr;have bR:=hr;obtain ⟨s5,w5,rfl,h5⟩:=bi;obtain ⟨s6,w6,rfl,h6⟩:=kj;obtain ⟨s7,w7,s8,w8,rfl,h7,h8⟩:=hr;obtain ⟨l5,u5⟩:=h5.aV;obtain ⟨l6,u6⟩:=h6.aV;obtain ⟨l7,u7⟩:=h7.aV;obtain ⟨l8,u8⟩:=h8.aV;refine ⟨_,?_,bR⟩;unfold ak;rw [aI h.nQ]
 simp only [go_sem,ya,yb,c49,bg,u1.pu,u1.ao,u1.one,u2.pu,u2.ao,u2.one,u3.pu,u3.ao,u3.one,u4.pu,u4.ao,u4.one,u5.ao,u6.ao,bY,yg,sK,Ef,cG,e1,e2,e3,bW,mE u7 u8,e9,fa,yH,iT,mF u7 u8]
def m73 (h:Fr' P L) {v:AV} {a:Rat} {K:Nat} (hv:dX v a) (h0:a≠0) (ka:Hq K a) (hK:K<=10000000000):∃r,ak P L 73 [v] r/\dX r a⁻¹:=by
 obtain ⟨s1,w1,s2,w2,rfl,h1,h2⟩:=hv;obtain ⟨l1,u1⟩:=h1.aV;obtain ⟨l2,u2⟩:=h2.aV;obtain ⟨r,e1,hr⟩:=Xq h (v:= .agg [ab s2,w2]) (w:= .agg [ab s1,w1]) ⟨s2,w2,rfl,h2⟩ ⟨s1,w1,rfl,h1⟩ (fun e=>h0 (Rat.num_eq_zero.1 e)) ka.2 ka.1 (by omega);rw [<-Rat.inv_def] at hr;have bR:=hr;obtain ⟨s7,w7,s8,w8,rfl,h7,h8⟩:=hr;obtain ⟨l7,u7⟩:=h7.aV;obtain ⟨l8,u8⟩:=h8.aV;refine ⟨_,?_,bR⟩;unfold ak;rw [aI h.h73];simp only [go_sem,ya,yb,A6,bg,u1.pu,u1.ao,u1.one,u2.pu,u2.ao,u2.one,bY,yg,sK,Ef,cG,e1,bW,mE u7 u8,e9,fa,yH,iT,mF u7 u8]
end
end
section
open Go (IntKind)
def qK:List AV->Option (List Nat)
 | []=>some []
 | .int .u64 (.ofNat d)::r=>bif yP d 18446744073709551616 then (match qK r with | some l=>some (d::l) | none=>none) else none
 | _::_=>none
def rk:List Nat->Nat
 | []=>0
 | a::r=>a+18446744073709551616*rk r
def As:List Nat->Bool
 | []=>false
 | [a]=> !yx a 0
 | _::r=>As r
def LS:List AV->Option AV
 | [.agg [.int .i64 s,.aa]]=>bif Ao s then some (.str (aU s)) else none
 | [.agg [.int .i64 s,.ai _ n cs]]=>
  match qK cs with
  | some l=>
   bif yx l.length n&&(yF n 4000000000&&(As l&&yF 9223372036854775808 (rk l))) then
    match s with
    | .ofNat 1=>some (.str (aw (rk l)))
    | .negSucc 0=>some (.str (45::aw (rk l)))
    | _=>none
   else none
  | none=>none
 | _=>none
end
section
open Go (IntKind)
def aaO:∀{l:List Nat},lo 18446744073709551616 l->qK (l.map uc)=some l
 | [],_=>rfl
 | a::l,h=>by
  have h1:=h a (by simp);have h2:=aaO (l:=l) (fun x hx=>h x (by simp [hx]));show (bif yP a 18446744073709551616 then (match qK (l.map uc) with | some l=>some (a::l) | none=>none) else none)=_
  rw [jS h1,h2];rfl
def Q0:∀l:List Nat,rk l=bv 18446744073709551616 l
 | []=>rfl
 | a::l=>by simp only [rk,bv,Q0 l]
def acr:∀{l:List Nat},l≠[]->fW l->As l=true
 | [],h,_=>absurd rfl h
 | [a],_,h=>by
  have:a≠0:=fun e=>by
   subst e;have h:dL [0]=[0]:=h;simp [dL] at h
  simp [As,fY this]
 | a::b::r,_,h=>by
  have h1:fW (b::r):=by
   have h:dL (a::b::r)=a::b::r:=h;rw [dL] at h
   grind
  have:=acr (l:=b::r) (by simp) h1
  simpa [As] using this
section
variable {P:aH} {L:Lib}
structure Tx (P:aH) (L:Lib):Prop extends Fr' P L where
 FH:L.pure 99=some LS
 aAG:L.pure 175=some HH
 ajC:L.pure 152=some KU
 Xt:L.pure 153=some KJ
 Xu:L.pure 154=some Iq
 Xv:L.pure 109=some MM
 Xw:Has P L 155 MU
 ajD:Has P L 172 MY
 aAH:Has P L 151 MT
 aAI:Has P L 107 MN
 Za:Has P L 46 rK
 ajE:Has P L 110 MO
 O8:Has P L 62 Fv
def Zb (h:Tx P L) {v:AV} {z:Int} {K:Nat} (hv:cE v z) (hz:Bd K z) (hK:K<=4000000000):ak P L 99 [v] (.str (aU z)):=by
 obtain ⟨s,w,rfl,hn⟩:=hv;unfold ak;rw [iL h.FH];rcases hn with ⟨rfl,rfl,h1,h2⟩ | ⟨e,l,rfl,g,n,hb,hs,h1⟩
 ·show (bif Ao s then some (AV.str (aU s)) else none)=_
  have:Ao s=true:=by
   cases s with
   | ofNat k=>exact jS (by have:(Int.ofNat k)=(k:Int):=rfl;omega)
   | negSucc k=>exact jS (by omega)
  grind
 ·have ko:l≠[]:=fun e=>by subst e;simp [bv] at hb;omega
  have nH:l.length<=4000000000:=xf (nB n hb (yV hz (Ah K))) hK
  show (match qK (l.map uc) with
   | some l'=>bif yx l'.length l.length&&(yF l.length 4000000000&&(As l'&&yF 9223372036854775808 (rk l'))) then (match s with | .ofNat 1=>some (AV.str (aw (rk l'))) | .negSucc 0=>some (.str (45::aw (rk l'))) | _=>none) else none
   | none=>none)=_
  rw [aaO g];simp only [Nat.beq_refl,yt nH,acr ko n,Q0,hb,yt h1,wN,yB];by_cases h0:z<0
  ·rw [yE h0] at hs;subst hs;rw [lC h0];rfl
  ·rw [yr h0] at hs;subst hs;obtain ⟨m,rfl⟩:∃m:Nat,z=m:=⟨z.toNat,by omega⟩;rfl
def RT (r:Rat):List Nat:=aU r.num++(if r.den=1 then [] else 47::aw r.den)
def G9 {z:Int} {k:Nat} (h:Bd k z):(aU z).length<=k+1:=by
 have h1:∀m:Nat,m<2^k->(aw m).length<=max k 1:=fun m hm=>by
  cases k with
  | zero=>
       have:m=0:=by simpa using hm
       subst this;decide
  | succ k=>
   rw [Nat.max_eq_left (by omega)];exact qw (k:=k) (yV hm (tg (by decide) _))
 by_cases h0:z<0
 ·rw [lC h0];unfold Bd at h
  grind
 ·obtain ⟨m,rfl⟩:∃m:Nat,z=m:=⟨z.toNat,by omega⟩
  have:=h1 m (by unfold Bd at h;simpa using h)
  rw [jL];omega
def m46 (h:Tx P L) {v:AV} {a:Rat} {K:Nat} (hv:dX v a) (ka:Hq K a) (hK:K<=4000000000):ak P L 46 [v] (.str (RT a)):=by
 have i1:=Y8 h.toFr' hv;obtain ⟨s1,w1,s2,w2,rfl,h1,h2⟩:=hv;obtain ⟨l1,u1⟩:=h1.aV;obtain ⟨l2,u2⟩:=h2.aV;have e1:=Zb h (v:= .agg [ab s1,w1]) ⟨s1,w1,rfl,h1⟩ ka.1 hK;have e2:=Zb h (v:= .agg [ab s2,w2]) ⟨s2,w2,rfl,h2⟩ ka.2 hK;have b1:=G9 ka.1;have b2:=G9 ka.2;rw [jL] at e2 b2;unfold ak RT;rw [aI h.Za];by_cases hd:a.den=1
 ·rw [yE hd,wA];rw [hd] at i1;simp only [go_sem,ya,yb,rK,bg,u1.pu,u1.ao,u1.one,u2.pu,u2.ao,u2.one,iT,cG,i1,bY,yg,sK,e1]
 ·rw [yr hd];rw [y7 hd] at i1;have hc:aU a.num++47::aw a.den=(aU a.num++[47])++aw a.den:=by simp
  rw [hc]
  simp only [go_sem,ya,yb,rK,bg,u1.pu,u1.ao,u1.one,u2.pu,u2.ao,u2.one,iT,cG,i1,bY,yg,sK,Ef,e1,e2,fZ (a:=aU a.num) (b:=[47]) (by simp;omega),fZ (a:=aU a.num++[47]) (b:=aw a.den) (by simp;omega)]
end
end
section
open Go (IntKind)
def aAJ {n:Nat} (h:n<9223372036854775808):binOp .and (.int .i64 (n:Int)) (.int .i64 1)=some (.int .i64 ((n%2:Nat):Int)):=by
 show some (AV.int .i64 (IntKind.wrap .i64 ((xG 64 (n:Int)&&&xG 64 1).toNat:Int)))=_
 rw [show xG 64 (n:Int)=uo 64 n from BitVec.ofInt_natCast 64 n,show xG 64 1=uo 64 1 from rfl];rw [BitVec.toNat_and,vl,vl,show (1%2^64:Nat)=2^1-1 from rfl,Nat.and_two_pow_sub_one_eq_mod,wrapN (by omega)]
 grind
def aAK (n:Nat):binOp .shr (.int .i64 (n:Int)) (.int .u64 1)=some (.int .i64 ((n/2:Nat):Int)):=by
 show some (AV.int .i64 ((n:Int).fdiv (2^1)))=_
 grind
def Bd.pow {k:Nat} {z:Int} (h:Bd k z):∀e,Bd (k*e+1) (z^e)
 | 0=>by rw [tM,xD];unfold Bd;decide
 | e+1=>by
  have ih:=Bd.pow h e;rw [Int.pow_succ];exact (ih.mul h).mono (by rw [xt,yi];omega)
section
variable {P:aH} {L:Lib}
def axc (h:Nu P L) (Oa:True) {z:Int} {K k0:Nat} (hz:Bd K z) (hK:K*k0+1<=30000000000) {o1 o2:AV}:
  ∀m st,(∃(k i e:Nat) (s1 s2:Int) (w1 w2:AV),aQ [1,2,4,5] st=⟨[(1,ab k),(2,.ptr 0 0),(4,.ptr 1 0),(5,.ptr 2 0)],[(2,.cells true true true 2 [ab s2,w2]),(1,.cells true true true 2 [o1,o2]),(0,.cells true true true 2 [ab s1,w1])],3,0⟩/\dh s1 w1 (z^i)/\dh s2 w2 (z^e)/\e+i*k=k0/\(0<k->i<=k0)/\k<9223372036854775808/\k=m)->
   ∃ex st',D P L (.loop [1,2,4,5] BM) st=some (ex,st')/\∃tm s2 w2 c0,st'=⟨tm,[(2,.cells true true true 2 [ab s2,w2]),(1,.cells true true true 2 [o1,o2]),(0,c0)],3,0⟩/\ex= .exit 0/\aj tm 4= .ptr 1 0/\aj tm 5= .ptr 2 0/\dh s2 w2 (z^k0):=by
 intro dq sq;generalize bk:aQ [1,2,4,5] sq=s0;revert bk s0 sq dq;apply di;rintro m st ⟨k,i,e,s1,s2,w1,w2,rfl,h1,h2,hk,hi,hkb,rfl⟩;obtain ⟨l1,u1⟩:=h1.aV;obtain ⟨l2,u2⟩:=h2.aV;by_cases AY:k=0
 ·right
  subst AY;rw [xD,yZ] at hk;subst hk;simp only [go_sem,BM,show ¬(0:Int)<((0:Nat):Int) by omega];exact ⟨_,_,rfl,by simp,_,s2,w2,_,rfl,rfl,by simp only [go_sem,ya],by simp only [go_sem,ya],h2⟩
 ·left
  have cS:=hi (by omega);have he:e<=k0:=by omega
  have hik:i*1<=i*k:=yW i (by omega);have b1:Bd (K*k0+1) (z^i):=(hz.pow i).mono (by have:=yW K cS;omega);have b2:Bd (K*k0+1) (z^e):=(hz.pow e).mono (by have:=yW K he;omega);have n1:cE (.agg [ab s1,w1]) (z^i):=⟨s1,w1,rfl,h1⟩;have n2:cE (.agg [ab s2,w2]) (z^e):=⟨s2,w2,rfl,h2⟩;obtain ⟨p,e1,hp⟩:=AJ h n2 n1 b2 b1 (by omega);obtain ⟨q,e2,hq⟩:=AJ h n1 n1 b1 b1 (by omega);rw [<-Int.pow_add] at hp hq;obtain ⟨s3,w3,rfl,h3⟩:=hp;obtain ⟨s4,w4,rfl,h4⟩:=hq;obtain ⟨l3,u3⟩:=h3.aV;obtain ⟨l4,u4⟩:=h4.aV;have fy:=xR k 2;have Kq:=aAJ (n:=k) hkb;have Zc:=aAK k;have aG2:(i+i)*(k/2)=i*(2*(k/2)):=by rw [<-Nat.two_mul,xB 2 i,xk]
  by_cases aAL:k%2=1
  ·rw [aAL] at Kq fy;have rE:i*k=i*(2*(k/2))+i:=by
    conv=>lhs;rw [<-fy,xt,yi]
   by_cases jB:1<k
   ·simp only [go_sem,ya,BM,show (0:Int)<(k:Int) by omega,Kq,show ((1:Nat):Int)=1 from rfl,cd,cG,u1.ao,u2.ao,e1,bW,cd,yH,dM u3,dM u4,show (1:Int)<(k:Int) by omega,e2,Zc]
    exact ⟨_,k/2,rfl,by omega,k/2,i+i,e+i,s4,s3,w4,w3,by simp only [go_sem,ya,yb,av],h4,h3,by omega,fun h0=>by have:=yW (i+i) h0;omega,by omega,rfl⟩
   ·have eB:e+i+i*(k/2)=k0:=by
     have h1:k/2=0:=by omega
     rw [h1] at rE ⊢;omega
    simp only [go_sem,ya,BM,show (0:Int)<(k:Int) by omega,Kq,show ((1:Nat):Int)=1 from rfl,cd,cG,u1.ao,u2.ao,e1,bW,cd,yH,dM u3,show ¬(1:Int)<(k:Int) by omega,Zc];exact ⟨_,k/2,rfl,by omega,k/2,i,e+i,s1,s3,w1,w3,by simp only [go_sem,ya,yb,av],h1,h3,eB,fun h0=>by omega,by omega,rfl⟩
  ·have CO:k%2=0:=by omega
   rw [CO] at Kq fy;have rE:i*k=i*(2*(k/2)):=by
    conv=>lhs;rw [<-fy,yZ]
   simp only [go_sem,ya,BM,show (0:Int)<(k:Int) by omega,Kq,show ((0:Nat):Int)=0 from rfl,uJ,cd,cG,u1.ao,bW,cd,yH,dM u4,show (1:Int)<(k:Int) by omega,e2,Zc]
   exact ⟨_,k/2,rfl,by omega,k/2,i+i,e,s4,s2,w4,w2,by simp only [go_sem,ya,yb,av],h4,h2,by omega,fun h0=>by have:=yW (i+i) h0;omega,by omega,rfl⟩
def aAM (h:Nu P L) (Xw:Has P L 155 MU) {v:AV} {z:Int} {K k:Nat} (hv:cE v z) (hz:Bd K z) (hK:K*k+1<=30000000000) (hk:k<9223372036854775808):∃r,ak P L 155 [v,ab k] r/\cE r (z^k):=by
 obtain ⟨o1,o2⟩:=CD h (z:=1) (by decide) (by decide);obtain ⟨s1,w1,rfl,h1⟩:=hv;obtain ⟨l1,u1⟩:=h1.aV;have un:=r8;have iB:∃s w,ak P L 155 [.agg [ab s1,w1],ab k] (.agg [ab s,w])/\dh s w (z^k):=by
  unfold ak;rw [aI Xw];simp only [go_sem,ya,yb,MU,bg,u1.pu,u1.one,o1,bW,dM un];generalize hq:D P L (.loop [1,2,4,5] BM) _=q;obtain ⟨ex,st,rfl,tm,s5,w5,c1,rfl,rfl,t4,t5,h5⟩:=bI hq (axc (P:=P) (L:=L) h trivial hz (k0:=k) hK (o1:= .int .i64 0) (o2:= .aa) k) ⟨k,1,0,s1,1,w1,.aa,by simp only [go_sem,ya,yb,av],by rw [Int.pow_one];exact h1,.inl ⟨rfl,(tM z).symm,(by rw [tM];decide)⟩,by omega,fun h0=>h0,hk,rfl⟩
  obtain ⟨l5,u5⟩:=h5.aV;refine ⟨s5,w5,?_,h5⟩;simp only [go_sem,ya,yb,av,t4,t5,e9,fa,cd,yH,mD u5,dM u5]
 obtain ⟨s,w,e,hn⟩:=iB;exact ⟨_,e,s,w,rfl,hn⟩
def Hi:∀(l m:List Nat) (a:Nat),cN (l++m) a=(cN l a).bind (fun v=>cN m v)
 | [],m,a=>rfl
 | b::l,m,a=>by
  simp only [List.cons_append,cN]
  cases (yF 48 b&&yF b 57) with
  | true=>exact Hi l m _
  | false=>rfl
def aq9:∀{l:List Nat} {a v:Nat},cN l 0=some v->cN l a=some (a*10^l.length+v):=by
 intro l
 suffices h:∀{l:List Nat} {a b v:Nat},cN l b=some v->b*10^l.length<=v/\cN l (a+b)=some (a*10^l.length+v) by
  intro a v hv
  have:=(h (a:=a) hv).2
  grind
 intro l
 induction l with
 | nil=>intro a b v h;simp [cN] at h ⊢;omega
 | cons c l ih=>
  intro a b v h;simp only [cN] at h ⊢
  cases hb:(yF 48 c&&yF c 57) with
  | false=>rw [hb] at h;cases h
  | true=>
   rw [hb] at h;obtain ⟨h1,h2⟩:=ih (a:=10*a) h;simp only [yG,xc]
   grind
def Q1:∀{l:List Nat} {v:Nat},cN l 0=some v->v<10^l.length:=by
 suffices h:∀{l:List Nat} {b v:Nat},cN l b=some v->v<(b+1)*10^l.length by
  grind
 intro l
 induction l with
 | nil=>intro b v h;simp [cN] at h ⊢;omega
 | cons c l ih=>
  intro b v h;simp only [cN] at h
  cases hb:(yF 48 c&&yF c 57) with
  | false=>rw [hb] at h;cases h
  | true=>
   simp only [Bool.and_eq_true] at hb;have hc:=Nat.le_of_ble_eq_true hb.2;have h2:=yT (10^l.length) (show 10*b+(c-48)+1<=10*(b+1) by omega)
   grind
def ati (Xu:L.pure 154=some Iq) {f:cy} {s:List Nat} {v:Nat} (h0:0<s.length) (h1:s.length<=18) (hv:cN s 0=some v):bH P L f 154 [.str s]=some (.ae [.int .i64 v,.undef]):=by
 rw [iL Xu];show (bif yP 0 s.length&&yF s.length 18 then (match cN s 0 with | some n=>some (AV.ae [.int .i64 n,.undef]) | none=>none) else none)=_
 rw [jS h0,yt h1,hv];rfl
end
end
end VE
