import Derived.Test.YtfohkkaphnfgoaaGreatDoorTam
import Derived.Test.YtfohkkaphnfgoaaGreatDoorTal
import Derived.Test.YtfohkkaphnfgoaaGreatDoorTae
set_option linter.all false
set_option maxRecDepth 100000
open BitVec renaming ofInt→xN,ofNat→ud,toNat_ofNat→vl
open Bool renaming and_self→wv,not_false→yI,not_true→yJ,true_and→wI
open Int renaming ediv_emod_unique→uN,gcd→wN,gcd_comm→ybt,natAbs_ediv_of_dvd→vT,natAbs_mul→yaM,natCast_mul→xL,pow_zero→tJ,reduceEq→vC,reduceLT→yaE
open List renaming append_assoc→xF,append_nil→wJ,drop_drop→vG,drop_zero→yg,length_cons→yC,length_drop→wi,length_nil→yK,length_pos_iff→uO,length_take→yQ,take_append_drop→xW,take_of_length_le→yp
open Nat renaming add_comm→yav,add_zero→y7,beq→yv,ble→yE,ble_eq_true_of_le→yx,blt→yM,div_add_mod→xV,div_eq_of_lt→wC,div_le_self→vh,eq_zero_or_pos→xt,le_trans→xn,lt_of_le_of_lt→wu,lt_of_lt_of_le→yP,mod_eq_of_lt→yS,mod_le→ybK,mod_lt→xz,mul_add→xA,mul_add_div→yaC,mul_add_mod→yaD,mul_assoc→xr,mul_comm→xC,mul_le_mul_left→yU,mul_le_mul_right→yX,mul_lt_mul''→tB,mul_lt_mul_of_pos_right→wM,mul_one→yh,mul_zero→xI,pos_of_ne_zero→yac,pow_add→wB,pow_le_pow_left→uo,pow_le_pow_right→xD,pow_succ→xk,reduceAdd→yb,reduceEqDiff→ya,reduceLeDiff→yi,zero_add→yd
open Rat renaming den_divInt→yaO,divInt→wa,divInt_ofNat→yau,lt_iff→ybL,num_divInt→yaN,sub_eq_add_neg→yad
namespace VE
section
open Go (IntKind)
def ZU {b p A V bu bq0 U0 pre:Nat} (h1:bu=pre+p*A) (h2:bu+bq0*V=U0):(pre+p*(A%V))+(bq0+p*(A/V))*V=U0:=by
 have fu:=xV A V
 grind
def Ug (hp:Hp) (ct:Nat) (ex:Bool) (sz n:Nat) (cs:List AV):own hp ct (.bW ex sz n cs)=(.aC ct 0 n,(ct,.cells true true ex sz cs)::hp,ct+1):=rfl
section
variable {P:aG} {L:Lib}
def asl (h:Wd P L) {w:AV} {vs:List Nat} (hw:bJ w vs) (gv:lo 18446744073709551616 vs) {n la m:Nat} (lv:vs.length=n) (ew:2<=n) (PW:n<=la) (LP:la<=99999999999) (hm:m=la-n+1) (eZ:0<vs.getD (n-1) 0) {s U0:Nat}:
  ∀k st,(∃(j:Nat) (us qs:List Nat),aT [9,10,11,12,13,14] st=⟨[(9,aa s),(10,w),(11,.aC 0 0 (la+1)),(12,aa n),(13,.aC 1 0 m),(14,aa ((j:Int)-1))],H2 qs us,2,0⟩/\j=k/\j<=m/\us.length=la+1/\qs.length=m/\lo 18446744073709551616 us/\lo 18446744073709551616 qs/\(∀i,i<j->qs.getD i 0=0)/\
    bv 18446744073709551616 us+bv 18446744073709551616 qs*bv 18446744073709551616 vs=U0/\bv 18446744073709551616 (us.drop j)<bv 18446744073709551616 vs)->
   ∃ex st',D P L (.loop [9,10,11,12,13,14] Jh) st=some (ex,st')/\∃tm us qs,st'=⟨tm,H2 qs us,2,0⟩/\ex= .exit 2/\ah tm 9=aa s/\ah tm 11= .aC 0 0 (la+1)/\ah tm 12=aa n/\ah tm 13= .aC 1 0 m/\us.length=la+1/\qs.length=m/\lo 18446744073709551616 us/\lo 18446744073709551616 qs/\
    bv 18446744073709551616 us+bv 18446744073709551616 qs*bv 18446744073709551616 vs=U0/\bv 18446744073709551616 us<bv 18446744073709551616 vs:=by
 intro dq sq;generalize bw:aT [9,10,11,12,13,14] sq=s0;revert bw s0 sq dq;apply dn;rintro k st ⟨j,us,qs,rfl,rfl,hj,lu,lq,gu,gq,hz,aR,ot⟩
 cases j with
 | zero=>
  right
  simp only [go_sem,ya,Jh,H2,show ¬(0:Int)<=((0:Nat):Int)-1 by omega];exact ⟨_,_,rfl,by simp,_,us,qs,rfl,rfl,by simp only [go_sem,ya],by simp only [go_sem,ya],by simp only [go_sem,ya],by simp only [go_sem,ya],lu,lq,gu,gq,aR,by simpa using ot⟩
 | succ j=>
  left
  have dV:(0:Nat)<18446744073709551616:=by decide
  obtain ⟨pre,fc⟩:∃p,p=us.take j:=⟨_,rfl⟩;obtain ⟨x,hx⟩:∃p,p=(us.drop j).take (n+1):=⟨_,rfl⟩;obtain ⟨post,gP⟩:∃p,p=us.drop (j+(n+1)):=⟨_,rfl⟩;have lp:pre.length=j:=by rw [fc,yQ];omega
  have lx:x.length=n+1:=by rw [hx,yQ,wi];omega
  have kA:us=pre++x++post:=by
   rw [fc,hx,gP,<-vG,xF,xW,xW]
  have gx:lo 18446744073709551616 x:=by rw [hx];exact Bb (abF gu _) _
  have Vd:lo 18446744073709551616 pre:=by rw [fc];exact Bb gu _
  have aup:lo 18446744073709551616 post:=by rw [gP];exact abF gu _
  have hA:bv 18446744073709551616 (us.drop j)=us.getD j 0+18446744073709551616*bv 18446744073709551616 (us.drop (j+1)):=NJ (by omega);have hgj:=gO dV gu j;have G5:us.drop j=x++post:=by rw [gP,hx,<-vG,xW]
  have AM:bv 18446744073709551616 (us.drop j)=bv 18446744073709551616 x+18446744073709551616^(n+1)*bv 18446744073709551616 post:=by rw [G5,rT,lx]
  have LM:=mA gv;rw [lv] at LM;have a7:bv 18446744073709551616 (us.drop j)<18446744073709551616*bv 18446744073709551616 vs:=by omega
  have hp0:bv 18446744073709551616 post=0:=by
   rcases xt (bv 18446744073709551616 post) with e | e
   ·exact e
   ·have h1:=yU (18446744073709551616^(n+1)) e;rw [yh,xk] at h1;rw [xk] at AM;omega
  rw [hp0,xI,y7] at AM;have hl:gH x vs n (vs.getD (n-1) 0) (vs.getD (n-2) 0) (x.getD n 0) (x.getD (n-1) 0) (x.getD (n-2) 0):=
   ⟨ew,by omega,lx,lv,gx,gv,rfl,rfl,rfl,rfl,rfl,eZ,by rw [<-AM];exact a7⟩
  have Px:=hl.digit;obtain ⟨x',e1,Xf,QD,LQ⟩:=avX h hw hl (pre:=pre) (post:=post) (qs:=qs);rw [lp,<-kA] at e1;have Xg:bv 18446744073709551616 us=bv 18446744073709551616 pre+18446744073709551616^j*bv 18446744073709551616 x:=by
   have:=IR (b:=18446744073709551616) us j (by omega)
   rw [AM,<-fc] at this;exact this
  have Ve:bv 18446744073709551616 (pre++x'++post)=bv 18446744073709551616 pre+18446744073709551616^j*bv 18446744073709551616 x':=by
   rw [xF,rT,rT,hp0,xI,y7,lp]
  have bg:=n7 (b:=18446744073709551616) (l:=qs) (i:=j) (x:=bv 18446744073709551616 x/bv 18446744073709551616 vs) (by omega);rw [hz j (by omega),xI,y7] at bg;have lR:=ZU (b:=0) Xg aR;have aP:=fun (hp:Hp) (ct:Nat)=>kM (hp:=hp) (ct:=ct) (id:=1) (v:=bv 18446744073709551616 x/bv 18446744073709551616 vs) (ex:=true) (l:=qs) (o:=j) (by omega)
  have rF:0<bv 18446744073709551616 vs:=by omega
  have pP:=xz (bv 18446744073709551616 x) rF;have iV:∀tm (x y:X),cP tm 0 (some x)=some j->cP tm (la+1) (some y)=some (j+n+1)->fh (H2 qs us) (.sl 1) (.aC 0 0 (la+1)) tm (some x) (some y)=some (.aC 0 j (n+1)):=fun tm x y h1 h2=>by
   rw [apO (cs:=us.map uc) (pu:=true) (ex:=true) rfl h1 h2 (by omega) (by omega),show j+n+1-j=n+1 by omega]
  simp only [go_sem,ya,yh,Jh,H2,show ((j+1:Nat):Int)-1=(j:Int) by omega,show (0:Int)<=(j:Int) by omega,show (j:Int)+(n:Int)=((j+n:Nat):Int) from rfl,wrapN (n:=j+n) (by omega),show ((j+n:Nat):Int)+1=((j+n+1:Nat):Int) from rfl,wrapN (n:=j+n+1) (by omega),iV,dG,aeZ,e1,cW 1 0 (show j<m by omega),yd,aP];refine ⟨_,j,rfl,by omega,j,pre++x'++post,qs.set j (bv 18446744073709551616 x/bv 18446744073709551616 vs),?_,rfl,by omega,by rw [pq,lp,Xf,gP,wi];omega,by simp [lq],MY.2 ⟨MY.2 ⟨Vd,QD⟩,aup⟩,mv gq Px,fun i hi=>by rw [po (by omega)];exact hz i (by omega),?_,?_⟩
  ·rw [wrap64 (by omega) (by omega)];simp only [go_sem,ya,yb,an,ak hw.pu,ao _ hw.pu]<;>rfl
  ·rw [Ve,LQ,bg];exact lR
  ·rw [xF,List.drop_left' lp,rT,hp0,xI,y7,LQ];exact pP
def auq {l:List Nat} {n:Nat} (h:l.length=n+1):18446744073709551616^n*l.getD n 0<=bv 18446744073709551616 l:=by
 have:=jv (b:=18446744073709551616) (l:=l) n
 grind
def oz {m K:Nat} {l:List Nat} (hn:gY l) (hv:bv 18446744073709551616 l=m) (h:m<18446744073709551616^K):l.length<=K:=akF (b:=18446744073709551616) (by decide) hn (by rw [hv];exact h)
def asm (h:Wd P L) {v w:AV} {x:List Nat} {d:Nat} (hv:bJ v x) (hw:bJ w [d]) (gx:lo 18446744073709551616 x) (lx:x.length<=90000000000) (iN:0<d) (Xe:d<18446744073709551616) (ec:ae P L 158 [v,w] (aa (dR (bv 18446744073709551616 x) d))) (hc:d<=bv 18446744073709551616 x):
  ∃q r,ae P L 137 [v,w] (.au [q,r])/\WN q (bv 18446744073709551616 x/d)/\WN r (bv 18446744073709551616 x%d):=by
 have ez:¬dR (bv 18446744073709551616 x) d<0:=by unfold dR;rw [yA (by omega)];split<;>decide
 obtain ⟨n,hn⟩:∃n,n=x.length:=⟨_,rfl⟩;have main:∃r l,(∀c:Nat->AV->AV->Option AV,True)/\r<d/\l.length=n/\lo 18446744073709551616 l/\bv 18446744073709551616 x=bv 18446744073709551616 l*d+r/\
   ∃q1 r1,bJ q1 (ef l)/\bJ r1 (ef [r])/\ae P L 137 [v,w] (.au [q1,r1]):=by
  unfold ae;rw [ay h.Vb]
  simp only [go_sem,ya,Kd,hv.len,hv.af,hw.len,hw.af,ec,ez,yC,yK,yd,show ((1:Nat):Int)=(1:Int) from rfl,<-hn,DV (n:=n) _ (by omega)];generalize hq:D P L (.loop [0,1,6,7,8] Jg) _=q;obtain ⟨ex,s,rfl,tm,r,l,rfl,rfl,t6,t7,p9,bj,hr,aR⟩:=bD hq (asi (P:=P) (L:=L) h hv gx (by omega) hw iN Xe hn n) ⟨n,0,[],by
   rw [wrap64 (by omega) (by omega),wJ]
   simp only [go_sem,ya,yb,an,ak hv.pu,ao _ hv.pu,ak hw.pu,ao _ hw.pu]<;>rfl,rfl,rfl,NV,iN,by rw [List.drop_eq_nil_of_le (by omega)];simp [bv]⟩
  have hf:=nj true l;rw [p9] at hf;obtain ⟨q1,e1,fq⟩:=BQ h.mN hf (by omega);obtain ⟨r1,e2,cw⟩:=BQ h.mN (nj true [r]) (by simp);simp only [yC,yK,yd,List.map_cons,List.map_nil] at e2;refine ⟨r,l,fun _=>trivial,hr,p9,bj,aR,q1,r1,fq,cw,?_⟩
  simp only [go_sem,ya,yb,Nat.reduceLT,yi,yh,an,t6,t7,BP _ (n:=n) (l:=l) p9 true,e1,fq.shut,e2,cw.shut];exact Tw fq cw _
 obtain ⟨r,l,_,hr,p9,bj,aR,q1,r1,fq,cw,e⟩:=main;have hq:bv 18446744073709551616 l=bv 18446744073709551616 x/d:=by
  rw [aR,xC,yaC iN,wC hr,y7]
 have hm:r=bv 18446744073709551616 x%d:=by
  rw [aR,xC,yaD,yS hr]
 exact ⟨q1,r1,e,⟨_,fq,A5 bj,A4 _,by rw [A3,hq]⟩,⟨_,cw,A5 (FG.2 (by omega)),A4 _,by rw [A3,Bj,hm]⟩⟩
def asn (h:Wd P L) {v w:AV} {x y:List Nat} (hv:bJ v x) (hw:bJ w y) (gx:lo 18446744073709551616 x) (gy:lo 18446744073709551616 y) (nx:gY x) (ny:gY y) (lx:x.length<=90000000000) (ly:2<=y.length) (ec:ae P L 158 [v,w] (aa (dR (bv 18446744073709551616 x) (bv 18446744073709551616 y)))) (hc:bv 18446744073709551616 y<=bv 18446744073709551616 x):
  ∃q r,ae P L 137 [v,w] (.au [q,r])/\WN q (bv 18446744073709551616 x/bv 18446744073709551616 y)/\WN r (bv 18446744073709551616 x%bv 18446744073709551616 y):=by
 have dV:(0:Nat)<18446744073709551616:=by decide
 have ez:¬dR (bv 18446744073709551616 x) (bv 18446744073709551616 y)<0:=by unfold dR;rw [yA (by omega)];split<;>decide
 have hyx:y.length<=x.length:=by
  by_cases hh:x.length<y.length
  ·have:=NE (b:=18446744073709551616) (by decide) gx ny hh;omega
  ·omega
 obtain ⟨n,hn⟩:∃n,n=y.length:=⟨_,rfl⟩;obtain ⟨la,LP⟩:∃la,la=x.length:=⟨_,rfl⟩;have Bx:=Nh ny (fun e=>by subst e;simp at ly);have Es:=gO dV gy (y.length-1);have Xh:=hw.aZ (i:=y.length-1) (by omega);have lY:=auq (l:=y) (n:=n-1) (by omega);rw [<-hn] at Bx Es Xh;obtain ⟨top,ot⟩:∃top,y.getD (n-1) 0=top:=⟨_,rfl⟩;rw [ot] at Bx Es Xh lY;have elz:=adq (P:=P) (f:=D P L) h.KG Es;obtain ⟨z1,z2,z3⟩:=SA (yac Bx) Es;generalize 64-eO 64 top=s at*
 obtain ⟨ov,ev,lov,gov,vov⟩:=afI h.afN hw gy (by omega) z1;obtain ⟨ou,eu,lou,gou,vou⟩:=afI h.afN hv gx (by omega) z1;obtain ⟨v',Xi,eX⟩:=BQ h.mN (nj true ov) (by omega);rw [lov,<-hn] at Xi;rw [<-hn] at ev;rw [<-LP] at eu lou;have jl:=Nat.two_pow_pos s;obtain ⟨vs,Av⟩:∃vs,vs=ef ov:=⟨_,rfl⟩;rw [<-Av] at eX;have Et:lo 18446744073709551616 vs:=by rw [Av];exact A5 gov
 have LR:gY vs:=by rw [Av];exact A4 _
 have zq:bv 18446744073709551616 vs=bv 18446744073709551616 y*2^s:=by rw [Av,A3,vov]
 have hyW:bv 18446744073709551616 y*2^s<18446744073709551616^n:=by
  have e:18446744073709551616=2^(64-s)*2^s:=by rw [<-wB,show 64-s+s=64 by omega]
  have e1:=jv (b:=18446744073709551616) (l:=y) (n-1);rw [show n-1+1=n by omega,yp (by omega),ot] at e1;have e2:=mA (Bb gy (n-1));rw [yQ,Nat.min_eq_left (by omega)] at e2;have e3:top<2^(64-s):=Nat.lt_of_mul_lt_mul_right (a:=2^s) (Nat.lt_of_lt_of_eq z3 e);have e4:=yX (2^s) (show top+1<=2^(64-s) from e3);rw [<-e] at e4;have e5:bv 18446744073709551616 y<18446744073709551616^(n-1)*(top+1):=by rw [xA,yh];omega
  have e6:=wM e5 jl;rw [xr] at e6;have e7:=yU (18446744073709551616^(n-1)) e4;rw [<-xk,show (n-1).succ=n by omega] at e7;exact yP e6 e7
 have avY:18446744073709551616^(n-1)*2^s<=bv 18446744073709551616 vs:=by
  rw [zq];refine yX _ (xn ?_ lY)
  have:=yU (18446744073709551616^(n-1)) (show 1<=top by omega)
  omega
 have AN:vs.length=n:=by
  have h1:vs.length<=n:=by
   refine oz LR zq ?_;exact hyW
  have h2:¬vs.length<n:=fun hh=>by
   have e1:=mA Et;have e2:18446744073709551616^vs.length<=18446744073709551616^(n-1):=xD dV (by omega);have e3:=yX (2^s) lY;rw [xr,<-zq] at e3;have e4:=yU (18446744073709551616^(n-1)) (show 1<=top*2^s by omega);omega
  omega
 have eZ:0<vs.getD (n-1) 0:=by
  have:=Nh LR (fun e=>by rw [e] at AN;simp at AN;omega)
  rw [AN] at this;exact yac this
 obtain ⟨m,hm⟩:∃m,m=la-n+1:=⟨_,rfl⟩;have Uh:bv 18446744073709551616 (ou.drop m)<bv 18446744073709551616 vs:=by
  have e1:=IR (b:=18446744073709551616) ou m (by omega);have e2:=mA gx;rw [<-LP] at e2;have e3:=wM e2 jl;rw [<-vou] at e3;have e4:18446744073709551616^la=18446744073709551616^m*18446744073709551616^(n-1):=by rw [<-wB];congr 1;omega
  rw [e4,xr] at e3;have e5:18446744073709551616^m*bv 18446744073709551616 (ou.drop m)<18446744073709551616^m*(18446744073709551616^(n-1)*2^s):=by omega
  exact yP (Nat.lt_of_mul_lt_mul_left e5) avY
 have e1y:(y.length:Int)-1=((n-1:Nat):Int):=by omega
 have avZ:((la:Nat):Int)-(n:Int)=((m-1:Nat):Int):=by omega
 have jh:∃tm us qs rs,(us.length=la+1/\qs.length=m/\lo 18446744073709551616 us/\lo 18446744073709551616 qs/\bv 18446744073709551616 us+bv 18446744073709551616 qs*bv 18446744073709551616 vs=bv 18446744073709551616 x*2^s/\bv 18446744073709551616 us<bv 18446744073709551616 vs/\
   rs.length=n/\lo 18446744073709551616 rs/\bv 18446744073709551616 rs*2^s+us.getD 0 0%2^s=bv 18446744073709551616 (us.take n)+18446744073709551616^n*(us.getD n 0%2^s))/\ah tm 0=v/\
   ∃q1 r1,bJ q1 (ef qs)/\bJ r1 (ef rs)/\ae P L 137 [v,w] (.au [q1,r1]):=by
  unfold ae at ec ev eu Xi;unfold ae;rw [ay h.Vb];have hfo:=BP (n:=n+1) (l:=ov) (hp:=[]) (by omega) true
  simp only [go_sem,ya,yb,Kd,hv.len,hv.af,hw.len,hw.af,ec,ez,show ¬(y.length:Int)=1 by omega,e1y,wrapN (n:=n-1) (by omega),Xh,elz,ev,Ug,BP _ (n:=n+1) (l:=ov) (by omega) true,Xi,eX.len,eX.shut,eu,AN,<-LP,avZ,wrapN (n:=m-1) (by omega),show ((m-1:Nat):Int)+1=(m:Int) by omega,wrapN (n:=m) (by omega),DV (n:=m) _ (by omega)];generalize nc:D P L (.loop [9,10,11,12,13,14] Jh) _=qq;obtain ⟨ex,st,rfl,tm,us,qs,rfl,rfl,t9,t11,t12,t13,QE,QF,G6,Xj,aR,a7⟩:=bD nc (asl (P:=P) (L:=L) h eX Et AN (by omega) (by omega) (by omega) hm eZ (s:=s) (U0:=bv 18446744073709551616 x*2^s) m) ⟨m,ou,List.replicate m 0,by
   rw [show ((m-1:Nat):Int)=(m:Int)-1 by omega]
   simp only [go_sem,ya,yb,an,ak eX.pu,ao _ eX.pu]<;>rfl,rfl,Nat.le_refl _,lou,by simp,gou,FH dV m,fun i _=>CV m i,by rw [FI,Nat.zero_mul,y7,vou],Uh⟩
  simp only [go_sem,ya,yb,an,t9,t11,t12,t13];generalize DX:D P L (.loop [9,11,12,13,96,97] Fo) _=W9;obtain ⟨ex,st,rfl,sT,rs,rfl,rfl,t11,t12,t13,Xk,Xl,Py⟩:=bD DX (asj (P:=P) (L:=L) (qs:=qs) (m:=m) (la:=la+1) (n:=n) z1 QE G6 (by omega) (by omega) n) ⟨0,[],by simp only [go_sem,ya,yb,an]<;>rfl,by omega,rfl,NV,by simp [bv]⟩
  have iV:∀(hp:Hp) tm (y:X),az hp 0=some (.cells true true true 1 ((rs++us.drop n).map uc))->cP tm (la+1) (some y)=some n->fh hp (.sl 1) (.aC 0 0 (la+1)) tm none (some y)=some (.aC 0 0 n):=fun hp tm y h1 h2=>aaJ h1 h2 (by omega) (by omega)
  have LS:=nj true qs;rw [QF] at LS;obtain ⟨q1,f1,fq⟩:=BQ h.mN LS (by omega);have eK:(rs++us.drop n).take n=rs:=by rw [List.take_append_of_le_length (by omega),yp (by omega)]
  have LU:∃e,∀hp:Hp,lU 0 n (some (true,1,(rs++us.drop n).map uc,hp))=some (.aJ e n (rs.map uc),hp):=by
   refine ⟨true&&yM 0 1&&yv n ((rs++us.drop n).map uc).length,fun hp=>?_⟩;simp only [lU,yd,yh,slice,yg,<-List.map_take,eK];rw [yx (by simp;omega)];rfl
  obtain ⟨e,LU⟩:=LU;have fF:=nj e rs;rw [Xk] at fF;obtain ⟨r1,f2,cw⟩:=BQ h.mN fF (by omega);unfold ae at f1 f2;refine ⟨[(0,v)],us,qs,rs,⟨QE,QF,G6,Xj,aR,a7,Xk,Xl,Py⟩,rfl,q1,r1,fq,cw,?_⟩
  simp only [go_sem,ya,yb,an,t11,t12,t13,BP _ (n:=m) (l:=qs) QF true,f1,fq.shut,iV,dG,LU,f2,cw.shut];exact Tw fq cw _
 obtain ⟨tm,us,qs,rs,⟨QE,QF,G6,Xj,aR,a7,Xk,Xl,Py⟩,_,q1,r1,fq,cw,e⟩:=jh;have jW:0<bv 18446744073709551616 y:=by
  have:=yU (18446744073709551616^(n-1)) (show 1<=top by omega)
  have:=Nat.pow_pos (n:=n-1) dV
  omega
 rw [zq] at aR a7;have KH:bv 18446744073709551616 qs=bv 18446744073709551616 x/bv 18446744073709551616 y:=by
  rw [<-Nat.mul_div_mul_right _ _ jl,<-aR,yav,xC,yaC (Nat.mul_pos jW jl),wC a7,y7]
 have QG:bv 18446744073709551616 us=(bv 18446744073709551616 x%bv 18446744073709551616 y)*2^s:=by
  rw [<-Nat.mul_mod_mul_right,<-aR,yav,xC (bv _ qs),yaD,yS a7]
 have kA:=IR (b:=18446744073709551616) us n (by omega);have iN:bv 18446744073709551616 (us.drop n)=0:=by
  rcases xt (bv 18446744073709551616 (us.drop n)) with h0 | h0
  ·exact h0
  ·have:=yU (18446744073709551616^n) h0
   omega
 have hun:us.getD n 0=0:=by
  have:=NJ (b:=18446744073709551616) (l:=us) (i:=n) (by omega)
  omega
 rw [iN,xI,y7] at kA;have Cg:us.getD 0 0%2^s=0:=by
  have e1:=NJ (b:=18446744073709551616) (l:=us) (i:=0) (by omega);rw [yg,QG] at e1;have e2:18446744073709551616=2^s*2^(64-s):=by rw [<-wB,show s+(64-s)=64 by omega]
  have e3:(us.getD 0 0+18446744073709551616*bv 18446744073709551616 (us.drop (0+1)))%2^s=us.getD 0 0%2^s:=by
   conv=>lhs;rw [e2,xr]
   exact Nat.add_mul_mod_self_left _ _ _
  rw [<-e3,<-e1,Nat.mul_mod_left]
 rw [hun,Cg,Nat.zero_mod,xI,y7,y7,<-kA,QG] at Py;have ae0:bv 18446744073709551616 rs=bv 18446744073709551616 x%bv 18446744073709551616 y:=Nat.eq_of_mul_eq_mul_right jl Py;exact ⟨q1,r1,e,⟨_,fq,A5 Xj,A4 _,by rw [A3,KH]⟩,⟨_,cw,A5 Xl,A4 _,by rw [A3,ae0]⟩⟩
def afQ (h:Wd P L) {v w:AV} {a b K:Nat} (hv:WN v a) (hw:WN w b) (hb:0<b) (ha:a<18446744073709551616^K) (hbK:b<18446744073709551616^K) (hK:K<=90000000000):
  ∃q r,ae P L 137 [v,w] (.au [q,r])/\WN q (a/b)/\WN r (a%b):=by
 obtain ⟨x,G7,gx,nx,vx⟩:=hv;obtain ⟨y,QH,gy,ny,vy⟩:=hw;have lx:x.length<=90000000000:=xn (oz nx vx ha) hK;have ly:y.length<=90000000000:=xn (oz ny vy hbK) hK;have ec:=afD h.afO G7 QH gx gy nx ny (by omega) (by omega);subst vx;subst vy;by_cases hc:bv 18446744073709551616 x<bv 18446744073709551616 y
 ·have ez:dR (bv 18446744073709551616 x) (bv 18446744073709551616 y)= -1:=by unfold dR;rw [yH hc]
  rw [ez] at ec;refine ⟨.ab,v,?_,⟨[],zE,NV,rfl,by rw [wC hc];rfl⟩,⟨x,G7,gx,nx,by rw [yS hc]⟩⟩
  unfold ae;rw [ay h.Vb];simp only [go_sem,ya,Kd,G7.af,QH.af,ec,show (-1:Int)<0 by decide];exact Tw zE G7 _
 ·rcases (show y.length=0\/y.length=1\/2<=y.length by omega) with h0 | h1 | h2
  ·rw [List.eq_nil_of_length_eq_zero h0] at hb;simp [bv] at hb
  ·obtain ⟨d,rfl⟩:∃d,y=[d]:=by
    cases y with
    | nil=>simp at h1
    | cons d r=>cases r with
     | nil=>exact ⟨d,rfl⟩
     | cons e r=>simp at h1
   exact asm h G7 QH gx lx hb (FG.1 gy) ec (by omega)
  ·exact asn h G7 QH gx gy nx ny lx h2 ec (by omega)
end
end
section
open Go (IntKind)
def ja (v:AV) (n:Int):Prop:=∃w l,v= .agg [.bool (decide (n<0)),w]/\bl w l/\dg l/\nz l/\dv l=n.natAbs
def iE {l:List Int} {k:Nat} (hd:dg l) (hn:nz l) (h:dv l<1000000000^k):l.length<=k:=by
 by_cases h0:l=[]
 ·grind
 ·have h1:=Oi hn hd h0;have h2:1000000000^(l.length-1)<1000000000^k:=wu h1 h;have h3:=(Nat.pow_lt_pow_iff_right (show 1<1000000000 by decide)).1 h2;omega
def dI {hp:Hp} {ct id:Nat} {a b x y:AV} (h1:bm a=true) (h2:bm b=true) (p1:aU a=true) (p2:aU b=true):
  fE hp ct id 0 2 [a,b] (some (.cells true true true 2 [x,y]))=some (.au [],bg hp id (.cells true true true 2 [a,b]),ct):=by
 rw [mD (by rfl) (by simp) (by simp [bO,h1,h2])];simp [aH,p1,p2,over]
section
variable {P:aG} {L:Lib}
def cf (neg:Bool) (m:Nat):Int:=if neg=true then -(m:Int) else m
def oA (h:Has P L 294 BH) (cJ:Has P L 300 lS) (neg:Bool) {v:AV} {l:List Int} (hv:bl v l) (hd:dg l) (hl:l.length<=20000000000):
  ∃r,ae P L 294 [.bool neg,v] r/\ja r (cf neg (dv l)):=by
 obtain ⟨w,e1,hw,gl⟩:=BO cJ hv hl;have qv:=zC l;have Cn:=E9 l;have nT:=A2 hd;have hc:(neg&&decide ((0:Int)<((eb l).length:Nat)))=decide (cf neg (dv l)<0):=by
  unfold cf
  cases neg with
  | false=>simp
  | true=>
   simp only [wI,xm];by_cases h0:eb l=[]
   ·rw [h0] at qv ⊢;simp only [dv] at qv;simp [<-qv]
   ·have h1:0<(eb l).length:=uO.2 h0;have h2:0<dv l:=by
     rw [<-qv];rcases xt (dv (eb l)) with h | h
     ·exact absurd (SP Cn nT h) h0
     ·exact h
    rw [xo (by omega),xo (by omega)]
 refine ⟨.agg [.bool (decide (cf neg (dv l)<0)),w],?_,w,eb l,rfl,hw,nT,Cn,?_⟩
 ·rw [<-hc];unfold ae at e1 ⊢;rw [ay h]
  cases neg with
  | false=>
   simp only [go_sem,ya,yb,yi,BH,aK,hv.af,e1,hw.pu,hw.shut,hw.one,hw.cells,dI];rcases hw with ⟨rfl,_⟩ | ⟨e,rfl⟩<;>rfl
  | true=>
   simp only [go_sem,ya,yb,yi,BH,aK,hv.af,e1,hw.len,hw.pu,hw.shut,hw.one,hw.cells,dI];rcases hw with ⟨rfl,_⟩ | ⟨e,rfl⟩<;>rfl
 ·rw [qv];unfold cf;split<;>omega
def afR (h:Has P L 298 Pd) (ij:Has P L 294 BH) (cJ:Has P L 300 lS) {v:AV} {n:Int} {K:Nat} (hK:K<=20000000000) (hv:ja v n) (hn:n.natAbs<1000000000^K):∃r,ae P L 298 [v] r/\ja r (-n):=by
 obtain ⟨w,l,rfl,hw,hd,hz,qv⟩:=hv;obtain ⟨r,e1,hr⟩:=oA ij cJ (!decide (n<0)) hw hd (xn (iE hd hz (by rw [qv];exact hn)) hK)
 have e:cf (!decide (n<0)) (dv l)= -n:=by
  rw [qv];unfold cf;by_cases h0:n<0
  ·simp [h0];omega
  ·simp [h0];omega
 rw [e] at hr;obtain ⟨w2,l2,rfl,iy,fT,jj,Ai⟩:=hr;refine ⟨_,?_,w2,l2,rfl,iy,fT,jj,Ai⟩;unfold ae at e1 ⊢;rw [ay h];simp only [go_sem,ya,yb,Pd,aK,hw.pu,hw.af,hw.one,iy.pu,iy.one,aV,yd,bX,e1,dI,bC];rcases iy with ⟨rfl,_⟩ | ⟨e,rfl⟩<;>rfl
end
end
section
open Go (IntKind)
def da (s:Int) (w:AV) (z:Int):Prop:=
 (w= .ab/\s=z/\-9223372036854775808<=z/\z<9223372036854775808)\/
 (∃e l,w= .aJ e l.length (l.map uc)/\lo 18446744073709551616 l/\gY l/\bv 18446744073709551616 l=z.natAbs/\s=(if z<0 then -1 else 1)/\9223372036854775808<=z.natAbs)
def cE (v:AV) (z:Int):Prop:=∃s w,v= .agg [aa s,w]/\da s w z
def Bd (k:Nat) (z:Int):Prop:=z.natAbs<2^k
def Bk (k:Nat):2^k<=18446744073709551616^k:=uo (by decide) k
def Bd.mono {k m:Nat} {z:Int} (h:Bd k z) (hk:k<=m):Bd m z:=yP h (xD (by decide) hk)
def Bd.neg {k:Nat} {z:Int} (h:Bd k z):Bd k (-z):=by unfold Bd at h ⊢;rwa [Int.natAbs_neg]
def Bd.add {k m:Nat} {a b:Int} (ha:Bd k a) (hb:Bd m b):Bd (max k m+1) (a+b):=by
 have h1:Bd (max k m) a:=ha.mono (by omega);have h2:Bd (max k m) b:=hb.mono (by omega);unfold Bd at h1 h2 ⊢
 grind
def Bd.sub {k m:Nat} {a b:Int} (ha:Bd k a) (hb:Bd m b):Bd (max k m+1) (a-b):=by
 rw [Int.sub_eq_add_neg];exact ha.add hb.neg
def Bd.mul {k m:Nat} {a b:Int} (ha:Bd k a) (hb:Bd m b):Bd (k+m) (a*b):=by
 unfold Bd at*
 rw [yaM,wB];exact tB ha hb
def Bd.le {k:Nat} {a b:Int} (hb:Bd k b) (h:a.natAbs<=b.natAbs):Bd k a:=wu h hb
def WN.pos {v:AV} {m:Nat} (h:WN v m) (h0:0<m):∃e l,v= .aJ e l.length (l.map uc)/\l≠[]/\lo 18446744073709551616 l/\gY l/\bv 18446744073709551616 l=m:=by
 obtain ⟨l,hv,g,n,hb⟩:=h;have hl:l≠[]:=fun e=>by subst e;simp [bv] at hb;omega
 rcases hv with ⟨_,e⟩ | ⟨e,rfl⟩
 ·simp_all
 ·exact ⟨e,l,by simp,hl,g,n,hb⟩
def WN.aI {v:AV} {m:Nat} (h:WN v m):∃l,bJ v l/\lo 18446744073709551616 l/\gY l/\bv 18446744073709551616 l=m:=h
def n8 (e:Bool) (n:Nat) (cs:List AV):jz .sl (.aJ e n cs) .ab=some false:=rfl
def gR:jz .sl .ab .ab=some true:=rfl
def NK (hp:Hp) (ct id:Nat) (a:Int) (e:Bool) (n:Nat) (cs:List AV) (x y:AV):fE hp ct id 0 2 [.int .i64 a,.aJ e n cs] (some (.cells true true true 2 [x,y]))=some (.au [],bg hp id (.cells true true true 2 [.int .i64 a,.aJ e n cs]),ct):=dI rfl rfl rfl rfl
def rW {tm:Env} {a x y:AV} {r:List (Nat×Nat×X)} (h:bm a=true):fZ tm [x,y] 0 1 [a] r=fill tm [a,y] r:=abL (by simp) h
def da.ph {z:Int} (h1: -9223372036854775808<=z) (h2:z<9223372036854775808):cE (.agg [aa z,.ab]) z:=⟨z,.ab,rfl,.inl ⟨rfl,rfl,h1,h2⟩⟩
def da.cB {s:Int} {w:AV} {z:Int} (h:da s w z):(s<0↔z<0)/\(s=0↔z=0)/\-9223372036854775808<=s/\s<9223372036854775808:=by
 rcases h with ⟨_,rfl,h1,h2⟩ | ⟨e,l,_,_,_,_,rfl,h1⟩
 ·grind
 ·grind
section
variable {P:aG} {L:Lib}
structure Nu (P:aG) (L:Lib):Prop extends Wd P L where
 av0:Has P L 117 OU
 av1:Has P L 142 OW
 Vf:Has P L 136 Kc
 KI:Has P L 145 Ab
 av2:Has P L 146 UI
 Vg:Has P L 147 Ke
 afS:Has P L 163 O1
 av3:Has P L 118 DJ
 afT:Has P L 119 c119
 av4:Has P L 156 UL
 Pz:Has P L 100 mK
 Vh:Has P L 164 mL
 av5:Has P L 148 UJ
 av6:Has P L 130 UH
def DY (h:Nu P L) {z:Int} (h1: -9223372036854775808<=z) (h2:z<9223372036854775808):ae P L 117 [aa z] (.agg [aa z,.ab])/\cE (.agg [aa z,.ab]) z:=⟨n117 h.av0 z,da.ph h1 h2⟩
def Vi (h:Nu P L) {n:Int} (h1: -9223372036854775808<=n) (h2:n<9223372036854775808):ae P L 142 [aa n] (uc n.natAbs):=by
 unfold ae;rw [ay h.av1];by_cases h0:n<0
 ·have e:IntKind.wrap .u64 (IntKind.wrap .i64 (0-n))=(n.natAbs:Int):=by
   by_cases hm:n= -9223372036854775808
   ·subst hm;rfl
   ·rw [wrap64 (by omega) (by omega),On];omega
  simp only [go_sem,ya,OW,h0,adm,e]
 ·have e:IntKind.wrap .u64 n=(n.natAbs:Int):=by rw [On];omega
  simp only [go_sem,ya,OW,h0,adm,e]
def Aj (h:Nu P L) {s:Int} {w:AV} {z:Int} (hz:da s w z):∃r,ae P L 136 [.agg [aa s,w]] (.au [.bool (decide (z<0)),r])/\WN (bG r) z.natAbs:=by
 rcases hz with ⟨rfl,rfl,h1,h2⟩ | ⟨e,l,rfl,g,n,hb,hs,h1⟩
 ·by_cases h0:s=0
  ·subst h0;refine ⟨.ab,?_,[],zE,NV,rfl,rfl⟩;unfold ae;rw [ay h.Vf];simp only [go_sem,ya,yb,Kc,aK,aV,yd,bX,gR,JA,yaE];rfl
  ·have e1:=Vi h h1 h2;refine ⟨.bW true 1 1 [uc s.natAbs],?_,[s.natAbs],nj true [s.natAbs],FG.2 (by omega),EV (by omega) [],Bj _⟩;unfold ae;rw [ay h.Vf];simp only [go_sem,ya,yb,yi,yh,Kc,aK,aV,yd,bX,gR,JA,h0,e1];rfl
 ·have kJ:decide (s<0)=decide (z<0):=by rw [hs];split<;>simp<;>omega
  refine ⟨.aJ e l.length (l.map uc),?_,l,nj e l,g,n,hb⟩;unfold ae;rw [ay h.Vf];simp only [go_sem,ya,yb,Kc,aK,aV,yd,bX,n8,JA,kJ];rfl
def ZV {d:Nat} (h:d<=9223372036854775807):IntKind.wrap .i64 (d:Int)=d:=wrapN (by omega)
def DZ (h:Nu P L) (neg:Bool) {w:AV} {m K:Nat} (hw:WN w m) (hm:m<18446744073709551616^K) (hK:K<=90000000000):∃r,ae P L 145 [.bool neg,w] r/\cE r (cf neg m):=by
 obtain ⟨l,hu,g,n,hb⟩:=hw;have p9:l.length<=90000000000:=xn (oz n hb hm) hK;by_cases h0:l=[]
 ·subst h0
  have:m=0:=by rw [<-hb];rfl
  subst this;have e:cf neg 0=0:=by unfold cf;cases neg<;>rfl
  rw [e];refine ⟨.agg [aa 0,.ab],?_,da.ph (by decide) (by decide)⟩;unfold ae;rw [ay h.KI];simp only [go_sem,ya,yb,Ab,aK,hu.len,yK,show (((0:Nat):Nat):Int)=0 from rfl,sj];rfl
 ·have jB:0<l.length:=uO.2 h0;by_cases h1:l.length=1/\l.getD 0 0<=9223372036854775807
  ·obtain ⟨h1,h2⟩:=h1;obtain ⟨d,rfl⟩:∃d,l=[d]:=by
    cases l with
    | nil=>simp at h1
    | cons d r=>cases r with
     | nil=>exact ⟨d,rfl⟩
     | cons e r=>simp at h1
   have h2:d<=9223372036854775807:=h2;rw [Bj] at hb;subst hb;have ex:=hu.aZ (i:=0) (by simp);rw [show ([d]:List Nat).getD 0 0=d from rfl] at ex;have hlen:∀hp,ia hp 1 w=some (.int .i64 1):=fun hp=>hu.len
   cases neg with
   | true=>
    refine ⟨.agg [aa (0-(d:Int)),.ab],?_,?_⟩
    ·unfold ae;rw [ay h.KI]
     simp only [go_sem,ya,yb,yi,Ab,aK,hlen,vC,ex,show (d:Int)<=9223372036854775807 by omega,NW,ZV h2,wrap64 (n:=0-(d:Int)) (by omega) (by omega),sj];rfl
    ·have:cf true d=0-(d:Int):=by unfold cf;simp
     rw [this];exact da.ph (by omega) (by omega)
   | false=>
    refine ⟨.agg [aa (d:Int),.ab],?_,?_⟩
    ·unfold ae;rw [ay h.KI];simp only [go_sem,ya,yb,yi,Ab,aK,hlen,vC,ex,show (d:Int)<=9223372036854775807 by omega,NW,ZV h2,sj];rfl
    ·have:cf false d=(d:Int):=by unfold cf;simp
     rw [this];exact da.ph (by omega) (by omega)
  ·have QI:9223372036854775808<=m:=by
    rw [<-hb];by_cases h2:l.length=1
    ·obtain ⟨d,rfl⟩:∃d,l=[d]:=by
      cases l with
      | nil=>simp at h2
      | cons d r=>cases r with
       | nil=>exact ⟨d,rfl⟩
       | cons e r=>simp at h2
     have:¬d<=9223372036854775807:=fun hd=>h1 ⟨h2,hd⟩
     rw [Bj];omega
    ·have h3:=Tq (b:=18446744073709551616) (by decide) n h0;have h4:18446744073709551616^1<=18446744073709551616^(l.length-1):=xD (by decide) (by omega);rw [Nat.pow_one] at h4;omega
   have cY:∃e,w= .aJ e l.length (l.map uc):=by
    rcases hu with ⟨rfl,hh⟩ | ⟨e,rfl⟩
    ·simp at hh;exact absurd hh h0
    ·exact ⟨e,by simp⟩
   obtain ⟨e,rfl⟩:=cY;have ex:=hu.aZ (i:=0) jB;have first:(decide ((l.length:Int)=1)=true/\¬((l.getD 0 0:Nat):Int)<=9223372036854775807)\/decide ((l.length:Int)=1)=false:=by
    by_cases h2:l.length=1
    ·left;refine ⟨by simp;omega,fun hd=>h1 ⟨h2,by omega⟩⟩
    ·right;simp;omega
   cases neg with
   | true=>
    refine ⟨.agg [aa (-1),.aJ e l.length (l.map uc)],?_,-1,_,rfl,.inr ⟨e,l,rfl,g,n,by rw [hb];unfold cf;simp,by unfold cf;simp;omega,by unfold cf;simp;omega⟩⟩
    unfold ae;rw [ay h.KI];rcases first with ⟨f1,f2⟩ | f1
    ·simp only [go_sem,ya,yb,yi,Ab,aK,show ¬(l.length:Int)=0 by omega,f1,f2,ex,rW,NK];rfl
    ·simp only [go_sem,ya,yb,yi,Ab,aK,show ¬(l.length:Int)=0 by omega,f1,rW,NK];rfl
   | false=>
    refine ⟨.agg [aa 1,.aJ e l.length (l.map uc)],?_,1,_,rfl,.inr ⟨e,l,rfl,g,n,by rw [hb];unfold cf;simp,by unfold cf;simp,by unfold cf;simp;omega⟩⟩
    unfold ae;rw [ay h.KI];rcases first with ⟨f1,f2⟩ | f1
    ·simp only [go_sem,ya,yb,yi,Ab,aK,show ¬(l.length:Int)=0 by omega,f1,f2,ex,rW,NK];rfl
    ·simp only [go_sem,ya,yb,yi,Ab,aK,show ¬(l.length:Int)=0 by omega,f1,rW,NK];rfl
end
end
section
open Go (IntKind)
def bk:VC->VC
 | .seq a _=>a
 | c=>c
def ant {a b:Int} {x y:Nat} (ha:a.natAbs=x) (hb:b.natAbs=y) (h:decide (a<0)=decide (b<0)):cf (decide (a<0)) (x+y)=a+b:=by
 unfold cf
 grind
def aaK {a b:Int} {m:Nat} (hm:m+b.natAbs=a.natAbs) (h:¬decide (a<0)=decide (b<0)):cf (decide (a<0)) m=a+b:=by
 unfold cf
 grind
def anu {a:Int}:cf (!decide (a<0)) a.natAbs= -a:=by
 unfold cf
 grind
def aaL {a b:Int}:cf (decide (a<0) !=decide (b<0)) (a.natAbs*b.natAbs)=a*b:=by
 unfold cf
 grind
def mF {s:Int} {w:AV} {l:List Nat} (h:bJ w l) (hp:Hp):result hp (.agg [aa s,w])=some (.agg [aa s,w]):=by
 rcases h with ⟨rfl,_⟩ | ⟨e,rfl⟩<;>rfl
def dJ {s:Int} {w:AV} {l:List Nat} (h:bJ w l) (hp:Hp) (ct id:Nat) (x y:AV):fE hp ct id 0 2 [.int .i64 s,w] (some (.cells true true true 2 [x,y]))=some (.au [],bg hp id (.cells true true true 2 [.int .i64 s,w]),ct):=dI rfl h.one rfl h.pu
def da.aI {s:Int} {w:AV} {z:Int} (h:da s w z):∃l,bJ w l:=by
 rcases h with ⟨rfl,_⟩ | ⟨e,l,rfl,_⟩
 ·exact ⟨[],zE⟩
 ·exact ⟨l,nj e l⟩
def ae1 (hp:Hp) (sz:Nat) (ag:Bool):AV->Option AV
 | .ptr id o=>Qy sz ag o (az hp id)
 | .aQ cs=>fD sz ag cs
 | _=>none
def dA (tm:Env) (hp:Hp) (ct base i sz:Nat) (ag:Bool):results1 ⟨tm,hp,ct,base⟩ (.cell i sz ag)=ae1 hp sz ag (ah tm i):=by
 rfl
def dB (hp:Hp) (sz:Nat) (ag:Bool) (id o:Nat):ae1 hp sz ag (.ptr id o)=Qy sz ag o (az hp id):=rfl
section
variable {P:aG} {L:Lib}
def Gr (h:Nu P L) {v:AV} {z:Int} (hv:cE v z):ae P L 146 [v] (aa (cB z)):=by
 obtain ⟨s,w,rfl,hn⟩:=hv;obtain ⟨l,hu⟩:=hn.aI;have e:cB s=cB z:=by
  obtain ⟨h1,h2,_⟩:=hn.cB;unfold cB;by_cases h0:z<0
  ·rw [yH h0,yH (h1.2 h0)]
  ·by_cases h3:z=0
   ·rw [yA (fun h=>h0 (h1.1 h)),yH (h2.2 h3),yA h0,yH h3]
   ·rw [yA (fun h=>h0 (h1.1 h)),yA (fun h=>h3 (h2.1 h)),yA h0,yA h3]
 unfold ae;rw [ay h.av2];simp only [go_sem,ya,yb,UI,aK,hu.pu,hu.one,aV,yd,Dj,Jz,CP,IT,ar6,e]
def Gs (h:Nu P L) {v:AV} {z:Int} {K:Nat} (hv:cE v z) (hz:Bd K z) (hK:K<=90000000000):∃r,ae P L 147 [v] r/\cE r (-z):=by
 obtain ⟨s,w,rfl,hn⟩:=hv;obtain ⟨p,e1,hp⟩:=Aj h hn;obtain ⟨lp,iX,_⟩:=hp.aI;obtain ⟨r,e2,hr⟩:=DZ h (!decide (z<0)) hp (yP hz (Bk K)) hK;rw [anu] at hr;have cm:=hr;obtain ⟨s',w',rfl,gW⟩:=hr;obtain ⟨l',jq⟩:=gW.aI;rcases hn with ⟨rfl,rfl,h1,h2⟩ | ⟨e,l0,rfl,g,n,hb,hs,h1⟩
 ·by_cases h0:s= -9223372036854775808
  ·refine ⟨_,?_,cm⟩;unfold ae;rw [ay h.Vg];simp only [go_sem,ya,yb,Ke,aK,aV,yd,bX,gR,dZ,h0];rw [h0] at e1 e2;simp only [go_sem,ya,cr,a8,e1,e2,iX.af,bC,dA,dB,cr,yg,mF jq,dJ jq]
  ·refine ⟨.agg [aa (-s),.ab],?_,da.ph (by omega) (by omega)⟩;unfold ae;rw [ay h.Vg]
   simp only [go_sem,ya,yb,Ke,aK,aV,yd,bX,gR,dZ,h0,wrap64 (n:=0-s) (by omega) (by omega),sj,rW];rw [Int.zero_sub];rfl
 ·refine ⟨_,?_,cm⟩;unfold ae;rw [ay h.Vg];simp only [go_sem,ya,yb,Ke,aK,aV,yd,bX,n8,dZ,cr,a8,e1,e2,iX.af,bC,dA,dB,cr,yg,mF jq,dJ jq]
def afU (h:Nu P L) {v:AV} {z:Int} {K:Nat} (hv:cE v z) (hz:Bd K z) (hK:K<=90000000000):∃r,ae P L 163 [v] r/\cE r (z.natAbs:Nat):=by
 have eX:=hv;obtain ⟨s,w,rfl,hn⟩:=hv;obtain ⟨l,hu⟩:=hn.aI;have G8:=hn.cB.1;by_cases h0:z<0
 ·obtain ⟨r,e1,hr⟩:=Gs h eX hz hK;rw [show -z=(z.natAbs:Int) by omega] at hr;have cm:=hr;obtain ⟨s',w',rfl,gW⟩:=hr;obtain ⟨l',jq⟩:=gW.aI;refine ⟨_,?_,cm⟩;unfold ae;rw [ay h.afS];simp only [go_sem,ya,yb,O1,aK,hu.pu,hu.af,hu.one,aV,yd,G8.2 h0,cr,a8,e1,bC,dA,dB,cr,yg,mF jq,dJ jq]
 ·rw [show ((z.natAbs:Nat):Int)=z by omega];refine ⟨_,?_,eX⟩;unfold ae;rw [ay h.afS];simp only [go_sem,ya,yb,O1,aK,hu.pu,hu.one,aV,yd,show ¬s<0 from fun h=>h0 (G8.1 h),cr,dA,dB,cr,yg,mF hu,dJ hu]
def aso (h:Nu P L) {s1 s2:Int} {w1 w2:AV} {a b:Int} {K:Nat} (ha:da s1 w1 a) (hb:da s2 w2 b) (ka:Bd K a) (kb:Bd K b) (hK:K<=40000000000):
  ∃r,cE r (a+b)/\∀tm,ah tm 2= .ptr 0 0->ah tm 3= .ptr 1 0->ah tm 4= .ptr 2 0->fj [.cell 4 2 true] (D P L (aw (aw c119.body)) ⟨tm,[(2,.cells true true true 2 [.int .i64 0,.ab]),(1,.cells true true true 2 [aa s2,w2]),(0,.cells true true true 2 [aa s1,w1])],3,0⟩)=some r:=by
 obtain ⟨l1,u1⟩:=ha.aI;obtain ⟨l2,u2⟩:=hb.aI;obtain ⟨p,e1,hp⟩:=Aj h ha;obtain ⟨q,e2,hq⟩:=Aj h hb;obtain ⟨lp,iX,gp,np,vp⟩:=hp.aI;obtain ⟨lq,oP,gq,nq,vq⟩:=hq.aI;have Co:=yP ka (Bk K);have G9:=yP kb (Bk K);have llp:lp.length<=40000000000:=xn (oz np vp Co) hK;have llq:lq.length<=40000000000:=xn (oz nq vq G9) hK;by_cases hs:decide (a<0)=decide (b<0)
 ·obtain ⟨o,nS,e3,ho,nR,no,vo⟩:=avI h.avS h.mN h.gT iX oP gp gq (by omega) (by omega);obtain ⟨r,e4,hr⟩:=DZ h (decide (a<0)) ⟨nS,ho,nR,no,vo⟩ (K:=K+1) (by rw [vp,vq,xk];omega) (by omega);rw [ant vp.symm vq.symm hs] at hr;have cm:=hr;obtain ⟨s',w',rfl,gW⟩:=hr;obtain ⟨l',jq⟩:=gW.aI;refine ⟨_,cm,fun tm t2 t3 t4=>?_⟩;simp only [go_sem,ya,c119,aw,t2,t3,cr,a8,u1.af,u2.af,e1,e2,iX.af,oP.af,dZ,pJ,hs,tC];rw [hs] at e4;simp only [go_sem,ya,t4,e3,ho.af,ho.shut,e4,bC,dA,dB,cr,yg,mF jq,dJ jq]
 ·have lJ:(decide (a<0)==decide (b<0))=false:=by simpa using hs
  have e3:=afD h.afO iX oP gp gq np nq (by omega) (by omega);rw [vp,vq] at e3;by_cases hc:b.natAbs<=a.natAbs
  ·obtain ⟨o,nS,e4,ho,nR,no,vo⟩:=afE h.afP h.mN h.sJ iX oP gp gq nq (by omega) (by rw [vp,vq];exact hc)
   rw [vp,vq] at vo;obtain ⟨r,e5,hr⟩:=DZ h (decide (a<0)) ⟨nS,ho,nR,no,rfl⟩ (K:=K) (by omega) (by omega);rw [aaK vo hs] at hr;have cm:=hr;obtain ⟨s',w',rfl,gW⟩:=hr;obtain ⟨l',jq⟩:=gW.aI;have ez:(0:Int)<=dR a.natAbs b.natAbs:=by unfold dR;rw [yA (by omega)];split<;>decide
   refine ⟨_,cm,fun tm t2 t3 t4=>?_⟩;simp only [go_sem,ya,c119,aw,t2,t3,t4,cr,a8,u1.af,u2.af,e1,e2,iX.af,oP.af,dZ,pJ,lJ,e3,ez,e4,ho.af,ho.shut,e5,bC,dA,dB,cr,yg,mF jq,dJ jq]
  ·obtain ⟨o,nS,e4,ho,nR,no,vo⟩:=afE h.afP h.mN h.sJ oP iX gq gp np (by omega) (by rw [vp,vq];omega);rw [vp,vq] at vo;obtain ⟨r,e5,hr⟩:=DZ h (decide (b<0)) ⟨nS,ho,nR,no,rfl⟩ (K:=K) (by omega) (by omega);rw [aaK vo (fun e=>hs e.symm),Int.add_comm] at hr;have cm:=hr;obtain ⟨s',w',rfl,gW⟩:=hr;obtain ⟨l',jq⟩:=gW.aI;have ez:¬(0:Int)<=dR a.natAbs b.natAbs:=by unfold dR;rw [yH (by omega)];decide
   refine ⟨_,cm,fun tm t2 t3 t4=>?_⟩;simp only [go_sem,ya,c119,aw,t2,t3,t4,cr,a8,u1.af,u2.af,e1,e2,iX.af,oP.af,dZ,pJ,lJ,e3,ez,e4,ho.af,ho.shut,e5,bC,dA,dB,cr,yg,mF jq,dJ jq]
def KJ (h:Nu P L) {v w:AV} {a b:Int} {K:Nat} (hv:cE v a) (hw:cE w b) (ka:Bd K a) (kb:Bd K b) (hK:K<=40000000000):∃r,ae P L 119 [v,w] r/\cE r (a+b):=by
 obtain ⟨s1,w1,rfl,h1⟩:=hv;obtain ⟨s2,w2,rfl,h2⟩:=hw;obtain ⟨l2,u2⟩:=h2.aI;obtain ⟨r,hr,tail⟩:=aso h h1 h2 ka kb hK;have fin:∀tm,ah tm 2= .ptr 0 0->ah tm 3= .ptr 1 0->ah tm 4= .ptr 2 0->
   D P L (.seq (bk c119.body) (bk (aw c119.body))) ⟨[(0,.agg [aa s1,w1]),(1,.agg [aa s2,w2])],[],0,0⟩=some (.normal,⟨tm,[(2,.cells true true true 2 [.int .i64 0,.ab]),(1,.cells true true true 2 [aa s2,w2]),(0,.cells true true true 2 [aa s1,w1])],3,0⟩)->ae P L 119 [.agg [aa s1,w1],.agg [aa s2,w2]] r:=fun tm t2 t3 t4 e=>by
  unfold ae;rw [ay h.afT];show fj [.cell 4 2 true] (D P L (.seq (bk c119.body) (.seq (bk (aw c119.body)) (aw (aw c119.body)))) ⟨[(0,.agg [aa s1,w1]),(1,.agg [aa s2,w2])],[],0,0⟩)=_
  have e2:D P L (.seq (bk c119.body) (.seq (bk (aw c119.body)) (aw (aw c119.body)))) ⟨[(0,.agg [aa s1,w1]),(1,.agg [aa s2,w2])],[],0,0⟩=iQ P L (D P L (.seq (bk c119.body) (bk (aw c119.body))) ⟨[(0,.agg [aa s1,w1]),(1,.agg [aa s2,w2])],[],0,0⟩) (aw (aw c119.body)):=by
   rw [kE,kE]
   cases D P L (bk c119.body) ⟨[(0,.agg [aa s1,w1]),(1,.agg [aa s2,w2])],[],0,0⟩ with
   | none=>rfl
   | some q=>
    obtain ⟨ex,st⟩:=q
    cases ex with
    | normal=>rw [gD,gD,kE]
    | ret=>rfl
    | exit id=>rfl
  rw [e2,e,gD];exact tail tm t2 t3 t4
 rcases h1 with ⟨rfl,rfl,a1,a2⟩ | ⟨e,l,rfl,ga,na,va,sa,a1⟩
 ·rcases h2 with ⟨rfl,rfl,b1,b2⟩ | ⟨e,l,rfl,gb,nb,vb,sb,b1⟩
  ·by_cases iM: -9223372036854775808<=s1+s2/\s1+s2<9223372036854775808
   ·refine ⟨.agg [aa (s1+s2),.ab],?_,da.ph iM.1 iM.2⟩;have e:decide (s1<s1+s2)=decide (0<s2):=by
     by_cases h:0<s2
     ·simp only [h,ym];exact xo (by omega)
     ·simp only [h,yk];exact yZ (by omega)
    unfold ae;rw [ay h.afT]
    simp only [go_sem,ya,yb,c119,aK,sj,gR,dZ,pJ,aV,yd,bX,wrap64 (n:=s1+s2) iM.1 iM.2,e,tC,rW];rfl
   ·have e:(decide (s1<IntKind.wrap .i64 (s1+s2))==decide (0<s2))=false:=by
     have hw:(9223372036854775808<=s1+s2/\IntKind.wrap .i64 (s1+s2)=s1+s2-18446744073709551616)\/(s1+s2< -9223372036854775808/\IntKind.wrap .i64 (s1+s2)=s1+s2+18446744073709551616):=by
      simp only [IntKind.wrap,IntKind.bits,IntKind.signed,wI]
      split<;>rename_i h<;>simp at h<;>omega
     by_cases h0:0<s2
     ·rw [xo h0,yZ (by omega)];rfl
     ·rw [yZ h0,xo (by omega)];rfl
    refine ⟨r,fin _ ?_ ?_ ?_ (by simp only [go_sem,ya,yb,bk,aw,c119,aK,gR,dZ,pJ,aV,yd,bX,e]<;>rfl),hr⟩<;>simp only [go_sem,ya]
  ·refine ⟨r,fin _ ?_ ?_ ?_ (by simp only [go_sem,ya,yb,bk,aw,c119,aK,gR,n8,dZ,aV,yd,bX]<;>rfl),hr⟩<;>simp only [go_sem,ya]
 ·refine ⟨r,fin _ ?_ ?_ ?_ (by simp only [go_sem,ya,yb,bk,aw,c119,aK,u2.pu,u2.one,n8,dZ,aV,yd,bX]<;>rfl),hr⟩<;>simp only [go_sem,ya]
end
end
section
open Go (IntKind)
def CQ {P:aG} {L:Lib} (a b c:VC) (s:St):D P L (.seq a (.seq b c)) s=iQ P L (D P L (.seq a b) s) c:=by
 rw [kE,kE]
 cases D P L a s with
 | none=>rfl
 | some q=>
  obtain ⟨ex,st⟩:=q
  cases ex with
  | normal=>rw [gD,gD,kE]
  | ret=>rfl
  | exit id=>rfl
def adt {s s':Int} {w w':AV} {l l':List Nat} (h:bJ w l) (h':bJ w' l') (hp:Hp):result hp (.au [.agg [aa s,w],.agg [aa s',w']])=some (.au [.agg [aa s,w],.agg [aa s',w']]):=by
 rcases h with ⟨rfl,_⟩ | ⟨e,rfl⟩<;>rcases h' with ⟨rfl,_⟩ | ⟨e',rfl⟩<;>rfl
def PA (tm:Env) (hp:Hp) (ct:Nat) (rs:List (Nat×Bool×Nat)) (sz:Nat) (p:AV) (new:List AV):gV:=match p with | .ptr id o=>bif px tm id rs then fE hp ct id o sz new (az hp id) else none | _=>none
def PB (id:Nat):AV->Bool | .ptr j _=> !yv j id | .aQ _=>true | _=>false
def Tz {P:aG} {L:Lib} (f:cD) (tm:Env) (hp:Hp) (ct:Nat) (rs:List (Nat×Bool×Nat)) (sz:Nat) (x v:X):br P L f tm hp ct (.jP rs sz x v)=PA tm hp ct rs sz (aA tm x) (cellsOf (aA tm v)):=by
 simp only [br,PA]
 cases hx:aA tm x with
 | ptr id o=>
  rw [aaC,hx,aeR]
 | _=>rfl
def TA {tm:Env} {hp:Hp} {ct:Nat} {rs:List (Nat×Bool×Nat)} {sz id o:Nat} {new:List AV} (h:px tm id rs=true):PA tm hp ct rs sz (.ptr id o) new=fE hp ct id o sz new (az hp id):=by
 simp only [PA,h,yz]
def SU (tm:Env) (id:Nat):px tm id []=true:=(rfl)
def SB (tm:Env) (id sz x:Nat) (ag:Bool) (r:List (Nat×Bool×Nat)):px tm id ((sz,ag,x)::r)=(PB id (ah tm x)&&px tm id r):=by
 simp only [px,PB]
 grind
def TB {id j o:Nat} (h:j≠id):PB id (.ptr j o)=true:=by simp only [PB,iC h,yI]
section
variable {P:aG} {L:Lib}
def afV (h:Nu P L) {v w:AV} {a b:Int} {K:Nat} (hv:cE v a) (hw:cE w b) (ka:Bd K a) (kb:Bd K b) (hK:K<=40000000000):∃r,ae P L 156 [v,w] r/\cE r (a-b):=by
 obtain ⟨n,e1,hn⟩:=Gs h hw kb (by omega);obtain ⟨r,e2,hr⟩:=KJ h hv hn ka kb.neg hK;have cm:=hr;obtain ⟨s1,w1,rfl,h1⟩:=hv;obtain ⟨s2,w2,rfl,h2⟩:=hw;obtain ⟨s3,w3,rfl,h3⟩:=hn;obtain ⟨s4,w4,rfl,h4⟩:=hr;obtain ⟨l1,u1⟩:=h1.aI;obtain ⟨l2,u2⟩:=h2.aI;obtain ⟨l3,u3⟩:=h3.aI;obtain ⟨l4,u4⟩:=h4.aI;refine ⟨_,?_,cm⟩;unfold ae;rw [ay h.av4];simp only [go_sem,ya,yb,UL,aK,u1.pu,u1.af,u1.one,u2.pu,u2.af,u2.one,u3.af,a8,e1,e2,bC,dA,dB,cr,yg,mF u4,dJ u4]
def afW (h:Nu P L) {v w:AV} {a b:Int} {K:Nat} (hv:cE v a) (hw:cE w b) (ka:Bd K a) (kb:Bd K b) (hK:K<=40000000000):ae P L 118 [v,w] (aa (cB (a-b))):=by
 obtain ⟨d,e1,hd⟩:=afV h hv hw ka kb hK;have e2:=Gr h hd;obtain ⟨s1,w1,rfl,h1⟩:=hv;obtain ⟨s2,w2,rfl,h2⟩:=hw;obtain ⟨s3,w3,rfl,h3⟩:=hd;obtain ⟨l2,u2⟩:=h2.aI;obtain ⟨l3,u3⟩:=h3.aI;unfold ae;rw [ay h.av3];rcases h1 with ⟨rfl,rfl,a1,a2⟩ | ⟨e,l,rfl,ga,na,va,sa,a1⟩
 ·rcases h2 with ⟨rfl,rfl,b1,b2⟩ | ⟨e,l,rfl,gb,nb,vb,sb,b1⟩
  ·by_cases c1:s1<s2
   ·rw [show cB (s1-s2)= -1 by unfold cB;rw [yH (by omega)]];simp only [go_sem,ya,yb,DJ,aK,gR,dZ,aV,yd,bX,c1]
   ·by_cases c2:s2<s1
    ·rw [show cB (s1-s2)=1 by unfold cB;rw [yA (by omega),yA (by omega)]];simp only [go_sem,ya,yb,DJ,aK,gR,dZ,aV,yd,bX,c1,c2]
    ·rw [show cB (s1-s2)=0 by unfold cB;rw [yA (by omega),yH (by omega)]];simp only [go_sem,ya,yb,DJ,aK,gR,dZ,aV,yd,bX,c1,c2]
  ·simp only [go_sem,ya,yb,DJ,aK,gR,n8,dZ,aV,yd,bX,cr,a8,e1,e2,u3.af,bC]
 ·simp only [go_sem,ya,yb,DJ,aK,u2.pu,u2.af,u2.one,n8,dZ,aV,yd,bX,cr,a8,e1,e2,u3.af,bC]
def asp (h:Nu P L) {s1 s2:Int} {w1 w2:AV} {a b:Int} {K:Nat} (ha:da s1 w1 a) (hb:da s2 w2 b) (ka:Bd K a) (kb:Bd K b) (hK:K<=40000000000):
  ∃r,cE r (a*b)/\∀tm,ah tm 2= .ptr 0 0->ah tm 3= .ptr 1 0->ah tm 4= .ptr 2 0->fj [.cell 4 2 true] (D P L (aw (aw mK.body)) ⟨tm,[(2,.cells true true true 2 [.int .i64 0,.ab]),(1,.cells true true true 2 [aa s2,w2]),(0,.cells true true true 2 [aa s1,w1])],3,0⟩)=some r:=by
 obtain ⟨l1,u1⟩:=ha.aI;obtain ⟨l2,u2⟩:=hb.aI;obtain ⟨p,e1,hp⟩:=Aj h ha;obtain ⟨q,e2,hq⟩:=Aj h hb;obtain ⟨lp,iX,gp,np,vp⟩:=hp.aI;obtain ⟨lq,oP,gq,nq,vq⟩:=hq.aI;have Co:=yP ka (Bk K);have G9:=yP kb (Bk K);have llp:lp.length<=40000000000:=xn (oz np vp Co) hK;have llq:lq.length<=40000000000:=xn (oz nq vq G9) hK;obtain ⟨o,nS,e3,ho,nR,no,vo⟩:=avL h.avT h.mN h.mQ h.gT iX oP gp gq (by omega) (by omega);obtain ⟨r,e4,hr⟩:=DZ h (decide (a<0) !=decide (b<0)) ⟨nS,ho,nR,no,vo⟩ (K:=K+K) (by rw [vp,vq,wB];exact tB Co G9) (by omega)
 rw [vp,vq,aaL] at hr;have cm:=hr;obtain ⟨s',w',rfl,gW⟩:=hr;obtain ⟨l',jq⟩:=gW.aI;refine ⟨_,cm,fun tm t2 t3 t4=>?_⟩;have sZ:∀x y:Bool,KA true (some (x==y))=some (.bool (x !=y)):=fun x y=>by cases x<;>cases y<;>rfl
 simp only [go_sem,ya,mK,aw,t2,t3,t4,cr,a8,u1.af,u2.af,e1,e2,iX.af,oP.af,pJ,sZ,e3,ho.af,ho.shut,e4,bC,dA,dB,cr,yg,mF jq,dJ jq]
def anv {a b:Int} {m:Nat} (h:a.natAbs*b.natAbs=m):a*b=if (decide (a<0)==decide (b<0))=true then (m:Int) else 0-(m:Int):=by
 have:=aaL (a:=a) (b:=b)
 rw [h] at this;unfold cf at this
 cases hd:(decide (a<0)==decide (b<0)) with
 | true=>simp only [bne,hd,yJ,Bool.false_eq_true,xh] at this;exact this.symm
 | false=>simp only [bne,hd,yI,xm] at this;rw [yA (by decide)];omega
def sL (h:Nu P L) {v w:AV} {a b:Int} {K:Nat} (hv:cE v a) (hw:cE w b) (ka:Bd K a) (kb:Bd K b) (hK:K<=40000000000):∃r,ae P L 100 [v,w] r/\cE r (a*b):=by
 obtain ⟨s1,w1,rfl,h1⟩:=hv;obtain ⟨s2,w2,rfl,h2⟩:=hw;obtain ⟨l1,u1⟩:=h1.aI;obtain ⟨l2,u2⟩:=h2.aI;obtain ⟨r,hr,tail⟩:=asp h h1 h2 ka kb hK;have fin:∀tm,ah tm 2= .ptr 0 0->ah tm 3= .ptr 1 0->ah tm 4= .ptr 2 0->
   D P L (.seq (bk mK.body) (bk (aw mK.body))) ⟨[(0,.agg [aa s1,w1]),(1,.agg [aa s2,w2])],[],0,0⟩=some (.normal,⟨tm,[(2,.cells true true true 2 [.int .i64 0,.ab]),(1,.cells true true true 2 [aa s2,w2]),(0,.cells true true true 2 [aa s1,w1])],3,0⟩)->ae P L 100 [.agg [aa s1,w1],.agg [aa s2,w2]] r:=fun tm t2 t3 t4 e=>by
  unfold ae;rw [ay h.Pz];show fj [.cell 4 2 true] (D P L (.seq (bk mK.body) (.seq (bk (aw mK.body)) (aw (aw mK.body)))) ⟨[(0,.agg [aa s1,w1]),(1,.agg [aa s2,w2])],[],0,0⟩)=_
  rw [CQ,e,gD];exact tail tm t2 t3 t4
 rcases h1 with ⟨rfl,rfl,a1,a2⟩ | ⟨e,l,rfl,ga,na,va,sa,a1⟩
 ·rcases h2 with ⟨rfl,rfl,b1,b2⟩ | ⟨e,l,rfl,gb,nb,vb,sb,b1⟩
  ·have f1:=Vi h a1 a2;have f2:=Vi h b1 b2;have f3:=NX (P:=P) (f:=D P L) h.mQ (x:=s1.natAbs) (y:=s2.natAbs) (by omega) (by omega);obtain ⟨m,hm⟩:∃m,s1.natAbs*s2.natAbs=m:=⟨_,rfl⟩;rw [hm] at f3;have oE:=anv hm;by_cases iM:m<=9223372036854775807
   ·rw [wC (by omega),yS (by omega)] at f3;rw [show (uc 0)=AV.int .u64 0 from rfl] at f3;by_cases hs:(decide (s1<0)==decide (s2<0))=true
    ·rw [yH hs] at oE;refine ⟨.agg [aa (m:Int),.ab],?_,by rw [oE];exact da.ph (by omega) (by omega)⟩
     unfold ae;rw [ay h.Pz]
     simp only [go_sem,ya,yb,mK,aK,sj,gR,dZ,JA,pJ,aV,yd,bX,f1,f2,f3,show (m:Int)<=9223372036854775807 by omega,hs,NW,wrap64 (n:=(m:Int)) (by omega) (by omega),rW];rfl
    ·rw [yA hs] at oE;refine ⟨.agg [aa (0-(m:Int)),.ab],?_,by rw [oE];exact da.ph (by omega) (by omega)⟩
     unfold ae;rw [ay h.Pz]
     simp only [go_sem,ya,yb,mK,aK,sj,gR,dZ,JA,pJ,aV,yd,bX,f1,f2,f3,show (m:Int)<=9223372036854775807 by omega,hs,NW,wrap64 (n:=(m:Int)) (by omega) (by omega),wrap64 (n:=0-(m:Int)) (by omega) (by omega),rW];rfl
   ·by_cases rJ:m/18446744073709551616=0
    ·rw [rJ,yS (by omega)] at f3;rw [show (uc 0)=AV.int .u64 0 from rfl] at f3;refine ⟨r,fin _ ?_ ?_ ?_ (by simp only [go_sem,ya,yb,bk,aw,mK,aK,gR,dZ,aV,yd,bX,f1,f2,f3,show ¬(m:Int)<=9223372036854775807 by omega]<;>rfl),hr⟩<;>simp only [go_sem,ya]
    ·obtain ⟨q,hq⟩:∃q,q=m/18446744073709551616:=⟨_,rfl⟩;rw [<-hq] at f3 rJ;refine ⟨r,fin _ ?_ ?_ ?_ (by simp only [go_sem,ya,yb,bk,aw,mK,aK,gR,dZ,aV,yd,bX,f1,f2,f3,show ¬(q:Int)=0 by omega]<;>rfl),hr⟩<;>simp only [go_sem,ya]
  ·refine ⟨r,fin _ ?_ ?_ ?_ (by simp only [go_sem,ya,yb,bk,aw,mK,aK,gR,n8,dZ,aV,yd,bX]<;>rfl),hr⟩<;>simp only [go_sem,ya]
 ·refine ⟨r,fin _ ?_ ?_ ?_ (by simp only [go_sem,ya,yb,bk,aw,mK,aK,u2.pu,u2.one,n8,dZ,aV,yd,bX]<;>rfl),hr⟩<;>simp only [go_sem,ya]
end
end
section
open Go (IntKind)
def als {a b:Int} {q r:Nat} (hb:0<b) (h:q=a.natAbs/b.natAbs) (h2:r=a.natAbs%b.natAbs):
  (cf (decide (a<0)) r<0->a/b=cf (decide (a<0)) q-1/\a%b=cf (decide (a<0)) r+b)/\(¬cf (decide (a<0)) r<0->a/b=cf (decide (a<0)) q/\a%b=cf (decide (a<0)) r):=by
 have fu:=xV a.natAbs b.natAbs;have a7:r<b.natAbs:=by rw [h2];exact xz _ (by omega)
 unfold cf;by_cases h0:a<0
 ·simp only [h0,ym,xm];constructor
  ·intro h3;refine (uN hb).2 ⟨?_,by omega,by omega⟩
   grind
  ·intro h3;refine (uN hb).2 ⟨?_,by omega,by omega⟩
   grind
 ·grind
section
variable {P:aG} {L:Lib}
def asq (h:Nu P L) {s1 s2:Int} {w1 w2:AV} {a b:Int} {K:Nat} (ha:da s1 w1 a) (hb:da s2 w2 b) (dV:0<b) (ka:Bd K a) (kb:Bd K b) (hK:K<=30000000000):
  ∃q r,cE q (a/b)/\cE r (a%b)/\∀tm,ah tm 2= .ptr 0 0->ah tm 3= .ptr 1 0->ah tm 4= .ptr 2 0->ah tm 5= .ptr 3 0->fj [.cell 4 2 true,.cell 5 2 true] (D P L (aw (aw mL.body)) ⟨tm,[(3,.cells true true true 2 [.int .i64 0,.ab]),(2,.cells true true true 2 [.int .i64 0,.ab]),(1,.cells true true true 2 [aa s2,w2]),(0,.cells true true true 2 [aa s1,w1])],4,0⟩)=some (.au [q,r]):=by
 obtain ⟨l1,u1⟩:=ha.aI;obtain ⟨l2,u2⟩:=hb.aI;obtain ⟨p,e1,hp⟩:=Aj h ha;obtain ⟨q,e2,hq⟩:=Aj h hb;have cR:cE (.agg [aa s2,w2]) b:=⟨s2,w2,rfl,hb⟩;obtain ⟨lp,iX,_⟩:=hp.aI;obtain ⟨lq,oP,_⟩:=hq.aI;have Co:=yP ka (Bk K);have G9:=yP kb (Bk K);obtain ⟨dq,dr,e3,Eu,jm⟩:=afQ h.toWd hp hq (by omega) Co G9 (by omega);obtain ⟨LV,uq,_⟩:=Eu.aI;obtain ⟨lr1,ur,_⟩:=jm.aI;have hqk:a.natAbs/b.natAbs<18446744073709551616^K:=wu (vh _ _) Co;have hrk:a.natAbs%b.natAbs<18446744073709551616^K:=wu (ybK _ _) Co;have hqb:a.natAbs/b.natAbs<2^K:=wu (vh _ _) ka;have Xm:a.natAbs%b.natAbs<2^K:=wu (ybK _ _) ka;obtain ⟨f1,f2⟩:=als (a:=a) dV rfl rfl;generalize a.natAbs/b.natAbs=Q at*
 generalize a.natAbs%b.natAbs=R at*
 obtain ⟨vq,e4,hvq⟩:=DZ h (decide (a<0)) Eu hqk (by omega);obtain ⟨vr,e5,LD⟩:=DZ h (decide (a<0)) jm hrk (by omega);have hsq:Bd K (cf (decide (a<0)) Q):=by unfold Bd cf;split<;>omega
 have hsr:Bd K (cf (decide (a<0)) R):=by unfold Bd cf;split<;>omega
 generalize cf (decide (a<0)) R=Rs at*
 have e6:=Gr h LD;have afX:=hvq;have afY:=LD;obtain ⟨s3,w3,rfl,h3⟩:=hvq;obtain ⟨s4,w4,rfl,h4⟩:=LD;obtain ⟨l3,u3⟩:=h3.aI;obtain ⟨l4,u4⟩:=h4.aI;by_cases h0:Rs<0
 ·obtain ⟨g1,g2⟩:=f1 h0;have jS:Bd (K+1) 1:=Bd.mono (k:=1) (by unfold Bd;decide) (by omega)
  obtain ⟨o1,o2⟩:=DY h (z:=1) (by decide) (by decide);obtain ⟨vq2,e7,Vj⟩:=afV h afX o2 (K:=K+1) (hsq.mono (by omega)) jS (by omega);obtain ⟨vr2,e8,Vk⟩:=KJ h afY cR (K:=K+1) (hsr.mono (by omega)) (kb.mono (by omega)) (by omega);rw [<-g1] at Vj;rw [<-g2] at Vk;have lW:cB Rs<0:=by unfold cB;rw [yH h0];decide
  have k1:=Vj;have k2:=Vk;obtain ⟨s5,w5,rfl,h5⟩:=Vj;obtain ⟨s6,w6,rfl,h6⟩:=Vk;obtain ⟨l5,u5⟩:=h5.aI;obtain ⟨l6,u6⟩:=h6.aI;refine ⟨_,_,k1,k2,fun tm t2 t3 t4 t5=>?_⟩;simp only [go_sem,ya,yb,mL,aw,t2,t3,t4,t5,Tz,TA,SU,SB,TB,wv,aK,cr,a8,u1.af,u2.af,e1,e2,iX.af,oP.af,e3,uq.af,uq.bG,ur.af,ur.bG,e4,e5,bC,dA,dB,cr,yg,dJ u3,dJ u4,u3.af,u4.af,e6,lW,o1,e7,e8,dA,dB,cr,yg,dJ u5,dJ u6,adt u5 u6]
 ·obtain ⟨g1,g2⟩:=f2 h0;have lW:¬cB Rs<0:=by unfold cB;rw [yA h0];split<;>decide
  refine ⟨_,_,by rw [g1];exact afX,by rw [g2];exact afY,fun tm t2 t3 t4 t5=>?_⟩
  simp only [go_sem,ya,yb,mL,aw,t2,t3,t4,t5,Tz,TA,SU,SB,TB,wv,aK,cr,a8,u1.af,u2.af,e1,e2,iX.af,oP.af,e3,uq.af,uq.bG,ur.af,ur.bG,e4,e5,bC,dA,dB,cr,yg,dJ u3,dJ u4,u4.af,e6,lW,adt u3 u4]
def Vm (h:Nu P L) {v w:AV} {a b:Int} {K:Nat} (hv:cE v a) (hw:cE w b) (dV:0<b) (ka:Bd K a) (kb:Bd K b) (hK:K<=30000000000):∃q r,ae P L 164 [v,w] (.au [q,r])/\cE q (a/b)/\cE r (a%b):=by
 obtain ⟨s1,w1,rfl,h1⟩:=hv;obtain ⟨s2,w2,rfl,h2⟩:=hw;obtain ⟨l1,u1⟩:=h1.aI;obtain ⟨l2,u2⟩:=h2.aI;obtain ⟨q,r,hq,hr,tail⟩:=asq h h1 h2 dV ka kb hK;have fin:∀tm,ah tm 2= .ptr 0 0->ah tm 3= .ptr 1 0->ah tm 4= .ptr 2 0->ah tm 5= .ptr 3 0->
   D P L (.seq (bk mL.body) (bk (aw mL.body))) ⟨[(0,.agg [aa s1,w1]),(1,.agg [aa s2,w2])],[],0,0⟩=some (.normal,⟨tm,[(3,.cells true true true 2 [.int .i64 0,.ab]),(2,.cells true true true 2 [.int .i64 0,.ab]),(1,.cells true true true 2 [aa s2,w2]),(0,.cells true true true 2 [aa s1,w1])],4,0⟩)->ae P L 164 [.agg [aa s1,w1],.agg [aa s2,w2]] (.au [q,r]):=fun tm t2 t3 t4 t5 e=>by
  unfold ae;rw [ay h.Vh];show fj [.cell 4 2 true,.cell 5 2 true] (D P L (.seq (bk mL.body) (.seq (bk (aw mL.body)) (aw (aw mL.body)))) ⟨[(0,.agg [aa s1,w1]),(1,.agg [aa s2,w2])],[],0,0⟩)=_
  rw [CQ,e,gD];exact tail tm t2 t3 t4 t5
 rcases h1 with ⟨rfl,rfl,a1,a2⟩ | ⟨e,l,rfl,ga,na,va,sa,a1⟩
 ·rcases h2 with ⟨rfl,rfl,b1,b2⟩ | ⟨e,l,rfl,gb,nb,vb,sb,b1⟩
  ·by_cases hm:s1= -9223372036854775808
   ·refine ⟨q,r,fin _ ?_ ?_ ?_ ?_ (by simp only [go_sem,ya,yb,bk,aw,mL,aK,gR,dZ,aV,yd,bX,hm]<;>rfl),hq,hr⟩<;>simp only [go_sem,ya]
   ·obtain ⟨f1,f2⟩:=alh (a:=s1) dV;have bK:s1.tdiv s2=0\/(s1.tdiv s2).natAbs<=s1.natAbs:= .inr (Int.natAbs_tdiv_le_natAbs s1 s2);have cw:=Int.tmod_lt_of_pos s1 dV;have ep:=Int.lt_tmod_of_pos s1 dV;by_cases h0:s1.tmod s2<0
    ·obtain ⟨g1,g2⟩:=f1 h0;rw [g1,g2];refine ⟨.agg [aa (s1.tdiv s2-1),.ab],.agg [aa (s1.tmod s2+s2),.ab],?_,da.ph (by omega) (by omega),da.ph (by omega) (by omega)⟩;unfold ae;rw [ay h.Vh]
     simp only [go_sem,ya,yb,mL,aK,sj,gR,dZ,aV,yd,bX,hm,fw _ _ _ (show s2≠0 by omega),fM _ _ _ (show s2≠0 by omega),h0,wrap64 (n:=s1.tdiv s2) (by omega) (by omega),wrap64 (n:=s1.tdiv s2-1) (by omega) (by omega),wrap64 (n:=s1.tmod s2+s2) (by omega) (by omega),rW];rfl
    ·obtain ⟨g1,g2⟩:=f2 h0;rw [g1,g2];refine ⟨.agg [aa (s1.tdiv s2),.ab],.agg [aa (s1.tmod s2),.ab],?_,da.ph (by omega) (by omega),da.ph (by omega) (by omega)⟩;unfold ae;rw [ay h.Vh]
     simp only [go_sem,ya,yb,mL,aK,sj,gR,dZ,aV,yd,bX,hm,fw _ _ _ (show s2≠0 by omega),fM _ _ _ (show s2≠0 by omega),h0,wrap64 (n:=s1.tdiv s2) (by omega) (by omega),rW];rfl
  ·refine ⟨q,r,fin _ ?_ ?_ ?_ ?_ (by simp only [go_sem,ya,yb,bk,aw,mL,aK,gR,n8,dZ,aV,yd,bX]<;>rfl),hq,hr⟩<;>simp only [go_sem,ya]
 ·refine ⟨q,r,fin _ ?_ ?_ ?_ ?_ (by simp only [go_sem,ya,yb,bk,aw,mL,aK,u2.pu,u2.one,n8,dZ,aV,yd,bX]<;>rfl),hq,hr⟩<;>simp only [go_sem,ya]
end
end
section
open Go (IntKind)
section
variable {P:aG} {L:Lib}
def afZ (h:Nu P L) {v w:AV} {a b:Int} {K:Nat} (hv:cE v a) (hw:cE w b) (dV:0<b) (ka:Bd K a) (kb:Bd K b) (hK:K<=30000000000):∃r,ae P L 148 [v,w] r/\cE r (a/b):=by
 have e1:=Gr h hw;obtain ⟨q,r,e2,hq,hr⟩:=Vm h hv hw dV ka kb hK;have e3:cB b=1:=by unfold cB;rw [yA (by omega),yA (by omega)]
 rw [e3] at e1;have bK:=hq;obtain ⟨s1,w1,rfl,h1⟩:=hv;obtain ⟨s2,w2,rfl,h2⟩:=hw;obtain ⟨s3,w3,rfl,h3⟩:=hq;obtain ⟨s4,w4,rfl,h4⟩:=hr;obtain ⟨l1,u1⟩:=h1.aI;obtain ⟨l2,u2⟩:=h2.aI;obtain ⟨l3,u3⟩:=h3.aI;obtain ⟨l4,u4⟩:=h4.aI;refine ⟨_,?_,bK⟩;unfold ae;rw [ay h.av5];simp only [go_sem,ya,yb,UJ,yaE,yk,aK,u1.pu,u1.af,u1.one,u2.pu,u2.af,u2.one,yd,a8,e1,e2,rU,dA,dB,cr,yg,mF u3,dJ u3,dJ u4]
def asr (h:Nu P L) (G:Nat) {K:Nat} (hK:K<=30000000000) {o1 o2:AV}:
  ∀k s,(∃(x y:Nat) (s1 s2:Int) (w1 w2:AV),aT [2,3,4] s=⟨[(2,.ptr 0 0),(3,.ptr 1 0),(4,.ptr 2 0)],[(2,.cells true true true 2 [o1,o2]),(1,.cells true true true 2 [aa s2,w2]),(0,.cells true true true 2 [aa s1,w1])],3,0⟩/\da s1 w1 x/\da s2 w2 y/\Bd K x/\Bd K y/\Nat.gcd x y=G/\y=k)->
   ∃ex s',D P L (.loop [2,3,4] Jf) s=some (ex,s')/\∃tm s1 w1 c1,s'=⟨tm,[(2,.cells true true true 2 [o1,o2]),(1,c1),(0,.cells true true true 2 [aa s1,w1])],3,0⟩/\ex= .exit 0/\ah tm 2= .ptr 0 0/\ah tm 4= .ptr 2 0/\da s1 w1 G:=by
 intro dq sq;generalize bw:aT [2,3,4] sq=s0;revert bw s0 sq dq;apply dn;rintro k s ⟨x,y,s1,s2,w1,w2,rfl,h1,h2,k1,k2,hG,rfl⟩;obtain ⟨l1,u1⟩:=h1.aI;obtain ⟨l2,u2⟩:=h2.aI;have i1:cE (.agg [aa s1,w1]) (x:Int):=⟨s1,w1,rfl,h1⟩;have i2:cE (.agg [aa s2,w2]) (y:Int):=⟨s2,w2,rfl,h2⟩;have e1:=Gr h i2;by_cases jW:y=0
 ·right
  subst jW;rw [show cB ((0:Nat):Int)=0 from rfl] at e1;simp only [go_sem,ya,Jf,ym,yJ,cr,a8,u2.af,e1];obtain rfl:x=G:=by rw [<-hG,Nat.gcd_zero_right]
  exact ⟨_,_,rfl,by simp,_,s1,w1,_,rfl,rfl,by simp only [go_sem,ya],by simp only [go_sem,ya],h1⟩
 ·left
  have e3:cB (y:Int)=1:=by unfold cB;rw [yA (by omega),yA (by omega)]
  rw [e3] at e1;obtain ⟨q,r,e2,hq,hr⟩:=Vm h i1 i2 (by omega) k1 k2 hK;obtain ⟨s3,w3,rfl,h3⟩:=hq;obtain ⟨s4,w4,rfl,h4⟩:=hr;obtain ⟨l3,u3⟩:=h3.aI;obtain ⟨l4,u4⟩:=h4.aI;have a7:=xz x (show 0<y by omega);have kr:Bd K ((x%y:Nat):Int):=k2.le (by omega);simp only [go_sem,ya,yb,Jf,Tz,TA,SU,SB,TB,wv,vC,yk,yI,aK,cr,a8,u1.af,u2.af,e1,e2,rU,cr,yg,dJ u2,dJ u3,dJ u4];refine ⟨_,x%y,rfl,a7,y,x%y,s2,s4,w2,w4,?_,h2,h4,k2,kr,by rw [<-hG];exact anl x y jW,rfl⟩
  simp only [go_sem,ya,yb,an]
def af0 (h:Nu P L) {v w:AV} {a b:Int} {K:Nat} (hv:cE v a) (hw:cE w b) (ka:Bd K a) (kb:Bd K b) (hK:K<=30000000000):∃r,ae P L 130 [v,w] r/\cE r (wN a b:Nat):=by
 obtain ⟨va,e1,ha⟩:=afU h hv ka (by omega);obtain ⟨vb,e2,hb⟩:=afU h hw kb (by omega);obtain ⟨s1,w1,rfl,h1⟩:=hv;obtain ⟨s2,w2,rfl,h2⟩:=hw;obtain ⟨s3,w3,rfl,h3⟩:=ha;obtain ⟨s4,w4,rfl,h4⟩:=hb;obtain ⟨l1,u1⟩:=h1.aI;obtain ⟨l2,u2⟩:=h2.aI;obtain ⟨l3,u3⟩:=h3.aI;obtain ⟨l4,u4⟩:=h4.aI;have jh:∃s w,ae P L 130 [.agg [aa s1,w1],.agg [aa s2,w2]] (.agg [aa s,w])/\da s w (wN a b:Nat):=by
  unfold ae;rw [ay h.av6];simp only [go_sem,ya,yb,UH,aK,u1.pu,u1.af,u1.one,u2.pu,u2.af,u2.one,cr,a8,e1,e2,bC,cr,yg,dJ u3,dJ u4,yd];generalize hq:D P L (.loop [2,3,4] Jf) _=q;obtain ⟨ex,s,rfl,tm,s5,w5,c1,rfl,rfl,t2,t4,h5⟩:=bD hq (asr (P:=P) (L:=L) h (wN a b) (K:=K) hK (o1:= .int .i64 0) (o2:= .ab) b.natAbs) ⟨a.natAbs,b.natAbs,s3,s4,w3,w4,by simp only [go_sem,ya,yb,an],h3,h4,ka,kb,rfl,rfl⟩;obtain ⟨l5,u5⟩:=h5.aI;refine ⟨s5,w5,?_,h5⟩;simp only [go_sem,ya,yb,an,t2,t4,dA,dB,cr,yg,mF u5,dJ u5]
 obtain ⟨s,w,e,hn⟩:=jh;exact ⟨_,e,s,w,rfl,hn⟩
end
def cp (v:AV) (r:Rat):Prop:=∃s1 w1 s2 w2,v= .agg [aa s1,w1,aa s2,w2]/\da s1 w1 r.num/\da s2 w2 (r.den:Int)
def Hq (k:Nat) (r:Rat):Prop:=Bd k r.num/\Bd k (r.den:Int)
def Mx {a b:Int} (hb:0<b):(wa a b).num=a/(wN a b:Nat)/\((wa a b).den:Int)=b/(wN a b:Nat):=by
 constructor
 ·rw [yaN,Int.sign_eq_one_of_pos hb,Int.one_mul,ybt]
 ·rw [yaO,yA (by omega),ybt]
  grind
def Hq.divInt {k:Nat} {a b:Int} (hb:0<b) (ka:Bd k a) (kb:Bd k b):Hq k (wa a b):=by
 obtain ⟨h1,h2⟩:=Mx (a:=a) hb;refine ⟨ka.le ?_,kb.le ?_⟩
 ·rw [h1,vT (Int.gcd_dvd_left a b)];exact vh _ _
 ·rw [h2,vT (Int.gcd_dvd_right a b)];exact vh _ _
section
def Fb {tm:Env} {a b x y z w:AV} {r:List (Nat×Nat×X)} (h1:bm a=true) (h2:bm b=true):fZ tm [x,y,z,w] 0 2 [a,b] r=fill tm [a,b,z,w] r:=by
 rw [jw (by rfl) (by simp) (by simp [bO,h1,h2])];rfl
def Fc {tm:Env} {a b x y z w:AV} {r:List (Nat×Nat×X)} (h1:bm a=true) (h2:bm b=true):fZ tm [x,y,z,w] 2 2 [a,b] r=fill tm [x,y,a,b] r:=by
 rw [jw (by rfl) (by simp) (by simp [bO,h1,h2])];rfl
def lj {s t:Int} {v w:AV} {l m:List Nat} (hv:bJ v l) (hw:bJ w m) (hp:Hp) (ct id:Nat) (a b x y:AV):fE hp ct id 0 4 [.int .i64 s,v,.int .i64 t,w] (some (.cells true true true 4 [a,b,x,y]))=some (.au [],bg hp id (.cells true true true 4 [.int .i64 s,v,.int .i64 t,w]),ct):=by
 rw [mD (by rfl) (by simp) (by simp [bO,hv.one,hw.one,Fa])];simp [aH,hv.pu,hw.pu,over,Di]
def lO {s t:Int} {v w:AV} {l m:List Nat} (hv:bJ v l) (hw:bJ w m) (hp:Hp):result hp (.agg [aa s,v,aa t,w])=some (.agg [aa s,v,aa t,w]):=by
 rcases hv with ⟨rfl,_⟩ | ⟨e,rfl⟩<;>rcases hw with ⟨rfl,_⟩ | ⟨e',rfl⟩<;>rfl
variable {P:aG} {L:Lib}
structure Fr' (P:aG) (L:Lib):Prop extends Nu P L where
 av7:Has P L 101 nE
 Xn:Has P L 69 WJ
 av8:Has P L 111 UE
 h98:Has P L 98 Qh
 av9:Has P L 108 UD
 awa:Has P L 102 UC
 h74:Has P L 74 Lt
 Xo:Has P L 50 WD
 oQ:Has P L 49 c49
 h73:Has P L 73 WM
 h70:Has P L 70 WK
 h71:Has P L 71 WL
 awb:Has P L 149 UK
def adu (h:Fr' P L) {s1 s2:Int} {w1 w2:AV} {a b:Int} {K:Nat} (h1:da s1 w1 a) (h2:da s2 w2 b) (dV:0<b) (ka:Bd K a) (kb:Bd K b) (hK:K<=30000000000):
  ∃r,cp r (wa a b)/\∀tm,ah tm 2= .ptr 0 0->ah tm 3= .ptr 1 0->ah tm 4= .ptr 2 0->fj [.cell 4 4 true] (D P L (aw (aw nE.body)) ⟨tm,[(2,.cells true true true 4 [.int .i64 0,.ab,.int .i64 0,.ab]),(1,.cells true true true 2 [aa s2,w2]),(0,.cells true true true 2 [aa s1,w1])],3,0⟩)=some r:=by
 have hv:cE (.agg [aa s1,w1]) a:=⟨s1,w1,rfl,h1⟩;have hw:cE (.agg [aa s2,w2]) b:=⟨s2,w2,rfl,h2⟩;obtain ⟨p1,p2⟩:=Mx (a:=a) dV;have hgp:=I5 (a:=a) dV;have hgk:Bd K ((wN a b:Nat):Int):=kb.le (by
  have:=Int.gcd_le_natAbs_right a (show b≠0 by omega)
  omega)
 obtain ⟨g,e2,hg⟩:=af0 h.toNu hv hw ka kb hK;obtain ⟨q1,e4,fq⟩:=afZ h.toNu hv hg hgp ka hgk hK;obtain ⟨q2,e5,G4⟩:=afZ h.toNu hw hg hgp kb hgk hK;rw [<-p1] at fq;rw [<-p2] at G4;obtain ⟨s3,w3,rfl,h3⟩:=hg;obtain ⟨s4,w4,rfl,h4⟩:=fq;obtain ⟨s5,w5,rfl,h5⟩:=G4;obtain ⟨l1,u1⟩:=h1.aI;obtain ⟨l2,u2⟩:=h2.aI;obtain ⟨l3,u3⟩:=h3.aI;obtain ⟨l4,u4⟩:=h4.aI;obtain ⟨l5,u5⟩:=h5.aI;by_cases fO:w2= .ab/\s2=1
 ·obtain ⟨rfl,rfl⟩:=fO;have jS:b=1:=by
   rcases h2 with ⟨_,h,_⟩ | ⟨_,_,h,_⟩
   ·exact h.symm
   ·cases h
  subst jS;rw [Int.gcd_one] at p1 p2;have p1:(wa a 1).num=a:=by rw [p1];exact Int.ediv_one a
  refine ⟨.agg [aa s1,w1,aa 1,.ab],⟨s1,w1,1,.ab,rfl,by rw [p1];exact h1,by rw [p2];exact h2⟩,fun tm t2 t3 t4=>?_⟩
  have un:=zE;simp only [go_sem,ya,nE,aw,t2,t3,t4,u1.one,cr,aV,yd,bX,gR,dZ,Fb,Fc,lj u1 un,dA,dB,yg,iR,lO u1 un]
 ·refine ⟨.agg [aa s4,w4,aa s5,w5],⟨s4,w4,s5,w5,rfl,h4,h5⟩,fun tm t2 t3 t4=>?_⟩;rcases u2 with ⟨rfl,_⟩ | ⟨e,rfl⟩
  ·simp only [go_sem,ya,yb,nE,aw,t2,t3,t4,aK,u1.af,cr,a8,aV,yd,bX,gR,dZ,show ¬s2=1 from fun e=>fO ⟨rfl,e⟩,e2,e4,e5,bC,dA,dB,cr,yg,dJ u3,u3.af,u4.one,u5.one,Fb,Fc,lj u4 u5,iR,lO u4 u5]
  ·simp only [go_sem,ya,yb,nE,aw,t2,t3,t4,aK,u1.af,cr,a8,aV,yd,bX,n8,dZ,e2,e4,e5,bC,dA,dB,cr,yg,dJ u3,u3.af,u4.one,u5.one,Fb,Fc,lj u4 u5,iR,lO u4 u5]
def Vn (h:Fr' P L) {v w:AV} {a b:Int} {K:Nat} (hv:cE v a) (hw:cE w b) (dV:b≠0) (ka:Bd K a) (kb:Bd K b) (hK:K<=30000000000):∃r,ae P L 101 [v,w] r/\cp r (wa a b):=by
 have e1:=Gr h.toNu hw;have eX:=hv;have Xp:=hw;obtain ⟨s1,w1,rfl,h1⟩:=hv;obtain ⟨s2,w2,rfl,h2⟩:=hw;obtain ⟨l1,u1⟩:=h1.aI;obtain ⟨l2,u2⟩:=h2.aI;have fin:∀r t1 t2 v1 v2 tm,(∀tm,ah tm 2= .ptr 0 0->ah tm 3= .ptr 1 0->ah tm 4= .ptr 2 0->fj [.cell 4 4 true] (D P L (aw (aw nE.body)) ⟨tm,[(2,.cells true true true 4 [.int .i64 0,.ab,.int .i64 0,.ab]),(1,.cells true true true 2 [aa t2,v2]),(0,.cells true true true 2 [aa t1,v1])],3,0⟩)=some r)->ah tm 2= .ptr 0 0->ah tm 3= .ptr 1 0->ah tm 4= .ptr 2 0->
   D P L (.seq (bk nE.body) (bk (aw nE.body))) ⟨[(0,.agg [aa s1,w1]),(1,.agg [aa s2,w2])],[],0,0⟩=some (.normal,⟨tm,[(2,.cells true true true 4 [.int .i64 0,.ab,.int .i64 0,.ab]),(1,.cells true true true 2 [aa t2,v2]),(0,.cells true true true 2 [aa t1,v1])],3,0⟩)->ae P L 101 [.agg [aa s1,w1],.agg [aa s2,w2]] r:=fun r t1 t2 v1 v2 tm tail k2 k3 k4 e=>by
  unfold ae;rw [ay h.av7];show fj [.cell 4 4 true] (D P L (.seq (bk nE.body) (.seq (bk (aw nE.body)) (aw (aw nE.body)))) ⟨[(0,.agg [aa s1,w1]),(1,.agg [aa s2,w2])],[],0,0⟩)=_
  rw [CQ,e,gD];exact tail tm k2 k3 k4
 by_cases hn:b<0
 ·obtain ⟨n1,e2,mT⟩:=Gs h.toNu eX ka (by omega);obtain ⟨n2,e3,ew⟩:=Gs h.toNu Xp kb (by omega);obtain ⟨s3,w3,rfl,h3⟩:=mT;obtain ⟨s4,w4,rfl,h4⟩:=ew;obtain ⟨l3,u3⟩:=h3.aI;obtain ⟨l4,u4⟩:=h4.aI;obtain ⟨r,hr,tail⟩:=adu h h3 h4 (by omega) ka.neg kb.neg hK;rw [Rat.neg_divInt_neg] at hr;have hs:cB b<0:=by unfold cB;rw [yH hn];decide
  refine ⟨r,fin r _ _ _ _ _ tail ?_ ?_ ?_ (by simp only [go_sem,ya,yb,nE,bk,aw,hs,aK,u1.pu,u1.af,u1.one,u2.pu,u2.af,u2.one,cr,a8,e1,e2,e3,bC,dJ u3,dJ u4]<;>rfl),hr⟩<;>simp only [go_sem,ya]
 ·obtain ⟨r,hr,tail⟩:=adu h h1 h2 (by omega) ka kb hK;have hs:¬cB b<0:=by unfold cB;rw [yA hn];split<;>decide
  refine ⟨r,fin r _ _ _ _ _ tail ?_ ?_ ?_ (by simp only [go_sem,ya,yb,nE,bk,aw,hs,aK,u1.pu,u1.one,u2.pu,u2.af,u2.one,cr,a8,e1]<;>rfl),hr⟩<;>simp only [go_sem,ya]
end
end
section
open Go (IntKind)
def Hq.mono {k m:Nat} {r:Rat} (h:Hq k r) (hk:k<=m):Hq m r:=⟨h.1.mono hk,h.2.mono hk⟩
def Hq.neg {k:Nat} {r:Rat} (h:Hq k r):Hq k (-r):=⟨h.1.neg,h.2⟩
def add_eq (a b:Rat):a+b=wa (a.num*b.den+b.num*a.den) ((a.den:Int)*b.den):=by
 rw [Rat.add_def',<-yau,xL]
def mul_eq (a b:Rat):a*b=wa (a.num*b.num) ((a.den:Int)*b.den):=by
 rw [Rat.mul_def',<-yau,xL]
def Nn (a:Rat):0<(a.den:Int):=by have:=a.den_pos;omega
def EQ (a b:Rat):0<(a.den:Int)*b.den:=Int.mul_pos (Nn a) (Nn b)
def Bd.Vo {k:Nat} {a b:Int} (ha:Bd k a) (hb:Bd k b):Bd (k+1) (a+b):=by
 have:=ha.add hb
 grind
def Hq.add {k m:Nat} {a b:Rat} (ha:Hq k a) (hb:Hq m b):Hq (k+m+1) (a+b):=by
 rw [add_eq];refine Hq.divInt (EQ a b) ?_ ((ha.2.mul hb.2).mono (by omega));exact (ha.1.mul hb.2).Vo ((hb.1.mul ha.2).mono (by omega))
def Hq.mul {k m:Nat} {a b:Rat} (ha:Hq k a) (hb:Hq m b):Hq (k+m) (a*b):=by
 rw [mul_eq];exact Hq.divInt (EQ a b) (ha.1.mul hb.1) (ha.2.mul hb.2)
def Hq.sub {k m:Nat} {a b:Rat} (ha:Hq k a) (hb:Hq m b):Hq (k+m+1) (a-b):=by
 rw [yad];exact ha.add hb.neg
def Hq.inv {k:Nat} {a:Rat} (ha:Hq k a):Hq k a⁻¹:=by
 have h1:(a⁻¹).num.natAbs<=a.den:=by
  rw [Rat.num_inv,yaM]
  grind
 refine ⟨ha.2.le (by simpa using h1),?_⟩;unfold Bd;rw [Rat.den_inv]
 split
 ·have h2:=ha.2;unfold Bd at h2
  simp_all
 ·exact ha.1
def Hq.div {k m:Nat} {a b:Rat} (ha:Hq k a) (hb:Hq m b):Hq (k+m) (a/b):=by
 rw [Rat.div_def];exact ha.mul hb.inv
def Ak (a b:Rat):Int:=if a<b then -1 else if a=b then 0 else 1
def apP (a b:Rat):cB (a.num*b.den-b.num*a.den)=Ak a b:=by
 unfold cB Ak;by_cases h:a<b
 ·rw [yH h]
  have:=(ybL a b).1 h
  grind
 ·rw [yA h];have h1:¬a.num*b.den<b.num*a.den:=fun e=>h ((ybL a b).2 e)
  rw [yA (by omega)];by_cases h2:a=b
  ·grind
  ·rw [yA h2,yA (by have:¬a.num*b.den=b.num*a.den:=fun e=>h2 (Rat.eq_iff_mul_eq_mul.2 e);omega)]
def NL (a:Rat) (h:a.den=1):a=(a.num:Rat):=by
 have:=Rat.num_divInt_den a
 rw [h] at this;rw [<-this];exact (Rat.ext (by simp [yaN]) (by simp [yaO]))
def By (a b c d:AV) (r:List AV):fD 2 true (List.drop 2 (a::b::c::d::r))=some (.agg [c,d]):=rfl
def qX (a b:AV) (r:List AV):fD 2 true (a::b::r)=some (.agg [a,b]):=rfl
section
variable {P:aG} {L:Lib}
def KK (h:Fr' P L) {v:AV} {z:Int} (hv:cE v z):∃r,ae P L 111 [v] r/\cp r (z:Rat):=by
 obtain ⟨o1,o2⟩:=DY h.toNu (z:=1) (by decide) (by decide);obtain ⟨s1,w1,rfl,h1⟩:=hv;obtain ⟨l1,u1⟩:=h1.aI;have un:=zE;refine ⟨.agg [aa s1,w1,aa 1,.ab],?_,s1,w1,1,.ab,rfl,h1,.inl ⟨rfl,rfl,(by show (-9223372036854775808:Int)<=1;decide),(by show (1:Int)<9223372036854775808;decide)⟩⟩
 unfold ae;rw [ay h.av8];simp only [go_sem,ya,yb,UE,aK,u1.pu,u1.one,cr,o1,bC,Fb,Fc,lj u1 un,dA,dB,yg,iR,lO u1 un]
def LW (h:Fr' P L) {z:Int} (h1: -9223372036854775808<=z) (h2:z<9223372036854775808):∃r,ae P L 69 [aa z] r/\cp r (z:Rat):=by
 obtain ⟨o1,o2⟩:=DY h.toNu h1 h2;obtain ⟨r,e,hr⟩:=KK h o2;have cm:=hr;obtain ⟨s1,w1,s2,w2,rfl,k1,k2⟩:=hr;obtain ⟨l1,u1⟩:=k1.aI;obtain ⟨l2,u2⟩:=k2.aI;refine ⟨_,?_,cm⟩;unfold ae;rw [ay h.Xn];simp only [go_sem,ya,yb,WJ,aK,a8,o1,e,bC,lj u1 u2,dA,dB,yg,iR,lO u1 u2]
def Xq (h:Fr' P L) {v:AV} {a:Rat} (hv:cp v a):ae P L 98 [v] (.bool (decide (a.den=1))):=by
 obtain ⟨s1,w1,s2,w2,rfl,h1,h2⟩:=hv;obtain ⟨l1,u1⟩:=h1.aI;unfold ae;rw [ay h.h98];rcases h2 with ⟨rfl,rfl,b1,b2⟩ | ⟨e,l,rfl,gb,nb,vb,sb,b1⟩
 ·have e:decide (((a.den:Nat):Int)=1)=decide (a.den=1):=by simp;omega
  simp only [go_sem,ya,yb,Qh,aK,u1.pu,u1.one,aV,yd,auj,aeU,gR,dZ,e]
 ·have e:decide (a.den=1)=false:=yZ (by omega);rw [e];simp only [go_sem,ya,yb,Qh,aK,u1.pu,u1.one,aV,yd,aeU,n8,dZ]
def awc (h:Fr' P L) {v:AV} {a:Rat} (hv:cp v a):ae P L 108 [v] (aa (cB a.num)):=by
 obtain ⟨s1,w1,s2,w2,rfl,h1,h2⟩:=hv;obtain ⟨l1,u1⟩:=h1.aI;obtain ⟨l2,u2⟩:=h2.aI;have e1:=Gr h.toNu ⟨s1,w1,rfl,h1⟩;unfold ae;rw [ay h.av9];simp only [go_sem,ya,yb,UD,aK,u1.pu,u1.af,u1.one,u2.pu,u2.one,aV,yd,qX,a8,e1]
def awd (h:Fr' P L) {v:AV} {a:Rat} {K:Nat} (hv:cp v a) (ka:Hq K a) (hK:K<=30000000000):∃r,ae P L 102 [v] r/\cp r (-a):=by
 obtain ⟨s1,w1,s2,w2,rfl,h1,h2⟩:=hv;obtain ⟨l1,u1⟩:=h1.aI;obtain ⟨l2,u2⟩:=h2.aI;obtain ⟨n,e1,hn⟩:=Gs h.toNu ⟨s1,w1,rfl,h1⟩ ka.1 (by omega);obtain ⟨s3,w3,rfl,h3⟩:=hn;obtain ⟨l3,u3⟩:=h3.aI;refine ⟨.agg [aa s3,w3,aa s2,w2],?_,s3,w3,s2,w2,rfl,h3,h2⟩;unfold ae;rw [ay h.awa];simp only [go_sem,ya,yb,UC,aK,u1.pu,u1.af,u1.one,u2.pu,u2.one,u3.one,aV,yd,qX,By,a8,e1,bC,Fb,Fc,lj u3 u2,dA,dB,yg,iR,lO u3 u2]
def QJ (h:Fr' P L) {v w:AV} {a b:Rat} {K:Nat} (hv:cp v a) (hw:cp w b) (ka:Hq K a) (kb:Hq K b) (hK:K<=10000000000):∃r,ae P L 74 [v,w] r/\cp r (a+b):=by
 have i1:=Xq h hv;have i2:=Xq h hw;obtain ⟨s1,w1,s2,w2,rfl,h1,h2⟩:=hv;obtain ⟨s3,w3,s4,w4,rfl,h3,h4⟩:=hw;obtain ⟨l1,u1⟩:=h1.aI;obtain ⟨l2,u2⟩:=h2.aI;obtain ⟨l3,u3⟩:=h3.aI;obtain ⟨l4,u4⟩:=h4.aI;have n1:cE (.agg [aa s1,w1]) a.num:=⟨s1,w1,rfl,h1⟩;have n2:cE (.agg [aa s2,w2]) a.den:=⟨s2,w2,rfl,h2⟩;have n3:cE (.agg [aa s3,w3]) b.num:=⟨s3,w3,rfl,h3⟩;have n4:cE (.agg [aa s4,w4]) b.den:=⟨s4,w4,rfl,h4⟩;by_cases zn:a.den=1/\b.den=1
 ·obtain ⟨d1,d2⟩:=zn;obtain ⟨p,e1,hp⟩:=KJ h.toNu n1 n3 ka.1 kb.1 (by omega);obtain ⟨r,e2,hr⟩:=KK h hp;have he:((a.num+b.num:Int):Rat)=a+b:=by
   rw [Rat.intCast_add,<-NL a d1,<-NL b d2]
  rw [he] at hr;have cm:=hr;obtain ⟨s5,w5,rfl,h5⟩:=hp;obtain ⟨s6,w6,s7,w7,rfl,h6,h7⟩:=hr;obtain ⟨l5,u5⟩:=h5.aI;obtain ⟨l6,u6⟩:=h6.aI;obtain ⟨l7,u7⟩:=h7.aI;refine ⟨_,?_,cm⟩;rw [d1] at i1;rw [d2] at i2;unfold ae;rw [ay h.h74];simp only [go_sem,ya,yb,Lt,aK,u1.pu,u1.af,u1.one,u2.pu,u2.af,u2.one,u3.pu,u3.af,u3.one,u4.pu,u4.af,u4.one,aV,yd,iR,qX,a8,i1,i2,e1,u5.af,e2,bC,lj u6 u7,dA,dB,yg,iR,lO u6 u7]
 ·obtain ⟨p1,e1,bB⟩:=sL h.toNu n1 n4 ka.1 kb.2 (by omega);obtain ⟨p2,e2,eJ⟩:=sL h.toNu n3 n2 kb.1 ka.2 (by omega);obtain ⟨p3,e3,hp3⟩:=KJ h.toNu bB eJ (ka.1.mul kb.2) (kb.1.mul ka.2) (by omega);obtain ⟨p4,e4,hp4⟩:=sL h.toNu n2 n4 ka.2 kb.2 (by omega);obtain ⟨r,e5,hr⟩:=Vn h hp3 hp4 (by have:=EQ a b;omega) ((ka.1.mul kb.2).Vo (kb.1.mul ka.2)) ((ka.2.mul kb.2).mono (by omega)) (by omega);rw [<-add_eq] at hr;have cm:=hr;obtain ⟨s5,w5,rfl,h5⟩:=bB;obtain ⟨s6,w6,rfl,h6⟩:=eJ;obtain ⟨s7,w7,rfl,h7⟩:=hp3;obtain ⟨s8,w8,rfl,h8⟩:=hp4;obtain ⟨s9,w9,s10,w10,rfl,h9,iY⟩:=hr;obtain ⟨l5,u5⟩:=h5.aI;obtain ⟨l6,u6⟩:=h6.aI;obtain ⟨l7,u7⟩:=h7.aI;obtain ⟨l8,u8⟩:=h8.aI;obtain ⟨l9,u9⟩:=h9.aI;obtain ⟨l10,QK⟩:=iY.aI;refine ⟨_,?_,cm⟩;unfold ae;rw [ay h.h74];by_cases d1:a.den=1
  ·rw [d1] at i1;rw [yZ (fun d2=>zn ⟨d1,d2⟩)] at i2;simp only [go_sem,ya,yb,Lt,aK,u1.pu,u1.af,u1.one,u2.pu,u2.af,u2.one,u3.pu,u3.af,u3.one,u4.pu,u4.af,u4.one,aV,yd,iR,qX,By,a8,i1,i2,e1,e2,u5.af,u6.af,e3,e4,u7.af,u8.af,e5,bC,lj u9 QK,dA,dB,yg,iR,lO u9 QK]
  ·rw [yZ d1] at i1;simp only [go_sem,ya,yb,Lt,aK,u1.pu,u1.af,u1.one,u2.pu,u2.af,u2.one,u3.pu,u3.af,u3.one,u4.pu,u4.af,u4.one,aV,yd,iR,qX,By,a8,i1,e1,e2,u5.af,u6.af,e3,e4,u7.af,u8.af,e5,bC,lj u9 QK,dA,dB,yg,iR,lO u9 QK]
def LX (h:Fr' P L) {v w:AV} {a b:Rat} {K:Nat} (hv:cp v a) (hw:cp w b) (ka:Hq K a) (kb:Hq K b) (hK:K<=10000000000):∃r,ae P L 50 [v,w] r/\cp r (a-b):=by
 obtain ⟨n,e1,hn⟩:=awd h hw kb (by omega);obtain ⟨r,e2,hr⟩:=QJ h hv hn ka kb.neg hK;rw [<-yad] at hr;have cm:=hr;obtain ⟨s1,w1,s2,w2,rfl,h1,h2⟩:=hv;obtain ⟨s3,w3,s4,w4,rfl,h3,h4⟩:=hw;obtain ⟨s5,w5,s6,w6,rfl,h5,h6⟩:=hn;obtain ⟨s7,w7,s8,w8,rfl,h7,h8⟩:=hr;obtain ⟨l1,u1⟩:=h1.aI;obtain ⟨l2,u2⟩:=h2.aI;obtain ⟨l3,u3⟩:=h3.aI;obtain ⟨l4,u4⟩:=h4.aI;obtain ⟨l5,u5⟩:=h5.aI;obtain ⟨l6,u6⟩:=h6.aI;obtain ⟨l7,u7⟩:=h7.aI;obtain ⟨l8,u8⟩:=h8.aI;refine ⟨_,?_,cm⟩;unfold ae;rw [ay h.Xo];simp only [go_sem,ya,yb,WD,aK,u1.pu,u1.af,u1.one,u2.pu,u2.af,u2.one,u3.pu,u3.af,u3.one,u4.pu,u4.af,u4.one,u5.af,u6.af,iR,a8,e1,e2,bC,lj u7 u8,dA,dB,yg,iR,lO u7 u8]
def AO (h:Fr' P L) {v w:AV} {a b:Rat} {K:Nat} (hv:cp v a) (hw:cp w b) (ka:Hq K a) (kb:Hq K b) (hK:K<=10000000000):∃r,ae P L 49 [v,w] r/\cp r (a*b):=by
 obtain ⟨s1,w1,s2,w2,rfl,h1,h2⟩:=hv;obtain ⟨s3,w3,s4,w4,rfl,h3,h4⟩:=hw;obtain ⟨l1,u1⟩:=h1.aI;obtain ⟨l2,u2⟩:=h2.aI;obtain ⟨l3,u3⟩:=h3.aI;obtain ⟨l4,u4⟩:=h4.aI;obtain ⟨p1,e1,bB⟩:=sL h.toNu (v:= .agg [aa s1,w1]) (w:= .agg [aa s3,w3]) ⟨s1,w1,rfl,h1⟩ ⟨s3,w3,rfl,h3⟩ ka.1 kb.1 (by omega);obtain ⟨p2,e2,eJ⟩:=sL h.toNu (v:= .agg [aa s2,w2]) (w:= .agg [aa s4,w4]) ⟨s2,w2,rfl,h2⟩ ⟨s4,w4,rfl,h4⟩ ka.2 kb.2 (by omega);obtain ⟨r,e3,hr⟩:=Vn h bB eJ (by have:=EQ a b;omega) (ka.1.mul kb.1) (ka.2.mul kb.2) (by omega);rw [<-mul_eq] at hr;have cm:=hr;obtain ⟨s5,w5,rfl,h5⟩:=bB;obtain ⟨s6,w6,rfl,h6⟩:=eJ;obtain ⟨s7,w7,s8,w8,rfl,h7,h8⟩:=hr;obtain ⟨l5,u5⟩:=h5.aI;obtain ⟨l6,u6⟩:=h6.aI;obtain ⟨l7,u7⟩:=h7.aI;obtain ⟨l8,u8⟩:=h8.aI;refine ⟨_,?_,cm⟩;unfold ae;rw [ay h.oQ]
 simp only [go_sem,ya,yb,c49,aK,u1.pu,u1.af,u1.one,u2.pu,u2.af,u2.one,u3.pu,u3.af,u3.one,u4.pu,u4.af,u4.one,u5.af,u6.af,aV,yd,qX,By,a8,e1,e2,e3,bC,lj u7 u8,dA,dB,yg,iR,lO u7 u8]
def m73 (h:Fr' P L) {v:AV} {a:Rat} {K:Nat} (hv:cp v a) (h0:a≠0) (ka:Hq K a) (hK:K<=10000000000):∃r,ae P L 73 [v] r/\cp r a⁻¹:=by
 obtain ⟨s1,w1,s2,w2,rfl,h1,h2⟩:=hv;obtain ⟨l1,u1⟩:=h1.aI;obtain ⟨l2,u2⟩:=h2.aI;obtain ⟨r,e1,hr⟩:=Vn h (v:= .agg [aa s2,w2]) (w:= .agg [aa s1,w1]) ⟨s2,w2,rfl,h2⟩ ⟨s1,w1,rfl,h1⟩ (fun e=>h0 (Rat.num_eq_zero.1 e)) ka.2 ka.1 (by omega);rw [<-Rat.inv_def] at hr;have cm:=hr;obtain ⟨s7,w7,s8,w8,rfl,h7,h8⟩:=hr;obtain ⟨l7,u7⟩:=h7.aI;obtain ⟨l8,u8⟩:=h8.aI;refine ⟨_,?_,cm⟩;unfold ae;rw [ay h.h73];simp only [go_sem,ya,yb,WM,aK,u1.pu,u1.af,u1.one,u2.pu,u2.af,u2.one,aV,yd,qX,By,a8,e1,bC,lj u7 u8,dA,dB,yg,iR,lO u7 u8]
def m70 (h:Fr' P L) {v w:AV} {a b:Rat} {K:Nat} (hv:cp v a) (hw:cp w b) (h0:b≠0) (ka:Hq K a) (kb:Hq K b) (hK:K<=10000000000):∃r,ae P L 70 [v,w] r/\cp r (a/b):=by
 obtain ⟨n,e1,hn⟩:=m73 h hw h0 kb hK;obtain ⟨r,e2,hr⟩:=AO h hv hn ka kb.inv hK;have cm:=hr;obtain ⟨s1,w1,s2,w2,rfl,h1,h2⟩:=hv;obtain ⟨s3,w3,s4,w4,rfl,h3,h4⟩:=hw;obtain ⟨s5,w5,s6,w6,rfl,h5,h6⟩:=hn;obtain ⟨s7,w7,s8,w8,rfl,h7,h8⟩:=hr;obtain ⟨l1,u1⟩:=h1.aI;obtain ⟨l2,u2⟩:=h2.aI;obtain ⟨l3,u3⟩:=h3.aI;obtain ⟨l4,u4⟩:=h4.aI;obtain ⟨l5,u5⟩:=h5.aI;obtain ⟨l6,u6⟩:=h6.aI;obtain ⟨l7,u7⟩:=h7.aI;obtain ⟨l8,u8⟩:=h8.aI;refine ⟨_,?_,cm⟩;unfold ae;rw [ay h.h70];simp only [go_sem,ya,yb,WK,aK,u1.pu,u1.af,u1.one,u2.pu,u2.af,u2.one,u3.pu,u3.af,u3.one,u4.pu,u4.af,u4.one,u5.af,u6.af,iR,a8,e1,e2,bC,lj u7 u8,dA,dB,yg,iR,lO u7 u8]
def m71 (h:Fr' P L) {v w:AV} {a b:Rat} {K:Nat} (hv:cp v a) (hw:cp w b) (ka:Hq K a) (kb:Hq K b) (hK:K<=10000000000):ae P L 71 [v,w] (aa (Ak a b)):=by
 obtain ⟨s1,w1,s2,w2,rfl,h1,h2⟩:=hv;obtain ⟨s3,w3,s4,w4,rfl,h3,h4⟩:=hw;obtain ⟨l1,u1⟩:=h1.aI;obtain ⟨l2,u2⟩:=h2.aI;obtain ⟨l3,u3⟩:=h3.aI;obtain ⟨l4,u4⟩:=h4.aI;obtain ⟨p1,e1,bB⟩:=sL h.toNu (v:= .agg [aa s1,w1]) (w:= .agg [aa s4,w4]) ⟨s1,w1,rfl,h1⟩ ⟨s4,w4,rfl,h4⟩ ka.1 kb.2 (by omega);obtain ⟨p2,e2,eJ⟩:=sL h.toNu (v:= .agg [aa s3,w3]) (w:= .agg [aa s2,w2]) ⟨s3,w3,rfl,h3⟩ ⟨s2,w2,rfl,h2⟩ kb.1 ka.2 (by omega);have e3:=afW h.toNu bB eJ (ka.1.mul kb.2) (kb.1.mul ka.2) (by omega);rw [apP] at e3;obtain ⟨s5,w5,rfl,h5⟩:=bB;obtain ⟨s6,w6,rfl,h6⟩:=eJ;obtain ⟨l5,u5⟩:=h5.aI;obtain ⟨l6,u6⟩:=h6.aI;unfold ae;rw [ay h.h71];simp only [go_sem,ya,yb,WL,aK,u1.pu,u1.af,u1.one,u2.pu,u2.af,u2.one,u3.pu,u3.af,u3.one,u4.pu,u4.af,u4.one,u5.af,u6.af,aV,yd,qX,By,a8,e1,e2,e3,bC]
def af1 (h:Fr' P L) {v:AV} {a:Rat} {K:Nat} (hv:cp v a) (ka:Hq K a) (hK:K<=10000000000):∃r,ae P L 149 [v] r/\cE r a.floor:=by
 obtain ⟨s1,w1,s2,w2,rfl,h1,h2⟩:=hv;obtain ⟨l1,u1⟩:=h1.aI;obtain ⟨l2,u2⟩:=h2.aI;obtain ⟨q,r,e1,hq,hr⟩:=Vm h.toNu (v:= .agg [aa s1,w1]) (w:= .agg [aa s2,w2]) ⟨s1,w1,rfl,h1⟩ ⟨s2,w2,rfl,h2⟩ (Nn a) ka.1 ka.2 (by omega);rw [<-Rat.floor_def] at hq;have bK:=hq;obtain ⟨s3,w3,rfl,h3⟩:=hq;obtain ⟨s4,w4,rfl,h4⟩:=hr;obtain ⟨l3,u3⟩:=h3.aI;obtain ⟨l4,u4⟩:=h4.aI;refine ⟨_,?_,bK⟩;unfold ae;rw [ay h.awb];simp only [go_sem,ya,yb,UK,aK,u1.pu,u1.af,u1.one,u2.pu,u2.af,u2.one,aV,yd,qX,By,a8,e1,rU,dA,dB,yg,mF u3,dJ u3,dJ u4]
end
end
section
open Go (IntKind)
def sn:List AV->Option (List Nat)
 | []=>some []
 | .int .u64 (.ofNat d)::r=>bif yM d 18446744073709551616 then (match sn r with | some l=>some (d::l) | none=>none) else none
 | _::_=>none
def sM:List Nat->Nat
 | []=>0
 | a::r=>a+18446744073709551616*sM r
def Bz:List Nat->Bool
 | []=>false
 | [a]=> !yv a 0
 | _::r=>Bz r
def NM:List AV->Option AV
 | [.agg [.int .i64 s,.ab]]=>bif Bs s then some (.str (aY s)) else none
 | [.agg [.int .i64 s,.aJ _ n cs]]=>
  match sn cs with
  | some l=>
   bif yv l.length n&&(yE n 4000000000&&(Bz l&&yE 9223372036854775808 (sM l))) then
    match s with
    | .ofNat 1=>some (.str (aB (sM l)))
    | .negSucc 0=>some (.str (45::aB (sM l)))
    | _=>none
   else none
  | none=>none
 | _=>none
end
section
open Go (IntKind)
def Zc:∀{l:List Nat},lo 18446744073709551616 l->sn (l.map uc)=some l
 | [],_=>rfl
 | a::l,h=>by
  have h1:=h a (by simp);have h2:=Zc (l:=l) (fun x hx=>h x (by simp [hx]));show (bif yM a 18446744073709551616 then (match sn (l.map uc) with | some l=>some (a::l) | none=>none) else none)=_
  rw [jM h1,h2];rfl
def SV:∀l:List Nat,sM l=bv 18446744073709551616 l
 | []=>rfl
 | a::l=>by simp only [sM,bv,SV l]
def aaM:∀{l:List Nat},l≠[]->gY l->Bz l=true
 | [],h,_=>absurd rfl h
 | [a],_,h=>by
  have:a≠0:=fun e=>by
   subst e;have h:ef [0]=[0]:=h;simp [ef] at h
  simp [Bz,iC this]
 | a::b::r,_,h=>by
  have h1:gY (b::r):=by
   have h:ef (a::b::r)=a::b::r:=h;rw [ef] at h
   grind
  have:=aaM (l:=b::r) (by simp) h1
  simpa [Bz] using this
section
variable {P:aG} {L:Lib}
structure Tx (P:aG) (L:Lib):Prop extends Fr' P L where
 Ha:L.pure 99=some NM
 awe:L.pure 175=some Jc
 af2:L.pure 152=some MK
 Vp:L.pure 153=some My
 Vq:L.pure 154=some JN
 Vr:L.pure 109=some OM
 Vs:Has P L 155 OZ
 af3:Has P L 172 O3
 awf:Has P L 151 OY
 awg:Has P L 107 OR
 Xr:Has P L 46 P8
 af4:Has P L 110 OS
 QM:Has P L 62 Qb
def Xs (h:Tx P L) {v:AV} {z:Int} {K:Nat} (hv:cE v z) (hz:Bd K z) (hK:K<=4000000000):ae P L 99 [v] (.str (aY z)):=by
 obtain ⟨s,w,rfl,hn⟩:=hv;unfold ae;rw [js h.Ha];rcases hn with ⟨rfl,rfl,h1,h2⟩ | ⟨e,l,rfl,g,n,hb,hs,h1⟩
 ·show (bif Bs s then some (AV.str (aY s)) else none)=_
  have:Bs s=true:=by
   cases s with
   | ofNat k=>exact jM (by have:(Int.ofNat k)=(k:Int):=rfl;omega)
   | negSucc k=>exact jM (by omega)
  grind
 ·have jB:l≠[]:=fun e=>by subst e;simp [bv] at hb;omega
  have p9:l.length<=4000000000:=xn (oz n hb (yP hz (Bk K))) hK
  show (match sn (l.map uc) with
   | some l'=>bif yv l'.length l.length&&(yE l.length 4000000000&&(Bz l'&&yE 9223372036854775808 (sM l'))) then (match s with | .ofNat 1=>some (AV.str (aB (sM l'))) | .negSucc 0=>some (.str (45::aB (sM l'))) | _=>none) else none
   | none=>none)=_
  rw [Zc g];simp only [Nat.beq_refl,yx p9,aaM jB n,SV,hb,yx h1,wv,yz];by_cases h0:z<0
  ·rw [yH h0] at hs;subst hs;rw [nh h0];rfl
  ·rw [yA h0] at hs;subst hs;obtain ⟨m,rfl⟩:∃m:Nat,z=m:=⟨z.toNat,by omega⟩;rfl
def RT (r:Rat):List Nat:=aY r.num++(if r.den=1 then [] else 47::aB r.den)
def IK {z:Int} {k:Nat} (h:Bd k z):(aY z).length<=k+1:=by
 have h1:∀m:Nat,m<2^k->(aB m).length<=max k 1:=fun m hm=>by
  cases k with
  | zero=>
       have:m=0:=by simpa using hm
       subst this;decide
  | succ k=>
   rw [Nat.max_eq_left (by omega)];exact qO (k:=k) (yP hm (uo (by decide) _))
 by_cases h0:z<0
 ·rw [nh h0];unfold Bd at h
  grind
 ·obtain ⟨m,rfl⟩:∃m:Nat,z=m:=⟨z.toNat,by omega⟩
  have:=h1 m (by unfold Bd at h;simpa using h)
  rw [kP];omega
def m46 (h:Tx P L) {v:AV} {a:Rat} {K:Nat} (hv:cp v a) (ka:Hq K a) (hK:K<=4000000000):ae P L 46 [v] (.str (RT a)):=by
 have i1:=Xq h.toFr' hv;obtain ⟨s1,w1,s2,w2,rfl,h1,h2⟩:=hv;obtain ⟨l1,u1⟩:=h1.aI;obtain ⟨l2,u2⟩:=h2.aI;have e1:=Xs h (v:= .agg [aa s1,w1]) ⟨s1,w1,rfl,h1⟩ ka.1 hK;have e2:=Xs h (v:= .agg [aa s2,w2]) ⟨s2,w2,rfl,h2⟩ ka.2 hK;have b1:=IK ka.1;have b2:=IK ka.2;rw [kP] at e2 b2;unfold ae RT;rw [ay h.Xr];by_cases hd:a.den=1
 ·rw [yH hd,wJ];rw [hd] at i1;simp only [go_sem,ya,yb,P8,aK,u1.pu,u1.af,u1.one,u2.pu,u2.af,u2.one,iR,a8,i1,aV,yd,qX,e1]
 ·rw [yA hd];rw [yZ hd] at i1;have hc:aY a.num++47::aB a.den=(aY a.num++[47])++aB a.den:=by simp
  rw [hc]
  simp only [go_sem,ya,yb,P8,aK,u1.pu,u1.af,u1.one,u2.pu,u2.af,u2.one,iR,a8,i1,aV,yd,qX,By,e1,e2,gN (a:=aY a.num) (b:=[47]) (by simp;omega),gN (a:=aY a.num++[47]) (b:=aB a.den) (by simp;omega)]
end
end
section
open Go (IntKind)
def awh {n:Nat} (h:n<9223372036854775808):binOp .and (.int .i64 (n:Int)) (.int .i64 1)=some (.int .i64 ((n%2:Nat):Int)):=by
 show some (AV.int .i64 (IntKind.wrap .i64 ((xN 64 (n:Int)&&&xN 64 1).toNat:Int)))=_
 rw [show xN 64 (n:Int)=ud 64 n from BitVec.ofInt_natCast 64 n,show xN 64 1=ud 64 1 from rfl];rw [BitVec.toNat_and,vl,vl,show (1%2^64:Nat)=2^1-1 from rfl,Nat.and_two_pow_sub_one_eq_mod,wrapN (by omega)]
 grind
def awi (n:Nat):binOp .shr (.int .i64 (n:Int)) (.int .u64 1)=some (.int .i64 ((n/2:Nat):Int)):=by
 show some (AV.int .i64 ((n:Int).fdiv (2^1)))=_
 grind
def Bd.pow {k:Nat} {z:Int} (h:Bd k z):∀e,Bd (k*e+1) (z^e)
 | 0=>by rw [tJ,xI];unfold Bd;decide
 | e+1=>by
  have ih:=Bd.pow h e;rw [Int.pow_succ];exact (ih.mul h).mono (by rw [xA,yh];omega)
section
variable {P:aG} {L:Lib}
def ass (h:Nu P L) (Pz:True) {z:Int} {K k0:Nat} (hz:Bd K z) (hK:K*k0+1<=30000000000) {o1 o2:AV}:
  ∀m st,(∃(k i e:Nat) (s1 s2:Int) (w1 w2:AV),aT [1,2,4,5] st=⟨[(1,aa k),(2,.ptr 0 0),(4,.ptr 1 0),(5,.ptr 2 0)],[(2,.cells true true true 2 [aa s2,w2]),(1,.cells true true true 2 [o1,o2]),(0,.cells true true true 2 [aa s1,w1])],3,0⟩/\da s1 w1 (z^i)/\da s2 w2 (z^e)/\e+i*k=k0/\(0<k->i<=k0)/\k<9223372036854775808/\k=m)->
   ∃ex st',D P L (.loop [1,2,4,5] C4) st=some (ex,st')/\∃tm s2 w2 c0,st'=⟨tm,[(2,.cells true true true 2 [aa s2,w2]),(1,.cells true true true 2 [o1,o2]),(0,c0)],3,0⟩/\ex= .exit 0/\ah tm 4= .ptr 1 0/\ah tm 5= .ptr 2 0/\da s2 w2 (z^k0):=by
 intro dq sq;generalize bw:aT [1,2,4,5] sq=s0;revert bw s0 sq dq;apply dn;rintro m st ⟨k,i,e,s1,s2,w1,w2,rfl,h1,h2,hk,hi,hkb,rfl⟩;obtain ⟨l1,u1⟩:=h1.aI;obtain ⟨l2,u2⟩:=h2.aI;by_cases We:k=0
 ·right
  subst We;rw [xI,y7] at hk;subst hk;simp only [go_sem,C4,show ¬(0:Int)<((0:Nat):Int) by omega];exact ⟨_,_,rfl,by simp,_,s2,w2,_,rfl,rfl,by simp only [go_sem,ya],by simp only [go_sem,ya],h2⟩
 ·left
  have bL:=hi (by omega);have he:e<=k0:=by omega
  have hik:i*1<=i*k:=yU i (by omega);have b1:Bd (K*k0+1) (z^i):=(hz.pow i).mono (by have:=yU K bL;omega);have b2:Bd (K*k0+1) (z^e):=(hz.pow e).mono (by have:=yU K he;omega);have n1:cE (.agg [aa s1,w1]) (z^i):=⟨s1,w1,rfl,h1⟩;have n2:cE (.agg [aa s2,w2]) (z^e):=⟨s2,w2,rfl,h2⟩;obtain ⟨p,e1,hp⟩:=sL h n2 n1 b2 b1 (by omega);obtain ⟨q,e2,hq⟩:=sL h n1 n1 b1 b1 (by omega);rw [<-Int.pow_add] at hp hq;obtain ⟨s3,w3,rfl,h3⟩:=hp;obtain ⟨s4,w4,rfl,h4⟩:=hq;obtain ⟨l3,u3⟩:=h3.aI;obtain ⟨l4,u4⟩:=h4.aI;have fu:=xV k 2;have LY:=awh (n:=k) hkb;have Xt:=awi k;have aBb:(i+i)*(k/2)=i*(2*(k/2)):=by rw [<-Nat.two_mul,xC 2 i,xr]
  by_cases awj:k%2=1
  ·rw [awj] at LY fu;have sY:i*k=i*(2*(k/2))+i:=by
    conv=>lhs;rw [<-fu,xA,yh]
   by_cases nO:1<k
   ·simp only [go_sem,ya,C4,show (0:Int)<(k:Int) by omega,LY,show ((1:Nat):Int)=1 from rfl,cr,a8,u1.af,u2.af,e1,bC,cr,yg,dJ u3,dJ u4,show (1:Int)<(k:Int) by omega,e2,Xt]
    exact ⟨_,k/2,rfl,by omega,k/2,i+i,e+i,s4,s3,w4,w3,by simp only [go_sem,ya,yb,an],h4,h3,by omega,fun h0=>by have:=yU (i+i) h0;omega,by omega,rfl⟩
   ·have fO:e+i+i*(k/2)=k0:=by
     have h1:k/2=0:=by omega
     rw [h1] at sY ⊢;omega
    simp only [go_sem,ya,C4,show (0:Int)<(k:Int) by omega,LY,show ((1:Nat):Int)=1 from rfl,cr,a8,u1.af,u2.af,e1,bC,cr,yg,dJ u3,show ¬(1:Int)<(k:Int) by omega,Xt];exact ⟨_,k/2,rfl,by omega,k/2,i,e+i,s1,s3,w1,w3,by simp only [go_sem,ya,yb,an],h1,h3,fO,fun h0=>by omega,by omega,rfl⟩
  ·have Eg:k%2=0:=by omega
   rw [Eg] at LY fu;have sY:i*k=i*(2*(k/2)):=by
    conv=>lhs;rw [<-fu,y7]
   simp only [go_sem,ya,C4,show (0:Int)<(k:Int) by omega,LY,show ((0:Nat):Int)=0 from rfl,vC,cr,a8,u1.af,bC,cr,yg,dJ u4,show (1:Int)<(k:Int) by omega,e2,Xt]
   exact ⟨_,k/2,rfl,by omega,k/2,i+i,e,s4,s2,w4,w2,by simp only [go_sem,ya,yb,an],h4,h2,by omega,fun h0=>by have:=yU (i+i) h0;omega,by omega,rfl⟩
def awk (h:Nu P L) (Vs:Has P L 155 OZ) {v:AV} {z:Int} {K k:Nat} (hv:cE v z) (hz:Bd K z) (hK:K*k+1<=30000000000) (hk:k<9223372036854775808):∃r,ae P L 155 [v,aa k] r/\cE r (z^k):=by
 obtain ⟨o1,o2⟩:=DY h (z:=1) (by decide) (by decide);obtain ⟨s1,w1,rfl,h1⟩:=hv;obtain ⟨l1,u1⟩:=h1.aI;have un:=zE;have jh:∃s w,ae P L 155 [.agg [aa s1,w1],aa k] (.agg [aa s,w])/\da s w (z^k):=by
  unfold ae;rw [ay Vs];simp only [go_sem,ya,yb,OZ,aK,u1.pu,u1.one,o1,bC,dJ un];generalize hq:D P L (.loop [1,2,4,5] C4) _=q;obtain ⟨ex,st,rfl,tm,s5,w5,c1,rfl,rfl,t4,t5,h5⟩:=bD hq (ass (P:=P) (L:=L) h trivial hz (k0:=k) hK (o1:= .int .i64 0) (o2:= .ab) k) ⟨k,1,0,s1,1,w1,.ab,by simp only [go_sem,ya,yb,an],by rw [Int.pow_one];exact h1,.inl ⟨rfl,(tJ z).symm,(by rw [tJ];decide)⟩,by omega,fun h0=>h0,hk,rfl⟩
  obtain ⟨l5,u5⟩:=h5.aI;refine ⟨s5,w5,?_,h5⟩;simp only [go_sem,ya,yb,an,t4,t5,dA,dB,cr,yg,mF u5,dJ u5]
 obtain ⟨s,w,e,hn⟩:=jh;exact ⟨_,e,s,w,rfl,hn⟩
def IV:∀(l m:List Nat) (a:Nat),cQ (l++m) a=(cQ l a).bind (fun v=>cQ m v)
 | [],m,a=>rfl
 | b::l,m,a=>by
  simp only [List.cons_append,cQ]
  cases (yE 48 b&&yE b 57) with
  | true=>exact IV l m _
  | false=>rfl
def anw:∀{l:List Nat} {a v:Nat},cQ l 0=some v->cQ l a=some (a*10^l.length+v):=by
 intro l
 suffices h:∀{l:List Nat} {a b v:Nat},cQ l b=some v->b*10^l.length<=v/\cQ l (a+b)=some (a*10^l.length+v) by
  intro a v hv
  have:=(h (a:=a) hv).2
  grind
 intro l
 induction l with
 | nil=>intro a b v h;simp [cQ] at h ⊢;omega
 | cons c l ih=>
  intro a b v h;simp only [cQ] at h ⊢
  cases hb:(yE 48 c&&yE c 57) with
  | false=>rw [hb] at h;cases h
  | true=>
   rw [hb] at h;obtain ⟨h1,h2⟩:=ih (a:=10*a) h;simp only [yC,xk]
   grind
def SW:∀{l:List Nat} {v:Nat},cQ l 0=some v->v<10^l.length:=by
 suffices h:∀{l:List Nat} {b v:Nat},cQ l b=some v->v<(b+1)*10^l.length by
  grind
 intro l
 induction l with
 | nil=>intro b v h;simp [cQ] at h ⊢;omega
 | cons c l ih=>
  intro b v h;simp only [cQ] at h
  cases hb:(yE 48 c&&yE c 57) with
  | false=>rw [hb] at h;cases h
  | true=>
   simp only [Bool.and_eq_true] at hb;have hc:=Nat.le_of_ble_eq_true hb.2;have h2:=yX (10^l.length) (show 10*b+(c-48)+1<=10*(b+1) by omega)
   grind
def apQ (Vq:L.pure 154=some JN) {f:cD} {s:List Nat} {v:Nat} (h0:0<s.length) (h1:s.length<=18) (hv:cQ s 0=some v):bQ P L f 154 [.str s]=some (.au [.int .i64 v,.undef]):=by
 rw [js Vq];show (bif yM 0 s.length&&yE s.length 18 then (match cQ s 0 with | some n=>some (AV.au [.int .i64 n,.undef]) | none=>none) else none)=_
 rw [jM h0,yx h1,hv];rfl
end
end
end VE
