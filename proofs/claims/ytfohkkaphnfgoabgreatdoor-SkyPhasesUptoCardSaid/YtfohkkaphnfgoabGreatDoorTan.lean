import Derived.Test.YtfohkkaphnfgoabGreatDoorTam
import Derived.Test.YtfohkkaphnfgoabGreatDoorTal
import Derived.Test.YtfohkkaphnfgoabGreatDoorTae
set_option linter.all false
set_option maxRecDepth 100000
open BitVec renaming ofInt→xG,ofNat→vY,toNat_ofNat→vl
open Bool renaming and_self→wB,not_false→yG,not_true→yK,true_and→wh
open Int renaming ediv_emod_unique→uH,gcd→wI,gcd_comm→ybl,natAbs_ediv_of_dvd→vO,natAbs_mul→yaC,natCast_mul→vd,pow_zero→tv,reduceEq→vN,reduceLT→ybk
open List renaming append_assoc→xC,append_nil→wC,drop_drop→wQ,drop_zero→yi,length_cons→yu,length_drop→xY,length_nil→yA,length_pos_iff→uI,length_take→yQ,take_append_drop→xP,take_of_length_le→yE
open Nat renaming add_comm→yal,add_zero→yV,beq→yt,ble→yB,ble_eq_true_of_le→yz,blt→yI,div_add_mod→xO,div_eq_of_lt→wk,div_le_self→ve,eq_zero_or_pos→xm,le_trans→xj,lt_of_le_of_lt→wc,lt_of_lt_of_le→yN,mod_eq_of_lt→yO,mod_le→ybA,mod_lt→xv,mul_add→xx,mul_add_div→yas,mul_add_mod→yat,mul_assoc→xk,mul_comm→xz,mul_le_mul_left→yR,mul_le_mul_right→yU,mul_lt_mul''→tj,mul_lt_mul_of_pos_right→wE,mul_one→yj,mul_zero→xE,pos_of_ne_zero→tT,pow_add→wj,pow_le_pow_left→uh,pow_le_pow_right→xA,pow_succ→xg,reduceAdd→yb,reduceEqDiff→ya,reduceLeDiff→yh,zero_add→yd
open Rat renaming den_divInt→yaE,divInt→xT,divInt_ofNat→yak,lt_iff→ybB,num_divInt→yaD,sub_eq_add_neg→tU
namespace VE
section
open Go (IntKind)
def XW {b p A V bu bq0 U0 pre:Nat} (h1:bu=pre+p*A) (h2:bu+bq0*V=U0):(pre+p*(A%V))+(bq0+p*(A/V))*V=U0:=by
 have eU:=xO A V
 grind
def arY (hp:Hp) (ct:Nat) (ex:Bool) (sz n:Nat) (cs:List AV):own hp ct (.cp ex sz n cs)=(.aE ct 0 n,(ct,.cells true true ex sz cs)::hp,ct+1):=rfl
section
variable {P:aI} {L:Lib}
def ap5 (h:Wd P L) {w:AV} {vs:List Nat} (hw:bG w vs) (gv:lo 18446744073709551616 vs) {n la m:Nat} (lv:vs.length=n) (dT:2<=n) (NV:n<=la) (J5:la<=99999999999) (hm:m=la-n+1) (eI:0<vs.getD (n-1) 0) {s U0:Nat}:
  ∀k st,(∃(j:Nat) (us qs:List Nat),bf [9,10,11,12,13,14] st=⟨[(9,aa s),(10,w),(11,.aE 0 0 (la+1)),(12,aa n),(13,.aE 1 0 m),(14,aa ((j:Int)-1))],H2 qs us,2,0⟩/\j=k/\j<=m/\us.length=la+1/\qs.length=m/\lo 18446744073709551616 us/\lo 18446744073709551616 qs/\(∀i,i<j->qs.getD i 0=0)/\
    bv 18446744073709551616 us+bv 18446744073709551616 qs*bv 18446744073709551616 vs=U0/\bv 18446744073709551616 (us.drop j)<bv 18446744073709551616 vs)->
   ∃ex st',D P L (.loop [9,10,11,12,13,14] Ht) st=some (ex,st')/\∃tm us qs,st'=⟨tm,H2 qs us,2,0⟩/\ex= .exit 2/\aj tm 9=aa s/\aj tm 11= .aE 0 0 (la+1)/\aj tm 12=aa n/\aj tm 13= .aE 1 0 m/\us.length=la+1/\qs.length=m/\lo 18446744073709551616 us/\lo 18446744073709551616 qs/\
    bv 18446744073709551616 us+bv 18446744073709551616 qs*bv 18446744073709551616 vs=U0/\bv 18446744073709551616 us<bv 18446744073709551616 vs:=by
 intro dq sq;generalize bQ:bf [9,10,11,12,13,14] sq=s0;revert bQ s0 sq dq;apply eO;rintro k st ⟨j,us,qs,rfl,rfl,hj,lu,lq,gu,gq,hz,aQ,mR⟩
 cases j with
 | zero=>
  right
  simp only [go_sem,ya,Ht,H2,show ¬(0:Int)<=((0:Nat):Int)-1 by omega];exact ⟨_,_,rfl,by simp,_,us,qs,rfl,rfl,by simp only [go_sem,ya],by simp only [go_sem,ya],by simp only [go_sem,ya],by simp only [go_sem,ya],lu,lq,gu,gq,aQ,by simpa using mR⟩
 | succ j=>
  left
  have dH:(0:Nat)<18446744073709551616:=by decide
  obtain ⟨pre,eL⟩:∃p,p=us.take j:=⟨_,rfl⟩;obtain ⟨x,hx⟩:∃p,p=(us.drop j).take (n+1):=⟨_,rfl⟩;obtain ⟨post,fT⟩:∃p,p=us.drop (j+(n+1)):=⟨_,rfl⟩;have lp:pre.length=j:=by rw [eL,yQ];omega
  have lx:x.length=n+1:=by rw [hx,yQ,xY];omega
  have jv:us=pre++x++post:=by
   rw [eL,hx,fT,<-wQ,xC,xP,xP]
  have gx:lo 18446744073709551616 x:=by rw [hx];exact zO (ZC gu _) _
  have SJ:lo 18446744073709551616 pre:=by rw [eL];exact zO gu _
  have arZ:lo 18446744073709551616 post:=by rw [fT];exact ZC gu _
  have hA:bv 18446744073709551616 (us.drop j)=us.getD j 0+18446744073709551616*bv 18446744073709551616 (us.drop (j+1)):=LD (by omega);have hgj:=gC dH gu j;have Fl:us.drop j=x++post:=by rw [fT,hx,<-wQ,xP]
  have zn:bv 18446744073709551616 (us.drop j)=bv 18446744073709551616 x+18446744073709551616^(n+1)*bv 18446744073709551616 post:=by rw [Fl,pK,lx]
  have J3:=lC gv;rw [lv] at J3;have a6:bv 18446744073709551616 (us.drop j)<18446744073709551616*bv 18446744073709551616 vs:=by omega
  have hp0:bv 18446744073709551616 post=0:=by
   rcases xm (bv 18446744073709551616 post) with e | e
   ·exact e
   ·have h1:=yR (18446744073709551616^(n+1)) e;rw [yj,xg] at h1;rw [xg] at zn;omega
  rw [hp0,xE,yV] at zn;have hl:gJ x vs n (vs.getD (n-1) 0) (vs.getD (n-2) 0) (x.getD n 0) (x.getD (n-1) 0) (x.getD (n-2) 0):=
   ⟨dT,by omega,lx,lv,gx,gv,rfl,rfl,rfl,rfl,rfl,eI,by rw [<-zn];exact a6⟩
  have Nn:=hl.digit;obtain ⟨x',e1,U1,OD,J6⟩:=atn h hw hl (pre:=pre) (post:=post) (qs:=qs);rw [lp,<-jv] at e1;have U2:bv 18446744073709551616 us=bv 18446744073709551616 pre+18446744073709551616^j*bv 18446744073709551616 x:=by
   have:=G0 (b:=18446744073709551616) us j (by omega)
   rw [zn,<-eL] at this;exact this
  have SK:bv 18446744073709551616 (pre++x'++post)=bv 18446744073709551616 pre+18446744073709551616^j*bv 18446744073709551616 x':=by
   rw [xC,pK,pK,hp0,xE,yV,lp]
  have bh:=mH (b:=18446744073709551616) (l:=qs) (i:=j) (x:=bv 18446744073709551616 x/bv 18446744073709551616 vs) (by omega);rw [hz j (by omega),xE,yV] at bh;have kI:=XW (b:=0) U2 aQ;have aR:=fun (hp:Hp) (ct:Nat)=>jG (hp:=hp) (ct:=ct) (id:=1) (v:=bv 18446744073709551616 x/bv 18446744073709551616 vs) (ex:=true) (l:=qs) (o:=j) (by omega)
  have pz:0<bv 18446744073709551616 vs:=by omega
  have n8:=xv (bv 18446744073709551616 x) pz;have kM:∀tm (x y:X),cI tm 0 (some x)=some j->cI tm (la+1) (some y)=some (j+n+1)->fe (H2 qs us) (.sl 1) (.aE 0 0 (la+1)) tm (some x) (some y)=some (.aE 0 j (n+1)):=fun tm x y h1 h2=>by
   rw [anz (cs:=us.map uc) (pu:=true) (ex:=true) rfl h1 h2 (by omega) (by omega),show j+n+1-j=n+1 by omega]
  simp only [go_sem,ya,yj,Ht,H2,show ((j+1:Nat):Int)-1=(j:Int) by omega,show (0:Int)<=(j:Int) by omega,show (j:Int)+(n:Int)=((j+n:Nat):Int) from rfl,wrapN (n:=j+n) (by omega),show ((j+n:Nat):Int)+1=((j+n+1:Nat):Int) from rfl,wrapN (n:=j+n+1) (by omega),kM,du,acQ,e1,db 1 0 (show j<m by omega),yd,aR];refine ⟨_,j,rfl,by omega,j,pre++x'++post,qs.set j (bv 18446744073709551616 x/bv 18446744073709551616 vs),?_,rfl,by omega,by rw [nK,lp,U1,fT,xY];omega,by simp [lq],KU.2 ⟨KU.2 ⟨SJ,OD⟩,arZ⟩,lm gq Nn,fun i hi=>by rw [nJ (by omega)];exact hz i (by omega),?_,?_⟩
  ·rw [wrap64 (by omega) (by omega)];simp only [go_sem,ya,yb,ao,aA hw.pu,aF _ hw.pu]<;>rfl
  ·rw [SK,J6,bh];exact kI
  ·rw [xC,List.drop_left' lp,pK,hp0,xE,yV,J6];exact n8
def ar0 {l:List Nat} {n:Nat} (h:l.length=n+1):18446744073709551616^n*l.getD n 0<=bv 18446744073709551616 l:=by
 have:=iP (b:=18446744073709551616) (l:=l) n
 grind
def mS {m K:Nat} {l:List Nat} (hn:gm l) (hv:bv 18446744073709551616 l=m) (h:m<18446744073709551616^K):l.length<=K:=aiv (b:=18446744073709551616) (by decide) hn (by rw [hv];exact h)
def ap6 (h:Wd P L) {v w:AV} {x:List Nat} {d:Nat} (hv:bG v x) (hw:bG w [d]) (gx:lo 18446744073709551616 x) (lx:x.length<=90000000000) (hX:0<d) (UZ:d<18446744073709551616) (ec:ae P L 158 [v,w] (aa (dF (bv 18446744073709551616 x) d))) (hc:d<=bv 18446744073709551616 x):
  ∃q r,ae P L 137 [v,w] (.aq [q,r])/\WN q (bv 18446744073709551616 x/d)/\WN r (bv 18446744073709551616 x%d):=by
 have dU:¬dF (bv 18446744073709551616 x) d<0:=by unfold dF;rw [yF (by omega)];split<;>decide
 obtain ⟨n,hn⟩:∃n,n=x.length:=⟨_,rfl⟩;have main:∃r l,(∀c:Nat->AV->AV->Option AV,True)/\r<d/\l.length=n/\lo 18446744073709551616 l/\bv 18446744073709551616 x=bv 18446744073709551616 l*d+r/\
   ∃q1 r1,bG q1 (dM l)/\bG r1 (dM [r])/\ae P L 137 [v,w] (.aq [q1,r1]):=by
  unfold ae;rw [au h.SH]
  simp only [go_sem,ya,Ip,hv.len,hv.af,hw.len,hw.af,ec,dU,yu,yA,yd,show ((1:Nat):Int)=(1:Int) from rfl,<-hn,Cu (n:=n) _ (by omega)];generalize hq:D P L (.loop [0,1,6,7,8] Hs) _=q;obtain ⟨ex,s,rfl,tm,r,l,rfl,rfl,t6,t7,om,bi,hr,aQ⟩:=bI hq (ap3 (P:=P) (L:=L) h hv gx (by omega) hw hX UZ hn n) ⟨n,0,[],by
   rw [wrap64 (by omega) (by omega),wC]
   simp only [go_sem,ya,yb,ao,aA hv.pu,aF _ hv.pu,aA hw.pu,aF _ hw.pu]<;>rfl,rfl,rfl,LS,hX,by rw [List.drop_eq_nil_of_le (by omega)];simp [bv]⟩
  have hf:=mb true l;rw [om] at hf;obtain ⟨q1,e1,eT⟩:=AA h.lM hf (by omega);obtain ⟨r1,e2,cw⟩:=AA h.lM (mb true [r]) (by simp);simp only [yu,yA,yd,List.map_cons,List.map_nil] at e2;refine ⟨r,l,fun _=>trivial,hr,om,bi,aQ,q1,r1,eT,cw,?_⟩
  simp only [go_sem,ya,yb,Nat.reduceLT,yh,yj,ao,t6,t7,Az _ (n:=n) (l:=l) om true,e1,eT.shut,e2,cw.shut];exact QW eT cw _
 obtain ⟨r,l,_,hr,om,bi,aQ,q1,r1,eT,cw,e⟩:=main;have hq:bv 18446744073709551616 l=bv 18446744073709551616 x/d:=by
  rw [aQ,xz,yas hX,wk hr,yV]
 have hm:r=bv 18446744073709551616 x%d:=by
  rw [aQ,xz,yat,yO hr]
 exact ⟨q1,r1,e,⟨_,eT,zI bi,zH _,by rw [zG,hq]⟩,⟨_,cw,zI (D1.2 (by omega)),zH _,by rw [zG,zV,hm]⟩⟩
def ap7 (h:Wd P L) {v w:AV} {x y:List Nat} (hv:bG v x) (hw:bG w y) (gx:lo 18446744073709551616 x) (gy:lo 18446744073709551616 y) (nx:gm x) (ny:gm y) (lx:x.length<=90000000000) (ly:2<=y.length) (ec:ae P L 158 [v,w] (aa (dF (bv 18446744073709551616 x) (bv 18446744073709551616 y)))) (hc:bv 18446744073709551616 y<=bv 18446744073709551616 x):
  ∃q r,ae P L 137 [v,w] (.aq [q,r])/\WN q (bv 18446744073709551616 x/bv 18446744073709551616 y)/\WN r (bv 18446744073709551616 x%bv 18446744073709551616 y):=by
 have dH:(0:Nat)<18446744073709551616:=by decide
 have dU:¬dF (bv 18446744073709551616 x) (bv 18446744073709551616 y)<0:=by unfold dF;rw [yF (by omega)];split<;>decide
 have hyx:y.length<=x.length:=by
  by_cases hh:x.length<y.length
  ·have:=Lx (b:=18446744073709551616) (by decide) gx ny hh;omega
  ·omega
 obtain ⟨n,hn⟩:∃n,n=y.length:=⟨_,rfl⟩;obtain ⟨la,J5⟩:∃la,la=x.length:=⟨_,rfl⟩;have Af:=K9 ny (fun e=>by subst e;simp at ly);have CV:=gC dH gy (y.length-1);have U3:=hw.a8 (i:=y.length-1) (by omega);have kP:=ar0 (l:=y) (n:=n-1) (by omega);rw [<-hn] at Af CV U3;obtain ⟨top,mR⟩:∃top,y.getD (n-1) 0=top:=⟨_,rfl⟩;rw [mR] at Af CV U3 kP;have elz:=abe (P:=P) (f:=D P L) h.IZ CV;obtain ⟨z1,z2,z3⟩:=P6 (tT Af) CV;generalize 64-er 64 top=s at*
 obtain ⟨ov,ev,lov,gov,vov⟩:=adD h.adI hw gy (by omega) z1;obtain ⟨ou,eu,lou,gou,vou⟩:=adD h.adI hv gx (by omega) z1;obtain ⟨v',U4,ef⟩:=AA h.lM (mb true ov) (by omega);rw [lov,<-hn] at U4;rw [<-hn] at ev;rw [<-J5] at eu lou;have iH:=Nat.two_pow_pos s;obtain ⟨vs,sT⟩:∃vs,vs=dM ov:=⟨_,rfl⟩;rw [<-sT] at ef;have CW:lo 18446744073709551616 vs:=by rw [sT];exact zI gov
 have J7:gm vs:=by rw [sT];exact zH _
 have rn:bv 18446744073709551616 vs=bv 18446744073709551616 y*2^s:=by rw [sT,zG,vov]
 have hyW:bv 18446744073709551616 y*2^s<18446744073709551616^n:=by
  have e:18446744073709551616=2^(64-s)*2^s:=by rw [<-wj,show 64-s+s=64 by omega]
  have e1:=iP (b:=18446744073709551616) (l:=y) (n-1);rw [show n-1+1=n by omega,yE (by omega),mR] at e1;have e2:=lC (zO gy (n-1));rw [yQ,Nat.min_eq_left (by omega)] at e2;have e3:top<2^(64-s):=Nat.lt_of_mul_lt_mul_right (a:=2^s) (Nat.lt_of_lt_of_eq z3 e);have e4:=yU (2^s) (show top+1<=2^(64-s) from e3);rw [<-e] at e4;have e5:bv 18446744073709551616 y<18446744073709551616^(n-1)*(top+1):=by rw [xx,yj];omega
  have e6:=wE e5 iH;rw [xk] at e6;have e7:=yR (18446744073709551616^(n-1)) e4;rw [<-xg,show (n-1).succ=n by omega] at e7;exact yN e6 e7
 have ato:18446744073709551616^(n-1)*2^s<=bv 18446744073709551616 vs:=by
  rw [rn];refine yU _ (xj ?_ kP)
  have:=yR (18446744073709551616^(n-1)) (show 1<=top by omega)
  omega
 have zo:vs.length=n:=by
  have h1:vs.length<=n:=by
   refine mS J7 rn ?_;exact hyW
  have h2:¬vs.length<n:=fun hh=>by
   have e1:=lC CW;have e2:18446744073709551616^vs.length<=18446744073709551616^(n-1):=xA dH (by omega);have e3:=yU (2^s) kP;rw [xk,<-rn] at e3;have e4:=yR (18446744073709551616^(n-1)) (show 1<=top*2^s by omega);omega
  omega
 have eI:0<vs.getD (n-1) 0:=by
  have:=K9 J7 (fun e=>by rw [e] at zo;simp at zo;omega)
  rw [zo] at this;exact tT this
 obtain ⟨m,hm⟩:∃m,m=la-n+1:=⟨_,rfl⟩;have RG:bv 18446744073709551616 (ou.drop m)<bv 18446744073709551616 vs:=by
  have e1:=G0 (b:=18446744073709551616) ou m (by omega);have e2:=lC gx;rw [<-J5] at e2;have e3:=wE e2 iH;rw [<-vou] at e3;have e4:18446744073709551616^la=18446744073709551616^m*18446744073709551616^(n-1):=by rw [<-wj];congr 1;omega
  rw [e4,xk] at e3;have e5:18446744073709551616^m*bv 18446744073709551616 (ou.drop m)<18446744073709551616^m*(18446744073709551616^(n-1)*2^s):=by omega
  exact yN (Nat.lt_of_mul_lt_mul_left e5) ato
 have e1y:(y.length:Int)-1=((n-1:Nat):Int):=by omega
 have atp:((la:Nat):Int)-(n:Int)=((m-1:Nat):Int):=by omega
 have iD:∃tm us qs rs,(us.length=la+1/\qs.length=m/\lo 18446744073709551616 us/\lo 18446744073709551616 qs/\bv 18446744073709551616 us+bv 18446744073709551616 qs*bv 18446744073709551616 vs=bv 18446744073709551616 x*2^s/\bv 18446744073709551616 us<bv 18446744073709551616 vs/\
   rs.length=n/\lo 18446744073709551616 rs/\bv 18446744073709551616 rs*2^s+us.getD 0 0%2^s=bv 18446744073709551616 (us.take n)+18446744073709551616^n*(us.getD n 0%2^s))/\aj tm 0=v/\
   ∃q1 r1,bG q1 (dM qs)/\bG r1 (dM rs)/\ae P L 137 [v,w] (.aq [q1,r1]):=by
  unfold ae at ec ev eu U4;unfold ae;rw [au h.SH];have hfo:=Az (n:=n+1) (l:=ov) (hp:=[]) (by omega) true
  simp only [go_sem,ya,yb,Ip,hv.len,hv.af,hw.len,hw.af,ec,dU,show ¬(y.length:Int)=1 by omega,e1y,wrapN (n:=n-1) (by omega),U3,elz,ev,arY,Az _ (n:=n+1) (l:=ov) (by omega) true,U4,ef.len,ef.shut,eu,zo,<-J5,atp,wrapN (n:=m-1) (by omega),show ((m-1:Nat):Int)+1=(m:Int) by omega,wrapN (n:=m) (by omega),Cu (n:=m) _ (by omega)];generalize lX:D P L (.loop [9,10,11,12,13,14] Ht) _=qq;obtain ⟨ex,st,rfl,tm,us,qs,rfl,rfl,t9,t11,t12,t13,OE,OF,Fm,U5,aQ,a6⟩:=bI lX (ap5 (P:=P) (L:=L) h ef CW zo (by omega) (by omega) (by omega) hm eI (s:=s) (U0:=bv 18446744073709551616 x*2^s) m) ⟨m,ou,List.replicate m 0,by
   rw [show ((m-1:Nat):Int)=(m:Int)-1 by omega]
   simp only [go_sem,ya,yb,ao,aA ef.pu,aF _ ef.pu]<;>rfl,rfl,Nat.le_refl _,lou,by simp,gou,D2 dH m,fun i _=>Bz m i,by rw [D3,Nat.zero_mul,yV,vou],RG⟩
  simp only [go_sem,ya,yb,ao,t9,t11,t12,t13];generalize Cw:D P L (.loop [9,11,12,13,96,97] DO) _=UU;obtain ⟨ex,st,rfl,qJ,rs,rfl,rfl,t11,t12,t13,U6,U7,No⟩:=bI Cw (ap4 (P:=P) (L:=L) (qs:=qs) (m:=m) (la:=la+1) (n:=n) z1 OE Fm (by omega) (by omega) n) ⟨0,[],by simp only [go_sem,ya,yb,ao]<;>rfl,by omega,rfl,LS,by simp [bv]⟩
  have kM:∀(hp:Hp) tm (y:X),aw hp 0=some (.cells true true true 1 ((rs++us.drop n).map uc))->cI tm (la+1) (some y)=some n->fe hp (.sl 1) (.aE 0 0 (la+1)) tm none (some y)=some (.aE 0 0 n):=fun hp tm y h1 h2=>YI h1 h2 (by omega) (by omega)
  have J8:=mb true qs;rw [OF] at J8;obtain ⟨q1,f1,eT⟩:=AA h.lM J8 (by omega);have dS:(rs++us.drop n).take n=rs:=by rw [List.take_append_of_le_length (by omega),yE (by omega)]
  have J9:∃e,∀hp:Hp,kL 0 n (some (true,1,(rs++us.drop n).map uc,hp))=some (.aH e n (rs.map uc),hp):=by
   refine ⟨true&&yI 0 1&&yt n ((rs++us.drop n).map uc).length,fun hp=>?_⟩;simp only [kL,yd,yj,slice,yi,<-List.map_take,dS];rw [yz (by simp;omega)];rfl
  obtain ⟨e,J9⟩:=J9;have gA:=mb e rs;rw [U6] at gA;obtain ⟨r1,f2,cw⟩:=AA h.lM gA (by omega);unfold ae at f1 f2;refine ⟨[(0,v)],us,qs,rs,⟨OE,OF,Fm,U5,aQ,a6,U6,U7,No⟩,rfl,q1,r1,eT,cw,?_⟩
  simp only [go_sem,ya,yb,ao,t11,t12,t13,Az _ (n:=m) (l:=qs) OF true,f1,eT.shut,kM,du,J9,f2,cw.shut];exact QW eT cw _
 obtain ⟨tm,us,qs,rs,⟨OE,OF,Fm,U5,aQ,a6,U6,U7,No⟩,_,q1,r1,eT,cw,e⟩:=iD;have jr:0<bv 18446744073709551616 y:=by
  have:=yR (18446744073709551616^(n-1)) (show 1<=top by omega)
  have:=Nat.pow_pos (n:=n-1) dH
  omega
 rw [rn] at aQ a6;have I0:bv 18446744073709551616 qs=bv 18446744073709551616 x/bv 18446744073709551616 y:=by
  rw [<-Nat.mul_div_mul_right _ _ iH,<-aQ,yal,xz,yas (Nat.mul_pos jr iH),wk a6,yV]
 have OG:bv 18446744073709551616 us=(bv 18446744073709551616 x%bv 18446744073709551616 y)*2^s:=by
  rw [<-Nat.mul_mod_mul_right,<-aQ,yal,xz (bv _ qs),yat,yO a6]
 have jv:=G0 (b:=18446744073709551616) us n (by omega);have hX:bv 18446744073709551616 (us.drop n)=0:=by
  rcases xm (bv 18446744073709551616 (us.drop n)) with h0 | h0
  ·exact h0
  ·have:=yR (18446744073709551616^n) h0
   omega
 have hun:us.getD n 0=0:=by
  have:=LD (b:=18446744073709551616) (l:=us) (i:=n) (by omega)
  omega
 rw [hX,xE,yV] at jv;have A4:us.getD 0 0%2^s=0:=by
  have e1:=LD (b:=18446744073709551616) (l:=us) (i:=0) (by omega);rw [yi,OG] at e1;have e2:18446744073709551616=2^s*2^(64-s):=by rw [<-wj,show s+(64-s)=64 by omega]
  have e3:(us.getD 0 0+18446744073709551616*bv 18446744073709551616 (us.drop (0+1)))%2^s=us.getD 0 0%2^s:=by
   conv=>lhs;rw [e2,xk]
   exact Nat.add_mul_mod_self_left _ _ _
  rw [<-e3,<-e1,Nat.mul_mod_left]
 rw [hun,A4,Nat.zero_mod,xE,yV,yV,<-jv,OG] at No;have acR:bv 18446744073709551616 rs=bv 18446744073709551616 x%bv 18446744073709551616 y:=Nat.eq_of_mul_eq_mul_right iH No;exact ⟨q1,r1,e,⟨_,eT,zI U5,zH _,by rw [zG,I0]⟩,⟨_,cw,zI U7,zH _,by rw [zG,acR]⟩⟩
def adL (h:Wd P L) {v w:AV} {a b K:Nat} (hv:WN v a) (hw:WN w b) (hb:0<b) (ha:a<18446744073709551616^K) (hbK:b<18446744073709551616^K) (hK:K<=90000000000):
  ∃q r,ae P L 137 [v,w] (.aq [q,r])/\WN q (a/b)/\WN r (a%b):=by
 obtain ⟨x,Fo,gx,nx,vx⟩:=hv;obtain ⟨y,OH,gy,ny,vy⟩:=hw;have lx:x.length<=90000000000:=xj (mS nx vx ha) hK;have ly:y.length<=90000000000:=xj (mS ny vy hbK) hK;have ec:=ady h.adJ Fo OH gx gy nx ny (by omega) (by omega);subst vx;subst vy;by_cases hc:bv 18446744073709551616 x<bv 18446744073709551616 y
 ·have dU:dF (bv 18446744073709551616 x) (bv 18446744073709551616 y)= -1:=by unfold dF;rw [yL hc]
  rw [dU] at ec;refine ⟨.ab,v,?_,⟨[],rJ,LS,rfl,by rw [wk hc];rfl⟩,⟨x,Fo,gx,nx,by rw [yO hc]⟩⟩
  unfold ae;rw [au h.SH];simp only [go_sem,ya,Ip,Fo.af,OH.af,ec,show (-1:Int)<0 by decide];exact QW rJ Fo _
 ·rcases (show y.length=0\/y.length=1\/2<=y.length by omega) with h0 | h1 | h2
  ·rw [List.eq_nil_of_length_eq_zero h0] at hb;simp [bv] at hb
  ·obtain ⟨d,rfl⟩:∃d,y=[d]:=by
    cases y with
    | nil=>simp at h1
    | cons d r=>cases r with
     | nil=>exact ⟨d,rfl⟩
     | cons e r=>simp at h1
   exact ap6 h Fo OH gx lx hb (D1.1 gy) ec (by omega)
  ·exact ap7 h Fo OH gx gy nx ny lx h2 ec (by omega)
end
end
section
open Go (IntKind)
def iq (v:AV) (n:Int):Prop:=∃w l,v= .agg [.bool (decide (n<0)),w]/\bk w l/\dg l/\nz l/\dv l=n.natAbs
def gT {l:List Int} {k:Nat} (hd:dg l) (hn:nz l) (h:dv l<1000000000^k):l.length<=k:=by
 by_cases h0:l=[]
 ·grind
 ·have h1:=Mg hn hd h0;have h2:1000000000^(l.length-1)<1000000000^k:=wc h1 h;have h3:=(Nat.pow_lt_pow_iff_right (show 1<1000000000 by decide)).1 h2;omega
def dj {hp:Hp} {ct id:Nat} {a b x y:AV} (h1:br a=true) (h2:br b=true) (p1:aX a=true) (p2:aX b=true):
  fM hp ct id 0 2 [a,b] (some (.cells true true true 2 [x,y]))=some (.aq [],bh hp id (.cells true true true 2 [a,b]),ct):=by
 rw [nV (by rfl) (by simp) (by simp [bL,h1,h2])];simp [aK,p1,p2,over]
section
variable {P:aI} {L:Lib}
def cg (neg:Bool) (m:Nat):Int:=if neg=true then -(m:Int) else m
def mT (h:Has P L 294 Ap) (cJ:Has P L 300 kJ) (neg:Bool) {v:AV} {l:List Int} (hv:bk v l) (hd:dg l) (hl:l.length<=20000000000):
  ∃r,ae P L 294 [.bool neg,v] r/\iq r (cg neg (dv l)):=by
 obtain ⟨w,e1,hw,fH⟩:=Ay cJ hv hl;have oH:=rG l;have A9:=DF l;have mA:=zF hd;have hc:(neg&&decide ((0:Int)<((dL l).length:Nat)))=decide (cg neg (dv l)<0):=by
  unfold cg
  cases neg with
  | false=>simp
  | true=>
   simp only [wh,xh];by_cases h0:dL l=[]
   ·rw [h0] at oH ⊢;simp only [dv] at oH;simp [<-oH]
   ·have h1:0<(dL l).length:=uI.2 h0;have h2:0<dv l:=by
     rw [<-oH];rcases xm (dv (dL l)) with h | h
     ·exact absurd (Ql A9 mA h) h0
     ·exact h
    rw [xi (by omega),xi (by omega)]
 refine ⟨.agg [.bool (decide (cg neg (dv l)<0)),w],?_,w,dL l,rfl,hw,mA,A9,?_⟩
 ·rw [<-hc];unfold ae at e1 ⊢;rw [au h]
  cases neg with
  | false=>
   simp only [go_sem,ya,yb,yh,Ap,aG,hv.af,e1,hw.pu,hw.shut,hw.one,hw.cells,dj];rcases hw with ⟨rfl,_⟩ | ⟨e,rfl⟩<;>rfl
  | true=>
   simp only [go_sem,ya,yb,yh,Ap,aG,hv.af,e1,hw.len,hw.pu,hw.shut,hw.one,hw.cells,dj];rcases hw with ⟨rfl,_⟩ | ⟨e,rfl⟩<;>rfl
 ·rw [oH];unfold cg;split<;>omega
def adM (h:Has P L 298 M3) (gK:Has P L 294 Ap) (cJ:Has P L 300 kJ) {v:AV} {n:Int} {K:Nat} (hK:K<=20000000000) (hv:iq v n) (hn:n.natAbs<1000000000^K):∃r,ae P L 298 [v] r/\iq r (-n):=by
 obtain ⟨w,l,rfl,hw,hd,hz,oH⟩:=hv;obtain ⟨r,e1,hr⟩:=mT gK cJ (!decide (n<0)) hw hd (xj (gT hd hz (by rw [oH];exact hn)) hK)
 have e:cg (!decide (n<0)) (dv l)= -n:=by
  rw [oH];unfold cg;by_cases h0:n<0
  ·simp [h0];omega
  ·simp [h0];omega
 rw [e] at hr;obtain ⟨w2,l2,rfl,gN,fB,ik,sH⟩:=hr;refine ⟨_,?_,w2,l2,rfl,gN,fB,ik,sH⟩;unfold ae at e1 ⊢;rw [au h];simp only [go_sem,ya,yb,M3,aG,hw.pu,hw.af,hw.one,gN.pu,gN.one,aZ,yd,bX,e1,dj,bm];rcases gN with ⟨rfl,_⟩ | ⟨e,rfl⟩<;>rfl
end
end
section
open Go (IntKind)
def cV (s:Int) (w:AV) (z:Int):Prop:=
 (w= .ab/\s=z/\-9223372036854775808<=z/\z<9223372036854775808)\/
 (∃e l,w= .aH e l.length (l.map uc)/\lo 18446744073709551616 l/\gm l/\bv 18446744073709551616 l=z.natAbs/\s=(if z<0 then -1 else 1)/\9223372036854775808<=z.natAbs)
def cC (v:AV) (z:Int):Prop:=∃s w,v= .agg [aa s,w]/\cV s w z
def Bd (k:Nat) (z:Int):Prop:=z.natAbs<2^k
def zW (k:Nat):2^k<=18446744073709551616^k:=uh (by decide) k
def Bd.mono {k m:Nat} {z:Int} (h:Bd k z) (hk:k<=m):Bd m z:=yN h (xA (by decide) hk)
def Bd.neg {k:Nat} {z:Int} (h:Bd k z):Bd k (-z):=by unfold Bd at h ⊢;rwa [Int.natAbs_neg]
def Bd.add {k m:Nat} {a b:Int} (ha:Bd k a) (hb:Bd m b):Bd (max k m+1) (a+b):=by
 have h1:Bd (max k m) a:=ha.mono (by omega);have h2:Bd (max k m) b:=hb.mono (by omega);unfold Bd at h1 h2 ⊢
 grind
def Bd.mul {k m:Nat} {a b:Int} (ha:Bd k a) (hb:Bd m b):Bd (k+m) (a*b):=by
 unfold Bd at*
 rw [yaC,wj];exact tj ha hb
def Bd.le {k:Nat} {a b:Int} (hb:Bd k b) (h:a.natAbs<=b.natAbs):Bd k a:=wc h hb
def WN.pos {v:AV} {m:Nat} (h:WN v m) (h0:0<m):∃e l,v= .aH e l.length (l.map uc)/\l≠[]/\lo 18446744073709551616 l/\gm l/\bv 18446744073709551616 l=m:=by
 obtain ⟨l,hv,g,n,hb⟩:=h;have hl:l≠[]:=fun e=>by subst e;simp [bv] at hb;omega
 rcases hv with ⟨_,e⟩ | ⟨e,rfl⟩
 ·simp_all
 ·exact ⟨e,l,by simp,hl,g,n,hb⟩
def WN.aD {v:AV} {m:Nat} (h:WN v m):∃l,bG v l/\lo 18446744073709551616 l/\gm l/\bv 18446744073709551616 l=m:=h
def mI (e:Bool) (n:Nat) (cs:List AV):iU .sl (.aH e n cs) .ab=some false:=rfl
def fV:iU .sl .ab .ab=some true:=rfl
def LF (hp:Hp) (ct id:Nat) (a:Int) (e:Bool) (n:Nat) (cs:List AV) (x y:AV):fM hp ct id 0 2 [.int .i64 a,.aH e n cs] (some (.cells true true true 2 [x,y]))=some (.aq [],bh hp id (.cells true true true 2 [.int .i64 a,.aH e n cs]),ct):=dj rfl rfl rfl rfl
def pN {tm:Env} {a x y:AV} {r:List (Nat×Nat×X)} (h:br a=true):fG tm [x,y] 0 1 [a] r=fill tm [a,y] r:=ZI (by simp) h
def cV.nG {z:Int} (h1: -9223372036854775808<=z) (h2:z<9223372036854775808):cC (.agg [aa z,.ab]) z:=⟨z,.ab,rfl,.inl ⟨rfl,rfl,h1,h2⟩⟩
def cV.cA {s:Int} {w:AV} {z:Int} (h:cV s w z):(s<0↔z<0)/\(s=0↔z=0)/\-9223372036854775808<=s/\s<9223372036854775808:=by
 rcases h with ⟨_,rfl,h1,h2⟩ | ⟨e,l,_,_,_,_,rfl,h1⟩
 ·grind
 ·grind
section
variable {P:aI} {L:Lib}
structure Nu (P:aI) (L:Lib):Prop extends Wd P L where
 atq:Has P L 117 MJ
 atr:Has P L 142 ML
 SL:Has P L 136 Io
 I1:Has P L 145 sA
 ats:Has P L 146 Sb
 SM:Has P L 147 Iq
 adN:Has P L 163 MQ
 att:Has P L 118 Ch
 adO:Has P L 119 c119
 atu:Has P L 156 Se
 Np:Has P L 100 lJ
 SN:Has P L 164 lK
 atv:Has P L 148 Sc
 atw:Has P L 130 Sa
def Cx (h:Nu P L) {z:Int} (h1: -9223372036854775808<=z) (h2:z<9223372036854775808):ae P L 117 [aa z] (.agg [aa z,.ab])/\cC (.agg [aa z,.ab]) z:=⟨n117 h.atq z,cV.nG h1 h2⟩
def SO (h:Nu P L) {n:Int} (h1: -9223372036854775808<=n) (h2:n<9223372036854775808):ae P L 142 [aa n] (uc n.natAbs):=by
 unfold ae;rw [au h.atr];by_cases h0:n<0
 ·have e:IntKind.wrap .u64 (IntKind.wrap .i64 (0-n))=(n.natAbs:Int):=by
   by_cases hm:n= -9223372036854775808
   ·subst hm;rfl
   ·rw [wrap64 (by omega) (by omega),Mk];omega
  simp only [go_sem,ya,ML,h0,aba,e]
 ·have e:IntKind.wrap .u64 n=(n.natAbs:Int):=by rw [Mk];omega
  simp only [go_sem,ya,ML,h0,aba,e]
def sI (h:Nu P L) {s:Int} {w:AV} {z:Int} (hz:cV s w z):∃r,ae P L 136 [.agg [aa s,w]] (.aq [.bool (decide (z<0)),r])/\WN (bT r) z.natAbs:=by
 rcases hz with ⟨rfl,rfl,h1,h2⟩ | ⟨e,l,rfl,g,n,hb,hs,h1⟩
 ·by_cases h0:s=0
  ·subst h0;refine ⟨.ab,?_,[],rJ,LS,rfl,rfl⟩;unfold ae;rw [au h.SL];simp only [go_sem,ya,yb,Io,aG,aZ,yd,bX,fV,HM,ybk];rfl
  ·have e1:=SO h h1 h2;refine ⟨.cp true 1 1 [uc s.natAbs],?_,[s.natAbs],mb true [s.natAbs],D1.2 (by omega),Dt (by omega) [],zV _⟩;unfold ae;rw [au h.SL];simp only [go_sem,ya,yb,yh,yj,Io,aG,aZ,yd,bX,fV,HM,h0,e1];rfl
 ·have jC:decide (s<0)=decide (z<0):=by rw [hs];split<;>simp<;>omega
  refine ⟨.aH e l.length (l.map uc),?_,l,mb e l,g,n,hb⟩;unfold ae;rw [au h.SL];simp only [go_sem,ya,yb,Io,aG,aZ,yd,bX,mI,HM,jC];rfl
def XX {d:Nat} (h:d<=9223372036854775807):IntKind.wrap .i64 (d:Int)=d:=wrapN (by omega)
def Cy (h:Nu P L) (neg:Bool) {w:AV} {m K:Nat} (hw:WN w m) (hm:m<18446744073709551616^K) (hK:K<=90000000000):∃r,ae P L 145 [.bool neg,w] r/\cC r (cg neg m):=by
 obtain ⟨l,hu,g,n,hb⟩:=hw;have om:l.length<=90000000000:=xj (mS n hb hm) hK;by_cases h0:l=[]
 ·subst h0
  have:m=0:=by rw [<-hb];rfl
  subst this;have e:cg neg 0=0:=by unfold cg;cases neg<;>rfl
  rw [e];refine ⟨.agg [aa 0,.ab],?_,cV.nG (by decide) (by decide)⟩;unfold ae;rw [au h.I1];simp only [go_sem,ya,yb,sA,aG,hu.len,yA,show (((0:Nat):Nat):Int)=0 from rfl,pV];rfl
 ·have iW:0<l.length:=uI.2 h0;by_cases h1:l.length=1/\l.getD 0 0<=9223372036854775807
  ·obtain ⟨h1,h2⟩:=h1;obtain ⟨d,rfl⟩:∃d,l=[d]:=by
    cases l with
    | nil=>simp at h1
    | cons d r=>cases r with
     | nil=>exact ⟨d,rfl⟩
     | cons e r=>simp at h1
   have h2:d<=9223372036854775807:=h2;rw [zV] at hb;subst hb;have ex:=hu.a8 (i:=0) (by simp);rw [show ([d]:List Nat).getD 0 0=d from rfl] at ex;have hlen:∀hp,gV hp 1 w=some (.int .i64 1):=fun hp=>hu.len
   cases neg with
   | true=>
    refine ⟨.agg [aa (0-(d:Int)),.ab],?_,?_⟩
    ·unfold ae;rw [au h.I1]
     simp only [go_sem,ya,yb,yh,sA,aG,hlen,vN,ex,show (d:Int)<=9223372036854775807 by omega,LU,XX h2,wrap64 (n:=0-(d:Int)) (by omega) (by omega),pV];rfl
    ·have:cg true d=0-(d:Int):=by unfold cg;simp
     rw [this];exact cV.nG (by omega) (by omega)
   | false=>
    refine ⟨.agg [aa (d:Int),.ab],?_,?_⟩
    ·unfold ae;rw [au h.I1];simp only [go_sem,ya,yb,yh,sA,aG,hlen,vN,ex,show (d:Int)<=9223372036854775807 by omega,LU,XX h2,pV];rfl
    ·have:cg false d=(d:Int):=by unfold cg;simp
     rw [this];exact cV.nG (by omega) (by omega)
  ·have OI:9223372036854775808<=m:=by
    rw [<-hb];by_cases h2:l.length=1
    ·obtain ⟨d,rfl⟩:∃d,l=[d]:=by
      cases l with
      | nil=>simp at h2
      | cons d r=>cases r with
       | nil=>exact ⟨d,rfl⟩
       | cons e r=>simp at h2
     have:¬d<=9223372036854775807:=fun hd=>h1 ⟨h2,hd⟩
     rw [zV];omega
    ·have h3:=QS (b:=18446744073709551616) (by decide) n h0;have h4:18446744073709551616^1<=18446744073709551616^(l.length-1):=xA (by decide) (by omega);rw [Nat.pow_one] at h4;omega
   have cT:∃e,w= .aH e l.length (l.map uc):=by
    rcases hu with ⟨rfl,hh⟩ | ⟨e,rfl⟩
    ·simp at hh;exact absurd hh h0
    ·exact ⟨e,by simp⟩
   obtain ⟨e,rfl⟩:=cT;have ex:=hu.a8 (i:=0) iW;have first:(decide ((l.length:Int)=1)=true/\¬((l.getD 0 0:Nat):Int)<=9223372036854775807)\/decide ((l.length:Int)=1)=false:=by
    by_cases h2:l.length=1
    ·left;refine ⟨by simp;omega,fun hd=>h1 ⟨h2,by omega⟩⟩
    ·right;simp;omega
   cases neg with
   | true=>
    refine ⟨.agg [aa (-1),.aH e l.length (l.map uc)],?_,-1,_,rfl,.inr ⟨e,l,rfl,g,n,by rw [hb];unfold cg;simp,by unfold cg;simp;omega,by unfold cg;simp;omega⟩⟩
    unfold ae;rw [au h.I1];rcases first with ⟨f1,f2⟩ | f1
    ·simp only [go_sem,ya,yb,yh,sA,aG,show ¬(l.length:Int)=0 by omega,f1,f2,ex,pN,LF];rfl
    ·simp only [go_sem,ya,yb,yh,sA,aG,show ¬(l.length:Int)=0 by omega,f1,pN,LF];rfl
   | false=>
    refine ⟨.agg [aa 1,.aH e l.length (l.map uc)],?_,1,_,rfl,.inr ⟨e,l,rfl,g,n,by rw [hb];unfold cg;simp,by unfold cg;simp,by unfold cg;simp;omega⟩⟩
    unfold ae;rw [au h.I1];rcases first with ⟨f1,f2⟩ | f1
    ·simp only [go_sem,ya,yb,yh,sA,aG,show ¬(l.length:Int)=0 by omega,f1,f2,ex,pN,LF];rfl
    ·simp only [go_sem,ya,yb,yh,sA,aG,show ¬(l.length:Int)=0 by omega,f1,pN,LF];rfl
end
end
section
open Go (IntKind)
def bE:VC->VC
 | .seq a _=>a
 | c=>c
def alj {a b:Int} {x y:Nat} (ha:a.natAbs=x) (hb:b.natAbs=y) (h:decide (a<0)=decide (b<0)):cg (decide (a<0)) (x+y)=a+b:=by
 unfold cg
 grind
def YJ {a b:Int} {m:Nat} (hm:m+b.natAbs=a.natAbs) (h:¬decide (a<0)=decide (b<0)):cg (decide (a<0)) m=a+b:=by
 unfold cg
 grind
def alk {a:Int}:cg (!decide (a<0)) a.natAbs= -a:=by
 unfold cg
 grind
def YK {a b:Int}:cg (decide (a<0) !=decide (b<0)) (a.natAbs*b.natAbs)=a*b:=by
 unfold cg
 grind
def lE {s:Int} {w:AV} {l:List Nat} (h:bG w l) (hp:Hp):result hp (.agg [aa s,w])=some (.agg [aa s,w]):=by
 rcases h with ⟨rfl,_⟩ | ⟨e,rfl⟩<;>rfl
def dz {s:Int} {w:AV} {l:List Nat} (h:bG w l) (hp:Hp) (ct id:Nat) (x y:AV):fM hp ct id 0 2 [.int .i64 s,w] (some (.cells true true true 2 [x,y]))=some (.aq [],bh hp id (.cells true true true 2 [.int .i64 s,w]),ct):=dj rfl h.one rfl h.pu
def cV.aD {s:Int} {w:AV} {z:Int} (h:cV s w z):∃l,bG w l:=by
 rcases h with ⟨rfl,_⟩ | ⟨e,l,rfl,_⟩
 ·exact ⟨[],rJ⟩
 ·exact ⟨l,mb e l⟩
def acS (hp:Hp) (sz:Nat) (ag:Bool):AV->Option AV
 | .ptr id o=>Ox sz ag o (aw hp id)
 | .aO cs=>eY sz ag cs
 | _=>none
def cR (tm:Env) (hp:Hp) (ct base i sz:Nat) (ag:Bool):results1 ⟨tm,hp,ct,base⟩ (.cell i sz ag)=acS hp sz ag (aj tm i):=by
 rfl
def cS (hp:Hp) (sz:Nat) (ag:Bool) (id o:Nat):acS hp sz ag (.ptr id o)=Ox sz ag o (aw hp id):=rfl
section
variable {P:aI} {L:Lib}
def EK (h:Nu P L) {v:AV} {z:Int} (hv:cC v z):ae P L 146 [v] (aa (cA z)):=by
 obtain ⟨s,w,rfl,hn⟩:=hv;obtain ⟨l,hu⟩:=hn.aD;have e:cA s=cA z:=by
  obtain ⟨h1,h2,_⟩:=hn.cA;unfold cA;by_cases h0:z<0
  ·rw [yL h0,yL (h1.2 h0)]
  ·by_cases h3:z=0
   ·rw [yF (fun h=>h0 (h1.1 h)),yL (h2.2 h3),yF h0,yL h3]
   ·rw [yF (fun h=>h0 (h1.1 h)),yF (fun h=>h3 (h2.1 h)),yF h0,yF h3]
 unfold ae;rw [au h.ats];simp only [go_sem,ya,yb,Sb,aG,hu.pu,hu.one,aZ,yd,aa9,HL,YD,G2,apR,e]
def EL (h:Nu P L) {v:AV} {z:Int} {K:Nat} (hv:cC v z) (hz:Bd K z) (hK:K<=90000000000):∃r,ae P L 147 [v] r/\cC r (-z):=by
 obtain ⟨s,w,rfl,hn⟩:=hv;obtain ⟨p,e1,hp⟩:=sI h hn;obtain ⟨lp,ij,_⟩:=hp.aD;obtain ⟨r,e2,hr⟩:=Cy h (!decide (z<0)) hp (yN hz (zW K)) hK;rw [alk] at hr;have bY:=hr;obtain ⟨s',w',rfl,jE⟩:=hr;obtain ⟨l',iK⟩:=jE.aD;rcases hn with ⟨rfl,rfl,h1,h2⟩ | ⟨e,l0,rfl,g,n,hb,hs,h1⟩
 ·by_cases h0:s= -9223372036854775808
  ·refine ⟨_,?_,bY⟩;unfold ae;rw [au h.SM];simp only [go_sem,ya,yb,Iq,aG,aZ,yd,bX,fV,dK,h0];rw [h0] at e1 e2;simp only [go_sem,ya,cr,aY,e1,e2,ij.af,bm,cR,cS,cr,yi,lE iK,dz iK]
  ·refine ⟨.agg [aa (-s),.ab],?_,cV.nG (by omega) (by omega)⟩;unfold ae;rw [au h.SM]
   simp only [go_sem,ya,yb,Iq,aG,aZ,yd,bX,fV,dK,h0,wrap64 (n:=0-s) (by omega) (by omega),pV,pN];rw [Int.zero_sub];rfl
 ·refine ⟨_,?_,bY⟩;unfold ae;rw [au h.SM];simp only [go_sem,ya,yb,Iq,aG,aZ,yd,bX,mI,dK,cr,aY,e1,e2,ij.af,bm,cR,cS,cr,yi,lE iK,dz iK]
def adP (h:Nu P L) {v:AV} {z:Int} {K:Nat} (hv:cC v z) (hz:Bd K z) (hK:K<=90000000000):∃r,ae P L 163 [v] r/\cC r (z.natAbs:Nat):=by
 have ef:=hv;obtain ⟨s,w,rfl,hn⟩:=hv;obtain ⟨l,hu⟩:=hn.aD;have Fp:=hn.cA.1;by_cases h0:z<0
 ·obtain ⟨r,e1,hr⟩:=EL h ef hz hK;rw [show -z=(z.natAbs:Int) by omega] at hr;have bY:=hr;obtain ⟨s',w',rfl,jE⟩:=hr;obtain ⟨l',iK⟩:=jE.aD;refine ⟨_,?_,bY⟩;unfold ae;rw [au h.adN];simp only [go_sem,ya,yb,MQ,aG,hu.pu,hu.af,hu.one,aZ,yd,Fp.2 h0,cr,aY,e1,bm,cR,cS,cr,yi,lE iK,dz iK]
 ·rw [show ((z.natAbs:Nat):Int)=z by omega];refine ⟨_,?_,ef⟩;unfold ae;rw [au h.adN];simp only [go_sem,ya,yb,MQ,aG,hu.pu,hu.one,aZ,yd,show ¬s<0 from fun h=>h0 (Fp.1 h),cr,cR,cS,cr,yi,lE hu,dz hu]
def ap8 (h:Nu P L) {s1 s2:Int} {w1 w2:AV} {a b:Int} {K:Nat} (ha:cV s1 w1 a) (hb:cV s2 w2 b) (ka:Bd K a) (kb:Bd K b) (hK:K<=40000000000):
  ∃r,cC r (a+b)/\∀tm,aj tm 2= .ptr 0 0->aj tm 3= .ptr 1 0->aj tm 4= .ptr 2 0->fX [.cell 4 2 true] (D P L (ay (ay c119.body)) ⟨tm,[(2,.cells true true true 2 [.int .i64 0,.ab]),(1,.cells true true true 2 [aa s2,w2]),(0,.cells true true true 2 [aa s1,w1])],3,0⟩)=some r:=by
 obtain ⟨l1,u1⟩:=ha.aD;obtain ⟨l2,u2⟩:=hb.aD;obtain ⟨p,e1,hp⟩:=sI h ha;obtain ⟨q,e2,hq⟩:=sI h hb;obtain ⟨lp,ij,gp,np,vp⟩:=hp.aD;obtain ⟨lq,nl,gq,nq,vq⟩:=hq.aD;have Ba:=yN ka (zW K);have Fq:=yN kb (zW K);have llp:lp.length<=40000000000:=xj (mS np vp Ba) hK;have llq:lq.length<=40000000000:=xj (mS nq vq Fq) hK;by_cases hs:decide (a<0)=decide (b<0)
 ·obtain ⟨o,mz,e3,ho,my,no,vo⟩:=as8 h.ati h.lM h.fY ij nl gp gq (by omega) (by omega);obtain ⟨r,e4,hr⟩:=Cy h (decide (a<0)) ⟨mz,ho,my,no,vo⟩ (K:=K+1) (by rw [vp,vq,xg];omega) (by omega);rw [alj vp.symm vq.symm hs] at hr;have bY:=hr;obtain ⟨s',w',rfl,jE⟩:=hr;obtain ⟨l',iK⟩:=jE.aD;refine ⟨_,bY,fun tm t2 t3 t4=>?_⟩;simp only [go_sem,ya,c119,ay,t2,t3,cr,aY,u1.af,u2.af,e1,e2,ij.af,nl.af,dK,nW,hs,tk];rw [hs] at e4;simp only [go_sem,ya,t4,e3,ho.af,ho.shut,e4,bm,cR,cS,cr,yi,lE iK,dz iK]
 ·have Ka:(decide (a<0)==decide (b<0))=false:=by simpa using hs
  have e3:=ady h.adJ ij nl gp gq np nq (by omega) (by omega);rw [vp,vq] at e3;by_cases hc:b.natAbs<=a.natAbs
  ·obtain ⟨o,mz,e4,ho,my,no,vo⟩:=adz h.adK h.lM h.qw ij nl gp gq nq (by omega) (by rw [vp,vq];exact hc)
   rw [vp,vq] at vo;obtain ⟨r,e5,hr⟩:=Cy h (decide (a<0)) ⟨mz,ho,my,no,rfl⟩ (K:=K) (by omega) (by omega);rw [YJ vo hs] at hr;have bY:=hr;obtain ⟨s',w',rfl,jE⟩:=hr;obtain ⟨l',iK⟩:=jE.aD;have dU:(0:Int)<=dF a.natAbs b.natAbs:=by unfold dF;rw [yF (by omega)];split<;>decide
   refine ⟨_,bY,fun tm t2 t3 t4=>?_⟩;simp only [go_sem,ya,c119,ay,t2,t3,t4,cr,aY,u1.af,u2.af,e1,e2,ij.af,nl.af,dK,nW,Ka,e3,dU,e4,ho.af,ho.shut,e5,bm,cR,cS,cr,yi,lE iK,dz iK]
  ·obtain ⟨o,mz,e4,ho,my,no,vo⟩:=adz h.adK h.lM h.qw nl ij gq gp np (by omega) (by rw [vp,vq];omega);rw [vp,vq] at vo;obtain ⟨r,e5,hr⟩:=Cy h (decide (b<0)) ⟨mz,ho,my,no,rfl⟩ (K:=K) (by omega) (by omega);rw [YJ vo (fun e=>hs e.symm),Int.add_comm] at hr;have bY:=hr;obtain ⟨s',w',rfl,jE⟩:=hr;obtain ⟨l',iK⟩:=jE.aD;have dU:¬(0:Int)<=dF a.natAbs b.natAbs:=by unfold dF;rw [yL (by omega)];decide
   refine ⟨_,bY,fun tm t2 t3 t4=>?_⟩;simp only [go_sem,ya,c119,ay,t2,t3,t4,cr,aY,u1.af,u2.af,e1,e2,ij.af,nl.af,dK,nW,Ka,e3,dU,e4,ho.af,ho.shut,e5,bm,cR,cS,cr,yi,lE iK,dz iK]
def I2 (h:Nu P L) {v w:AV} {a b:Int} {K:Nat} (hv:cC v a) (hw:cC w b) (ka:Bd K a) (kb:Bd K b) (hK:K<=40000000000):∃r,ae P L 119 [v,w] r/\cC r (a+b):=by
 obtain ⟨s1,w1,rfl,h1⟩:=hv;obtain ⟨s2,w2,rfl,h2⟩:=hw;obtain ⟨l2,u2⟩:=h2.aD;obtain ⟨r,hr,tail⟩:=ap8 h h1 h2 ka kb hK;have fin:∀tm,aj tm 2= .ptr 0 0->aj tm 3= .ptr 1 0->aj tm 4= .ptr 2 0->
   D P L (.seq (bE c119.body) (bE (ay c119.body))) ⟨[(0,.agg [aa s1,w1]),(1,.agg [aa s2,w2])],[],0,0⟩=some (.normal,⟨tm,[(2,.cells true true true 2 [.int .i64 0,.ab]),(1,.cells true true true 2 [aa s2,w2]),(0,.cells true true true 2 [aa s1,w1])],3,0⟩)->ae P L 119 [.agg [aa s1,w1],.agg [aa s2,w2]] r:=fun tm t2 t3 t4 e=>by
  unfold ae;rw [au h.adO];show fX [.cell 4 2 true] (D P L (.seq (bE c119.body) (.seq (bE (ay c119.body)) (ay (ay c119.body)))) ⟨[(0,.agg [aa s1,w1]),(1,.agg [aa s2,w2])],[],0,0⟩)=_
  have e2:D P L (.seq (bE c119.body) (.seq (bE (ay c119.body)) (ay (ay c119.body)))) ⟨[(0,.agg [aa s1,w1]),(1,.agg [aa s2,w2])],[],0,0⟩=nU P L (D P L (.seq (bE c119.body) (bE (ay c119.body))) ⟨[(0,.agg [aa s1,w1]),(1,.agg [aa s2,w2])],[],0,0⟩) (ay (ay c119.body)):=by
   rw [lD,lD]
   cases D P L (bE c119.body) ⟨[(0,.agg [aa s1,w1]),(1,.agg [aa s2,w2])],[],0,0⟩ with
   | none=>rfl
   | some q=>
    obtain ⟨ex,st⟩:=q
    cases ex with
    | normal=>rw [gQ,gQ,lD]
    | ret=>rfl
    | exit id=>rfl
  rw [e2,e,gQ];exact tail tm t2 t3 t4
 rcases h1 with ⟨rfl,rfl,a1,a2⟩ | ⟨e,l,rfl,ga,na,va,sa,a1⟩
 ·rcases h2 with ⟨rfl,rfl,b1,b2⟩ | ⟨e,l,rfl,gb,nb,vb,sb,b1⟩
  ·by_cases gZ: -9223372036854775808<=s1+s2/\s1+s2<9223372036854775808
   ·refine ⟨.agg [aa (s1+s2),.ab],?_,cV.nG gZ.1 gZ.2⟩;have e:decide (s1<s1+s2)=decide (0<s2):=by
     by_cases h:0<s2
     ·simp only [h,yo];exact xi (by omega)
     ·simp only [h,yp];exact yX (by omega)
    unfold ae;rw [au h.adO]
    simp only [go_sem,ya,yb,c119,aG,pV,fV,dK,nW,aZ,yd,bX,wrap64 (n:=s1+s2) gZ.1 gZ.2,e,tk,pN];rfl
   ·have e:(decide (s1<IntKind.wrap .i64 (s1+s2))==decide (0<s2))=false:=by
     have hw:(9223372036854775808<=s1+s2/\IntKind.wrap .i64 (s1+s2)=s1+s2-18446744073709551616)\/(s1+s2< -9223372036854775808/\IntKind.wrap .i64 (s1+s2)=s1+s2+18446744073709551616):=by
      simp only [IntKind.wrap,IntKind.bits,IntKind.signed,wh]
      split<;>rename_i h<;>simp at h<;>omega
     by_cases h0:0<s2
     ·rw [xi h0,yX (by omega)];rfl
     ·rw [yX h0,xi (by omega)];rfl
    refine ⟨r,fin _ ?_ ?_ ?_ (by simp only [go_sem,ya,yb,bE,ay,c119,aG,fV,dK,nW,aZ,yd,bX,e]<;>rfl),hr⟩<;>simp only [go_sem,ya]
  ·refine ⟨r,fin _ ?_ ?_ ?_ (by simp only [go_sem,ya,yb,bE,ay,c119,aG,fV,mI,dK,aZ,yd,bX]<;>rfl),hr⟩<;>simp only [go_sem,ya]
 ·refine ⟨r,fin _ ?_ ?_ ?_ (by simp only [go_sem,ya,yb,bE,ay,c119,aG,u2.pu,u2.one,mI,dK,aZ,yd,bX]<;>rfl),hr⟩<;>simp only [go_sem,ya]
end
end
section
open Go (IntKind)
def Bv {P:aI} {L:Lib} (a b c:VC) (s:St):D P L (.seq a (.seq b c)) s=nU P L (D P L (.seq a b) s) c:=by
 rw [lD,lD]
 cases D P L a s with
 | none=>rfl
 | some q=>
  obtain ⟨ex,st⟩:=q
  cases ex with
  | normal=>rw [gQ,gQ,lD]
  | ret=>rfl
  | exit id=>rfl
def abh {s s':Int} {w w':AV} {l l':List Nat} (h:bG w l) (h':bG w' l') (hp:Hp):result hp (.aq [.agg [aa s,w],.agg [aa s',w']])=some (.aq [.agg [aa s,w],.agg [aa s',w']]):=by
 rcases h with ⟨rfl,_⟩ | ⟨e,rfl⟩<;>rcases h' with ⟨rfl,_⟩ | ⟨e',rfl⟩<;>rfl
def Nq (tm:Env) (hp:Hp) (ct:Nat) (rs:List (Nat×Bool×Nat)) (sz:Nat) (p:AV) (new:List AV):gh:=match p with | .ptr id o=>bif nL tm id rs then fM hp ct id o sz new (aw hp id) else none | _=>none
def Nr (id:Nat):AV->Bool | .ptr j _=> !yt j id | .aO _=>true | _=>false
def QX {P:aI} {L:Lib} (f:cF) (tm:Env) (hp:Hp) (ct:Nat) (rs:List (Nat×Bool×Nat)) (sz:Nat) (x v:X):bn P L f tm hp ct (.jl rs sz x v)=Nq tm hp ct rs sz (az tm x) (cellsOf (az tm v)):=by
 simp only [bn,Nq]
 cases hx:az tm x with
 | ptr id o=>
  rw [YA,hx,acI]
 | _=>rfl
def QY {tm:Env} {hp:Hp} {ct:Nat} {rs:List (Nat×Bool×Nat)} {sz id o:Nat} {new:List AV} (h:nL tm id rs=true):Nq tm hp ct rs sz (.ptr id o) new=fM hp ct id o sz new (aw hp id):=by
 simp only [Nq,h,yy]
def Qp (tm:Env) (id:Nat):nL tm id []=true:=(rfl)
def P7 (tm:Env) (id sz x:Nat) (ag:Bool) (r:List (Nat×Bool×Nat)):nL tm id ((sz,ag,x)::r)=(Nr id (aj tm x)&&nL tm id r):=by
 simp only [nL,Nr]
 grind
def QZ {id j o:Nat} (h:j≠id):Nr id (.ptr j o)=true:=by simp only [Nr,gR h,yG]
section
variable {P:aI} {L:Lib}
def adQ (h:Nu P L) {v w:AV} {a b:Int} {K:Nat} (hv:cC v a) (hw:cC w b) (ka:Bd K a) (kb:Bd K b) (hK:K<=40000000000):∃r,ae P L 156 [v,w] r/\cC r (a-b):=by
 obtain ⟨n,e1,hn⟩:=EL h hw kb (by omega);obtain ⟨r,e2,hr⟩:=I2 h hv hn ka kb.neg hK;have bY:=hr;obtain ⟨s1,w1,rfl,h1⟩:=hv;obtain ⟨s2,w2,rfl,h2⟩:=hw;obtain ⟨s3,w3,rfl,h3⟩:=hn;obtain ⟨s4,w4,rfl,h4⟩:=hr;obtain ⟨l1,u1⟩:=h1.aD;obtain ⟨l2,u2⟩:=h2.aD;obtain ⟨l3,u3⟩:=h3.aD;obtain ⟨l4,u4⟩:=h4.aD;refine ⟨_,?_,bY⟩;unfold ae;rw [au h.atu];simp only [go_sem,ya,yb,Se,aG,u1.pu,u1.af,u1.one,u2.pu,u2.af,u2.one,u3.af,aY,e1,e2,bm,cR,cS,cr,yi,lE u4,dz u4]
def adR (h:Nu P L) {v w:AV} {a b:Int} {K:Nat} (hv:cC v a) (hw:cC w b) (ka:Bd K a) (kb:Bd K b) (hK:K<=40000000000):ae P L 118 [v,w] (aa (cA (a-b))):=by
 obtain ⟨d,e1,hd⟩:=adQ h hv hw ka kb hK;have e2:=EK h hd;obtain ⟨s1,w1,rfl,h1⟩:=hv;obtain ⟨s2,w2,rfl,h2⟩:=hw;obtain ⟨s3,w3,rfl,h3⟩:=hd;obtain ⟨l2,u2⟩:=h2.aD;obtain ⟨l3,u3⟩:=h3.aD;unfold ae;rw [au h.att];rcases h1 with ⟨rfl,rfl,a1,a2⟩ | ⟨e,l,rfl,ga,na,va,sa,a1⟩
 ·rcases h2 with ⟨rfl,rfl,b1,b2⟩ | ⟨e,l,rfl,gb,nb,vb,sb,b1⟩
  ·by_cases c1:s1<s2
   ·rw [show cA (s1-s2)= -1 by unfold cA;rw [yL (by omega)]];simp only [go_sem,ya,yb,Ch,aG,fV,dK,aZ,yd,bX,c1]
   ·by_cases c2:s2<s1
    ·rw [show cA (s1-s2)=1 by unfold cA;rw [yF (by omega),yF (by omega)]];simp only [go_sem,ya,yb,Ch,aG,fV,dK,aZ,yd,bX,c1,c2]
    ·rw [show cA (s1-s2)=0 by unfold cA;rw [yF (by omega),yL (by omega)]];simp only [go_sem,ya,yb,Ch,aG,fV,dK,aZ,yd,bX,c1,c2]
  ·simp only [go_sem,ya,yb,Ch,aG,fV,mI,dK,aZ,yd,bX,cr,aY,e1,e2,u3.af,bm]
 ·simp only [go_sem,ya,yb,Ch,aG,u2.pu,u2.af,u2.one,mI,dK,aZ,yd,bX,cr,aY,e1,e2,u3.af,bm]
def ap9 (h:Nu P L) {s1 s2:Int} {w1 w2:AV} {a b:Int} {K:Nat} (ha:cV s1 w1 a) (hb:cV s2 w2 b) (ka:Bd K a) (kb:Bd K b) (hK:K<=40000000000):
  ∃r,cC r (a*b)/\∀tm,aj tm 2= .ptr 0 0->aj tm 3= .ptr 1 0->aj tm 4= .ptr 2 0->fX [.cell 4 2 true] (D P L (ay (ay lJ.body)) ⟨tm,[(2,.cells true true true 2 [.int .i64 0,.ab]),(1,.cells true true true 2 [aa s2,w2]),(0,.cells true true true 2 [aa s1,w1])],3,0⟩)=some r:=by
 obtain ⟨l1,u1⟩:=ha.aD;obtain ⟨l2,u2⟩:=hb.aD;obtain ⟨p,e1,hp⟩:=sI h ha;obtain ⟨q,e2,hq⟩:=sI h hb;obtain ⟨lp,ij,gp,np,vp⟩:=hp.aD;obtain ⟨lq,nl,gq,nq,vq⟩:=hq.aD;have Ba:=yN ka (zW K);have Fq:=yN kb (zW K);have llp:lp.length<=40000000000:=xj (mS np vp Ba) hK;have llq:lq.length<=40000000000:=xj (mS nq vq Fq) hK;obtain ⟨o,mz,e3,ho,my,no,vo⟩:=atb h.atj h.lM h.lO h.fY ij nl gp gq (by omega) (by omega);obtain ⟨r,e4,hr⟩:=Cy h (decide (a<0) !=decide (b<0)) ⟨mz,ho,my,no,vo⟩ (K:=K+K) (by rw [vp,vq,wj];exact tj Ba Fq) (by omega)
 rw [vp,vq,YK] at hr;have bY:=hr;obtain ⟨s',w',rfl,jE⟩:=hr;obtain ⟨l',iK⟩:=jE.aD;refine ⟨_,bY,fun tm t2 t3 t4=>?_⟩;have qP:∀x y:Bool,IT true (some (x==y))=some (.bool (x !=y)):=fun x y=>by cases x<;>cases y<;>rfl
 simp only [go_sem,ya,lJ,ay,t2,t3,t4,cr,aY,u1.af,u2.af,e1,e2,ij.af,nl.af,nW,qP,e3,ho.af,ho.shut,e4,bm,cR,cS,cr,yi,lE iK,dz iK]
def alm {a b:Int} {m:Nat} (h:a.natAbs*b.natAbs=m):a*b=if (decide (a<0)==decide (b<0))=true then (m:Int) else 0-(m:Int):=by
 have:=YK (a:=a) (b:=b)
 rw [h] at this;unfold cg at this
 cases hd:(decide (a<0)==decide (b<0)) with
 | true=>simp only [bne,hd,yK,Bool.false_eq_true,y8] at this;exact this.symm
 | false=>simp only [bne,hd,yG,xh] at this;rw [yF (by decide)];omega
def qC (h:Nu P L) {v w:AV} {a b:Int} {K:Nat} (hv:cC v a) (hw:cC w b) (ka:Bd K a) (kb:Bd K b) (hK:K<=40000000000):∃r,ae P L 100 [v,w] r/\cC r (a*b):=by
 obtain ⟨s1,w1,rfl,h1⟩:=hv;obtain ⟨s2,w2,rfl,h2⟩:=hw;obtain ⟨l1,u1⟩:=h1.aD;obtain ⟨l2,u2⟩:=h2.aD;obtain ⟨r,hr,tail⟩:=ap9 h h1 h2 ka kb hK;have fin:∀tm,aj tm 2= .ptr 0 0->aj tm 3= .ptr 1 0->aj tm 4= .ptr 2 0->
   D P L (.seq (bE lJ.body) (bE (ay lJ.body))) ⟨[(0,.agg [aa s1,w1]),(1,.agg [aa s2,w2])],[],0,0⟩=some (.normal,⟨tm,[(2,.cells true true true 2 [.int .i64 0,.ab]),(1,.cells true true true 2 [aa s2,w2]),(0,.cells true true true 2 [aa s1,w1])],3,0⟩)->ae P L 100 [.agg [aa s1,w1],.agg [aa s2,w2]] r:=fun tm t2 t3 t4 e=>by
  unfold ae;rw [au h.Np];show fX [.cell 4 2 true] (D P L (.seq (bE lJ.body) (.seq (bE (ay lJ.body)) (ay (ay lJ.body)))) ⟨[(0,.agg [aa s1,w1]),(1,.agg [aa s2,w2])],[],0,0⟩)=_
  rw [Bv,e,gQ];exact tail tm t2 t3 t4
 rcases h1 with ⟨rfl,rfl,a1,a2⟩ | ⟨e,l,rfl,ga,na,va,sa,a1⟩
 ·rcases h2 with ⟨rfl,rfl,b1,b2⟩ | ⟨e,l,rfl,gb,nb,vb,sb,b1⟩
  ·have f1:=SO h a1 a2;have f2:=SO h b1 b2;have f3:=LV (P:=P) (f:=D P L) h.lO (x:=s1.natAbs) (y:=s2.natAbs) (by omega) (by omega);obtain ⟨m,hm⟩:∃m,s1.natAbs*s2.natAbs=m:=⟨_,rfl⟩;rw [hm] at f3;have mX:=alm hm;by_cases gZ:m<=9223372036854775807
   ·rw [wk (by omega),yO (by omega)] at f3;rw [show (uc 0)=AV.int .u64 0 from rfl] at f3;by_cases hs:(decide (s1<0)==decide (s2<0))=true
    ·rw [yL hs] at mX;refine ⟨.agg [aa (m:Int),.ab],?_,by rw [mX];exact cV.nG (by omega) (by omega)⟩
     unfold ae;rw [au h.Np]
     simp only [go_sem,ya,yb,lJ,aG,pV,fV,dK,HM,nW,aZ,yd,bX,f1,f2,f3,show (m:Int)<=9223372036854775807 by omega,hs,LU,wrap64 (n:=(m:Int)) (by omega) (by omega),pN];rfl
    ·rw [yF hs] at mX;refine ⟨.agg [aa (0-(m:Int)),.ab],?_,by rw [mX];exact cV.nG (by omega) (by omega)⟩
     unfold ae;rw [au h.Np]
     simp only [go_sem,ya,yb,lJ,aG,pV,fV,dK,HM,nW,aZ,yd,bX,f1,f2,f3,show (m:Int)<=9223372036854775807 by omega,hs,LU,wrap64 (n:=(m:Int)) (by omega) (by omega),wrap64 (n:=0-(m:Int)) (by omega) (by omega),pN];rfl
   ·by_cases pD:m/18446744073709551616=0
    ·rw [pD,yO (by omega)] at f3;rw [show (uc 0)=AV.int .u64 0 from rfl] at f3;refine ⟨r,fin _ ?_ ?_ ?_ (by simp only [go_sem,ya,yb,bE,ay,lJ,aG,fV,dK,aZ,yd,bX,f1,f2,f3,show ¬(m:Int)<=9223372036854775807 by omega]<;>rfl),hr⟩<;>simp only [go_sem,ya]
    ·obtain ⟨q,hq⟩:∃q,q=m/18446744073709551616:=⟨_,rfl⟩;rw [<-hq] at f3 pD;refine ⟨r,fin _ ?_ ?_ ?_ (by simp only [go_sem,ya,yb,bE,ay,lJ,aG,fV,dK,aZ,yd,bX,f1,f2,f3,show ¬(q:Int)=0 by omega]<;>rfl),hr⟩<;>simp only [go_sem,ya]
  ·refine ⟨r,fin _ ?_ ?_ ?_ (by simp only [go_sem,ya,yb,bE,ay,lJ,aG,fV,mI,dK,aZ,yd,bX]<;>rfl),hr⟩<;>simp only [go_sem,ya]
 ·refine ⟨r,fin _ ?_ ?_ ?_ (by simp only [go_sem,ya,yb,bE,ay,lJ,aG,u2.pu,u2.one,mI,dK,aZ,yd,bX]<;>rfl),hr⟩<;>simp only [go_sem,ya]
end
end
section
open Go (IntKind)
def ajg {a b:Int} {q r:Nat} (hb:0<b) (h:q=a.natAbs/b.natAbs) (h2:r=a.natAbs%b.natAbs):
  (cg (decide (a<0)) r<0->a/b=cg (decide (a<0)) q-1/\a%b=cg (decide (a<0)) r+b)/\(¬cg (decide (a<0)) r<0->a/b=cg (decide (a<0)) q/\a%b=cg (decide (a<0)) r):=by
 have eU:=xO a.natAbs b.natAbs;have a6:r<b.natAbs:=by rw [h2];exact xv _ (by omega)
 unfold cg;by_cases h0:a<0
 ·simp only [h0,yo,xh];constructor
  ·intro h3;refine (uH hb).2 ⟨?_,by omega,by omega⟩
   grind
  ·intro h3;refine (uH hb).2 ⟨?_,by omega,by omega⟩
   grind
 ·grind
section
variable {P:aI} {L:Lib}
def aqa (h:Nu P L) {s1 s2:Int} {w1 w2:AV} {a b:Int} {K:Nat} (ha:cV s1 w1 a) (hb:cV s2 w2 b) (dH:0<b) (ka:Bd K a) (kb:Bd K b) (hK:K<=30000000000):
  ∃q r,cC q (a/b)/\cC r (a%b)/\∀tm,aj tm 2= .ptr 0 0->aj tm 3= .ptr 1 0->aj tm 4= .ptr 2 0->aj tm 5= .ptr 3 0->fX [.cell 4 2 true,.cell 5 2 true] (D P L (ay (ay lK.body)) ⟨tm,[(3,.cells true true true 2 [.int .i64 0,.ab]),(2,.cells true true true 2 [.int .i64 0,.ab]),(1,.cells true true true 2 [aa s2,w2]),(0,.cells true true true 2 [aa s1,w1])],4,0⟩)=some (.aq [q,r]):=by
 obtain ⟨l1,u1⟩:=ha.aD;obtain ⟨l2,u2⟩:=hb.aD;obtain ⟨p,e1,hp⟩:=sI h ha;obtain ⟨q,e2,hq⟩:=sI h hb;have cO:cC (.agg [aa s2,w2]) b:=⟨s2,w2,rfl,hb⟩;obtain ⟨lp,ij,_⟩:=hp.aD;obtain ⟨lq,nl,_⟩:=hq.aD;have Ba:=yN ka (zW K);have Fq:=yN kb (zW K);obtain ⟨dq,dr,e3,CX,iI⟩:=adL h.toWd hp hq (by omega) Ba Fq (by omega);obtain ⟨Kb,uq,_⟩:=CX.aD;obtain ⟨lr1,ur,_⟩:=iI.aD;have hqk:a.natAbs/b.natAbs<18446744073709551616^K:=wc (ve _ _) Ba;have hrk:a.natAbs%b.natAbs<18446744073709551616^K:=wc (ybA _ _) Ba;have hqb:a.natAbs/b.natAbs<2^K:=wc (ve _ _) ka;have U8:a.natAbs%b.natAbs<2^K:=wc (ybA _ _) ka;obtain ⟨f1,f2⟩:=ajg (a:=a) dH rfl rfl;generalize a.natAbs/b.natAbs=Q at*
 generalize a.natAbs%b.natAbs=R at*
 obtain ⟨vq,e4,hvq⟩:=Cy h (decide (a<0)) CX hqk (by omega);obtain ⟨vr,e5,JT⟩:=Cy h (decide (a<0)) iI hrk (by omega);have hsq:Bd K (cg (decide (a<0)) Q):=by unfold Bd cg;split<;>omega
 have hsr:Bd K (cg (decide (a<0)) R):=by unfold Bd cg;split<;>omega
 generalize cg (decide (a<0)) R=Rs at*
 have e6:=EK h JT;have adS:=hvq;have adT:=JT;obtain ⟨s3,w3,rfl,h3⟩:=hvq;obtain ⟨s4,w4,rfl,h4⟩:=JT;obtain ⟨l3,u3⟩:=h3.aD;obtain ⟨l4,u4⟩:=h4.aD;by_cases h0:Rs<0
 ·obtain ⟨g1,g2⟩:=f1 h0;have jo:Bd (K+1) 1:=Bd.mono (k:=1) (by unfold Bd;decide) (by omega)
  obtain ⟨o1,o2⟩:=Cx h (z:=1) (by decide) (by decide);obtain ⟨vq2,e7,SP⟩:=adQ h adS o2 (K:=K+1) (hsq.mono (by omega)) jo (by omega);obtain ⟨vr2,e8,SQ⟩:=I2 h adT cO (K:=K+1) (hsr.mono (by omega)) (kb.mono (by omega)) (by omega);rw [<-g1] at SP;rw [<-g2] at SQ;have mr:cA Rs<0:=by unfold cA;rw [yL h0];decide
  have k1:=SP;have k2:=SQ;obtain ⟨s5,w5,rfl,h5⟩:=SP;obtain ⟨s6,w6,rfl,h6⟩:=SQ;obtain ⟨l5,u5⟩:=h5.aD;obtain ⟨l6,u6⟩:=h6.aD;refine ⟨_,_,k1,k2,fun tm t2 t3 t4 t5=>?_⟩;simp only [go_sem,ya,yb,lK,ay,t2,t3,t4,t5,QX,QY,Qp,P7,QZ,wB,aG,cr,aY,u1.af,u2.af,e1,e2,ij.af,nl.af,e3,uq.af,uq.bT,ur.af,ur.bT,e4,e5,bm,cR,cS,cr,yi,dz u3,dz u4,u3.af,u4.af,e6,mr,o1,e7,e8,cR,cS,cr,yi,dz u5,dz u6,abh u5 u6]
 ·obtain ⟨g1,g2⟩:=f2 h0;have mr:¬cA Rs<0:=by unfold cA;rw [yF h0];split<;>decide
  refine ⟨_,_,by rw [g1];exact adS,by rw [g2];exact adT,fun tm t2 t3 t4 t5=>?_⟩
  simp only [go_sem,ya,yb,lK,ay,t2,t3,t4,t5,QX,QY,Qp,P7,QZ,wB,aG,cr,aY,u1.af,u2.af,e1,e2,ij.af,nl.af,e3,uq.af,uq.bT,ur.af,ur.bT,e4,e5,bm,cR,cS,cr,yi,dz u3,dz u4,u4.af,e6,mr,abh u3 u4]
def SR (h:Nu P L) {v w:AV} {a b:Int} {K:Nat} (hv:cC v a) (hw:cC w b) (dH:0<b) (ka:Bd K a) (kb:Bd K b) (hK:K<=30000000000):∃q r,ae P L 164 [v,w] (.aq [q,r])/\cC q (a/b)/\cC r (a%b):=by
 obtain ⟨s1,w1,rfl,h1⟩:=hv;obtain ⟨s2,w2,rfl,h2⟩:=hw;obtain ⟨l1,u1⟩:=h1.aD;obtain ⟨l2,u2⟩:=h2.aD;obtain ⟨q,r,hq,hr,tail⟩:=aqa h h1 h2 dH ka kb hK;have fin:∀tm,aj tm 2= .ptr 0 0->aj tm 3= .ptr 1 0->aj tm 4= .ptr 2 0->aj tm 5= .ptr 3 0->
   D P L (.seq (bE lK.body) (bE (ay lK.body))) ⟨[(0,.agg [aa s1,w1]),(1,.agg [aa s2,w2])],[],0,0⟩=some (.normal,⟨tm,[(3,.cells true true true 2 [.int .i64 0,.ab]),(2,.cells true true true 2 [.int .i64 0,.ab]),(1,.cells true true true 2 [aa s2,w2]),(0,.cells true true true 2 [aa s1,w1])],4,0⟩)->ae P L 164 [.agg [aa s1,w1],.agg [aa s2,w2]] (.aq [q,r]):=fun tm t2 t3 t4 t5 e=>by
  unfold ae;rw [au h.SN];show fX [.cell 4 2 true,.cell 5 2 true] (D P L (.seq (bE lK.body) (.seq (bE (ay lK.body)) (ay (ay lK.body)))) ⟨[(0,.agg [aa s1,w1]),(1,.agg [aa s2,w2])],[],0,0⟩)=_
  rw [Bv,e,gQ];exact tail tm t2 t3 t4 t5
 rcases h1 with ⟨rfl,rfl,a1,a2⟩ | ⟨e,l,rfl,ga,na,va,sa,a1⟩
 ·rcases h2 with ⟨rfl,rfl,b1,b2⟩ | ⟨e,l,rfl,gb,nb,vb,sb,b1⟩
  ·by_cases hm:s1= -9223372036854775808
   ·refine ⟨q,r,fin _ ?_ ?_ ?_ ?_ (by simp only [go_sem,ya,yb,bE,ay,lK,aG,fV,dK,aZ,yd,bX,hm]<;>rfl),hq,hr⟩<;>simp only [go_sem,ya]
   ·obtain ⟨f1,f2⟩:=ai6 (a:=s1) dH;have bV:s1.tdiv s2=0\/(s1.tdiv s2).natAbs<=s1.natAbs:= .inr (Int.natAbs_tdiv_le_natAbs s1 s2);have cw:=Int.tmod_lt_of_pos s1 dH;have eZ:=Int.lt_tmod_of_pos s1 dH;by_cases h0:s1.tmod s2<0
    ·obtain ⟨g1,g2⟩:=f1 h0;rw [g1,g2];refine ⟨.agg [aa (s1.tdiv s2-1),.ab],.agg [aa (s1.tmod s2+s2),.ab],?_,cV.nG (by omega) (by omega),cV.nG (by omega) (by omega)⟩;unfold ae;rw [au h.SN]
     simp only [go_sem,ya,yb,lK,aG,pV,fV,dK,aZ,yd,bX,hm,eV _ _ _ (show s2≠0 by omega),fo _ _ _ (show s2≠0 by omega),h0,wrap64 (n:=s1.tdiv s2) (by omega) (by omega),wrap64 (n:=s1.tdiv s2-1) (by omega) (by omega),wrap64 (n:=s1.tmod s2+s2) (by omega) (by omega),pN];rfl
    ·obtain ⟨g1,g2⟩:=f2 h0;rw [g1,g2];refine ⟨.agg [aa (s1.tdiv s2),.ab],.agg [aa (s1.tmod s2),.ab],?_,cV.nG (by omega) (by omega),cV.nG (by omega) (by omega)⟩;unfold ae;rw [au h.SN]
     simp only [go_sem,ya,yb,lK,aG,pV,fV,dK,aZ,yd,bX,hm,eV _ _ _ (show s2≠0 by omega),fo _ _ _ (show s2≠0 by omega),h0,wrap64 (n:=s1.tdiv s2) (by omega) (by omega),pN];rfl
  ·refine ⟨q,r,fin _ ?_ ?_ ?_ ?_ (by simp only [go_sem,ya,yb,bE,ay,lK,aG,fV,mI,dK,aZ,yd,bX]<;>rfl),hq,hr⟩<;>simp only [go_sem,ya]
 ·refine ⟨q,r,fin _ ?_ ?_ ?_ ?_ (by simp only [go_sem,ya,yb,bE,ay,lK,aG,u2.pu,u2.one,mI,dK,aZ,yd,bX]<;>rfl),hq,hr⟩<;>simp only [go_sem,ya]
end
end
section
open Go (IntKind)
section
variable {P:aI} {L:Lib}
def adU (h:Nu P L) {v w:AV} {a b:Int} {K:Nat} (hv:cC v a) (hw:cC w b) (dH:0<b) (ka:Bd K a) (kb:Bd K b) (hK:K<=30000000000):∃r,ae P L 148 [v,w] r/\cC r (a/b):=by
 have e1:=EK h hw;obtain ⟨q,r,e2,hq,hr⟩:=SR h hv hw dH ka kb hK;have e3:cA b=1:=by unfold cA;rw [yF (by omega),yF (by omega)]
 rw [e3] at e1;have bV:=hq;obtain ⟨s1,w1,rfl,h1⟩:=hv;obtain ⟨s2,w2,rfl,h2⟩:=hw;obtain ⟨s3,w3,rfl,h3⟩:=hq;obtain ⟨s4,w4,rfl,h4⟩:=hr;obtain ⟨l1,u1⟩:=h1.aD;obtain ⟨l2,u2⟩:=h2.aD;obtain ⟨l3,u3⟩:=h3.aD;obtain ⟨l4,u4⟩:=h4.aD;refine ⟨_,?_,bV⟩;unfold ae;rw [au h.atv];simp only [go_sem,ya,yb,Sc,ybk,yp,aG,u1.pu,u1.af,u1.one,u2.pu,u2.af,u2.one,yd,aY,e1,e2,pL,cR,cS,cr,yi,lE u3,dz u3,dz u4]
def aqb (h:Nu P L) (G:Nat) {K:Nat} (hK:K<=30000000000) {o1 o2:AV}:
  ∀k s,(∃(x y:Nat) (s1 s2:Int) (w1 w2:AV),bf [2,3,4] s=⟨[(2,.ptr 0 0),(3,.ptr 1 0),(4,.ptr 2 0)],[(2,.cells true true true 2 [o1,o2]),(1,.cells true true true 2 [aa s2,w2]),(0,.cells true true true 2 [aa s1,w1])],3,0⟩/\cV s1 w1 x/\cV s2 w2 y/\Bd K x/\Bd K y/\Nat.gcd x y=G/\y=k)->
   ∃ex s',D P L (.loop [2,3,4] Hr) s=some (ex,s')/\∃tm s1 w1 c1,s'=⟨tm,[(2,.cells true true true 2 [o1,o2]),(1,c1),(0,.cells true true true 2 [aa s1,w1])],3,0⟩/\ex= .exit 0/\aj tm 2= .ptr 0 0/\aj tm 4= .ptr 2 0/\cV s1 w1 G:=by
 intro dq sq;generalize bQ:bf [2,3,4] sq=s0;revert bQ s0 sq dq;apply eO;rintro k s ⟨x,y,s1,s2,w1,w2,rfl,h1,h2,k1,k2,hG,rfl⟩;obtain ⟨l1,u1⟩:=h1.aD;obtain ⟨l2,u2⟩:=h2.aD;have i1:cC (.agg [aa s1,w1]) (x:Int):=⟨s1,w1,rfl,h1⟩;have i2:cC (.agg [aa s2,w2]) (y:Int):=⟨s2,w2,rfl,h2⟩;have e1:=EK h i2;by_cases jr:y=0
 ·right
  subst jr;rw [show cA ((0:Nat):Int)=0 from rfl] at e1;simp only [go_sem,ya,Hr,yo,yK,cr,aY,u2.af,e1];obtain rfl:x=G:=by rw [<-hG,Nat.gcd_zero_right]
  exact ⟨_,_,rfl,by simp,_,s1,w1,_,rfl,rfl,by simp only [go_sem,ya],by simp only [go_sem,ya],h1⟩
 ·left
  have e3:cA (y:Int)=1:=by unfold cA;rw [yF (by omega),yF (by omega)]
  rw [e3] at e1;obtain ⟨q,r,e2,hq,hr⟩:=SR h i1 i2 (by omega) k1 k2 hK;obtain ⟨s3,w3,rfl,h3⟩:=hq;obtain ⟨s4,w4,rfl,h4⟩:=hr;obtain ⟨l3,u3⟩:=h3.aD;obtain ⟨l4,u4⟩:=h4.aD;have a6:=xv x (show 0<y by omega);have kr:Bd K ((x%y:Nat):Int):=k2.le (by omega);simp only [go_sem,ya,yb,Hr,QX,QY,Qp,P7,QZ,wB,vN,yp,yG,aG,cr,aY,u1.af,u2.af,e1,e2,pL,cr,yi,dz u2,dz u3,dz u4];refine ⟨_,x%y,rfl,a6,y,x%y,s2,s4,w2,w4,?_,h2,h4,k2,kr,by rw [<-hG];exact alb x y jr,rfl⟩
  simp only [go_sem,ya,yb,ao]
def adV (h:Nu P L) {v w:AV} {a b:Int} {K:Nat} (hv:cC v a) (hw:cC w b) (ka:Bd K a) (kb:Bd K b) (hK:K<=30000000000):∃r,ae P L 130 [v,w] r/\cC r (wI a b:Nat):=by
 obtain ⟨va,e1,ha⟩:=adP h hv ka (by omega);obtain ⟨vb,e2,hb⟩:=adP h hw kb (by omega);obtain ⟨s1,w1,rfl,h1⟩:=hv;obtain ⟨s2,w2,rfl,h2⟩:=hw;obtain ⟨s3,w3,rfl,h3⟩:=ha;obtain ⟨s4,w4,rfl,h4⟩:=hb;obtain ⟨l1,u1⟩:=h1.aD;obtain ⟨l2,u2⟩:=h2.aD;obtain ⟨l3,u3⟩:=h3.aD;obtain ⟨l4,u4⟩:=h4.aD;have iD:∃s w,ae P L 130 [.agg [aa s1,w1],.agg [aa s2,w2]] (.agg [aa s,w])/\cV s w (wI a b:Nat):=by
  unfold ae;rw [au h.atw];simp only [go_sem,ya,yb,Sa,aG,u1.pu,u1.af,u1.one,u2.pu,u2.af,u2.one,cr,aY,e1,e2,bm,cr,yi,dz u3,dz u4,yd];generalize hq:D P L (.loop [2,3,4] Hr) _=q;obtain ⟨ex,s,rfl,tm,s5,w5,c1,rfl,rfl,t2,t4,h5⟩:=bI hq (aqb (P:=P) (L:=L) h (wI a b) (K:=K) hK (o1:= .int .i64 0) (o2:= .ab) b.natAbs) ⟨a.natAbs,b.natAbs,s3,s4,w3,w4,by simp only [go_sem,ya,yb,ao],h3,h4,ka,kb,rfl,rfl⟩;obtain ⟨l5,u5⟩:=h5.aD;refine ⟨s5,w5,?_,h5⟩;simp only [go_sem,ya,yb,ao,t2,t4,cR,cS,cr,yi,lE u5,dz u5]
 obtain ⟨s,w,e,hn⟩:=iD;exact ⟨_,e,s,w,rfl,hn⟩
end
def bW (v:AV) (r:Rat):Prop:=∃s1 w1 s2 w2,v= .agg [aa s1,w1,aa s2,w2]/\cV s1 w1 r.num/\cV s2 w2 (r.den:Int)
def Hq (k:Nat) (r:Rat):Prop:=Bd k r.num/\Bd k (r.den:Int)
def Kw {a b:Int} (hb:0<b):(xT a b).num=a/(wI a b:Nat)/\((xT a b).den:Int)=b/(wI a b:Nat):=by
 constructor
 ·rw [yaD,Int.sign_eq_one_of_pos hb,Int.one_mul,ybl]
 ·rw [yaE,yF (by omega),ybl]
  grind
def Hq.divInt {k:Nat} {a b:Int} (hb:0<b) (ka:Bd k a) (kb:Bd k b):Hq k (xT a b):=by
 obtain ⟨h1,h2⟩:=Kw (a:=a) hb;refine ⟨ka.le ?_,kb.le ?_⟩
 ·rw [h1,vO (Int.gcd_dvd_left a b)];exact ve _ _
 ·rw [h2,vO (Int.gcd_dvd_right a b)];exact ve _ _
section
def DG {tm:Env} {a b x y z w:AV} {r:List (Nat×Nat×X)} (h1:br a=true) (h2:br b=true):fG tm [x,y,z,w] 0 2 [a,b] r=fill tm [a,b,z,w] r:=by
 rw [jb (by rfl) (by simp) (by simp [bL,h1,h2])];rfl
def DH {tm:Env} {a b x y z w:AV} {r:List (Nat×Nat×X)} (h1:br a=true) (h2:br b=true):fG tm [x,y,z,w] 2 2 [a,b] r=fill tm [x,y,a,b] r:=by
 rw [jb (by rfl) (by simp) (by simp [bL,h1,h2])];rfl
def jR {s t:Int} {v w:AV} {l m:List Nat} (hv:bG v l) (hw:bG w m) (hp:Hp) (ct id:Nat) (a b x y:AV):fM hp ct id 0 4 [.int .i64 s,v,.int .i64 t,w] (some (.cells true true true 4 [a,b,x,y]))=some (.aq [],bh hp id (.cells true true true 4 [.int .i64 s,v,.int .i64 t,w]),ct):=by
 rw [nV (by rfl) (by simp) (by simp [bL,hv.one,hw.one,Hd])];simp [aK,hv.pu,hw.pu,over,D5]
def kD {s t:Int} {v w:AV} {l m:List Nat} (hv:bG v l) (hw:bG w m) (hp:Hp):result hp (.agg [aa s,v,aa t,w])=some (.agg [aa s,v,aa t,w]):=by
 rcases hv with ⟨rfl,_⟩ | ⟨e,rfl⟩<;>rcases hw with ⟨rfl,_⟩ | ⟨e',rfl⟩<;>rfl
variable {P:aI} {L:Lib}
structure Fr' (P:aI) (L:Lib):Prop extends Nu P L where
 atx:Has P L 101 ml
 U9:Has P L 69 Uw
 aty:Has P L 111 R7
 h98:Has P L 98 Oe
 atz:Has P L 108 R6
 atA:Has P L 102 R5
 h74:Has P L 74 JK
 Va:Has P L 50 Up
 nm:Has P L 49 c49
 h73:Has P L 73 Uz
 h70:Has P L 70 Ux
 h71:Has P L 71 Uy
 atB:Has P L 149 Sd
def abi (h:Fr' P L) {s1 s2:Int} {w1 w2:AV} {a b:Int} {K:Nat} (h1:cV s1 w1 a) (h2:cV s2 w2 b) (dH:0<b) (ka:Bd K a) (kb:Bd K b) (hK:K<=30000000000):
  ∃r,bW r (xT a b)/\∀tm,aj tm 2= .ptr 0 0->aj tm 3= .ptr 1 0->aj tm 4= .ptr 2 0->fX [.cell 4 4 true] (D P L (ay (ay ml.body)) ⟨tm,[(2,.cells true true true 4 [.int .i64 0,.ab,.int .i64 0,.ab]),(1,.cells true true true 2 [aa s2,w2]),(0,.cells true true true 2 [aa s1,w1])],3,0⟩)=some r:=by
 have hv:cC (.agg [aa s1,w1]) a:=⟨s1,w1,rfl,h1⟩;have hw:cC (.agg [aa s2,w2]) b:=⟨s2,w2,rfl,h2⟩;obtain ⟨p1,p2⟩:=Kw (a:=a) dH;have hgp:=He (a:=a) dH;have hgk:Bd K ((wI a b:Nat):Int):=kb.le (by
  have:=Int.gcd_le_natAbs_right a (show b≠0 by omega)
  omega)
 obtain ⟨g,e2,hg⟩:=adV h.toNu hv hw ka kb hK;obtain ⟨q1,e4,eT⟩:=adU h.toNu hv hg hgp ka hgk hK;obtain ⟨q2,e5,Fk⟩:=adU h.toNu hw hg hgp kb hgk hK;rw [<-p1] at eT;rw [<-p2] at Fk;obtain ⟨s3,w3,rfl,h3⟩:=hg;obtain ⟨s4,w4,rfl,h4⟩:=eT;obtain ⟨s5,w5,rfl,h5⟩:=Fk;obtain ⟨l1,u1⟩:=h1.aD;obtain ⟨l2,u2⟩:=h2.aD;obtain ⟨l3,u3⟩:=h3.aD;obtain ⟨l4,u4⟩:=h4.aD;obtain ⟨l5,u5⟩:=h5.aD;by_cases fw:w2= .ab/\s2=1
 ·obtain ⟨rfl,rfl⟩:=fw;have jo:b=1:=by
   rcases h2 with ⟨_,h,_⟩ | ⟨_,_,h,_⟩
   ·exact h.symm
   ·cases h
  subst jo;rw [Int.gcd_one] at p1 p2;have p1:(xT a 1).num=a:=by rw [p1];exact Int.ediv_one a
  refine ⟨.agg [aa s1,w1,aa 1,.ab],⟨s1,w1,1,.ab,rfl,by rw [p1];exact h1,by rw [p2];exact h2⟩,fun tm t2 t3 t4=>?_⟩
  have un:=rJ;simp only [go_sem,ya,ml,ay,t2,t3,t4,u1.one,cr,aZ,yd,bX,fV,dK,DG,DH,jR u1 un,cR,cS,yi,gF,kD u1 un]
 ·refine ⟨.agg [aa s4,w4,aa s5,w5],⟨s4,w4,s5,w5,rfl,h4,h5⟩,fun tm t2 t3 t4=>?_⟩;rcases u2 with ⟨rfl,_⟩ | ⟨e,rfl⟩
  ·simp only [go_sem,ya,yb,ml,ay,t2,t3,t4,aG,u1.af,cr,aY,aZ,yd,bX,fV,dK,show ¬s2=1 from fun e=>fw ⟨rfl,e⟩,e2,e4,e5,bm,cR,cS,cr,yi,dz u3,u3.af,u4.one,u5.one,DG,DH,jR u4 u5,gF,kD u4 u5]
  ·simp only [go_sem,ya,yb,ml,ay,t2,t3,t4,aG,u1.af,cr,aY,aZ,yd,bX,mI,dK,e2,e4,e5,bm,cR,cS,cr,yi,dz u3,u3.af,u4.one,u5.one,DG,DH,jR u4 u5,gF,kD u4 u5]
def SS (h:Fr' P L) {v w:AV} {a b:Int} {K:Nat} (hv:cC v a) (hw:cC w b) (dH:b≠0) (ka:Bd K a) (kb:Bd K b) (hK:K<=30000000000):∃r,ae P L 101 [v,w] r/\bW r (xT a b):=by
 have e1:=EK h.toNu hw;have ef:=hv;have Vb:=hw;obtain ⟨s1,w1,rfl,h1⟩:=hv;obtain ⟨s2,w2,rfl,h2⟩:=hw;obtain ⟨l1,u1⟩:=h1.aD;obtain ⟨l2,u2⟩:=h2.aD;have fin:∀r t1 t2 v1 v2 tm,(∀tm,aj tm 2= .ptr 0 0->aj tm 3= .ptr 1 0->aj tm 4= .ptr 2 0->fX [.cell 4 4 true] (D P L (ay (ay ml.body)) ⟨tm,[(2,.cells true true true 4 [.int .i64 0,.ab,.int .i64 0,.ab]),(1,.cells true true true 2 [aa t2,v2]),(0,.cells true true true 2 [aa t1,v1])],3,0⟩)=some r)->aj tm 2= .ptr 0 0->aj tm 3= .ptr 1 0->aj tm 4= .ptr 2 0->
   D P L (.seq (bE ml.body) (bE (ay ml.body))) ⟨[(0,.agg [aa s1,w1]),(1,.agg [aa s2,w2])],[],0,0⟩=some (.normal,⟨tm,[(2,.cells true true true 4 [.int .i64 0,.ab,.int .i64 0,.ab]),(1,.cells true true true 2 [aa t2,v2]),(0,.cells true true true 2 [aa t1,v1])],3,0⟩)->ae P L 101 [.agg [aa s1,w1],.agg [aa s2,w2]] r:=fun r t1 t2 v1 v2 tm tail k2 k3 k4 e=>by
  unfold ae;rw [au h.atx];show fX [.cell 4 4 true] (D P L (.seq (bE ml.body) (.seq (bE (ay ml.body)) (ay (ay ml.body)))) ⟨[(0,.agg [aa s1,w1]),(1,.agg [aa s2,w2])],[],0,0⟩)=_
  rw [Bv,e,gQ];exact tail tm k2 k3 k4
 by_cases hn:b<0
 ·obtain ⟨n1,e2,lR⟩:=EL h.toNu ef ka (by omega);obtain ⟨n2,e3,dT⟩:=EL h.toNu Vb kb (by omega);obtain ⟨s3,w3,rfl,h3⟩:=lR;obtain ⟨s4,w4,rfl,h4⟩:=dT;obtain ⟨l3,u3⟩:=h3.aD;obtain ⟨l4,u4⟩:=h4.aD;obtain ⟨r,hr,tail⟩:=abi h h3 h4 (by omega) ka.neg kb.neg hK;rw [Rat.neg_divInt_neg] at hr;have hs:cA b<0:=by unfold cA;rw [yL hn];decide
  refine ⟨r,fin r _ _ _ _ _ tail ?_ ?_ ?_ (by simp only [go_sem,ya,yb,ml,bE,ay,hs,aG,u1.pu,u1.af,u1.one,u2.pu,u2.af,u2.one,cr,aY,e1,e2,e3,bm,dz u3,dz u4]<;>rfl),hr⟩<;>simp only [go_sem,ya]
 ·obtain ⟨r,hr,tail⟩:=abi h h1 h2 (by omega) ka kb hK;have hs:¬cA b<0:=by unfold cA;rw [yF hn];split<;>decide
  refine ⟨r,fin r _ _ _ _ _ tail ?_ ?_ ?_ (by simp only [go_sem,ya,yb,ml,bE,ay,hs,aG,u1.pu,u1.one,u2.pu,u2.af,u2.one,cr,aY,e1]<;>rfl),hr⟩<;>simp only [go_sem,ya]
end
end
section
open Go (IntKind)
def Hq.mono {k m:Nat} {r:Rat} (h:Hq k r) (hk:k<=m):Hq m r:=⟨h.1.mono hk,h.2.mono hk⟩
def Hq.neg {k:Nat} {r:Rat} (h:Hq k r):Hq k (-r):=⟨h.1.neg,h.2⟩
def add_eq (a b:Rat):a+b=xT (a.num*b.den+b.num*a.den) ((a.den:Int)*b.den):=by
 rw [Rat.add_def',<-yak,vd]
def mul_eq (a b:Rat):a*b=xT (a.num*b.num) ((a.den:Int)*b.den):=by
 rw [Rat.mul_def',<-yak,vd]
def Lf (a:Rat):0<(a.den:Int):=by have:=a.den_pos;omega
def Dn (a b:Rat):0<(a.den:Int)*b.den:=Int.mul_pos (Lf a) (Lf b)
def Bd.SU {k:Nat} {a b:Int} (ha:Bd k a) (hb:Bd k b):Bd (k+1) (a+b):=by
 have:=ha.add hb
 grind
def Hq.add {k m:Nat} {a b:Rat} (ha:Hq k a) (hb:Hq m b):Hq (k+m+1) (a+b):=by
 rw [add_eq];refine Hq.divInt (Dn a b) ?_ ((ha.2.mul hb.2).mono (by omega));exact (ha.1.mul hb.2).SU ((hb.1.mul ha.2).mono (by omega))
def Hq.mul {k m:Nat} {a b:Rat} (ha:Hq k a) (hb:Hq m b):Hq (k+m) (a*b):=by
 rw [mul_eq];exact Hq.divInt (Dn a b) (ha.1.mul hb.1) (ha.2.mul hb.2)
def Hq.sub {k m:Nat} {a b:Rat} (ha:Hq k a) (hb:Hq m b):Hq (k+m+1) (a-b):=by
 rw [tU];exact ha.add hb.neg
def Hq.inv {k:Nat} {a:Rat} (ha:Hq k a):Hq k a⁻¹:=by
 have h1:(a⁻¹).num.natAbs<=a.den:=by
  rw [Rat.num_inv,yaC]
  grind
 refine ⟨ha.2.le (by simpa using h1),?_⟩;unfold Bd;rw [Rat.den_inv]
 split
 ·have h2:=ha.2;unfold Bd at h2
  simp_all
 ·exact ha.1
def Hq.div {k m:Nat} {a b:Rat} (ha:Hq k a) (hb:Hq m b):Hq (k+m) (a/b):=by
 rw [Rat.div_def];exact ha.mul hb.inv
def sJ (a b:Rat):Int:=if a<b then -1 else if a=b then 0 else 1
def anA (a b:Rat):cA (a.num*b.den-b.num*a.den)=sJ a b:=by
 unfold cA sJ;by_cases h:a<b
 ·rw [yL h]
  have:=(ybB a b).1 h
  grind
 ·rw [yF h];have h1:¬a.num*b.den<b.num*a.den:=fun e=>h ((ybB a b).2 e)
  rw [yF (by omega)];by_cases h2:a=b
  ·grind
  ·rw [yF h2,yF (by have:¬a.num*b.den=b.num*a.den:=fun e=>h2 (Rat.eq_iff_mul_eq_mul.2 e);omega)]
def LH (a:Rat) (h:a.den=1):a=(a.num:Rat):=by
 have:=Rat.num_divInt_den a
 rw [h] at this;rw [<-this];exact (Rat.ext (by simp [yaD]) (by simp [yaE]))
def Ag (a b c d:AV) (r:List AV):eY 2 true (List.drop 2 (a::b::c::d::r))=some (.agg [c,d]):=rfl
def oV (a b:AV) (r:List AV):eY 2 true (a::b::r)=some (.agg [a,b]):=rfl
section
variable {P:aI} {L:Lib}
def I3 (h:Fr' P L) {v:AV} {z:Int} (hv:cC v z):∃r,ae P L 111 [v] r/\bW r (z:Rat):=by
 obtain ⟨o1,o2⟩:=Cx h.toNu (z:=1) (by decide) (by decide);obtain ⟨s1,w1,rfl,h1⟩:=hv;obtain ⟨l1,u1⟩:=h1.aD;have un:=rJ;refine ⟨.agg [aa s1,w1,aa 1,.ab],?_,s1,w1,1,.ab,rfl,h1,.inl ⟨rfl,rfl,(by show (-9223372036854775808:Int)<=1;decide),(by show (1:Int)<9223372036854775808;decide)⟩⟩
 unfold ae;rw [au h.aty];simp only [go_sem,ya,yb,R7,aG,u1.pu,u1.one,cr,o1,bm,DG,DH,jR u1 un,cR,cS,yi,gF,kD u1 un]
def CY (h:Fr' P L) {z:Int} (h1: -9223372036854775808<=z) (h2:z<9223372036854775808):∃r,ae P L 69 [aa z] r/\bW r (z:Rat):=by
 obtain ⟨o1,o2⟩:=Cx h.toNu h1 h2;obtain ⟨r,e,hr⟩:=I3 h o2;have bY:=hr;obtain ⟨s1,w1,s2,w2,rfl,k1,k2⟩:=hr;obtain ⟨l1,u1⟩:=k1.aD;obtain ⟨l2,u2⟩:=k2.aD;refine ⟨_,?_,bY⟩;unfold ae;rw [au h.U9];simp only [go_sem,ya,yb,Uw,aG,aY,o1,e,bm,jR u1 u2,cR,cS,yi,gF,kD u1 u2]
def Vc (h:Fr' P L) {v:AV} {a:Rat} (hv:bW v a):ae P L 98 [v] (.bool (decide (a.den=1))):=by
 obtain ⟨s1,w1,s2,w2,rfl,h1,h2⟩:=hv;obtain ⟨l1,u1⟩:=h1.aD;unfold ae;rw [au h.h98];rcases h2 with ⟨rfl,rfl,b1,b2⟩ | ⟨e,l,rfl,gb,nb,vb,sb,b1⟩
 ·have e:decide (((a.den:Nat):Int)=1)=decide (a.den=1):=by simp;omega
  simp only [go_sem,ya,yb,Oe,aG,u1.pu,u1.one,aZ,yd,arS,acL,fV,dK,e]
 ·have e:decide (a.den=1)=false:=yX (by omega);rw [e];simp only [go_sem,ya,yb,Oe,aG,u1.pu,u1.one,aZ,yd,acL,mI,dK]
def atD (h:Fr' P L) {v:AV} {a:Rat} (hv:bW v a):ae P L 108 [v] (aa (cA a.num)):=by
 obtain ⟨s1,w1,s2,w2,rfl,h1,h2⟩:=hv;obtain ⟨l1,u1⟩:=h1.aD;obtain ⟨l2,u2⟩:=h2.aD;have e1:=EK h.toNu ⟨s1,w1,rfl,h1⟩;unfold ae;rw [au h.atz];simp only [go_sem,ya,yb,R6,aG,u1.pu,u1.af,u1.one,u2.pu,u2.one,aZ,yd,oV,aY,e1]
def atE (h:Fr' P L) {v:AV} {a:Rat} {K:Nat} (hv:bW v a) (ka:Hq K a) (hK:K<=30000000000):∃r,ae P L 102 [v] r/\bW r (-a):=by
 obtain ⟨s1,w1,s2,w2,rfl,h1,h2⟩:=hv;obtain ⟨l1,u1⟩:=h1.aD;obtain ⟨l2,u2⟩:=h2.aD;obtain ⟨n,e1,hn⟩:=EL h.toNu ⟨s1,w1,rfl,h1⟩ ka.1 (by omega);obtain ⟨s3,w3,rfl,h3⟩:=hn;obtain ⟨l3,u3⟩:=h3.aD;refine ⟨.agg [aa s3,w3,aa s2,w2],?_,s3,w3,s2,w2,rfl,h3,h2⟩;unfold ae;rw [au h.atA];simp only [go_sem,ya,yb,R5,aG,u1.pu,u1.af,u1.one,u2.pu,u2.one,u3.one,aZ,yd,oV,Ag,aY,e1,bm,DG,DH,jR u3 u2,cR,cS,yi,gF,kD u3 u2]
def Kc (h:Fr' P L) {v w:AV} {a b:Rat} {K:Nat} (hv:bW v a) (hw:bW w b) (ka:Hq K a) (kb:Hq K b) (hK:K<=10000000000):∃r,ae P L 74 [v,w] r/\bW r (a+b):=by
 have i1:=Vc h hv;have i2:=Vc h hw;obtain ⟨s1,w1,s2,w2,rfl,h1,h2⟩:=hv;obtain ⟨s3,w3,s4,w4,rfl,h3,h4⟩:=hw;obtain ⟨l1,u1⟩:=h1.aD;obtain ⟨l2,u2⟩:=h2.aD;obtain ⟨l3,u3⟩:=h3.aD;obtain ⟨l4,u4⟩:=h4.aD;have n1:cC (.agg [aa s1,w1]) a.num:=⟨s1,w1,rfl,h1⟩;have n2:cC (.agg [aa s2,w2]) a.den:=⟨s2,w2,rfl,h2⟩;have n3:cC (.agg [aa s3,w3]) b.num:=⟨s3,w3,rfl,h3⟩;have n4:cC (.agg [aa s4,w4]) b.den:=⟨s4,w4,rfl,h4⟩;by_cases ri:a.den=1/\b.den=1
 ·obtain ⟨d1,d2⟩:=ri;obtain ⟨p,e1,hp⟩:=I2 h.toNu n1 n3 ka.1 kb.1 (by omega);obtain ⟨r,e2,hr⟩:=I3 h hp;have he:((a.num+b.num:Int):Rat)=a+b:=by
   rw [Rat.intCast_add,<-LH a d1,<-LH b d2]
  rw [he] at hr;have bY:=hr;obtain ⟨s5,w5,rfl,h5⟩:=hp;obtain ⟨s6,w6,s7,w7,rfl,h6,h7⟩:=hr;obtain ⟨l5,u5⟩:=h5.aD;obtain ⟨l6,u6⟩:=h6.aD;obtain ⟨l7,u7⟩:=h7.aD;refine ⟨_,?_,bY⟩;rw [d1] at i1;rw [d2] at i2;unfold ae;rw [au h.h74];simp only [go_sem,ya,yb,JK,aG,u1.pu,u1.af,u1.one,u2.pu,u2.af,u2.one,u3.pu,u3.af,u3.one,u4.pu,u4.af,u4.one,aZ,yd,gF,oV,aY,i1,i2,e1,u5.af,e2,bm,jR u6 u7,cR,cS,yi,gF,kD u6 u7]
 ·obtain ⟨p1,e1,bA⟩:=qC h.toNu n1 n4 ka.1 kb.2 (by omega);obtain ⟨p2,e2,iV⟩:=qC h.toNu n3 n2 kb.1 ka.2 (by omega);obtain ⟨p3,e3,hp3⟩:=I2 h.toNu bA iV (ka.1.mul kb.2) (kb.1.mul ka.2) (by omega);obtain ⟨p4,e4,hp4⟩:=qC h.toNu n2 n4 ka.2 kb.2 (by omega);obtain ⟨r,e5,hr⟩:=SS h hp3 hp4 (by have:=Dn a b;omega) ((ka.1.mul kb.2).SU (kb.1.mul ka.2)) ((ka.2.mul kb.2).mono (by omega)) (by omega);rw [<-add_eq] at hr;have bY:=hr;obtain ⟨s5,w5,rfl,h5⟩:=bA;obtain ⟨s6,w6,rfl,h6⟩:=iV;obtain ⟨s7,w7,rfl,h7⟩:=hp3;obtain ⟨s8,w8,rfl,h8⟩:=hp4;obtain ⟨s9,w9,s10,w10,rfl,h9,il⟩:=hr;obtain ⟨l5,u5⟩:=h5.aD;obtain ⟨l6,u6⟩:=h6.aD;obtain ⟨l7,u7⟩:=h7.aD;obtain ⟨l8,u8⟩:=h8.aD;obtain ⟨l9,u9⟩:=h9.aD;obtain ⟨l10,OJ⟩:=il.aD;refine ⟨_,?_,bY⟩;unfold ae;rw [au h.h74];by_cases d1:a.den=1
  ·rw [d1] at i1;rw [yX (fun d2=>ri ⟨d1,d2⟩)] at i2;simp only [go_sem,ya,yb,JK,aG,u1.pu,u1.af,u1.one,u2.pu,u2.af,u2.one,u3.pu,u3.af,u3.one,u4.pu,u4.af,u4.one,aZ,yd,gF,oV,Ag,aY,i1,i2,e1,e2,u5.af,u6.af,e3,e4,u7.af,u8.af,e5,bm,jR u9 OJ,cR,cS,yi,gF,kD u9 OJ]
  ·rw [yX d1] at i1;simp only [go_sem,ya,yb,JK,aG,u1.pu,u1.af,u1.one,u2.pu,u2.af,u2.one,u3.pu,u3.af,u3.one,u4.pu,u4.af,u4.one,aZ,yd,gF,oV,Ag,aY,i1,e1,e2,u5.af,u6.af,e3,e4,u7.af,u8.af,e5,bm,jR u9 OJ,cR,cS,yi,gF,kD u9 OJ]
def Kd (h:Fr' P L) {v w:AV} {a b:Rat} {K:Nat} (hv:bW v a) (hw:bW w b) (ka:Hq K a) (kb:Hq K b) (hK:K<=10000000000):∃r,ae P L 50 [v,w] r/\bW r (a-b):=by
 obtain ⟨n,e1,hn⟩:=atE h hw kb (by omega);obtain ⟨r,e2,hr⟩:=Kc h hv hn ka kb.neg hK;rw [<-tU] at hr;have bY:=hr;obtain ⟨s1,w1,s2,w2,rfl,h1,h2⟩:=hv;obtain ⟨s3,w3,s4,w4,rfl,h3,h4⟩:=hw;obtain ⟨s5,w5,s6,w6,rfl,h5,h6⟩:=hn;obtain ⟨s7,w7,s8,w8,rfl,h7,h8⟩:=hr;obtain ⟨l1,u1⟩:=h1.aD;obtain ⟨l2,u2⟩:=h2.aD;obtain ⟨l3,u3⟩:=h3.aD;obtain ⟨l4,u4⟩:=h4.aD;obtain ⟨l5,u5⟩:=h5.aD;obtain ⟨l6,u6⟩:=h6.aD;obtain ⟨l7,u7⟩:=h7.aD;obtain ⟨l8,u8⟩:=h8.aD;refine ⟨_,?_,bY⟩;unfold ae;rw [au h.Va];simp only [go_sem,ya,yb,Up,aG,u1.pu,u1.af,u1.one,u2.pu,u2.af,u2.one,u3.pu,u3.af,u3.one,u4.pu,u4.af,u4.one,u5.af,u6.af,gF,aY,e1,e2,bm,jR u7 u8,cR,cS,yi,gF,kD u7 u8]
def rq (h:Fr' P L) {v w:AV} {a b:Rat} {K:Nat} (hv:bW v a) (hw:bW w b) (ka:Hq K a) (kb:Hq K b) (hK:K<=10000000000):∃r,ae P L 49 [v,w] r/\bW r (a*b):=by
 obtain ⟨s1,w1,s2,w2,rfl,h1,h2⟩:=hv;obtain ⟨s3,w3,s4,w4,rfl,h3,h4⟩:=hw;obtain ⟨l1,u1⟩:=h1.aD;obtain ⟨l2,u2⟩:=h2.aD;obtain ⟨l3,u3⟩:=h3.aD;obtain ⟨l4,u4⟩:=h4.aD;obtain ⟨p1,e1,bA⟩:=qC h.toNu (v:= .agg [aa s1,w1]) (w:= .agg [aa s3,w3]) ⟨s1,w1,rfl,h1⟩ ⟨s3,w3,rfl,h3⟩ ka.1 kb.1 (by omega);obtain ⟨p2,e2,iV⟩:=qC h.toNu (v:= .agg [aa s2,w2]) (w:= .agg [aa s4,w4]) ⟨s2,w2,rfl,h2⟩ ⟨s4,w4,rfl,h4⟩ ka.2 kb.2 (by omega);obtain ⟨r,e3,hr⟩:=SS h bA iV (by have:=Dn a b;omega) (ka.1.mul kb.1) (ka.2.mul kb.2) (by omega);rw [<-mul_eq] at hr;have bY:=hr;obtain ⟨s5,w5,rfl,h5⟩:=bA;obtain ⟨s6,w6,rfl,h6⟩:=iV;obtain ⟨s7,w7,s8,w8,rfl,h7,h8⟩:=hr;obtain ⟨l5,u5⟩:=h5.aD;obtain ⟨l6,u6⟩:=h6.aD;obtain ⟨l7,u7⟩:=h7.aD;obtain ⟨l8,u8⟩:=h8.aD;refine ⟨_,?_,bY⟩;unfold ae;rw [au h.nm]
 simp only [go_sem,ya,yb,c49,aG,u1.pu,u1.af,u1.one,u2.pu,u2.af,u2.one,u3.pu,u3.af,u3.one,u4.pu,u4.af,u4.one,u5.af,u6.af,aZ,yd,oV,Ag,aY,e1,e2,e3,bm,jR u7 u8,cR,cS,yi,gF,kD u7 u8]
def m73 (h:Fr' P L) {v:AV} {a:Rat} {K:Nat} (hv:bW v a) (h0:a≠0) (ka:Hq K a) (hK:K<=10000000000):∃r,ae P L 73 [v] r/\bW r a⁻¹:=by
 obtain ⟨s1,w1,s2,w2,rfl,h1,h2⟩:=hv;obtain ⟨l1,u1⟩:=h1.aD;obtain ⟨l2,u2⟩:=h2.aD;obtain ⟨r,e1,hr⟩:=SS h (v:= .agg [aa s2,w2]) (w:= .agg [aa s1,w1]) ⟨s2,w2,rfl,h2⟩ ⟨s1,w1,rfl,h1⟩ (fun e=>h0 (Rat.num_eq_zero.1 e)) ka.2 ka.1 (by omega);rw [<-Rat.inv_def] at hr;have bY:=hr;obtain ⟨s7,w7,s8,w8,rfl,h7,h8⟩:=hr;obtain ⟨l7,u7⟩:=h7.aD;obtain ⟨l8,u8⟩:=h8.aD;refine ⟨_,?_,bY⟩;unfold ae;rw [au h.h73];simp only [go_sem,ya,yb,Uz,aG,u1.pu,u1.af,u1.one,u2.pu,u2.af,u2.one,aZ,yd,oV,Ag,aY,e1,bm,jR u7 u8,cR,cS,yi,gF,kD u7 u8]
def m70 (h:Fr' P L) {v w:AV} {a b:Rat} {K:Nat} (hv:bW v a) (hw:bW w b) (h0:b≠0) (ka:Hq K a) (kb:Hq K b) (hK:K<=10000000000):∃r,ae P L 70 [v,w] r/\bW r (a/b):=by
 obtain ⟨n,e1,hn⟩:=m73 h hw h0 kb hK;obtain ⟨r,e2,hr⟩:=rq h hv hn ka kb.inv hK;have bY:=hr;obtain ⟨s1,w1,s2,w2,rfl,h1,h2⟩:=hv;obtain ⟨s3,w3,s4,w4,rfl,h3,h4⟩:=hw;obtain ⟨s5,w5,s6,w6,rfl,h5,h6⟩:=hn;obtain ⟨s7,w7,s8,w8,rfl,h7,h8⟩:=hr;obtain ⟨l1,u1⟩:=h1.aD;obtain ⟨l2,u2⟩:=h2.aD;obtain ⟨l3,u3⟩:=h3.aD;obtain ⟨l4,u4⟩:=h4.aD;obtain ⟨l5,u5⟩:=h5.aD;obtain ⟨l6,u6⟩:=h6.aD;obtain ⟨l7,u7⟩:=h7.aD;obtain ⟨l8,u8⟩:=h8.aD;refine ⟨_,?_,bY⟩;unfold ae;rw [au h.h70];simp only [go_sem,ya,yb,Ux,aG,u1.pu,u1.af,u1.one,u2.pu,u2.af,u2.one,u3.pu,u3.af,u3.one,u4.pu,u4.af,u4.one,u5.af,u6.af,gF,aY,e1,e2,bm,jR u7 u8,cR,cS,yi,gF,kD u7 u8]
def m71 (h:Fr' P L) {v w:AV} {a b:Rat} {K:Nat} (hv:bW v a) (hw:bW w b) (ka:Hq K a) (kb:Hq K b) (hK:K<=10000000000):ae P L 71 [v,w] (aa (sJ a b)):=by
 obtain ⟨s1,w1,s2,w2,rfl,h1,h2⟩:=hv;obtain ⟨s3,w3,s4,w4,rfl,h3,h4⟩:=hw;obtain ⟨l1,u1⟩:=h1.aD;obtain ⟨l2,u2⟩:=h2.aD;obtain ⟨l3,u3⟩:=h3.aD;obtain ⟨l4,u4⟩:=h4.aD;obtain ⟨p1,e1,bA⟩:=qC h.toNu (v:= .agg [aa s1,w1]) (w:= .agg [aa s4,w4]) ⟨s1,w1,rfl,h1⟩ ⟨s4,w4,rfl,h4⟩ ka.1 kb.2 (by omega);obtain ⟨p2,e2,iV⟩:=qC h.toNu (v:= .agg [aa s3,w3]) (w:= .agg [aa s2,w2]) ⟨s3,w3,rfl,h3⟩ ⟨s2,w2,rfl,h2⟩ kb.1 ka.2 (by omega);have e3:=adR h.toNu bA iV (ka.1.mul kb.2) (kb.1.mul ka.2) (by omega);rw [anA] at e3;obtain ⟨s5,w5,rfl,h5⟩:=bA;obtain ⟨s6,w6,rfl,h6⟩:=iV;obtain ⟨l5,u5⟩:=h5.aD;obtain ⟨l6,u6⟩:=h6.aD;unfold ae;rw [au h.h71];simp only [go_sem,ya,yb,Uy,aG,u1.pu,u1.af,u1.one,u2.pu,u2.af,u2.one,u3.pu,u3.af,u3.one,u4.pu,u4.af,u4.one,u5.af,u6.af,aZ,yd,oV,Ag,aY,e1,e2,e3,bm]
def adW (h:Fr' P L) {v:AV} {a:Rat} {K:Nat} (hv:bW v a) (ka:Hq K a) (hK:K<=10000000000):∃r,ae P L 149 [v] r/\cC r a.floor:=by
 obtain ⟨s1,w1,s2,w2,rfl,h1,h2⟩:=hv;obtain ⟨l1,u1⟩:=h1.aD;obtain ⟨l2,u2⟩:=h2.aD;obtain ⟨q,r,e1,hq,hr⟩:=SR h.toNu (v:= .agg [aa s1,w1]) (w:= .agg [aa s2,w2]) ⟨s1,w1,rfl,h1⟩ ⟨s2,w2,rfl,h2⟩ (Lf a) ka.1 ka.2 (by omega);rw [<-Rat.floor_def] at hq;have bV:=hq;obtain ⟨s3,w3,rfl,h3⟩:=hq;obtain ⟨s4,w4,rfl,h4⟩:=hr;obtain ⟨l3,u3⟩:=h3.aD;obtain ⟨l4,u4⟩:=h4.aD;refine ⟨_,?_,bV⟩;unfold ae;rw [au h.atB];simp only [go_sem,ya,yb,Sd,aG,u1.pu,u1.af,u1.one,u2.pu,u2.af,u2.one,aZ,yd,oV,Ag,aY,e1,pL,cR,cS,yi,lE u3,dz u3,dz u4]
end
end
section
open Go (IntKind)
def pX:List AV->Option (List Nat)
 | []=>some []
 | .int .u64 (.ofNat d)::r=>bif yI d 18446744073709551616 then (match pX r with | some l=>some (d::l) | none=>none) else none
 | _::_=>none
def qD:List Nat->Nat
 | []=>0
 | a::r=>a+18446744073709551616*qD r
def Ah:List Nat->Bool
 | []=>false
 | [a]=> !yt a 0
 | _::r=>Ah r
def LI:List AV->Option AV
 | [.agg [.int .i64 s,.ab]]=>bif Ac s then some (.str (aW s)) else none
 | [.agg [.int .i64 s,.aH _ n cs]]=>
  match pX cs with
  | some l=>
   bif yt l.length n&&(yB n 4000000000&&(Ah l&&yB 9223372036854775808 (qD l))) then
    match s with
    | .ofNat 1=>some (.str (ax (qD l)))
    | .negSucc 0=>some (.str (45::ax (qD l)))
    | _=>none
   else none
  | none=>none
 | _=>none
end
section
open Go (IntKind)
def Xc:∀{l:List Nat},lo 18446744073709551616 l->pX (l.map uc)=some l
 | [],_=>rfl
 | a::l,h=>by
  have h1:=h a (by simp);have h2:=Xc (l:=l) (fun x hx=>h x (by simp [hx]));show (bif yI a 18446744073709551616 then (match pX (l.map uc) with | some l=>some (a::l) | none=>none) else none)=_
  rw [ji h1,h2];rfl
def Qq:∀l:List Nat,qD l=bv 18446744073709551616 l
 | []=>rfl
 | a::l=>by simp only [qD,bv,Qq l]
def YL:∀{l:List Nat},l≠[]->gm l->Ah l=true
 | [],h,_=>absurd rfl h
 | [a],_,h=>by
  have:a≠0:=fun e=>by
   subst e;have h:dM [0]=[0]:=h;simp [dM] at h
  simp [Ah,gR this]
 | a::b::r,_,h=>by
  have h1:gm (b::r):=by
   have h:dM (a::b::r)=a::b::r:=h;rw [dM] at h
   grind
  have:=YL (l:=b::r) (by simp) h1
  simpa [Ah] using this
section
variable {P:aI} {L:Lib}
structure Tx (P:aI) (L:Lib):Prop extends Fr' P L where
 Fs:L.pure 99=some LI
 atF:L.pure 175=some Hl
 adX:L.pure 152=some KI
 SV:L.pure 153=some Kx
 SW:L.pure 154=some HZ
 SX:L.pure 109=some MA
 SY:Has P L 155 MO
 adY:Has P L 172 MS
 atG:Has P L 151 MN
 atH:Has P L 107 MG
 Vd:Has P L 46 N7
 adZ:Has P L 110 MH
 OK:Has P L 62 Ob
def Ve (h:Tx P L) {v:AV} {z:Int} {K:Nat} (hv:cC v z) (hz:Bd K z) (hK:K<=4000000000):ae P L 99 [v] (.str (aW z)):=by
 obtain ⟨s,w,rfl,hn⟩:=hv;unfold ae;rw [iM h.Fs];rcases hn with ⟨rfl,rfl,h1,h2⟩ | ⟨e,l,rfl,g,n,hb,hs,h1⟩
 ·show (bif Ac s then some (AV.str (aW s)) else none)=_
  have:Ac s=true:=by
   cases s with
   | ofNat k=>exact ji (by have:(Int.ofNat k)=(k:Int):=rfl;omega)
   | negSucc k=>exact ji (by omega)
  grind
 ·have iW:l≠[]:=fun e=>by subst e;simp [bv] at hb;omega
  have om:l.length<=4000000000:=xj (mS n hb (yN hz (zW K))) hK
  show (match pX (l.map uc) with
   | some l'=>bif yt l'.length l.length&&(yB l.length 4000000000&&(Ah l'&&yB 9223372036854775808 (qD l'))) then (match s with | .ofNat 1=>some (AV.str (ax (qD l'))) | .negSucc 0=>some (.str (45::ax (qD l'))) | _=>none) else none
   | none=>none)=_
  rw [Xc g];simp only [Nat.beq_refl,yz om,YL iW n,Qq,hb,yz h1,wB,yy];by_cases h0:z<0
  ·rw [yL h0] at hs;subst hs;rw [lZ h0];rfl
  ·rw [yF h0] at hs;subst hs;obtain ⟨m,rfl⟩:∃m:Nat,z=m:=⟨z.toNat,by omega⟩;rfl
def RT (r:Rat):List Nat:=aW r.num++(if r.den=1 then [] else 47::ax r.den)
def GU {z:Int} {k:Nat} (h:Bd k z):(aW z).length<=k+1:=by
 have h1:∀m:Nat,m<2^k->(ax m).length<=max k 1:=fun m hm=>by
  cases k with
  | zero=>
       have:m=0:=by simpa using hm
       subst this;decide
  | succ k=>
   rw [Nat.max_eq_left (by omega)];exact oP (k:=k) (yN hm (uh (by decide) _))
 by_cases h0:z<0
 ·rw [lZ h0];unfold Bd at h
  grind
 ·obtain ⟨m,rfl⟩:∃m:Nat,z=m:=⟨z.toNat,by omega⟩
  have:=h1 m (by unfold Bd at h;simpa using h)
  rw [jI];omega
def m46 (h:Tx P L) {v:AV} {a:Rat} {K:Nat} (hv:bW v a) (ka:Hq K a) (hK:K<=4000000000):ae P L 46 [v] (.str (RT a)):=by
 have i1:=Vc h.toFr' hv;obtain ⟨s1,w1,s2,w2,rfl,h1,h2⟩:=hv;obtain ⟨l1,u1⟩:=h1.aD;obtain ⟨l2,u2⟩:=h2.aD;have e1:=Ve h (v:= .agg [aa s1,w1]) ⟨s1,w1,rfl,h1⟩ ka.1 hK;have e2:=Ve h (v:= .agg [aa s2,w2]) ⟨s2,w2,rfl,h2⟩ ka.2 hK;have b1:=GU ka.1;have b2:=GU ka.2;rw [jI] at e2 b2;unfold ae RT;rw [au h.Vd];by_cases hd:a.den=1
 ·rw [yL hd,wC];rw [hd] at i1;simp only [go_sem,ya,yb,N7,aG,u1.pu,u1.af,u1.one,u2.pu,u2.af,u2.one,gF,aY,i1,aZ,yd,oV,e1]
 ·rw [yF hd];rw [yX hd] at i1;have hc:aW a.num++47::ax a.den=(aW a.num++[47])++ax a.den:=by simp
  rw [hc]
  simp only [go_sem,ya,yb,N7,aG,u1.pu,u1.af,u1.one,u2.pu,u2.af,u2.one,gF,aY,i1,aZ,yd,oV,Ag,e1,e2,fS (a:=aW a.num) (b:=[47]) (by simp;omega),fS (a:=aW a.num++[47]) (b:=ax a.den) (by simp;omega)]
end
end
section
open Go (IntKind)
def atI {n:Nat} (h:n<9223372036854775808):binOp .and (.int .i64 (n:Int)) (.int .i64 1)=some (.int .i64 ((n%2:Nat):Int)):=by
 show some (AV.int .i64 (IntKind.wrap .i64 ((xG 64 (n:Int)&&&xG 64 1).toNat:Int)))=_
 rw [show xG 64 (n:Int)=vY 64 n from BitVec.ofInt_natCast 64 n,show xG 64 1=vY 64 1 from rfl];rw [BitVec.toNat_and,vl,vl,show (1%2^64:Nat)=2^1-1 from rfl,Nat.and_two_pow_sub_one_eq_mod,wrapN (by omega)]
 grind
def atJ (n:Nat):binOp .shr (.int .i64 (n:Int)) (.int .u64 1)=some (.int .i64 ((n/2:Nat):Int)):=by
 show some (AV.int .i64 ((n:Int).fdiv (2^1)))=_
 grind
def Bd.pow {k:Nat} {z:Int} (h:Bd k z):∀e,Bd (k*e+1) (z^e)
 | 0=>by rw [tv,xE];unfold Bd;decide
 | e+1=>by
  have ih:=Bd.pow h e;rw [Int.pow_succ];exact (ih.mul h).mono (by rw [xx,yj];omega)
section
variable {P:aI} {L:Lib}
def aqc (h:Nu P L) (Np:True) {z:Int} {K k0:Nat} (hz:Bd K z) (hK:K*k0+1<=30000000000) {o1 o2:AV}:
  ∀m st,(∃(k i e:Nat) (s1 s2:Int) (w1 w2:AV),bf [1,2,4,5] st=⟨[(1,aa k),(2,.ptr 0 0),(4,.ptr 1 0),(5,.ptr 2 0)],[(2,.cells true true true 2 [aa s2,w2]),(1,.cells true true true 2 [o1,o2]),(0,.cells true true true 2 [aa s1,w1])],3,0⟩/\cV s1 w1 (z^i)/\cV s2 w2 (z^e)/\e+i*k=k0/\(0<k->i<=k0)/\k<9223372036854775808/\k=m)->
   ∃ex st',D P L (.loop [1,2,4,5] BI) st=some (ex,st')/\∃tm s2 w2 c0,st'=⟨tm,[(2,.cells true true true 2 [aa s2,w2]),(1,.cells true true true 2 [o1,o2]),(0,c0)],3,0⟩/\ex= .exit 0/\aj tm 4= .ptr 1 0/\aj tm 5= .ptr 2 0/\cV s2 w2 (z^k0):=by
 intro dq sq;generalize bQ:bf [1,2,4,5] sq=s0;revert bQ s0 sq dq;apply eO;rintro m st ⟨k,i,e,s1,s2,w1,w2,rfl,h1,h2,hk,hi,hkb,rfl⟩;obtain ⟨l1,u1⟩:=h1.aD;obtain ⟨l2,u2⟩:=h2.aD;by_cases TO:k=0
 ·right
  subst TO;rw [xE,yV] at hk;subst hk;simp only [go_sem,BI,show ¬(0:Int)<((0:Nat):Int) by omega];exact ⟨_,_,rfl,by simp,_,s2,w2,_,rfl,rfl,by simp only [go_sem,ya],by simp only [go_sem,ya],h2⟩
 ·left
  have bU:=hi (by omega);have he:e<=k0:=by omega
  have hik:i*1<=i*k:=yR i (by omega);have b1:Bd (K*k0+1) (z^i):=(hz.pow i).mono (by have:=yR K bU;omega);have b2:Bd (K*k0+1) (z^e):=(hz.pow e).mono (by have:=yR K he;omega);have n1:cC (.agg [aa s1,w1]) (z^i):=⟨s1,w1,rfl,h1⟩;have n2:cC (.agg [aa s2,w2]) (z^e):=⟨s2,w2,rfl,h2⟩;obtain ⟨p,e1,hp⟩:=qC h n2 n1 b2 b1 (by omega);obtain ⟨q,e2,hq⟩:=qC h n1 n1 b1 b1 (by omega);rw [<-Int.pow_add] at hp hq;obtain ⟨s3,w3,rfl,h3⟩:=hp;obtain ⟨s4,w4,rfl,h4⟩:=hq;obtain ⟨l3,u3⟩:=h3.aD;obtain ⟨l4,u4⟩:=h4.aD;have eU:=xO k 2;have Ke:=atI (n:=k) hkb;have Vf:=atJ k;have ayu:(i+i)*(k/2)=i*(2*(k/2)):=by rw [<-Nat.two_mul,xz 2 i,xk]
  by_cases atK:k%2=1
  ·rw [atK] at Ke eU;have qO:i*k=i*(2*(k/2))+i:=by
    conv=>lhs;rw [<-eU,xx,yj]
   by_cases mv:1<k
   ·simp only [go_sem,ya,BI,show (0:Int)<(k:Int) by omega,Ke,show ((1:Nat):Int)=1 from rfl,cr,aY,u1.af,u2.af,e1,bm,cr,yi,dz u3,dz u4,show (1:Int)<(k:Int) by omega,e2,Vf]
    exact ⟨_,k/2,rfl,by omega,k/2,i+i,e+i,s4,s3,w4,w3,by simp only [go_sem,ya,yb,ao],h4,h3,by omega,fun h0=>by have:=yR (i+i) h0;omega,by omega,rfl⟩
   ·have fw:e+i+i*(k/2)=k0:=by
     have h1:k/2=0:=by omega
     rw [h1] at qO ⊢;omega
    simp only [go_sem,ya,BI,show (0:Int)<(k:Int) by omega,Ke,show ((1:Nat):Int)=1 from rfl,cr,aY,u1.af,u2.af,e1,bm,cr,yi,dz u3,show ¬(1:Int)<(k:Int) by omega,Vf];exact ⟨_,k/2,rfl,by omega,k/2,i,e+i,s1,s3,w1,w3,by simp only [go_sem,ya,yb,ao],h1,h3,fw,fun h0=>by omega,by omega,rfl⟩
  ·have CM:k%2=0:=by omega
   rw [CM] at Ke eU;have qO:i*k=i*(2*(k/2)):=by
    conv=>lhs;rw [<-eU,yV]
   simp only [go_sem,ya,BI,show (0:Int)<(k:Int) by omega,Ke,show ((0:Nat):Int)=0 from rfl,vN,cr,aY,u1.af,bm,cr,yi,dz u4,show (1:Int)<(k:Int) by omega,e2,Vf]
   exact ⟨_,k/2,rfl,by omega,k/2,i+i,e,s4,s2,w4,w2,by simp only [go_sem,ya,yb,ao],h4,h2,by omega,fun h0=>by have:=yR (i+i) h0;omega,by omega,rfl⟩
def atL (h:Nu P L) (SY:Has P L 155 MO) {v:AV} {z:Int} {K k:Nat} (hv:cC v z) (hz:Bd K z) (hK:K*k+1<=30000000000) (hk:k<9223372036854775808):∃r,ae P L 155 [v,aa k] r/\cC r (z^k):=by
 obtain ⟨o1,o2⟩:=Cx h (z:=1) (by decide) (by decide);obtain ⟨s1,w1,rfl,h1⟩:=hv;obtain ⟨l1,u1⟩:=h1.aD;have un:=rJ;have iD:∃s w,ae P L 155 [.agg [aa s1,w1],aa k] (.agg [aa s,w])/\cV s w (z^k):=by
  unfold ae;rw [au SY];simp only [go_sem,ya,yb,MO,aG,u1.pu,u1.one,o1,bm,dz un];generalize hq:D P L (.loop [1,2,4,5] BI) _=q;obtain ⟨ex,st,rfl,tm,s5,w5,c1,rfl,rfl,t4,t5,h5⟩:=bI hq (aqc (P:=P) (L:=L) h trivial hz (k0:=k) hK (o1:= .int .i64 0) (o2:= .ab) k) ⟨k,1,0,s1,1,w1,.ab,by simp only [go_sem,ya,yb,ao],by rw [Int.pow_one];exact h1,.inl ⟨rfl,(tv z).symm,(by rw [tv];decide)⟩,by omega,fun h0=>h0,hk,rfl⟩
  obtain ⟨l5,u5⟩:=h5.aD;refine ⟨s5,w5,?_,h5⟩;simp only [go_sem,ya,yb,ao,t4,t5,cR,cS,cr,yi,lE u5,dz u5]
 obtain ⟨s,w,e,hn⟩:=iD;exact ⟨_,e,s,w,rfl,hn⟩
def G4:∀(l m:List Nat) (a:Nat),cN (l++m) a=(cN l a).bind (fun v=>cN m v)
 | [],m,a=>rfl
 | b::l,m,a=>by
  simp only [List.cons_append,cN]
  cases (yB 48 b&&yB b 57) with
  | true=>exact G4 l m _
  | false=>rfl
def aln:∀{l:List Nat} {a v:Nat},cN l 0=some v->cN l a=some (a*10^l.length+v):=by
 intro l
 suffices h:∀{l:List Nat} {a b v:Nat},cN l b=some v->b*10^l.length<=v/\cN l (a+b)=some (a*10^l.length+v) by
  intro a v hv
  have:=(h (a:=a) hv).2
  grind
 intro l
 induction l with
 | nil=>intro a b v h;simp [cN] at h ⊢;omega
 | cons c l ih=>
  intro a b v h;simp only [cN] at h ⊢
  cases hb:(yB 48 c&&yB c 57) with
  | false=>rw [hb] at h;cases h
  | true=>
   rw [hb] at h;obtain ⟨h1,h2⟩:=ih (a:=10*a) h;simp only [yu,xg]
   grind
def Qr:∀{l:List Nat} {v:Nat},cN l 0=some v->v<10^l.length:=by
 suffices h:∀{l:List Nat} {b v:Nat},cN l b=some v->v<(b+1)*10^l.length by
  grind
 intro l
 induction l with
 | nil=>intro b v h;simp [cN] at h ⊢;omega
 | cons c l ih=>
  intro b v h;simp only [cN] at h
  cases hb:(yB 48 c&&yB c 57) with
  | false=>rw [hb] at h;cases h
  | true=>
   simp only [Bool.and_eq_true] at hb;have hc:=Nat.le_of_ble_eq_true hb.2;have h2:=yU (10^l.length) (show 10*b+(c-48)+1<=10*(b+1) by omega)
   grind
def anB (SW:L.pure 154=some HZ) {f:cF} {s:List Nat} {v:Nat} (h0:0<s.length) (h1:s.length<=18) (hv:cN s 0=some v):bN P L f 154 [.str s]=some (.aq [.int .i64 v,.undef]):=by
 rw [iM SW];show (bif yI 0 s.length&&yB s.length 18 then (match cN s 0 with | some n=>some (AV.aq [.int .i64 n,.undef]) | none=>none) else none)=_
 rw [ji h0,yz h1,hv];rfl
end
end
end VE
