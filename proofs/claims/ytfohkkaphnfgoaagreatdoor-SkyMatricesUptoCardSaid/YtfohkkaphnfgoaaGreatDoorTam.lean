import Derived.Test.YtfohkkaphnfgoaaGreatDoorTal
import Derived.Test.YtfohkkaphnfgoaaGreatDoorTah
set_option linter.all false
set_option maxRecDepth 100000
open BitVec renaming ofInt→xN,ofInt_natCast→ue,ofNat→ud,toNat_ofNat→vl
open Bool renaming and_eq_true→ye,and_self→wv,false_and→wK,false_eq_true→yF
open Go renaming IntKind→yY
open Int renaming natCast_mul→xL,toNat_natCast→xp
open List renaming cons_append→xu,drop→xg,drop_eq_getElem_cons→yN,drop_left'→yat,filter_cons→yal,filter_eq_nil_iff→tA,length_cons→yC,length_reverse→tS,length_take→yQ,map_append→xq,mem_append→wH,mem_singleton→wT,nil_append→xM,range'→wc,range'_succ→vO,replicate→yG,reverse_cons→yab,set_append_right→tI,take_length→xQ,take_of_length_le→yp
open Nat renaming add_mul→xH,add_sub_cancel→tc,add_zero→y7,beq_refl→vm,ble_eq_true_of_le→yx,blt→yM,div_add_mod→xV,div_eq_of_lt→wC,div_le_self→vh,div_lt_iff_lt_mul→xU,eq_zero_or_pos→xt,le_of_lt→uB,le_refl→yr,lt_of_le_of_lt→wu,min_eq_left→xX,mod_add_div→yay,mod_eq_of_lt→yS,mod_lt→xz,mul_add→xA,mul_assoc→xr,mul_comm→xC,mul_div_mul_right→tO,mul_le_mul→xB,mul_le_mul_left→yU,mul_le_mul_right→yX,mul_lt_mul_of_pos_right→wM,mul_mod_mul_right→uk,mul_one→yh,mul_zero→xI,or_comm→ybE,pow_add→wB,pow_succ→xk,pow_zero→ybs,reduceAdd→yb,reduceEqDiff→ya,reduceLT→yt,reduceMul→xj,two_pow_pos→wE,zero_add→yd,zero_le→tq,zero_mul→ybr
namespace VE
section
open Go (IntKind)
def alm {b:Nat} {out:List Nat} {p j c t o x y Y bo ba:Nat} (ho:o=out.getD j 0) (hj:j<out.length) (ht:t=o+x*y+c) (hv:bo+p*c=ba+p*(x*Y)) (hb:bo=bv b out) (hp:p=b^j):
  bv b (out.set j (t%b))+p*b*(t/b)=ba+p*(x*(Y+0))+p*(x*y):=by
 have h1:=n7 (b:=b) (x:=t%b) hj;have h2:=MP p b t
 grind
section
variable {P:aG} {L:Lib}
def Sz {x y c:Nat} (hx:x<18446744073709551616) (hy:y<18446744073709551616) (hc:c<=1):
  (x+18446744073709551616*2-y-c)%18446744073709551616+y+c=x+18446744073709551616*(if y+c<=x then 0 else 1):=by grind
def ar7 (sJ:L.pure 173=some Be) {v w:AV} {x y:List Nat} (hv:bJ v x) (hw:bJ w y) (hx:lo 18446744073709551616 x) (hy:lo 18446744073709551616 y) (lx:x.length<=99999999999) (ly:y.length<=x.length) (hle:bv 18446744073709551616 y<=bv 18446744073709551616 x) {n:Nat} (hn:n=x.length):
  ∀k s,(∃(i c:Nat) (out:List Nat),aT [0,1,5,6,13,14] s=⟨[(0,v),(1,w),(5,.aC 0 0 n),(6,uc c),(13,aa x.length),(14,aa i)],[(0,.cells true true true 1 (out.map uc))],1,0⟩/\i+k=x.length/\out.length=n/\c<=1/\lo 18446744073709551616 out/\
    bv 18446744073709551616 out+bv 18446744073709551616 (y.take i)=bv 18446744073709551616 (x.take i)+18446744073709551616^i*c/\(∀m,i<=m->out.getD m 0=0))->
   ∃ex s',D P L (.loop [0,1,5,6,13,14] Fp) s=some (ex,s')/\∃tm out,s'=⟨tm,[(0,.cells true true true 1 (out.map uc))],1,0⟩/\ex= .exit 0/\ah tm 5= .aC 0 0 n/\out.length=n/\lo 18446744073709551616 out/\
    bv 18446744073709551616 out+bv 18446744073709551616 y=bv 18446744073709551616 x:=by
 intro dq sq;generalize bw:aT [0,1,5,6,13,14] sq=s0;revert bw s0 sq dq;apply dn;rintro k s ⟨i,c,out,rfl,hk,hlen,hc,bj,aR,gL⟩;by_cases hi:i<x.length
 ·left
  have hz:=gL i (yr _);have gx:=gO (show 0<18446744073709551616 by decide) hx i;have gy:=gO (show 0<18446744073709551616 by decide) hy i;have zn:=Sz gx gy hc;have lh:=alk (x:=x) (y:=y) (show i<out.length by omega) hz zn aR;have e1:=Tu (P:=P) (f:=D P L) sJ gx gy hc;have ex:=hv.aZ hi;generalize x.getD i 0=p at*
  have mZ:(if y.getD i 0+c<=p then 0 else 1)<=1:=by split<;>omega
  by_cases hj:i<y.length
  ·have ey:=hw.aZ hj;generalize y.getD i 0=q at*
   generalize (if q+c<=p then 0 else 1)=c1 at*
   simp only [go_sem,ya,xj,yh,Fp,hw.len,show (i:Int)<x.length by omega,show (i:Int)<y.length by omega,ex,ey,e1,cW 0 0 (show i<n by omega),yd,kM (l:=out) (o:=i) (by omega)]
   refine ⟨_,k-1,rfl,by omega,i+1,c1,_,?_,by omega,by simp [hlen],mZ,mv bj (x:=(p+18446744073709551616*2-q-c)%18446744073709551616) (i:=i) (by omega),lh,fun m hm=>?_⟩
   ·rw [wrap64 (by omega) (by omega)];simp only [go_sem,ya,yb,xj,an,ak hv.pu,ao _ hv.pu,ak hw.pu,ao _ hw.pu]<;>rfl
   ·rw [po (by omega)];exact gL m (by omega)
  ·have jW:y.getD i 0=0:=Tp (by omega);rw [jW] at lh e1 mZ;rw [show (uc 0)=AV.int .u64 0 from rfl] at e1;generalize (if 0+c<=p then 0 else 1)=c1 at*
   simp only [go_sem,ya,xj,yh,Fp,hw.len,show (i:Int)<x.length by omega,show ¬(i:Int)<y.length by omega,ex,e1,cW 0 0 (show i<n by omega),yd,kM (l:=out) (o:=i) (by omega)]
   refine ⟨_,k-1,rfl,by omega,i+1,c1,_,?_,by omega,by simp [hlen],mZ,mv bj (x:=(p+18446744073709551616*2-0-c)%18446744073709551616) (i:=i) (by omega),lh,fun m hm=>?_⟩
   ·rw [wrap64 (by omega) (by omega)];simp only [go_sem,ya,yb,xj,an,ak hv.pu,ao _ hv.pu,ak hw.pu,ao _ hw.pu]<;>rfl
   ·rw [po (by omega)];exact gL m (by omega)
 ·right
  have:i=x.length:=by omega
  subst this;rw [xQ,yp ly] at aR;have a7:=mA bj;rw [hlen,hn] at a7;simp only [go_sem,ya,Fp,show ¬(x.length:Int)<x.length by omega];refine ⟨_,_,rfl,by simp,_,out,rfl,rfl,by simp only [go_sem,ya],hlen,bj,?_⟩;rcases (show c=0\/c=1 by omega) with rfl | rfl
  ·omega
  ·omega
def afE (h:Has P L 159 O0) (mN:Has P L 166 BF) (sJ:L.pure 173=some Be) {v w:AV} {x y:List Nat} (hv:bJ v x) (hw:bJ w y) (hx:lo 18446744073709551616 x) (hy:lo 18446744073709551616 y) (ny:gY y) (lx:x.length<=99999999999) (hle:bv 18446744073709551616 y<=bv 18446744073709551616 x):
  ∃r out,ae P L 159 [v,w] r/\bJ r out/\lo 18446744073709551616 out/\gY out/\bv 18446744073709551616 out+bv 18446744073709551616 y=bv 18446744073709551616 x:=by
 have ly:y.length<=x.length:=by
  by_cases hh:x.length<y.length
  ·have:=NE (b:=18446744073709551616) (by decide) hx ny hh
   omega
  ·omega
 obtain ⟨n,hn⟩:∃n,n=x.length:=⟨_,rfl⟩;unfold ae;rw [ay h]
 simp only [go_sem,ya,yb,O0,hv.len,<-hn,DV (n:=n) _ (by omega)];generalize hq:D P L (.loop [0,1,5,6,13,14] Fp) _=q;obtain ⟨ex,s,rfl,tm,o,rfl,rfl,t5,hlen,bj,aR⟩:=bD hq (ar7 (P:=P) (L:=L) sJ hv hw hx hy lx ly hle hn x.length)
  ⟨0,0,yG n 0,by rw [hn];simp only [go_sem,ya,yb,an,ak hv.pu,ao _ hv.pu,ak hw.pu,ao _ hw.pu]<;>rfl,by omega,by simp,by omega,FH (by decide) n,by rw [FI];simp [bv],fun m _=>CV n m⟩
 have hf:=nj true o;rw [hlen] at hf;obtain ⟨r,e1,hr⟩:=BQ mN hf (by omega);refine ⟨r,_,?_,hr,A5 bj,A4 _,by rw [A3];exact aR⟩
 simp only [go_sem,yb,an,t5,BP _ (n:=n) (l:=o) hlen true,e1,hr.shut,hr.dw]
def anq {x y o c:Nat} (hx:x<18446744073709551616) (hy:y<18446744073709551616) (ho:o<18446744073709551616) (hc:c<18446744073709551616):
  o+x*y+c<18446744073709551616*18446744073709551616/\
  ((x*y%18446744073709551616+o+0)%18446744073709551616+c+0)%18446744073709551616=(o+x*y+c)%18446744073709551616/\
  x*y/18446744073709551616+(x*y%18446744073709551616+o+0)/18446744073709551616+((x*y%18446744073709551616+o+0)%18446744073709551616+c+0)/18446744073709551616=(o+x*y+c)/18446744073709551616:=by
 have h1:=xB (show x<=18446744073709551615 by omega) (show y<=18446744073709551615 by omega)
 grind
def ar8 (mQ:L.pure 143=some r9) (gT:L.pure 171=some nZ) {v w:AV} {x y:List Nat} (hv:bJ v x) (hw:bJ w y) (hx:lo 18446744073709551616 x) (hy:lo 18446744073709551616 y) (lx:x.length<=49999999999) (ly:y.length<=49999999999) {n i:Nat} (hn:n=x.length+y.length) (hi:i<x.length) {a:Nat} (ha:a<18446744073709551616) {bo:Nat}:
  ∀k s,(∃(j c:Nat) (out:List Nat),aT [1,5,6,7,8,20,21,22,27,28,29] s=⟨[(1,w),(5,.aC 0 0 n),(6,aa i),(7,uc a),(8,uc c),(20,v),(21,aa x.length),(22,aa i),(27,w),(28,aa y.length),(29,aa j)],[(0,.cells true true true 1 (out.map uc))],1,0⟩/\j+k=y.length/\out.length=n/\c<18446744073709551616/\lo 18446744073709551616 out/\
    bv 18446744073709551616 out+18446744073709551616^(i+j)*c=bo+18446744073709551616^i*(a*bv 18446744073709551616 (y.take j))/\(∀m,i+y.length<=m->out.getD m 0=0))->
   ∃ex s',D P L (.loop [1,5,6,7,8,20,21,22,27,28,29] Ji) s=some (ex,s')/\∃tm c out,s'=⟨tm,[(0,.cells true true true 1 (out.map uc))],1,0⟩/\ex= .exit 2/\ah tm 1=w/\ah tm 5= .aC 0 0 n/\ah tm 6=aa i/\ah tm 8=uc c/\ah tm 20=v/\ah tm 21=aa x.length/\ah tm 22=aa i/\out.length=n/\c<18446744073709551616/\lo 18446744073709551616 out/\
    bv 18446744073709551616 out+18446744073709551616^(i+y.length)*c=bo+18446744073709551616^i*(a*bv 18446744073709551616 y)/\(∀m,i+y.length<=m->out.getD m 0=0):=by
 intro dq sq;generalize bw:aT [1,5,6,7,8,20,21,22,27,28,29] sq=s0;revert bw s0 sq dq;apply dn;rintro k s ⟨j,c,out,rfl,hk,hlen,hc,bj,aR,gL⟩;by_cases hj:j<y.length
 ·left
  have Cd:(0:Nat)<18446744073709551616:=by decide
  have gy:=gO Cd hy j;have nR:=gO Cd bj (i+j);have ey:=hw.aZ hj;have e3:=zW (l:=out) (o:=i+j) (by omega);obtain ⟨q,hq⟩:∃q,q=y.getD j 0:=⟨_,rfl⟩;obtain ⟨o,ho⟩:∃o,o=out.getD (i+j) 0:=⟨_,rfl⟩;rw [<-hq] at gy ey;rw [<-ho] at nR e3;obtain ⟨m1,m2,m3⟩:=anq ha gy nR hc;have hpy:a*q<18446744073709551616*18446744073709551616:=by omega
  have f1:=NX (P:=P) (f:=D P L) mQ ha gy;have f2:=Dk (P:=P) (f:=D P L) gT (x:=a*q%18446744073709551616) (y:=o) (c:=0) (xz _ Cd) nR (by omega);have f3:=Dk (P:=P) (f:=D P L) gT (x:=(a*q%18446744073709551616+o+0)%18446744073709551616) (y:=c) (c:=0) (xz _ Cd) hc (by omega);obtain ⟨t,ht⟩:∃t,t=o+a*q+c:=⟨_,rfl⟩;have lh:=alm (b:=18446744073709551616) (out:=out) (p:=18446744073709551616^(i+j)) (j:=i+j) (c:=c) (t:=t) (x:=a) (y:=q) (Y:=0) (ba:=bo+18446744073709551616^i*(a*bv 18446744073709551616 (y.take j))) ho (by omega) ht (by simpa using aR) rfl rfl;rw [m2,<-ht] at f3;rw [<-ht] at m1 m3;obtain ⟨d1,kK⟩:∃d,d=(a*q%18446744073709551616+o+0)/18446744073709551616:=⟨_,rfl⟩;obtain ⟨d2,fT⟩:∃d,d=((a*q%18446744073709551616+o+0)%18446744073709551616+c+0)/18446744073709551616:=⟨_,rfl⟩;rw [<-kK] at f2 m3;rw [<-fT] at f3 m3
  rw [show (uc 0)=AV.int .u64 0 from rfl] at f2 f3;obtain ⟨h1,jk⟩:∃d,d=a*q/18446744073709551616:=⟨_,rfl⟩;rw [<-jk] at f1 m3;have lW:h1+d1<18446744073709551616:=by omega
  have AD:h1+d1+d2<18446744073709551616:=by omega
  simp only [go_sem,ya,yh,Ji,show (j:Int)<y.length by omega,ey,f1,wrapN (n:=i+j) (by omega),show (i:Int)+(j:Int)=((i+j:Nat):Int) from rfl,cW 0 0 (show i+j<n by omega),yd,e3,f2,f3,show (h1:Int)+(d1:Int)=((h1+d1:Nat):Int) from rfl,aeW lW,show ((h1+d1:Nat):Int)+(d2:Int)=((h1+d1+d2:Nat):Int) from rfl,aeW AD,kM (l:=out) (o:=i+j) (by omega)]
  refine ⟨_,k-1,rfl,by omega,j+1,h1+d1+d2,_,?_,by omega,by simp [hlen],AD,mv bj (x:=t%18446744073709551616) (i:=i+j) (xz _ Cd),?_,fun m hm=>?_⟩
  ·rw [wrap64 (by omega) (by omega)];simp only [go_sem,ya,yb,an,ak hv.pu,ao _ hv.pu,ak hw.pu,ao _ hw.pu]<;>rfl
  ·rw [m3,show i+(j+1)=i+j+1 by omega,xk,jv,<-hq,xA a,xA (18446744073709551616^i)];simp only [xI,y7] at lh;rw [lh,wB,<-Nat.add_assoc,xr (18446744073709551616^i),<-xr a,xC a (18446744073709551616^j),xr]
  ·rw [po (by omega)];exact gL m hm
 ·right
  have:j=y.length:=by omega
  subst this;rw [xQ] at aR;simp only [go_sem,ya,Ji,show ¬(y.length:Int)<y.length by omega];exact ⟨_,_,rfl,by simp,_,c,out,rfl,rfl,by simp only [go_sem,ya],by simp only [go_sem,ya],by simp only [go_sem,ya],by simp only [go_sem,ya],by simp only [go_sem,ya],by simp only [go_sem,ya],by simp only [go_sem,ya],hlen,hc,bj,aR,gL⟩
def ar9 (mQ:L.pure 143=some r9) (gT:L.pure 171=some nZ) {v w:AV} {x y:List Nat} (hv:bJ v x) (hw:bJ w y) (hx:lo 18446744073709551616 x) (hy:lo 18446744073709551616 y) (lx:x.length<=49999999999) (ly:y.length<=49999999999) {n:Nat} (hn:n=x.length+y.length):
  ∀k s,(∃(i:Nat) (out:List Nat),aT [1,5,20,21,22] s=⟨[(1,w),(5,.aC 0 0 n),(20,v),(21,aa x.length),(22,aa i)],[(0,.cells true true true 1 (out.map uc))],1,0⟩/\i+k=x.length/\out.length=n/\lo 18446744073709551616 out/\
    bv 18446744073709551616 out=bv 18446744073709551616 (x.take i)*bv 18446744073709551616 y/\(∀m,i+y.length<=m->out.getD m 0=0))->
   ∃ex s',D P L (.loop [1,5,20,21,22] Jj) s=some (ex,s')/\∃tm out,s'=⟨tm,[(0,.cells true true true 1 (out.map uc))],1,0⟩/\ex= .exit 0/\ah tm 5= .aC 0 0 n/\out.length=n/\lo 18446744073709551616 out/\
    bv 18446744073709551616 out=bv 18446744073709551616 x*bv 18446744073709551616 y:=by
 intro dq sq;generalize bw:aT [1,5,20,21,22] sq=s0;revert bw s0 sq dq;apply dn;rintro k s ⟨i,out,rfl,hk,hlen,bj,aR,gL⟩;by_cases hi:i<x.length
 ·left
  have gx:=gO (show 0<18446744073709551616 by decide) hx i;have ex:=hv.aZ hi;obtain ⟨a,ha⟩:∃a,a=x.getD i 0:=⟨_,rfl⟩;simp only [go_sem,ya,Jj,hw.len,show (i:Int)<x.length by omega,ex];generalize hq:D P L (.loop [1,5,6,7,8,20,21,22,27,28,29] Ji) _=q;obtain ⟨ex,s,rfl,tm,c,sK,rfl,rfl,t1,t5,t6,t8,t20,t21,t22,Ue,hc,avK,Uf,KD⟩:=bD hq (ar8 (P:=P) (L:=L) mQ gT hv hw hx hy lx ly hn hi gx (bo:=bv 18446744073709551616 out) y.length)
   ⟨0,0,out,by simp only [go_sem,ya,yb,an,ak hv.pu,ao _ hv.pu,ak hw.pu,ao _ hw.pu]<;>rfl,by omega,hlen,by decide,bj,by simp [bv],gL⟩
  have hz:sK.getD (i+y.length) 0=0:=KD _ (yr _);have bg:=n7 (b:=18446744073709551616) (l:=sK) (i:=i+y.length) (x:=c) (by omega);rw [hz,xI,y7,Uf] at bg
  simp only [go_sem,ya,yh,an,t1,t5,t6,t8,t20,t21,t22,hw.len,ak hv.pu,ao _ hv.pu,ak hw.pu,ao _ hw.pu,wrapN (n:=i+y.length) (by omega),show (i:Int)+(y.length:Int)=((i+y.length:Nat):Int) from rfl,cW 0 0 (show i+y.length<n by omega),yd,kM (l:=sK) (o:=i+y.length) (by omega)];refine ⟨_,k-1,rfl,by omega,i+1,sK.set (i+y.length) c,?_,by omega,by simp [Ue],mv avK hc,?_,fun m hm=>?_⟩
  ·rw [wrap64 (by omega) (by omega)];simp only [go_sem,ya,yb,an,ak hv.pu,ao _ hv.pu,ak hw.pu,ao _ hw.pu]<;>rfl
  ·rw [bg,aR,jv,xH,<-ha,xr]
  ·rw [po (by omega)];exact KD m (by omega)
 ·right
  have:i=x.length:=by omega
  subst this;rw [xQ] at aR;simp only [go_sem,ya,Jj,show ¬(x.length:Int)<x.length by omega];exact ⟨_,_,rfl,by simp,_,out,rfl,rfl,by simp only [go_sem,ya],hlen,bj,aR⟩
def avL (h:Has P L 144 OX) (mN:Has P L 166 BF) (mQ:L.pure 143=some r9) (gT:L.pure 171=some nZ) {v w:AV} {x y:List Nat} (hv:bJ v x) (hw:bJ w y) (hx:lo 18446744073709551616 x) (hy:lo 18446744073709551616 y) (lx:x.length<=49999999999) (ly:y.length<=49999999999):
  ∃r out,ae P L 144 [v,w] r/\bJ r out/\lo 18446744073709551616 out/\gY out/\bv 18446744073709551616 out=bv 18446744073709551616 x*bv 18446744073709551616 y:=by
 obtain ⟨n,hn⟩:∃n,n=x.length+y.length:=⟨_,rfl⟩;unfold ae;rw [ay h]
 simp only [go_sem,ya,yb,OX,hv.len,hw.len,wrapN (n:=n) (by omega),show (x.length:Int)+(y.length:Int)=((x.length+y.length:Nat):Int) from rfl,<-hn,DV (n:=n) _ (by omega)];generalize hq:D P L (.loop [1,5,20,21,22] Jj) _=q;obtain ⟨ex,s,rfl,tm,o,rfl,rfl,t5,hlen,bj,aR⟩:=bD hq (ar9 (P:=P) (L:=L) mQ gT hv hw hx hy lx ly hn x.length)
  ⟨0,yG n 0,by simp only [go_sem,ya,yb,an,ak hv.pu,ao _ hv.pu,ak hw.pu,ao _ hw.pu]<;>rfl,by omega,by simp,FH (by decide) n,by rw [FI];simp [bv],fun m _=>CV n m⟩
 have hf:=nj true o;rw [hlen] at hf;obtain ⟨r,e1,hr⟩:=BQ mN hf (by omega);refine ⟨r,_,?_,hr,A5 bj,A4 _,by rw [A3];exact aR⟩
 simp only [go_sem,yb,an,t5,BP _ (n:=n) (l:=o) hlen true,e1,hr.shut,hr.dw]
end
end
section
open Go (IntKind)
def On (n:Int):IntKind.wrap .u64 n=n%18446744073709551616:=by
 simp [IntKind.wrap,IntKind.signed,IntKind.bits]
def wrapM (n:Nat):IntKind.wrap .u64 (n:Int)=((n%18446744073709551616:Nat):Int):=by rw [On];omega
def pO (a b:Nat):binOp .mul (uc a) (uc b)=some (uc (a*b%18446744073709551616)):=by
 rw [abK,<-xL,wrapM]
def Bw (a b:Nat):binOp .add (uc a) (uc b)=some (uc ((a+b)%18446744073709551616)):=by
 rw [abJ,<-Int.natCast_add,wrapM]
def DW {a b c:Nat} (h:(a+18446744073709551616-b)%18446744073709551616=c) (hb:b<=18446744073709551616):binOp .sub (uc a) (uc b)=some (uc c):=by
 rw [NF,On]
 grind
def asa (k k':yY) (a b:Int):binOp .shl (.int k a) (.int k' b)=CS .shl k a b:=rfl
def asb (k k':yY) (a b:Int):binOp .shr (.int k a) (.int k' b)=CS .shr k a b:=rfl
def KE (k:yY) (a:Nat) {s:Nat} (hs:s<=64):binOp .shl (.int .u64 (a:Int)) (.int k (s:Int))=some (uc (a*2^s%18446744073709551616)):=by
 rw [asa];simp only [CS,yA (show ¬(s:Int)<0 by omega),xp,IntKind.bits,xX hs];rw [show ((2:Int)^s)=((2^s:Nat):Int) by simp,<-xL,wrapM]
def KF (k:yY) (a:Nat) {s:Nat} (hs:s<=64):binOp .shr (.int .u64 (a:Int)) (.int k (s:Int))=some (uc (a/2^s)):=by
 rw [asb];simp only [CS,yA (show ¬(s:Int)<0 by omega),xp,IntKind.bits,xX hs]
 grind
def afF (a:Nat):binOp .and (.int .u64 (a:Int)) (.int .u64 4294967295)=some (uc (a%4294967296)):=by
 show some (AV.int .u64 (IntKind.wrap .u64 ((xN 64 (a:Int)&&&xN 64 4294967295).toNat:Int)))=_
 rw [show xN 64 (a:Int)=ud 64 a from ue 64 a,show xN 64 4294967295=ud 64 4294967295 from rfl];rw [BitVec.toNat_and,vl,vl,show (4294967295%2^64:Nat)=2^32-1 from rfl,Nat.and_two_pow_sub_one_eq_mod,wrapM]
 grind
def W5 {a b:Nat} (ha:a<18446744073709551616) (hb:b<18446744073709551616):binOp .or (.int .u64 (a:Int)) (.int .u64 (b:Int))=some (uc (a|||b)):=by
 show some (AV.int .u64 (IntKind.wrap .u64 ((xN 64 (a:Int)|||xN 64 (b:Int)).toNat:Int)))=_
 congr 2
 rw [show xN 64 (a:Int)=ud 64 a from ue 64 a,show xN 64 (b:Int)=ud 64 b from ue 64 b];rw [BitVec.toNat_or,vl,vl,yS (show a<2^64 from ha),yS (show b<2^64 from hb),wrapM]
 have:a|||b<2^64:=Nat.or_lt_two_pow ha hb
 omega
def Tv {p s c:Nat} (h:c<2^s):(p*2^s)|||c=p*2^s+c:=by
 rw [<-Nat.shiftLeft_eq,<-Nat.shiftLeft_add_eq_or_of_lt h]
def Y6:∀(f n:Nat),n<2^f->eO f n<=f/\n<2^eO f n/\(0<n->0<eO f n/\2^(eO f n-1)<=n)
 | 0,n,h=>by simp [eO];simpa using h
 | f+1,n,h=>by
  simp only [eO];by_cases h0:n=0
  ·simp_all
  ·rw [iC h0,yO];obtain ⟨h1,h2,h3⟩:=Y6 f (n/2) (by omega);refine ⟨by omega,?_,fun _=>⟨by omega,?_⟩⟩
   ·grind
   ·rw [Nat.add_sub_cancel_left];by_cases hn:0<n/2
    ·obtain ⟨h4,h5⟩:=h3 hn;obtain ⟨m,hm⟩:∃m,eO f (n/2)=m+1:=⟨eO f (n/2)-1,by omega⟩
     grind
    ·have hz:n/2=0:=by omega
     have:eO f 0=0:=by cases f with
      | zero=>rfl
      | succ f=>rfl
     grind
def SA {y:Nat} (h0:0<y) (h:y<18446744073709551616):64-eO 64 y<64/\9223372036854775808<=y*2^(64-eO 64 y)/\y*2^(64-eO 64 y)<18446744073709551616:=by
 obtain ⟨h1,h2,h3⟩:=Y6 64 y h;obtain ⟨h4,h5⟩:=h3 h0;generalize eO 64 y=k at*
 refine ⟨by omega,?_,?_⟩
 ·have:=yX (2^(64-k)) h5
  rw [<-wB,show k-1+(64-k)=63 by omega] at this;exact this
 ·have:=wM h2 (wE (64-k))
  rw [<-wB,show k+(64-k)=64 by omega] at this;exact this
section
variable {P:aG} {L:Lib} {f:cD}
def adq (h:L.pure 167=some FR) {x:Nat} (hx:x<18446744073709551616):bQ P L f 167 [uc x]=some (aa (64-eO 64 x:Nat)):=by
 rw [js h];show (bif yM x 18446744073709551616 then _ else none)=_
 rw [jM hx];rfl
def aln {b v1 v2 u u2 t r:Nat} (cY:v2<b) (kL:t<b) (ht:t*v1+r=u) (h:b<=r\/t*v2<=b*r+u2):t*(v1*b+v2)<=u*b+u2:=by
 have h2:t*v2<=b*r+u2:=by
  rcases h with h | h
  ·have:=xB (uB kL) (uB cY)
   have:=yU b h
   omega
  ·exact h
 rw [xA,<-xr,<-ht,xH,xC r b];omega
def aul (n:Nat):pK (.toInt .u64) (.int .i64 (n:Int))=some (uc (n%18446744073709551616)):=by
 show some (AV.int .u64 (IntKind.wrap .u64 (n:Int)))=_
 rw [wrapM]
def Yy {y v1 v2 u u2 q r:Nat} (hy:y=v1*4294967296+v2) (cY:v2<4294967296) (G1:0<v1) (eZ:v1<4294967296) (hu:u<y) (AG:u2<4294967296) (hq:q*v1+r=u) (hr:r<4294967296) (hQ:(u*4294967296+u2)/y<=q):
  (4294967296<=q\/4294967296*r+u2<q*v2->0<q/\(q-1)*v1+(r+v1)=u/\(u*4294967296+u2)/y<=q-1/\(4294967296<=r+v1->(u*4294967296+u2)/y=q-1))/\
  (¬4294967296<=q->q*v2<=4294967296*r+u2->(u*4294967296+u2)/y=q):=by
 have jW:0<y:=by omega
 have Qz:∀t s,t*v1+s=u->4294967296<=t->s<4294967296:=fun t s h1 h2=>by
  have:=yX v1 h2
  grind
 have adr:∀t s,t*v1+s=u->t<4294967296->(4294967296<=s\/t*v2<=4294967296*s+u2)->(u*4294967296+u2)/y<=t->(u*4294967296+u2)/y=t:=fun t s h1 h2 h3 h4=>by
  have:=aln cY h2 h1 h3
  rw [<-hy] at this
  have:=(Nat.le_div_iff_mul_le jW).2 this
  omega
 constructor
 ·intro h;have bw:0<q:=by
   grind
  have h1:(q-1)*v1+(r+v1)=u:=by
   obtain ⟨p,rfl⟩:∃p,q=p+1:=⟨q-1,by omega⟩
   grind
  have h2:(u*4294967296+u2)/y<=q-1:=by
   have a7:u*4294967296+u2<q*y:=by
    rcases h with h | h
    ·have h3:u*4294967296+u2<4294967296*y:=by omega
     exact Nat.lt_of_lt_of_le h3 (yX y h)
    ·rw [hy,xA,<-xr,<-hq,xH,xC r];omega
   have:=(xU jW).2 a7
   omega
  exact ⟨bw,h1,h2,fun h3=>adr _ _ h1 (by
   by_cases hb:4294967296<=q-1
   ·have:=Qz _ _ h1 hb;omega
   ·omega) (.inl h3) h2⟩
 ·intro h1 h2;exact adr q r hq (by omega) (.inr h2) hQ
def asc {y s v1 v2 u u2 z:Nat} (hy:y=v1*4294967296+v2) (cY:v2<4294967296) (G1:0<v1) (eZ:v1<4294967296) (hu:u<y) (AG:u2<4294967296):
  ∀k st,(∃q r:Nat,aT [2,8,9,10,11,13,14,15,16] st=⟨[(2,uc y),(8,uc s),(9,uc v1),(10,uc v2),(11,uc u),(13,uc u2),(14,uc z),(15,uc q),(16,uc r)],[],0,0⟩/\q*v1+r=u/\r<4294967296/\(u*4294967296+u2)/y<=q/\q=k)->
   ∃ex st',D P L (.loop [2,8,9,10,11,13,14,15,16] Bf) st=some (ex,st')/\∃tm ct,st'=⟨tm,[],ct,0⟩/\ex= .exit 0/\ah tm 2=uc y/\ah tm 8=uc s/\ah tm 9=uc v1/\ah tm 10=uc v2/\ah tm 11=uc u/\ah tm 13=uc u2/\ah tm 14=uc z/\ah tm 15=uc ((u*4294967296+u2)/y):=by
 intro dq sq;generalize bw:aT [2,8,9,10,11,13,14,15,16] sq=s0;revert bw s0 sq dq;apply dn;rintro k st ⟨q,r,rfl,hq,hr,hQ,rfl⟩;obtain ⟨g1,g2⟩:=Yy hy cY G1 eZ hu AG hq hr hQ;have hqb:q*1<=q*v1:=yU q G1;have avM:=yX 4294967296 (show v1<=4294967295 by omega);have oO:q<18446744073709551616:=by omega
 have Wu:=yU 4294967296 (show r<=4294967295 by omega);have e1:=pO 4294967296 r;rw [show uc 4294967296=AV.int .u64 4294967296 from rfl,yS (show 4294967296*r<18446744073709551616 by omega)] at e1;have e2:=Bw (4294967296*r) u2;rw [yS (show 4294967296*r+u2<18446744073709551616 by omega)] at e2;have e4:=Bw r v1;rw [yS (show r+v1<18446744073709551616 by omega)] at e4;by_cases hc:4294967296<=q\/4294967296*r+u2<q*v2
 ·obtain ⟨h0,h1,h2,h3⟩:=g1 hc;have e3:binOp .sub (uc q) (.int .u64 1)=some (uc (q-1)):=DW (b:=1) (by omega) (by omega);by_cases hb:4294967296<=r+v1
  ·right
   have AH:=h3 hb;rcases (show 4294967296<=q\/(¬4294967296<=q/\4294967296*r+u2<q*v2) by omega) with t1 | ⟨t1,t2⟩
   ·simp only [go_sem,ya,Bf,show (4294967296:Int)<=(q:Int) by omega,e3,e4,show (4294967296:Int)<=((r+v1:Nat):Int) by omega];exact ⟨_,_,rfl,by simp,_,_,rfl,rfl,by simp only [go_sem,ya],by simp only [go_sem,ya],by simp only [go_sem,ya],by simp only [go_sem,ya],by simp only [go_sem,ya],by simp only [go_sem,ya],by simp only [go_sem,ya],by rw [AH];simp only [go_sem,ya]⟩
   ·have W6:=xB (show q<=4294967295 by omega) (show v2<=4294967295 by omega);have e5:=pO q v2;rw [yS (show q*v2<18446744073709551616 by omega)] at e5;simp only [go_sem,ya,Bf,show ¬(4294967296:Int)<=(q:Int) by omega,e5,e1,e2,show ((4294967296*r+u2:Nat):Int)<((q*v2:Nat):Int) by omega,e3,e4,show (4294967296:Int)<=((r+v1:Nat):Int) by omega];exact ⟨_,_,rfl,by simp,_,_,rfl,rfl,by simp only [go_sem,ya],by simp only [go_sem,ya],by simp only [go_sem,ya],by simp only [go_sem,ya],by simp only [go_sem,ya],by simp only [go_sem,ya],by simp only [go_sem,ya],by rw [AH];simp only [go_sem,ya]⟩
  ·left
   rcases (show 4294967296<=q\/(¬4294967296<=q/\4294967296*r+u2<q*v2) by omega) with t1 | ⟨t1,t2⟩
   ·simp only [go_sem,ya,Bf,show (4294967296:Int)<=(q:Int) by omega,e3,e4,show ¬(4294967296:Int)<=((r+v1:Nat):Int) by omega];exact ⟨_,q-1,rfl,by omega,q-1,r+v1,by simp only [go_sem,ya,an],h1,by omega,h2,rfl⟩
   ·have W6:=xB (show q<=4294967295 by omega) (show v2<=4294967295 by omega);have e5:=pO q v2;rw [yS (show q*v2<18446744073709551616 by omega)] at e5;simp only [go_sem,ya,Bf,show ¬(4294967296:Int)<=(q:Int) by omega,e5,e1,e2,show ((4294967296*r+u2:Nat):Int)<((q*v2:Nat):Int) by omega,e3,e4,show ¬(4294967296:Int)<=((r+v1:Nat):Int) by omega];exact ⟨_,q-1,rfl,by omega,q-1,r+v1,by simp only [go_sem,ya,an],h1,by omega,h2,rfl⟩
 ·right
  have AH:=g2 (by omega) (by omega);have e5:=pO q v2;rw [yS (show q*v2<18446744073709551616 by omega)] at e5;simp only [go_sem,ya,Bf,show ¬(4294967296:Int)<=(q:Int) by omega,e5,e1,e2,show ¬((4294967296*r+u2:Nat):Int)<((q*v2:Nat):Int) by omega];exact ⟨_,_,rfl,by simp,_,_,rfl,rfl,by simp only [go_sem,ya],by simp only [go_sem,ya],by simp only [go_sem,ya],by simp only [go_sem,ya],by simp only [go_sem,ya],by simp only [go_sem,ya],by simp only [go_sem,ya],by rw [AH];simp only [go_sem,ya]⟩
end
end
section
open Go (IntKind)
section
variable {P:aG} {L:Lib} {f:cD}
def asd {y s v1 v2 u u2 z:Nat} (hy:y=v1*4294967296+v2) (cY:v2<4294967296) (G1:0<v1) (eZ:v1<4294967296) (hu:u<y) (AG:u2<4294967296):
  ∀k st,(∃q r:Nat,aT [2,8,9,10,14,15,16,17,18] st=⟨[(2,uc y),(8,uc s),(9,uc v1),(10,uc v2),(14,uc u2),(15,uc z),(16,uc r),(17,uc u),(18,uc q)],[],0,0⟩/\q*v1+r=u/\r<4294967296/\(u*4294967296+u2)/y<=q/\q=k)->
   ∃ex st',D P L (.loop [2,8,9,10,14,15,16,17,18] Bg) st=some (ex,st')/\∃tm ct,st'=⟨tm,[],ct,0⟩/\ex= .exit 2/\ah tm 2=uc y/\ah tm 8=uc s/\ah tm 9=uc v1/\ah tm 10=uc v2/\ah tm 14=uc u2/\ah tm 15=uc z/\ah tm 17=uc u/\ah tm 18=uc ((u*4294967296+u2)/y):=by
 intro dq sq;generalize bw:aT [2,8,9,10,14,15,16,17,18] sq=s0;revert bw s0 sq dq;apply dn;rintro k st ⟨q,r,rfl,hq,hr,hQ,rfl⟩;obtain ⟨g1,g2⟩:=Yy hy cY G1 eZ hu AG hq hr hQ;have hqb:q*1<=q*v1:=yU q G1;have avM:=yX 4294967296 (show v1<=4294967295 by omega);have oO:q<18446744073709551616:=by omega
 have Wu:=yU 4294967296 (show r<=4294967295 by omega);have e1:=pO 4294967296 r;rw [show uc 4294967296=AV.int .u64 4294967296 from rfl,yS (show 4294967296*r<18446744073709551616 by omega)] at e1;have e2:=Bw (4294967296*r) u2;rw [yS (show 4294967296*r+u2<18446744073709551616 by omega)] at e2;have e4:=Bw r v1;rw [yS (show r+v1<18446744073709551616 by omega)] at e4;by_cases hc:4294967296<=q\/4294967296*r+u2<q*v2
 ·obtain ⟨h0,h1,h2,h3⟩:=g1 hc;have e3:binOp .sub (uc q) (.int .u64 1)=some (uc (q-1)):=DW (b:=1) (by omega) (by omega);by_cases hb:4294967296<=r+v1
  ·right
   have AH:=h3 hb;rcases (show 4294967296<=q\/(¬4294967296<=q/\4294967296*r+u2<q*v2) by omega) with t1 | ⟨t1,t2⟩
   ·simp only [go_sem,ya,Bg,show (4294967296:Int)<=(q:Int) by omega,e3,e4,show (4294967296:Int)<=((r+v1:Nat):Int) by omega];exact ⟨_,_,rfl,by simp,_,_,rfl,rfl,by simp only [go_sem,ya],by simp only [go_sem,ya],by simp only [go_sem,ya],by simp only [go_sem,ya],by simp only [go_sem,ya],by simp only [go_sem,ya],by simp only [go_sem,ya],by rw [AH];simp only [go_sem,ya]⟩
   ·have W6:=xB (show q<=4294967295 by omega) (show v2<=4294967295 by omega);have e5:=pO q v2;rw [yS (show q*v2<18446744073709551616 by omega)] at e5;simp only [go_sem,ya,Bg,show ¬(4294967296:Int)<=(q:Int) by omega,e5,e1,e2,show ((4294967296*r+u2:Nat):Int)<((q*v2:Nat):Int) by omega,e3,e4,show (4294967296:Int)<=((r+v1:Nat):Int) by omega];exact ⟨_,_,rfl,by simp,_,_,rfl,rfl,by simp only [go_sem,ya],by simp only [go_sem,ya],by simp only [go_sem,ya],by simp only [go_sem,ya],by simp only [go_sem,ya],by simp only [go_sem,ya],by simp only [go_sem,ya],by rw [AH];simp only [go_sem,ya]⟩
  ·left
   rcases (show 4294967296<=q\/(¬4294967296<=q/\4294967296*r+u2<q*v2) by omega) with t1 | ⟨t1,t2⟩
   ·simp only [go_sem,ya,Bg,show (4294967296:Int)<=(q:Int) by omega,e3,e4,show ¬(4294967296:Int)<=((r+v1:Nat):Int) by omega];exact ⟨_,q-1,rfl,by omega,q-1,r+v1,by simp only [go_sem,ya,an],h1,by omega,h2,rfl⟩
   ·have W6:=xB (show q<=4294967295 by omega) (show v2<=4294967295 by omega);have e5:=pO q v2;rw [yS (show q*v2<18446744073709551616 by omega)] at e5;simp only [go_sem,ya,Bg,show ¬(4294967296:Int)<=(q:Int) by omega,e5,e1,e2,show ((4294967296*r+u2:Nat):Int)<((q*v2:Nat):Int) by omega,e3,e4,show ¬(4294967296:Int)<=((r+v1:Nat):Int) by omega];exact ⟨_,q-1,rfl,by omega,q-1,r+v1,by simp only [go_sem,ya,an],h1,by omega,h2,rfl⟩
 ·right
  have AH:=g2 (by omega) (by omega);have e5:=pO q v2;rw [yS (show q*v2<18446744073709551616 by omega)] at e5;simp only [go_sem,ya,Bg,show ¬(4294967296:Int)<=(q:Int) by omega,e5,e1,e2,show ¬((4294967296*r+u2:Nat):Int)<((q*v2:Nat):Int) by omega];exact ⟨_,_,rfl,by simp,_,_,rfl,rfl,by simp only [go_sem,ya],by simp only [go_sem,ya],by simp only [go_sem,ya],by simp only [go_sem,ya],by simp only [go_sem,ya],by simp only [go_sem,ya],by simp only [go_sem,ya],by rw [AH];simp only [go_sem,ya]⟩
def aeX (a:Nat):binOp .shr (.int .u64 (a:Int)) (.int .u64 32)=some (uc (a/4294967296)):=KF .u64 a (s:=32) (by decide)
def afG (a:Nat) {b:Nat} (ha:a<18446744073709551616) (hb:0<b):binOp .quo (uc a) (uc b)=some (uc (a/b)):=by
 rw [fw _ _ _ (by omega),Int.tdiv_eq_ediv_of_nonneg (by omega),<-Int.natCast_ediv,wrapM,yS];exact wu (vh a b) ha
def avN (a:Nat) {b:Nat} (hb:0<b):binOp .rem (uc a) (uc b)=some (uc (a%b)):=by
 rw [fM _ _ _ (by omega),Int.tmod_eq_emod_of_nonneg (by omega),<-Int.natCast_emod]
def alo {hi lo y s u z Y:Nat} (hs:s<64) (bj:lo<18446744073709551616) (hY:Y=y*2^s) (hu:u=hi*2^s+lo/2^(64-s)) (hz:z=lo*2^s%18446744073709551616):
  (hi*18446744073709551616+lo)*2^s=u*18446744073709551616+z:=by
 have e:18446744073709551616=2^(64-s)*2^s:=by rw [<-wB,show 64-s+s=64 by omega]
 have h1:lo*2^s/18446744073709551616=lo/2^(64-s):=by
  rw [e,tO _ _ (wE s)]
 grind
def ZQ {Y q a b:Nat} (h1:a<Y) (h2:b<4294967296) (h3:q=(a*4294967296+b)/Y):q<4294967296:=by
 rw [h3];exact (xU (by omega)).2 (by omega)
def anr {u w x z z0 z1 q0 q1 Y:Nat} (kK:q1*Y+w=u*4294967296+z1) (iN:q0*Y+x=w*4294967296+z0) (hz:z=z1*4294967296+z0):u*18446744073709551616+z=(q1*4294967296+q0)*Y+x:=by grind
def ajM {q1 q0:Nat} (h1:q1<4294967296) (h0:q0<4294967296):q1*4294967296<18446744073709551616/\q1*4294967296+q0<18446744073709551616:=by omega
def afH (h:Has P L 165 Kg) (KG:L.pure 167=some FR) {hi lo y:Nat} (gL:hi<y) (bj:lo<18446744073709551616) (hy:y<18446744073709551616):
  ae P L 165 [uc hi,uc lo,uc y] (.au [uc ((hi*18446744073709551616+lo)/y),uc ((hi*18446744073709551616+lo)%y)]):=by
 have jW:0<y:=by omega
 by_cases h0:hi=0
 ·subst h0;have e1:=afG lo bj jW;have e2:=avN lo jW;rw [ybr,yd];unfold ae;rw [ay h];simp only [go_sem,ya,Kg,show ¬(y:Int)=0 by omega,show ¬(y:Int)<=0 by omega,show ((0:Nat):Int)=0 from rfl,e1,e2];rfl
 ·obtain ⟨s,hs⟩:∃s,s=64-eO 64 y:=⟨_,rfl⟩;have hl:=adq (P:=P) (f:=D P L) KG hy;obtain ⟨l1,l2,l3⟩:=SA jW hy;rw [<-hs] at hl l1 l2 l3;obtain ⟨Y,hY⟩:∃Y,Y=y*2^s:=⟨_,rfl⟩;obtain ⟨u,hu⟩:∃u,u=hi*2^s+lo/2^(64-s):=⟨_,rfl⟩;obtain ⟨z,hz⟩:∃z,z=lo*2^s%18446744073709551616:=⟨_,rfl⟩;have hdiv:=alo l1 bj hY hu hz;rw [<-hY] at l2 l3;have hp:=wE s;obtain ⟨v1,eZ⟩:∃v,v=Y/4294967296:=⟨_,rfl⟩;obtain ⟨v2,cY⟩:∃v,v=Y%4294967296:=⟨_,rfl⟩;have hYv:Y=v1*4294967296+v2:=by omega
  obtain ⟨z1,lX⟩:∃v,v=z/4294967296:=⟨_,rfl⟩;obtain ⟨z0,mf⟩:∃v,v=z%4294967296:=⟨_,rfl⟩;have G2:z<18446744073709551616:=by omega
  have hhY:hi*2^s<Y:=by rw [hY];exact wM gL hp
  have lG:lo/2^(64-s)<2^s:=by
   refine (xU (wE _)).2 ?_;rw [<-wB,show s+(64-s)=64 by omega];exact bj
  have oI:hi*2^s|||lo/2^(64-s)=u:=by rw [Tv lG,hu]
  have hN:hi*18446744073709551616+lo<y*18446744073709551616:=by
   have:=yX 18446744073709551616 (show hi+1<=y from gL)
   omega
  have W7:u<Y:=by
   have h1:=wM hN hp;rw [hdiv,Nat.mul_right_comm,<-hY] at h1;omega
  obtain ⟨q1,fq⟩:∃q,q=(u*4294967296+z1)/Y:=⟨_,rfl⟩;obtain ⟨w,hw⟩:∃q,q=(u*4294967296+z1)%Y:=⟨_,rfl⟩;obtain ⟨q0,bw⟩:∃q,q=(w*4294967296+z0)/Y:=⟨_,rfl⟩;obtain ⟨x,hx⟩:∃q,q=(w*4294967296+z0)%Y:=⟨_,rfl⟩;have QA:w<Y:=by rw [hw];exact xz _ (by omega)
  have W8:x<Y:=by rw [hx];exact xz _ (by omega)
  have kK:=xV (u*4294967296+z1) Y;rw [<-fq,<-hw,xC] at kK;have iN:=xV (w*4294967296+z0) Y;rw [<-bw,<-hx,xC] at iN;have avO:=ZQ W7 (show z1<4294967296 by omega) fq;have avP:=ZQ QA (show z0<4294967296 by omega) bw;obtain ⟨td1,td2⟩:=ajM avO avP;have Pu:(hi*18446744073709551616+lo)*2^s=(q1*4294967296+q0)*Y+x:=by
   rw [hdiv];exact anr kK iN (by omega)
  have r1:(hi*18446744073709551616+lo)/y=q1*4294967296+q0:=by
   rw [<-tO _ _ hp,Pu,<-hY,xC _ Y,Nat.mul_add_div (by omega),wC W8,y7]
  have r2:x/2^s=(hi*18446744073709551616+lo)%y:=by
   have h1:x=(hi*18446744073709551616+lo)*2^s%(y*2^s):=by
    rw [Pu,<-hY,xC _ Y,Nat.mul_add_mod,yS W8]
   rw [h1,uk,Nat.mul_div_cancel _ hp]
  have o1:=KE .u64 y (s:=s) (by omega);rw [<-hY,yS l3] at o1;have o2:=aeX Y;rw [<-eZ] at o2;have o3:=afF Y;rw [<-cY] at o3;have o4:=KE .u64 hi (s:=s) (by omega);rw [yS (show hi*2^s<18446744073709551616 by omega)] at o4;have o5:binOp .sub (.int .u64 64) (uc s)=some (uc (64-s)):=DW (a:=64) (by omega) (by omega);have o6:=KF .u64 lo (s:=64-s) (by omega);have o7:=W5 (a:=hi*2^s) (b:=lo/2^(64-s)) (by omega) (wu (vh _ _) bj);rw [oI] at o7;have o8:=KE .u64 lo (s:=s) (by omega);rw [<-hz] at o8;have o9:=aeX z;rw [<-lX] at o9;have o10:=afF z;rw [<-mf] at o10;have Gp:0<v1:=by omega
  have aeY:∀{a:Nat},a<Y->binOp .quo (uc a) (uc v1)=some (uc (a/v1))/\binOp .mul (uc (a/v1)) (uc v1)=some (uc (a/v1*v1))/\binOp .sub (uc a) (uc (a/v1*v1))=some (uc (a%v1)):=fun {a} ha=>by
   have h1:=xV a v1;rw [xC] at h1;have h2:=pO (a/v1) v1;generalize a/v1*v1=m at*
   rw [yS (show m<18446744073709551616 by omega)] at h2;exact ⟨afG a (by omega) Gp,h2,DW (by omega) (by omega)⟩
  obtain ⟨g1,g2,g3⟩:=aeY W7;obtain ⟨g4,g5,g6⟩:=aeY QA;have first:∀{a b:Nat},b<4294967296->(a*4294967296+b)/Y<=a/v1:=fun {a b} hb=>by
   have:=Rr (b:=4294967296) (V:=Y) (v1:=v1) (v2:=v2) (vr:=0) (U:=a*4294967296+b) (u0:=0) (u1:=a) (u2:=b) (ur:=0) (p:=1) (by omega) (by omega) (by decide) hb Gp
   simpa using this
  have back:∀{a b q x:Nat},a*4294967296+b=q*Y+x->x<Y->binOp .mul (uc a) (.int .u64 4294967296)=some (uc (a*4294967296%18446744073709551616))/\binOp .add (uc (a*4294967296%18446744073709551616)) (uc b)=some (uc ((a*4294967296%18446744073709551616+b)%18446744073709551616))/\
    binOp .mul (uc q) (uc Y)=some (uc (q*Y%18446744073709551616))/\binOp .sub (uc ((a*4294967296%18446744073709551616+b)%18446744073709551616)) (uc (q*Y%18446744073709551616))=some (uc x):=fun {a b q x} h1 h2=>by
   refine ⟨pO a 4294967296,Bw _ _,pO q Y,DW ?_ (by omega)⟩;generalize q*Y=m at*
   omega
  obtain ⟨k1,k2,k3,k4⟩:=back kK.symm QA;obtain ⟨k5,k6,k7,k8⟩:=back iN.symm W8;have m1:=pO q1 4294967296;rw [yS td1,show uc 4294967296=AV.int .u64 4294967296 from rfl] at m1;have m2:=Bw (q1*4294967296) q0;rw [yS td2] at m2;have m3:=KF .u64 x (s:=s) (by omega);rw [r1,<-r2];unfold ae;rw [ay h];simp only [go_sem,ya,Kg,show ¬(y:Int)=0 by omega,show ¬(y:Int)<=(hi:Int) by omega,show ¬(hi:Int)=0 by omega,hl,aul,yS (show s<18446744073709551616 by omega),o1,o2,o3,o4,o5,o6,o7,o8,o9,o10,g1,g2,g3];generalize nc:D P L (.loop [2,8,9,10,11,13,14,15,16] Bf) _=qq
  obtain ⟨ex,st,rfl,tm,ct,rfl,rfl,t2,t8,t9,t10,t11,t13,t14,t15⟩:=bD nc (asc (P:=P) (L:=L) (s:=s) (z:=z0) hYv (by omega) Gp (by omega) W7 (show z1<4294967296 by omega) (u/v1)) ⟨u/v1,u%v1,by simp only [go_sem,ya,an],by rw [xC];exact xV u v1,by have:=xz u Gp;omega,first (by omega),rfl⟩
  rw [<-fq] at t15;simp only [go_sem,ya,an,t2,t8,t9,t10,t11,t13,t14,t15,k1,k2,k3,k4,g4,g5,g6];generalize DX:D P L (.loop [2,8,9,10,14,15,16,17,18] Bg) _=W9;obtain ⟨ex,st,rfl,sT,ct2,rfl,rfl,t2,t8,t9,t10,t14,t15,t17,t18⟩:=bD DX (asd (P:=P) (L:=L) (s:=s) (z:=q1) hYv (by omega) Gp (by omega) QA (show z0<4294967296 by omega) (w/v1)) ⟨w/v1,w%v1,by simp only [go_sem,ya,an],by rw [xC];exact xV w v1,by have:=xz w Gp;omega,first (by omega),rfl⟩
  rw [<-bw] at t18;simp only [go_sem,ya,an,t2,t8,t14,t15,t17,t18,m1,m2,k5,k6,k7,k8,m3];rfl
end
end
section
open Go (IntKind)
mutual
def below (n:Nat):AV->Prop
 | .ptr id _=>id<n
 | .aC id _ _=>id<n
 | .map id=>id<n
 | .it id=>id<n
 | .fn (.f _) first cap=>qV n first/\qV n cap
 | .fn (.y l) first cap=>l<n/\first=[]/\cap=[]
 | .agg cs=>qV n cs
 | .au cs=>qV n cs
 | _=>True
def qV (n:Nat):List AV->Prop
 | []=>True
 | v::r=>below n v/\qV n r
end
def qW (n:Nat):Env->Prop
 | []=>True
 | (_,v)::r=>below n v/\qW n r
def Dl (n:Nat):Obj->Prop
 | .cells _ pu _ _ cs=>pu=true\/qV n cs
 | .mp _ ks vs=>qV n ks/\qV n vs
 | .si _ _=>True
 | .lp tm _ _ _ _ _=>qW n tm
def JB (b n:Nat):Hp->Prop
 | []=>True
 | (id,o)::r=>id<b/\Dl n o/\JB b n r
mutual
def ZR {f:Nat->Option Nat} {n:Nat} (hf:∀x,x<n->f x=some x):∀{v:AV},below n v->bZ f v=v
 | .int _ _,_ | .bool _,_ | .du _ _,_ | .str _,_ | .lk,_ | .aQ _,_ | .ab,_ | .aJ _ _ _,_ | .iS,_ | .kH,_ | .jN _ _,_ | .undef,_ | .bW _ _ _ _,_=>rfl
 | .ptr id o,h=>by simp only [bZ,hf id h]
 | .aC id o k,h=>by simp only [bZ,hf id h]
 | .map id,h=>by simp only [bZ,hf id h]
 | .it id,h=>by simp only [bZ,hf id h]
 | .fn (.y l) first cap,h=>by
  obtain ⟨h1,rfl,rfl⟩:=h;simp only [bZ,hf l h1,fB]
 | .fn (.f _) first cap,h=>by
  simp only [bZ,AX hf h.1,AX hf h.2]
 | .agg cs,h=>by simp only [below] at h;simp only [bZ,AX hf h]
 | .au cs,h=>by simp only [below] at h;simp only [bZ,AX hf h]
def AX {f:Nat->Option Nat} {n:Nat} (hf:∀x,x<n->f x=some x):∀{vs:List AV},qV n vs->fB f vs=vs
 | [],_=>rfl
 | v::r,h=>by simp only [fB,ZR hf h.1,AX hf h.2]
end
def RH {f:Nat->Option Nat} {n:Nat} (hf:∀x,x<n->f x=some x):∀{tm:Env},qW n tm->ll f tm=tm
 | [],_=>rfl
 | (_,v)::r,h=>by simp only [ll,ZR hf h.1,RH hf h.2]
def ajN {f:Nat->Option Nat} {n:Nat} (hf:∀x,x<n->f x=some x):∀{o:Obj},Dl n o->lz f o=o
 | .cells _ pu _ _ cs,h=>by
  cases pu with
  | true=>rfl
  | false=>simp only [Dl,yF,ybl] at h;simp only [lz,yO,AX hf h]
 | .mp _ ks vs,h=>by simp only [lz,AX hf h.1,AX hf h.2]
 | .si _ _,_=>rfl
 | .lp tm _ _ _ _ _,h=>by simp only [Dl] at h;simp only [lz,RH hf h]
mutual
def Y7 {n:Nat}:∀{v:AV},below n v->∀x,x∈refs v->x<n
 | .int _ _,_,x,h | .bool _,_,x,h | .du _ _,_,x,h | .str _,_,x,h | .lk,_,x,h | .aQ _,_,x,h | .ab,_,x,h | .aJ _ _ _,_,x,h | .iS,_,x,h | .kH,_,x,h | .jN _ _,_,x,h | .undef,_,x,h | .bW _ _ _ _,_,x,h=>by simp [refs] at h
 | .ptr id o,h,x,hx=>by simp only [refs,wT] at hx;subst hx;exact h
 | .aC id o k,h,x,hx=>by simp only [refs,wT] at hx;subst hx;exact h
 | .map id,h,x,hx=>by simp only [refs,wT] at hx;subst hx;exact h
 | .it id,h,x,hx=>by simp only [refs,wT] at hx;subst hx;exact h
 | .fn (.y l) first cap,h,x,hx=>by simp only [refs,wT] at hx;subst hx;exact h.1
 | .fn (.f _) first cap,h,x,hx=>by
  simp only [refs,wH] at hx;exact hx.elim (AU h.1 x) (AU h.2 x)
 | .agg cs,h,x,hx=>by simp only [below] at h;simp only [refs] at hx;exact AU h x hx
 | .au cs,h,x,hx=>by simp only [below] at h;simp only [refs] at hx;exact AU h x hx
def AU {n:Nat}:∀{vs:List AV},qV n vs->∀x,x∈iO vs->x<n
 | [],_,x,h=>by simp [iO] at h
 | v::r,h,x,hx=>by
  simp only [iO,wH] at hx;exact hx.elim (Y7 h.1 x) (AU h.2 x)
end
def Ru {n:Nat}:∀{tm:Env},qW n tm->∀x,x∈jx tm->x<n
 | [],_,x,h=>by simp [jx] at h
 | (_,v)::r,h,x,hx=>by
  simp only [jx,wH] at hx;exact hx.elim (Y7 h.1 x) (Ru h.2 x)
def ai7 {n:Nat}:∀{o:Obj},Dl n o->∀x,x∈od o->x<n
 | .cells _ pu _ _ cs,h,x,hx=>by
  cases pu with
  | true=>simp [od] at hx
  | false=>simp only [Dl,yF,ybl] at h;exact AU h x hx
 | .mp _ ks vs,h,x,hx=>by
  simp only [od,wH] at hx;exact hx.elim (AU h.1 x) (AU h.2 x)
 | .si _ _,_,x,hx=>by simp [od] at hx
 | .lp tm _ _ _ _ _,h,x,hx=>by simp only [Dl] at h;exact Ru h x hx
def kF (B:Nat):List (List AV)->Hp
 | []=>[]
 | cs::r=>(B+r.length,.cells true true true 1 cs)::kF B r
def Dy (B:Nat):List (List AV)->Hp->Hp
 | [],acc=>acc
 | cs::r,acc=>Dy (B+1) r ((B,.cells true true true 1 cs)::acc)
def Y8:∀(l:List (List AV)) (B:Nat) (x:List AV) (acc:Hp),Dy B (l++[x]) acc=(B+l.length,.cells true true true 1 x)::Dy B l acc
 | [],B,x,acc=>rfl
 | c::l,B,x,acc=>by
  simp only [xu,Dy,Y8 l,yC]
  grind
def ZS (B:Nat) (acc:Hp):∀rs:List (List AV),Dy B rs.reverse acc=kF B rs++acc
 | []=>rfl
 | c::r=>by
  simp only [yab,Y8,ZS B acc r,tS,kF,xu]
def ZT {B:Nat} {old:Hp}:∀{rs:List (List AV)} {i:Nat} (h:i<rs.length),az (kF B rs++old) (B+i)=some (.cells true true true 1 (rs.reverse[i]'(by simpa using h)))
 | c::r,i,h=>by
  simp only [kF,xu,yab];by_cases hi:i=r.length
  ·subst hi;rw [az,vm,yz]
   simp
  ·have a7:i<r.length:=by grind
   rw [az,iC (by omega),yO,ZT a7]
   grind
def Dm {a b:Nat} (h:a<b):yM a b=true:=by simp_all
def JC {a b:Nat} (h:b<=a):yM a b=false:=by
 cases hq:yM a b with
 | false=>rfl
 | true=>have:=Nat.le_of_ble_eq_true hq;omega
def Rg {B:Nat} {old:Hp}:∀rs:List (List AV),jt B (kF B rs++old)=jt B old
 | []=>rfl
 | c::r=>by
  simp only [kF,xu];rw [jt,JC (by omega),yO,Rg r]
def Y9 {B:Nat} {old:Hp} {f:Nat->Option Nat}:∀rs:List (List AV),my B f (kF B rs++old)=my B f old
 | []=>rfl
 | c::r=>by
  simp only [kF,xu];rw [my,JC (by omega),yO,Y9 r]
def Yz {B n:Nat} {f:Nat->Option Nat} (hf:∀x,x<n->f x=some x):∀{old:Hp},JB B n old->my B f old=old
 | [],_=>rfl
 | (id,o)::r,h=>by
  rw [my,Dm h.1,yz,ajN hf h.2.1,Yz hf h.2.2]
def ajO {B s x:Nat} (h:B+s<=x):lP x (wc B s)=false:=by
 induction s generalizing B with
 | zero=>rfl
 | succ s ih=>rw [vO,lP,iC (by omega),yO,ih (by omega)]
def RI {hp:Hp} {B R:Nat} (ri:∀i,i<R->∃rw ex sz cs,az hp (B+i)=some (.cells rw true ex sz cs)):
  ∀(W:List Nat) (bA s:Nat),W.length<bA->s<=R->W.filter (fun x=> !yM x B)=wc (B+s) (R-s)->reach hp B bA W (wc B s)=wc B R
 | [],0,s,hf,_,_=>by simp at hf
 | [],bA+1,s,hf,hs,h=>by
  have:R-s=0:=by
   grind
  rw [reach,show R=s by omega]
 | id::W,0,s,hf,_,_=>by simp at hf
 | id::W,bA+1,s,hf,hs,h=>by
  have et:W.length<bA:=by simp_all
  rw [reach];by_cases hid:id<B
  ·rw [Dm hid,Bool.true_or,yz];rw [yal,Dm hid] at h;exact RI ri W bA s et hs (by simpa using h)
  ·rw [yal,JC (by omega)] at h;have hRs:R-s=(R-s-1)+1:=by
    have:=congrArg List.length h
    grind
   rw [hRs,vO] at h;injection h with h1 h2
   subst h1;rw [JC (by omega),Bool.false_or,ajO (yr _),yO];obtain ⟨rw,ex,sz,cs,ho⟩:=ri s (by omega);simp only [ho,od,yz,xM];have e:wc B s++[B+s]=wc B (s+1):=by rw [List.range'_concat];simp
   rw [e];exact RI ri W bA (s+1) et (by omega) (by rw [h2,show R-s-1=R-(s+1) by omega,show B+s+1=B+(s+1) by omega])
def ajP {B s i k:Nat} (h:i<s):lQ (B+i) (wc B s) k=some (k+i):=by
 induction s generalizing B i k with
 | zero=>omega
 | succ s ih=>
  rw [vO,lQ];by_cases hi:i=0
  ·simp_all
  ·rw [iC (by omega),yO]
   have:=ih (B:=B+1) (i:=i-1) (k:=k+1) (by omega)
   grind
def ai8 {B R x:Nat} (h:x<B+R):kU B (wc B R) x=some x:=by
 unfold kU;by_cases hx:x<B
 ·rw [Dm hx,yz]
 ·rw [JC (by omega),yO]
  have:=ajP (B:=B) (s:=R) (i:=x-B) (k:=B) (by omega)
  grind
def Za {hp:Hp} {f:Nat->Option Nat}:∀(ro:List (List AV)) (B:Nat) (acc:Hp),(∀i (h:i<ro.length),az hp (B+i)=some (.cells true true true 1 ro[i]))->kV hp f (wc B ro.length) B acc=Dy B ro acc
 | [],B,acc,_=>rfl
 | c::r,B,acc,h=>by
  have h0:=h 0 (by simp);simp only [y7,List.getElem_cons_zero] at h0;rw [yC,vO,kV];simp only [h0,lz,yz,Dy]
  exact Za r (B+1) _ (fun i hi=>by
   have:=h (i+1) (by simpa using hi)
   rw [show B+1+i=B+(i+1) by omega,this]
   simp)
def aiG {live:List Nat} {tm:Env} {B ct:Nat} {old:Hp} {rs:List (List AV)} (ht:qW B (eh tm live)) (ho:JB B (B+rs.length) old) (hl:(jx (eh tm live)).length+(jt B old).length<100000)
  (hr:(jt B old).filter (fun x=> !yM x B)=wc B rs.length):aT live ⟨tm,kF B rs++old,ct,B⟩=⟨eh tm live,kF B rs++old,B+rs.length,B⟩:=by
 have ri:∀i (h:i<rs.length),az (kF B rs++old) (B+i)=some (.cells true true true 1 (rs.reverse[i]'(by simpa using h))):=fun i h=>ZT h
 have adN:reach (kF B rs++old) B 100000 (jx (eh tm live)++jt B (kF B rs++old)) []=wc B rs.length:=by
  have:=RI (hp:=kF B rs++old) (B:=B) (R:=rs.length) (fun i hi=>⟨_,_,_,_,ri i hi⟩) (jx (eh tm live)++jt B (kF B rs++old)) 100000 0 (by rw [Rg,List.length_append];exact hl) (tq _) (by
   rw [List.filter_append,Rg,hr,tA.2 (fun x hx=>by
    have:=Ru ht x hx
    simp [Dm this])]
   simp)
  grind
 have hid:∀x,x<B+rs.length->kU B (wc B rs.length) x=some x:=fun x hx=>ai8 hx
 have hn:=Za (hp:=kF B rs++old) (f:=kU B (wc B rs.length)) rs.reverse B old (fun i hi=>ri i (by simpa using hi));rw [tS] at hn;simp only [aT,adN,Y9,Yz hid ho,hn,ZS,List.length_range']
 rw [RH (n:=B) (fun x hx=>hid x (by omega)) ht]
def Zb {B b n:Nat} (hb:b<=B):∀{H:Hp},JB b n H->∀x,x∈jt B H->x<n
 | [],_,x,hx=>by simp [jt] at hx
 | (id,o)::r,h,x,hx=>by
  rw [jt,Dm (by have:=h.1;omega),yz,wH] at hx;exact hx.elim (ai7 h.2.1 x) (Zb hb h.2.2 x)
def YA {live:List Nat} {tm:Env} {B ct:Nat} {old:Hp} (ht:qW B (eh tm live)) (ho:JB B B old) (hl:(jx (eh tm live)).length+(jt B old).length<100000):
  aT live ⟨tm,old,ct,B⟩=⟨eh tm live,old,B,B⟩:=by
 have:=aiG (rs:=[]) (ct:=ct) ht (by simpa using ho) hl (by
  rw [tA.2 (fun x hx=>by have:=Zb (yr B) ho x hx;simp [Dm this])]
  rfl)
 simpa [kF] using this
end
section
open Go (IntKind)
section
variable {P:aG} {L:Lib}
def abN {n:Nat} {F:aD} (h:Has P L n F) {hp:Hp} {ct:Nat} {aq:List AV} {ex:Ex} {s:St} {v:AV} (hD:D P L F.body ⟨fL 0 aq,hp,ct,ct⟩=some (ex,s)) (he:ex= .normal\/ex= .ret) (hr:jb s F.dw=some v):
  je P L (D P L) hp ct n aq=some (v,s.hp,s.ct):=by
 simp only [je,h.heap,h.code,hD]
 grind
mutual
def qF {n:Nat}:∀{v:AV},aU v=true->below n v
 | .int _ _,_ | .bool _,_ | .du _ _,_ | .str _,_ | .lk,_ | .aQ _,_ | .ab,_ | .aJ _ _ _,_ | .iS,_ | .kH,_ | .jN _ _,_ | .undef,_=>trivial
 | .bW _ _ _ _,_=>trivial
 | .ptr _ _,h | .aC _ _ _,h | .map _,h | .it _,h=>by simp [aU] at h
 | .fn (.y _) _ _,h=>by simp [aU] at h
 | .fn (.f _) _ _,h=>by
  simp only [aU,ye] at h;exact ⟨Iu h.1,Iu h.2⟩
 | .agg cs,h=>by simp only [aU] at h;simp only [below];exact Iu h
 | .au cs,h=>by simp only [aU] at h;simp only [below];exact Iu h
def Iu {n:Nat}:∀{vs:List AV},aH vs=true->qV n vs
 | [],_=>trivial
 | _::_,h=>by
  simp only [aH,ye] at h;exact ⟨qF h.1,Iu h.2⟩
end
end
end
section
open Go (IntKind)
section
variable {pre x post:List Nat} {i:Nat}
def pq:(pre++x++post).length=pre.length+x.length+post.length:=by grind
def CX (h:i<x.length):(pre++x++post).getD (pre.length+i) 0=x.getD i 0:=by grind
def NI (a:Nat) (h:i<x.length):(pre++x++post).set (pre.length+i) a=pre++x.set i a++post:=by simp_all
end
def mw (n:Nat) (k:yY) (a:Int):below n (.int k a)=True:=rfl
def nl (n id o k:Nat):below n (.aC id o k)=(id<n):=rfl
def mo (n:Nat):qW n []=True:=rfl
def mj (n i:Nat) (v:AV) (r:Env):qW n ((i,v)::r)=(below n v/\qW n r):=rfl
def qP {live:List Nat} {tm:Env} {ct:Nat} {a b:List AV} (ht:qW 2 (eh tm live)) (hl:(jx (eh tm live)).length<100000):
  aT live ⟨tm,[(1,.cells true true true 1 a),(0,.cells true true true 1 b)],ct,2⟩=⟨eh tm live,[(1,.cells true true true 1 a),(0,.cells true true true 1 b)],2,2⟩:=
 YA ht ⟨by omega,.inl rfl,by omega,.inl rfl,trivial⟩ (by
  have:jt 2 [(1,Obj.cells true true true 1 a),(0,Obj.cells true true true 1 b)]=[]:=rfl
  rw [this,List.length_nil,y7];exact hl)
section
variable {P:aG} {L:Lib}
def ajQ {x s c:Nat} (hs:s<64) (hx:x<18446744073709551616) (hc:c<2^s):
  c|||(x*2^s%18446744073709551616)<18446744073709551616/\c<18446744073709551616/\x/2^(64-s)<2^s/\(c|||(x*2^s%18446744073709551616))+18446744073709551616*(x/2^(64-s))=x*2^s+c:=by
 have e:18446744073709551616=2^(64-s)*2^s:=by rw [<-wB,show 64-s+s=64 by omega]
 have h1:x*2^s%18446744073709551616=(x%2^(64-s))*2^s:=by rw [e,uk]
 have h2:x/2^(64-s)<2^s:=by
  refine (xU (wE _)).2 ?_
  grind
 have h3:c|||(x*2^s%18446744073709551616)=(x%2^(64-s))*2^s+c:=by rw [h1,ybE,Tv hc]
 have h4:(x%2^(64-s))*2^s+c<18446744073709551616:=by
  have:=yX (2^s) (show x%2^(64-s)+1<=2^(64-s) from xz _ (wE _))
  grind
 have h5:=yay x (2^(64-s))
 grind
def ase {v:AV} {w:List Nat} (hv:bJ v w) (hw:lo 18446744073709551616 w) (lw:w.length<=99999999999) {s n:Nat} (hs:s<64) (hn:n=w.length+1):
  ∀k st,(∃(i:Nat) (out:List Nat),aT [1,5,12,13,14] st=⟨[(1,aa s),(5,.aC 0 0 n),(12,v),(13,aa w.length),(14,aa i)],[(0,.cells true true true 1 (out.map uc))],1,0⟩/\i+k=w.length/\out.length=n/\lo 18446744073709551616 out/\bv 18446744073709551616 out=bv 18446744073709551616 (w.take i)*2^s/\out.getD i 0<2^s/\(∀m,i<m->out.getD m 0=0))->
   ∃ex st',D P L (.loop [1,5,12,13,14] Fs) st=some (ex,st')/\∃tm out,st'=⟨tm,[(0,.cells true true true 1 (out.map uc))],1,0⟩/\ex= .exit 0/\ah tm 5= .aC 0 0 n/\out.length=n/\lo 18446744073709551616 out/\bv 18446744073709551616 out=bv 18446744073709551616 w*2^s:=by
 intro dq sq;generalize bw:aT [1,5,12,13,14] sq=s0;revert bw s0 sq dq;apply dn;rintro k st ⟨i,out,rfl,hk,hlen,bj,aR,hc,gL⟩;by_cases hi:i<w.length
 ·left
  have gx:=gO (show 0<18446744073709551616 by decide) hw i;have ex:=hv.aZ hi;have ec:=zW (l:=out) (o:=i) (by omega);have bg:=n7 (b:=18446744073709551616) (l:=out) (i:=i) (x:=out.getD i 0|||(w.getD i 0*2^s%18446744073709551616)) (by omega);have hz:out.getD (i+1) 0=0:=gL _ (by omega);have eK:=jv (b:=18446744073709551616) (l:=w) i;generalize out.getD i 0=c at*
  generalize w.getD i 0=x at*
  obtain ⟨s1,s2,s3,s4⟩:=ajQ hs gx hc;have o1:=KE .i64 x (s:=s) (by omega);have o2:=W5 s2 (xz (x*2^s) (by decide));have o3:binOp .sub (.int .i64 64) (aa s)=some (aa (64-s:Nat)):=by
   rw [NF,wrap64 (by omega) (by omega)];congr 2;omega
  have o4:=KF .i64 x (s:=64-s) (by omega);generalize mZ:c|||(x*2^s%18446744073709551616)=c' at*
  by_cases h0:0<s
  ·have Oo:=n7 (b:=18446744073709551616) (l:=out.set i c') (i:=i+1) (x:=x/2^(64-s)) (by simp;omega);rw [po (by omega),hz,xI,y7] at Oo;have avQ:x/2^(64-s)<18446744073709551616:=wu (vh _ _) gx;generalize x/2^(64-s)=y at*
   simp only [go_sem,ya,yh,Fs,show (i:Int)<w.length by omega,ex,cW 0 0 (show i<n by omega),yd,ec,o1,o2,kM (l:=out) (o:=i) (by omega),show (0:Int)<(s:Int) by omega,show (i:Int)+1=((i+1:Nat):Int) from rfl,wrapN (n:=i+1) (by omega),o3,o4,cW 0 0 (show i+1<n by omega),kM (l:=out.set i c') (o:=i+1) (by simp;omega)];refine ⟨_,k-1,rfl,by omega,i+1,(out.set i c').set (i+1) y,by simp only [go_sem,ya,yb,an,ak hv.pu,ao _ hv.pu]<;>rfl,by omega,by simp [hlen],mv (mv bj s1) avQ,?_,by rw [ajq (by simp;omega)];exact s3,fun m hm=>by rw [po (by omega),po (by omega)];exact gL m (by omega)⟩
   rw [eK,xH,Oo,<-aR,xk,xr,xr (18446744073709551616^i)];have e:=congrArg (fun t=>18446744073709551616^i*t) s4;simp only [xA] at e;generalize 18446744073709551616^i*(18446744073709551616*y)=p1 at*
   generalize 18446744073709551616^i*(x*2^s)=p2 at*
   generalize 18446744073709551616^i*c'=p3 at*
   omega
  ·have kJ:s=0:=by omega
   subst kJ;have lH:c=0:=by simpa using hc
   have AI:x/2^(64-0)=0:=wC gx;rw [AI,xI,y7,ybs,yh] at s4
   simp only [go_sem,ya,yh,Fs,show (i:Int)<w.length by omega,ex,cW 0 0 (show i<n by omega),yd,ec,o1,o2,kM (l:=out) (o:=i) (by omega),show ¬(0:Int)<((0:Nat):Int) by omega,show (i:Int)+1=((i+1:Nat):Int) from rfl,wrapN (n:=i+1) (by omega)];refine ⟨_,k-1,rfl,by omega,i+1,out.set i c',by simp only [go_sem,ya,yb,an,ak hv.pu,ao _ hv.pu]<;>rfl,by omega,by simp [hlen],mv bj s1,?_,by rw [po (by omega),hz];exact wE _,fun m hm=>by rw [po (by omega)];exact gL m (by omega)⟩
   rw [ybs,yh] at aR ⊢;rw [eK,<-aR];rw [lH,xI,y7] at bg;rw [bg,s4,lH,y7]
 ·right
  have:i=w.length:=by omega
  subst this;rw [xQ] at aR;simp only [go_sem,ya,Fs,show ¬(w.length:Int)<w.length by omega];exact ⟨_,_,rfl,by simp,_,out,rfl,rfl,by simp only [go_sem,ya],hlen,bj,aR⟩
def afI (h:Has P L 168 O2) {v:AV} {w:List Nat} (hv:bJ v w) (hw:lo 18446744073709551616 w) (lw:w.length<=99999999999) {s:Nat} (hs:s<64):
  ∃out,ae P L 168 [v,aa s] (.bW true 1 (w.length+1) (out.map uc))/\out.length=w.length+1/\lo 18446744073709551616 out/\bv 18446744073709551616 out=bv 18446744073709551616 w*2^s:=by
 obtain ⟨n,hn⟩:∃n,n=w.length+1:=⟨_,rfl⟩;unfold ae;rw [ay h]
 simp only [go_sem,ya,yb,O2,hv.len,wrapN (n:=n) (by omega),show (w.length:Int)+1=((w.length+1:Nat):Int) from rfl,<-hn,DV (n:=n) _ (by omega)];generalize hq:D P L (.loop [1,5,12,13,14] Fs) _=q;obtain ⟨ex,st,rfl,tm,o,rfl,rfl,t5,hlen,bj,aR⟩:=bD hq (ase (P:=P) (L:=L) hv hw lw hs hn w.length)
  ⟨0,yG n 0,by simp only [go_sem,ya,yb,an,ak hv.pu,ao _ hv.pu]<;>rfl,by omega,by simp,FH (by decide) n,by rw [FI];simp [bv],by rw [CV];exact wE _,fun m _=>CV n m⟩
 refine ⟨o,?_,hlen,bj,aR⟩;simp only [go_sem,yb,an,t5];exact oX (nd _ _ _) (by simp [hlen]) (by decide)
end
end
section
open Go (IntKind)
abbrev H2 (a b:List Nat):Hp:=[(1,.cells true true true 1 (a.map uc)),(0,.cells true true true 1 (b.map uc))]
structure gH (x vs:List Nat) (n v1 v2 u0 u1 u2:Nat):Prop where
 n2:2<=n
 nb:n<=99999999999
 lx:x.length=n+1
 lv:vs.length=n
 gx:lo 18446744073709551616 x
 gv:lo 18446744073709551616 vs
 eZ:vs.getD (n-1) 0=v1
 cY:vs.getD (n-2) 0=v2
 h0:x.getD n 0=u0
 h1:x.getD (n-1) 0=u1
 h2:x.getD (n-2) 0=u2
 pos:0<v1
 lt:bv 18446744073709551616 x<18446744073709551616*bv 18446744073709551616 vs
def aum (b p a v1 v2:Nat):a+p*v2+p*b*v1=(v1*b+v2)*p+a:=by grind
def aun (b p a v0 v1 v2:Nat):a+p*v2+p*b*v1+p*b*b*v0=((v0*b+v1)*b+v2)*p+a:=by grind
section
variable {x vs:List Nat} {n v1 v2 u0 u1 u2:Nat}
def gH.LJ (h:gH x vs n v1 v2 u0 u1 u2):v1<18446744073709551616:=h.eZ▸gO (by decide) h.gv _
def gH.Ep (h:gH x vs n v1 v2 u0 u1 u2):v2<18446744073709551616:=h.cY▸gO (by decide) h.gv _
def gH.Xa (h:gH x vs n v1 v2 u0 u1 u2):u0<18446744073709551616:=h.h0▸gO (by decide) h.gx _
def gH.LK (h:gH x vs n v1 v2 u0 u1 u2):u1<18446744073709551616:=h.h1▸gO (by decide) h.gx _
def gH.LL (h:gH x vs n v1 v2 u0 u1 u2):u2<18446744073709551616:=h.h2▸gO (by decide) h.gx _
def gH.parts (h:gH x vs n v1 v2 u0 u1 u2):∃p vr ur,bv 18446744073709551616 vs=(v1*18446744073709551616+v2)*p+vr/\vr<p/\bv 18446744073709551616 x=((u0*18446744073709551616+u1)*18446744073709551616+u2)*p+ur/\ur<p:=by
 obtain ⟨m,hm⟩:∃m,n=m+2:=⟨n-2,by have:=h.n2;omega⟩;subst hm;have e1:=jv (b:=18446744073709551616) (l:=vs) (m+1);have e2:=jv (b:=18446744073709551616) (l:=vs) m;have f0:=jv (b:=18446744073709551616) (l:=x) (m+2);have f1:=jv (b:=18446744073709551616) (l:=x) (m+1);have f2:=jv (b:=18446744073709551616) (l:=x) m;have eZ:vs.getD (m+1) 0=v1:=h.eZ;have cY:vs.getD m 0=v2:=h.cY;have h0:x.getD (m+2) 0=u0:=h.h0;have h1:x.getD (m+1) 0=u1:=h.h1;have h2:x.getD m 0=u2:=h.h2
 rw [yp (by have:=h.lv;omega),eZ,e2,cY] at e1
 rw [yp (by have:=h.lx;omega),h0,f1,h1,f2,h2] at f0;have g1:=mA (Bb h.gv m)
 rw [yQ,xX (by have:=h.lv;omega)] at g1;have g2:=mA (Bb h.gx m)
 rw [yQ,xX (by have:=h.lx;omega)] at g2;refine ⟨18446744073709551616^m,_,_,?_,g1,?_,g2⟩
 ·grind
 ·grind
def gH.down (h:gH x vs n v1 v2 u0 u1 u2) {t r:Nat} (ht:t*v1+r=u0*18446744073709551616+u1) (hr:r*18446744073709551616+u2<t*v2):bv 18446744073709551616 x/bv 18446744073709551616 vs<=t-1:=by
 obtain ⟨p,vr,ur,h1,h2,h3,h4⟩:=h.parts;exact Y2 h1 h3 h4 ht hr
def gH.stop (h:gH x vs n v1 v2 u0 u1 u2) {t r:Nat} (kL:t<18446744073709551616) (ht:t*v1+r=u0*18446744073709551616+u1) (hr:18446744073709551616<=r\/t*v2<=r*18446744073709551616+u2):t<=bv 18446744073709551616 x/bv 18446744073709551616 vs+1:=by
 obtain ⟨p,vr,ur,h1,h2,h3,h4⟩:=h.parts;exact ZM (by decide) h1 h2 h3 h.pos h.Ep kL ht hr
def gH.first (h:gH x vs n v1 v2 u0 u1 u2):bv 18446744073709551616 x/bv 18446744073709551616 vs<=(u0*18446744073709551616+u1)/v1:=by
 obtain ⟨p,vr,ur,h1,h2,h3,h4⟩:=h.parts;exact Rr h1 h3 h4 h.LL h.pos
def gH.top (h:gH x vs n v1 v2 u0 u1 u2):u0<=v1:=by
 obtain ⟨p,vr,ur,h1,h2,h3,h4⟩:=h.parts;exact ZN h1 h3 h2 h.Ep h.lt
def gH.digit (h:gH x vs n v1 v2 u0 u1 u2):bv 18446744073709551616 x/bv 18446744073709551616 vs<18446744073709551616:=by
 refine (xU ?_).2 h.lt;rcases xt (bv 18446744073709551616 vs) with h0 | h0
 ·have:=h.lt;rw [h0] at this;simp at this
 ·exact h0
end
section
variable {P:aG} {L:Lib}
def ads (mQ:L.pure 143=some r9) (gT:L.pure 171=some nZ) {w:AV} {x vs pre post qs:List Nat} (hw:bJ w vs) {n v1 v2 u0 u1 u2:Nat} (hl:gH x vs n v1 v2 u0 u1 u2):
  ∀k s,(∃q r:Nat,aT [0,1,5,6,7,8] s=⟨[(0,.aC 0 pre.length (n+1)),(1,w),(5,aa n),(6,uc q),(7,uc (r%18446744073709551616)),(8,uc (r/18446744073709551616))],H2 qs (pre++x++post),2,2⟩/\q*v1+r=u0*18446744073709551616+u1/\r<2*18446744073709551616/\q<18446744073709551616/\bv 18446744073709551616 x/bv 18446744073709551616 vs<=q/\q=k)->
   ∃ex s',D P L (.loop [0,1,5,6,7,8] zO) s=some (ex,s')/\∃tm q,s'=⟨tm,H2 qs (pre++x++post),2,2⟩/\ex= .exit 0/\ah tm 0= .aC 0 pre.length (n+1)/\ah tm 1=w/\ah tm 5=aa n/\ah tm 6=uc q/\q<18446744073709551616/\bv 18446744073709551616 x/bv 18446744073709551616 vs<=q/\q<=bv 18446744073709551616 x/bv 18446744073709551616 vs+1:=by
 intro dq sq;generalize bw:aT [0,1,5,6,7,8] sq=s0;revert bw s0 sq dq;apply dn;rintro k s ⟨q,r,rfl,hq,hr,oO,hQ,rfl⟩;have ew:=hl.n2;have qd:=hl.nb;by_cases ma:r<18446744073709551616
 ·have G3:r%18446744073709551616=r:=yS ma;have Ci:r/18446744073709551616=0:=wC ma;rw [G3,Ci];have Gq:=hl.LJ;have Va:=hl.Ep;have afJ:=hl.LL;have qj:=hw.aZ (i:=n-2) (by have:=hl.lv;omega);have fa:=hw.aZ (i:=n-1) (by have:=hl.lv;omega);rw [hl.cY] at qj;rw [hl.eZ] at fa;have zo:=zW (l:=pre++x++post) (o:=pre.length+(n-2)) (by rw [pq];have:=hl.lx;omega)
  rw [CX (by have:=hl.lx;omega),hl.h2] at zo;have f1:=NX (P:=P) (f:=D P L) mQ oO Va;have f2:=Dk (P:=P) (f:=D P L) gT (x:=r) (y:=v1) (c:=0) ma Gq (by omega);rw [show (uc 0)=AV.int .u64 0 from rfl] at f2;have fu:=xV (q*v2) 18446744073709551616;have bj:=xz (q*v2) (show 0<18446744073709551616 by decide);obtain ⟨H,hH⟩:∃H,H=q*v2/18446744073709551616:=⟨_,rfl⟩;obtain ⟨G,hG⟩:∃G,G=q*v2%18446744073709551616:=⟨_,rfl⟩;rw [<-hH,<-hG] at f1 fu;rw [<-hG] at bj;have AJ:(n:Int)-2=((n-2:Nat):Int):=by omega
  have qt:(n:Int)-1=((n-1:Nat):Int):=by omega
  by_cases c1:H<r
  ·right
   simp only [go_sem,ya,zO,H2,show ((0:Nat):Int)=0 from rfl,AJ,wrapN (n:=n-2) (by omega),qj,f1,show (H:Int)<(r:Int) by omega];exact ⟨_,_,rfl,by simp,_,q,rfl,rfl,by simp only [go_sem,ya],by simp only [go_sem,ya],by simp only [go_sem,ya],by simp only [go_sem,ya],oO,hQ,hl.stop oO hq (.inr (by omega))⟩
  ·by_cases c2:H=r/\G<=u2
   ·right
    obtain ⟨c2,c3⟩:=c2
    simp only [go_sem,ya,zO,H2,show ((0:Nat):Int)=0 from rfl,AJ,wrapN (n:=n-2) (by omega),qj,f1,show (H:Int)=(r:Int) by omega];simp only [show ¬(r:Int)<(r:Int) by omega,yk]
    simp only [go_sem,ya,yh,AJ,wrapN (n:=n-2) (by omega),cW 0 pre.length (show n-2<n+1 by omega),zo,show (G:Int)<=(u2:Int) by omega];exact ⟨_,_,rfl,by simp,_,q,rfl,rfl,by simp only [go_sem,ya],by simp only [go_sem,ya],by simp only [go_sem,ya],by simp only [go_sem,ya],oO,hQ,hl.stop oO hq (.inr (by omega))⟩
   ·left
    have GK:r*18446744073709551616+u2<q*v2:=by omega
    have bw:0<q:=by
     rcases xt q with h0 | h0
     ·subst h0;omega
     ·exact h0
    have e3:binOp .sub (uc q) (.int .u64 1)=some (uc (q-1)):=DW (b:=1) (by omega) (by omega);have h1:(q-1)*v1+(r+v1)=u0*18446744073709551616+u1:=by
     obtain ⟨p,rfl⟩:∃p,q=p+1:=⟨q-1,by omega⟩;rw [xH,Nat.one_mul] at hq;rw [tc];omega
    have AK:=hl.down hq GK;rw [y7] at f2;by_cases c3:H=r
    ·have c4:¬G<=u2:=fun h=>c2 ⟨c3,h⟩
     subst c3
     simp only [go_sem,ya,xj,yh,zO,H2,show ((0:Nat):Int)=0 from rfl,AJ,qt,wrapN (n:=n-2) (by omega),wrapN (n:=n-1) (by omega),qj,fa,f1,f2,show ¬(H:Int)<(H:Int) by omega,cW 0 pre.length (show n-2<n+1 by omega),zo,show ¬(G:Int)<=(u2:Int) by omega,e3];refine ⟨_,q-1,rfl,by omega,q-1,H+v1,?_,h1,by omega,by omega,AK,rfl⟩;rw [qP (by simp only [go_sem,ya,yt,mw,nl,mo,mj,qF hw.pu,wL]) (by simp only [go_sem,ya,yb,yt,ak hw.pu])];simp only [go_sem,ya]
    ·simp only [go_sem,ya,xj,zO,H2,show ((0:Nat):Int)=0 from rfl,AJ,qt,wrapN (n:=n-2) (by omega),wrapN (n:=n-1) (by omega),qj,fa,f1,f2,show ¬(H:Int)<(r:Int) by omega,show ¬(H:Int)=(r:Int) by omega,e3];refine ⟨_,q-1,rfl,by omega,q-1,r+v1,?_,h1,by omega,by omega,AK,rfl⟩;rw [qP (by simp only [go_sem,ya,yt,mw,nl,mo,mj,qF hw.pu,wL]) (by simp only [go_sem,ya,yb,yt,ak hw.pu])];simp only [go_sem,ya]
 ·right
  have Ci:r/18446744073709551616=1:=by omega
  rw [Ci];simp only [go_sem,ya,zO,H2,show ((1:Nat):Int)=1 from rfl,Int.reduceEq];exact ⟨_,_,rfl,by simp,_,q,rfl,rfl,by simp only [go_sem,ya],by simp only [go_sem,ya],by simp only [go_sem,ya],by simp only [go_sem,ya],oO,hQ,hl.stop oO hq (.inl (by omega))⟩
end
end
section
open Go (IntKind)
def alp {b p x y z nS c bo AL ca q v X Y:Nat} (h1:q*v+c=b*ca+nS) (h2:z+nS+bo=x+b*AL) (h3:Y+q*X=y+p*(c+bo)) (W:Nat) (hW:W+p*x=Y+p*z):
  W+q*(X+p*v)=y+p*b*(ca+AL):=by grind
def alq {q v c:Nat} (hq:q<18446744073709551616) (hv:v<18446744073709551616) (hc:c<18446744073709551616):
  q*v+c=18446744073709551616*(q*v/18446744073709551616+(q*v%18446744073709551616+c+0)/18446744073709551616)+(q*v%18446744073709551616+c+0)%18446744073709551616/\
  q*v/18446744073709551616+(q*v%18446744073709551616+c+0)/18446744073709551616<18446744073709551616:=by
 have h:=xB (show q<=18446744073709551615 by omega) (show v<=18446744073709551615 by omega)
 grind
section
variable {P:aG} {L:Lib}
def asf (mQ:L.pure 143=some r9) (gT:L.pure 171=some nZ) (sJ:L.pure 173=some Be) {w:AV} {x vs pre post qs:List Nat} (hw:bJ w vs) {n:Nat} (qd:n<=99999999999) (lv:vs.length=n) (gv:lo 18446744073709551616 vs) {q:Nat} (hq:q<18446744073709551616):
  ∀k s,(∃(i c bo:Nat) (y:List Nat),aT [0,1,5,6,11,12,104,105] s=⟨[(0,.aC 0 pre.length (n+1)),(1,w),(5,aa n),(6,uc q),(11,uc bo),(12,uc c),(104,aa n),(105,aa i)],H2 qs (pre++y++post),2,2⟩/\i+k=n/\y.length=n+1/\lo 18446744073709551616 y/\c<18446744073709551616/\bo<=1/\
    bv 18446744073709551616 y+q*bv 18446744073709551616 (vs.take i)=bv 18446744073709551616 x+18446744073709551616^i*(c+bo))->
   ∃ex s',D P L (.loop [0,1,5,6,11,12,104,105] Jk) s=some (ex,s')/\∃tm c bo y,s'=⟨tm,H2 qs (pre++y++post),2,2⟩/\ex= .exit 2/\ah tm 0= .aC 0 pre.length (n+1)/\ah tm 1=w/\ah tm 5=aa n/\ah tm 6=uc q/\ah tm 11=uc bo/\ah tm 12=uc c/\y.length=n+1/\lo 18446744073709551616 y/\c<18446744073709551616/\bo<=1/\
    bv 18446744073709551616 y+q*bv 18446744073709551616 vs=bv 18446744073709551616 x+18446744073709551616^n*(c+bo):=by
 intro dq sq;generalize bw:aT [0,1,5,6,11,12,104,105] sq=s0;revert bw s0 sq dq;apply dn;rintro k s ⟨i,c,bo,y,rfl,hk,ly,gy,hc,jo,aR⟩;by_cases hi:i<n
 ·left
  have dV:(0:Nat)<18446744073709551616:=by decide
  have rI:=gO dV gv i;have qu:=gO dV gy i;have ev:=hw.aZ (i:=i) (by omega);have ey:=zW (l:=pre++y++post) (o:=pre.length+i) (by rw [pq];omega);rw [CX (by omega)] at ey;have eK:=jv (b:=18446744073709551616) (l:=vs) i;obtain ⟨a,ha⟩:∃a,a=vs.getD i 0:=⟨_,rfl⟩;obtain ⟨d,hd⟩:∃d,d=y.getD i 0:=⟨_,rfl⟩;rw [<-ha] at rI ev eK;rw [<-hd] at qu ey;obtain ⟨m1,m2⟩:=alq hq rI hc;have f1:=NX (P:=P) (f:=D P L) mQ hq rI;have f2:=Dk (P:=P) (f:=D P L) gT (x:=q*a%18446744073709551616) (y:=c) (c:=0) (xz _ dV) hc (by omega);obtain ⟨nS,afK⟩:∃t,t=(q*a%18446744073709551616+c+0)%18446744073709551616:=⟨_,rfl⟩;obtain ⟨c1,ez⟩:∃t,t=(q*a%18446744073709551616+c+0)/18446744073709551616:=⟨_,rfl⟩;have afL:nS<18446744073709551616:=by rw [afK];exact xz _ dV
  rw [<-afK,<-ez] at f2 m1;rw [<-ez] at m2;obtain ⟨h1,jk⟩:∃t,t=q*a/18446744073709551616:=⟨_,rfl⟩;rw [<-jk] at f1 m1 m2;rw [show (uc 0)=AV.int .u64 0 from rfl] at f2;have f3:=Tu (P:=P) (f:=D P L) sJ qu afL jo;have gM:=Sz qu afL jo;obtain ⟨z,hz⟩:∃t,t=(d+18446744073709551616*2-nS-bo)%18446744073709551616:=⟨_,rfl⟩;obtain ⟨b',cR⟩:∃t,t=(if nS+bo<=d then 0 else 1):=⟨_,rfl⟩;have jS:b'<=1:=by rw [cR];split<;>omega
  have G2:z<18446744073709551616:=by rw [hz];exact xz _ dV
  rw [<-hz,<-cR] at f3 gM;have f4:binOp .add (uc h1) (uc c1)=some (uc (h1+c1)):=by
   rw [Bw,yS m2]
  have bg:=n7 (b:=18446744073709551616) (l:=y) (i:=i) (x:=z) (by omega);rw [<-hd] at bg;have aP:=fun (hp:Hp) (ct:Nat)=>kM (hp:=hp) (ct:=ct) (id:=0) (v:=z) (ex:=true) (l:=pre++y++post) (o:=pre.length+i) (by rw [pq];omega)
  have om:=NI (pre:=pre) (x:=y) (post:=post) (i:=i) z (by omega);simp only [go_sem,ya,yh,Jk,H2,show (i:Int)<(n:Int) by omega,ev,f1,f2,f4,cW 0 pre.length (show i<n+1 by omega),ey,f3,aP,om];refine ⟨_,k-1,rfl,by omega,i+1,h1+c1,b',y.set i z,?_,by omega,by simp [ly],mv gy G2,m2,jS,?_⟩
  ·rw [qP (by simp only [go_sem,ya,yt,mw,nl,mo,mj,qF hw.pu,wL]) (by simp only [go_sem,ya,yb,yt,ak hw.pu])];rw [wrap64 (by omega) (by omega)];simp only [go_sem,ya]<;>rfl
  ·rw [eK,xk];exact alp m1 gM aR _ bg
 ·right
  have:i=n:=by omega
  subst this;rw [yp (by omega)] at aR;simp only [go_sem,ya,Jk,H2,show ¬(i:Int)<(i:Int) by omega];exact ⟨_,_,rfl,by simp,_,c,bo,y,rfl,rfl,by simp only [go_sem,ya],by simp only [go_sem,ya],by simp only [go_sem,ya],by simp only [go_sem,ya],by simp only [go_sem,ya],by simp only [go_sem,ya],ly,gy,hc,jo,aR⟩
def asg (gT:L.pure 171=some nZ) {w:AV} {y0 vs pre post qs:List Nat} (hw:bJ w vs) {n:Nat} (qd:n<=99999999999) (lv:vs.length=n) (gv:lo 18446744073709551616 vs) {q:Nat}:
  ∀k s,(∃(i c:Nat) (y:List Nat),aT [0,1,5,6,17,156,157] s=⟨[(0,.aC 0 pre.length (n+1)),(1,w),(5,aa n),(6,uc q),(17,uc c),(156,aa n),(157,aa i)],H2 qs (pre++y++post),2,2⟩/\i+k=n/\y.length=n+1/\lo 18446744073709551616 y/\c<=1/\
    bv 18446744073709551616 y+18446744073709551616^i*c=bv 18446744073709551616 y0+bv 18446744073709551616 (vs.take i))->
   ∃ex s',D P L (.loop [0,1,5,6,17,156,157] Jl) s=some (ex,s')/\∃tm c y,s'=⟨tm,H2 qs (pre++y++post),2,2⟩/\ex= .exit 4/\ah tm 0= .aC 0 pre.length (n+1)/\ah tm 5=aa n/\ah tm 6=uc q/\ah tm 17=uc c/\y.length=n+1/\lo 18446744073709551616 y/\c<=1/\
    bv 18446744073709551616 y+18446744073709551616^n*c=bv 18446744073709551616 y0+bv 18446744073709551616 vs:=by
 intro dq sq;generalize bw:aT [0,1,5,6,17,156,157] sq=s0;revert bw s0 sq dq;apply dn;rintro k s ⟨i,c,y,rfl,hk,ly,gy,hc,aR⟩;by_cases hi:i<n
 ·left
  have dV:(0:Nat)<18446744073709551616:=by decide
  have rI:=gO dV gv i;have qu:=gO dV gy i;have ev:=hw.aZ (i:=i) (by omega);have ey:=zW (l:=pre++y++post) (o:=pre.length+i) (by rw [pq];omega);rw [CX (by omega)] at ey;have eK:=jv (b:=18446744073709551616) (l:=vs) i;obtain ⟨a,ha⟩:∃a,a=vs.getD i 0:=⟨_,rfl⟩;obtain ⟨d,hd⟩:∃d,d=y.getD i 0:=⟨_,rfl⟩;rw [<-ha] at rI ev eK;rw [<-hd] at qu ey;have f1:=Dk (P:=P) (f:=D P L) gT qu rI hc;have bg:=n7 (b:=18446744073709551616) (l:=y) (i:=i) (x:=(d+a+c)%18446744073709551616) (by omega);rw [<-hd] at bg;have jl:=MP (18446744073709551616^i) 18446744073709551616 (d+a+c);have mZ:(d+a+c)/18446744073709551616<=1:=by omega
  have G2:(d+a+c)%18446744073709551616<18446744073709551616:=xz _ dV;generalize (d+a+c)%18446744073709551616=z at*
  generalize (d+a+c)/18446744073709551616=c' at*
  have aP:=fun (hp:Hp) (ct:Nat)=>kM (hp:=hp) (ct:=ct) (id:=0) (v:=z) (ex:=true) (l:=pre++y++post) (o:=pre.length+i) (by rw [pq];omega)
  have om:=NI (pre:=pre) (x:=y) (post:=post) (i:=i) z (by omega);simp only [go_sem,ya,yh,Jl,H2,show (i:Int)<(n:Int) by omega,ev,f1,cW 0 pre.length (show i<n+1 by omega),ey,aP,om];refine ⟨_,k-1,rfl,by omega,i+1,c',y.set i z,?_,by omega,by simp [ly],mv gy G2,mZ,?_⟩
  ·rw [qP (by simp only [go_sem,ya,yt,mw,nl,mo,mj,qF hw.pu,wL]) (by simp only [go_sem,ya,yb,yt,ak hw.pu])];rw [wrap64 (by omega) (by omega)];simp only [go_sem,ya]<;>rfl
  ·rw [eK,xk];rw [xA,xA] at jl;omega
 ·right
  have:i=n:=by omega
  subst this;rw [yp (by omega)] at aR;simp only [go_sem,ya,Jl,H2,show ¬(i:Int)<(i:Int) by omega];exact ⟨_,_,rfl,by simp,_,c,y,rfl,rfl,by simp only [go_sem,ya],by simp only [go_sem,ya],by simp only [go_sem,ya],by simp only [go_sem,ya],ly,gy,hc,aR⟩
end
end
section
open Go (IntKind)
def step_end {A V q Y B bo:Nat} (hV:0<V) (h:Y+q*V=A+B*bo) (h1:A/V<=q) (h2:q<=A/V+1) (hY:Y<B) (hVB:V<=B) (jo:bo<=1):
  (bo=0->q=A/V/\Y=A%V)/\(bo=1->q=A/V+1/\Y+V=B+A%V):=by
 have fu:=xV A V;have hm:=xz A hV;generalize A/V=Q at*
 have hq:q=Q\/q=Q+1:=by omega
 constructor
 ·rintro rfl;rcases hq with rfl | rfl
  ·grind
  ·grind
 ·grind
section
variable {P:aG} {L:Lib}
structure Wd (P:aG) (L:Lib):Prop where
 mQ:L.pure 143=some r9
 gT:L.pure 171=some nZ
 sJ:L.pure 173=some Be
 KG:L.pure 167=some FR
 afM:Has P L 165 Kg
 mN:Has P L 166 BF
 afN:Has P L 168 O2
 avR:Has P L 169 sE
 afO:Has P L 158 Gc
 avS:Has P L 157 Kf
 afP:Has P L 159 O0
 avT:Has P L 144 OX
 Vb:Has P L 137 Kd
def aw:VC->VC
 | .seq _ b=>b
 | c=>c
def ash (h:Wd P L) {w:AV} {x vs pre post qs:List Nat} (hw:bJ w vs) {n v1 v2 u0 u1 u2:Nat} (hl:gH x vs n v1 v2 u0 u1 u2) {q:Nat} (hq:q<18446744073709551616) (fq:bv 18446744073709551616 x/bv 18446744073709551616 vs<=q) (G4:q<=bv 18446744073709551616 x/bv 18446744073709551616 vs+1):
  ∃tm x',D P L (aw (aw (aw (aw (aw (aw sE.body)))))) ⟨[(0,.aC 0 pre.length (n+1)),(1,w),(5,aa n),(6,uc q)],H2 qs (pre++x++post),2,2⟩=some (.ret,⟨tm,H2 qs (pre++x'++post),2,2⟩)/\ah tm 4=uc (bv 18446744073709551616 x/bv 18446744073709551616 vs)/\x'.length=n+1/\lo 18446744073709551616 x'/\bv 18446744073709551616 x'=bv 18446744073709551616 x%bv 18446744073709551616 vs:=by
 have ew:=hl.n2;have qd:=hl.nb;have dV:(0:Nat)<18446744073709551616:=by decide
 have hV:0<bv 18446744073709551616 vs:=by
  rcases xt (bv 18446744073709551616 vs) with h0 | h0
  ·have:=hl.lt;rw [h0] at this;simp at this
  ·exact h0
 have zp:below 2 w:=qF hw.pu;have LM:=mA hl.gv;rw [hl.lv] at LM;have aBl:18446744073709551616^n<=18446744073709551616^(n+1):=Nat.pow_le_pow_right (by decide) (by omega);have aBm:aw (aw (aw (aw (aw (aw sE.body)))))=aw (aw (aw (aw (aw (aw sE.body))))):=rfl;simp only [go_sem,ya,sE,aw,H2];generalize nc:D P L (.loop [0,1,5,6,11,12,104,105] Jk) _=qq;obtain ⟨ex,s,rfl,tm,c,bo,y,rfl,rfl,t0,t1,t5,t6,t11,t12,ly,gy,hc,jo,aR⟩:=bD nc (asf (P:=P) (L:=L) h.mQ h.gT h.sJ hw qd hl.lv hl.gv hq (x:=x) (pre:=pre) (post:=post) (qs:=qs) n) ⟨0,0,0,x,by
  rw [qP (by simp only [go_sem,ya,yt,mw,nl,mo,mj,zp,wL]) (by simp only [go_sem,ya,yb,yt,ak hw.pu])]
  simp only [go_sem,ya]<;>rfl,by omega,hl.lx,hl.gx,dV,by omega,by simp [bv]⟩
 have Xb:=gO dV gy n;have ey:=zW (l:=pre++y++post) (o:=pre.length+n) (by rw [pq];omega);rw [CX (by omega)] at ey;obtain ⟨d,hd⟩:∃d,d=y.getD n 0:=⟨_,rfl⟩;rw [<-hd] at Xb ey;have f3:=Tu (P:=P) (f:=D P L) h.sJ Xb hc jo;have gM:=Sz Xb hc jo;obtain ⟨z,hz⟩:∃t,t=(d+18446744073709551616*2-c-bo)%18446744073709551616:=⟨_,rfl⟩;obtain ⟨b',cR⟩:∃t,t=(if c+bo<=d then 0 else 1):=⟨_,rfl⟩;have jS:b'<=1:=by rw [cR];split<;>omega
 have G2:z<18446744073709551616:=by rw [hz];exact xz _ dV
 rw [<-hz,<-cR] at f3 gM;have bg:=n7 (b:=18446744073709551616) (l:=y) (i:=n) (x:=z) (by omega);rw [<-hd] at bg;have aP:=fun (hp:Hp) (ct:Nat)=>kM (hp:=hp) (ct:=ct) (id:=0) (v:=z) (ex:=true) (l:=pre++y++post) (o:=pre.length+n) (by rw [pq];omega)
 have om:=NI (pre:=pre) (x:=y) (post:=post) (i:=n) z (by omega);have Er:lo 18446744073709551616 (y.set n z):=mv gy G2;have Cj:(y.set n z).length=n+1:=by simp [ly]
 have hY:=mA Er;rw [Cj] at hY;have avU:bv 18446744073709551616 (y.set n z)+q*bv 18446744073709551616 vs=bv 18446744073709551616 x+18446744073709551616^(n+1)*b':=by
  have e2:=congrArg (fun t=>18446744073709551616^n*t) gM;rw [xk,xr];simp only [xA] at e2 aR;generalize 18446744073709551616^n*(18446744073709551616*b')=p1 at*
  generalize 18446744073709551616^n*z=p2 at*
  generalize 18446744073709551616^n*d=p3 at*
  generalize 18446744073709551616^n*c=p4 at*
  generalize 18446744073709551616^n*bo=p5 at*
  omega
 obtain ⟨s0,s1⟩:=step_end hV avU fq G4 hY (by omega) jS;simp only [go_sem,ya,yb,yt,yh,qP,mw,nl,mo,mj,zp,wL,ak hw.pu,t0,t1,t5,t6,t11,t12,cW 0 pre.length (show n<n+1 by omega),ey,f3,aP,om];by_cases mf:b'=0
 ·obtain ⟨e1,e2⟩:=s0 mf;simp only [go_sem,ya,show (b':Int)=0 by omega];exact ⟨_,y.set n z,rfl,by rw [<-e1];simp only [go_sem],Cj,Er,e2⟩
 ·obtain ⟨e1,e2⟩:=s1 (by omega);simp only [go_sem,ya,show ¬(b':Int)=0 by omega];generalize DX:D P L (.loop [0,1,5,6,17,156,157] Jl) _=W9;obtain ⟨ex,s,rfl,sT,c2,y2,rfl,rfl,t0,t5,t6,t17,Xc,QB,zd,auo⟩:=bD DX (asg (P:=P) (L:=L) h.gT hw qd hl.lv hl.gv (y0:=y.set n z) (pre:=pre) (post:=post) (qs:=qs) (q:=q) n) ⟨0,0,y.set n z,by
   rw [qP (by simp only [go_sem,ya,yt,mw,nl,mo,mj,zp,wL]) (by simp only [go_sem,ya,yb,yt,ak hw.pu])]
   simp only [go_sem,ya]<;>rfl,by omega,Cj,Er,by omega,by simp [bv]⟩
  have avV:=gO dV QB n;have Xd:=zW (l:=pre++y2++post) (o:=pre.length+n) (by rw [pq];omega);rw [CX (by omega)] at Xd;obtain ⟨d2,fT⟩:∃d,d=y2.getD n 0:=⟨_,rfl⟩;rw [<-fT] at avV Xd;have f4:=Bw d2 c2;have Oo:=n7 (b:=18446744073709551616) (l:=y2) (i:=n) (x:=(d2+c2)%18446744073709551616) (by omega);rw [<-fT] at Oo;have jl:=MP (18446744073709551616^n) 18446744073709551616 (d2+c2);have avW:(d2+c2)%18446744073709551616<18446744073709551616:=xz _ dV;have hc3:(d2+c2)/18446744073709551616<=1:=by omega
  generalize (d2+c2)%18446744073709551616=z2 at*
  generalize (d2+c2)/18446744073709551616=c3 at*
  have Pv:=fun (hp:Hp) (ct:Nat)=>kM (hp:=hp) (ct:=ct) (id:=0) (v:=z2) (ex:=true) (l:=pre++y2++post) (o:=pre.length+n) (by rw [pq];omega)
  have Oq:=NI (pre:=pre) (x:=y2) (post:=post) (i:=n) z2 (by omega);have QC:lo 18446744073709551616 (y2.set n z2):=mv QB avW;have LO:(y2.set n z2).length=n+1:=by simp [Xc]
  have hY3:=mA QC;rw [LO] at hY3;have bw:0<q:=by rw [e1];exact Nat.succ_pos _
  have hq3:bv 18446744073709551616 x/bv 18446744073709551616 vs=q-1:=by rw [e1,tc]
  have f5:binOp .sub (uc q) (.int .u64 1)=some (uc (q-1)):=DW (b:=1) (by omega) (by omega);simp only [go_sem,ya,yb,yt,yh,qP,mw,nl,mo,mj,wL,t0,t5,t6,t17,cW 0 pre.length (show n<n+1 by omega),Xd,f4,Pv,Oq,f5];refine ⟨_,y2.set n z2,rfl,by rw [hq3];simp only [go_sem],LO,QC,?_⟩;have e3:bv 18446744073709551616 (y2.set n z2)+18446744073709551616^(n+1)*c3=18446744073709551616^(n+1)+bv 18446744073709551616 x%bv 18446744073709551616 vs:=by
   rw [<-e2,<-auo,xk];rw [xA] at jl;omega
  rcases (show c3=0\/c3=1 by omega) with rfl | rfl
  ·omega
  ·omega
def avX (h:Wd P L) {w:AV} {x vs pre post qs:List Nat} (hw:bJ w vs) {n v1 v2 u0 u1 u2:Nat} (hl:gH x vs n v1 v2 u0 u1 u2):
  ∃x',je P L (D P L) (H2 qs (pre++x++post)) 2 169 [.aC 0 pre.length (n+1),w]=some (uc (bv 18446744073709551616 x/bv 18446744073709551616 vs),H2 qs (pre++x'++post),2)/\x'.length=n+1/\lo 18446744073709551616 x'/\bv 18446744073709551616 x'=bv 18446744073709551616 x%bv 18446744073709551616 vs:=by
 have ew:=hl.n2;have qd:=hl.nb;have zp:below 2 w:=qF hw.pu;have qt:(n:Int)-1=((n-1:Nat):Int):=by omega
 have fa:=hw.aZ (i:=n-1) (by have:=hl.lv;omega);rw [hl.eZ] at fa;have Cl:=zW (l:=pre++x++post) (o:=pre.length+n) (by rw [pq];have:=hl.lx;omega)
 rw [CX (by have:=hl.lx;omega),hl.h0] at Cl;have Cm:=zW (l:=pre++x++post) (o:=pre.length+(n-1)) (by rw [pq];have:=hl.lx;omega)
 rw [CX (by have:=hl.lx;omega),hl.h1] at Cm;have Gq:=hl.LJ;have Pw:=hl.LK;have ot:=hl.top;have jh:∃tm x',D P L sE.body ⟨fL 0 [.aC 0 pre.length (n+1),w],H2 qs (pre++x++post),2,2⟩=some (.ret,⟨tm,H2 qs (pre++x'++post),2,2⟩)/\ah tm 4=uc (bv 18446744073709551616 x/bv 18446744073709551616 vs)/\x'.length=n+1/\lo 18446744073709551616 x'/\bv 18446744073709551616 x'=bv 18446744073709551616 x%bv 18446744073709551616 vs:=by
  have behind:∀(jQ:Env) (q:Nat),ah jQ 0= .aC 0 pre.length (n+1)->ah jQ 1=w->ah jQ 5=aa n->ah jQ 6=uc q->q<18446744073709551616->bv 18446744073709551616 x/bv 18446744073709551616 vs<=q->q<=bv 18446744073709551616 x/bv 18446744073709551616 vs+1->
    ∃tm x',iQ P L (iQ P L (mB 0 (some (Ex.exit 0,⟨jQ,H2 qs (pre++x++post),2,2⟩))) (.kp [0,1,5,6])) (aw (aw (aw (aw (aw (aw sE.body))))))=some (.ret,⟨tm,H2 qs (pre++x'++post),2,2⟩)/\ah tm 4=uc (bv 18446744073709551616 x/bv 18446744073709551616 vs)/\x'.length=n+1/\lo 18446744073709551616 x'/\bv 18446744073709551616 x'=bv 18446744073709551616 x%bv 18446744073709551616 vs:=by
   intro jQ q t0 t1 t5 t6 g1 g2 g3;have hk:eh jQ [0,1,5,6]=[(0,.aC 0 pre.length (n+1)),(1,w),(5,aa n),(6,uc q)]:=by simp only [go_sem,t0,t1,t5,t6]
   rw [abI,gD,afw,qP (by rw [hk];simp only [go_sem,yt,mw,nl,mo,mj,zp,wL]) (by rw [hk];simp only [go_sem,yb,yt,ak hw.pu]),gD,hk];exact ash h hw hl g1 g2 g3
  by_cases hc:u0<v1
  ·have f1:=afH h.afM h.KG (P:=P) (L:=L) hc Pw Gq;have fu:=xV (u0*18446744073709551616+u1) v1;have pP:=xz (u0*18446744073709551616+u1) hl.pos;have oO:(u0*18446744073709551616+u1)/v1<18446744073709551616:=by
    refine (xU hl.pos).2 ?_
    have:=yX 18446744073709551616 (show u0+1<=v1 from hc)
    rw [xC 18446744073709551616 v1];omega
   have NY:=hl.first;rw [xC] at fu;generalize (u0*18446744073709551616+u1)/v1=q0 at*
   generalize (u0*18446744073709551616+u1)%v1=r0 at*
   simp only [go_sem,ya,yh,sE,H2,hw.len,hl.lv,qt,wrapN (n:=n-1) (by omega),fa,cW 0 pre.length (show n<n+1 by omega),cW 0 pre.length (show n-1<n+1 by omega),Cl,Cm,show ¬(v1:Int)<=(u0:Int) by omega,f1];generalize nc:D P L (.loop [0,1,5,6,7,8] zO) _=qq;obtain ⟨ex,s,rfl,jQ,q,rfl,rfl,t0,t1,t5,t6,g1,g2,g3⟩:=bD nc (ads (P:=P) (L:=L) h.mQ h.gT hw hl (pre:=pre) (post:=post) (qs:=qs) q0) ⟨q0,r0,by
    rw [qP (by simp only [go_sem,ya,yt,mw,nl,mo,mj,zp,wL]) (by simp only [go_sem,ya,yb,yt,ak hw.pu])];rw [yS (show r0<18446744073709551616 by omega),wC (show r0<18446744073709551616 by omega)]
    simp only [go_sem,ya]<;>rfl,fu,by omega,oO,NY,rfl⟩
   exact behind jQ q t0 t1 t5 t6 g1 g2 g3
  ·have oK:u0=v1:=by omega
   have f1:=Dk (P:=P) (f:=D P L) h.gT Pw Gq (c:=0) (by omega);rw [y7,show (uc 0)=AV.int .u64 0 from rfl] at f1;have Px:=hl.digit
   simp only [go_sem,ya,yh,sE,H2,hw.len,hl.lv,qt,wrapN (n:=n-1) (by omega),fa,cW 0 pre.length (show n<n+1 by omega),cW 0 pre.length (show n-1<n+1 by omega),Cl,Cm,show (v1:Int)<=(u0:Int) by omega,f1];generalize nc:D P L (.loop [0,1,5,6,7,8] zO) _=qq;obtain ⟨ex,s,rfl,jQ,q,rfl,rfl,t0,t1,t5,t6,g1,g2,g3⟩:=bD nc (ads (P:=P) (L:=L) h.mQ h.gT hw hl (pre:=pre) (post:=post) (qs:=qs) 18446744073709551615) ⟨18446744073709551615,u1+v1,by
    rw [qP (by simp only [go_sem,ya,yt,mw,nl,mo,mj,zp,wL]) (by simp only [go_sem,ya,yb,yt,ak hw.pu])]
    simp only [go_sem,ya]<;>rfl,by rw [oK];omega,by omega,by decide,by omega,rfl⟩
   exact behind jQ q t0 t1 t5 t6 g1 g2 g3
 obtain ⟨tm,x',g1,g2,g3,g4,g5⟩:=jh;refine ⟨x',?_,g3,g4,g5⟩;exact abN h.avR g1 (.inr rfl) (by show jb _ [RV.t 4]=_;rw [U1,Ud,g2])
end
end
section
open Go (IntKind)
def WN (v:AV) (m:Nat):Prop:=∃l,bJ v l/\lo 18446744073709551616 l/\gY l/\bv 18446744073709551616 l=m
def ans (i:Nat) (q:List Nat) (x:Nat):(yG (i+1) 0++q).set i x=yG i 0++x::q:=by
 rw [List.replicate_succ',List.append_assoc]
 simp_all
def NJ {b:Nat} {l:List Nat} {i:Nat} (h:i<l.length):bv b (l.drop i)=l.getD i 0+b*bv b (l.drop (i+1)):=by
 rw [yN h,gd h];rfl
def Tw {v w:AV} {x y:List Nat} (hv:bJ v x) (hw:bJ w y) (hp:Hp):result hp (.au [v,w])=some (.au [v,w]):=by
 rcases hv with ⟨rfl,_⟩ | ⟨e,rfl⟩<;>rcases hw with ⟨rfl,_⟩ | ⟨e',rfl⟩<;>rfl
def apO {hp:Hp} {id n l h:Nat} {pu ex:Bool} {cs:List AV} {tm:Env} {x y:X} (hg:az hp id=some (.cells true pu ex 1 cs)) (hx:cP tm 0 (some x)=some l) (hy:cP tm n (some y)=some h) (h1:l<h) (h2:h<=n):
  fh hp (.sl 1) (.aC id 0 n) tm (some x) (some y)=some (.aC id l (h-l)):=by
 simp only [fh,hg,hx,hy,yx (uB h1),yx h2,vm,wv,yz,iC (Nat.ne_of_lt h1),wK,yO,yd,yh]
def aaJ {hp:Hp} {id n h:Nat} {pu ex:Bool} {cs:List AV} {tm:Env} {y:X} (hg:az hp id=some (.cells true pu ex 1 cs)) (hy:cP tm n (some y)=some h) (h1:0<h) (h2:h<=n):
  fh hp (.sl 1) (.aC id 0 n) tm none (some y)=some (.aC id 0 h):=by
 have hx:cP tm 0 none=some 0:=rfl;simp only [fh,hg,hx,hy,yx (tq h),yx h2,vm,wv,yz,iC (show (0:Nat)≠h by omega),wK,yO,ybr,y7,Nat.sub_zero]
def aeZ (P:aG) (L:Lib) (f:cD) (hp:Hp) (ct n:Nat) (xs:List AV):eY P L f hp ct .heap (.fn (.f n) [] []) xs=je P L f hp ct n xs:=by
 simp only [eY,xM,List.append_nil]
section
variable {P:aG} {L:Lib}
def asi (h:Wd P L) {v w:AV} {x:List Nat} (hv:bJ v x) (hx:lo 18446744073709551616 x) (lx:x.length<=99999999999) {d:Nat} (hw:bJ w [d]) (iN:0<d) (Xe:d<18446744073709551616) {n:Nat} (hn:n=x.length):
  ∀k s,(∃(i r:Nat) (q:List Nat),aT [0,1,6,7,8] s=⟨[(0,v),(1,w),(6,.aC 0 0 n),(7,uc r),(8,aa ((i:Int)-1))],[(0,.cells true true true 1 ((yG i 0++q).map uc))],1,0⟩/\i=k/\i+q.length=n/\lo 18446744073709551616 q/\r<d/\bv 18446744073709551616 (x.drop i)=bv 18446744073709551616 q*d+r)->
   ∃ex s',D P L (.loop [0,1,6,7,8] Jg) s=some (ex,s')/\∃tm r q,s'=⟨tm,[(0,.cells true true true 1 (q.map uc))],1,0⟩/\ex= .exit 0/\ah tm 6= .aC 0 0 n/\ah tm 7=uc r/\q.length=n/\lo 18446744073709551616 q/\r<d/\bv 18446744073709551616 x=bv 18446744073709551616 q*d+r:=by
 intro dq sq;generalize bw:aT [0,1,6,7,8] sq=s0;revert bw s0 sq dq;apply dn;rintro k s ⟨i,r,q,rfl,rfl,hlen,bj,hr,aR⟩
 cases i with
 | zero=>
  right
  simp only [go_sem,ya,Jg,show ¬(0:Int)<=((0:Nat):Int)-1 by omega];exact ⟨_,_,rfl,by simp,_,r,q,rfl,rfl,by simp only [go_sem,ya],by simp only [go_sem,ya],by omega,bj,hr,by simpa using aR⟩
 | succ i=>
  left
  have gx:=gO (show 0<18446744073709551616 by decide) hx i;have e1:=hv.aZ (i:=i) (by omega);have e2:=hw.aZ (i:=0) (by simp);have jm:=NJ (b:=18446744073709551616) (l:=x) (i:=i) (by omega);rw [show ([d]:List Nat).getD 0 0=d from rfl] at e2;generalize x.getD i 0=a at*
  have e3:=afH (P:=P) (L:=L) h.afM h.KG hr gx Xe;have fu:=xV (r*18446744073709551616+a) d;have pP:=xz (r*18446744073709551616+a) iN;have oO:(r*18446744073709551616+a)/d<18446744073709551616:=by
   refine (xU iN).2 ?_;omega
  generalize (r*18446744073709551616+a)/d=q1 at*
  generalize (r*18446744073709551616+a)%d=r1 at*
  have aP:=fun (hp:Hp) (ct:Nat)=>kM (hp:=hp) (ct:=ct) (id:=0) (v:=q1) (ex:=true) (l:=yG (i+1) 0++q) (o:=i) (by simp;omega)
  simp only [go_sem,ya,yh,Jg,show ((i+1:Nat):Int)-1=(i:Int) by omega,show (0:Int)<=(i:Int) by omega,e1,e2,e3,cW 0 0 (show i<n by omega),yd,aP,ans];refine ⟨_,i,rfl,by omega,i,r1,q1::q,?_,rfl,by simp;omega,MY.2 ⟨FG.2 oO,bj⟩,pP,?_⟩
  ·rw [wrap64 (by omega) (by omega)];simp only [go_sem,ya,yb,an,ak hv.pu,ao _ hv.pu,ak hw.pu,ao _ hw.pu]<;>rfl
  ·rw [jm,aR];simp only [bv];rw [xH,xA,<-xr 18446744073709551616];rw [xC d q1] at fu;omega
def alr {s u u1:Nat} (hs:s<64) (hu:u<18446744073709551616):u/2^s<18446744073709551616/\(0<s->u/2^s|||(u1*2^(64-s)%18446744073709551616)<18446744073709551616)/\
  (if 0<s then (u/2^s|||(u1*2^(64-s)%18446744073709551616)) else u/2^s)*2^s+u%2^s=u+18446744073709551616*(u1%2^s):=by
 have e:18446744073709551616=2^s*2^(64-s):=by rw [<-wB,show s+(64-s)=64 by omega]
 have h1:u1*2^(64-s)%18446744073709551616=(u1%2^s)*2^(64-s):=by rw [e,uk]
 have hp:=wE s;have h2:u/2^s<2^(64-s):=by
  refine (xU hp).2 ?_
  grind
 have h3:u/2^s|||(u1*2^(64-s)%18446744073709551616)=(u1%2^s)*2^(64-s)+u/2^s:=by rw [h1,ybE,Tv h2]
 have h4:(u1%2^s)*2^(64-s)+u/2^s<18446744073709551616:=by
  have:=yX (2^(64-s)) (show u1%2^s+1<=2^s from xz _ hp)
  grind
 have h5:=yay u (2^s)
 grind
def asj {us qs:List Nat} {n la m s:Nat} (hs:s<64) (lu:us.length=la) (gu:lo 18446744073709551616 us) (hn:n<la) (LP:la<=100000000000):
  ∀k st,(∃(i:Nat) (rs:List Nat),aT [9,11,12,13,96,97] st=⟨[(9,aa s),(11,.aC 0 0 la),(12,aa n),(13,.aC 1 0 m),(96,aa n),(97,aa i)],H2 qs (rs++us.drop i),2,0⟩/\i+k=n/\rs.length=i/\lo 18446744073709551616 rs/\bv 18446744073709551616 rs*2^s+us.getD 0 0%2^s=bv 18446744073709551616 (us.take i)+18446744073709551616^i*(us.getD i 0%2^s))->
   ∃ex st',D P L (.loop [9,11,12,13,96,97] Fo) st=some (ex,st')/\∃tm rs,st'=⟨tm,H2 qs (rs++us.drop n),2,0⟩/\ex= .exit 4/\ah tm 11= .aC 0 0 la/\ah tm 12=aa n/\ah tm 13= .aC 1 0 m/\rs.length=n/\lo 18446744073709551616 rs/\bv 18446744073709551616 rs*2^s+us.getD 0 0%2^s=bv 18446744073709551616 (us.take n)+18446744073709551616^n*(us.getD n 0%2^s):=by
 intro dq sq;generalize bw:aT [9,11,12,13,96,97] sq=s0;revert bw s0 sq dq;apply dn;rintro k st ⟨i,rs,rfl,hk,lr,gr,aR⟩;by_cases hi:i<n
 ·left
  have dV:(0:Nat)<18446744073709551616:=by decide
  have g0:=gO dV gu i;have g1:=gO dV gu (i+1);have d0:us.drop i=us.getD i 0::us.getD (i+1) 0::us.drop (i+2):=by
   rw [yN (show i<us.length by omega),yN (show i+1<us.length by omega),gd,gd]
  have eK:=jv (b:=18446744073709551616) (l:=us) i;have lR:∀r,r<18446744073709551616->r*2^s+us.getD i 0%2^s=us.getD i 0+18446744073709551616*(us.getD (i+1) 0%2^s)->lo 18446744073709551616 (rs++[r])/\bv 18446744073709551616 (rs++[r])*2^s+us.getD 0 0%2^s=bv 18446744073709551616 (us.take (i+1))+18446744073709551616^(i+1)*(us.getD (i+1) 0%2^s):=fun r h1 h2=>by
   refine ⟨MY.2 ⟨gr,FG.2 h1⟩,?_⟩;rw [rT,Bj,lr,eK,xH,xk,xr,xr];have e2:=congrArg (fun t=>18446744073709551616^i*t) h2;simp only [xA] at e2;generalize 18446744073709551616^i*(r*2^s)=p1 at*
   generalize 18446744073709551616^i*(us.getD i 0%2^s)=p2 at*
   generalize 18446744073709551616^i*us.getD i 0=p3 at*
   generalize 18446744073709551616^i*(18446744073709551616*(us.getD (i+1) 0%2^s))=p4 at*
   omega
  have Vc:us.drop (i+1)=us.getD (i+1) 0::us.drop (i+2):=by
   rw [yN (show i+1<us.length by omega),gd]
  generalize us.getD i 0=a at*
  obtain ⟨c,hc⟩:∃c,c=us.getD (i+1) 0:=⟨_,rfl⟩;rw [<-hc] at g1 d0 Vc lR;generalize us.drop (i+2)=dr at*
  rw [d0];obtain ⟨n1,n2,n3⟩:=alr (u1:=c) hs g0;have o1:=KF .i64 a (s:=s) (by omega);have o2:=KE .i64 c (s:=64-s) (by omega);have o3:binOp .sub (.int .i64 64) (aa s)=some (aa (64-s:Nat)):=by
   rw [NF,wrap64 (by omega) (by omega)];congr 2;omega
  have o4:=W5 n1 (xz (c*2^(64-s)) dV);have sa:∀z y,(rs++z::y).set i a=rs++a::y:=fun z y=>by rw [tI _ _ (by omega),lr];simp
  have e0:∀z y,xg i ((rs++z::y).map uc)=uc z::y.map uc:=fun z y=>by
   rw [xq,yat (by simp [lr])];rfl
  have e1:∀z y u,xg (i+1) ((rs++z::y::u).map uc)=uc y::u.map uc:=fun z y u=>by
   rw [show rs++z::y::u=(rs++[z])++y::u by simp,xq,yat (by simp [lr])];rfl
  have GM:∀(hp:Hp) (ct x z:Nat) (y:List Nat),fE hp ct 0 i 1 [.int .u64 (x:Int)] (some (.cells true true true 1 ((rs++z::y).map uc)))=some (.au [],bg hp 0 (.cells true true true 1 ((rs++x::y).map uc)),ct):=fun hp ct x z y=>by
   rw [kM (by simp;omega),tI _ _ (by omega),lr];simp
  by_cases h0:0<s
  ·rw [yH h0] at n3;obtain ⟨f1,f2⟩:=lR _ (n2 h0) n3;generalize a/2^s=a1 at*
   generalize a1|||(c*2^(64-s)%18446744073709551616)=r at*
   simp only [go_sem,ya,yh,Fo,H2,show (i:Int)<(n:Int) by omega,cW 0 0 (show i<la by omega),yd,e0,o1,GM,show (0:Int)<(s:Int) by omega,show (i:Int)+1=((i+1:Nat):Int) from rfl,wrapN (n:=i+1) (by omega),show ((i+1:Nat):Int)<(la:Int) by omega,cW 0 0 (show i+1<la by omega),e1,o3,o2,o4];refine ⟨_,k-1,rfl,by omega,i+1,rs++[r],by simp only [go_sem,ya,yb,an];rw [Vc];simp,by omega,by simp [lr],f1,by rw [<-hc];exact f2⟩
  ·rw [yA h0] at n3;obtain ⟨f1,f2⟩:=lR _ n1 n3;generalize a/2^s=a1 at*
   simp only [go_sem,ya,yh,Fo,H2,show (i:Int)<(n:Int) by omega,cW 0 0 (show i<la by omega),yd,e0,o1,GM,show ¬(0:Int)<(s:Int) by omega,show (i:Int)+1=((i+1:Nat):Int) from rfl,wrapN (n:=i+1) (by omega)];refine ⟨_,k-1,rfl,by omega,i+1,rs++[a1],by simp only [go_sem,ya,yb,an];rw [Vc];simp,by omega,by simp [lr],f1,by rw [<-hc];exact f2⟩
 ·right
  have:i=n:=by omega
  subst this;simp only [go_sem,ya,Fo,H2,show ¬(i:Int)<(i:Int) by omega];exact ⟨_,_,rfl,by simp,_,rs,rfl,rfl,by simp only [go_sem,ya],by simp only [go_sem,ya],by simp only [go_sem,ya],lr,gr,aR⟩
end
end
end VE
