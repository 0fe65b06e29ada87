import Derived.Test.YtfohkkaphnfgoabGreatDoorTal
import Derived.Test.YtfohkkaphnfgoabGreatDoorTah
set_option linter.all false
set_option maxRecDepth 100000
open BitVec renaming ofInt→xG,ofInt_natCast→vZ,ofNat→vY,toNat_ofNat→vl
open Bool renaming and_eq_true→yf,and_self→wB,false_and→wA,false_eq_true→yC
open Go renaming IntKind→yZ
open Int renaming natCast_mul→vd,toNat_natCast→xN
open List renaming cons_append→xn,drop→xo,drop_eq_getElem_cons→yJ,drop_left'→yaj,filter_cons→yac,filter_eq_nil_iff→th,length_cons→yu,length_reverse→tI,length_take→yQ,map_append→xy,mem_append→wD,mem_singleton→wZ,nil_append→xW,range'→xV,range'_succ→vI,replicate→yH,reverse_cons→tS,set_append_right→tu,take_length→xM,take_of_length_le→yE
open Nat renaming add_mul→we,add_sub_cancel→uS,add_zero→yV,beq_refl→vm,ble_eq_true_of_le→yz,blt→yI,div_add_mod→xO,div_eq_of_lt→wk,div_le_self→ve,div_lt_iff_lt_mul→xL,eq_zero_or_pos→xm,le_of_lt→uo,le_refl→yv,lt_of_le_of_lt→wc,min_eq_left→xQ,mod_add_div→yao,mod_eq_of_lt→yO,mod_lt→xv,mul_add→xx,mul_assoc→xk,mul_comm→xz,mul_div_mul_right→tD,mul_le_mul→wN,mul_le_mul_left→yR,mul_le_mul_right→yU,mul_lt_mul_of_pos_right→wE,mul_mod_mul_right→ue,mul_one→yj,mul_zero→xE,or_comm→ybu,pow_add→wj,pow_succ→xg,pow_zero→ybj,reduceAdd→yb,reduceEqDiff→ya,reduceLT→yq,reduceMul→xt,two_pow_pos→wq,zero_add→yd,zero_le→ta,zero_mul→ybi
namespace VE
section
open Go (IntKind)
def aja {b:Nat} {out:List Nat} {p j c t o x y Y bo ba:Nat} (ho:o=out.getD j 0) (hj:j<out.length) (ht:t=o+x*y+c) (hv:bo+p*c=ba+p*(x*Y)) (hb:bo=bv b out) (hp:p=b^j):
  bv b (out.set j (t%b))+p*b*(t/b)=ba+p*(x*(Y+0))+p*(x*y):=by
 have h1:=mH (b:=b) (x:=t%b) hj;have h2:=KN p b t
 grind
section
variable {P:aI} {L:Lib}
def P5 {x y c:Nat} (hx:x<18446744073709551616) (hy:y<18446744073709551616) (hc:c<=1):
  (x+18446744073709551616*2-y-c)%18446744073709551616+y+c=x+18446744073709551616*(if y+c<=x then 0 else 1):=by grind
def apS (qw:L.pure 173=some zR) {v w:AV} {x y:List Nat} (hv:bG v x) (hw:bG w y) (hx:lo 18446744073709551616 x) (hy:lo 18446744073709551616 y) (lx:x.length<=99999999999) (ly:y.length<=x.length) (hle:bv 18446744073709551616 y<=bv 18446744073709551616 x) {n:Nat} (hn:n=x.length):
  ∀k s,(∃(i c:Nat) (out:List Nat),bf [0,1,5,6,13,14] s=⟨[(0,v),(1,w),(5,.aE 0 0 n),(6,uc c),(13,aa x.length),(14,aa i)],[(0,.cells true true true 1 (out.map uc))],1,0⟩/\i+k=x.length/\out.length=n/\c<=1/\lo 18446744073709551616 out/\
    bv 18446744073709551616 out+bv 18446744073709551616 (y.take i)=bv 18446744073709551616 (x.take i)+18446744073709551616^i*c/\(∀m,i<=m->out.getD m 0=0))->
   ∃ex s',D P L (.loop [0,1,5,6,13,14] DP) s=some (ex,s')/\∃tm out,s'=⟨tm,[(0,.cells true true true 1 (out.map uc))],1,0⟩/\ex= .exit 0/\aj tm 5= .aE 0 0 n/\out.length=n/\lo 18446744073709551616 out/\
    bv 18446744073709551616 out+bv 18446744073709551616 y=bv 18446744073709551616 x:=by
 intro dq sq;generalize bQ:bf [0,1,5,6,13,14] sq=s0;revert bQ s0 sq dq;apply eO;rintro k s ⟨i,c,out,rfl,hk,hlen,hc,bi,aQ,fN⟩;by_cases hi:i<x.length
 ·left
  have hz:=fN i (yv _);have gx:=gC (show 0<18446744073709551616 by decide) hx i;have gy:=gC (show 0<18446744073709551616 by decide) hy i;have ri:=P5 gx gy hc;have jQ:=ai9 (x:=x) (y:=y) (show i<out.length by omega) hz ri aQ;have e1:=QU (P:=P) (f:=D P L) qw gx gy hc;have ex:=hv.a8 hi;generalize x.getD i 0=p at*
  have oD:(if y.getD i 0+c<=p then 0 else 1)<=1:=by split<;>omega
  by_cases hj:i<y.length
  ·have ey:=hw.a8 hj;generalize y.getD i 0=q at*
   generalize (if q+c<=p then 0 else 1)=c1 at*
   simp only [go_sem,ya,xt,yj,DP,hw.len,show (i:Int)<x.length by omega,show (i:Int)<y.length by omega,ex,ey,e1,db 0 0 (show i<n by omega),yd,jG (l:=out) (o:=i) (by omega)]
   refine ⟨_,k-1,rfl,by omega,i+1,c1,_,?_,by omega,by simp [hlen],oD,lm bi (x:=(p+18446744073709551616*2-q-c)%18446744073709551616) (i:=i) (by omega),jQ,fun m hm=>?_⟩
   ·rw [wrap64 (by omega) (by omega)];simp only [go_sem,ya,yb,xt,ao,aA hv.pu,aF _ hv.pu,aA hw.pu,aF _ hw.pu]<;>rfl
   ·rw [nJ (by omega)];exact fN m (by omega)
  ·have jr:y.getD i 0=0:=QR (by omega);rw [jr] at jQ e1 oD;rw [show (uc 0)=AV.int .u64 0 from rfl] at e1;generalize (if 0+c<=p then 0 else 1)=c1 at*
   simp only [go_sem,ya,xt,yj,DP,hw.len,show (i:Int)<x.length by omega,show ¬(i:Int)<y.length by omega,ex,e1,db 0 0 (show i<n by omega),yd,jG (l:=out) (o:=i) (by omega)]
   refine ⟨_,k-1,rfl,by omega,i+1,c1,_,?_,by omega,by simp [hlen],oD,lm bi (x:=(p+18446744073709551616*2-0-c)%18446744073709551616) (i:=i) (by omega),jQ,fun m hm=>?_⟩
   ·rw [wrap64 (by omega) (by omega)];simp only [go_sem,ya,yb,xt,ao,aA hv.pu,aF _ hv.pu,aA hw.pu,aF _ hw.pu]<;>rfl
   ·rw [nJ (by omega)];exact fN m (by omega)
 ·right
  have:i=x.length:=by omega
  subst this;rw [xM,yE ly] at aQ;have a6:=lC bi;rw [hlen,hn] at a6;simp only [go_sem,ya,DP,show ¬(x.length:Int)<x.length by omega];refine ⟨_,_,rfl,by simp,_,out,rfl,rfl,by simp only [go_sem,ya],hlen,bi,?_⟩;rcases (show c=0\/c=1 by omega) with rfl | rfl
  ·omega
  ·omega
def adz (h:Has P L 159 MP) (lM:Has P L 166 An) (qw:L.pure 173=some zR) {v w:AV} {x y:List Nat} (hv:bG v x) (hw:bG w y) (hx:lo 18446744073709551616 x) (hy:lo 18446744073709551616 y) (ny:gm y) (lx:x.length<=99999999999) (hle:bv 18446744073709551616 y<=bv 18446744073709551616 x):
  ∃r out,ae P L 159 [v,w] r/\bG r out/\lo 18446744073709551616 out/\gm out/\bv 18446744073709551616 out+bv 18446744073709551616 y=bv 18446744073709551616 x:=by
 have ly:y.length<=x.length:=by
  by_cases hh:x.length<y.length
  ·have:=Lx (b:=18446744073709551616) (by decide) hx ny hh
   omega
  ·omega
 obtain ⟨n,hn⟩:∃n,n=x.length:=⟨_,rfl⟩;unfold ae;rw [au h]
 simp only [go_sem,ya,yb,MP,hv.len,<-hn,Cu (n:=n) _ (by omega)];generalize hq:D P L (.loop [0,1,5,6,13,14] DP) _=q;obtain ⟨ex,s,rfl,tm,o,rfl,rfl,t5,hlen,bi,aQ⟩:=bI hq (apS (P:=P) (L:=L) qw hv hw hx hy lx ly hle hn x.length)
  ⟨0,0,yH n 0,by rw [hn];simp only [go_sem,ya,yb,ao,aA hv.pu,aF _ hv.pu,aA hw.pu,aF _ hw.pu]<;>rfl,by omega,by simp,by omega,D2 (by decide) n,by rw [D3];simp [bv],fun m _=>Bz n m⟩
 have hf:=mb true o;rw [hlen] at hf;obtain ⟨r,e1,hr⟩:=AA lM hf (by omega);refine ⟨r,_,?_,hr,zI bi,zH _,by rw [zG];exact aQ⟩
 simp only [go_sem,yb,ao,t5,Az _ (n:=n) (l:=o) hlen true,e1,hr.shut,hr.dY]
def alg {x y o c:Nat} (hx:x<18446744073709551616) (hy:y<18446744073709551616) (ho:o<18446744073709551616) (hc:c<18446744073709551616):
  o+x*y+c<18446744073709551616*18446744073709551616/\
  ((x*y%18446744073709551616+o+0)%18446744073709551616+c+0)%18446744073709551616=(o+x*y+c)%18446744073709551616/\
  x*y/18446744073709551616+(x*y%18446744073709551616+o+0)/18446744073709551616+((x*y%18446744073709551616+o+0)%18446744073709551616+c+0)/18446744073709551616=(o+x*y+c)/18446744073709551616:=by
 have h1:=wN (show x<=18446744073709551615 by omega) (show y<=18446744073709551615 by omega)
 grind
def apT (lO:L.pure 143=some pR) (fY:L.pure 171=some mF) {v w:AV} {x y:List Nat} (hv:bG v x) (hw:bG w y) (hx:lo 18446744073709551616 x) (hy:lo 18446744073709551616 y) (lx:x.length<=49999999999) (ly:y.length<=49999999999) {n i:Nat} (hn:n=x.length+y.length) (hi:i<x.length) {a:Nat} (ha:a<18446744073709551616) {bo:Nat}:
  ∀k s,(∃(j c:Nat) (out:List Nat),bf [1,5,6,7,8,20,21,22,27,28,29] s=⟨[(1,w),(5,.aE 0 0 n),(6,aa i),(7,uc a),(8,uc c),(20,v),(21,aa x.length),(22,aa i),(27,w),(28,aa y.length),(29,aa j)],[(0,.cells true true true 1 (out.map uc))],1,0⟩/\j+k=y.length/\out.length=n/\c<18446744073709551616/\lo 18446744073709551616 out/\
    bv 18446744073709551616 out+18446744073709551616^(i+j)*c=bo+18446744073709551616^i*(a*bv 18446744073709551616 (y.take j))/\(∀m,i+y.length<=m->out.getD m 0=0))->
   ∃ex s',D P L (.loop [1,5,6,7,8,20,21,22,27,28,29] Hu) s=some (ex,s')/\∃tm c out,s'=⟨tm,[(0,.cells true true true 1 (out.map uc))],1,0⟩/\ex= .exit 2/\aj tm 1=w/\aj tm 5= .aE 0 0 n/\aj tm 6=aa i/\aj tm 8=uc c/\aj tm 20=v/\aj tm 21=aa x.length/\aj tm 22=aa i/\out.length=n/\c<18446744073709551616/\lo 18446744073709551616 out/\
    bv 18446744073709551616 out+18446744073709551616^(i+y.length)*c=bo+18446744073709551616^i*(a*bv 18446744073709551616 y)/\(∀m,i+y.length<=m->out.getD m 0=0):=by
 intro dq sq;generalize bQ:bf [1,5,6,7,8,20,21,22,27,28,29] sq=s0;revert bQ s0 sq dq;apply eO;rintro k s ⟨j,c,out,rfl,hk,hlen,hc,bi,aQ,fN⟩;by_cases hj:j<y.length
 ·left
  have A1:(0:Nat)<18446744073709551616:=by decide
  have gy:=gC A1 hy j;have my:=gC A1 bi (i+j);have ey:=hw.a8 hj;have e3:=sf (l:=out) (o:=i+j) (by omega);obtain ⟨q,hq⟩:∃q,q=y.getD j 0:=⟨_,rfl⟩;obtain ⟨o,ho⟩:∃o,o=out.getD (i+j) 0:=⟨_,rfl⟩;rw [<-hq] at gy ey;rw [<-ho] at my e3;obtain ⟨m1,m2,m3⟩:=alg ha gy my hc;have hpy:a*q<18446744073709551616*18446744073709551616:=by omega
  have f1:=LV (P:=P) (f:=D P L) lO ha gy;have f2:=BX (P:=P) (f:=D P L) fY (x:=a*q%18446744073709551616) (y:=o) (c:=0) (xv _ A1) my (by omega);have f3:=BX (P:=P) (f:=D P L) fY (x:=(a*q%18446744073709551616+o+0)%18446744073709551616) (y:=c) (c:=0) (xv _ A1) hc (by omega);obtain ⟨t,ht⟩:∃t,t=o+a*q+c:=⟨_,rfl⟩;have jQ:=aja (b:=18446744073709551616) (out:=out) (p:=18446744073709551616^(i+j)) (j:=i+j) (c:=c) (t:=t) (x:=a) (y:=q) (Y:=0) (ba:=bo+18446744073709551616^i*(a*bv 18446744073709551616 (y.take j))) ho (by omega) ht (by simpa using aQ) rfl rfl;rw [m2,<-ht] at f3;rw [<-ht] at m1 m3;obtain ⟨d1,jD⟩:∃d,d=(a*q%18446744073709551616+o+0)/18446744073709551616:=⟨_,rfl⟩;obtain ⟨d2,fB⟩:∃d,d=((a*q%18446744073709551616+o+0)%18446744073709551616+c+0)/18446744073709551616:=⟨_,rfl⟩;rw [<-jD] at f2 m3;rw [<-fB] at f3 m3
  rw [show (uc 0)=AV.int .u64 0 from rfl] at f2 f3;obtain ⟨h1,iG⟩:∃d,d=a*q/18446744073709551616:=⟨_,rfl⟩;rw [<-iG] at f1 m3;have mr:h1+d1<18446744073709551616:=by omega
  have zb:h1+d1+d2<18446744073709551616:=by omega
  simp only [go_sem,ya,yj,Hu,show (j:Int)<y.length by omega,ey,f1,wrapN (n:=i+j) (by omega),show (i:Int)+(j:Int)=((i+j:Nat):Int) from rfl,db 0 0 (show i+j<n by omega),yd,e3,f2,f3,show (h1:Int)+(d1:Int)=((h1+d1:Nat):Int) from rfl,acN mr,show ((h1+d1:Nat):Int)+(d2:Int)=((h1+d1+d2:Nat):Int) from rfl,acN zb,jG (l:=out) (o:=i+j) (by omega)]
  refine ⟨_,k-1,rfl,by omega,j+1,h1+d1+d2,_,?_,by omega,by simp [hlen],zb,lm bi (x:=t%18446744073709551616) (i:=i+j) (xv _ A1),?_,fun m hm=>?_⟩
  ·rw [wrap64 (by omega) (by omega)];simp only [go_sem,ya,yb,ao,aA hv.pu,aF _ hv.pu,aA hw.pu,aF _ hw.pu]<;>rfl
  ·rw [m3,show i+(j+1)=i+j+1 by omega,xg,iP,<-hq,xx a,xx (18446744073709551616^i)];simp only [xE,yV] at jQ;rw [jQ,wj,<-Nat.add_assoc,xk (18446744073709551616^i),<-xk a,xz a (18446744073709551616^j),xk]
  ·rw [nJ (by omega)];exact fN m hm
 ·right
  have:j=y.length:=by omega
  subst this;rw [xM] at aQ;simp only [go_sem,ya,Hu,show ¬(y.length:Int)<y.length by omega];exact ⟨_,_,rfl,by simp,_,c,out,rfl,rfl,by simp only [go_sem,ya],by simp only [go_sem,ya],by simp only [go_sem,ya],by simp only [go_sem,ya],by simp only [go_sem,ya],by simp only [go_sem,ya],by simp only [go_sem,ya],hlen,hc,bi,aQ,fN⟩
def apU (lO:L.pure 143=some pR) (fY:L.pure 171=some mF) {v w:AV} {x y:List Nat} (hv:bG v x) (hw:bG w y) (hx:lo 18446744073709551616 x) (hy:lo 18446744073709551616 y) (lx:x.length<=49999999999) (ly:y.length<=49999999999) {n:Nat} (hn:n=x.length+y.length):
  ∀k s,(∃(i:Nat) (out:List Nat),bf [1,5,20,21,22] s=⟨[(1,w),(5,.aE 0 0 n),(20,v),(21,aa x.length),(22,aa i)],[(0,.cells true true true 1 (out.map uc))],1,0⟩/\i+k=x.length/\out.length=n/\lo 18446744073709551616 out/\
    bv 18446744073709551616 out=bv 18446744073709551616 (x.take i)*bv 18446744073709551616 y/\(∀m,i+y.length<=m->out.getD m 0=0))->
   ∃ex s',D P L (.loop [1,5,20,21,22] Hv) s=some (ex,s')/\∃tm out,s'=⟨tm,[(0,.cells true true true 1 (out.map uc))],1,0⟩/\ex= .exit 0/\aj tm 5= .aE 0 0 n/\out.length=n/\lo 18446744073709551616 out/\
    bv 18446744073709551616 out=bv 18446744073709551616 x*bv 18446744073709551616 y:=by
 intro dq sq;generalize bQ:bf [1,5,20,21,22] sq=s0;revert bQ s0 sq dq;apply eO;rintro k s ⟨i,out,rfl,hk,hlen,bi,aQ,fN⟩;by_cases hi:i<x.length
 ·left
  have gx:=gC (show 0<18446744073709551616 by decide) hx i;have ex:=hv.a8 hi;obtain ⟨a,ha⟩:∃a,a=x.getD i 0:=⟨_,rfl⟩;simp only [go_sem,ya,Hv,hw.len,show (i:Int)<x.length by omega,ex];generalize hq:D P L (.loop [1,5,6,7,8,20,21,22,27,28,29] Hu) _=q;obtain ⟨ex,s,rfl,tm,c,qB,rfl,rfl,t1,t5,t6,t8,t20,t21,t22,RE,hc,ata,RF,IW⟩:=bI hq (apT (P:=P) (L:=L) lO fY hv hw hx hy lx ly hn hi gx (bo:=bv 18446744073709551616 out) y.length)
   ⟨0,0,out,by simp only [go_sem,ya,yb,ao,aA hv.pu,aF _ hv.pu,aA hw.pu,aF _ hw.pu]<;>rfl,by omega,hlen,by decide,bi,by simp [bv],fN⟩
  have hz:qB.getD (i+y.length) 0=0:=IW _ (yv _);have bh:=mH (b:=18446744073709551616) (l:=qB) (i:=i+y.length) (x:=c) (by omega);rw [hz,xE,yV,RF] at bh
  simp only [go_sem,ya,yj,ao,t1,t5,t6,t8,t20,t21,t22,hw.len,aA hv.pu,aF _ hv.pu,aA hw.pu,aF _ hw.pu,wrapN (n:=i+y.length) (by omega),show (i:Int)+(y.length:Int)=((i+y.length:Nat):Int) from rfl,db 0 0 (show i+y.length<n by omega),yd,jG (l:=qB) (o:=i+y.length) (by omega)];refine ⟨_,k-1,rfl,by omega,i+1,qB.set (i+y.length) c,?_,by omega,by simp [RE],lm ata hc,?_,fun m hm=>?_⟩
  ·rw [wrap64 (by omega) (by omega)];simp only [go_sem,ya,yb,ao,aA hv.pu,aF _ hv.pu,aA hw.pu,aF _ hw.pu]<;>rfl
  ·rw [bh,aQ,iP,we,<-ha,xk]
  ·rw [nJ (by omega)];exact IW m (by omega)
 ·right
  have:i=x.length:=by omega
  subst this;rw [xM] at aQ;simp only [go_sem,ya,Hv,show ¬(x.length:Int)<x.length by omega];exact ⟨_,_,rfl,by simp,_,out,rfl,rfl,by simp only [go_sem,ya],hlen,bi,aQ⟩
def atb (h:Has P L 144 MM) (lM:Has P L 166 An) (lO:L.pure 143=some pR) (fY:L.pure 171=some mF) {v w:AV} {x y:List Nat} (hv:bG v x) (hw:bG w y) (hx:lo 18446744073709551616 x) (hy:lo 18446744073709551616 y) (lx:x.length<=49999999999) (ly:y.length<=49999999999):
  ∃r out,ae P L 144 [v,w] r/\bG r out/\lo 18446744073709551616 out/\gm out/\bv 18446744073709551616 out=bv 18446744073709551616 x*bv 18446744073709551616 y:=by
 obtain ⟨n,hn⟩:∃n,n=x.length+y.length:=⟨_,rfl⟩;unfold ae;rw [au h]
 simp only [go_sem,ya,yb,MM,hv.len,hw.len,wrapN (n:=n) (by omega),show (x.length:Int)+(y.length:Int)=((x.length+y.length:Nat):Int) from rfl,<-hn,Cu (n:=n) _ (by omega)];generalize hq:D P L (.loop [1,5,20,21,22] Hv) _=q;obtain ⟨ex,s,rfl,tm,o,rfl,rfl,t5,hlen,bi,aQ⟩:=bI hq (apU (P:=P) (L:=L) lO fY hv hw hx hy lx ly hn x.length)
  ⟨0,yH n 0,by simp only [go_sem,ya,yb,ao,aA hv.pu,aF _ hv.pu,aA hw.pu,aF _ hw.pu]<;>rfl,by omega,by simp,D2 (by decide) n,by rw [D3];simp [bv],fun m _=>Bz n m⟩
 have hf:=mb true o;rw [hlen] at hf;obtain ⟨r,e1,hr⟩:=AA lM hf (by omega);refine ⟨r,_,?_,hr,zI bi,zH _,by rw [zG];exact aQ⟩
 simp only [go_sem,yb,ao,t5,Az _ (n:=n) (l:=o) hlen true,e1,hr.shut,hr.dY]
end
end
section
open Go (IntKind)
def Mk (n:Int):IntKind.wrap .u64 n=n%18446744073709551616:=by
 simp [IntKind.wrap,IntKind.signed,IntKind.bits]
def wrapM (n:Nat):IntKind.wrap .u64 (n:Int)=((n%18446744073709551616:Nat):Int):=by rw [Mk];omega
def n7 (a b:Nat):binOp .mul (uc a) (uc b)=some (uc (a*b%18446744073709551616)):=by
 rw [ZH,<-vd,wrapM]
def Ae (a b:Nat):binOp .add (uc a) (uc b)=some (uc ((a+b)%18446744073709551616)):=by
 rw [ZG,<-Int.natCast_add,wrapM]
def Cv {a b c:Nat} (h:(a+18446744073709551616-b)%18446744073709551616=c) (hb:b<=18446744073709551616):binOp .sub (uc a) (uc b)=some (uc c):=by
 rw [Ly,Mk]
 grind
def apV (k k':yZ) (a b:Int):binOp .shl (.int k a) (.int k' b)=Bw .shl k a b:=rfl
def apW (k k':yZ) (a b:Int):binOp .shr (.int k a) (.int k' b)=Bw .shr k a b:=rfl
def IX (k:yZ) (a:Nat) {s:Nat} (hs:s<=64):binOp .shl (.int .u64 (a:Int)) (.int k (s:Int))=some (uc (a*2^s%18446744073709551616)):=by
 rw [apV];simp only [Bw,yF (show ¬(s:Int)<0 by omega),xN,IntKind.bits,xQ hs];rw [show ((2:Int)^s)=((2^s:Nat):Int) by simp,<-vd,wrapM]
def IY (k:yZ) (a:Nat) {s:Nat} (hs:s<=64):binOp .shr (.int .u64 (a:Int)) (.int k (s:Int))=some (uc (a/2^s)):=by
 rw [apW];simp only [Bw,yF (show ¬(s:Int)<0 by omega),xN,IntKind.bits,xQ hs]
 grind
def adA (a:Nat):binOp .and (.int .u64 (a:Int)) (.int .u64 4294967295)=some (uc (a%4294967296)):=by
 show some (AV.int .u64 (IntKind.wrap .u64 ((xG 64 (a:Int)&&&xG 64 4294967295).toNat:Int)))=_
 rw [show xG 64 (a:Int)=vY 64 a from vZ 64 a,show xG 64 4294967295=vY 64 4294967295 from rfl];rw [BitVec.toNat_and,vl,vl,show (4294967295%2^64:Nat)=2^32-1 from rfl,Nat.and_two_pow_sub_one_eq_mod,wrapM]
 grind
def UQ {a b:Nat} (ha:a<18446744073709551616) (hb:b<18446744073709551616):binOp .or (.int .u64 (a:Int)) (.int .u64 (b:Int))=some (uc (a|||b)):=by
 show some (AV.int .u64 (IntKind.wrap .u64 ((xG 64 (a:Int)|||xG 64 (b:Int)).toNat:Int)))=_
 congr 2
 rw [show xG 64 (a:Int)=vY 64 a from vZ 64 a,show xG 64 (b:Int)=vY 64 b from vZ 64 b];rw [BitVec.toNat_or,vl,vl,yO (show a<2^64 from ha),yO (show b<2^64 from hb),wrapM]
 have:a|||b<2^64:=Nat.or_lt_two_pow ha hb
 omega
def QV {p s c:Nat} (h:c<2^s):(p*2^s)|||c=p*2^s+c:=by
 rw [<-Nat.shiftLeft_eq,<-Nat.shiftLeft_add_eq_or_of_lt h]
def W6:∀(f n:Nat),n<2^f->er f n<=f/\n<2^er f n/\(0<n->0<er f n/\2^(er f n-1)<=n)
 | 0,n,h=>by simp [er];simpa using h
 | f+1,n,h=>by
  simp only [er];by_cases h0:n=0
  ·simp_all
  ·rw [gR h0,yM];obtain ⟨h1,h2,h3⟩:=W6 f (n/2) (by omega);refine ⟨by omega,?_,fun _=>⟨by omega,?_⟩⟩
   ·grind
   ·rw [Nat.add_sub_cancel_left];by_cases hn:0<n/2
    ·obtain ⟨h4,h5⟩:=h3 hn;obtain ⟨m,hm⟩:∃m,er f (n/2)=m+1:=⟨er f (n/2)-1,by omega⟩
     grind
    ·have hz:n/2=0:=by omega
     have:er f 0=0:=by cases f with
      | zero=>rfl
      | succ f=>rfl
     grind
def P6 {y:Nat} (h0:0<y) (h:y<18446744073709551616):64-er 64 y<64/\9223372036854775808<=y*2^(64-er 64 y)/\y*2^(64-er 64 y)<18446744073709551616:=by
 obtain ⟨h1,h2,h3⟩:=W6 64 y h;obtain ⟨h4,h5⟩:=h3 h0;generalize er 64 y=k at*
 refine ⟨by omega,?_,?_⟩
 ·have:=yU (2^(64-k)) h5
  rw [<-wj,show k-1+(64-k)=63 by omega] at this;exact this
 ·have:=wE h2 (wq (64-k))
  rw [<-wj,show k+(64-k)=64 by omega] at this;exact this
section
variable {P:aI} {L:Lib} {f:cF}
def abe (h:L.pure 167=some Ec) {x:Nat} (hx:x<18446744073709551616):bN P L f 167 [uc x]=some (aa (64-er 64 x:Nat)):=by
 rw [iM h];show (bif yI x 18446744073709551616 then _ else none)=_
 rw [ji hx];rfl
def ajb {b v1 v2 u u2 t r:Nat} (cT:v2<b) (jF:t<b) (ht:t*v1+r=u) (h:b<=r\/t*v2<=b*r+u2):t*(v1*b+v2)<=u*b+u2:=by
 have h2:t*v2<=b*r+u2:=by
  rcases h with h | h
  ·have:=wN (uo jF) (uo cT)
   have:=yR b h
   omega
  ·exact h
 rw [xx,<-xk,<-ht,we,xz r b];omega
def arU (n:Nat):nX (.toInt .u64) (.int .i64 (n:Int))=some (uc (n%18446744073709551616)):=by
 show some (AV.int .u64 (IntKind.wrap .u64 (n:Int)))=_
 rw [wrapM]
def Wv {y v1 v2 u u2 q r:Nat} (hy:y=v1*4294967296+v2) (cT:v2<4294967296) (Fh:0<v1) (eI:v1<4294967296) (hu:u<y) (ze:u2<4294967296) (hq:q*v1+r=u) (hr:r<4294967296) (hQ:(u*4294967296+u2)/y<=q):
  (4294967296<=q\/4294967296*r+u2<q*v2->0<q/\(q-1)*v1+(r+v1)=u/\(u*4294967296+u2)/y<=q-1/\(4294967296<=r+v1->(u*4294967296+u2)/y=q-1))/\
  (¬4294967296<=q->q*v2<=4294967296*r+u2->(u*4294967296+u2)/y=q):=by
 have jr:0<y:=by omega
 have Oz:∀t s,t*v1+s=u->4294967296<=t->s<4294967296:=fun t s h1 h2=>by
  have:=yU v1 h2
  grind
 have abf:∀t s,t*v1+s=u->t<4294967296->(4294967296<=s\/t*v2<=4294967296*s+u2)->(u*4294967296+u2)/y<=t->(u*4294967296+u2)/y=t:=fun t s h1 h2 h3 h4=>by
  have:=ajb cT h2 h1 h3
  rw [<-hy] at this
  have:=(Nat.le_div_iff_mul_le jr).2 this
  omega
 constructor
 ·intro h;have bQ:0<q:=by
   grind
  have h1:(q-1)*v1+(r+v1)=u:=by
   obtain ⟨p,rfl⟩:∃p,q=p+1:=⟨q-1,by omega⟩
   grind
  have h2:(u*4294967296+u2)/y<=q-1:=by
   have a6:u*4294967296+u2<q*y:=by
    rcases h with h | h
    ·have h3:u*4294967296+u2<4294967296*y:=by omega
     exact Nat.lt_of_lt_of_le h3 (yU y h)
    ·rw [hy,xx,<-xk,<-hq,we,xz r];omega
   have:=(xL jr).2 a6
   omega
  exact ⟨bQ,h1,h2,fun h3=>abf _ _ h1 (by
   by_cases hb:4294967296<=q-1
   ·have:=Oz _ _ h1 hb;omega
   ·omega) (.inl h3) h2⟩
 ·intro h1 h2;exact abf q r hq (by omega) (.inr h2) hQ
def apX {y s v1 v2 u u2 z:Nat} (hy:y=v1*4294967296+v2) (cT:v2<4294967296) (Fh:0<v1) (eI:v1<4294967296) (hu:u<y) (ze:u2<4294967296):
  ∀k st,(∃q r:Nat,bf [2,8,9,10,11,13,14,15,16] st=⟨[(2,uc y),(8,uc s),(9,uc v1),(10,uc v2),(11,uc u),(13,uc u2),(14,uc z),(15,uc q),(16,uc r)],[],0,0⟩/\q*v1+r=u/\r<4294967296/\(u*4294967296+u2)/y<=q/\q=k)->
   ∃ex st',D P L (.loop [2,8,9,10,11,13,14,15,16] zS) st=some (ex,st')/\∃tm ct,st'=⟨tm,[],ct,0⟩/\ex= .exit 0/\aj tm 2=uc y/\aj tm 8=uc s/\aj tm 9=uc v1/\aj tm 10=uc v2/\aj tm 11=uc u/\aj tm 13=uc u2/\aj tm 14=uc z/\aj tm 15=uc ((u*4294967296+u2)/y):=by
 intro dq sq;generalize bQ:bf [2,8,9,10,11,13,14,15,16] sq=s0;revert bQ s0 sq dq;apply eO;rintro k st ⟨q,r,rfl,hq,hr,hQ,rfl⟩;obtain ⟨g1,g2⟩:=Wv hy cT Fh eI hu ze hq hr hQ;have hqb:q*1<=q*v1:=yR q Fh;have atc:=yU 4294967296 (show v1<=4294967295 by omega);have nk:q<18446744073709551616:=by omega
 have Ug:=yR 4294967296 (show r<=4294967295 by omega);have e1:=n7 4294967296 r;rw [show uc 4294967296=AV.int .u64 4294967296 from rfl,yO (show 4294967296*r<18446744073709551616 by omega)] at e1;have e2:=Ae (4294967296*r) u2;rw [yO (show 4294967296*r+u2<18446744073709551616 by omega)] at e2;have e4:=Ae r v1;rw [yO (show r+v1<18446744073709551616 by omega)] at e4;by_cases hc:4294967296<=q\/4294967296*r+u2<q*v2
 ·obtain ⟨h0,h1,h2,h3⟩:=g1 hc;have e3:binOp .sub (uc q) (.int .u64 1)=some (uc (q-1)):=Cv (b:=1) (by omega) (by omega);by_cases hb:4294967296<=r+v1
  ·right
   have zh:=h3 hb;rcases (show 4294967296<=q\/(¬4294967296<=q/\4294967296*r+u2<q*v2) by omega) with t1 | ⟨t1,t2⟩
   ·simp only [go_sem,ya,zS,show (4294967296:Int)<=(q:Int) by omega,e3,e4,show (4294967296:Int)<=((r+v1:Nat):Int) by omega];exact ⟨_,_,rfl,by simp,_,_,rfl,rfl,by simp only [go_sem,ya],by simp only [go_sem,ya],by simp only [go_sem,ya],by simp only [go_sem,ya],by simp only [go_sem,ya],by simp only [go_sem,ya],by simp only [go_sem,ya],by rw [zh];simp only [go_sem,ya]⟩
   ·have UR:=wN (show q<=4294967295 by omega) (show v2<=4294967295 by omega);have e5:=n7 q v2;rw [yO (show q*v2<18446744073709551616 by omega)] at e5;simp only [go_sem,ya,zS,show ¬(4294967296:Int)<=(q:Int) by omega,e5,e1,e2,show ((4294967296*r+u2:Nat):Int)<((q*v2:Nat):Int) by omega,e3,e4,show (4294967296:Int)<=((r+v1:Nat):Int) by omega];exact ⟨_,_,rfl,by simp,_,_,rfl,rfl,by simp only [go_sem,ya],by simp only [go_sem,ya],by simp only [go_sem,ya],by simp only [go_sem,ya],by simp only [go_sem,ya],by simp only [go_sem,ya],by simp only [go_sem,ya],by rw [zh];simp only [go_sem,ya]⟩
  ·left
   rcases (show 4294967296<=q\/(¬4294967296<=q/\4294967296*r+u2<q*v2) by omega) with t1 | ⟨t1,t2⟩
   ·simp only [go_sem,ya,zS,show (4294967296:Int)<=(q:Int) by omega,e3,e4,show ¬(4294967296:Int)<=((r+v1:Nat):Int) by omega];exact ⟨_,q-1,rfl,by omega,q-1,r+v1,by simp only [go_sem,ya,ao],h1,by omega,h2,rfl⟩
   ·have UR:=wN (show q<=4294967295 by omega) (show v2<=4294967295 by omega);have e5:=n7 q v2;rw [yO (show q*v2<18446744073709551616 by omega)] at e5;simp only [go_sem,ya,zS,show ¬(4294967296:Int)<=(q:Int) by omega,e5,e1,e2,show ((4294967296*r+u2:Nat):Int)<((q*v2:Nat):Int) by omega,e3,e4,show ¬(4294967296:Int)<=((r+v1:Nat):Int) by omega];exact ⟨_,q-1,rfl,by omega,q-1,r+v1,by simp only [go_sem,ya,ao],h1,by omega,h2,rfl⟩
 ·right
  have zh:=g2 (by omega) (by omega);have e5:=n7 q v2;rw [yO (show q*v2<18446744073709551616 by omega)] at e5;simp only [go_sem,ya,zS,show ¬(4294967296:Int)<=(q:Int) by omega,e5,e1,e2,show ¬((4294967296*r+u2:Nat):Int)<((q*v2:Nat):Int) by omega];exact ⟨_,_,rfl,by simp,_,_,rfl,rfl,by simp only [go_sem,ya],by simp only [go_sem,ya],by simp only [go_sem,ya],by simp only [go_sem,ya],by simp only [go_sem,ya],by simp only [go_sem,ya],by simp only [go_sem,ya],by rw [zh];simp only [go_sem,ya]⟩
end
end
section
open Go (IntKind)
section
variable {P:aI} {L:Lib} {f:cF}
def apY {y s v1 v2 u u2 z:Nat} (hy:y=v1*4294967296+v2) (cT:v2<4294967296) (Fh:0<v1) (eI:v1<4294967296) (hu:u<y) (ze:u2<4294967296):
  ∀k st,(∃q r:Nat,bf [2,8,9,10,14,15,16,17,18] st=⟨[(2,uc y),(8,uc s),(9,uc v1),(10,uc v2),(14,uc u2),(15,uc z),(16,uc r),(17,uc u),(18,uc q)],[],0,0⟩/\q*v1+r=u/\r<4294967296/\(u*4294967296+u2)/y<=q/\q=k)->
   ∃ex st',D P L (.loop [2,8,9,10,14,15,16,17,18] zT) st=some (ex,st')/\∃tm ct,st'=⟨tm,[],ct,0⟩/\ex= .exit 2/\aj tm 2=uc y/\aj tm 8=uc s/\aj tm 9=uc v1/\aj tm 10=uc v2/\aj tm 14=uc u2/\aj tm 15=uc z/\aj tm 17=uc u/\aj tm 18=uc ((u*4294967296+u2)/y):=by
 intro dq sq;generalize bQ:bf [2,8,9,10,14,15,16,17,18] sq=s0;revert bQ s0 sq dq;apply eO;rintro k st ⟨q,r,rfl,hq,hr,hQ,rfl⟩;obtain ⟨g1,g2⟩:=Wv hy cT Fh eI hu ze hq hr hQ;have hqb:q*1<=q*v1:=yR q Fh;have atc:=yU 4294967296 (show v1<=4294967295 by omega);have nk:q<18446744073709551616:=by omega
 have Ug:=yR 4294967296 (show r<=4294967295 by omega);have e1:=n7 4294967296 r;rw [show uc 4294967296=AV.int .u64 4294967296 from rfl,yO (show 4294967296*r<18446744073709551616 by omega)] at e1;have e2:=Ae (4294967296*r) u2;rw [yO (show 4294967296*r+u2<18446744073709551616 by omega)] at e2;have e4:=Ae r v1;rw [yO (show r+v1<18446744073709551616 by omega)] at e4;by_cases hc:4294967296<=q\/4294967296*r+u2<q*v2
 ·obtain ⟨h0,h1,h2,h3⟩:=g1 hc;have e3:binOp .sub (uc q) (.int .u64 1)=some (uc (q-1)):=Cv (b:=1) (by omega) (by omega);by_cases hb:4294967296<=r+v1
  ·right
   have zh:=h3 hb;rcases (show 4294967296<=q\/(¬4294967296<=q/\4294967296*r+u2<q*v2) by omega) with t1 | ⟨t1,t2⟩
   ·simp only [go_sem,ya,zT,show (4294967296:Int)<=(q:Int) by omega,e3,e4,show (4294967296:Int)<=((r+v1:Nat):Int) by omega];exact ⟨_,_,rfl,by simp,_,_,rfl,rfl,by simp only [go_sem,ya],by simp only [go_sem,ya],by simp only [go_sem,ya],by simp only [go_sem,ya],by simp only [go_sem,ya],by simp only [go_sem,ya],by simp only [go_sem,ya],by rw [zh];simp only [go_sem,ya]⟩
   ·have UR:=wN (show q<=4294967295 by omega) (show v2<=4294967295 by omega);have e5:=n7 q v2;rw [yO (show q*v2<18446744073709551616 by omega)] at e5;simp only [go_sem,ya,zT,show ¬(4294967296:Int)<=(q:Int) by omega,e5,e1,e2,show ((4294967296*r+u2:Nat):Int)<((q*v2:Nat):Int) by omega,e3,e4,show (4294967296:Int)<=((r+v1:Nat):Int) by omega];exact ⟨_,_,rfl,by simp,_,_,rfl,rfl,by simp only [go_sem,ya],by simp only [go_sem,ya],by simp only [go_sem,ya],by simp only [go_sem,ya],by simp only [go_sem,ya],by simp only [go_sem,ya],by simp only [go_sem,ya],by rw [zh];simp only [go_sem,ya]⟩
  ·left
   rcases (show 4294967296<=q\/(¬4294967296<=q/\4294967296*r+u2<q*v2) by omega) with t1 | ⟨t1,t2⟩
   ·simp only [go_sem,ya,zT,show (4294967296:Int)<=(q:Int) by omega,e3,e4,show ¬(4294967296:Int)<=((r+v1:Nat):Int) by omega];exact ⟨_,q-1,rfl,by omega,q-1,r+v1,by simp only [go_sem,ya,ao],h1,by omega,h2,rfl⟩
   ·have UR:=wN (show q<=4294967295 by omega) (show v2<=4294967295 by omega);have e5:=n7 q v2;rw [yO (show q*v2<18446744073709551616 by omega)] at e5;simp only [go_sem,ya,zT,show ¬(4294967296:Int)<=(q:Int) by omega,e5,e1,e2,show ((4294967296*r+u2:Nat):Int)<((q*v2:Nat):Int) by omega,e3,e4,show ¬(4294967296:Int)<=((r+v1:Nat):Int) by omega];exact ⟨_,q-1,rfl,by omega,q-1,r+v1,by simp only [go_sem,ya,ao],h1,by omega,h2,rfl⟩
 ·right
  have zh:=g2 (by omega) (by omega);have e5:=n7 q v2;rw [yO (show q*v2<18446744073709551616 by omega)] at e5;simp only [go_sem,ya,zT,show ¬(4294967296:Int)<=(q:Int) by omega,e5,e1,e2,show ¬((4294967296*r+u2:Nat):Int)<((q*v2:Nat):Int) by omega];exact ⟨_,_,rfl,by simp,_,_,rfl,rfl,by simp only [go_sem,ya],by simp only [go_sem,ya],by simp only [go_sem,ya],by simp only [go_sem,ya],by simp only [go_sem,ya],by simp only [go_sem,ya],by simp only [go_sem,ya],by rw [zh];simp only [go_sem,ya]⟩
def acO (a:Nat):binOp .shr (.int .u64 (a:Int)) (.int .u64 32)=some (uc (a/4294967296)):=IY .u64 a (s:=32) (by decide)
def adB (a:Nat) {b:Nat} (ha:a<18446744073709551616) (hb:0<b):binOp .quo (uc a) (uc b)=some (uc (a/b)):=by
 rw [eV _ _ _ (by omega),Int.tdiv_eq_ediv_of_nonneg (by omega),<-Int.natCast_ediv,wrapM,yO];exact wc (ve a b) ha
def atd (a:Nat) {b:Nat} (hb:0<b):binOp .rem (uc a) (uc b)=some (uc (a%b)):=by
 rw [fo _ _ _ (by omega),Int.tmod_eq_emod_of_nonneg (by omega),<-Int.natCast_emod]
def ajc {hi lo y s u z Y:Nat} (hs:s<64) (bi:lo<18446744073709551616) (hY:Y=y*2^s) (hu:u=hi*2^s+lo/2^(64-s)) (hz:z=lo*2^s%18446744073709551616):
  (hi*18446744073709551616+lo)*2^s=u*18446744073709551616+z:=by
 have e:18446744073709551616=2^(64-s)*2^s:=by rw [<-wj,show 64-s+s=64 by omega]
 have h1:lo*2^s/18446744073709551616=lo/2^(64-s):=by
  rw [e,tD _ _ (wq s)]
 grind
def XS {Y q a b:Nat} (h1:a<Y) (h2:b<4294967296) (h3:q=(a*4294967296+b)/Y):q<4294967296:=by
 rw [h3];exact (xL (by omega)).2 (by omega)
def alh {u w x z z0 z1 q0 q1 Y:Nat} (jD:q1*Y+w=u*4294967296+z1) (hX:q0*Y+x=w*4294967296+z0) (hz:z=z1*4294967296+z0):u*18446744073709551616+z=(q1*4294967296+q0)*Y+x:=by grind
def ahx {q1 q0:Nat} (h1:q1<4294967296) (h0:q0<4294967296):q1*4294967296<18446744073709551616/\q1*4294967296+q0<18446744073709551616:=by omega
def adC (h:Has P L 165 Is) (IZ:L.pure 167=some Ec) {hi lo y:Nat} (fN:hi<y) (bi:lo<18446744073709551616) (hy:y<18446744073709551616):
  ae P L 165 [uc hi,uc lo,uc y] (.aq [uc ((hi*18446744073709551616+lo)/y),uc ((hi*18446744073709551616+lo)%y)]):=by
 have jr:0<y:=by omega
 by_cases h0:hi=0
 ·subst h0;have e1:=adB lo bi jr;have e2:=atd lo jr;rw [ybi,yd];unfold ae;rw [au h];simp only [go_sem,ya,Is,show ¬(y:Int)=0 by omega,show ¬(y:Int)<=0 by omega,show ((0:Nat):Int)=0 from rfl,e1,e2];rfl
 ·obtain ⟨s,hs⟩:∃s,s=64-er 64 y:=⟨_,rfl⟩;have hl:=abe (P:=P) (f:=D P L) IZ hy;obtain ⟨l1,l2,l3⟩:=P6 jr hy;rw [<-hs] at hl l1 l2 l3;obtain ⟨Y,hY⟩:∃Y,Y=y*2^s:=⟨_,rfl⟩;obtain ⟨u,hu⟩:∃u,u=hi*2^s+lo/2^(64-s):=⟨_,rfl⟩;obtain ⟨z,hz⟩:∃z,z=lo*2^s%18446744073709551616:=⟨_,rfl⟩;have hdiv:=ajc l1 bi hY hu hz;rw [<-hY] at l2 l3;have hp:=wq s;obtain ⟨v1,eI⟩:∃v,v=Y/4294967296:=⟨_,rfl⟩;obtain ⟨v2,cT⟩:∃v,v=Y%4294967296:=⟨_,rfl⟩;have hYv:Y=v1*4294967296+v2:=by omega
  obtain ⟨z1,kO⟩:∃v,v=z/4294967296:=⟨_,rfl⟩;obtain ⟨z0,kU⟩:∃v,v=z%4294967296:=⟨_,rfl⟩;have Fi:z<18446744073709551616:=by omega
  have hhY:hi*2^s<Y:=by rw [hY];exact wE fN hp
  have ki:lo/2^(64-s)<2^s:=by
   refine (xL (wq _)).2 ?_;rw [<-wj,show s+(64-s)=64 by omega];exact bi
  have nd:hi*2^s|||lo/2^(64-s)=u:=by rw [QV ki,hu]
  have hN:hi*18446744073709551616+lo<y*18446744073709551616:=by
   have:=yU 18446744073709551616 (show hi+1<=y from fN)
   omega
  have US:u<Y:=by
   have h1:=wE hN hp;rw [hdiv,Nat.mul_right_comm,<-hY] at h1;omega
  obtain ⟨q1,eT⟩:∃q,q=(u*4294967296+z1)/Y:=⟨_,rfl⟩;obtain ⟨w,hw⟩:∃q,q=(u*4294967296+z1)%Y:=⟨_,rfl⟩;obtain ⟨q0,bQ⟩:∃q,q=(w*4294967296+z0)/Y:=⟨_,rfl⟩;obtain ⟨x,hx⟩:∃q,q=(w*4294967296+z0)%Y:=⟨_,rfl⟩;have OA:w<Y:=by rw [hw];exact xv _ (by omega)
  have UT:x<Y:=by rw [hx];exact xv _ (by omega)
  have jD:=xO (u*4294967296+z1) Y;rw [<-eT,<-hw,xz] at jD;have hX:=xO (w*4294967296+z0) Y;rw [<-bQ,<-hx,xz] at hX;have ate:=XS US (show z1<4294967296 by omega) eT;have atf:=XS OA (show z0<4294967296 by omega) bQ;obtain ⟨td1,td2⟩:=ahx ate atf;have Nj:(hi*18446744073709551616+lo)*2^s=(q1*4294967296+q0)*Y+x:=by
   rw [hdiv];exact alh jD hX (by omega)
  have r1:(hi*18446744073709551616+lo)/y=q1*4294967296+q0:=by
   rw [<-tD _ _ hp,Nj,<-hY,xz _ Y,Nat.mul_add_div (by omega),wk UT,yV]
  have r2:x/2^s=(hi*18446744073709551616+lo)%y:=by
   have h1:x=(hi*18446744073709551616+lo)*2^s%(y*2^s):=by
    rw [Nj,<-hY,xz _ Y,Nat.mul_add_mod,yO UT]
   rw [h1,ue,Nat.mul_div_cancel _ hp]
  have o1:=IX .u64 y (s:=s) (by omega);rw [<-hY,yO l3] at o1;have o2:=acO Y;rw [<-eI] at o2;have o3:=adA Y;rw [<-cT] at o3;have o4:=IX .u64 hi (s:=s) (by omega);rw [yO (show hi*2^s<18446744073709551616 by omega)] at o4;have o5:binOp .sub (.int .u64 64) (uc s)=some (uc (64-s)):=Cv (a:=64) (by omega) (by omega);have o6:=IY .u64 lo (s:=64-s) (by omega);have o7:=UQ (a:=hi*2^s) (b:=lo/2^(64-s)) (by omega) (wc (ve _ _) bi);rw [nd] at o7;have o8:=IX .u64 lo (s:=s) (by omega);rw [<-hz] at o8;have o9:=acO z;rw [<-kO] at o9;have o10:=adA z;rw [<-kU] at o10;have EH:0<v1:=by omega
  have acP:∀{a:Nat},a<Y->binOp .quo (uc a) (uc v1)=some (uc (a/v1))/\binOp .mul (uc (a/v1)) (uc v1)=some (uc (a/v1*v1))/\binOp .sub (uc a) (uc (a/v1*v1))=some (uc (a%v1)):=fun {a} ha=>by
   have h1:=xO a v1;rw [xz] at h1;have h2:=n7 (a/v1) v1;generalize a/v1*v1=m at*
   rw [yO (show m<18446744073709551616 by omega)] at h2;exact ⟨adB a (by omega) EH,h2,Cv (by omega) (by omega)⟩
  obtain ⟨g1,g2,g3⟩:=acP US;obtain ⟨g4,g5,g6⟩:=acP OA;have first:∀{a b:Nat},b<4294967296->(a*4294967296+b)/Y<=a/v1:=fun {a b} hb=>by
   have:=O8 (b:=4294967296) (V:=Y) (v1:=v1) (v2:=v2) (vr:=0) (U:=a*4294967296+b) (u0:=0) (u1:=a) (u2:=b) (ur:=0) (p:=1) (by omega) (by omega) (by decide) hb EH
   simpa using this
  have back:∀{a b q x:Nat},a*4294967296+b=q*Y+x->x<Y->binOp .mul (uc a) (.int .u64 4294967296)=some (uc (a*4294967296%18446744073709551616))/\binOp .add (uc (a*4294967296%18446744073709551616)) (uc b)=some (uc ((a*4294967296%18446744073709551616+b)%18446744073709551616))/\
    binOp .mul (uc q) (uc Y)=some (uc (q*Y%18446744073709551616))/\binOp .sub (uc ((a*4294967296%18446744073709551616+b)%18446744073709551616)) (uc (q*Y%18446744073709551616))=some (uc x):=fun {a b q x} h1 h2=>by
   refine ⟨n7 a 4294967296,Ae _ _,n7 q Y,Cv ?_ (by omega)⟩;generalize q*Y=m at*
   omega
  obtain ⟨k1,k2,k3,k4⟩:=back jD.symm OA;obtain ⟨k5,k6,k7,k8⟩:=back hX.symm UT;have m1:=n7 q1 4294967296;rw [yO td1,show uc 4294967296=AV.int .u64 4294967296 from rfl] at m1;have m2:=Ae (q1*4294967296) q0;rw [yO td2] at m2;have m3:=IY .u64 x (s:=s) (by omega);rw [r1,<-r2];unfold ae;rw [au h];simp only [go_sem,ya,Is,show ¬(y:Int)=0 by omega,show ¬(y:Int)<=(hi:Int) by omega,show ¬(hi:Int)=0 by omega,hl,arU,yO (show s<18446744073709551616 by omega),o1,o2,o3,o4,o5,o6,o7,o8,o9,o10,g1,g2,g3];generalize lX:D P L (.loop [2,8,9,10,11,13,14,15,16] zS) _=qq
  obtain ⟨ex,st,rfl,tm,ct,rfl,rfl,t2,t8,t9,t10,t11,t13,t14,t15⟩:=bI lX (apX (P:=P) (L:=L) (s:=s) (z:=z0) hYv (by omega) EH (by omega) US (show z1<4294967296 by omega) (u/v1)) ⟨u/v1,u%v1,by simp only [go_sem,ya,ao],by rw [xz];exact xO u v1,by have:=xv u EH;omega,first (by omega),rfl⟩
  rw [<-eT] at t15;simp only [go_sem,ya,ao,t2,t8,t9,t10,t11,t13,t14,t15,k1,k2,k3,k4,g4,g5,g6];generalize Cw:D P L (.loop [2,8,9,10,14,15,16,17,18] zT) _=UU;obtain ⟨ex,st,rfl,qJ,ct2,rfl,rfl,t2,t8,t9,t10,t14,t15,t17,t18⟩:=bI Cw (apY (P:=P) (L:=L) (s:=s) (z:=q1) hYv (by omega) EH (by omega) OA (show z0<4294967296 by omega) (w/v1)) ⟨w/v1,w%v1,by simp only [go_sem,ya,ao],by rw [xz];exact xO w v1,by have:=xv w EH;omega,first (by omega),rfl⟩
  rw [<-bQ] at t18;simp only [go_sem,ya,ao,t2,t8,t14,t15,t17,t18,m1,m2,k5,k6,k7,k8,m3];rfl
end
end
section
open Go (IntKind)
mutual
def below (n:Nat):AV->Prop
 | .ptr id _=>id<n
 | .aE id _ _=>id<n
 | .map id=>id<n
 | .it id=>id<n
 | .fn (.f _) first cap=>oT n first/\oT n cap
 | .fn (.y l) first cap=>l<n/\first=[]/\cap=[]
 | .agg cs=>oT n cs
 | .aq cs=>oT n cs
 | _=>True
def oT (n:Nat):List AV->Prop
 | []=>True
 | v::r=>below n v/\oT n r
end
def oU (n:Nat):Env->Prop
 | []=>True
 | (_,v)::r=>below n v/\oU n r
def BY (n:Nat):Obj->Prop
 | .cells _ pu _ _ cs=>pu=true\/oT n cs
 | .mp _ ks vs=>oT n ks/\oT n vs
 | .si _ _=>True
 | .lp tm _ _ _ _ _=>oU n tm
def HN (b n:Nat):Hp->Prop
 | []=>True
 | (id,o)::r=>id<b/\BY n o/\HN b n r
mutual
def XT {f:Nat->Option Nat} {n:Nat} (hf:∀x,x<n->f x=some x):∀{v:AV},below n v->cd f v=v
 | .int _ _,_ | .bool _,_ | .dh _ _,_ | .str _,_ | .jU,_ | .aO _,_ | .ab,_ | .aH _ _ _,_ | .ib,_ | .jz,_ | .jj _ _,_ | .undef,_ | .cp _ _ _ _,_=>rfl
 | .ptr id o,h=>by simp only [cd,hf id h]
 | .aE id o k,h=>by simp only [cd,hf id h]
 | .map id,h=>by simp only [cd,hf id h]
 | .it id,h=>by simp only [cd,hf id h]
 | .fn (.y l) first cap,h=>by
  obtain ⟨h1,rfl,rfl⟩:=h;simp only [cd,hf l h1,fu]
 | .fn (.f _) first cap,h=>by
  simp only [cd,zB hf h.1,zB hf h.2]
 | .agg cs,h=>by simp only [below] at h;simp only [cd,zB hf h]
 | .aq cs,h=>by simp only [below] at h;simp only [cd,zB hf h]
def zB {f:Nat->Option Nat} {n:Nat} (hf:∀x,x<n->f x=some x):∀{vs:List AV},oT n vs->fu f vs=vs
 | [],_=>rfl
 | v::r,h=>by simp only [fu,XT hf h.1,zB hf h.2]
end
def Pm {f:Nat->Option Nat} {n:Nat} (hf:∀x,x<n->f x=some x):∀{tm:Env},oU n tm->jV f tm=tm
 | [],_=>rfl
 | (_,v)::r,h=>by simp only [jV,XT hf h.1,Pm hf h.2]
def ahy {f:Nat->Option Nat} {n:Nat} (hf:∀x,x<n->f x=some x):∀{o:Obj},BY n o->kF f o=o
 | .cells _ pu _ _ cs,h=>by
  cases pu with
  | true=>rfl
  | false=>simp only [BY,yC,ybc] at h;simp only [kF,yM,zB hf h]
 | .mp _ ks vs,h=>by simp only [kF,zB hf h.1,zB hf h.2]
 | .si _ _,_=>rfl
 | .lp tm _ _ _ _ _,h=>by simp only [BY] at h;simp only [kF,Pm hf h]
mutual
def W7 {n:Nat}:∀{v:AV},below n v->∀x,x∈refs v->x<n
 | .int _ _,_,x,h | .bool _,_,x,h | .dh _ _,_,x,h | .str _,_,x,h | .jU,_,x,h | .aO _,_,x,h | .ab,_,x,h | .aH _ _ _,_,x,h | .ib,_,x,h | .jz,_,x,h | .jj _ _,_,x,h | .undef,_,x,h | .cp _ _ _ _,_,x,h=>by simp [refs] at h
 | .ptr id o,h,x,hx=>by simp only [refs,wZ] at hx;subst hx;exact h
 | .aE id o k,h,x,hx=>by simp only [refs,wZ] at hx;subst hx;exact h
 | .map id,h,x,hx=>by simp only [refs,wZ] at hx;subst hx;exact h
 | .it id,h,x,hx=>by simp only [refs,wZ] at hx;subst hx;exact h
 | .fn (.y l) first cap,h,x,hx=>by simp only [refs,wZ] at hx;subst hx;exact h.1
 | .fn (.f _) first cap,h,x,hx=>by
  simp only [refs,wD] at hx;exact hx.elim (zx h.1 x) (zx h.2 x)
 | .agg cs,h,x,hx=>by simp only [below] at h;simp only [refs] at hx;exact zx h x hx
 | .aq cs,h,x,hx=>by simp only [below] at h;simp only [refs] at hx;exact zx h x hx
def zx {n:Nat}:∀{vs:List AV},oT n vs->∀x,x∈iR vs->x<n
 | [],_,x,h=>by simp [iR] at h
 | v::r,h,x,hx=>by
  simp only [iR,wD] at hx;exact hx.elim (W7 h.1 x) (zx h.2 x)
end
def O9 {n:Nat}:∀{tm:Env},oU n tm->∀x,x∈iS tm->x<n
 | [],_,x,h=>by simp [iS] at h
 | (_,v)::r,h,x,hx=>by
  simp only [iS,wD] at hx;exact hx.elim (W7 h.1 x) (O9 h.2 x)
def agQ {n:Nat}:∀{o:Obj},BY n o->∀x,x∈nQ o->x<n
 | .cells _ pu _ _ cs,h,x,hx=>by
  cases pu with
  | true=>simp [nQ] at hx
  | false=>simp only [BY,yC,ybc] at h;exact zx h x hx
 | .mp _ ks vs,h,x,hx=>by
  simp only [nQ,wD] at hx;exact hx.elim (zx h.1 x) (zx h.2 x)
 | .si _ _,_,x,hx=>by simp [nQ] at hx
 | .lp tm _ _ _ _ _,h,x,hx=>by simp only [BY] at h;exact O9 h x hx
def jy (B:Nat):List (List AV)->Hp
 | []=>[]
 | cs::r=>(B+r.length,.cells true true true 1 cs)::jy B r
def B7 (B:Nat):List (List AV)->Hp->Hp
 | [],acc=>acc
 | cs::r,acc=>B7 (B+1) r ((B,.cells true true true 1 cs)::acc)
def W8:∀(l:List (List AV)) (B:Nat) (x:List AV) (acc:Hp),B7 B (l++[x]) acc=(B+l.length,.cells true true true 1 x)::B7 B l acc
 | [],B,x,acc=>rfl
 | c::l,B,x,acc=>by
  simp only [xn,B7,W8 l,yu]
  grind
def XU (B:Nat) (acc:Hp):∀rs:List (List AV),B7 B rs.reverse acc=jy B rs++acc
 | []=>rfl
 | c::r=>by
  simp only [tS,W8,XU B acc r,tI,jy,xn]
def XV {B:Nat} {old:Hp}:∀{rs:List (List AV)} {i:Nat} (h:i<rs.length),aw (jy B rs++old) (B+i)=some (.cells true true true 1 (rs.reverse[i]'(by simpa using h)))
 | c::r,i,h=>by
  simp only [jy,xn,tS];by_cases hi:i=r.length
  ·subst hi;rw [aw,vm,yy]
   simp
  ·have a6:i<r.length:=by grind
   rw [aw,gR (by omega),yM,XV a6]
   grind
def BZ {a b:Nat} (h:a<b):yI a b=true:=by simp_all
def HO {a b:Nat} (h:b<=a):yI a b=false:=by
 cases hq:yI a b with
 | false=>rfl
 | true=>have:=Nat.le_of_ble_eq_true hq;omega
def O3 {B:Nat} {old:Hp}:∀rs:List (List AV),iN B (jy B rs++old)=iN B old
 | []=>rfl
 | c::r=>by
  simp only [jy,xn];rw [iN,HO (by omega),yM,O3 r]
def W9 {B:Nat} {old:Hp} {f:Nat->Option Nat}:∀rs:List (List AV),lA B f (jy B rs++old)=lA B f old
 | []=>rfl
 | c::r=>by
  simp only [jy,xn];rw [lA,HO (by omega),yM,W9 r]
def Ww {B n:Nat} {f:Nat->Option Nat} (hf:∀x,x<n->f x=some x):∀{old:Hp},HN B n old->lA B f old=old
 | [],_=>rfl
 | (id,o)::r,h=>by
  rw [lA,BZ h.1,yy,ahy hf h.2.1,Ww hf h.2.2]
def ahz {B s x:Nat} (h:B+s<=x):kG x (xV B s)=false:=by
 induction s generalizing B with
 | zero=>rfl
 | succ s ih=>rw [vI,kG,gR (by omega),yM,ih (by omega)]
def Pn {hp:Hp} {B R:Nat} (EI:∀i,i<R->∃rw ex sz cs,aw hp (B+i)=some (.cells rw true ex sz cs)):
  ∀(W:List Nat) (bt s:Nat),W.length<bt->s<=R->W.filter (fun x=> !yI x B)=xV (B+s) (R-s)->reach hp B bt W (xV B s)=xV B R
 | [],0,s,hf,_,_=>by simp at hf
 | [],bt+1,s,hf,hs,h=>by
  have:R-s=0:=by
   grind
  rw [reach,show R=s by omega]
 | id::W,0,s,hf,_,_=>by simp at hf
 | id::W,bt+1,s,hf,hs,h=>by
  have eb:W.length<bt:=by simp_all
  rw [reach];by_cases hid:id<B
  ·rw [BZ hid,Bool.true_or,yy];rw [yac,BZ hid] at h;exact Pn EI W bt s eb hs (by simpa using h)
  ·rw [yac,HO (by omega)] at h;have hRs:R-s=(R-s-1)+1:=by
    have:=congrArg List.length h
    grind
   rw [hRs,vI] at h;injection h with h1 h2
   subst h1;rw [HO (by omega),Bool.false_or,ahz (yv _),yM];obtain ⟨rw,ex,sz,cs,ho⟩:=EI s (by omega);simp only [ho,nQ,yy,xW];have e:xV B s++[B+s]=xV B (s+1):=by rw [List.range'_concat];simp
   rw [e];exact Pn EI W bt (s+1) eb (by omega) (by rw [h2,show R-s-1=R-(s+1) by omega,show B+s+1=B+(s+1) by omega])
def ahA {B s i k:Nat} (h:i<s):lG (B+i) (xV B s) k=some (k+i):=by
 induction s generalizing B i k with
 | zero=>omega
 | succ s ih=>
  rw [vI,lG];by_cases hi:i=0
  ·simp_all
  ·rw [gR (by omega),yM]
   have:=ih (B:=B+1) (i:=i-1) (k:=k+1) (by omega)
   grind
def agR {B R x:Nat} (h:x<B+R):jM B (xV B R) x=some x:=by
 unfold jM;by_cases hx:x<B
 ·rw [BZ hx,yy]
 ·rw [HO (by omega),yM]
  have:=ahA (B:=B) (s:=R) (i:=x-B) (k:=B) (by omega)
  grind
def Xa {hp:Hp} {f:Nat->Option Nat}:∀(ro:List (List AV)) (B:Nat) (acc:Hp),(∀i (h:i<ro.length),aw hp (B+i)=some (.cells true true true 1 ro[i]))->jN hp f (xV B ro.length) B acc=B7 B ro acc
 | [],B,acc,_=>rfl
 | c::r,B,acc,h=>by
  have h0:=h 0 (by simp);simp only [yV,List.getElem_cons_zero] at h0;rw [yu,vI,jN];simp only [h0,kF,yy,B7]
  exact Xa r (B+1) _ (fun i hi=>by
   have:=h (i+1) (by simpa using hi)
   rw [show B+1+i=B+(i+1) by omega,this]
   simp)
def agq {live:List Nat} {tm:Env} {B ct:Nat} {old:Hp} {rs:List (List AV)} (ht:oU B (dN tm live)) (ho:HN B (B+rs.length) old) (hl:(iS (dN tm live)).length+(iN B old).length<100000)
  (hr:(iN B old).filter (fun x=> !yI x B)=xV B rs.length):bf live ⟨tm,jy B rs++old,ct,B⟩=⟨dN tm live,jy B rs++old,B+rs.length,B⟩:=by
 have EI:∀i (h:i<rs.length),aw (jy B rs++old) (B+i)=some (.cells true true true 1 (rs.reverse[i]'(by simpa using h))):=fun i h=>XV h
 have abB:reach (jy B rs++old) B 100000 (iS (dN tm live)++iN B (jy B rs++old)) []=xV B rs.length:=by
  have:=Pn (hp:=jy B rs++old) (B:=B) (R:=rs.length) (fun i hi=>⟨_,_,_,_,EI i hi⟩) (iS (dN tm live)++iN B (jy B rs++old)) 100000 0 (by rw [O3,List.length_append];exact hl) (ta _) (by
   rw [List.filter_append,O3,hr,th.2 (fun x hx=>by
    have:=O9 ht x hx
    simp [BZ this])]
   simp)
  grind
 have hid:∀x,x<B+rs.length->jM B (xV B rs.length) x=some x:=fun x hx=>agR hx
 have hn:=Xa (hp:=jy B rs++old) (f:=jM B (xV B rs.length)) rs.reverse B old (fun i hi=>EI i (by simpa using hi));rw [tI] at hn;simp only [bf,abB,W9,Ww hid ho,hn,XU,List.length_range']
 rw [Pm (n:=B) (fun x hx=>hid x (by omega)) ht]
def Xb {B b n:Nat} (hb:b<=B):∀{H:Hp},HN b n H->∀x,x∈iN B H->x<n
 | [],_,x,hx=>by simp [iN] at hx
 | (id,o)::r,h,x,hx=>by
  rw [iN,BZ (by have:=h.1;omega),yy,wD] at hx;exact hx.elim (agQ h.2.1 x) (Xb hb h.2.2 x)
def Wx {live:List Nat} {tm:Env} {B ct:Nat} {old:Hp} (ht:oU B (dN tm live)) (ho:HN B B old) (hl:(iS (dN tm live)).length+(iN B old).length<100000):
  bf live ⟨tm,old,ct,B⟩=⟨dN tm live,old,B,B⟩:=by
 have:=agq (rs:=[]) (ct:=ct) ht (by simpa using ho) hl (by
  rw [th.2 (fun x hx=>by have:=Xb (yv B) ho x hx;simp [BZ this])]
  rfl)
 simpa [jy] using this
end
section
open Go (IntKind)
section
variable {P:aI} {L:Lib}
def ZK {n:Nat} {F:aB} (h:Has P L n F) {hp:Hp} {ct:Nat} {ak:List AV} {ex:Ex} {s:St} {v:AV} (hD:D P L F.body ⟨fm 0 ak,hp,ct,ct⟩=some (ex,s)) (he:ex= .normal\/ex= .ret) (hr:iv s F.dY=some v):
  iA P L (D P L) hp ct n ak=some (v,s.hp,s.ct):=by
 simp only [iA,h.heap,h.code,hD]
 grind
mutual
def oJ {n:Nat}:∀{v:AV},aX v=true->below n v
 | .int _ _,_ | .bool _,_ | .dh _ _,_ | .str _,_ | .jU,_ | .aO _,_ | .ab,_ | .aH _ _ _,_ | .ib,_ | .jz,_ | .jj _ _,_ | .undef,_=>trivial
 | .cp _ _ _ _,_=>trivial
 | .ptr _ _,h | .aE _ _ _,h | .map _,h | .it _,h=>by simp [aX] at h
 | .fn (.y _) _ _,h=>by simp [aX] at h
 | .fn (.f _) _ _,h=>by
  simp only [aX,yf] at h;exact ⟨GC h.1,GC h.2⟩
 | .agg cs,h=>by simp only [aX] at h;simp only [below];exact GC h
 | .aq cs,h=>by simp only [aX] at h;simp only [below];exact GC h
def GC {n:Nat}:∀{vs:List AV},aK vs=true->oT n vs
 | [],_=>trivial
 | _::_,h=>by
  simp only [aK,yf] at h;exact ⟨oJ h.1,GC h.2⟩
end
end
end
section
open Go (IntKind)
section
variable {pre x post:List Nat} {i:Nat}
def nK:(pre++x++post).length=pre.length+x.length+post.length:=by grind
def BA (h:i<x.length):(pre++x++post).getD (pre.length+i) 0=x.getD i 0:=by grind
def LC (a:Nat) (h:i<x.length):(pre++x++post).set (pre.length+i) a=pre++x.set i a++post:=by simp_all
end
def lz (n:Nat) (k:yZ) (a:Int):below n (.int k a)=True:=rfl
def me (n id o k:Nat):below n (.aE id o k)=(id<n):=rfl
def lj (n:Nat):oU n []=True:=rfl
def li (n i:Nat) (v:AV) (r:Env):oU n ((i,v)::r)=(below n v/\oU n r):=rfl
def oQ {live:List Nat} {tm:Env} {ct:Nat} {a b:List AV} (ht:oU 2 (dN tm live)) (hl:(iS (dN tm live)).length<100000):
  bf live ⟨tm,[(1,.cells true true true 1 a),(0,.cells true true true 1 b)],ct,2⟩=⟨dN tm live,[(1,.cells true true true 1 a),(0,.cells true true true 1 b)],2,2⟩:=
 Wx ht ⟨by omega,.inl rfl,by omega,.inl rfl,trivial⟩ (by
  have:iN 2 [(1,Obj.cells true true true 1 a),(0,Obj.cells true true true 1 b)]=[]:=rfl
  rw [this,List.length_nil,yV];exact hl)
section
variable {P:aI} {L:Lib}
def ahB {x s c:Nat} (hs:s<64) (hx:x<18446744073709551616) (hc:c<2^s):
  c|||(x*2^s%18446744073709551616)<18446744073709551616/\c<18446744073709551616/\x/2^(64-s)<2^s/\(c|||(x*2^s%18446744073709551616))+18446744073709551616*(x/2^(64-s))=x*2^s+c:=by
 have e:18446744073709551616=2^(64-s)*2^s:=by rw [<-wj,show 64-s+s=64 by omega]
 have h1:x*2^s%18446744073709551616=(x%2^(64-s))*2^s:=by rw [e,ue]
 have h2:x/2^(64-s)<2^s:=by
  refine (xL (wq _)).2 ?_
  grind
 have h3:c|||(x*2^s%18446744073709551616)=(x%2^(64-s))*2^s+c:=by rw [h1,ybu,QV hc]
 have h4:(x%2^(64-s))*2^s+c<18446744073709551616:=by
  have:=yU (2^s) (show x%2^(64-s)+1<=2^(64-s) from xv _ (wq _))
  grind
 have h5:=yao x (2^(64-s))
 grind
def apZ {v:AV} {w:List Nat} (hv:bG v w) (hw:lo 18446744073709551616 w) (lw:w.length<=99999999999) {s n:Nat} (hs:s<64) (hn:n=w.length+1):
  ∀k st,(∃(i:Nat) (out:List Nat),bf [1,5,12,13,14] st=⟨[(1,aa s),(5,.aE 0 0 n),(12,v),(13,aa w.length),(14,aa i)],[(0,.cells true true true 1 (out.map uc))],1,0⟩/\i+k=w.length/\out.length=n/\lo 18446744073709551616 out/\bv 18446744073709551616 out=bv 18446744073709551616 (w.take i)*2^s/\out.getD i 0<2^s/\(∀m,i<m->out.getD m 0=0))->
   ∃ex st',D P L (.loop [1,5,12,13,14] DR) st=some (ex,st')/\∃tm out,st'=⟨tm,[(0,.cells true true true 1 (out.map uc))],1,0⟩/\ex= .exit 0/\aj tm 5= .aE 0 0 n/\out.length=n/\lo 18446744073709551616 out/\bv 18446744073709551616 out=bv 18446744073709551616 w*2^s:=by
 intro dq sq;generalize bQ:bf [1,5,12,13,14] sq=s0;revert bQ s0 sq dq;apply eO;rintro k st ⟨i,out,rfl,hk,hlen,bi,aQ,hc,fN⟩;by_cases hi:i<w.length
 ·left
  have gx:=gC (show 0<18446744073709551616 by decide) hw i;have ex:=hv.a8 hi;have ec:=sf (l:=out) (o:=i) (by omega);have bh:=mH (b:=18446744073709551616) (l:=out) (i:=i) (x:=out.getD i 0|||(w.getD i 0*2^s%18446744073709551616)) (by omega);have hz:out.getD (i+1) 0=0:=fN _ (by omega);have dS:=iP (b:=18446744073709551616) (l:=w) i;generalize out.getD i 0=c at*
  generalize w.getD i 0=x at*
  obtain ⟨s1,s2,s3,s4⟩:=ahB hs gx hc;have o1:=IX .i64 x (s:=s) (by omega);have o2:=UQ s2 (xv (x*2^s) (by decide));have o3:binOp .sub (.int .i64 64) (aa s)=some (aa (64-s:Nat)):=by
   rw [Ly,wrap64 (by omega) (by omega)];congr 2;omega
  have o4:=IY .i64 x (s:=64-s) (by omega);generalize oD:c|||(x*2^s%18446744073709551616)=c' at*
  by_cases h0:0<s
  ·have Ml:=mH (b:=18446744073709551616) (l:=out.set i c') (i:=i+1) (x:=x/2^(64-s)) (by simp;omega);rw [nJ (by omega),hz,xE,yV] at Ml;have atg:x/2^(64-s)<18446744073709551616:=wc (ve _ _) gx;generalize x/2^(64-s)=y at*
   simp only [go_sem,ya,yj,DR,show (i:Int)<w.length by omega,ex,db 0 0 (show i<n by omega),yd,ec,o1,o2,jG (l:=out) (o:=i) (by omega),show (0:Int)<(s:Int) by omega,show (i:Int)+1=((i+1:Nat):Int) from rfl,wrapN (n:=i+1) (by omega),o3,o4,db 0 0 (show i+1<n by omega),jG (l:=out.set i c') (o:=i+1) (by simp;omega)];refine ⟨_,k-1,rfl,by omega,i+1,(out.set i c').set (i+1) y,by simp only [go_sem,ya,yb,ao,aA hv.pu,aF _ hv.pu]<;>rfl,by omega,by simp [hlen],lm (lm bi s1) atg,?_,by rw [aha (by simp;omega)];exact s3,fun m hm=>by rw [nJ (by omega),nJ (by omega)];exact fN m (by omega)⟩
   rw [dS,we,Ml,<-aQ,xg,xk,xk (18446744073709551616^i)];have e:=congrArg (fun t=>18446744073709551616^i*t) s4;simp only [xx] at e;generalize 18446744073709551616^i*(18446744073709551616*y)=p1 at*
   generalize 18446744073709551616^i*(x*2^s)=p2 at*
   generalize 18446744073709551616^i*c'=p3 at*
   omega
  ·have jC:s=0:=by omega
   subst jC;have kj:c=0:=by simpa using hc
   have zi:x/2^(64-0)=0:=wk gx;rw [zi,xE,yV,ybj,yj] at s4
   simp only [go_sem,ya,yj,DR,show (i:Int)<w.length by omega,ex,db 0 0 (show i<n by omega),yd,ec,o1,o2,jG (l:=out) (o:=i) (by omega),show ¬(0:Int)<((0:Nat):Int) by omega,show (i:Int)+1=((i+1:Nat):Int) from rfl,wrapN (n:=i+1) (by omega)];refine ⟨_,k-1,rfl,by omega,i+1,out.set i c',by simp only [go_sem,ya,yb,ao,aA hv.pu,aF _ hv.pu]<;>rfl,by omega,by simp [hlen],lm bi s1,?_,by rw [nJ (by omega),hz];exact wq _,fun m hm=>by rw [nJ (by omega)];exact fN m (by omega)⟩
   rw [ybj,yj] at aQ ⊢;rw [dS,<-aQ];rw [kj,xE,yV] at bh;rw [bh,s4,kj,yV]
 ·right
  have:i=w.length:=by omega
  subst this;rw [xM] at aQ;simp only [go_sem,ya,DR,show ¬(w.length:Int)<w.length by omega];exact ⟨_,_,rfl,by simp,_,out,rfl,rfl,by simp only [go_sem,ya],hlen,bi,aQ⟩
def adD (h:Has P L 168 MR) {v:AV} {w:List Nat} (hv:bG v w) (hw:lo 18446744073709551616 w) (lw:w.length<=99999999999) {s:Nat} (hs:s<64):
  ∃out,ae P L 168 [v,aa s] (.cp true 1 (w.length+1) (out.map uc))/\out.length=w.length+1/\lo 18446744073709551616 out/\bv 18446744073709551616 out=bv 18446744073709551616 w*2^s:=by
 obtain ⟨n,hn⟩:∃n,n=w.length+1:=⟨_,rfl⟩;unfold ae;rw [au h]
 simp only [go_sem,ya,yb,MR,hv.len,wrapN (n:=n) (by omega),show (w.length:Int)+1=((w.length+1:Nat):Int) from rfl,<-hn,Cu (n:=n) _ (by omega)];generalize hq:D P L (.loop [1,5,12,13,14] DR) _=q;obtain ⟨ex,st,rfl,tm,o,rfl,rfl,t5,hlen,bi,aQ⟩:=bI hq (apZ (P:=P) (L:=L) hv hw lw hs hn w.length)
  ⟨0,yH n 0,by simp only [go_sem,ya,yb,ao,aA hv.pu,aF _ hv.pu]<;>rfl,by omega,by simp,D2 (by decide) n,by rw [D3];simp [bv],by rw [Bz];exact wq _,fun m _=>Bz n m⟩
 refine ⟨o,?_,hlen,bi,aQ⟩;simp only [go_sem,yb,ao,t5];exact zA (rH _ _ _) (by simp [hlen]) (by decide)
end
end
section
open Go (IntKind)
abbrev H2 (a b:List Nat):Hp:=[(1,.cells true true true 1 (a.map uc)),(0,.cells true true true 1 (b.map uc))]
structure gJ (x vs:List Nat) (n v1 v2 u0 u1 u2:Nat):Prop where
 n2:2<=n
 nb:n<=99999999999
 lx:x.length=n+1
 lv:vs.length=n
 gx:lo 18446744073709551616 x
 gv:lo 18446744073709551616 vs
 eI:vs.getD (n-1) 0=v1
 cT:vs.getD (n-2) 0=v2
 h0:x.getD n 0=u0
 h1:x.getD (n-1) 0=u1
 h2:x.getD (n-2) 0=u2
 pos:0<v1
 lt:bv 18446744073709551616 x<18446744073709551616*bv 18446744073709551616 vs
def arV (b p a v1 v2:Nat):a+p*v2+p*b*v1=(v1*b+v2)*p+a:=by grind
def arW (b p a v0 v1 v2:Nat):a+p*v2+p*b*v1+p*b*b*v0=((v0*b+v1)*b+v2)*p+a:=by grind
section
variable {x vs:List Nat} {n v1 v2 u0 u1 u2:Nat}
def gJ.JY (h:gJ x vs n v1 v2 u0 u1 u2):v1<18446744073709551616:=h.eI▸gC (by decide) h.gv _
def gJ.CT (h:gJ x vs n v1 v2 u0 u1 u2):v2<18446744073709551616:=h.cT▸gC (by decide) h.gv _
def gJ.JZ (h:gJ x vs n v1 v2 u0 u1 u2):u1<18446744073709551616:=h.h1▸gC (by decide) h.gx _
def gJ.J0 (h:gJ x vs n v1 v2 u0 u1 u2):u2<18446744073709551616:=h.h2▸gC (by decide) h.gx _
def gJ.parts (h:gJ x vs n v1 v2 u0 u1 u2):∃p vr ur,bv 18446744073709551616 vs=(v1*18446744073709551616+v2)*p+vr/\vr<p/\bv 18446744073709551616 x=((u0*18446744073709551616+u1)*18446744073709551616+u2)*p+ur/\ur<p:=by
 obtain ⟨m,hm⟩:∃m,n=m+2:=⟨n-2,by have:=h.n2;omega⟩;subst hm;have e1:=iP (b:=18446744073709551616) (l:=vs) (m+1);have e2:=iP (b:=18446744073709551616) (l:=vs) m;have f0:=iP (b:=18446744073709551616) (l:=x) (m+2);have f1:=iP (b:=18446744073709551616) (l:=x) (m+1);have f2:=iP (b:=18446744073709551616) (l:=x) m;have eI:vs.getD (m+1) 0=v1:=h.eI;have cT:vs.getD m 0=v2:=h.cT;have h0:x.getD (m+2) 0=u0:=h.h0;have h1:x.getD (m+1) 0=u1:=h.h1;have h2:x.getD m 0=u2:=h.h2
 rw [yE (by have:=h.lv;omega),eI,e2,cT] at e1
 rw [yE (by have:=h.lx;omega),h0,f1,h1,f2,h2] at f0;have g1:=lC (zO h.gv m)
 rw [yQ,xQ (by have:=h.lv;omega)] at g1;have g2:=lC (zO h.gx m)
 rw [yQ,xQ (by have:=h.lx;omega)] at g2;refine ⟨18446744073709551616^m,_,_,?_,g1,?_,g2⟩
 ·grind
 ·grind
def gJ.down (h:gJ x vs n v1 v2 u0 u1 u2) {t r:Nat} (ht:t*v1+r=u0*18446744073709551616+u1) (hr:r*18446744073709551616+u2<t*v2):bv 18446744073709551616 x/bv 18446744073709551616 vs<=t-1:=by
 obtain ⟨p,vr,ur,h1,h2,h3,h4⟩:=h.parts;exact W2 h1 h3 h4 ht hr
def gJ.stop (h:gJ x vs n v1 v2 u0 u1 u2) {t r:Nat} (jF:t<18446744073709551616) (ht:t*v1+r=u0*18446744073709551616+u1) (hr:18446744073709551616<=r\/t*v2<=r*18446744073709551616+u2):t<=bv 18446744073709551616 x/bv 18446744073709551616 vs+1:=by
 obtain ⟨p,vr,ur,h1,h2,h3,h4⟩:=h.parts;exact XO (by decide) h1 h2 h3 h.pos h.CT jF ht hr
def gJ.first (h:gJ x vs n v1 v2 u0 u1 u2):bv 18446744073709551616 x/bv 18446744073709551616 vs<=(u0*18446744073709551616+u1)/v1:=by
 obtain ⟨p,vr,ur,h1,h2,h3,h4⟩:=h.parts;exact O8 h1 h3 h4 h.J0 h.pos
def gJ.top (h:gJ x vs n v1 v2 u0 u1 u2):u0<=v1:=by
 obtain ⟨p,vr,ur,h1,h2,h3,h4⟩:=h.parts;exact XP h1 h3 h2 h.CT h.lt
def gJ.digit (h:gJ x vs n v1 v2 u0 u1 u2):bv 18446744073709551616 x/bv 18446744073709551616 vs<18446744073709551616:=by
 refine (xL ?_).2 h.lt;rcases xm (bv 18446744073709551616 vs) with h0 | h0
 ·have:=h.lt;rw [h0] at this;simp at this
 ·exact h0
end
section
variable {P:aI} {L:Lib}
def abg (lO:L.pure 143=some pR) (fY:L.pure 171=some mF) {w:AV} {x vs pre post qs:List Nat} (hw:bG w vs) {n v1 v2 u0 u1 u2:Nat} (hl:gJ x vs n v1 v2 u0 u1 u2):
  ∀k s,(∃q r:Nat,bf [0,1,5,6,7,8] s=⟨[(0,.aE 0 pre.length (n+1)),(1,w),(5,aa n),(6,uc q),(7,uc (r%18446744073709551616)),(8,uc (r/18446744073709551616))],H2 qs (pre++x++post),2,2⟩/\q*v1+r=u0*18446744073709551616+u1/\r<2*18446744073709551616/\q<18446744073709551616/\bv 18446744073709551616 x/bv 18446744073709551616 vs<=q/\q=k)->
   ∃ex s',D P L (.loop [0,1,5,6,7,8] rU) s=some (ex,s')/\∃tm q,s'=⟨tm,H2 qs (pre++x++post),2,2⟩/\ex= .exit 0/\aj tm 0= .aE 0 pre.length (n+1)/\aj tm 1=w/\aj tm 5=aa n/\aj tm 6=uc q/\q<18446744073709551616/\bv 18446744073709551616 x/bv 18446744073709551616 vs<=q/\q<=bv 18446744073709551616 x/bv 18446744073709551616 vs+1:=by
 intro dq sq;generalize bQ:bf [0,1,5,6,7,8] sq=s0;revert bQ s0 sq dq;apply eO;rintro k s ⟨q,r,rfl,hq,hr,nk,hQ,rfl⟩;have dT:=hl.n2;have ow:=hl.nb;by_cases kR:r<18446744073709551616
 ·have Fj:r%18446744073709551616=r:=yO kR;have A5:r/18446744073709551616=0:=wk kR;rw [Fj,A5];have EJ:=hl.JY;have SG:=hl.CT;have adE:=hl.J0;have oE:=hw.a8 (i:=n-2) (by have:=hl.lv;omega);have eJ:=hw.a8 (i:=n-1) (by have:=hl.lv;omega);rw [hl.cT] at oE;rw [hl.eI] at eJ;have rk:=sf (l:=pre++x++post) (o:=pre.length+(n-2)) (by rw [nK];have:=hl.lx;omega)
  rw [BA (by have:=hl.lx;omega),hl.h2] at rk;have f1:=LV (P:=P) (f:=D P L) lO nk SG;have f2:=BX (P:=P) (f:=D P L) fY (x:=r) (y:=v1) (c:=0) kR EJ (by omega);rw [show (uc 0)=AV.int .u64 0 from rfl] at f2;have eU:=xO (q*v2) 18446744073709551616;have bi:=xv (q*v2) (show 0<18446744073709551616 by decide);obtain ⟨H,hH⟩:∃H,H=q*v2/18446744073709551616:=⟨_,rfl⟩;obtain ⟨G,hG⟩:∃G,G=q*v2%18446744073709551616:=⟨_,rfl⟩;rw [<-hH,<-hG] at f1 eU;rw [<-hG] at bi;have zj:(n:Int)-2=((n-2:Nat):Int):=by omega
  have oF:(n:Int)-1=((n-1:Nat):Int):=by omega
  by_cases c1:H<r
  ·right
   simp only [go_sem,ya,rU,H2,show ((0:Nat):Int)=0 from rfl,zj,wrapN (n:=n-2) (by omega),oE,f1,show (H:Int)<(r:Int) by omega];exact ⟨_,_,rfl,by simp,_,q,rfl,rfl,by simp only [go_sem,ya],by simp only [go_sem,ya],by simp only [go_sem,ya],by simp only [go_sem,ya],nk,hQ,hl.stop nk hq (.inr (by omega))⟩
  ·by_cases c2:H=r/\G<=u2
   ·right
    obtain ⟨c2,c3⟩:=c2
    simp only [go_sem,ya,rU,H2,show ((0:Nat):Int)=0 from rfl,zj,wrapN (n:=n-2) (by omega),oE,f1,show (H:Int)=(r:Int) by omega];simp only [show ¬(r:Int)<(r:Int) by omega,yp]
    simp only [go_sem,ya,yj,zj,wrapN (n:=n-2) (by omega),db 0 pre.length (show n-2<n+1 by omega),rk,show (G:Int)<=(u2:Int) by omega];exact ⟨_,_,rfl,by simp,_,q,rfl,rfl,by simp only [go_sem,ya],by simp only [go_sem,ya],by simp only [go_sem,ya],by simp only [go_sem,ya],nk,hQ,hl.stop nk hq (.inr (by omega))⟩
   ·left
    have E0:r*18446744073709551616+u2<q*v2:=by omega
    have bQ:0<q:=by
     rcases xm q with h0 | h0
     ·subst h0;omega
     ·exact h0
    have e3:binOp .sub (uc q) (.int .u64 1)=some (uc (q-1)):=Cv (b:=1) (by omega) (by omega);have h1:(q-1)*v1+(r+v1)=u0*18446744073709551616+u1:=by
     obtain ⟨p,rfl⟩:∃p,q=p+1:=⟨q-1,by omega⟩;rw [we,Nat.one_mul] at hq;rw [uS];omega
    have zk:=hl.down hq E0;rw [yV] at f2;by_cases c3:H=r
    ·have c4:¬G<=u2:=fun h=>c2 ⟨c3,h⟩
     subst c3
     simp only [go_sem,ya,xt,yj,rU,H2,show ((0:Nat):Int)=0 from rfl,zj,oF,wrapN (n:=n-2) (by omega),wrapN (n:=n-1) (by omega),oE,eJ,f1,f2,show ¬(H:Int)<(H:Int) by omega,db 0 pre.length (show n-2<n+1 by omega),rk,show ¬(G:Int)<=(u2:Int) by omega,e3];refine ⟨_,q-1,rfl,by omega,q-1,H+v1,?_,h1,by omega,by omega,zk,rfl⟩;rw [oQ (by simp only [go_sem,ya,yq,lz,me,lj,li,oJ hw.pu,wi]) (by simp only [go_sem,ya,yb,yq,aA hw.pu])];simp only [go_sem,ya]
    ·simp only [go_sem,ya,xt,rU,H2,show ((0:Nat):Int)=0 from rfl,zj,oF,wrapN (n:=n-2) (by omega),wrapN (n:=n-1) (by omega),oE,eJ,f1,f2,show ¬(H:Int)<(r:Int) by omega,show ¬(H:Int)=(r:Int) by omega,e3];refine ⟨_,q-1,rfl,by omega,q-1,r+v1,?_,h1,by omega,by omega,zk,rfl⟩;rw [oQ (by simp only [go_sem,ya,yq,lz,me,lj,li,oJ hw.pu,wi]) (by simp only [go_sem,ya,yb,yq,aA hw.pu])];simp only [go_sem,ya]
 ·right
  have A5:r/18446744073709551616=1:=by omega
  rw [A5];simp only [go_sem,ya,rU,H2,show ((1:Nat):Int)=1 from rfl,Int.reduceEq];exact ⟨_,_,rfl,by simp,_,q,rfl,rfl,by simp only [go_sem,ya],by simp only [go_sem,ya],by simp only [go_sem,ya],by simp only [go_sem,ya],nk,hQ,hl.stop nk hq (.inl (by omega))⟩
end
end
section
open Go (IntKind)
def ajd {b p x y z mz c bo zm ca q v X Y:Nat} (h1:q*v+c=b*ca+mz) (h2:z+mz+bo=x+b*zm) (h3:Y+q*X=y+p*(c+bo)) (W:Nat) (hW:W+p*x=Y+p*z):
  W+q*(X+p*v)=y+p*b*(ca+zm):=by grind
def aje {q v c:Nat} (hq:q<18446744073709551616) (hv:v<18446744073709551616) (hc:c<18446744073709551616):
  q*v+c=18446744073709551616*(q*v/18446744073709551616+(q*v%18446744073709551616+c+0)/18446744073709551616)+(q*v%18446744073709551616+c+0)%18446744073709551616/\
  q*v/18446744073709551616+(q*v%18446744073709551616+c+0)/18446744073709551616<18446744073709551616:=by
 have h:=wN (show q<=18446744073709551615 by omega) (show v<=18446744073709551615 by omega)
 grind
section
variable {P:aI} {L:Lib}
def ap0 (lO:L.pure 143=some pR) (fY:L.pure 171=some mF) (qw:L.pure 173=some zR) {w:AV} {x vs pre post qs:List Nat} (hw:bG w vs) {n:Nat} (ow:n<=99999999999) (lv:vs.length=n) (gv:lo 18446744073709551616 vs) {q:Nat} (hq:q<18446744073709551616):
  ∀k s,(∃(i c bo:Nat) (y:List Nat),bf [0,1,5,6,11,12,104,105] s=⟨[(0,.aE 0 pre.length (n+1)),(1,w),(5,aa n),(6,uc q),(11,uc bo),(12,uc c),(104,aa n),(105,aa i)],H2 qs (pre++y++post),2,2⟩/\i+k=n/\y.length=n+1/\lo 18446744073709551616 y/\c<18446744073709551616/\bo<=1/\
    bv 18446744073709551616 y+q*bv 18446744073709551616 (vs.take i)=bv 18446744073709551616 x+18446744073709551616^i*(c+bo))->
   ∃ex s',D P L (.loop [0,1,5,6,11,12,104,105] Hw) s=some (ex,s')/\∃tm c bo y,s'=⟨tm,H2 qs (pre++y++post),2,2⟩/\ex= .exit 2/\aj tm 0= .aE 0 pre.length (n+1)/\aj tm 1=w/\aj tm 5=aa n/\aj tm 6=uc q/\aj tm 11=uc bo/\aj tm 12=uc c/\y.length=n+1/\lo 18446744073709551616 y/\c<18446744073709551616/\bo<=1/\
    bv 18446744073709551616 y+q*bv 18446744073709551616 vs=bv 18446744073709551616 x+18446744073709551616^n*(c+bo):=by
 intro dq sq;generalize bQ:bf [0,1,5,6,11,12,104,105] sq=s0;revert bQ s0 sq dq;apply eO;rintro k s ⟨i,c,bo,y,rfl,hk,ly,gy,hc,iJ,aQ⟩;by_cases hi:i<n
 ·left
  have dH:(0:Nat)<18446744073709551616:=by decide
  have pC:=gC dH gv i;have oG:=gC dH gy i;have ev:=hw.a8 (i:=i) (by omega);have ey:=sf (l:=pre++y++post) (o:=pre.length+i) (by rw [nK];omega);rw [BA (by omega)] at ey;have dS:=iP (b:=18446744073709551616) (l:=vs) i;obtain ⟨a,ha⟩:∃a,a=vs.getD i 0:=⟨_,rfl⟩;obtain ⟨d,hd⟩:∃d,d=y.getD i 0:=⟨_,rfl⟩;rw [<-ha] at pC ev dS;rw [<-hd] at oG ey;obtain ⟨m1,m2⟩:=aje hq pC hc;have f1:=LV (P:=P) (f:=D P L) lO hq pC;have f2:=BX (P:=P) (f:=D P L) fY (x:=q*a%18446744073709551616) (y:=c) (c:=0) (xv _ dH) hc (by omega);obtain ⟨mz,adF⟩:∃t,t=(q*a%18446744073709551616+c+0)%18446744073709551616:=⟨_,rfl⟩;obtain ⟨c1,dU⟩:∃t,t=(q*a%18446744073709551616+c+0)/18446744073709551616:=⟨_,rfl⟩;have adG:mz<18446744073709551616:=by rw [adF];exact xv _ dH
  rw [<-adF,<-dU] at f2 m1;rw [<-dU] at m2;obtain ⟨h1,iG⟩:∃t,t=q*a/18446744073709551616:=⟨_,rfl⟩;rw [<-iG] at f1 m1 m2;rw [show (uc 0)=AV.int .u64 0 from rfl] at f2;have f3:=QU (P:=P) (f:=D P L) qw oG adG iJ;have fO:=P5 oG adG iJ;obtain ⟨z,hz⟩:∃t,t=(d+18446744073709551616*2-mz-bo)%18446744073709551616:=⟨_,rfl⟩;obtain ⟨b',cO⟩:∃t,t=(if mz+bo<=d then 0 else 1):=⟨_,rfl⟩;have jo:b'<=1:=by rw [cO];split<;>omega
  have Fi:z<18446744073709551616:=by rw [hz];exact xv _ dH
  rw [<-hz,<-cO] at f3 fO;have f4:binOp .add (uc h1) (uc c1)=some (uc (h1+c1)):=by
   rw [Ae,yO m2]
  have bh:=mH (b:=18446744073709551616) (l:=y) (i:=i) (x:=z) (by omega);rw [<-hd] at bh;have aR:=fun (hp:Hp) (ct:Nat)=>jG (hp:=hp) (ct:=ct) (id:=0) (v:=z) (ex:=true) (l:=pre++y++post) (o:=pre.length+i) (by rw [nK];omega)
  have mQ:=LC (pre:=pre) (x:=y) (post:=post) (i:=i) z (by omega);simp only [go_sem,ya,yj,Hw,H2,show (i:Int)<(n:Int) by omega,ev,f1,f2,f4,db 0 pre.length (show i<n+1 by omega),ey,f3,aR,mQ];refine ⟨_,k-1,rfl,by omega,i+1,h1+c1,b',y.set i z,?_,by omega,by simp [ly],lm gy Fi,m2,jo,?_⟩
  ·rw [oQ (by simp only [go_sem,ya,yq,lz,me,lj,li,oJ hw.pu,wi]) (by simp only [go_sem,ya,yb,yq,aA hw.pu])];rw [wrap64 (by omega) (by omega)];simp only [go_sem,ya]<;>rfl
  ·rw [dS,xg];exact ajd m1 fO aQ _ bh
 ·right
  have:i=n:=by omega
  subst this;rw [yE (by omega)] at aQ;simp only [go_sem,ya,Hw,H2,show ¬(i:Int)<(i:Int) by omega];exact ⟨_,_,rfl,by simp,_,c,bo,y,rfl,rfl,by simp only [go_sem,ya],by simp only [go_sem,ya],by simp only [go_sem,ya],by simp only [go_sem,ya],by simp only [go_sem,ya],by simp only [go_sem,ya],ly,gy,hc,iJ,aQ⟩
def ap1 (fY:L.pure 171=some mF) {w:AV} {y0 vs pre post qs:List Nat} (hw:bG w vs) {n:Nat} (ow:n<=99999999999) (lv:vs.length=n) (gv:lo 18446744073709551616 vs) {q:Nat}:
  ∀k s,(∃(i c:Nat) (y:List Nat),bf [0,1,5,6,17,156,157] s=⟨[(0,.aE 0 pre.length (n+1)),(1,w),(5,aa n),(6,uc q),(17,uc c),(156,aa n),(157,aa i)],H2 qs (pre++y++post),2,2⟩/\i+k=n/\y.length=n+1/\lo 18446744073709551616 y/\c<=1/\
    bv 18446744073709551616 y+18446744073709551616^i*c=bv 18446744073709551616 y0+bv 18446744073709551616 (vs.take i))->
   ∃ex s',D P L (.loop [0,1,5,6,17,156,157] Hx) s=some (ex,s')/\∃tm c y,s'=⟨tm,H2 qs (pre++y++post),2,2⟩/\ex= .exit 4/\aj tm 0= .aE 0 pre.length (n+1)/\aj tm 5=aa n/\aj tm 6=uc q/\aj tm 17=uc c/\y.length=n+1/\lo 18446744073709551616 y/\c<=1/\
    bv 18446744073709551616 y+18446744073709551616^n*c=bv 18446744073709551616 y0+bv 18446744073709551616 vs:=by
 intro dq sq;generalize bQ:bf [0,1,5,6,17,156,157] sq=s0;revert bQ s0 sq dq;apply eO;rintro k s ⟨i,c,y,rfl,hk,ly,gy,hc,aQ⟩;by_cases hi:i<n
 ·left
  have dH:(0:Nat)<18446744073709551616:=by decide
  have pC:=gC dH gv i;have oG:=gC dH gy i;have ev:=hw.a8 (i:=i) (by omega);have ey:=sf (l:=pre++y++post) (o:=pre.length+i) (by rw [nK];omega);rw [BA (by omega)] at ey;have dS:=iP (b:=18446744073709551616) (l:=vs) i;obtain ⟨a,ha⟩:∃a,a=vs.getD i 0:=⟨_,rfl⟩;obtain ⟨d,hd⟩:∃d,d=y.getD i 0:=⟨_,rfl⟩;rw [<-ha] at pC ev dS;rw [<-hd] at oG ey;have f1:=BX (P:=P) (f:=D P L) fY oG pC hc;have bh:=mH (b:=18446744073709551616) (l:=y) (i:=i) (x:=(d+a+c)%18446744073709551616) (by omega);rw [<-hd] at bh;have iH:=KN (18446744073709551616^i) 18446744073709551616 (d+a+c);have oD:(d+a+c)/18446744073709551616<=1:=by omega
  have Fi:(d+a+c)%18446744073709551616<18446744073709551616:=xv _ dH;generalize (d+a+c)%18446744073709551616=z at*
  generalize (d+a+c)/18446744073709551616=c' at*
  have aR:=fun (hp:Hp) (ct:Nat)=>jG (hp:=hp) (ct:=ct) (id:=0) (v:=z) (ex:=true) (l:=pre++y++post) (o:=pre.length+i) (by rw [nK];omega)
  have mQ:=LC (pre:=pre) (x:=y) (post:=post) (i:=i) z (by omega);simp only [go_sem,ya,yj,Hx,H2,show (i:Int)<(n:Int) by omega,ev,f1,db 0 pre.length (show i<n+1 by omega),ey,aR,mQ];refine ⟨_,k-1,rfl,by omega,i+1,c',y.set i z,?_,by omega,by simp [ly],lm gy Fi,oD,?_⟩
  ·rw [oQ (by simp only [go_sem,ya,yq,lz,me,lj,li,oJ hw.pu,wi]) (by simp only [go_sem,ya,yb,yq,aA hw.pu])];rw [wrap64 (by omega) (by omega)];simp only [go_sem,ya]<;>rfl
  ·rw [dS,xg];rw [xx,xx] at iH;omega
 ·right
  have:i=n:=by omega
  subst this;rw [yE (by omega)] at aQ;simp only [go_sem,ya,Hx,H2,show ¬(i:Int)<(i:Int) by omega];exact ⟨_,_,rfl,by simp,_,c,y,rfl,rfl,by simp only [go_sem,ya],by simp only [go_sem,ya],by simp only [go_sem,ya],by simp only [go_sem,ya],ly,gy,hc,aQ⟩
end
end
section
open Go (IntKind)
def step_end {A V q Y B bo:Nat} (hV:0<V) (h:Y+q*V=A+B*bo) (h1:A/V<=q) (h2:q<=A/V+1) (hY:Y<B) (hVB:V<=B) (iJ:bo<=1):
  (bo=0->q=A/V/\Y=A%V)/\(bo=1->q=A/V+1/\Y+V=B+A%V):=by
 have eU:=xO A V;have hm:=xv A hV;generalize A/V=Q at*
 have hq:q=Q\/q=Q+1:=by omega
 constructor
 ·rintro rfl;rcases hq with rfl | rfl
  ·grind
  ·grind
 ·grind
section
variable {P:aI} {L:Lib}
structure Wd (P:aI) (L:Lib):Prop where
 lO:L.pure 143=some pR
 fY:L.pure 171=some mF
 qw:L.pure 173=some zR
 IZ:L.pure 167=some Ec
 adH:Has P L 165 Is
 lM:Has P L 166 An
 adI:Has P L 168 MR
 ath:Has P L 169 qh
 adJ:Has P L 158 Eu
 ati:Has P L 157 Ir
 adK:Has P L 159 MP
 atj:Has P L 144 MM
 SH:Has P L 137 Ip
def ay:VC->VC
 | .seq _ b=>b
 | c=>c
def ap2 (h:Wd P L) {w:AV} {x vs pre post qs:List Nat} (hw:bG w vs) {n v1 v2 u0 u1 u2:Nat} (hl:gJ x vs n v1 v2 u0 u1 u2) {q:Nat} (hq:q<18446744073709551616) (eT:bv 18446744073709551616 x/bv 18446744073709551616 vs<=q) (Fk:q<=bv 18446744073709551616 x/bv 18446744073709551616 vs+1):
  ∃tm x',D P L (ay (ay (ay (ay (ay (ay qh.body)))))) ⟨[(0,.aE 0 pre.length (n+1)),(1,w),(5,aa n),(6,uc q)],H2 qs (pre++x++post),2,2⟩=some (.ret,⟨tm,H2 qs (pre++x'++post),2,2⟩)/\aj tm 4=uc (bv 18446744073709551616 x/bv 18446744073709551616 vs)/\x'.length=n+1/\lo 18446744073709551616 x'/\bv 18446744073709551616 x'=bv 18446744073709551616 x%bv 18446744073709551616 vs:=by
 have dT:=hl.n2;have ow:=hl.nb;have dH:(0:Nat)<18446744073709551616:=by decide
 have hV:0<bv 18446744073709551616 vs:=by
  rcases xm (bv 18446744073709551616 vs) with h0 | h0
  ·have:=hl.lt;rw [h0] at this;simp at this
  ·exact h0
 have rm:below 2 w:=oJ hw.pu;have J3:=lC hl.gv;rw [hl.lv] at J3;have ayE:18446744073709551616^n<=18446744073709551616^(n+1):=Nat.pow_le_pow_right (by decide) (by omega);have ayF:ay (ay (ay (ay (ay (ay qh.body)))))=ay (ay (ay (ay (ay (ay qh.body))))):=rfl;simp only [go_sem,ya,qh,ay,H2];generalize lX:D P L (.loop [0,1,5,6,11,12,104,105] Hw) _=qq;obtain ⟨ex,s,rfl,tm,c,bo,y,rfl,rfl,t0,t1,t5,t6,t11,t12,ly,gy,hc,iJ,aQ⟩:=bI lX (ap0 (P:=P) (L:=L) h.lO h.fY h.qw hw ow hl.lv hl.gv hq (x:=x) (pre:=pre) (post:=post) (qs:=qs) n) ⟨0,0,0,x,by
  rw [oQ (by simp only [go_sem,ya,yq,lz,me,lj,li,rm,wi]) (by simp only [go_sem,ya,yb,yq,aA hw.pu])]
  simp only [go_sem,ya]<;>rfl,by omega,hl.lx,hl.gx,dH,by omega,by simp [bv]⟩
 have UW:=gC dH gy n;have ey:=sf (l:=pre++y++post) (o:=pre.length+n) (by rw [nK];omega);rw [BA (by omega)] at ey;obtain ⟨d,hd⟩:∃d,d=y.getD n 0:=⟨_,rfl⟩;rw [<-hd] at UW ey;have f3:=QU (P:=P) (f:=D P L) h.qw UW hc iJ;have fO:=P5 UW hc iJ;obtain ⟨z,hz⟩:∃t,t=(d+18446744073709551616*2-c-bo)%18446744073709551616:=⟨_,rfl⟩;obtain ⟨b',cO⟩:∃t,t=(if c+bo<=d then 0 else 1):=⟨_,rfl⟩;have jo:b'<=1:=by rw [cO];split<;>omega
 have Fi:z<18446744073709551616:=by rw [hz];exact xv _ dH
 rw [<-hz,<-cO] at f3 fO;have bh:=mH (b:=18446744073709551616) (l:=y) (i:=n) (x:=z) (by omega);rw [<-hd] at bh;have aR:=fun (hp:Hp) (ct:Nat)=>jG (hp:=hp) (ct:=ct) (id:=0) (v:=z) (ex:=true) (l:=pre++y++post) (o:=pre.length+n) (by rw [nK];omega)
 have mQ:=LC (pre:=pre) (x:=y) (post:=post) (i:=n) z (by omega);have CU:lo 18446744073709551616 (y.set n z):=lm gy Fi;have A6:(y.set n z).length=n+1:=by simp [ly]
 have hY:=lC CU;rw [A6] at hY;have atk:bv 18446744073709551616 (y.set n z)+q*bv 18446744073709551616 vs=bv 18446744073709551616 x+18446744073709551616^(n+1)*b':=by
  have e2:=congrArg (fun t=>18446744073709551616^n*t) fO;rw [xg,xk];simp only [xx] at e2 aQ;generalize 18446744073709551616^n*(18446744073709551616*b')=p1 at*
  generalize 18446744073709551616^n*z=p2 at*
  generalize 18446744073709551616^n*d=p3 at*
  generalize 18446744073709551616^n*c=p4 at*
  generalize 18446744073709551616^n*bo=p5 at*
  omega
 obtain ⟨s0,s1⟩:=step_end hV atk eT Fk hY (by omega) jo;simp only [go_sem,ya,yb,yq,yj,oQ,lz,me,lj,li,rm,wi,aA hw.pu,t0,t1,t5,t6,t11,t12,db 0 pre.length (show n<n+1 by omega),ey,f3,aR,mQ];by_cases kU:b'=0
 ·obtain ⟨e1,e2⟩:=s0 kU;simp only [go_sem,ya,show (b':Int)=0 by omega];exact ⟨_,y.set n z,rfl,by rw [<-e1];simp only [go_sem],A6,CU,e2⟩
 ·obtain ⟨e1,e2⟩:=s1 (by omega);simp only [go_sem,ya,show ¬(b':Int)=0 by omega];generalize Cw:D P L (.loop [0,1,5,6,17,156,157] Hx) _=UU;obtain ⟨ex,s,rfl,qJ,c2,y2,rfl,rfl,t0,t5,t6,t17,UX,OB,qU,arX⟩:=bI Cw (ap1 (P:=P) (L:=L) h.fY hw ow hl.lv hl.gv (y0:=y.set n z) (pre:=pre) (post:=post) (qs:=qs) (q:=q) n) ⟨0,0,y.set n z,by
   rw [oQ (by simp only [go_sem,ya,yq,lz,me,lj,li,rm,wi]) (by simp only [go_sem,ya,yb,yq,aA hw.pu])]
   simp only [go_sem,ya]<;>rfl,by omega,A6,CU,by omega,by simp [bv]⟩
  have atl:=gC dH OB n;have UY:=sf (l:=pre++y2++post) (o:=pre.length+n) (by rw [nK];omega);rw [BA (by omega)] at UY;obtain ⟨d2,fB⟩:∃d,d=y2.getD n 0:=⟨_,rfl⟩;rw [<-fB] at atl UY;have f4:=Ae d2 c2;have Ml:=mH (b:=18446744073709551616) (l:=y2) (i:=n) (x:=(d2+c2)%18446744073709551616) (by omega);rw [<-fB] at Ml;have iH:=KN (18446744073709551616^n) 18446744073709551616 (d2+c2);have atm:(d2+c2)%18446744073709551616<18446744073709551616:=xv _ dH;have hc3:(d2+c2)/18446744073709551616<=1:=by omega
  generalize (d2+c2)%18446744073709551616=z2 at*
  generalize (d2+c2)/18446744073709551616=c3 at*
  have Nk:=fun (hp:Hp) (ct:Nat)=>jG (hp:=hp) (ct:=ct) (id:=0) (v:=z2) (ex:=true) (l:=pre++y2++post) (o:=pre.length+n) (by rw [nK];omega)
  have Mm:=LC (pre:=pre) (x:=y2) (post:=post) (i:=n) z2 (by omega);have OC:lo 18446744073709551616 (y2.set n z2):=lm OB atm;have J4:(y2.set n z2).length=n+1:=by simp [UX]
  have hY3:=lC OC;rw [J4] at hY3;have bQ:0<q:=by rw [e1];exact Nat.succ_pos _
  have hq3:bv 18446744073709551616 x/bv 18446744073709551616 vs=q-1:=by rw [e1,uS]
  have f5:binOp .sub (uc q) (.int .u64 1)=some (uc (q-1)):=Cv (b:=1) (by omega) (by omega);simp only [go_sem,ya,yb,yq,yj,oQ,lz,me,lj,li,wi,t0,t5,t6,t17,db 0 pre.length (show n<n+1 by omega),UY,f4,Nk,Mm,f5];refine ⟨_,y2.set n z2,rfl,by rw [hq3];simp only [go_sem],J4,OC,?_⟩;have e3:bv 18446744073709551616 (y2.set n z2)+18446744073709551616^(n+1)*c3=18446744073709551616^(n+1)+bv 18446744073709551616 x%bv 18446744073709551616 vs:=by
   rw [<-e2,<-arX,xg];rw [xx] at iH;omega
  rcases (show c3=0\/c3=1 by omega) with rfl | rfl
  ·omega
  ·omega
def atn (h:Wd P L) {w:AV} {x vs pre post qs:List Nat} (hw:bG w vs) {n v1 v2 u0 u1 u2:Nat} (hl:gJ x vs n v1 v2 u0 u1 u2):
  ∃x',iA P L (D P L) (H2 qs (pre++x++post)) 2 169 [.aE 0 pre.length (n+1),w]=some (uc (bv 18446744073709551616 x/bv 18446744073709551616 vs),H2 qs (pre++x'++post),2)/\x'.length=n+1/\lo 18446744073709551616 x'/\bv 18446744073709551616 x'=bv 18446744073709551616 x%bv 18446744073709551616 vs:=by
 have dT:=hl.n2;have ow:=hl.nb;have rm:below 2 w:=oJ hw.pu;have oF:(n:Int)-1=((n-1:Nat):Int):=by omega
 have eJ:=hw.a8 (i:=n-1) (by have:=hl.lv;omega);rw [hl.eI] at eJ;have A7:=sf (l:=pre++x++post) (o:=pre.length+n) (by rw [nK];have:=hl.lx;omega)
 rw [BA (by have:=hl.lx;omega),hl.h0] at A7;have A8:=sf (l:=pre++x++post) (o:=pre.length+(n-1)) (by rw [nK];have:=hl.lx;omega)
 rw [BA (by have:=hl.lx;omega),hl.h1] at A8;have EJ:=hl.JY;have Nl:=hl.JZ;have mR:=hl.top;have iD:∃tm x',D P L qh.body ⟨fm 0 [.aE 0 pre.length (n+1),w],H2 qs (pre++x++post),2,2⟩=some (.ret,⟨tm,H2 qs (pre++x'++post),2,2⟩)/\aj tm 4=uc (bv 18446744073709551616 x/bv 18446744073709551616 vs)/\x'.length=n+1/\lo 18446744073709551616 x'/\bv 18446744073709551616 x'=bv 18446744073709551616 x%bv 18446744073709551616 vs:=by
  have behind:∀(jm:Env) (q:Nat),aj jm 0= .aE 0 pre.length (n+1)->aj jm 1=w->aj jm 5=aa n->aj jm 6=uc q->q<18446744073709551616->bv 18446744073709551616 x/bv 18446744073709551616 vs<=q->q<=bv 18446744073709551616 x/bv 18446744073709551616 vs+1->
    ∃tm x',nU P L (nU P L (r9 0 (some (Ex.exit 0,⟨jm,H2 qs (pre++x++post),2,2⟩))) (.kp [0,1,5,6])) (ay (ay (ay (ay (ay (ay qh.body))))))=some (.ret,⟨tm,H2 qs (pre++x'++post),2,2⟩)/\aj tm 4=uc (bv 18446744073709551616 x/bv 18446744073709551616 vs)/\x'.length=n+1/\lo 18446744073709551616 x'/\bv 18446744073709551616 x'=bv 18446744073709551616 x%bv 18446744073709551616 vs:=by
   intro jm q t0 t1 t5 t6 g1 g2 g3;have hk:dN jm [0,1,5,6]=[(0,.aE 0 pre.length (n+1)),(1,w),(5,aa n),(6,uc q)]:=by simp only [go_sem,t0,t1,t5,t6]
   rw [ZF,gQ,adr,oQ (by rw [hk];simp only [go_sem,yq,lz,me,lj,li,rm,wi]) (by rw [hk];simp only [go_sem,yb,yq,aA hw.pu]),gQ,hk];exact ap2 h hw hl g1 g2 g3
  by_cases hc:u0<v1
  ·have f1:=adC h.adH h.IZ (P:=P) (L:=L) hc Nl EJ;have eU:=xO (u0*18446744073709551616+u1) v1;have n8:=xv (u0*18446744073709551616+u1) hl.pos;have nk:(u0*18446744073709551616+u1)/v1<18446744073709551616:=by
    refine (xL hl.pos).2 ?_
    have:=yU 18446744073709551616 (show u0+1<=v1 from hc)
    rw [xz 18446744073709551616 v1];omega
   have LW:=hl.first;rw [xz] at eU;generalize (u0*18446744073709551616+u1)/v1=q0 at*
   generalize (u0*18446744073709551616+u1)%v1=r0 at*
   simp only [go_sem,ya,yj,qh,H2,hw.len,hl.lv,oF,wrapN (n:=n-1) (by omega),eJ,db 0 pre.length (show n<n+1 by omega),db 0 pre.length (show n-1<n+1 by omega),A7,A8,show ¬(v1:Int)<=(u0:Int) by omega,f1];generalize lX:D P L (.loop [0,1,5,6,7,8] rU) _=qq;obtain ⟨ex,s,rfl,jm,q,rfl,rfl,t0,t1,t5,t6,g1,g2,g3⟩:=bI lX (abg (P:=P) (L:=L) h.lO h.fY hw hl (pre:=pre) (post:=post) (qs:=qs) q0) ⟨q0,r0,by
    rw [oQ (by simp only [go_sem,ya,yq,lz,me,lj,li,rm,wi]) (by simp only [go_sem,ya,yb,yq,aA hw.pu])];rw [yO (show r0<18446744073709551616 by omega),wk (show r0<18446744073709551616 by omega)]
    simp only [go_sem,ya]<;>rfl,eU,by omega,nk,LW,rfl⟩
   exact behind jm q t0 t1 t5 t6 g1 g2 g3
  ·have nh:u0=v1:=by omega
   have f1:=BX (P:=P) (f:=D P L) h.fY Nl EJ (c:=0) (by omega);rw [yV,show (uc 0)=AV.int .u64 0 from rfl] at f1;have Nn:=hl.digit
   simp only [go_sem,ya,yj,qh,H2,hw.len,hl.lv,oF,wrapN (n:=n-1) (by omega),eJ,db 0 pre.length (show n<n+1 by omega),db 0 pre.length (show n-1<n+1 by omega),A7,A8,show (v1:Int)<=(u0:Int) by omega,f1];generalize lX:D P L (.loop [0,1,5,6,7,8] rU) _=qq;obtain ⟨ex,s,rfl,jm,q,rfl,rfl,t0,t1,t5,t6,g1,g2,g3⟩:=bI lX (abg (P:=P) (L:=L) h.lO h.fY hw hl (pre:=pre) (post:=post) (qs:=qs) 18446744073709551615) ⟨18446744073709551615,u1+v1,by
    rw [oQ (by simp only [go_sem,ya,yq,lz,me,lj,li,rm,wi]) (by simp only [go_sem,ya,yb,yq,aA hw.pu])]
    simp only [go_sem,ya]<;>rfl,by rw [nh];omega,by omega,by decide,by omega,rfl⟩
   exact behind jm q t0 t1 t5 t6 g1 g2 g3
 obtain ⟨tm,x',g1,g2,g3,g4,g5⟩:=iD;refine ⟨x',?_,g3,g4,g5⟩;exact ZK h.ath g1 (.inr rfl) (by show iv _ [RV.t 4]=_;rw [Sx,RD,g2])
end
end
section
open Go (IntKind)
def WN (v:AV) (m:Nat):Prop:=∃l,bG v l/\lo 18446744073709551616 l/\gm l/\bv 18446744073709551616 l=m
def ali (i:Nat) (q:List Nat) (x:Nat):(yH (i+1) 0++q).set i x=yH i 0++x::q:=by
 rw [List.replicate_succ',List.append_assoc]
 simp_all
def LD {b:Nat} {l:List Nat} {i:Nat} (h:i<l.length):bv b (l.drop i)=l.getD i 0+b*bv b (l.drop (i+1)):=by
 rw [yJ h,gd h];rfl
def QW {v w:AV} {x y:List Nat} (hv:bG v x) (hw:bG w y) (hp:Hp):result hp (.aq [v,w])=some (.aq [v,w]):=by
 rcases hv with ⟨rfl,_⟩ | ⟨e,rfl⟩<;>rcases hw with ⟨rfl,_⟩ | ⟨e',rfl⟩<;>rfl
def anz {hp:Hp} {id n l h:Nat} {pu ex:Bool} {cs:List AV} {tm:Env} {x y:X} (hg:aw hp id=some (.cells true pu ex 1 cs)) (hx:cI tm 0 (some x)=some l) (hy:cI tm n (some y)=some h) (h1:l<h) (h2:h<=n):
  fe hp (.sl 1) (.aE id 0 n) tm (some x) (some y)=some (.aE id l (h-l)):=by
 simp only [fe,hg,hx,hy,yz (uo h1),yz h2,vm,wB,yy,gR (Nat.ne_of_lt h1),wA,yM,yd,yj]
def YI {hp:Hp} {id n h:Nat} {pu ex:Bool} {cs:List AV} {tm:Env} {y:X} (hg:aw hp id=some (.cells true pu ex 1 cs)) (hy:cI tm n (some y)=some h) (h1:0<h) (h2:h<=n):
  fe hp (.sl 1) (.aE id 0 n) tm none (some y)=some (.aE id 0 h):=by
 have hx:cI tm 0 none=some 0:=rfl;simp only [fe,hg,hx,hy,yz (ta h),yz h2,vm,wB,yy,gR (show (0:Nat)≠h by omega),wA,yM,ybi,yV,Nat.sub_zero]
def acQ (P:aI) (L:Lib) (f:cF) (hp:Hp) (ct n:Nat) (xs:List AV):eG P L f hp ct .heap (.fn (.f n) [] []) xs=iA P L f hp ct n xs:=by
 simp only [eG,xW,List.append_nil]
section
variable {P:aI} {L:Lib}
def ap3 (h:Wd P L) {v w:AV} {x:List Nat} (hv:bG v x) (hx:lo 18446744073709551616 x) (lx:x.length<=99999999999) {d:Nat} (hw:bG w [d]) (hX:0<d) (UZ:d<18446744073709551616) {n:Nat} (hn:n=x.length):
  ∀k s,(∃(i r:Nat) (q:List Nat),bf [0,1,6,7,8] s=⟨[(0,v),(1,w),(6,.aE 0 0 n),(7,uc r),(8,aa ((i:Int)-1))],[(0,.cells true true true 1 ((yH i 0++q).map uc))],1,0⟩/\i=k/\i+q.length=n/\lo 18446744073709551616 q/\r<d/\bv 18446744073709551616 (x.drop i)=bv 18446744073709551616 q*d+r)->
   ∃ex s',D P L (.loop [0,1,6,7,8] Hs) s=some (ex,s')/\∃tm r q,s'=⟨tm,[(0,.cells true true true 1 (q.map uc))],1,0⟩/\ex= .exit 0/\aj tm 6= .aE 0 0 n/\aj tm 7=uc r/\q.length=n/\lo 18446744073709551616 q/\r<d/\bv 18446744073709551616 x=bv 18446744073709551616 q*d+r:=by
 intro dq sq;generalize bQ:bf [0,1,6,7,8] sq=s0;revert bQ s0 sq dq;apply eO;rintro k s ⟨i,r,q,rfl,rfl,hlen,bi,hr,aQ⟩
 cases i with
 | zero=>
  right
  simp only [go_sem,ya,Hs,show ¬(0:Int)<=((0:Nat):Int)-1 by omega];exact ⟨_,_,rfl,by simp,_,r,q,rfl,rfl,by simp only [go_sem,ya],by simp only [go_sem,ya],by omega,bi,hr,by simpa using aQ⟩
 | succ i=>
  left
  have gx:=gC (show 0<18446744073709551616 by decide) hx i;have e1:=hv.a8 (i:=i) (by omega);have e2:=hw.a8 (i:=0) (by simp);have iI:=LD (b:=18446744073709551616) (l:=x) (i:=i) (by omega);rw [show ([d]:List Nat).getD 0 0=d from rfl] at e2;generalize x.getD i 0=a at*
  have e3:=adC (P:=P) (L:=L) h.adH h.IZ hr gx UZ;have eU:=xO (r*18446744073709551616+a) d;have n8:=xv (r*18446744073709551616+a) hX;have nk:(r*18446744073709551616+a)/d<18446744073709551616:=by
   refine (xL hX).2 ?_;omega
  generalize (r*18446744073709551616+a)/d=q1 at*
  generalize (r*18446744073709551616+a)%d=r1 at*
  have aR:=fun (hp:Hp) (ct:Nat)=>jG (hp:=hp) (ct:=ct) (id:=0) (v:=q1) (ex:=true) (l:=yH (i+1) 0++q) (o:=i) (by simp;omega)
  simp only [go_sem,ya,yj,Hs,show ((i+1:Nat):Int)-1=(i:Int) by omega,show (0:Int)<=(i:Int) by omega,e1,e2,e3,db 0 0 (show i<n by omega),yd,aR,ali];refine ⟨_,i,rfl,by omega,i,r1,q1::q,?_,rfl,by simp;omega,KU.2 ⟨D1.2 nk,bi⟩,n8,?_⟩
  ·rw [wrap64 (by omega) (by omega)];simp only [go_sem,ya,yb,ao,aA hv.pu,aF _ hv.pu,aA hw.pu,aF _ hw.pu]<;>rfl
  ·rw [iI,aQ];simp only [bv];rw [we,xx,<-xk 18446744073709551616];rw [xz d q1] at eU;omega
def ajf {s u u1:Nat} (hs:s<64) (hu:u<18446744073709551616):u/2^s<18446744073709551616/\(0<s->u/2^s|||(u1*2^(64-s)%18446744073709551616)<18446744073709551616)/\
  (if 0<s then (u/2^s|||(u1*2^(64-s)%18446744073709551616)) else u/2^s)*2^s+u%2^s=u+18446744073709551616*(u1%2^s):=by
 have e:18446744073709551616=2^s*2^(64-s):=by rw [<-wj,show s+(64-s)=64 by omega]
 have h1:u1*2^(64-s)%18446744073709551616=(u1%2^s)*2^(64-s):=by rw [e,ue]
 have hp:=wq s;have h2:u/2^s<2^(64-s):=by
  refine (xL hp).2 ?_
  grind
 have h3:u/2^s|||(u1*2^(64-s)%18446744073709551616)=(u1%2^s)*2^(64-s)+u/2^s:=by rw [h1,ybu,QV h2]
 have h4:(u1%2^s)*2^(64-s)+u/2^s<18446744073709551616:=by
  have:=yU (2^(64-s)) (show u1%2^s+1<=2^s from xv _ hp)
  grind
 have h5:=yao u (2^s)
 grind
def ap4 {us qs:List Nat} {n la m s:Nat} (hs:s<64) (lu:us.length=la) (gu:lo 18446744073709551616 us) (hn:n<la) (J5:la<=100000000000):
  ∀k st,(∃(i:Nat) (rs:List Nat),bf [9,11,12,13,96,97] st=⟨[(9,aa s),(11,.aE 0 0 la),(12,aa n),(13,.aE 1 0 m),(96,aa n),(97,aa i)],H2 qs (rs++us.drop i),2,0⟩/\i+k=n/\rs.length=i/\lo 18446744073709551616 rs/\bv 18446744073709551616 rs*2^s+us.getD 0 0%2^s=bv 18446744073709551616 (us.take i)+18446744073709551616^i*(us.getD i 0%2^s))->
   ∃ex st',D P L (.loop [9,11,12,13,96,97] DO) st=some (ex,st')/\∃tm rs,st'=⟨tm,H2 qs (rs++us.drop n),2,0⟩/\ex= .exit 4/\aj tm 11= .aE 0 0 la/\aj tm 12=aa n/\aj tm 13= .aE 1 0 m/\rs.length=n/\lo 18446744073709551616 rs/\bv 18446744073709551616 rs*2^s+us.getD 0 0%2^s=bv 18446744073709551616 (us.take n)+18446744073709551616^n*(us.getD n 0%2^s):=by
 intro dq sq;generalize bQ:bf [9,11,12,13,96,97] sq=s0;revert bQ s0 sq dq;apply eO;rintro k st ⟨i,rs,rfl,hk,lr,gr,aQ⟩;by_cases hi:i<n
 ·left
  have dH:(0:Nat)<18446744073709551616:=by decide
  have g0:=gC dH gu i;have g1:=gC dH gu (i+1);have d0:us.drop i=us.getD i 0::us.getD (i+1) 0::us.drop (i+2):=by
   rw [yJ (show i<us.length by omega),yJ (show i+1<us.length by omega),gd,gd]
  have dS:=iP (b:=18446744073709551616) (l:=us) i;have kI:∀r,r<18446744073709551616->r*2^s+us.getD i 0%2^s=us.getD i 0+18446744073709551616*(us.getD (i+1) 0%2^s)->lo 18446744073709551616 (rs++[r])/\bv 18446744073709551616 (rs++[r])*2^s+us.getD 0 0%2^s=bv 18446744073709551616 (us.take (i+1))+18446744073709551616^(i+1)*(us.getD (i+1) 0%2^s):=fun r h1 h2=>by
   refine ⟨KU.2 ⟨gr,D1.2 h1⟩,?_⟩;rw [pK,zV,lr,dS,we,xg,xk,xk];have e2:=congrArg (fun t=>18446744073709551616^i*t) h2;simp only [xx] at e2;generalize 18446744073709551616^i*(r*2^s)=p1 at*
   generalize 18446744073709551616^i*(us.getD i 0%2^s)=p2 at*
   generalize 18446744073709551616^i*us.getD i 0=p3 at*
   generalize 18446744073709551616^i*(18446744073709551616*(us.getD (i+1) 0%2^s))=p4 at*
   omega
  have SI:us.drop (i+1)=us.getD (i+1) 0::us.drop (i+2):=by
   rw [yJ (show i+1<us.length by omega),gd]
  generalize us.getD i 0=a at*
  obtain ⟨c,hc⟩:∃c,c=us.getD (i+1) 0:=⟨_,rfl⟩;rw [<-hc] at g1 d0 SI kI;generalize us.drop (i+2)=dr at*
  rw [d0];obtain ⟨n1,n2,n3⟩:=ajf (u1:=c) hs g0;have o1:=IY .i64 a (s:=s) (by omega);have o2:=IX .i64 c (s:=64-s) (by omega);have o3:binOp .sub (.int .i64 64) (aa s)=some (aa (64-s:Nat)):=by
   rw [Ly,wrap64 (by omega) (by omega)];congr 2;omega
  have o4:=UQ n1 (xv (c*2^(64-s)) dH);have sa:∀z y,(rs++z::y).set i a=rs++a::y:=fun z y=>by rw [tu _ _ (by omega),lr];simp
  have e0:∀z y,xo i ((rs++z::y).map uc)=uc z::y.map uc:=fun z y=>by
   rw [xy,yaj (by simp [lr])];rfl
  have e1:∀z y u,xo (i+1) ((rs++z::y::u).map uc)=uc y::u.map uc:=fun z y u=>by
   rw [show rs++z::y::u=(rs++[z])++y::u by simp,xy,yaj (by simp [lr])];rfl
  have E2:∀(hp:Hp) (ct x z:Nat) (y:List Nat),fM hp ct 0 i 1 [.int .u64 (x:Int)] (some (.cells true true true 1 ((rs++z::y).map uc)))=some (.aq [],bh hp 0 (.cells true true true 1 ((rs++x::y).map uc)),ct):=fun hp ct x z y=>by
   rw [jG (by simp;omega),tu _ _ (by omega),lr];simp
  by_cases h0:0<s
  ·rw [yL h0] at n3;obtain ⟨f1,f2⟩:=kI _ (n2 h0) n3;generalize a/2^s=a1 at*
   generalize a1|||(c*2^(64-s)%18446744073709551616)=r at*
   simp only [go_sem,ya,yj,DO,H2,show (i:Int)<(n:Int) by omega,db 0 0 (show i<la by omega),yd,e0,o1,E2,show (0:Int)<(s:Int) by omega,show (i:Int)+1=((i+1:Nat):Int) from rfl,wrapN (n:=i+1) (by omega),show ((i+1:Nat):Int)<(la:Int) by omega,db 0 0 (show i+1<la by omega),e1,o3,o2,o4];refine ⟨_,k-1,rfl,by omega,i+1,rs++[r],by simp only [go_sem,ya,yb,ao];rw [SI];simp,by omega,by simp [lr],f1,by rw [<-hc];exact f2⟩
  ·rw [yF h0] at n3;obtain ⟨f1,f2⟩:=kI _ n1 n3;generalize a/2^s=a1 at*
   simp only [go_sem,ya,yj,DO,H2,show (i:Int)<(n:Int) by omega,db 0 0 (show i<la by omega),yd,e0,o1,E2,show ¬(0:Int)<(s:Int) by omega,show (i:Int)+1=((i+1:Nat):Int) from rfl,wrapN (n:=i+1) (by omega)];refine ⟨_,k-1,rfl,by omega,i+1,rs++[a1],by simp only [go_sem,ya,yb,ao];rw [SI];simp,by omega,by simp [lr],f1,by rw [<-hc];exact f2⟩
 ·right
  have:i=n:=by omega
  subst this;simp only [go_sem,ya,DO,H2,show ¬(i:Int)<(i:Int) by omega];exact ⟨_,_,rfl,by simp,_,rs,rfl,rfl,by simp only [go_sem,ya],by simp only [go_sem,ya],by simp only [go_sem,ya],lr,gr,aQ⟩
end
end
end VE
