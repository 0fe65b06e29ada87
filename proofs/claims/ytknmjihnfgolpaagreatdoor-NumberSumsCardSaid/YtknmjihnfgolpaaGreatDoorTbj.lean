import Derived.Test.YtknmjihnfgolpaaGreatDoorTbi
set_option linter.all false
set_option maxRecDepth 100000
open Nat (reduceAdd reduceEqDiff reduceMul)
section
namespace VE
open Go (IntKind)
theorem zvx {b:Nat} {out:List Nat} {p j c t o x y Y bo ba:Nat} (ho:o=out.getD j 0) (hj:j<out.length) (ht:t=o+x*y+c) (hv:bo+p*c=ba+p*(x*Y)) (hb:bo=bv b out) (hp:p=b^j):
  bv b (out.set j (t%b))+p*b*(t/b)=ba+p*(x*(Y+0))+p*(x*y):=by
 have h1:=zc5 (b:=b) (x:=t%b) hj;have h2:=ze2 p b t;rw [←ho,←hp,←hb] at h1;rw [ht,Nat.mul_add,Nat.mul_add,←ht] at h2;simp only [Nat.add_zero];omega
section
variable {P:zU} {L:Lib}
theorem zkc {x y c:Nat} (hx:x<18446744073709551616) (hy:y<18446744073709551616) (hc:c≤1):
  (x+18446744073709551616*2-y-c)%18446744073709551616+y+c=x+18446744073709551616*(if y+c≤x then 0 else 1):=by
 split<;>omega
theorem zGf (h173:L.pure 173=some zfE) {v w:AV} {x y:List Nat} (hv:IsU v x) (hw:IsU w y) (hx:lo 18446744073709551616 x) (hy:lo 18446744073709551616 y) (lx:x.length≤99999999999) (ly:y.length≤x.length) (hle:bv 18446744073709551616 y≤bv 18446744073709551616 x) {n:Nat} (hn:n=x.length):
  ∀k s,(∃(i c:Nat) (out:List Nat),zC [0,1,5,6,13,14] s=⟨[(0,v),(1,w),(5,.osl 0 0 n),(6,uc c),(13,zf x.length),(14,zf i)],[(0,.cells true true true 1 (out.map uc))],1,0⟩∧i+k=x.length∧out.length=n∧c≤1∧lo 18446744073709551616 out∧
    bv 18446744073709551616 out+bv 18446744073709551616 (y.take i)=bv 18446744073709551616 (x.take i)+18446744073709551616^i*c∧(∀m,i≤m→out.getD m 0=0))→
   ∃ex s',D P L (.loop [0,1,5,6,13,14] zhV) s=some (ex,s')∧∃tm out,s'=⟨tm,[(0,.cells true true true 1 (out.map uc))],1,0⟩∧ex= .exit 0∧zc tm 5= .osl 0 0 n∧out.length=n∧lo 18446744073709551616 out∧
    bv 18446744073709551616 out+bv 18446744073709551616 y=bv 18446744073709551616 x:=by
 refine zT (I:=fun k s=>∃(i c:Nat) (out:List Nat),s=⟨[(0,v),(1,w),(5,.osl 0 0 n),(6,uc c),(13,zf x.length),(14,zf i)],[(0,.cells true true true 1 (out.map uc))],1,0⟩∧i+k=x.length∧out.length=n∧c≤1∧lo 18446744073709551616 out∧
    bv 18446744073709551616 out+bv 18446744073709551616 (y.take i)=bv 18446744073709551616 (x.take i)+18446744073709551616^i*c∧(∀m,i≤m→out.getD m 0=0))
  (Q:=fun ex s'=>∃tm out,s'=⟨tm,[(0,.cells true true true 1 (out.map uc))],1,0⟩∧ex= .exit 0∧zc tm 5= .osl 0 0 n∧out.length=n∧lo 18446744073709551616 out∧
    bv 18446744073709551616 out+bv 18446744073709551616 y=bv 18446744073709551616 x) ?_
 rintro k s ⟨i,c,out,rfl,hk,hlen,hc,hlo,hval,hhi⟩;by_cases hi:i<x.length
 ·left
  have hz:=hhi i (Nat.le_refl _);have gx:=za9 (show 0<18446744073709551616 by decide) hx i;have gy:=za9 (show 0<18446744073709551616 by decide) hy i;have hw1:=zkc gx gy hc;have hstep:=zu3 (x:=x) (y:=y) (show i<out.length by omega) hz hw1 hval;have e1:=zpT (P:=P) (f:=D P L) h173 gx gy hc;have ex:=hv.ixa hi;generalize x.getD i 0=p at*
  have hc':(if y.getD i 0+c≤p then 0 else 1)≤1:=by split<;>omega
  by_cases hj:i<y.length
  ·have ey:=hw.ixa hj;generalize y.getD i 0=q at*
   generalize (if q+c≤p then 0 else 1)=c1 at*
   simp only [go_sem,reduceEqDiff,reduceMul,Nat.mul_one,zhV,hw.len,show (i:Int)<x.length by omega,show (i:Int)<y.length by omega,ex,ey,e1,zZ 0 0 (show i<n by omega),Nat.zero_add,stU (l:=out) (o:=i) (by omega)]
   refine ⟨_,k-1,rfl,by omega,i+1,c1,_,?_,by omega,by simp [hlen],hc',zcu hlo (x:=(p+18446744073709551616*2-q-c)%18446744073709551616) (i:=i) (by omega),hstep,fun m hm=>?_⟩
   ·rw [zg (by omega) (by omega)];simp only [go_sem,reduceEqDiff,reduceAdd,reduceMul,za,zb hv.pu,ze _ hv.pu,zb hw.pu,ze _ hw.pu]<;>rfl
   ·rw [zcq (by omega)];exact hhi m (by omega)
  ·have hy0:y.getD i 0=0:=zmK (by omega);rw [hy0] at hstep e1 hc';rw [show (uc 0)=AV.int .u64 0 from rfl] at e1;generalize (if 0+c≤p then 0 else 1)=c1 at*
   simp only [go_sem,reduceEqDiff,reduceMul,Nat.mul_one,zhV,hw.len,show (i:Int)<x.length by omega,show ¬(i:Int)<y.length by omega,ex,e1,zZ 0 0 (show i<n by omega),Nat.zero_add,stU (l:=out) (o:=i) (by omega)]
   refine ⟨_,k-1,rfl,by omega,i+1,c1,_,?_,by omega,by simp [hlen],hc',zcu hlo (x:=(p+18446744073709551616*2-0-c)%18446744073709551616) (i:=i) (by omega),hstep,fun m hm=>?_⟩
   ·rw [zg (by omega) (by omega)];simp only [go_sem,reduceEqDiff,reduceAdd,reduceMul,za,zb hv.pu,ze _ hv.pu,zb hw.pu,ze _ hw.pu]<;>rfl
   ·rw [zcq (by omega)];exact hhi m (by omega)
 ·right
  have:i=x.length:=by omega
  subst this;rw [List.take_length,List.take_of_length_le ly] at hval;have hlt:=zd4 hlo;rw [hlen,hn] at hlt;simp only [go_sem,reduceEqDiff,zhV,show ¬(x.length:Int)<x.length by omega];refine ⟨_,_,rfl,by simp,_,out,rfl,rfl,by simp only [go_sem,reduceEqDiff],hlen,hlo,?_⟩;rcases (show c=0∨c=1 by omega) with rfl | rfl
  ·omega
  ·omega
theorem zNR (h:Has P L 159 zCi) (h166:Has P L 166 zoi) (h173:L.pure 173=some zfE) {v w:AV} {x y:List Nat} (hv:IsU v x) (hw:IsU w y) (hx:lo 18446744073709551616 x) (hy:lo 18446744073709551616 y) (ny:nzN y) (lx:x.length≤99999999999) (hle:bv 18446744073709551616 y≤bv 18446744073709551616 x):
  ∃r out,zF P L 159 [v,w] r∧IsU r out∧lo 18446744073709551616 out∧nzN out∧bv 18446744073709551616 out+bv 18446744073709551616 y=bv 18446744073709551616 x:=by
 have ly:y.length≤x.length:=by
  by_cases hh:x.length<y.length
  ·have:=zjp (b:=18446744073709551616) (by decide) hx ny hh
   omega
  ·omega
 obtain ⟨n,hn⟩:∃n,n=x.length:=⟨_,rfl⟩;unfold zF;rw [zd h]
 simp only [go_sem,reduceEqDiff,reduceAdd,zCi,hv.len,←hn,zpi (n:=n) _ (by omega)];generalize hq:D P L (.loop [0,1,5,6,13,14] zhV) _=q;obtain ⟨ex,s,rfl,tm,o,rfl,rfl,t5,hlen,hlo,hval⟩:=zae hq (zGf (P:=P) (L:=L) h173 hv hw hx hy lx ly hle hn x.length)
  ⟨0,0,List.replicate n 0,by rw [hn];simp only [go_sem,reduceEqDiff,reduceAdd,za,zb hv.pu,ze _ hv.pu,zb hw.pu,ze _ hw.pu]<;>rfl,by omega,by simp,by omega,zhR (by decide) n,by rw [zhQ];simp [bv],fun m _=>zeT n m⟩
 have hf:=zbY true o;rw [hlen] at hf;obtain ⟨r,e1,hr⟩:=zn4 h166 hf (by omega);unfold zF at e1;refine ⟨r,_,?_,hr,zdm hlo,zdu _,by rw [zdn];exact hval⟩
 simp only [go_sem,reduceAdd,za,t5,zoo _ (n:=n) (l:=o) hlen true,e1,hr.shut,hr.res]
theorem zxy {x y o c:Nat} (hx:x<18446744073709551616) (hy:y<18446744073709551616) (ho:o<18446744073709551616) (hc:c<18446744073709551616):
  o+x*y+c<18446744073709551616*18446744073709551616∧
  ((x*y%18446744073709551616+o+0)%18446744073709551616+c+0)%18446744073709551616=(o+x*y+c)%18446744073709551616∧
  x*y/18446744073709551616+(x*y%18446744073709551616+o+0)/18446744073709551616+((x*y%18446744073709551616+o+0)%18446744073709551616+c+0)/18446744073709551616=(o+x*y+c)/18446744073709551616:=by
 have h1:=Nat.mul_le_mul (show x≤18446744073709551615 by omega) (show y≤18446744073709551615 by omega);generalize x*y=q at*
 omega
theorem zGy (h143:L.pure 143=some zev) (h171:L.pure 171=some zdd) {v w:AV} {x y:List Nat} (hv:IsU v x) (hw:IsU w y) (hx:lo 18446744073709551616 x) (hy:lo 18446744073709551616 y) (lx:x.length≤49999999999) (ly:y.length≤49999999999) {n i:Nat} (hn:n=x.length+y.length) (hi:i<x.length) {a:Nat} (ha:a<18446744073709551616) {bo:Nat}:
  ∀k s,(∃(j c:Nat) (out:List Nat),zC [1,5,6,7,8,20,21,22,27,28,29] s=⟨[(1,w),(5,.osl 0 0 n),(6,zf i),(7,uc a),(8,uc c),(20,v),(21,zf x.length),(22,zf i),(27,w),(28,zf y.length),(29,zf j)],[(0,.cells true true true 1 (out.map uc))],1,0⟩∧j+k=y.length∧out.length=n∧c<18446744073709551616∧lo 18446744073709551616 out∧
    bv 18446744073709551616 out+18446744073709551616^(i+j)*c=bo+18446744073709551616^i*(a*bv 18446744073709551616 (y.take j))∧(∀m,i+y.length≤m→out.getD m 0=0))→
   ∃ex s',D P L (.loop [1,5,6,7,8,20,21,22,27,28,29] zkv) s=some (ex,s')∧∃tm c out,s'=⟨tm,[(0,.cells true true true 1 (out.map uc))],1,0⟩∧ex= .exit 2∧zc tm 1=w∧zc tm 5= .osl 0 0 n∧zc tm 6=zf i∧zc tm 8=uc c∧zc tm 20=v∧zc tm 21=zf x.length∧zc tm 22=zf i∧out.length=n∧c<18446744073709551616∧lo 18446744073709551616 out∧
    bv 18446744073709551616 out+18446744073709551616^(i+y.length)*c=bo+18446744073709551616^i*(a*bv 18446744073709551616 y)∧(∀m,i+y.length≤m→out.getD m 0=0):=by
 refine zT (I:=fun k s=>∃(j c:Nat) (out:List Nat),s=⟨[(1,w),(5,.osl 0 0 n),(6,zf i),(7,uc a),(8,uc c),(20,v),(21,zf x.length),(22,zf i),(27,w),(28,zf y.length),(29,zf j)],[(0,.cells true true true 1 (out.map uc))],1,0⟩∧j+k=y.length∧out.length=n∧c<18446744073709551616∧lo 18446744073709551616 out∧
    bv 18446744073709551616 out+18446744073709551616^(i+j)*c=bo+18446744073709551616^i*(a*bv 18446744073709551616 (y.take j))∧(∀m,i+y.length≤m→out.getD m 0=0))
  (Q:=fun ex s'=>∃tm c out,s'=⟨tm,[(0,.cells true true true 1 (out.map uc))],1,0⟩∧ex= .exit 2∧zc tm 1=w∧zc tm 5= .osl 0 0 n∧zc tm 6=zf i∧zc tm 8=uc c∧zc tm 20=v∧zc tm 21=zf x.length∧zc tm 22=zf i∧out.length=n∧c<18446744073709551616∧lo 18446744073709551616 out∧
    bv 18446744073709551616 out+18446744073709551616^(i+y.length)*c=bo+18446744073709551616^i*(a*bv 18446744073709551616 y)∧(∀m,i+y.length≤m→out.getD m 0=0)) ?_
 rintro k s ⟨j,c,out,rfl,hk,hlen,hc,hlo,hval,hhi⟩;by_cases hj:j<y.length
 ·left
  have hw0:(0:Nat)<18446744073709551616:=by decide
  have gy:=za9 hw0 hy j;have go':=za9 hw0 hlo (i+j);have ey:=hw.ixa hj;have e3:=zhj (l:=out) (o:=i+j) (by omega);obtain ⟨q,hq⟩:∃q,q=y.getD j 0:=⟨_,rfl⟩;obtain ⟨o,ho⟩:∃o,o=out.getD (i+j) 0:=⟨_,rfl⟩;rw [←hq] at gy ey;rw [←ho] at go' e3;obtain ⟨m1,m2,m3⟩:=zxy ha gy go' hc;have hpy:a*q<18446744073709551616*18446744073709551616:=by omega
  have f1:=zmw (P:=P) (f:=D P L) h143 ha gy;have f2:=zgT (P:=P) (f:=D P L) h171 (x:=a*q%18446744073709551616) (y:=o) (c:=0) (Nat.mod_lt _ hw0) go' (by omega);have f3:=zgT (P:=P) (f:=D P L) h171 (x:=(a*q%18446744073709551616+o+0)%18446744073709551616) (y:=c) (c:=0) (Nat.mod_lt _ hw0) hc (by omega);obtain ⟨t,ht⟩:∃t,t=o+a*q+c:=⟨_,rfl⟩;have hstep:=zvx (b:=18446744073709551616) (out:=out) (p:=18446744073709551616^(i+j)) (j:=i+j) (c:=c) (t:=t) (x:=a) (y:=q) (Y:=0) (ba:=bo+18446744073709551616^i*(a*bv 18446744073709551616 (y.take j))) ho (by omega) ht (by simpa using hval) rfl rfl;rw [m2,←ht] at f3;rw [←ht] at m1 m3;obtain ⟨d1,hd1⟩:∃d,d=(a*q%18446744073709551616+o+0)/18446744073709551616:=⟨_,rfl⟩;obtain ⟨d2,hd2⟩:∃d,d=((a*q%18446744073709551616+o+0)%18446744073709551616+c+0)/18446744073709551616:=⟨_,rfl⟩;rw [←hd1] at f2 m3;rw [←hd2] at f3 m3
  rw [show (uc 0)=AV.int .u64 0 from rfl] at f2 f3;obtain ⟨h1,hh1⟩:∃d,d=a*q/18446744073709551616:=⟨_,rfl⟩;rw [←hh1] at f1 m3;have hs1:h1+d1<18446744073709551616:=by omega
  have hs2:h1+d1+d2<18446744073709551616:=by omega
  simp only [go_sem,reduceEqDiff,Nat.mul_one,zkv,show (j:Int)<y.length by omega,ey,f1,zB (n:=i+j) (by omega),show (i:Int)+(j:Int)=((i+j:Nat):Int) from rfl,zZ 0 0 (show i+j<n by omega),Nat.zero_add,e3,f2,f3,show (h1:Int)+(d1:Int)=((h1+d1:Nat):Int) from rfl,zDM hs1,show ((h1+d1:Nat):Int)+(d2:Int)=((h1+d1+d2:Nat):Int) from rfl,zDM hs2,stU (l:=out) (o:=i+j) (by omega)]
  refine ⟨_,k-1,rfl,by omega,j+1,h1+d1+d2,_,?_,by omega,by simp [hlen],hs2,zcu hlo (x:=t%18446744073709551616) (i:=i+j) (Nat.mod_lt _ hw0),?_,fun m hm=>?_⟩
  ·rw [zg (by omega) (by omega)];simp only [go_sem,reduceEqDiff,reduceAdd,za,zb hv.pu,ze _ hv.pu,zb hw.pu,ze _ hw.pu]<;>rfl
  ·rw [m3,show i+(j+1)=i+j+1 by omega,Nat.pow_succ,za4,←hq,Nat.mul_add a,Nat.mul_add (18446744073709551616^i)];simp only [Nat.mul_zero,Nat.add_zero] at hstep;rw [hstep,Nat.pow_add,←Nat.add_assoc,Nat.mul_assoc (18446744073709551616^i),←Nat.mul_assoc a,Nat.mul_comm a (18446744073709551616^j),Nat.mul_assoc]
  ·rw [zcq (by omega)];exact hhi m hm
 ·right
  have:j=y.length:=by omega
  subst this;rw [List.take_length] at hval;simp only [go_sem,reduceEqDiff,zkv,show ¬(y.length:Int)<y.length by omega];exact ⟨_,_,rfl,by simp,_,c,out,rfl,rfl,by simp only [go_sem,reduceEqDiff],by simp only [go_sem,reduceEqDiff],by simp only [go_sem,reduceEqDiff],by simp only [go_sem,reduceEqDiff],by simp only [go_sem,reduceEqDiff],by simp only [go_sem,reduceEqDiff],by simp only [go_sem,reduceEqDiff],hlen,hc,hlo,hval,hhi⟩
theorem zMi (h143:L.pure 143=some zev) (h171:L.pure 171=some zdd) {v w:AV} {x y:List Nat} (hv:IsU v x) (hw:IsU w y) (hx:lo 18446744073709551616 x) (hy:lo 18446744073709551616 y) (lx:x.length≤49999999999) (ly:y.length≤49999999999) {n:Nat} (hn:n=x.length+y.length):
  ∀k s,(∃(i:Nat) (out:List Nat),zC [1,5,20,21,22] s=⟨[(1,w),(5,.osl 0 0 n),(20,v),(21,zf x.length),(22,zf i)],[(0,.cells true true true 1 (out.map uc))],1,0⟩∧i+k=x.length∧out.length=n∧lo 18446744073709551616 out∧
    bv 18446744073709551616 out=bv 18446744073709551616 (x.take i)*bv 18446744073709551616 y∧(∀m,i+y.length≤m→out.getD m 0=0))→
   ∃ex s',D P L (.loop [1,5,20,21,22] zjZ) s=some (ex,s')∧∃tm out,s'=⟨tm,[(0,.cells true true true 1 (out.map uc))],1,0⟩∧ex= .exit 0∧zc tm 5= .osl 0 0 n∧out.length=n∧lo 18446744073709551616 out∧
    bv 18446744073709551616 out=bv 18446744073709551616 x*bv 18446744073709551616 y:=by
 refine zT (I:=fun k s=>∃(i:Nat) (out:List Nat),s=⟨[(1,w),(5,.osl 0 0 n),(20,v),(21,zf x.length),(22,zf i)],[(0,.cells true true true 1 (out.map uc))],1,0⟩∧i+k=x.length∧out.length=n∧lo 18446744073709551616 out∧
    bv 18446744073709551616 out=bv 18446744073709551616 (x.take i)*bv 18446744073709551616 y∧(∀m,i+y.length≤m→out.getD m 0=0))
  (Q:=fun ex s'=>∃tm out,s'=⟨tm,[(0,.cells true true true 1 (out.map uc))],1,0⟩∧ex= .exit 0∧zc tm 5= .osl 0 0 n∧out.length=n∧lo 18446744073709551616 out∧
    bv 18446744073709551616 out=bv 18446744073709551616 x*bv 18446744073709551616 y) ?_
 rintro k s ⟨i,out,rfl,hk,hlen,hlo,hval,hhi⟩;by_cases hi:i<x.length
 ·left
  have gx:=za9 (show 0<18446744073709551616 by decide) hx i;have ex:=hv.ixa hi;obtain ⟨a,ha⟩:∃a,a=x.getD i 0:=⟨_,rfl⟩;rw [←ha] at gx ex;simp only [go_sem,reduceEqDiff,zjZ,hw.len,show (i:Int)<x.length by omega,ex];generalize hq:D P L (.loop [1,5,6,7,8,20,21,22,27,28,29] zkv) _=q;obtain ⟨ex,s,rfl,tm,c,out1,rfl,rfl,t1,t5,t6,t8,t20,t21,t22,hlen1,hc,hlo1,hval1,hhi1⟩:=zae hq (zGy (P:=P) (L:=L) h143 h171 hv hw hx hy lx ly hn hi gx (bo:=bv 18446744073709551616 out) y.length)
   ⟨0,0,out,by simp only [go_sem,reduceEqDiff,reduceAdd,za,zb hv.pu,ze _ hv.pu,zb hw.pu,ze _ hw.pu]<;>rfl,by omega,hlen,by decide,hlo,by simp [bv],hhi⟩
  have hz:out1.getD (i+y.length) 0=0:=hhi1 _ (Nat.le_refl _);have zad:=zc5 (b:=18446744073709551616) (l:=out1) (i:=i+y.length) (x:=c) (by omega);rw [hz,Nat.mul_zero,Nat.add_zero,hval1] at zad
  simp only [go_sem,reduceEqDiff,Nat.mul_one,za,t1,t5,t6,t8,t20,t21,t22,hw.len,zb hv.pu,ze _ hv.pu,zb hw.pu,ze _ hw.pu,zB (n:=i+y.length) (by omega),show (i:Int)+(y.length:Int)=((i+y.length:Nat):Int) from rfl,zZ 0 0 (show i+y.length<n by omega),Nat.zero_add,stU (l:=out1) (o:=i+y.length) (by omega)];refine ⟨_,k-1,rfl,by omega,i+1,out1.set (i+y.length) c,?_,by omega,by simp [hlen1],zcu hlo1 hc,?_,fun m hm=>?_⟩
  ·rw [zg (by omega) (by omega)];simp only [go_sem,reduceEqDiff,reduceAdd,za,zb hv.pu,ze _ hv.pu,zb hw.pu,ze _ hw.pu]<;>rfl
  ·rw [zad,hval,za4,Nat.add_mul,←ha,Nat.mul_assoc]
  ·rw [zcq (by omega)];exact hhi1 m (by omega)
 ·right
  have:i=x.length:=by omega
  subst this;rw [List.take_length] at hval;simp only [go_sem,reduceEqDiff,zjZ,show ¬(x.length:Int)<x.length by omega];exact ⟨_,_,rfl,by simp,_,out,rfl,rfl,by simp only [go_sem,reduceEqDiff],hlen,hlo,hval⟩
theorem zQz (h:Has P L 144 zCs) (h166:Has P L 166 zoi) (h143:L.pure 143=some zev) (h171:L.pure 171=some zdd) {v w:AV} {x y:List Nat} (hv:IsU v x) (hw:IsU w y) (hx:lo 18446744073709551616 x) (hy:lo 18446744073709551616 y) (lx:x.length≤49999999999) (ly:y.length≤49999999999):
  ∃r out,zF P L 144 [v,w] r∧IsU r out∧lo 18446744073709551616 out∧nzN out∧bv 18446744073709551616 out=bv 18446744073709551616 x*bv 18446744073709551616 y:=by
 obtain ⟨n,hn⟩:∃n,n=x.length+y.length:=⟨_,rfl⟩;unfold zF;rw [zd h]
 simp only [go_sem,reduceEqDiff,reduceAdd,zCs,hv.len,hw.len,zB (n:=n) (by omega),show (x.length:Int)+(y.length:Int)=((x.length+y.length:Nat):Int) from rfl,←hn,zpi (n:=n) _ (by omega)];generalize hq:D P L (.loop [1,5,20,21,22] zjZ) _=q;obtain ⟨ex,s,rfl,tm,o,rfl,rfl,t5,hlen,hlo,hval⟩:=zae hq (zMi (P:=P) (L:=L) h143 h171 hv hw hx hy lx ly hn x.length)
  ⟨0,List.replicate n 0,by simp only [go_sem,reduceEqDiff,reduceAdd,za,zb hv.pu,ze _ hv.pu,zb hw.pu,ze _ hw.pu]<;>rfl,by omega,by simp,zhR (by decide) n,by rw [zhQ];simp [bv],fun m _=>zeT n m⟩
 have hf:=zbY true o;rw [hlen] at hf;obtain ⟨r,e1,hr⟩:=zn4 h166 hf (by omega);unfold zF at e1;refine ⟨r,_,?_,hr,zdm hlo,zdu _,by rw [zdn];exact hval⟩
 simp only [go_sem,reduceAdd,za,t5,zoo _ (n:=n) (l:=o) hlen true,e1,hr.shut,hr.res]
end
end VE
end
section
namespace VE
open Go (IntKind)
theorem zsT (n:Int):IntKind.wrap .u64 n=n%18446744073709551616:=by
 simp [IntKind.wrap,IntKind.signed,IntKind.bits]
theorem zkY (n:Nat):IntKind.wrap .u64 (n:Int)=((n%18446744073709551616:Nat):Int):=by rw [zsT];omega
theorem ziX (a b:Nat):binOp .mul (uc a) (uc b)=some (uc (a*b%18446744073709551616)):=by
 rw [zqJ,←Int.natCast_mul,zkY]
theorem ziQ (a b:Nat):binOp .add (uc a) (uc b)=some (uc ((a+b)%18446744073709551616)):=by
 rw [zsH,←Int.natCast_add,zkY]
theorem zpD {a b c:Nat} (h:(a+18446744073709551616-b)%18446744073709551616=c) (hb:b≤18446744073709551616):binOp .sub (uc a) (uc b)=some (uc c):=by
 rw [zjl,zsT]
 congr 2
 omega
theorem zE1 (k k':IntKind) (a b:Int):binOp .shl (.int k a) (.int k' b)=zfl .shl k a b:=rfl
theorem zwq (k k':IntKind) (a b:Int):binOp .shr (.int k a) (.int k' b)=zfl .shr k a b:=rfl
theorem zyM (k:IntKind) (a:Nat) {s:Nat} (hs:s≤64):binOp .shl (.int .u64 (a:Int)) (.int k (s:Int))=some (uc (a*2^s%18446744073709551616)):=by
 rw [zE1];simp only [zfl,if_neg (show ¬(s:Int)<0 by omega),Int.toNat_natCast,IntKind.bits,Nat.min_eq_left hs];rw [show ((2:Int)^s)=((2^s:Nat):Int) by simp,←Int.natCast_mul,zkY]
theorem zx9 (k:IntKind) (a:Nat) {s:Nat} (hs:s≤64):binOp .shr (.int .u64 (a:Int)) (.int k (s:Int))=some (uc (a/2^s)):=by
 rw [zwq];simp only [zfl,if_neg (show ¬(s:Int)<0 by omega),Int.toNat_natCast,IntKind.bits,Nat.min_eq_left hs];rw [show ((2:Int)^s)=((2^s:Nat):Int) by simp,Int.fdiv_eq_ediv_of_nonneg _ (Int.natCast_nonneg _)];rfl
theorem zNV (a:Nat):binOp .and (.int .u64 (a:Int)) (.int .u64 4294967295)=some (uc (a%4294967296)):=by
 show some (AV.int .u64 (IntKind.wrap .u64 ((BitVec.ofInt 64 (a:Int)&&&BitVec.ofInt 64 4294967295).toNat:Int)))=_
 congr 2
 rw [show BitVec.ofInt 64 (a:Int)=BitVec.ofNat 64 a from BitVec.ofInt_natCast 64 a,show BitVec.ofInt 64 4294967295=BitVec.ofNat 64 4294967295 from rfl];rw [BitVec.toNat_and,BitVec.toNat_ofNat,BitVec.toNat_ofNat,show (4294967295%2^64:Nat)=2^32-1 from rfl,Nat.and_two_pow_sub_one_eq_mod,zkY]
 congr 1
 omega
theorem orU {a b:Nat} (ha:a<18446744073709551616) (hb:b<18446744073709551616):binOp .or (.int .u64 (a:Int)) (.int .u64 (b:Int))=some (uc (a|||b)):=by
 show some (AV.int .u64 (IntKind.wrap .u64 ((BitVec.ofInt 64 (a:Int)|||BitVec.ofInt 64 (b:Int)).toNat:Int)))=_
 congr 2
 rw [show BitVec.ofInt 64 (a:Int)=BitVec.ofNat 64 a from BitVec.ofInt_natCast 64 a,show BitVec.ofInt 64 (b:Int)=BitVec.ofNat 64 b from BitVec.ofInt_natCast 64 b];rw [BitVec.toNat_or,BitVec.toNat_ofNat,BitVec.toNat_ofNat,Nat.mod_eq_of_lt (show a<2^64 from ha),Nat.mod_eq_of_lt (show b<2^64 from hb),zkY]
 have:a|||b<2^64:=Nat.or_lt_two_pow ha hb
 omega
theorem zph {p s c:Nat} (h:c<2^s):(p*2^s)|||c=p*2^s+c:=by
 rw [←Nat.shiftLeft_eq,←Nat.shiftLeft_add_eq_or_of_lt h]
theorem zjQ:∀(f n:Nat),n<2^f→zb5 f n≤f∧n<2^zb5 f n∧(0<n→0<zb5 f n∧2^(zb5 f n-1)≤n)
 | 0,n,h=>by simp [zb5];simpa using h
 | f+1,n,h=>by
  simp only [zb5];by_cases h0:n=0
  ·subst h0;simp
  ·rw [zaQ h0,cond_false];rw [Nat.pow_succ] at h;obtain ⟨h1,h2,h3⟩:=zjQ f (n/2) (by omega);refine ⟨by omega,?_,fun _=>⟨by omega,?_⟩⟩
   ·rw [Nat.add_comm,Nat.pow_succ];omega
   ·rw [Nat.add_sub_cancel_left];by_cases hn:0<n/2
    ·obtain ⟨h4,h5⟩:=h3 hn;obtain ⟨m,hm⟩:∃m,zb5 f (n/2)=m+1:=⟨zb5 f (n/2)-1,by omega⟩;rw [hm] at h5 ⊢;rw [Nat.add_sub_cancel] at h5;rw [Nat.pow_succ];omega
    ·have hz:n/2=0:=by omega
     rw [hz]
     have:zb5 f 0=0:=by cases f with
      | zero=>rfl
      | succ f=>rfl
     rw [this];simp;omega
theorem zjR {y:Nat} (h0:0<y) (h:y<18446744073709551616):64-zb5 64 y<64∧9223372036854775808≤y*2^(64-zb5 64 y)∧y*2^(64-zb5 64 y)<18446744073709551616:=by
 obtain ⟨h1,h2,h3⟩:=zjQ 64 y h;obtain ⟨h4,h5⟩:=h3 h0;generalize zb5 64 y=k at*
 refine ⟨by omega,?_,?_⟩
 ·have:=Nat.mul_le_mul_right (2^(64-k)) h5
  rw [←Nat.pow_add,show k-1+(64-k)=63 by omega] at this;exact this
 ·have:=Nat.mul_lt_mul_of_pos_right h2 (Nat.two_pow_pos (64-k))
  rw [←Nat.pow_add,show k+(64-k)=64 by omega] at this;exact this
section
variable {P:zU} {L:Lib} {f:Run}
theorem zv5 (h:L.pure 167=some zlE) {x:Nat} (hx:x<18446744073709551616):zj P L f 167 [uc x]=some (zf (64-zb5 64 x:Nat)):=by
 rw [zaI h];show (bif Nat.blt x 18446744073709551616 then _ else none)=_
 rw [zdo hx];rfl
theorem ztT {b v1 v2 u u2 t r:Nat} (hv2:v2<b) (htb:t<b) (ht:t*v1+r=u) (h:b≤r∨t*v2≤b*r+u2):t*(v1*b+v2)≤u*b+u2:=by
 have h2:t*v2≤b*r+u2:=by
  rcases h with h | h
  ·have:=Nat.mul_le_mul (Nat.le_of_lt htb) (Nat.le_of_lt hv2)
   have:=Nat.mul_le_mul_left b h
   omega
  ·exact h
 rw [Nat.mul_add,←Nat.mul_assoc,←ht,Nat.add_mul,Nat.mul_comm r b];omega
theorem zO6 (n:Nat):zi3 (.toInt .u64) (.int .i64 (n:Int))=some (uc (n%18446744073709551616)):=by
 show some (AV.int .u64 (IntKind.wrap .u64 (n:Int)))=_
 rw [zkY]
theorem ziw {y v1 v2 u u2 q r:Nat} (hy:y=v1*4294967296+v2) (hv2:v2<4294967296) (hv0:0<v1) (hv1:v1<4294967296) (hu:u<y) (hu2:u2<4294967296) (hq:q*v1+r=u) (hr:r<4294967296) (hQ:(u*4294967296+u2)/y≤q):
  (4294967296≤q∨4294967296*r+u2<q*v2→0<q∧(q-1)*v1+(r+v1)=u∧(u*4294967296+u2)/y≤q-1∧(4294967296≤r+v1→(u*4294967296+u2)/y=q-1))∧
  (¬4294967296≤q→q*v2≤4294967296*r+u2→(u*4294967296+u2)/y=q):=by
 have hy0:0<y:=by omega
 have big:∀t s,t*v1+s=u→4294967296≤t→s<4294967296:=fun t s h1 h2=>by
  have:=Nat.mul_le_mul_right v1 h2
  rw [Nat.mul_comm v1 4294967296] at hy;omega
 have exact':∀t s,t*v1+s=u→t<4294967296→(4294967296≤s∨t*v2≤4294967296*s+u2)→(u*4294967296+u2)/y≤t→(u*4294967296+u2)/y=t:=fun t s h1 h2 h3 h4=>by
  have:=ztT hv2 h2 h1 h3
  rw [←hy] at this
  have:=(Nat.le_div_iff_mul_le hy0).2 this
  omega
 constructor
 ·intro h;have hq0:0<q:=by
   rcases Nat.eq_zero_or_pos q with h0 | h0
   ·subst h0;omega
   ·exact h0
  have h1:(q-1)*v1+(r+v1)=u:=by
   obtain ⟨p,rfl⟩:∃p,q=p+1:=⟨q-1,by omega⟩;rw [Nat.add_mul,Nat.one_mul] at hq;rw [Nat.add_sub_cancel];omega
  have h2:(u*4294967296+u2)/y≤q-1:=by
   have hlt:u*4294967296+u2<q*y:=by
    rcases h with h | h
    ·have h3:u*4294967296+u2<4294967296*y:=by omega
     exact Nat.lt_of_lt_of_le h3 (Nat.mul_le_mul_right y h)
    ·rw [hy,Nat.mul_add,←Nat.mul_assoc,←hq,Nat.add_mul,Nat.mul_comm r];omega
   have:=(Nat.div_lt_iff_lt_mul hy0).2 hlt
   omega
  exact ⟨hq0,h1,h2,fun h3=>exact' _ _ h1 (by
   by_cases hb:4294967296≤q-1
   ·have:=big _ _ h1 hb;omega
   ·omega) (.inl h3) h2⟩
 ·intro h1 h2;exact exact' q r hq (by omega) (.inr h2) hQ
theorem zKF {y s v1 v2 u u2 z:Nat} (hy:y=v1*4294967296+v2) (hv2:v2<4294967296) (hv0:0<v1) (hv1:v1<4294967296) (hu:u<y) (hu2:u2<4294967296):
  ∀k st,(∃q r:Nat,zC [2,8,9,10,11,13,14,15,16] st=⟨[(2,uc y),(8,uc s),(9,uc v1),(10,uc v2),(11,uc u),(13,uc u2),(14,uc z),(15,uc q),(16,uc r)],[],0,0⟩∧q*v1+r=u∧r<4294967296∧(u*4294967296+u2)/y≤q∧q=k)→
   ∃ex st',D P L (.loop [2,8,9,10,11,13,14,15,16] zfJ) st=some (ex,st')∧∃tm ct,st'=⟨tm,[],ct,0⟩∧ex= .exit 0∧zc tm 2=uc y∧zc tm 8=uc s∧zc tm 9=uc v1∧zc tm 10=uc v2∧zc tm 11=uc u∧zc tm 13=uc u2∧zc tm 14=uc z∧zc tm 15=uc ((u*4294967296+u2)/y):=by
 refine zT (I:=fun k st=>∃q r:Nat,st=⟨[(2,uc y),(8,uc s),(9,uc v1),(10,uc v2),(11,uc u),(13,uc u2),(14,uc z),(15,uc q),(16,uc r)],[],0,0⟩∧q*v1+r=u∧r<4294967296∧(u*4294967296+u2)/y≤q∧q=k)
  (Q:=fun ex st'=>∃tm ct,st'=⟨tm,[],ct,0⟩∧ex= .exit 0∧zc tm 2=uc y∧zc tm 8=uc s∧zc tm 9=uc v1∧zc tm 10=uc v2∧zc tm 11=uc u∧zc tm 13=uc u2∧zc tm 14=uc z∧zc tm 15=uc ((u*4294967296+u2)/y)) ?_
 rintro k st ⟨q,r,rfl,hq,hr,hQ,rfl⟩;obtain ⟨g1,g2⟩:=ziw hy hv2 hv0 hv1 hu hu2 hq hr hQ;have hqb:q*1≤q*v1:=Nat.mul_le_mul_left q hv0;have hv1m:=Nat.mul_le_mul_right 4294967296 (show v1≤4294967295 by omega);have hqW:q<18446744073709551616:=by omega
 have hbr:=Nat.mul_le_mul_left 4294967296 (show r≤4294967295 by omega);have e1:=ziX 4294967296 r;rw [show uc 4294967296=AV.int .u64 4294967296 from rfl,Nat.mod_eq_of_lt (show 4294967296*r<18446744073709551616 by omega)] at e1;have e2:=ziQ (4294967296*r) u2;rw [Nat.mod_eq_of_lt (show 4294967296*r+u2<18446744073709551616 by omega)] at e2;have e4:=ziQ r v1;rw [Nat.mod_eq_of_lt (show r+v1<18446744073709551616 by omega)] at e4;by_cases hc:4294967296≤q∨4294967296*r+u2<q*v2
 ·obtain ⟨h0,h1,h2,h3⟩:=g1 hc;have e3:binOp .sub (uc q) (.int .u64 1)=some (uc (q-1)):=zpD (b:=1) (by omega) (by omega);by_cases hb:4294967296≤r+v1
  ·right
   have hQ1:=h3 hb;rcases (show 4294967296≤q∨(¬4294967296≤q∧4294967296*r+u2<q*v2) by omega) with t1 | ⟨t1,t2⟩
   ·simp only [go_sem,reduceEqDiff,zfJ,show (4294967296:Int)≤(q:Int) by omega,e3,e4,show (4294967296:Int)≤((r+v1:Nat):Int) by omega];exact ⟨_,_,rfl,by simp,_,_,rfl,rfl,by simp only [go_sem,reduceEqDiff],by simp only [go_sem,reduceEqDiff],by simp only [go_sem,reduceEqDiff],by simp only [go_sem,reduceEqDiff],by simp only [go_sem,reduceEqDiff],by simp only [go_sem,reduceEqDiff],by simp only [go_sem,reduceEqDiff],by rw [hQ1];simp only [go_sem,reduceEqDiff]⟩
   ·have hqv:=Nat.mul_le_mul (show q≤4294967295 by omega) (show v2≤4294967295 by omega);have e5:=ziX q v2;rw [Nat.mod_eq_of_lt (show q*v2<18446744073709551616 by omega)] at e5;simp only [go_sem,reduceEqDiff,zfJ,show ¬(4294967296:Int)≤(q:Int) by omega,e5,e1,e2,show ((4294967296*r+u2:Nat):Int)<((q*v2:Nat):Int) by omega,e3,e4,show (4294967296:Int)≤((r+v1:Nat):Int) by omega];exact ⟨_,_,rfl,by simp,_,_,rfl,rfl,by simp only [go_sem,reduceEqDiff],by simp only [go_sem,reduceEqDiff],by simp only [go_sem,reduceEqDiff],by simp only [go_sem,reduceEqDiff],by simp only [go_sem,reduceEqDiff],by simp only [go_sem,reduceEqDiff],by simp only [go_sem,reduceEqDiff],by rw [hQ1];simp only [go_sem,reduceEqDiff]⟩
  ·left
   rcases (show 4294967296≤q∨(¬4294967296≤q∧4294967296*r+u2<q*v2) by omega) with t1 | ⟨t1,t2⟩
   ·simp only [go_sem,reduceEqDiff,zfJ,show (4294967296:Int)≤(q:Int) by omega,e3,e4,show ¬(4294967296:Int)≤((r+v1:Nat):Int) by omega];exact ⟨_,q-1,rfl,by omega,q-1,r+v1,by simp only [go_sem,reduceEqDiff,za],h1,by omega,h2,rfl⟩
   ·have hqv:=Nat.mul_le_mul (show q≤4294967295 by omega) (show v2≤4294967295 by omega);have e5:=ziX q v2;rw [Nat.mod_eq_of_lt (show q*v2<18446744073709551616 by omega)] at e5;simp only [go_sem,reduceEqDiff,zfJ,show ¬(4294967296:Int)≤(q:Int) by omega,e5,e1,e2,show ((4294967296*r+u2:Nat):Int)<((q*v2:Nat):Int) by omega,e3,e4,show ¬(4294967296:Int)≤((r+v1:Nat):Int) by omega];exact ⟨_,q-1,rfl,by omega,q-1,r+v1,by simp only [go_sem,reduceEqDiff,za],h1,by omega,h2,rfl⟩
 ·right
  have hQ1:=g2 (by omega) (by omega);have hqv:=Nat.mul_le_mul (show q≤4294967295 by omega) (show v2≤4294967295 by omega);have e5:=ziX q v2;rw [Nat.mod_eq_of_lt (show q*v2<18446744073709551616 by omega)] at e5;simp only [go_sem,reduceEqDiff,zfJ,show ¬(4294967296:Int)≤(q:Int) by omega,e5,e1,e2,show ¬((4294967296*r+u2:Nat):Int)<((q*v2:Nat):Int) by omega];exact ⟨_,_,rfl,by simp,_,_,rfl,rfl,by simp only [go_sem,reduceEqDiff],by simp only [go_sem,reduceEqDiff],by simp only [go_sem,reduceEqDiff],by simp only [go_sem,reduceEqDiff],by simp only [go_sem,reduceEqDiff],by simp only [go_sem,reduceEqDiff],by simp only [go_sem,reduceEqDiff],by rw [hQ1];simp only [go_sem,reduceEqDiff]⟩
end
end VE
end
