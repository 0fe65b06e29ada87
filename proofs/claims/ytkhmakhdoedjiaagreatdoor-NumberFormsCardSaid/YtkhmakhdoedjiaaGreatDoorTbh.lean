import Derived.Test.YtkhmakhdoedjiaaGreatDoorTbg
set_option linter.all false
set_option maxRecDepth 100000
open Nat (reduceAdd reduceEqDiff reduceMul)
section
namespace VE
open Go (IntKind)
theorem zeZ (p b s:Nat):p*(s%b)+p*b*(s/b)=p*s:=by
 rw [Nat.mul_assoc,←Nat.mul_add,Nat.mod_add_div]
theorem zvg {b:Nat} {x y out:List Nat} {i c:Nat} (hi:i<out.length) (hz:out.getD i 0=0) (hv:bv b out+b^i*c=bv b (x.take i)+bv b (y.take i)):
  bv b (out.set i ((x.getD i 0+y.getD i 0+c)%b))+b^(i+1)*((x.getD i 0+y.getD i 0+c)/b)=bv b (x.take (i+1))+bv b (y.take (i+1)):=by
 have h1:=zcW (b:=b) (x:=(x.getD i 0+y.getD i 0+c)%b) hi;have h2:=zeZ (b^i) b (x.getD i 0+y.getD i 0+c);rw [hz,Nat.mul_zero,Nat.add_zero] at h1;rw [zaW,zaW,Nat.pow_succ,h1];rw [Nat.mul_add,Nat.mul_add] at h2;omega
theorem zt6 {b:Nat} {x y out:List Nat} {i c z c':Nat} (hi:i<out.length) (hz:out.getD i 0=0) (hs:z+y.getD i 0+c=x.getD i 0+b*c') (hv:bv b out+bv b (y.take i)=bv b (x.take i)+b^i*c):
  bv b (out.set i z)+bv b (y.take (i+1))=bv b (x.take (i+1))+b^(i+1)*c':=by
 have h1:=zcW (b:=b) (x:=z) hi;rw [hz,Nat.mul_zero,Nat.add_zero] at h1;rw [zaW,zaW,Nat.pow_succ,h1]
 have:=congrArg (fun q=>b^i*q) hs
 simp only [Nat.mul_add] at this;rw [Nat.mul_assoc (b^i) b c'];omega
section
variable {P:zN} {L:Lib}
theorem zOR (h:Has P L 158 zvC) {v w:AV} {x y:List Nat} (hv:IsU v x) (hw:IsU w y) (hx:lo 18446744073709551616 x) (hy:lo 18446744073709551616 y) (nx:nzN x) (ny:nzN y) (lx:x.length≤100000000000) (ly:y.length≤100000000000):
  zK P L 158 [v,w] (zh (zbS (bv 18446744073709551616 x) (bv 18446744073709551616 y))):=by
 unfold zK;rw [zf h];by_cases hlen:x.length=y.length
 ·have key:=zS (P:=P) (L:=L) (live:=[0,1,5]) (a:=zgQ)
   (I:=fun k st=>∃j:Nat,st=⟨[(0,v),(1,w),(5,zh ((j:Int)-1))],[],0,0⟩∧j≤x.length∧j=k∧x.drop j=y.drop j)
   (Q:=fun ex st=>∃tm ct,st=⟨tm,[],ct,0⟩∧((ex= .ret∧zc tm 4=zh (zbS (bv 18446744073709551616 x) (bv 18446744073709551616 y)))∨(ex= .exit 0∧x=y))) ?_
  ·simp only [go_sem,reduceEqDiff,zvC,hv.len,hw.len,show (x.length:Int)=y.length by omega];generalize hq:D P L (.loop [0,1,5] zgQ) _=q;obtain ⟨ex,st,rfl,tm,ct,rfl,h2⟩:=z8 hq (key x.length) ⟨x.length,by
    rw [ze (by omega) (by omega),hlen]
    simp only [go_sem,reduceEqDiff,za,zb hv.pu,zd _ hv.pu,zb hw.pu,zd _ hw.pu]<;>rfl,Nat.le_refl _,rfl,by rw [List.drop_eq_nil_of_le (Nat.le_refl _),List.drop_eq_nil_of_le (by omega)]⟩
   rcases h2 with ⟨rfl,h2⟩ | ⟨rfl,h2⟩
   ·simp only [go_sem,h2]
   ·simp only [go_sem,za];subst h2;simp [zbS]
  ·rintro k st ⟨j,rfl,hj,rfl,he⟩
   cases j with
   | zero=>
    right
    simp only [go_sem,reduceEqDiff,zgQ,show ¬(0:Int)≤((0:Nat):Int)-1 by omega];exact ⟨_,_,rfl,by simp,_,_,rfl,.inr ⟨rfl,by simpa using he⟩⟩
   | succ i=>
    have h1:i<x.length:=by omega
    have h2:i<y.length:=by omega
    have hgt:=zqR hx h1 h2 he;have hlt:=zqR hy h2 h1 he.symm;by_cases c0:x.getD i 0=y.getD i 0
    ·left
     simp only [go_sem,reduceEqDiff,zgQ,show ((i+1:Nat):Int)-1=(i:Int) by omega,show (0:Int)≤(i:Int) by omega,hv.ixa h1,hw.ixa h2,c0];refine ⟨_,i,rfl,by omega,i,?_,by omega,rfl,?_⟩
     ·rw [ze (by omega) (by omega)];simp only [go_sem,reduceEqDiff,za,zb hv.pu,zd _ hv.pu,zb hw.pu,zd _ hw.pu]<;>rfl
     ·rw [List.drop_eq_getElem_cons h1,List.drop_eq_getElem_cons h2,he,gd h1,gd h2,c0]
    ·by_cases c1:x.getD i 0<y.getD i 0
     ·right
      simp only [go_sem,reduceEqDiff,zgQ,show ((i+1:Nat):Int)-1=(i:Int) by omega,show (0:Int)≤(i:Int) by omega,hv.ixa h1,hw.ixa h2,show ¬((x.getD i 0:Nat):Int)=(y.getD i 0:Nat) by omega,show ((x.getD i 0:Nat):Int)<(y.getD i 0:Nat) by omega];refine ⟨_,_,rfl,by simp,_,_,rfl,.inl ⟨rfl,?_⟩⟩;simp only [go_sem];unfold zbS;rw [if_pos (hgt c1)]
     ·right
      simp only [go_sem,reduceEqDiff,zgQ,show ((i+1:Nat):Int)-1=(i:Int) by omega,show (0:Int)≤(i:Int) by omega,hv.ixa h1,hw.ixa h2,show ¬((x.getD i 0:Nat):Int)=(y.getD i 0:Nat) by omega,show ¬((x.getD i 0:Nat):Int)<(y.getD i 0:Nat) by omega];refine ⟨_,_,rfl,by simp,_,_,rfl,.inl ⟨rfl,?_⟩⟩;simp only [go_sem]
      have:=hlt (by omega)
      unfold zbS;rw [if_neg (by omega),if_pos (by omega)]
 ·by_cases c1:x.length<y.length
  ·have:=zi7 (b:=18446744073709551616) (by decide) hx ny c1
   simp only [go_sem,reduceEqDiff,zvC,hv.len,hw.len,show ¬(x.length:Int)=y.length by omega,show (x.length:Int)<y.length by omega];unfold zbS;rw [if_pos this]
  ·have:=zi7 (b:=18446744073709551616) (by decide) hy nx (show y.length<x.length by omega)
   simp only [go_sem,reduceEqDiff,zvC,hv.len,hw.len,show ¬(x.length:Int)=y.length by omega,show ¬(x.length:Int)<y.length by omega];unfold zbS;rw [if_neg (by omega),if_pos this]
theorem zwQ (h171:L.pure 171=some zc5) {v w:AV} {x y:List Nat} (hv:IsU v x) (hw:IsU w y) (hx:lo 18446744073709551616 x) (hy:lo 18446744073709551616 y) (lx:x.length≤99999999999) (ly:y.length≤x.length) {n:Nat} (hn:n=x.length+1):
  ∀k s,(∃(i c:Nat) (out:List Nat),zA [0,1,5,6,21,22] s=⟨[(0,v),(1,w),(5,.osl 0 0 n),(6,uc c),(21,zh x.length),(22,zh i)],[(0,.cells true true true 1 (out.map uc))],1,0⟩∧i+k=x.length∧out.length=n∧c≤1∧lo 18446744073709551616 out∧
    bv 18446744073709551616 out+18446744073709551616^i*c=bv 18446744073709551616 (x.take i)+bv 18446744073709551616 (y.take i)∧(∀m,i≤m→out.getD m 0=0))→
   ∃ex s',D P L (.loop [0,1,5,6,21,22] zgV) s=some (ex,s')∧∃tm c out,s'=⟨tm,[(0,.cells true true true 1 (out.map uc))],1,0⟩∧ex= .exit 0∧zc tm 0=v∧zc tm 5= .osl 0 0 n∧zc tm 6=uc c∧out.length=n∧c≤1∧lo 18446744073709551616 out∧
    bv 18446744073709551616 out+18446744073709551616^x.length*c=bv 18446744073709551616 x+bv 18446744073709551616 y∧out.getD x.length 0=0:=by
 refine zS (I:=fun k s=>∃(i c:Nat) (out:List Nat),s=⟨[(0,v),(1,w),(5,.osl 0 0 n),(6,uc c),(21,zh x.length),(22,zh i)],[(0,.cells true true true 1 (out.map uc))],1,0⟩∧i+k=x.length∧out.length=n∧c≤1∧lo 18446744073709551616 out∧
    bv 18446744073709551616 out+18446744073709551616^i*c=bv 18446744073709551616 (x.take i)+bv 18446744073709551616 (y.take i)∧(∀m,i≤m→out.getD m 0=0))
  (Q:=fun ex s'=>∃tm c out,s'=⟨tm,[(0,.cells true true true 1 (out.map uc))],1,0⟩∧ex= .exit 0∧zc tm 0=v∧zc tm 5= .osl 0 0 n∧zc tm 6=uc c∧out.length=n∧c≤1∧lo 18446744073709551616 out∧
    bv 18446744073709551616 out+18446744073709551616^x.length*c=bv 18446744073709551616 x+bv 18446744073709551616 y∧out.getD x.length 0=0) ?_
 rintro k s ⟨i,c,out,rfl,hk,hlen,hc,hlo,hval,hhi⟩;by_cases hi:i<x.length
 ·left
  have hz:=hhi i (Nat.le_refl _);have hstep:=zvg (x:=x) (y:=y) (show i<out.length by omega) hz hval;have gx:=zaZ (show 0<18446744073709551616 by decide) hx i;have gy:=zaZ (show 0<18446744073709551616 by decide) hy i;have e1:=zgE (P:=P) (f:=D P L) h171 gx gy hc;have ex:=hv.ixa hi;generalize x.getD i 0=p at*
  by_cases hj:i<y.length
  ·have ey:=hw.ixa hj;generalize y.getD i 0=q at*
   simp only [go_sem,reduceEqDiff,Nat.mul_one,zgV,hw.len,show (i:Int)<x.length by omega,show (i:Int)<y.length by omega,ex,ey,e1,zY 0 0 (show i<n by omega),Nat.zero_add,stU (l:=out) (o:=i) (by omega)]
   refine ⟨_,k-1,rfl,by omega,i+1,(p+q+c)/18446744073709551616,_,?_,by omega,by simp [hlen],by omega,zcj hlo (x:=(p+q+c)%18446744073709551616) (i:=i) (by omega),hstep,fun m hm=>?_⟩
   ·rw [ze (by omega) (by omega)];simp only [go_sem,reduceEqDiff,reduceAdd,za,zb hv.pu,zd _ hv.pu,zb hw.pu,zd _ hw.pu]<;>rfl
   ·rw [zce (by omega)];exact hhi m (by omega)
  ·have hy0:y.getD i 0=0:=zmT (by omega);rw [hy0] at hstep e1;rw [show (uc 0)=AV.int .u64 0 from rfl] at e1
   simp only [go_sem,reduceEqDiff,Nat.mul_one,zgV,hw.len,show (i:Int)<x.length by omega,show ¬(i:Int)<y.length by omega,ex,e1,zY 0 0 (show i<n by omega),Nat.zero_add,stU (l:=out) (o:=i) (by omega)]
   refine ⟨_,k-1,rfl,by omega,i+1,(p+0+c)/18446744073709551616,_,?_,by omega,by simp [hlen],by omega,zcj hlo (x:=(p+0+c)%18446744073709551616) (i:=i) (by omega),hstep,fun m hm=>?_⟩
   ·rw [ze (by omega) (by omega)];simp only [go_sem,reduceEqDiff,reduceAdd,za,zb hv.pu,zd _ hv.pu,zb hw.pu,zd _ hw.pu]<;>rfl
   ·rw [zce (by omega)];exact hhi m (by omega)
 ·right
  have:i=x.length:=by omega
  subst this;rw [List.take_length,List.take_of_length_le ly] at hval;simp only [go_sem,reduceEqDiff,zgV,show ¬(x.length:Int)<x.length by omega];exact ⟨_,_,rfl,by simp,_,c,out,rfl,rfl,by simp only [go_sem,reduceEqDiff],by simp only [go_sem,reduceEqDiff],by simp only [go_sem,reduceEqDiff],hlen,hc,hlo,hval,hhi _ (Nat.le_refl _)⟩
theorem zQS (h:Has P L 157 zxm) (h166:Has P L 166 zne) (h171:L.pure 171=some zc5) {v w:AV} {x y:List Nat} (hv:IsU v x) (hw:IsU w y) (hx:lo 18446744073709551616 x) (hy:lo 18446744073709551616 y) (lx:x.length≤99999999999) (ly:y.length≤99999999999):
  ∃r out,zK P L 157 [v,w] r∧IsU r out∧lo 18446744073709551616 out∧nzN out∧bv 18446744073709551616 out=bv 18446744073709551616 x+bv 18446744073709551616 y:=by
 have fin:∀{x y o:List Nat} {n c:Nat},n=x.length+1→x.length≤99999999999→o.length=n→c≤1→lo 18446744073709551616 o→bv 18446744073709551616 o+18446744073709551616^x.length*c=bv 18446744073709551616 x+bv 18446744073709551616 y→o.getD x.length 0=0→
   ∃r,zk P L (D P L) 166 [.vsl true n ((o.set x.length c).map uc)]=some r∧IsU r (zaJ (o.set x.length c))∧lo 18446744073709551616 (zaJ (o.set x.length c))∧nzN (zaJ (o.set x.length c))∧bv 18446744073709551616 (zaJ (o.set x.length c))=bv 18446744073709551616 x+bv 18446744073709551616 y:=by
  intro x y o n c hn lx hlen hc hlo hval hz;have z7:=zcW (b:=18446744073709551616) (l:=o) (i:=x.length) (x:=c) (by omega);rw [hz,Nat.mul_zero,Nat.add_zero,hval] at z7;have hlo2:lo 18446744073709551616 (o.set x.length c):=zcj hlo (by omega);have hf:=zbL true (o.set x.length c);rw [List.length_set,hlen] at hf;obtain ⟨r,e1,hr⟩:=znR h166 hf (by simp;omega);exact ⟨r,e1,hr,zdp hlo2,zdg _,by rw [zdf];exact z7⟩
 by_cases hl:x.length<y.length
 ·obtain ⟨n,hn⟩:∃n,n=y.length+1:=⟨_,rfl⟩;unfold zK;rw [zf h]
  simp only [go_sem,reduceEqDiff,reduceAdd,zxm,hv.len,hw.len,show (x.length:Int)<y.length by omega,zy (n:=n) (by omega),show (y.length:Int)+1=((y.length+1:Nat):Int) from rfl,←hn,zpi (n:=n) _ (by omega)];generalize hq:D P L (.loop [0,1,5,6,21,22] zgV) _=q;obtain ⟨ex,s,rfl,tm,c,o,rfl,rfl,t0,t5,t6,hlen,hc,hlo,hval,hz⟩:=z8 hq (zwQ (P:=P) (L:=L) h171 hw hv hy hx ly (by omega) hn y.length)
   ⟨0,0,List.replicate n 0,by simp only [go_sem,reduceEqDiff,reduceAdd,za,zb hv.pu,zd _ hv.pu,zb hw.pu,zd _ hw.pu]<;>rfl,by omega,by simp,by omega,zic (by decide) n,by rw [zh2];simp [bv],fun m _=>ze1 n m⟩
  obtain ⟨r,e1,hr,f1,f2,f3⟩:=fin hn ly hlen hc hlo hval hz;refine ⟨r,_,?_,hr,f1,f2,by rw [f3];omega⟩
  simp only [go_sem,reduceEqDiff,Nat.mul_one,za,zb hw.pu,zd _ hw.pu,hw.len,t0,t5,t6,zY 0 0 (show y.length<n by omega),Nat.zero_add,stU (l:=o) (o:=y.length) (by omega)]
  simp only [go_sem,znY _ (n:=n) (l:=o.set y.length c) (by simp [hlen]) true,e1,hr.shut,hr.res]
 ·obtain ⟨n,hn⟩:∃n,n=x.length+1:=⟨_,rfl⟩;unfold zK;rw [zf h]
  simp only [go_sem,reduceEqDiff,reduceAdd,zxm,hv.len,hw.len,show ¬(x.length:Int)<y.length by omega,zy (n:=n) (by omega),show (x.length:Int)+1=((x.length+1:Nat):Int) from rfl,←hn,zpi (n:=n) _ (by omega)];generalize hq:D P L (.loop [0,1,5,6,21,22] zgV) _=q;obtain ⟨ex,s,rfl,tm,c,o,rfl,rfl,t0,t5,t6,hlen,hc,hlo,hval,hz⟩:=z8 hq (zwQ (P:=P) (L:=L) h171 hv hw hx hy lx (by omega) hn x.length)
   ⟨0,0,List.replicate n 0,by simp only [go_sem,reduceEqDiff,reduceAdd,za,zb hv.pu,zd _ hv.pu,zb hw.pu,zd _ hw.pu]<;>rfl,by omega,by simp,by omega,zic (by decide) n,by rw [zh2];simp [bv],fun m _=>ze1 n m⟩
  obtain ⟨r,e1,hr,f1,f2,f3⟩:=fin hn lx hlen hc hlo hval hz;refine ⟨r,_,?_,hr,f1,f2,f3⟩
  simp only [go_sem,reduceEqDiff,Nat.mul_one,za,zb hv.pu,zd _ hv.pu,hv.len,t0,t5,t6,zY 0 0 (show x.length<n by omega),Nat.zero_add,stU (l:=o) (o:=x.length) (by omega)]
  simp only [go_sem,znY _ (n:=n) (l:=o.set x.length c) (by simp [hlen]) true,e1,hr.shut,hr.res]
end
end VE
end
section
namespace VE
open Go (IntKind)
theorem zvy {b:Nat} {out:List Nat} {p j c t o x y Y bo ba:Nat} (ho:o=out.getD j 0) (hj:j<out.length) (ht:t=o+x*y+c) (hv:bo+p*c=ba+p*(x*Y)) (hb:bo=bv b out) (hp:p=b^j):
  bv b (out.set j (t%b))+p*b*(t/b)=ba+p*(x*(Y+0))+p*(x*y):=by
 have h1:=zcW (b:=b) (x:=t%b) hj;have h2:=zeZ p b t;rw [←ho,←hp,←hb] at h1;rw [ht,Nat.mul_add,Nat.mul_add,←ht] at h2;simp only [Nat.add_zero];omega
section
variable {P:zN} {L:Lib}
theorem zkP {x y c:Nat} (hx:x<18446744073709551616) (hy:y<18446744073709551616) (hc:c≤1):
  (x+18446744073709551616*2-y-c)%18446744073709551616+y+c=x+18446744073709551616*(if y+c≤x then 0 else 1):=by
 split<;>omega
theorem zHY (h173:L.pure 173=some zfF) {v w:AV} {x y:List Nat} (hv:IsU v x) (hw:IsU w y) (hx:lo 18446744073709551616 x) (hy:lo 18446744073709551616 y) (lx:x.length≤99999999999) (ly:y.length≤x.length) (hle:bv 18446744073709551616 y≤bv 18446744073709551616 x) {n:Nat} (hn:n=x.length):
  ∀k s,(∃(i c:Nat) (out:List Nat),zA [0,1,5,6,13,14] s=⟨[(0,v),(1,w),(5,.osl 0 0 n),(6,uc c),(13,zh x.length),(14,zh i)],[(0,.cells true true true 1 (out.map uc))],1,0⟩∧i+k=x.length∧out.length=n∧c≤1∧lo 18446744073709551616 out∧
    bv 18446744073709551616 out+bv 18446744073709551616 (y.take i)=bv 18446744073709551616 (x.take i)+18446744073709551616^i*c∧(∀m,i≤m→out.getD m 0=0))→
   ∃ex s',D P L (.loop [0,1,5,6,13,14] zhQ) s=some (ex,s')∧∃tm out,s'=⟨tm,[(0,.cells true true true 1 (out.map uc))],1,0⟩∧ex= .exit 0∧zc tm 5= .osl 0 0 n∧out.length=n∧lo 18446744073709551616 out∧
    bv 18446744073709551616 out+bv 18446744073709551616 y=bv 18446744073709551616 x:=by
 refine zS (I:=fun k s=>∃(i c:Nat) (out:List Nat),s=⟨[(0,v),(1,w),(5,.osl 0 0 n),(6,uc c),(13,zh x.length),(14,zh i)],[(0,.cells true true true 1 (out.map uc))],1,0⟩∧i+k=x.length∧out.length=n∧c≤1∧lo 18446744073709551616 out∧
    bv 18446744073709551616 out+bv 18446744073709551616 (y.take i)=bv 18446744073709551616 (x.take i)+18446744073709551616^i*c∧(∀m,i≤m→out.getD m 0=0))
  (Q:=fun ex s'=>∃tm out,s'=⟨tm,[(0,.cells true true true 1 (out.map uc))],1,0⟩∧ex= .exit 0∧zc tm 5= .osl 0 0 n∧out.length=n∧lo 18446744073709551616 out∧
    bv 18446744073709551616 out+bv 18446744073709551616 y=bv 18446744073709551616 x) ?_
 rintro k s ⟨i,c,out,rfl,hk,hlen,hc,hlo,hval,hhi⟩;by_cases hi:i<x.length
 ·left
  have hz:=hhi i (Nat.le_refl _);have gx:=zaZ (show 0<18446744073709551616 by decide) hx i;have gy:=zaZ (show 0<18446744073709551616 by decide) hy i;have hw1:=zkP gx gy hc;have hstep:=zt6 (x:=x) (y:=y) (show i<out.length by omega) hz hw1 hval;have e1:=zpn (P:=P) (f:=D P L) h173 gx gy hc;have ex:=hv.ixa hi;generalize x.getD i 0=p at*
  have hc':(if y.getD i 0+c≤p then 0 else 1)≤1:=by split<;>omega
  by_cases hj:i<y.length
  ·have ey:=hw.ixa hj;generalize y.getD i 0=q at*
   generalize (if q+c≤p then 0 else 1)=c1 at*
   simp only [go_sem,reduceEqDiff,reduceMul,Nat.mul_one,zhQ,hw.len,show (i:Int)<x.length by omega,show (i:Int)<y.length by omega,ex,ey,e1,zY 0 0 (show i<n by omega),Nat.zero_add,stU (l:=out) (o:=i) (by omega)]
   refine ⟨_,k-1,rfl,by omega,i+1,c1,_,?_,by omega,by simp [hlen],hc',zcj hlo (x:=(p+18446744073709551616*2-q-c)%18446744073709551616) (i:=i) (by omega),hstep,fun m hm=>?_⟩
   ·rw [ze (by omega) (by omega)];simp only [go_sem,reduceEqDiff,reduceAdd,reduceMul,za,zb hv.pu,zd _ hv.pu,zb hw.pu,zd _ hw.pu]<;>rfl
   ·rw [zce (by omega)];exact hhi m (by omega)
  ·have hy0:y.getD i 0=0:=zmT (by omega);rw [hy0] at hstep e1 hc';rw [show (uc 0)=AV.int .u64 0 from rfl] at e1;generalize (if 0+c≤p then 0 else 1)=c1 at*
   simp only [go_sem,reduceEqDiff,reduceMul,Nat.mul_one,zhQ,hw.len,show (i:Int)<x.length by omega,show ¬(i:Int)<y.length by omega,ex,e1,zY 0 0 (show i<n by omega),Nat.zero_add,stU (l:=out) (o:=i) (by omega)]
   refine ⟨_,k-1,rfl,by omega,i+1,c1,_,?_,by omega,by simp [hlen],hc',zcj hlo (x:=(p+18446744073709551616*2-0-c)%18446744073709551616) (i:=i) (by omega),hstep,fun m hm=>?_⟩
   ·rw [ze (by omega) (by omega)];simp only [go_sem,reduceEqDiff,reduceAdd,reduceMul,za,zb hv.pu,zd _ hv.pu,zb hw.pu,zd _ hw.pu]<;>rfl
   ·rw [zce (by omega)];exact hhi m (by omega)
 ·right
  have:i=x.length:=by omega
  subst this;rw [List.take_length,List.take_of_length_le ly] at hval;have hlt:=zd4 hlo;rw [hlen,hn] at hlt;simp only [go_sem,reduceEqDiff,zhQ,show ¬(x.length:Int)<x.length by omega];refine ⟨_,_,rfl,by simp,_,out,rfl,rfl,by simp only [go_sem,reduceEqDiff],hlen,hlo,?_⟩;rcases (show c=0∨c=1 by omega) with rfl | rfl
  ·omega
  ·omega
theorem zMy (h:Has P L 159 zBG) (h166:Has P L 166 zne) (h173:L.pure 173=some zfF) {v w:AV} {x y:List Nat} (hv:IsU v x) (hw:IsU w y) (hx:lo 18446744073709551616 x) (hy:lo 18446744073709551616 y) (ny:nzN y) (lx:x.length≤99999999999) (hle:bv 18446744073709551616 y≤bv 18446744073709551616 x):
  ∃r out,zK P L 159 [v,w] r∧IsU r out∧lo 18446744073709551616 out∧nzN out∧bv 18446744073709551616 out+bv 18446744073709551616 y=bv 18446744073709551616 x:=by
 have ly:y.length≤x.length:=by
  by_cases hh:x.length<y.length
  ·have:=zi7 (b:=18446744073709551616) (by decide) hx ny hh
   omega
  ·omega
 obtain ⟨n,hn⟩:∃n,n=x.length:=⟨_,rfl⟩;unfold zK;rw [zf h]
 simp only [go_sem,reduceEqDiff,reduceAdd,zBG,hv.len,←hn,zpi (n:=n) _ (by omega)];generalize hq:D P L (.loop [0,1,5,6,13,14] zhQ) _=q;obtain ⟨ex,s,rfl,tm,o,rfl,rfl,t5,hlen,hlo,hval⟩:=z8 hq (zHY (P:=P) (L:=L) h173 hv hw hx hy lx ly hle hn x.length)
  ⟨0,0,List.replicate n 0,by rw [hn];simp only [go_sem,reduceEqDiff,reduceAdd,za,zb hv.pu,zd _ hv.pu,zb hw.pu,zd _ hw.pu]<;>rfl,by omega,by simp,by omega,zic (by decide) n,by rw [zh2];simp [bv],fun m _=>ze1 n m⟩
 have hf:=zbL true o;rw [hlen] at hf;obtain ⟨r,e1,hr⟩:=znR h166 hf (by omega);unfold zK at e1;refine ⟨r,_,?_,hr,zdp hlo,zdg _,by rw [zdf];exact hval⟩
 simp only [go_sem,reduceAdd,za,t5,znY _ (n:=n) (l:=o) hlen true,e1,hr.shut,hr.res]
theorem zyo {x y o c:Nat} (hx:x<18446744073709551616) (hy:y<18446744073709551616) (ho:o<18446744073709551616) (hc:c<18446744073709551616):
  o+x*y+c<18446744073709551616*18446744073709551616∧
  ((x*y%18446744073709551616+o+0)%18446744073709551616+c+0)%18446744073709551616=(o+x*y+c)%18446744073709551616∧
  x*y/18446744073709551616+(x*y%18446744073709551616+o+0)/18446744073709551616+((x*y%18446744073709551616+o+0)%18446744073709551616+c+0)/18446744073709551616=(o+x*y+c)/18446744073709551616:=by
 have h1:=Nat.mul_le_mul (show x≤18446744073709551615 by omega) (show y≤18446744073709551615 by omega);generalize x*y=q at*
 omega
theorem zFs (h143:L.pure 143=some zer) (h171:L.pure 171=some zc5) {v w:AV} {x y:List Nat} (hv:IsU v x) (hw:IsU w y) (hx:lo 18446744073709551616 x) (hy:lo 18446744073709551616 y) (lx:x.length≤49999999999) (ly:y.length≤49999999999) {n i:Nat} (hn:n=x.length+y.length) (hi:i<x.length) {a:Nat} (ha:a<18446744073709551616) {bo:Nat}:
  ∀k s,(∃(j c:Nat) (out:List Nat),zA [1,5,6,7,8,20,21,22,27,28,29] s=⟨[(1,w),(5,.osl 0 0 n),(6,zh i),(7,uc a),(8,uc c),(20,v),(21,zh x.length),(22,zh i),(27,w),(28,zh y.length),(29,zh j)],[(0,.cells true true true 1 (out.map uc))],1,0⟩∧j+k=y.length∧out.length=n∧c<18446744073709551616∧lo 18446744073709551616 out∧
    bv 18446744073709551616 out+18446744073709551616^(i+j)*c=bo+18446744073709551616^i*(a*bv 18446744073709551616 (y.take j))∧(∀m,i+y.length≤m→out.getD m 0=0))→
   ∃ex s',D P L (.loop [1,5,6,7,8,20,21,22,27,28,29] zkv) s=some (ex,s')∧∃tm c out,s'=⟨tm,[(0,.cells true true true 1 (out.map uc))],1,0⟩∧ex= .exit 2∧zc tm 1=w∧zc tm 5= .osl 0 0 n∧zc tm 6=zh i∧zc tm 8=uc c∧zc tm 20=v∧zc tm 21=zh x.length∧zc tm 22=zh i∧out.length=n∧c<18446744073709551616∧lo 18446744073709551616 out∧
    bv 18446744073709551616 out+18446744073709551616^(i+y.length)*c=bo+18446744073709551616^i*(a*bv 18446744073709551616 y)∧(∀m,i+y.length≤m→out.getD m 0=0):=by
 refine zS (I:=fun k s=>∃(j c:Nat) (out:List Nat),s=⟨[(1,w),(5,.osl 0 0 n),(6,zh i),(7,uc a),(8,uc c),(20,v),(21,zh x.length),(22,zh i),(27,w),(28,zh y.length),(29,zh j)],[(0,.cells true true true 1 (out.map uc))],1,0⟩∧j+k=y.length∧out.length=n∧c<18446744073709551616∧lo 18446744073709551616 out∧
    bv 18446744073709551616 out+18446744073709551616^(i+j)*c=bo+18446744073709551616^i*(a*bv 18446744073709551616 (y.take j))∧(∀m,i+y.length≤m→out.getD m 0=0))
  (Q:=fun ex s'=>∃tm c out,s'=⟨tm,[(0,.cells true true true 1 (out.map uc))],1,0⟩∧ex= .exit 2∧zc tm 1=w∧zc tm 5= .osl 0 0 n∧zc tm 6=zh i∧zc tm 8=uc c∧zc tm 20=v∧zc tm 21=zh x.length∧zc tm 22=zh i∧out.length=n∧c<18446744073709551616∧lo 18446744073709551616 out∧
    bv 18446744073709551616 out+18446744073709551616^(i+y.length)*c=bo+18446744073709551616^i*(a*bv 18446744073709551616 y)∧(∀m,i+y.length≤m→out.getD m 0=0)) ?_
 rintro k s ⟨j,c,out,rfl,hk,hlen,hc,hlo,hval,hhi⟩;by_cases hj:j<y.length
 ·left
  have hw0:(0:Nat)<18446744073709551616:=by decide
  have gy:=zaZ hw0 hy j;have go':=zaZ hw0 hlo (i+j);have ey:=hw.ixa hj;have e3:=zhz (l:=out) (o:=i+j) (by omega);obtain ⟨q,hq⟩:∃q,q=y.getD j 0:=⟨_,rfl⟩;obtain ⟨o,ho⟩:∃o,o=out.getD (i+j) 0:=⟨_,rfl⟩;rw [←hq] at gy ey;rw [←ho] at go' e3;obtain ⟨m1,m2,m3⟩:=zyo ha gy go' hc;have hpy:a*q<18446744073709551616*18446744073709551616:=by omega
  have f1:=zmo (P:=P) (f:=D P L) h143 ha gy;have f2:=zgE (P:=P) (f:=D P L) h171 (x:=a*q%18446744073709551616) (y:=o) (c:=0) (Nat.mod_lt _ hw0) go' (by omega);have f3:=zgE (P:=P) (f:=D P L) h171 (x:=(a*q%18446744073709551616+o+0)%18446744073709551616) (y:=c) (c:=0) (Nat.mod_lt _ hw0) hc (by omega);obtain ⟨t,ht⟩:∃t,t=o+a*q+c:=⟨_,rfl⟩;have hstep:=zvy (b:=18446744073709551616) (out:=out) (p:=18446744073709551616^(i+j)) (j:=i+j) (c:=c) (t:=t) (x:=a) (y:=q) (Y:=0) (ba:=bo+18446744073709551616^i*(a*bv 18446744073709551616 (y.take j))) ho (by omega) ht (by simpa using hval) rfl rfl;rw [m2,←ht] at f3;rw [←ht] at m1 m3;obtain ⟨d1,hd1⟩:∃d,d=(a*q%18446744073709551616+o+0)/18446744073709551616:=⟨_,rfl⟩;obtain ⟨d2,hd2⟩:∃d,d=((a*q%18446744073709551616+o+0)%18446744073709551616+c+0)/18446744073709551616:=⟨_,rfl⟩;rw [←hd1] at f2 m3;rw [←hd2] at f3 m3
  rw [show (uc 0)=AV.int .u64 0 from rfl] at f2 f3;obtain ⟨h1,hh1⟩:∃d,d=a*q/18446744073709551616:=⟨_,rfl⟩;rw [←hh1] at f1 m3;have hs1:h1+d1<18446744073709551616:=by omega
  have hs2:h1+d1+d2<18446744073709551616:=by omega
  simp only [go_sem,reduceEqDiff,Nat.mul_one,zkv,show (j:Int)<y.length by omega,ey,f1,zy (n:=i+j) (by omega),show (i:Int)+(j:Int)=((i+j:Nat):Int) from rfl,zY 0 0 (show i+j<n by omega),Nat.zero_add,e3,f2,f3,show (h1:Int)+(d1:Int)=((h1+d1:Nat):Int) from rfl,zDh hs1,show ((h1+d1:Nat):Int)+(d2:Int)=((h1+d1+d2:Nat):Int) from rfl,zDh hs2,stU (l:=out) (o:=i+j) (by omega)]
  refine ⟨_,k-1,rfl,by omega,j+1,h1+d1+d2,_,?_,by omega,by simp [hlen],hs2,zcj hlo (x:=t%18446744073709551616) (i:=i+j) (Nat.mod_lt _ hw0),?_,fun m hm=>?_⟩
  ·rw [ze (by omega) (by omega)];simp only [go_sem,reduceEqDiff,reduceAdd,za,zb hv.pu,zd _ hv.pu,zb hw.pu,zd _ hw.pu]<;>rfl
  ·rw [m3,show i+(j+1)=i+j+1 by omega,Nat.pow_succ,zaW,←hq,Nat.mul_add a,Nat.mul_add (18446744073709551616^i)];simp only [Nat.mul_zero,Nat.add_zero] at hstep;rw [hstep,Nat.pow_add,←Nat.add_assoc,Nat.mul_assoc (18446744073709551616^i),←Nat.mul_assoc a,Nat.mul_comm a (18446744073709551616^j),Nat.mul_assoc]
  ·rw [zce (by omega)];exact hhi m hm
 ·right
  have:j=y.length:=by omega
  subst this;rw [List.take_length] at hval;simp only [go_sem,reduceEqDiff,zkv,show ¬(y.length:Int)<y.length by omega];exact ⟨_,_,rfl,by simp,_,c,out,rfl,rfl,by simp only [go_sem,reduceEqDiff],by simp only [go_sem,reduceEqDiff],by simp only [go_sem,reduceEqDiff],by simp only [go_sem,reduceEqDiff],by simp only [go_sem,reduceEqDiff],by simp only [go_sem,reduceEqDiff],by simp only [go_sem,reduceEqDiff],hlen,hc,hlo,hval,hhi⟩
theorem zHN (h143:L.pure 143=some zer) (h171:L.pure 171=some zc5) {v w:AV} {x y:List Nat} (hv:IsU v x) (hw:IsU w y) (hx:lo 18446744073709551616 x) (hy:lo 18446744073709551616 y) (lx:x.length≤49999999999) (ly:y.length≤49999999999) {n:Nat} (hn:n=x.length+y.length):
  ∀k s,(∃(i:Nat) (out:List Nat),zA [1,5,20,21,22] s=⟨[(1,w),(5,.osl 0 0 n),(20,v),(21,zh x.length),(22,zh i)],[(0,.cells true true true 1 (out.map uc))],1,0⟩∧i+k=x.length∧out.length=n∧lo 18446744073709551616 out∧
    bv 18446744073709551616 out=bv 18446744073709551616 (x.take i)*bv 18446744073709551616 y∧(∀m,i+y.length≤m→out.getD m 0=0))→
   ∃ex s',D P L (.loop [1,5,20,21,22] zj1) s=some (ex,s')∧∃tm out,s'=⟨tm,[(0,.cells true true true 1 (out.map uc))],1,0⟩∧ex= .exit 0∧zc tm 5= .osl 0 0 n∧out.length=n∧lo 18446744073709551616 out∧
    bv 18446744073709551616 out=bv 18446744073709551616 x*bv 18446744073709551616 y:=by
 refine zS (I:=fun k s=>∃(i:Nat) (out:List Nat),s=⟨[(1,w),(5,.osl 0 0 n),(20,v),(21,zh x.length),(22,zh i)],[(0,.cells true true true 1 (out.map uc))],1,0⟩∧i+k=x.length∧out.length=n∧lo 18446744073709551616 out∧
    bv 18446744073709551616 out=bv 18446744073709551616 (x.take i)*bv 18446744073709551616 y∧(∀m,i+y.length≤m→out.getD m 0=0))
  (Q:=fun ex s'=>∃tm out,s'=⟨tm,[(0,.cells true true true 1 (out.map uc))],1,0⟩∧ex= .exit 0∧zc tm 5= .osl 0 0 n∧out.length=n∧lo 18446744073709551616 out∧
    bv 18446744073709551616 out=bv 18446744073709551616 x*bv 18446744073709551616 y) ?_
 rintro k s ⟨i,out,rfl,hk,hlen,hlo,hval,hhi⟩;by_cases hi:i<x.length
 ·left
  have gx:=zaZ (show 0<18446744073709551616 by decide) hx i;have ex:=hv.ixa hi;obtain ⟨a,ha⟩:∃a,a=x.getD i 0:=⟨_,rfl⟩;rw [←ha] at gx ex;simp only [go_sem,reduceEqDiff,zj1,hw.len,show (i:Int)<x.length by omega,ex];generalize hq:D P L (.loop [1,5,6,7,8,20,21,22,27,28,29] zkv) _=q;obtain ⟨ex,s,rfl,tm,c,out1,rfl,rfl,t1,t5,t6,t8,t20,t21,t22,hlen1,hc,hlo1,hval1,hhi1⟩:=z8 hq (zFs (P:=P) (L:=L) h143 h171 hv hw hx hy lx ly hn hi gx (bo:=bv 18446744073709551616 out) y.length)
   ⟨0,0,out,by simp only [go_sem,reduceEqDiff,reduceAdd,za,zb hv.pu,zd _ hv.pu,zb hw.pu,zd _ hw.pu]<;>rfl,by omega,hlen,by decide,hlo,by simp [bv],hhi⟩
  have hz:out1.getD (i+y.length) 0=0:=hhi1 _ (Nat.le_refl _);have z7:=zcW (b:=18446744073709551616) (l:=out1) (i:=i+y.length) (x:=c) (by omega);rw [hz,Nat.mul_zero,Nat.add_zero,hval1] at z7
  simp only [go_sem,reduceEqDiff,Nat.mul_one,za,t1,t5,t6,t8,t20,t21,t22,hw.len,zb hv.pu,zd _ hv.pu,zb hw.pu,zd _ hw.pu,zy (n:=i+y.length) (by omega),show (i:Int)+(y.length:Int)=((i+y.length:Nat):Int) from rfl,zY 0 0 (show i+y.length<n by omega),Nat.zero_add,stU (l:=out1) (o:=i+y.length) (by omega)];refine ⟨_,k-1,rfl,by omega,i+1,out1.set (i+y.length) c,?_,by omega,by simp [hlen1],zcj hlo1 hc,?_,fun m hm=>?_⟩
  ·rw [ze (by omega) (by omega)];simp only [go_sem,reduceEqDiff,reduceAdd,za,zb hv.pu,zd _ hv.pu,zb hw.pu,zd _ hw.pu]<;>rfl
  ·rw [z7,hval,zaW,Nat.add_mul,←ha,Nat.mul_assoc]
  ·rw [zce (by omega)];exact hhi1 m (by omega)
 ·right
  have:i=x.length:=by omega
  subst this;rw [List.take_length] at hval;simp only [go_sem,reduceEqDiff,zj1,show ¬(x.length:Int)<x.length by omega];exact ⟨_,_,rfl,by simp,_,out,rfl,rfl,by simp only [go_sem,reduceEqDiff],hlen,hlo,hval⟩
theorem zQJ (h:Has P L 144 zAS) (h166:Has P L 166 zne) (h143:L.pure 143=some zer) (h171:L.pure 171=some zc5) {v w:AV} {x y:List Nat} (hv:IsU v x) (hw:IsU w y) (hx:lo 18446744073709551616 x) (hy:lo 18446744073709551616 y) (lx:x.length≤49999999999) (ly:y.length≤49999999999):
  ∃r out,zK P L 144 [v,w] r∧IsU r out∧lo 18446744073709551616 out∧nzN out∧bv 18446744073709551616 out=bv 18446744073709551616 x*bv 18446744073709551616 y:=by
 obtain ⟨n,hn⟩:∃n,n=x.length+y.length:=⟨_,rfl⟩;unfold zK;rw [zf h]
 simp only [go_sem,reduceEqDiff,reduceAdd,zAS,hv.len,hw.len,zy (n:=n) (by omega),show (x.length:Int)+(y.length:Int)=((x.length+y.length:Nat):Int) from rfl,←hn,zpi (n:=n) _ (by omega)];generalize hq:D P L (.loop [1,5,20,21,22] zj1) _=q;obtain ⟨ex,s,rfl,tm,o,rfl,rfl,t5,hlen,hlo,hval⟩:=z8 hq (zHN (P:=P) (L:=L) h143 h171 hv hw hx hy lx ly hn x.length)
  ⟨0,List.replicate n 0,by simp only [go_sem,reduceEqDiff,reduceAdd,za,zb hv.pu,zd _ hv.pu,zb hw.pu,zd _ hw.pu]<;>rfl,by omega,by simp,zic (by decide) n,by rw [zh2];simp [bv],fun m _=>ze1 n m⟩
 have hf:=zbL true o;rw [hlen] at hf;obtain ⟨r,e1,hr⟩:=znR h166 hf (by omega);unfold zK at e1;refine ⟨r,_,?_,hr,zdp hlo,zdg _,by rw [zdf];exact hval⟩
 simp only [go_sem,reduceAdd,za,t5,znY _ (n:=n) (l:=o) hlen true,e1,hr.shut,hr.res]
end
end VE
end
