import Derived.Test.YtknmjihnfgolpaaGreatDoorTbk
set_option linter.all false
set_option maxRecDepth 100000
open Nat (reduceAdd reduceEqDiff reduceLT reduceMul)
section
namespace VE
open Go (IntKind)
section
variable {pre x post:List Nat} {i:Nat}
theorem zco:(pre++x++post).length=pre.length+x.length+post.length:=by simp [Nat.add_assoc]
theorem zeU (h:i<x.length):(pre++x++post).getD (pre.length+i) 0=x.getD i 0:=by
 simp only [List.getD_eq_getElem?_getD];rw [List.append_assoc,List.getElem?_append_right (by omega),List.getElem?_append_left (by omega),Nat.add_sub_cancel_left]
theorem zje (a:Nat) (h:i<x.length):(pre++x++post).set (pre.length+i) a=pre++x.set i a++post:=by
 rw [List.append_assoc,List.set_append_right _ _ (by omega),List.set_append_left _ _ (by omega),Nat.add_sub_cancel_left,List.append_assoc]
end
theorem zcv (n:Nat) (k:IntKind) (a:Int):zc3 n (.int k a)=True:=rfl
theorem zcT (n id o k:Nat):zc3 n (.osl id o k)=(id<n):=rfl
theorem zbD (n:Nat):zdZ n []=True:=rfl
theorem zbi (n i:Nat) (v:AV) (r:Env):zdZ n ((i,v)::r)=(zc3 n v∧zdZ n r):=rfl
theorem zca {live:List Nat} {tm:Env} {ct:Nat} {a b:List AV} (ht:zdZ 2 (keep tm live)) (hl:(zcF (keep tm live)).length<100000):
  zC live ⟨tm,[(1,.cells true true true 1 a),(0,.cells true true true 1 b)],ct,2⟩=⟨keep tm live,[(1,.cells true true true 1 a),(0,.cells true true true 1 b)],2,2⟩:=
 ziW ht ⟨by omega,.inl rfl,by omega,.inl rfl,trivial⟩ (by
  have:za7 2 [(1,Obj.cells true true true 1 a),(0,Obj.cells true true true 1 b)]=[]:=rfl
  rw [this,List.length_nil,Nat.add_zero];exact hl)
section
variable {P:zU} {L:Lib}
theorem zpw {x s c:Nat} (hs:s<64) (hx:x<18446744073709551616) (hc:c<2^s):
  c|||(x*2^s%18446744073709551616)<18446744073709551616∧c<18446744073709551616∧x/2^(64-s)<2^s∧(c|||(x*2^s%18446744073709551616))+18446744073709551616*(x/2^(64-s))=x*2^s+c:=by
 have e:18446744073709551616=2^(64-s)*2^s:=by rw [←Nat.pow_add,show 64-s+s=64 by omega]
 have h1:x*2^s%18446744073709551616=(x%2^(64-s))*2^s:=by rw [e,Nat.mul_mod_mul_right]
 have h2:x/2^(64-s)<2^s:=by
  refine (Nat.div_lt_iff_lt_mul (Nat.two_pow_pos _)).2 ?_;rw [←Nat.pow_add,show s+(64-s)=64 by omega];exact hx
 have h3:c|||(x*2^s%18446744073709551616)=(x%2^(64-s))*2^s+c:=by rw [h1,Nat.or_comm,zph hc]
 have h4:(x%2^(64-s))*2^s+c<18446744073709551616:=by
  have:=Nat.mul_le_mul_right (2^s) (show x%2^(64-s)+1≤2^(64-s) from Nat.mod_lt _ (Nat.two_pow_pos _))
  rw [←e,Nat.add_mul,Nat.one_mul] at this;exact Nat.lt_of_lt_of_le (Nat.add_lt_add_left hc _) this
 rw [h3];refine ⟨h4,Nat.lt_of_le_of_lt (Nat.le_add_left _ _) h4,h2,?_⟩;have h5:=Nat.mod_add_div x (2^(64-s));have h6:18446744073709551616*(x/2^(64-s))=2^(64-s)*(x/2^(64-s))*2^s:=by
  conv=>lhs;rw [e]
  rw [Nat.mul_right_comm]
 rw [h6,Nat.add_right_comm,←Nat.add_mul,h5]
theorem zJQ {v:AV} {w:List Nat} (hv:IsU v w) (hw:lo 18446744073709551616 w) (lw:w.length≤99999999999) {s n:Nat} (hs:s<64) (hn:n=w.length+1):
  ∀k st,(∃(i:Nat) (out:List Nat),zC [1,5,12,13,14] st=⟨[(1,zf s),(5,.osl 0 0 n),(12,v),(13,zf w.length),(14,zf i)],[(0,.cells true true true 1 (out.map uc))],1,0⟩∧i+k=w.length∧out.length=n∧lo 18446744073709551616 out∧bv 18446744073709551616 out=bv 18446744073709551616 (w.take i)*2^s∧out.getD i 0<2^s∧(∀m,i<m→out.getD m 0=0))→
   ∃ex st',D P L (.loop [1,5,12,13,14] zhW) st=some (ex,st')∧∃tm out,st'=⟨tm,[(0,.cells true true true 1 (out.map uc))],1,0⟩∧ex= .exit 0∧zc tm 5= .osl 0 0 n∧out.length=n∧lo 18446744073709551616 out∧bv 18446744073709551616 out=bv 18446744073709551616 w*2^s:=by
 refine zT (I:=fun k st=>∃(i:Nat) (out:List Nat),st=⟨[(1,zf s),(5,.osl 0 0 n),(12,v),(13,zf w.length),(14,zf i)],[(0,.cells true true true 1 (out.map uc))],1,0⟩∧i+k=w.length∧out.length=n∧lo 18446744073709551616 out∧bv 18446744073709551616 out=bv 18446744073709551616 (w.take i)*2^s∧out.getD i 0<2^s∧(∀m,i<m→out.getD m 0=0))
  (Q:=fun ex st'=>∃tm out,st'=⟨tm,[(0,.cells true true true 1 (out.map uc))],1,0⟩∧ex= .exit 0∧zc tm 5= .osl 0 0 n∧out.length=n∧lo 18446744073709551616 out∧bv 18446744073709551616 out=bv 18446744073709551616 w*2^s) ?_
 rintro k st ⟨i,out,rfl,hk,hlen,hlo,hval,hc,hhi⟩;by_cases hi:i<w.length
 ·left
  have gx:=za9 (show 0<18446744073709551616 by decide) hw i;have ex:=hv.ixa hi;have ec:=zhj (l:=out) (o:=i) (by omega);have zad:=zc5 (b:=18446744073709551616) (l:=out) (i:=i) (x:=out.getD i 0|||(w.getD i 0*2^s%18446744073709551616)) (by omega);have hz:out.getD (i+1) 0=0:=hhi _ (by omega);have htk:=za4 (b:=18446744073709551616) (l:=w) i;generalize out.getD i 0=c at*
  generalize w.getD i 0=x at*
  obtain ⟨s1,s2,s3,s4⟩:=zpw hs gx hc;have o1:=zyM .i64 x (s:=s) (by omega);have o2:=orU s2 (Nat.mod_lt (x*2^s) (by decide));have o3:binOp .sub (.int .i64 64) (zf s)=some (zf (64-s:Nat)):=by
   rw [zjl,zg (by omega) (by omega)];congr 2;omega
  have o4:=zx9 .i64 x (s:=64-s) (by omega);generalize hc':c|||(x*2^s%18446744073709551616)=c' at*
  by_cases h0:0<s
  ·have hset2:=zc5 (b:=18446744073709551616) (l:=out.set i c') (i:=i+1) (x:=x/2^(64-s)) (by simp;omega);rw [zcq (by omega),hz,Nat.mul_zero,Nat.add_zero] at hset2;have hq64:x/2^(64-s)<18446744073709551616:=Nat.lt_of_le_of_lt (Nat.div_le_self _ _) gx;generalize x/2^(64-s)=y at*
   simp only [go_sem,reduceEqDiff,Nat.mul_one,zhW,show (i:Int)<w.length by omega,ex,zZ 0 0 (show i<n by omega),Nat.zero_add,ec,o1,o2,stU (l:=out) (o:=i) (by omega),show (0:Int)<(s:Int) by omega,show (i:Int)+1=((i+1:Nat):Int) from rfl,zB (n:=i+1) (by omega),o3,o4,zZ 0 0 (show i+1<n by omega),stU (l:=out.set i c') (o:=i+1) (by simp;omega)];refine ⟨_,k-1,rfl,by omega,i+1,(out.set i c').set (i+1) y,by simp only [go_sem,reduceEqDiff,reduceAdd,za,zb hv.pu,ze _ hv.pu]<;>rfl,by omega,by simp [hlen],zcu (zcu hlo s1) hq64,?_,by rw [zpW (by simp;omega)];exact s3,fun m hm=>by rw [zcq (by omega),zcq (by omega)];exact hhi m (by omega)⟩
   rw [htk,Nat.add_mul,hset2,←hval,Nat.pow_succ,Nat.mul_assoc,Nat.mul_assoc (18446744073709551616^i)];have e:=congrArg (fun t=>18446744073709551616^i*t) s4;simp only [Nat.mul_add] at e;generalize 18446744073709551616^i*(18446744073709551616*y)=p1 at*
   generalize 18446744073709551616^i*(x*2^s)=p2 at*
   generalize 18446744073709551616^i*c'=p3 at*
   generalize 18446744073709551616^i*c=p4 at*
   omega
  ·have hs0:s=0:=by omega
   subst hs0;have hc0:c=0:=by simpa using hc
   have hx0:x/2^(64-0)=0:=Nat.div_eq_of_lt gx;rw [hx0,Nat.mul_zero,Nat.add_zero,Nat.pow_zero,Nat.mul_one] at s4
   simp only [go_sem,reduceEqDiff,Nat.mul_one,zhW,show (i:Int)<w.length by omega,ex,zZ 0 0 (show i<n by omega),Nat.zero_add,ec,o1,o2,stU (l:=out) (o:=i) (by omega),show ¬(0:Int)<((0:Nat):Int) by omega,show (i:Int)+1=((i+1:Nat):Int) from rfl,zB (n:=i+1) (by omega)];refine ⟨_,k-1,rfl,by omega,i+1,out.set i c',by simp only [go_sem,reduceEqDiff,reduceAdd,za,zb hv.pu,ze _ hv.pu]<;>rfl,by omega,by simp [hlen],zcu hlo s1,?_,by rw [zcq (by omega),hz];exact Nat.two_pow_pos _,fun m hm=>by rw [zcq (by omega)];exact hhi m (by omega)⟩
   rw [Nat.pow_zero,Nat.mul_one] at hval ⊢;rw [htk,←hval];rw [hc0,Nat.mul_zero,Nat.add_zero] at zad;rw [zad,s4,hc0,Nat.add_zero]
 ·right
  have:i=w.length:=by omega
  subst this;rw [List.take_length] at hval;simp only [go_sem,reduceEqDiff,zhW,show ¬(w.length:Int)<w.length by omega];exact ⟨_,_,rfl,by simp,_,out,rfl,rfl,by simp only [go_sem,reduceEqDiff],hlen,hlo,hval⟩
theorem zOE (h:Has P L 168 zCM) {v:AV} {w:List Nat} (hv:IsU v w) (hw:lo 18446744073709551616 w) (lw:w.length≤99999999999) {s:Nat} (hs:s<64):
  ∃out,zF P L 168 [v,zf s] (.fsl true 1 (w.length+1) (out.map uc))∧out.length=w.length+1∧lo 18446744073709551616 out∧bv 18446744073709551616 out=bv 18446744073709551616 w*2^s:=by
 obtain ⟨n,hn⟩:∃n,n=w.length+1:=⟨_,rfl⟩;unfold zF;rw [zd h]
 simp only [go_sem,reduceEqDiff,reduceAdd,zCM,hv.len,zB (n:=n) (by omega),show (w.length:Int)+1=((w.length+1:Nat):Int) from rfl,←hn,zpi (n:=n) _ (by omega)];generalize hq:D P L (.loop [1,5,12,13,14] zhW) _=q;obtain ⟨ex,st,rfl,tm,o,rfl,rfl,t5,hlen,hlo,hval⟩:=zae hq (zJQ (P:=P) (L:=L) hv hw lw hs hn w.length)
  ⟨0,List.replicate n 0,by simp only [go_sem,reduceEqDiff,reduceAdd,za,zb hv.pu,ze _ hv.pu]<;>rfl,by omega,by simp,zhR (by decide) n,by rw [zhQ];simp [bv],by rw [zeT];exact Nat.two_pow_pos _,fun m _=>zeT n m⟩
 refine ⟨o,?_,hlen,hlo,hval⟩;simp only [go_sem,reduceAdd,za,t5];exact zj2 (zjF _ _ _) (by simp [hlen]) (by decide)
end
end VE
end
section
namespace VE
open Go (IntKind)
abbrev H2 (a b:List Nat):Hp:=[(1,.cells true true true 1 (a.map uc)),(0,.cells true true true 1 (b.map uc))]
structure Lead (x vs:List Nat) (n v1 v2 u0 u1 u2:Nat):Prop where
 n2:2≤n
 nb:n≤99999999999
 lx:x.length=n+1
 lv:vs.length=n
 gx:lo 18446744073709551616 x
 gv:lo 18446744073709551616 vs
 hv1:vs.getD (n-1) 0=v1
 hv2:vs.getD (n-2) 0=v2
 h0:x.getD n 0=u0
 h1:x.getD (n-1) 0=u1
 h2:x.getD (n-2) 0=u2
 pos:0<v1
 lt:bv 18446744073709551616 x<18446744073709551616*bv 18446744073709551616 vs
theorem zD3 (b p a v1 v2:Nat):a+p*v2+p*b*v1=(v1*b+v2)*p+a:=by grind
theorem zEg (b p a v0 v1 v2:Nat):a+p*v2+p*b*v1+p*b*b*v0=((v0*b+v1)*b+v2)*p+a:=by grind
section
variable {x vs:List Nat} {n v1 v2 u0 u1 u2:Nat}
theorem Lead.v1W (h:Lead x vs n v1 v2 u0 u1 u2):v1<18446744073709551616:=h.hv1▸za9 (by decide) h.gv _
theorem Lead.v2W (h:Lead x vs n v1 v2 u0 u1 u2):v2<18446744073709551616:=h.hv2▸za9 (by decide) h.gv _
theorem Lead.u0W (h:Lead x vs n v1 v2 u0 u1 u2):u0<18446744073709551616:=h.h0▸za9 (by decide) h.gx _
theorem Lead.u1W (h:Lead x vs n v1 v2 u0 u1 u2):u1<18446744073709551616:=h.h1▸za9 (by decide) h.gx _
theorem Lead.u2W (h:Lead x vs n v1 v2 u0 u1 u2):u2<18446744073709551616:=h.h2▸za9 (by decide) h.gx _
theorem Lead.parts (h:Lead x vs n v1 v2 u0 u1 u2):∃p vr ur,bv 18446744073709551616 vs=(v1*18446744073709551616+v2)*p+vr∧vr<p∧bv 18446744073709551616 x=((u0*18446744073709551616+u1)*18446744073709551616+u2)*p+ur∧ur<p:=by
 obtain ⟨m,hm⟩:∃m,n=m+2:=⟨n-2,by have:=h.n2;omega⟩;subst hm;have e1:=za4 (b:=18446744073709551616) (l:=vs) (m+1);have e2:=za4 (b:=18446744073709551616) (l:=vs) m;have f0:=za4 (b:=18446744073709551616) (l:=x) (m+2);have f1:=za4 (b:=18446744073709551616) (l:=x) (m+1);have f2:=za4 (b:=18446744073709551616) (l:=x) m;have hv1:vs.getD (m+1) 0=v1:=h.hv1;have hv2:vs.getD m 0=v2:=h.hv2;have h0:x.getD (m+2) 0=u0:=h.h0;have h1:x.getD (m+1) 0=u1:=h.h1;have h2:x.getD m 0=u2:=h.h2
 rw [List.take_of_length_le (by have:=h.lv;omega),hv1,e2,hv2] at e1
 rw [List.take_of_length_le (by have:=h.lx;omega),h0,f1,h1,f2,h2] at f0;have g1:=zd4 (zes h.gv m)
 rw [List.length_take,Nat.min_eq_left (by have:=h.lv;omega)] at g1;have g2:=zd4 (zes h.gx m)
 rw [List.length_take,Nat.min_eq_left (by have:=h.lx;omega)] at g2;refine ⟨18446744073709551616^m,_,_,?_,g1,?_,g2⟩
 ·rw [e1,Nat.pow_succ,zD3]
 ·rw [f0,show 18446744073709551616^(m+2)=18446744073709551616^m*18446744073709551616*18446744073709551616 by rw [Nat.pow_succ,Nat.pow_succ],Nat.pow_succ,zEg]
theorem Lead.down (h:Lead x vs n v1 v2 u0 u1 u2) {t r:Nat} (ht:t*v1+r=u0*18446744073709551616+u1) (hr:r*18446744073709551616+u2<t*v2):bv 18446744073709551616 x/bv 18446744073709551616 vs≤t-1:=by
 obtain ⟨p,vr,ur,h1,h2,h3,h4⟩:=h.parts;exact zj0 h1 h3 h4 ht hr
theorem Lead.stop (h:Lead x vs n v1 v2 u0 u1 u2) {t r:Nat} (htb:t<18446744073709551616) (ht:t*v1+r=u0*18446744073709551616+u1) (hr:18446744073709551616≤r∨t*v2≤r*18446744073709551616+u2):t≤bv 18446744073709551616 x/bv 18446744073709551616 vs+1:=by
 obtain ⟨p,vr,ur,h1,h2,h3,h4⟩:=h.parts;exact zl0 (by decide) h1 h2 h3 h.pos h.v2W htb ht hr
theorem Lead.first (h:Lead x vs n v1 v2 u0 u1 u2):bv 18446744073709551616 x/bv 18446744073709551616 vs≤(u0*18446744073709551616+u1)/v1:=by
 obtain ⟨p,vr,ur,h1,h2,h3,h4⟩:=h.parts;exact zfS h1 h3 h4 h.u2W h.pos
theorem Lead.top (h:Lead x vs n v1 v2 u0 u1 u2):u0≤v1:=by
 obtain ⟨p,vr,ur,h1,h2,h3,h4⟩:=h.parts;exact zlH h1 h3 h2 h.v2W h.lt
theorem Lead.digit (h:Lead x vs n v1 v2 u0 u1 u2):bv 18446744073709551616 x/bv 18446744073709551616 vs<18446744073709551616:=by
 refine (Nat.div_lt_iff_lt_mul ?_).2 h.lt;rcases Nat.eq_zero_or_pos (bv 18446744073709551616 vs) with h0 | h0
 ·have:=h.lt;rw [h0] at this;simp at this
 ·exact h0
end
section
variable {P:zU} {L:Lib}
theorem zyw (h143:L.pure 143=some zev) (h171:L.pure 171=some zdd) {w:AV} {x vs pre post qs:List Nat} (hw:IsU w vs) {n v1 v2 u0 u1 u2:Nat} (hl:Lead x vs n v1 v2 u0 u1 u2):
  ∀k s,(∃q r:Nat,zC [0,1,5,6,7,8] s=⟨[(0,.osl 0 pre.length (n+1)),(1,w),(5,zf n),(6,uc q),(7,uc (r%18446744073709551616)),(8,uc (r/18446744073709551616))],H2 qs (pre++x++post),2,2⟩∧q*v1+r=u0*18446744073709551616+u1∧r<2*18446744073709551616∧q<18446744073709551616∧bv 18446744073709551616 x/bv 18446744073709551616 vs≤q∧q=k)→
   ∃ex s',D P L (.loop [0,1,5,6,7,8] zfb) s=some (ex,s')∧∃tm q,s'=⟨tm,H2 qs (pre++x++post),2,2⟩∧ex= .exit 0∧zc tm 0= .osl 0 pre.length (n+1)∧zc tm 1=w∧zc tm 5=zf n∧zc tm 6=uc q∧q<18446744073709551616∧bv 18446744073709551616 x/bv 18446744073709551616 vs≤q∧q≤bv 18446744073709551616 x/bv 18446744073709551616 vs+1:=by
 refine zT (I:=fun k s=>∃q r:Nat,s=⟨[(0,.osl 0 pre.length (n+1)),(1,w),(5,zf n),(6,uc q),(7,uc (r%18446744073709551616)),(8,uc (r/18446744073709551616))],H2 qs (pre++x++post),2,2⟩∧q*v1+r=u0*18446744073709551616+u1∧r<2*18446744073709551616∧q<18446744073709551616∧bv 18446744073709551616 x/bv 18446744073709551616 vs≤q∧q=k)
  (Q:=fun ex s'=>∃tm q,s'=⟨tm,H2 qs (pre++x++post),2,2⟩∧ex= .exit 0∧zc tm 0= .osl 0 pre.length (n+1)∧zc tm 1=w∧zc tm 5=zf n∧zc tm 6=uc q∧q<18446744073709551616∧bv 18446744073709551616 x/bv 18446744073709551616 vs≤q∧q≤bv 18446744073709551616 x/bv 18446744073709551616 vs+1) ?_
 rintro k s ⟨q,r,rfl,hq,hr,hqW,hQ,rfl⟩;have hn2:=hl.n2;have hnb:=hl.nb;by_cases hr0:r<18446744073709551616
 ·have er1:r%18446744073709551616=r:=Nat.mod_eq_of_lt hr0;have er2:r/18446744073709551616=0:=Nat.div_eq_of_lt hr0;rw [er1,er2];have hv1W:=hl.v1W;have hv2W:=hl.v2W;have hu2W:=hl.u2W;have ev2:=hw.ixa (i:=n-2) (by have:=hl.lv;omega);have ev1:=hw.ixa (i:=n-1) (by have:=hl.lv;omega);rw [hl.hv2] at ev2;rw [hl.hv1] at ev1;have eu2:=zhj (l:=pre++x++post) (o:=pre.length+(n-2)) (by rw [zco];have:=hl.lx;omega)
  rw [zeU (by have:=hl.lx;omega),hl.h2] at eu2;have f1:=zmw (P:=P) (f:=D P L) h143 hqW hv2W;have f2:=zgT (P:=P) (f:=D P L) h171 (x:=r) (y:=v1) (c:=0) hr0 hv1W (by omega);rw [show (uc 0)=AV.int .u64 0 from rfl] at f2;have hdm:=Nat.div_add_mod (q*v2) 18446744073709551616;have hlo:=Nat.mod_lt (q*v2) (show 0<18446744073709551616 by decide);obtain ⟨H,hH⟩:∃H,H=q*v2/18446744073709551616:=⟨_,rfl⟩;obtain ⟨G,hG⟩:∃G,G=q*v2%18446744073709551616:=⟨_,rfl⟩;rw [←hH,←hG] at f1 hdm;rw [←hG] at hlo;have n2e:(n:Int)-2=((n-2:Nat):Int):=by omega
  have n1e:(n:Int)-1=((n-1:Nat):Int):=by omega
  by_cases c1:H<r
  ·right
   simp only [go_sem,reduceEqDiff,zfb,H2,show ((0:Nat):Int)=0 from rfl,n2e,zB (n:=n-2) (by omega),ev2,f1,show (H:Int)<(r:Int) by omega];exact ⟨_,_,rfl,by simp,_,q,rfl,rfl,by simp only [go_sem,reduceEqDiff],by simp only [go_sem,reduceEqDiff],by simp only [go_sem,reduceEqDiff],by simp only [go_sem,reduceEqDiff],hqW,hQ,hl.stop hqW hq (.inr (by omega))⟩
  ·by_cases c2:H=r∧G≤u2
   ·right
    obtain ⟨c2,c3⟩:=c2
    simp only [go_sem,reduceEqDiff,zfb,H2,show ((0:Nat):Int)=0 from rfl,n2e,zB (n:=n-2) (by omega),ev2,f1,show (H:Int)=(r:Int) by omega];simp only [show ¬(r:Int)<(r:Int) by omega,decide_false]
    simp only [go_sem,reduceEqDiff,Nat.mul_one,n2e,zB (n:=n-2) (by omega),zZ 0 pre.length (show n-2<n+1 by omega),eu2,show (G:Int)≤(u2:Int) by omega];exact ⟨_,_,rfl,by simp,_,q,rfl,rfl,by simp only [go_sem,reduceEqDiff],by simp only [go_sem,reduceEqDiff],by simp only [go_sem,reduceEqDiff],by simp only [go_sem,reduceEqDiff],hqW,hQ,hl.stop hqW hq (.inr (by omega))⟩
   ·left
    have hgt:r*18446744073709551616+u2<q*v2:=by omega
    have hq0:0<q:=by
     rcases Nat.eq_zero_or_pos q with h0 | h0
     ·subst h0;omega
     ·exact h0
    have e3:binOp .sub (uc q) (.int .u64 1)=some (uc (q-1)):=zpD (b:=1) (by omega) (by omega);have h1:(q-1)*v1+(r+v1)=u0*18446744073709551616+u1:=by
     obtain ⟨p,rfl⟩:∃p,q=p+1:=⟨q-1,by omega⟩;rw [Nat.add_mul,Nat.one_mul] at hq;rw [Nat.add_sub_cancel];omega
    have hdn:=hl.down hq hgt;rw [Nat.add_zero] at f2;by_cases c3:H=r
    ·have c4:¬G≤u2:=fun h=>c2 ⟨c3,h⟩
     subst c3
     simp only [go_sem,reduceEqDiff,reduceMul,Nat.mul_one,zfb,H2,show ((0:Nat):Int)=0 from rfl,n2e,n1e,zB (n:=n-2) (by omega),zB (n:=n-1) (by omega),ev2,ev1,f1,f2,show ¬(H:Int)<(H:Int) by omega,zZ 0 pre.length (show n-2<n+1 by omega),eu2,show ¬(G:Int)≤(u2:Int) by omega,e3];refine ⟨_,q-1,rfl,by omega,q-1,H+v1,?_,h1,by omega,by omega,hdn,rfl⟩;rw [zca (by simp only [go_sem,reduceEqDiff,reduceLT,zcv,zcT,zbD,zbi,zbh hw.pu,and_true]) (by simp only [go_sem,reduceEqDiff,reduceAdd,reduceLT,zb hw.pu])];simp only [go_sem,reduceEqDiff]
    ·simp only [go_sem,reduceEqDiff,reduceMul,zfb,H2,show ((0:Nat):Int)=0 from rfl,n2e,n1e,zB (n:=n-2) (by omega),zB (n:=n-1) (by omega),ev2,ev1,f1,f2,show ¬(H:Int)<(r:Int) by omega,show ¬(H:Int)=(r:Int) by omega,e3];refine ⟨_,q-1,rfl,by omega,q-1,r+v1,?_,h1,by omega,by omega,hdn,rfl⟩;rw [zca (by simp only [go_sem,reduceEqDiff,reduceLT,zcv,zcT,zbD,zbi,zbh hw.pu,and_true]) (by simp only [go_sem,reduceEqDiff,reduceAdd,reduceLT,zb hw.pu])];simp only [go_sem,reduceEqDiff]
 ·right
  have er2:r/18446744073709551616=1:=by omega
  rw [er2];simp only [go_sem,reduceEqDiff,zfb,H2,show ((1:Nat):Int)=1 from rfl,Int.reduceEq];exact ⟨_,_,rfl,by simp,_,q,rfl,rfl,by simp only [go_sem,reduceEqDiff],by simp only [go_sem,reduceEqDiff],by simp only [go_sem,reduceEqDiff],by simp only [go_sem,reduceEqDiff],hqW,hQ,hl.stop hqW hq (.inl (by omega))⟩
end
end VE
end
section
namespace VE
open Go (IntKind)
theorem zvI {b p x y z lo' c bo bo' ca q v X Y:Nat} (h1:q*v+c=b*ca+lo') (h2:z+lo'+bo=x+b*bo') (h3:Y+q*X=y+p*(c+bo)) (W:Nat) (hW:W+p*x=Y+p*z):
  W+q*(X+p*v)=y+p*b*(ca+bo'):=by
 have e1:=congrArg (fun t=>p*t) h1;have e2:=congrArg (fun t=>p*t) h2;simp only [Nat.mul_add] at e1 e2 h3 ⊢;rw [Nat.mul_left_comm q p v,Nat.mul_assoc p b ca,Nat.mul_assoc p b bo'];rw [show p*(q*v)=p*(q*v) from rfl] at e1;generalize p*(q*v)=a1 at*
 generalize p*(b*ca)=a2 at*
 generalize p*(b*bo')=a3 at*
 generalize p*lo'=a4 at*
 generalize p*c=a5 at*
 generalize p*bo=a6 at*
 generalize p*x=a7 at*
 generalize p*z=a8 at*
 generalize q*X=a9 at*
 omega
theorem zu8 {q v c:Nat} (hq:q<18446744073709551616) (hv:v<18446744073709551616) (hc:c<18446744073709551616):
  q*v+c=18446744073709551616*(q*v/18446744073709551616+(q*v%18446744073709551616+c+0)/18446744073709551616)+(q*v%18446744073709551616+c+0)%18446744073709551616∧
  q*v/18446744073709551616+(q*v%18446744073709551616+c+0)/18446744073709551616<18446744073709551616:=by
 have h:=Nat.mul_le_mul (show q≤18446744073709551615 by omega) (show v≤18446744073709551615 by omega);generalize q*v=m at*
 omega
section
variable {P:zU} {L:Lib}
theorem zI0 (h143:L.pure 143=some zev) (h171:L.pure 171=some zdd) (h173:L.pure 173=some zfE) {w:AV} {x vs pre post qs:List Nat} (hw:IsU w vs) {n:Nat} (hnb:n≤99999999999) (lv:vs.length=n) (gv:lo 18446744073709551616 vs) {q:Nat} (hq:q<18446744073709551616):
  ∀k s,(∃(i c bo:Nat) (y:List Nat),zC [0,1,5,6,11,12,104,105] s=⟨[(0,.osl 0 pre.length (n+1)),(1,w),(5,zf n),(6,uc q),(11,uc bo),(12,uc c),(104,zf n),(105,zf i)],H2 qs (pre++y++post),2,2⟩∧i+k=n∧y.length=n+1∧lo 18446744073709551616 y∧c<18446744073709551616∧bo≤1∧
    bv 18446744073709551616 y+q*bv 18446744073709551616 (vs.take i)=bv 18446744073709551616 x+18446744073709551616^i*(c+bo))→
   ∃ex s',D P L (.loop [0,1,5,6,11,12,104,105] zjE) s=some (ex,s')∧∃tm c bo y,s'=⟨tm,H2 qs (pre++y++post),2,2⟩∧ex= .exit 2∧zc tm 0= .osl 0 pre.length (n+1)∧zc tm 1=w∧zc tm 5=zf n∧zc tm 6=uc q∧zc tm 11=uc bo∧zc tm 12=uc c∧y.length=n+1∧lo 18446744073709551616 y∧c<18446744073709551616∧bo≤1∧
    bv 18446744073709551616 y+q*bv 18446744073709551616 vs=bv 18446744073709551616 x+18446744073709551616^n*(c+bo):=by
 refine zT (I:=fun k s=>∃(i c bo:Nat) (y:List Nat),s=⟨[(0,.osl 0 pre.length (n+1)),(1,w),(5,zf n),(6,uc q),(11,uc bo),(12,uc c),(104,zf n),(105,zf i)],H2 qs (pre++y++post),2,2⟩∧i+k=n∧y.length=n+1∧lo 18446744073709551616 y∧c<18446744073709551616∧bo≤1∧
    bv 18446744073709551616 y+q*bv 18446744073709551616 (vs.take i)=bv 18446744073709551616 x+18446744073709551616^i*(c+bo))
  (Q:=fun ex s'=>∃tm c bo y,s'=⟨tm,H2 qs (pre++y++post),2,2⟩∧ex= .exit 2∧zc tm 0= .osl 0 pre.length (n+1)∧zc tm 1=w∧zc tm 5=zf n∧zc tm 6=uc q∧zc tm 11=uc bo∧zc tm 12=uc c∧y.length=n+1∧lo 18446744073709551616 y∧c<18446744073709551616∧bo≤1∧
    bv 18446744073709551616 y+q*bv 18446744073709551616 vs=bv 18446744073709551616 x+18446744073709551616^n*(c+bo)) ?_
 rintro k s ⟨i,c,bo,y,rfl,hk,ly,gy,hc,hbo,hval⟩;by_cases hi:i<n
 ·left
  have hb0:(0:Nat)<18446744073709551616:=by decide
  have gvi:=za9 hb0 gv i;have gyi:=za9 hb0 gy i;have ev:=hw.ixa (i:=i) (by omega);have ey:=zhj (l:=pre++y++post) (o:=pre.length+i) (by rw [zco];omega);rw [zeU (by omega)] at ey;have htk:=za4 (b:=18446744073709551616) (l:=vs) i;obtain ⟨a,ha⟩:∃a,a=vs.getD i 0:=⟨_,rfl⟩;obtain ⟨d,hd⟩:∃d,d=y.getD i 0:=⟨_,rfl⟩;rw [←ha] at gvi ev htk;rw [←hd] at gyi ey;obtain ⟨m1,m2⟩:=zu8 hq gvi hc;have f1:=zmw (P:=P) (f:=D P L) h143 hq gvi;have f2:=zgT (P:=P) (f:=D P L) h171 (x:=q*a%18446744073709551616) (y:=c) (c:=0) (Nat.mod_lt _ hb0) hc (by omega);obtain ⟨lo',hlo'⟩:∃t,t=(q*a%18446744073709551616+c+0)%18446744073709551616:=⟨_,rfl⟩;obtain ⟨c1,hc1⟩:∃t,t=(q*a%18446744073709551616+c+0)/18446744073709551616:=⟨_,rfl⟩;have hloW:lo'<18446744073709551616:=by rw [hlo'];exact Nat.mod_lt _ hb0
  rw [←hlo',←hc1] at f2 m1;rw [←hc1] at m2;obtain ⟨h1,hh1⟩:∃t,t=q*a/18446744073709551616:=⟨_,rfl⟩;rw [←hh1] at f1 m1 m2;rw [show (uc 0)=AV.int .u64 0 from rfl] at f2;have f3:=zpT (P:=P) (f:=D P L) h173 gyi hloW hbo;have hsw:=zkc gyi hloW hbo;obtain ⟨z,hz⟩:∃t,t=(d+18446744073709551616*2-lo'-bo)%18446744073709551616:=⟨_,rfl⟩;obtain ⟨b',hb'⟩:∃t,t=(if lo'+bo≤d then 0 else 1):=⟨_,rfl⟩;have hb1:b'≤1:=by rw [hb'];split<;>omega
  have hzW:z<18446744073709551616:=by rw [hz];exact Nat.mod_lt _ hb0
  rw [←hz,←hb'] at f3 hsw;have f4:binOp .add (uc h1) (uc c1)=some (uc (h1+c1)):=by
   rw [ziQ,Nat.mod_eq_of_lt m2]
  have zad:=zc5 (b:=18446744073709551616) (l:=y) (i:=i) (x:=z) (by omega);rw [←hd] at zad;have hst:=fun (hp:Hp) (ct:Nat)=>stU (hp:=hp) (ct:=ct) (id:=0) (v:=z) (ex:=true) (l:=pre++y++post) (o:=pre.length+i) (by rw [zco];omega)
  have hmid:=zje (pre:=pre) (x:=y) (post:=post) (i:=i) z (by omega);simp only [go_sem,reduceEqDiff,Nat.mul_one,zjE,H2,show (i:Int)<(n:Int) by omega,ev,f1,f2,f4,zZ 0 pre.length (show i<n+1 by omega),ey,f3,hst,hmid];refine ⟨_,k-1,rfl,by omega,i+1,h1+c1,b',y.set i z,?_,by omega,by simp [ly],zcu gy hzW,m2,hb1,?_⟩
  ·rw [zca (by simp only [go_sem,reduceEqDiff,reduceLT,zcv,zcT,zbD,zbi,zbh hw.pu,and_true]) (by simp only [go_sem,reduceEqDiff,reduceAdd,reduceLT,zb hw.pu])];rw [zg (by omega) (by omega)];simp only [go_sem,reduceEqDiff]<;>rfl
  ·rw [htk,Nat.pow_succ];exact zvI m1 hsw hval _ zad
 ·right
  have:i=n:=by omega
  subst this;rw [List.take_of_length_le (by omega)] at hval;simp only [go_sem,reduceEqDiff,zjE,H2,show ¬(i:Int)<(i:Int) by omega];exact ⟨_,_,rfl,by simp,_,c,bo,y,rfl,rfl,by simp only [go_sem,reduceEqDiff],by simp only [go_sem,reduceEqDiff],by simp only [go_sem,reduceEqDiff],by simp only [go_sem,reduceEqDiff],by simp only [go_sem,reduceEqDiff],by simp only [go_sem,reduceEqDiff],ly,gy,hc,hbo,hval⟩
theorem zF5 (h171:L.pure 171=some zdd) {w:AV} {y0 vs pre post qs:List Nat} (hw:IsU w vs) {n:Nat} (hnb:n≤99999999999) (lv:vs.length=n) (gv:lo 18446744073709551616 vs) {q:Nat}:
  ∀k s,(∃(i c:Nat) (y:List Nat),zC [0,1,5,6,17,156,157] s=⟨[(0,.osl 0 pre.length (n+1)),(1,w),(5,zf n),(6,uc q),(17,uc c),(156,zf n),(157,zf i)],H2 qs (pre++y++post),2,2⟩∧i+k=n∧y.length=n+1∧lo 18446744073709551616 y∧c≤1∧
    bv 18446744073709551616 y+18446744073709551616^i*c=bv 18446744073709551616 y0+bv 18446744073709551616 (vs.take i))→
   ∃ex s',D P L (.loop [0,1,5,6,17,156,157] zkS) s=some (ex,s')∧∃tm c y,s'=⟨tm,H2 qs (pre++y++post),2,2⟩∧ex= .exit 4∧zc tm 0= .osl 0 pre.length (n+1)∧zc tm 5=zf n∧zc tm 6=uc q∧zc tm 17=uc c∧y.length=n+1∧lo 18446744073709551616 y∧c≤1∧
    bv 18446744073709551616 y+18446744073709551616^n*c=bv 18446744073709551616 y0+bv 18446744073709551616 vs:=by
 refine zT (I:=fun k s=>∃(i c:Nat) (y:List Nat),s=⟨[(0,.osl 0 pre.length (n+1)),(1,w),(5,zf n),(6,uc q),(17,uc c),(156,zf n),(157,zf i)],H2 qs (pre++y++post),2,2⟩∧i+k=n∧y.length=n+1∧lo 18446744073709551616 y∧c≤1∧
    bv 18446744073709551616 y+18446744073709551616^i*c=bv 18446744073709551616 y0+bv 18446744073709551616 (vs.take i))
  (Q:=fun ex s'=>∃tm c y,s'=⟨tm,H2 qs (pre++y++post),2,2⟩∧ex= .exit 4∧zc tm 0= .osl 0 pre.length (n+1)∧zc tm 5=zf n∧zc tm 6=uc q∧zc tm 17=uc c∧y.length=n+1∧lo 18446744073709551616 y∧c≤1∧
    bv 18446744073709551616 y+18446744073709551616^n*c=bv 18446744073709551616 y0+bv 18446744073709551616 vs) ?_
 rintro k s ⟨i,c,y,rfl,hk,ly,gy,hc,hval⟩;by_cases hi:i<n
 ·left
  have hb0:(0:Nat)<18446744073709551616:=by decide
  have gvi:=za9 hb0 gv i;have gyi:=za9 hb0 gy i;have ev:=hw.ixa (i:=i) (by omega);have ey:=zhj (l:=pre++y++post) (o:=pre.length+i) (by rw [zco];omega);rw [zeU (by omega)] at ey;have htk:=za4 (b:=18446744073709551616) (l:=vs) i;obtain ⟨a,ha⟩:∃a,a=vs.getD i 0:=⟨_,rfl⟩;obtain ⟨d,hd⟩:∃d,d=y.getD i 0:=⟨_,rfl⟩;rw [←ha] at gvi ev htk;rw [←hd] at gyi ey;have f1:=zgT (P:=P) (f:=D P L) h171 gyi gvi hc;have zad:=zc5 (b:=18446744073709551616) (l:=y) (i:=i) (x:=(d+a+c)%18446744073709551616) (by omega);rw [←hd] at zad;have hsp:=ze2 (18446744073709551616^i) 18446744073709551616 (d+a+c);have hc':(d+a+c)/18446744073709551616≤1:=by omega
  have hzW:(d+a+c)%18446744073709551616<18446744073709551616:=Nat.mod_lt _ hb0;generalize (d+a+c)%18446744073709551616=z at*
  generalize (d+a+c)/18446744073709551616=c' at*
  have hst:=fun (hp:Hp) (ct:Nat)=>stU (hp:=hp) (ct:=ct) (id:=0) (v:=z) (ex:=true) (l:=pre++y++post) (o:=pre.length+i) (by rw [zco];omega)
  have hmid:=zje (pre:=pre) (x:=y) (post:=post) (i:=i) z (by omega);simp only [go_sem,reduceEqDiff,Nat.mul_one,zkS,H2,show (i:Int)<(n:Int) by omega,ev,f1,zZ 0 pre.length (show i<n+1 by omega),ey,hst,hmid];refine ⟨_,k-1,rfl,by omega,i+1,c',y.set i z,?_,by omega,by simp [ly],zcu gy hzW,hc',?_⟩
  ·rw [zca (by simp only [go_sem,reduceEqDiff,reduceLT,zcv,zcT,zbD,zbi,zbh hw.pu,and_true]) (by simp only [go_sem,reduceEqDiff,reduceAdd,reduceLT,zb hw.pu])];rw [zg (by omega) (by omega)];simp only [go_sem,reduceEqDiff]<;>rfl
  ·rw [htk,Nat.pow_succ];rw [Nat.mul_add,Nat.mul_add] at hsp;generalize 18446744073709551616^i*18446744073709551616*c'=p1 at*
   generalize 18446744073709551616^i*z=p2 at*
   generalize 18446744073709551616^i*d=p3 at*
   generalize 18446744073709551616^i*a=p4 at*
   generalize 18446744073709551616^i*c=p5 at*
   omega
 ·right
  have:i=n:=by omega
  subst this;rw [List.take_of_length_le (by omega)] at hval;simp only [go_sem,reduceEqDiff,zkS,H2,show ¬(i:Int)<(i:Int) by omega];exact ⟨_,_,rfl,by simp,_,c,y,rfl,rfl,by simp only [go_sem,reduceEqDiff],by simp only [go_sem,reduceEqDiff],by simp only [go_sem,reduceEqDiff],by simp only [go_sem,reduceEqDiff],ly,gy,hc,hval⟩
end
end VE
end
