import Derived.Test.YtkhmakhdoedjiaaGreatDoorTbq
set_option linter.all false
set_option maxRecDepth 100000
open Nat (reduceAdd reduceEqDiff reduceLT reduceLeDiff)
section
namespace VE
open Go (IntKind)
theorem stD {hp:Hp} {ct id o:Nat} {v:Int} {ex:Bool} {l:List Int} (h:o<l.length):stC hp ct id o 1 [.int .i64 v] (some (.cells true true ex 1 (l.map zh)))=some (.tup [],z7 hp id (.cells true true ex 1 ((l.set o v).map zh)),ct):=by
 rw [zoo (by rfl) (by simp;omega) (by rfl)]
 have:zb6 o [AV.int .i64 v] (l.map zh)=(l.set o v).map zh:=by
  simp only [zb6,List.length_cons,List.length_nil,Nat.zero_add];rw [List.map_set,List.set_eq_take_append_cons_drop,if_pos (by simpa using h)]
  simp
 rw [this];rfl
theorem zge {l:List Int} {o:Nat} (h:o<l.length):List.drop o (l.map zh)=AV.int .i64 (l.getD o 0)::List.drop (o+1) (l.map zh):=by
 rw [List.drop_eq_getElem_cons (by simpa using h)];simp [List.getD_eq_getElem?_getD,List.getElem?_eq_getElem h]
theorem zfP {v:AV} {l:List Int} (hv:IsI v l) {i:Nat} (h:i<l.length):zdh 1 i v=some (.vptr (.int .i64 (l.getD i 0)::(l.map zh).drop (i+1))):=by
 rw [hv.ixa h];simp [List.getD_eq_getElem?_getD,List.getElem?_eq_getElem h]
theorem zx8 {o x y c:Int} (ho:0≤o∧o<1000000000) (hx:0≤x∧x<1000000000) (hy:0≤y∧y<1000000000) (hc:0≤c∧c<1000000000):
  (0≤x*y∧x*y≤999999998000000001)∧0≤o+x*y+c∧o+x*y+c<1000000000000000000:=by
 have h1:=Int.mul_nonneg hx.1 hy.1;have h2:=Int.mul_le_mul (show x≤999999999 by omega) (show y≤999999999 by omega) hy.1 (by decide);omega
section
variable {P:zN} {L:Lib}
theorem zJC {v w:AV} {a b:List Int} (hv:IsI v a) (hw:IsI w b) (ha:dg a) (hb:dg b) (la:a.length≤20000000000) (lb:b.length≤20000000000) {n i:Nat} (hn:n=a.length+b.length) (hi:i<a.length) {out0:List Int}:
  ∀k s,(∃(j:Nat) (c:Int) (out:List Int),zA [0,1,5,6,7,8] s=⟨[(0,v),(1,w),(5,.osl 0 0 n),(6,zh i),(7,zh c),(8,zh j)],[(0,.cells true true true 1 (out.map zh))],1,0⟩∧j+k=b.length∧out.length=n∧dg out∧(0≤c∧c<1000000000)∧
    dv out+1000000000^i*1000000000^j*c.toNat=dv out0+1000000000^i*((a.getD i 0).toNat*dv (b.take j))∧(∀m,i+b.length≤m→out.getD m 0=out0.getD m 0))→
   ∃ex s',D P L (.loop [0,1,5,6,7,8] zjv) s=some (ex,s')∧∃tm c out,s'=⟨tm,[(0,.cells true true true 1 (out.map zh))],1,0⟩∧ex= .exit 2∧zc tm 0=v∧zc tm 1=w∧zc tm 5= .osl 0 0 n∧zc tm 6=zh i∧zc tm 7=zh c∧out.length=n∧dg out∧(0≤c∧c<1000000000)∧
    dv out+1000000000^i*1000000000^b.length*c.toNat=dv out0+1000000000^i*((a.getD i 0).toNat*dv b)∧(∀m,i+b.length≤m→out.getD m 0=out0.getD m 0):=by
 refine zS (I:=fun k s=>∃(j:Nat) (c:Int) (out:List Int),s=⟨[(0,v),(1,w),(5,.osl 0 0 n),(6,zh i),(7,zh c),(8,zh j)],[(0,.cells true true true 1 (out.map zh))],1,0⟩∧j+k=b.length∧out.length=n∧dg out∧(0≤c∧c<1000000000)∧
    dv out+1000000000^i*1000000000^j*c.toNat=dv out0+1000000000^i*((a.getD i 0).toNat*dv (b.take j))∧(∀m,i+b.length≤m→out.getD m 0=out0.getD m 0))
  (Q:=fun ex s'=>∃tm c out,s'=⟨tm,[(0,.cells true true true 1 (out.map zh))],1,0⟩∧ex= .exit 2∧zc tm 0=v∧zc tm 1=w∧zc tm 5= .osl 0 0 n∧zc tm 6=zh i∧zc tm 7=zh c∧out.length=n∧dg out∧(0≤c∧c<1000000000)∧
    dv out+1000000000^i*1000000000^b.length*c.toNat=dv out0+1000000000^i*((a.getD i 0).toNat*dv b)∧(∀m,i+b.length≤m→out.getD m 0=out0.getD m 0)) ?_
 rintro k s ⟨j,c,out,rfl,hk,hlen,hd,hc,hval,hhi⟩;by_cases hj:j<b.length
 ·left
  obtain ⟨x,hx⟩:∃x,x=a.getD i 0:=⟨_,rfl⟩;obtain ⟨y,hy⟩:∃y,y=b.getD j 0:=⟨_,rfl⟩;obtain ⟨o,ho⟩:∃o,o=out.getD (i+j) 0:=⟨_,rfl⟩;have gx:=zbi ha i;have gy:=zbi hb j;have go':=zbi hd (i+j);rw [←hx] at gx;rw [←hy] at gy;rw [←ho] at go';obtain ⟨p1,p2,p3⟩:=zx8 go' gx gy hc;obtain ⟨t,ht⟩:∃t:Nat,o+x*y+c=t:=⟨(o+x*y+c).toNat,by omega⟩;have hr:((t:Nat):Int).tmod 1000000000=((t%1000000000:Nat):Int):=by rw [Int.tmod_eq_emod_of_nonneg (by omega)];rfl
  have hq:((t:Nat):Int).tdiv 1000000000=((t/1000000000:Nat):Int):=by rw [Int.tdiv_eq_ediv_of_nonneg (by omega)];rfl
  have e1:=zfP hv hi;have e2:=zfP hw hj;rw [←hx] at e1;rw [←hy] at e2;have e3:=zge (l:=out) (o:=i+j) (by omega);rw [←ho] at e3;have ht':t=o.toNat+x.toNat*y.toNat+c.toNat:=by
   have:((x.toNat*y.toNat:Nat):Int)=x*y:=by rw [Int.natCast_mul,Int.toNat_of_nonneg gx.1,Int.toNat_of_nonneg gy.1]
   omega
  have z7:=zoT (l:=out) (j:=i+j) (x:=((t%1000000000:Nat):Int)) (by omega);rw [←ho,Int.toNat_natCast,Nat.pow_add] at z7;have hstep:=zwI (Y:=dv (b.take j)) ht' z7 (by rw [hx];exact hval)
  simp only [go_sem,reduceEqDiff,Nat.mul_one,zjv,hw.len,show (j:Int)<b.length by omega,zy (n:=i+j) (by omega),show (i:Int)+(j:Int)=((i+j:Nat):Int) from rfl,zY 0 0 (show i+j<n by omega),Nat.zero_add,e3,e1,e2,ze (n:=x*y) (by omega) (by omega),ze (n:=o+x*y) (by omega) (by omega),ht,zy (n:=t) (by omega),zaK _ _ _ (show (1000000000:Int)≠0 by decide),zai _ _ _ (show (1000000000:Int)≠0 by decide),hr,hq,zy (n:=t/1000000000) (by omega),stD (l:=out) (o:=i+j) (by omega)];refine ⟨_,k-1,rfl,by omega,j+1,((t/1000000000:Nat):Int),out.set (i+j) ((t%1000000000:Nat):Int),?_,by omega,by simp [hlen],zmQ hd (by omega),by omega,?_,fun m hm=>?_⟩
  ·rw [ze (by omega) (by omega)];simp only [go_sem,reduceEqDiff,reduceAdd,za,zb hv.pu,zd _ hv.pu,zb hw.pu,zd _ hw.pu]<;>rfl
  ·rw [Int.toNat_natCast,zc8,Nat.pow_succ,←hx,←hy];exact hstep
  ·rw [znx (by omega)];exact hhi m hm
 ·right
  have:j=b.length:=by omega
  subst this;rw [List.take_length] at hval;simp only [go_sem,reduceEqDiff,zjv,hw.len,show ¬(b.length:Int)<b.length by omega];exact ⟨_,_,rfl,by simp,_,c,out,rfl,rfl,by simp only [go_sem,reduceEqDiff],by simp only [go_sem,reduceEqDiff],by simp only [go_sem,reduceEqDiff],by simp only [go_sem,reduceEqDiff],by simp only [go_sem,reduceEqDiff],hlen,hd,hc,hval,hhi⟩
end
end VE
end
section
namespace VE
open Go (IntKind)
theorem zgq (n:Nat):(List.replicate n [AV.int .i64 0]).flatten=(List.replicate n (0:Int)).map zh:=by
 induction n with
 | zero=>rfl
 | succ n ih=>simp only [List.replicate_succ,List.flatten_cons,ih,List.map_cons];rfl
theorem zjh (b:Bool):zwj true (some b)=some (.bool (!b)):=by cases b<;>rfl
theorem zkx (n m:Nat):(List.replicate n (0:Int)).getD m 0=0:=by
 simp [List.getD_eq_getElem?_getD,List.getElem?_replicate];split<;>rfl
section
variable {P:zN} {L:Lib}
theorem zIp {v w:AV} {a b:List Int} (hv:IsI v a) (hw:IsI w b) (ha:dg a) (hb:dg b) (la:a.length≤20000000000) (lb:b.length≤20000000000) {n:Nat} (hn:n=a.length+b.length):
  ∀k s,(∃(i:Nat) (out:List Int),zA [0,1,5,6] s=⟨[(0,v),(1,w),(5,.osl 0 0 n),(6,zh i)],[(0,.cells true true true 1 (out.map zh))],1,0⟩∧i+k=a.length∧out.length=n∧dg out∧dv out=dv (a.take i)*dv b∧(∀m,i+b.length≤m→out.getD m 0=0))→
   ∃ex s',D P L (.loop [0,1,5,6] zjE) s=some (ex,s')∧∃tm out,s'=⟨tm,[(0,.cells true true true 1 (out.map zh))],1,0⟩∧ex= .exit 0∧zc tm 5= .osl 0 0 n∧out.length=n∧dg out∧dv out=dv a*dv b:=by
 refine zS (I:=fun k s=>∃(i:Nat) (out:List Int),s=⟨[(0,v),(1,w),(5,.osl 0 0 n),(6,zh i)],[(0,.cells true true true 1 (out.map zh))],1,0⟩∧i+k=a.length∧out.length=n∧dg out∧dv out=dv (a.take i)*dv b∧(∀m,i+b.length≤m→out.getD m 0=0))
  (Q:=fun ex s'=>∃tm out,s'=⟨tm,[(0,.cells true true true 1 (out.map zh))],1,0⟩∧ex= .exit 0∧zc tm 5= .osl 0 0 n∧out.length=n∧dg out∧dv out=dv a*dv b) ?_
 rintro k s ⟨i,out,rfl,hk,hlen,hd,hval,hhi⟩;by_cases hi:i<a.length
 ·left
  simp only [go_sem,reduceEqDiff,zjE,hv.len,show (i:Int)<a.length by omega];generalize hq:D P L (.loop [0,1,5,6,7,8] zjv) _=q;obtain ⟨ex,s,rfl,tm,c,out1,rfl,rfl,t0,t1,t5,t6,t7,hlen1,hd1,hc,hval1,hhi1⟩:=z8 hq (zJC (P:=P) (L:=L) hv hw ha hb la lb hn hi (out0:=out) b.length) ⟨0,0,out,by simp only [go_sem,reduceEqDiff,reduceAdd,za,zb hv.pu,zd _ hv.pu,zb hw.pu,zd _ hw.pu]<;>rfl,by omega,hlen,hd,by omega,by simp [dv],fun m _=>rfl⟩
  have hz:out1.getD (i+b.length) 0=0:=by rw [hhi1 _ (Nat.le_refl _),hhi _ (Nat.le_refl _)]
  have e3:=zge (l:=out1) (o:=i+b.length) (by omega);rw [hz] at e3;have z7:=zoT (l:=out1) (j:=i+b.length) (x:=c) (by omega);rw [hz,Nat.pow_add] at z7
  simp only [go_sem,reduceEqDiff,Nat.mul_one,za,t0,t1,t5,t6,t7,hw.len,zb hv.pu,zd _ hv.pu,zb hw.pu,zd _ hw.pu,zy (n:=i+b.length) (by omega),show (i:Int)+(b.length:Int)=((i+b.length:Nat):Int) from rfl,zY 0 0 (show i+b.length<n by omega),Nat.zero_add,e3,Int.zero_add,ze (n:=c) (by omega) (by omega),stD (l:=out1) (o:=i+b.length) (by omega)];refine ⟨_,k-1,rfl,by omega,i+1,out1.set (i+b.length) c,?_,by omega,by simp [hlen1],zmQ hd1 hc,?_,fun m hm=>?_⟩
  ·rw [ze (by omega) (by omega)];simp only [go_sem,reduceEqDiff,reduceAdd,za,zb hv.pu,zd _ hv.pu,zb hw.pu,zd _ hw.pu]<;>rfl
  ·rw [zc8,Nat.add_mul,←hval,Nat.mul_assoc];simp only [Int.toNat_zero,Nat.mul_zero,Nat.add_zero] at z7;rw [z7];exact hval1
  ·rw [znx (by omega),hhi1 m (by omega),hhi m (by omega)]
 ·right
  have:i=a.length:=by omega
  subst this;rw [List.take_length] at hval;simp only [go_sem,reduceEqDiff,zjE,hv.len,show ¬(a.length:Int)<a.length by omega];exact ⟨_,_,rfl,by simp,_,out,rfl,rfl,by simp only [go_sem,reduceEqDiff],hlen,hd,hval⟩
theorem zN2 (h:Has P L 293 zoV) (h300:Has P L 300 ziW) {v w:AV} {a b:List Int} (hv:IsI v a) (hw:IsI w b) (ha:dg a) (hb:dg b) (la:a.length≤8000000000) (lb:b.length≤8000000000):
  ∃r out,zK P L 293 [v,w] r∧IsI r out∧shut r=r∧dg out∧nz out∧dv out=dv a*dv b:=by
 obtain ⟨n,hn⟩:∃n,n=a.length+b.length:=⟨_,rfl⟩;have hmk:∀ct:Nat,znZ ct 1 8 [.int .i64 0] (some n) (some n)=some (.osl ct 0 n,.cells true true true 1 ((List.replicate n (0:Int)).map zh)):=fun ct=>by
  rw [zm0 (sz:=1) (by omega) (by omega) (by rfl) (by rfl),zgq];rfl
 unfold zK;rw [zf h]
 simp only [go_sem,reduceEqDiff,reduceAdd,zoV,hv.len,hw.len,zy (n:=n) (by omega),show (a.length:Int)+(b.length:Int)=((a.length+b.length:Nat):Int) from rfl,←hn,hmk];generalize hq:D P L (.loop [0,1,5,6] zjE) _=q;obtain ⟨ex,s,rfl,tm,out,rfl,rfl,t5,hlen,hd,hval⟩:=z8 hq (zIp (P:=P) (L:=L) hv hw ha hb (by omega) (by omega) hn a.length) ⟨0,List.replicate n 0,by simp only [go_sem,reduceEqDiff,reduceAdd,za,zb hv.pu,zd _ hv.pu,zb hw.pu,zd _ hw.pu]<;>rfl,by omega,by simp,znb n,by rw [znI];simp [dv],fun m _=>zkx n m⟩
 have hfz:=zcd true out;rw [hlen] at hfz;obtain ⟨r,e1,hr,hsh⟩:=zu6 h300 hfz (by omega);unfold zK at e1;refine ⟨r,zaR out,?_,hr,hsh,zdT hd,zgY out,by rw [zd3];exact hval⟩
 have hfr:∀hp:Hp,zgw 0 n (some (true,1,out.map zh,hp))=some (.vsl true n (out.map zh),hp):=fun hp=>zdY true (by simp [hlen]) (by decide)
 simp only [go_sem,reduceAdd,za,t5,hfr,e1,hsh,hr.res]
end
end VE
end
section
namespace VE
open Go (IntKind)
theorem zBt (i:Nat) (q:List Int) (x:Int):(List.replicate (i+1) (0:Int)++q).set i x=List.replicate i 0++x::q:=by
 rw [List.replicate_succ',List.append_assoc,List.set_append_right _ _ (by simp)]
 simp
section
variable {P:zN} {L:Lib}
theorem zDS {v:AV} {a:List Int} (hv:IsI v a) (ha:dg a) (la:a.length≤20000000000) {d:Nat} (h0:0<d) (h1:d<1000000000):
  ∀k s,(∃(j r:Nat) (q:List Int),zA [0,1,6,7,8] s=⟨[(0,v),(1,zh d),(6,.osl 0 0 a.length),(7,zh r),(8,zh ((j:Int)-1))],[(0,.cells true true true 1 ((List.replicate j (0:Int)++q).map zh))],1,0⟩∧j=k∧j+q.length=a.length∧r<d∧dg q∧dv (a.drop j)=d*dv q+r)→
   ∃ex s',D P L (.loop [0,1,6,7,8] zkf) s=some (ex,s')∧∃tm r q,s'=⟨tm,[(0,.cells true true true 1 (q.map zh))],1,0⟩∧ex= .exit 0∧zc tm 6= .osl 0 0 a.length∧zc tm 7=zh (r:Nat)∧q.length=a.length∧r<d∧dg q∧dv a=d*dv q+r:=by
 refine zS (I:=fun k s=>∃(j r:Nat) (q:List Int),s=⟨[(0,v),(1,zh d),(6,.osl 0 0 a.length),(7,zh r),(8,zh ((j:Int)-1))],[(0,.cells true true true 1 ((List.replicate j (0:Int)++q).map zh))],1,0⟩∧j=k∧j+q.length=a.length∧r<d∧dg q∧dv (a.drop j)=d*dv q+r)
  (Q:=fun ex s'=>∃tm r q,s'=⟨tm,[(0,.cells true true true 1 (q.map zh))],1,0⟩∧ex= .exit 0∧zc tm 6= .osl 0 0 a.length∧zc tm 7=zh (r:Nat)∧q.length=a.length∧r<d∧dg q∧dv a=d*dv q+r) ?_
 rintro k s ⟨j,r,q,rfl,rfl,hl,hr,hd,hval⟩
 cases j with
 | zero=>
  right
  simp only [go_sem,reduceEqDiff,zkf,show ¬(0:Int)≤((0:Nat):Int)-1 by omega];exact ⟨_,_,rfl,by simp,_,r,q,rfl,rfl,by simp only [go_sem,reduceEqDiff],by simp only [go_sem,reduceEqDiff],by omega,hr,hd,hval⟩
 | succ i=>
  left
  have hi:i<a.length:=by omega
  obtain ⟨x,hx⟩:∃x,x=a.getD i 0:=⟨_,rfl⟩;have e1:=zfP hv hi;have gx:=zbi ha i;rw [←hx] at e1 gx;obtain ⟨t,ht⟩:∃t:Nat,t=r*1000000000+x.toNat:=⟨_,rfl⟩;have ht':(r:Int)*1000000000+x=(t:Int):=by omega
  have htb:t<d*1000000000:=by
   have:(r+1)*1000000000≤d*1000000000:=Nat.mul_le_mul_right _ hr
   rw [Nat.add_mul] at this;omega
  have hq1:t/d<1000000000:=(Nat.div_lt_iff_lt_mul h0).2 (by rw [Nat.mul_comm];exact htb)
  have hr1:t%d<d:=Nat.mod_lt _ h0;have e2:((t:Nat):Int).tdiv d=((t/d:Nat):Int):=by rw [Int.tdiv_eq_ediv_of_nonneg (by omega)];rfl
  have e3:((t:Nat):Int).tmod d=((t%d:Nat):Int):=by rw [Int.tmod_eq_emod_of_nonneg (by omega)];rfl
  have hlr:(List.replicate (i+1) (0:Int)++q).length=a.length:=by simp;omega
  have hst:=fun (hp:Hp) (ct id:Nat) (ex:Bool)=>stD (hp:=hp) (ct:=ct) (id:=id) (ex:=ex) (v:=((t/d:Nat):Int)) (l:=List.replicate (i+1) (0:Int)++q) (o:=i) (by rw [hlr];exact hi)
  simp only [zBt] at hst
  simp only [go_sem,reduceEqDiff,Nat.mul_one,zkf,show ((i+1:Nat):Int)-1=(i:Int) by omega,show (0:Int)≤(i:Int) by omega,ze (n:=(r:Int)*1000000000) (by omega) (by omega),e1,ht',zy (n:=t) (by omega),zai _ _ _ (show (d:Int)≠0 by omega),zaK _ _ _ (show (d:Int)≠0 by omega),e2,e3,zy (n:=t/d) (by omega),zY 0 0 (show i<a.length from hi),Nat.zero_add,hst]
  refine ⟨_,i,rfl,by omega,i,t%d,((t/d:Nat):Int)::q,?_,rfl,by simp;omega,hr1,(dg_append (a:=[((t/d:Nat):Int)]) (b:=q)).2 ⟨dg_one.2 ⟨Int.natCast_nonneg _,Int.ofNat_lt.2 hq1⟩,hd⟩,?_⟩
  ·rw [ze (by omega) (by omega)];simp only [go_sem,reduceEqDiff,reduceAdd,za,zb hv.pu,zd _ hv.pu]<;>rfl
  ·have hdr:a.drop i=x::a.drop (i+1):=by
    rw [List.drop_eq_getElem_cons hi,hx];simp [List.getD_eq_getElem?_getD,List.getElem?_eq_getElem hi]
   rw [hdr];simp only [dv,hval,Int.toNat_natCast];have e:=Nat.div_add_mod t d;rw [Nat.mul_add,Nat.mul_add d,Nat.mul_left_comm 1000000000 d];omega
theorem zOq (h:Has P L 299 znz) (h300:Has P L 300 ziW) {v:AV} {a:List Int} (hv:IsI v a) (ha:dg a) (la:a.length≤20000000000) {d:Nat} (h0:0<d) (h1:d<1000000000):
  ∃r q,zK P L 299 [v,zh d] (.tup [r,zh (dv a%d:Nat)])∧IsI r q∧shut r=r∧shut1 r=r∧dg q∧nz q∧dv q=dv a/d:=by
 obtain ⟨n,hn⟩:∃n,n=a.length:=⟨_,rfl⟩;have hmk:∀ct:Nat,znZ ct 1 8 [.int .i64 0] (some n) (some n)=some (.osl ct 0 n,.cells true true true 1 ((List.replicate n (0:Int)).map zh)):=fun ct=>by
  rw [zm0 (sz:=1) (by omega) (by omega) (by rfl) (by rfl),zgq];rfl
 unfold zK;rw [zf h];simp only [go_sem,reduceEqDiff,reduceAdd,znz,hv.len,←hn,hmk];generalize hq:D P L (.loop [0,1,6,7,8] zkf) _=q;obtain ⟨ex,s,rfl,tm,r,qs,rfl,rfl,t6,t7,hlen,hr,hd,hval⟩:=z8 hq (zDS (P:=P) (L:=L) hv ha la h0 h1 a.length) ⟨a.length,0,[],by
  rw [ze (by omega) (by omega),List.append_nil,←hn]
  simp only [go_sem,reduceEqDiff,reduceAdd,za,zb hv.pu,zd _ hv.pu]<;>rfl,rfl,by simp,h0,rfl,by rw [List.drop_eq_nil_of_le (Nat.le_refl _)];simp [dv]⟩
 have hfz:=zcd true qs;rw [hlen] at hfz;obtain ⟨w,e1,hw,hsh⟩:=zu6 h300 hfz (by omega);unfold zK at e1;have hdm:dv a/d=dv qs∧dv a%d=r:=(Nat.div_mod_unique h0).2 ⟨by omega,hr⟩;refine ⟨w,zaR qs,?_,hw,hsh,hw.shut1,zdT hd,zgY qs,by rw [zd3,hdm.1]⟩;have hfr:∀hp:Hp,zgw 0 a.length (some (true,1,qs.map zh,hp))=some (.vsl true a.length (qs.map zh),hp):=fun hp=>zdY true (by simp [hlen]) (by decide)
 rw [hdm.2];simp only [go_sem,reduceEqDiff,reduceAdd,za,t6,t7,hfr,e1,hsh];rcases hw with ⟨rfl,_⟩ | ⟨e,rfl⟩<;>rfl
end
end VE
end
section
namespace VE
open Go (IntKind)
section
variable {P:zN} {L:Lib}
theorem zB1 {l:List Int} (hd:dg l) (hn:nz l) (h:dv l<1000000000):l.length≤1:=zem hd hn (by simpa using h)
theorem zPL (h:Has P L 289 zla) (h296:Has P L 296 zmp) (h299:Has P L 299 znz) (h300:Has P L 300 ziW) {v w:AV} {a b:List Int} (hv:IsI v a) (hw:IsI w b) (ha:dg a) (hb:dg b) (na:nz a) (nb:nz b) (la:a.length≤20000000000) (lb:b.length≤1) (h0:0<dv b):
  ∃q r lq lr,zK P L 289 [v,w] (.tup [q,r])∧IsI q lq∧IsI r lr∧dg lq∧nz lq∧dg lr∧nz lr∧dv lq=dv a/dv b∧dv lr=dv a%dv b:=by
 have ec:=zMG h296 hv hw ha hb na nb la (by omega);unfold zK at ec;by_cases hc:dv a<dv b
 ·have hc1:zbS (dv a) (dv b)= -1:=by unfold zbS;rw [if_pos hc]
  rw [hc1] at ec;refine ⟨.nils,v,[],a,?_,zeL,hv,rfl,rfl,ha,na,?_,?_⟩
  ·unfold zK;rw [zf h];simp only [go_sem,reduceEqDiff,zla,hv.frz,hw.frz,ec,show (-1:Int)<0 by decide];rcases hv with ⟨rfl,_⟩ | ⟨e,rfl⟩<;>rfl
  ·rw [Nat.div_eq_of_lt hc];rfl
  ·rw [Nat.mod_eq_of_lt hc]
 ·have hc1:¬zbS (dv a) (dv b)<0:=by unfold zbS;rw [if_neg hc];split<;>decide
  have hl1:b.length=1:=by
   rcases Nat.eq_zero_or_pos b.length with e | e
   ·rw [List.eq_nil_of_length_eq_zero e] at h0;simp [dv] at h0
   ·omega
  obtain ⟨x,rfl⟩:∃x,b=[x]:=by
   cases b with
   | nil=>simp at hl1
   | cons x r=>cases r with
    | nil=>exact ⟨x,rfl⟩
    | cons y r=>simp at hl1
  have gx:=dg_one.1 hb;obtain ⟨d,hd⟩:∃d:Nat,x=d:=⟨x.toNat,by omega⟩;subst hd;have hdd:dv [((d:Nat):Int)]=d:=by simp [dv]
  rw [hdd] at h0 hc hc1 ec ⊢;obtain ⟨q,lq,e1,hq,hqs,hqs1,dq,nq,vq⟩:=zOq h299 h300 hv ha la h0 (by omega);have hrest:dv a%d<d:=Nat.mod_lt _ h0;generalize dv a%d=m at*
  obtain ⟨r,e2,hr,hrs⟩:=zu6 h300 (zcd true [(m:Int)]) (by simp);unfold zK at e1 e2;refine ⟨q,r,lq,zaR [(m:Int)],?_,hq,hr,dq,nq,zdT (dg_one.2 (by omega)),zgY _,vq,by rw [zd3];simp [dv]⟩;have e3:=hw.ixa (i:=0) (by simp);simp only [List.length_cons,List.length_nil,Nat.zero_add,List.map_cons,List.map_nil,List.getElem_cons_zero] at e2 e3;unfold zK;rw [zf h];simp only [go_sem,reduceEqDiff,reduceAdd,reduceLT,reduceLeDiff,Nat.mul_one,zla,hv.frz,hw.len,hw.frz,ec,hc1,List.length_cons,List.length_nil,show ((1:Nat):Int)=(1:Int) from rfl,decide_true,e3,e1,hqs1,e2,hrs];rcases hq with ⟨rfl,_⟩ | ⟨e,rfl⟩<;>rcases hr with ⟨rfl,_⟩ | ⟨e',rfl⟩<;>rfl
end
end VE
end
