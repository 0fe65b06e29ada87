import Derived.Test.YtknmjihnfgolpaaGreatDoorTbs
set_option linter.all false
set_option maxRecDepth 100000
open Nat (reduceAdd reduceEqDiff reduceLT reduceLeDiff reduceMul)
section
namespace VE
open Go (IntKind)
section
variable {P:zU} {L:Lib}
theorem zHz (h302:Has P L 302 zll) {v w:AV} {a b:List Int} (hv:IsI v a) (hw:IsI w b) (ha:dg a) (hb:dg b) (la:a.length≤20000000000) (hle:dv b≤dv a) (hbl:b.length≤a.length):
  ∀k s,(∃(i c:Nat) (out:List Int),i+k=a.length∧out.length=i∧c≤1∧dg out∧dv out+dv (b.take i)=dv (a.take i)+1000000000^i*c∧
    ((i=0∧zC [0,1,5,6,7] s=⟨[(0,v),(1,w),(5,.nils),(6,zf c),(7,zf i)],[],0,0⟩)∨
    (0<i∧zC [0,1,5,6,7] s=⟨[(0,v),(1,w),(5,.osl 0 0 i),(6,zf c),(7,zf i)],[(0,.cells true true false 1 (out.map zf))],1,0⟩)))→
   ∃ex s',D P L (.loop [0,1,5,6,7] zey) s=some (ex,s')∧∃tm out,ex= .exit 0∧dg out∧dv out+dv b=dv a∧out.length≤20000000000∧((out=[]∧zc tm 5= .nils∧s'=⟨tm,[],0,0⟩)∨(0<out.length∧zc tm 5= .osl 0 0 out.length∧s'=⟨tm,[(0,.cells true true false 1 (out.map zf))],1,0⟩)):=by
 refine zT (I:=fun k s=>∃(i c:Nat) (out:List Int),i+k=a.length∧out.length=i∧c≤1∧dg out∧dv out+dv (b.take i)=dv (a.take i)+1000000000^i*c∧
    ((i=0∧s=⟨[(0,v),(1,w),(5,.nils),(6,zf c),(7,zf i)],[],0,0⟩)∨
    (0<i∧s=⟨[(0,v),(1,w),(5,.osl 0 0 i),(6,zf c),(7,zf i)],[(0,.cells true true false 1 (out.map zf))],1,0⟩)))
  (Q:=fun ex s'=>∃tm out,ex= .exit 0∧dg out∧dv out+dv b=dv a∧out.length≤20000000000∧((out=[]∧zc tm 5= .nils∧s'=⟨tm,[],0,0⟩)∨(0<out.length∧zc tm 5= .osl 0 0 out.length∧s'=⟨tm,[(0,.cells true true false 1 (out.map zf))],1,0⟩))) ?_
 rintro k s ⟨i,c,out,hk,hlen,hc,hdg,hval,hs⟩;have e2:=zE4 h302 hw i;unfold zF at e2;have ga:=zbf ha i;have gb:=zbf hb i;by_cases hgo:i<a.length
 ·left
  obtain ⟨x,hx⟩:∃x,x=a.getD i 0:=⟨_,rfl⟩;obtain ⟨y,hy⟩:∃y,y=b.getD i 0:=⟨_,rfl⟩;have hx':a[i]=x:=by rw [hx];simp [List.getD_eq_getElem?_getD,List.getElem?_eq_getElem hgo]
  have e1:=hv.ixa hgo;rw [hx'] at e1;rw [←hx] at ga;rw [←hy] at e2 gb;obtain ⟨z,c',hz,hc',hz0,hz1,hcase⟩:∃(z:Int) (c':Nat),z=x-y-c+1000000000*c'∧c'≤1∧0≤z∧z<1000000000∧((x-y-c<0∧c'=1)∨(¬x-y-c<0∧c'=0)):=by
   by_cases h:x-y-c<0
   ·exact ⟨x-y-c+1000000000,1,by omega,by omega,by omega,by omega,.inl ⟨h,rfl⟩⟩
   ·exact ⟨x-y-c,0,by omega,by omega,by omega,by omega,.inr ⟨h,rfl⟩⟩
  have hstep:=zvU hx hy ga.1 gb.1 hz0 hz hlen hval;have hdg':dg (out++[z]):=dg_append.2 ⟨hdg,dg_one.2 ⟨hz0,hz1⟩⟩;have hlen':(out++[z]).length=i+1:=by simp [hlen]
  have fin:∃s',D P L zey s=some (.normal,s')∧zC [0,1,5,6,7] s'=⟨[(0,v),(1,w),(5,.osl 0 0 (i+1)),(6,zf c'),(7,zf (i+1:Nat))],[(0,.cells true true false 1 ((out++[z]).map zf))],1,0⟩:=by
   rcases hcase with ⟨hneg,rfl⟩ | ⟨hneg,rfl⟩
   ·have hz':x-y-c+1000000000=z:=by omega
    rcases hs with ⟨h0,rfl⟩ | ⟨h0,rfl⟩
    ·subst h0;have hnil:out=[]:=List.eq_nil_of_length_eq_zero hlen;subst hnil
     simp only [go_sem,reduceEqDiff,reduceAdd,reduceMul,reduceLT,reduceLeDiff,Nat.mul_one,zey,hv.len,hw.frz,show ((0:Nat):Int)<a.length by omega,e1,e2,zg (n:=x-y) (by omega) (by omega),zg (n:=x-y-(c:Int)) (by omega) (by omega),hneg,hz',zg (n:=z) (by omega) (by omega),zby];refine ⟨_,rfl,?_⟩;rw [zg (by omega) (by omega)];simp only [go_sem,reduceEqDiff,reduceAdd,za,zb hv.pu,ze _ hv.pu,zb hw.pu,ze _ hw.pu]<;>rfl
    ·simp only [go_sem,reduceEqDiff,reduceAdd,reduceLeDiff,Nat.mul_one,zey,hv.len,hw.frz,show (i:Int)<a.length by omega,e1,e2,zg (n:=x-y) (by omega) (by omega),zg (n:=x-y-(c:Int)) (by omega) (by omega),hneg,hz',zg (n:=z) (by omega) (by omega)]
     rw [zbZ (ex:=false) (pu:=true) (cs:=out.map zf) (by simp only [go_sem,reduceEqDiff]) (by rw [List.length_map,hlen,Nat.mul_one]) (by omega) (by omega) (by decide) (by simp only [go_sem])];simp only [go_sem,reduceEqDiff,reduceAdd];refine ⟨_,rfl,?_⟩;rw [zg (by omega) (by omega),List.map_append];simp only [go_sem,reduceEqDiff,reduceAdd,za,zb hv.pu,ze _ hv.pu,zb hw.pu,ze _ hw.pu]<;>rfl
   ·have hz':x-y-c=z:=by omega
    have hneg:¬z<0:=by omega
    rcases hs with ⟨h0,rfl⟩ | ⟨h0,rfl⟩
    ·subst h0;have hnil:out=[]:=List.eq_nil_of_length_eq_zero hlen;subst hnil
     simp only [go_sem,reduceEqDiff,reduceAdd,reduceMul,reduceLT,reduceLeDiff,Nat.mul_one,zey,hv.len,hw.frz,show ((0:Nat):Int)<a.length by omega,e1,e2,zg (n:=x-y) (by omega) (by omega),hz',zg (n:=z) (by omega) (by omega),hneg,zby];refine ⟨_,rfl,?_⟩;rw [zg (by omega) (by omega)];simp only [go_sem,reduceEqDiff,reduceAdd,za,zb hv.pu,ze _ hv.pu,zb hw.pu,ze _ hw.pu]<;>rfl
    ·simp only [go_sem,reduceEqDiff,reduceAdd,reduceLeDiff,Nat.mul_one,zey,hv.len,hw.frz,show (i:Int)<a.length by omega,e1,e2,zg (n:=x-y) (by omega) (by omega),hz',zg (n:=z) (by omega) (by omega),hneg]
     rw [zbZ (ex:=false) (pu:=true) (cs:=out.map zf) (by simp only [go_sem,reduceEqDiff]) (by rw [List.length_map,hlen,Nat.mul_one]) (by omega) (by omega) (by decide) (by simp only [go_sem])];simp only [go_sem,reduceEqDiff,reduceAdd];refine ⟨_,rfl,?_⟩;rw [zg (by omega) (by omega),List.map_append];simp only [go_sem,reduceEqDiff,reduceAdd,za,zb hv.pu,ze _ hv.pu,zb hw.pu,ze _ hw.pu]<;>rfl
  obtain ⟨s',f1,f2⟩:=fin;exact ⟨s',k-1,f1,by omega,i+1,c',_,by omega,hlen',hc',hdg',hstep,.inr ⟨by omega,f2⟩⟩
 ·right
  have hi:i=a.length:=by omega
  have hval0:dv out+dv b=dv a:=by
   rw [List.take_of_length_le (by omega),List.take_of_length_le (by omega)] at hval;have hlt:=zcO hdg;rw [hlen] at hlt;rcases (show c=0∨c=1 by omega) with rfl | rfl
   ·omega
   ·omega
  rcases hs with ⟨h0,rfl⟩ | ⟨h0,rfl⟩
  ·simp only [go_sem,reduceEqDiff,zey,hv.len,show ¬(i:Int)<a.length by omega];exact ⟨_,_,rfl,by simp,_,out,rfl,hdg,hval0,by omega,.inl ⟨List.eq_nil_of_length_eq_zero (by omega),by simp only [go_sem,reduceEqDiff],rfl⟩⟩
  ·simp only [go_sem,reduceEqDiff,zey,hv.len,show ¬(i:Int)<a.length by omega];exact ⟨_,_,rfl,by simp,_,out,rfl,hdg,hval0,by omega,.inr ⟨by omega,by rw [hlen];simp only [go_sem,reduceEqDiff],rfl⟩⟩
theorem zNJ (h:Has P L 297 zyd) (h302:Has P L 302 zll) (h300:Has P L 300 zgc) {v w:AV} {a b:List Int} (hv:IsI v a) (hw:IsI w b) (ha:dg a) (hb:dg b) (na:nz a) (nb:nz b) (la:a.length≤20000000000) (hle:dv b≤dv a):
  ∃r out,zF P L 297 [v,w] r∧IsI r out∧shut r=r∧dg out∧nz out∧dv out+dv b=dv a:=by
 have hbl:b.length≤a.length:=by
  by_cases h:a.length<b.length
  ·have:=zp0 ha nb hb h;omega
  ·omega
 unfold zF;rw [zd h];simp only [go_sem,zyd];generalize hq:D P L (.loop [0,1,5,6,7] zey) _=q;obtain ⟨ex,s,rfl,tm,out,rfl,hd,hval,hl,hs⟩:=zae hq (zHz (P:=P) (L:=L) h302 hv hw ha hb la hle hbl a.length) ⟨0,0,[],by omega,rfl,by omega,rfl,by simp [dv],.inl ⟨rfl,by simp only [go_sem,reduceEqDiff,za,zb hv.pu,ze _ hv.pu,zb hw.pu,ze _ hw.pu]<;>rfl⟩⟩
 have hfz:=zbJ false out;rcases hs with ⟨h0,h5,rfl⟩ | ⟨h0,h5,rfl⟩
 ·subst h0;obtain ⟨r,e1,hr,hsh⟩:=znI h300 (v:= .nils) (l:=[]) zd7 (by simp);unfold zF at e1;refine ⟨r,zaT [],?_,hr,hsh,rfl,rfl,by rw [zcK];exact hval⟩
  simp only [go_sem,za,h5,e1,hsh,hr.res]
 ·obtain ⟨r,e1,hr,hsh⟩:=znI h300 hfz hl;unfold zF at e1;refine ⟨r,zaT out,?_,hr,hsh,zdr hd,zfU out,by rw [zcK];exact hval⟩
  have hfr:∀hp:Hp,zgb 0 out.length (some (false,1,out.map zf,hp))=some (.vsl false out.length (out.map zf),hp):=fun hp=>zdq false (by simp) (by decide)
  simp only [go_sem,reduceAdd,za,h5,hfr,e1,hsh,hr.res]
end
end VE
end
section
namespace VE
open Go (IntKind)
theorem stD {hp:Hp} {ct id o:Nat} {v:Int} {ex:Bool} {l:List Int} (h:o<l.length):stC hp ct id o 1 [.int .i64 v] (some (.cells true true ex 1 (l.map zf)))=some (.tup [],zad hp id (.cells true true ex 1 ((l.set o v).map zf)),ct):=by
 rw [zn8 (by rfl) (by simp;omega) (by rfl)]
 have:zck o [AV.int .i64 v] (l.map zf)=(l.set o v).map zf:=by
  simp only [zck,List.length_cons,List.length_nil,Nat.zero_add];rw [List.map_set,List.set_eq_take_append_cons_drop,if_pos (by simpa using h)]
  simp
 rw [this];rfl
theorem zgq {l:List Int} {o:Nat} (h:o<l.length):List.drop o (l.map zf)=AV.int .i64 (l.getD o 0)::List.drop (o+1) (l.map zf):=by
 rw [List.drop_eq_getElem_cons (by simpa using h)];simp [List.getD_eq_getElem?_getD,List.getElem?_eq_getElem h]
theorem zfL {v:AV} {l:List Int} (hv:IsI v l) {i:Nat} (h:i<l.length):zdl 1 i v=some (.vptr (.int .i64 (l.getD i 0)::(l.map zf).drop (i+1))):=by
 rw [hv.ixa h];simp [List.getD_eq_getElem?_getD,List.getElem?_eq_getElem h]
theorem zwh {o x y c:Int} (ho:0≤o∧o<1000000000) (hx:0≤x∧x<1000000000) (hy:0≤y∧y<1000000000) (hc:0≤c∧c<1000000000):
  (0≤x*y∧x*y≤999999998000000001)∧0≤o+x*y+c∧o+x*y+c<1000000000000000000:=by
 have h1:=Int.mul_nonneg hx.1 hy.1;have h2:=Int.mul_le_mul (show x≤999999999 by omega) (show y≤999999999 by omega) hy.1 (by decide);omega
section
variable {P:zU} {L:Lib}
theorem zMp {v w:AV} {a b:List Int} (hv:IsI v a) (hw:IsI w b) (ha:dg a) (hb:dg b) (la:a.length≤20000000000) (lb:b.length≤20000000000) {n i:Nat} (hn:n=a.length+b.length) (hi:i<a.length) {out0:List Int}:
  ∀k s,(∃(j:Nat) (c:Int) (out:List Int),zC [0,1,5,6,7,8] s=⟨[(0,v),(1,w),(5,.osl 0 0 n),(6,zf i),(7,zf c),(8,zf j)],[(0,.cells true true true 1 (out.map zf))],1,0⟩∧j+k=b.length∧out.length=n∧dg out∧(0≤c∧c<1000000000)∧
    dv out+1000000000^i*1000000000^j*c.toNat=dv out0+1000000000^i*((a.getD i 0).toNat*dv (b.take j))∧(∀m,i+b.length≤m→out.getD m 0=out0.getD m 0))→
   ∃ex s',D P L (.loop [0,1,5,6,7,8] zk2) s=some (ex,s')∧∃tm c out,s'=⟨tm,[(0,.cells true true true 1 (out.map zf))],1,0⟩∧ex= .exit 2∧zc tm 0=v∧zc tm 1=w∧zc tm 5= .osl 0 0 n∧zc tm 6=zf i∧zc tm 7=zf c∧out.length=n∧dg out∧(0≤c∧c<1000000000)∧
    dv out+1000000000^i*1000000000^b.length*c.toNat=dv out0+1000000000^i*((a.getD i 0).toNat*dv b)∧(∀m,i+b.length≤m→out.getD m 0=out0.getD m 0):=by
 refine zT (I:=fun k s=>∃(j:Nat) (c:Int) (out:List Int),s=⟨[(0,v),(1,w),(5,.osl 0 0 n),(6,zf i),(7,zf c),(8,zf j)],[(0,.cells true true true 1 (out.map zf))],1,0⟩∧j+k=b.length∧out.length=n∧dg out∧(0≤c∧c<1000000000)∧
    dv out+1000000000^i*1000000000^j*c.toNat=dv out0+1000000000^i*((a.getD i 0).toNat*dv (b.take j))∧(∀m,i+b.length≤m→out.getD m 0=out0.getD m 0))
  (Q:=fun ex s'=>∃tm c out,s'=⟨tm,[(0,.cells true true true 1 (out.map zf))],1,0⟩∧ex= .exit 2∧zc tm 0=v∧zc tm 1=w∧zc tm 5= .osl 0 0 n∧zc tm 6=zf i∧zc tm 7=zf c∧out.length=n∧dg out∧(0≤c∧c<1000000000)∧
    dv out+1000000000^i*1000000000^b.length*c.toNat=dv out0+1000000000^i*((a.getD i 0).toNat*dv b)∧(∀m,i+b.length≤m→out.getD m 0=out0.getD m 0)) ?_
 rintro k s ⟨j,c,out,rfl,hk,hlen,hd,hc,hval,hhi⟩;by_cases hj:j<b.length
 ·left
  obtain ⟨x,hx⟩:∃x,x=a.getD i 0:=⟨_,rfl⟩;obtain ⟨y,hy⟩:∃y,y=b.getD j 0:=⟨_,rfl⟩;obtain ⟨o,ho⟩:∃o,o=out.getD (i+j) 0:=⟨_,rfl⟩;have gx:=zbf ha i;have gy:=zbf hb j;have go':=zbf hd (i+j);rw [←hx] at gx;rw [←hy] at gy;rw [←ho] at go';obtain ⟨p1,p2,p3⟩:=zwh go' gx gy hc;obtain ⟨t,ht⟩:∃t:Nat,o+x*y+c=t:=⟨(o+x*y+c).toNat,by omega⟩;have hr:((t:Nat):Int).tmod 1000000000=((t%1000000000:Nat):Int):=by rw [Int.tmod_eq_emod_of_nonneg (by omega)];rfl
  have hq:((t:Nat):Int).tdiv 1000000000=((t/1000000000:Nat):Int):=by rw [Int.tdiv_eq_ediv_of_nonneg (by omega)];rfl
  have e1:=zfL hv hi;have e2:=zfL hw hj;rw [←hx] at e1;rw [←hy] at e2;have e3:=zgq (l:=out) (o:=i+j) (by omega);rw [←ho] at e3;have ht':t=o.toNat+x.toNat*y.toNat+c.toNat:=by
   have:((x.toNat*y.toNat:Nat):Int)=x*y:=by rw [Int.natCast_mul,Int.toNat_of_nonneg gx.1,Int.toNat_of_nonneg gy.1]
   omega
  have zad:=zpd (l:=out) (j:=i+j) (x:=((t%1000000000:Nat):Int)) (by omega);rw [←ho,Int.toNat_natCast,Nat.pow_add] at zad;have hstep:=zyI (Y:=dv (b.take j)) ht' zad (by rw [hx];exact hval)
  simp only [go_sem,reduceEqDiff,Nat.mul_one,zk2,hw.len,show (j:Int)<b.length by omega,zB (n:=i+j) (by omega),show (i:Int)+(j:Int)=((i+j:Nat):Int) from rfl,zZ 0 0 (show i+j<n by omega),Nat.zero_add,e3,e1,e2,zg (n:=x*y) (by omega) (by omega),zg (n:=o+x*y) (by omega) (by omega),ht,zB (n:=t) (by omega),zaO _ _ _ (show (1000000000:Int)≠0 by decide),zaC _ _ _ (show (1000000000:Int)≠0 by decide),hr,hq,zB (n:=t/1000000000) (by omega),stD (l:=out) (o:=i+j) (by omega)];refine ⟨_,k-1,rfl,by omega,j+1,((t/1000000000:Nat):Int),out.set (i+j) ((t%1000000000:Nat):Int),?_,by omega,by simp [hlen],zmI hd (by omega),by omega,?_,fun m hm=>?_⟩
  ·rw [zg (by omega) (by omega)];simp only [go_sem,reduceEqDiff,reduceAdd,za,zb hv.pu,ze _ hv.pu,zb hw.pu,ze _ hw.pu]<;>rfl
  ·rw [Int.toNat_natCast,zcp,Nat.pow_succ,←hx,←hy];exact hstep
  ·rw [zov (by omega)];exact hhi m hm
 ·right
  have:j=b.length:=by omega
  subst this;rw [List.take_length] at hval;simp only [go_sem,reduceEqDiff,zk2,hw.len,show ¬(b.length:Int)<b.length by omega];exact ⟨_,_,rfl,by simp,_,c,out,rfl,rfl,by simp only [go_sem,reduceEqDiff],by simp only [go_sem,reduceEqDiff],by simp only [go_sem,reduceEqDiff],by simp only [go_sem,reduceEqDiff],by simp only [go_sem,reduceEqDiff],hlen,hd,hc,hval,hhi⟩
end
end VE
end
section
namespace VE
open Go (IntKind)
theorem zgt (n:Nat):(List.replicate n [AV.int .i64 0]).flatten=(List.replicate n (0:Int)).map zf:=by
 induction n with
 | zero=>rfl
 | succ n ih=>simp only [List.replicate_succ,List.flatten_cons,ih,List.map_cons];rfl
theorem zBM (b:Bool):zxV true (some b)=some (.bool (!b)):=by cases b<;>rfl
theorem zkZ (n m:Nat):(List.replicate n (0:Int)).getD m 0=0:=by
 simp [List.getD_eq_getElem?_getD,List.getElem?_replicate];split<;>rfl
section
variable {P:zU} {L:Lib}
theorem zHr {v w:AV} {a b:List Int} (hv:IsI v a) (hw:IsI w b) (ha:dg a) (hb:dg b) (la:a.length≤20000000000) (lb:b.length≤20000000000) {n:Nat} (hn:n=a.length+b.length):
  ∀k s,(∃(i:Nat) (out:List Int),zC [0,1,5,6] s=⟨[(0,v),(1,w),(5,.osl 0 0 n),(6,zf i)],[(0,.cells true true true 1 (out.map zf))],1,0⟩∧i+k=a.length∧out.length=n∧dg out∧dv out=dv (a.take i)*dv b∧(∀m,i+b.length≤m→out.getD m 0=0))→
   ∃ex s',D P L (.loop [0,1,5,6] zjB) s=some (ex,s')∧∃tm out,s'=⟨tm,[(0,.cells true true true 1 (out.map zf))],1,0⟩∧ex= .exit 0∧zc tm 5= .osl 0 0 n∧out.length=n∧dg out∧dv out=dv a*dv b:=by
 refine zT (I:=fun k s=>∃(i:Nat) (out:List Int),s=⟨[(0,v),(1,w),(5,.osl 0 0 n),(6,zf i)],[(0,.cells true true true 1 (out.map zf))],1,0⟩∧i+k=a.length∧out.length=n∧dg out∧dv out=dv (a.take i)*dv b∧(∀m,i+b.length≤m→out.getD m 0=0))
  (Q:=fun ex s'=>∃tm out,s'=⟨tm,[(0,.cells true true true 1 (out.map zf))],1,0⟩∧ex= .exit 0∧zc tm 5= .osl 0 0 n∧out.length=n∧dg out∧dv out=dv a*dv b) ?_
 rintro k s ⟨i,out,rfl,hk,hlen,hd,hval,hhi⟩;by_cases hi:i<a.length
 ·left
  simp only [go_sem,reduceEqDiff,zjB,hv.len,show (i:Int)<a.length by omega];generalize hq:D P L (.loop [0,1,5,6,7,8] zk2) _=q;obtain ⟨ex,s,rfl,tm,c,out1,rfl,rfl,t0,t1,t5,t6,t7,hlen1,hd1,hc,hval1,hhi1⟩:=zae hq (zMp (P:=P) (L:=L) hv hw ha hb la lb hn hi (out0:=out) b.length) ⟨0,0,out,by simp only [go_sem,reduceEqDiff,reduceAdd,za,zb hv.pu,ze _ hv.pu,zb hw.pu,ze _ hw.pu]<;>rfl,by omega,hlen,hd,by omega,by simp [dv],fun m _=>rfl⟩
  have hz:out1.getD (i+b.length) 0=0:=by rw [hhi1 _ (Nat.le_refl _),hhi _ (Nat.le_refl _)]
  have e3:=zgq (l:=out1) (o:=i+b.length) (by omega);rw [hz] at e3;have zad:=zpd (l:=out1) (j:=i+b.length) (x:=c) (by omega);rw [hz,Nat.pow_add] at zad
  simp only [go_sem,reduceEqDiff,Nat.mul_one,za,t0,t1,t5,t6,t7,hw.len,zb hv.pu,ze _ hv.pu,zb hw.pu,ze _ hw.pu,zB (n:=i+b.length) (by omega),show (i:Int)+(b.length:Int)=((i+b.length:Nat):Int) from rfl,zZ 0 0 (show i+b.length<n by omega),Nat.zero_add,e3,Int.zero_add,zg (n:=c) (by omega) (by omega),stD (l:=out1) (o:=i+b.length) (by omega)];refine ⟨_,k-1,rfl,by omega,i+1,out1.set (i+b.length) c,?_,by omega,by simp [hlen1],zmI hd1 hc,?_,fun m hm=>?_⟩
  ·rw [zg (by omega) (by omega)];simp only [go_sem,reduceEqDiff,reduceAdd,za,zb hv.pu,ze _ hv.pu,zb hw.pu,ze _ hw.pu]<;>rfl
  ·rw [zcp,Nat.add_mul,←hval,Nat.mul_assoc];simp only [Int.toNat_zero,Nat.mul_zero,Nat.add_zero] at zad;rw [zad];exact hval1
  ·rw [zov (by omega),hhi1 m (by omega),hhi m (by omega)]
 ·right
  have:i=a.length:=by omega
  subst this;rw [List.take_length] at hval;simp only [go_sem,reduceEqDiff,zjB,hv.len,show ¬(a.length:Int)<a.length by omega];exact ⟨_,_,rfl,by simp,_,out,rfl,rfl,by simp only [go_sem,reduceEqDiff],hlen,hd,hval⟩
theorem zJf (h:Has P L 293 zoO) (h300:Has P L 300 zgc) {v w:AV} {a b:List Int} (hv:IsI v a) (hw:IsI w b) (ha:dg a) (hb:dg b) (la:a.length≤8000000000) (lb:b.length≤8000000000):
  ∃r out,zF P L 293 [v,w] r∧IsI r out∧shut r=r∧dg out∧nz out∧dv out=dv a*dv b:=by
 obtain ⟨n,hn⟩:∃n,n=a.length+b.length:=⟨_,rfl⟩;have hmk:∀ct:Nat,zod ct 1 8 [.int .i64 0] (some n) (some n)=some (.osl ct 0 n,.cells true true true 1 ((List.replicate n (0:Int)).map zf)):=fun ct=>by
  rw [zml (sz:=1) (by omega) (by omega) (by rfl) (by rfl),zgt];rfl
 unfold zF;rw [zd h]
 simp only [go_sem,reduceEqDiff,reduceAdd,zoO,hv.len,hw.len,zB (n:=n) (by omega),show (a.length:Int)+(b.length:Int)=((a.length+b.length:Nat):Int) from rfl,←hn,hmk];generalize hq:D P L (.loop [0,1,5,6] zjB) _=q;obtain ⟨ex,s,rfl,tm,out,rfl,rfl,t5,hlen,hd,hval⟩:=zae hq (zHr (P:=P) (L:=L) hv hw ha hb (by omega) (by omega) hn a.length) ⟨0,List.replicate n 0,by simp only [go_sem,reduceEqDiff,reduceAdd,za,zb hv.pu,ze _ hv.pu,zb hw.pu,ze _ hw.pu]<;>rfl,by omega,by simp,zn2 n,by rw [zop];simp [dv],fun m _=>zkZ n m⟩
 have hfz:=zbJ true out;rw [hlen] at hfz;obtain ⟨r,e1,hr,hsh⟩:=znI h300 hfz (by omega);unfold zF at e1;refine ⟨r,zaT out,?_,hr,hsh,zdr hd,zfU out,by rw [zcK];exact hval⟩
 have hfr:∀hp:Hp,zgb 0 n (some (true,1,out.map zf,hp))=some (.vsl true n (out.map zf),hp):=fun hp=>zdq true (by simp [hlen]) (by decide)
 simp only [go_sem,reduceAdd,za,t5,hfr,e1,hsh,hr.res]
theorem zzt (h:Has P L 278 zBo) (h293:Has P L 293 zoO) (h294:Has P L 294 znS) (h300:Has P L 300 zgc) {v w:AV} {n m:Int} {K:Nat} (hK:K≤8000000000) (hv:IsR v n) (hw:IsR w m) (hn:n.natAbs<1000000000^K) (hm:m.natAbs<1000000000^K):
  ∃r,zF P L 278 [v,w] r∧IsR r (n*m):=by
 obtain ⟨x,a,rfl,hx,ha,na,va⟩:=hv;obtain ⟨y,b,rfl,hy,hb,nb,vb⟩:=hw;have la:=Nat.le_trans (zbw ha na (by rw [va];exact hn)) hK
 have lb:=Nat.le_trans (zbw hb nb (by rw [vb];exact hm)) hK
 obtain ⟨z,out,e1,hz,hsh,hd,hnz,hval⟩:=zJf h293 h300 hx hy ha hb la lb;have lo:out.length≤20000000000:=by
  refine zbw hd hnz ?_;rw [hval];have h1:=zcO ha;have h2:=zcO hb;have h3:dv a*dv b<1000000000^a.length*1000000000^b.length:=Nat.mul_lt_mul'' h1 h2;rw [←Nat.pow_add] at h3;have hk:∀K,a.length+b.length≤K→dv a*dv b<1000000000^K:=fun K h=>Nat.lt_of_lt_of_le h3 (Nat.pow_le_pow_right (by decide) h)
  exact hk 20000000000 (by omega)
 obtain ⟨r,e2,hr⟩:=zmY h294 h300 (!(decide (n<0)==decide (m<0))) hz hd lo;have e:zaW (!(decide (n<0)==decide (m<0))) (dv out)=n*m:=by
  rw [hval,va,vb];have hnm:((n.natAbs*m.natAbs:Nat):Int)=(n.natAbs:Int)*m.natAbs:=Int.natCast_mul _ _;unfold zaW;by_cases h0:n<0<;>by_cases h1:m<0<;>simp only [h0,h1,decide_true,decide_false,beq_self_eq_true,Bool.not_true,Bool.false_eq_true,if_false,hnm]
  ·rw [show (n.natAbs:Int)= -n by omega,show (m.natAbs:Int)= -m by omega,Int.neg_mul_neg]
  ·rw [show (true==false)=false from rfl,Bool.not_false,if_pos rfl,show (n.natAbs:Int)= -n by omega,show (m.natAbs:Int)=m by omega,Int.neg_mul,Int.neg_neg]
  ·rw [show (false==true)=false from rfl,Bool.not_false,if_pos rfl,show (n.natAbs:Int)=n by omega,show (m.natAbs:Int)= -m by omega,Int.mul_neg,Int.neg_neg]
  ·rw [show (n.natAbs:Int)=n by omega,show (m.natAbs:Int)=m by omega]
 rw [e] at hr;obtain ⟨w2,l2,rfl,hw2,hd2,hz2,hdv2⟩:=hr;refine ⟨_,?_,w2,l2,rfl,hw2,hd2,hz2,hdv2⟩;unfold zF at e1 e2 ⊢;rw [zd h];simp only [go_sem,reduceEqDiff,reduceAdd,zBo,zo,hx.pu,hx.frz,hx.one,hy.pu,hy.frz,hy.one,hz.frz,hz.shut,hw2.pu,hw2.one,zE,Nat.zero_add,zau,e1,zfv,zBM,e2,zbM,zD];rcases hw2 with ⟨rfl,_⟩ | ⟨e,rfl⟩<;>rfl
end
end VE
end
section
namespace VE
open Go (IntKind)
theorem zBZ (i:Nat) (q:List Int) (x:Int):(List.replicate (i+1) (0:Int)++q).set i x=List.replicate i 0++x::q:=by
 rw [List.replicate_succ',List.append_assoc,List.set_append_right _ _ (by simp)]
 simp
section
variable {P:zU} {L:Lib}
theorem zLT {v:AV} {a:List Int} (hv:IsI v a) (ha:dg a) (la:a.length≤20000000000) {d:Nat} (h0:0<d) (h1:d<1000000000):
  ∀k s,(∃(j r:Nat) (q:List Int),zC [0,1,6,7,8] s=⟨[(0,v),(1,zf d),(6,.osl 0 0 a.length),(7,zf r),(8,zf ((j:Int)-1))],[(0,.cells true true true 1 ((List.replicate j (0:Int)++q).map zf))],1,0⟩∧j=k∧j+q.length=a.length∧r<d∧dg q∧dv (a.drop j)=d*dv q+r)→
   ∃ex s',D P L (.loop [0,1,6,7,8] zjr) s=some (ex,s')∧∃tm r q,s'=⟨tm,[(0,.cells true true true 1 (q.map zf))],1,0⟩∧ex= .exit 0∧zc tm 6= .osl 0 0 a.length∧zc tm 7=zf (r:Nat)∧q.length=a.length∧r<d∧dg q∧dv a=d*dv q+r:=by
 refine zT (I:=fun k s=>∃(j r:Nat) (q:List Int),s=⟨[(0,v),(1,zf d),(6,.osl 0 0 a.length),(7,zf r),(8,zf ((j:Int)-1))],[(0,.cells true true true 1 ((List.replicate j (0:Int)++q).map zf))],1,0⟩∧j=k∧j+q.length=a.length∧r<d∧dg q∧dv (a.drop j)=d*dv q+r)
  (Q:=fun ex s'=>∃tm r q,s'=⟨tm,[(0,.cells true true true 1 (q.map zf))],1,0⟩∧ex= .exit 0∧zc tm 6= .osl 0 0 a.length∧zc tm 7=zf (r:Nat)∧q.length=a.length∧r<d∧dg q∧dv a=d*dv q+r) ?_
 rintro k s ⟨j,r,q,rfl,rfl,hl,hr,hd,hval⟩
 cases j with
 | zero=>
  right
  simp only [go_sem,reduceEqDiff,zjr,show ¬(0:Int)≤((0:Nat):Int)-1 by omega];exact ⟨_,_,rfl,by simp,_,r,q,rfl,rfl,by simp only [go_sem,reduceEqDiff],by simp only [go_sem,reduceEqDiff],by omega,hr,hd,hval⟩
 | succ i=>
  left
  have hi:i<a.length:=by omega
  obtain ⟨x,hx⟩:∃x,x=a.getD i 0:=⟨_,rfl⟩;have e1:=zfL hv hi;have gx:=zbf ha i;rw [←hx] at e1 gx;obtain ⟨t,ht⟩:∃t:Nat,t=r*1000000000+x.toNat:=⟨_,rfl⟩;have ht':(r:Int)*1000000000+x=(t:Int):=by omega
  have htb:t<d*1000000000:=by
   have:(r+1)*1000000000≤d*1000000000:=Nat.mul_le_mul_right _ hr
   rw [Nat.add_mul] at this;omega
  have hq1:t/d<1000000000:=(Nat.div_lt_iff_lt_mul h0).2 (by rw [Nat.mul_comm];exact htb)
  have hr1:t%d<d:=Nat.mod_lt _ h0;have e2:((t:Nat):Int).tdiv d=((t/d:Nat):Int):=by rw [Int.tdiv_eq_ediv_of_nonneg (by omega)];rfl
  have e3:((t:Nat):Int).tmod d=((t%d:Nat):Int):=by rw [Int.tmod_eq_emod_of_nonneg (by omega)];rfl
  have hlr:(List.replicate (i+1) (0:Int)++q).length=a.length:=by simp;omega
  have hst:=fun (hp:Hp) (ct id:Nat) (ex:Bool)=>stD (hp:=hp) (ct:=ct) (id:=id) (ex:=ex) (v:=((t/d:Nat):Int)) (l:=List.replicate (i+1) (0:Int)++q) (o:=i) (by rw [hlr];exact hi)
  simp only [zBZ] at hst
  simp only [go_sem,reduceEqDiff,Nat.mul_one,zjr,show ((i+1:Nat):Int)-1=(i:Int) by omega,show (0:Int)≤(i:Int) by omega,zg (n:=(r:Int)*1000000000) (by omega) (by omega),e1,ht',zB (n:=t) (by omega),zaC _ _ _ (show (d:Int)≠0 by omega),zaO _ _ _ (show (d:Int)≠0 by omega),e2,e3,zB (n:=t/d) (by omega),zZ 0 0 (show i<a.length from hi),Nat.zero_add,hst]
  refine ⟨_,i,rfl,by omega,i,t%d,((t/d:Nat):Int)::q,?_,rfl,by simp;omega,hr1,(dg_append (a:=[((t/d:Nat):Int)]) (b:=q)).2 ⟨dg_one.2 ⟨Int.natCast_nonneg _,Int.ofNat_lt.2 hq1⟩,hd⟩,?_⟩
  ·rw [zg (by omega) (by omega)];simp only [go_sem,reduceEqDiff,reduceAdd,za,zb hv.pu,ze _ hv.pu]<;>rfl
  ·have hdr:a.drop i=x::a.drop (i+1):=by
    rw [List.drop_eq_getElem_cons hi,hx];simp [List.getD_eq_getElem?_getD,List.getElem?_eq_getElem hi]
   rw [hdr];simp only [dv,hval,Int.toNat_natCast];have e:=Nat.div_add_mod t d;rw [Nat.mul_add,Nat.mul_add d,Nat.mul_left_comm 1000000000 d];omega
theorem zN4 (h:Has P L 299 znZ) (h300:Has P L 300 zgc) {v:AV} {a:List Int} (hv:IsI v a) (ha:dg a) (la:a.length≤20000000000) {d:Nat} (h0:0<d) (h1:d<1000000000):
  ∃r q,zF P L 299 [v,zf d] (.tup [r,zf (dv a%d:Nat)])∧IsI r q∧shut r=r∧shut1 r=r∧dg q∧nz q∧dv q=dv a/d:=by
 obtain ⟨n,hn⟩:∃n,n=a.length:=⟨_,rfl⟩;have hmk:∀ct:Nat,zod ct 1 8 [.int .i64 0] (some n) (some n)=some (.osl ct 0 n,.cells true true true 1 ((List.replicate n (0:Int)).map zf)):=fun ct=>by
  rw [zml (sz:=1) (by omega) (by omega) (by rfl) (by rfl),zgt];rfl
 unfold zF;rw [zd h];simp only [go_sem,reduceEqDiff,reduceAdd,znZ,hv.len,←hn,hmk];generalize hq:D P L (.loop [0,1,6,7,8] zjr) _=q;obtain ⟨ex,s,rfl,tm,r,qs,rfl,rfl,t6,t7,hlen,hr,hd,hval⟩:=zae hq (zLT (P:=P) (L:=L) hv ha la h0 h1 a.length) ⟨a.length,0,[],by
  rw [zg (by omega) (by omega),List.append_nil,←hn]
  simp only [go_sem,reduceEqDiff,reduceAdd,za,zb hv.pu,ze _ hv.pu]<;>rfl,rfl,by simp,h0,rfl,by rw [List.drop_eq_nil_of_le (Nat.le_refl _)];simp [dv]⟩
 have hfz:=zbJ true qs;rw [hlen] at hfz;obtain ⟨w,e1,hw,hsh⟩:=znI h300 hfz (by omega);unfold zF at e1;have hdm:dv a/d=dv qs∧dv a%d=r:=(Nat.div_mod_unique h0).2 ⟨by omega,hr⟩;refine ⟨w,zaT qs,?_,hw,hsh,hw.shut1,zdr hd,zfU qs,by rw [zcK,hdm.1]⟩;have hfr:∀hp:Hp,zgb 0 a.length (some (true,1,qs.map zf,hp))=some (.vsl true a.length (qs.map zf),hp):=fun hp=>zdq true (by simp [hlen]) (by decide)
 rw [hdm.2];simp only [go_sem,reduceEqDiff,reduceAdd,za,t6,t7,hfr,e1,hsh];rcases hw with ⟨rfl,_⟩ | ⟨e,rfl⟩<;>rfl
theorem zRk (h:Has P L 279 zt7) (h295:Has P L 295 zw7) (h296:Has P L 296 zk7) (h297:Has P L 297 zyd) (h302:Has P L 302 zll) (h294:Has P L 294 znS) (h300:Has P L 300 zgc) {v w:AV} {n m:Int} {K:Nat} (hK:K≤8000000000) (hv:IsR v n) (hw:IsR w m) (hn:n.natAbs<1000000000^K) (hm:m.natAbs<1000000000^K):
  ∃r,zF P L 279 [v,w] r∧IsR r (n+m):=by
 obtain ⟨x,a,rfl,hx,ha,na,va⟩:=hv;obtain ⟨y,b,rfl,hy,hb,nb,vb⟩:=hw;have la:=Nat.le_trans (zbw ha na (by rw [va];exact hn)) hK
 have lb:=Nat.le_trans (zbw hb nb (by rw [vb];exact hm)) hK
 by_cases hs:(decide (n<0)==decide (m<0))=true
 ·obtain ⟨z,out,e1,hz,hd,hval,hl⟩:=zRb h295 h302 hx hy ha hb (by omega) (by omega);have lo:out.length≤20000000000:=by omega
  obtain ⟨r,e2,hr⟩:=zmY h294 h300 (decide (n<0)) hz hd lo;have e:zaW (decide (n<0)) (dv out)=n+m:=by
   have hab:(n<0)=(m<0):=by simpa using eq_of_beq hs
   rw [hval,va,vb];unfold zaW;by_cases h0:n<0
   ·have h1:m<0:=hab▸h0;simp only [h0,decide_true,if_true];omega
   ·have h1:¬m<0:=hab▸h0;simp only [h0,decide_false,Bool.false_eq_true,if_false];omega
  rw [e] at hr;obtain ⟨w2,l2,rfl,hw2,hd2,hz2,hdv2⟩:=hr;refine ⟨_,?_,w2,l2,rfl,hw2,hd2,hz2,hdv2⟩;unfold zF at e1 e2 ⊢;rw [zd h];simp only [go_sem,reduceEqDiff,reduceAdd,zt7,zo,hx.pu,hx.frz,hx.one,hy.pu,hy.frz,hy.one,hz.frz,hw2.pu,hw2.one,zE,Nat.zero_add,zau,e1,zfv,zam,hs,e2,zbM,zD];rcases hw2 with ⟨rfl,_⟩ | ⟨e,rfl⟩<;>rfl
 ·have hs:(decide (n<0)==decide (m<0))=false:=by simpa using hs
  have hab:¬((n<0)=(m<0)):=fun e=>by simp [e] at hs
  have ec:=zI2 h296 hx hy ha hb na nb (by omega) (by omega);by_cases hc:dv a<dv b
  ·have hc1:zbH (dv a) (dv b)= -1:=by unfold zbH;rw [if_pos hc]
   rw [hc1] at ec;obtain ⟨z,out,e1,hz,hsh,hd,hnz,hval⟩:=zNJ h297 h302 h300 hy hx hb ha nb na (by omega) (by omega);have lo:out.length≤20000000000:=by
    refine zbw hd hnz ?_
    have:=zcO hb
    have hk:∀K,b.length≤K→dv out<1000000000^K:=fun K h=>Nat.lt_of_lt_of_le (show dv out<1000000000^b.length by omega) (Nat.pow_le_pow_right (by decide) h)
    exact hk 20000000000 (by omega)
   obtain ⟨r,e2,hr⟩:=zmY h294 h300 (decide (m<0)) hz hd lo;have e:zaW (decide (m<0)) (dv out)=n+m:=by
    rw [va,vb] at hval;unfold zaW;by_cases h0:m<0
    ·have h1:¬n<0:=fun h1=>hab (by simp [h0,h1])
     simp only [h0,decide_true,if_true];omega
    ·have h1:n<0:=by
      by_cases h1:n<0
      ·exact h1
      ·exact absurd (by simp [h0,h1]) hab
     simp only [h0,decide_false,Bool.false_eq_true,if_false];omega
   rw [e] at hr;obtain ⟨w2,l2,rfl,hw2,hd2,hz2,hdv2⟩:=hr;refine ⟨_,?_,w2,l2,rfl,hw2,hd2,hz2,hdv2⟩;unfold zF at e1 e2 ec ⊢;rw [zd h];simp only [go_sem,reduceEqDiff,reduceAdd,zt7,zo,hx.pu,hx.frz,hx.one,hy.pu,hy.frz,hy.one,hz.frz,hz.shut,hw2.pu,hw2.one,zE,Nat.zero_add,zau,e1,zfv,zam,hs,ec,show ¬(0:Int)≤-1 by decide,e2,zbM,zD];rcases hw2 with ⟨rfl,_⟩ | ⟨e,rfl⟩<;>rfl
  ·have hc1:(0:Int)≤zbH (dv a) (dv b):=by unfold zbH;rw [if_neg hc];split<;>decide
   obtain ⟨z,out,e1,hz,hsh,hd,hnz,hval⟩:=zNJ h297 h302 h300 hx hy ha hb na nb (by omega) (by omega);have lo:out.length≤20000000000:=by
    refine zbw hd hnz ?_
    have:=zcO ha
    have hk:∀K,a.length≤K→dv out<1000000000^K:=fun K h=>Nat.lt_of_lt_of_le (show dv out<1000000000^a.length by omega) (Nat.pow_le_pow_right (by decide) h)
    exact hk 20000000000 (by omega)
   obtain ⟨r,e2,hr⟩:=zmY h294 h300 (decide (n<0)) hz hd lo;have e:zaW (decide (n<0)) (dv out)=n+m:=by
    rw [va,vb] at hval;unfold zaW;by_cases h0:n<0
    ·have h1:¬m<0:=fun h1=>hab (by simp [h0,h1])
     simp only [h0,decide_true,if_true];omega
    ·have h1:m<0:=by
      by_cases h1:m<0
      ·exact h1
      ·exact absurd (by simp [h0,h1]) hab
     simp only [h0,decide_false,Bool.false_eq_true,if_false];omega
   rw [e] at hr;obtain ⟨w2,l2,rfl,hw2,hd2,hz2,hdv2⟩:=hr;refine ⟨_,?_,w2,l2,rfl,hw2,hd2,hz2,hdv2⟩;unfold zF at e1 e2 ec ⊢;rw [zd h];simp only [go_sem,reduceEqDiff,reduceAdd,zt7,zo,hx.pu,hx.frz,hx.one,hy.pu,hy.frz,hy.one,hz.frz,hz.shut,hw2.pu,hw2.one,zE,Nat.zero_add,zau,e1,zfv,zam,hs,ec,hc1,e2,zbM,zD];rcases hw2 with ⟨rfl,_⟩ | ⟨e,rfl⟩<;>rfl
end
end VE
end
section
namespace VE
open Go (IntKind)
section
variable {P:zU} {L:Lib}
theorem zsO {l:List Int} (hd:dg l) (hn:nz l) (h:dv l<1000000000):l.length≤1:=zbw hd hn (by simpa using h)
theorem zQ1 (h:Has P L 289 zlm) (h296:Has P L 296 zk7) (h299:Has P L 299 znZ) (h300:Has P L 300 zgc) {v w:AV} {a b:List Int} (hv:IsI v a) (hw:IsI w b) (ha:dg a) (hb:dg b) (na:nz a) (nb:nz b) (la:a.length≤20000000000) (lb:b.length≤1) (h0:0<dv b):
  ∃q r lq lr,zF P L 289 [v,w] (.tup [q,r])∧IsI q lq∧IsI r lr∧dg lq∧nz lq∧dg lr∧nz lr∧dv lq=dv a/dv b∧dv lr=dv a%dv b:=by
 have ec:=zI2 h296 hv hw ha hb na nb la (by omega);unfold zF at ec;by_cases hc:dv a<dv b
 ·have hc1:zbH (dv a) (dv b)= -1:=by unfold zbH;rw [if_pos hc]
  rw [hc1] at ec;refine ⟨.nils,v,[],a,?_,zd7,hv,rfl,rfl,ha,na,?_,?_⟩
  ·unfold zF;rw [zd h];simp only [go_sem,reduceEqDiff,zlm,hv.frz,hw.frz,ec,show (-1:Int)<0 by decide];rcases hv with ⟨rfl,_⟩ | ⟨e,rfl⟩<;>rfl
  ·rw [Nat.div_eq_of_lt hc];rfl
  ·rw [Nat.mod_eq_of_lt hc]
 ·have hc1:¬zbH (dv a) (dv b)<0:=by unfold zbH;rw [if_neg hc];split<;>decide
  have hl1:b.length=1:=by
   rcases Nat.eq_zero_or_pos b.length with e | e
   ·rw [List.eq_nil_of_length_eq_zero e] at h0;simp [dv] at h0
   ·omega
  obtain ⟨x,rfl⟩:∃x,b=[x]:=by
   cases b with
   | nil=>simp at hl1
   | cons x r=>cases r with
    | nil=>exact ⟨x,rfl⟩
    | cons y r=>simp at hl1
  have gx:=dg_one.1 hb;obtain ⟨d,hd⟩:∃d:Nat,x=d:=⟨x.toNat,by omega⟩;subst hd;have hdd:dv [((d:Nat):Int)]=d:=by simp [dv]
  rw [hdd] at h0 hc hc1 ec ⊢;obtain ⟨q,lq,e1,hq,hqs,hqs1,dq,nq,vq⟩:=zN4 h299 h300 hv ha la h0 (by omega);have hrest:dv a%d<d:=Nat.mod_lt _ h0;generalize dv a%d=m at*
  obtain ⟨r,e2,hr,hrs⟩:=znI h300 (zbJ true [(m:Int)]) (by simp);unfold zF at e1 e2;refine ⟨q,r,lq,zaT [(m:Int)],?_,hq,hr,dq,nq,zdr (dg_one.2 (by omega)),zfU _,vq,by rw [zcK];simp [dv]⟩;have e3:=hw.ixa (i:=0) (by simp);simp only [List.length_cons,List.length_nil,Nat.zero_add,List.map_cons,List.map_nil,List.getElem_cons_zero] at e2 e3;unfold zF;rw [zd h];simp only [go_sem,reduceEqDiff,reduceAdd,reduceLT,reduceLeDiff,Nat.mul_one,zlm,hv.frz,hw.len,hw.frz,ec,hc1,List.length_cons,List.length_nil,show ((1:Nat):Int)=(1:Int) from rfl,decide_true,e3,e1,hqs1,e2,hrs];rcases hq with ⟨rfl,_⟩ | ⟨e,rfl⟩<;>rcases hr with ⟨rfl,_⟩ | ⟨e',rfl⟩<;>rfl
end
end VE
end
