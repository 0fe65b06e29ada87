import Derived.Test.YtkhmakhdoedjiaaGreatDoorTbs
import Derived.Test.YtkhmakhdoedjiaaGreatDoorTbl
import Derived.Test.YtkhmakhdoedjiaaGreatDoorTbr
set_option linter.all false
set_option maxRecDepth 100000
open Nat (reduceAdd reduceEqDiff)
section
namespace VE
open Go (IntKind)
theorem zCa {l:List Int} {i:Nat} (h:i<l.length):dv (l.drop i)=(l.getD i 0).toNat+1000000000*dv (l.drop (i+1)):=by
 rw [List.drop_eq_getElem_cons h]
 have:l[i]=l.getD i 0:=by simp [List.getD_eq_getElem?_getD,List.getElem?_eq_getElem h]
 rw [this];rfl
theorem zjL (l:List Int) (i:Nat) (h:i≤l.length):dv l=dv (l.take i)+1000000000^i*dv (l.drop i):=by
 conv=>lhs;rw [←List.take_append_drop i l]
 rw [za6,List.length_take,Nat.min_eq_left h]
theorem zAE {sx sy sV:Int} {p:Int} {bo t:Int} {yn z:Int} {szy:Int} (h1:sy+t*sV=sx+p*bo) (h2:szy=sy+p*(z-yn)) (h3:z=yn-bo):szy=sx-t*sV:=by
 subst h3;rw [show yn-bo-yn= -bo by omega,Int.mul_neg] at h2;omega
section
variable {P:zN} {L:Lib}
theorem zCi (h301:Has P L 301 c301) {w:AV} {vs:List Int} {f:Int} (hw:IsI w vs) (gv:dg vs) {n M m:Nat} (lv:vs.length=n) (hn2:2≤n) (hnM:n<M) (hMb:M≤20000000000) (hm:m=M-n) (hv1:0<vs.getD (n-1) 0) {U0:Nat}:
  ∀k st,(∃(j:Nat) (us qs:List Int),zA [8,9,10,11,12,13] st=⟨[(8,.osl 0 0 1),(9,w),(10,zh n),(11,.osl 1 0 M),(12,.osl 2 0 m),(13,zh ((j:Int)-1))],H3 qs us f,3,0⟩∧j=k∧j≤m∧us.length=M∧qs.length=m∧dg us∧dg qs∧(∀i,i<j→qs.getD i 0=0)∧
    dv us+dv qs*dv vs=U0∧dv (us.drop j)<dv vs)→
   ∃ex st',D P L (.loop [8,9,10,11,12,13] zk2) st=some (ex,st')∧∃tm us qs,st'=⟨tm,H3 qs us f,3,0⟩∧ex= .exit 2∧zc tm 8= .osl 0 0 1∧zc tm 10=zh n∧zc tm 11= .osl 1 0 M∧zc tm 12= .osl 2 0 m∧us.length=M∧qs.length=m∧dg us∧dg qs∧
    dv us+dv qs*dv vs=U0∧dv us<dv vs:=by
 refine zS (I:=fun k st=>∃(j:Nat) (us qs:List Int),st=⟨[(8,.osl 0 0 1),(9,w),(10,zh n),(11,.osl 1 0 M),(12,.osl 2 0 m),(13,zh ((j:Int)-1))],H3 qs us f,3,0⟩∧j=k∧j≤m∧us.length=M∧qs.length=m∧dg us∧dg qs∧(∀i,i<j→qs.getD i 0=0)∧
    dv us+dv qs*dv vs=U0∧dv (us.drop j)<dv vs)
  (Q:=fun ex st'=>∃tm us qs,st'=⟨tm,H3 qs us f,3,0⟩∧ex= .exit 2∧zc tm 8= .osl 0 0 1∧zc tm 10=zh n∧zc tm 11= .osl 1 0 M∧zc tm 12= .osl 2 0 m∧us.length=M∧qs.length=m∧dg us∧dg qs∧
    dv us+dv qs*dv vs=U0∧dv us<dv vs) ?_
 rintro k st ⟨j,us,qs,rfl,rfl,hj,lu,lq,gu,gq,hz,hval,htop⟩
 cases j with
 | zero=>
  right
  simp only [go_sem,reduceEqDiff,zk2,H3,show ¬(0:Int)≤((0:Nat):Int)-1 by omega];exact ⟨_,_,rfl,by simp,_,us,qs,rfl,rfl,by simp only [go_sem,reduceEqDiff],by simp only [go_sem,reduceEqDiff],by simp only [go_sem,reduceEqDiff],by simp only [go_sem,reduceEqDiff],lu,lq,gu,gq,hval,by simpa using htop⟩
 | succ j=>
  left
  obtain ⟨pre,hpre⟩:∃p,p=us.take j:=⟨_,rfl⟩;obtain ⟨x,hx⟩:∃p,p=(us.drop j).take (n+1):=⟨_,rfl⟩;obtain ⟨post,hpost⟩:∃p,p=us.drop (j+(n+1)):=⟨_,rfl⟩;have lp:pre.length=j:=by rw [hpre,List.length_take];omega
  have lx:x.length=n+1:=by rw [hx,List.length_take,List.length_drop];omega
  have lpo:M=pre.length+(n+1)+post.length:=by rw [lp,hpost,List.length_drop];omega
  have hsplit:us=pre++x++post:=by
   rw [hpre,hx,hpost,←List.drop_drop,List.append_assoc,List.take_append_drop,List.take_append_drop]
  have gpo:dg post:=by
   have:=gu;rw [hsplit] at this;exact (dg_append.1 this).2
  have gpx:=by have:=gu;rw [hsplit] at this;exact (dg_append.1 this).1
  have gx:dg x:=(dg_append.1 gpx).2;have gpre:dg pre:=(dg_append.1 gpx).1;have hA:=zCa (l:=us) (i:=j) (by omega);have hgj:=zbi gu j;have hdx:us.drop j=x++post:=by rw [hpost,hx,←List.drop_drop,List.take_append_drop]
  have hAx:dv (us.drop j)=dv x+1000000000^(n+1)*dv post:=by rw [hdx,za6,lx]
  have hVn:=zek gv;rw [lv] at hVn;have hlt:dv (us.drop j)<1000000000*dv vs:=by omega
  have hp0:dv post=0:=by
   rcases Nat.eq_zero_or_pos (dv post) with e | e
   ·exact e
   ·have h1:=Nat.mul_le_mul_left (1000000000^(n+1)) e;rw [Nat.mul_one,Nat.pow_succ] at h1;rw [Nat.pow_succ] at hAx;omega
  rw [hp0,Nat.mul_zero,Nat.add_zero] at hAx;have dig:=fun (l:List Int) (hl:dg l) (i:Nat)=>zbi hl i
  obtain ⟨v1,ev1⟩:∃v:Nat,vs.getD (n-1) 0=v:=⟨(vs.getD (n-1) 0).toNat,by have:=dig vs gv (n-1);omega⟩;obtain ⟨v2,ev2⟩:∃v:Nat,vs.getD (n-2) 0=v:=⟨(vs.getD (n-2) 0).toNat,by have:=dig vs gv (n-2);omega⟩;obtain ⟨u0,eu0⟩:∃v:Nat,x.getD n 0=v:=⟨(x.getD n 0).toNat,by have:=dig x gx n;omega⟩;obtain ⟨u1,eu1⟩:∃v:Nat,x.getD (n-1) 0=v:=⟨(x.getD (n-1) 0).toNat,by have:=dig x gx (n-1);omega⟩;obtain ⟨u2,eu2⟩:∃v:Nat,x.getD (n-2) 0=v:=⟨(x.getD (n-2) 0).toNat,by have:=dig x gx (n-2);omega⟩;have hl:Led x vs n v1 v2 u0 u1 u2:=⟨hn2,by omega,lx,lv,gx,gv,ev1,ev2,eu0,eu1,eu2,by omega,by rw [←hAx];exact hlt⟩
  have hdig:=hl.digit;have hV0:0<dv vs:=by omega
  have hmod:=Nat.mod_lt (dv x) hV0;obtain ⟨t,e1,ht1,ht2,ht3⟩:=zM0 (P:=P) (L:=L) h301 hw hl (pre:=pre) (post:=post) (qs:=qs) (f:=f) (M:=M) (by omega) (by omega);rw [←hsplit,lp] at e1;have hbu:dv us=dv pre+1000000000^j*dv x:=by
   have:=zjL us j (by omega)
   rw [hAx,←hpre] at this;exact this
  have hbu':∀y,dv (pre++y++post)=dv pre+1000000000^j*dv y:=fun y=>by
   rw [List.append_assoc,za6,za6,hp0,Nat.mul_zero,Nat.add_zero,lp]
  have hnew:=zlM (b:=0) hbu hval;have hbw:zcT 3 w:=zba hw.pu;have z7:=zhL (l:=qs) (i:=j) (x:=((dv x/dv vs:Nat):Int)) (by omega);have gq':dg (qs.set j ((dv x/dv vs:Nat):Int)):=zmQ gq ⟨Int.natCast_nonneg _,Int.ofNat_lt.2 hdig⟩;rw [hz j (by omega),Int.sub_zero,zg5 gq,zg5 gq'] at z7;have z7:dv (qs.set j ((dv x/dv vs:Nat):Int))=dv qs+1000000000^j*(dv x/dv vs):=by
   have hcast:((1000000000^j*(dv x/dv vs):Nat):Int)=(1000000000:Int)^j*((dv x/dv vs:Nat):Int):=by rw [Int.natCast_mul];simp
   rw [←hcast] at z7;exact Int.ofNat.inj (by rw [Int.ofNat_eq_natCast,Int.ofNat_eq_natCast,z7,Int.natCast_add])
  have fin:∀(s':St) (x':List Int),zA [8,9,10,11,12,13] s'=⟨[(8,.osl 0 0 1),(9,w),(10,zh n),(11,.osl 1 0 M),(12,.osl 2 0 m),(13,zh ((j:Int)-1))],H3 (qs.set j ((dv x/dv vs:Nat):Int)) (pre++x'++post) f,3,0⟩→x'.length=n+1→dg x'→sv x'=((dv x%dv vs:Nat):Int)→
    ∃(j':Nat) (us qs:List Int),zA [8,9,10,11,12,13] s'=⟨[(8,.osl 0 0 1),(9,w),(10,zh n),(11,.osl 1 0 M),(12,.osl 2 0 m),(13,zh ((j':Int)-1))],H3 qs us f,3,0⟩∧j'=j∧j'≤m∧us.length=M∧qs.length=m∧dg us∧dg qs∧(∀i,i<j'→qs.getD i 0=0)∧dv us+dv qs*dv vs=U0∧dv (us.drop j')<dv vs:=fun s' x' hc lx' gx' vx'=>by
   have vx'':dv x'=dv x%dv vs:=by rw [zg5 gx'] at vx';exact Int.ofNat.inj vx'
   refine ⟨j,_,_,hc,rfl,by omega,by rw [zc2,lx'];omega,by simp [lq],dg_append.2 ⟨dg_append.2 ⟨gpre,gx'⟩,gpo⟩,gq',fun i hi=>by rw [zzj (by omega)];exact hz i (by omega),?_,?_⟩
   ·rw [hbu',vx'',z7];exact hnew
   ·rw [List.append_assoc,List.drop_left' lp,za6,hp0,Nat.mul_zero,Nat.add_zero,vx''];exact hmod
  have hstq:=fun (z:Int) (hp:Hp) (ct:Nat)=>stD (hp:=hp) (ct:=ct) (id:=2) (v:=z) (ex:=true) (l:=qs) (o:=j) (by omega)
  have svx:=zg5 gx;have svv:=zg5 gv;simp only [H3] at e1;simp only [go_sem,reduceEqDiff,zk2,H3,show ((j+1:Nat):Int)-1=(j:Int) by omega,show (0:Int)≤(j:Int) by omega,zDr,e1];generalize hqq:D P L (.loop [8,9,10,11,12,13,14,15,16] zim) _=qq;obtain ⟨ex,s,rfl,tm,bo,y,rfl,rfl,t8,t9,t10,t11,t12,t13,t14,t15,ly,gy,hbo,hv⟩:=z8 hqq (zCs (P:=P) (L:=L) (x:=x) (pre:=pre) (post:=post) (qs:=qs) (f:=f) (m:=m) (M:=M) hw lv lpo (by omega) gv (t:=t) (by omega) n) ⟨0,0,x,by
   rw [hsplit,lp]
   simp only [go_sem,reduceEqDiff,reduceAdd,za,zb hw.pu,zd _ hw.pu]<;>rfl,by omega,lx,gx,by omega,by simp [sv]⟩
  rw [lp] at t13;have hyn:=zbi gy n;have eyn:=zge (l:=pre++y++post) (o:=pre.length+n) (by rw [zc2];omega);rw [zfG (by omega),lp] at eyn;obtain ⟨z,hzz⟩:∃z,z=y.getD n 0-bo:=⟨_,rfl⟩;have hst1:=fun (hp:Hp) (ct:Nat)=>stD (hp:=hp) (ct:=ct) (id:=1) (v:=z) (ex:=false) (l:=pre++y++post) (o:=j+n) (by rw [zc2];omega)
  have hmid:=zmr (pre:=pre) (x:=y) (post:=post) (i:=n) z (by omega);rw [lp] at hmid;rw [hmid] at hst1;have hs1:=zhL (l:=y) (i:=n) (x:=z) (by omega);have hend:=zAE hv hs1 hzz;have ly1:(y.set n z).length=n+1:=by simp [ly]
  have gy1:dg ((y.set n z).take n):=by
   have:(y.set n z).take n=y.take n:=by rw [List.take_set,List.set_eq_of_length_le (by simp;omega)]
   rw [this];exact ze0 gy n
  rw [svx,svv] at hend;obtain ⟨s0,s1⟩:=zBa hV0 ly1 gy1 hend ht2 ht3;have eg:(y.set n z).getD n 0=z:=ztP (by omega);rw [eg] at s0 s1;have ezn:=zge (l:=pre++y.set n z++post) (o:=pre.length+n) (by rw [zc2];omega);rw [zfG (by omega),lp,eg] at ezn;generalize y.set n z=y1 at*
  have hpn:((10^9:Int))=1000000000:=by decide
  by_cases hneg:z<0
  ·obtain ⟨f1,f2⟩:=s1 hneg
   simp only [go_sem,reduceEqDiff,reduceAdd,Nat.mul_one,za,zb hw.pu,zd _ hw.pu,t8,t9,t10,t11,t12,t13,t14,t15,show (j:Int)+(n:Int)=((j+n:Nat):Int) from rfl,zy (n:=j+n) (by omega),zY 1 0 (show j+n<M by omega),Nat.zero_add,eyn,←hzz,ze (n:=z) (by omega) (by omega),hst1,ezn,hneg];generalize hqq2:D P L (.loop [8,9,10,11,12,13,14,19,20] zjn) _=qq2;obtain ⟨ex,s,rfl,tm2,c,y2,rfl,rfl,t8,t9,t10,t11,t12,t13,t14,t19,ly2,gy2,htop2,hc,hv2⟩:=z8 hqq2 (zAV (P:=P) (L:=L) (y0:=y1) (pre:=pre) (post:=post) (qs:=qs) (f:=f) (m:=m) (M:=M) (t:=(t:Int)-1) (top:=z) hw lv lpo (by omega) gv n) ⟨0,0,y1,by
    rw [lp,ze (n:=(t:Int)-1) (by omega) (by omega)]
    simp only [go_sem,reduceEqDiff,reduceAdd,za,zb hw.pu,zd _ hw.pu]<;>rfl,by omega,ly1,gy1,eg,by omega,by simp [sv]⟩
   rw [lp] at t13;have eyn2:=zge (l:=pre++y2++post) (o:=pre.length+n) (by rw [zc2];omega);rw [zfG (by omega),lp,htop2] at eyn2;have hst2:=fun (hp:Hp) (ct:Nat)=>stD (hp:=hp) (ct:=ct) (id:=1) (v:=z+c) (ex:=false) (l:=pre++y2++post) (o:=j+n) (by rw [zc2];omega)
   have hmid2:=zmr (pre:=pre) (x:=y2) (post:=post) (i:=n) (z+c) (by omega);rw [lp] at hmid2;rw [hmid2] at hst2;have hs2:=zhL (l:=y2) (i:=n) (x:=z+c) (by omega);rw [htop2,show z+c-z=c by omega,hv2,svv,f2] at hs2;have ly3:(y2.set n (z+c)).length=n+1:=by simp [ly2]
   have gy3:dg ((y2.set n (z+c)).take n):=by
    have:(y2.set n (z+c)).take n=y2.take n:=by rw [List.take_set,List.set_eq_of_length_le (by simp;omega)]
    rw [this];exact gy2
   have hmV:((dv x%dv vs:Nat):Int)<1000000000^n:=by
    have hcast:((1000000000^n:Nat):Int)=(1000000000:Int)^n:=by simp
    rw [←hcast];omega
   obtain ⟨g1,g2,g3⟩:=zng ly3 gy3 (by rw [hs2];omega) (by rw [hs2];exact hmV)
   generalize y2.set n (z+c)=y3 at*
   have ft:(t:Int)-1=((dv x/dv vs:Nat):Int):=by rw [f1];omega
   simp only [go_sem,reduceEqDiff,reduceAdd,Nat.mul_one,za,zb hw.pu,zd _ hw.pu,t8,t9,t10,t11,t12,t13,t14,t19,show (j:Int)+(n:Int)=((j+n:Nat):Int) from rfl,zy (n:=j+n) (by omega),zY 1 0 (show j+n<M by omega),Nat.zero_add,eyn2,ze (n:=z+c) (by omega) (by omega),hst2,zY 2 0 (show j<m by omega),hstq];rw [ft];refine ⟨_,j,rfl,by omega,fin _ y3 ?_ ly3 g2 hs2⟩;rw [ze (by omega) (by omega)];simp only [go_sem,reduceEqDiff,reduceAdd,za,zb hw.pu,zd _ hw.pu]<;>rfl
  ·obtain ⟨f1,f2⟩:=s0 hneg;have hmV:((dv x%dv vs:Nat):Int)<1000000000^n:=by
    have hcast:((1000000000^n:Nat):Int)=(1000000000:Int)^n:=by simp
    rw [←hcast];omega
   obtain ⟨g1,g2,g3⟩:=zng ly1 gy1 (by rw [f2];omega) (by rw [f2];exact hmV)
   simp only [go_sem,reduceEqDiff,reduceAdd,Nat.mul_one,za,zb hw.pu,zd _ hw.pu,t8,t9,t10,t11,t12,t13,t14,t15,show (j:Int)+(n:Int)=((j+n:Nat):Int) from rfl,zy (n:=j+n) (by omega),zY 1 0 (show j+n<M by omega),Nat.zero_add,eyn,←hzz,ze (n:=z) (by omega) (by omega),hst1,ezn,hneg,zY 2 0 (show j<m by omega),hstq];rw [f1];refine ⟨_,j,rfl,by omega,fin _ y1 ?_ ly1 g2 f2⟩;rw [ze (by omega) (by omega)];simp only [go_sem,reduceEqDiff,reduceAdd,za,zb hw.pu,zd _ hw.pu]<;>rfl
end
end VE
end
section
namespace VE
open Go (IntKind)
section
variable {P:zN} {L:Lib}
theorem zLX (h:Has P L 292 zkF) {n:Nat} (hn:n<1000000000):zK P L 292 [zh n,zh 9] (.str (zd7 9 n)):=by
 have key:=zS (P:=P) (L:=L) (live:=[0,1,5]) (a:=zc3)
  (I:=fun k st=>∃(m:Nat) (s:List Nat),st=⟨[(0,zh m),(1,zh 9),(5,.str s)],[],0,0⟩∧s.length+k=9∧m<10^k∧zd7 9 n=zd7 k m++s)
  (Q:=fun ex st=>∃tm ct,st=⟨tm,[],ct,0⟩∧ex= .exit 0∧zc tm 5= .str (zd7 9 n)) ?_
 ·unfold zK;rw [zf h];simp only [go_sem,zkF];generalize hq:D P L (.loop [0,1,5] zc3) _=q;obtain ⟨ex,st,rfl,tm,ct,rfl,rfl,h2⟩:=z8 hq (key 9) ⟨n,[],by simp only [go_sem,reduceEqDiff,za]<;>rfl,rfl,by omega,by simp⟩
  simp only [go_sem,za,h2]
 ·rintro k st ⟨m,s,rfl,hk,hm,hs⟩
  cases k with
  | zero=>
   right
   have hm0:m=0:=by simpa using hm
   subst hm0;simp only [go_sem,reduceEqDiff,zc3,show ¬(0:Int)<((0:Nat):Int) by omega,show ¬((s.length:Nat):Int)<9 by omega];refine ⟨_,_,rfl,by simp,_,_,rfl,rfl,?_⟩;simp only [go_sem,reduceEqDiff];rw [hs];rfl
  | succ k=>
   left
   have hr:((m:Int)).tmod 10=((m%10:Nat):Int):=by rw [Int.tmod_eq_emod_of_nonneg (by omega)];rfl
   have hq:((m:Int)).tdiv 10=((m/10:Nat):Int):=by rw [Int.tdiv_eq_ediv_of_nonneg (by omega)];rfl
   have hd:=zjm (r:=m%10) (by omega);have hmb:m<10000000000:=Nat.lt_of_lt_of_le hm (by simpa using Nat.pow_le_pow_right (show 0<10 by decide) (show k+1≤10 by omega));have fin:∃s',D P L zc3 ⟨[(0,zh m),(1,zh 9),(5,.str s)],[],0,0⟩=some (.normal,s')∧zA [0,1,5] s'=⟨[(0,zh (m/10:Nat)),(1,zh 9),(5,.str ([48+m%10]++s))],[],0,0⟩:=by
    by_cases hc:(0:Int)<m
    ·simp only [go_sem,reduceEqDiff,reduceAdd,zc3,hc,zaK _ _ _ (show (10:Int)≠0 by decide),zai _ _ _ (show (10:Int)≠0 by decide),hr,hq,zy (n:=m%10+1) (by omega),ze (n:=((m/10:Nat):Int)) (by omega) (by omega),zau,zae,show ((m%10:Nat):Int)+1=((m%10+1:Nat):Int) from rfl,hd,zap (a:=[48+m%10]) (b:=s) (by simp;omega)];exact ⟨_,rfl,by simp only [go_sem,reduceEqDiff,za]⟩
    ·simp only [go_sem,reduceEqDiff,reduceAdd,zc3,hc,show ((s.length:Nat):Int)<9 by omega,zaK _ _ _ (show (10:Int)≠0 by decide),zai _ _ _ (show (10:Int)≠0 by decide),hr,hq,zy (n:=m%10+1) (by omega),ze (n:=((m/10:Nat):Int)) (by omega) (by omega),zau,zae,show ((m%10:Nat):Int)+1=((m%10+1:Nat):Int) from rfl,hd,zap (a:=[48+m%10]) (b:=s) (by simp;omega)];exact ⟨_,rfl,by simp only [go_sem,reduceEqDiff,za]⟩
   obtain ⟨s',f1,f2⟩:=fin;exact ⟨s',k,f1,by omega,m/10,_,f2,by simp;omega,by rw [Nat.pow_succ] at hm;omega,by rw [hs];simp [zd7]⟩
end
end VE
end
section
namespace VE
open Go (IntKind)
theorem zkV {l:List Int} (hd:dg l) (hn:nz l) (h:0<l.length):0<l.getD (l.length-1) 0:=by
 rcases zpM l with rfl | ⟨m,a,rfl⟩
 ·simp at h
 ·have e:(m++[a]).getD ((m++[a]).length-1) 0=a:=by simp [List.getD_eq_getElem?_getD]
  rw [e];have ha:=dg_one.1 (dg_append.1 hd).2;by_cases h0:a=0
  ·subst h0
   have:=zfS m
   have e:=congrArg List.length hn;rw [zdP] at e;simp at e;omega
  ·omega
section
variable {P:zN} {L:Lib}
theorem zGt (h292:Has P L 292 zkF) {neg:Bool} {w:AV} {l:List Int} (hw:IsI w l) (hd:dg l) (hn:nz l) (hl:l.length≤20000000000):
  ∀k s,(∃(j:Nat) (t:List Nat),zA [1,3,4] s=⟨[(1,.ptr 0 0),(3,.str t),(4,zh ((j:Int)-1))],[(0,.cells true true true 2 [.bool neg,w])],1,0⟩∧j=k∧j<l.length∧0<dv (l.drop j)∧t=zo (dv (l.drop j))∧t.length≤9*(l.length-j))→
   ∃ex s',D P L (.loop [1,3,4] zkL) s=some (ex,s')∧∃tm,s'=⟨tm,[(0,.cells true true true 2 [.bool neg,w])],1,0⟩∧ex= .exit 0∧zc tm 1= .ptr 0 0∧zc tm 3= .str (zo (dv l))∧(zo (dv l)).length≤180000000000:=by
 refine zS (I:=fun k s=>∃(j:Nat) (t:List Nat),s=⟨[(1,.ptr 0 0),(3,.str t),(4,zh ((j:Int)-1))],[(0,.cells true true true 2 [.bool neg,w])],1,0⟩∧j=k∧j<l.length∧0<dv (l.drop j)∧t=zo (dv (l.drop j))∧t.length≤9*(l.length-j))
  (Q:=fun ex s'=>∃tm,s'=⟨tm,[(0,.cells true true true 2 [.bool neg,w])],1,0⟩∧ex= .exit 0∧zc tm 1= .ptr 0 0∧zc tm 3= .str (zo (dv l))∧(zo (dv l)).length≤180000000000) ?_
 rintro k s ⟨j,t,rfl,rfl,hj,hpos,ht,htl⟩
 cases j with
 | zero=>
  right
  rw [List.drop_zero] at ht;simp only [go_sem,reduceEqDiff,zkL,show ¬(0:Int)≤((0:Nat):Int)-1 by omega];exact ⟨_,_,rfl,by simp,_,rfl,rfl,by simp only [go_sem,reduceEqDiff],by rw [←ht];simp only [go_sem,reduceEqDiff],by rw [←ht];omega⟩
 | succ i=>
  left
  have hi:i<l.length:=by omega
  obtain ⟨x,hx⟩:∃x,x=l.getD i 0:=⟨_,rfl⟩;have e1:=zfP hw hi;have gx:=zbi hd i;rw [←hx] at e1 gx;obtain ⟨m,rfl⟩:∃m:Nat,x=m:=⟨x.toNat,by omega⟩;have e2:=zLX h292 (n:=m) (by omega);unfold zK at e2;have hlp:=zjw 9 m;have hdr:dv (l.drop i)=dv (l.drop (i+1))*10^9+m:=by
   have:l.drop i=(m:Int)::l.drop (i+1):=by
    rw [List.drop_eq_getElem_cons hi,hx];simp [List.getD_eq_getElem?_getD,List.getElem?_eq_getElem hi]
   rw [this];simp only [dv,Int.toNat_natCast];omega
  have hnat:zo (dv (l.drop i))=t++zd7 9 m:=by
   rw [hdr,zhu 9 _ m hpos (by omega),ht]
  simp only [go_sem,reduceEqDiff,zkL,show ((i+1:Nat):Int)-1=(i:Int) by omega,show (0:Int)≤(i:Int) by omega,zI,Nat.zero_add,zak,e1,e2,zap (a:=t) (b:=zd7 9 m) (by omega)];refine ⟨_,i,rfl,by omega,i,t++zd7 9 m,?_,rfl,by omega,by omega,hnat.symm,by simp;omega⟩;rw [ze (by omega) (by omega)];simp only [go_sem,reduceEqDiff,reduceAdd,za]<;>rfl
theorem zQI (h:Has P L 282 zyG) (h292:Has P L 292 zkF) {v:AV} {n:Int} {K:Nat} (hK:K≤18000000000) (hv:IsR v n) (hn:n.natAbs<1000000000^K):zK P L 282 [v] (.str (zW n))∧(zW n).length≤180000000001:=by
 obtain ⟨w,l,rfl,hw,hd,hz,hdv⟩:=hv;have hl:=Nat.le_trans (zem hd hz (by rw [hdv];exact hn)) hK
 by_cases h0:l=[]
 ·subst h0;have hn0:n=0:=by simp [dv] at hdv;omega
  subst hn0;refine ⟨?_,by decide⟩;unfold zK;rw [zf h];simp only [go_sem,reduceEqDiff,reduceAdd,zyG,zu,hw.len,hw.pu,hw.one,zI,Nat.zero_add,zak,List.length_nil,show ((0:Nat):Int)=(0:Int) from rfl,decide_true];rfl
 ·have hpos:0<l.length:=List.length_pos_iff.2 h0;obtain ⟨x,hx⟩:∃x,x=l.getD (l.length-1) 0:=⟨_,rfl⟩;have e1:=zfP hw (show l.length-1<l.length by omega);have gx:=zbi hd (l.length-1);have gp:=zkV hd hz hpos;rw [←hx] at e1 gx gp;obtain ⟨m,rfl⟩:∃m:Nat,x=m:=⟨x.toNat,by omega⟩;have e2:=zyX h292 (n:=m) (by omega);unfold zK at e2;have hdr:dv (l.drop (l.length-1))=m:=by
   rw [List.drop_eq_getElem_cons (show l.length-1<l.length by omega),List.drop_eq_nil_of_le (by omega)]
   have:l[l.length-1]=(m:Int):=by rw [hx];simp [List.getD_eq_getElem?_getD,List.getElem?_eq_getElem (show l.length-1<l.length by omega)]
   simp [dv,this]
  have h9:(zo m).length≤9:=zb7 (k:=8) (by omega);have fin:∀neg:Bool,zk P L (D P L) 282 [.agg [.bool neg,w]]=some (.str ((if neg=true then [45] else [])++zo (dv l)))∧(zo (dv l)).length≤180000000000:=fun neg=>by
   rw [zf h]
   simp only [go_sem,reduceEqDiff,reduceAdd,zyG,zu,hw.len,hw.pu,hw.one,zI,Nat.zero_add,zak,show ¬(l.length:Int)=0 by omega,show (l.length:Int)-1=((l.length-1:Nat):Int) by omega,zy (n:=l.length-1) (by omega),e1,e2];generalize hq:D P L (.loop [1,3,4] zkL) _=q;obtain ⟨ex,s,rfl,tm,rfl,rfl,t1,t3,hlen⟩:=z8 hq (zGt (P:=P) (L:=L) h292 (neg:=neg) hw hd hz (by omega) (l.length-1)) ⟨l.length-1,zo m,by
    rw [show (l.length:Int)-2=((l.length-1:Nat):Int)-1 by omega,ze (by omega) (by omega)]
    simp only [go_sem,reduceEqDiff,reduceAdd,za]<;>rfl,rfl,by omega,by rw [hdr];omega,by rw [hdr],by omega⟩
   refine ⟨?_,hlen⟩
   cases neg with
   | true=>
    simp only [go_sem,reduceEqDiff,za,t1,t3,zI,Nat.zero_add,zap (a:=[45]) (b:=zo (dv l)) (by simp;omega),if_true]
   | false=>
    simp only [go_sem,reduceEqDiff,za,t1,t3,zI,Nat.zero_add];rfl
  obtain ⟨f1,f2⟩:=fin (decide (n<0));rw [hdv] at f1 f2;simp only [decide_eq_true_eq] at f1;rw [za3] at f1;refine ⟨f1,?_⟩;rw [←za3]
  split<;>simp<;>omega
structure Rb (P:zN) (L:Lib):Prop where
 h262:Has P L 262 zw3
 h272:Has P L 272 zAQ
 h274:Has P L 274 zAd
 h275:Has P L 275 zAh
 h277:Has P L 277 zid
 h280:Has P L 280 zOy
 h281:Has P L 281 zFr
 h282:Has P L 282 zyG
 h288:Has P L 288 zB3
 h289:Has P L 289 zla
 h290:Has P L 290 zxd
 h291:Has P L 291 zo8
 h292:Has P L 292 zkF
 h293:Has P L 293 zoV
 h294:Has P L 294 zyW
 h295:Has P L 295 zCj
 h296:Has P L 296 zmp
 h298:Has P L 298 zOd
 h299:Has P L 299 znz
 h300:Has P L 300 ziW
 h302:Has P L 302 zpe
end
end VE
end
