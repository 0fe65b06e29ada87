import Derived.Test.YtkhmakhdoedjiaaGreatDoorTbt
import Derived.Test.YtkhmakhdoedjiaaGreatDoorTbn
set_option linter.all false
set_option maxRecDepth 100000
open Nat (reduceAdd reduceEqDiff reduceLT reduceLeDiff reduceMul)
section
namespace VE
open Go (IntKind)
section
variable {P:zN} {L:Lib}
theorem zCT {v w:AV} {a vs:List Int} {f:Int} (hv:IsI v a) (hw:IsI w vs) {n:Nat} (la:a.length≤9000000000) {A:Nat}:
  ∀k st,(∃us:List Int,zA [0,8,9,10,11] st=⟨[(0,v),(8,.osl 0 0 1),(9,w),(10,zh n),(11,.osl 1 0 us.length)],[(1,.cells true true false 1 (us.map zh)),(0,.cells false true true 1 [zh f])],2,0⟩∧us.length+k=a.length+1∧dg us∧dv us=A)→
   ∃ex st',D P L (.loop [0,8,9,10,11] zjY) st=some (ex,st')∧∃tm us,st'=⟨tm,[(1,.cells true true false 1 (us.map zh)),(0,.cells false true true 1 [zh f])],2,0⟩∧ex= .exit 0∧zc tm 8= .osl 0 0 1∧zc tm 9=w∧zc tm 10=zh n∧zc tm 11= .osl 1 0 (a.length+1)∧us.length=a.length+1∧dg us∧dv us=A:=by
 refine zS (I:=fun k st=>∃us:List Int,st=⟨[(0,v),(8,.osl 0 0 1),(9,w),(10,zh n),(11,.osl 1 0 us.length)],[(1,.cells true true false 1 (us.map zh)),(0,.cells false true true 1 [zh f])],2,0⟩∧us.length+k=a.length+1∧dg us∧dv us=A)
  (Q:=fun ex st'=>∃tm us,st'=⟨tm,[(1,.cells true true false 1 (us.map zh)),(0,.cells false true true 1 [zh f])],2,0⟩∧ex= .exit 0∧zc tm 8= .osl 0 0 1∧zc tm 9=w∧zc tm 10=zh n∧zc tm 11= .osl 1 0 (a.length+1)∧us.length=a.length+1∧dg us∧dv us=A) ?_
 rintro k st ⟨us,rfl,hk,gu,hval⟩;have ea:((a.length:Nat):Int)+1=((a.length+1:Nat):Int):=rfl;by_cases hi:us.length<a.length+1
 ·left
  simp only [go_sem,reduceEqDiff,reduceAdd,reduceLeDiff,Nat.mul_one,zjY,hv.len,ea,zy (n:=a.length+1) (by omega),show ((us.length:Nat):Int)<((a.length+1:Nat):Int) by omega]
  rw [zcc (ex:=false) (pu:=true) (cs:=us.map zh) (by simp only [go_sem,reduceEqDiff]) (by simp) (by omega) (by omega) (by decide) (by simp only [go_sem])];simp only [go_sem,reduceEqDiff,reduceAdd];refine ⟨_,k-1,rfl,by omega,us++[0],?_,by simp;omega,dg_append.2 ⟨gu,dg_one.2 (by decide)⟩,by rw [za6];simp [dv,hval]⟩;rw [List.map_append,List.length_append];simp only [go_sem,reduceEqDiff,reduceAdd,za,zb hv.pu,zd _ hv.pu,zb hw.pu,zd _ hw.pu]<;>rfl
 ·right
  have hl:us.length=a.length+1:=by omega
  rw [hl]
  simp only [go_sem,reduceEqDiff,zjY,hv.len,ea,zy (n:=a.length+1) (by omega),show ¬((a.length+1:Nat):Int)<((a.length+1:Nat):Int) by omega];exact ⟨_,_,rfl,by simp,_,us,rfl,rfl,by simp only [go_sem,reduceEqDiff],by simp only [go_sem,reduceEqDiff],by simp only [go_sem,reduceEqDiff],by simp only [go_sem,reduceEqDiff],hl,gu,hval⟩
end
theorem zzx:∀l:List Int,zH (l.map zh)=true
 | []=>rfl
 | a::r=>by rw [List.map_cons,zl4,zzx r];rfl
theorem zwb:∀l:List Int,zn (l.map zh)=true
 | []=>rfl
 | a::r=>by rw [List.map_cons,zn,zwb r];rfl
theorem zA1 {hp:Hp} {ct:Nat} {e:Bool} {us:List Int} {o:Obj} (h:us.length≤100000000000):
  zo6 ((1,.cells true true true 1 [])::(0,o)::hp) ct 1 8 (.osl 1 0 0) (zcC ((1,.cells true true true 1 [])::(0,o)::hp) 1 (.vsl e us.length (us.map zh)))=some (.osl ct 0 us.length,(ct,.cells true true false 1 (us.map zh))::hdel ((1,.cells true true true 1 [])::(0,o)::hp) 1,ct+1):=by
 have h1:zcC ((1,.cells true true true 1 [])::(0,o)::hp) 1 (.vsl e us.length (us.map zh))=some (us.length,us.map zh):=by
  simp [zcC]
 rw [h1,zcc (cs:=[]) (pu:=true) (ex:=true) rfl (by simp) (by omega) (by omega) (by decide) (zzx us),zwb,Nat.zero_add];rfl
theorem zHe {l:List Int} (hd:dg l) (hn:nz l) (h:0<l.length):1000000000^(l.length-1)≤dv l:=zsj hn hd (fun e=>by subst e;simp at h)
theorem zxT {n top f V:Nat} (hf:f=1000000000/(top+1)) (ht0:0<top) (ht:top<1000000000) (h1:V<1000000000^(n-1)*(top+1)) (hn:0<n):0<f∧f<1000000000∧V*f<1000000000^n:=by
 have h2:f*(top+1)≤1000000000:=by rw [hf];exact Nat.div_mul_le_self _ _
 have h3:0<f:=by rw [hf];exact Nat.div_pos (by omega) (by omega)
 refine ⟨h3,?_,?_⟩
 ·have:=Nat.mul_le_mul_left f (show 2≤top+1 by omega)
  omega
 ·have e1:=Nat.mul_lt_mul_of_pos_right h1 h3;rw [Nat.mul_assoc,Nat.mul_comm (top+1) f] at e1;have e2:=Nat.mul_le_mul_left (1000000000^(n-1)) h2;rw [←Nat.pow_succ,show (n-1).succ=n by omega] at e2;exact Nat.lt_of_lt_of_le e1 e2
section
variable {P:zN} {L:Lib}
theorem zLg (h:Has P L 289 zla) (h293:Has P L 293 zoV) (h299:Has P L 299 znz) (h300:Has P L 300 ziW) (h301:Has P L 301 c301) {v w:AV} {a b:List Int} (hv:IsI v a) (hw:IsI w b) (ha:dg a) (hb:dg b) (na:nz a) (nb:nz b) (la:a.length≤8000000000) (lb:2≤b.length) (ec:zK P L 296 [v,w] (zh (zbS (dv a) (dv b)))) (hc:dv b≤dv a):
  ∃q r lq lr,zK P L 289 [v,w] (.tup [q,r])∧IsI q lq∧IsI r lr∧dg lq∧nz lq∧dg lr∧nz lr∧dv lq=dv a/dv b∧dv lr=dv a%dv b:=by
 have hc1:¬zbS (dv a) (dv b)<0:=by unfold zbS;rw [if_neg (by omega)];split<;>decide
 have hbtop:=zHe hb nb (by omega);have hba:b.length≤a.length:=by
  have:=zek ha
  have h1:1000000000^(b.length-1)<1000000000^a.length:=by omega
  have:=(Nat.pow_lt_pow_iff_right (show 1<1000000000 by decide)).1 h1
  omega
 obtain ⟨n,hn⟩:∃n,n=b.length:=⟨_,rfl⟩;have gtop:=zbi hb (n-1);have hlast:=zkV hb nb (by omega);rw [←hn] at hlast;obtain ⟨top,htop⟩:∃v:Nat,b.getD (n-1) 0=v:=⟨(b.getD (n-1) 0).toNat,by omega⟩;have etop:=zfP hw (i:=n-1) (by omega);rw [htop] at gtop hlast etop;have hbt:=zc8 (l:=b) (n-1);rw [show n-1+1=n by omega,List.take_of_length_le (by omega),htop,Int.toNat_natCast] at hbt;have hblow:=zek (ze0 hb (n-1));rw [List.length_take,Nat.min_eq_left (by omega)] at hblow;obtain ⟨f,hf⟩:∃f,f=1000000000/(top+1):=⟨_,rfl⟩;obtain ⟨hf0,hfB,hfV⟩:=zxT (n:=n) (V:=dv b) hf (by omega) (by omega) (by rw [Nat.mul_add,Nat.mul_one];omega) (by omega);have hIf:IsI (.vsl true 1 [zh f]) [(f:Int)]:=zcd true [(f:Int)];have gf:dg [(f:Int)]:=dg_one.2 (by omega);have vf:dv [(f:Int)]=f:=by simp [dv]
 obtain ⟨v',vs,e1,hv',hsv,gvs,nvs,vvs⟩:=zN2 h293 h300 hw hIf hb gf (by omega) (by simp);obtain ⟨u',us0,e2,hu',hsu,gus,nus,vus⟩:=zN2 h293 h300 hv hIf ha gf (by omega) (by simp);rw [vf] at vvs vus;have hV0:0<dv b:=by have:=Nat.pow_pos (n:=b.length-1) (show 0<1000000000 by decide);omega
 have lvs:vs.length=n:=by
  have h1:vs.length≤n:=zem gvs nvs (by rw [vvs];exact hfV)
  have h2:dv b≤dv vs:=by rw [vvs];exact Nat.le_mul_of_pos_right _ hf0
  have h3:=zek gvs;have h4:1000000000^(n-1)<1000000000^vs.length:=by rw [hn];omega
  have:=(Nat.pow_lt_pow_iff_right (show 1<1000000000 by decide)).1 h4
  omega
 have lus:us0.length≤a.length+1:=by
  refine zem gus nus ?_;rw [vus,Nat.pow_succ];exact Nat.mul_lt_mul'' (zek ha) hfB
 have hus0:0<us0.length:=by
  rcases Nat.eq_zero_or_pos us0.length with e | e
  ·have h1:0<dv a*f:=Nat.mul_pos (by omega) hf0;rw [List.eq_nil_of_length_eq_zero e] at vus;simp only [dv] at vus;omega
  ·exact e
 have hv1:0<vs.getD (n-1) 0:=by
  have:=zkV gvs nvs (by omega)
  rwa [lvs] at this
 obtain ⟨m,hm⟩:∃m,m=a.length+1-n:=⟨_,rfl⟩;have hmk:∀ct:Nat,znZ ct 1 8 [.int .i64 0] (some m) (some m)=some (.osl ct 0 m,.cells true true true 1 ((List.replicate m (0:Int)).map zh)):=fun ct=>by
  rw [zm0 (sz:=1) (by omega) (by omega) (by rfl) (by rfl),zgq];rfl
 obtain ⟨e,rfl⟩:∃e,u'= .vsl e us0.length (us0.map zh):=by
  rcases hu' with ⟨rfl,h0⟩ | ⟨e,rfl⟩
  ·rw [List.map_eq_nil_iff] at h0;rw [h0] at hus0;simp at hus0
  ·exact ⟨e,by rw [List.length_map]⟩
 have htopu:∀us:List Int,us.length=a.length+1→dv us=dv a*f→dv (us.drop m)<dv vs:=fun us hl hd=>by
  have e1:=zjL us m (by omega);have e2:=zek ha;have e3:=Nat.mul_lt_mul_of_pos_right e2 hf0;have e4:1000000000^a.length=1000000000^m*1000000000^(n-1):=by rw [←Nat.pow_add];congr 1;omega
  rw [←hd,e4,Nat.mul_assoc] at e3;have e5:1000000000^m*dv (us.drop m)<1000000000^m*(1000000000^(n-1)*f):=by omega
  refine Nat.lt_of_lt_of_le (Nat.lt_of_mul_lt_mul_left e5) ?_;rw [vvs,hn];exact Nat.mul_le_mul_right _ hbtop
 have goal:∃us qs,(us.length=a.length+1∧qs.length=m∧dg us∧dg qs∧dv us+dv qs*dv vs=dv a*f∧dv us<dv vs)∧
   ∃q1 r1 lr,IsI q1 (zaR qs)∧IsI r1 lr∧dg lr∧nz lr∧dv lr=dv (us.take n)/f∧zK P L 289 [v,w] (.tup [q1,r1]):=by
  unfold zK at ec e1 e2;unfold zK;rw [zf h];have hquo:IntKind.wrap .i64 ((1000000000:Int).tdiv ((top+1:Nat):Int))=(f:Int):=by
   rw [Int.tdiv_eq_ediv_of_nonneg (by decide),show (1000000000:Int)/((top+1:Nat):Int)=((1000000000/(top+1):Nat):Int) from rfl,←hf,ze (by omega) (by omega)]
  simp only [go_sem,reduceEqDiff,reduceAdd,reduceLT,reduceLeDiff,Nat.mul_one,zla,hv.frz,hw.len,hw.frz,ec,hc1,show ¬(n:Int)=1 by omega,←hn,show (n:Int)-1=((n-1:Nat):Int) by omega,zy (n:=n-1) (by omega),etop,show ((top:Nat):Int)+1=((top+1:Nat):Int) from rfl,zy (n:=top+1) (by omega),zai _ _ _ (show ((top+1:Nat):Int)≠0 by omega),hquo,e1,hsv,hv'.len,lvs,e2,hsu,zA1 (us:=us0) (e:=e) (by omega)];generalize hq0:D P L (.loop [0,8,9,10,11] zjY) _=q0;obtain ⟨ex,st,rfl,tm,us,rfl,rfl,t8,t9,t10,t11,lu,gu,vu⟩:=z8 hq0 (zCT (P:=P) (L:=L) (f:=(f:Int)) (n:=n) (A:=dv a*f) hv hv' (by omega) (a.length+1-us0.length)) ⟨us0,by
   simp only [go_sem,reduceEqDiff,reduceAdd,za,zb hv.pu,zd _ hv.pu,zb hv'.pu,zd _ hv'.pu]<;>rfl,by omega,gus,vus⟩
  have em:((a.length+1:Nat):Int)-(n:Int)=(m:Int):=by omega
  have em1:(m:Int)-1=((m-1:Nat):Int):=by omega
  simp only [go_sem,reduceEqDiff,reduceAdd,za,zb hv'.pu,zd _ hv'.pu,t8,t9,t10,t11,em,zy (n:=m) (by omega),hmk,em1,zy (n:=m-1) (by omega)];generalize hq1:D P L (.loop [8,9,10,11,12,13] zk2) _=q1;obtain ⟨ex,st,rfl,tm2,us1,qs,rfl,rfl,t8,t10,t11,t12,lu1,lq1,gu1,gq1,hval,hlt⟩:=z8 hq1 (zCi (P:=P) (L:=L) h301 (f:=(f:Int)) hv' gvs lvs (by omega) (show n<a.length+1 by omega) (by omega) (by omega) hv1 (U0:=dv a*f) m) ⟨m,us,List.replicate m 0,by
   rw [show ((m-1:Nat):Int)=(m:Int)-1 by omega]
   simp only [go_sem,reduceEqDiff,reduceAdd,za,zb hv'.pu,zd _ hv'.pu]<;>rfl,rfl,Nat.le_refl _,lu,by simp,gu,znb m,fun i _=>zkx m i,by rw [znI,Nat.zero_mul,Nat.add_zero,vu],htopu us lu vu⟩
  have hcut:∀(hp:Hp) tm (y:X),zq hp 1=some (.cells true true false 1 (us1.map zh))→zao tm (a.length+1) (some y)=some n→zbe hp (.sl 1) (.osl 1 0 (a.length+1)) tm none (some y)=some (.osl 1 0 n):=fun hp tm y h1 h2=>zoz h1 h2 (by omega) (by omega)
  obtain ⟨e',hfp⟩:∃e',∀hp:Hp,zgw 0 n (some (false,1,us1.map zh,hp))=some (.vsl e' n ((us1.take n).map zh),hp):=by
   refine ⟨false&&Nat.blt 0 1&&Nat.beq n (us1.map zh).length,fun hp=>?_⟩;simp only [zgw,Nat.zero_add,Nat.mul_one,slice,List.drop_zero,←List.map_take];rw [Nat.ble_eq_true_of_le (by simp;omega)];rfl
  have ltk:(us1.take n).length=n:=by rw [List.length_take];omega
  have hfr:=zcd e' (us1.take n);rw [ltk] at hfr;obtain ⟨r0,f1,hr0,hsr0⟩:=zu6 h300 hfr (by omega);obtain ⟨r1,lr,f2,hr1,hsr1,hsr1',dr,nr,vr⟩:=zOq h299 h300 hr0 (zdT (ze0 gu1 n)) (by have:=zfS (us1.take n);omega) hf0 hfB;have hfq:=zcd true qs;rw [lq1] at hfq;obtain ⟨q1,f3,hq1,hsq1⟩:=zu6 h300 hfq (by omega);rw [zd3] at vr;unfold zK at f1 f2 f3;refine ⟨us1,qs,⟨lu1,lq1,gu1,gq1,hval,hlt⟩,q1,r1,lr,hq1,hr1,dr,nr,vr,?_⟩;have hix:zdh 1 0 (AV.osl 0 0 1)=some (.ptr 0 0):=zY 0 0 (show 0<1 by omega)
  simp only [go_sem,reduceEqDiff,reduceAdd,za,t8,t10,t11,t12,hcut,zae,hfp,f1,hsr0,hr0.frz,hix,f2,hsr1',fun hp=>zdY (hp:=hp) (k:=m) (sz:=1) (cs:=qs.map zh) true (by simp [lq1]) (by decide),f3,hsq1];rcases hq1 with ⟨rfl,_⟩ | ⟨_,rfl⟩<;>rcases hr1 with ⟨rfl,_⟩ | ⟨_,rfl⟩<;>rfl
 obtain ⟨us,qs,⟨lu,lq,gu,gq,hval,hlt⟩,q1,r1,lr,hq1,hr1,dr,nr,vr,e⟩:=goal;rw [vvs] at hval hlt;have hquo:dv qs=dv a/dv b:=by
  rw [←Nat.mul_div_mul_right _ _ hf0,←hval,Nat.add_comm,Nat.mul_comm,Nat.mul_add_div (Nat.mul_pos hV0 hf0),Nat.div_eq_of_lt hlt,Nat.add_zero]
 have hus:dv us=(dv a%dv b)*f:=by
  rw [←Nat.mul_mod_mul_right,←hval,Nat.add_comm,Nat.mul_comm (dv qs),Nat.mul_add_mod,Nat.mod_eq_of_lt hlt]
 have hsplit:=zjL us n (by omega);have hd0:dv (us.drop n)=0:=by
  rcases Nat.eq_zero_or_pos (dv (us.drop n)) with h0 | h0
  ·exact h0
  ·have:=Nat.mul_le_mul_left (1000000000^n) h0
   omega
 rw [hd0,Nat.mul_zero,Nat.add_zero] at hsplit;rw [←hsplit,hus,Nat.mul_div_cancel _ hf0] at vr;exact ⟨q1,r1,_,lr,e,hq1,hr1,zdT gq,zgY _,dr,nr,by rw [zd3,hquo],vr⟩
theorem zDn (h:Has P L 289 zla) (h293:Has P L 293 zoV) (h296:Has P L 296 zmp) (h299:Has P L 299 znz) (h300:Has P L 300 ziW) (h301:Has P L 301 c301) {v w:AV} {a b:List Int} (hv:IsI v a) (hw:IsI w b) (ha:dg a) (hb:dg b) (na:nz a) (nb:nz b) (la:a.length≤8000000000) (lb:b.length≤8000000000) (h0:0<dv b):
  ∃q r lq lr,zK P L 289 [v,w] (.tup [q,r])∧IsI q lq∧IsI r lr∧dg lq∧nz lq∧dg lr∧nz lr∧dv lq=dv a/dv b∧dv lr=dv a%dv b:=by
 by_cases hl:b.length≤1
 ·exact zPL h h296 h299 h300 hv hw ha hb na nb (by omega) hl h0
 have ec:=zMG h296 hv hw ha hb na nb (by omega) (by omega);by_cases hc:dv a<dv b
 ·unfold zK at ec;have hc1:zbS (dv a) (dv b)= -1:=by unfold zbS;rw [if_pos hc]
  rw [hc1] at ec;refine ⟨.nils,v,[],a,?_,zeL,hv,rfl,rfl,ha,na,?_,?_⟩
  ·unfold zK;rw [zf h];simp only [go_sem,reduceEqDiff,zla,hv.frz,hw.frz,ec,show (-1:Int)<0 by decide];rcases hv with ⟨rfl,_⟩ | ⟨e,rfl⟩<;>rfl
  ·rw [Nat.div_eq_of_lt hc];rfl
  ·rw [Nat.mod_eq_of_lt hc]
 ·exact zLg h h293 h299 h300 h301 hv hw ha hb na nb la (by omega) ec (by omega)
theorem zO3 (h:Has P L 275 zAh) (h289:Has P L 289 zla) (h293:Has P L 293 zoV) (h296:Has P L 296 zmp) (h299:Has P L 299 znz) (h300:Has P L 300 ziW) (h301:Has P L 301 c301) {v w:AV} {a b:List Int} (hv:IsI v a) (hw:IsI w b) (ha:dg a) (hb:dg b) (na:nz a) (nb:nz b) (la:a.length≤8000000000) (lb:b.length≤8000000000):
  ∃r l,zK P L 275 [v,w] r∧IsI r l∧dg l∧nz l∧dv l=Nat.gcd (dv a) (dv b):=by
 have key:=zS (P:=P) (L:=L) (live:=[0,1]) (a:=zjy)
  (I:=fun k st=>∃x y lx ly,st=⟨[(0,x),(1,y)],[],0,0⟩∧IsI x lx∧IsI y ly∧dg lx∧nz lx∧dg ly∧nz ly∧lx.length≤8000000000∧ly.length≤8000000000∧dv ly=k∧Nat.gcd (dv lx) (dv ly)=Nat.gcd (dv a) (dv b))
  (Q:=fun ex st=>∃tm ct,st=⟨tm,[],ct,0⟩∧ex= .exit 0∧∃x lx,zc tm 0=x∧IsI x lx∧dg lx∧nz lx∧dv lx=Nat.gcd (dv a) (dv b)) ?_
 ·unfold zK;rw [zf h];simp only [go_sem,zAh];generalize hq:D P L (.loop [0,1] zjy) _=q;obtain ⟨ex,st,rfl,tm,ct,rfl,rfl,x,lx,h2,hx,dx,nx,vx⟩:=z8 hq (key (dv b)) ⟨v,w,a,b,by simp only [go_sem,reduceEqDiff,za,zb hv.pu,zd _ hv.pu,zb hw.pu,zd _ hw.pu]<;>rfl,hv,hw,ha,na,hb,nb,la,lb,rfl,rfl⟩
  refine ⟨x,lx,?_,hx,dx,nx,vx⟩;simp only [go_sem,za,h2,hx.res,zb hx.pu,zd _ hx.pu]
 ·rintro k st ⟨x,y,lx,ly,rfl,hx,hy,dx,nx,dy,ny,llx,lly,rfl,hg⟩;by_cases h0:ly=[]
  ·right
   subst h0;simp only [go_sem,reduceEqDiff,zjy,hy.len,List.length_nil,show ¬(0:Int)<((0:Nat):Int) by omega];refine ⟨_,_,rfl,by simp,_,_,rfl,rfl,x,lx,by simp only [go_sem,reduceEqDiff],hx,dx,nx,?_⟩;rw [←hg];simp [dv]
  ·left
   have hp:0<dv ly:=by
    rcases Nat.eq_zero_or_pos (dv ly) with e | e
    ·exact absurd (zmH ny dy e) h0
    ·exact e
   have hl:0<ly.length:=List.length_pos_iff.2 h0;obtain ⟨q,r,lq,lr,e1,hq,hr,dq,nq,dr,nr,vq,vr⟩:=zDn h289 h293 h296 h299 h300 h301 hx hy dx dy nx ny llx lly hp;have hlt:dv lr<dv ly:=by rw [vr];exact Nat.mod_lt _ hp
   have hB:=zek dy;unfold zK at e1;simp only [go_sem,reduceEqDiff,zjy,hx.frz,hy.len,hy.frz,show (0:Int)<ly.length by omega,e1,hq.shut1,hr.shut1];refine ⟨_,dv lr,rfl,hlt,y,r,ly,lr,?_,hy,hr,dy,ny,dr,nr,by omega,Nat.le_trans (zem dr nr (Nat.lt_trans hlt hB)) lly,rfl,?_⟩
   ·simp only [go_sem,reduceEqDiff,za,zb hy.pu,zd _ hy.pu,zb hr.pu,zd _ hr.pu]<;>rfl
   ·rw [←hg,vr,Nat.gcd_comm (dv ly),←Nat.gcd_rec,Nat.gcd_comm]
end
end VE
end
section
namespace VE
open Go (IntKind)
section
variable {P:zN} {L:Lib}
theorem zLI (h290:Has P L 290 zxd) {neg:Bool} {N:Nat} (hN:(zo N).length≤180000000000):
  ∀k s,(∃(i m:Nat) (out:List Int),m=k∧out.length=i∧dg out∧dv out+1000000000^i*m=N∧(zo m).length+9*i≤180000000000∧
    ((i=0∧zA [0,2,3,4] s=⟨[(0,.str (zo m)),(2,.ptr 0 0),(3,.bool neg),(4,.nils)],[(0,.cells true true true 2 [.bool false,.nils])],1,0⟩)∨
    (0<i∧zA [0,2,3,4] s=⟨[(0,.str (zo m)),(2,.ptr 0 0),(3,.bool neg),(4,.osl 1 0 i)],[(1,.cells true true false 1 (out.map zh)),(0,.cells true true true 2 [.bool false,.nils])],2,0⟩)))→
   ∃ex s',D P L (.loop [0,2,3,4] zeQ) s=some (ex,s')∧∃tm i m out,ex= .exit 0∧m<1000000000∧out.length=i∧dg out∧dv out+1000000000^i*m=N∧i<20000000000∧zc tm 0= .str (zo m)∧zc tm 2= .ptr 0 0∧zc tm 3= .bool neg∧
    ((i=0∧zc tm 4= .nils∧s'=⟨tm,[(0,.cells true true true 2 [.bool false,.nils])],1,0⟩)∨(0<i∧zc tm 4= .osl 1 0 i∧s'=⟨tm,[(1,.cells true true false 1 (out.map zh)),(0,.cells true true true 2 [.bool false,.nils])],2,0⟩)):=by
 refine zS (I:=fun k s=>∃(i m:Nat) (out:List Int),m=k∧out.length=i∧dg out∧dv out+1000000000^i*m=N∧(zo m).length+9*i≤180000000000∧
    ((i=0∧s=⟨[(0,.str (zo m)),(2,.ptr 0 0),(3,.bool neg),(4,.nils)],[(0,.cells true true true 2 [.bool false,.nils])],1,0⟩)∨
    (0<i∧s=⟨[(0,.str (zo m)),(2,.ptr 0 0),(3,.bool neg),(4,.osl 1 0 i)],[(1,.cells true true false 1 (out.map zh)),(0,.cells true true true 2 [.bool false,.nils])],2,0⟩)))
  (Q:=fun ex s'=>∃tm i m out,ex= .exit 0∧m<1000000000∧out.length=i∧dg out∧dv out+1000000000^i*m=N∧i<20000000000∧zc tm 0= .str (zo m)∧zc tm 2= .ptr 0 0∧zc tm 3= .bool neg∧
    ((i=0∧zc tm 4= .nils∧s'=⟨tm,[(0,.cells true true true 2 [.bool false,.nils])],1,0⟩)∨(0<i∧zc tm 4= .osl 1 0 i∧s'=⟨tm,[(1,.cells true true false 1 (out.map zh)),(0,.cells true true true 2 [.bool false,.nils])],2,0⟩))) ?_
 rintro k s ⟨i,m,out,rfl,hlen,hd,hval,hl,hs⟩;by_cases hm:1000000000≤m
 ·left
  obtain ⟨q,hq⟩:∃q,q=m/1000000000:=⟨_,rfl⟩;obtain ⟨r,hr⟩:∃r,r=m%1000000000:=⟨_,rfl⟩;have hcut:=zzk hm;rw [←hq,←hr] at hcut;have hpl:=zjw 9 r;have hqp:=zdd q;have hlm:(zo m).length=(zo q).length+9:=by rw [hcut,List.length_append,hpl]
  have c1:zf8 (zo m) (some (zo q).length) (some (zo m).length)=some (.str (zd7 9 r)):=by
   rw [zc9 (by omega) (Nat.le_refl _),List.take_length,hcut,List.drop_left]
  have c2:zf8 (zo m) (some 0) (some (zo q).length)=some (.str (zo q)):=by
   rw [zc9 (by omega) (by omega),List.drop_zero,hcut,List.take_left]
  have e1:=zG5 h290 (s:=zd7 9 r) (v:=r) (by omega) (by rw [znU 9 r 0 (by omega)];simp)
  unfold zK at e1;have hdg':dg (out++[(r:Int)]):=dg_append.2 ⟨hd,dg_one.2 (by omega)⟩;have hval':dv (out++[(r:Int)])+1000000000^(i+1)*q=N:=by
   rw [za6,hlen,←hval,Nat.pow_succ];have e:=Nat.mod_add_div m 1000000000;rw [←hr,←hq] at e;rw [←e];simp only [dv,Int.toNat_natCast,Nat.mul_zero,Nat.add_zero,Nat.mul_add,Nat.mul_assoc];omega
  have hsub:((zo m).length:Int)-9=((zo q).length:Int):=by omega
  rcases hs with ⟨h0,rfl⟩ | ⟨h0,rfl⟩
  ·subst h0;have hnil:out=[]:=List.eq_nil_of_length_eq_zero hlen;subst hnil
   simp only [go_sem,reduceEqDiff,reduceAdd,reduceMul,reduceLT,reduceLeDiff,Nat.mul_one,zeQ,show (9:Int)<((zo m).length:Int) by omega,hsub,zy (n:=(zo q).length) (by omega),zau,zay,zae,c1,c2,e1,zbX];refine ⟨_,q,rfl,by omega,1,q,[]++[(r:Int)],rfl,rfl,hdg',hval',by omega,.inr ⟨by omega,?_⟩⟩;simp only [go_sem,reduceEqDiff,reduceAdd,za];rfl
  ·simp only [go_sem,reduceEqDiff,reduceAdd,reduceLeDiff,Nat.mul_one,zeQ,show (9:Int)<((zo m).length:Int) by omega,hsub,zy (n:=(zo q).length) (by omega),zau,zay,zae,c1,e1]
   rw [zcc (ex:=false) (pu:=true) (cs:=out.map zh) (by simp only [go_sem,reduceEqDiff]) (by rw [List.length_map,hlen,Nat.mul_one]) (by omega) (by omega) (by decide) (by simp only [go_sem])]
   simp only [go_sem,reduceEqDiff,reduceAdd,zau,zay,zae,hsub,zy (n:=(zo q).length) (by omega),c2];refine ⟨_,q,rfl,by omega,i+1,q,out++[(r:Int)],rfl,by simp [hlen],hdg',hval',by omega,.inr ⟨by omega,?_⟩⟩;rw [List.map_append];simp only [go_sem,reduceEqDiff,reduceAdd,za]<;>rfl
 ·right
  have h9:(zo m).length≤9:=zb7 (k:=8) (by omega);have hp0:=zdd m;rcases hs with ⟨h0,rfl⟩ | ⟨h0,rfl⟩
  ·simp only [go_sem,zeQ,show ¬(9:Int)<((zo m).length:Int) by omega];exact ⟨_,_,rfl,by simp,_,i,m,out,rfl,by omega,hlen,hd,hval,by omega,by simp only [go_sem,reduceEqDiff],by simp only [go_sem,reduceEqDiff],by simp only [go_sem,reduceEqDiff],.inl ⟨h0,by simp only [go_sem,reduceEqDiff],rfl⟩⟩
  ·simp only [go_sem,zeQ,show ¬(9:Int)<((zo m).length:Int) by omega];exact ⟨_,_,rfl,by simp,_,i,m,out,rfl,by omega,hlen,hd,hval,by omega,by simp only [go_sem,reduceEqDiff],by simp only [go_sem,reduceEqDiff],by simp only [go_sem,reduceEqDiff],.inr ⟨h0,by simp only [go_sem,reduceEqDiff],rfl⟩⟩
end
end VE
end
section
namespace VE
open Go (IntKind)
section
variable {P:zN} {L:Lib}
theorem zNn (h:Rb P L) {n:Int} (hn:(zo n.natAbs).length≤180000000000):∃r,zK P L 288 [.str (zW n)] r∧IsR r n:=by
 obtain ⟨u,hu⟩:∃u,u=zo n.natAbs:=⟨_,rfl⟩;obtain ⟨b,t,hb,hb1,hb2⟩:=zeG n.natAbs;have hs:zW n=(if n<0 then [45] else [])++u:=by rw [hu,za3]
 have hu0:0<u.length:=by rw [hu];exact zdd _
 have hu1:u[0]=b:=by
  have:u=b::t:=by rw [hu,hb]
  simp [this]
 have key:∀(s:St),zA [0,2,3,4] s=⟨[(0,.str u),(2,.ptr 0 0),(3,.bool (decide (n<0))),(4,.nils)],[(0,.cells true true true 2 [.bool false,.nils])],1,0⟩→
   ∃ex s',D P L (.loop [0,2,3,4] zeQ) s=some (ex,s')∧∃tm i m out,ex= .exit 0∧m<1000000000∧out.length=i∧dg out∧dv out+1000000000^i*m=n.natAbs∧i<20000000000∧zc tm 0= .str (zo m)∧zc tm 2= .ptr 0 0∧zc tm 3= .bool (decide (n<0))∧
    ((i=0∧zc tm 4= .nils∧s'=⟨tm,[(0,.cells true true true 2 [.bool false,.nils])],1,0⟩)∨(0<i∧zc tm 4= .osl 1 0 i∧s'=⟨tm,[(1,.cells true true false 1 (out.map zh)),(0,.cells true true true 2 [.bool false,.nils])],2,0⟩)):=fun s hc=>
  zLI (P:=P) (L:=L) h.h290 (neg:=decide (n<0)) hn n.natAbs s ⟨0,n.natAbs,[],rfl,rfl,rfl,by simp [dv],by omega,.inl ⟨rfl,by rw [hc,hu]⟩⟩
 have fin:∀(i m:Nat) (out:List Int),m<1000000000→out.length=i→dg out→dv out+1000000000^i*m=n.natAbs→i<20000000000→∃w l,zk P L (D P L) 294 [.bool (decide (n<0)),.vsl false (i+1) ((out++[(m:Int)]).map zh)]=some (.agg [.bool (decide (n<0)),w])∧IsI w l∧dg l∧nz l∧dv l=n.natAbs:=fun i m out h1 h2 h3 h4 h5=>by
  have hv:=zcd false (out++[(m:Int)]);have hd:dg (out++[(m:Int)]):=dg_append.2 ⟨h3,dg_one.2 (by omega)⟩;have hval:dv (out++[(m:Int)])=n.natAbs:=by rw [za6,h2];simp [dv];exact h4
  obtain ⟨r,e,hr⟩:=zA9 h.h294 h.h300 (decide (n<0)) hv hd (by simp;omega);have hsg:za5 (decide (n<0)) (dv (out++[(m:Int)]))=n:=by
   rw [hval];unfold za5;by_cases h0:n<0
   ·simp only [h0,decide_true,if_true];omega
   ·simp only [h0,decide_false,Bool.false_eq_true,if_false];omega
  rw [hsg] at hr;obtain ⟨w,l,rfl,hw,hd2,hz2,hv2⟩:=hr;simp only [List.length_append,List.length_singleton,h2] at e;exact ⟨w,l,e,hw,hd2,hz2,hv2⟩
 unfold zK;rw [hs];by_cases h0:n<0
 ·rw [if_pos h0,zf h.h288];have hc0:zf8 (45::u) (some 1) (some (u.length+1))=some (.str u):=by rw [zc9 (s:=45::u) (l:=1) (h:=u.length+1) (by omega) (by simp)];simp
  simp only [h0,decide_true] at key fin ⊢;simp only [go_sem,reduceEqDiff,reduceAdd,zB3,zu,show (0:Int)<((u.length+1:Nat):Int) by omega,List.cons_append,List.nil_append,zE1,decide_true,zau,zay,zae,hc0];generalize hq:D P L (.loop [0,2,3,4] zeQ) _=q;obtain ⟨ex,s,rfl,tm,i,m,out,rfl,hm,hlen,hd,hval,hi,t0,t2,t3,hcase⟩:=z8 hq key (by simp only [go_sem,reduceEqDiff,reduceAdd,za]<;>rfl)
  have e1:=zG5 h.h290 (s:=zo m) (v:=m) (by have:=zb7 (k:=8) (n:=m) (by omega);omega) (zf4 m);have hi':i<20000000000:=hi;obtain ⟨w,l,e2,hw,hd2,hz2,hv2⟩:=fin i m out hm hlen hd hval hi';refine ⟨_,?_,w,l,rfl,hw,hd2,hz2,hv2⟩;unfold zK at e1;rcases hcase with ⟨hi0,t4,rfl⟩ | ⟨hi0,t4,rfl⟩
  ·subst hi0;have hnil:out=[]:=List.eq_nil_of_length_eq_zero hlen;subst hnil;have hfr:∀hp:Hp,zgw 0 1 (some (false,1,[AV.int .i64 (m:Int)],hp))=some (.vsl false 1 [AV.int .i64 (m:Int)],hp):=fun hp=>rfl
   simp only [List.nil_append,List.map_cons,List.map_nil,Nat.zero_add] at e2;simp only [go_sem,reduceEqDiff,reduceAdd,reduceMul,reduceLT,reduceLeDiff,Nat.mul_one,za,t0,t2,t3,t4,e1,zbX,hfr,e2,zO,hw.pu,hw.one,zcS];rcases hw with ⟨rfl,_⟩ | ⟨e,rfl⟩<;>simp only [h0,decide_true]<;>rfl
  ·simp only [go_sem,reduceEqDiff,reduceAdd,reduceLeDiff,Nat.mul_one,za,t0,t2,t3,t4,e1]
   rw [zcc (ex:=false) (pu:=true) (cs:=out.map zh) (by simp only [go_sem,reduceEqDiff]) (by rw [List.length_map,hlen,Nat.mul_one]) (by omega) (by omega) (by decide) (by simp only [go_sem])];have hfr:∀hp:Hp,zgw 0 (i+1) (some (false,1,out.map zh++[AV.int .i64 (m:Int)],hp))=some (.vsl false (i+1) (out.map zh++[AV.int .i64 (m:Int)]),hp):=fun hp=>zdY false (by simp [hlen]) (by decide)
   simp only [List.map_append,List.map_cons,List.map_nil] at e2;simp only [go_sem,reduceEqDiff,reduceAdd,hfr,e2,zO,hw.pu,hw.one,zcS,Bool.and_true];rcases hw with ⟨rfl,_⟩ | ⟨e,rfl⟩<;>simp only [h0,decide_true]<;>rfl
 ·rw [if_neg h0,zf h.h288,List.nil_append];simp only [h0,decide_false] at key fin ⊢;simp only [go_sem,reduceEqDiff,reduceAdd,zB3,zu,show (0:Int)<(u.length:Int) by omega,zbb hu0,hu1,show ¬((b:Nat):Int)=45 by omega];generalize hq:D P L (.loop [0,2,3,4] zeQ) _=q;obtain ⟨ex,s,rfl,tm,i,m,out,rfl,hm,hlen,hd,hval,hi,t0,t2,t3,hcase⟩:=z8 hq key (by simp only [go_sem,reduceEqDiff,reduceAdd,za]<;>rfl)
  have e1:=zG5 h.h290 (s:=zo m) (v:=m) (by have:=zb7 (k:=8) (n:=m) (by omega);omega) (zf4 m);have hi':i<20000000000:=hi;obtain ⟨w,l,e2,hw,hd2,hz2,hv2⟩:=fin i m out hm hlen hd hval hi';refine ⟨_,?_,w,l,rfl,hw,hd2,hz2,hv2⟩;unfold zK at e1;rcases hcase with ⟨hi0,t4,rfl⟩ | ⟨hi0,t4,rfl⟩
  ·subst hi0;have hnil:out=[]:=List.eq_nil_of_length_eq_zero hlen;subst hnil;have hfr:∀hp:Hp,zgw 0 1 (some (false,1,[AV.int .i64 (m:Int)],hp))=some (.vsl false 1 [AV.int .i64 (m:Int)],hp):=fun hp=>rfl
   simp only [List.nil_append,List.map_cons,List.map_nil,Nat.zero_add] at e2;simp only [go_sem,reduceEqDiff,reduceAdd,reduceMul,reduceLT,reduceLeDiff,Nat.mul_one,za,t0,t2,t3,t4,e1,zbX,hfr,e2,zO,hw.pu,hw.one,zcS];rcases hw with ⟨rfl,_⟩ | ⟨e,rfl⟩<;>simp only [h0,decide_false]<;>rfl
  ·simp only [go_sem,reduceEqDiff,reduceAdd,reduceLeDiff,Nat.mul_one,za,t0,t2,t3,t4,e1]
   rw [zcc (ex:=false) (pu:=true) (cs:=out.map zh) (by simp only [go_sem,reduceEqDiff]) (by rw [List.length_map,hlen,Nat.mul_one]) (by omega) (by omega) (by decide) (by simp only [go_sem])];have hfr:∀hp:Hp,zgw 0 (i+1) (some (false,1,out.map zh++[AV.int .i64 (m:Int)],hp))=some (.vsl false (i+1) (out.map zh++[AV.int .i64 (m:Int)]),hp):=fun hp=>zdY false (by simp [hlen]) (by decide)
   simp only [List.map_append,List.map_cons,List.map_nil] at e2;simp only [go_sem,reduceEqDiff,reduceAdd,hfr,e2,zO,hw.pu,hw.one,zcS,Bool.and_true];rcases hw with ⟨rfl,_⟩ | ⟨e,rfl⟩<;>simp only [h0,decide_false]<;>rfl
end
end VE
end
section
namespace VE
open Go (IntKind)
theorem zcr (n:Int) (r:List Nat):zL (zW n++r)=(zW n).length+zL r:=by
 rw [←za3]
 split
 ·simp only [List.cons_append,List.nil_append,zL,List.length_cons];rw [if_neg (by decide),zfI r (zfX _)];omega
 ·rw [List.nil_append];exact zfI r (zfX _)
theorem zj2:∀{a b:List Nat},eqL a b=true→a=b
 | [],[],_=>rfl
 | [],_::_,h=>by simp [eqL] at h
 | _::_,[],h=>by simp [eqL] at h
 | x::a,y::b,h=>by
  simp only [eqL,Bool.and_eq_true] at h;rw [Nat.eq_of_beq_eq_true h.1,zj2 h.2]
theorem zDo {n:Int} {d:Nat} (h:n≠0):eqL (TT n d) [48]=false:=by
 cases hb:eqL (TT n d) [48] with
 | false=>rfl
 | true=>
  have e:=zj2 hb;unfold TT at e;by_cases h0:n<0
  ·rw [zby h0] at e;simp at e
  ·obtain ⟨m,rfl⟩:∃m:Nat,n=m:=⟨n.toNat,by omega⟩;rw [za7] at e;obtain ⟨b,r,hb',_,_⟩:=zeG m;rw [hb'] at e;simp only [List.cons_append,List.cons.injEq,List.append_eq_nil_iff] at e;have hv:=zf4 m;rw [hb',e.1,e.2.1] at hv
   have:(some 0:Option Nat)=some m:=hv
   injection this with this
   omega
section
variable {P:zN} {L:Lib}
theorem zJZ (h:Rb P L):∃r,zK P L 281 [zh 1] r∧IsR r 1:=by
 obtain ⟨r,e,hr⟩:=zA9 h.h294 h.h300 false (zcd false [(1:Int)]) (by decide) (by decide)
 have:za5 false (dv [(1:Int)])=1:=by decide
 rw [this] at hr;obtain ⟨w,l,rfl,hw,hd,hz,hv⟩:=hr;refine ⟨_,?_,w,l,rfl,hw,hd,hz,hv⟩;simp only [List.map_cons,List.map_nil,List.length_cons,List.length_nil,Nat.zero_add] at e;have hfr:∀hp:Hp,zgw 0 1 (some (false,1,[AV.int .i64 1],hp))=some (.vsl false 1 [AV.int .i64 1],hp):=fun hp=>rfl
 unfold zK at e ⊢;rw [zf h.h281];simp only [go_sem,reduceEqDiff,reduceAdd,reduceMul,reduceLT,reduceLeDiff,Nat.mul_one,zFr,zu,Int.reduceLT,decide_false,zmK,za,zwJ,Int.reduceEq,Bool.not_false,Bool.not_true,decide_true,zaK _ _ _ (show (1000000000:Int)≠0 by decide),zai _ _ _ (show (1000000000:Int)≠0 by decide),show Int.tmod 1 1000000000=1 from rfl,show Int.tdiv 1 1000000000=0 from rfl,show IntKind.wrap .i64 0=0 from rfl,zbX,hfr,e,hw.pu,hw.one,zO,zcS];rcases hw with ⟨rfl,_⟩ | ⟨e,rfl⟩<;>rfl
theorem zNo (h:Rb P L) {n:Int} {d:Nat} (hn:(zo n.natAbs).length≤144000000000) (hd:(zo d).length≤144000000000):
  ∃x y,zK P L 274 [.str (TT n d)] (.tup [x,y])∧IsR x n∧IsR y d:=by
 obtain ⟨x,e1,hx⟩:=zNn h (n:=n) (by omega);have hli:(zW n).length≤(zo n.natAbs).length+1:=by rw [←za3];split<;>simp
 by_cases h1:d=1
 ·subst h1;obtain ⟨y,e2,hy⟩:=zJZ h;have hT:TT n 1=zW n:=by unfold TT;simp
  have hs:=zcr n [];rw [List.append_nil] at hs;have e3:=ztp h.h272 (s:=zW n) (by omega);rw [hs] at e3;refine ⟨x,y,?_,hx,hy⟩;obtain ⟨xw,xl,rfl,hxw,_,_,_⟩:=hx;obtain ⟨yw,yl,rfl,hyw,_,_,_⟩:=hy;rw [hT];unfold zK at e1 e2 e3 ⊢;rw [zf h.h274];simp only [go_sem,reduceEqDiff,reduceAdd,zAd,zu,e3,zL,Nat.add_zero,decide_true,e1,e2,zO,hxw.pu,hxw.one,hyw.pu,hyw.one,zcS];rcases hxw with ⟨rfl,_⟩ | ⟨e,rfl⟩<;>rcases hyw with ⟨rfl,_⟩ | ⟨e',rfl⟩<;>rfl
 ·obtain ⟨y,e2,hy⟩:=zNn h (n:=(d:Int)) (by simp;omega);rw [za7] at e2;obtain ⟨s,hs'⟩:∃s,s=TT n d:=⟨_,rfl⟩;have hT:s=zW n++47::zo d:=by rw [hs'];unfold TT;rw [if_neg h1]
  have hs:zL s=(zW n).length:=by rw [hT,zcr];rfl
  have hlen:s.length=(zW n).length+(zo d).length+1:=by rw [hT];simp;omega
  have hp:=zdd d;have e3:=ztp h.h272 (s:=s) (by omega);rw [hs] at e3;have c1:zf8 s (some 0) (some (zW n).length)=some (.str (zW n)):=by
   rw [zc9 (by omega) (by omega),List.drop_zero,hT,List.take_left]
  have c2:zf8 s (some ((zW n).length+1)) (some s.length)=some (.str (zo d)):=by
   rw [zc9 (by omega) (Nat.le_refl _),List.take_length,hT,show zW n++47::zo d=(zW n++[47])++zo d by simp,show (zW n).length+1=(zW n++[47]).length by simp,List.drop_left]
  refine ⟨x,y,?_,hx,hy⟩;obtain ⟨xw,xl,rfl,hxw,_,_,_⟩:=hx;obtain ⟨yw,yl,rfl,hyw,_,_,_⟩:=hy;rw [←hs'];unfold zK at e1 e2 e3 ⊢;rw [zf h.h274]
  simp only [go_sem,reduceEqDiff,reduceAdd,zAd,zu,e3,show ¬((zW n).length:Int)=(s.length:Int) by omega,zau,zay,zae,c1,zy (n:=(zW n).length+1) (by omega),show ((zW n).length:Int)+1=(((zW n).length+1:Nat):Int) from rfl,c2,e1,e2,zO,hxw.pu,hxw.one,hyw.pu,hyw.one,zcS];rcases hxw with ⟨rfl,_⟩ | ⟨e,rfl⟩<;>rcases hyw with ⟨rfl,_⟩ | ⟨e',rfl⟩<;>rfl
end
end VE
end
section
namespace VE
open Go (IntKind)
theorem zLx {n:Int} {d:Nat} (h:n<0):TT n d=45::TT (-n) d:=by
 have e:zW (-n)=zo n.natAbs:=by
  rw [←za3,if_neg (show ¬-n<0 by omega),List.nil_append,show (-n).natAbs=n.natAbs by omega]
 unfold TT;rw [zby h,e];rfl
theorem zzL {n:Int} {d:Nat} (h:¬n<0):∃b u,TT n d=b::u∧48≤b:=by
 obtain ⟨b,r,hb,h1,_⟩:=zeG n.natAbs;refine ⟨b,r++(if d=1 then [] else 47::zo d),?_,h1⟩;unfold TT;rw [←za3,if_neg h,List.nil_append,hb];rfl
theorem zHy (a b:AV) (r:List AV):ld1 2 true (a::b::r)=some (.agg [a,b]):=rfl
theorem zCu (k:Nat):2^k≤1000000000^k:=Nat.pow_le_pow_left (by decide) k
theorem Bd.r {k:Nat} {z:Int} (h:Bd k z):z.natAbs<1000000000^k:=Nat.lt_of_lt_of_le h (zCu k)
theorem zNZ (r:Rat):RT r=TT r.num r.den:=rfl
theorem zst {n d:Int} (hd:0<d):RT (Rat.divInt n d)=zoO n d:=by
 obtain ⟨h1,h2⟩:=ze7 (a:=n) hd;rw [zCz hd,zNZ,h1]
 congr 1
 exact Int.ofNat.inj (show ((Rat.divInt n d).den:Int)=((zbl n d).toNat:Int) by rw [h2];have:=zfD (a:=n) hd;unfold zbl at this ⊢;omega)
structure Rm (P:zN) (L:Lib):Prop extends Rb P L where
 h263:Has P L 263 c263
 h273:Has P L 273 zp5
 h284:Has P L 284 zFg
 h285:Has P L 285 zCy
 h286:Has P L 286 zCS
 h287:Has P L 287 zyk
 h301:Has P L 301 c301
structure Rl (P:zN) (L:Lib):Prop extends Rm P L where
 h269:Has P L 269 zy3
section
variable {P:zN} {L:Lib}
theorem zOJ (h:Rm P L) {v w:AV} {a b:List Int} (hv:IsI v a) (hw:IsI w b) (ha:dg a) (hb:dg b) (na:nz a) (nb:nz b) (la:a.length≤8000000000) (lb:b.length≤8000000000) (h0:0<dv b):
  ∃q r lq lr,zK P L 289 [v,w] (.tup [q,r])∧IsI q lq∧IsI r lr∧dg lq∧nz lq∧dg lr∧nz lr∧dv lq=dv a/dv b∧dv lr=dv a%dv b:=
 zDn h.h289 h.h293 h.h296 h.h299 h.h300 h.h301 hv hw ha hb na nb la lb h0
end
end VE
end
