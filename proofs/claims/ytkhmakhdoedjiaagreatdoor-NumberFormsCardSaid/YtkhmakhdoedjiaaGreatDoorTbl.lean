import Derived.Test.YtkhmakhdoedjiaaGreatDoorTbk
import Derived.Test.YtkhmakhdoedjiaaGreatDoorTbg
set_option linter.all false
set_option maxRecDepth 100000
open Nat (reduceAdd reduceEqDiff reduceLT reduceLeDiff)
section
namespace VE
open Go (IntKind)
theorem zlM {b p A V bu bq0 U0 pre:Nat} (h1:bu=pre+p*A) (h2:bu+bq0*V=U0):(pre+p*(A%V))+(bq0+p*(A/V))*V=U0:=by
 have hdm:=Nat.div_add_mod A V;have e:=congrArg (fun t=>p*t) hdm;simp only [Nat.mul_add] at e;rw [Nat.add_mul,Nat.mul_assoc,Nat.mul_comm (A/V) V];generalize p*(V*(A/V))=a at*
 generalize p*(A%V)=c at*
 generalize p*A=d at*
 omega
theorem zMO (hp:Hp) (ct:Nat) (ex:Bool) (sz n:Nat) (cs:List AV):own hp ct (.fsl ex sz n cs)=(.osl ct 0 n,(ct,.cells true true ex sz cs)::hp,ct+1):=rfl
section
variable {P:zN} {L:Lib}
theorem zJU (h:Wd P L) {w:AV} {vs:List Nat} (hw:IsU w vs) (gv:lo 18446744073709551616 vs) {n la m:Nat} (lv:vs.length=n) (hn2:2≤n) (hnl:n≤la) (hla:la≤99999999999) (hm:m=la-n+1) (hv1:0<vs.getD (n-1) 0) {s U0:Nat}:
  ∀k st,(∃(j:Nat) (us qs:List Nat),zA [9,10,11,12,13,14] st=⟨[(9,zh s),(10,w),(11,.osl 0 0 (la+1)),(12,zh n),(13,.osl 1 0 m),(14,zh ((j:Int)-1))],H2 qs us,2,0⟩∧j=k∧j≤m∧us.length=la+1∧qs.length=m∧lo 18446744073709551616 us∧lo 18446744073709551616 qs∧(∀i,i<j→qs.getD i 0=0)∧
    bv 18446744073709551616 us+bv 18446744073709551616 qs*bv 18446744073709551616 vs=U0∧bv 18446744073709551616 (us.drop j)<bv 18446744073709551616 vs)→
   ∃ex st',D P L (.loop [9,10,11,12,13,14] zjK) st=some (ex,st')∧∃tm us qs,st'=⟨tm,H2 qs us,2,0⟩∧ex= .exit 2∧zc tm 9=zh s∧zc tm 11= .osl 0 0 (la+1)∧zc tm 12=zh n∧zc tm 13= .osl 1 0 m∧us.length=la+1∧qs.length=m∧lo 18446744073709551616 us∧lo 18446744073709551616 qs∧
    bv 18446744073709551616 us+bv 18446744073709551616 qs*bv 18446744073709551616 vs=U0∧bv 18446744073709551616 us<bv 18446744073709551616 vs:=by
 refine zS (I:=fun k st=>∃(j:Nat) (us qs:List Nat),st=⟨[(9,zh s),(10,w),(11,.osl 0 0 (la+1)),(12,zh n),(13,.osl 1 0 m),(14,zh ((j:Int)-1))],H2 qs us,2,0⟩∧j=k∧j≤m∧us.length=la+1∧qs.length=m∧lo 18446744073709551616 us∧lo 18446744073709551616 qs∧(∀i,i<j→qs.getD i 0=0)∧
    bv 18446744073709551616 us+bv 18446744073709551616 qs*bv 18446744073709551616 vs=U0∧bv 18446744073709551616 (us.drop j)<bv 18446744073709551616 vs)
  (Q:=fun ex st'=>∃tm us qs,st'=⟨tm,H2 qs us,2,0⟩∧ex= .exit 2∧zc tm 9=zh s∧zc tm 11= .osl 0 0 (la+1)∧zc tm 12=zh n∧zc tm 13= .osl 1 0 m∧us.length=la+1∧qs.length=m∧lo 18446744073709551616 us∧lo 18446744073709551616 qs∧
    bv 18446744073709551616 us+bv 18446744073709551616 qs*bv 18446744073709551616 vs=U0∧bv 18446744073709551616 us<bv 18446744073709551616 vs) ?_
 rintro k st ⟨j,us,qs,rfl,rfl,hj,lu,lq,gu,gq,hz,hval,htop⟩
 cases j with
 | zero=>
  right
  simp only [go_sem,reduceEqDiff,zjK,H2,show ¬(0:Int)≤((0:Nat):Int)-1 by omega];exact ⟨_,_,rfl,by simp,_,us,qs,rfl,rfl,by simp only [go_sem,reduceEqDiff],by simp only [go_sem,reduceEqDiff],by simp only [go_sem,reduceEqDiff],by simp only [go_sem,reduceEqDiff],lu,lq,gu,gq,hval,by simpa using htop⟩
 | succ j=>
  left
  have hb0:(0:Nat)<18446744073709551616:=by decide
  obtain ⟨pre,hpre⟩:∃p,p=us.take j:=⟨_,rfl⟩;obtain ⟨x,hx⟩:∃p,p=(us.drop j).take (n+1):=⟨_,rfl⟩;obtain ⟨post,hpost⟩:∃p,p=us.drop (j+(n+1)):=⟨_,rfl⟩;have lp:pre.length=j:=by rw [hpre,List.length_take];omega
  have lx:x.length=n+1:=by rw [hx,List.length_take,List.length_drop];omega
  have hsplit:us=pre++x++post:=by
   rw [hpre,hx,hpost,←List.drop_drop,List.append_assoc,List.take_append_drop,List.take_append_drop]
  have gx:lo 18446744073709551616 x:=by rw [hx];exact zef (zqA gu _) _
  have gpre:lo 18446744073709551616 pre:=by rw [hpre];exact zef gu _
  have gpost:lo 18446744073709551616 post:=by rw [hpost];exact zqA gu _
  have hA:bv 18446744073709551616 (us.drop j)=us.getD j 0+18446744073709551616*bv 18446744073709551616 (us.drop (j+1)):=zi6 (by omega);have hgj:=zaZ hb0 gu j;have hdx:us.drop j=x++post:=by rw [hpost,hx,←List.drop_drop,List.take_append_drop]
  have hAx:bv 18446744073709551616 (us.drop j)=bv 18446744073709551616 x+18446744073709551616^(n+1)*bv 18446744073709551616 post:=by rw [hdx,zbG,lx]
  have hVn:=zd4 gv;rw [lv] at hVn;have hlt:bv 18446744073709551616 (us.drop j)<18446744073709551616*bv 18446744073709551616 vs:=by omega
  have hp0:bv 18446744073709551616 post=0:=by
   rcases Nat.eq_zero_or_pos (bv 18446744073709551616 post) with e | e
   ·exact e
   ·have h1:=Nat.mul_le_mul_left (18446744073709551616^(n+1)) e;rw [Nat.mul_one,Nat.pow_succ] at h1;rw [Nat.pow_succ] at hAx;omega
  rw [hp0,Nat.mul_zero,Nat.add_zero] at hAx;have hl:Lead x vs n (vs.getD (n-1) 0) (vs.getD (n-2) 0) (x.getD n 0) (x.getD (n-1) 0) (x.getD (n-2) 0):=
   ⟨hn2,by omega,lx,lv,gx,gv,rfl,rfl,rfl,rfl,rfl,hv1,by rw [←hAx];exact hlt⟩
  have hdig:=hl.digit;obtain ⟨x',e1,lx',gx',vx'⟩:=zQo h hw hl (pre:=pre) (post:=post) (qs:=qs);rw [lp,←hsplit] at e1;have hbu:bv 18446744073709551616 us=bv 18446744073709551616 pre+18446744073709551616^j*bv 18446744073709551616 x:=by
   have:=zfN (b:=18446744073709551616) us j (by omega)
   rw [hAx,←hpre] at this;exact this
  have hbu':bv 18446744073709551616 (pre++x'++post)=bv 18446744073709551616 pre+18446744073709551616^j*bv 18446744073709551616 x':=by
   rw [List.append_assoc,zbG,zbG,hp0,Nat.mul_zero,Nat.add_zero,lp]
  have z7:=zcW (b:=18446744073709551616) (l:=qs) (i:=j) (x:=bv 18446744073709551616 x/bv 18446744073709551616 vs) (by omega);rw [hz j (by omega),Nat.mul_zero,Nat.add_zero] at z7;have hnew:=zlM (b:=0) hbu hval;have hst:=fun (hp:Hp) (ct:Nat)=>stU (hp:=hp) (ct:=ct) (id:=1) (v:=bv 18446744073709551616 x/bv 18446744073709551616 vs) (ex:=true) (l:=qs) (o:=j) (by omega)
  have hV0:0<bv 18446744073709551616 vs:=by omega
  have hmod:=Nat.mod_lt (bv 18446744073709551616 x) hV0;have hcut:∀tm (x y:X),zao tm 0 (some x)=some j→zao tm (la+1) (some y)=some (j+n+1)→zbe (H2 qs us) (.sl 1) (.osl 0 0 (la+1)) tm (some x) (some y)=some (.osl 0 j (n+1)):=fun tm x y h1 h2=>by
   rw [zBL (cs:=us.map uc) (pu:=true) (ex:=true) rfl h1 h2 (by omega) (by omega),show j+n+1-j=n+1 by omega]
  simp only [H2] at hcut e1
  simp only [go_sem,reduceEqDiff,Nat.mul_one,zjK,H2,show ((j+1:Nat):Int)-1=(j:Int) by omega,show (0:Int)≤(j:Int) by omega,show (j:Int)+(n:Int)=((j+n:Nat):Int) from rfl,zy (n:=j+n) (by omega),show ((j+n:Nat):Int)+1=((j+n+1:Nat):Int) from rfl,zy (n:=j+n+1) (by omega),hcut,zae,zDr,e1,zY 1 0 (show j<m by omega),Nat.zero_add,hst];refine ⟨_,j,rfl,by omega,j,pre++x'++post,qs.set j (bv 18446744073709551616 x/bv 18446744073709551616 vs),?_,rfl,by omega,by rw [zcb,lp,lx',hpost,List.length_drop];omega,by simp [lq],lo_append.2 ⟨lo_append.2 ⟨gpre,gx'⟩,gpost⟩,zcj gq hdig,fun i hi=>by rw [zce (by omega)];exact hz i (by omega),?_,?_⟩
  ·rw [ze (by omega) (by omega)];simp only [go_sem,reduceEqDiff,reduceAdd,za,zb hw.pu,zd _ hw.pu]<;>rfl
  ·rw [hbu',vx',z7];exact hnew
  ·rw [List.append_assoc,List.drop_left' lp,zbG,hp0,Nat.mul_zero,Nat.add_zero,vx'];exact hmod
theorem zMu {l:List Nat} {n:Nat} (h:l.length=n+1):18446744073709551616^n*l.getD n 0≤bv 18446744073709551616 l:=by
 have:=zaW (b:=18446744073709551616) (l:=l) n
 rw [List.take_of_length_le (by omega)] at this;omega
theorem zhN {m K:Nat} {l:List Nat} (hn:nzN l) (hv:bv 18446744073709551616 l=m) (h:m<18446744073709551616^K):l.length≤K:=zub (b:=18446744073709551616) (by decide) hn (by rw [hv];exact h)
theorem zFH (h:Wd P L) {v w:AV} {x:List Nat} {d:Nat} (hv:IsU v x) (hw:IsU w [d]) (gx:lo 18446744073709551616 x) (lx:x.length≤90000000000) (hd0:0<d) (hdW:d<18446744073709551616) (ec:zK P L 158 [v,w] (zh (zbS (bv 18446744073709551616 x) d))) (hc:d≤bv 18446744073709551616 x):
  ∃q r,zK P L 137 [v,w] (.tup [q,r])∧WN q (bv 18446744073709551616 x/d)∧WN r (bv 18446744073709551616 x%d):=by
 have hc1:¬zbS (bv 18446744073709551616 x) d<0:=by unfold zbS;rw [if_neg (by omega)];split<;>decide
 obtain ⟨n,hn⟩:∃n,n=x.length:=⟨_,rfl⟩;have hlen:∀hp:Hp,zb8 hp 1 w=some (.int .i64 1):=fun hp=>hw.len
 have main:∃r l,(∀c:Nat→AV→AV→Option AV,True)∧r<d∧l.length=n∧lo 18446744073709551616 l∧bv 18446744073709551616 x=bv 18446744073709551616 l*d+r∧
   ∃q1 r1,IsU q1 (zaJ l)∧IsU r1 (zaJ [r])∧zK P L 137 [v,w] (.tup [q1,r1]):=by
  unfold zK at ec;unfold zK;rw [zf h.h137]
  simp only [go_sem,reduceEqDiff,zxO,hv.len,hv.frz,hw.len,hw.frz,ec,hc1,List.length_cons,List.length_nil,Nat.zero_add,show ((1:Nat):Int)=(1:Int) from rfl,←hn,zpi (n:=n) _ (by omega)];generalize hq:D P L (.loop [0,1,6,7,8] zkm) _=q;obtain ⟨ex,s,rfl,tm,r,l,rfl,rfl,t6,t7,hll,hlo,hr,hval⟩:=z8 hq (zJr (P:=P) (L:=L) h hv gx (by omega) hw hd0 hdW hn n) ⟨n,0,[],by
   rw [ze (by omega) (by omega),List.append_nil]
   simp only [go_sem,reduceEqDiff,reduceAdd,za,zb hv.pu,zd _ hv.pu,zb hw.pu,zd _ hw.pu]<;>rfl,rfl,rfl,zmI,hd0,by rw [List.drop_eq_nil_of_le (by omega)];simp [bv]⟩
  have hf:=zbL true l;rw [hll] at hf;obtain ⟨q1,e1,hq1⟩:=znR h.h166 hf (by omega);obtain ⟨r1,e2,hr1⟩:=znR h.h166 (zbL true [r]) (by simp);unfold zK at e1 e2;simp only [List.length_cons,List.length_nil,Nat.zero_add,List.map_cons,List.map_nil] at e2;refine ⟨r,l,fun _=>trivial,hr,hll,hlo,hval,q1,r1,hq1,hr1,?_⟩
  simp only [go_sem,reduceEqDiff,reduceAdd,reduceLT,reduceLeDiff,Nat.mul_one,za,t6,t7,znY _ (n:=n) (l:=l) hll true,e1,hq1.shut,e2,hr1.shut];exact zp1 hq1 hr1 _
 obtain ⟨r,l,_,hr,hll,hlo,hval,q1,r1,hq1,hr1,e⟩:=main;have hq:bv 18446744073709551616 l=bv 18446744073709551616 x/d:=by
  rw [hval,Nat.mul_comm,Nat.mul_add_div hd0,Nat.div_eq_of_lt hr,Nat.add_zero]
 have hm:r=bv 18446744073709551616 x%d:=by
  rw [hval,Nat.mul_comm,Nat.mul_add_mod,Nat.mod_eq_of_lt hr]
 exact ⟨q1,r1,e,⟨_,hq1,zdp hlo,zdg _,by rw [zdf,hq]⟩,⟨_,hr1,zdp (lo_one.2 (by omega)),zdg _,by rw [zdf,zfi,hm]⟩⟩
theorem zJH (h:Wd P L) {v w:AV} {x y:List Nat} (hv:IsU v x) (hw:IsU w y) (gx:lo 18446744073709551616 x) (gy:lo 18446744073709551616 y) (nx:nzN x) (ny:nzN y) (lx:x.length≤90000000000) (ly:2≤y.length) (ec:zK P L 158 [v,w] (zh (zbS (bv 18446744073709551616 x) (bv 18446744073709551616 y)))) (hc:bv 18446744073709551616 y≤bv 18446744073709551616 x):
  ∃q r,zK P L 137 [v,w] (.tup [q,r])∧WN q (bv 18446744073709551616 x/bv 18446744073709551616 y)∧WN r (bv 18446744073709551616 x%bv 18446744073709551616 y):=by
 have hb0:(0:Nat)<18446744073709551616:=by decide
 have hc1:¬zbS (bv 18446744073709551616 x) (bv 18446744073709551616 y)<0:=by unfold zbS;rw [if_neg (by omega)];split<;>decide
 have hyx:y.length≤x.length:=by
  by_cases hh:x.length<y.length
  ·have:=zi7 (b:=18446744073709551616) (by decide) gx ny hh;omega
  ·omega
 obtain ⟨n,hn⟩:∃n,n=y.length:=⟨_,rfl⟩;obtain ⟨la,hla⟩:∃la,la=x.length:=⟨_,rfl⟩;have hlast:=zhm ny (fun e=>by subst e;simp at ly);have hlW:=zaZ hb0 gy (y.length-1);have eyl:=hw.ixa (i:=y.length-1) (by omega);have hge:=zMu (l:=y) (n:=n-1) (by omega);rw [←hn] at hlast hlW eyl;obtain ⟨top,htop⟩:∃top,y.getD (n-1) 0=top:=⟨_,rfl⟩;rw [htop] at hlast hlW eyl hge;have elz:=zvI (P:=P) (f:=D P L) h.h167 hlW;obtain ⟨z1,z2,z3⟩:=zkK (Nat.pos_of_ne_zero hlast) hlW;generalize 64-zbM 64 top=s at*
 obtain ⟨ov,ev,lov,gov,vov⟩:=zME h.h168 hw gy (by omega) z1;obtain ⟨ou,eu,lou,gou,vou⟩:=zME h.h168 hv gx (by omega) z1;obtain ⟨v',evt,hv'⟩:=znR h.h166 (zbL true ov) (by omega);rw [lov,←hn] at evt;rw [←hn] at ev;rw [←hla] at eu lou;have hsp:=Nat.two_pow_pos s;obtain ⟨vs,hvs⟩:∃vs,vs=zaJ ov:=⟨_,rfl⟩;rw [←hvs] at hv';have gvs:lo 18446744073709551616 vs:=by rw [hvs];exact zdp gov
 have nvs:nzN vs:=by rw [hvs];exact zdg _
 have vvs:bv 18446744073709551616 vs=bv 18446744073709551616 y*2^s:=by rw [hvs,zdf,vov]
 have hyW:bv 18446744073709551616 y*2^s<18446744073709551616^n:=by
  have e:18446744073709551616=2^(64-s)*2^s:=by rw [←Nat.pow_add,show 64-s+s=64 by omega]
  have e1:=zaW (b:=18446744073709551616) (l:=y) (n-1);rw [show n-1+1=n by omega,List.take_of_length_le (by omega),htop] at e1;have e2:=zd4 (zef gy (n-1));rw [List.length_take,Nat.min_eq_left (by omega)] at e2;have e3:top<2^(64-s):=Nat.lt_of_mul_lt_mul_right (a:=2^s) (Nat.lt_of_lt_of_eq z3 e);have e4:=Nat.mul_le_mul_right (2^s) (show top+1≤2^(64-s) from e3);rw [←e] at e4;have e5:bv 18446744073709551616 y<18446744073709551616^(n-1)*(top+1):=by rw [Nat.mul_add,Nat.mul_one];omega
  have e6:=Nat.mul_lt_mul_of_pos_right e5 hsp;rw [Nat.mul_assoc] at e6;have e7:=Nat.mul_le_mul_left (18446744073709551616^(n-1)) e4;rw [←Nat.pow_succ,show (n-1).succ=n by omega] at e7;exact Nat.lt_of_lt_of_le e6 e7
 have hVge:18446744073709551616^(n-1)*2^s≤bv 18446744073709551616 vs:=by
  rw [vvs];refine Nat.mul_le_mul_right _ (Nat.le_trans ?_ hge)
  have:=Nat.mul_le_mul_left (18446744073709551616^(n-1)) (show 1≤top by omega)
  omega
 have lvs:vs.length=n:=by
  have h1:vs.length≤n:=by
   refine zhN nvs vvs ?_;exact hyW
  have h2:¬vs.length<n:=fun hh=>by
   have e1:=zd4 gvs;have e2:18446744073709551616^vs.length≤18446744073709551616^(n-1):=Nat.pow_le_pow_right hb0 (by omega);have e3:=Nat.mul_le_mul_right (2^s) hge;rw [Nat.mul_assoc,←vvs] at e3;have e4:=Nat.mul_le_mul_left (18446744073709551616^(n-1)) (show 1≤top*2^s by omega);omega
  omega
 have hv1:0<vs.getD (n-1) 0:=by
  have:=zhm nvs (fun e=>by rw [e] at lvs;simp at lvs;omega)
  rw [lvs] at this;exact Nat.pos_of_ne_zero this
 obtain ⟨m,hm⟩:∃m,m=la-n+1:=⟨_,rfl⟩;have htopu:bv 18446744073709551616 (ou.drop m)<bv 18446744073709551616 vs:=by
  have e1:=zfN (b:=18446744073709551616) ou m (by omega);have e2:=zd4 gx;rw [←hla] at e2;have e3:=Nat.mul_lt_mul_of_pos_right e2 hsp;rw [←vou] at e3;have e4:18446744073709551616^la=18446744073709551616^m*18446744073709551616^(n-1):=by rw [←Nat.pow_add];congr 1;omega
  rw [e4,Nat.mul_assoc] at e3;have e5:18446744073709551616^m*bv 18446744073709551616 (ou.drop m)<18446744073709551616^m*(18446744073709551616^(n-1)*2^s):=by omega
  exact Nat.lt_of_lt_of_le (Nat.lt_of_mul_lt_mul_left e5) hVge
 have e1y:(y.length:Int)-1=((n-1:Nat):Int):=by omega
 have elam:((la:Nat):Int)-(n:Int)=((m-1:Nat):Int):=by omega
 have goal:∃tm us qs rs,(us.length=la+1∧qs.length=m∧lo 18446744073709551616 us∧lo 18446744073709551616 qs∧bv 18446744073709551616 us+bv 18446744073709551616 qs*bv 18446744073709551616 vs=bv 18446744073709551616 x*2^s∧bv 18446744073709551616 us<bv 18446744073709551616 vs∧
   rs.length=n∧lo 18446744073709551616 rs∧bv 18446744073709551616 rs*2^s+us.getD 0 0%2^s=bv 18446744073709551616 (us.take n)+18446744073709551616^n*(us.getD n 0%2^s))∧zc tm 0=v∧
   ∃q1 r1,IsU q1 (zaJ qs)∧IsU r1 (zaJ rs)∧zK P L 137 [v,w] (.tup [q1,r1]):=by
  unfold zK at ec ev eu evt;unfold zK;rw [zf h.h137];have hfo:=znY (n:=n+1) (l:=ov) (hp:=[]) (by omega) true
  simp only [go_sem,reduceEqDiff,reduceAdd,zxO,hv.len,hv.frz,hw.len,hw.frz,ec,hc1,show ¬(y.length:Int)=1 by omega,e1y,zy (n:=n-1) (by omega),eyl,elz,ev,zMO,znY _ (n:=n+1) (l:=ov) (by omega) true,evt,hv'.len,hv'.shut,eu,lvs,←hla,elam,zy (n:=m-1) (by omega),show ((m-1:Nat):Int)+1=(m:Int) by omega,zy (n:=m) (by omega),zpi (n:=m) _ (by omega)];generalize hqq:D P L (.loop [9,10,11,12,13,14] zjK) _=qq;obtain ⟨ex,st,rfl,tm,us,qs,rfl,rfl,t9,t11,t12,t13,lus,lqs,gus,gqs,hval,hlt⟩:=z8 hqq (zJU (P:=P) (L:=L) h hv' gvs lvs (by omega) (by omega) (by omega) hm hv1 (s:=s) (U0:=bv 18446744073709551616 x*2^s) m) ⟨m,ou,List.replicate m 0,by
   rw [show ((m-1:Nat):Int)=(m:Int)-1 by omega]
   simp only [go_sem,reduceEqDiff,reduceAdd,za,zb hv'.pu,zd _ hv'.pu]<;>rfl,rfl,Nat.le_refl _,lou,by simp,gou,zic hb0 m,fun i _=>ze1 m i,by rw [zh2,Nat.zero_mul,Nat.add_zero,vou],htopu⟩
  simp only [go_sem,reduceEqDiff,reduceAdd,za,t9,t11,t12,t13];generalize hqq2:D P L (.loop [9,11,12,13,96,97] zif) _=qq2;obtain ⟨ex,st,rfl,tm2,rs,rfl,rfl,t11,t12,t13,lrs,grs,hrel⟩:=z8 hqq2 (zDY (P:=P) (L:=L) (qs:=qs) (m:=m) (la:=la+1) (n:=n) z1 lus gus (by omega) (by omega) n) ⟨0,[],by simp only [go_sem,reduceEqDiff,reduceAdd,za]<;>rfl,by omega,rfl,zmI,by simp [bv]⟩
  have hcut:∀(hp:Hp) tm (y:X),zq hp 0=some (.cells true true true 1 ((rs++us.drop n).map uc))→zao tm (la+1) (some y)=some n→zbe hp (.sl 1) (.osl 0 0 (la+1)) tm none (some y)=some (.osl 0 0 n):=fun hp tm y h1 h2=>zoz h1 h2 (by omega) (by omega)
  have hfq:=zbL true qs;rw [lqs] at hfq;obtain ⟨q1,f1,hq1⟩:=znR h.h166 hfq (by omega);have htk:(rs++us.drop n).take n=rs:=by rw [List.take_append_of_le_length (by omega),List.take_of_length_le (by omega)]
  have hfp:∃e,∀hp:Hp,zgw 0 n (some (true,1,(rs++us.drop n).map uc,hp))=some (.vsl e n (rs.map uc),hp):=by
   refine ⟨true&&Nat.blt 0 1&&Nat.beq n ((rs++us.drop n).map uc).length,fun hp=>?_⟩;simp only [zgw,Nat.zero_add,Nat.mul_one,slice,List.drop_zero,←List.map_take,htk];rw [Nat.ble_eq_true_of_le (by simp;omega)];rfl
  obtain ⟨e,hfp⟩:=hfp;have hfr:=zbL e rs;rw [lrs] at hfr;obtain ⟨r1,f2,hr1⟩:=znR h.h166 hfr (by omega);unfold zK at f1 f2;refine ⟨[(0,v)],us,qs,rs,⟨lus,lqs,gus,gqs,hval,hlt,lrs,grs,hrel⟩,rfl,q1,r1,hq1,hr1,?_⟩
  simp only [go_sem,reduceEqDiff,reduceAdd,za,t11,t12,t13,znY _ (n:=m) (l:=qs) lqs true,f1,hq1.shut,hcut,zae,hfp,f2,hr1.shut];exact zp1 hq1 hr1 _
 obtain ⟨tm,us,qs,rs,⟨lus,lqs,gus,gqs,hval,hlt,lrs,grs,hrel⟩,_,q1,r1,hq1,hr1,e⟩:=goal;have hy0:0<bv 18446744073709551616 y:=by
  have:=Nat.mul_le_mul_left (18446744073709551616^(n-1)) (show 1≤top by omega)
  have:=Nat.pow_pos (n:=n-1) hb0
  omega
 rw [vvs] at hval hlt;have hquo:bv 18446744073709551616 qs=bv 18446744073709551616 x/bv 18446744073709551616 y:=by
  rw [←Nat.mul_div_mul_right _ _ hsp,←hval,Nat.add_comm,Nat.mul_comm,Nat.mul_add_div (Nat.mul_pos hy0 hsp),Nat.div_eq_of_lt hlt,Nat.add_zero]
 have hus:bv 18446744073709551616 us=(bv 18446744073709551616 x%bv 18446744073709551616 y)*2^s:=by
  rw [←Nat.mul_mod_mul_right,←hval,Nat.add_comm,Nat.mul_comm (bv _ qs),Nat.mul_add_mod,Nat.mod_eq_of_lt hlt]
 have hsplit:=zfN (b:=18446744073709551616) us n (by omega);have hd0:bv 18446744073709551616 (us.drop n)=0:=by
  rcases Nat.eq_zero_or_pos (bv 18446744073709551616 (us.drop n)) with h0 | h0
  ·exact h0
  ·have:=Nat.mul_le_mul_left (18446744073709551616^n) h0
   omega
 have hun:us.getD n 0=0:=by
  have:=zi6 (b:=18446744073709551616) (l:=us) (i:=n) (by omega)
  omega
 rw [hd0,Nat.mul_zero,Nat.add_zero] at hsplit;have hu0:us.getD 0 0%2^s=0:=by
  have e1:=zi6 (b:=18446744073709551616) (l:=us) (i:=0) (by omega);rw [List.drop_zero,hus] at e1;have e2:18446744073709551616=2^s*2^(64-s):=by rw [←Nat.pow_add,show s+(64-s)=64 by omega]
  have e3:(us.getD 0 0+18446744073709551616*bv 18446744073709551616 (us.drop (0+1)))%2^s=us.getD 0 0%2^s:=by
   conv=>lhs;rw [e2,Nat.mul_assoc]
   exact Nat.add_mul_mod_self_left _ _ _
  rw [←e3,←e1,Nat.mul_mod_left]
 rw [hun,hu0,Nat.zero_mod,Nat.mul_zero,Nat.add_zero,Nat.add_zero,←hsplit,hus] at hrel;have hrest:bv 18446744073709551616 rs=bv 18446744073709551616 x%bv 18446744073709551616 y:=Nat.eq_of_mul_eq_mul_right hsp hrel;exact ⟨q1,r1,e,⟨_,hq1,zdp gqs,zdg _,by rw [zdf,hquo]⟩,⟨_,hr1,zdp grs,zdg _,by rw [zdf,hrest]⟩⟩
theorem zNx (h:Wd P L) {v w:AV} {a b K:Nat} (hv:WN v a) (hw:WN w b) (hb:0<b) (ha:a<18446744073709551616^K) (hbK:b<18446744073709551616^K) (hK:K≤90000000000):
  ∃q r,zK P L 137 [v,w] (.tup [q,r])∧WN q (a/b)∧WN r (a%b):=by
 obtain ⟨x,hvx,gx,nx,vx⟩:=hv;obtain ⟨y,hwy,gy,ny,vy⟩:=hw;have lx:x.length≤90000000000:=Nat.le_trans (zhN nx vx ha) hK;have ly:y.length≤90000000000:=Nat.le_trans (zhN ny vy hbK) hK;have ec:=zOR h.h158 hvx hwy gx gy nx ny (by omega) (by omega);subst vx;subst vy;by_cases hc:bv 18446744073709551616 x<bv 18446744073709551616 y
 ·have hc1:zbS (bv 18446744073709551616 x) (bv 18446744073709551616 y)= -1:=by unfold zbS;rw [if_pos hc]
  rw [hc1] at ec;refine ⟨.nils,v,?_,⟨[],zcz,zmI,rfl,by rw [Nat.div_eq_of_lt hc];rfl⟩,⟨x,hvx,gx,nx,by rw [Nat.mod_eq_of_lt hc]⟩⟩
  unfold zK at ec;unfold zK;rw [zf h.h137];simp only [go_sem,reduceEqDiff,zxO,hvx.frz,hwy.frz,ec,show (-1:Int)<0 by decide];exact zp1 zcz hvx _
 ·rcases (show y.length=0∨y.length=1∨2≤y.length by omega) with h0 | h1 | h2
  ·rw [List.eq_nil_of_length_eq_zero h0] at hb;simp [bv] at hb
  ·obtain ⟨d,rfl⟩:∃d,y=[d]:=by
    cases y with
    | nil=>simp at h1
    | cons d r=>cases r with
     | nil=>exact ⟨d,rfl⟩
     | cons e r=>simp at h1
   rw [zfi] at*
   exact zFH h hvx hwy gx lx hb (lo_one.1 gy) ec (by omega)
  ·exact zJH h hvx hwy gx gy nx ny lx h2 ec (by omega)
end
end VE
end
section
namespace VE
open Go (IntKind)
def IsR (v:AV) (n:Int):Prop:=∃w l,v= .agg [.bool (decide (n<0)),w]∧IsI w l∧dg l∧nz l∧dv l=n.natAbs
theorem zem {l:List Int} {k:Nat} (hd:dg l) (hn:nz l) (h:dv l<1000000000^k):l.length≤k:=by
 by_cases h0:l=[]
 ·subst h0;exact Nat.zero_le _
 ·have h1:=zsj hn hd h0;have h2:1000000000^(l.length-1)<1000000000^k:=Nat.lt_of_le_of_lt h1 h;have h3:=(Nat.pow_lt_pow_iff_right (show 1<1000000000 by decide)).1 h2;omega
theorem zcS {hp:Hp} {ct id:Nat} {a b x y:AV} (h1:z9 a=true) (h2:z9 b=true) (p1:zx a=true) (p2:zx b=true):
  stC hp ct id 0 2 [a,b] (some (.cells true true true 2 [x,y]))=some (.tup [],z7 hp id (.cells true true true 2 [a,b]),ct):=by
 rw [zoo (by rfl) (by simp) (by simp [zH,h1,h2])];simp [zn,p1,p2,zb6]
section
variable {P:zN} {L:Lib}
def za5 (neg:Bool) (m:Nat):Int:=if neg=true then -(m:Int) else m
theorem zA9 (h:Has P L 294 zyW) (h300:Has P L 300 ziW) (neg:Bool) {v:AV} {l:List Int} (hv:IsI v l) (hd:dg l) (hl:l.length≤20000000000):
  ∃r,zK P L 294 [.bool neg,v] r∧IsR r (za5 neg (dv l)):=by
 obtain ⟨w,e1,hw,hsh⟩:=zu6 h300 hv hl;have hdv:=zd3 l;have hnz:=zgY l;have hdg:=zdT hd;have hc:(neg&&decide ((0:Int)<((zaR l).length:Nat)))=decide (za5 neg (dv l)<0):=by
  unfold za5
  cases neg with
  | false=>simp
  | true=>
   simp only [Bool.true_and,if_true];by_cases h0:zaR l=[]
   ·rw [h0] at hdv ⊢;simp only [dv] at hdv;simp [←hdv]
   ·have h1:0<(zaR l).length:=List.length_pos_iff.2 h0;have h2:0<dv l:=by
     rw [←hdv];rcases Nat.eq_zero_or_pos (dv (zaR l)) with h | h
     ·exact absurd (zmH hnz hdg h) h0
     ·exact h
    rw [decide_eq_true (by omega),decide_eq_true (by omega)]
 refine ⟨.agg [.bool (decide (za5 neg (dv l)<0)),w],?_,w,zaR l,rfl,hw,hdg,hnz,?_⟩
 ·rw [←hc];unfold zK at e1 ⊢;rw [zf h]
  cases neg with
  | false=>
   rw [Bool.false_and];simp only [go_sem,reduceEqDiff,reduceAdd,reduceLeDiff,zyW,zu,hv.frz,e1,hw.pu,hw.shut,hw.one,hw.cells,zcS];rcases hw with ⟨rfl,_⟩ | ⟨e,rfl⟩<;>rfl
  | true=>
   rw [Bool.true_and];simp only [go_sem,reduceEqDiff,reduceAdd,reduceLeDiff,zyW,zu,hv.frz,e1,hw.len,hw.pu,hw.shut,hw.one,hw.cells,zcS];rcases hw with ⟨rfl,_⟩ | ⟨e,rfl⟩<;>rfl
 ·rw [hdv];unfold za5;split<;>omega
end
end VE
end
section
namespace VE
open Go (IntKind)
def Nok (s:Int) (w:AV) (z:Int):Prop:=
 (w= .nils∧s=z∧-9223372036854775808≤z∧z<9223372036854775808)∨
 (∃e l,w= .vsl e l.length (l.map uc)∧lo 18446744073709551616 l∧nzN l∧bv 18446744073709551616 l=z.natAbs∧s=(if z<0 then -1 else 1)∧9223372036854775808≤z.natAbs)
def IsN (v:AV) (z:Int):Prop:=∃s w,v= .agg [zh s,w]∧Nok s w z
def Bd (k:Nat) (z:Int):Prop:=z.natAbs<2^k
theorem zfg (k:Nat):2^k≤18446744073709551616^k:=Nat.pow_le_pow_left (by decide) k
theorem Bd.mono {k m:Nat} {z:Int} (h:Bd k z) (hk:k≤m):Bd m z:=Nat.lt_of_lt_of_le h (Nat.pow_le_pow_right (by decide) hk)
theorem Bd.neg {k:Nat} {z:Int} (h:Bd k z):Bd k (-z):=by unfold Bd at h ⊢;rwa [Int.natAbs_neg]
theorem Bd.add {k m:Nat} {a b:Int} (ha:Bd k a) (hb:Bd m b):Bd (max k m+1) (a+b):=by
 have h1:Bd (max k m) a:=ha.mono (by omega);have h2:Bd (max k m) b:=hb.mono (by omega);unfold Bd at h1 h2 ⊢;rw [Nat.pow_succ];omega
theorem Bd.sub {k m:Nat} {a b:Int} (ha:Bd k a) (hb:Bd m b):Bd (max k m+1) (a-b):=by
 rw [Int.sub_eq_add_neg];exact ha.add hb.neg
theorem Bd.mul {k m:Nat} {a b:Int} (ha:Bd k a) (hb:Bd m b):Bd (k+m) (a*b):=by
 unfold Bd at*
 rw [Int.natAbs_mul,Nat.pow_add];exact Nat.mul_lt_mul'' ha hb
theorem Bd.le {k:Nat} {a b:Int} (hb:Bd k b) (h:a.natAbs≤b.natAbs):Bd k a:=Nat.lt_of_le_of_lt h hb
theorem WN.pos {v:AV} {m:Nat} (h:WN v m) (h0:0<m):∃e l,v= .vsl e l.length (l.map uc)∧l≠[]∧lo 18446744073709551616 l∧nzN l∧bv 18446744073709551616 l=m:=by
 obtain ⟨l,hv,g,n,hb⟩:=h;have hl:l≠[]:=fun e=>by subst e;simp [bv] at hb;omega
 rcases hv with ⟨_,e⟩ | ⟨e,rfl⟩
 ·simp at e;exact absurd e hl
 ·exact ⟨e,l,by simp,hl,g,n,hb⟩
theorem WN.zero {v:AV} (h:WN v 0):∃n,zb8 [] 1 v=some (.int .i64 n)∧n=0:=by
 obtain ⟨l,hv,g,n,hb⟩:=h
 have:=zwf (b:=18446744073709551616) (by decide) n hb
 subst this;exact ⟨_,hv.len,rfl⟩
theorem WN.isU {v:AV} {m:Nat} (h:WN v m):∃l,IsU v l∧lo 18446744073709551616 l∧nzN l∧bv 18446744073709551616 l=m:=h
theorem zc1 (e:Bool) (n:Nat) (cs:List AV):zeI .sl (.vsl e n cs) .nils=some false:=rfl
theorem zbJ:zeI .sl .nils .nils=some true:=rfl
theorem zje (hp:Hp) (ct id:Nat) (a:Int) (e:Bool) (n:Nat) (cs:List AV) (x y:AV):stC hp ct id 0 2 [.int .i64 a,.vsl e n cs] (some (.cells true true true 2 [x,y]))=some (.tup [],z7 hp id (.cells true true true 2 [.int .i64 a,.vsl e n cs]),ct):=zcS rfl rfl rfl rfl
theorem zda {tm:Env} {a x y:AV} {r:List (Nat×Nat×X)} (h:z9 a=true):zgd tm [x,y] 0 1 [a] r=fill tm [a,y] r:=zs6 (by simp) h
theorem Nok.mk_small {z:Int} (h1: -9223372036854775808≤z) (h2:z<9223372036854775808):IsN (.agg [zh z,.nils]) z:=⟨z,.nils,rfl,.inl ⟨rfl,rfl,h1,h2⟩⟩
theorem Nok.sgn {s:Int} {w:AV} {z:Int} (h:Nok s w z):(s<0↔z<0)∧(s=0↔z=0)∧-9223372036854775808≤s∧s<9223372036854775808:=by
 rcases h with ⟨_,rfl,h1,h2⟩ | ⟨e,l,_,_,_,_,rfl,h1⟩
 ·exact ⟨Iff.rfl,Iff.rfl,h1,h2⟩
 ·split<;>omega
section
variable {P:zN} {L:Lib}
structure Nu (P:zN) (L:Lib):Prop extends Wd P L where
 h117:Has P L 117 zxM
 h142:Has P L 142 zBW
 h136:Has P L 136 zx6
 h145:Has P L 145 zmh
 h146:Has P L 146 zmm
 h147:Has P L 147 zlb
 h163:Has P L 163 zmR
 h118:Has P L 118 zpH
 h119:Has P L 119 c119
 h156:Has P L 156 zG9
 h100:Has P L 100 c100
 h164:Has P L 164 c164
 h148:Has P L 148 zuf
 h130:Has P L 130 zun
theorem zop (h:Nu P L) {z:Int} (h1: -9223372036854775808≤z) (h2:z<9223372036854775808):zK P L 117 [zh z] (.agg [zh z,.nils])∧IsN (.agg [zh z,.nils]) z:=⟨zQC h.h117 z,Nok.mk_small h1 h2⟩
theorem zJ4 (h:Nu P L) {n:Int} (h1: -9223372036854775808≤n) (h2:n<9223372036854775808):zK P L 142 [zh n] (uc n.natAbs):=by
 unfold zK;rw [zf h.h142];by_cases h0:n<0
 ·have e:IntKind.wrap .u64 (IntKind.wrap .i64 (0-n))=(n.natAbs:Int):=by
   by_cases hm:n= -9223372036854775808
   ·subst hm;rfl
   ·rw [ze (by omega) (by omega),zry];omega
  simp only [go_sem,reduceEqDiff,zBW,h0,zzc,e]
 ·have e:IntKind.wrap .u64 n=(n.natAbs:Int):=by rw [zry];omega
  simp only [go_sem,reduceEqDiff,zBW,h0,zzc,e]
theorem zmu (h:Nu P L) {s:Int} {w:AV} {z:Int} (hz:Nok s w z):∃r,zK P L 136 [.agg [zh s,w]] (.tup [.bool (decide (z<0)),r])∧WN (shut1 r) z.natAbs:=by
 rcases hz with ⟨rfl,rfl,h1,h2⟩ | ⟨e,l,rfl,g,n,hb,hs,h1⟩
 ·by_cases h0:s=0
  ·subst h0;refine ⟨.nils,?_,[],zcz,zmI,rfl,rfl⟩;unfold zK;rw [zf h.h136];simp only [go_sem,reduceEqDiff,reduceAdd,zx6,zu,zI,Nat.zero_add,zak,zbJ,zj0,Int.reduceLT];rfl
  ·have e1:=zJ4 h h1 h2;refine ⟨.fsl true 1 1 [uc s.natAbs],?_,[s.natAbs],zbL true [s.natAbs],lo_one.2 (by omega),zcZ (by omega) [],zfi _⟩;unfold zK at e1;unfold zK;rw [zf h.h136];simp only [go_sem,reduceEqDiff,reduceAdd,reduceLeDiff,Nat.mul_one,zx6,zu,zI,Nat.zero_add,zak,zbJ,zj0,h0,e1];rfl
 ·have hs0:decide (s<0)=decide (z<0):=by rw [hs];split<;>simp<;>omega
  refine ⟨.vsl e l.length (l.map uc),?_,l,zbL e l,g,n,hb⟩;unfold zK;rw [zf h.h136];simp only [go_sem,reduceEqDiff,reduceAdd,zx6,zu,zI,Nat.zero_add,zak,zc1,zj0,hs0];rfl
theorem zlQ {d:Nat} (h:d≤9223372036854775807):IntKind.wrap .i64 (d:Int)=d:=zy (by omega)
theorem zpw (h:Nu P L) (neg:Bool) {w:AV} {m K:Nat} (hw:WN w m) (hm:m<18446744073709551616^K) (hK:K≤90000000000):∃r,zK P L 145 [.bool neg,w] r∧IsN r (za5 neg m):=by
 obtain ⟨l,hu,g,n,hb⟩:=hw;have hll:l.length≤90000000000:=Nat.le_trans (zhN n hb hm) hK;by_cases h0:l=[]
 ·subst h0
  have:m=0:=by rw [←hb];rfl
  subst this;have e:za5 neg 0=0:=by unfold za5;cases neg<;>rfl
  rw [e];refine ⟨.agg [zh 0,.nils],?_,Nok.mk_small (by decide) (by decide)⟩;unfold zK;rw [zf h.h145];simp only [go_sem,reduceEqDiff,reduceAdd,zmh,zu,hu.len,List.length_nil,show (((0:Nat):Nat):Int)=0 from rfl,zbo];rfl
 ·have hl0:0<l.length:=List.length_pos_iff.2 h0;by_cases h1:l.length=1∧l.getD 0 0≤9223372036854775807
  ·obtain ⟨h1,h2⟩:=h1;obtain ⟨d,rfl⟩:∃d,l=[d]:=by
    cases l with
    | nil=>simp at h1
    | cons d r=>cases r with
     | nil=>exact ⟨d,rfl⟩
     | cons e r=>simp at h1
   have h2:d≤9223372036854775807:=h2;rw [zfi] at hb;subst hb;have ex:=hu.ixa (i:=0) (by simp);rw [show ([d]:List Nat).getD 0 0=d from rfl] at ex;have hlen:∀hp,zb8 hp 1 w=some (.int .i64 1):=fun hp=>hu.len
   cases neg with
   | true=>
    refine ⟨.agg [zh (0-(d:Int)),.nils],?_,?_⟩
    ·unfold zK;rw [zf h.h145]
     simp only [go_sem,reduceEqDiff,reduceAdd,reduceLeDiff,zmh,zu,hlen,Int.reduceEq,ex,show (d:Int)≤9223372036854775807 by omega,zmC,zlQ h2,ze (n:=0-(d:Int)) (by omega) (by omega),zbo];rfl
    ·have:za5 true d=0-(d:Int):=by unfold za5;simp
     rw [this];exact Nok.mk_small (by omega) (by omega)
   | false=>
    refine ⟨.agg [zh (d:Int),.nils],?_,?_⟩
    ·unfold zK;rw [zf h.h145];simp only [go_sem,reduceEqDiff,reduceAdd,reduceLeDiff,zmh,zu,hlen,Int.reduceEq,ex,show (d:Int)≤9223372036854775807 by omega,zmC,zlQ h2,zbo];rfl
    ·have:za5 false d=(d:Int):=by unfold za5;simp
     rw [this];exact Nok.mk_small (by omega) (by omega)
  ·have hm0:9223372036854775808≤m:=by
    rw [←hb];by_cases h2:l.length=1
    ·obtain ⟨d,rfl⟩:∃d,l=[d]:=by
      cases l with
      | nil=>simp at h2
      | cons d r=>cases r with
       | nil=>exact ⟨d,rfl⟩
       | cons e r=>simp at h2
     have:¬d≤9223372036854775807:=fun hd=>h1 ⟨h2,hd⟩
     rw [zfi];omega
    ·have h3:=zmz (b:=18446744073709551616) (by decide) n h0;have h4:18446744073709551616^1≤18446744073709551616^(l.length-1):=Nat.pow_le_pow_right (by decide) (by omega);rw [Nat.pow_one] at h4;omega
   obtain ⟨e,l',hv,_,_,_,_⟩:=WN.pos (v:=w) ⟨l,hu,g,n,hb⟩ (by omega);have hv2:∃e,w= .vsl e l.length (l.map uc):=by
    rcases hu with ⟨rfl,hh⟩ | ⟨e,rfl⟩
    ·simp at hh;exact absurd hh h0
    ·exact ⟨e,by simp⟩
   clear hv;obtain ⟨e,rfl⟩:=hv2;have ex:=hu.ixa (i:=0) hl0;have first:(decide ((l.length:Int)=1)=true∧¬((l.getD 0 0:Nat):Int)≤9223372036854775807)∨decide ((l.length:Int)=1)=false:=by
    by_cases h2:l.length=1
    ·left;refine ⟨by simp;omega,fun hd=>h1 ⟨h2,by omega⟩⟩
    ·right;simp;omega
   generalize l.getD 0 0=d at*
   cases neg with
   | true=>
    refine ⟨.agg [zh (-1),.vsl e l.length (l.map uc)],?_,-1,_,rfl,.inr ⟨e,l,rfl,g,n,by rw [hb];unfold za5;simp,by unfold za5;simp;omega,by unfold za5;simp;omega⟩⟩
    unfold zK;rw [zf h.h145];rcases first with ⟨f1,f2⟩ | f1
    ·simp only [go_sem,reduceEqDiff,reduceAdd,reduceLeDiff,zmh,zu,show ¬(l.length:Int)=0 by omega,f1,f2,ex,zda,zje];rfl
    ·simp only [go_sem,reduceEqDiff,reduceAdd,reduceLeDiff,zmh,zu,show ¬(l.length:Int)=0 by omega,f1,zda,zje];rfl
   | false=>
    refine ⟨.agg [zh 1,.vsl e l.length (l.map uc)],?_,1,_,rfl,.inr ⟨e,l,rfl,g,n,by rw [hb];unfold za5;simp,by unfold za5;simp,by unfold za5;simp;omega⟩⟩
    unfold zK;rw [zf h.h145];rcases first with ⟨f1,f2⟩ | f1
    ·simp only [go_sem,reduceEqDiff,reduceAdd,reduceLeDiff,zmh,zu,show ¬(l.length:Int)=0 by omega,f1,f2,ex,zda,zje];rfl
    ·simp only [go_sem,reduceEqDiff,reduceAdd,reduceLeDiff,zmh,zu,show ¬(l.length:Int)=0 by omega,f1,zda,zje];rfl
end
end VE
end
