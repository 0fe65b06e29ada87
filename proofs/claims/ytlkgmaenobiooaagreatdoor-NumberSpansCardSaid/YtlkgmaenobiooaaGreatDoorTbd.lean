import Derived.Test.YtlkgmaenobiooaaGreatDoorTav
import Derived.Test.YtlkgmaenobiooaaGreatDoorTai
import Derived.Test.YtlkgmaenobiooaaGreatDoorTax
set_option linter.all false
set_option maxRecDepth 100000
open Bool renaming not_false→yH,not_true→yI
open Int renaming ediv_one→ybN,natAbs_ediv_le_natAbs→tK,natAbs_natCast→yQ,natCast_mul→xE,natCast_pow→yba
open List renaming drop_zero→ye
open Nat renaming Coprime→yam,add_zero→yW,div_le_self→wV,eq_zero_or_pos→xj,le_antisymm→tr,le_mul_of_pos_left→tS,le_of_lt→uB,le_of_not_lt→vX,le_refl→yA,le_trans→yS,lt_of_le_of_lt→xL,mul_le_mul→ve,mul_le_mul_left→yT,mul_one→yj,mul_pos→yaT,one_lt_two_pow→yaB,pos_of_ne_zero→tB,pow_add→xO,pow_pos→tU,pow_succ→xh,reduceAdd→yb,reduceEqDiff→ya,reduceLT→yr,reduceLeDiff→yi,zero_add→yd,zero_le→uF
open Nat.Coprime renaming coprime_mul_left→ycg,coprime_mul_left_right→ych,symm→yci
open Rat renaming den_intCast→ybb,divInt→xF,divInt_mul_divInt→yae,floor_def→uH,intCast_lt_intCast→ug,lt_floor_add_one→yal,mul_nonneg→vA,mul_one→ybK,num_divInt_den→yaz,num_intCast→tu,num_nonneg→uC
namespace VE
section
def cg:Nat->Nat
 | 0=>0
 | n+1=>if (cg n+1)*(cg n+1)<=n+1 then cg n+1 else cg n
def Ch:∀n,cg n*cg n<=n
 | 0=>yA _
 | n+1=>by
  unfold cg
  split
  ·assumption
  ·exact Nat.le_succ_of_le (Ch n)
def Wi:∀n,n<(cg n+1)*(cg n+1)
 | 0=>by decide
 | n+1=>by
  have ih:=Wi n;unfold cg
  split
  ·have:(cg n+1+1)*(cg n+1+1)=(cg n+1)*(cg n+1)+2*cg n+3:=by grind
   omega
  ·omega
def Pr {a b:Nat} (h:a<=b):a*a<=b*b:=ve h h
def Wj {n r:Nat} (h:r*r<=n):r<=cg n:=by
 apply vX;intro hc
 have:=Pr (show cg n+1<=r from hc)
 have:=Wi n
 omega
def agR {n r:Nat} (h1:r*r<=n) (h2:n<(r+1)*(r+1)):cg n=r:=by
 have h3:=Wj h1;apply tr _ h3;apply vX;intro hc
 have:=Pr (show r+1<=cg n from hc)
 have:=Ch n
 omega
def ats {x s:Nat} (hs:0<s):cg x<=(s+x/s)/2:=by
 apply vX;intro hc;obtain ⟨q,hq⟩:∃q,x/s=q:=⟨_,rfl⟩;rw [hq] at hc;obtain ⟨t,ht⟩:∃t,s+t=2*cg x:=⟨2*cg x-s,by omega⟩;have h2:x<t*s:=(Nat.div_lt_iff_lt_mul hs).1 (by rw [hq];omega);have h3:=Ch x;generalize cg x=r at*
 have h4:r*r<t*s:=by omega
 have h5:t*s<=r*r:=by
  by_cases hr:s<=r
  ·obtain ⟨d,rfl⟩:∃d,r=s+d:=⟨r-s,by omega⟩;obtain rfl:t=s+2*d:=by omega
   have e1:(s+2*d)*s=s*s+2*(d*s):=by grind
   have e2:(s+d)*(s+d)=s*s+2*(d*s)+d*d:=by grind
   omega
  ·obtain ⟨d,rfl⟩:∃d,r=t+d:=⟨r-t,by omega⟩;obtain rfl:s=t+2*d:=by omega
   have e1:t*(t+2*d)=t*t+2*(d*t):=by grind
   have e2:(t+d)*(t+d)=t*t+2*(d*t)+d*d:=by grind
   omega
 omega
def aqU {x s:Nat} (hs:0<s) (h1:cg x<=s) (h2:s<=(s+x/s)/2):cg x=s:=by
 apply tr h1;apply Wj;obtain ⟨q,hq⟩:∃q,x/s=q:=⟨_,rfl⟩;rw [hq] at h2;exact (Nat.le_div_iff_mul_le hs).1 (by rw [hq];omega)
def ajV {x:Nat} (h:0<x):0<cg x:=Wj (r:=1) h
def agS (x:Nat):cg (x*x)=x:=agR (yA _) (by
 have:(x+1)*(x+1)=x*x+2*x+1:=by grind
 omega)
def rX (x:Nat):cg x<=x:=by
 have h:=Ch x;by_cases h0:cg x=0
 ·omega
 ·exact yS (tS _ (tB h0)) h
def att {x B:Nat} (h:x<2^B):cg x<=2^((B+1)/2):=by
 apply vX;intro hc;have h1:=ve (uB hc) (uB hc);rw [<-xO] at h1;have h2:2^B<=2^((B+1)/2+(B+1)/2):=Nat.pow_le_pow_right (by decide) (by omega)
 have:=Ch x
 omega
end
section
open Go (IntKind)
section
variable {P:aJ} {L:Lib}
def aBz (h:Nu P L) {x:Nat} {K:Nat} (hx:Bd K (x:Int)) (x0:0<x) (hK:K<=20000000000) {o1 o2:AV}:
  ∀k st,(∃(s:Nat) (s1 s2:Int) (w1 w2:AV),bS [1,2,3] st=⟨[(1,.ptr 0 0),(2,.ptr 1 0),(3,.ptr 2 0)],[(2,.cells true true true 2 [ab s2,w2]),(1,.cells true true true 2 [o1,o2]),(0,.cells true true true 2 [ab s1,w1])],3,0⟩/\cx s1 w1 (x:Int)/\cx s2 w2 (s:Int)/\cg x<=s/\0<s/\Bd (K+65) (s:Int)/\s=k)->
   ∃ex st',D P L (.loop [1,2,3] KY) st=some (ex,st')/\∃tm s3 w3 c0 c2 c3 c4 c5 c6,st'=⟨tm,[(6,c6),(5,c5),(4,c4),(3,c3),(2,c2),(1,.cells true true true 2 [ab s3,w3]),(0,c0)],7,0⟩/\ex= .ret/\ak tm 2= .ptr 1 0/\cx s3 w3 (cg x:Int):=by
 refine cR (I:=fun k st=>∃(s:Nat) (s1 s2:Int) (w1 w2:AV),st=⟨[(1,.ptr 0 0),(2,.ptr 1 0),(3,.ptr 2 0)],[(2,.cells true true true 2 [ab s2,w2]),(1,.cells true true true 2 [o1,o2]),(0,.cells true true true 2 [ab s1,w1])],3,0⟩/\cx s1 w1 (x:Int)/\cx s2 w2 (s:Int)/\cg x<=s/\0<s/\Bd (K+65) (s:Int)/\s=k)
  (Q:=fun ex st'=>∃tm s3 w3 c0 c2 c3 c4 c5 c6,st'=⟨tm,[(6,c6),(5,c5),(4,c4),(3,c3),(2,c2),(1,.cells true true true 2 [ab s3,w3]),(0,c0)],7,0⟩/\ex= .ret/\ak tm 2= .ptr 1 0/\cx s3 w3 (cg x:Int)) ?_
 rintro k st ⟨s,s1,s2,w1,w2,rfl,h1,h2,hs,hp,kb,rfl⟩;obtain ⟨l1,u1⟩:=h1.aK;obtain ⟨l2,u2⟩:=h2.aK;have i1:cu (.agg [ab s1,w1]) (x:Int):=⟨s1,w1,rfl,h1⟩;have i2:cu (.agg [ab s2,w2]) (s:Int):=⟨s2,w2,rfl,h2⟩;have zD:Bd (K+65) (x:Int):=hx.mono (by omega);obtain ⟨q,r,e1,hq,hr⟩:=MJ h i1 i2 (by omega) zD kb (by omega);rw [show ((x:Int)/(s:Int))=((x/s:Nat):Int) from rfl] at hq;have kq:Bd (K+65) ((x/s:Nat):Int):=zD.le (by rw [yQ,yQ];exact wV _ _)
 obtain ⟨t,e2,ht⟩:=E3 h i2 hq kb kq (by omega);obtain ⟨e3,i3⟩:=rH h (z:=2) (by decide) (by decide);have kt:Bd (K+66) ((s:Int)+((x/s:Nat):Int)):=kb.ML kq;obtain ⟨n,r2,e4,hn,lH⟩:=MJ h ht i3 (by decide) kt (show Bd (K+66) 2 from Bd.mono (show Bd 2 2 by unfold Bd;decide) (by omega)) (by omega)
 rw [show ((s:Int)+((x/s:Nat):Int))/2=(((s+x/s)/2:Nat):Int) from rfl] at hn;have ng:=ats (x:=x) hp;have kn:Bd (K+66) ((((s+x/s)/2:Nat)):Int):=kt.le (by omega);have e5:=MI h hn i2 kn (kb.mono (by omega)) (by omega);obtain ⟨s3,w3,rfl,h3⟩:=hq;obtain ⟨s4,w4,rfl,h4⟩:=hr;obtain ⟨s5,w5,rfl,h5⟩:=ht;obtain ⟨s6,w6,rfl,h6⟩:=hn;obtain ⟨s7,w7,rfl,h7⟩:=lH;obtain ⟨l3,u3⟩:=h3.aK;obtain ⟨l4,u4⟩:=h4.aK;obtain ⟨l5,u5⟩:=h5.aK;obtain ⟨l6,u6⟩:=h6.aK;obtain ⟨l7,u7⟩:=h7.aK;have un:=od;unfold ai at e1 e2 e3 e4 e5;by_cases hc:s<=(s+x/s)/2
 ·right
  have d1:decide (0<=bG ((((s+x/s)/2:Nat):Int)-(s:Int)))=true:=yD (by unfold bG;split<;>omega)
  have hr:=aqU hp hs hc;simp only [go_sem,ya,yb,KY,az,bL,aU,u1.ao,u2.ao,un.pu,un.ao,un.one,e1,e2,e3,e4,e5,d1,mu,bL,ye,cJ u2,cJ u3,cJ u4,cJ u6,cJ u7,u3.ao,u5.ao,u6.ao];exact ⟨_,_,rfl,by simp,_,s2,w2,_,_,_,_,_,_,rfl,rfl,by simp only [go_sem,ya],by rw [hr];exact h2⟩
 ·left
  have d1:decide (0<=bG ((((s+x/s)/2:Nat):Int)-(s:Int)))=false:=yC (by unfold bG;rw [yz (by omega)];decide)
  simp only [go_sem,ya,yb,KY,az,bL,aU,u1.ao,u2.ao,un.pu,un.ao,un.one,e1,e2,e3,e4,e5,d1,mu,bL,ye,cJ u3,cJ u4,cJ u6,cJ u7,u3.ao,u5.ao,u6.ao];refine ⟨_,(s+x/s)/2,rfl,by omega,(s+x/s)/2,s1,s6,w1,w6,?_,h1,h6,ng,Nat.lt_of_lt_of_le (ajV x0) ng,kb.le (by omega),rfl⟩;simp only [go_sem,ya,yb,aH]
def acb (h:Tx P L) (nO:Has P L 237 Av) {v:AV} {x:Nat} {K:Nat} (hv:cu v (x:Int)) (hx:Bd K (x:Int)) (hK:K<=4000000000):∃r,ai P L 237 [v] r/\cu r (cg x:Int):=by
 have e1:=E2 h.toNu hv;obtain ⟨s1,w1,rfl,h1⟩:=hv;obtain ⟨l1,u1⟩:=h1.aK;have un:=od;by_cases x0:x=0
 ·subst x0;refine ⟨_,?_,s1,w1,rfl,h1⟩;unfold ai at e1 ⊢;rw [ax nO];rw [show bG ((0:Nat):Int)=0 from rfl] at e1;simp only [go_sem,ya,yb,Av,az,bL,aU,u1.pu,u1.ao,u1.one,e1,ym,di,dj,bL,ye,kC u1,cJ u1]
 ·have e0:bG (x:Int)=1:=by unfold bG;rw [yp (by omega),yp (by omega)]
  rw [e0] at e1;obtain ⟨e2,i2⟩:=rH h.toNu (z:=2) (by decide) (by decide);obtain ⟨B,e3,hB,hB'⟩:=alM h (⟨s1,w1,rfl,h1⟩:cu (.agg [ab s1,w1]) (x:Int)) hx hK;rw [yQ] at hB;obtain ⟨p,e4,hp⟩:=abB h.toNu h.MM i2 (show Bd 2 2 by unfold Bd;decide) (k:=(B+1)/2) (by omega) (by omega)
  rw [show ((2:Int)^((B+1)/2))=((2^((B+1)/2):Nat):Int) by rw [yba];rfl] at hp
  have ks:Bd (K+65) ((2^((B+1)/2):Nat):Int):=by
   unfold Bd;rw [yQ];exact Nat.pow_lt_pow_right (by decide) (by omega)
  obtain ⟨s2,w2,rfl,h2⟩:=hp;obtain ⟨l2,u2⟩:=h2.aK;have w1':IntKind.wrap .i64 ((B:Int)+1)=(B:Int)+1:=wrap64 (by omega) (by omega);have q1:(B:Int).add 1=B+1:=rfl;have q2:((B:Int)+1).tdiv 2=(((B+1)/2:Nat):Int):=rfl;have w2':IntKind.wrap .i64 (((B+1)/2:Nat):Int)=(((B+1)/2:Nat):Int):=wrap64 (by omega) (by omega);unfold ai at e1 e2 e3 e4;have iz:∃s w,ai P L 237 [.agg [ab s1,w1]] (.agg [ab s,w])/\cx s w (cg x:Int):=by
   unfold ai;rw [ax nO];simp only [go_sem,ya,yb,Av,az,bL,aU,u1.pu,u1.ao,u1.one,e1,Int.reduceEq,yk,e2,e3,w1',fq _ _ _ (show (2:Int)≠0 by decide),q2,w2',e4,bq,bL,ye,cJ u2,un.pu,un.ao,un.one];generalize hq:D P L (.loop [1,2,3] KY) _=q;obtain ⟨ex,s,rfl,tm,s5,w5,c0,c2,c3,c4,c5,c6,rfl,rfl,t2,h5⟩:=cG hq (aBz (P:=P) (L:=L) h.toNu (x:=x) (K:=K) hx (by omega) (by omega) (o1:= .int .i64 0) (o2:= .aa) (2^((B+1)/2))) ⟨_,s1,s2,w1,w2,by simp only [go_sem,ya,yb,aH],h1,h2,att hB,tB (by simp),ks,rfl⟩;obtain ⟨l5,u5⟩:=h5.aK;refine ⟨s5,w5,?_,h5⟩;simp only [go_sem,ya,t2,di,dj,bL,ye,kC u5]
  obtain ⟨s,w,e,hn⟩:=iz;exact ⟨_,e,s,w,rfl,hn⟩
end
end
section
open Go (IntKind)
def atu {n:Int} {d:Nat} (hd:0<d):n/(d:Int)=if n<0/\0<n.natAbs%d then -((n.natAbs/d:Nat)+1:Int) else cD (decide (n<0)) (n.natAbs/d):=by
 have fK:=Nat.div_add_mod n.natAbs d;have hm:=Nat.mod_lt n.natAbs hd;generalize n.natAbs/d=q at*
 generalize hr:n.natAbs%d=r at*
 by_cases h0:n<0
 ·have hn:n= -((d*q+r:Nat):Int):=by omega
  by_cases h1:0<r
  ·rw [yz ⟨h0,h1⟩];rw [hn]
   refine (Int.ediv_emod_unique (a:= -((d*q+r:Nat):Int)) (b:=(d:Int)) (r:=(d:Int)-r) (q:= -((q:Int)+1)) (by omega)).2 ⟨?_,by omega,by omega⟩ |>.1
   grind
  ·have:r=0:=by omega
   subst this;rw [yp (by omega)];unfold cD;rw [yz (by simpa using h0),hn,yW,xE,<-Int.mul_neg,Int.mul_ediv_cancel_left _ (by omega)]
 ·rw [yp (by omega)];unfold cD;rw [yp (by simpa using h0)];have hn:n=((d*q+r:Nat):Int):=by omega
  rw [hn];rw [<-Int.natCast_ediv,Nat.mul_add_div hd,Nat.div_eq_of_lt hm,yW]
section
variable {P:aJ} {L:Lib}
def aFk (h:Rm P L) (qv:Has P L 338 CH) {a:Rat} {K:Nat} (ka:Hq K a) (hK:K<=8000000000):ai P L 338 [.str (RT a)] (.bool (decide (a.den=1))):=by
 have hl:=pK ka;have e0:=EW h.AI (s:=RT a) (by omega);unfold ai at e0 ⊢;rw [ax qv];by_cases hd:a.den=1
 ·have hs:bX (RT a)=(RT a).length:=by
   unfold RT;rw [yz hd]
   have:=DK a.num []
   rw [this];simp [bX]
  rw [hs] at e0;simp only [go_sem,ya,CH,e0,hd,ym]
 ·have hs:bX (RT a)<(RT a).length:=by
   unfold RT;rw [yp hd,DK];simp [bX]
  rw [yC hd];simp only [go_sem,ya,CH,e0,show ¬((bX (RT a):Nat):Int)=((RT a).length:Int) by omega,yk]
def aFl (h:Rm P L) (oP:Has P L 339 AA) {v w:AV} {n d:Int} {K:Nat} (hK:K<=7000000000) (hv:jq v n) (hw:jq w d) (kn:Bd K n) (kd:Bd K d) (hd:0<d):∃r,ai P L 339 [v,w] r/\jq r (n/d):=by
 obtain ⟨x,a,rfl,hx,ha,na,va⟩:=hv;obtain ⟨y,b,rfl,hy,hb,nb,vb⟩:=hw;have la:=yS (ik ha na (by rw [va];exact kn.r)) hK
 have lb:=yS (ik hb nb (by rw [vb];exact kd.r)) hK
 obtain ⟨q,r,lq,lr,e1,hq,hr,dq,nq,dr,nr,vq,vr⟩:=WE h hx hy ha hb na nb (by omega) (by omega) (by omega);rw [va,vb] at vq vr;have IQ:lq.length<=7000000000:=yS (ik dq nq (by rw [vq];exact xL (wV _ _) kn.r)) hK
 have ze:=atu (n:=n) (d:=d.natAbs) (by omega);rw [show ((d.natAbs:Nat):Int)=d by omega] at ze;have mi:(0<n.natAbs%d.natAbs)↔0<lr.length:=by
  rw [<-vr];constructor
  ·intro h1;rcases xj lr.length with h0 | h0
   ·rw [List.eq_nil_of_length_eq_zero h0] at h1;simp [dv] at h1
   ·exact h0
  ·intro h1;rcases xj (dv lr) with h0 | h0
   ·have:=Vy nr dr h0;subst this;simp at h1
   ·exact h0
 by_cases hc:n<0/\0<lr.length
 ·obtain ⟨c1,c2⟩:=hc;rw [yz ⟨c1,mi.2 c2⟩] at ze;have fO:bB (.ap true 1 [ab 1]) [(1:Int)]:=gG true [(1:Int)];obtain ⟨z,out,e2,hz,hdo,hvo,a8⟩:=anK h.Sk h.mQ hq fO dq (kZ.2 (by decide)) (by omega) (by simp);simp only [List.length_cons,List.length_nil] at a8;obtain ⟨s,e3,hs⟩:=rG h.iL h.cZ (decide (n<0)) hz hdo (by omega);have aM:cD (decide (n<0)) (dv out)=n/d:=by
   rw [hvo,vq,ze];unfold cD;rw [yz (by simpa using c1)];simp [dv]
  rw [aM] at hs;refine ⟨s,?_,hs⟩;obtain ⟨sw,sl,rfl,gE,_,_,_⟩:=hs;unfold ai at e1 e2 e3 ⊢;rw [ax oP];simp only [c1,ym] at e3 ⊢;simp only [go_sem,ya,yb,yr,yi,yj,AA,az,hx.pu,hx.ao,hx.one,hy.pu,hy.ao,hy.one,aP,yd,bj,e1,hq.ao,hq.b6,hr.len,hr.b6,show (0:Int)<(lr.length:Int) by omega,ym,e2,hz.ao,e3,gE.pu,gE.one,bq,bP];rcases gE with ⟨rfl,_⟩ | ⟨e,rfl⟩<;>rfl
 ·rw [yp (fun e=>hc ⟨e.1,mi.1 e.2⟩)] at ze;obtain ⟨s,e3,hs⟩:=rG h.iL h.cZ (decide (n<0)) hq dq (by omega);rw [vq,<-ze] at hs;refine ⟨s,?_,hs⟩;obtain ⟨sw,sl,rfl,gE,_,_,_⟩:=hs;unfold ai at e1 e3 ⊢;rw [ax oP];by_cases h0:n<0
  ·have kM:lr.length=0:=by
    rcases xj lr.length with h1 | h1
    ·exact h1
    ·exact absurd ⟨h0,h1⟩ hc
   simp only [h0,ym] at e3 ⊢;simp only [go_sem,ya,yb,AA,az,hx.pu,hx.ao,hx.one,hy.pu,hy.ao,hy.one,aP,yd,bj,e1,hq.ao,hq.b6,hr.len,hr.b6,kM,show ¬(0:Int)<((0:Nat):Int) by omega,e3,gE.pu,gE.one,bq,bP];rcases gE with ⟨rfl,_⟩ | ⟨e,rfl⟩<;>rfl
  ·simp only [h0,yk] at e3 ⊢;simp only [go_sem,ya,yb,AA,az,hx.pu,hx.ao,hx.one,hy.pu,hy.ao,hy.one,aP,yd,bj,e1,hq.ao,hq.b6,hr.b6,e3,gE.pu,gE.one,bq,bP];rcases gE with ⟨rfl,_⟩ | ⟨e,rfl⟩<;>rfl
def aok (h:Rm P L) (sY:Has P L 336 EL) (qv:Has P L 338 CH) (oP:Has P L 339 AA) {a:Rat} {K:Nat} (ka:Hq K a) (hK:K<=7000000000):ai P L 336 [.str (RT a)] (.str (RT (a.floor:Rat))):=by
 have e0:=aFk h qv ka (by omega);unfold ai at e0 ⊢;rw [ax sY];by_cases hd:a.den=1
 ·rw [yD hd] at e0;have hf:(a.floor:Rat)=a:=by
   rw [uH,hd];simp only [Int.natCast_one,ybN];exact (Pf a hd).symm
  rw [hf];simp only [go_sem,ya,EL,e0]
 ·rw [yC hd] at e0;obtain ⟨x,y,e1,hx,hy⟩:=G1 h ka (by omega);obtain ⟨r,e2,hr⟩:=aFl h oP (K:=K) hK hx hy ka.1 ka.2 (OR a);rw [<-uH] at hr;have kf:Bd K a.floor:=ka.1.le (by
   rw [uH]
   exact tK _ _)
  obtain ⟨e3,_⟩:=abN (K:=K) h.abO h.p6 (by omega) hr kf.r;rw [Wc];obtain ⟨xw,xl,rfl,dX,_,_,_⟩:=hx;obtain ⟨yw,yl,rfl,dY,_,_,_⟩:=hy;obtain ⟨fm,rl,rfl,oS,_,_,_⟩:=hr;simp only [go_sem,ya,yb,EL,e0,az,e1,dX.pu,dX.ao,dX.one,dY.pu,dY.ao,dY.one,oS.ao,aU,bq,mu,bP,cp,e2,e3]
end
end
section
open Go (IntKind)
def rN (m:Nat):Rat:=((m:Int):Rat)
def jz (a b:Nat):rN a*rN b=rN (a*b):=by unfold rN;rw [xE,Rat.intCast_mul]
def GR (a b:Nat):rN a+rN b=rN (a+b):=by unfold rN;rw [Int.natCast_add,Rat.intCast_add]
def aBA {a b:Nat} (h:b<=a):rN a-rN b=rN (a-b):=by unfold rN;rw [Int.natCast_sub h,Rat.intCast_sub]
def oA {a b:Nat}:rN a<=rN b↔a<=b:=by unfold rN;rw [Rat.intCast_le_intCast];omega
def Et {a b:Nat}:rN a<rN b↔a<b:=by unfold rN;rw [ug];omega
def M2:rN 0=0:=rfl
def M3:rN 1=1:=rfl
def aol:rN 2=2:=rfl
def aBB (a:Nat):(rN a).num=a:=tu _
def aBC (a:Nat):(rN a).den=1:=ybb _
def ji {a K:Nat} (h:a<2^K) (hK:0<K):Hq K (rN a):=by
 refine ⟨?_,?_⟩
 ·rw [aBB];unfold Bd;rwa [yQ]
 ·rw [aBC];unfold Bd;exact yaB (by omega)
def arJ {r:Rat} {z:Int} (h1:(z:Rat)<=r) (h2:r<((z+1:Int):Rat)):r.floor=z:=by
 have a1:=Rat.floor_le r;have a2:=yal r;have b1:((r.floor:Int):Rat)<((z+1:Int):Rat):=by grind
 have b2:((z:Int):Rat)<((r.floor+1:Int):Rat):=by grind
 rw [ug] at b1 b2;omega
def axL (a:Nat):(rN a*Es).floor=((a/2:Nat):Int):=by
 have h0:rN a=2*(rN a*Es):=by rw [avB];grind
 have h1:rN 2*rN (a/2)<=rN a:=by rw [jz,oA];omega
 have h2:rN a<rN 2*rN (a/2+1):=by rw [jz,Et];omega
 rw [aol] at h1 h2;refine arJ ?_ ?_
 ·show rN (a/2)<=_
  grind
 ·show _<rN (a/2+1)
  grind
section
variable {P:aJ} {L:Lib}
def aBD (h:Rn P L) (bD:Has P L 315 fU) {n K:Nat} (hn:n<2^K) (hK:0<K/\K<=1000000):
  ∀k st,(∃m:Nat,bS [0,3,4] st=⟨[(0,.str (RT (rN n))),(3,.str [48]),(4,.str (RT (rN m)))],[],0,0⟩/\0<m/\m<=2*n+1/\n+1-m=k)->
   ∃ex st',D P L (.loop [0,3,4] Ld) st=some (ex,st')/\∃tm ct m,st'=⟨tm,[],ct,0⟩/\ex= .exit 0/\ak tm 0= .str (RT (rN n))/\ak tm 3= .str [48]/\ak tm 4= .str (RT (rN m))/\n<m*m/\m<=2*n+1:=by
 refine cR (I:=fun k st=>∃m:Nat,st=⟨[(0,.str (RT (rN n))),(3,.str [48]),(4,.str (RT (rN m)))],[],0,0⟩/\0<m/\m<=2*n+1/\n+1-m=k)
  (Q:=fun ex st'=>∃tm ct m,st'=⟨tm,[],ct,0⟩/\ex= .exit 0/\ak tm 0= .str (RT (rN n))/\ak tm 3= .str [48]/\ak tm 4= .str (RT (rN m))/\n<m*m/\m<=2*n+1) ?_
 rintro k st ⟨m,rfl,h0,hm,rfl⟩;have km:Hq (K+2) (rN m):=ji (by rw [xO];omega) (by omega);have kn:Hq (K+2) (rN n):=ji (by rw [xO];omega) (by omega);have e1:=gL h km km (by omega);have e2:=lV h.toRp bD (km.mul km) kn (by omega);rw [jz] at e1 e2;have e3:=gL h km (ji (a:=2) (K:=2) (by decide) (by decide)) (by omega);rw [jz,aol,aE0] at e3;have d:=ri (rN (m*m)) (rN n);unfold ai at e1 e2 e3;by_cases hc:m*m<=n
 ·left
  rw [yD (oA.2 hc)] at d;have hmn:m<=n:=yS (tS m h0) hc;simp only [go_sem,ya,Ld,e1,e2,e3,d];exact ⟨_,n+1-m*2,rfl,by omega,m*2,by simp only [go_sem,ya,aH],by omega,by omega,rfl⟩
 ·right
  rw [yC (fun q=>hc (oA.1 q))] at d;simp only [go_sem,ya,Ld,e1,e2,d];exact ⟨_,_,rfl,by simp,_,_,m,rfl,rfl,by simp only [go_sem,ya],by simp only [go_sem,ya],by simp only [go_sem,ya],by omega,hm⟩
def aBE (h:Rn P L) (bD:Has P L 315 fU) (AQ:Has P L 319 Hx) (sY:Has P L 336 EL) (qv:Has P L 338 CH) (oP:Has P L 339 AA) {n K:Nat} (hn:n<2^K) (hK:0<K/\K<=1000000):
  ∀k st,(∃lo hi:Nat,bS [0,3,4] st=⟨[(0,.str (RT (rN n))),(3,.str (RT (rN lo))),(4,.str (RT (rN hi)))],[],0,0⟩/\lo*lo<=n/\n<hi*hi/\hi<=2*n+1/\hi-lo=k)->
   ∃ex st',D P L (.loop [0,3,4] GJ) st=some (ex,st')/\∃tm ct,st'=⟨tm,[],ct,0⟩/\ex= .exit 2/\ak tm 3= .str (RT (rN (cg n))):=by
 refine cR (I:=fun k st=>∃lo hi:Nat,st=⟨[(0,.str (RT (rN n))),(3,.str (RT (rN lo))),(4,.str (RT (rN hi)))],[],0,0⟩/\lo*lo<=n/\n<hi*hi/\hi<=2*n+1/\hi-lo=k)
  (Q:=fun ex st'=>∃tm ct,st'=⟨tm,[],ct,0⟩/\ex= .exit 2/\ak tm 3= .str (RT (rN (cg n)))) ?_
 rintro k st ⟨lo,hi,rfl,h1,h2,h3,rfl⟩;have hlh:lo<hi:=by
  apply Nat.lt_of_not_le;intro hc
  have:=Pr hc
  omega
 have kl:Hq (K+2) (rN lo):=ji (by rw [xO];omega) (by omega);have kh:Hq (K+2) (rN hi):=ji (by rw [xO];omega) (by omega);have kn:Hq (K+2) (rN n):=ji (by rw [xO];omega) (by omega);have e1:=Cw h.toRp kh kl (by omega);have e2:=lV h.toRp bD (kh.sub kl) (ji (a:=1) (K:=2) (by decide) (by decide)) (by omega);rw [M3,Sn,<-M3] at e2;rw [aBA (uB hlh)] at e1 e2;have d1:=sn (rN (hi-lo)) (rN 1);by_cases hc:1<hi-lo
 ·left
  rw [yD (Et.2 hc)] at d1;have e3:=rC h.toRp kl kh (by omega);have e4:=aE4 h AQ (kl.add kh) (by omega);have e5:=aok h.toRm sY qv oP ((kl.add kh).mul an2) (by omega);rw [GR] at e3 e4 e5;rw [axL] at e5;change ai P L 336 [_] (.str (RT (rN ((lo+hi)/2)))) at e5
  have km:Hq (K+2) (rN ((lo+hi)/2)):=ji (by rw [xO];omega) (by omega);have e6:=gL h km km (by omega);have e7:=lV h.toRp bD (km.mul km) kn (by omega);rw [jz] at e6 e7;have d2:=ri (rN ((lo+hi)/2*((lo+hi)/2))) (rN n);have hb:lo<(lo+hi)/2/\(lo+hi)/2<hi:=by omega
  generalize (lo+hi)/2=mid at*
  unfold ai at e1 e2 e3 e4 e5 e6 e7;by_cases hm:mid*mid<=n
  ·rw [yD (oA.2 hm)] at d2;simp only [go_sem,ya,GJ,e1,e2,e3,e4,e5,e6,e7,d1,d2];exact ⟨_,hi-mid,rfl,by omega,mid,hi,by simp only [go_sem,ya,aH],hm,h2,h3,rfl⟩
  ·rw [yC (fun q=>hm (oA.1 q))] at d2;simp only [go_sem,ya,GJ,e1,e2,e3,e4,e5,e6,e7,d1,d2];exact ⟨_,mid-lo,rfl,by omega,lo,mid,by simp only [go_sem,ya,aH],h1,by omega,by omega,rfl⟩
 ·right
  rw [yC (fun q=>hc (Et.1 q))] at d1;have hu:cg n=lo:=agR h1 (by rw [show lo+1=hi by omega];exact h2)
  unfold ai at e1 e2;simp only [go_sem,ya,GJ,e1,e2,d1];exact ⟨_,_,rfl,by simp,_,_,rfl,rfl,by rw [hu];simp only [go_sem,ya]⟩
def acd (h:Rn P L) (bD:Has P L 315 fU) (AQ:Has P L 319 Hx) (sY:Has P L 336 EL) (qv:Has P L 338 CH) (oP:Has P L 339 AA) (M4:Has P L 446 QM) {n K:Nat} (hn:n<2^K) (hK:0<K/\K<=1000000):ai P L 446 [.str (RT (rN n))] (.str (RT (rN (cg n)))):=by
 unfold ai;rw [ax M4];simp only [go_sem,QM];generalize hq:D P L (.loop [0,3,4] Ld) _=q;obtain ⟨ex,st,rfl,tm,ct,m,rfl,rfl,t0,t3,t4,h1,h2⟩:=cG hq (aBD h bD hn hK (n+1-1)) ⟨1,by simp only [go_sem,ya,aH,M3,Sn],by decide,by omega,rfl⟩;simp only [go_sem,aH,t0,t3,t4];generalize hq:D P L (.loop [0,3,4] GJ) _=q;obtain ⟨ex,st,rfl,cE,a6,rfl,rfl,t3'⟩:=cG hq (aBE h bD AQ sY qv oP hn hK (m-0)) ⟨0,m,by simp only [go_sem,ya,aH,M2,Ib],by omega,h1,h2,rfl⟩;simp only [go_sem,aH,t3']
end
end
section
open Go (IntKind)
noncomputable def iW (a:Rat):Rat:=rN (cg a.num.natAbs)/rN (cg a.den)
def kV (a:Rat):Bool:=decide (cg a.num.natAbs*cg a.num.natAbs=a.num.natAbs)&&decide (cg a.den*cg a.den=a.den)
noncomputable def dt (a:Rat) (k:Nat):Nat:=cg (a*(rN (10^k)*rN (10^k))).floor.toNat
noncomputable def kJ (a:Rat) (k:Nat):Rat:=if kV a=true then iW a else rN (dt a k)/rN (10^k)
noncomputable def kK (a:Rat) (k:Nat):Rat:=if kV a=true then iW a else rN (dt a k+1)/rN (10^k)
def Ln {a b:Nat}:rN a/rN b=xF a b:=(Rat.divInt_eq_div _ _).symm
def J0 (a:Rat):0<cg a.den:=ajV a.den_pos
def arK {r s n d:Nat} (h1:r*r=n) (h2:s*s=d) (h:yam n d):yam r s:=by
 subst h1;subst h2;exact ycg (ych h)
def ae8 {r s:Nat} (hs:0<s) (h:yam r s):(xF r s).num=r/\(xF r s).den=s:=by
 obtain ⟨h1,h2⟩:=N7 (a:=(r:Int)) (b:=(s:Int)) (by omega);rw [show Int.gcd (r:Int) (s:Int)=1 from h] at h1 h2;rw [show ((1:Nat):Int)=1 from rfl,ybN] at h1 h2;exact ⟨h1,by omega⟩
def alb {s t:Int} {v w:AV} {l m:List Nat} (hv:bO v l) (hw:bO w m) (hp:Hp) (b:Bool):result hp (.af [.agg [ab s,v,ab t,w],.bool b])=some (.af [.agg [ab s,v,ab t,w],.bool b]):=by
 rcases hv with ⟨rfl,_⟩ | ⟨e,rfl⟩<;>rcases hw with ⟨rfl,_⟩ | ⟨e',rfl⟩<;>rfl
section
variable {P:aJ} {L:Lib}
def aFm (h:Tx P L) (AU:Has P L 236 EI) {k:Nat} (hk:k<=1000):∃r,ai P L 236 [ab k] r/\cu r ((10^k:Nat):Int):=by
 obtain ⟨e1,i1⟩:=rH h.toNu (z:=10) (by decide) (by decide);obtain ⟨r,e2,hr⟩:=abB h.toNu h.MM i1 (show Bd 4 10 by unfold Bd;decide) (k:=k) (by omega) (by omega)
 rw [show ((10:Int)^k)=((10^k:Nat):Int) by rw [yba];rfl] at hr
 obtain ⟨s1,w1,rfl,h1⟩:=hr;obtain ⟨l1,u1⟩:=h1.aK;have un:=od;refine ⟨_,?_,s1,w1,rfl,h1⟩;unfold ai at e1 e2 ⊢;rw [ax AU];simp only [go_sem,ya,yb,EI,az,aU,un.pu,un.ao,un.one,e1,e2,bq,di,dj,bL,ye,kC u1,cJ u1]
def aFn (h:Tx P L) (AW:Has P L 235 CD) (nO:Has P L 237 Av) {v:AV} {a:Rat} {K:Nat} (hv:b9 v a) (ha:0<=a) (ka:Hq K a) (hK:K<=1000000000):
  ∃s3 w3 s4 w4,ai P L 235 [v] (.af [.agg [ab s3,w3,ab s4,w4],.bool (kV a)])/\cx s3 w3 (cg a.num.natAbs:Int)/\cx s4 w4 (cg a.den:Int):=by
 have e1:=H7 h.toFr' hv;obtain ⟨s1,w1,s2,w2,rfl,h1,h2⟩:=hv;have hn:a.num=(a.num.natAbs:Int):=by have:=uC.2 ha;omega
 have k1:Bd K (a.num.natAbs:Int):=by rw [<-hn];exact ka.1
 rw [hn] at h1;have d0:decide (bG a.num<0)=false:=yC (by rw [hn];unfold bG;split<;>omega)
 obtain ⟨l1,u1⟩:=h1.aK;obtain ⟨l2,u2⟩:=h2.aK;have i1:cu (.agg [ab s1,w1]) (a.num.natAbs:Int):=⟨s1,w1,rfl,h1⟩;have i2:cu (.agg [ab s2,w2]) (a.den:Int):=⟨s2,w2,rfl,h2⟩;obtain ⟨r,e2,hr⟩:=acb h nO i1 k1 (by omega);obtain ⟨s,e3,hs⟩:=acb h nO i2 ka.2 (by omega);have kr:Bd K (cg a.num.natAbs:Int):=k1.le (by rw [yQ,yQ];exact rX _)
 have ks:Bd K (cg a.den:Int):=ka.2.le (by rw [yQ,yQ];exact rX _)
 obtain ⟨p,e4,hp⟩:=oL h.toNu hr hr kr kr (by omega);obtain ⟨q,e5,hq⟩:=oL h.toNu hs hs ks ks (by omega);have e6:=MI h.toNu hp i1 (kr.mul kr) (k1.mono (show K<=K+K by omega)) (by omega);have e7:=MI h.toNu hq i2 (ks.mul ks) (ka.2.mono (show K<=K+K by omega)) (by omega);obtain ⟨s3,w3,rfl,h3⟩:=hr;obtain ⟨s4,w4,rfl,h4⟩:=hs;obtain ⟨s5,w5,rfl,h5⟩:=hp;obtain ⟨s6,w6,rfl,h6⟩:=hq;obtain ⟨l3,u3⟩:=h3.aK;obtain ⟨l4,u4⟩:=h4.aK;obtain ⟨l5,u5⟩:=h5.aK;obtain ⟨l6,u6⟩:=h6.aK;have g0:∀x y:Nat,decide (bG ((x:Int)*(x:Int)-(y:Int))=0)=decide (x*x=y):=fun x y=>by
  have:(bG ((x:Int)*(x:Int)-(y:Int))=0)↔x*x=y:=by
   rw [<-xE];unfold bG
   split
   ·constructor<;>intro _<;>omega
   ·split
    ·constructor<;>intro _<;>omega
    ·constructor<;>intro _<;>omega
  exact decide_eq_decide.2 this
 refine ⟨s3,w3,s4,w4,?_,h3,h4⟩;unfold kV;have fX:∀a b c d:AV,List.drop 2 [a,b,c,d]=[c,d]:=fun _ _ _ _=>rfl
 have d1:=g0 (cg a.num.natAbs) a.num.natAbs;have d2:=g0 (cg a.den) a.den;unfold ai at e1 e2 e3 e4 e5 e6 e7 ⊢;rw [ax AW];cases hc:decide (cg a.num.natAbs*cg a.num.natAbs=a.num.natAbs)
 ·rw [hc] at d1;simp only [go_sem,ya,yb,CD,az,aP,yd,fX,ye,bL,gg,aU,e1,d0,u1.pu,u1.ao,u1.one,u2.pu,u2.ao,u2.one,u3.ao,u3.one,u4.one,u5.ao,e2,e3,e4,e6,d1,bq,di,dj,bL,ye,cJ u3,cJ u4,pC,pD,jP u3 u4,alb u3 u4,Bool.false_and]
 ·rw [hc] at d1;simp only [go_sem,ya,yb,CD,az,aP,yd,fX,ye,bL,gg,aU,e1,d0,u1.pu,u1.ao,u1.one,u2.pu,u2.ao,u2.one,u3.ao,u3.one,u4.ao,u4.one,u5.ao,u6.ao,e2,e3,e4,e5,e6,e7,d1,d2,bq,di,dj,bL,ye,cJ u3,cJ u4,pC,pD,jP u3 u4,alb u3 u4,Bool.true_and]
end
end
section
open Go (IntKind)
section
variable {P:aJ} {L:Lib}
def avJ {a:Rat} {K:Nat} (h:Hq K a) (hK:1<=K):Hq K ((a.floor:Int):Rat):=by
 refine ⟨?_,?_⟩
 ·exact h.1.le (by
   rw [tu,uH]
   exact tK _ _)
 ·rw [ybb];exact yaB (by omega)
end
end
section
open Go (IntKind)
def Lo {a:Rat} (ha:0<=a) (h:kV a=true):(iW a).num=(cg a.num.natAbs:Int)/\(iW a).den=cg a.den/\iW a*iW a=a:=by
 unfold kV at h;simp only [Bool.and_eq_true,xt] at h;have hc:=arK h.1 h.2 a.reduced;obtain ⟨h1,h2⟩:=ae8 (J0 a) hc;unfold iW;rw [Ln];refine ⟨h1,h2,?_⟩;rw [yae,<-xE,<-xE,h.1,h.2];have hn:((a.num.natAbs:Nat):Int)=a.num:=by have:=uC.2 ha;omega
 rw [hn,yaz]
def Lp {a:Rat} {K:Nat} (ha:0<=a) (ka:Hq K a) (h:kV a=true):Hq K (iW a):=by
 obtain ⟨h1,h2,_⟩:=Lo ha h;refine ⟨?_,?_⟩
 ·rw [h1];exact ka.1.le (by rw [yQ];exact rX _)
 ·rw [h2];exact ka.2.le (by rw [yQ,yQ];exact rX _)
def alc (k:Nat):10^k<2^(4*k+1):=by
 rw [xh,Nat.pow_mul]
 have:10^k<=(2^4)^k:=Nat.pow_le_pow_left (by decide) k
 have:0<(2^4)^k:=tU (by decide)
 omega
def Ej (k:Nat):Hq (4*k+1) (rN (10^k)):=ji (alc k) (by omega)
def OX {r:Rat} (h:0<=r):(r.floor.toNat:Int)=r.floor:=by
 have h2:=yal r
 have:(((-1:Int):Int):Rat)<(r.floor:Rat):=by
  have e:((-1:Int):Rat)= -1:=rfl;rw [e]
  grind
 rw [ug] at this;omega
def PI {a:Rat} {K k:Nat} (ha:0<=a) (ka:Hq K a):(a*(rN (10^k)*rN (10^k))).floor.toNat<2^(K+(8*k+2)):=by
 have h1:Hq (K+(8*k+2)) (a*(rN (10^k)*rN (10^k))):=(ka.mul ((Ej k).mul (Ej k))).mono (by omega);have h2:=avJ h1 (by omega);have h3:=h2.1;rw [tu] at h3;have h0:0<=a*(rN (10^k)*rN (10^k)):=vA ha (by rw [jz];exact oA.2 (uF _))
 have:=OX h0
 unfold Bd at h3;rw [<-this,yQ] at h3;exact h3
section
variable {P:aJ} {L:Lib}
def aFo (h:Tx P L) (iO:Has P L 214 rF) (C2:Has P L 216 EE) (AW:Has P L 235 CD) (AU:Has P L 236 EI) (nO:Has P L 237 Av) {v:AV} {a:Rat} {K k:Nat} (hv:b9 v a) (ha:0<=a) (ka:Hq K a) (hK:K<=1000000) (hk:k<=1000):
  ai P L 216 [v,ab k] (kF (kJ a k) (kK a k)):=by
 obtain ⟨s3,w3,s4,w4,e1,h3,h4⟩:=aFn h AW nO hv ha ka (by omega);have eK:=hv;obtain ⟨s1,w1,s2,w2,rfl,h1,h2⟩:=hv;obtain ⟨l1,u1⟩:=h1.aK;obtain ⟨l2,u2⟩:=h2.aK;obtain ⟨l3,u3⟩:=h3.aK;obtain ⟨l4,u4⟩:=h4.aK;have st:=fun (hp:Hp) (ct id:Nat) (a b x y:AV)=>jP (s:=s3) (t:=s4) u3 u4 hp ct id a b x y
 unfold kJ kK
 cases hx:kV a with
 | true=>
  rw [hx] at e1;obtain ⟨x1,x2,_⟩:=Lo ha hx;have iq:b9 (.agg [ab s3,w3,ab s4,w4]) (iW a):=⟨_,_,_,_,rfl,by rw [x1];exact h3,by rw [x2];exact h4⟩
  have kq:=Lp ha ka hx;have e2:=E6 h iO iq iq kq kq (by omega);rw [yz rfl,yz rfl];obtain ⟨u,v,e,hu⟩:=zW (iW a) (iW a);rw [hu] at e2 ⊢;unfold ai at e1 e2 ⊢;rw [ax C2];simp only [go_sem,ya,yb,EE,az,yd,ye,gg,aU,u1.pu,u1.ao,u1.one,u2.pu,u2.ao,u2.one,u3.ao,u4.ao,e1,e2,st,lP,bP];rfl
 | false=>
  rw [hx] at e1;rw [yp (by simp),yp (by simp)];obtain ⟨t,e2,ht⟩:=aFm h AU hk;have kt:Bd (4*k+1) ((10^k:Nat):Int):=by unfold Bd;rw [yQ];exact alc k
  obtain ⟨p,e3,hp⟩:=oL h.toNu ht ht kt kt (by omega);obtain ⟨q,e4,hq⟩:=Sg h.toFr' hp;rw [<-xE,show (((10^k*10^k:Nat):Int):Rat)=rN (10^k)*rN (10^k) from (jz _ _).symm] at hq;have kq:Hq (8*k+2) (rN (10^k)*rN (10^k)):=((Ej k).mul (Ej k)).mono (by omega);obtain ⟨r,e5,hr⟩:=Bv h.toFr' eK hq (ka.mono (show K<=K+(8*k+2) by omega)) (kq.mono (by omega)) (by omega);have kr:Hq (K+(8*k+2)) (a*(rN (10^k)*rN (10^k))):=ka.mul kq;obtain ⟨f,e6,hf⟩:=aEi h.toFr' hr kr (by omega);have h0:0<=a*(rN (10^k)*rN (10^k)):=vA ha (by rw [jz];exact oA.2 (uF _))
  have kf:=PI (k:=k) ha ka;rw [<-OX h0] at hf;have kf':Bd (K+(8*k+2)) (((a*(rN (10^k)*rN (10^k))).floor.toNat:Nat):Int):=by unfold Bd;rw [yQ];exact kf
  obtain ⟨n,e7,hn⟩:=acb h nO hf kf' (by omega);change cu n ((dt a k:Nat):Int) at hn
  have kn:Bd (K+(8*k+2)) ((dt a k:Nat):Int):=kf'.le (by rw [yQ,yQ];exact rX _)
  have TO:Bd (K+(8*k+3)) ((10^k:Nat):Int):=kt.mono (by omega);have hU0:(0:Int)<((10^k:Nat):Int):=Int.natCast_pos.2 (tU (by decide));have hU:((10^k:Nat):Int)≠0:=Int.ne_of_gt hU0;obtain ⟨lo,e8,a8⟩:=MK h.toFr' hn ht hU (kn.mono (show K+(8*k+2)<=K+(8*k+3) by omega)) TO (by omega);obtain ⟨e9,i9⟩:=rH h.toNu (z:=1) (by decide) (by decide);obtain ⟨n1,lM,lI⟩:=E3 h.toNu hn i9 kn (Bd.mono (show Bd 1 1 by unfold Bd;decide) (by omega)) (by omega)
  rw [show ((dt a k:Nat):Int)+1=((dt a k+1:Nat):Int) from rfl] at lI;have kn1:Bd (K+(8*k+3)) ((dt a k+1:Nat):Int):=by
   have:=kn.ML (show Bd (K+(8*k+2)) 1 from Bd.mono (show Bd 1 1 by unfold Bd;decide) (by omega))
   exact this
  obtain ⟨hi,zC,fB⟩:=MK h.toFr' lI ht hU kn1 TO (by omega);rw [<-Ln] at a8 fB;have klo:Hq (K+(8*k+3)) (rN (dt a k)/rN (10^k)):=by rw [Ln];exact Hq.divInt hU0 (kn.mono (by omega)) TO
  have khi:Hq (K+(8*k+3)) (rN (dt a k+1)/rN (10^k)):=by rw [Ln];exact Hq.divInt hU0 kn1 TO
  have rW:=E6 h iO a8 fB klo khi (by omega);generalize rN (dt a k)/rN (10^k)=A1 at*
  generalize rN (dt a k+1)/rN (10^k)=A2 at*
  obtain ⟨u,v,e,hu⟩:=zW A1 A2;rw [hu] at rW ⊢;obtain ⟨t1,t2,rfl,g1⟩:=ht;obtain ⟨t3,t4,rfl,g2⟩:=hp;obtain ⟨q1,q2,q3,q4,rfl,gq⟩:=hq.gen;obtain ⟨r1,r2,r3,r4,rfl,gr⟩:=hr.gen;obtain ⟨t5,t6,rfl,g3⟩:=hf;obtain ⟨t7,t8,rfl,g4⟩:=hn;obtain ⟨o1,o2,o3,o4,rfl,go⟩:=a8.gen;obtain ⟨t9,t10,rfl,g5⟩:=lI;obtain ⟨i1,i2,i3,i4,rfl,gi⟩:=fB.gen;obtain ⟨l5,v1⟩:=g1.aK;obtain ⟨l6,v2⟩:=g2.aK;obtain ⟨l7,v3⟩:=g3.aK;obtain ⟨l8,v4⟩:=g4.aK;obtain ⟨l9,v5⟩:=g5.aK;have un:=od;unfold ai at e1 e2 e3 e4 e5 e6 e7 e8 e9 lM zC rW ⊢;rw [ax C2]
  simp only [go_sem,ya,yb,EE,az,yd,ye,gg,bL,aU,u1.pu,u1.ao,u1.one,u2.pu,u2.ao,u2.one,v1.ao,v2.ao,v3.ao,v4.ao,v5.ao,un.pu,un.ao,un.one,gq.ao,gr.ao,go.ao,gi.ao,e1,e2,e3,e4,e5,e6,e7,e8,e9,lM,zC,rW,st,di,dj,bL,ye,cJ v1,cJ v4,bq,mu,lP,bP];rfl
noncomputable def im (s:List Nat) (k:Int):Int:=if bE s≠0 then bE s else cX [if ae s<0 then 3 else 0,if k<1\/12<k then 3 else 0]
noncomputable def FR (s:List Nat) (k:Int):AV:=if im s k≠0 then .af [bF [] [],ab (im s k)] else kF (kJ (ae s) k.toNat) (kK (ae s) k.toNat)
def aFp (h:Ck P L) (Ff:Has P L 206 Au) (Fg:Has P L 215 Ho) (k:Int):ai P L 215 [ab k] (ab (if k<1\/12<k then 3 else 0)):=by
 have e:=Nd.aEp Ff h.nM k 1 12;unfold ai at e ⊢;rw [ax Fg];simp only [go_sem,ya,Ho,e]
def agT {s:List Nat} {k:Int} (h:im s k=0):bE s=0/\0<=ae s/\1<=k/\k<=12:=by
 unfold im at h;by_cases h0:bE s=0
 ·rw [yp (show ¬bE s≠0 by simp [h0])] at h;obtain ⟨h1,h2⟩:=nt.1 h;refine ⟨h0,?_,?_⟩
  ·by_cases hc:ae s<0
   ·rw [yz hc] at h1;omega
   ·grind
  ·by_cases hc:k<1\/12<k
   ·rw [yz hc] at h2;omega
   ·omega
 ·rw [yz h0] at h;exact absurd h h0
def aom (h:Ck P L) (Fh:Has P L 192 ED) (Ff:Has P L 206 Au) (iO:Has P L 214 rF) (Fg:Has P L 215 Ho) (C2:Has P L 216 EE) (AW:Has P L 235 CD) (AU:Has P L 236 EI) (nO:Has P L 237 Av) {s:List Nat} {k:Int} (hs:s.length<=1000000000):
  ai P L 192 [.str s,ab k] (FR s k):=by
 have e1:=m86 h (s:=s) hs;by_cases c0:bE s=0
 ·obtain ⟨v,e2,hv⟩:=qg h c0;have e3:=H7 h.toFr' hv;have e4:=nL h.nM (decide (ae s<0)) 3;have e5:=aFp h Ff Fg k;have e6:ai P L 125 [.ap true 2 [ab (if ae s<0 then 3 else 0),ab (if k<1\/12<k then 3 else 0)]] (ab (im s k)):=by
   unfold im;rw [yp (show ¬bE s≠0 by simp [c0])];exact Nd.AN h.AO (gG true [if ae s<0 then 3 else 0,if k<1\/12<k then 3 else 0]) (by simp)
  simp only [xt] at e4;have d0:decide (bG (ae s).num<0)=decide (ae s<0):=by
   have h:=kX (ae s) 0
   rwa [<-zT,Rat.sub_eq_add_neg,Rat.neg_zero,Rat.add_zero] at h
  have eK:=hv;obtain ⟨v1,v2,v3,v4,rfl,gv⟩:=hv.gen;rw [c0] at e1;unfold FR;by_cases h0:im s k=0
  ·obtain ⟨_,p0,k0,k1⟩:=agT h0;rw [yp (show ¬im s k≠0 by simp [h0])];rw [h0] at e6;obtain ⟨m,rfl⟩:∃m:Nat,k=m:=⟨k.toNat,by omega⟩;rw [Int.toNat_natCast];have e7:=aFo h.toTx iO C2 AW AU nO eK p0 (jx c0 (yA 2400)) (by decide) (k:=m) (by omega);obtain ⟨x,y,e,hu⟩:=zW (kJ (ae s) m) (kK (ae s) m);rw [hu] at e7 ⊢;unfold ai at e1 e2 e3 e4 e5 e6 e7 ⊢;rw [ax Fh];simp only [go_sem,ya,yb,yr,yi,yj,ED,az,yd,e1,e2,e3,d0,e4,e5,e6,e7,gv.ao,bq,lP,bP,ym,yI];rfl
  ·rw [yz h0];unfold bF;unfold ai at e1 e2 e3 e4 e5 e6 ⊢;rw [ax Fh];simp only [go_sem,ya,yb,yr,yi,yj,ED,az,yd,e1,e2,e3,d0,e4,e5,e6,h0,gv.ao,bq,bP,ym,yk,yI,yH];rfl
 ·have hE:im s k=bE s:=by unfold im;rw [yz c0]
  unfold FR;rw [hE,yz c0];unfold bF;unfold ai at e1 ⊢;rw [ax Fh];simp only [go_sem,ya,yb,ED,az,e1,c0,yk,yH,bP];rfl
end
end
section
open Go (IntKind)
def pw (b:Rat):Nat->Rat
 | 0=>1
 | n+1=>pw b n*b
def ald (b:Rat) (m:Nat):∀n,pw b (m+n)=pw b m*pw b n
 | 0=>by rw [yW,pw,ybK]
 | n+1=>by rw [<-Nat.add_assoc,pw,pw,ald b m n,Rat.mul_assoc]
def WJ (b:Nat):∀n,pw (rN b) n=rN (b^n)
 | 0=>M3.symm
 | n+1=>by rw [pw,WJ b n,jz,xh]
def G7 {b:Rat} {K:Nat} (h:Hq K b):∀n,Hq (K*n+2) (pw b n)
 | 0=>aE2.mono (by omega)
 | n+1=>((G7 h n).mul h).mono (by rw [Nat.mul_succ];omega)
def ale {b:Rat} (h:b≠0):∀n,pw b⁻¹ n*pw b n=1
 | 0=>ybK 1
 | n+1=>by
  have ih:=ale h n;have e:=Rat.mul_inv_cancel b h;rw [pw,pw]
  grind
section
variable {P:aJ} {L:Lib}
def aBF (h:Rn P L) {b:Rat} {K k0:Nat} (hb:Hq K b) (hK:K*k0<=1000000000):
  ∀m st,(∃i e o:Nat,bS [0,1,5] st=⟨[(0,.str (RT (pw b i))),(1,ab e),(5,.str (RT (pw b o)))],[],0,0⟩/\o+i*e=k0/\e<9223372036854775808/\e=m)->
   ∃ex st',D P L (.loop [0,1,5] GH) st=some (ex,st')/\∃tm ct,st'=⟨tm,[],ct,0⟩/\ex= .exit 0/\ak tm 5= .str (RT (pw b k0)):=by
 refine cR (I:=fun m st=>∃i e o:Nat,st=⟨[(0,.str (RT (pw b i))),(1,ab e),(5,.str (RT (pw b o)))],[],0,0⟩/\o+i*e=k0/\e<9223372036854775808/\e=m)
  (Q:=fun ex st'=>∃tm ct,st'=⟨tm,[],ct,0⟩/\ex= .exit 0/\ak tm 5= .str (RT (pw b k0))) ?_
 rintro m st ⟨i,e,o,rfl,ho,he,rfl⟩;by_cases h0:0<e
 ·left
  have hi:i<=k0:=by have:=Nat.le_mul_of_pos_right i h0;omega
  have ki:K*i<=1000000000:=yS (yT K hi) hK;have ko:K*o<=1000000000:=yS (yT K (show o<=k0 by omega)) hK;have e1:=gL h (G7 hb i) (G7 hb i) (by omega);have e2:=gL h (G7 hb o) (G7 hb i) (by omega);rw [<-ald] at e1 e2;have r2:(e:Int).tmod 2=((e%2:Nat):Int):=rfl;have q2:(e:Int).tdiv 2=((e/2:Nat):Int):=rfl;have d0:(2:Int)≠0:=by decide
  have hs:e=2*(e/2)+e%2:=by omega
  have hm:e%2<2:=by omega
  unfold ai at e1 e2;generalize e/2=f at*
  generalize e%2=g at*
  have w1:IntKind.wrap .i64 (g:Int)=g:=wrap64 (by omega) (by omega);have w2:IntKind.wrap .i64 (f:Int)=f:=wrap64 (by omega) (by omega);by_cases h1:g=1
  ·have d1:decide ((g:Int)=1)=true:=yD (by omega);simp only [go_sem,ya,GH,show (0:Int)<(e:Int) by omega,ym,gF _ _ _ d0,fq _ _ _ d0,r2,q2,w2,d1,e1,e2];refine ⟨_,f,rfl,by omega,i+i,f,o+i,by simp only [go_sem,ya,aH],?_,by omega,rfl⟩;rw [<-ho,hs,h1];grind
  ·have d1:decide ((g:Int)=1)=false:=yC (by omega);simp only [go_sem,ya,GH,show (0:Int)<(e:Int) by omega,ym,gF _ _ _ d0,fq _ _ _ d0,r2,q2,w2,d1,e1];refine ⟨_,f,rfl,by omega,i+i,f,o,by simp only [go_sem,ya,aH],?_,by omega,rfl⟩;have hg:g=0:=by omega
   rw [<-ho,hs,hg];grind
 ·right
  obtain rfl:e=0:=by omega
  obtain rfl:o=k0:=by omega
  simp only [go_sem,ya,GH,show ¬(0:Int)<((0:Nat):Int) by omega,yk];exact ⟨_,_,rfl,by simp,_,_,rfl,rfl,by simp only [go_sem,ya]⟩
def aon (h:Rn P L) (C3:Has P L 389 EM) {b:Rat} {K k:Nat} (hb:Hq K b) (hK:K*k<=1000000000) (hk:k<9223372036854775808):ai P L 389 [.str (RT b),ab k] (.str (RT (pw b k))):=by
 unfold ai;rw [ax C3];simp only [go_sem,ya,EM,show ¬(k:Int)<0 by omega,yk];generalize hq:D P L (.loop [0,1,5] GH) _=q;obtain ⟨ex,st,rfl,tm,ct,rfl,rfl,t5⟩:=cG hq (aBF h hb hK k) ⟨1,k,0,by simp only [go_sem,ya,aH,pw,Rat.one_mul,Sn],by omega,hk,rfl⟩;simp only [go_sem,aH,t5]
def aC8 (h:Rn P L) (mS:Has P L 283 Aw) (C3:Has P L 389 EM) {b:Rat} {K k:Nat} (hb:Hq K b) (hK:K*k<=1000000000) (hk:k<9223372036854775808) (k0:0<k) (b0:b≠0) (hK2:K<=1000000000):ai P L 389 [.str (RT b),ab (-(k:Int))] (.str (RT (pw b⁻¹ k))):=by
 have e1:=alW h mS hb (by omega) b0;have e2:=aon h C3 (hb.inv) hK hk;unfold ai at e1 e2 ⊢;rw [ax C3];have w:IntKind.wrap .i64 (0 - -(k:Int))=k:=by rw [show (0:Int) - -(k:Int)=k by omega];exact wrap64 (by omega) (by omega)
 simp only [go_sem,ya,EM,show -(k:Int)<0 by omega,ym,e1,w,e2]
structure Rrt (P:aJ) (L:Lib):Prop extends Rn P L where
 E8:Has P L 219 Hr
 AP:Has P L 266 Hs
 mS:Has P L 283 Aw
 bD:Has P L 315 fU
 AQ:Has P L 319 Hx
 sY:Has P L 336 EL
 qv:Has P L 338 CH
 oP:Has P L 339 AA
 C3:Has P L 389 EM
 aoo:Has P L 436 QF
 M4:Has P L 446 QM
def ajW {a:Rat} (ha:0<=a):iW a*iW a=a↔kV a=true:=by
 refine ⟨fun h=>?_,fun h=>(Lo ha h).2.2⟩;obtain ⟨r,hr⟩:∃r,cg a.num.natAbs=r:=⟨_,rfl⟩;obtain ⟨s,hs⟩:∃s,cg a.den=s:=⟨_,rfl⟩;have s0:0<s:=by rw [<-hs];exact J0 a
 have hrl:=Ch a.num.natAbs;have Fo:=Ch a.den;have hn:((a.num.natAbs:Nat):Int)=a.num:=by have:=uC.2 ha;omega
 have hcp:=a.reduced;have hd:=a.den_pos;unfold iW at h;rw [hr,hs,Ln,yae] at h;have h2:xF ((r:Int)*r) ((s:Int)*s)=xF (a.num.natAbs:Nat) (a.den:Nat):=by rw [h,hn,yaz]
 have hss:(s:Int)*s≠0:=by rw [<-xE];have:=yaT s0 s0;omega
 have hdd:((a.den:Nat):Int)≠0:=by omega
 rw [Rat.divInt_eq_divInt_iff hss hdd] at h2;have h3:r*r*a.den=a.num.natAbs*(s*s):=by
  have:((r*r*a.den:Nat):Int)=((a.num.natAbs*(s*s):Nat):Int):=by
   rw [xE,xE,xE,xE];exact h2
  omega
 unfold kV;rw [hr] at hrl;rw [hs] at Fo;rw [hr,hs];generalize a.num.natAbs=n at*
 generalize a.den=d at*
 have h4:d∣s*s:=by
  have:d∣n*(s*s):=⟨r*r,by rw [<-h3,Nat.mul_comm]⟩
  exact (yci hcp).dvd_of_dvd_mul_left this
 have h5:s*s=d:=tr Fo (Nat.le_of_dvd (yaT s0 s0) h4);have h6:r*r=n:=by
  rw [h5] at h3;exact Nat.eq_of_mul_eq_mul_right hd h3
 rw [yD h5,yD h6];rfl
def aBG (a b:Rat):bQ (RT a) (RT b)=decide (a=b):=by
 by_cases h:a=b
 ·rw [yD h,h];exact sh _
 ·rw [yC h];exact Pg (fun e=>h (ala e))
def aFq (h:Rrt P L) {a:Rat} {K k:Nat} (ha:0<=a) (ka:Hq K a) (hK:0<K/\K<=100000) (hk:k<=1000):ai P L 436 [.str (RT a),ab k] (cF (kJ a k) (kK a k)):=by
 obtain ⟨p1,_,p2⟩:=VO h.toRm ka (by omega);have hn:((a.num.natAbs:Nat):Int)=a.num:=by have:=uC.2 ha;omega
 have p3:au a.den=RT (rN a.den):=by unfold rN;rw [Wc,jY]
 have p4:aV a.num=RT (rN a.num.natAbs):=by unfold rN;rw [Wc,hn]
 rw [p4] at p1;rw [p3] at p2;have kn:a.num.natAbs<2^K:=ka.1;have kd:a.den<2^K:=by have:=ka.2;unfold Bd at this;rwa [yQ] at this
 have e1:=acd h.toRn h.bD h.AQ h.sY h.qv h.oP h.M4 kn (by omega);have e2:=acd h.toRn h.bD h.AQ h.sY h.qv h.oP h.M4 kd (by omega);have kr:Hq K (rN (cg a.num.natAbs)):=ji (xL (rX _) kn) hK.1;have ks:Hq K (rN (cg a.den)):=ji (xL (rX _) kd) hK.1;have s0:rN (cg a.den)≠0:=by
  intro e;have h1:rN 0<rN (cg a.den):=Et.2 (J0 a);rw [M2,e] at h1;exact absurd h1 (by grind)
 have e3:=LL h.toRn h.AP h.mS kr ks (by omega) s0;change ai P L 266 [_,_] (.str (RT (iW a))) at e3
 have ke:Hq (K+K) (iW a):=kr.div ks;have e4:=gL h.toRn ke ke (by omega);have e5:=aBG (iW a*iW a) a;unfold kJ kK
 cases hx:kV a with
 | true=>
  rw [yz rfl,yz rfl];rw [yD ((ajW ha).2 hx)] at e5;have e6:=an6 h.E8 (RT (iW a));unfold ai at e1 e2 e3 e4 e6 ⊢;rw [ax h.aoo];simp only [go_sem,ya,yb,QF,az,p1,p2,e1,e2,e3,e4,iZ,e5,e6,bP];rfl
 | false=>
  rw [yp (by simp),yp (by simp)];rw [yC (fun q=>by rw [(ajW ha).1 q] at hx;cases hx)] at e5;have e6:=aon h.toRn h.C3 (b:=rN 10) (K:=5) (k:=k) (ji (by decide) (by decide)) (by omega) (by omega);rw [WJ,show RT (rN 10)=[49,48] by decide] at e6;have kt:=Ej k;have e7:=gL h.toRn kt kt (by omega);have e8:=gL h.toRn ka (kt.mul kt) (by omega);have e9:=aok h.toRm h.sY h.qv h.oP (ka.mul (kt.mul kt)) (by omega);have h0:0<=a*(rN (10^k)*rN (10^k)):=vA ha (by rw [jz];exact oA.2 (uF _))
  have kf:=PI (k:=k) ha ka;rw [<-OX h0] at e9;change ai P L 336 [_] (.str (RT (rN (a*(rN (10^k)*rN (10^k))).floor.toNat))) at e9
  have lM:=acd h.toRn h.bD h.AQ h.sY h.qv h.oP h.M4 kf (by omega);change ai P L 446 [_] (.str (RT (rN (dt a k)))) at lM
  have kN:Hq (K+(8*k+2)) (rN (dt a k)):=ji (xL (rX _) kf) (by omega);have t0:rN (10^k)≠0:=by
   intro e;have h1:rN 0<rN (10^k):=Et.2 (tU (by decide));rw [M2,e] at h1;exact absurd h1 (by grind)
  have zC:=LL h.toRn h.AP h.mS kN kt (by omega) t0;have rW:=rC h.toRp kN (ji (a:=1) (K:=1) (by decide) (by decide)) (by omega);rw [GR] at rW;rw [M3,Sn] at rW;have N1:Hq (K+(8*k+2)+1+1) (rN (dt a k+1)):=by rw [<-GR];exact kN.add (ji (a:=1) (K:=1) (by decide) (by decide))
  have NZ:=LL h.toRn h.AP h.mS N1 kt (by omega) t0;unfold ai at e1 e2 e3 e4 e6 e7 e8 e9 lM zC rW NZ ⊢;rw [ax h.aoo];simp only [go_sem,ya,yb,yi,QF,az,p1,p2,e1,e2,e3,e4,iZ,e5,e6,e7,e8,e9,lM,zC,rW,NZ,bP];rfl
end
end
end VE
