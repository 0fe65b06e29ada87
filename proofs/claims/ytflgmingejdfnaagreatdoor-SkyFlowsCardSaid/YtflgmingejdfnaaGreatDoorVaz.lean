import Derived.Test.YtflgmingejdfnaaGreatDoorVay
import Derived.Test.YtflgmingejdfnaaGreatDoorVau
import Derived.Test.YtflgmingejdfnaaGreatDoorVaw
import Derived.Test.YtflgmingejdfnaaGreatDoorVap
import Derived.Test.YtflgmingejdfnaaGreatDoorVal
set_option linter.all false
set_option maxRecDepth 100000
open Bool renaming false_and→xA,false_eq_true→yC,false_or→vD,not_false→yI,not_true→yK,true_and→xt,true_eq_false→yaf,true_or→yay
open Int renaming gcd→xX,natAbs_ediv_of_dvd→vP,natAbs_natCast→xW,neg_neg→ybw
open List renaming append_nil→xO,drop→xv,drop_eq_getElem_cons→yO,drop_eq_nil_of_le→xj,drop_zero→yj,eq_nil_of_length_eq_zero→yN,getElem_cons_zero→tq,length_append→yQ,length_cons→yv,length_drop→wu,length_nil→yF,length_take→yT,map_cons→y9,map_nil→wM,nil_append→xS,take_length→wz
open Nat renaming ble→yE,ble_eq_true_of_le→yu,eq_zero_or_pos→xr,gcd→wi,le_of_ble_eq_true→yt,le_refl→yD,le_trans→xi,lt_of_lt_of_le→yH,mul_one→yi,pow_le_pow_left→ue,pow_le_pow_right→xn,reduceAdd→yb,reduceEqDiff→ya,reduceLT→yy,reduceLeDiff→yg,zero_add→yd
open Rat renaming divInt→xY,mul_comm→vA,one_mul→uz
namespace VE
section
open Go (IntKind)
def Ml {n:Int} {d:Nat} (h:n<0):TT n d=45::TT (-n) d:=by
 have e:aW (-n)=an n.natAbs:=by
  rw [<-lW,yz (show ¬-n<0 by omega),xS,show (-n).natAbs=n.natAbs by omega]
 unfold TT;rw [jL h,e];rfl
def apA {n:Int} {d:Nat} (h:¬n<0):∃b u,TT n d=b::u/\48<=b:=by
 obtain ⟨b,r,hb,h1,_⟩:=DQ n.natAbs;refine ⟨b,r++(if d=1 then [] else 47::an d),?_,h1⟩;unfold TT;rw [<-lW,yz h,xS,hb];rfl
def apB (n:Int) (d:Nat):(TT n d).length<=(an n.natAbs).length+(an d).length+2:=by
 unfold TT;rw [<-lW,yQ,yQ];have h1:(if n<0 then [45] else ([]:List Nat)).length<=1:=by split<;>simp
 have h2:(if d=1 then ([]:List Nat) else 47::an d).length<=(an d).length+1:=by split<;>simp
 omega
def fa (a b:AV) (r:List AV):eX 2 true (a::b::r)=some (.agg [a,b]):=rfl
def apC (k:Nat):2^k<=1000000000^k:=ue (by decide) k
def Bd.r {k:Nat} {z:Int} (h:Bd k z):z.natAbs<1000000000^k:=yH h (apC k)
def II (r:Rat):RT r=TT r.num r.den:=rfl
def abe {n d:Int} (hd:0<d):RT (xY n d)=oS n d:=by
 obtain ⟨h1,h2⟩:=G1 (a:=n) hd;rw [apc hd,II,h1]
 congr 1
 exact Int.ofNat.inj (show ((xY n d).den:Int)=((dl n d).toNat:Int) by rw [h2];have:=Hz (a:=n) hd;unfold dl at this ⊢;omega)
structure Rm (P:aK) (L:Lib):Prop extends Rb P L where
 avG:Has P L 263 dF
 TO:Has P L 273 CQ
 avH:Has P L 284 SU
 avI:Has P L 285 Nq
 avJ:Has P L 286 Nr
 Jr:Has P L 287 IY
 qc:Has P L 301 zB
structure Rp (P:aK) (L:Lib):Prop extends Ras P L,Rm P L
section
variable {P:aK} {L:Lib}
def aeL (h:Rm P L) {v w:AV} {a b:List Int} (hv:bq v a) (hw:bq w b) (ha:dg a) (hb:dg b) (na:nz a) (nb:nz b) (la:a.length<=8000000000) (lb:b.length<=8000000000) (h0:0<dv b):
  ∃q r lq lr,ae P L 289 [v,w] (.aq [q,r])/\bq q lq/\bq r lr/\dg lq/\nz lq/\dg lr/\nz lr/\dv lq=dv a/dv b/\dv lr=dv a%dv b:=
 aeH h.Jq h.mC h.nO h.oV h.cY h.qc hv hw ha hb na nb la lb h0
def asa (h:Rm P L) {x y:AV} {a b:List Int} {n d:Int} {K:Nat} (hK:K<=8000000000) (hx:bq x a) (ha:dg a) (na:nz a) (va:dv a=n.natAbs) (hy:bq y b) (hb:dg b) (nb:nz b) (vb:dv b=d.natAbs) (kn:Bd K n) (kd:Bd K d) (hd:0<d) {tm:Env} (t2:af tm 2= .ptr 0 0) (t3:af tm 3= .ptr 1 0):
  gD [.t 4] (D P L (aA (aA nI.body)) ⟨tm,[(1,.cells true true true 2 [.bool (decide (d<0)),y]),(0,.cells true true true 2 [.bool (decide (n<0)),x])],2,0⟩)=some (.str (RT (xY n d))):=by
 rw [abe hd];have la:=xi (iY ha na (by rw [va];exact kn.r)) hK
 have lb:=xi (iY hb nb (by rw [vb];exact kd.r)) hK
 obtain ⟨g,lg,e1,hg,Wi,ng,vg⟩:=aeI h.afP h.Jq h.mC h.nO h.oV h.cY h.qc hx hy ha hb na nb la lb;rw [va,vb,show wi n.natAbs d.natAbs=xX n d from rfl] at vg;have JM:=HP (a:=n) hd;have avK:xX n d<=d.natAbs:=Int.gcd_le_natAbs_right n (by omega);have lg1:lg.length<=8000000000:=xi (iY Wi ng (by rw [vg];exact Nat.lt_of_le_of_lt avK kd.r)) hK
 obtain ⟨p,p',lp,lp',e2,hp,ao,dp,np,dp',np',vp,vp'⟩:=aeL h hx hg ha Wi na ng la lg1 (by omega);obtain ⟨q,q',lq,lq',e3,hq,cf,dq,nq,dq',nq',vq,vq'⟩:=aeL h hy hg hb Wi nb ng lb lg1 (by omega);rw [va,vg] at vp;rw [vb,vg] at vq;have hrn:(dh n d).natAbs=n.natAbs/xX n d:=by unfold dh;rw [vP (Int.gcd_dvd_left n d)];rfl
 have kW:(dl n d).natAbs=d.natAbs/xX n d:=by unfold dl;rw [vP (Int.gcd_dvd_right n d)];rfl
 have hdp:=Hz (a:=n) hd;rw [<-hrn] at vp;rw [<-kW] at vq;have azP:=acR n d;have FJ:cL (decide (n<0)) (dv lp)=dh n d:=by
  rw [vp];unfold cL;by_cases h0:n<0
  ·have:¬0<=dh n d:=fun h1=>by have:=Int.mul_nonneg (Int.le_of_lt JM) h1;omega
   simp only [h0,yq,y7];omega
  ·have:¬dh n d<0:=fun h1=>by have:=Int.mul_neg_of_pos_of_neg JM h1;omega
   simp only [h0,yp,yC,yR];omega
 have kn':Bd K (dh n d):=kn.le (QH n d);have Uj:Bd K (dl n d):=kd.le (QI n d);have lp1:lp.length<=8000000000:=xi (iY dp np (by rw [vp];exact kn'.r)) hK
 have Kl:lq.length<=8000000000:=xi (iY dq nq (by rw [vq];exact Uj.r)) hK
 obtain ⟨s,e4,hs⟩:=zH h.jV h.cY (decide (n<0)) hp dp (by omega);rw [FJ] at hs;obtain ⟨e5,l5⟩:=afN (K:=K) h.afQ h.pZ (by omega) hs kn'.r;obtain ⟨u,e6,hu⟩:=zH h.jV h.cY false hq dq (by omega);have Ae:cL false (dv lq)=dl n d:=by rw [vq];unfold cL;simp only [yC,yR];omega
 rw [Ae] at hu;obtain ⟨e7,l7⟩:=afN (K:=K) h.afQ h.pZ (by omega) hu Uj.r;obtain ⟨sw,sl,rfl,n9,_,_,_⟩:=hs;obtain ⟨uw,ul,rfl,huw,_,_,_⟩:=hu;have azz:0<lq.length:=by
  rcases xr lq.length with e | e
  ·rw [yN e] at vq;simp [dv] at vq;omega
  ·exact e
 by_cases Pc:lq.length=1
 ·obtain ⟨z,rfl⟩:∃z,lq=[z]:=by
   cases lq with
   | nil=>simp at Pc
   | cons z r=>cases r with
    | nil=>exact ⟨z,rfl⟩
    | cons y r=>simp at Pc
  have Kw:z=dl n d:=by simp [dv] at vq;omega
  have e8:=hq.bj (i:=0) (by simp);simp only [tq] at e8;by_cases h1:dl n d=1
  ·have hT:oS n d=aW (dh n d):=by unfold oS;rw [yJ h1]
   rw [hT];simp only [go_sem,ya,nI,aA,t2,t3,hx.ai,hy.ai,bg,yd,bY,show ¬d<0 by omega,yp,e1,hg.ai,hg.shut,e2,hp.ai,hp.bO,ao.bO,e3,hq.len,hq.bO,cf.bO,e4,n9.ai,bk,bE,e5,yv,yF,show ((1:Nat):Int)=(1:Int) from rfl,yq,e8,Kw,h1]
  ·have hT:oS n d=(aW (dh n d)++[47])++aW (dl n d):=by unfold oS;rw [yz h1]
   rw [hT]
   simp only [go_sem,ya,nI,aA,t2,t3,hx.ai,hy.ai,bg,yd,bY,show ¬d<0 by omega,yp,e1,hg.ai,hg.shut,e2,hp.ai,hp.bO,ao.bO,e3,hq.len,hq.ai,hq.bO,cf.bO,e4,n9.ai,bk,bE,e5,yv,yF,show ((1:Nat):Int)=(1:Int) from rfl,yq,e8,Kw,h1,gl (a:=aW (dh n d)) (b:=[47]) (by simp;omega),e6,huw.ai,e7,gl (a:=aW (dh n d)++[47]) (b:=aW (dl n d)) (by simp;omega)]
 ·have h1:¬dl n d=1:=fun h1=>Pc (by
   have h2:lq.length<=1:=L4 dq nq (by rw [vq,h1];decide)
   omega)
  have hT:oS n d=(aW (dh n d)++[47])++aW (dl n d):=by unfold oS;rw [yz h1]
  rw [hT]
  simp only [go_sem,ya,nI,aA,t2,t3,hx.ai,hy.ai,bg,yd,bY,show ¬d<0 by omega,yp,e1,hg.ai,hg.shut,e2,hp.ai,hp.bO,ao.bO,e3,hq.len,hq.ai,hq.bO,cf.bO,e4,n9.ai,bk,bE,e5,show ¬(lq.length:Int)=1 by omega,gl (a:=aW (dh n d)) (b:=[47]) (by simp;omega),e6,huw.ai,e7,gl (a:=aW (dh n d)++[47]) (b:=aW (dl n d)) (by simp;omega)]
def aii (n d:Int):xY (-n) (-d)=xY n d:=by rw [Rat.divInt_neg',ybw]
def atz (h:Rm P L) {v w:AV} {n d:Int} {K:Nat} (hK:K<=8000000000) (hv:km v n) (hw:km w d) (kn:Bd K n) (kd:Bd K d) (hd:d≠0):ae P L 280 [v,w] (.str (RT (xY n d))):=by
 have fin:∀{x y:AV} {a b:List Int} {n' d':Int},bq x a->dg a->nz a->dv a=n'.natAbs->bq y b->dg b->nz b->dv b=d'.natAbs->Bd K n'->Bd K d'->0<d'->xY n' d'=xY n d->∀tm,af tm 2= .ptr 0 0->af tm 3= .ptr 1 0->
   D P L (.seq (bK nI.body) (bK (aA nI.body))) ⟨[(0,v),(1,w)],[],0,0⟩=some (.normal,⟨tm,[(1,.cells true true true 2 [.bool (decide (d'<0)),y]),(0,.cells true true true 2 [.bool (decide (n'<0)),x])],2,0⟩)->ae P L 280 [v,w] (.str (RT (xY n d))):=fun {x y a b n' d'} hx ha na va hy hb nb vb kn kd hd hq tm t2 t3 e=>by
  unfold ae;rw [av h.avx];show gD [.t 4] (D P L (.seq (bK nI.body) (.seq (bK (aA nI.body)) (aA (aA nI.body)))) ⟨[(0,v),(1,w)],[],0,0⟩)=_
  rw [Ce,e,fM,<-hq];exact asa h hK hx ha na va hy hb nb vb kn kd hd t2 t3
 have eF:=hv;have VJ:=hw;obtain ⟨x,a,rfl,hx,ha,na,va⟩:=hv;obtain ⟨y,b,rfl,hy,hb,nb,vb⟩:=hw;by_cases h0:d<0
 ·obtain ⟨r,e1,hr⟩:=afq (K:=K) h.afS h.jV h.cY (by omega) eF kn.r;obtain ⟨s,e2,hs⟩:=afq (K:=K) h.afS h.jV h.cY (by omega) VJ kd.r;obtain ⟨x',a',rfl,Dx,Dc,na',va'⟩:=hr;obtain ⟨y',b',rfl,sB,cS,nb',vb'⟩:=hs;simp only [h0,yq] at e2
  refine fin Dx Dc na' va' sB cS nb' vb' kn.neg kd.neg (by omega) (aii n d) _ ?_ ?_ (by
   simp only [go_sem,ya,yb,nI,bK,aA,aH,hx.pu,hx.ai,hx.one,hy.pu,hy.ai,hy.one,Dx.pu,Dx.one,sB.pu,sB.one,bg,yd,h0,yq,fa,bk,e1,e2,bE,fe]<;>rfl)<;>simp only [go_sem,ya]
 ·refine fin hx ha na va hy hb nb vb kn kd (by omega) rfl _ ?_ ?_ (by simp only [go_sem,ya,yb,nI,bK,aA,aH,hx.pu,hx.one,hy.pu,hy.one,bg,yd,h0,yp]<;>rfl)<;>simp only [go_sem,ya]
end
end
section
open Go (IntKind)
section
variable {P:aK} {L:Lib}
def ac6 (n:Int):RT (n:Rat)=aW n:=by unfold RT;simp
def Eo {K:Nat} {a:Rat} (h:Hq K a):(RT a).length<=2*K+3:=by
 have h1:=Hm h.1;have h2:=Hm h.2;rw [jK] at h2;unfold RT
 grind
def L6 {K:Nat} {z:Int} (h:Bd K z):(an z.natAbs).length<=K+1:=by
 have:=Hm (z:=(z.natAbs:Int)) (k:=K) (by unfold Bd at h ⊢;omega)
 rwa [jK] at this
def aeM (h:Rm P L) {a:Rat} {K:Nat} (ka:Hq K a) (hK:K<=8000000000):∃x y,ae P L 274 [.str (RT a)] (.aq [x,y])/\km x a.num/\km y (a.den:Int):=by
 have h1:=L6 ka.1;have h2:=L6 ka.2
 exact afW h.toRb (n:=a.num) (d:=a.den) (by omega) (by simpa using (by omega:(an ((a.den:Int)).natAbs).length<=144000000000))
def aeN (h:Rm P L) {n:Int} {d:Nat} (hl:(TT n d).length<=100000000000) (Wj:n=0->d=1):ae P L 262 [.str (TT n d)] (aa (bZ n)):=by
 unfold ae;rw [av h.avv];by_cases h0:n<0
 ·have dS:=aeK (n:=n) (d:=d) (by omega);rw [Ml h0] at dS ⊢;simp only [go_sem,ya,IT,iW,dS,show (0:Int)<(((TT (-n) d).length+1:Nat):Int) by omega,CW,yq];unfold bZ;rw [yJ h0]
 ·by_cases h1:n=0
  ·subst h1
   have:=Wj rfl
   subst this;rw [show TT 0 1=[48] by decide];simp only [go_sem,ya,IT,iW,show cI [48] [48]=true from rfl];rfl
  ·have dS:=aeK (n:=n) (d:=d) h1;obtain ⟨b,u,hb,jG⟩:=apA (d:=d) h0;rw [hb] at dS ⊢;simp only [go_sem,ya,IT,iW,dS,show (0:Int)<((u.length+1:Nat):Int) by omega,show mR 0 (.str (b::u))=some (.int .u8 (b:Nat)) from rfl,show ¬((b:Nat):Int)=45 by omega];unfold bZ;rw [yz h0,yz h1]
def ahO {a:Rat} (h:a.num=0):a.den=1:=by simp_all
def Sn (h:Rm P L) {a:Rat} {K:Nat} (ka:Hq K a) (hK:K<=8000000000):ae P L 262 [.str (RT a)] (aa (bZ a.num)):=
 aeN h (by have:=Eo ka;rw [II] at this;omega) ahO
def atA (h:Rp P L) {a:Rat} {K:Nat} (ka:Hq K a) (hK:K<=8000000000):ae P L 268 [.str (RT a)] (.str (RT (-a))):=by
 have e:=Sn h.toRm ka hK;have hl:=Eo ka;have en:(-a).num= -a.num:=rfl;have ed:(-a).den=a.den:=rfl;rw [II] at hl e ⊢;rw [II,en,ed];generalize a.num=n at*
 generalize a.den=d at*
 unfold ae at e ⊢;rw [av h.avz];by_cases h0:n<0
 ·have es:bZ n= -1:=by unfold bZ;rw [yJ h0]
  rw [es,Ml h0] at e;rw [Ml h0] at hl ⊢;have hc:hZ (45::TT (-n) d) (some 1) (some ((TT (-n) d).length+1))=some (.str (TT (-n) d)):=by rw [ll (s:=45::TT (-n) d) (l:=1) (h:=(TT (-n) d).length+1) (by omega) (by simp)];simp
  simp only [go_sem,ya,IV,e,show (-1:Int)<0 by decide,eM,eU,dO,hc]
 ·by_cases h1:n=0
  ·subst h1;have es:bZ 0=0:=rfl;rw [es] at e;simp only [go_sem,ya,IV,e,show ¬(0:Int)<0 by decide,yq,Int.neg_zero]
  ·have es:bZ n=1:=by unfold bZ;rw [yz h0,yz h1]
   rw [es] at e
   have:TT (-n) d=45::TT n d:=by rw [Ml (by omega),ybw]
   rw [this]
   simp only [go_sem,ya,IV,e,show ¬(1:Int)<0 by decide,show ¬(1:Int)=0 by decide,gl (a:=[45]) (b:=TT n d) (by simp;omega),List.cons_append,xS]
end
end
section
open Go (IntKind)
def apD (n:Int) (d:Nat):RH true n d= .aq [aa n,aa d,.bool true]:=rfl
def So {a b:Int} (ha:a.natAbs<1000000000) (hb:b.natAbs<1000000000):(a*b).natAbs<1000000000000000000:=by
 rw [Int.natAbs_mul];exact yH (Nat.mul_lt_mul'' ha hb) (by decide)
section
variable {P:aK} {L:Lib}
def atB (h:Rm P L) {a b:Int} (ha: -4000000000000000000<=a/\a<=4000000000000000000) (hb:0<b/\b<=4000000000000000000):ae P L 277 [aa a,aa b] (.str (RT (xY a b))):=by
 rw [abe hb.1];exact auv h.avw h.Tb h.pZ ha hb
def aeO (h:Rp P L) {a:Rat} {K:Nat} (ka:Hq K a) (hK:K<=8000000000):∃q:Bool,ae P L 276 [.str (RT a)] (RH q a.num a.den)/\(q=true->a.num.natAbs<1000000000/\a.den<1000000000):=
 auw h.avB h.zF h.zG (n:=a.num) (d:=a.den) (by have:=Eo ka;rw [II] at this;omega)
def atD (h:Rp P L) {a b:Rat} {K M:Nat} (ka:Hq K a) (kb:Hq M b) (hK:K+M+1<=8000000000):ae P L 264 [.str (RT a),.str (RT b)] (.str (RT (a+b))):=by
 obtain ⟨q1,e1,b1⟩:=aeO h ka (by omega);obtain ⟨q2,e2,b2⟩:=aeO h kb (by omega);have azQ:=G7 a b;by_cases hq:(q1=true/\q2=true)
 ·obtain ⟨rfl,rfl⟩:=hq;obtain ⟨b11,b12⟩:=b1 rfl;obtain ⟨b21,b22⟩:=b2 rfl;have p1:=So (a:=a.num) (b:=(b.den:Int)) (by omega) (by omega);have p2:=So (a:=b.num) (b:=(a.den:Int)) (by omega) (by omega);have p3:=So (a:=(a.den:Int)) (b:=(b.den:Int)) (by omega) (by omega);have e3:=atB h.toRm (a:=a.num*b.den+b.num*a.den) (b:=(a.den:Int)*b.den) (by omega) (by omega);rw [<-add_eq] at e3;rw [apD] at e1 e2;unfold ae at e1 e2 e3 ⊢;rw [av h.afT]
  simp only [go_sem,ya,IU,e1,e2,wrap64 (n:=a.num*(b.den:Int)) (by omega) (by omega),wrap64 (n:=b.num*(a.den:Int)) (by omega) (by omega),wrap64 (n:=a.num*(b.den:Int)+b.num*(a.den:Int)) (by omega) (by omega),wrap64 (n:=(a.den:Int)*(b.den:Int)) (by omega) (by omega),e3]
 ·have cf:∃n1 d1 n2 d2,bR P L (D P L) 276 [.str (RT a)]=some (.aq [aa n1,aa d1,.bool q1])/\bR P L (D P L) 276 [.str (RT b)]=some (.aq [aa n2,aa d2,.bool q2]):=by
   cases q1<;>cases q2<;>exact ⟨_,_,_,_,e1,e2⟩
  obtain ⟨n1,d1,n2,d2,e1,e2⟩:=cf;obtain ⟨x,y,e3,hx,hy⟩:=aeM h.toRm ka (by omega);obtain ⟨z,w,e4,hz,hw⟩:=aeM h.toRm kb (by omega);have TP:max K M<=8000000000:=by omega
  obtain ⟨r,e5,hr⟩:=TI (K:=max K M) h.TN h.mC h.jV h.cY TP hx hw (ka.1.mono (by omega)).r (kb.2.mono (by omega)).r;obtain ⟨r2,Wk,fh⟩:=TI (K:=max K M) h.TN h.mC h.jV h.cY TP hz hy (kb.1.mono (by omega)).r (ka.2.mono (by omega)).r;obtain ⟨s,e6,hs⟩:=TI (K:=max K M) h.TN h.mC h.jV h.cY TP hy hw (ka.2.mono (by omega)).r (kb.2.mono (by omega)).r;have k1:Bd (K+M) (a.num*b.den):=ka.1.mul kb.2;have k2:Bd (K+M) (b.num*a.den):=(kb.1.mul ka.2).mono (by omega);obtain ⟨t,e8,ht⟩:=avm (K:=K+M) h.avC h.TJ h.nO h.NU h.nc h.jV h.cY (by omega) hr fh k1.r k2.r;have e7:=atz h.toRm hK ht hs (k1.Tp k2) ((ka.2.mul kb.2).mono (by omega)) (by omega);rw [<-add_eq] at e7;obtain ⟨xw,xl,rfl,gI,_,_,_⟩:=hx;obtain ⟨yw,yl,rfl,gJ,_,_,_⟩:=hy;obtain ⟨zw,zl,rfl,GP,_,_,_⟩:=hz;obtain ⟨ww,wl,rfl,GQ,_,_,_⟩:=hw;obtain ⟨eY,rl,rfl,BD,_,_,_⟩:=hr
  obtain ⟨rw2,rl2,rfl,afX,_,_,_⟩:=fh;obtain ⟨tw,tl,rfl,htw,_,_,_⟩:=ht;obtain ⟨sw,sl,rfl,n9,_,_,_⟩:=hs;have hb:¬(q1=true/\q2=true):=hq;unfold ae at e3 e4 e5 Wk e6 e7 e8 ⊢;rw [av h.afT]
  cases q1 with
  | false=>
   simp only [go_sem,ya,yb,IU,aH,e1,e2,e3,e4,gI.pu,gI.ai,gI.one,gJ.pu,gJ.ai,gJ.one,GP.pu,GP.ai,GP.one,GQ.pu,GQ.ai,GQ.one,BD.ai,afX.ai,htw.ai,n9.ai,bk,bE,AB,fe,fa,e5,Wk,e8,e6,e7]
  | true=>
   cases q2 with
   | true=>exact absurd ⟨rfl,rfl⟩ hb
   | false=>
    simp only [go_sem,ya,yb,IU,aH,e1,e2,e3,e4,gI.pu,gI.ai,gI.one,gJ.pu,gJ.ai,gJ.one,GP.pu,GP.ai,GP.one,GQ.pu,GQ.ai,GQ.one,BD.ai,afX.ai,htw.ai,n9.ai,bk,bE,AB,fe,fa,e5,Wk,e8,e6,e7]
def atE (h:Rp P L) {a b:Rat} {K M:Nat} (ka:Hq K a) (kb:Hq M b) (hK:K+M+1<=8000000000):ae P L 271 [.str (RT a),.str (RT b)] (.str (RT (a-b))):=by
 have e1:=atA h kb (by omega);have e2:=atD h ka kb.neg hK;rw [<-Rat.sub_eq_add_neg] at e2;unfold ae at e1 e2 ⊢;rw [av h.avA];simp only [go_sem,ya,SR,e1,e2]
end
end
section
open Go (IntKind)
def Zb {P:aK} {L:Lib} (a b c d:VC) (s:St):D P L (.seq a (.seq b (.seq c d))) s=oK P L (D P L (.seq a (.seq b c)) s) d:=by
 have e:=Ce (P:=P) (L:=L) b c d;rw [jy,jy]
 cases D P L a s with
 | none=>rfl
 | some q=>
  obtain ⟨ex,st⟩:=q
  cases ex with
  | normal=>rw [fM,fM];exact e st
  | ret=>rfl
  | exit id=>rfl
def nF {a b:List Nat} (h:a≠b):cI a b=false:=by
 cases hb:cI a b with
 | false=>rfl
 | true=>exact absurd (QR hb) h
def aag:∀a:List Nat,cI a a=true
 | []=>rfl
 | x::a=>by simp [cI,aag a]
def RS {a b:List Nat} (h:a=b):cI a b=true:=h▸aag a
def akY {s:List Nat} {i:Nat} (h:i<s.length):dA (s.drop i)=(yE 48 s[i]&&yE s[i] 57&&dA (s.drop (i+1))):=by
 rw [yO h];rfl
section
variable {P:aK} {L:Lib}
def avL (h:Has P L 287 IY) {s:List Nat} (hl:s.length<=1000000000000):ae P L 287 [.str s] (.bool (dA s)):=by
 have key:=cC (P:=P) (L:=L) (live:=[0,3]) (a:=Cr)
  (I:=fun k st=>∃i:Nat,st=⟨[(0,.str s),(3,aa i)],[],0,0⟩/\i+k=s.length/\dA (s.drop i)=dA s)
  (Q:=fun ex st=>∃tm ct,st=⟨tm,[],ct,0⟩/\((ex= .ret/\af tm 2= .bool false/\dA s=false)\/(ex= .exit 0/\dA s=true))) ?_
 ·unfold ae;rw [av h];simp only [go_sem,IY];generalize hq:D P L (.loop [0,3] Cr) _=q;obtain ⟨ex,st,rfl,tm,ct,rfl,h2⟩:=cd hq (key s.length) ⟨0,by simp only [go_sem,ya,aD]<;>rfl,by omega,by simp⟩
  rcases h2 with ⟨rfl,h2,h3⟩ | ⟨rfl,h3⟩
  ·simp only [go_sem,h2,h3]
  ·simp only [go_sem,aD,h3]
 ·rintro k st ⟨i,rfl,hk,hs⟩;by_cases hi:i<s.length
  ·rw [akY hi] at hs;by_cases h1:s[i]<48
   ·right
    have e:yE 48 s[i]=false:=by
     cases hb:yE 48 s[i] with
     | false=>rfl
     | true=>have:=yt hb;omega
    rw [e,xA,xA] at hs;simp only [go_sem,ya,Cr,show (i:Int)<s.length by omega,pO hi,show ((s[i]:Nat):Int)<48 by omega,yq];exact ⟨_,_,rfl,by simp,_,_,rfl,.inl ⟨rfl,by simp only [go_sem],hs.symm⟩⟩
   ·by_cases h2:57<s[i]
    ·right
     have e:yE s[i] 57=false:=by
      cases hb:yE s[i] 57 with
      | false=>rfl
      | true=>have:=yt hb;omega
     rw [e,Bool.and_false,xA] at hs;simp only [go_sem,ya,Cr,show (i:Int)<s.length by omega,pO hi,show ¬((s[i]:Nat):Int)<48 by omega,yp,show (57:Int)<((s[i]:Nat):Int) by omega];exact ⟨_,_,rfl,by simp,_,_,rfl,.inl ⟨rfl,by simp only [go_sem],hs.symm⟩⟩
    ·left
     rw [yu (show 48<=s[i] by omega),yu (show s[i]<=57 by omega),xt,xt] at hs;simp only [go_sem,ya,Cr,show (i:Int)<s.length by omega,pO hi,show ¬((s[i]:Nat):Int)<48 by omega,yp,show ¬(57:Int)<((s[i]:Nat):Int) by omega];refine ⟨_,k-1,rfl,by omega,i+1,?_,by omega,hs⟩;rw [wrap64 (by omega) (by omega)];simp only [go_sem,ya,aD]<;>rfl
  ·right
   simp only [go_sem,ya,Cr,show ¬(i:Int)<s.length by omega];refine ⟨_,_,rfl,by simp,_,_,rfl,.inr ⟨rfl,?_⟩⟩;rw [<-hs,xj (by omega)];rfl
def TQ (h:Has P L 273 CQ) (Jr:Has P L 287 IY) {s:List Nat} (hl:s.length<=1000000000000):ae P L 273 [.str s] (.bool (dJ s)):=by
 have e:=avL Jr hl;unfold ae at e ⊢;rw [av h]
 match s,hl,e with
 | [],_,_=>
  simp only [go_sem,ya,CQ,yF,show ((0:Nat):Int)=0 from rfl,yq];rfl
 | [b],_,e=>
  have:dJ [b]=dA [b]:=by simp [dJ]
  rw [this];simp only [go_sem,ya,CQ,yv,yF,yd,show ¬((1:Nat):Int)=0 by decide,show ¬(1:Int)<((1:Nat):Int) by decide,yp,e]
 | b::c::r,hl,e=>
  have hd:dJ (b::c::r)=(dA (b::c::r)&& !(Nat.beq b 48)):=by simp [dJ]
  rw [hd];by_cases hb:b=48
  ·subst hb;simp only [go_sem,ya,CQ,yv,show ¬((r.length+1+1:Nat):Int)=0 by omega,yp,show (1:Int)<((r.length+1+1:Nat):Int) by omega,show mR 0 (.str (48::c::r))=some (.int .u8 48) from rfl,yq]
   simp
  ·have:Nat.beq b 48=false:=cE hb
   rw [this,yI,Bool.and_true];simp only [go_sem,ya,CQ,yv,show ¬((r.length+1+1:Nat):Int)=0 by omega,yp,show (1:Int)<((r.length+1+1:Nat):Int) by omega,show mR 0 (.str (b::c::r))=some (.int .u8 (b:Nat)) from rfl,show ¬((b:Nat):Int)=48 by omega,e]
def aah {s:List Nat} {k:Nat} (h:k<=s.length):hZ s (some 0) (some k)=some (.str (s.take k)):=by
 rw [ll (by omega) h,yj]
def LA {s:List Nat} {k:Nat} (h:k<=s.length):hZ s (some k) (some s.length)=some (.str (s.drop k)):=by
 rw [ll h (yD _),wz]
def asb (h:Rm P L) {t:List Nat} {k:Nat} (hk:k=bN t) (hl:t.length<=1000000000) (hp:dJ (t.take k)=true) {tm:Env} (t3:af tm 3= .str t) (t4:af tm 4=aa k):
  gD [.t 2] (D P L (aA (aA (aA (aA (aA dF.body))))) ⟨tm,[],0,0⟩)=some (aa (
   if k<t.length/\(dJ (t.drop (k+1))=false\/t.drop (k+1)=[48]\/t.drop (k+1)=[49]) then 1
   else if 600<k\/600<t.length-k-1 then 4
   else if k<t.length/\wi (fw (t.take k)) (fw (t.drop (k+1)))≠1 then 1
   else 0)):=by
 have V8:k<=t.length:=by rw [hk];exact Hl t
 have e3:=TQ h.TO h.Jr (s:=t.drop (k+1)) (by rw [wu];omega);unfold ae at e3;have B4:(k:Int)+1=((k+1:Nat):Int):=rfl;by_cases hs:k<t.length
 ·have c2:=LA (s:=t) (k:=k+1) (by omega);have jQ:=W9 t (by omega);rw [<-hk] at jQ;have Ko:(t.drop (k+1)).length=t.length-k-1:=by rw [wu];omega
  have hlp:(t.take k).length=k:=by rw [yT];omega
  generalize hqe:t.drop (k+1)=q at*
  generalize Wl:t.take k=p at*
  cases hd:dJ q with
  | false=>
   rw [yJ ⟨hs,.inl rfl⟩];rw [hd] at e3
   simp only [go_sem,ya,dF,aA,t3,t4,show (k:Int)<(t.length:Int) by omega,yq,B4,wrapN (n:=k+1) (by omega),eM,eU,dO,c2,e3,yI]
  | true=>
   rw [hd] at e3;by_cases jm:q=[48]
   ·rw [yJ ⟨hs,.inr (.inl jm)⟩]
    simp only [go_sem,ya,dF,aA,t3,t4,show (k:Int)<(t.length:Int) by omega,yq,B4,wrapN (n:=k+1) (by omega),eM,eU,dO,c2,e3,yK,iW,RS jm]
   ·by_cases od:q=[49]
    ·rw [yJ ⟨hs,.inr (.inr od)⟩]
     simp only [go_sem,ya,dF,aA,t3,t4,show (k:Int)<(t.length:Int) by omega,yq,B4,wrapN (n:=k+1) (by omega),eM,eU,dO,c2,e3,yK,iW,nF jm,RS od]
    ·rw [yz (by simp only [hs,uF,yaf,ybu];exact fun e=>e.elim jm od)]
     by_cases C9:600<k
     ·rw [yJ (.inl C9)]
      simp only [go_sem,ya,dF,aA,t3,t4,show (k:Int)<(t.length:Int) by omega,yq,B4,wrapN (n:=k+1) (by omega),eM,eU,dO,c2,e3,yK,iW,nF jm,nF od,show (600:Int)<(k:Int) by omega]
     ·by_cases avM:600<t.length-k-1
      ·rw [yJ (.inr avM)]
       simp only [go_sem,ya,dF,aA,t3,t4,show (k:Int)<(t.length:Int) by omega,yq,B4,wrapN (n:=k+1) (by omega),eM,eU,dO,c2,e3,yK,iW,nF jm,nF od,show ¬(600:Int)<(k:Int) by omega,yp,show (t.length:Int)-(k:Int)=((t.length-k:Nat):Int) by omega,wrapN (n:=t.length-k) (by omega),show ((t.length-k:Nat):Int)-1=((t.length-k-1:Nat):Int) by omega,wrapN (n:=t.length-k-1) (by omega),show (600:Int)<((t.length-k-1:Nat):Int) by omega]
      ·rw [yz (by omega)];have qG:=DR _ rfl hp;have oe:=DR _ rfl hd;have fR:fw q≠0:=fun e=>jm (by rw [<-oe,e];rfl)
       have jj:fw q≠1:=fun e=>od (by rw [<-oe,e];rfl)
       generalize fw p=n at*
       generalize fw q=d at*
       have hT:TT (n:Int) d=t:=by
        unfold TT;rw [jK,yz jj,qG,oe];exact jQ.symm
       obtain ⟨x,y,e4,hx,hy⟩:=afW h.toRb (n:=(n:Int)) (d:=d) (by rw [xW,qG];omega) (by rw [oe];omega);rw [hT] at e4;obtain ⟨xw,xl,rfl,gI,dx,nx,vx⟩:=hx;obtain ⟨yw,yl,rfl,gJ,dy,ny,vy⟩:=hy;rw [xW] at vx vy;have pv:n<10^p.length:=by rw [<-qG];exact D0 n
       have hdb:d<10^q.length:=by rw [<-oe];exact D0 d
       obtain ⟨K,hK⟩:∃K:Nat,K=600:=⟨_,rfl⟩;have OZ:∀{m j:Nat},m<10^j->j<=K->m<1000000000^K:=fun {m j} h1 h2=>
        yH h1 (xi (xn (by decide) h2) (ue (by decide) K))
       have lxl:=iY dx nx (by rw [vx];exact OZ pv (by omega))
       have lyl:=iY dy ny (by rw [vy];exact OZ hdb (by omega))
       obtain ⟨g,lg,e5,hg,dgg,ngg,vg⟩:=aeI h.afP h.Jq h.mC h.nO h.oV h.cY h.qc gI gJ dx dy nx ny (by omega) (by omega);rw [vx,vy] at vg;have JM:0<wi n d:=Nat.gcd_pos_of_pos_right _ (by omega);unfold ae at e4 e5;by_cases TR:lg.length=1
       ·obtain ⟨z,rfl⟩:∃z,lg=[z]:=by
         cases lg with
         | nil=>simp at TR
         | cons z r=>cases r with
          | nil=>exact ⟨z,rfl⟩
          | cons y r=>simp at TR
        have gz:=jO.1 dgg;have Kw:z=(wi n d:Nat):=by simp [dv] at vg;omega
        have e8:=hg.bj (i:=0) (by simp);simp only [tq] at e8;by_cases ib:wi n d=1
        ·rw [yz (by simp [ib])]
         simp only [go_sem,ya,yb,dF,aA,t3,t4,show (k:Int)<(t.length:Int) by omega,yq,B4,wrapN (n:=k+1) (by omega),eM,eU,dO,c2,e3,yK,iW,nF jm,nF od,show ¬(600:Int)<(k:Int) by omega,yp,show (t.length:Int)-(k:Int)=((t.length-k:Nat):Int) by omega,wrapN (n:=t.length-k) (by omega),show ((t.length-k:Nat):Int)-1=((t.length-k-1:Nat):Int) by omega,wrapN (n:=t.length-k-1) (by omega),show ¬(600:Int)<((t.length-k-1:Nat):Int) by omega,e4,aH,gI.pu,gI.ai,gI.one,gJ.pu,gJ.ai,gJ.one,fe,bg,yd,bY,e5,hg.len,hg.shut,yv,yF,show ((1:Nat):Int)=(1:Int) from rfl,yK,e8,Kw,ib]
        ·rw [yJ ⟨hs,ib⟩]
         simp only [go_sem,ya,yb,dF,aA,t3,t4,show (k:Int)<(t.length:Int) by omega,yq,B4,wrapN (n:=k+1) (by omega),eM,eU,dO,c2,e3,yK,iW,nF jm,nF od,show ¬(600:Int)<(k:Int) by omega,yp,show (t.length:Int)-(k:Int)=((t.length-k:Nat):Int) by omega,wrapN (n:=t.length-k) (by omega),show ((t.length-k:Nat):Int)-1=((t.length-k-1:Nat):Int) by omega,wrapN (n:=t.length-k-1) (by omega),show ¬(600:Int)<((t.length-k-1:Nat):Int) by omega,e4,aH,gI.pu,gI.ai,gI.one,gJ.pu,gJ.ai,gJ.one,fe,bg,yd,bY,e5,hg.len,hg.shut,yv,yF,show ((1:Nat):Int)=(1:Int) from rfl,yK,e8,Kw,show ¬((wi n d:Nat):Int)=1 by omega,yI]
       ·have ib:wi n d≠1:=fun e=>TR (by
         have h1:lg.length<=1:=L4 dgg ngg (by omega);have h2:0<lg.length:=by
          rcases xr lg.length with h0 | h0
          ·rw [yN h0] at vg;simp [dv] at vg;omega
          ·exact h0
         omega)
        rw [yJ ⟨hs,ib⟩]
        simp only [go_sem,ya,yb,dF,aA,t3,t4,show (k:Int)<(t.length:Int) by omega,yq,B4,wrapN (n:=k+1) (by omega),eM,eU,dO,c2,e3,yK,iW,nF jm,nF od,show ¬(600:Int)<(k:Int) by omega,yp,show (t.length:Int)-(k:Int)=((t.length-k:Nat):Int) by omega,wrapN (n:=t.length-k) (by omega),show ((t.length-k:Nat):Int)-1=((t.length-k-1:Nat):Int) by omega,wrapN (n:=t.length-k-1) (by omega),show ¬(600:Int)<((t.length-k-1:Nat):Int) by omega,e4,aH,gI.pu,gI.ai,gI.one,gJ.pu,gJ.ai,gJ.one,fe,bg,yd,bY,e5,hg.len,hg.shut,show ¬(lg.length:Int)=1 by omega,yI]
 ·have hkt:k=t.length:=by omega
  rw [yz (by omega)];by_cases C9:600<k
  ·rw [yJ (.inl C9)];simp only [go_sem,ya,dF,aA,t3,t4,show ¬(k:Int)<(t.length:Int) by omega,yp,show (600:Int)<(k:Int) by omega,yq]
  ·rw [yz (by omega),yz (by omega)]
   simp only [go_sem,ya,dF,aA,t3,t4,show ¬(k:Int)<(t.length:Int) by omega,yp,show ¬(600:Int)<(k:Int) by omega,show (t.length:Int)-(k:Int)=((t.length-k:Nat):Int) by omega,wrapN (n:=t.length-k) (by omega),show ((t.length-k:Nat):Int)-1= -1 by omega,show IntKind.wrap .i64 (-1)= -1 by rfl,show ¬(600:Int)<(-1:Int) by omega]
def ac7 (h:Rm P L) {b:Nat} {r:List Nat} {t:List Nat} {neg:Bool} (fK:decide (((b:Nat):Int)=45)=neg) (hl:t.length<=1000000000) {tm:Env} (t0:af tm 0= .str (b::r)) (t3:af tm 3= .str t):
  gD [.t 2] (D P L (aA (aA (aA dF.body))) ⟨tm,[],0,0⟩)=some (aa (mA neg t)):=by
 obtain ⟨k,hk⟩:∃k,k=bN t:=⟨_,rfl⟩;have V8:k<=t.length:=by rw [hk];exact Hl t
 have e1:=CV h.zF (s:=t) (by omega);have e2:=TQ h.TO h.Jr (s:=t.take k) (by rw [yT];omega);unfold mA;rw [<-hk] at e1 ⊢;have c1:=aah V8;have hI:mR 0 (.str (b::r))=some (.int .u8 (b:Nat)):=rfl;generalize hp:t.take k=p at*
 generalize hq:t.drop (k+1)=q at*
 cases hd:dJ p with
 | false=>
  rw [yJ (.inl rfl)];rw [hd] at e2;simp only [go_sem,ya,dF,aA,t3,e1,eM,eU,dO,c1,e2,yI]
 | true=>
  rw [hd] at e2;by_cases hz:neg=true/\p=[48]
  ·rw [yJ (.inr hz)];obtain ⟨z1,z2⟩:=hz;rw [z1] at fK;have hb:=of_decide_eq_true fK;subst z2;simp only [go_sem,ya,dF,aA,t0,t3,e1,eM,eU,dO,c1,e2,yK,hI,hb,yq,iW,show cI [48] [48]=true from rfl]
  ·rw [yz (by simp only [yaf,ybu];exact hz)]
   have fin:∀tm',af tm' 3= .str t->af tm' 4=aa k->D P L (.seq (bK (aA (aA (aA dF.body)))) (bK (aA (aA (aA (aA dF.body)))))) ⟨tm,[],0,0⟩=some (.normal,⟨tm',[],0,0⟩)->gD [.t 2] (D P L (aA (aA (aA dF.body))) ⟨tm,[],0,0⟩)=some (aa (
     if k<t.length/\(dJ q=false\/q=[48]\/q=[49]) then 1
     else if 600<k\/600<t.length-k-1 then 4
     else if k<t.length/\wi (fw p) (fw q)≠1 then 1
     else 0)):=fun tm' f3 f4 e=>by
    show gD [.t 2] (D P L (.seq (bK (aA (aA (aA dF.body)))) (.seq (bK (aA (aA (aA (aA dF.body))))) (aA (aA (aA (aA (aA dF.body))))))) ⟨tm,[],0,0⟩)=_
    rw [Ce,e,fM,<-hp,<-hq];exact asb h hk hl (by rw [hp];exact hd) f3 f4
   by_cases hb:((b:Nat):Int)=45
   ·have avN:p≠[48]:=fun e=>hz ⟨by rw [<-fK];exact yV hb,e⟩
    refine fin _ ?_ ?_ (by simp only [go_sem,ya,dF,bK,aA,t0,t3,e1,eM,eU,dO,c1,e2,yK,hI,hb,yq,iW,nF avN]<;>rfl)<;>simp only [go_sem,ya,t3]
   ·refine fin _ ?_ ?_ (by simp only [go_sem,ya,dF,bK,aA,t0,t3,e1,eM,eU,dO,c1,e2,yK,hI,hb,yp]<;>rfl)<;>simp only [go_sem,ya,t3]
def Js (h:Rm P L) {s:List Nat} (hl:s.length<=1000000000):ae P L 263 [.str s] (aa (aX s)):=by
 unfold ae;rw [av h.avG]
 cases s with
 | nil=>
  have e1:=CV h.zF (s:=[]) (by simp);have e2:=TQ h.TO h.Jr (s:=[]) (by simp);have hc:hZ [] (some 0) (some 0)=some (.str []):=rfl;simp only [go_sem,ya,dF,yF,show ¬(0:Int)<((0:Nat):Int) by decide,yp,e1,bN,eM,eU,dO,hc,e2,show dJ []=false from rfl,yI];rfl
 | cons b t=>
  have Oh:t.length+1<=1000000000:=by simpa using hl
  have hI:mR 0 (.str (b::t))=some (.int .u8 (b:Nat)):=rfl;by_cases hb:b=45
  ·subst hb;have fin:∀tm',af tm' 0= .str (45::t)->af tm' 3= .str t->D P L (.seq (bK dF.body) (.seq (bK (aA dF.body)) (bK (aA (aA dF.body))))) ⟨[(0,.str (45::t))],[],0,0⟩=some (.normal,⟨tm',[],0,0⟩)->gD [.t 2] (D P L dF.body ⟨[(0,.str (45::t))],[],0,0⟩)=some (aa (aX (45::t))):=fun tm' f0 f3 e=>by
    show gD [.t 2] (D P L (.seq (bK dF.body) (.seq (bK (aA dF.body)) (.seq (bK (aA (aA dF.body))) (aA (aA (aA dF.body)))))) ⟨[(0,.str (45::t))],[],0,0⟩)=_
    rw [Zb,e,fM]
    exact ac7 h (b:=45) rfl (by omega) f0 f3
   have hc:hZ (45::t) (some 1) (some (t.length+1))=some (.str t):=by
    have:=LA (s:=45::t) (k:=1) (by simp)
    simpa using this
   refine fin _ ?_ ?_ (by simp only [go_sem,ya,dF,bK,aA,yv,show (0:Int)<((t.length+1:Nat):Int) by omega,yq,CW,eM,eU,dO,hc]<;>rfl)<;>simp only [go_sem,ya]
  ·have fin:∀tm',af tm' 0= .str (b::t)->af tm' 3= .str (b::t)->D P L (.seq (bK dF.body) (.seq (bK (aA dF.body)) (bK (aA (aA dF.body))))) ⟨[(0,.str (b::t))],[],0,0⟩=some (.normal,⟨tm',[],0,0⟩)->gD [.t 2] (D P L dF.body ⟨[(0,.str (b::t))],[],0,0⟩)=some (aa (aX (b::t))):=fun tm' f0 f3 e=>by
    show gD [.t 2] (D P L (.seq (bK dF.body) (.seq (bK (aA dF.body)) (.seq (bK (aA (aA dF.body))) (aA (aA (aA dF.body)))))) ⟨[(0,.str (b::t))],[],0,0⟩)=_
    rw [Zb,e,fM]
    have:=ac7 h (b:=b) (neg:=false) (yM (by omega)) (by simpa using hl) f0 f3
    rw [this];simp only [aX,yz hb]
   refine fin _ ?_ ?_ (by simp only [go_sem,ya,dF,bK,aA,yv,show (0:Int)<((t.length+1:Nat):Int) by omega,yq,hI,show ¬((b:Nat):Int)=45 by omega]<;>rfl)<;>simp only [go_sem,ya]
end
end
section
open Go (IntKind)
def iR (v:AV) (l:List (List Nat)):Prop:=cT v (l.map AV.str)
section
variable {v:AV} {l:List (List Nat)}
def iR.len (h:iR v l) {hp:Hp}:gK hp 1 v=some (.int .i64 (l.length:Nat)):=by
 have:=cT.len (hp:=hp) h
 grind
def iR.pu (h:iR v l):aS v=true:=cT.pu h
def iR.ai (h:iR v l) (n:Nat) {hp:Hp}:freeze (n+1) hp v=some (v,hp):=cT.ai h n
def iR.shut (h:iR v l):VE.shut v=v:=cT.shut h
def iR.bO (h:iR v l):VE.bO v=v:=cT.bO h
def iR.dn (h:iR v l) {hp:Hp}:result hp v=some v:=cT.dn h
def iR.one (h:iR v l):bA v=true:=cT.one h
def iR.cells (h:iR v l):cellsOf v=[v]:=cT.cells h
def iR.bj (h:iR v l) {i:Nat} (hi:i<l.length):gZ 1 i v=some (.aF (.str l[i]::(l.map AV.str).drop (i+1))):=by
 have:=cT.bj h (i:=i) (by simpa using hi)
 grind
def abf (e:Bool) (l:List (List Nat)):iR (.aE e l.length (l.map AV.str)) l:=by
 have:=HM e (l.map AV.str)
 rwa [List.length_map] at this
end
section
variable {P:aK} {L:Lib}
def apE (h:Rm P L) {a:Rat} {K:Nat} (ka:Hq K a) (hK:K<=4000000000):bR P L (D P L) 284 [.str (RT a)]=some (.str (aW a.num))/\bR P L (D P L) 285 [.str (aW a.num)]=some (.str (an a.num.natAbs))/\bR P L (D P L) 286 [.str (RT a)]=some (.str (an a.den)):=by
 have hl:=Eo ka;have e0:=CV h.zF (s:=RT a) (by omega);have lI:bN (RT a)=(aW a.num).length/\(RT a).take (aW a.num).length=aW a.num:=by
  unfold RT;by_cases hd:a.den=1
  ·rw [yJ hd,xO]
   have:=B7 a.num []
   rw [xO] at this;exact ⟨by rw [this];simp [bN],wz⟩
  ·rw [yz hd];exact ⟨by rw [B7];simp [bN],List.take_left⟩
 obtain ⟨ez,rX⟩:=lI;rw [ez] at e0;have hlen:(aW a.num).length<=(RT a).length:=by unfold RT;simp
 have e1:bR P L (D P L) 284 [.str (RT a)]=some (.str (aW a.num)):=by
  rw [av h.avH]
  have:=aah (s:=RT a) hlen
  simp only [go_sem,ya,SU,e0,eM,eU,dO,this,rX]
 have hT:aW a.num=TT a.num 1:=by unfold TT;simp
 have e2:bR P L (D P L) 285 [.str (aW a.num)]=some (.str (an a.num.natAbs)):=by
  have e:=aeN h (n:=a.num) (d:=1) (by rw [<-hT];omega) (fun _=>rfl);rw [<-hT] at e;rw [av h.avI];by_cases h0:a.num<0
  ·have es:bZ a.num= -1:=by unfold bZ;rw [yJ h0]
   rw [es] at e;rw [jL h0] at e ⊢;have hc:=LA (s:=45::an a.num.natAbs) (k:=1) (by simp);simp only [List.drop_succ_cons,yj,yv] at hc;simp only [go_sem,ya,Nq,e,show (-1:Int)<0 by decide,eM,eU,dO,hc]
  ·have es:¬bZ a.num<0:=by unfold bZ;rw [yz h0];split<;>decide
   have hi:aW a.num=an a.num.natAbs:=by
    obtain ⟨m,hm⟩:∃m:Nat,a.num=m:=⟨a.num.toNat,by omega⟩;rw [hm,jK,xW]
   simp only [go_sem,ya,Nq,e,es];rw [hi]
 have e3:bR P L (D P L) 286 [.str (RT a)]=some (.str (an a.den)):=by
  rw [av h.avJ];by_cases hd:a.den=1
  ·have hR:(RT a).length=(aW a.num).length:=by unfold RT;rw [yJ hd];simp
   rw [hd,show an 1=[49] by decide];simp only [go_sem,ya,Nr,e0,show ((aW a.num).length:Int)=((RT a).length:Int) by omega,yq]
  ·have hR:RT a=(aW a.num++[47])++an a.den:=by unfold RT;rw [yz hd];simp
   have hRl:(RT a).length=(aW a.num).length+1+(an a.den).length:=by rw [hR];simp;omega
   have hc:=LA (s:=RT a) (k:=(aW a.num).length+1) (by omega);have ig:(RT a).drop ((aW a.num).length+1)=an a.den:=by
    rw [hR,show (aW a.num).length+1=(aW a.num++[47]).length by simp,List.drop_left]
   rw [ig] at hc
   simp only [go_sem,ya,Nr,e0,show ¬((aW a.num).length:Int)=((RT a).length:Int) by omega,show ((aW a.num).length:Int)+1=(((aW a.num).length+1:Nat):Int) from rfl,wrapN (n:=(aW a.num).length+1) (by omega),eM,eU,dO,hc]
 exact ⟨e1,e2,e3⟩
def akZ {l:List (List Nat)} {i:Nat} (h:i<l.length):bm ((l.drop i).map aX)=if aX l[i]=0 then bm ((l.drop (i+1)).map aX) else aX l[i]:=by
 rw [yO h];rfl
def atF (h:Rm P L) (TS:Has P L 261 Nl) {v:AV} {l:List (List Nat)} (hv:iR v l) (hl:l.length<=1000000) (hs:∀s,s∈l->s.length<=1000000000):ae P L 261 [v] (aa (bm (l.map aX))):=by
 have key:=cC (P:=P) (L:=L) (live:=[0,3]) (a:=Ec)
  (I:=fun k st=>∃i:Nat,st=⟨[(0,v),(3,aa i)],[],0,0⟩/\i+k=l.length/\bm ((l.drop i).map aX)=bm (l.map aX))
  (Q:=fun ex st=>∃tm ct,st=⟨tm,[],ct,0⟩/\((ex= .ret/\af tm 2=aa (bm (l.map aX)))\/(ex= .exit 0/\bm (l.map aX)=0))) ?_
 ·unfold ae;rw [av TS];simp only [go_sem,Nl];generalize hq:D P L (.loop [0,3] Ec) _=q;obtain ⟨ex,st,rfl,tm,ct,rfl,h2⟩:=cd hq (key l.length) ⟨0,by simp only [go_sem,ya,aD,aM hv.pu,aQ _ hv.pu]<;>rfl,by omega,by simp⟩
  rcases h2 with ⟨rfl,h2⟩ | ⟨rfl,h3⟩
  ·simp only [go_sem,h2]
  ·simp only [go_sem,aD,h3]
 ·rintro k st ⟨i,rfl,hk,hd⟩;by_cases hi:i<l.length
  ·rw [akZ hi] at hd;have e1:=Js h (hs l[i] (List.getElem_mem hi));have ev:=hv.bj hi;by_cases h1:aX l[i]=0
   ·left
    rw [yJ h1] at hd;rw [h1] at e1;simp only [go_sem,ya,Ec,hv.len,show (i:Int)<l.length by omega,ev,e1,yq,yK];refine ⟨_,k-1,rfl,by omega,i+1,?_,by omega,hd⟩;rw [wrap64 (by omega) (by omega)];simp only [go_sem,ya,aD,aM hv.pu,aQ _ hv.pu]<;>rfl
   ·right
    rw [yz h1] at hd;simp only [go_sem,ya,Ec,hv.len,show (i:Int)<l.length by omega,ev,e1,h1,yp,yI];refine ⟨_,_,rfl,by simp,_,_,rfl,.inl ⟨rfl,?_⟩⟩;rw [<-hd];simp only [go_sem]
  ·right
   simp only [go_sem,ya,Ec,hv.len,show ¬(i:Int)<l.length by omega];refine ⟨_,_,rfl,by simp,_,_,rfl,.inr ⟨rfl,?_⟩⟩;rw [<-hd,xj (by omega)];rfl
end
end
section
open Go (IntKind)
open Classical in
noncomputable def aG (s:List Nat):Rat:=if h:aX s=0 then Classical.choose (arW h) else 0
def sK {s:List Nat} (h:aX s=0):s=RT (aG s)/\(an (aG s).num.natAbs).length<=600/\(an (aG s).den).length<=600:=by
 unfold aG
 grind
def Lb {z:Int} {k M:Nat} (h:(an z.natAbs).length<=k) (hM:4*k<=M):Bd M z:=by
 have h1:=D0 z.natAbs;have h2:=HQ (an z.natAbs).length;have h3:(2:Nat)^(4*(an z.natAbs).length)<=2^M:=xn (by decide) (by omega);exact yH h1 (xi h2 h3)
def jo {s:List Nat} (h:aX s=0) {M:Nat} (hM:2400<=M):Hq M (aG s):=by
 obtain ⟨_,h1,h2⟩:=sK h
 exact ⟨Lb h1 (by omega),Lb (z:=((aG s).den:Int)) (by rw [xW];exact h2) (by omega)⟩
noncomputable def jg (s:List Nat) (least:Int):Int:=if aX s=0 then (if bZ (aG s).num<least then 3 else 0) else aX s
def Rj {s:List Nat} {m:Int} (h:jg s m=0):aX s=0/\m<=bZ (aG s).num:=by
 unfold jg at h
 grind
abbrev fZ (x y:List Nat):AV:= .agg [.str x,.str y]
abbrev Wm (a b:Rat):AV:= .agg [.str (RT a),.str (RT b)]
instance (k:Nat) (z:Int):Decidable (Bd k z):=inferInstanceAs (Decidable (z.natAbs<2^k))
def afY:RT 0=[48]:=by decide
def TU:Hq 2 0:=⟨by decide,by decide⟩
def rM:Hq 2 1:=⟨by decide,by decide⟩
def apF {a:Rat} (h:RT a=[48]):a=0:=by
 unfold RT at h;have hp:=pK a.den;by_cases hd:a.den=1
 ·rw [yJ hd,xO] at h;by_cases h0:a.num<0
  ·rw [jL h0] at h;simp at h
  ·obtain ⟨m,hm⟩:∃m:Nat,a.num=m:=⟨a.num.toNat,by omega⟩;rw [hm,jK] at h;have hv:=qU m;rw [h] at hv;have hv:some 0=some m:=hv
   have:m=0:=by simp_all
   simp_all
 ·rw [yz hd] at h;have hl:=congrArg List.length h
  grind
def ac8 (a:Rat):cI (RT a) [48]=decide (a=0):=by
 by_cases h:a=0
 ·subst h;exact RS afY
 ·rw [yM h];exact nF (fun e=>h (apF e))
structure S0 (P:aK) (L:Lib):Prop extends Rm P L where
 Pf:Has P L 42 Ox
 TS:Has P L 261 Nl
 avO:Has P L 306 SV
 avP:Has P L 307 SW
 avQ:Has P L 308 SX
 avR:Has P L 314 I2
section
variable {P:aK} {L:Lib}
def afZ (h:S0 P L) {s:List Nat} (hl:s.length<=1000000000) (m:Int):ae P L 314 [.str s,aa m] (aa (jg s m)):=by
 have e1:=Js h.toRm hl;unfold ae at e1 ⊢;rw [av h.avR];unfold jg;by_cases h0:aX s=0
 ·obtain ⟨h1,_⟩:=sK h0;have e2:=Sn h.toRm (jo h0 (yD 2400)) (by omega);rw [<-h1] at e2;rw [h0] at e1;rw [yJ h0];by_cases h2:bZ (aG s).num<m
  ·rw [yJ h2];simp only [go_sem,ya,I2,e1,yq,e2,h2]
  ·rw [yz h2];simp only [go_sem,ya,I2,e1,yq,e2,h2]
 ·rw [yz h0];simp only [go_sem,ya,I2,e1,h0,yp]
def af0 (h:S0 P L) {s:List Nat} (hl:s.length<=1000000000):ae P L 307 [.str s] (aa (jg s 0)):=by
 have e1:=afZ h hl 0;unfold ae at e1 ⊢;rw [av h.avP];simp only [go_sem,ya,SW,e1]
def TV (h:S0 P L) {x y:List Nat} (hx:x.length<=1000000000) (hy:y.length<=1000000000):ae P L 308 [fZ x y] (aa (bm [aX x,aX y])):=by
 have e1:=atF h.toRm h.TS (abf true [x,y]) (by simp) (fun s hs=>by simp at hs;rcases hs with rfl | rfl<;>assumption)
 simp only [yv,yF,yd,yb,y9,wM] at e1;unfold ae at e1 ⊢;rw [av h.avQ];simp only [go_sem,ya,yb,yy,yg,yi,SX,aH,bg,yd,bY,e1]
def avS (h:S0 P L) {x y s:List Nat} (hx:x.length<=1000000000) (hy:y.length<=1000000000) (hs:s.length<=1000000000):ae P L 306 [.agg [.str x,.str y,.str s]] (aa (bm [bm [aX x,aX y],jg s 0])):=by
 have e1:=TV h hx hy;have e2:=af0 h hs;have e3:=s42 h.Pf (fN true [bm [aX x,aX y],jg s 0]) (by simp);simp only [yv,yF,yd,yb,y9,wM] at e3;unfold ae at e1 e2 ⊢;rw [av h.avO];simp only [go_sem,ya,yb,yy,yg,yi,SV,bk,aH,bg,yd,fa,e1,e2,show xv 2 [AV.str x,.str y,.str s]=[.str s] from rfl,e3]
def avT (h:Rp P L) (Jt:Has P L 315 I3) {a b:Rat} {K M:Nat} (ka:Hq K a) (kb:Hq M b) (hK:K+M+1<=8000000000):ae P L 315 [.str (RT a),.str (RT b)] (aa (bZ (a-b).num)):=by
 have e1:=atE h ka kb hK;have e2:=Sn h.toRm (ka.sub kb) hK;unfold ae at e1 e2 ⊢;rw [av Jt];simp only [go_sem,ya,I3,e1,e2]
end
end
section
open Go (IntKind)
def XF (q:Rat):q.num<0↔q<0:=by
 have h:=@Rat.num_nonneg q
 grind
def apG (a b:Rat):bZ (a-b).num=zK a b:=by
 unfold bZ zK;by_cases h1:a<b
 ·rw [yJ ((XF _).2 (by grind)),yJ h1]
 ·rw [yz (fun e=>h1 (by have:=(XF _).1 e;grind)),yz h1]
  by_cases h2:a=b
  ·subst h2;rw [yJ (by rw [Rat.sub_self];rfl),yJ rfl]
  ·rw [yz (fun e=>h2 (by have:=Rat.num_eq_zero.1 e;grind)),yz h2]
def LB (a b:Rat):zK a b<0↔a<b:=by
 unfold zK
 grind
abbrev iE (x y s:List Nat):AV:= .agg [.str x,.str y,.str s]
def rh (hs h:Rat):Bool:=decide (hs=0)||decide (h<hs)
def jN (hs h:Rat):Rat:=if hs=0 then 1 else 1-h/hs
section
variable {P:aK} {L:Lib}
def avU (h:Rp P L) (TW:Has P L 309 EU) (Jt:Has P L 315 I3) {x y:List Nat} {hs hh:Rat} {K M:Nat} (ks:Hq K hs) (kh:Hq M hh) (hK:K+M+1<=8000000000):ae P L 309 [iE x y (RT hs),.str (RT hh)] (.bool (rh hs hh)):=by
 have e1:=avT h Jt kh ks (by omega);have e0:=ac8 hs;rw [apG] at e1;unfold ae at e1 ⊢;rw [av TW];unfold rh;by_cases h0:hs=0
 ·rw [yV h0] at e0;rw [yV h0];simp only [go_sem,ya,yb,EU,aH,bg,yd,show xv 2 [AV.str x,.str y,.str (RT hs)]=[.str (RT hs)] from rfl,iW,e0,yay]
 ·rw [yM h0] at e0;rw [yM h0];by_cases h1:hh<hs
  ·rw [yV h1]
   have:=(LB hh hs).2 h1
   simp only [go_sem,ya,yb,EU,aH,bg,yd,show xv 2 [AV.str x,.str y,.str (RT hs)]=[.str (RT hs)] from rfl,iW,e0,e1,this,yq,vD]
  ·rw [yM h1]
   have:¬zK hh hs<0:=fun e=>h1 ((LB hh hs).1 e)
   simp only [go_sem,ya,yb,EU,aH,bg,yd,show xv 2 [AV.str x,.str y,.str (RT hs)]=[.str (RT hs)] from rfl,iW,e0,e1,this,yp,vD]
def Qk {hs hh:Rat} {K M:Nat} (ks:Hq K hs) (kh:Hq M hh):Hq (K+M+3) (jN hs hh):=by
 unfold jN
 split
 ·exact rM.mono (by omega)
 ·exact (rM.sub (kh.div ks)).mono (by omega)
end
end
section
open Go (IntKind)
def lS (v:AV) (a b:Rat):Prop:=∃s1 w1 s2 w2 s3 w3 s4 w4,v= .agg [aa s1,w1,aa s2,w2,aa s3,w3,aa s4,w4]/\cM s1 w1 a.num/\cM s2 w2 (a.den:Int)/\cM s3 w3 b.num/\cM s4 w4 (b.den:Int)
section
variable {s1 s2 s3 s4:Int} {w1 w2 w3 w4:AV} {l1 l2 l3 l4:List Nat}
def MM (h1:bJ w1 l1) (h2:bJ w2 l2) (h3:bJ w3 l3) (h4:bJ w4 l4) (hp:Hp) (ct id:Nat) (a b c d e f g h:AV):fy hp ct id 0 8 [.int .i64 s1,w1,.int .i64 s2,w2,.int .i64 s3,w3,.int .i64 s4,w4] (some (.cells true true true 8 [a,b,c,d,e,f,g,h]))=some (.aq [],aY hp id (.cells true true true 8 [.int .i64 s1,w1,.int .i64 s2,w2,.int .i64 s3,w3,.int .i64 s4,w4]),ct):=by
 rw [mj (by rfl) (by simp) (by simp [bQ,h1.one,h2.one,h3.one,h4.one,HN])];simp [aJ,h1.pu,h2.pu,h3.pu,h4.pu,over,Ej]
def MN (h1:bJ w1 l1) (h2:bJ w2 l2) (h3:bJ w3 l3) (h4:bJ w4 l4) (hp:Hp):result hp (.agg [aa s1,w1,aa s2,w2,aa s3,w3,aa s4,w4])=some (.agg [aa s1,w1,aa s2,w2,aa s3,w3,aa s4,w4]):=by
 rcases h1 with ⟨rfl,_⟩ | ⟨e,rfl⟩<;>rcases h2 with ⟨rfl,_⟩ | ⟨e',rfl⟩<;>rcases h3 with ⟨rfl,_⟩ | ⟨e,rfl⟩<;>rcases h4 with ⟨rfl,_⟩ | ⟨e',rfl⟩<;>rfl
def Rk {tm:Env} {a b c d x y z w:AV} {x' y' z' w':AV} {r:List (Nat×Nat×X)} (h1:bA a=true) (h2:bA b=true) (h3:bA c=true) (h4:bA d=true):hJ tm [x',y',z',w',x,y,z,w] 0 4 [a,b,c,d] r=fill tm [a,b,c,d,x,y,z,w] r:=by
 rw [mL (by rfl) (by simp) (by simp [bQ,h1,h2,h3,h4])];rfl
def Rl {tm:Env} {a b c d x y z w:AV} {x' y' z' w':AV} {r:List (Nat×Nat×X)} (h1:bA a=true) (h2:bA b=true) (h3:bA c=true) (h4:bA d=true):hJ tm [x,y,z,w,x',y',z',w'] 4 4 [a,b,c,d] r=fill tm [x,y,z,w,a,b,c,d] r:=by
 rw [mL (by rfl) (by simp) (by simp [bQ,h1,h2,h3,h4])];rfl
def apH {tm:Env} {a b x y z:AV} {r:List (Nat×Nat×X)} (h1:bA a=true) (h2:bA b=true):hJ tm [x,y,z] 0 2 [a,b] r=fill tm [a,b,z] r:=by
 rw [mL (by rfl) (by simp) (by simp [bQ,h1,h2])];rfl
def A9 (a b c d e f g h:AV):eX 8 true [a,b,c,d,e,f,g,h]=some (.agg [a,b,c,d,e,f,g,h]):=rfl
def lm (a b c d:AV) (r:List AV):eX 4 true (a::b::c::d::r)=some (.agg [a,b,c,d]):=rfl
def jt (a b c:AV) (r:List AV):eX 3 true (a::b::c::r)=some (.agg [a,b,c]):=rfl
def mN (a b c d e f g h:AV):xv 4 [a,b,c,d,e,f,g,h]=[e,f,g,h]:=rfl
def D4 (a b c:AV):xv 2 [a,b,c]=[c]:=rfl
end
structure Sp (P:aK) (L:Lib):Prop extends Ck P L where
 fm:Has P L 31 Ab
 nj:Has P L 33 JR
 VV:Has P L 53 US
 VW:Has P L 54 UT
 V1:Has P L 60 UX
 V2:Has P L 61 JV
 Oc:Has P L 63 JW
 Pg:Has P L 64 OD
 V3:Has P L 65 OE
 V6:Has P L 68 UZ
 h72:Has P L 72 c72
 h75:Has P L 75 U5
 avV:Has P L 112 SM
 avW:Has P L 113 M8
 avX:Has P L 114 SN
section
variable {P:aK} {L:Lib}
def Pn (h:Sp P L) {x y:List Nat} (hx:x.length<=1000000000) (hy:y.length<=1000000000):ae P L 53 [fZ x y] (aa (bm [aX x,aX y])):=by
 have e1:=Pk h.toCk hx;have e2:=Pk h.toCk hy;have e3:=qD h.nj (fN true [aX x,aX y]) (by simp);simp only [yv,yF,yd,yb,y9,wM] at e3;unfold ae at e1 e2 ⊢;rw [av h.VV];simp only [go_sem,ya,yb,yy,yg,yi,US,aH,bg,yd,bY,e1,e2,e3]
def zN (h:Sp P L) {s:List Nat} (h0:aX s=0):∃r,ae P L 62 [.str s] r/\cB r (aG s):=by
 obtain ⟨hR,_⟩:=sK h0;have kr:=jo h0 (yD 2400);have hl:=Eo kr;obtain ⟨r,e,hr⟩:=m62 h.toTx (a:=aG s) (by omega)
 grind
def Wn (h:Sp P L) {s:List Nat} (hl:s.length<=1000000000) (m:Int):ae P L 61 [.str s,aa m] (aa (jg s m)):=by
 have e1:=Pk h.toCk hl;unfold ae at e1 ⊢;rw [av h.V2];unfold jg;by_cases h0:aX s=0
 ·obtain ⟨r,e2,hr⟩:=zN h h0;have e3:=au0 h.toFr' hr;obtain ⟨s1,w1,s2,w2,rfl,h1,h2⟩:=hr;obtain ⟨l1,u1⟩:=h1.aw;obtain ⟨l2,u2⟩:=h2.aw;rw [h0] at e1;rw [yJ h0];have e4:=fun b=>mG h.fm b 3
  by_cases hm:bZ (aG s).num<m
  ·rw [yJ hm];have e5:=e4 true;simp only [y7] at e5;simp only [go_sem,ya,JV,e1,yq,yK,e2,bE,bk,u1.ai,u2.ai,e3,hm,e5]
  ·rw [yz hm];have e5:=e4 false;simp only [yC,yR] at e5;simp only [go_sem,ya,JV,e1,yq,yK,e2,bE,bk,u1.ai,u2.ai,e3,hm,yp,e5]
 ·rw [yz h0];simp only [go_sem,ya,JV,e1,h0,yp,yI]
def m60 (h:Sp P L) {x y s:List Nat} (hx:x.length<=1000000000) (hy:y.length<=1000000000) (hs:s.length<=1000000000):ae P L 60 [iE x y s] (aa (bm [bm [aX x,aX y],jg s 0])):=by
 have e1:=Pn h hx hy;have e2:=Wn h hs 0;have e3:=qD h.nj (fN true [bm [aX x,aX y],jg s 0]) (by simp);simp only [yv,yF,yd,yb,y9,wM] at e3;unfold ae at e1 e2 ⊢;rw [av h.V1];simp only [go_sem,ya,yb,yy,yg,yi,UX,bk,aH,bg,yd,fa,e1,e2,D4,e3]
def atG (a b c d e f:List Nat):im (.ag [2,2,2]) (iE a b c) (iE d e f)=some (cI a d&&(cI b e&&cI c f)):=by
 show dN [2,2,2] [.str a,.str b,.str c] [.str d,.str e,.str f]=_
 simp only [dN]
 grind
def Ho (a:List Nat):cI a a=true:=L3 rfl
def m68 (h:Sp P L) (x y s:List Nat):ae P L 68 [iE x y s] (.bool (cI s [48])):=by
 unfold ae;rw [av h.V6];simp only [go_sem,ya,yb,yg,UZ,aH,bg,yd,fa,jt,apH,atG,dw,Ho,xt]
def GR (h:Sp P L) {x y:List Nat} (hx:aX x=0) (hy:aX y=0):∃r,ae P L 54 [fZ x y] r/\lS r (aG x) (aG y):=by
 obtain ⟨p,e1,hp⟩:=zN h hx;obtain ⟨q,e2,hq⟩:=zN h hy;obtain ⟨s1,w1,s2,w2,rfl,h1,h2⟩:=hp;obtain ⟨s3,w3,s4,w4,rfl,h3,h4⟩:=hq;obtain ⟨l1,u1⟩:=h1.aw;obtain ⟨l2,u2⟩:=h2.aw;obtain ⟨l3,u3⟩:=h3.aw;obtain ⟨l4,u4⟩:=h4.aw;refine ⟨_,?_,s1,w1,s2,w2,s3,w3,s4,w4,rfl,h1,h2,h3,h4⟩;unfold ae at e1 e2 ⊢;rw [av h.VW];simp only [go_sem,ya,yb,UT,aH,bg,yd,bY,e1,e2,bE,u1.one,u2.one,u3.one,u4.one,Rk,Rl,MM u1 u2 u3 u4,db,de,yj,A9,MN u1 u2 u3 u4]
def Kx (h:Sp P L) {v w:AV} {a b t:Rat} {K:Nat} (hv:lS v a b) (hw:cB w t) (ka:Hq K a) (kb:Hq K b) (kt:Hq K t) (hK:K<=10000000000):∃r,ae P L 75 [v,w] r/\lS r (a*t) (b*t):=by
 obtain ⟨s1,w1,s2,w2,s3,w3,s4,w4,rfl,h1,h2,h3,h4⟩:=hv;obtain ⟨p,e1,hp⟩:=sA h.toFr' ⟨s1,w1,s2,w2,rfl,h1,h2⟩ hw ka kt hK;obtain ⟨q,e2,hq⟩:=sA h.toFr' ⟨s3,w3,s4,w4,rfl,h3,h4⟩ hw kb kt hK;obtain ⟨s5,w5,s6,w6,rfl,h5,h6⟩:=hw;obtain ⟨x1,y1,x2,y2,rfl,g1,g2⟩:=hp;obtain ⟨x3,y3,x4,y4,rfl,g3,g4⟩:=hq;obtain ⟨l1,u1⟩:=h1.aw;obtain ⟨l2,u2⟩:=h2.aw;obtain ⟨l3,u3⟩:=h3.aw;obtain ⟨l4,u4⟩:=h4.aw;obtain ⟨l5,u5⟩:=h5.aw;obtain ⟨l6,u6⟩:=h6.aw;obtain ⟨m1,v1⟩:=g1.aw;obtain ⟨m2,v2⟩:=g2.aw;obtain ⟨m3,v3⟩:=g3.aw;obtain ⟨m4,v4⟩:=g4.aw;refine ⟨_,?_,x1,y1,x2,y2,x3,y3,x4,y4,rfl,g1,g2,g3,g4⟩;unfold ae at e1 e2 ⊢;rw [av h.h75]
 simp only [go_sem,ya,yb,U5,aH,bg,yd,mN,lm,bk,u1.pu,u1.ai,u1.one,u2.pu,u2.ai,u2.one,u3.pu,u3.ai,u3.one,u4.pu,u4.ai,u4.one,u5.pu,u5.ai,u5.one,u6.pu,u6.ai,u6.one,v1.one,v2.one,v3.one,v4.one,e1,e2,bE,Rk,Rl,MM v1 v2 v3 v4,db,de,yj,A9,MN v1 v2 v3 v4]
def NW (h:Sp P L) {v w:AV} {a b c d:Rat} {K:Nat} (hv:lS v a b) (hw:lS w c d) (ka:Hq K a) (kb:Hq K b) (kc:Hq K c) (kd:Hq K d) (hK:K<=10000000000):∃r,ae P L 112 [v,w] r/\lS r (a+c) (b+d):=by
 obtain ⟨s1,w1,s2,w2,s3,w3,s4,w4,rfl,h1,h2,h3,h4⟩:=hv;obtain ⟨s5,w5,s6,w6,s7,w7,s8,w8,rfl,h5,h6,h7,h8⟩:=hw;obtain ⟨p,e1,hp⟩:=O8 h.toFr' ⟨s1,w1,s2,w2,rfl,h1,h2⟩ ⟨s5,w5,s6,w6,rfl,h5,h6⟩ ka kc hK;obtain ⟨q,e2,hq⟩:=O8 h.toFr' ⟨s3,w3,s4,w4,rfl,h3,h4⟩ ⟨s7,w7,s8,w8,rfl,h7,h8⟩ kb kd hK;obtain ⟨x1,y1,x2,y2,rfl,g1,g2⟩:=hp;obtain ⟨x3,y3,x4,y4,rfl,g3,g4⟩:=hq;obtain ⟨l1,u1⟩:=h1.aw;obtain ⟨l2,u2⟩:=h2.aw;obtain ⟨l3,u3⟩:=h3.aw;obtain ⟨l4,u4⟩:=h4.aw;obtain ⟨l5,u5⟩:=h5.aw;obtain ⟨l6,u6⟩:=h6.aw;obtain ⟨l7,u7⟩:=h7.aw;obtain ⟨l8,u8⟩:=h8.aw;obtain ⟨m1,v1⟩:=g1.aw;obtain ⟨m2,v2⟩:=g2.aw;obtain ⟨m3,v3⟩:=g3.aw;obtain ⟨m4,v4⟩:=g4.aw;refine ⟨_,?_,x1,y1,x2,y2,x3,y3,x4,y4,rfl,g1,g2,g3,g4⟩;unfold ae at e1 e2 ⊢;rw [av h.avV]
 simp only [go_sem,ya,yb,SM,aH,bg,yd,mN,lm,bk,u1.pu,u1.ai,u1.one,u2.pu,u2.ai,u2.one,u3.pu,u3.ai,u3.one,u4.pu,u4.ai,u4.one,u5.pu,u5.ai,u5.one,u6.pu,u6.ai,u6.one,u7.pu,u7.ai,u7.one,u8.pu,u8.ai,u8.one,v1.one,v2.one,v3.one,v4.one,e1,e2,bE,Rk,Rl,MM v1 v2 v3 v4,db,de,yj,A9,MN v1 v2 v3 v4]
def avY (h:Sp P L) {v:AV} {a b:Rat} {K:Nat} (hv:lS v a b) (ka:Hq K a) (kb:Hq K b) (hK:K<=4000000000):ae P L 113 [v] (.bool (LG a||LG b)):=by
 obtain ⟨s1,w1,s2,w2,s3,w3,s4,w4,rfl,h1,h2,h3,h4⟩:=hv;have e1:=TF h.toTx ⟨s1,w1,s2,w2,rfl,h1,h2⟩ ka hK;have e2:=TF h.toTx ⟨s3,w3,s4,w4,rfl,h3,h4⟩ kb hK;obtain ⟨l1,u1⟩:=h1.aw;obtain ⟨l2,u2⟩:=h2.aw;obtain ⟨l3,u3⟩:=h3.aw;obtain ⟨l4,u4⟩:=h4.aw;unfold ae at e1 e2 ⊢;rw [av h.avW]
 cases hb:LG a with
 | true=>
  rw [hb] at e1;simp only [go_sem,ya,yb,M8,aH,bg,yd,lm,bk,u1.pu,u1.ai,u1.one,u2.pu,u2.ai,u2.one,u3.pu,u3.one,u4.pu,u4.one,e1];rfl
 | false=>
  rw [hb] at e1;simp only [go_sem,ya,yb,M8,aH,bg,yd,mN,lm,bk,u1.pu,u1.ai,u1.one,u2.pu,u2.ai,u2.one,u3.pu,u3.ai,u3.one,u4.pu,u4.ai,u4.one,e1,e2];rfl
def avZ (h:Sp P L) {v:AV} {a b:Rat} {K:Nat} (hv:lS v a b) (ka:Hq K a) (kb:Hq K b) (hK:K<=4000000000):ae P L 114 [v] (Wm a b):=by
 obtain ⟨s1,w1,s2,w2,s3,w3,s4,w4,rfl,h1,h2,h3,h4⟩:=hv;have e1:=VN h.toTx ⟨s1,w1,s2,w2,rfl,h1,h2⟩ ka hK;have e2:=VN h.toTx ⟨s3,w3,s4,w4,rfl,h3,h4⟩ kb hK;obtain ⟨l1,u1⟩:=h1.aw;obtain ⟨l2,u2⟩:=h2.aw;obtain ⟨l3,u3⟩:=h3.aw;obtain ⟨l4,u4⟩:=h4.aw;unfold ae at e1 e2 ⊢;rw [av h.avX];simp only [go_sem,ya,yb,yg,SN,aH,bg,yd,mN,lm,bk,u1.pu,u1.ai,u1.one,u2.pu,u2.ai,u2.one,u3.pu,u3.ai,u3.one,u4.pu,u4.ai,u4.one,e1,e2,fe];rfl
def m65 (h:Sp P L) {v:AV} {a b:Rat} {K:Nat} (hv:lS v a b) (ka:Hq K a) (kb:Hq K b) (hK:K<=4000000000):ae P L 65 [v] (if (LG a||LG b)=true then .aq [fZ [] [],aa 4] else .aq [Wm a b,aa 0]):=by
 have e1:=avY h hv ka kb hK;have e2:=avZ h hv ka kb hK;obtain ⟨s1,w1,s2,w2,s3,w3,s4,w4,rfl,h1,h2,h3,h4⟩:=hv;obtain ⟨l1,u1⟩:=h1.aw;obtain ⟨l2,u2⟩:=h2.aw;obtain ⟨l3,u3⟩:=h3.aw;obtain ⟨l4,u4⟩:=h4.aw;unfold ae at e1 e2 ⊢;rw [av h.V3]
 cases hb:(LG a||LG b) with
 | true=>
  rw [hb] at e1;simp only [go_sem,ya,yb,OE,aH,yd,A9,bk,u1.pu,u1.ai,u1.one,u2.pu,u2.ai,u2.one,u3.pu,u3.ai,u3.one,u4.pu,u4.ai,u4.one,e1,fe];rfl
 | false=>
  rw [hb] at e1;simp only [go_sem,ya,yb,OE,aH,yd,A9,bk,u1.pu,u1.ai,u1.one,u2.pu,u2.ai,u2.one,u3.pu,u3.ai,u3.one,u4.pu,u4.ai,u4.one,e1,e2,bE,fe];rfl
end
end
section
open Go (IntKind)
structure F4 (c1 c2 c3 c4:AV):Prop where
 ai:∀(n:Nat) (hp:Hp),freeze (n+20) hp (.agg [c1,c2,c3,c4])=some (.agg [c1,c2,c3,c4],hp)
 dn:∀hp:Hp,result hp (.agg [c1,c2,c3,c4])=some (.agg [c1,c2,c3,c4])
 st:∀(hp:Hp) (ct id:Nat) (a b c d:AV),fy hp ct id 0 4 [c1,c2,c3,c4] (some (.cells true true true 4 [a,b,c,d]))=some (.aq [],aY hp id (.cells true true true 4 [c1,c2,c3,c4]),ct)
 bx:∀ct:Nat,Bl ct 4 [c1,c2,c3,c4]=some (.ptr ct 0,.cells true true true 4 [c1,c2,c3,c4])
 o1:bA c1=true
 o2:bA c2=true
 o3:bA c3=true
 o4:bA c4=true
 pu:aS (.agg [c1,c2,c3,c4])=true
 z1:∀(n:Nat) (hp:Hp),freeze (n+1) hp c1=some (c1,hp)
 z2:∀(n:Nat) (hp:Hp),freeze (n+1) hp c2=some (c2,hp)
 z3:∀(n:Nat) (hp:Hp),freeze (n+1) hp c3=some (c3,hp)
 z4:∀(n:Nat) (hp:Hp),freeze (n+1) hp c4=some (c4,hp)
structure F8 (c1 c2 c3 c4 c5 c6 c7 c8:AV):Prop where
 ai:∀(n:Nat) (hp:Hp),freeze (n+20) hp (.agg [c1,c2,c3,c4,c5,c6,c7,c8])=some (.agg [c1,c2,c3,c4,c5,c6,c7,c8],hp)
 dn:∀hp:Hp,result hp (.agg [c1,c2,c3,c4,c5,c6,c7,c8])=some (.agg [c1,c2,c3,c4,c5,c6,c7,c8])
 st:∀(hp:Hp) (ct id:Nat) (a b c d e f g h:AV),fy hp ct id 0 8 [c1,c2,c3,c4,c5,c6,c7,c8] (some (.cells true true true 8 [a,b,c,d,e,f,g,h]))=some (.aq [],aY hp id (.cells true true true 8 [c1,c2,c3,c4,c5,c6,c7,c8]),ct)
 bx:∀ct:Nat,Bl ct 8 [c1,c2,c3,c4,c5,c6,c7,c8]=some (.ptr ct 0,.cells true true true 8 [c1,c2,c3,c4,c5,c6,c7,c8])
def cB.gen {v:AV} {a:Rat} (h:cB v a):∃c1 c2 c3 c4,v= .agg [c1,c2,c3,c4]/\F4 c1 c2 c3 c4:=by
 obtain ⟨s1,w1,s2,w2,rfl,h1,h2⟩:=h;obtain ⟨l1,u1⟩:=h1.aw;obtain ⟨l2,u2⟩:=h2.aw;refine ⟨_,_,_,_,rfl,fun n hp=>?_,lB u1 u2,fun hp ct id a b c d=>kL u1 u2 hp ct id a b c d,fun ct=>by simp only [go_sem,yb,aH,u1.pu,u1.one,u2.pu,u2.one],rfl,u1.one,rfl,u2.one,by simp [aS,aJ,u1.pu,u2.pu],fun _ _=>rfl,fun n _=>u1.ai n,fun _ _=>rfl,fun n _=>u2.ai n⟩;exact bk _ _ (by simp only [go_sem,u1.ai,u2.ai])
def lS.gen {v:AV} {a b:Rat} (h:lS v a b):∃c1 c2 c3 c4 c5 c6 c7 c8,v= .agg [c1,c2,c3,c4,c5,c6,c7,c8]/\F8 c1 c2 c3 c4 c5 c6 c7 c8:=by
 obtain ⟨s1,w1,s2,w2,s3,w3,s4,w4,rfl,h1,h2,h3,h4⟩:=h;obtain ⟨l1,u1⟩:=h1.aw;obtain ⟨l2,u2⟩:=h2.aw;obtain ⟨l3,u3⟩:=h3.aw;obtain ⟨l4,u4⟩:=h4.aw;refine ⟨_,_,_,_,_,_,_,_,rfl,fun n hp=>?_,MN u1 u2 u3 u4,fun hp ct id a b c d e f g h=>MM u1 u2 u3 u4 hp ct id a b c d e f g h,fun ct=>by simp only [go_sem,yb,aH,u1.pu,u1.one,u2.pu,u2.one,u3.pu,u3.one,u4.pu,u4.one]⟩;exact bk _ _ (by simp only [go_sem,u1.ai,u2.ai,u3.ai,u4.ai])
def Rn {a b:Int}:bm [a,b]=0↔a=0/\b=0:=by
 simp only [bm]
 grind
noncomputable def zo (x y s:List Nat):Int:=bm [bm [aX x,aX y],jg s 0]
def aai {x y s:List Nat} (h:zo x y s=0):aX x=0/\aX y=0/\aX s=0/\0<=bZ (aG s).num:=by
 obtain ⟨h1,h2⟩:=Rn.1 h;obtain ⟨h3,h4⟩:=Rn.1 h1;obtain ⟨h5,h6⟩:=Rj h2
 grind
section
variable {P:aK} {L:Lib}
def nat_eq {s:List Nat} (h:aX s=0):cI s [48]=decide (aG s=0):=by
 have:=ac8 (aG s)
 rwa [<-(sK h).1] at this
def m63 (h:Sp P L) {x y s:List Nat} {w:AV} {hh:Rat} (hs:aX s=0) (hw:cB w hh) {K:Nat} (kh:Hq K hh) (hK:K<=1000000000):ae P L 63 [iE x y s,w] (.bool (rh (aG s) hh)):=by
 have e1:=m68 h x y s;rw [nat_eq hs] at e1;obtain ⟨r,e2,hr⟩:=zN h hs;have e3:=m71 h.toFr' hw hr (kh.mono (show K<=K+2400 by omega)) ((jo hs (yD 2400)).mono (show 2400<=K+2400 by omega)) (by omega);obtain ⟨s1,w1,s2,w2,rfl,h1,h2⟩:=hw;obtain ⟨s3,w3,s4,w4,rfl,h3,h4⟩:=hr;obtain ⟨l1,u1⟩:=h1.aw;obtain ⟨l2,u2⟩:=h2.aw;obtain ⟨l3,u3⟩:=h3.aw;obtain ⟨l4,u4⟩:=h4.aw;unfold rh;unfold ae at e1 e2 e3 ⊢;rw [av h.Oc];by_cases h0:aG s=0
 ·rw [yV h0] at e1 ⊢;simp only [go_sem,ya,yb,JW,bk,aH,jt,u1.pu,u1.one,u2.pu,u2.one,e1,yay]
 ·rw [yM h0] at e1 ⊢;by_cases hb:hh<aG s
  ·have:=(LB _ _).2 hb
   rw [yV hb];simp only [go_sem,ya,yb,JW,bk,aH,jt,u1.pu,u1.ai,u1.one,u2.pu,u2.ai,u2.one,u3.ai,u4.ai,e1,lm,bg,yd,D4,e2,bE,e3,this,yq,vD]
  ·have:¬zK hh (aG s)<0:=fun e=>hb ((LB _ _).1 e)
   rw [yM hb];simp only [go_sem,ya,yb,JW,bk,aH,jt,u1.pu,u1.ai,u1.one,u2.pu,u2.ai,u2.one,u3.ai,u4.ai,e1,lm,bg,yd,D4,e2,bE,e3,this,yp,Bool.or_self]
def m64 (h:Sp P L) {dx dy s x y:List Nat} {w:AV} {hh:Rat} (FG:aX dx=0) (hdy:aX dy=0) (hs:aX s=0) (hx:aX x=0) (hy:aX y=0) (hw:cB w hh) {K:Nat} (kh:Hq K hh) (hK:K<=100000000):
  ∃r,ae P L 64 [iE dx dy s,w,fZ x y] r/\lS r (jN (aG s) hh*aG x+hh*aG dx) (jN (aG s) hh*aG y+hh*aG dy):=by
 have e1:=m68 h dx dy s;rw [nat_eq hs] at e1;have kx:=(jo hx (yD 2400));have ky:=(jo hy (yD 2400));have kdx:=(jo FG (yD 2400));have kdy:=(jo hdy (yD 2400));have ks:=(jo hs (yD 2400));obtain ⟨M,hM⟩:∃M,M=2*K+8000:=⟨_,rfl⟩;obtain ⟨p,e2,hp⟩:=GR h hx hy;obtain ⟨d,e3,hd⟩:=GR h FG hdy;obtain ⟨d2,e4,dR⟩:=Kx h hd hw (kdx.mono (show 2400<=M by omega)) (kdy.mono (by omega)) (kh.mono (by omega)) (by omega);have Wo:=Qk ks kh;have sum:∀{q:AV},lS q (jN (aG s) hh*aG x) (jN (aG s) hh*aG y)->∃r,ae P L 112 [q,d2] r/\lS r (jN (aG s) hh*aG x+hh*aG dx) (jN (aG s) hh*aG y+hh*aG dy):=fun {q} hq=>by
  obtain ⟨r,e,hr⟩:=NW h hq dR ((Wo.mul kx).mono (show 2400+K+3+2400<=M by omega)) ((Wo.mul ky).mono (by omega)) ((kdx.mul kh).mono (by omega)) ((kdy.mul kh).mono (by omega)) (by omega);rw [vA (aG dx),vA (aG dy)] at hr;exact ⟨r,e,hr⟩
 by_cases h0:aG s=0
 ·rw [yV h0] at e1;have ij:jN (aG s) hh=1:=by unfold jN;rw [yJ h0]
  obtain ⟨r,e5,hr⟩:=sum (q:=p) (by rw [ij,uz,uz];exact hp)
  refine ⟨r,?_,hr⟩;obtain ⟨w1,w2,w3,w4,rfl,gw⟩:=hw.gen;obtain ⟨p1,p2,p3,p4,p5,p6,p7,p8,rfl,gp⟩:=hp.gen;obtain ⟨d1,d2',d3,d4,d5,d6,d7,d8,rfl,gd⟩:=hd.gen;obtain ⟨f1,f2,f3,f4,f5,f6,f7,f8,rfl,gf⟩:=dR.gen;obtain ⟨r1,r2,r3,r4,r5,r6,r7,r8,rfl,gr⟩:=hr.gen;unfold ae at e1 e2 e3 e4 e5 ⊢;rw [av h.Pg];simp only [go_sem,ya,yb,OD,bk,aH,fa,jt,lm,A9,bg,yd,gw.bx,gw.ai,gp.ai,gd.ai,gf.ai,e1,e2,e3,e4,e5,yK,bE,gp.st,gr.st,db,de,yj,gr.dn]
 ·rw [yM h0] at e1;have ij:jN (aG s) hh=1-hh/aG s:=by unfold jN;rw [yz h0]
  obtain ⟨o,e6,ho⟩:=Ds h.toFr' (z:=1) (by decide) (by decide);obtain ⟨f,e7,hf⟩:=zN h hs;obtain ⟨g,e8,hg⟩:=m70 h.toFr' hw hf h0 (kh.mono (show K<=M by omega)) (ks.mono (by omega)) (by omega);have k1:Hq M ((1:Int):Rat):=rM.mono (by omega);obtain ⟨i,e9,hi⟩:=Km h.toFr' ho hg k1 ((kh.div ks).mono (by omega)) (by omega);rw [show ((1:Int):Rat)-hh/aG s=jN (aG s) hh from ij.symm] at hi;obtain ⟨q,eA,hq⟩:=Kx h hp hi (kx.mono (show 2400<=M by omega)) (ky.mono (by omega)) (Wo.mono (by omega)) (by omega);rw [vA (aG x),vA (aG y)] at hq;obtain ⟨r,e5,hr⟩:=sum hq;refine ⟨r,?_,hr⟩;obtain ⟨w1,w2,w3,w4,rfl,gw⟩:=hw.gen;obtain ⟨p1,p2,p3,p4,p5,p6,p7,p8,rfl,gp⟩:=hp.gen;obtain ⟨d1,d2',d3,d4,d5,d6,d7,d8,rfl,gd⟩:=hd.gen;obtain ⟨f1,f2,f3,f4,f5,f6,f7,f8,rfl,gf⟩:=dR.gen;obtain ⟨r1,r2,r3,r4,r5,r6,r7,r8,rfl,gr⟩:=hr.gen;obtain ⟨q1,q2,q3,q4,q5,q6,q7,q8,rfl,gq⟩:=hq.gen
  obtain ⟨o1,o2,o3,o4,rfl,go⟩:=ho.gen;obtain ⟨x1,x2,x3,x4,rfl,gx⟩:=hf.gen;obtain ⟨y1,y2,y3,y4,rfl,gy⟩:=hg.gen;obtain ⟨z1,z2,z3,z4,rfl,gz⟩:=hi.gen;unfold ae at e1 e2 e3 e4 e5 e6 e7 e8 e9 eA ⊢;rw [av h.Pg];simp only [go_sem,ya,yb,OD,bk,aH,fa,jt,lm,A9,bg,yd,D4,gw.bx,gw.ai,gp.ai,gd.ai,gf.ai,go.ai,gx.ai,gy.ai,gz.ai,gq.ai,e1,e2,e3,e4,e5,e6,e7,e8,e9,eA,yI,bE,gp.st,gq.st,gr.st,db,de,yj,gr.dn]
end
end
end VE
