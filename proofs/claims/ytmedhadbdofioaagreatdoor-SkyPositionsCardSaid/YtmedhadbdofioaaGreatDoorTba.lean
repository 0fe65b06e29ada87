import Derived.Test.YtmedhadbdofioaaGreatDoorTaz
import Derived.Test.YtmedhadbdofioaaGreatDoorTau
import Derived.Test.YtmedhadbdofioaaGreatDoorTax
import Derived.Test.YtmedhadbdofioaaGreatDoorTap
import Derived.Test.YtmedhadbdofioaaGreatDoorTal
set_option linter.all false
set_option maxRecDepth 100000
open Bool renaming false_and→wr,false_eq_true→yD,false_or→vl,not_false→yF,not_true→yH,true_and→wA,true_eq_false→tQ,true_or→uO
open Int renaming gcd→xZ,lt_or_le→ybg,natAbs_ediv_of_dvd→vJ,natAbs_natCast→wK,neg_neg→yaV
open Int.ofNat renaming inj→tP
open List renaming append_nil→wc,drop→xm,drop_eq_getElem_cons→yL,drop_eq_nil_of_le→y8,drop_zero→yj,eq_nil_of_length_eq_zero→yJ,getElem_cons_zero→tc,getElem_mem→vM,length_cons→yr,length_drop→xS,length_map→xu,length_nil→yE,length_take→yT,map_append→xC,map_cons→yU,map_nil→xU,nil_append→wa,take_length→wo
open Nat renaming ble→yG,ble_eq_true_of_le→yv,eq_zero_or_pos→xo,gcd→wg,le_of_ble_eq_true→yy,le_refl→yC,le_trans→xj,lt_of_lt_of_le→yN,mul_one→yh,pow_le_pow_left→uH,pow_le_pow_right→xP,reduceAdd→yb,reduceEqDiff→ya,reduceLT→yt,reduceLeDiff→ye,reduceMul→xQ,zero_add→yd
open Rat renaming divInt→xT,not_le→ybu,num_eq_zero→yaq,zero_add→ybh
namespace VE
section
open Go (IntKind)
def Nh {n:Int} {d:Nat} (h:n<0):TT n d=45::TT (-n) d:=by
 have e:bh (-n)=aw n.natAbs:=by
  rw [<-nB,yB (show ¬-n<0 by omega),wa,show (-n).natAbs=n.natAbs by omega]
 unfold TT;rw [mR h,e];rfl
def aqt {n:Int} {d:Nat} (h:¬n<0):∃b u,TT n d=b::u/\48<=b:=by
 obtain ⟨b,r,hb,h1,_⟩:=Ef n.natAbs;refine ⟨b,r++(if d=1 then [] else 47::aw d),?_,h1⟩;unfold TT;rw [<-nB,yB h,wa,hb];rfl
def dl (a b:AV) (r:List AV):dO 2 true (a::b::r)=some (.agg [a,b]):=rfl
def aqu (k:Nat):2^k<=1000000000^k:=uH (by decide) k
def Bd.r {k:Nat} {z:Int} (h:Bd k z):z.natAbs<1000000000^k:=yN h (aqu k)
def Ji (r:Rat):RT r=TT r.num r.den:=rfl
def abW {n d:Int} (hd:0<d):RT (xT n d)=oY n d:=by
 obtain ⟨h1,h2⟩:=LA (a:=n) hd;rw [ap7 hd,Ji,h1]
 congr 1
 exact tP (show ((xT n d).den:Int)=((dC n d).toNat:Int) by rw [h2];have:=H7 (a:=n) hd;unfold dC at this ⊢;omega)
structure Rm (P:aG) (L:Lib):Prop extends Rb P L where
 awE:Has P L 263 dH
 O1:Has P L 273 C7
 awF:Has P L 284 Ub
 awG:Has P L 285 On
 awH:Has P L 286 Oo
 FC:Has P L 287 JC
 qF:Has P L 301 zN
structure Rl (P:aG) (L:Lib):Prop extends Rm P L where
 awI:Has P L 269 Jz
structure Rp (P:aG) (L:Lib):Prop extends Ras P L,Rm P L
structure Rn (P:aG) (L:Lib):Prop extends Ra P L,Rp P L
structure Rx (P:aG) (L:Lib):Prop extends Rn P L,Rl P L where
 awJ:Has P L 266 TY
 awK:Has P L 283 Ua
section
variable {P:aG} {L:Lib}
def Tp (h:Rm P L) {v w:AV} {a b:List Int} (hv:br v a) (hw:br w b) (ha:dg a) (hb:dg b) (na:nz a) (nb:nz b) (la:a.length<=8000000000) (lb:b.length<=8000000000) (h0:0<dv b):
  ∃q r lq lr,ae P L 289 [v,w] (.ap [q,r])/\br q lq/\br r lr/\dg lq/\nz lq/\dg lr/\nz lr/\dv lq=dv a/dv b/\dv lr=dv a%dv b:=
 afi h.Ka h.ll h.nV h.pf h.cR h.qF hv hw ha hb na nb la lb h0
def as5 (h:Rm P L) {x y:AV} {a b:List Int} {n d:Int} {K:Nat} (hK:K<=8000000000) (hx:br x a) (ha:dg a) (na:nz a) (va:dv a=n.natAbs) (hy:br y b) (hb:dg b) (nb:nz b) (vb:dv b=d.natAbs) (kn:Bd K n) (kd:Bd K d) (hd:0<d) {tm:Env} (t2:af tm 2= .ptr 0 0) (t3:af tm 3= .ptr 1 0):
  fJ [.t 4] (D P L (ax (ax nM.body)) ⟨tm,[(1,.cells true true true 2 [.bool (decide (d<0)),y]),(0,.cells true true true 2 [.bool (decide (n<0)),x])],2,0⟩)=some (.str (RT (xT n d))):=by
 rw [abW hd];have la:=xj (ix ha na (by rw [va];exact kn.r)) hK
 have lb:=xj (ix hb nb (by rw [vb];exact kd.r)) hK
 obtain ⟨g,lg,e1,hg,Xo,ng,vg⟩:=afj h.agq h.Ka h.ll h.nV h.pf h.cR h.qF hx hy ha hb na nb la lb;rw [va,vb,show wg n.natAbs d.natAbs=xZ n d from rfl] at vg;have KB:=Ip (a:=n) hd;have awL:xZ n d<=d.natAbs:=Int.gcd_le_natAbs_right n (by omega);have lg1:lg.length<=8000000000:=xj (ix Xo ng (by rw [vg];exact Nat.lt_of_le_of_lt awL kd.r)) hK
 obtain ⟨p,p',lp,lp',e2,hp,ao,dp,np,dp',np',vp,vp'⟩:=Tp h hx hg ha Xo na ng la lg1 (by omega);obtain ⟨q,q',lq,lq',e3,hq,cd,dq,nq,dq',nq',vq,vq'⟩:=Tp h hy hg hb Xo nb ng lb lg1 (by omega);rw [va,vg] at vp;rw [vb,vg] at vq;have hrn:(dt n d).natAbs=n.natAbs/xZ n d:=by unfold dt;rw [vJ (Int.gcd_dvd_left n d)];rfl
 have lC:(dC n d).natAbs=d.natAbs/xZ n d:=by unfold dC;rw [vJ (Int.gcd_dvd_right n d)];rfl
 have hdp:=H7 (a:=n) hd;rw [<-hrn] at vp;rw [<-lC] at vq;have aA7:=ady n d;have Gc:ck (decide (n<0)) (dv lp)=dt n d:=by
  rw [vp];unfold ck;by_cases h0:n<0
  ·have:¬0<=dt n d:=fun h1=>by have:=Int.mul_nonneg (Int.le_of_lt KB) h1;omega
   simp only [h0,yq,y5];omega
  ·have:¬dt n d<0:=fun h1=>by have:=Int.mul_neg_of_pos_of_neg KB h1;omega
   simp only [h0,yo,yD,yO];omega
 have kn':Bd K (dt n d):=kn.le (aaH n d);have Vu:Bd K (dC n d):=kd.le (aaI n d);have lp1:lp.length<=8000000000:=xj (ix dp np (by rw [vp];exact kn'.r)) hK
 have Lb:lq.length<=8000000000:=xj (ix dq nq (by rw [vq];exact Vu.r)) hK
 obtain ⟨s,e4,hs⟩:=nS h.ie h.cR (decide (n<0)) hp dp (by omega);rw [Gc] at hs;obtain ⟨e5,l5⟩:=OZ (K:=K) h.O0 h.nO (by omega) hs kn'.r;obtain ⟨u,e6,hu⟩:=nS h.ie h.cR false hq dq (by omega);have Ao:ck false (dv lq)=dC n d:=by rw [vq];unfold ck;simp only [yD,yO];omega
 rw [Ao] at hu;obtain ⟨e7,l7⟩:=OZ (K:=K) h.O0 h.nO (by omega) hu Vu.r;obtain ⟨sw,sl,rfl,gF,_,_,_⟩:=hs;obtain ⟨uw,ul,rfl,huw,_,_,_⟩:=hu;have aAS:0<lq.length:=by
  rcases xo lq.length with e | e
  ·rw [yJ e] at vq;simp [dv] at vq;omega
  ·exact e
 by_cases Qh:lq.length=1
 ·obtain ⟨z,rfl⟩:∃z,lq=[z]:=by
   cases lq with
   | nil=>simp at Qh
   | cons z r=>cases r with
    | nil=>exact ⟨z,rfl⟩
    | cons y r=>simp at Qh
  have Lj:z=dC n d:=by simp [dv] at vq;omega
  have e8:=hq.bk (i:=0) (by simp);simp only [tc] at e8;by_cases h1:dC n d=1
  ·have hT:oY n d=bh (dt n d):=by unfold oY;rw [yI h1]
   rw [hT];simp only [go_sem,ya,nM,ax,t2,t3,hx.ah,hy.ah,aV,yd,bU,show ¬d<0 by omega,yo,e1,hg.ah,hg.shut,e2,hp.ah,hp.bT,ao.bT,e3,hq.len,hq.bT,cd.bT,e4,gF.ah,aZ,bl,e5,yr,yE,show ((1:Nat):Int)=(1:Int) from rfl,yq,e8,Lj,h1]
  ·have hT:oY n d=(bh (dt n d)++[47])++bh (dC n d):=by unfold oY;rw [yB h1]
   rw [hT]
   simp only [go_sem,ya,nM,ax,t2,t3,hx.ah,hy.ah,aV,yd,bU,show ¬d<0 by omega,yo,e1,hg.ah,hg.shut,e2,hp.ah,hp.bT,ao.bT,e3,hq.len,hq.ah,hq.bT,cd.bT,e4,gF.ah,aZ,bl,e5,yr,yE,show ((1:Nat):Int)=(1:Int) from rfl,yq,e8,Lj,h1,gO (a:=bh (dt n d)) (b:=[47]) (by simp;omega),e6,huw.ah,e7,gO (a:=bh (dt n d)++[47]) (b:=bh (dC n d)) (by simp;omega)]
 ·have h1:¬dC n d=1:=fun h1=>Qh (by
   have h2:lq.length<=1:=Sr dq nq (by rw [vq,h1];decide)
   omega)
  have hT:oY n d=(bh (dt n d)++[47])++bh (dC n d):=by unfold oY;rw [yB h1]
  rw [hT]
  simp only [go_sem,ya,nM,ax,t2,t3,hx.ah,hy.ah,aV,yd,bU,show ¬d<0 by omega,yo,e1,hg.ah,hg.shut,e2,hp.ah,hp.bT,ao.bT,e3,hq.len,hq.ah,hq.bT,cd.bT,e4,gF.ah,aZ,bl,e5,show ¬(lq.length:Int)=1 by omega,gO (a:=bh (dt n d)) (b:=[47]) (by simp;omega),e6,huw.ah,e7,gO (a:=bh (dt n d)++[47]) (b:=bh (dC n d)) (by simp;omega)]
def ai7 (n d:Int):xT (-n) (-d)=xT n d:=by rw [Rat.divInt_neg',yaV]
def Tq (h:Rm P L) {v w:AV} {n d:Int} {K:Nat} (hK:K<=8000000000) (hv:iW v n) (hw:iW w d) (kn:Bd K n) (kd:Bd K d) (hd:d≠0):ae P L 280 [v,w] (.str (RT (xT n d))):=by
 have fin:∀{x y:AV} {a b:List Int} {n' d':Int},br x a->dg a->nz a->dv a=n'.natAbs->br y b->dg b->nz b->dv b=d'.natAbs->Bd K n'->Bd K d'->0<d'->xT n' d'=xT n d->∀tm,af tm 2= .ptr 0 0->af tm 3= .ptr 1 0->
   D P L (.seq (bC nM.body) (bC (ax nM.body))) ⟨[(0,v),(1,w)],[],0,0⟩=some (.normal,⟨tm,[(1,.cells true true true 2 [.bool (decide (d'<0)),y]),(0,.cells true true true 2 [.bool (decide (n'<0)),x])],2,0⟩)->ae P L 280 [v,w] (.str (RT (xT n d))):=fun {x y a b n' d'} hx ha na va hy hb nb vb kn kd hd hq tm t2 t3 e=>by
  unfold ae;rw [av h.aww];show fJ [.t 4] (D P L (.seq (bC nM.body) (.seq (bC (ax nM.body)) (ax (ax nM.body)))) ⟨[(0,v),(1,w)],[],0,0⟩)=_
  rw [Cr,e,fu,<-hq];exact as5 h hK hx ha na va hy hb nb vb kn kd hd t2 t3
 have eL:=hv;have AA:=hw;obtain ⟨x,a,rfl,hx,ha,na,va⟩:=hv;obtain ⟨y,b,rfl,hy,hb,nb,vb⟩:=hw;by_cases h0:d<0
 ·obtain ⟨r,e1,hr⟩:=afZ (K:=K) h.agt h.ie h.cR (by omega) eL kn.r;obtain ⟨s,e2,hs⟩:=afZ (K:=K) h.agt h.ie h.cR (by omega) AA kd.r;obtain ⟨x',a',rfl,DQ,Dw,na',va'⟩:=hr;obtain ⟨y',b',rfl,sL,cY,nb',vb'⟩:=hs;simp only [h0,yq] at e2
  refine fin DQ Dw na' va' sL cY nb' vb' kn.neg kd.neg (by omega) (ai7 n d) _ ?_ ?_ (by
   simp only [go_sem,ya,yb,nM,bC,ax,aB,hx.pu,hx.ah,hx.one,hy.pu,hy.ah,hy.one,DQ.pu,DQ.one,sL.pu,sL.one,aV,yd,h0,yq,dl,aZ,e1,e2,bl,de]<;>rfl)<;>simp only [go_sem,ya]
 ·refine fin hx ha na va hy hb nb vb kn kd (by omega) rfl _ ?_ ?_ (by simp only [go_sem,ya,yb,nM,bC,ax,aB,hx.pu,hx.one,hy.pu,hy.one,aV,yd,h0,yo]<;>rfl)<;>simp only [go_sem,ya]
end
end
section
open Go (IntKind)
def auF (z:Int) (m:Nat) (h:z.natAbs=m):(z.tdiv 1000000000).natAbs=m/1000000000/\(if z.tmod 1000000000<0 then 0-z.tmod 1000000000 else z.tmod 1000000000)=((m%1000000000:Nat):Int)/\(z<0->z.tdiv 1000000000<=0)/\(0<=z->0<=z.tdiv 1000000000):=by
 rcases ybg z 0 with h0 | h0
 ·obtain ⟨n,rfl⟩:∃n:Nat,z= -(n:Int):=⟨z.natAbs,by omega⟩;rw [Int.neg_tdiv,Int.neg_tmod,Int.tdiv_eq_ediv_of_nonneg (by omega),Int.tmod_eq_emod_of_nonneg (by omega)]
  grind
 ·grind
section
variable {P:aG} {L:Lib}
def as6 {neg:Bool} {N:Nat} (hN:N<=9223372036854775808):
  ∀k s,(∃(i:Nat) (z:Int) (out:List Int),z.natAbs=k/\out.length=i/\dg out/\dv out+1000000000^i*z.natAbs=N/\(neg=true->z<=0)/\(neg=false->0<=z)/\i<=3/\
    ((i=0/\bD [0,2,3,4] s=⟨[(0,aa z),(2,.ptr 0 0),(3,.ab),(4,.bool neg)],[(0,.cells true true true 2 [.bool false,.ab])],1,0⟩)\/
    (0<i/\bD [0,2,3,4] s=⟨[(0,aa z),(2,.ptr 0 0),(3,.an 1 0 i),(4,.bool neg)],[(1,.cells true true false 1 (out.map aa)),(0,.cells true true true 2 [.bool false,.ab])],2,0⟩)))->
   ∃ex s',D P L (.loop [0,2,3,4] ru) s=some (ex,s')/\∃tm i out,ex= .exit 0/\out.length=i/\i<=3/\dg out/\dv out=N/\af tm 2= .ptr 0 0/\af tm 4= .bool neg/\
    ((i=0/\af tm 3= .ab/\s'=⟨tm,[(0,.cells true true true 2 [.bool false,.ab])],1,0⟩)\/(0<i/\af tm 3= .an 1 0 i/\s'=⟨tm,[(1,.cells true true false 1 (out.map aa)),(0,.cells true true true 2 [.bool false,.ab])],2,0⟩)):=by
 refine cg (I:=fun k s=>∃(i:Nat) (z:Int) (out:List Int),z.natAbs=k/\out.length=i/\dg out/\dv out+1000000000^i*z.natAbs=N/\(neg=true->z<=0)/\(neg=false->0<=z)/\i<=3/\
    ((i=0/\s=⟨[(0,aa z),(2,.ptr 0 0),(3,.ab),(4,.bool neg)],[(0,.cells true true true 2 [.bool false,.ab])],1,0⟩)\/
    (0<i/\s=⟨[(0,aa z),(2,.ptr 0 0),(3,.an 1 0 i),(4,.bool neg)],[(1,.cells true true false 1 (out.map aa)),(0,.cells true true true 2 [.bool false,.ab])],2,0⟩)))
  (Q:=fun ex s'=>∃tm i out,ex= .exit 0/\out.length=i/\i<=3/\dg out/\dv out=N/\af tm 2= .ptr 0 0/\af tm 4= .bool neg/\
    ((i=0/\af tm 3= .ab/\s'=⟨tm,[(0,.cells true true true 2 [.bool false,.ab])],1,0⟩)\/(0<i/\af tm 3= .an 1 0 i/\s'=⟨tm,[(1,.cells true true false 1 (out.map aa)),(0,.cells true true true 2 [.bool false,.ab])],2,0⟩))) ?_
 rintro k s ⟨i,z,out,rfl,hlen,hd,aQ,gV,lB,hi3,hs⟩;by_cases hz:z=0
 ·right
  subst hz;have hv:dv out=N:=by simpa using aQ
  rcases hs with ⟨h0,rfl⟩ | ⟨h0,rfl⟩
  ·simp only [go_sem,ru,yq,yH];exact ⟨_,_,rfl,by simp,_,i,out,rfl,hlen,hi3,hd,hv,by simp only [go_sem,ya],by simp only [go_sem,ya],.inl ⟨h0,by simp only [go_sem,ya],rfl⟩⟩
  ·simp only [go_sem,ru,yq,yH];exact ⟨_,_,rfl,by simp,_,i,out,rfl,hlen,hi3,hd,hv,by simp only [go_sem,ya],by simp only [go_sem,ya],.inr ⟨h0,by simp only [go_sem,ya],rfl⟩⟩
 ·left
  obtain ⟨m,hm⟩:∃m,z.natAbs=m:=⟨_,rfl⟩;have K9:0<m:=by omega
  rw [hm] at aQ;have hi2:i<3:=by
   rcases Nat.lt_or_ge i 3 with h | h
   ·exact h
   ·have e3:i=3:=by omega
    subst e3
    have:=Nat.mul_le_mul_left (1000000000^3) K9
    omega
  have hmN:m<=9223372036854775808:=by
   have:=Nat.le_mul_of_pos_left m (Nat.pow_pos (n:=i) (show 0<1000000000 by decide))
   omega
  obtain ⟨d1,d2,d3,d4⟩:=auF z m hm;have eO:=Nat.mod_add_div m 1000000000;have qD:dg (out++[((m%1000000000:Nat):Int)]):=hJ.2 ⟨hd,jF.2 (by omega)⟩;have NJ:dv (out++[((m%1000000000:Nat):Int)])+1000000000^(i+1)*(m/1000000000)=N:=by
   rw [mh,hlen,<-aQ,Nat.pow_succ,Nat.mul_assoc];have e:1000000000^i*m=1000000000^i*(m%1000000000)+1000000000^i*(1000000000*(m/1000000000)):=by rw [<-Nat.mul_add,eO]
   rw [e];simp only [dv,Int.toNat_natCast,Nat.mul_zero,Nat.add_zero];omega
  have sG:IntKind.wrap .i64 (z.tdiv 1000000000)=z.tdiv 1000000000:=wrap64 (by omega) (by omega);have lV: -9223372036854775808<=z.tmod 1000000000/\z.tmod 1000000000<1000000000:=by
   have h1:(z.tmod 1000000000).natAbs<1000000000:=by
    split at d2<;>omega
   omega
  have zE:(neg=true->z.tdiv 1000000000<=0)/\(neg=false->0<=z.tdiv 1000000000):=⟨fun h=>d3 (by have:=gV h;omega),fun h=>d4 (lB h)⟩;have bi:(z.tdiv 1000000000).natAbs<m:=by rw [d1];omega
  obtain ⟨z',fQ⟩:∃z',z.tdiv 1000000000=z':=⟨_,rfl⟩;rw [fQ] at d1 d3 d4 sG zE bi;have cX:dv (out++[((m%1000000000:Nat):Int)])+1000000000^(i+1)*z'.natAbs=N:=by rw [d1];exact NJ
  generalize m%1000000000=r at*
  by_cases fP:z.tmod 1000000000<0
  ·rw [yI fP] at d2;rcases hs with ⟨h0,rfl⟩ | ⟨h0,rfl⟩
   ·subst h0;have jf:out=[]:=yJ hlen;subst jf
    simp only [go_sem,ya,yb,xQ,yt,ye,yh,ru,yo,hz,yF,er _ _ _ (show (1000000000:Int)≠0 by decide),eU _ _ _ (show (1000000000:Int)≠0 by decide),fP,d2,wrapN (n:=r) (by omega),kL,fQ,sG];refine ⟨_,z'.natAbs,rfl,by omega,1,z',[]++[(r:Int)],rfl,rfl,qD,cX,zE.1,zE.2,by omega,.inr ⟨by omega,?_⟩⟩;simp only [go_sem,ya,yb,ay]<;>rfl
   ·simp only [go_sem,ya,yb,ye,yh,ru,yo,hz,yF,er _ _ _ (show (1000000000:Int)≠0 by decide),fP,d2,wrapN (n:=r) (by omega)]
    rw [ki (ex:=false) (pu:=true) (cs:=out.map aa) (by simp only [go_sem,ya]) (by rw [xu,hlen,yh]) (by omega) (by omega) (by decide) (by simp only [go_sem])];simp only [go_sem,ya,yb,eU _ _ _ (show (1000000000:Int)≠0 by decide),fQ,sG];refine ⟨_,z'.natAbs,rfl,by omega,i+1,z',out++[(r:Int)],rfl,by simp [hlen],qD,cX,zE.1,zE.2,by omega,.inr ⟨by omega,?_⟩⟩;rw [xC];simp only [go_sem,ya,yb,ay]<;>rfl
  ·rw [yB fP] at d2;rcases hs with ⟨h0,rfl⟩ | ⟨h0,rfl⟩
   ·subst h0;have jf:out=[]:=yJ hlen;subst jf;simp only [go_sem,ya,yb,xQ,yt,ye,yh,ru,yo,hz,yF,er _ _ _ (show (1000000000:Int)≠0 by decide),eU _ _ _ (show (1000000000:Int)≠0 by decide),d2,show ¬((r:Nat):Int)<0 by omega,kL,fQ,sG];refine ⟨_,z'.natAbs,rfl,by omega,1,z',[]++[(r:Int)],rfl,rfl,qD,cX,zE.1,zE.2,by omega,.inr ⟨by omega,?_⟩⟩;simp only [go_sem,ya,yb,ay]<;>rfl
   ·simp only [go_sem,ya,yb,ye,yh,ru,yo,hz,yF,er _ _ _ (show (1000000000:Int)≠0 by decide),d2,show ¬((r:Nat):Int)<0 by omega]
    rw [ki (ex:=false) (pu:=true) (cs:=out.map aa) (by simp only [go_sem,ya]) (by rw [xu,hlen,yh]) (by omega) (by omega) (by decide) (by simp only [go_sem])];simp only [go_sem,ya,yb,eU _ _ _ (show (1000000000:Int)≠0 by decide),fQ,sG];refine ⟨_,z'.natAbs,rfl,by omega,i+1,z',out++[(r:Int)],rfl,by simp [hlen],qD,cX,zE.1,zE.2,by omega,.inr ⟨by omega,?_⟩⟩;rw [xC];simp only [go_sem,ya,yb,ay]<;>rfl
def abX {n:Int} (h: -9223372036854775808<=n/\n<9223372036854775808):n.natAbs<=9223372036854775808:=by omega
def abY (n:Int):ck (decide (n<0)) n.natAbs=n:=by
 unfold ck
 grind
def auG (h:Rm P L) {n:Int} (hn: -9223372036854775808<=n/\n<9223372036854775808):∃r,ae P L 281 [aa n] r/\iW r n:=by
 have key:=fun s=>as6 (P:=P) (L:=L) (neg:=decide (n<0)) (abX hn) n.natAbs s
 unfold ae;rw [av h.agr];simp only [go_sem,ya,yb,Om,aB];generalize hq:D P L (.loop [0,2,3,4] ru) _=q;obtain ⟨ex,s,rfl,tm,i,out,rfl,hlen,hi,hd,aQ,t2,t4,CW⟩:=bP hq key (by
  refine ⟨0,n,[],rfl,rfl,rfl,by simp [dv],fun h=>by simp at h;omega,fun h=>by simp at h;omega,by omega,.inl ⟨rfl,?_⟩⟩
  simp only [go_sem,ya,yb,ay]<;>rfl)
 rcases CW with ⟨qV,t3,rfl⟩ | ⟨qV,t3,rfl⟩
 ·subst qV;have jf:out=[]:=yJ hlen;subst jf;obtain ⟨r,e,hr⟩:=nS h.ie h.cR (decide (n<0)) (show br .ab [] from pZ) hd (by simp);rw [aQ,abY] at hr;have bX:=hr;obtain ⟨w,l,rfl,hw,_,_,_⟩:=bX;refine ⟨_,?_,hr⟩;simp only [go_sem,ya,yb,ay,t2,t3,t4,e,hw.pu,hw.one,bl,de];rcases hw with ⟨rfl,_⟩ | ⟨e,rfl⟩<;>rfl
 ·have hI:=fm false out;rw [hlen] at hI;obtain ⟨r,e,hr⟩:=nS h.ie h.cR (decide (n<0)) hI hd (by omega);rw [aQ,abY] at hr;have bX:=hr;obtain ⟨w,l,rfl,hw,_,_,_⟩:=bX;refine ⟨_,?_,hr⟩
  simp only [go_sem,ya,yb,ay,t2,t3,t4,fun hp=>nC (hp:=hp) (k:=i) (sz:=1) (cs:=out.map aa) false (by simp [hlen]) (by decide),e,hw.pu,hw.one,bl,de];rcases hw with ⟨rfl,_⟩ | ⟨e,rfl⟩<;>rfl
def SV (n:Int):RT (n:Rat)=bh n:=by unfold RT;simp
def NK (h:Rm P L) (qG:Has P L 265 Fk) {n:Int} (hn: -9223372036854775808<=n/\n<9223372036854775808):ae P L 265 [aa n] (.str (RT (n:Rat))):=by
 obtain ⟨r,e,hr⟩:=auG h hn;obtain ⟨e2,_⟩:=OZ (K:=8) h.O0 h.nO (by omega) hr (by have:=abX hn;omega);rw [SV];obtain ⟨w,l,rfl,hw,_,_,_⟩:=hr;unfold ae at e e2 ⊢;rw [av qG];simp only [go_sem,ya,Fk,e,hw.ah,bl,aZ,e2]
def ES {K:Nat} {a:Rat} (h:Hq K a):(RT a).length<=2*K+3:=by
 have h1:=HS h.1;have h2:=HS h.2;rw [kM] at h2;unfold RT
 grind
def abZ {K:Nat} {z:Int} (h:Bd K z):(aw z.natAbs).length<=K+1:=by
 have:=HS (z:=(z.natAbs:Int)) (k:=K) (by unfold Bd at h ⊢;omega)
 rwa [kM] at this
def E4 (h:Rm P L) {a:Rat} {K:Nat} (ka:Hq K a) (hK:K<=8000000000):∃x y,ae P L 274 [.str (RT a)] (.ap [x,y])/\iW x a.num/\iW y (a.den:Int):=by
 have h1:=abZ ka.1;have h2:=abZ ka.2
 exact agy h.toRb (n:=a.num) (d:=a.den) (by omega) (by simpa using (by omega:(aw ((a.den:Int)).natAbs).length<=144000000000))
def afl (h:Rm P L) {n:Int} {d:Nat} (hl:(TT n d).length<=100000000000) (Xp:n=0->d=1):ae P L 262 [.str (TT n d)] (aa (cf n)):=by
 unfold ae;rw [av h.awu];by_cases h0:n<0
 ·have eK:=afk (n:=n) (d:=d) (by omega);rw [Nh h0] at eK ⊢;simp only [go_sem,ya,Jv,iF,eK,show (0:Int)<(((TT (-n) d).length+1:Nat):Int) by omega,De,yq];unfold cf;rw [yI h0]
 ·by_cases h1:n=0
  ·subst h1
   have:=Xp rfl
   subst this;rw [show TT 0 1=[48] by decide];simp only [go_sem,ya,Jv,iF,show cA [48] [48]=true from rfl];rfl
  ·have eK:=afk (n:=n) (d:=d) h1;obtain ⟨b,u,hb,ff⟩:=aqt (d:=d) h0;rw [hb] at eK ⊢;simp only [go_sem,ya,Jv,iF,eK,show (0:Int)<((u.length+1:Nat):Int) by omega,show mX 0 (.str (b::u))=some (.int .u8 (b:Nat)) from rfl,show ¬((b:Nat):Int)=45 by omega];unfold cf;rw [yB h0,yB h1]
def aiD {a:Rat} (h:a.num=0):a.den=1:=by simp_all
def Tt (h:Rm P L) {a:Rat} {K:Nat} (ka:Hq K a) (hK:K<=8000000000):ae P L 262 [.str (RT a)] (aa (cf a.num)):=
 afl h (by have:=ES ka;rw [Ji] at this;omega) aiD
def auH (h:Rp P L) {a:Rat} {K:Nat} (ka:Hq K a) (hK:K<=8000000000):ae P L 268 [.str (RT a)] (.str (RT (-a))):=by
 have e:=Tt h.toRm ka hK;have hl:=ES ka;have en:(-a).num= -a.num:=rfl;have ed:(-a).den=a.den:=rfl;rw [Ji] at hl e ⊢;rw [Ji,en,ed];generalize a.num=n at*
 generalize a.den=d at*
 unfold ae at e ⊢;rw [av h.awx];by_cases h0:n<0
 ·have es:cf n= -1:=by unfold cf;rw [yI h0]
  rw [es,Nh h0] at e;rw [Nh h0] at hl ⊢;have hc:iC (45::TT (-n) d) (some 1) (some ((TT (-n) d).length+1))=some (.str (TT (-n) d)):=by rw [lK (s:=45::TT (-n) d) (l:=1) (h:=(TT (-n) d).length+1) (by omega) (by simp)];simp
  simp only [go_sem,ya,Jy,e,show (-1:Int)<0 by decide,eV,fo,dQ,hc]
 ·by_cases h1:n=0
  ·subst h1;have es:cf 0=0:=rfl;rw [es] at e;simp only [go_sem,ya,Jy,e,show ¬(0:Int)<0 by decide,yq,Int.neg_zero]
  ·have es:cf n=1:=by unfold cf;rw [yB h0,yB h1]
   rw [es] at e
   have:TT (-n) d=45::TT n d:=by rw [Nh (by omega),yaV]
   rw [this]
   simp only [go_sem,ya,Jy,e,show ¬(1:Int)<0 by decide,show ¬(1:Int)=0 by decide,gO (a:=[45]) (b:=TT n d) (by simp;omega),List.cons_append,wa]
end
end
section
open Go (IntKind)
def ab0 (n:Int) (d:Nat):SN true n d= .ap [aa n,aa d,.bool true]:=rfl
def Jj {a b:Int} (ha:a.natAbs<1000000000) (hb:b.natAbs<1000000000):(a*b).natAbs<1000000000000000000:=by
 rw [Int.natAbs_mul];exact yN (Nat.mul_lt_mul'' ha hb) (by decide)
section
variable {P:aG} {L:Lib}
def afm (h:Rm P L) {a b:Int} (ha: -4000000000000000000<=a/\a<=4000000000000000000) (hb:0<b/\b<=4000000000000000000):ae P L 277 [aa a,aa b] (.str (RT (xT a b))):=by
 rw [abW hb.1];exact avx h.awv h.Uv h.nO ha hb
def NL (h:Rp P L) {a:Rat} {K:Nat} (ka:Hq K a) (hK:K<=8000000000):∃q:Bool,ae P L 276 [.str (RT a)] (SN q a.num a.den)/\(q=true->a.num.natAbs<1000000000/\a.den<1000000000):=
 avy h.awz h.zR h.zS (n:=a.num) (d:=a.den) (by have:=ES ka;rw [Ji] at this;omega)
def rF (h:Rn P L) {a b:Rat} {K M:Nat} (ka:Hq K a) (kb:Hq M b) (hK:K+M<=8000000000):ae P L 267 [.str (RT a),.str (RT b)] (.str (RT (a*b))):=by
 obtain ⟨q1,e1,b1⟩:=NL h.toRp ka (by omega);obtain ⟨q2,e2,b2⟩:=NL h.toRp kb (by omega);have awM:=D6 a b;by_cases hq:(q1=true/\q2=true)
 ·obtain ⟨rfl,rfl⟩:=hq;obtain ⟨b11,b12⟩:=b1 rfl;obtain ⟨b21,b22⟩:=b2 rfl;have p1:=Jj b11 b21;have p2:=Jj (a:=(a.den:Int)) (b:=(b.den:Int)) (by omega) (by omega);have e3:=afm h.toRm (a:=a.num*b.num) (b:=(a.den:Int)*b.den) (by omega) (by omega);rw [<-mul_eq] at e3;rw [ab0] at e1 e2;unfold ae at e1 e2 e3 ⊢;rw [av h.agv]
  simp only [go_sem,ya,Jx,e1,e2,wrap64 (n:=a.num*b.num) (by omega) (by omega),wrap64 (n:=(a.den:Int)*(b.den:Int)) (by omega) (by omega),e3]
 ·have cd:∃n1 d1 n2 d2,bO P L (D P L) 276 [.str (RT a)]=some (.ap [aa n1,aa d1,.bool q1])/\bO P L (D P L) 276 [.str (RT b)]=some (.ap [aa n2,aa d2,.bool q2]):=by
   unfold ae at e1 e2;cases q1<;>cases q2<;>exact ⟨_,_,_,_,e1,e2⟩
  obtain ⟨n1,d1,n2,d2,e1,e2⟩:=cd;obtain ⟨x,y,e3,hx,hy⟩:=E4 h.toRm ka (by omega);obtain ⟨z,w,e4,hz,hw⟩:=E4 h.toRm kb (by omega);have FD:max K M<=8000000000:=by omega
  obtain ⟨r,e5,hr⟩:=J9 (K:=max K M) h.Kb h.ll h.ie h.cR FD hx hz (ka.1.mono (by omega)).r (kb.1.mono (by omega)).r;obtain ⟨s,e6,hs⟩:=J9 (K:=max K M) h.Kb h.ll h.ie h.cR FD hy hw (ka.2.mono (by omega)).r (kb.2.mono (by omega)).r;have e7:=Tq h.toRm hK hr hs (ka.1.mul kb.1) (ka.2.mul kb.2) (by omega);rw [<-mul_eq] at e7;obtain ⟨xw,xl,rfl,dW,_,_,_⟩:=hx;obtain ⟨yw,yl,rfl,dX,_,_,_⟩:=hy;obtain ⟨zw,zl,rfl,oz,_,_,_⟩:=hz;obtain ⟨ww,wl,rfl,oA,_,_,_⟩:=hw;obtain ⟨fc,rl,rfl,n9,_,_,_⟩:=hr;obtain ⟨sw,sl,rfl,gF,_,_,_⟩:=hs;have hb:¬(q1=true/\q2=true):=hq;unfold ae at e3 e4 e5 e6 e7 ⊢;rw [av h.agv]
  cases q1 with
  | false=>
   simp only [go_sem,ya,yb,Jx,aB,e1,e2,e3,e4,dW.pu,dW.ah,dW.one,dX.pu,dX.ah,dX.one,oz.pu,oz.ah,oz.one,oA.pu,oA.ah,oA.one,n9.ah,gF.ah,aZ,bl,oC,de,dl,e5,e6,e7]
  | true=>
   cases q2 with
   | true=>exact absurd ⟨rfl,rfl⟩ hb
   | false=>
    simp only [go_sem,ya,yb,Jx,aB,e1,e2,e3,e4,dW.pu,dW.ah,dW.one,dX.pu,dX.ah,dX.one,oz.pu,oz.ah,oz.one,oA.pu,oA.ah,oA.one,n9.ah,gF.ah,aZ,bl,oC,de,dl,e5,e6,e7]
def NM (h:Rp P L) {a b:Rat} {K M:Nat} (ka:Hq K a) (kb:Hq M b) (hK:K+M+1<=8000000000):ae P L 264 [.str (RT a),.str (RT b)] (.str (RT (a+b))):=by
 obtain ⟨q1,e1,b1⟩:=NL h ka (by omega);obtain ⟨q2,e2,b2⟩:=NL h kb (by omega);have awM:=D6 a b;by_cases hq:(q1=true/\q2=true)
 ·obtain ⟨rfl,rfl⟩:=hq;obtain ⟨b11,b12⟩:=b1 rfl;obtain ⟨b21,b22⟩:=b2 rfl;have p1:=Jj (a:=a.num) (b:=(b.den:Int)) (by omega) (by omega);have p2:=Jj (a:=b.num) (b:=(a.den:Int)) (by omega) (by omega);have p3:=Jj (a:=(a.den:Int)) (b:=(b.den:Int)) (by omega) (by omega);have e3:=afm h.toRm (a:=a.num*b.den+b.num*a.den) (b:=(a.den:Int)*b.den) (by omega) (by omega);rw [<-add_eq] at e3;rw [ab0] at e1 e2;unfold ae at e1 e2 e3 ⊢;rw [av h.agu]
  simp only [go_sem,ya,Jw,e1,e2,wrap64 (n:=a.num*(b.den:Int)) (by omega) (by omega),wrap64 (n:=b.num*(a.den:Int)) (by omega) (by omega),wrap64 (n:=a.num*(b.den:Int)+b.num*(a.den:Int)) (by omega) (by omega),wrap64 (n:=(a.den:Int)*(b.den:Int)) (by omega) (by omega),e3]
 ·have cd:∃n1 d1 n2 d2,bO P L (D P L) 276 [.str (RT a)]=some (.ap [aa n1,aa d1,.bool q1])/\bO P L (D P L) 276 [.str (RT b)]=some (.ap [aa n2,aa d2,.bool q2]):=by
   unfold ae at e1 e2;cases q1<;>cases q2<;>exact ⟨_,_,_,_,e1,e2⟩
  obtain ⟨n1,d1,n2,d2,e1,e2⟩:=cd;obtain ⟨x,y,e3,hx,hy⟩:=E4 h.toRm ka (by omega);obtain ⟨z,w,e4,hz,hw⟩:=E4 h.toRm kb (by omega);have FD:max K M<=8000000000:=by omega
  obtain ⟨r,e5,hr⟩:=J9 (K:=max K M) h.Kb h.ll h.ie h.cR FD hx hw (ka.1.mono (by omega)).r (kb.2.mono (by omega)).r;obtain ⟨r2,Xq,fe⟩:=J9 (K:=max K M) h.Kb h.ll h.ie h.cR FD hz hy (kb.1.mono (by omega)).r (ka.2.mono (by omega)).r;obtain ⟨s,e6,hs⟩:=J9 (K:=max K M) h.Kb h.ll h.ie h.cR FD hy hw (ka.2.mono (by omega)).r (kb.2.mono (by omega)).r;have k1:Bd (K+M) (a.num*b.den):=ka.1.mul kb.2;have k2:Bd (K+M) (b.num*a.den):=(kb.1.mul ka.2).mono (by omega);obtain ⟨t,e8,ht⟩:=awm (K:=K+M) h.awA h.OX h.nV h.OY h.mK h.ie h.cR (by omega) hr fe k1.r k2.r;have e7:=Tq h.toRm hK ht hs (k1.UI k2) ((ka.2.mul kb.2).mono (by omega)) (by omega);rw [<-add_eq] at e7;obtain ⟨xw,xl,rfl,dW,_,_,_⟩:=hx;obtain ⟨yw,yl,rfl,dX,_,_,_⟩:=hy;obtain ⟨zw,zl,rfl,oz,_,_,_⟩:=hz;obtain ⟨ww,wl,rfl,oA,_,_,_⟩:=hw;obtain ⟨fc,rl,rfl,n9,_,_,_⟩:=hr
  obtain ⟨rw2,rl2,rfl,agz,_,_,_⟩:=fe;obtain ⟨tw,tl,rfl,htw,_,_,_⟩:=ht;obtain ⟨sw,sl,rfl,gF,_,_,_⟩:=hs;have hb:¬(q1=true/\q2=true):=hq;unfold ae at e3 e4 e5 Xq e6 e7 e8 ⊢;rw [av h.agu]
  cases q1 with
  | false=>
   simp only [go_sem,ya,yb,Jw,aB,e1,e2,e3,e4,dW.pu,dW.ah,dW.one,dX.pu,dX.ah,dX.one,oz.pu,oz.ah,oz.one,oA.pu,oA.ah,oA.one,n9.ah,agz.ah,htw.ah,gF.ah,aZ,bl,oC,de,dl,e5,Xq,e8,e6,e7]
  | true=>
   cases q2 with
   | true=>exact absurd ⟨rfl,rfl⟩ hb
   | false=>
    simp only [go_sem,ya,yb,Jw,aB,e1,e2,e3,e4,dW.pu,dW.ah,dW.one,dX.pu,dX.ah,dX.one,oz.pu,oz.ah,oz.one,oA.pu,oA.ah,oA.one,n9.ah,agz.ah,htw.ah,gF.ah,aZ,bl,oC,de,dl,e5,Xq,e8,e6,e7]
def CX (h:Rp P L) {a b:Rat} {K M:Nat} (ka:Hq K a) (kb:Hq M b) (hK:K+M+1<=8000000000):ae P L 271 [.str (RT a),.str (RT b)] (.str (RT (a-b))):=by
 have e1:=auH h kb (by omega);have e2:=NM h ka kb.neg hK;rw [<-Rat.sub_eq_add_neg] at e2;unfold ae at e1 e2 ⊢;rw [av h.awy];simp only [go_sem,ya,TZ,e1,e2]
def inv_divInt (a:Rat) (h:a≠0):a⁻¹=xT (a.den:Int) a.num:=by
 rw [Rat.inv_def]
def auI (h:Rx P L) {a:Rat} {K:Nat} (ka:Hq K a) (hK:K<=8000000000) (h0:a≠0):ae P L 283 [.str (RT a)] (.str (RT a⁻¹)):=by
 obtain ⟨x,y,e3,hx,hy⟩:=E4 h.toRm ka hK;have hn:a.num≠0:=fun e=>h0 (yaq.1 e)
 have e7:=Tq h.toRm hK hy hx ka.2 ka.1 hn;rw [<-inv_divInt a h0] at e7;obtain ⟨xw,xl,rfl,dW,_,_,_⟩:=hx;obtain ⟨yw,yl,rfl,dX,_,_,_⟩:=hy;unfold ae at e3 e7 ⊢;rw [av h.awK];simp only [go_sem,ya,yb,Ua,aB,e3,dW.pu,dW.ah,dW.one,dX.pu,dX.ah,dX.one,aZ,oC,de,dl,e7]
def afn (h:Rx P L) {a b:Rat} {K M:Nat} (ka:Hq K a) (kb:Hq M b) (hK:K+M<=8000000000) (h0:b≠0):ae P L 266 [.str (RT a),.str (RT b)] (.str (RT (a/b))):=by
 have e1:=auI h kb (by omega) h0;have e2:=rF h.toRn ka kb.inv hK;rw [<-Rat.div_def] at e2;unfold ae at e1 e2 ⊢;rw [av h.awJ];simp only [go_sem,ya,TY,e1,e2]
end
end
section
open Go (IntKind)
def ZU {P:aG} {L:Lib} (a b c d:VC) (s:St):D P L (.seq a (.seq b (.seq c d))) s=mA P L (D P L (.seq a (.seq b c)) s) d:=by
 have e:=Cr (P:=P) (L:=L) b c d;rw [iK,iK]
 cases D P L a s with
 | none=>rfl
 | some q=>
  obtain ⟨ex,st⟩:=q
  cases ex with
  | normal=>rw [fu,fu];exact e st
  | ret=>rfl
  | exit id=>rfl
def nJ {a b:List Nat} (h:a≠b):cA a b=false:=by
 cases hb:cA a b with
 | false=>rfl
 | true=>exact absurd (R3 hb) h
def MA:∀a:List Nat,cA a a=true
 | []=>rfl
 | x::a=>by simp [cA,MA a]
def SW {a b:List Nat} (h:a=b):cA a b=true:=h▸MA a
def alR {s:List Nat} {i:Nat} (h:i<s.length):dD (s.drop i)=(yG 48 s[i]&&yG s[i] 57&&dD (s.drop (i+1))):=by
 rw [yL h];rfl
section
variable {P:aG} {L:Lib}
def awN (h:Has P L 287 JC) {s:List Nat} (hl:s.length<=1000000000000):ae P L 287 [.str s] (.bool (dD s)):=by
 have key:=cg (P:=P) (L:=L) (live:=[0,3]) (a:=CF)
  (I:=fun k st=>∃i:Nat,st=⟨[(0,.str s),(3,aa i)],[],0,0⟩/\i+k=s.length/\dD (s.drop i)=dD s)
  (Q:=fun ex st=>∃tm ct,st=⟨tm,[],ct,0⟩/\((ex= .ret/\af tm 2= .bool false/\dD s=false)\/(ex= .exit 0/\dD s=true))) ?_
 ·unfold ae;rw [av h];simp only [go_sem,JC];generalize hq:D P L (.loop [0,3] CF) _=q;obtain ⟨ex,st,rfl,tm,ct,rfl,h2⟩:=bP hq (key s.length) ⟨0,by simp only [go_sem,ya,ay]<;>rfl,by omega,by simp⟩
  rcases h2 with ⟨rfl,h2,h3⟩ | ⟨rfl,h3⟩
  ·simp only [go_sem,h2,h3]
  ·simp only [go_sem,ay,h3]
 ·rintro k st ⟨i,rfl,hk,hs⟩;by_cases hi:i<s.length
  ·rw [alR hi] at hs;by_cases h1:s[i]<48
   ·right
    have e:yG 48 s[i]=false:=by
     cases hb:yG 48 s[i] with
     | false=>rfl
     | true=>have:=yy hb;omega
    rw [e,wr,wr] at hs;simp only [go_sem,ya,CF,show (i:Int)<s.length by omega,qh hi,show ((s[i]:Nat):Int)<48 by omega,yq];exact ⟨_,_,rfl,by simp,_,_,rfl,.inl ⟨rfl,by simp only [go_sem],hs.symm⟩⟩
   ·by_cases h2:57<s[i]
    ·right
     have e:yG s[i] 57=false:=by
      cases hb:yG s[i] 57 with
      | false=>rfl
      | true=>have:=yy hb;omega
     rw [e,Bool.and_false,wr] at hs;simp only [go_sem,ya,CF,show (i:Int)<s.length by omega,qh hi,show ¬((s[i]:Nat):Int)<48 by omega,yo,show (57:Int)<((s[i]:Nat):Int) by omega];exact ⟨_,_,rfl,by simp,_,_,rfl,.inl ⟨rfl,by simp only [go_sem],hs.symm⟩⟩
    ·left
     rw [yv (show 48<=s[i] by omega),yv (show s[i]<=57 by omega),wA,wA] at hs;simp only [go_sem,ya,CF,show (i:Int)<s.length by omega,qh hi,show ¬((s[i]:Nat):Int)<48 by omega,yo,show ¬(57:Int)<((s[i]:Nat):Int) by omega];refine ⟨_,k-1,rfl,by omega,i+1,?_,by omega,hs⟩;rw [wrap64 (by omega) (by omega)];simp only [go_sem,ya,ay]<;>rfl
  ·right
   simp only [go_sem,ya,CF,show ¬(i:Int)<s.length by omega];refine ⟨_,_,rfl,by simp,_,_,rfl,.inr ⟨rfl,?_⟩⟩;rw [<-hs,y8 (by omega)];rfl
def O2 (h:Has P L 273 C7) (FC:Has P L 287 JC) {s:List Nat} (hl:s.length<=1000000000000):ae P L 273 [.str s] (.bool (ef s)):=by
 have e:=awN FC hl;unfold ae at e ⊢;rw [av h]
 match s,hl,e with
 | [],_,_=>
  simp only [go_sem,ya,C7,yE,show ((0:Nat):Int)=0 from rfl,yq];rfl
 | [b],_,e=>
  have:ef [b]=dD [b]:=by simp [ef]
  rw [this];simp only [go_sem,ya,C7,yr,yE,yd,show ¬((1:Nat):Int)=0 by decide,show ¬(1:Int)<((1:Nat):Int) by decide,yo,e]
 | b::c::r,hl,e=>
  have hd:ef (b::c::r)=(dD (b::c::r)&& !(Nat.beq b 48)):=by simp [ef]
  rw [hd];have Ky:r.length+2<=1000000000000:=by simpa using hl
  by_cases hb:b=48
  ·subst hb;simp only [go_sem,ya,C7,yr,show ¬((r.length+1+1:Nat):Int)=0 by omega,yo,show (1:Int)<((r.length+1+1:Nat):Int) by omega,show mX 0 (.str (48::c::r))=some (.int .u8 48) from rfl,yq]
   simp
  ·have:Nat.beq b 48=false:=cG hb
   rw [this,yF,Bool.and_true];simp only [go_sem,ya,C7,yr,show ¬((r.length+1+1:Nat):Int)=0 by omega,yo,show (1:Int)<((r.length+1+1:Nat):Int) by omega,show mX 0 (.str (b::c::r))=some (.int .u8 (b:Nat)) from rfl,show ¬((b:Nat):Int)=48 by omega,e]
def aa1 {s:List Nat} {k:Nat} (h:k<=s.length):iC s (some 0) (some k)=some (.str (s.take k)):=by
 rw [lK (by omega) h,yj]
def MB {s:List Nat} {k:Nat} (h:k<=s.length):iC s (some k) (some s.length)=some (.str (s.drop k)):=by
 rw [lK h (yC _),wo]
def as7 (h:Rm P L) {t:List Nat} {k:Nat} (hk:k=bS t) (hl:t.length<=1000000000) (hp:ef (t.take k)=true) {tm:Env} (t3:af tm 3= .str t) (t4:af tm 4=aa k):
  fJ [.t 2] (D P L (ax (ax (ax (ax (ax dH.body))))) ⟨tm,[],0,0⟩)=some (aa (
   if k<t.length/\(ef (t.drop (k+1))=false\/t.drop (k+1)=[48]\/t.drop (k+1)=[49]) then 1
   else if 600<k\/600<t.length-k-1 then 4
   else if k<t.length/\wg (fY (t.take k)) (fY (t.drop (k+1)))≠1 then 1
   else 0)):=by
 have Xf:k<=t.length:=by rw [hk];exact HQ t
 have e3:=O2 h.O1 h.FC (s:=t.drop (k+1)) (by rw [xS];omega);unfold ae at e3;have Cb:(k:Int)+1=((k+1:Nat):Int):=rfl;by_cases hs:k<t.length
 ·have c2:=MB (s:=t) (k:=k+1) (by omega);have kq:=XT t (by omega);rw [<-hk] at kq;have Gf:(t.drop (k+1)).length=t.length-k-1:=by rw [xS];omega
  have hlp:(t.take k).length=k:=by rw [yT];omega
  generalize hqe:t.drop (k+1)=q at*
  generalize hpe:t.take k=p at*
  cases hd:ef q with
  | false=>
   rw [yI ⟨hs,.inl rfl⟩];rw [hd] at e3
   simp only [go_sem,ya,dH,ax,t3,t4,show (k:Int)<(t.length:Int) by omega,yq,Cb,wrapN (n:=k+1) (by omega),eV,fo,dQ,c2,e3,yF]
  | true=>
   rw [hd] at e3;by_cases jD:q=[48]
   ·rw [yI ⟨hs,.inr (.inl jD)⟩]
    simp only [go_sem,ya,dH,ax,t3,t4,show (k:Int)<(t.length:Int) by omega,yq,Cb,wrapN (n:=k+1) (by omega),eV,fo,dQ,c2,e3,yH,iF,SW jD]
   ·by_cases ot:q=[49]
    ·rw [yI ⟨hs,.inr (.inr ot)⟩]
     simp only [go_sem,ya,dH,ax,t3,t4,show (k:Int)<(t.length:Int) by omega,yq,Cb,wrapN (n:=k+1) (by omega),eV,fo,dQ,c2,e3,yH,iF,nJ jD,SW ot]
    ·rw [yB (by simp only [hs,ux,tQ,yaT];exact fun e=>e.elim jD ot)]
     by_cases Dt:600<k
     ·rw [yI (.inl Dt)]
      simp only [go_sem,ya,dH,ax,t3,t4,show (k:Int)<(t.length:Int) by omega,yq,Cb,wrapN (n:=k+1) (by omega),eV,fo,dQ,c2,e3,yH,iF,nJ jD,nJ ot,show (600:Int)<(k:Int) by omega]
     ·by_cases awO:600<t.length-k-1
      ·rw [yI (.inr awO)]
       simp only [go_sem,ya,dH,ax,t3,t4,show (k:Int)<(t.length:Int) by omega,yq,Cb,wrapN (n:=k+1) (by omega),eV,fo,dQ,c2,e3,yH,iF,nJ jD,nJ ot,show ¬(600:Int)<(k:Int) by omega,yo,show (t.length:Int)-(k:Int)=((t.length-k:Nat):Int) by omega,wrapN (n:=t.length-k) (by omega),show ((t.length-k:Nat):Int)-1=((t.length-k-1:Nat):Int) by omega,wrapN (n:=t.length-k-1) (by omega),show (600:Int)<((t.length-k-1:Nat):Int) by omega]
      ·rw [yB (by omega)];have qX:=Eg _ rfl hp;have ow:=Eg _ rfl hd;have iE:fY q≠0:=fun e=>jD (by rw [<-ow,e];rfl)
       have jB:fY q≠1:=fun e=>ot (by rw [<-ow,e];rfl)
       generalize fY p=n at*
       generalize fY q=d at*
       have hT:TT (n:Int) d=t:=by
        unfold TT;rw [kM,yB jB,qX,ow];exact kq.symm
       obtain ⟨x,y,e4,hx,hy⟩:=agy h.toRb (n:=(n:Int)) (d:=d) (by rw [wK,qX];omega) (by rw [ow];omega);rw [hT] at e4;obtain ⟨xw,xl,rfl,dW,dx,nx,vx⟩:=hx;obtain ⟨yw,yl,rfl,dX,dy,ny,vy⟩:=hy;rw [wK] at vx vy;have pI:n<10^p.length:=by rw [<-qX];exact Iq n
       have hdb:d<10^q.length:=by rw [<-ow];exact Iq d
       obtain ⟨K,hK⟩:∃K:Nat,K=600:=⟨_,rfl⟩;have F5:∀{m j:Nat},m<10^j->j<=K->m<1000000000^K:=fun {m j} h1 h2=>
        yN h1 (xj (xP (by decide) h2) (uH (by decide) K))
       have lxl:=ix dx nx (by rw [vx];exact F5 pI (by omega))
       have lyl:=ix dy ny (by rw [vy];exact F5 hdb (by omega))
       obtain ⟨g,lg,e5,hg,dgg,ngg,vg⟩:=afj h.agq h.Ka h.ll h.nV h.pf h.cR h.qF dW dX dx dy nx ny (by omega) (by omega);rw [vx,vy] at vg;have KB:0<wg n d:=Nat.gcd_pos_of_pos_right _ (by omega);unfold ae at e4 e5;by_cases U2:lg.length=1
       ·obtain ⟨z,rfl⟩:∃z,lg=[z]:=by
         cases lg with
         | nil=>simp at U2
         | cons z r=>cases r with
          | nil=>exact ⟨z,rfl⟩
          | cons y r=>simp at U2
        have gz:=jF.1 dgg;have Lj:z=(wg n d:Nat):=by simp [dv] at vg;omega
        have e8:=hg.bk (i:=0) (by simp);simp only [tc] at e8;by_cases gU:wg n d=1
        ·rw [yB (by simp [gU])]
         simp only [go_sem,ya,yb,dH,ax,t3,t4,show (k:Int)<(t.length:Int) by omega,yq,Cb,wrapN (n:=k+1) (by omega),eV,fo,dQ,c2,e3,yH,iF,nJ jD,nJ ot,show ¬(600:Int)<(k:Int) by omega,yo,show (t.length:Int)-(k:Int)=((t.length-k:Nat):Int) by omega,wrapN (n:=t.length-k) (by omega),show ((t.length-k:Nat):Int)-1=((t.length-k-1:Nat):Int) by omega,wrapN (n:=t.length-k-1) (by omega),show ¬(600:Int)<((t.length-k-1:Nat):Int) by omega,e4,aB,dW.pu,dW.ah,dW.one,dX.pu,dX.ah,dX.one,de,aV,yd,bU,e5,hg.len,hg.shut,yr,yE,show ((1:Nat):Int)=(1:Int) from rfl,yH,e8,Lj,gU]
        ·rw [yI ⟨hs,gU⟩]
         simp only [go_sem,ya,yb,dH,ax,t3,t4,show (k:Int)<(t.length:Int) by omega,yq,Cb,wrapN (n:=k+1) (by omega),eV,fo,dQ,c2,e3,yH,iF,nJ jD,nJ ot,show ¬(600:Int)<(k:Int) by omega,yo,show (t.length:Int)-(k:Int)=((t.length-k:Nat):Int) by omega,wrapN (n:=t.length-k) (by omega),show ((t.length-k:Nat):Int)-1=((t.length-k-1:Nat):Int) by omega,wrapN (n:=t.length-k-1) (by omega),show ¬(600:Int)<((t.length-k-1:Nat):Int) by omega,e4,aB,dW.pu,dW.ah,dW.one,dX.pu,dX.ah,dX.one,de,aV,yd,bU,e5,hg.len,hg.shut,yr,yE,show ((1:Nat):Int)=(1:Int) from rfl,yH,e8,Lj,show ¬((wg n d:Nat):Int)=1 by omega,yF]
       ·have gU:wg n d≠1:=fun e=>U2 (by
         have h1:lg.length<=1:=Sr dgg ngg (by omega);have h2:0<lg.length:=by
          rcases xo lg.length with h0 | h0
          ·rw [yJ h0] at vg;simp [dv] at vg;omega
          ·exact h0
         omega)
        rw [yI ⟨hs,gU⟩]
        simp only [go_sem,ya,yb,dH,ax,t3,t4,show (k:Int)<(t.length:Int) by omega,yq,Cb,wrapN (n:=k+1) (by omega),eV,fo,dQ,c2,e3,yH,iF,nJ jD,nJ ot,show ¬(600:Int)<(k:Int) by omega,yo,show (t.length:Int)-(k:Int)=((t.length-k:Nat):Int) by omega,wrapN (n:=t.length-k) (by omega),show ((t.length-k:Nat):Int)-1=((t.length-k-1:Nat):Int) by omega,wrapN (n:=t.length-k-1) (by omega),show ¬(600:Int)<((t.length-k-1:Nat):Int) by omega,e4,aB,dW.pu,dW.ah,dW.one,dX.pu,dX.ah,dX.one,de,aV,yd,bU,e5,hg.len,hg.shut,show ¬(lg.length:Int)=1 by omega,yF]
 ·have hkt:k=t.length:=by omega
  rw [yB (by omega)];by_cases Dt:600<k
  ·rw [yI (.inl Dt)];simp only [go_sem,ya,dH,ax,t3,t4,show ¬(k:Int)<(t.length:Int) by omega,yo,show (600:Int)<(k:Int) by omega,yq]
  ·rw [yB (by omega),yB (by omega)]
   simp only [go_sem,ya,dH,ax,t3,t4,show ¬(k:Int)<(t.length:Int) by omega,yo,show ¬(600:Int)<(k:Int) by omega,show (t.length:Int)-(k:Int)=((t.length-k:Nat):Int) by omega,wrapN (n:=t.length-k) (by omega),show ((t.length-k:Nat):Int)-1= -1 by omega,show IntKind.wrap .i64 (-1)= -1 by rfl,show ¬(600:Int)<(-1:Int) by omega]
def adN (h:Rm P L) {b:Nat} {r:List Nat} {t:List Nat} {neg:Bool} (fP:decide (((b:Nat):Int)=45)=neg) (hl:t.length<=1000000000) {tm:Env} (t0:af tm 0= .str (b::r)) (t3:af tm 3= .str t):
  fJ [.t 2] (D P L (ax (ax (ax dH.body))) ⟨tm,[],0,0⟩)=some (aa (zX neg t)):=by
 obtain ⟨k,hk⟩:∃k,k=bS t:=⟨_,rfl⟩;have Xf:k<=t.length:=by rw [hk];exact HQ t
 have e1:=Dd h.zR (s:=t) (by omega);have e2:=O2 h.O1 h.FC (s:=t.take k) (by rw [yT];omega);have e3:=O2 h.O1 h.FC (s:=t.drop (k+1)) (by rw [xS];omega);unfold zX;rw [<-hk] at e1 ⊢;have c1:=aa1 Xf;have hI:mX 0 (.str (b::r))=some (.int .u8 (b:Nat)):=rfl;unfold ae at e1 e2 e3;generalize hp:t.take k=p at*
 generalize hq:t.drop (k+1)=q at*
 cases hd:ef p with
 | false=>
  rw [yI (.inl rfl)];rw [hd] at e2;simp only [go_sem,ya,dH,ax,t3,e1,eV,fo,dQ,c1,e2,yF]
 | true=>
  rw [hd] at e2;by_cases hz:neg=true/\p=[48]
  ·rw [yI (.inr hz)];obtain ⟨z1,z2⟩:=hz;rw [z1] at fP;have hb:=of_decide_eq_true fP;subst z2;simp only [go_sem,ya,dH,ax,t0,t3,e1,eV,fo,dQ,c1,e2,yH,hI,hb,yq,iF,show cA [48] [48]=true from rfl]
  ·rw [yB (by simp only [tQ,yaT];exact hz)]
   have fin:∀tm',af tm' 3= .str t->af tm' 4=aa k->D P L (.seq (bC (ax (ax (ax dH.body)))) (bC (ax (ax (ax (ax dH.body)))))) ⟨tm,[],0,0⟩=some (.normal,⟨tm',[],0,0⟩)->fJ [.t 2] (D P L (ax (ax (ax dH.body))) ⟨tm,[],0,0⟩)=some (aa (
     if k<t.length/\(ef q=false\/q=[48]\/q=[49]) then 1
     else if 600<k\/600<t.length-k-1 then 4
     else if k<t.length/\wg (fY p) (fY q)≠1 then 1
     else 0)):=fun tm' f3 f4 e=>by
    show fJ [.t 2] (D P L (.seq (bC (ax (ax (ax dH.body)))) (.seq (bC (ax (ax (ax (ax dH.body))))) (ax (ax (ax (ax (ax dH.body))))))) ⟨tm,[],0,0⟩)=_
    rw [Cr,e,fu,<-hp,<-hq];exact as7 h hk hl (by rw [hp];exact hd) f3 f4
   by_cases hb:((b:Nat):Int)=45
   ·have awP:p≠[48]:=fun e=>hz ⟨by rw [<-fP];exact xh hb,e⟩
    refine fin _ ?_ ?_ (by simp only [go_sem,ya,dH,bC,ax,t0,t3,e1,eV,fo,dQ,c1,e2,yH,hI,hb,yq,iF,nJ awP]<;>rfl)<;>simp only [go_sem,ya,t3]
   ·refine fin _ ?_ ?_ (by simp only [go_sem,ya,dH,bC,ax,t0,t3,e1,eV,fo,dQ,c1,e2,yH,hI,hb,yo]<;>rfl)<;>simp only [go_sem,ya,t3]
def U3 (h:Rm P L) {s:List Nat} (hl:s.length<=1000000000):ae P L 263 [.str s] (aa (aY s)):=by
 unfold ae;rw [av h.awE]
 cases s with
 | nil=>
  have e1:=Dd h.zR (s:=[]) (by simp);have e2:=O2 h.O1 h.FC (s:=[]) (by simp);unfold ae at e1 e2;have hc:iC [] (some 0) (some 0)=some (.str []):=rfl;simp only [go_sem,ya,dH,yE,show ¬(0:Int)<((0:Nat):Int) by decide,yo,e1,bS,eV,fo,dQ,hc,e2,show ef []=false from rfl,yF];rfl
 | cons b t=>
  have Ky:t.length+1<=1000000000:=by simpa using hl
  have hI:mX 0 (.str (b::t))=some (.int .u8 (b:Nat)):=rfl;by_cases hb:b=45
  ·subst hb;have fin:∀tm',af tm' 0= .str (45::t)->af tm' 3= .str t->D P L (.seq (bC dH.body) (.seq (bC (ax dH.body)) (bC (ax (ax dH.body))))) ⟨[(0,.str (45::t))],[],0,0⟩=some (.normal,⟨tm',[],0,0⟩)->fJ [.t 2] (D P L dH.body ⟨[(0,.str (45::t))],[],0,0⟩)=some (aa (aY (45::t))):=fun tm' f0 f3 e=>by
    show fJ [.t 2] (D P L (.seq (bC dH.body) (.seq (bC (ax dH.body)) (.seq (bC (ax (ax dH.body))) (ax (ax (ax dH.body)))))) ⟨[(0,.str (45::t))],[],0,0⟩)=_
    rw [ZU,e,fu]
    exact adN h (b:=45) rfl (by omega) f0 f3
   have hc:iC (45::t) (some 1) (some (t.length+1))=some (.str t):=by
    have:=MB (s:=45::t) (k:=1) (by simp)
    simpa using this
   refine fin _ ?_ ?_ (by simp only [go_sem,ya,dH,bC,ax,yr,show (0:Int)<((t.length+1:Nat):Int) by omega,yq,De,eV,fo,dQ,hc]<;>rfl)<;>simp only [go_sem,ya]
  ·have fin:∀tm',af tm' 0= .str (b::t)->af tm' 3= .str (b::t)->D P L (.seq (bC dH.body) (.seq (bC (ax dH.body)) (bC (ax (ax dH.body))))) ⟨[(0,.str (b::t))],[],0,0⟩=some (.normal,⟨tm',[],0,0⟩)->fJ [.t 2] (D P L dH.body ⟨[(0,.str (b::t))],[],0,0⟩)=some (aa (aY (b::t))):=fun tm' f0 f3 e=>by
    show fJ [.t 2] (D P L (.seq (bC dH.body) (.seq (bC (ax dH.body)) (.seq (bC (ax (ax dH.body))) (ax (ax (ax dH.body)))))) ⟨[(0,.str (b::t))],[],0,0⟩)=_
    rw [ZU,e,fu]
    have:=adN h (b:=b) (neg:=false) (yR (by omega)) (by simpa using hl) f0 f3
    rw [this];simp only [aY,yB hb]
   refine fin _ ?_ ?_ (by simp only [go_sem,ya,dH,bC,ax,yr,show (0:Int)<((t.length+1:Nat):Int) by omega,yq,hI,show ¬((b:Nat):Int)=45 by omega]<;>rfl)<;>simp only [go_sem,ya]
end
end
section
open Go (IntKind)
def iX (v:AV) (l:List (List Nat)):Prop:=cZ v (l.map AV.str)
section
variable {v:AV} {l:List (List Nat)}
def iX.len (h:iX v l) {hp:Hp}:iI hp 1 v=some (.int .i64 (l.length:Nat)):=by
 have:=cZ.len (hp:=hp) h
 grind
def iX.pu (h:iX v l):aR v=true:=cZ.pu h
def iX.ah (h:iX v l) (n:Nat) {hp:Hp}:freeze (n+1) hp v=some (v,hp):=cZ.ah h n
def iX.shut (h:iX v l):VE.shut v=v:=cZ.shut h
def iX.bT (h:iX v l):VE.bT v=v:=cZ.bT h
def iX.dT (h:iX v l) {hp:Hp}:result hp v=some v:=cZ.dT h
def iX.one (h:iX v l):bm v=true:=cZ.one h
def iX.cells (h:iX v l):cellsOf v=[v]:=cZ.cells h
def iX.bk (h:iX v l) {i:Nat} (hi:i<l.length):jx 1 i v=some (.aI (.str l[i]::(l.map AV.str).drop (i+1))):=by
 have:=cZ.bk h (i:=i) (by simpa using hi)
 grind
def Cx (e:Bool) (l:List (List Nat)):iX (.aE e l.length (l.map AV.str)) l:=by
 have:=Ik e (l.map AV.str)
 rwa [xu] at this
end
section
variable {P:aG} {L:Lib}
def aqv (h:Rm P L) {a:Rat} {K:Nat} (ka:Hq K a) (hK:K<=4000000000):bO P L (D P L) 284 [.str (RT a)]=some (.str (bh a.num))/\bO P L (D P L) 285 [.str (bh a.num)]=some (.str (aw a.num.natAbs))/\bO P L (D P L) 286 [.str (RT a)]=some (.str (aw a.den)):=by
 have hl:=ES ka;have e0:=Dd h.zR (s:=RT a) (by omega);have lj:bS (RT a)=(bh a.num).length/\(RT a).take (bh a.num).length=bh a.num:=by
  unfold RT;by_cases hd:a.den=1
  ·rw [yI hd,wc]
   have:=D7 a.num []
   rw [wc] at this;exact ⟨by rw [this];simp [bS],wo⟩
  ·rw [yB hd];exact ⟨by rw [D7];simp [bS],List.take_left⟩
 obtain ⟨eh,pG⟩:=lj;rw [eh] at e0;have hlen:(bh a.num).length<=(RT a).length:=by unfold RT;simp
 have e1:bO P L (D P L) 284 [.str (RT a)]=some (.str (bh a.num)):=by
  rw [av h.awF]
  have:=aa1 (s:=RT a) hlen
  simp only [go_sem,ya,Ub,e0,eV,fo,dQ,this,pG]
 have hT:bh a.num=TT a.num 1:=by unfold TT;simp
 have e2:bO P L (D P L) 285 [.str (bh a.num)]=some (.str (aw a.num.natAbs)):=by
  have e:=afl h (n:=a.num) (d:=1) (by rw [<-hT];omega) (fun _=>rfl);rw [<-hT] at e;rw [av h.awG];by_cases h0:a.num<0
  ·have es:cf a.num= -1:=by unfold cf;rw [yI h0]
   rw [es] at e;rw [mR h0] at e ⊢;have hc:=MB (s:=45::aw a.num.natAbs) (k:=1) (by simp);simp only [List.drop_succ_cons,yj,yr] at hc;simp only [go_sem,ya,On,e,show (-1:Int)<0 by decide,eV,fo,dQ,hc]
  ·have es:¬cf a.num<0:=by unfold cf;rw [yB h0];split<;>decide
   have hi:bh a.num=aw a.num.natAbs:=by
    obtain ⟨m,hm⟩:∃m:Nat,a.num=m:=⟨a.num.toNat,by omega⟩;rw [hm,kM,wK]
   simp only [go_sem,ya,On,e,es];rw [hi]
 have e3:bO P L (D P L) 286 [.str (RT a)]=some (.str (aw a.den)):=by
  rw [av h.awH];by_cases hd:a.den=1
  ·have hR:(RT a).length=(bh a.num).length:=by unfold RT;rw [yI hd];simp
   rw [hd,show aw 1=[49] by decide];simp only [go_sem,ya,Oo,e0,show ((bh a.num).length:Int)=((RT a).length:Int) by omega,yq]
  ·have hR:RT a=(bh a.num++[47])++aw a.den:=by unfold RT;rw [yB hd];simp
   have hRl:(RT a).length=(bh a.num).length+1+(aw a.den).length:=by rw [hR];simp;omega
   have hc:=MB (s:=RT a) (k:=(bh a.num).length+1) (by omega);have jm:(RT a).drop ((bh a.num).length+1)=aw a.den:=by
    rw [hR,show (bh a.num).length+1=(bh a.num++[47]).length by simp,List.drop_left]
   rw [jm] at hc
   simp only [go_sem,ya,Oo,e0,show ¬((bh a.num).length:Int)=((RT a).length:Int) by omega,show ((bh a.num).length:Int)+1=(((bh a.num).length+1:Nat):Int) from rfl,wrapN (n:=(bh a.num).length+1) (by omega),eV,fo,dQ,hc]
 exact ⟨e1,e2,e3⟩
def Tu (h:Rl P L) {a:Rat} {K:Nat} (ka:Hq K a) (hK:K<=4000000000):ae P L 269 [.str (RT a)] (aa (if LG a=true then 4 else 0)):=by
 obtain ⟨e1,e2,e3⟩:=aqv h.toRm ka hK;unfold ae;rw [av h.awI];unfold LG LN;rw [wK];by_cases h1:600<(aw a.num.natAbs).length
 ·rw [xh h1,uO,yI rfl];simp only [go_sem,ya,Jz,e1,e2,show (600:Int)<((aw a.num.natAbs).length:Int) by omega,yq]
 ·by_cases h2:600<(aw a.den).length
  ·rw [xh h2,Bool.or_true,yI rfl];simp only [go_sem,ya,Jz,e1,e2,show ¬(600:Int)<((aw a.num.natAbs).length:Int) by omega,yo,e3,show (600:Int)<((aw a.den).length:Int) by omega]
  ·rw [yR h1,yR h2,Bool.or_self,yB (by decide)];simp only [go_sem,ya,Jz,e1,e2,show ¬(600:Int)<((aw a.num.natAbs).length:Int) by omega,yo,e3,show ¬(600:Int)<((aw a.den).length:Int) by omega]
def jO (l:List (List Nat)):Bool:=l.all fun s=>decide (s.length<=40)
def aj2 {l:List (List Nat)} {i:Nat} (h:i<l.length):jO (l.drop i)=(decide (l[i].length<=40)&&jO (l.drop (i+1))):=by
 rw [yL h];rfl
def alS {l:List (List Nat)} {i:Nat} (h:i<l.length):bj ((l.drop i).map aY)=if aY l[i]=0 then bj ((l.drop (i+1)).map aY) else aY l[i]:=by
 rw [yL h];rfl
def U4 (h:Has P L 305 JG) {v:AV} {l:List (List Nat)} (hv:iX v l) (hl:l.length<=1000000) (hs:∀s,s∈l->s.length<9223372036854775808):ae P L 305 [v] (.bool (jO l)):=by
 have key:=cg (P:=P) (L:=L) (live:=[0,3]) (a:=EH)
  (I:=fun k st=>∃i:Nat,st=⟨[(0,v),(3,aa i)],[],0,0⟩/\i+k=l.length/\jO (l.drop i)=jO l)
  (Q:=fun ex st=>∃tm ct,st=⟨tm,[],ct,0⟩/\((ex= .ret/\af tm 2= .bool false/\jO l=false)\/(ex= .exit 0/\jO l=true))) ?_
 ·unfold ae;rw [av h];simp only [go_sem,JG];generalize hq:D P L (.loop [0,3] EH) _=q;obtain ⟨ex,st,rfl,tm,ct,rfl,h2⟩:=bP hq (key l.length) ⟨0,by simp only [go_sem,ya,ay,aJ hv.pu,aO _ hv.pu]<;>rfl,by omega,by simp⟩
  rcases h2 with ⟨rfl,h2,h3⟩ | ⟨rfl,h3⟩
  ·simp only [go_sem,h2,h3]
  ·simp only [go_sem,ay,h3]
 ·rintro k st ⟨i,rfl,hk,hd⟩;by_cases hi:i<l.length
  ·rw [aj2 hi] at hd;have ev:=hv.bk hi;by_cases h1:l[i].length<=40
   ·left
    rw [xh h1,wA] at hd;simp only [go_sem,ya,EH,hv.len,show (i:Int)<l.length by omega,ev,show ¬(40:Int)<(l[i].length:Int) by omega];refine ⟨_,k-1,rfl,by omega,i+1,?_,by omega,hd⟩;rw [wrap64 (by omega) (by omega)];simp only [go_sem,ya,ay,aJ hv.pu,aO _ hv.pu]<;>rfl
   ·right
    rw [yR h1,wr] at hd;simp only [go_sem,ya,EH,hv.len,show (i:Int)<l.length by omega,ev,show (40:Int)<(l[i].length:Int) by omega];exact ⟨_,_,rfl,by simp,_,_,rfl,.inl ⟨rfl,by simp only [go_sem],hd.symm⟩⟩
  ·right
   simp only [go_sem,ya,EH,hv.len,show ¬(i:Int)<l.length by omega];refine ⟨_,_,rfl,by simp,_,_,rfl,.inr ⟨rfl,?_⟩⟩;rw [<-hd,y8 (by omega)];rfl
def auJ (h:Rm P L) (U5:Has P L 261 Oi) {v:AV} {l:List (List Nat)} (hv:iX v l) (hl:l.length<=1000000) (hs:∀s,s∈l->s.length<=1000000000):ae P L 261 [v] (aa (bj (l.map aY))):=by
 have key:=cg (P:=P) (L:=L) (live:=[0,3]) (a:=EE)
  (I:=fun k st=>∃i:Nat,st=⟨[(0,v),(3,aa i)],[],0,0⟩/\i+k=l.length/\bj ((l.drop i).map aY)=bj (l.map aY))
  (Q:=fun ex st=>∃tm ct,st=⟨tm,[],ct,0⟩/\((ex= .ret/\af tm 2=aa (bj (l.map aY)))\/(ex= .exit 0/\bj (l.map aY)=0))) ?_
 ·unfold ae;rw [av U5];simp only [go_sem,Oi];generalize hq:D P L (.loop [0,3] EE) _=q;obtain ⟨ex,st,rfl,tm,ct,rfl,h2⟩:=bP hq (key l.length) ⟨0,by simp only [go_sem,ya,ay,aJ hv.pu,aO _ hv.pu]<;>rfl,by omega,by simp⟩
  rcases h2 with ⟨rfl,h2⟩ | ⟨rfl,h3⟩
  ·simp only [go_sem,h2]
  ·simp only [go_sem,ay,h3]
 ·rintro k st ⟨i,rfl,hk,hd⟩;by_cases hi:i<l.length
  ·rw [alS hi] at hd;have e1:=U3 h (hs l[i] (vM hi));have ev:=hv.bk hi;by_cases h1:aY l[i]=0
   ·left
    rw [yI h1] at hd;rw [h1] at e1;simp only [go_sem,ya,EE,hv.len,show (i:Int)<l.length by omega,ev,e1,yq,yH];refine ⟨_,k-1,rfl,by omega,i+1,?_,by omega,hd⟩;rw [wrap64 (by omega) (by omega)];simp only [go_sem,ya,ay,aJ hv.pu,aO _ hv.pu]<;>rfl
   ·right
    rw [yB h1] at hd;simp only [go_sem,ya,EE,hv.len,show (i:Int)<l.length by omega,ev,e1,h1,yo,yF];refine ⟨_,_,rfl,by simp,_,_,rfl,.inl ⟨rfl,?_⟩⟩;rw [<-hd];simp only [go_sem]
  ·right
   simp only [go_sem,ya,EE,hv.len,show ¬(i:Int)<l.length by omega];refine ⟨_,_,rfl,by simp,_,_,rfl,.inr ⟨rfl,?_⟩⟩;rw [<-hd,y8 (by omega)];rfl
def aj3 {l:List Rat} {i:Nat} (h:i<l.length):(l.drop i).any LG=(LG l[i]||(l.drop (i+1)).any LG):=by
 rw [yL h];rfl
def Tv (h:Rl P L) (qH:Has P L 316 C9) {v:AV} {l:List Rat} (hv:iX v (l.map RT)) (hl:l.length<=1000000) {K:Nat} (hs:∀r,r∈l->Hq K r) (hK:K<=4000000000):ae P L 316 [v] (aa (if l.any LG=true then 4 else 0)):=by
 have hlen:(l.map RT).length=l.length:=by simp
 have key:=cg (P:=P) (L:=L) (live:=[0,3]) (a:=EI)
  (I:=fun k st=>∃i:Nat,st=⟨[(0,v),(3,aa i)],[],0,0⟩/\i+k=l.length/\(l.drop i).any LG=l.any LG)
  (Q:=fun ex st=>∃tm ct,st=⟨tm,[],ct,0⟩/\((ex= .ret/\af tm 2=aa 4/\l.any LG=true)\/(ex= .exit 0/\l.any LG=false))) ?_
 ·unfold ae;rw [av qH];simp only [go_sem,C9];generalize hq:D P L (.loop [0,3] EI) _=q;obtain ⟨ex,st,rfl,tm,ct,rfl,h2⟩:=bP hq (key l.length) ⟨0,by simp only [go_sem,ya,ay,aJ hv.pu,aO _ hv.pu]<;>rfl,by omega,by simp⟩
  rcases h2 with ⟨rfl,h2,h3⟩ | ⟨rfl,h3⟩
  ·simp only [go_sem,h2,h3,y5]
  ·simp only [go_sem,ay,h3];rfl
 ·rintro k st ⟨i,rfl,hk,hd⟩;by_cases hi:i<l.length
  ·rw [aj3 hi] at hd;have e1:=Tu h (hs l[i] (vM hi)) hK;have ev:=hv.bk (i:=i) (by simpa using hi);rw [List.getElem_map] at ev
   cases hb:LG l[i] with
   | false=>
    left
    rw [hb,vl] at hd;rw [hb] at e1;simp only [yD,yO] at e1;simp only [go_sem,ya,EI,hv.len,hlen,show (i:Int)<l.length by omega,ev,e1,yq,yH];refine ⟨_,k-1,rfl,by omega,i+1,?_,by omega,hd⟩;rw [wrap64 (by omega) (by omega)];simp only [go_sem,ya,ay,aJ hv.pu,aO _ hv.pu]<;>rfl
   | true=>
    right
    rw [hb,uO] at hd;rw [hb] at e1;simp only [y5] at e1;simp only [go_sem,ya,EI,hv.len,hlen,show (i:Int)<l.length by omega,ev,e1,show ¬(4:Int)=0 by decide,yo,yF];exact ⟨_,_,rfl,by simp,_,_,rfl,.inl ⟨rfl,by simp only [go_sem],hd.symm⟩⟩
  ·right
   simp only [go_sem,ya,EI,hv.len,hlen,show ¬(i:Int)<l.length by omega];refine ⟨_,_,rfl,by simp,_,_,rfl,.inr ⟨rfl,?_⟩⟩;rw [<-hd,y8 (by omega)];rfl
end
end
section
open Go (IntKind)
open Classical in
noncomputable def aM (s:List Nat):Rat:=if h:aY s=0 then Classical.choose (asP h) else 0
def sR {s:List Nat} (h:aY s=0):s=RT (aM s)/\(aw (aM s).num.natAbs).length<=600/\(aw (aM s).den).length<=600:=by
 unfold aM
 grind
def ZV {z:Int} {k M:Nat} (h:(aw z.natAbs).length<=k) (hM:4*k<=M):Bd M z:=by
 have h1:=Iq z.natAbs;have h2:=Ir (aw z.natAbs).length;have h3:(2:Nat)^(4*(aw z.natAbs).length)<=2^M:=xP (by decide) (by omega);exact yN h1 (xj h2 h3)
def iG {s:List Nat} (h:aY s=0) {M:Nat} (hM:2400<=M):Hq M (aM s):=by
 obtain ⟨_,h1,h2⟩:=sR h
 exact ⟨ZV h1 (by omega),ZV (z:=((aM s).den:Int)) (by rw [wK];exact h2) (by omega)⟩
noncomputable def jg (s:List Nat) (least:Int):Int:=if aY s=0 then (if cf (aM s).num<least then 3 else 0) else aY s
def Su {s:List Nat} {m:Int} (h:jg s m=0):aY s=0/\m<=cf (aM s).num:=by
 unfold jg at h
 grind
abbrev dI (x y:List Nat):AV:= .agg [.str x,.str y]
abbrev gh (a b:Rat):AV:= .agg [.str (RT a),.str (RT b)]
instance (k:Nat) (z:Int):Decidable (Bd k z):=inferInstanceAs (Decidable (z.natAbs<2^k))
def agA:RT 0=[48]:=by decide
def O3:RT 1=[49]:=by decide
def Kc:Hq 2 0:=⟨by decide,by decide⟩
def lm:Hq 2 1:=⟨by decide,by decide⟩
def aqw {a:Rat} (h:RT a=[48]):a=0:=by
 unfold RT at h;have hp:=ri a.den;by_cases hd:a.den=1
 ·rw [yI hd,wc] at h;by_cases h0:a.num<0
  ·rw [mR h0] at h;simp at h
  ·obtain ⟨m,hm⟩:∃m:Nat,a.num=m:=⟨a.num.toNat,by omega⟩;rw [hm,kM] at h;have hv:=Cn m;rw [h] at hv;have hv:some 0=some m:=hv
   have:m=0:=by simp_all
   simp_all
 ·rw [yB hd] at h;have hl:=congrArg List.length h
  grind
def SX (a:Rat):cA (RT a) [48]=decide (a=0):=by
 by_cases h:a=0
 ·subst h;exact SW agA
 ·rw [yR h];exact nJ (fun e=>h (aqw e))
structure S0 (P:aG) (L:Lib):Prop extends Rm P L where
 sD:Has P L 42 KL
 U5:Has P L 261 Oi
 awQ:Has P L 306 Ud
 awR:Has P L 307 Ue
 awS:Has P L 308 Uf
 awT:Has P L 314 JH
structure Sr0 (P:aG) (L:Lib):Prop extends Rx P L,S0 P L where
 awU:Has P L 304 Uc
 Kd:Has P L 305 JG
 U6:Has P L 309 Fo
 awV:Has P L 311 Ou
 Ke:Has P L 315 JI
 awW:Has P L 317 Ug
 awX:Has P L 318 Uh
instance {P:aG} {L:Lib}:Coe (Sr0 P L) (S0 P L):=⟨fun h=>h.toS0⟩
section
variable {P:aG} {L:Lib}
def agB (h:S0 P L) {s:List Nat} (hl:s.length<=1000000000) (m:Int):ae P L 314 [.str s,aa m] (aa (jg s m)):=by
 have e1:=U3 h.toRm hl;unfold ae at e1 ⊢;rw [av h.awT];unfold jg;by_cases h0:aY s=0
 ·obtain ⟨h1,_⟩:=sR h0;have e2:=Tt h.toRm (iG h0 (yC 2400)) (by omega);rw [<-h1] at e2;rw [h0] at e1;rw [yI h0];by_cases h2:cf (aM s).num<m
  ·rw [yI h2];simp only [go_sem,ya,JH,e1,yq,e2,h2]
  ·rw [yB h2];simp only [go_sem,ya,JH,e1,yq,e2,h2]
 ·rw [yB h0];simp only [go_sem,ya,JH,e1,h0,yo]
def agC (h:S0 P L) {s:List Nat} (hl:s.length<=1000000000):ae P L 307 [.str s] (aa (jg s 0)):=by
 have e1:=agB h hl 0;unfold ae at e1 ⊢;rw [av h.awR];simp only [go_sem,ya,Ue,e1]
def Kf (h:S0 P L) {x y:List Nat} (hx:x.length<=1000000000) (hy:y.length<=1000000000):ae P L 308 [dI x y] (aa (bj [aY x,aY y])):=by
 have e1:=auJ h.toRm h.U5 (Cx true [x,y]) (by simp) (fun s hs=>by simp at hs;rcases hs with rfl | rfl<;>assumption)
 simp only [yr,yE,yd,yb,yU,xU] at e1;unfold ae at e1 ⊢;rw [av h.awS];simp only [go_sem,ya,yb,yt,ye,yh,Uf,aB,aV,yd,bU,e1]
def agD (h:S0 P L) {x y s:List Nat} (hx:x.length<=1000000000) (hy:y.length<=1000000000) (hs:s.length<=1000000000):ae P L 306 [.agg [.str x,.str y,.str s]] (aa (bj [bj [aY x,aY y],jg s 0])):=by
 have e1:=Kf h hx hy;have e2:=agC h hs;have e3:=Wq h.sD (fm true [bj [aY x,aY y],jg s 0]) (by simp);simp only [yr,yE,yd,yb,yU,xU] at e3;unfold ae at e1 e2 ⊢;rw [av h.awQ];simp only [go_sem,ya,yb,yt,ye,yh,Ud,aZ,aB,aV,yd,dl,e1,e2,show xm 2 [AV.str x,.str y,.str s]=[.str s] from rfl,e3]
def awY (h:Sr0 P L) {x y s:List Nat} (hx:x.length<9223372036854775808) (hy:y.length<9223372036854775808) (hs:s.length<9223372036854775808):ae P L 304 [.agg [.str x,.str y,.str s]] (.bool (jO [x,y,s])):=by
 have e1:=U4 h.Kd (Cx true [x,y,s]) (by simp) (fun t ht=>by simp at ht;rcases ht with rfl | rfl | rfl<;>omega)
 simp only [yr,yE,yd,yb,yU,xU] at e1;unfold ae at e1 ⊢;rw [av h.awU];simp only [go_sem,ya,yb,yt,ye,yh,Uc,aB,aV,yd,bU,show xm 2 [AV.str x,.str y,.str s]=[.str s] from rfl,e1]
def awZ (h:Rp P L) (Ke:Has P L 315 JI) {a b:Rat} {K M:Nat} (ka:Hq K a) (kb:Hq M b) (hK:K+M+1<=8000000000):ae P L 315 [.str (RT a),.str (RT b)] (aa (cf (a-b).num)):=by
 have e1:=CX h ka kb hK;have e2:=Tt h.toRm (ka.sub kb) hK;unfold ae at e1 e2 ⊢;rw [av Ke];simp only [go_sem,ya,JI,e1,e2]
def Kg (h:Sr0 P L) {a b t c d:Rat} {K M J:Nat} (ka:Hq K a) (kb:Hq K b) (kt:Hq M t) (kc:Hq J c) (kd:Hq J d) (hK:K+M+J+1<=8000000000):ae P L 318 [gh a b,.str (RT t),gh c d] (gh (a+t*c) (b+t*d)):=by
 have e1:=rF h.toRn kt kc (by omega);have e2:=NM h.toRp ka (kt.mul kc) (by omega);have e3:=rF h.toRn kt kd (by omega);have e4:=NM h.toRp kb (kt.mul kd) (by omega);unfold ae at e1 e2 e3 e4 ⊢;rw [av h.awX];simp only [go_sem,ya,yb,ye,Uh,aB,aV,yd,bU,e1,e2,e3,e4,de];rfl
def agE (h:Sr0 P L) {t c d:Rat} {M J:Nat} (kt:Hq M t) (kc:Hq J c) (kd:Hq J d) (hK:M+J+3<=8000000000):ae P L 317 [.str (RT t),gh c d] (gh (t*c) (t*d)):=by
 have e1:=Kg h Kc Kc kt kc kd (by omega);unfold gh at e1;rw [ybh,ybh,agA] at e1;unfold ae at e1 ⊢;rw [av h.awW];simp only [go_sem,ya,yb,ye,Ug,aZ,aB,yd,dl,e1,bl,de];rfl
end
end
section
open Go (IntKind)
def Yq (q:Rat):q.num<0↔q<0:=by
 have h:=@Rat.num_nonneg q;constructor
 ·intro h1;exact ybu.1 (fun h2=>by have:=h.2 h2;omega)
 ·intro h1;rcases ybg q.num 0 with h2 | h2
  ·exact h2
  ·exact absurd (h.1 h2) (ybu.2 h1)
def aqx (a b:Rat):cf (a-b).num=zV a b:=by
 unfold cf zV;by_cases h1:a<b
 ·rw [yI ((Yq _).2 (by grind)),yI h1]
 ·rw [yB (fun e=>h1 (by have:=(Yq _).1 e;grind)),yB h1]
  by_cases h2:a=b
  ·subst h2;rw [yI (by rw [Rat.sub_self];rfl),yI rfl]
  ·rw [yB (fun e=>h2 (by have:=yaq.1 e;grind)),yB h2]
def MC (a b:Rat):zV a b<0↔a<b:=by
 unfold zV;by_cases h1:a<b
 ·simp [h1]
 ·rw [yB h1];split<;>simp [h1]
abbrev fj (x y s:List Nat):AV:= .agg [.str x,.str y,.str s]
def zn (hs h:Rat):Bool:=decide (hs=0)||decide (h<hs)
def fw (hs h:Rat):Rat:=if hs=0 then 1 else 1-h/hs
section
variable {P:aG} {L:Lib}
def aw0 (h:Rp P L) (U6:Has P L 309 Fo) (Ke:Has P L 315 JI) {x y:List Nat} {hs hh:Rat} {K M:Nat} (ks:Hq K hs) (kh:Hq M hh) (hK:K+M+1<=8000000000):ae P L 309 [fj x y (RT hs),.str (RT hh)] (.bool (zn hs hh)):=by
 have e1:=awZ h Ke kh ks (by omega);have e0:=SX hs;rw [aqx] at e1;unfold ae at e1 ⊢;rw [av U6];unfold zn;by_cases h0:hs=0
 ·rw [xh h0] at e0;rw [xh h0];simp only [go_sem,ya,yb,Fo,aB,aV,yd,show xm 2 [AV.str x,.str y,.str (RT hs)]=[.str (RT hs)] from rfl,iF,e0,uO]
 ·rw [yR h0] at e0;rw [yR h0];by_cases h1:hh<hs
  ·rw [xh h1]
   have:=(MC hh hs).2 h1
   simp only [go_sem,ya,yb,Fo,aB,aV,yd,show xm 2 [AV.str x,.str y,.str (RT hs)]=[.str (RT hs)] from rfl,iF,e0,e1,this,yq,vl]
  ·rw [yR h1]
   have:¬zV hh hs<0:=fun e=>h1 ((MC hh hs).1 e)
   simp only [go_sem,ya,yb,Fo,aB,aV,yd,show xm 2 [AV.str x,.str y,.str (RT hs)]=[.str (RT hs)] from rfl,iF,e0,e1,this,yo,vl]
def HU {hs hh:Rat} {K M:Nat} (ks:Hq K hs) (kh:Hq M hh):Hq (K+M+3) (fw hs hh):=by
 unfold fw
 split
 ·exact lm.mono (by omega)
 ·exact (lm.sub (kh.div ks)).mono (by omega)
def aw1 (h:Sr0 P L) {dx dy hs hh x y:Rat} {K:Nat} (DU:Hq K dx) (DV:Hq K dy) (ks:Hq K hs) (kh:Hq K hh) (kx:Hq K x) (ky:Hq K y) (hK:K<=100000000):
  ae P L 311 [fj (RT dx) (RT dy) (RT hs),.str (RT hh),gh x y] (gh (fw hs hh*x+hh*dx) (fw hs hh*y+hh*dy)):=by
 have DW:=HU ks kh;have e0:=SX hs;have e3:=agE h DW kx ky (by omega);have e4:=Kg h (DW.mul kx) (DW.mul ky) kh DU DV (by omega);unfold ae at e3 e4 ⊢;rw [av h.awV];by_cases h0:hs=0
 ·rw [xh h0] at e0;have fS:fw hs hh=1:=by unfold fw;rw [yI h0]
  rw [fS] at e3 e4 ⊢;rw [O3] at e3;simp only [go_sem,ya,yb,Ou,aZ,aB,aV,yd,show xm 2 [AV.str (RT dx),.str (RT dy),.str (RT hs)]=[.str (RT hs)] from rfl,sZ,e0,yH,dl,e3,e4,bl,de];rfl
 ·rw [yR h0] at e0;have fS:fw hs hh=1-hh/hs:=by unfold fw;rw [yB h0]
  have e1:=afn h.toRx kh ks (by omega) h0;have e2:=CX h.toRp lm (kh.div ks) (by omega);rw [<-fS,O3] at e2;unfold ae at e1 e2;simp only [go_sem,ya,yb,Ou,aZ,aB,aV,yd,show xm 2 [AV.str (RT dx),.str (RT dy),.str (RT hs)]=[.str (RT hs)] from rfl,sZ,e0,yF,e1,e2,dl,e3,e4,bl,de];rfl
end
end
end VE
