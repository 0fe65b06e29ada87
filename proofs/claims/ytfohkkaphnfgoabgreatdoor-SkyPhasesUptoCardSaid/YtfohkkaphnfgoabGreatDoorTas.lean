import Derived.Test.YtfohkkaphnfgoabGreatDoorTar
import Derived.Test.YtfohkkaphnfgoabGreatDoorTan
import Derived.Test.YtfohkkaphnfgoabGreatDoorTaq
import Derived.Test.YtfohkkaphnfgoabGreatDoorTak
import Derived.Test.YtfohkkaphnfgoabGreatDoorTai
set_option linter.all false
set_option maxRecDepth 100000
open Bool renaming and_self→wB,and_true→uv,false_and→wA,false_eq_true→yC,false_or→wY,not_false→yG,not_true→yK,or_self→ybe,true_and→wh,true_eq_false→tP,true_or→uk
open Int renaming gcd→wI,natAbs_ediv_of_dvd→vO,natAbs_natCast→wS,neg_neg→ybd
open Int.ofNat renaming inj→tO
open List renaming append_nil→wC,drop→xo,drop_eq_getElem_cons→yJ,drop_eq_nil_of_le→yP,drop_zero→yi,eq_nil_of_length_eq_zero→yD,getElem_cons_zero→tg,getElem_mem→xr,length_cons→yu,length_drop→xY,length_map→yY,length_nil→yA,length_take→yQ,map_append→xy,map_cons→yS,map_nil→xH,nil_append→xW,take_length→xM
open Nat renaming ble→yB,ble_eq_true_of_le→yz,eq_zero_or_pos→xm,gcd→wo,le_of_ble_eq_true→yr,le_refl→yv,le_trans→xj,lt_of_lt_of_le→yN,mul_one→yj,one_lt_two_pow→wT,pow_le_pow_left→uh,pow_le_pow_right→xA,reduceAdd→yb,reduceEqDiff→ya,reduceLT→yq,reduceLeDiff→yh,reduceMul→xt,zero_add→yd
open Rat renaming den_intCast→wG,divInt→xT,floor_def→uP,mul_comm→vG,num_eq_zero→yau,num_intCast→wF,one_mul→ybf,zero_add→ybm
namespace VE
section
open Go (IntKind)
def LZ {n:Int} {d:Nat} (h:n<0):TT n d=45::TT (-n) d:=by
 have e:aW (-n)=ax n.natAbs:=by
  rw [<-mC,yF (show ¬-n<0 by omega),xW,show (-n).natAbs=n.natAbs by omega]
 unfold TT;rw [lZ h,e];rfl
def anU {n:Int} {d:Nat} (h:¬n<0):∃b u,TT n d=b::u/\48<=b:=by
 obtain ⟨b,r,hb,h1,_⟩:=Dx n.natAbs;refine ⟨b,r++(if d=1 then [] else 47::ax d),?_,h1⟩;unfold TT;rw [<-mC,yF h,xW,hb];rfl
def dX (a b:AV) (r:List AV):eY 2 true (a::b::r)=some (.agg [a,b]):=rfl
def anV (k:Nat):2^k<=1000000000^k:=uh (by decide) k
def Bd.r {k:Nat} {z:Int} (h:Bd k z):z.natAbs<1000000000^k:=yN h (anV k)
def H7 (r:Rat):RT r=TT r.num r.den:=rfl
def ZM {n d:Int} (hd:0<d):RT (xT n d)=n5 n d:=by
 obtain ⟨h1,h2⟩:=Kw (a:=n) hd;rw [anw hd,H7,h1]
 congr 1
 exact tO (show ((xT n d).den:Int)=((dd n d).toNat:Int) by rw [h2];have:=G3 (a:=n) hd;unfold dd at this ⊢;omega)
structure Rm (P:aI) (L:Lib):Prop extends Rb P L where
 auj:Has P L 263 df
 Tf:Has P L 273 Cj
 auk:Has P L 284 Sg
 aul:Has P L 285 M0
 aum:Has P L 286 M1
 Jb:Has P L 287 IB
 pc:Has P L 301 sC
structure Rl (P:aI) (L:Lib):Prop extends Rm P L where
 aun:Has P L 269 Ix
structure Rp (P:aI) (L:Lib):Prop extends Ras P L,Rm P L
structure Rn (P:aI) (L:Lib):Prop extends Ra P L,Rp P L
structure Rx (P:aI) (L:Lib):Prop extends Rn P L,Rl P L where
 Tg:Has P L 266 MV
 Jc:Has P L 283 IA
section
variable {P:aI} {L:Lib}
def RJ (h:Rm P L) {v w:AV} {a b:List Int} (hv:bk v a) (hw:bk w b) (ha:dg a) (hb:dg b) (na:nz a) (nb:nz b) (la:a.length<=8000000000) (lb:b.length<=8000000000) (h0:0<dv b):
  ∃q r lq lr,ae P L 289 [v,w] (.aq [q,r])/\bk q lq/\bk r lr/\dg lq/\nz lq/\dg lr/\nz lr/\dv lq=dv a/dv b/\dv lr=dv a%dv b:=
 acX h.I9 h.jY h.mV h.n9 h.cJ h.pc hv hw ha hb na nb la lb h0
def aqA (h:Rm P L) {x y:AV} {a b:List Int} {n d:Int} {K:Nat} (hK:K<=8000000000) (hx:bk x a) (ha:dg a) (na:nz a) (va:dv a=n.natAbs) (hy:bk y b) (hb:dg b) (nb:nz b) (vb:dv b=d.natAbs) (kn:Bd K n) (kd:Bd K d) (hd:0<d) {tm:Env} (t2:aj tm 2= .ptr 0 0) (t3:aj tm 3= .ptr 1 0):
  fX [.t 4] (D P L (ay (ay mN.body)) ⟨tm,[(1,.cells true true true 2 [.bool (decide (d<0)),y]),(0,.cells true true true 2 [.bool (decide (n<0)),x])],2,0⟩)=some (.str (RT (xT n d))):=by
 rw [ZM hd];have la:=xj (gT ha na (by rw [va];exact kn.r)) hK
 have lb:=xj (gT hb nb (by rw [vb];exact kd.r)) hK
 obtain ⟨g,lg,e1,hg,Vy,ng,vg⟩:=acY h.aed h.I9 h.jY h.mV h.n9 h.cJ h.pc hx hy ha hb na nb la lb;rw [va,vb,show wo n.natAbs d.natAbs=wI n d from rfl] at vg;have JB:=He (a:=n) hd;have auo:wI n d<=d.natAbs:=Int.gcd_le_natAbs_right n (by omega);have lg1:lg.length<=8000000000:=xj (gT Vy ng (by rw [vg];exact Nat.lt_of_le_of_lt auo kd.r)) hK
 obtain ⟨p,p',lp,lp',e2,hp,an,dp,np,dp',np',vp,vp'⟩:=RJ h hx hg ha Vy na ng la lg1 (by omega);obtain ⟨q,q',lq,lq',e3,hq,bV,dq,nq,dq',nq',vq,vq'⟩:=RJ h hy hg hb Vy nb ng lb lg1 (by omega);rw [va,vg] at vp;rw [vb,vg] at vq;have hrn:(cZ n d).natAbs=n.natAbs/wI n d:=by unfold cZ;rw [vO (Int.gcd_dvd_left n d)];rfl
 have lT:(dd n d).natAbs=d.natAbs/wI n d:=by unfold dd;rw [vO (Int.gcd_dvd_right n d)];rfl
 have hdp:=G3 (a:=n) hd;rw [<-hrn] at vp;rw [<-lT] at vq;have ayN:=abb n d;have Fp:cg (decide (n<0)) (dv lp)=cZ n d:=by
  rw [vp];unfold cg;by_cases h0:n<0
  ·have:¬0<=cZ n d:=fun h1=>by have:=Int.mul_nonneg (Int.le_of_lt JB) h1;omega
   simp only [h0,yo,xh];omega
  ·have:¬cZ n d<0:=fun h1=>by have:=Int.mul_neg_of_pos_of_neg JB h1;omega
   simp only [h0,yp,yC,y8];omega
 have kn':Bd K (cZ n d):=kn.le (YE n d);have TI:Bd K (dd n d):=kd.le (YF n d);have lp1:lp.length<=8000000000:=xj (gT dp np (by rw [vp];exact kn'.r)) hK
 have Kb:lq.length<=8000000000:=xj (gT dq nq (by rw [vq];exact TI.r)) hK
 obtain ⟨s,e4,hs⟩:=mT h.gK h.cJ (decide (n<0)) hp dp (by omega);rw [Fp] at hs;obtain ⟨e5,l5⟩:=Ny (K:=K) h.Nz h.mP (by omega) hs kn'.r;obtain ⟨u,e6,hu⟩:=mT h.gK h.cJ false hq dq (by omega);have ze:cg false (dv lq)=dd n d:=by rw [vq];unfold cg;simp only [yC,y8];omega
 rw [ze] at hu;obtain ⟨e7,l7⟩:=Ny (K:=K) h.Nz h.mP (by omega) hu TI.r;obtain ⟨sw,sl,rfl,fO,_,_,_⟩:=hs;obtain ⟨uw,ul,rfl,huw,_,_,_⟩:=hu;have ayy:0<lq.length:=by
  rcases xm lq.length with e | e
  ·rw [yD e] at vq;simp [dv] at vq;omega
  ·exact e
 by_cases OM:lq.length=1
 ·obtain ⟨z,rfl⟩:∃z,lq=[z]:=by
   cases lq with
   | nil=>simp at OM
   | cons z r=>cases r with
    | nil=>exact ⟨z,rfl⟩
    | cons y r=>simp at OM
  have Kl:z=dd n d:=by simp [dv] at vq;omega
  have e8:=hq.a8 (i:=0) (by simp);simp only [tg] at e8;by_cases h1:dd n d=1
  ·have hT:n5 n d=aW (cZ n d):=by unfold n5;rw [yL h1]
   rw [hT];simp only [go_sem,ya,mN,ay,t2,t3,hx.af,hy.af,aZ,yd,bX,show ¬d<0 by omega,yp,e1,hg.af,hg.shut,e2,hp.af,hp.bT,an.bT,e3,hq.len,hq.bT,bV.bT,e4,fO.af,aY,bm,e5,yu,yA,show ((1:Nat):Int)=(1:Int) from rfl,yo,e8,Kl,h1]
  ·have hT:n5 n d=(aW (cZ n d)++[47])++aW (dd n d):=by unfold n5;rw [yF h1]
   rw [hT]
   simp only [go_sem,ya,mN,ay,t2,t3,hx.af,hy.af,aZ,yd,bX,show ¬d<0 by omega,yp,e1,hg.af,hg.shut,e2,hp.af,hp.bT,an.bT,e3,hq.len,hq.af,hq.bT,bV.bT,e4,fO.af,aY,bm,e5,yu,yA,show ((1:Nat):Int)=(1:Int) from rfl,yo,e8,Kl,h1,fS (a:=aW (cZ n d)) (b:=[47]) (by simp;omega),e6,huw.af,e7,fS (a:=aW (cZ n d)++[47]) (b:=aW (dd n d)) (by simp;omega)]
 ·have h1:¬dd n d=1:=fun h1=>OM (by
   have h2:lq.length<=1:=Qv dq nq (by rw [vq,h1];decide)
   omega)
  have hT:n5 n d=(aW (cZ n d)++[47])++aW (dd n d):=by unfold n5;rw [yF h1]
  rw [hT]
  simp only [go_sem,ya,mN,ay,t2,t3,hx.af,hy.af,aZ,yd,bX,show ¬d<0 by omega,yp,e1,hg.af,hg.shut,e2,hp.af,hp.bT,an.bT,e3,hq.len,hq.af,hq.bT,bV.bT,e4,fO.af,aY,bm,e5,show ¬(lq.length:Int)=1 by omega,fS (a:=aW (cZ n d)) (b:=[47]) (by simp;omega),e6,huw.af,e7,fS (a:=aW (cZ n d)++[47]) (b:=aW (dd n d)) (by simp;omega)]
def agS (n d:Int):xT (-n) (-d)=xT n d:=by rw [Rat.divInt_neg',ybd]
def RL (h:Rm P L) {v w:AV} {n d:Int} {K:Nat} (hK:K<=8000000000) (hv:iq v n) (hw:iq w d) (kn:Bd K n) (kd:Bd K d) (hd:d≠0):ae P L 280 [v,w] (.str (RT (xT n d))):=by
 have fin:∀{x y:AV} {a b:List Int} {n' d':Int},bk x a->dg a->nz a->dv a=n'.natAbs->bk y b->dg b->nz b->dv b=d'.natAbs->Bd K n'->Bd K d'->0<d'->xT n' d'=xT n d->∀tm,aj tm 2= .ptr 0 0->aj tm 3= .ptr 1 0->
   D P L (.seq (bE mN.body) (bE (ay mN.body))) ⟨[(0,v),(1,w)],[],0,0⟩=some (.normal,⟨tm,[(1,.cells true true true 2 [.bool (decide (d'<0)),y]),(0,.cells true true true 2 [.bool (decide (n'<0)),x])],2,0⟩)->ae P L 280 [v,w] (.str (RT (xT n d))):=fun {x y a b n' d'} hx ha na va hy hb nb vb kn kd hd hq tm t2 t3 e=>by
  unfold ae;rw [au h.aub];show fX [.t 4] (D P L (.seq (bE mN.body) (.seq (bE (ay mN.body)) (ay (ay mN.body)))) ⟨[(0,v),(1,w)],[],0,0⟩)=_
  rw [Bv,e,gQ,<-hq];exact aqA h hK hx ha na va hy hb nb vb kn kd hd t2 t3
 have ef:=hv;have Vb:=hw;obtain ⟨x,a,rfl,hx,ha,na,va⟩:=hv;obtain ⟨y,b,rfl,hy,hb,nb,vb⟩:=hw;by_cases h0:d<0
 ·obtain ⟨r,e1,hr⟩:=adM (K:=K) h.aeg h.gK h.cJ (by omega) ef kn.r;obtain ⟨s,e2,hs⟩:=adM (K:=K) h.aeg h.gK h.cJ (by omega) Vb kd.r;obtain ⟨x',a',rfl,C2,CJ,na',va'⟩:=hr;obtain ⟨y',b',rfl,ns,cO,nb',vb'⟩:=hs;simp only [h0,yo] at e2
  refine fin C2 CJ na' va' ns cO nb' vb' kn.neg kd.neg (by omega) (agS n d) _ ?_ ?_ (by
   simp only [go_sem,ya,yb,mN,bE,ay,aG,hx.pu,hx.af,hx.one,hy.pu,hy.af,hy.one,C2.pu,C2.one,ns.pu,ns.one,aZ,yd,h0,yo,dX,aY,e1,e2,bm,dj]<;>rfl)<;>simp only [go_sem,ya]
 ·refine fin hx ha na va hy hb nb vb kn kd (by omega) rfl _ ?_ ?_ (by simp only [go_sem,ya,yb,mN,bE,ay,aG,hx.pu,hx.one,hy.pu,hy.one,aZ,yd,h0,yp]<;>rfl)<;>simp only [go_sem,ya]
end
end
section
open Go (IntKind)
def asc (z:Int) (m:Nat) (h:z.natAbs=m):(z.tdiv 1000000000).natAbs=m/1000000000/\(if z.tmod 1000000000<0 then 0-z.tmod 1000000000 else z.tmod 1000000000)=((m%1000000000:Nat):Int)/\(z<0->z.tdiv 1000000000<=0)/\(0<=z->0<=z.tdiv 1000000000):=by
 rcases Int.lt_or_le z 0 with h0 | h0
 ·obtain ⟨n,rfl⟩:∃n:Nat,z= -(n:Int):=⟨z.natAbs,by omega⟩;rw [Int.neg_tdiv,Int.neg_tmod,Int.tdiv_eq_ediv_of_nonneg (by omega),Int.tmod_eq_emod_of_nonneg (by omega)]
  grind
 ·grind
section
variable {P:aI} {L:Lib}
def aqB {neg:Bool} {N:Nat} (hN:N<=9223372036854775808):
  ∀k s,(∃(i:Nat) (z:Int) (out:List Int),z.natAbs=k/\out.length=i/\dg out/\dv out+1000000000^i*z.natAbs=N/\(neg=true->z<=0)/\(neg=false->0<=z)/\i<=3/\
    ((i=0/\bf [0,2,3,4] s=⟨[(0,aa z),(2,.ptr 0 0),(3,.ab),(4,.bool neg)],[(0,.cells true true true 2 [.bool false,.ab])],1,0⟩)\/
    (0<i/\bf [0,2,3,4] s=⟨[(0,aa z),(2,.ptr 0 0),(3,.aE 1 0 i),(4,.bool neg)],[(1,.cells true true false 1 (out.map aa)),(0,.cells true true true 2 [.bool false,.ab])],2,0⟩)))->
   ∃ex s',D P L (.loop [0,2,3,4] pT) s=some (ex,s')/\∃tm i out,ex= .exit 0/\out.length=i/\i<=3/\dg out/\dv out=N/\aj tm 2= .ptr 0 0/\aj tm 4= .bool neg/\
    ((i=0/\aj tm 3= .ab/\s'=⟨tm,[(0,.cells true true true 2 [.bool false,.ab])],1,0⟩)\/(0<i/\aj tm 3= .aE 1 0 i/\s'=⟨tm,[(1,.cells true true false 1 (out.map aa)),(0,.cells true true true 2 [.bool false,.ab])],2,0⟩)):=by
 intro dq sq;generalize bQ:bf [0,2,3,4] sq=s0;revert bQ s0 sq dq;apply eO;rintro k s ⟨i,z,out,rfl,hlen,hd,aQ,lR,lS,hi3,hs⟩;by_cases hz:z=0
 ·right
  subst hz;have hv:dv out=N:=by simpa using aQ
  rcases hs with ⟨h0,rfl⟩ | ⟨h0,rfl⟩
  ·simp only [go_sem,pT,yo,yK];exact ⟨_,_,rfl,by simp,_,i,out,rfl,hlen,hi3,hd,hv,by simp only [go_sem,ya],by simp only [go_sem,ya],.inl ⟨h0,by simp only [go_sem,ya],rfl⟩⟩
  ·simp only [go_sem,pT,yo,yK];exact ⟨_,_,rfl,by simp,_,i,out,rfl,hlen,hi3,hd,hv,by simp only [go_sem,ya],by simp only [go_sem,ya],.inr ⟨h0,by simp only [go_sem,ya],rfl⟩⟩
 ·left
  obtain ⟨m,hm⟩:∃m,z.natAbs=m:=⟨_,rfl⟩;have OI:0<m:=by omega
  rw [hm] at aQ;have hi2:i<3:=by
   rcases Nat.lt_or_ge i 3 with h | h
   ·exact h
   ·have e3:i=3:=by omega
    subst e3
    have:=Nat.mul_le_mul_left (1000000000^3) OI
    omega
  have hmN:m<=9223372036854775808:=by
   have:=Nat.le_mul_of_pos_left m (Nat.pow_pos (n:=i) (show 0<1000000000 by decide))
   omega
  obtain ⟨d1,d2,d3,d4⟩:=asc z m hm;have eU:=Nat.mod_add_div m 1000000000;have oZ:dg (out++[((m%1000000000:Nat):Int)]):=gB.2 ⟨hd,jc.2 (by omega)⟩;have Mn:dv (out++[((m%1000000000:Nat):Int)])+1000000000^(i+1)*(m/1000000000)=N:=by
   rw [kZ,hlen,<-aQ,Nat.pow_succ,Nat.mul_assoc];have e:1000000000^i*m=1000000000^i*(m%1000000000)+1000000000^i*(1000000000*(m/1000000000)):=by rw [<-Nat.mul_add,eU]
   rw [e];simp only [dv,Int.toNat_natCast,Nat.mul_zero,Nat.add_zero];omega
  have ri:IntKind.wrap .i64 (z.tdiv 1000000000)=z.tdiv 1000000000:=wrap64 (by omega) (by omega);have kO: -9223372036854775808<=z.tmod 1000000000/\z.tmod 1000000000<1000000000:=by
   have h1:(z.tmod 1000000000).natAbs<1000000000:=by
    split at d2<;>omega
   omega
  have so:(neg=true->z.tdiv 1000000000<=0)/\(neg=false->0<=z.tdiv 1000000000):=⟨fun h=>d3 (by have:=lR h;omega),fun h=>d4 (lS h)⟩;have a6:(z.tdiv 1000000000).natAbs<m:=by rw [d1];omega
  obtain ⟨z',dZ⟩:∃z',z.tdiv 1000000000=z':=⟨_,rfl⟩;rw [dZ] at d1 d3 d4 ri so a6;have cT:dv (out++[((m%1000000000:Nat):Int)])+1000000000^(i+1)*z'.natAbs=N:=by rw [d1];exact Mn
  generalize m%1000000000=r at*
  by_cases fk:z.tmod 1000000000<0
  ·rw [yL fk] at d2;rcases hs with ⟨h0,rfl⟩ | ⟨h0,rfl⟩
   ·subst h0;have iE:out=[]:=yD hlen;subst iE
    simp only [go_sem,ya,yb,xt,yq,yh,yj,pT,yp,hz,yG,fo _ _ _ (show (1000000000:Int)≠0 by decide),eV _ _ _ (show (1000000000:Int)≠0 by decide),fk,d2,wrapN (n:=r) (by omega),ix,dZ,ri];refine ⟨_,z'.natAbs,rfl,by omega,1,z',[]++[(r:Int)],rfl,rfl,oZ,cT,so.1,so.2,by omega,.inr ⟨by omega,?_⟩⟩;simp only [go_sem,ya,yb,ao]<;>rfl
   ·simp only [go_sem,ya,yb,yh,yj,pT,yp,hz,yG,fo _ _ _ (show (1000000000:Int)≠0 by decide),fk,d2,wrapN (n:=r) (by omega)]
    rw [hZ (ex:=false) (pu:=true) (cs:=out.map aa) (by simp only [go_sem,ya]) (by rw [yY,hlen,yj]) (by omega) (by omega) (by decide) (by simp only [go_sem])];simp only [go_sem,ya,yb,eV _ _ _ (show (1000000000:Int)≠0 by decide),dZ,ri];refine ⟨_,z'.natAbs,rfl,by omega,i+1,z',out++[(r:Int)],rfl,by simp [hlen],oZ,cT,so.1,so.2,by omega,.inr ⟨by omega,?_⟩⟩;rw [xy];simp only [go_sem,ya,yb,ao]<;>rfl
  ·rw [yF fk] at d2;rcases hs with ⟨h0,rfl⟩ | ⟨h0,rfl⟩
   ·subst h0;have iE:out=[]:=yD hlen;subst iE;simp only [go_sem,ya,yb,xt,yq,yh,yj,pT,yp,hz,yG,fo _ _ _ (show (1000000000:Int)≠0 by decide),eV _ _ _ (show (1000000000:Int)≠0 by decide),d2,show ¬((r:Nat):Int)<0 by omega,ix,dZ,ri];refine ⟨_,z'.natAbs,rfl,by omega,1,z',[]++[(r:Int)],rfl,rfl,oZ,cT,so.1,so.2,by omega,.inr ⟨by omega,?_⟩⟩;simp only [go_sem,ya,yb,ao]<;>rfl
   ·simp only [go_sem,ya,yb,yh,yj,pT,yp,hz,yG,fo _ _ _ (show (1000000000:Int)≠0 by decide),d2,show ¬((r:Nat):Int)<0 by omega]
    rw [hZ (ex:=false) (pu:=true) (cs:=out.map aa) (by simp only [go_sem,ya]) (by rw [yY,hlen,yj]) (by omega) (by omega) (by decide) (by simp only [go_sem])];simp only [go_sem,ya,yb,eV _ _ _ (show (1000000000:Int)≠0 by decide),dZ,ri];refine ⟨_,z'.natAbs,rfl,by omega,i+1,z',out++[(r:Int)],rfl,by simp [hlen],oZ,cT,so.1,so.2,by omega,.inr ⟨by omega,?_⟩⟩;rw [xy];simp only [go_sem,ya,yb,ao]<;>rfl
def ZN {n:Int} (h: -9223372036854775808<=n/\n<9223372036854775808):n.natAbs<=9223372036854775808:=by omega
def ZO (n:Int):cg (decide (n<0)) n.natAbs=n:=by
 unfold cg
 grind
def asd (h:Rm P L) {n:Int} (hn: -9223372036854775808<=n/\n<9223372036854775808):∃r,ae P L 281 [aa n] r/\iq r n:=by
 have key:=fun s=>aqB (P:=P) (L:=L) (neg:=decide (n<0)) (ZN hn) n.natAbs s
 unfold ae;rw [au h.aee];simp only [go_sem,ya,yb,MZ,aG];generalize hq:D P L (.loop [0,2,3,4] pT) _=q;obtain ⟨ex,s,rfl,tm,i,out,rfl,hlen,hi,hd,aQ,t2,t4,B8⟩:=bI hq key (by
  refine ⟨0,n,[],rfl,rfl,rfl,by simp [dv],fun h=>by simp at h;omega,fun h=>by simp at h;omega,by omega,.inl ⟨rfl,?_⟩⟩
  simp only [go_sem,ya,yb,ao]<;>rfl)
 rcases B8 with ⟨pD,t3,rfl⟩ | ⟨pD,t3,rfl⟩
 ·subst pD;have iE:out=[]:=yD hlen;subst iE;obtain ⟨r,e,hr⟩:=mT h.gK h.cJ (decide (n<0)) (show bk .ab [] from lh) hd (by simp);rw [aQ,ZO] at hr;have bY:=hr;obtain ⟨w,l,rfl,hw,_,_,_⟩:=bY;refine ⟨_,?_,hr⟩;simp only [go_sem,ya,yb,ao,t2,t3,t4,e,hw.pu,hw.one,bm,dj];rcases hw with ⟨rfl,_⟩ | ⟨e,rfl⟩<;>rfl
 ·have hI:=fb false out;rw [hlen] at hI;obtain ⟨r,e,hr⟩:=mT h.gK h.cJ (decide (n<0)) hI hd (by omega);rw [aQ,ZO] at hr;have bY:=hr;obtain ⟨w,l,rfl,hw,_,_,_⟩:=bY;refine ⟨_,?_,hr⟩
  simp only [go_sem,ya,yb,ao,t2,t3,t4,fun hp=>pM (hp:=hp) (k:=i) (sz:=1) (cs:=out.map aa) false (by simp [hlen]) (by decide),e,hw.pu,hw.one,bm,dj];rcases hw with ⟨rfl,_⟩ | ⟨e,rfl⟩<;>rfl
def Q3 (n:Int):RT (n:Rat)=aW n:=by unfold RT;simp
def RM (h:Rm P L) (qG:Has P L 265 Ew) {n:Int} (hn: -9223372036854775808<=n/\n<9223372036854775808):ae P L 265 [aa n] (.str (RT (n:Rat))):=by
 obtain ⟨r,e,hr⟩:=asd h hn;obtain ⟨e2,_⟩:=Ny (K:=8) h.Nz h.mP (by omega) hr (by have:=ZN hn;omega);rw [Q3];obtain ⟨w,l,rfl,hw,_,_,_⟩:=hr;unfold ae at e e2 ⊢;rw [au qG];simp only [go_sem,ya,Ew,e,hw.af,bm,aY,e2]
def D7 {K:Nat} {a:Rat} (h:Hq K a):(RT a).length<=2*K+3:=by
 have h1:=GU h.1;have h2:=GU h.2;rw [jI] at h2;unfold RT
 grind
def ZP {K:Nat} {z:Int} (h:Bd K z):(ax z.natAbs).length<=K+1:=by
 have:=GU (z:=(z.natAbs:Int)) (k:=K) (by unfold Bd at h ⊢;omega)
 rwa [jI] at this
def Ef (h:Rm P L) {a:Rat} {K:Nat} (ka:Hq K a) (hK:K<=8000000000):∃x y,ae P L 274 [.str (RT a)] (.aq [x,y])/\iq x a.num/\iq y (a.den:Int):=by
 have h1:=ZP ka.1;have h2:=ZP ka.2
 exact ael h.toRb (n:=a.num) (d:=a.den) (by omega) (by simpa using (by omega:(ax ((a.den:Int)).natAbs).length<=144000000000))
def ac0 (h:Rm P L) {n:Int} {d:Nat} (hl:(TT n d).length<=100000000000) (h00:n=0->d=1):ae P L 262 [.str (TT n d)] (aa (cA n)):=by
 unfold ae;rw [au h.at7];by_cases h0:n<0
 ·have fC:=acZ (n:=n) (d:=d) (by omega);rw [LZ h0] at fC ⊢;simp only [go_sem,ya,It,iz,fC,show (0:Int)<(((TT (-n) d).length+1:Nat):Int) by omega,Ct,yo];unfold cA;rw [yL h0]
 ·by_cases h1:n=0
  ·subst h1
   have:=h00 rfl
   subst this;rw [show TT 0 1=[48] by decide];simp only [go_sem,ya,It,iz,show cE [48] [48]=true from rfl];rfl
  ·have fC:=acZ (n:=n) (d:=d) h1;obtain ⟨b,u,hb,jo⟩:=anU (d:=d) h0;rw [hb] at fC ⊢;simp only [go_sem,ya,It,iz,fC,show (0:Int)<((u.length+1:Nat):Int) by omega,show mf 0 (.str (b::u))=some (.int .u8 (b:Nat)) from rfl,show ¬((b:Nat):Int)=45 by omega];unfold cA;rw [yF h0,yF h1]
def agr {a:Rat} (h:a.num=0):a.den=1:=by simp_all
def RN (h:Rm P L) {a:Rat} {K:Nat} (ka:Hq K a) (hK:K<=8000000000):ae P L 262 [.str (RT a)] (aa (cA a.num)):=
 ac0 h (by have:=D7 ka;rw [H7] at this;omega) agr
def ase (h:Rp P L) {a:Rat} {K:Nat} (ka:Hq K a) (hK:K<=8000000000):ae P L 268 [.str (RT a)] (.str (RT (-a))):=by
 have e:=RN h.toRm ka hK;have hl:=D7 ka;have en:(-a).num= -a.num:=rfl;have ed:(-a).den=a.den:=rfl;rw [H7] at hl e ⊢;rw [H7,en,ed];generalize a.num=n at*
 generalize a.den=d at*
 unfold ae at e ⊢;rw [au h.auc];by_cases h0:n<0
 ·have es:cA n= -1:=by unfold cA;rw [yL h0]
  rw [es,LZ h0] at e;rw [LZ h0] at hl ⊢;have hc:gX (45::TT (-n) d) (some 1) (some ((TT (-n) d).length+1))=some (.str (TT (-n) d)):=by rw [kB (s:=45::TT (-n) d) (l:=1) (h:=(TT (-n) d).length+1) (by omega) (by simp)];simp
  simp only [go_sem,ya,Iw,e,show (-1:Int)<0 by decide,ew,eK,du,hc]
 ·by_cases h1:n=0
  ·subst h1;have es:cA 0=0:=rfl;rw [es] at e;simp only [go_sem,ya,Iw,e,show ¬(0:Int)<0 by decide,yo,Int.neg_zero]
  ·have es:cA n=1:=by unfold cA;rw [yF h0,yF h1]
   rw [es] at e
   have:TT (-n) d=45::TT n d:=by rw [LZ (by omega),ybd]
   rw [this]
   simp only [go_sem,ya,Iw,e,show ¬(1:Int)<0 by decide,show ¬(1:Int)=0 by decide,fS (a:=[45]) (b:=TT n d) (by simp;omega),List.cons_append,xW]
end
end
section
open Go (IntKind)
def ZQ (n:Int) (d:Nat):QT true n d= .aq [aa n,aa d,.bool true]:=rfl
def H8 {a b:Int} (ha:a.natAbs<1000000000) (hb:b.natAbs<1000000000):(a*b).natAbs<1000000000000000000:=by
 rw [Int.natAbs_mul];exact yN (Nat.mul_lt_mul'' ha hb) (by decide)
section
variable {P:aI} {L:Lib}
def ac1 (h:Rm P L) {a b:Int} (ha: -4000000000000000000<=a/\a<=4000000000000000000) (hb:0<b/\b<=4000000000000000000):ae P L 277 [aa a,aa b] (.str (RT (xT a b))):=by
 rw [ZM hb.1];exact as6 h.aua h.SE h.mP ha hb
def Mo (h:Rp P L) {a:Rat} {K:Nat} (ka:Hq K a) (hK:K<=8000000000):∃q:Bool,ae P L 276 [.str (RT a)] (QT q a.num a.den)/\(q=true->a.num.natAbs<1000000000/\a.den<1000000000):=
 as7 h.aue h.sF h.sG (n:=a.num) (d:=a.den) (by have:=D7 ka;rw [H7] at this;omega)
def qc (h:Rn P L) {a b:Rat} {K M:Nat} (ka:Hq K a) (kb:Hq M b) (hK:K+M<=8000000000):ae P L 267 [.str (RT a),.str (RT b)] (.str (RT (a*b))):=by
 obtain ⟨q1,e1,b1⟩:=Mo h.toRp ka (by omega);obtain ⟨q2,e2,b2⟩:=Mo h.toRp kb (by omega);have aup:=Dn a b;by_cases hq:(q1=true/\q2=true)
 ·obtain ⟨rfl,rfl⟩:=hq;obtain ⟨b11,b12⟩:=b1 rfl;obtain ⟨b21,b22⟩:=b2 rfl;have p1:=H8 b11 b21;have p2:=H8 (a:=(a.den:Int)) (b:=(b.den:Int)) (by omega) (by omega);have e3:=ac1 h.toRm (a:=a.num*b.num) (b:=(a.den:Int)*b.den) (by omega) (by omega);rw [<-mul_eq] at e3;rw [ZQ] at e1 e2;unfold ae at e1 e2 e3 ⊢;rw [au h.aei]
  simp only [go_sem,ya,Iv,e1,e2,wrap64 (n:=a.num*b.num) (by omega) (by omega),wrap64 (n:=(a.den:Int)*(b.den:Int)) (by omega) (by omega),e3]
 ·have bV:∃n1 d1 n2 d2,bN P L (D P L) 276 [.str (RT a)]=some (.aq [aa n1,aa d1,.bool q1])/\bN P L (D P L) 276 [.str (RT b)]=some (.aq [aa n2,aa d2,.bool q2]):=by
   cases q1<;>cases q2<;>exact ⟨_,_,_,_,e1,e2⟩
  obtain ⟨n1,d1,n2,d2,e1,e2⟩:=bV;obtain ⟨x,y,e3,hx,hy⟩:=Ef h.toRm ka (by omega);obtain ⟨z,w,e4,hz,hw⟩:=Ef h.toRm kb (by omega);have EN:max K M<=8000000000:=by omega
  obtain ⟨r,e5,hr⟩:=I8 (K:=max K M) h.Ja h.jY h.gK h.cJ EN hx hz (ka.1.mono (by omega)).r (kb.1.mono (by omega)).r;obtain ⟨s,e6,hs⟩:=I8 (K:=max K M) h.Ja h.jY h.gK h.cJ EN hy hw (ka.2.mono (by omega)).r (kb.2.mono (by omega)).r;have e7:=RL h.toRm hK hr hs (ka.1.mul kb.1) (ka.2.mul kb.2) (by omega);rw [<-mul_eq] at e7;obtain ⟨xw,xl,rfl,dB,_,_,_⟩:=hx;obtain ⟨yw,yl,rfl,dC,_,_,_⟩:=hy;obtain ⟨zw,zl,rfl,nt,_,_,_⟩:=hz;obtain ⟨ww,wl,rfl,nv,_,_,_⟩:=hw;obtain ⟨eH,rl,rfl,nc,_,_,_⟩:=hr;obtain ⟨sw,sl,rfl,fO,_,_,_⟩:=hs;have hb:¬(q1=true/\q2=true):=hq;unfold ae at e3 e4 e5 e6 e7 ⊢;rw [au h.aei]
  cases q1 with
  | false=>
   simp only [go_sem,ya,yb,Iv,aG,e1,e2,e3,e4,dB.pu,dB.af,dB.one,dC.pu,dC.af,dC.one,nt.pu,nt.af,nt.one,nv.pu,nv.af,nv.one,nc.af,fO.af,aY,bm,pL,dj,dX,e5,e6,e7]
  | true=>
   cases q2 with
   | true=>exact absurd ⟨rfl,rfl⟩ hb
   | false=>
    simp only [go_sem,ya,yb,Iv,aG,e1,e2,e3,e4,dB.pu,dB.af,dB.one,dC.pu,dC.af,dC.one,nt.pu,nt.af,nt.one,nv.pu,nv.af,nv.one,nc.af,fO.af,aY,bm,pL,dj,dX,e5,e6,e7]
def H9 (h:Rp P L) {a b:Rat} {K M:Nat} (ka:Hq K a) (kb:Hq M b) (hK:K+M+1<=8000000000):ae P L 264 [.str (RT a),.str (RT b)] (.str (RT (a+b))):=by
 obtain ⟨q1,e1,b1⟩:=Mo h ka (by omega);obtain ⟨q2,e2,b2⟩:=Mo h kb (by omega);have aup:=Dn a b;by_cases hq:(q1=true/\q2=true)
 ·obtain ⟨rfl,rfl⟩:=hq;obtain ⟨b11,b12⟩:=b1 rfl;obtain ⟨b21,b22⟩:=b2 rfl;have p1:=H8 (a:=a.num) (b:=(b.den:Int)) (by omega) (by omega);have p2:=H8 (a:=b.num) (b:=(a.den:Int)) (by omega) (by omega);have p3:=H8 (a:=(a.den:Int)) (b:=(b.den:Int)) (by omega) (by omega);have e3:=ac1 h.toRm (a:=a.num*b.den+b.num*a.den) (b:=(a.den:Int)*b.den) (by omega) (by omega);rw [<-add_eq] at e3;rw [ZQ] at e1 e2;unfold ae at e1 e2 e3 ⊢;rw [au h.aeh]
  simp only [go_sem,ya,Iu,e1,e2,wrap64 (n:=a.num*(b.den:Int)) (by omega) (by omega),wrap64 (n:=b.num*(a.den:Int)) (by omega) (by omega),wrap64 (n:=a.num*(b.den:Int)+b.num*(a.den:Int)) (by omega) (by omega),wrap64 (n:=(a.den:Int)*(b.den:Int)) (by omega) (by omega),e3]
 ·have bV:∃n1 d1 n2 d2,bN P L (D P L) 276 [.str (RT a)]=some (.aq [aa n1,aa d1,.bool q1])/\bN P L (D P L) 276 [.str (RT b)]=some (.aq [aa n2,aa d2,.bool q2]):=by
   cases q1<;>cases q2<;>exact ⟨_,_,_,_,e1,e2⟩
  obtain ⟨n1,d1,n2,d2,e1,e2⟩:=bV;obtain ⟨x,y,e3,hx,hy⟩:=Ef h.toRm ka (by omega);obtain ⟨z,w,e4,hz,hw⟩:=Ef h.toRm kb (by omega);have EN:max K M<=8000000000:=by omega
  obtain ⟨r,e5,hr⟩:=I8 (K:=max K M) h.Ja h.jY h.gK h.cJ EN hx hw (ka.1.mono (by omega)).r (kb.2.mono (by omega)).r;obtain ⟨r2,Vz,eZ⟩:=I8 (K:=max K M) h.Ja h.jY h.gK h.cJ EN hz hy (kb.1.mono (by omega)).r (ka.2.mono (by omega)).r;obtain ⟨s,e6,hs⟩:=I8 (K:=max K M) h.Ja h.jY h.gK h.cJ EN hy hw (ka.2.mono (by omega)).r (kb.2.mono (by omega)).r;have k1:Bd (K+M) (a.num*b.den):=ka.1.mul kb.2;have k2:Bd (K+M) (b.num*a.den):=(kb.1.mul ka.2).mono (by omega);obtain ⟨t,e8,ht⟩:=atZ (K:=K+M) h.auf h.Nw h.mV h.Nx h.lP h.gK h.cJ (by omega) hr eZ k1.r k2.r;have e7:=RL h.toRm hK ht hs (k1.SU k2) ((ka.2.mul kb.2).mono (by omega)) (by omega);rw [<-add_eq] at e7;obtain ⟨xw,xl,rfl,dB,_,_,_⟩:=hx;obtain ⟨yw,yl,rfl,dC,_,_,_⟩:=hy;obtain ⟨zw,zl,rfl,nt,_,_,_⟩:=hz;obtain ⟨ww,wl,rfl,nv,_,_,_⟩:=hw;obtain ⟨eH,rl,rfl,nc,_,_,_⟩:=hr
  obtain ⟨rw2,rl2,rfl,aem,_,_,_⟩:=eZ;obtain ⟨tw,tl,rfl,htw,_,_,_⟩:=ht;obtain ⟨sw,sl,rfl,fO,_,_,_⟩:=hs;have hb:¬(q1=true/\q2=true):=hq;unfold ae at e3 e4 e5 Vz e6 e7 e8 ⊢;rw [au h.aeh]
  cases q1 with
  | false=>
   simp only [go_sem,ya,yb,Iu,aG,e1,e2,e3,e4,dB.pu,dB.af,dB.one,dC.pu,dC.af,dC.one,nt.pu,nt.af,nt.one,nv.pu,nv.af,nv.one,nc.af,aem.af,htw.af,fO.af,aY,bm,pL,dj,dX,e5,Vz,e8,e6,e7]
  | true=>
   cases q2 with
   | true=>exact absurd ⟨rfl,rfl⟩ hb
   | false=>
    simp only [go_sem,ya,yb,Iu,aG,e1,e2,e3,e4,dB.pu,dB.af,dB.one,dC.pu,dC.af,dC.one,nt.pu,nt.af,nt.one,nv.pu,nv.af,nv.one,nc.af,aem.af,htw.af,fO.af,aY,bm,pL,dj,dX,e5,Vz,e8,e6,e7]
def B9 (h:Rp P L) {a b:Rat} {K M:Nat} (ka:Hq K a) (kb:Hq M b) (hK:K+M+1<=8000000000):ae P L 271 [.str (RT a),.str (RT b)] (.str (RT (a-b))):=by
 have e1:=ase h kb (by omega);have e2:=H9 h ka kb.neg hK;rw [<-Rat.sub_eq_add_neg] at e2;unfold ae at e1 e2 ⊢;rw [au h.aud];simp only [go_sem,ya,Sf,e1,e2]
def inv_divInt (a:Rat) (h:a≠0):a⁻¹=xT (a.den:Int) a.num:=by
 rw [Rat.inv_def]
def asf (h:Rn P L) (Jc:Has P L 283 IA) {a:Rat} {K:Nat} (ka:Hq K a) (hK:K<=8000000000) (h0:a≠0):ae P L 283 [.str (RT a)] (.str (RT a⁻¹)):=by
 obtain ⟨x,y,e3,hx,hy⟩:=Ef h.toRm ka hK;have hn:a.num≠0:=fun e=>h0 (yau.1 e)
 have e7:=RL h.toRm hK hy hx ka.2 ka.1 hn;rw [<-inv_divInt a h0] at e7;obtain ⟨xw,xl,rfl,dB,_,_,_⟩:=hx;obtain ⟨yw,yl,rfl,dC,_,_,_⟩:=hy;unfold ae at e3 e7 ⊢;rw [au Jc];simp only [go_sem,ya,yb,IA,aG,e3,dB.pu,dB.af,dB.one,dC.pu,dC.af,dC.one,aY,pL,dj,dX,e7]
def asg (h:Rn P L) (Tg:Has P L 266 MV) (Jc:Has P L 283 IA) {a b:Rat} {K M:Nat} (ka:Hq K a) (kb:Hq M b) (hK:K+M<=8000000000) (h0:b≠0):ae P L 266 [.str (RT a),.str (RT b)] (.str (RT (a/b))):=by
 have e1:=asf h Jc kb (by omega) h0;have e2:=qc h ka kb.inv hK;rw [<-Rat.div_def] at e2;unfold ae at e1 e2 ⊢;rw [au Tg];simp only [go_sem,ya,MV,e1,e2]
def ac2 (h:Rx P L) {a b:Rat} {K M:Nat} (ka:Hq K a) (kb:Hq M b) (hK:K+M<=8000000000) (h0:b≠0):ae P L 266 [.str (RT a),.str (RT b)] (.str (RT (a/b))):=asg h.toRn h.Tg h.Jc ka kb hK h0
end
end
section
open Go (IntKind)
def X2 {P:aI} {L:Lib} (a b c d:VC) (s:St):D P L (.seq a (.seq b (.seq c d))) s=nU P L (D P L (.seq a (.seq b c)) s) d:=by
 have e:=Bv (P:=P) (L:=L) b c d;rw [lD,lD]
 cases D P L a s with
 | none=>rfl
 | some q=>
  obtain ⟨ex,st⟩:=q
  cases ex with
  | normal=>rw [gQ,gQ];exact e st
  | ret=>rfl
  | exit id=>rfl
def mK {a b:List Nat} (h:a≠b):cE a b=false:=by
 cases hb:cE a b with
 | false=>rfl
 | true=>exact absurd (P9 hb) h
def YW:∀a:List Nat,cE a a=true
 | []=>rfl
 | x::a=>by simp [cE,YW a]
def Q4 {a b:List Nat} (h:a=b):cE a b=true:=h▸YW a
def aju {s:List Nat} {i:Nat} (h:i<s.length):de (s.drop i)=(yB 48 s[i]&&yB s[i] 57&&de (s.drop (i+1))):=by
 rw [yJ h];rfl
section
variable {P:aI} {L:Lib}
def auq (h:Has P L 287 IB) {s:List Nat} (hl:s.length<=1000000000000):ae P L 287 [.str s] (.bool (de s)):=by
 have key:=eh (P:=P) (L:=L) (live:=[0,3]) (a:=BM)
  (I:=fun k st=>∃i:Nat,st=⟨[(0,.str s),(3,aa i)],[],0,0⟩/\i+k=s.length/\de (s.drop i)=de s)
  (Q:=fun ex st=>∃tm ct,st=⟨tm,[],ct,0⟩/\((ex= .ret/\aj tm 2= .bool false/\de s=false)\/(ex= .exit 0/\de s=true))) ?_
 ·unfold ae;rw [au h];simp only [go_sem,IB];generalize hq:D P L (.loop [0,3] BM) _=q;obtain ⟨ex,st,rfl,tm,ct,rfl,h2⟩:=bI hq (key s.length) ⟨0,by simp only [go_sem,ya,ao]<;>rfl,by omega,by simp⟩
  rcases h2 with ⟨rfl,h2,h3⟩ | ⟨rfl,h3⟩
  ·simp only [go_sem,h2,h3]
  ·simp only [go_sem,ao,h3]
 ·rintro k st ⟨i,rfl,hk,hs⟩;by_cases hi:i<s.length
  ·rw [aju hi] at hs;by_cases h1:s[i]<48
   ·right
    have e:yB 48 s[i]=false:=by
     cases hb:yB 48 s[i] with
     | false=>rfl
     | true=>have:=yr hb;omega
    rw [e,wA,wA] at hs;simp only [go_sem,ya,BM,show (i:Int)<s.length by omega,oS hi,show ((s[i]:Nat):Int)<48 by omega,yo];exact ⟨_,_,rfl,by simp,_,_,rfl,.inl ⟨rfl,by simp only [go_sem],hs.symm⟩⟩
   ·by_cases h2:57<s[i]
    ·right
     have e:yB s[i] 57=false:=by
      cases hb:yB s[i] 57 with
      | false=>rfl
      | true=>have:=yr hb;omega
     rw [e,Bool.and_false,wA] at hs;simp only [go_sem,ya,BM,show (i:Int)<s.length by omega,oS hi,show ¬((s[i]:Nat):Int)<48 by omega,yp,show (57:Int)<((s[i]:Nat):Int) by omega];exact ⟨_,_,rfl,by simp,_,_,rfl,.inl ⟨rfl,by simp only [go_sem],hs.symm⟩⟩
    ·left
     rw [yz (show 48<=s[i] by omega),yz (show s[i]<=57 by omega),wh,wh] at hs;simp only [go_sem,ya,BM,show (i:Int)<s.length by omega,oS hi,show ¬((s[i]:Nat):Int)<48 by omega,yp,show ¬(57:Int)<((s[i]:Nat):Int) by omega];refine ⟨_,k-1,rfl,by omega,i+1,?_,by omega,hs⟩;rw [wrap64 (by omega) (by omega)];simp only [go_sem,ya,ao]<;>rfl
  ·right
   simp only [go_sem,ya,BM,show ¬(i:Int)<s.length by omega];refine ⟨_,_,rfl,by simp,_,_,rfl,.inr ⟨rfl,?_⟩⟩;rw [<-hs,yP (by omega)];rfl
def Th (h:Has P L 273 Cj) (Jb:Has P L 287 IB) {s:List Nat} (hl:s.length<=1000000000000):ae P L 273 [.str s] (.bool (dG s)):=by
 have e:=auq Jb hl;unfold ae at e ⊢;rw [au h]
 match s,hl,e with
 | [],_,_=>
  simp only [go_sem,ya,Cj,yA,show ((0:Nat):Int)=0 from rfl,yo];rfl
 | [b],_,e=>
  have:dG [b]=de [b]:=by simp [dG]
  rw [this];simp only [go_sem,ya,Cj,yu,yA,yd,show ¬((1:Nat):Int)=0 by decide,show ¬(1:Int)<((1:Nat):Int) by decide,yp,e]
 | b::c::r,hl,e=>
  have hd:dG (b::c::r)=(de (b::c::r)&& !(Nat.beq b 48)):=by simp [dG]
  rw [hd];by_cases hb:b=48
  ·subst hb;simp only [go_sem,ya,Cj,yu,show ¬((r.length+1+1:Nat):Int)=0 by omega,yp,show (1:Int)<((r.length+1+1:Nat):Int) by omega,show mf 0 (.str (48::c::r))=some (.int .u8 48) from rfl,yo]
   simp
  ·have:Nat.beq b 48=false:=gR hb
   rw [this,yG,uv];simp only [go_sem,ya,Cj,yu,show ¬((r.length+1+1:Nat):Int)=0 by omega,yp,show (1:Int)<((r.length+1+1:Nat):Int) by omega,show mf 0 (.str (b::c::r))=some (.int .u8 (b:Nat)) from rfl,show ¬((b:Nat):Int)=48 by omega,e]
def YX {s:List Nat} {k:Nat} (h:k<=s.length):gX s (some 0) (some k)=some (.str (s.take k)):=by
 rw [kB (by omega) h,yi]
def Li {s:List Nat} {k:Nat} (h:k<=s.length):gX s (some k) (some s.length)=some (.str (s.drop k)):=by
 rw [kB h (yv _),xM]
def aqC (h:Rm P L) {t:List Nat} {k:Nat} (hk:k=bO t) (hl:t.length<=1000000000) (hp:dG (t.take k)=true) {tm:Env} (t3:aj tm 3= .str t) (t4:aj tm 4=aa k):
  fX [.t 2] (D P L (ay (ay (ay (ay (ay df.body))))) ⟨tm,[],0,0⟩)=some (aa (
   if k<t.length/\(dG (t.drop (k+1))=false\/t.drop (k+1)=[48]\/t.drop (k+1)=[49]) then 1
   else if 600<k\/600<t.length-k-1 then 4
   else if k<t.length/\wo (fA (t.take k)) (fA (t.drop (k+1)))≠1 then 1
   else 0)):=by
 have Vq:k<=t.length:=by rw [hk];exact GR t
 have e3:=Th h.Tf h.Jb (s:=t.drop (k+1)) (by rw [xY];omega);unfold ae at e3;have Bj:(k:Int)+1=((k+1:Nat):Int):=rfl;by_cases hs:k<t.length
 ·have c2:=Li (s:=t) (k:=k+1) (by omega);have jv:=V2 t (by omega);rw [<-hk] at jv;have Ft:(t.drop (k+1)).length=t.length-k-1:=by rw [xY];omega
  have hlp:(t.take k).length=k:=by rw [yQ];omega
  generalize hqe:t.drop (k+1)=q at*
  generalize hpe:t.take k=p at*
  cases hd:dG q with
  | false=>
   rw [yL ⟨hs,.inl rfl⟩];rw [hd] at e3
   simp only [go_sem,ya,df,ay,t3,t4,show (k:Int)<(t.length:Int) by omega,yo,Bj,wrapN (n:=k+1) (by omega),ew,eK,du,c2,e3,yG]
  | true=>
   rw [hd] at e3;by_cases ja:q=[48]
   ·rw [yL ⟨hs,.inr (.inl ja)⟩]
    simp only [go_sem,ya,df,ay,t3,t4,show (k:Int)<(t.length:Int) by omega,yo,Bj,wrapN (n:=k+1) (by omega),ew,eK,du,c2,e3,yK,iz,Q4 ja]
   ·by_cases nm:q=[49]
    ·rw [yL ⟨hs,.inr (.inr nm)⟩]
     simp only [go_sem,ya,df,ay,t3,t4,show (k:Int)<(t.length:Int) by omega,yo,Bj,wrapN (n:=k+1) (by omega),ew,eK,du,c2,e3,yK,iz,mK ja,Q4 nm]
    ·rw [yF (by simp only [hs,uJ,tP,ybc];exact fun e=>e.elim ja nm)]
     by_cases CG:600<k
     ·rw [yL (.inl CG)]
      simp only [go_sem,ya,df,ay,t3,t4,show (k:Int)<(t.length:Int) by omega,yo,Bj,wrapN (n:=k+1) (by omega),ew,eK,du,c2,e3,yK,iz,mK ja,mK nm,show (600:Int)<(k:Int) by omega]
     ·by_cases aur:600<t.length-k-1
      ·rw [yL (.inr aur)]
       simp only [go_sem,ya,df,ay,t3,t4,show (k:Int)<(t.length:Int) by omega,yo,Bj,wrapN (n:=k+1) (by omega),ew,eK,du,c2,e3,yK,iz,mK ja,mK nm,show ¬(600:Int)<(k:Int) by omega,yp,show (t.length:Int)-(k:Int)=((t.length-k:Nat):Int) by omega,wrapN (n:=t.length-k) (by omega),show ((t.length-k:Nat):Int)-1=((t.length-k-1:Nat):Int) by omega,wrapN (n:=t.length-k-1) (by omega),show (600:Int)<((t.length-k-1:Nat):Int) by omega]
      ·rw [yF (by omega)];have pE:=Dy _ rfl hp;have nn:=Dy _ rfl hd;have hX:fA q≠0:=fun e=>ja (by rw [<-nn,e];rfl)
       have jD:fA q≠1:=fun e=>nm (by rw [<-nn,e];rfl)
       generalize fA p=n at*
       generalize fA q=d at*
       have hT:TT (n:Int) d=t:=by
        unfold TT;rw [jI,yF jD,pE,nn];exact jv.symm
       obtain ⟨x,y,e4,hx,hy⟩:=ael h.toRb (n:=(n:Int)) (d:=d) (by rw [wS,pE];omega) (by rw [nn];omega);rw [hT] at e4;obtain ⟨xw,xl,rfl,dB,dx,nx,vx⟩:=hx;obtain ⟨yw,yl,rfl,dC,dy,ny,vy⟩:=hy;rw [wS] at vx vy;have ow:n<10^p.length:=by rw [<-pE];exact Hf n
       have hdb:d<10^q.length:=by rw [<-nn];exact Hf d
       obtain ⟨K,hK⟩:∃K:Nat,K=600:=⟨_,rfl⟩;have Oz:∀{m j:Nat},m<10^j->j<=K->m<1000000000^K:=fun {m j} h1 h2=>
        yN h1 (xj (xA (by decide) h2) (uh (by decide) K))
       have lxl:=gT dx nx (by rw [vx];exact Oz ow (by omega))
       have lyl:=gT dy ny (by rw [vy];exact Oz hdb (by omega))
       obtain ⟨g,lg,e5,hg,dgg,ngg,vg⟩:=acY h.aed h.I9 h.jY h.mV h.n9 h.cJ h.pc dB dC dx dy nx ny (by omega) (by omega);rw [vx,vy] at vg;have JB:0<wo n d:=Nat.gcd_pos_of_pos_right _ (by omega);unfold ae at e4 e5;by_cases Ti:lg.length=1
       ·obtain ⟨z,rfl⟩:∃z,lg=[z]:=by
         cases lg with
         | nil=>simp at Ti
         | cons z r=>cases r with
          | nil=>exact ⟨z,rfl⟩
          | cons y r=>simp at Ti
        have gz:=jc.1 dgg;have Kl:z=(wo n d:Nat):=by simp [dv] at vg;omega
        have e8:=hg.a8 (i:=0) (by simp);simp only [tg] at e8;by_cases gY:wo n d=1
        ·rw [yF (by simp [gY])]
         simp only [go_sem,ya,yb,df,ay,t3,t4,show (k:Int)<(t.length:Int) by omega,yo,Bj,wrapN (n:=k+1) (by omega),ew,eK,du,c2,e3,yK,iz,mK ja,mK nm,show ¬(600:Int)<(k:Int) by omega,yp,show (t.length:Int)-(k:Int)=((t.length-k:Nat):Int) by omega,wrapN (n:=t.length-k) (by omega),show ((t.length-k:Nat):Int)-1=((t.length-k-1:Nat):Int) by omega,wrapN (n:=t.length-k-1) (by omega),show ¬(600:Int)<((t.length-k-1:Nat):Int) by omega,e4,aG,dB.pu,dB.af,dB.one,dC.pu,dC.af,dC.one,dj,aZ,yd,bX,e5,hg.len,hg.shut,yu,yA,show ((1:Nat):Int)=(1:Int) from rfl,yK,e8,Kl,gY]
        ·rw [yL ⟨hs,gY⟩]
         simp only [go_sem,ya,yb,df,ay,t3,t4,show (k:Int)<(t.length:Int) by omega,yo,Bj,wrapN (n:=k+1) (by omega),ew,eK,du,c2,e3,yK,iz,mK ja,mK nm,show ¬(600:Int)<(k:Int) by omega,yp,show (t.length:Int)-(k:Int)=((t.length-k:Nat):Int) by omega,wrapN (n:=t.length-k) (by omega),show ((t.length-k:Nat):Int)-1=((t.length-k-1:Nat):Int) by omega,wrapN (n:=t.length-k-1) (by omega),show ¬(600:Int)<((t.length-k-1:Nat):Int) by omega,e4,aG,dB.pu,dB.af,dB.one,dC.pu,dC.af,dC.one,dj,aZ,yd,bX,e5,hg.len,hg.shut,yu,yA,show ((1:Nat):Int)=(1:Int) from rfl,yK,e8,Kl,show ¬((wo n d:Nat):Int)=1 by omega,yG]
       ·have gY:wo n d≠1:=fun e=>Ti (by
         have h1:lg.length<=1:=Qv dgg ngg (by omega);have h2:0<lg.length:=by
          rcases xm lg.length with h0 | h0
          ·rw [yD h0] at vg;simp [dv] at vg;omega
          ·exact h0
         omega)
        rw [yL ⟨hs,gY⟩]
        simp only [go_sem,ya,yb,df,ay,t3,t4,show (k:Int)<(t.length:Int) by omega,yo,Bj,wrapN (n:=k+1) (by omega),ew,eK,du,c2,e3,yK,iz,mK ja,mK nm,show ¬(600:Int)<(k:Int) by omega,yp,show (t.length:Int)-(k:Int)=((t.length-k:Nat):Int) by omega,wrapN (n:=t.length-k) (by omega),show ((t.length-k:Nat):Int)-1=((t.length-k-1:Nat):Int) by omega,wrapN (n:=t.length-k-1) (by omega),show ¬(600:Int)<((t.length-k-1:Nat):Int) by omega,e4,aG,dB.pu,dB.af,dB.one,dC.pu,dC.af,dC.one,dj,aZ,yd,bX,e5,hg.len,hg.shut,show ¬(lg.length:Int)=1 by omega,yG]
 ·have hkt:k=t.length:=by omega
  rw [yF (by omega)];by_cases CG:600<k
  ·rw [yL (.inl CG)];simp only [go_sem,ya,df,ay,t3,t4,show ¬(k:Int)<(t.length:Int) by omega,yp,show (600:Int)<(k:Int) by omega,yo]
  ·rw [yF (by omega),yF (by omega)]
   simp only [go_sem,ya,df,ay,t3,t4,show ¬(k:Int)<(t.length:Int) by omega,yp,show ¬(600:Int)<(k:Int) by omega,show (t.length:Int)-(k:Int)=((t.length-k:Nat):Int) by omega,wrapN (n:=t.length-k) (by omega),show ((t.length-k:Nat):Int)-1= -1 by omega,show IntKind.wrap .i64 (-1)= -1 by rfl,show ¬(600:Int)<(-1:Int) by omega]
def abp (h:Rm P L) {b:Nat} {r:List Nat} {t:List Nat} {neg:Bool} (fk:decide (((b:Nat):Int)=45)=neg) (hl:t.length<=1000000000) {tm:Env} (t0:aj tm 0= .str (b::r)) (t3:aj tm 3= .str t):
  fX [.t 2] (D P L (ay (ay (ay df.body))) ⟨tm,[],0,0⟩)=some (aa (sL neg t)):=by
 obtain ⟨k,hk⟩:∃k,k=bO t:=⟨_,rfl⟩;have Vq:k<=t.length:=by rw [hk];exact GR t
 have e1:=Cs h.sF (s:=t) (by omega);have e2:=Th h.Tf h.Jb (s:=t.take k) (by rw [yQ];omega);unfold sL;rw [<-hk] at e1 ⊢;have c1:=YX Vq;have hI:mf 0 (.str (b::r))=some (.int .u8 (b:Nat)):=rfl;generalize hp:t.take k=p at*
 generalize hq:t.drop (k+1)=q at*
 cases hd:dG p with
 | false=>
  rw [yL (.inl rfl)];rw [hd] at e2;simp only [go_sem,ya,df,ay,t3,e1,ew,eK,du,c1,e2,yG]
 | true=>
  rw [hd] at e2;by_cases hz:neg=true/\p=[48]
  ·rw [yL (.inr hz)];obtain ⟨z1,z2⟩:=hz;rw [z1] at fk;have hb:=of_decide_eq_true fk;subst z2;simp only [go_sem,ya,df,ay,t0,t3,e1,ew,eK,du,c1,e2,yK,hI,hb,yo,iz,show cE [48] [48]=true from rfl]
  ·rw [yF (by simp only [tP,ybc];exact hz)]
   have fin:∀cu,aj cu 3= .str t->aj cu 4=aa k->D P L (.seq (bE (ay (ay (ay df.body)))) (bE (ay (ay (ay (ay df.body)))))) ⟨tm,[],0,0⟩=some (.normal,⟨cu,[],0,0⟩)->fX [.t 2] (D P L (ay (ay (ay df.body))) ⟨tm,[],0,0⟩)=some (aa (
     if k<t.length/\(dG q=false\/q=[48]\/q=[49]) then 1
     else if 600<k\/600<t.length-k-1 then 4
     else if k<t.length/\wo (fA p) (fA q)≠1 then 1
     else 0)):=fun cu f3 f4 e=>by
    show fX [.t 2] (D P L (.seq (bE (ay (ay (ay df.body)))) (.seq (bE (ay (ay (ay (ay df.body))))) (ay (ay (ay (ay (ay df.body))))))) ⟨tm,[],0,0⟩)=_
    rw [Bv,e,gQ,<-hp,<-hq];exact aqC h hk hl (by rw [hp];exact hd) f3 f4
   by_cases hb:((b:Nat):Int)=45
   ·have aus:p≠[48]:=fun e=>hz ⟨by rw [<-fk];exact xi hb,e⟩
    refine fin _ ?_ ?_ (by simp only [go_sem,ya,df,bE,ay,t0,t3,e1,ew,eK,du,c1,e2,yK,hI,hb,yo,iz,mK aus]<;>rfl)<;>simp only [go_sem,ya,t3]
   ·refine fin _ ?_ ?_ (by simp only [go_sem,ya,df,bE,ay,t0,t3,e1,ew,eK,du,c1,e2,yK,hI,hb,yp]<;>rfl)<;>simp only [go_sem,ya,t3]
def Tj (h:Rm P L) {s:List Nat} (hl:s.length<=1000000000):ae P L 263 [.str s] (aa (aU s)):=by
 unfold ae;rw [au h.auj]
 cases s with
 | nil=>
  have e1:=Cs h.sF (s:=[]) (by simp);have e2:=Th h.Tf h.Jb (s:=[]) (by simp);have hc:gX [] (some 0) (some 0)=some (.str []):=rfl;simp only [go_sem,ya,df,yA,show ¬(0:Int)<((0:Nat):Int) by decide,yp,e1,bO,ew,eK,du,hc,e2,show dG []=false from rfl,yG];rfl
 | cons b t=>
  have hl':t.length+1<=1000000000:=by simpa using hl
  have hI:mf 0 (.str (b::t))=some (.int .u8 (b:Nat)):=rfl;by_cases hb:b=45
  ·subst hb;have fin:∀cu,aj cu 0= .str (45::t)->aj cu 3= .str t->D P L (.seq (bE df.body) (.seq (bE (ay df.body)) (bE (ay (ay df.body))))) ⟨[(0,.str (45::t))],[],0,0⟩=some (.normal,⟨cu,[],0,0⟩)->fX [.t 2] (D P L df.body ⟨[(0,.str (45::t))],[],0,0⟩)=some (aa (aU (45::t))):=fun cu f0 f3 e=>by
    show fX [.t 2] (D P L (.seq (bE df.body) (.seq (bE (ay df.body)) (.seq (bE (ay (ay df.body))) (ay (ay (ay df.body)))))) ⟨[(0,.str (45::t))],[],0,0⟩)=_
    rw [X2,e,gQ]
    exact abp h (b:=45) rfl (by omega) f0 f3
   have hc:gX (45::t) (some 1) (some (t.length+1))=some (.str t):=by
    have:=Li (s:=45::t) (k:=1) (by simp)
    simpa using this
   refine fin _ ?_ ?_ (by simp only [go_sem,ya,df,bE,ay,yu,show (0:Int)<((t.length+1:Nat):Int) by omega,yo,Ct,ew,eK,du,hc]<;>rfl)<;>simp only [go_sem,ya]
  ·have fin:∀cu,aj cu 0= .str (b::t)->aj cu 3= .str (b::t)->D P L (.seq (bE df.body) (.seq (bE (ay df.body)) (bE (ay (ay df.body))))) ⟨[(0,.str (b::t))],[],0,0⟩=some (.normal,⟨cu,[],0,0⟩)->fX [.t 2] (D P L df.body ⟨[(0,.str (b::t))],[],0,0⟩)=some (aa (aU (b::t))):=fun cu f0 f3 e=>by
    show fX [.t 2] (D P L (.seq (bE df.body) (.seq (bE (ay df.body)) (.seq (bE (ay (ay df.body))) (ay (ay (ay df.body)))))) ⟨[(0,.str (b::t))],[],0,0⟩)=_
    rw [X2,e,gQ]
    have:=abp h (b:=b) (neg:=false) (yX (by omega)) (by simpa using hl) f0 f3
    rw [this];simp only [aU,yF hb]
   refine fin _ ?_ ?_ (by simp only [go_sem,ya,df,bE,ay,yu,show (0:Int)<((t.length+1:Nat):Int) by omega,yo,hI,show ¬((b:Nat):Int)=45 by omega]<;>rfl)<;>simp only [go_sem,ya]
end
end
section
open Go (IntKind)
def fP (v:AV) (l:List (List Nat)):Prop:=cY v (l.map AV.str)
section
variable {v:AV} {l:List (List Nat)}
def fP.len (h:fP v l) {hp:Hp}:gV hp 1 v=some (.int .i64 (l.length:Nat)):=by
 have:=cY.len (hp:=hp) h
 grind
def fP.pu (h:fP v l):aX v=true:=cY.pu h
def fP.af (h:fP v l) (n:Nat) {hp:Hp}:freeze (n+1) hp v=some (v,hp):=cY.af h n
def fP.bT (h:fP v l):VE.bT v=v:=cY.bT h
def fP.a8 (h:fP v l) {i:Nat} (hi:i<l.length):gU 1 i v=some (.aO (.str l[i]::(l.map AV.str).drop (i+1))):=by
 have:=cY.a8 h (i:=i) (by simpa using hi)
 grind
def BB (e:Bool) (l:List (List Nat)):fP (.aH e l.length (l.map AV.str)) l:=by
 have:=LA e (l.map AV.str)
 rwa [yY] at this
end
section
variable {P:aI} {L:Lib}
def anW (h:Rm P L) {a:Rat} {K:Nat} (ka:Hq K a) (hK:K<=4000000000):bN P L (D P L) 284 [.str (RT a)]=some (.str (aW a.num))/\bN P L (D P L) 285 [.str (aW a.num)]=some (.str (ax a.num.natAbs))/\bN P L (D P L) 286 [.str (RT a)]=some (.str (ax a.den)):=by
 have hl:=D7 ka;have e0:=Cs h.sF (s:=RT a) (by omega);have kM:bO (RT a)=(aW a.num).length/\(RT a).take (aW a.num).length=aW a.num:=by
  unfold RT;by_cases hd:a.den=1
  ·rw [yL hd,wC]
   have:=Dp a.num []
   rw [wC] at this;exact ⟨by rw [this];simp [bO],xM⟩
  ·rw [yF hd];exact ⟨by rw [Dp];simp [bO],List.take_left⟩
 obtain ⟨dU,qU⟩:=kM;rw [dU] at e0;have hlen:(aW a.num).length<=(RT a).length:=by unfold RT;simp
 have e1:bN P L (D P L) 284 [.str (RT a)]=some (.str (aW a.num)):=by
  rw [au h.auk]
  have:=YX (s:=RT a) hlen
  simp only [go_sem,ya,Sg,e0,ew,eK,du,this,qU]
 have hT:aW a.num=TT a.num 1:=by unfold TT;simp
 have e2:bN P L (D P L) 285 [.str (aW a.num)]=some (.str (ax a.num.natAbs)):=by
  have e:=ac0 h (n:=a.num) (d:=1) (by rw [<-hT];omega) (fun _=>rfl);rw [<-hT] at e;rw [au h.aul];by_cases h0:a.num<0
  ·have es:cA a.num= -1:=by unfold cA;rw [yL h0]
   rw [es] at e;rw [lZ h0] at e ⊢;have hc:=Li (s:=45::ax a.num.natAbs) (k:=1) (by simp);simp only [List.drop_succ_cons,yi,yu] at hc;simp only [go_sem,ya,M0,e,show (-1:Int)<0 by decide,ew,eK,du,hc]
  ·have es:¬cA a.num<0:=by unfold cA;rw [yF h0];split<;>decide
   have hi:aW a.num=ax a.num.natAbs:=by
    obtain ⟨m,hm⟩:∃m:Nat,a.num=m:=⟨a.num.toNat,by omega⟩;rw [hm,jI,wS]
   simp only [go_sem,ya,M0,e,es];rw [hi]
 have e3:bN P L (D P L) 286 [.str (RT a)]=some (.str (ax a.den)):=by
  rw [au h.aum];by_cases hd:a.den=1
  ·have hR:(RT a).length=(aW a.num).length:=by unfold RT;rw [yL hd];simp
   rw [hd,show ax 1=[49] by decide];simp only [go_sem,ya,M1,e0,show ((aW a.num).length:Int)=((RT a).length:Int) by omega,yo]
  ·have hR:RT a=(aW a.num++[47])++ax a.den:=by unfold RT;rw [yF hd];simp
   have hRl:(RT a).length=(aW a.num).length+1+(ax a.den).length:=by rw [hR];simp;omega
   have hc:=Li (s:=RT a) (k:=(aW a.num).length+1) (by omega);have iI:(RT a).drop ((aW a.num).length+1)=ax a.den:=by
    rw [hR,show (aW a.num).length+1=(aW a.num++[47]).length by simp,List.drop_left]
   rw [iI] at hc
   simp only [go_sem,ya,M1,e0,show ¬((aW a.num).length:Int)=((RT a).length:Int) by omega,show ((aW a.num).length:Int)+1=(((aW a.num).length+1:Nat):Int) from rfl,wrapN (n:=(aW a.num).length+1) (by omega),ew,eK,du,hc]
 exact ⟨e1,e2,e3⟩
def ac3 (h:Rl P L) {a:Rat} {K:Nat} (ka:Hq K a) (hK:K<=4000000000):ae P L 269 [.str (RT a)] (aa (if LG a=true then 4 else 0)):=by
 obtain ⟨e1,e2,e3⟩:=anW h.toRm ka hK;unfold ae;rw [au h.aun];unfold LG LN;rw [wS];by_cases h1:600<(ax a.num.natAbs).length
 ·rw [xi h1,uk,yL rfl];simp only [go_sem,ya,Ix,e1,e2,show (600:Int)<((ax a.num.natAbs).length:Int) by omega,yo]
 ·by_cases h2:600<(ax a.den).length
  ·rw [xi h2,Bool.or_true,yL rfl];simp only [go_sem,ya,Ix,e1,e2,show ¬(600:Int)<((ax a.num.natAbs).length:Int) by omega,yp,e3,show (600:Int)<((ax a.den).length:Int) by omega]
  ·rw [yX h1,yX h2,ybe,yF (by decide)];simp only [go_sem,ya,Ix,e1,e2,show ¬(600:Int)<((ax a.num.natAbs).length:Int) by omega,yp,e3,show ¬(600:Int)<((ax a.den).length:Int) by omega]
def ff (l:List (List Nat)):Bool:=l.all fun s=>decide (s.length<=40)
def ahI {l:List (List Nat)} {i:Nat} (h:i<l.length):ff (l.drop i)=(decide (l[i].length<=40)&&ff (l.drop (i+1))):=by
 rw [yJ h];rfl
def ajv {l:List (List Nat)} {i:Nat} (h:i<l.length):bj ((l.drop i).map aU)=if aU l[i]=0 then bj ((l.drop (i+1)).map aU) else aU l[i]:=by
 rw [yJ h];rfl
def NA (h:Has P L 305 Cm) {v:AV} {l:List (List Nat)} (hv:fP v l) (hl:l.length<=1000000) (hs:∀s,s∈l->s.length<9223372036854775808):ae P L 305 [v] (.bool (ff l)):=by
 have key:=eh (P:=P) (L:=L) (live:=[0,3]) (a:=DV)
  (I:=fun k st=>∃i:Nat,st=⟨[(0,v),(3,aa i)],[],0,0⟩/\i+k=l.length/\ff (l.drop i)=ff l)
  (Q:=fun ex st=>∃tm ct,st=⟨tm,[],ct,0⟩/\((ex= .ret/\aj tm 2= .bool false/\ff l=false)\/(ex= .exit 0/\ff l=true))) ?_
 ·unfold ae;rw [au h];simp only [go_sem,Cm];generalize hq:D P L (.loop [0,3] DV) _=q;obtain ⟨ex,st,rfl,tm,ct,rfl,h2⟩:=bI hq (key l.length) ⟨0,by simp only [go_sem,ya,ao,aA hv.pu,aF _ hv.pu]<;>rfl,by omega,by simp⟩
  rcases h2 with ⟨rfl,h2,h3⟩ | ⟨rfl,h3⟩
  ·simp only [go_sem,h2,h3]
  ·simp only [go_sem,ao,h3]
 ·rintro k st ⟨i,rfl,hk,hd⟩;by_cases hi:i<l.length
  ·rw [ahI hi] at hd;have ev:=hv.a8 hi;by_cases h1:l[i].length<=40
   ·left
    rw [xi h1,wh] at hd;simp only [go_sem,ya,DV,hv.len,show (i:Int)<l.length by omega,ev,show ¬(40:Int)<(l[i].length:Int) by omega];refine ⟨_,k-1,rfl,by omega,i+1,?_,by omega,hd⟩;rw [wrap64 (by omega) (by omega)];simp only [go_sem,ya,ao,aA hv.pu,aF _ hv.pu]<;>rfl
   ·right
    rw [yX h1,wA] at hd;simp only [go_sem,ya,DV,hv.len,show (i:Int)<l.length by omega,ev,show (40:Int)<(l[i].length:Int) by omega];exact ⟨_,_,rfl,by simp,_,_,rfl,.inl ⟨rfl,by simp only [go_sem],hd.symm⟩⟩
  ·right
   simp only [go_sem,ya,DV,hv.len,show ¬(i:Int)<l.length by omega];refine ⟨_,_,rfl,by simp,_,_,rfl,.inr ⟨rfl,?_⟩⟩;rw [<-hd,yP (by omega)];rfl
def ash (h:Rm P L) (Tk:Has P L 261 MU) {v:AV} {l:List (List Nat)} (hv:fP v l) (hl:l.length<=1000000) (hs:∀s,s∈l->s.length<=1000000000):ae P L 261 [v] (aa (bj (l.map aU))):=by
 have key:=eh (P:=P) (L:=L) (live:=[0,3]) (a:=DS)
  (I:=fun k st=>∃i:Nat,st=⟨[(0,v),(3,aa i)],[],0,0⟩/\i+k=l.length/\bj ((l.drop i).map aU)=bj (l.map aU))
  (Q:=fun ex st=>∃tm ct,st=⟨tm,[],ct,0⟩/\((ex= .ret/\aj tm 2=aa (bj (l.map aU)))\/(ex= .exit 0/\bj (l.map aU)=0))) ?_
 ·unfold ae;rw [au Tk];simp only [go_sem,MU];generalize hq:D P L (.loop [0,3] DS) _=q;obtain ⟨ex,st,rfl,tm,ct,rfl,h2⟩:=bI hq (key l.length) ⟨0,by simp only [go_sem,ya,ao,aA hv.pu,aF _ hv.pu]<;>rfl,by omega,by simp⟩
  rcases h2 with ⟨rfl,h2⟩ | ⟨rfl,h3⟩
  ·simp only [go_sem,h2]
  ·simp only [go_sem,ao,h3]
 ·rintro k st ⟨i,rfl,hk,hd⟩;by_cases hi:i<l.length
  ·rw [ajv hi] at hd;have e1:=Tj h (hs l[i] (xr hi));have ev:=hv.a8 hi;by_cases h1:aU l[i]=0
   ·left
    rw [yL h1] at hd;rw [h1] at e1;simp only [go_sem,ya,DS,hv.len,show (i:Int)<l.length by omega,ev,e1,yo,yK];refine ⟨_,k-1,rfl,by omega,i+1,?_,by omega,hd⟩;rw [wrap64 (by omega) (by omega)];simp only [go_sem,ya,ao,aA hv.pu,aF _ hv.pu]<;>rfl
   ·right
    rw [yF h1] at hd;simp only [go_sem,ya,DS,hv.len,show (i:Int)<l.length by omega,ev,e1,h1,yp,yG];refine ⟨_,_,rfl,by simp,_,_,rfl,.inl ⟨rfl,?_⟩⟩;rw [<-hd];simp only [go_sem]
  ·right
   simp only [go_sem,ya,DS,hv.len,show ¬(i:Int)<l.length by omega];refine ⟨_,_,rfl,by simp,_,_,rfl,.inr ⟨rfl,?_⟩⟩;rw [<-hd,yP (by omega)];rfl
def ahJ {l:List Rat} {i:Nat} (h:i<l.length):(l.drop i).any LG=(LG l[i]||(l.drop (i+1)).any LG):=by
 rw [yJ h];rfl
def ac4 (h:Rl P L) (AH:Has P L 316 EB) {v:AV} {l:List Rat} (hv:fP v (l.map RT)) (hl:l.length<=1000000) {K:Nat} (hs:∀r,r∈l->Hq K r) (hK:K<=4000000000):ae P L 316 [v] (aa (if l.any LG=true then 4 else 0)):=by
 have hlen:(l.map RT).length=l.length:=by simp
 have key:=eh (P:=P) (L:=L) (live:=[0,3]) (a:=DW)
  (I:=fun k st=>∃i:Nat,st=⟨[(0,v),(3,aa i)],[],0,0⟩/\i+k=l.length/\(l.drop i).any LG=l.any LG)
  (Q:=fun ex st=>∃tm ct,st=⟨tm,[],ct,0⟩/\((ex= .ret/\aj tm 2=aa 4/\l.any LG=true)\/(ex= .exit 0/\l.any LG=false))) ?_
 ·unfold ae;rw [au AH];simp only [go_sem,EB];generalize hq:D P L (.loop [0,3] DW) _=q;obtain ⟨ex,st,rfl,tm,ct,rfl,h2⟩:=bI hq (key l.length) ⟨0,by simp only [go_sem,ya,ao,aA hv.pu,aF _ hv.pu]<;>rfl,by omega,by simp⟩
  rcases h2 with ⟨rfl,h2,h3⟩ | ⟨rfl,h3⟩
  ·simp only [go_sem,h2,h3,xh]
  ·simp only [go_sem,ao,h3];rfl
 ·rintro k st ⟨i,rfl,hk,hd⟩;by_cases hi:i<l.length
  ·rw [ahJ hi] at hd;have e1:=ac3 h (hs l[i] (xr hi)) hK;have ev:=hv.a8 (i:=i) (by simpa using hi);rw [List.getElem_map] at ev
   cases hb:LG l[i] with
   | false=>
    left
    rw [hb,wY] at hd;rw [hb] at e1;simp only [yC,y8] at e1;simp only [go_sem,ya,DW,hv.len,hlen,show (i:Int)<l.length by omega,ev,e1,yo,yK];refine ⟨_,k-1,rfl,by omega,i+1,?_,by omega,hd⟩;rw [wrap64 (by omega) (by omega)];simp only [go_sem,ya,ao,aA hv.pu,aF _ hv.pu]<;>rfl
   | true=>
    right
    rw [hb,uk] at hd;rw [hb] at e1;simp only [xh] at e1;simp only [go_sem,ya,DW,hv.len,hlen,show (i:Int)<l.length by omega,ev,e1,show ¬(4:Int)=0 by decide,yp,yG];exact ⟨_,_,rfl,by simp,_,_,rfl,.inl ⟨rfl,by simp only [go_sem],hd.symm⟩⟩
  ·right
   simp only [go_sem,ya,DW,hv.len,hlen,show ¬(i:Int)<l.length by omega];refine ⟨_,_,rfl,by simp,_,_,rfl,.inr ⟨rfl,?_⟩⟩;rw [<-hd,yP (by omega)];rfl
end
end
section
open Go (IntKind)
open Classical in
noncomputable def bC (s:List Nat):Rat:=if h:aU s=0 then Classical.choose (aqm h) else 0
def zJ {s:List Nat} (h:aU s=0):s=RT (bC s)/\(ax (bC s).num.natAbs).length<=600/\(ax (bC s).den).length<=600:=by
 unfold bC
 grind
def X3 {z:Int} {k M:Nat} (h:(ax z.natAbs).length<=k) (hM:4*k<=M):Bd M z:=by
 have h1:=Hf z.natAbs;have h2:=Hg (ax z.natAbs).length;have h3:(2:Nat)^(4*(ax z.natAbs).length)<=2^M:=xA (by decide) (by omega);exact yN h1 (xj h2 h3)
def jK {s:List Nat} (h:aU s=0) {M:Nat} (hM:2400<=M):Hq M (bC s):=by
 obtain ⟨_,h1,h2⟩:=zJ h
 exact ⟨X3 h1 (by omega),X3 (z:=((bC s).den:Int)) (by rw [wS];exact h2) (by omega)⟩
noncomputable def iF (s:List Nat) (least:Int):Int:=if aU s=0 then (if cA (bC s).num<least then 3 else 0) else aU s
def Qx {s:List Nat} {m:Int} (h:iF s m=0):aU s=0/\m<=cA (bC s).num:=by
 unfold iF at h
 grind
abbrev iL (x y:List Nat):AV:= .agg [.str x,.str y]
abbrev lY (a b:Rat):AV:= .agg [.str (RT a),.str (RT b)]
instance (k:Nat) (z:Int):Decidable (Bd k z):=inferInstanceAs (Decidable (z.natAbs<2^k))
def Tl:RT 0=[48]:=by decide
def NB:RT 1=[49]:=by decide
def AI:Hq 2 0:=⟨by decide,by decide⟩
def jZ:Hq 2 1:=⟨by decide,by decide⟩
def anX {a:Rat} (h:RT a=[48]):a=0:=by
 unfold RT at h;have hp:=rI a.den;by_cases hd:a.den=1
 ·rw [yL hd,wC] at h;by_cases h0:a.num<0
  ·rw [lZ h0] at h;simp at h
  ·obtain ⟨m,hm⟩:∃m:Nat,a.num=m:=⟨a.num.toNat,by omega⟩;rw [hm,jI] at h;have hv:=Br m;rw [h] at hv;have hv:some 0=some m:=hv
   have:m=0:=by simp_all
   simp_all
 ·rw [yF hd] at h;have hl:=congrArg List.length h
  grind
def Q5 (a:Rat):cE (RT a) [48]=decide (a=0):=by
 by_cases h:a=0
 ·subst h;exact Q4 Tl
 ·rw [yX h];exact mK (fun e=>h (anX e))
structure S0 (P:aI) (L:Lib):Prop extends Rm P L where
 zg:Has P L 42 JH
 Tk:Has P L 261 MU
 aut:Has P L 306 Si
 auu:Has P L 307 Sj
 auv:Has P L 308 Sk
 auw:Has P L 314 IF
structure Sr0 (P:aI) (L:Lib):Prop extends Rx P L,S0 P L where
 auy:Has P L 304 Sh
 qH:Has P L 305 Cm
 Tm:Has P L 309 EA
 auz:Has P L 311 M4
 Jd:Has P L 315 IG
 auA:Has P L 317 Sl
 auB:Has P L 318 Sm
instance {P:aI} {L:Lib}:Coe (Sr0 P L) (S0 P L):=⟨fun h=>h.toS0⟩
section
variable {P:aI} {L:Lib}
def aen (h:S0 P L) {s:List Nat} (hl:s.length<=1000000000) (m:Int):ae P L 314 [.str s,aa m] (aa (iF s m)):=by
 have e1:=Tj h.toRm hl;unfold ae at e1 ⊢;rw [au h.auw];unfold iF;by_cases h0:aU s=0
 ·obtain ⟨h1,_⟩:=zJ h0;have e2:=RN h.toRm (jK h0 (yv 2400)) (by omega);rw [<-h1] at e2;rw [h0] at e1;rw [yL h0];by_cases h2:cA (bC s).num<m
  ·rw [yL h2];simp only [go_sem,ya,IF,e1,yo,e2,h2]
  ·rw [yF h2];simp only [go_sem,ya,IF,e1,yo,e2,h2]
 ·rw [yF h0];simp only [go_sem,ya,IF,e1,h0,yp]
def aeo (h:S0 P L) {s:List Nat} (hl:s.length<=1000000000):ae P L 307 [.str s] (aa (iF s 0)):=by
 have e1:=aen h hl 0;unfold ae at e1 ⊢;rw [au h.auu];simp only [go_sem,ya,Sj,e1]
def Je (h:S0 P L) {x y:List Nat} (hx:x.length<=1000000000) (hy:y.length<=1000000000):ae P L 308 [iL x y] (aa (bj [aU x,aU y])):=by
 have e1:=ash h.toRm h.Tk (BB true [x,y]) (by simp) (fun s hs=>by simp at hs;rcases hs with rfl | rfl<;>assumption)
 simp only [yu,yA,yd,yb,yS,xH] at e1;unfold ae at e1 ⊢;rw [au h.auv];simp only [go_sem,ya,yb,yq,yh,yj,Sk,aG,aZ,yd,bX,e1]
def auC (h:S0 P L) {x y s:List Nat} (hx:x.length<=1000000000) (hy:y.length<=1000000000) (hs:s.length<=1000000000):ae P L 306 [.agg [.str x,.str y,.str s]] (aa (bj [bj [aU x,aU y],iF s 0])):=by
 have e1:=Je h hx hy;have e2:=aeo h hs;have e3:=UL h.zg (fb true [bj [aU x,aU y],iF s 0]) (by simp);simp only [yu,yA,yd,yb,yS,xH] at e3;unfold ae at e1 e2 ⊢;rw [au h.aut];simp only [go_sem,ya,yb,yq,yh,yj,Si,aY,aG,aZ,yd,dX,e1,e2,show xo 2 [AV.str x,.str y,.str s]=[.str s] from rfl,e3]
def auD (h:Sr0 P L) {x y s:List Nat} (hx:x.length<9223372036854775808) (hy:y.length<9223372036854775808) (hs:s.length<9223372036854775808):ae P L 304 [.agg [.str x,.str y,.str s]] (.bool (ff [x,y,s])):=by
 have e1:=NA h.qH (BB true [x,y,s]) (by simp) (fun t ht=>by simp at ht;rcases ht with rfl | rfl | rfl<;>omega)
 simp only [yu,yA,yd,yb,yS,xH] at e1;unfold ae at e1 ⊢;rw [au h.auy];simp only [go_sem,ya,yb,yq,yh,yj,Sh,aG,aZ,yd,bX,show xo 2 [AV.str x,.str y,.str s]=[.str s] from rfl,e1]
def auE (h:Rp P L) (Jd:Has P L 315 IG) {a b:Rat} {K M:Nat} (ka:Hq K a) (kb:Hq M b) (hK:K+M+1<=8000000000):ae P L 315 [.str (RT a),.str (RT b)] (aa (cA (a-b).num)):=by
 have e1:=B9 h ka kb hK;have e2:=RN h.toRm (ka.sub kb) hK;unfold ae at e1 e2 ⊢;rw [au Jd];simp only [go_sem,ya,IG,e1,e2]
def NC (h:Sr0 P L) {a b t c d:Rat} {K M J:Nat} (ka:Hq K a) (kb:Hq K b) (kt:Hq M t) (kc:Hq J c) (kd:Hq J d) (hK:K+M+J+1<=8000000000):ae P L 318 [lY a b,.str (RT t),lY c d] (lY (a+t*c) (b+t*d)):=by
 have e1:=qc h.toRn kt kc (by omega);have e2:=H9 h.toRp ka (kt.mul kc) (by omega);have e3:=qc h.toRn kt kd (by omega);have e4:=H9 h.toRp kb (kt.mul kd) (by omega);unfold ae at e1 e2 e3 e4 ⊢;rw [au h.auB];simp only [go_sem,ya,yb,yh,Sm,aG,aZ,yd,bX,e1,e2,e3,e4,dj];rfl
def aep (h:Sr0 P L) {t c d:Rat} {M J:Nat} (kt:Hq M t) (kc:Hq J c) (kd:Hq J d) (hK:M+J+3<=8000000000):ae P L 317 [.str (RT t),lY c d] (lY (t*c) (t*d)):=by
 have e1:=NC h AI AI kt kc kd (by omega);unfold lY at e1;rw [ybm,ybm,Tl] at e1;unfold ae at e1 ⊢;rw [au h.auA];simp only [go_sem,ya,yb,yh,Sl,aY,aG,yd,dX,e1,bm,dj];rfl
end
end
section
open Go (IntKind)
def Wz (q:Rat):q.num<0↔q<0:=by
 have h:=@Rat.num_nonneg q
 grind
def anY (a b:Rat):cA (a-b).num=sJ a b:=by
 unfold cA sJ;by_cases h1:a<b
 ·rw [yL ((Wz _).2 (by grind)),yL h1]
 ·rw [yF (fun e=>h1 (by have:=(Wz _).1 e;grind)),yF h1]
  by_cases h2:a=b
  ·subst h2;rw [yL (by rw [Rat.sub_self];rfl),yL rfl]
  ·rw [yF (fun e=>h2 (by have:=yau.1 e;grind)),yF h2]
def Lj (a b:Rat):sJ a b<0↔a<b:=by
 unfold sJ
 grind
abbrev fa (x y s:List Nat):AV:= .agg [.str x,.str y,.str s]
def B0 (hs h:Rat):Bool:=decide (hs=0)||decide (h<hs)
def fD (hs h:Rat):Rat:=if hs=0 then 1 else 1-h/hs
section
variable {P:aI} {L:Lib}
def auF (h:Rp P L) (Tm:Has P L 309 EA) (Jd:Has P L 315 IG) {x y:List Nat} {hs hh:Rat} {K M:Nat} (ks:Hq K hs) (kh:Hq M hh) (hK:K+M+1<=8000000000):ae P L 309 [fa x y (RT hs),.str (RT hh)] (.bool (B0 hs hh)):=by
 have e1:=auE h Jd kh ks (by omega);have e0:=Q5 hs;rw [anY] at e1;unfold ae at e1 ⊢;rw [au Tm];unfold B0;by_cases h0:hs=0
 ·rw [xi h0] at e0;rw [xi h0];simp only [go_sem,ya,yb,EA,aG,aZ,yd,show xo 2 [AV.str x,.str y,.str (RT hs)]=[.str (RT hs)] from rfl,iz,e0,uk]
 ·rw [yX h0] at e0;rw [yX h0];by_cases h1:hh<hs
  ·rw [xi h1]
   have:=(Lj hh hs).2 h1
   simp only [go_sem,ya,yb,EA,aG,aZ,yd,show xo 2 [AV.str x,.str y,.str (RT hs)]=[.str (RT hs)] from rfl,iz,e0,e1,this,yo,wY]
  ·rw [yX h1]
   have:¬sJ hh hs<0:=fun e=>h1 ((Lj hh hs).1 e)
   simp only [go_sem,ya,yb,EA,aG,aZ,yd,show xo 2 [AV.str x,.str y,.str (RT hs)]=[.str (RT hs)] from rfl,iz,e0,e1,this,yp,wY]
def GX {hs hh:Rat} {K M:Nat} (ks:Hq K hs) (kh:Hq M hh):Hq (K+M+3) (fD hs hh):=by
 unfold fD
 split
 ·exact jZ.mono (by omega)
 ·exact (jZ.sub (kh.div ks)).mono (by omega)
def auG (h:Sr0 P L) {dx dy hs hh x y:Rat} {K:Nat} (C6:Hq K dx) (C7:Hq K dy) (ks:Hq K hs) (kh:Hq K hh) (kx:Hq K x) (ky:Hq K y) (hK:K<=100000000):
  ae P L 311 [fa (RT dx) (RT dy) (RT hs),.str (RT hh),lY x y] (lY (fD hs hh*x+hh*dx) (fD hs hh*y+hh*dy)):=by
 have C8:=GX ks kh;have e0:=Q5 hs;have e3:=aep h C8 kx ky (by omega);have e4:=NC h (C8.mul kx) (C8.mul ky) kh C6 C7 (by omega);unfold ae at e3 e4 ⊢;rw [au h.auz];by_cases h0:hs=0
 ·rw [xi h0] at e0;have fH:fD hs hh=1:=by unfold fD;rw [yL h0]
  rw [fH] at e3 e4 ⊢;rw [NB] at e3;simp only [go_sem,ya,yb,M4,aY,aG,aZ,yd,show xo 2 [AV.str (RT dx),.str (RT dy),.str (RT hs)]=[.str (RT hs)] from rfl,pO,e0,yK,dX,e3,e4,bm,dj];rfl
 ·rw [yX h0] at e0;have fH:fD hs hh=1-hh/hs:=by unfold fD;rw [yF h0]
  have e1:=ac2 h.toRx kh ks (by omega) h0;have e2:=B9 h.toRp jZ (kh.div ks) (by omega);rw [<-fH,NB] at e2;simp only [go_sem,ya,yb,M4,aY,aG,aZ,yd,show xo 2 [AV.str (RT dx),.str (RT dy),.str (RT hs)]=[.str (RT hs)] from rfl,pO,e0,yG,e1,e2,dX,e3,e4,bm,dj];rfl
end
end
section
open Go (IntKind)
def nA (v:AV) (a b:Rat):Prop:=∃s1 w1 s2 w2 s3 w3 s4 w4,v= .agg [aa s1,w1,aa s2,w2,aa s3,w3,aa s4,w4]/\cV s1 w1 a.num/\cV s2 w2 (a.den:Int)/\cV s3 w3 b.num/\cV s4 w4 (b.den:Int)
section
variable {s1 s2 s3 s4:Int} {w1 w2 w3 w4:AV} {l1 l2 l3 l4:List Nat}
def Mq (h1:bG w1 l1) (h2:bG w2 l2) (h3:bG w3 l3) (h4:bG w4 l4) (hp:Hp) (ct id:Nat) (a b c d e f g h:AV):fM hp ct id 0 8 [.int .i64 s1,w1,.int .i64 s2,w2,.int .i64 s3,w3,.int .i64 s4,w4] (some (.cells true true true 8 [a,b,c,d,e,f,g,h]))=some (.aq [],bh hp id (.cells true true true 8 [.int .i64 s1,w1,.int .i64 s2,w2,.int .i64 s3,w3,.int .i64 s4,w4]),ct):=by
 rw [nV (by rfl) (by simp) (by simp [bL,h1.one,h2.one,h3.one,h4.one,Hd])];simp [aK,h1.pu,h2.pu,h3.pu,h4.pu,over,D5]
def Mr (h1:bG w1 l1) (h2:bG w2 l2) (h3:bG w3 l3) (h4:bG w4 l4) (hp:Hp):result hp (.agg [aa s1,w1,aa s2,w2,aa s3,w3,aa s4,w4])=some (.agg [aa s1,w1,aa s2,w2,aa s3,w3,aa s4,w4]):=by
 rcases h1 with ⟨rfl,_⟩ | ⟨e,rfl⟩<;>rcases h2 with ⟨rfl,_⟩ | ⟨e',rfl⟩<;>rcases h3 with ⟨rfl,_⟩ | ⟨e,rfl⟩<;>rcases h4 with ⟨rfl,_⟩ | ⟨e',rfl⟩<;>rfl
def Qy {tm:Env} {a b c d x y z w:AV} {x' y' z' w':AV} {r:List (Nat×Nat×X)} (h1:br a=true) (h2:br b=true) (h3:br c=true) (h4:br d=true):fG tm [x',y',z',w',x,y,z,w] 0 4 [a,b,c,d] r=fill tm [a,b,c,d,x,y,z,w] r:=by
 rw [jb (by rfl) (by simp) (by simp [bL,h1,h2,h3,h4])];rfl
def Qz {tm:Env} {a b c d x y z w:AV} {x' y' z' w':AV} {r:List (Nat×Nat×X)} (h1:br a=true) (h2:br b=true) (h3:br c=true) (h4:br d=true):fG tm [x,y,z,w,x',y',z',w'] 4 4 [a,b,c,d] r=fill tm [x,y,z,w,a,b,c,d] r:=by
 rw [jb (by rfl) (by simp) (by simp [bL,h1,h2,h3,h4])];rfl
def anZ {tm:Env} {a b x y z:AV} {r:List (Nat×Nat×X)} (h1:br a=true) (h2:br b=true):fG tm [x,y,z] 0 2 [a,b] r=fill tm [a,b,z] r:=by
 rw [jb (by rfl) (by simp) (by simp [bL,h1,h2])];rfl
def Eg (a b c d e f g h:AV):eY 8 true [a,b,c,d,e,f,g,h]=some (.agg [a,b,c,d,e,f,g,h]):=rfl
def jw (a b c d:AV) (r:List AV):eY 4 true (a::b::c::d::r)=some (.agg [a,b,c,d]):=rfl
def fc (a b c:AV) (r:List AV):eY 3 true (a::b::c::r)=some (.agg [a,b,c]):=rfl
def BC (a b c d e f g h:AV):xo 4 [a,b,c,d,e,f,g,h]=[e,f,g,h]:=rfl
def LL (a b c:AV):xo 2 [a,b,c]=[c]:=rfl
end
structure Sp (P:aI) (L:Lib):Prop extends Ck P L where
 kT:Has P L 31 A0
 oC:Has P L 33 JG
 Vg:Has P L 53 Uq
 Vh:Has P L 54 Ur
 Vk:Has P L 60 Ut
 Vm:Has P L 61 JI
 NU:Has P L 63 JJ
 OP:Has P L 64 Oc
 h65:Has P L 65 c65
 Vo:Has P L 68 Uv
 h75:Has P L 75 UA
 auH:Has P L 112 R8
 ayO:Has P L 113 adm
 ayP:Has P L 114 adn
section
variable {P:aI} {L:Lib}
def Km (h:Sp P L) {x y:List Nat} (hx:x.length<=1000000000) (hy:y.length<=1000000000):ae P L 53 [iL x y] (aa (bj [aU x,aU y])):=by
 have e1:=OR h.toCk hx;have e2:=OR h.toCk hy;have e3:=zf h.oC (fb true [aU x,aU y]) (by simp);simp only [yu,yA,yd,yb,yS,xH] at e3;unfold ae at e1 e2 ⊢;rw [au h.Vg];simp only [go_sem,ya,yb,yq,yh,yj,Uq,aG,aZ,yd,bX,e1,e2,e3]
def sN (h:Sp P L) {s:List Nat} (h0:aU s=0):∃r,ae P L 62 [.str s] r/\bW r (bC s):=by
 obtain ⟨hR,_⟩:=zJ h0;have kr:=jK h0 (yv 2400);have hl:=D7 kr;obtain ⟨r,e,hr⟩:=m62 h.toTx (a:=bC s) (by omega)
 grind
def VA (h:Sp P L) {s:List Nat} (hl:s.length<=1000000000) (m:Int):ae P L 61 [.str s,aa m] (aa (iF s m)):=by
 have e1:=OR h.toCk hl;unfold ae at e1 ⊢;rw [au h.Vm];unfold iF;by_cases h0:aU s=0
 ·obtain ⟨r,e2,hr⟩:=sN h h0;have e3:=atD h.toFr' hr;obtain ⟨s1,w1,s2,w2,rfl,h1,h2⟩:=hr;obtain ⟨l1,u1⟩:=h1.aD;obtain ⟨l2,u2⟩:=h2.aD;rw [h0] at e1;rw [yL h0];have e4:=fun b=>A3 h.kT b 3
  by_cases hm:cA (bC s).num<m
  ·rw [yL hm];have e5:=e4 true;simp only [xh] at e5;simp only [go_sem,ya,JI,e1,yo,yK,e2,bm,aY,u1.af,u2.af,e3,hm,e5]
  ·rw [yF hm];have e5:=e4 false;simp only [yC,y8] at e5;simp only [go_sem,ya,JI,e1,yo,yK,e2,bm,aY,u1.af,u2.af,e3,hm,yp,e5]
 ·rw [yF h0];simp only [go_sem,ya,JI,e1,h0,yp,yG]
def m60 (h:Sp P L) {x y s:List Nat} (hx:x.length<=1000000000) (hy:y.length<=1000000000) (hs:s.length<=1000000000):ae P L 60 [fa x y s] (aa (bj [bj [aU x,aU y],iF s 0])):=by
 have e1:=Km h hx hy;have e2:=VA h hs 0;have e3:=zf h.oC (fb true [bj [aU x,aU y],iF s 0]) (by simp);simp only [yu,yA,yd,yb,yS,xH] at e3;unfold ae at e1 e2 ⊢;rw [au h.Vk];simp only [go_sem,ya,yb,yq,yh,yj,Ut,aY,aG,aZ,yd,dX,e1,e2,LL,e3]
def asi (a b c d e f:List Nat):iU (.ag [2,2,2]) (fa a b c) (fa d e f)=some (cE a d&&(cE b e&&cE c f)):=by
 show dJ [2,2,2] [.str a,.str b,.str c] [.str d,.str e,.str f]=_
 simp only [dJ]
 grind
def KW (a:List Nat):cE a a=true:=LJ rfl
def m68 (h:Sp P L) (x y s:List Nat):ae P L 68 [fa x y s] (.bool (cE s [48])):=by
 unfold ae;rw [au h.Vo];simp only [go_sem,ya,yb,yh,Uv,aG,aZ,yd,dX,fc,anZ,asi,dK,KW,wh]
def OT (h:Sp P L) {x y:List Nat} (hx:aU x=0) (hy:aU y=0):∃r,ae P L 54 [iL x y] r/\nA r (bC x) (bC y):=by
 obtain ⟨p,e1,hp⟩:=sN h hx;obtain ⟨q,e2,hq⟩:=sN h hy;obtain ⟨s1,w1,s2,w2,rfl,h1,h2⟩:=hp;obtain ⟨s3,w3,s4,w4,rfl,h3,h4⟩:=hq;obtain ⟨l1,u1⟩:=h1.aD;obtain ⟨l2,u2⟩:=h2.aD;obtain ⟨l3,u3⟩:=h3.aD;obtain ⟨l4,u4⟩:=h4.aD;refine ⟨_,?_,s1,w1,s2,w2,s3,w3,s4,w4,rfl,h1,h2,h3,h4⟩;unfold ae at e1 e2 ⊢;rw [au h.Vh];simp only [go_sem,ya,yb,Ur,aG,aZ,yd,bX,e1,e2,bm,u1.one,u2.one,u3.one,u4.one,Qy,Qz,Mq u1 u2 u3 u4,cR,cS,yi,Eg,Mr u1 u2 u3 u4]
def OU (h:Sp P L) {v w:AV} {a b t:Rat} {K:Nat} (hv:nA v a b) (hw:bW w t) (ka:Hq K a) (kb:Hq K b) (kt:Hq K t) (hK:K<=10000000000):∃r,ae P L 75 [v,w] r/\nA r (a*t) (b*t):=by
 obtain ⟨s1,w1,s2,w2,s3,w3,s4,w4,rfl,h1,h2,h3,h4⟩:=hv;obtain ⟨p,e1,hp⟩:=rq h.toFr' ⟨s1,w1,s2,w2,rfl,h1,h2⟩ hw ka kt hK;obtain ⟨q,e2,hq⟩:=rq h.toFr' ⟨s3,w3,s4,w4,rfl,h3,h4⟩ hw kb kt hK;obtain ⟨s5,w5,s6,w6,rfl,h5,h6⟩:=hw;obtain ⟨x1,y1,x2,y2,rfl,g1,g2⟩:=hp;obtain ⟨x3,y3,x4,y4,rfl,g3,g4⟩:=hq;obtain ⟨l1,u1⟩:=h1.aD;obtain ⟨l2,u2⟩:=h2.aD;obtain ⟨l3,u3⟩:=h3.aD;obtain ⟨l4,u4⟩:=h4.aD;obtain ⟨l5,u5⟩:=h5.aD;obtain ⟨l6,u6⟩:=h6.aD;obtain ⟨m1,v1⟩:=g1.aD;obtain ⟨m2,v2⟩:=g2.aD;obtain ⟨m3,v3⟩:=g3.aD;obtain ⟨m4,v4⟩:=g4.aD;refine ⟨_,?_,x1,y1,x2,y2,x3,y3,x4,y4,rfl,g1,g2,g3,g4⟩;unfold ae at e1 e2 ⊢;rw [au h.h75]
 simp only [go_sem,ya,yb,UA,aG,aZ,yd,BC,jw,aY,u1.pu,u1.af,u1.one,u2.pu,u2.af,u2.one,u3.pu,u3.af,u3.one,u4.pu,u4.af,u4.one,u5.pu,u5.af,u5.one,u6.pu,u6.af,u6.one,v1.one,v2.one,v3.one,v4.one,e1,e2,bm,Qy,Qz,Mq v1 v2 v3 v4,cR,cS,yi,Eg,Mr v1 v2 v3 v4]
def Tn (h:Sp P L) {v w:AV} {a b c d:Rat} {K:Nat} (hv:nA v a b) (hw:nA w c d) (ka:Hq K a) (kb:Hq K b) (kc:Hq K c) (kd:Hq K d) (hK:K<=10000000000):∃r,ae P L 112 [v,w] r/\nA r (a+c) (b+d):=by
 obtain ⟨s1,w1,s2,w2,s3,w3,s4,w4,rfl,h1,h2,h3,h4⟩:=hv;obtain ⟨s5,w5,s6,w6,s7,w7,s8,w8,rfl,h5,h6,h7,h8⟩:=hw;obtain ⟨p,e1,hp⟩:=Kc h.toFr' ⟨s1,w1,s2,w2,rfl,h1,h2⟩ ⟨s5,w5,s6,w6,rfl,h5,h6⟩ ka kc hK;obtain ⟨q,e2,hq⟩:=Kc h.toFr' ⟨s3,w3,s4,w4,rfl,h3,h4⟩ ⟨s7,w7,s8,w8,rfl,h7,h8⟩ kb kd hK;obtain ⟨x1,y1,x2,y2,rfl,g1,g2⟩:=hp;obtain ⟨x3,y3,x4,y4,rfl,g3,g4⟩:=hq;obtain ⟨l1,u1⟩:=h1.aD;obtain ⟨l2,u2⟩:=h2.aD;obtain ⟨l3,u3⟩:=h3.aD;obtain ⟨l4,u4⟩:=h4.aD;obtain ⟨l5,u5⟩:=h5.aD;obtain ⟨l6,u6⟩:=h6.aD;obtain ⟨l7,u7⟩:=h7.aD;obtain ⟨l8,u8⟩:=h8.aD;obtain ⟨m1,v1⟩:=g1.aD;obtain ⟨m2,v2⟩:=g2.aD;obtain ⟨m3,v3⟩:=g3.aD;obtain ⟨m4,v4⟩:=g4.aD;refine ⟨_,?_,x1,y1,x2,y2,x3,y3,x4,y4,rfl,g1,g2,g3,g4⟩;unfold ae at e1 e2 ⊢;rw [au h.auH]
 simp only [go_sem,ya,yb,R8,aG,aZ,yd,BC,jw,aY,u1.pu,u1.af,u1.one,u2.pu,u2.af,u2.one,u3.pu,u3.af,u3.one,u4.pu,u4.af,u4.one,u5.pu,u5.af,u5.one,u6.pu,u6.af,u6.one,u7.pu,u7.af,u7.one,u8.pu,u8.af,u8.one,v1.one,v2.one,v3.one,v4.one,e1,e2,bm,Qy,Qz,Mq v1 v2 v3 v4,cR,cS,yi,Eg,Mr v1 v2 v3 v4]
end
end
section
open Go (IntKind)
structure F4 (c1 c2 c3 c4:AV):Prop where
 af:∀(n:Nat) (hp:Hp),freeze (n+20) hp (.agg [c1,c2,c3,c4])=some (.agg [c1,c2,c3,c4],hp)
 dY:∀hp:Hp,result hp (.agg [c1,c2,c3,c4])=some (.agg [c1,c2,c3,c4])
 st:∀(hp:Hp) (ct id:Nat) (a b c d:AV),fM hp ct id 0 4 [c1,c2,c3,c4] (some (.cells true true true 4 [a,b,c,d]))=some (.aq [],bh hp id (.cells true true true 4 [c1,c2,c3,c4]),ct)
 bx:∀ct:Nat,Ax ct 4 [c1,c2,c3,c4]=some (.ptr ct 0,.cells true true true 4 [c1,c2,c3,c4])
 o1:br c1=true
 o2:br c2=true
 o3:br c3=true
 o4:br c4=true
 pu:aX (.agg [c1,c2,c3,c4])=true
 z1:∀(n:Nat) (hp:Hp),freeze (n+1) hp c1=some (c1,hp)
 z2:∀(n:Nat) (hp:Hp),freeze (n+1) hp c2=some (c2,hp)
 z3:∀(n:Nat) (hp:Hp),freeze (n+1) hp c3=some (c3,hp)
 z4:∀(n:Nat) (hp:Hp),freeze (n+1) hp c4=some (c4,hp)
structure F8 (c1 c2 c3 c4 c5 c6 c7 c8:AV):Prop where
 af:∀(n:Nat) (hp:Hp),freeze (n+20) hp (.agg [c1,c2,c3,c4,c5,c6,c7,c8])=some (.agg [c1,c2,c3,c4,c5,c6,c7,c8],hp)
 dY:∀hp:Hp,result hp (.agg [c1,c2,c3,c4,c5,c6,c7,c8])=some (.agg [c1,c2,c3,c4,c5,c6,c7,c8])
 st:∀(hp:Hp) (ct id:Nat) (a b c d e f g h:AV),fM hp ct id 0 8 [c1,c2,c3,c4,c5,c6,c7,c8] (some (.cells true true true 8 [a,b,c,d,e,f,g,h]))=some (.aq [],bh hp id (.cells true true true 8 [c1,c2,c3,c4,c5,c6,c7,c8]),ct)
 bx:∀ct:Nat,Ax ct 8 [c1,c2,c3,c4,c5,c6,c7,c8]=some (.ptr ct 0,.cells true true true 8 [c1,c2,c3,c4,c5,c6,c7,c8])
def bW.gen {v:AV} {a:Rat} (h:bW v a):∃c1 c2 c3 c4,v= .agg [c1,c2,c3,c4]/\F4 c1 c2 c3 c4:=by
 obtain ⟨s1,w1,s2,w2,rfl,h1,h2⟩:=h;obtain ⟨l1,u1⟩:=h1.aD;obtain ⟨l2,u2⟩:=h2.aD;refine ⟨_,_,_,_,rfl,fun n hp=>?_,kD u1 u2,fun hp ct id a b c d=>jR u1 u2 hp ct id a b c d,fun ct=>by simp only [go_sem,yb,aG,u1.pu,u1.one,u2.pu,u2.one],rfl,u1.one,rfl,u2.one,by simp [aX,aK,u1.pu,u2.pu],fun _ _=>rfl,fun n _=>u1.af n,fun _ _=>rfl,fun n _=>u2.af n⟩;exact aY _ _ (by simp only [go_sem,u1.af,u2.af])
def nA.gen {v:AV} {a b:Rat} (h:nA v a b):∃c1 c2 c3 c4 c5 c6 c7 c8,v= .agg [c1,c2,c3,c4,c5,c6,c7,c8]/\F8 c1 c2 c3 c4 c5 c6 c7 c8:=by
 obtain ⟨s1,w1,s2,w2,s3,w3,s4,w4,rfl,h1,h2,h3,h4⟩:=h;obtain ⟨l1,u1⟩:=h1.aD;obtain ⟨l2,u2⟩:=h2.aD;obtain ⟨l3,u3⟩:=h3.aD;obtain ⟨l4,u4⟩:=h4.aD;refine ⟨_,_,_,_,_,_,_,_,rfl,fun n hp=>?_,Mr u1 u2 u3 u4,fun hp ct id a b c d e f g h=>Mq u1 u2 u3 u4 hp ct id a b c d e f g h,fun ct=>by simp only [go_sem,yb,aG,u1.pu,u1.one,u2.pu,u2.one,u3.pu,u3.one,u4.pu,u4.one]⟩;exact aY _ _ (by simp only [go_sem,u1.af,u2.af,u3.af,u4.af])
def QA {a b:Int}:bj [a,b]=0↔a=0/\b=0:=by
 simp only [bj]
 grind
noncomputable def jS (x y s:List Nat):Int:=bj [bj [aU x,aU y],iF s 0]
def Qa {x y s:List Nat} (h:jS x y s=0):aU x=0/\aU y=0/\aU s=0/\0<=cA (bC s).num:=by
 obtain ⟨h1,h2⟩:=QA.1 h;obtain ⟨h3,h4⟩:=QA.1 h1;obtain ⟨h5,h6⟩:=Qx h2
 grind
section
variable {P:aI} {L:Lib}
def nat_eq {s:List Nat} (h:aU s=0):cE s [48]=decide (bC s=0):=by
 have:=Q5 (bC s)
 rwa [<-(zJ h).1] at this
def m63 (h:Sp P L) {x y s:List Nat} {w:AV} {hh:Rat} (hs:aU s=0) (hw:bW w hh) {K:Nat} (kh:Hq K hh) (hK:K<=1000000000):ae P L 63 [fa x y s,w] (.bool (B0 (bC s) hh)):=by
 have e1:=m68 h x y s;rw [nat_eq hs] at e1;obtain ⟨r,e2,hr⟩:=sN h hs;have e3:=m71 h.toFr' hw hr (kh.mono (show K<=K+2400 by omega)) ((jK hs (yv 2400)).mono (show 2400<=K+2400 by omega)) (by omega);obtain ⟨s1,w1,s2,w2,rfl,h1,h2⟩:=hw;obtain ⟨s3,w3,s4,w4,rfl,h3,h4⟩:=hr;obtain ⟨l1,u1⟩:=h1.aD;obtain ⟨l2,u2⟩:=h2.aD;obtain ⟨l3,u3⟩:=h3.aD;obtain ⟨l4,u4⟩:=h4.aD;unfold B0;unfold ae at e1 e2 e3 ⊢;rw [au h.NU];by_cases h0:bC s=0
 ·rw [xi h0] at e1 ⊢;simp only [go_sem,ya,yb,JJ,aY,aG,fc,u1.pu,u1.one,u2.pu,u2.one,e1,uk]
 ·rw [yX h0] at e1 ⊢;by_cases hb:hh<bC s
  ·have:=(Lj _ _).2 hb
   rw [xi hb];simp only [go_sem,ya,yb,JJ,aY,aG,fc,u1.pu,u1.af,u1.one,u2.pu,u2.af,u2.one,u3.af,u4.af,e1,jw,aZ,yd,LL,e2,bm,e3,this,yo,wY]
  ·have:¬sJ hh (bC s)<0:=fun e=>hb ((Lj _ _).1 e)
   rw [yX hb];simp only [go_sem,ya,yb,JJ,aY,aG,fc,u1.pu,u1.af,u1.one,u2.pu,u2.af,u2.one,u3.af,u4.af,e1,jw,aZ,yd,LL,e2,bm,e3,this,yp,ybe]
def m64 (h:Sp P L) {dx dy s x y:List Nat} {w:AV} {hh:Rat} (Fl:aU dx=0) (hdy:aU dy=0) (hs:aU s=0) (hx:aU x=0) (hy:aU y=0) (hw:bW w hh) {K:Nat} (kh:Hq K hh) (hK:K<=100000000):
  ∃r,ae P L 64 [fa dx dy s,w,iL x y] r/\nA r (fD (bC s) hh*bC x+hh*bC dx) (fD (bC s) hh*bC y+hh*bC dy):=by
 have e1:=m68 h dx dy s;rw [nat_eq hs] at e1;have kx:=(jK hx (yv 2400));have ky:=(jK hy (yv 2400));have C6:=(jK Fl (yv 2400));have C7:=(jK hdy (yv 2400));have ks:=(jK hs (yv 2400));obtain ⟨M,hM⟩:∃M,M=2*K+8000:=⟨_,rfl⟩;obtain ⟨p,e2,hp⟩:=OT h hx hy;obtain ⟨d,e3,hd⟩:=OT h Fl hdy;obtain ⟨d2,e4,fB⟩:=OU h hd hw (C6.mono (show 2400<=M by omega)) (C7.mono (by omega)) (kh.mono (by omega)) (by omega);have C8:=GX ks kh;have sum:∀{q:AV},nA q (fD (bC s) hh*bC x) (fD (bC s) hh*bC y)->∃r,ae P L 112 [q,d2] r/\nA r (fD (bC s) hh*bC x+hh*bC dx) (fD (bC s) hh*bC y+hh*bC dy):=fun {q} hq=>by
  obtain ⟨r,e,hr⟩:=Tn h hq fB ((C8.mul kx).mono (show 2400+K+3+2400<=M by omega)) ((C8.mul ky).mono (by omega)) ((C6.mul kh).mono (by omega)) ((C7.mul kh).mono (by omega)) (by omega);rw [vG (bC dx),vG (bC dy)] at hr;exact ⟨r,e,hr⟩
 by_cases h0:bC s=0
 ·rw [xi h0] at e1;have fH:fD (bC s) hh=1:=by unfold fD;rw [yL h0]
  obtain ⟨r,e5,hr⟩:=sum (q:=p) (by rw [fH,ybf,ybf];exact hp)
  refine ⟨r,?_,hr⟩;obtain ⟨w1,w2,w3,w4,rfl,gw⟩:=hw.gen;obtain ⟨p1,p2,p3,p4,p5,p6,p7,p8,rfl,gp⟩:=hp.gen;obtain ⟨d1,d2',d3,d4,d5,d6,d7,d8,rfl,gd⟩:=hd.gen;obtain ⟨f1,f2,f3,f4,f5,f6,f7,f8,rfl,gf⟩:=fB.gen;obtain ⟨r1,r2,r3,r4,r5,r6,r7,r8,rfl,gr⟩:=hr.gen;unfold ae at e1 e2 e3 e4 e5 ⊢;rw [au h.OP];simp only [go_sem,ya,yb,Oc,aY,aG,dX,fc,jw,Eg,aZ,yd,gw.bx,gw.af,gp.af,gd.af,gf.af,e1,e2,e3,e4,e5,yK,bm,gp.st,gr.st,cR,cS,yi,gr.dY]
 ·rw [yX h0] at e1;have fH:fD (bC s) hh=1-hh/bC s:=by unfold fD;rw [yF h0]
  obtain ⟨o,e6,ho⟩:=CY h.toFr' (z:=1) (by decide) (by decide);obtain ⟨f,e7,hf⟩:=sN h hs;obtain ⟨g,e8,hg⟩:=m70 h.toFr' hw hf h0 (kh.mono (show K<=M by omega)) (ks.mono (by omega)) (by omega);have k1:Hq M ((1:Int):Rat):=jZ.mono (by omega);obtain ⟨i,e9,hi⟩:=Kd h.toFr' ho hg k1 ((kh.div ks).mono (by omega)) (by omega);rw [show ((1:Int):Rat)-hh/bC s=fD (bC s) hh from fH.symm] at hi;obtain ⟨q,eA,hq⟩:=OU h hp hi (kx.mono (show 2400<=M by omega)) (ky.mono (by omega)) (C8.mono (by omega)) (by omega);rw [vG (bC x),vG (bC y)] at hq;obtain ⟨r,e5,hr⟩:=sum hq;refine ⟨r,?_,hr⟩;obtain ⟨w1,w2,w3,w4,rfl,gw⟩:=hw.gen;obtain ⟨p1,p2,p3,p4,p5,p6,p7,p8,rfl,gp⟩:=hp.gen;obtain ⟨d1,d2',d3,d4,d5,d6,d7,d8,rfl,gd⟩:=hd.gen;obtain ⟨f1,f2,f3,f4,f5,f6,f7,f8,rfl,gf⟩:=fB.gen;obtain ⟨r1,r2,r3,r4,r5,r6,r7,r8,rfl,gr⟩:=hr.gen;obtain ⟨q1,q2,q3,q4,q5,q6,q7,q8,rfl,gq⟩:=hq.gen
  obtain ⟨o1,o2,o3,o4,rfl,go⟩:=ho.gen;obtain ⟨x1,x2,x3,x4,rfl,gx⟩:=hf.gen;obtain ⟨y1,y2,y3,y4,rfl,gy⟩:=hg.gen;obtain ⟨z1,z2,z3,z4,rfl,gz⟩:=hi.gen;unfold ae at e1 e2 e3 e4 e5 e6 e7 e8 e9 eA ⊢;rw [au h.OP];simp only [go_sem,ya,yb,Oc,aY,aG,dX,fc,jw,Eg,aZ,yd,LL,gw.bx,gw.af,gp.af,gd.af,gf.af,go.af,gx.af,gy.af,gz.af,gq.af,e1,e2,e3,e4,e5,e6,e7,e8,e9,eA,yG,bm,gp.st,gq.st,gr.st,cR,cS,yi,gr.dY]
end
end
section
open Go (IntKind)
def QL:List AV->List Rat->Prop
 | [],[]=>True
 | a::b::c::d::r,x::l=>bW (.agg [a,b,c,d]) x/\QL r l
 | _,_=>False
def QL.inv {cs:List AV} {x:Rat} {l:List Rat} (h:QL cs (x::l)):∃a b c d r,cs=a::b::c::d::r/\bW (.agg [a,b,c,d]) x/\QL r l:=by
 match cs,h with
 | a::b::c::d::r,h=>exact ⟨a,b,c,d,r,rfl,h.1,h.2⟩
def QL.Jf {cs:List AV} (h:QL cs []):cs=[]:=by
 match cs,h with
 | [],_=>rfl
 | [_],h=>exact h.elim
 | [_,_],h=>exact h.elim
 | [_,_,_],h=>exact h.elim
 | _::_::_::_::_,h=>exact h.elim
def QL.len:∀{l:List Rat} {cs:List AV},QL cs l->cs.length=l.length*4
 | [],_,h=>by rw [h.Jf];rfl
 | x::l,cs,h=>by
  obtain ⟨a,b,c,d,r,rfl,_,h2⟩:=h.inv
  have:=h2.len
  grind
def F4.Kn {c1 c2 c3 c4:AV} (g:F4 c1 c2 c3 c4):aX c1=true/\aX c2=true/\aX c3=true/\aX c4=true:=by
 have:=g.pu
 simpa only [aX,aK,uv,Bool.and_eq_true] using this
def bW.f4 {a b c d:AV} {x:Rat} (h:bW (.agg [a,b,c,d]) x):F4 a b c d:=by
 obtain ⟨_,_,_,_,e,g⟩:=h.gen
 grind
def QL.pu:∀{l:List Rat} {cs:List AV},QL cs l->aK cs=true
 | [],_,h=>by rw [h.Jf];rfl
 | x::l,cs,h=>by
  obtain ⟨a,b,c,d,r,rfl,h1,h2⟩:=h.inv;obtain ⟨p1,p2,p3,p4⟩:=h1.f4.Kn;simp only [aK,p1,p2,p3,p4,h2.pu,wB]
def QL.one:∀{l:List Rat} {cs:List AV},QL cs l->bL cs=true
 | [],_,h=>by rw [h.Jf];rfl
 | x::l,cs,h=>by
  obtain ⟨a,b,c,d,r,rfl,h1,h2⟩:=h.inv;have g:=h1.f4;simp only [bL,g.o1,g.o2,g.o3,g.o4,h2.one,wB]
def QL.dl:∀{l m:List Rat} {cs ds:List AV},QL cs l->QL ds m->QL (cs++ds) (l++m)
 | [],m,cs,ds,h,k=>by rw [h.Jf];exact k
 | x::l,m,cs,ds,h,k=>by
  obtain ⟨a,b,c,d,r,rfl,h1,h2⟩:=h.inv;exact ⟨h1,h2.dl k⟩
def QL.snoc {l:List Rat} {x:Rat} {cs:List AV} {a b c d:AV} (h:QL cs l) (k:bW (.agg [a,b,c,d]) x):QL (cs++[a,b,c,d]) (l++[x]):=h.dl ⟨k,trivial⟩
def QL.get:∀{l:List Rat} {cs:List AV} {i:Nat},QL cs l->∀(hi:i<l.length),∃a b c d r,cs.drop (i*4)=a::b::c::d::r/\bW (.agg [a,b,c,d]) l[i]
 | [],_,i,_,hi=>absurd hi (Nat.not_lt_zero i)
 | x::l,cs,0,h,hi=>by
  obtain ⟨a,b,c,d,r,rfl,h1,_⟩:=h.inv
  grind
 | x::l,cs,i+1,h,hi=>by
  obtain ⟨a,b,c,d,r,rfl,_,h2⟩:=h.inv;obtain ⟨a',b',c',d',r',e,k⟩:=h2.get (i:=i) (by simpa using hi)
  grind
def kN (v:AV) (l:List Rat):Prop:=(v= .ab/\l=[])\/∃e cs,v= .aH e l.length cs/\QL cs l
section
variable {v:AV} {l:List Rat} {hp:Hp}
def kN.len (h:kN v l) {hp:Hp}:gV hp 1 v=some (.int .i64 (l.length:Nat)):=by
 rcases h with ⟨rfl,rfl⟩ | ⟨e,cs,rfl,h⟩<;>rfl
def kN.pu (h:kN v l):aX v=true:=by
 rcases h with ⟨rfl,rfl⟩ | ⟨e,cs,rfl,h⟩<;>rfl
def kN.af (h:kN v l) (n:Nat) {hp:Hp}:freeze (n+1) hp v=some (v,hp):=by
 rcases h with ⟨rfl,rfl⟩ | ⟨e,cs,rfl,h⟩<;>rfl
def kN.a8 (h:kN v l) {i:Nat} (hi:i<l.length):∃a b c d r,gU 4 i v=some (.aO (a::b::c::d::r))/\bW (.agg [a,b,c,d]) l[i]:=by
 rcases h with ⟨rfl,rfl⟩ | ⟨e,cs,rfl,h⟩
 ·grind
 ·obtain ⟨a,b,c,d,r,e1,e2⟩:=h.get hi;refine ⟨a,b,c,d,r,?_,e2⟩;rw [Lz e _ hi,e1]
def ajw:kN .ab []:= .inl ⟨rfl,rfl⟩
def YY {cs:List AV} (e:Bool) (h:QL cs l):kN (.aH e l.length cs) l:= .inr ⟨e,cs,rfl,h⟩
end
def abq {tm:Env} {a b c d x0 x1 x2 x3:AV} {r:List (Nat×Nat×X)} (h1:br a=true) (h2:br b=true) (h3:br c=true) (h4:br d=true):fG tm [x0,x1,x2,x3] 0 4 [a,b,c,d] r=fill tm [a,b,c,d] r:=by
 rw [jb (by rfl) (by simp) (by simp [bL,h1,h2,h3,h4])];rfl
def Ms (eH pu ex:Bool) (a b c d:AV):Oy 0 1 4 (some (.cells eH pu ex 4 [a,b,c,d]))=some (1,[a,b,c,d]):=rfl
def ND (hp:Hp) (cs:List AV):gG hp 4 true (.aO cs)=eY 4 true cs:=rfl
def lQ (s:Rat) (l:List Rat):Rat:=l.foldl (·+·) s
def X4 {s:Rat} {l:List Rat} {i:Nat} (h:i<l.length):lQ s (l.take (i+1))=lQ s (l.take i)+l[i]:=by
 rw [List.take_succ_eq_append_getElem h];simp only [lQ,List.foldl_append,List.foldl_cons,List.foldl_nil]
def Q6 {K:Nat}:∀{l:List Rat} {s:Rat} {M:Nat},Hq M s->(∀x,x∈l->Hq K x)->Hq (M+l.length*(K+1)) (lQ s l)
 | [],s,M,hs,_=>by simpa [lQ] using hs
 | x::l,s,M,hs,hl=>by
  have:=Q6 (l:=l) (hs.add (hl x List.mem_cons_self)) (fun y hy=>hl y (List.mem_cons_of_mem _ hy))
  refine Hq.mono (m:=M+(x::l).length*(K+1)) this ?_;simp only [yu,Nat.add_mul];omega
def ZR {K M:Nat} {l:List Rat} {s:Rat} (hs:Hq M s) (hl:∀x,x∈l->Hq K x) (i:Nat):Hq (M+l.length*(K+1)) (lQ s (l.take i)):=
 (Q6 hs (fun x hx=>hl x (List.mem_of_mem_take hx))).mono (by rw [yQ];have:=Nat.mul_le_mul_right (K+1) (Nat.min_le_right i l.length);omega)
end
section
open Go (IntKind)
section
variable {P:aI} {L:Lib}
def auI (AJ:Has P L 150 Et) {v:AV} {z:Int} (hv:cC v z) (h1: -9223372036854775808<z) (h2:z<9223372036854775808):ae P L 150 [v] (.aq [aa z,.bool true]):=by
 obtain ⟨s,w,rfl,hn⟩:=hv;rcases hn with ⟨rfl,rfl,_,_⟩ | ⟨e,l,rfl,g,n,hb,hs,h3⟩
 ·unfold ae;rw [au AJ];simp only [go_sem,ya,yb,Et,aG,aZ,yd,bX,fV,dK];rfl
 ·omega
def DB {a:Rat} {K:Nat} (h:Hq K a) (hK:1<=K):Hq K ((a.floor:Int):Rat):=by
 refine ⟨?_,?_⟩
 ·exact h.1.le (by
   rw [wF,uP]
   exact Int.natAbs_ediv_le_natAbs _ _)
 ·rw [wG];exact wT (by omega)
def X5 (n:Int) {s:Int} (hs:0<s):((n:Rat)-(s:Rat)*(((n:Rat)/(s:Rat)).floor:Int))=((n%s:Int):Rat):=by
 have h1:(n:Rat)/(s:Rat)=xT n s:=(Rat.divInt_eq_div n s).symm;have h2:((n:Rat)/(s:Rat)).floor=n/s:=by
  rw [h1];obtain ⟨p1,p2⟩:=Kw (a:=n) hs;have hg:=He (a:=n) hs;rw [uP,p1,p2];have e1:=abb n s;have e2:=abc n s;show cZ n s/dd n s=n/s
  have e3:=Int.mul_ediv_mul_of_pos (cZ n s) (dd n s) hg
  grind
 rw [h2,Int.emod_def]
 grind
def aeq (h:Fr' P L) (EO:Has P L 103 Ih) (AJ:Has P L 150 Et) {v:AV} {a:Rat} {s:Int} {K:Nat} (hv:bW v a) (ka:Hq K a) (rz:100<=K) (hK:K<=1000000000) (jC:0<s) (hs:s<1000000):
  ∃f,ae P L 103 [v,aa s] (.aq [aa (a.floor%s),f])/\bW f (a-(a.floor:Int)):=by
 obtain ⟨p,e1,hp⟩:=adW h hv ka (by omega);obtain ⟨w,e2,hw⟩:=I3 h hp;obtain ⟨n,e3,hn⟩:=CY h (z:=s) (by omega) (by omega);have kf:=DB ka (by omega);have Jv:s.natAbs<2^64:=by omega
 have ks:Hq K (s:Rat):=⟨by rw [wF];exact yN Jv (xA (by decide) (by omega)),by rw [wG];exact wT (by omega)⟩
 have To:(s:Rat)≠0:=fun e=>by
  have:=congrArg Rat.num e
  have:s=0:=this
  omega
 obtain ⟨d,e4,hd⟩:=m70 h hw hn To kf ks (by omega);have kd:=kf.div ks;obtain ⟨g,e5,hg⟩:=adW h hd kd (by omega);obtain ⟨gw,e6,hgw⟩:=I3 h hg;have kg:=DB kd (by omega);obtain ⟨mu,e7,hmu⟩:=rq h hn hgw (ks.mono (show K<=K+K by omega)) kg (by omega);obtain ⟨r,e8,hr⟩:=Kd h hw hmu (kf.mono (show K<=K+(K+K) by omega)) (ks.mul kg) (by omega);rw [X5 _ jC] at hr;obtain ⟨f,e9,hf⟩:=Kd h hv hw ka kf (by omega);have n8:=Int.emod_nonneg a.floor (show s≠0 by omega);have asj:=Int.emod_lt_of_pos a.floor jC;refine ⟨f,?_,hf⟩;obtain ⟨v1,v2,v3,v4,rfl,gv⟩:=hv.gen;obtain ⟨w1,w2,w3,w4,rfl,gw'⟩:=hw.gen;obtain ⟨n1,n2,n3,n4,rfl,gn⟩:=hn.gen;obtain ⟨d1,d2,d3,d4,rfl,gd⟩:=hd.gen;obtain ⟨x1,x2,x3,x4,rfl,gx⟩:=hgw.gen;obtain ⟨y1,y2,y3,y4,rfl,gy⟩:=hmu.gen;obtain ⟨f1,f2,f3,f4,rfl,gf⟩:=hf.gen;obtain ⟨ps,pw,rfl,an⟩:=hp;obtain ⟨gs,gw2,rfl,C3⟩:=hg;obtain ⟨lp,up⟩:=an.aD;obtain ⟨lg,ug⟩:=C3.aD
 obtain ⟨r1,r2,r3,r4,AX,cw,eZ⟩:=hr;subst AX;obtain ⟨l1,u1⟩:=cw.aD;obtain ⟨l2,u2⟩:=eZ.aD;rw [wF] at cw;have zt:=auI (P:=P) (L:=L) AJ ⟨r1,r2,rfl,cw⟩ (by omega) (by omega);unfold ae at e1 e2 e3 e4 e5 e6 e7 e8 e9 zt ⊢;rw [au EO];simp only [go_sem,ya,yb,Ih,gv.bx,gv.af,gw'.af,gn.af,gd.af,gx.af,gy.af,aY,up.af,ug.af,u1.af,aG,aZ,yd,jw,dX,e1,e2,e3,e4,e5,e6,e7,e8,e9,zt,bm,gw'.st,jR u1 u2,gf.st,cR,cS,yi];have auJ:∀i:Int,Hh [aa i,AV.agg [f1,f2,f3,f4]]=some []:=fun i=>by
  simp only [Hh,gf.pu,D5,yy]
 have gA:∀(hp:Hp) (i:Int),zK deep hp [aa i,AV.agg [f1,f2,f3,f4]]=some ([aa i,AV.agg [f1,f2,f3,f4]],hp):=fun hp i=>by
  have e1:rP deep hp (aa i)=some (aa i,hp):=rfl;have e2:rP deep hp (.agg [f1,f2,f3,f4])=some (.agg [f1,f2,f3,f4],hp):=gf.af 980 hp;simp only [zK,e1,e2]
 simp only [result,auJ,gA]
end
end
section
open Go (IntKind)
section
variable {P:aI} {L:Lib}
def QB {hs hh x dx:Rat} {K:Nat} (ks:Hq K hs) (kh:Hq K hh) (kx:Hq K x) (kd:Hq K dx):Hq (5*K+10) (fD hs hh*x+hh*dx):=
 (((GX ks kh).mul kx).add (kh.mul kd)).mono (by omega)
end
end
end VE
