import Derived.Test.YtfohkkaphnfgoaaGreatDoorTar
import Derived.Test.YtfohkkaphnfgoaaGreatDoorTan
import Derived.Test.YtfohkkaphnfgoaaGreatDoorTaq
import Derived.Test.YtfohkkaphnfgoaaGreatDoorTak
import Derived.Test.YtfohkkaphnfgoaaGreatDoorTai
set_option linter.all false
set_option maxRecDepth 100000
open Bool renaming and_self→wv,and_true→uj,false_and→wK,false_eq_true→yF,false_or→wX,not_false→yI,not_true→yJ,or_self→ybn,true_and→wI,true_eq_false→tY,true_or→uy
open Int renaming gcd→wN,natAbs_ediv_of_dvd→vT,natAbs_natCast→wW,neg_neg→ybm
open Int.ofNat renaming inj→tX
open List renaming append_nil→wJ,drop→xg,drop_eq_getElem_cons→yN,drop_eq_nil_of_le→yT,drop_zero→yg,eq_nil_of_length_eq_zero→yD,getElem_cons_zero→tz,getElem_mem→yR,length_cons→yC,length_drop→wi,length_map→yL,length_nil→yK,length_take→yQ,map_append→xq,map_cons→yV,map_nil→wz,nil_append→xM,take_length→xQ
open Nat renaming ble→yE,ble_eq_true_of_le→yx,eq_zero_or_pos→xt,gcd→wD,le_of_ble_eq_true→yu,le_refl→yr,le_trans→xn,lt_of_lt_of_le→yP,mul_one→yh,one_lt_two_pow→vv,pow_le_pow_left→uo,pow_le_pow_right→xD,reduceAdd→yb,reduceEqDiff→ya,reduceLT→yt,reduceLeDiff→yi,reduceMul→xj,zero_add→yd
open Rat renaming den_intCast→wZ,divInt→wa,floor_def→uY,mul_comm→vM,num_eq_zero→yaF,num_intCast→wY,one_mul→ybo,zero_add→ybu
namespace VE
section
open Go (IntKind)
def N2 {n:Int} {d:Nat} (h:n<0):TT n d=45::TT (-n) d:=by
 have e:aY (-n)=aB n.natAbs:=by
  rw [<-nW,yA (show ¬-n<0 by omega),xM,show (-n).natAbs=n.natAbs by omega]
 unfold TT;rw [nh h,e];rfl
def ap9 {n:Int} {d:Nat} (h:¬n<0):∃b u,TT n d=b::u/\48<=b:=by
 obtain ⟨b,r,hb,h1,_⟩:=EY n.natAbs;refine ⟨b,r++(if d=1 then [] else 47::aB d),?_,h1⟩;unfold TT;rw [<-nW,yA h,xM,hb];rfl
def gF (a b:AV) (r:List AV):fD 2 true (a::b::r)=some (.agg [a,b]):=rfl
def aqa (k:Nat):2^k<=1000000000^k:=uo (by decide) k
def Bd.r {k:Nat} {z:Int} (h:Bd k z):z.natAbs<1000000000^k:=yP h (aqa k)
def JV (r:Rat):RT r=TT r.num r.den:=rfl
def abQ {n d:Int} (hd:0<d):RT (wa n d)=pN n d:=by
 obtain ⟨h1,h2⟩:=Mx (a:=n) hd;rw [apM hd,JV,h1]
 congr 1
 exact tX (show ((wa n d).den:Int)=((dj n d).toNat:Int) by rw [h2];have:=IU (a:=n) hd;unfold dj at this ⊢;omega)
structure Rm (P:aG) (L:Lib):Prop extends Rb P L where
 awP:Has P L 263 dt
 VH:Has P L 273 DK
 awQ:Has P L 284 UN
 awR:Has P L 285 Pa
 awS:Has P L 286 Pb
 KR:Has P L 287 Kq
 rm:Has P L 301 Ad
structure Rl (P:aG) (L:Lib):Prop extends Rm P L where
 awT:Has P L 269 Km
structure Rp (P:aG) (L:Lib):Prop extends Ras P L,Rm P L
structure Rn (P:aG) (L:Lib):Prop extends Ra P L,Rp P L
structure Rx (P:aG) (L:Lib):Prop extends Rn P L,Rl P L where
 VI:Has P L 266 O5
 KS:Has P L 283 Kp
section
variable {P:aG} {L:Lib}
def Uj (h:Rm P L) {v w:AV} {a b:List Int} (hv:bl v a) (hw:bl w b) (ha:dg a) (hb:dg b) (na:nz a) (nb:nz b) (la:a.length<=8000000000) (lb:b.length<=8000000000) (h0:0<dv b):
  ∃q r lq lr,ae P L 289 [v,w] (.au [q,r])/\bl q lq/\bl r lr/\dg lq/\nz lq/\dg lr/\nz lr/\dv lq=dv a/dv b/\dv lr=dv a%dv b:=
 ae5 h.KP h.lC h.oC h.pQ h.cJ h.rm hv hw ha hb na nb la lb h0
def asQ (h:Rm P L) {x y:AV} {a b:List Int} {n d:Int} {K:Nat} (hK:K<=8000000000) (hx:bl x a) (ha:dg a) (na:nz a) (va:dv a=n.natAbs) (hy:bl y b) (hb:dg b) (nb:nz b) (vb:dv b=d.natAbs) (kn:Bd K n) (kd:Bd K d) (hd:0<d) {tm:Env} (t2:ah tm 2= .ptr 0 0) (t3:ah tm 3= .ptr 1 0):
  fj [.t 4] (D P L (aw (aw oh.body)) ⟨tm,[(1,.cells true true true 2 [.bool (decide (d<0)),y]),(0,.cells true true true 2 [.bool (decide (n<0)),x])],2,0⟩)=some (.str (RT (wa n d))):=by
 rw [abQ hd];have la:=xn (iE ha na (by rw [va];exact kn.r)) hK
 have lb:=xn (iE hb nb (by rw [vb];exact kd.r)) hK
 obtain ⟨g,lg,e1,hg,XL,ng,vg⟩:=ae6 h.agj h.KP h.lC h.oC h.pQ h.cJ h.rm hx hy ha hb na nb la lb;rw [va,vb,show wD n.natAbs d.natAbs=wN n d from rfl] at vg;have Li:=I5 (a:=n) hd;have awU:wN n d<=d.natAbs:=Int.gcd_le_natAbs_right n (by omega);have lg1:lg.length<=8000000000:=xn (iE XL ng (by rw [vg];exact Nat.lt_of_le_of_lt awU kd.r)) hK
 obtain ⟨p,p',lp,lp',e2,hp,ap,dp,np,dp',np',vp,vp'⟩:=Uj h hx hg ha XL na ng la lg1 (by omega);obtain ⟨q,q',lq,lq',e3,hq,bK,dq,nq,dq',nq',vq,vq'⟩:=Uj h hy hg hb XL nb ng lb lg1 (by omega);rw [va,vg] at vp;rw [vb,vg] at vq;have hrn:(dd n d).natAbs=n.natAbs/wN n d:=by unfold dd;rw [vT (Int.gcd_dvd_left n d)];rfl
 have mV:(dj n d).natAbs=d.natAbs/wN n d:=by unfold dj;rw [vT (Int.gcd_dvd_right n d)];rfl
 have hdp:=IU (a:=n) hd;rw [<-hrn] at vp;rw [<-mV] at vq;have aBu:=adn n d;have G8:cf (decide (n<0)) (dv lp)=dd n d:=by
  rw [vp];unfold cf;by_cases h0:n<0
  ·have:¬0<=dd n d:=fun h1=>by have:=Int.mul_nonneg (Int.le_of_lt Li) h1;omega
   simp only [h0,ym,xm];omega
  ·have:¬dd n d<0:=fun h1=>by have:=Int.mul_neg_of_pos_of_neg Li h1;omega
   simp only [h0,yk,yF,xh];omega
 have kn':Bd K (dd n d):=kn.le (aaF n d);have V8:Bd K (dj n d):=kd.le (aaG n d);have lp1:lp.length<=8000000000:=xn (iE dp np (by rw [vp];exact kn'.r)) hK
 have LV:lq.length<=8000000000:=xn (iE dq nq (by rw [vq];exact V8.r)) hK
 obtain ⟨s,e4,hs⟩:=oA h.ij h.cJ (decide (n<0)) hp dp (by omega);rw [G8] at hs;obtain ⟨e5,l5⟩:=PH (K:=K) h.PI h.ol (by omega) hs kn'.r;obtain ⟨u,e6,hu⟩:=oA h.ij h.cJ false hq dq (by omega);have AG:cf false (dv lq)=dj n d:=by rw [vq];unfold cf;simp only [yF,xh];omega
 rw [AG] at hu;obtain ⟨e7,l7⟩:=PH (K:=K) h.PI h.ol (by omega) hu V8.r;obtain ⟨sw,sl,rfl,gM,_,_,_⟩:=hs;obtain ⟨uw,ul,rfl,huw,_,_,_⟩:=hu;have aBf:0<lq.length:=by
  rcases xt lq.length with e | e
  ·rw [yD e] at vq;simp [dv] at vq;omega
  ·exact e
 by_cases QN:lq.length=1
 ·obtain ⟨z,rfl⟩:∃z,lq=[z]:=by
   cases lq with
   | nil=>simp at QN
   | cons z r=>cases r with
    | nil=>exact ⟨z,rfl⟩
    | cons y r=>simp at QN
  have L9:z=dj n d:=by simp [dv] at vq;omega
  have e8:=hq.aZ (i:=0) (by simp);simp only [tz] at e8;by_cases h1:dj n d=1
  ·have hT:pN n d=aY (dd n d):=by unfold pN;rw [yH h1]
   rw [hT];simp only [go_sem,ya,oh,aw,t2,t3,hx.af,hy.af,aV,yd,bX,show ¬d<0 by omega,yk,e1,hg.af,hg.shut,e2,hp.af,hp.bG,ap.bG,e3,hq.len,hq.bG,bK.bG,e4,gM.af,a8,bC,e5,yC,yK,show ((1:Nat):Int)=(1:Int) from rfl,ym,e8,L9,h1]
  ·have hT:pN n d=(aY (dd n d)++[47])++aY (dj n d):=by unfold pN;rw [yA h1]
   rw [hT]
   simp only [go_sem,ya,oh,aw,t2,t3,hx.af,hy.af,aV,yd,bX,show ¬d<0 by omega,yk,e1,hg.af,hg.shut,e2,hp.af,hp.bG,ap.bG,e3,hq.len,hq.af,hq.bG,bK.bG,e4,gM.af,a8,bC,e5,yC,yK,show ((1:Nat):Int)=(1:Int) from rfl,ym,e8,L9,h1,gN (a:=aY (dd n d)) (b:=[47]) (by simp;omega),e6,huw.af,e7,gN (a:=aY (dd n d)++[47]) (b:=aY (dj n d)) (by simp;omega)]
 ·have h1:¬dj n d=1:=fun h1=>QN (by
   have h2:lq.length<=1:=S3 dq nq (by rw [vq,h1];decide)
   omega)
  have hT:pN n d=(aY (dd n d)++[47])++aY (dj n d):=by unfold pN;rw [yA h1]
  rw [hT]
  simp only [go_sem,ya,oh,aw,t2,t3,hx.af,hy.af,aV,yd,bX,show ¬d<0 by omega,yk,e1,hg.af,hg.shut,e2,hp.af,hp.bG,ap.bG,e3,hq.len,hq.af,hq.bG,bK.bG,e4,gM.af,a8,bC,e5,show ¬(lq.length:Int)=1 by omega,gN (a:=aY (dd n d)) (b:=[47]) (by simp;omega),e6,huw.af,e7,gN (a:=aY (dd n d)++[47]) (b:=aY (dj n d)) (by simp;omega)]
def ai9 (n d:Int):wa (-n) (-d)=wa n d:=by rw [Rat.divInt_neg',ybm]
def Uk (h:Rm P L) {v w:AV} {n d:Int} {K:Nat} (hK:K<=8000000000) (hv:ja v n) (hw:ja w d) (kn:Bd K n) (kd:Bd K d) (hd:d≠0):ae P L 280 [v,w] (.str (RT (wa n d))):=by
 have fin:∀{x y:AV} {a b:List Int} {n' d':Int},bl x a->dg a->nz a->dv a=n'.natAbs->bl y b->dg b->nz b->dv b=d'.natAbs->Bd K n'->Bd K d'->0<d'->wa n' d'=wa n d->∀tm,ah tm 2= .ptr 0 0->ah tm 3= .ptr 1 0->
   D P L (.seq (bk oh.body) (bk (aw oh.body))) ⟨[(0,v),(1,w)],[],0,0⟩=some (.normal,⟨tm,[(1,.cells true true true 2 [.bool (decide (d'<0)),y]),(0,.cells true true true 2 [.bool (decide (n'<0)),x])],2,0⟩)->ae P L 280 [v,w] (.str (RT (wa n d))):=fun {x y a b n' d'} hx ha na va hy hb nb vb kn kd hd hq tm t2 t3 e=>by
  unfold ae;rw [ay h.awH];show fj [.t 4] (D P L (.seq (bk oh.body) (.seq (bk (aw oh.body)) (aw (aw oh.body)))) ⟨[(0,v),(1,w)],[],0,0⟩)=_
  rw [CQ,e,gD,<-hq];exact asQ h hK hx ha na va hy hb nb vb kn kd hd t2 t3
 have eX:=hv;have Xp:=hw;obtain ⟨x,a,rfl,hx,ha,na,va⟩:=hv;obtain ⟨y,b,rfl,hy,hb,nb,vb⟩:=hw;by_cases h0:d<0
 ·obtain ⟨r,e1,hr⟩:=afR (K:=K) h.agm h.ij h.cJ (by omega) eX kn.r;obtain ⟨s,e2,hs⟩:=afR (K:=K) h.agm h.ij h.cJ (by omega) Xp kd.r;obtain ⟨x',a',rfl,Ez,Ed,na',va'⟩:=hr;obtain ⟨y',b',rfl,zt,cR,nb',vb'⟩:=hs;simp only [h0,ym] at e2
  refine fin Ez Ed na' va' zt cR nb' vb' kn.neg kd.neg (by omega) (ai9 n d) _ ?_ ?_ (by
   simp only [go_sem,ya,yb,oh,bk,aw,aK,hx.pu,hx.af,hx.one,hy.pu,hy.af,hy.one,Ez.pu,Ez.one,zt.pu,zt.one,aV,yd,h0,ym,gF,a8,e1,e2,bC,dI]<;>rfl)<;>simp only [go_sem,ya]
 ·refine fin hx ha na va hy hb nb vb kn kd (by omega) rfl _ ?_ ?_ (by simp only [go_sem,ya,yb,oh,bk,aw,aK,hx.pu,hx.one,hy.pu,hy.one,aV,yd,h0,yk]<;>rfl)<;>simp only [go_sem,ya]
end
end
section
open Go (IntKind)
def auD (z:Int) (m:Nat) (h:z.natAbs=m):(z.tdiv 1000000000).natAbs=m/1000000000/\(if z.tmod 1000000000<0 then 0-z.tmod 1000000000 else z.tmod 1000000000)=((m%1000000000:Nat):Int)/\(z<0->z.tdiv 1000000000<=0)/\(0<=z->0<=z.tdiv 1000000000):=by
 rcases Int.lt_or_le z 0 with h0 | h0
 ·obtain ⟨n,rfl⟩:∃n:Nat,z= -(n:Int):=⟨z.natAbs,by omega⟩;rw [Int.neg_tdiv,Int.neg_tmod,Int.tdiv_eq_ediv_of_nonneg (by omega),Int.tmod_eq_emod_of_nonneg (by omega)]
  grind
 ·grind
section
variable {P:aG} {L:Lib}
def asR {neg:Bool} {N:Nat} (hN:N<=9223372036854775808):
  ∀k s,(∃(i:Nat) (z:Int) (out:List Int),z.natAbs=k/\out.length=i/\dg out/\dv out+1000000000^i*z.natAbs=N/\(neg=true->z<=0)/\(neg=false->0<=z)/\i<=3/\
    ((i=0/\aT [0,2,3,4] s=⟨[(0,aa z),(2,.ptr 0 0),(3,.ab),(4,.bool neg)],[(0,.cells true true true 2 [.bool false,.ab])],1,0⟩)\/
    (0<i/\aT [0,2,3,4] s=⟨[(0,aa z),(2,.ptr 0 0),(3,.aC 1 0 i),(4,.bool neg)],[(1,.cells true true false 1 (out.map aa)),(0,.cells true true true 2 [.bool false,.ab])],2,0⟩)))->
   ∃ex s',D P L (.loop [0,2,3,4] sd) s=some (ex,s')/\∃tm i out,ex= .exit 0/\out.length=i/\i<=3/\dg out/\dv out=N/\ah tm 2= .ptr 0 0/\ah tm 4= .bool neg/\
    ((i=0/\ah tm 3= .ab/\s'=⟨tm,[(0,.cells true true true 2 [.bool false,.ab])],1,0⟩)\/(0<i/\ah tm 3= .aC 1 0 i/\s'=⟨tm,[(1,.cells true true false 1 (out.map aa)),(0,.cells true true true 2 [.bool false,.ab])],2,0⟩)):=by
 intro dq sq;generalize bw:aT [0,2,3,4] sq=s0;revert bw s0 sq dq;apply dn;rintro k s ⟨i,z,out,rfl,hlen,hd,aR,mT,mU,hi3,hs⟩;by_cases hz:z=0
 ·right
  subst hz;have hv:dv out=N:=by simpa using aR
  rcases hs with ⟨h0,rfl⟩ | ⟨h0,rfl⟩
  ·simp only [go_sem,sd,ym,yJ];exact ⟨_,_,rfl,by simp,_,i,out,rfl,hlen,hi3,hd,hv,by simp only [go_sem,ya],by simp only [go_sem,ya],.inl ⟨h0,by simp only [go_sem,ya],rfl⟩⟩
  ·simp only [go_sem,sd,ym,yJ];exact ⟨_,_,rfl,by simp,_,i,out,rfl,hlen,hi3,hd,hv,by simp only [go_sem,ya],by simp only [go_sem,ya],.inr ⟨h0,by simp only [go_sem,ya],rfl⟩⟩
 ·left
  obtain ⟨m,hm⟩:∃m,z.natAbs=m:=⟨_,rfl⟩;have QI:0<m:=by omega
  rw [hm] at aR;have hi2:i<3:=by
   rcases Nat.lt_or_ge i 3 with h | h
   ·exact h
   ·have e3:i=3:=by omega
    subst e3
    have:=Nat.mul_le_mul_left (1000000000^3) QI
    omega
  have hmN:m<=9223372036854775808:=by
   have:=Nat.le_mul_of_pos_left m (Nat.pow_pos (n:=i) (show 0<1000000000 by decide))
   omega
  obtain ⟨d1,d2,d3,d4⟩:=auD z m hm;have fu:=Nat.mod_add_div m 1000000000;have rk:dg (out++[((m%1000000000:Nat):Int)]):=hJ.2 ⟨hd,jG.2 (by omega)⟩;have Ou:dv (out++[((m%1000000000:Nat):Int)])+1000000000^(i+1)*(m/1000000000)=N:=by
   rw [mh,hlen,<-aR,Nat.pow_succ,Nat.mul_assoc];have e:1000000000^i*m=1000000000^i*(m%1000000000)+1000000000^i*(1000000000*(m/1000000000)):=by rw [<-Nat.mul_add,fu]
   rw [e];simp only [dv,Int.toNat_natCast,Nat.mul_zero,Nat.add_zero];omega
  have zn:IntKind.wrap .i64 (z.tdiv 1000000000)=z.tdiv 1000000000:=wrap64 (by omega) (by omega);have lX: -9223372036854775808<=z.tmod 1000000000/\z.tmod 1000000000<1000000000:=by
   have h1:(z.tmod 1000000000).natAbs<1000000000:=by
    split at d2<;>omega
   omega
  have zZ:(neg=true->z.tdiv 1000000000<=0)/\(neg=false->0<=z.tdiv 1000000000):=⟨fun h=>d3 (by have:=mT h;omega),fun h=>d4 (mU h)⟩;have a7:(z.tdiv 1000000000).natAbs<m:=by rw [d1];omega
  obtain ⟨z',fe⟩:∃z',z.tdiv 1000000000=z':=⟨_,rfl⟩;rw [fe] at d1 d3 d4 zn zZ a7;have cY:dv (out++[((m%1000000000:Nat):Int)])+1000000000^(i+1)*z'.natAbs=N:=by rw [d1];exact Ou
  generalize m%1000000000=r at*
  by_cases fJ:z.tmod 1000000000<0
  ·rw [yH fJ] at d2;rcases hs with ⟨h0,rfl⟩ | ⟨h0,rfl⟩
   ·subst h0;have ji:out=[]:=yD hlen;subst ji
    simp only [go_sem,ya,yb,xj,yt,yi,yh,sd,yk,hz,yI,fM _ _ _ (show (1000000000:Int)≠0 by decide),fw _ _ _ (show (1000000000:Int)≠0 by decide),fJ,d2,wrapN (n:=r) (by omega),gC,fe,zn];refine ⟨_,z'.natAbs,rfl,by omega,1,z',[]++[(r:Int)],rfl,rfl,rk,cY,zZ.1,zZ.2,by omega,.inr ⟨by omega,?_⟩⟩;simp only [go_sem,ya,yb,an]<;>rfl
   ·simp only [go_sem,ya,yb,yi,yh,sd,yk,hz,yI,fM _ _ _ (show (1000000000:Int)≠0 by decide),fJ,d2,wrapN (n:=r) (by omega)]
    rw [fV (ex:=false) (pu:=true) (cs:=out.map aa) (by simp only [go_sem,ya]) (by rw [yL,hlen,yh]) (by omega) (by omega) (by decide) (by simp only [go_sem])];simp only [go_sem,ya,yb,fw _ _ _ (show (1000000000:Int)≠0 by decide),fe,zn];refine ⟨_,z'.natAbs,rfl,by omega,i+1,z',out++[(r:Int)],rfl,by simp [hlen],rk,cY,zZ.1,zZ.2,by omega,.inr ⟨by omega,?_⟩⟩;rw [xq];simp only [go_sem,ya,yb,an]<;>rfl
  ·rw [yA fJ] at d2;rcases hs with ⟨h0,rfl⟩ | ⟨h0,rfl⟩
   ·subst h0;have ji:out=[]:=yD hlen;subst ji;simp only [go_sem,ya,yb,xj,yt,yi,yh,sd,yk,hz,yI,fM _ _ _ (show (1000000000:Int)≠0 by decide),fw _ _ _ (show (1000000000:Int)≠0 by decide),d2,show ¬((r:Nat):Int)<0 by omega,gC,fe,zn];refine ⟨_,z'.natAbs,rfl,by omega,1,z',[]++[(r:Int)],rfl,rfl,rk,cY,zZ.1,zZ.2,by omega,.inr ⟨by omega,?_⟩⟩;simp only [go_sem,ya,yb,an]<;>rfl
   ·simp only [go_sem,ya,yb,yi,yh,sd,yk,hz,yI,fM _ _ _ (show (1000000000:Int)≠0 by decide),d2,show ¬((r:Nat):Int)<0 by omega]
    rw [fV (ex:=false) (pu:=true) (cs:=out.map aa) (by simp only [go_sem,ya]) (by rw [yL,hlen,yh]) (by omega) (by omega) (by decide) (by simp only [go_sem])];simp only [go_sem,ya,yb,fw _ _ _ (show (1000000000:Int)≠0 by decide),fe,zn];refine ⟨_,z'.natAbs,rfl,by omega,i+1,z',out++[(r:Int)],rfl,by simp [hlen],rk,cY,zZ.1,zZ.2,by omega,.inr ⟨by omega,?_⟩⟩;rw [xq];simp only [go_sem,ya,yb,an]<;>rfl
def abR {n:Int} (h: -9223372036854775808<=n/\n<9223372036854775808):n.natAbs<=9223372036854775808:=by omega
def abS (n:Int):cf (decide (n<0)) n.natAbs=n:=by
 unfold cf
 grind
def auE (h:Rm P L) {n:Int} (hn: -9223372036854775808<=n/\n<9223372036854775808):∃r,ae P L 281 [aa n] r/\ja r n:=by
 have key:=fun s=>asR (P:=P) (L:=L) (neg:=decide (n<0)) (abR hn) n.natAbs s
 unfold ae;rw [ay h.agk];simp only [go_sem,ya,yb,O9,aK];generalize hq:D P L (.loop [0,2,3,4] sd) _=q;obtain ⟨ex,s,rfl,tm,i,out,rfl,hlen,hi,hd,aR,t2,t4,Dz⟩:=bD hq key (by
  refine ⟨0,n,[],rfl,rfl,rfl,by simp [dv],fun h=>by simp at h;omega,fun h=>by simp at h;omega,by omega,.inl ⟨rfl,?_⟩⟩
  simp only [go_sem,ya,yb,an]<;>rfl)
 rcases Dz with ⟨rJ,t3,rfl⟩ | ⟨rJ,t3,rfl⟩
 ·subst rJ;have ji:out=[]:=yD hlen;subst ji;obtain ⟨r,e,hr⟩:=oA h.ij h.cJ (decide (n<0)) (show bl .ab [] from nf) hd (by simp);rw [aR,abS] at hr;have cm:=hr;obtain ⟨w,l,rfl,hw,_,_,_⟩:=cm;refine ⟨_,?_,hr⟩;simp only [go_sem,ya,yb,an,t2,t3,t4,e,hw.pu,hw.one,bC,dI];rcases hw with ⟨rfl,_⟩ | ⟨e,rfl⟩<;>rfl
 ·have hI:=fy false out;rw [hlen] at hI;obtain ⟨r,e,hr⟩:=oA h.ij h.cJ (decide (n<0)) hI hd (by omega);rw [aR,abS] at hr;have cm:=hr;obtain ⟨w,l,rfl,hw,_,_,_⟩:=cm;refine ⟨_,?_,hr⟩
  simp only [go_sem,ya,yb,an,t2,t3,t4,fun hp=>qK (hp:=hp) (k:=i) (sz:=1) (cs:=out.map aa) false (by simp [hlen]) (by decide),e,hw.pu,hw.one,bC,dI];rcases hw with ⟨rfl,_⟩ | ⟨e,rfl⟩<;>rfl
def TF (n:Int):RT (n:Rat)=aY n:=by unfold RT;simp
def ae8 (h:Rm P L) (Ao:Has P L 265 Ge) {n:Int} (hn: -9223372036854775808<=n/\n<9223372036854775808):ae P L 265 [aa n] (.str (RT (n:Rat))):=by
 obtain ⟨r,e,hr⟩:=auE h hn;obtain ⟨e2,_⟩:=PH (K:=8) h.PI h.ol (by omega) hr (by have:=abR hn;omega);rw [TF];obtain ⟨w,l,rfl,hw,_,_,_⟩:=hr;unfold ae at e e2 ⊢;rw [ay Ao];simp only [go_sem,ya,Ge,e,hw.af,bC,a8,e2]
def FM {K:Nat} {a:Rat} (h:Hq K a):(RT a).length<=2*K+3:=by
 have h1:=IK h.1;have h2:=IK h.2;rw [kP] at h2;unfold RT
 grind
def abT {K:Nat} {z:Int} (h:Bd K z):(aB z.natAbs).length<=K+1:=by
 have:=IK (z:=(z.natAbs:Int)) (k:=K) (by unfold Bd at h ⊢;omega)
 rwa [kP] at this
def FX (h:Rm P L) {a:Rat} {K:Nat} (ka:Hq K a) (hK:K<=8000000000):∃x y,ae P L 274 [.str (RT a)] (.au [x,y])/\ja x a.num/\ja y (a.den:Int):=by
 have h1:=abT ka.1;have h2:=abT ka.2
 exact agr h.toRb (n:=a.num) (d:=a.den) (by omega) (by simpa using (by omega:(aB ((a.den:Int)).natAbs).length<=144000000000))
def ae9 (h:Rm P L) {n:Int} {d:Nat} (hl:(TT n d).length<=100000000000) (h00:n=0->d=1):ae P L 262 [.str (TT n d)] (aa (cB n)):=by
 unfold ae;rw [ay h.awF];by_cases h0:n<0
 ·have fU:=ae7 (n:=n) (d:=d) (by omega);rw [N2 h0] at fU ⊢;simp only [go_sem,ya,Ki,j9,fU,show (0:Int)<(((TT (-n) d).length+1:Nat):Int) by omega,DU,ym];unfold cB;rw [yH h0]
 ·by_cases h1:n=0
  ·subst h1
   have:=h00 rfl
   subst this;rw [show TT 0 1=[48] by decide];simp only [go_sem,ya,Ki,j9,show cI [48] [48]=true from rfl];rfl
  ·have fU:=ae7 (n:=n) (d:=d) h1;obtain ⟨b,u,hb,jS⟩:=ap9 (d:=d) h0;rw [hb] at fU ⊢;simp only [go_sem,ya,Ki,j9,fU,show (0:Int)<((u.length+1:Nat):Int) by omega,show nt 0 (.str (b::u))=some (.int .u8 (b:Nat)) from rfl,show ¬((b:Nat):Int)=45 by omega];unfold cB;rw [yA h0,yA h1]
def aiH {a:Rat} (h:a.num=0):a.den=1:=by simp_all
def Ul (h:Rm P L) {a:Rat} {K:Nat} (ka:Hq K a) (hK:K<=8000000000):ae P L 262 [.str (RT a)] (aa (cB a.num)):=
 ae9 h (by have:=FM ka;rw [JV] at this;omega) aiH
def auF (h:Rp P L) {a:Rat} {K:Nat} (ka:Hq K a) (hK:K<=8000000000):ae P L 268 [.str (RT a)] (.str (RT (-a))):=by
 have e:=Ul h.toRm ka hK;have hl:=FM ka;have en:(-a).num= -a.num:=rfl;have ed:(-a).den=a.den:=rfl;rw [JV] at hl e ⊢;rw [JV,en,ed];generalize a.num=n at*
 generalize a.den=d at*
 unfold ae at e ⊢;rw [ay h.awI];by_cases h0:n<0
 ·have es:cB n= -1:=by unfold cB;rw [yH h0]
  rw [es,N2 h0] at e;rw [N2 h0] at hl ⊢;have hc:iJ (45::TT (-n) d) (some 1) (some ((TT (-n) d).length+1))=some (.str (TT (-n) d)):=by rw [lL (s:=45::TT (-n) d) (l:=1) (h:=(TT (-n) d).length+1) (by omega) (by simp)];simp
  simp only [go_sem,ya,Kl,e,show (-1:Int)<0 by decide,eR,fb,dG,hc]
 ·by_cases h1:n=0
  ·subst h1;have es:cB 0=0:=rfl;rw [es] at e;simp only [go_sem,ya,Kl,e,show ¬(0:Int)<0 by decide,ym,Int.neg_zero]
  ·have es:cB n=1:=by unfold cB;rw [yA h0,yA h1]
   rw [es] at e
   have:TT (-n) d=45::TT n d:=by rw [N2 (by omega),ybm]
   rw [this]
   simp only [go_sem,ya,Kl,e,show ¬(1:Int)<0 by decide,show ¬(1:Int)=0 by decide,gN (a:=[45]) (b:=TT n d) (by simp;omega),List.cons_append,xM]
end
end
section
open Go (IntKind)
def abU (n:Int) (d:Nat):Tt true n d= .au [aa n,aa d,.bool true]:=rfl
def JW {a b:Int} (ha:a.natAbs<1000000000) (hb:b.natAbs<1000000000):(a*b).natAbs<1000000000000000000:=by
 rw [Int.natAbs_mul];exact yP (Nat.mul_lt_mul'' ha hb) (by decide)
section
variable {P:aG} {L:Lib}
def afa (h:Rm P L) {a b:Int} (ha: -4000000000000000000<=a/\a<=4000000000000000000) (hb:0<b/\b<=4000000000000000000):ae P L 277 [aa a,aa b] (.str (RT (wa a b))):=by
 rw [abQ hb.1];exact avG h.awG h.U8 h.ol ha hb
def Ov (h:Rp P L) {a:Rat} {K:Nat} (ka:Hq K a) (hK:K<=8000000000):∃q:Bool,ae P L 276 [.str (RT a)] (Tt q a.num a.den)/\(q=true->a.num.natAbs<1000000000/\a.den<1000000000):=
 avH h.awK h.Ag h.Ah (n:=a.num) (d:=a.den) (by have:=FM ka;rw [JV] at this;omega)
def z6 (h:Rn P L) {a b:Rat} {K M:Nat} (ka:Hq K a) (kb:Hq M b) (hK:K+M<=8000000000):ae P L 267 [.str (RT a),.str (RT b)] (.str (RT (a*b))):=by
 obtain ⟨q1,e1,b1⟩:=Ov h.toRp ka (by omega);obtain ⟨q2,e2,b2⟩:=Ov h.toRp kb (by omega);have awV:=EQ a b;by_cases hq:(q1=true/\q2=true)
 ·obtain ⟨rfl,rfl⟩:=hq;obtain ⟨b11,b12⟩:=b1 rfl;obtain ⟨b21,b22⟩:=b2 rfl;have p1:=JW b11 b21;have p2:=JW (a:=(a.den:Int)) (b:=(b.den:Int)) (by omega) (by omega);have e3:=afa h.toRm (a:=a.num*b.num) (b:=(a.den:Int)*b.den) (by omega) (by omega);rw [<-mul_eq] at e3;rw [abU] at e1 e2;unfold ae at e1 e2 e3 ⊢;rw [ay h.ago]
  simp only [go_sem,ya,Kk,e1,e2,wrap64 (n:=a.num*b.num) (by omega) (by omega),wrap64 (n:=(a.den:Int)*(b.den:Int)) (by omega) (by omega),e3]
 ·have bK:∃n1 d1 n2 d2,bQ P L (D P L) 276 [.str (RT a)]=some (.au [aa n1,aa d1,.bool q1])/\bQ P L (D P L) 276 [.str (RT b)]=some (.au [aa n2,aa d2,.bool q2]):=by
   cases q1<;>cases q2<;>exact ⟨_,_,_,_,e1,e2⟩
  obtain ⟨n1,d1,n2,d2,e1,e2⟩:=bK;obtain ⟨x,y,e3,hx,hy⟩:=FX h.toRm ka (by omega);obtain ⟨z,w,e4,hz,hw⟩:=FX h.toRm kb (by omega);have Gu:max K M<=8000000000:=by omega
  obtain ⟨r,e5,hr⟩:=KO (K:=max K M) h.KQ h.lC h.ij h.cJ Gu hx hz (ka.1.mono (by omega)).r (kb.1.mono (by omega)).r;obtain ⟨s,e6,hs⟩:=KO (K:=max K M) h.KQ h.lC h.ij h.cJ Gu hy hw (ka.2.mono (by omega)).r (kb.2.mono (by omega)).r;have e7:=Uk h.toRm hK hr hs (ka.1.mul kb.1) (ka.2.mul kb.2) (by omega);rw [<-mul_eq] at e7;obtain ⟨xw,xl,rfl,dz,_,_,_⟩:=hx;obtain ⟨yw,yl,rfl,dP,_,_,_⟩:=hy;obtain ⟨zw,zl,rfl,oS,_,_,_⟩:=hz;obtain ⟨ww,wl,rfl,oT,_,_,_⟩:=hw;obtain ⟨eQ,rl,rfl,oH,_,_,_⟩:=hr;obtain ⟨sw,sl,rfl,gM,_,_,_⟩:=hs;have hb:¬(q1=true/\q2=true):=hq;unfold ae at e3 e4 e5 e6 e7 ⊢;rw [ay h.ago]
  cases q1 with
  | false=>
   simp only [go_sem,ya,yb,Kk,aK,e1,e2,e3,e4,dz.pu,dz.af,dz.one,dP.pu,dP.af,dP.one,oS.pu,oS.af,oS.one,oT.pu,oT.af,oT.one,oH.af,gM.af,a8,bC,rU,dI,gF,e5,e6,e7]
  | true=>
   cases q2 with
   | true=>exact absurd ⟨rfl,rfl⟩ hb
   | false=>
    simp only [go_sem,ya,yb,Kk,aK,e1,e2,e3,e4,dz.pu,dz.af,dz.one,dP.pu,dP.af,dP.one,oS.pu,oS.af,oS.one,oT.pu,oT.af,oT.one,oH.af,gM.af,a8,bC,rU,dI,gF,e5,e6,e7]
def Ow (h:Rp P L) {a b:Rat} {K M:Nat} (ka:Hq K a) (kb:Hq M b) (hK:K+M+1<=8000000000):ae P L 264 [.str (RT a),.str (RT b)] (.str (RT (a+b))):=by
 obtain ⟨q1,e1,b1⟩:=Ov h ka (by omega);obtain ⟨q2,e2,b2⟩:=Ov h kb (by omega);have awV:=EQ a b;by_cases hq:(q1=true/\q2=true)
 ·obtain ⟨rfl,rfl⟩:=hq;obtain ⟨b11,b12⟩:=b1 rfl;obtain ⟨b21,b22⟩:=b2 rfl;have p1:=JW (a:=a.num) (b:=(b.den:Int)) (by omega) (by omega);have p2:=JW (a:=b.num) (b:=(a.den:Int)) (by omega) (by omega);have p3:=JW (a:=(a.den:Int)) (b:=(b.den:Int)) (by omega) (by omega);have e3:=afa h.toRm (a:=a.num*b.den+b.num*a.den) (b:=(a.den:Int)*b.den) (by omega) (by omega);rw [<-add_eq] at e3;rw [abU] at e1 e2;unfold ae at e1 e2 e3 ⊢;rw [ay h.agn]
  simp only [go_sem,ya,Kj,e1,e2,wrap64 (n:=a.num*(b.den:Int)) (by omega) (by omega),wrap64 (n:=b.num*(a.den:Int)) (by omega) (by omega),wrap64 (n:=a.num*(b.den:Int)+b.num*(a.den:Int)) (by omega) (by omega),wrap64 (n:=(a.den:Int)*(b.den:Int)) (by omega) (by omega),e3]
 ·have bK:∃n1 d1 n2 d2,bQ P L (D P L) 276 [.str (RT a)]=some (.au [aa n1,aa d1,.bool q1])/\bQ P L (D P L) 276 [.str (RT b)]=some (.au [aa n2,aa d2,.bool q2]):=by
   cases q1<;>cases q2<;>exact ⟨_,_,_,_,e1,e2⟩
  obtain ⟨n1,d1,n2,d2,e1,e2⟩:=bK;obtain ⟨x,y,e3,hx,hy⟩:=FX h.toRm ka (by omega);obtain ⟨z,w,e4,hz,hw⟩:=FX h.toRm kb (by omega);have Gu:max K M<=8000000000:=by omega
  obtain ⟨r,e5,hr⟩:=KO (K:=max K M) h.KQ h.lC h.ij h.cJ Gu hx hw (ka.1.mono (by omega)).r (kb.2.mono (by omega)).r;obtain ⟨r2,XM,ep⟩:=KO (K:=max K M) h.KQ h.lC h.ij h.cJ Gu hz hy (kb.1.mono (by omega)).r (ka.2.mono (by omega)).r;obtain ⟨s,e6,hs⟩:=KO (K:=max K M) h.KQ h.lC h.ij h.cJ Gu hy hw (ka.2.mono (by omega)).r (kb.2.mono (by omega)).r;have k1:Bd (K+M) (a.num*b.den):=ka.1.mul kb.2;have k2:Bd (K+M) (b.num*a.den):=(kb.1.mul ka.2).mono (by omega);obtain ⟨t,e8,ht⟩:=awx (K:=K+M) h.awL h.PF h.oC h.PG h.mR h.ij h.cJ (by omega) hr ep k1.r k2.r;have e7:=Uk h.toRm hK ht hs (k1.Vo k2) ((ka.2.mul kb.2).mono (by omega)) (by omega);rw [<-add_eq] at e7;obtain ⟨xw,xl,rfl,dz,_,_,_⟩:=hx;obtain ⟨yw,yl,rfl,dP,_,_,_⟩:=hy;obtain ⟨zw,zl,rfl,oS,_,_,_⟩:=hz;obtain ⟨ww,wl,rfl,oT,_,_,_⟩:=hw;obtain ⟨eQ,rl,rfl,oH,_,_,_⟩:=hr
  obtain ⟨rw2,rl2,rfl,ags,_,_,_⟩:=ep;obtain ⟨tw,tl,rfl,htw,_,_,_⟩:=ht;obtain ⟨sw,sl,rfl,gM,_,_,_⟩:=hs;have hb:¬(q1=true/\q2=true):=hq;unfold ae at e3 e4 e5 XM e6 e7 e8 ⊢;rw [ay h.agn]
  cases q1 with
  | false=>
   simp only [go_sem,ya,yb,Kj,aK,e1,e2,e3,e4,dz.pu,dz.af,dz.one,dP.pu,dP.af,dP.one,oS.pu,oS.af,oS.one,oT.pu,oT.af,oT.one,oH.af,ags.af,htw.af,gM.af,a8,bC,rU,dI,gF,e5,XM,e8,e6,e7]
  | true=>
   cases q2 with
   | true=>exact absurd ⟨rfl,rfl⟩ hb
   | false=>
    simp only [go_sem,ya,yb,Kj,aK,e1,e2,e3,e4,dz.pu,dz.af,dz.one,dP.pu,dP.af,dP.one,oS.pu,oS.af,oS.one,oT.pu,oT.af,oT.one,oH.af,ags.af,htw.af,gM.af,a8,bC,rU,dI,gF,e5,XM,e8,e6,e7]
def DA (h:Rp P L) {a b:Rat} {K M:Nat} (ka:Hq K a) (kb:Hq M b) (hK:K+M+1<=8000000000):ae P L 271 [.str (RT a),.str (RT b)] (.str (RT (a-b))):=by
 have e1:=auF h kb (by omega);have e2:=Ow h ka kb.neg hK;rw [<-Rat.sub_eq_add_neg] at e2;unfold ae at e1 e2 ⊢;rw [ay h.awJ];simp only [go_sem,ya,UM,e1,e2]
def inv_divInt (a:Rat) (h:a≠0):a⁻¹=wa (a.den:Int) a.num:=by
 rw [Rat.inv_def]
def auG (h:Rn P L) (KS:Has P L 283 Kp) {a:Rat} {K:Nat} (ka:Hq K a) (hK:K<=8000000000) (h0:a≠0):ae P L 283 [.str (RT a)] (.str (RT a⁻¹)):=by
 obtain ⟨x,y,e3,hx,hy⟩:=FX h.toRm ka hK;have hn:a.num≠0:=fun e=>h0 (yaF.1 e)
 have e7:=Uk h.toRm hK hy hx ka.2 ka.1 hn;rw [<-inv_divInt a h0] at e7;obtain ⟨xw,xl,rfl,dz,_,_,_⟩:=hx;obtain ⟨yw,yl,rfl,dP,_,_,_⟩:=hy;unfold ae at e3 e7 ⊢;rw [ay KS];simp only [go_sem,ya,yb,Kp,aK,e3,dz.pu,dz.af,dz.one,dP.pu,dP.af,dP.one,a8,rU,dI,gF,e7]
def auH (h:Rn P L) (VI:Has P L 266 O5) (KS:Has P L 283 Kp) {a b:Rat} {K M:Nat} (ka:Hq K a) (kb:Hq M b) (hK:K+M<=8000000000) (h0:b≠0):ae P L 266 [.str (RT a),.str (RT b)] (.str (RT (a/b))):=by
 have e1:=auG h KS kb (by omega) h0;have e2:=z6 h ka kb.inv hK;rw [<-Rat.div_def] at e2;unfold ae at e1 e2 ⊢;rw [ay VI];simp only [go_sem,ya,O5,e1,e2]
def afb (h:Rx P L) {a b:Rat} {K M:Nat} (ka:Hq K a) (kb:Hq M b) (hK:K+M<=8000000000) (h0:b≠0):ae P L 266 [.str (RT a),.str (RT b)] (.str (RT (a/b))):=auH h.toRn h.VI h.KS ka kb hK h0
end
end
section
open Go (IntKind)
def Z0 {P:aG} {L:Lib} (a b c d:VC) (s:St):D P L (.seq a (.seq b (.seq c d))) s=iQ P L (D P L (.seq a (.seq b c)) s) d:=by
 have e:=CQ (P:=P) (L:=L) b c d;rw [kE,kE]
 cases D P L a s with
 | none=>rfl
 | some q=>
  obtain ⟨ex,st⟩:=q
  cases ex with
  | normal=>rw [gD,gD];exact e st
  | ret=>rfl
  | exit id=>rfl
def oc {a b:List Nat} (h:a≠b):cI a b=false:=by
 cases hb:cI a b with
 | false=>rfl
 | true=>exact absurd (SD hb) h
def aaX:∀a:List Nat,cI a a=true
 | []=>rfl
 | x::a=>by simp [cI,aaX a]
def TG {a b:List Nat} (h:a=b):cI a b=true:=h▸aaX a
def alG {s:List Nat} {i:Nat} (h:i<s.length):dl (s.drop i)=(yE 48 s[i]&&yE s[i] 57&&dl (s.drop (i+1))):=by
 rw [yN h];rfl
section
variable {P:aG} {L:Lib}
def awW (h:Has P L 287 Kq) {s:List Nat} (hl:s.length<=1000000000000):ae P L 287 [.str s] (.bool (dl s)):=by
 have key:=eF (P:=P) (L:=L) (live:=[0,3]) (a:=C8)
  (I:=fun k st=>∃i:Nat,st=⟨[(0,.str s),(3,aa i)],[],0,0⟩/\i+k=s.length/\dl (s.drop i)=dl s)
  (Q:=fun ex st=>∃tm ct,st=⟨tm,[],ct,0⟩/\((ex= .ret/\ah tm 2= .bool false/\dl s=false)\/(ex= .exit 0/\dl s=true))) ?_
 ·unfold ae;rw [ay h];simp only [go_sem,Kq];generalize hq:D P L (.loop [0,3] C8) _=q;obtain ⟨ex,st,rfl,tm,ct,rfl,h2⟩:=bD hq (key s.length) ⟨0,by simp only [go_sem,ya,an]<;>rfl,by omega,by simp⟩
  rcases h2 with ⟨rfl,h2,h3⟩ | ⟨rfl,h3⟩
  ·simp only [go_sem,h2,h3]
  ·simp only [go_sem,an,h3]
 ·rintro k st ⟨i,rfl,hk,hs⟩;by_cases hi:i<s.length
  ·rw [alG hi] at hs;by_cases h1:s[i]<48
   ·right
    have e:yE 48 s[i]=false:=by
     cases hb:yE 48 s[i] with
     | false=>rfl
     | true=>have:=yu hb;omega
    rw [e,wK,wK] at hs;simp only [go_sem,ya,C8,show (i:Int)<s.length by omega,qS hi,show ((s[i]:Nat):Int)<48 by omega,ym];exact ⟨_,_,rfl,by simp,_,_,rfl,.inl ⟨rfl,by simp only [go_sem],hs.symm⟩⟩
   ·by_cases h2:57<s[i]
    ·right
     have e:yE s[i] 57=false:=by
      cases hb:yE s[i] 57 with
      | false=>rfl
      | true=>have:=yu hb;omega
     rw [e,Bool.and_false,wK] at hs;simp only [go_sem,ya,C8,show (i:Int)<s.length by omega,qS hi,show ¬((s[i]:Nat):Int)<48 by omega,yk,show (57:Int)<((s[i]:Nat):Int) by omega];exact ⟨_,_,rfl,by simp,_,_,rfl,.inl ⟨rfl,by simp only [go_sem],hs.symm⟩⟩
    ·left
     rw [yx (show 48<=s[i] by omega),yx (show s[i]<=57 by omega),wI,wI] at hs;simp only [go_sem,ya,C8,show (i:Int)<s.length by omega,qS hi,show ¬((s[i]:Nat):Int)<48 by omega,yk,show ¬(57:Int)<((s[i]:Nat):Int) by omega];refine ⟨_,k-1,rfl,by omega,i+1,?_,by omega,hs⟩;rw [wrap64 (by omega) (by omega)];simp only [go_sem,ya,an]<;>rfl
  ·right
   simp only [go_sem,ya,C8,show ¬(i:Int)<s.length by omega];refine ⟨_,_,rfl,by simp,_,_,rfl,.inr ⟨rfl,?_⟩⟩;rw [<-hs,yT (by omega)];rfl
def VJ (h:Has P L 273 DK) (KR:Has P L 287 Kq) {s:List Nat} (hl:s.length<=1000000000000):ae P L 273 [.str s] (.bool (dS s)):=by
 have e:=awW KR hl;unfold ae at e ⊢;rw [ay h]
 match s,hl,e with
 | [],_,_=>
  simp only [go_sem,ya,DK,yK,show ((0:Nat):Int)=0 from rfl,ym];rfl
 | [b],_,e=>
  have:dS [b]=dl [b]:=by simp [dS]
  rw [this];simp only [go_sem,ya,DK,yC,yK,yd,show ¬((1:Nat):Int)=0 by decide,show ¬(1:Int)<((1:Nat):Int) by decide,yk,e]
 | b::c::r,hl,e=>
  have hd:dS (b::c::r)=(dl (b::c::r)&& !(Nat.beq b 48)):=by simp [dS]
  rw [hd];by_cases hb:b=48
  ·subst hb;simp only [go_sem,ya,DK,yC,show ¬((r.length+1+1:Nat):Int)=0 by omega,yk,show (1:Int)<((r.length+1+1:Nat):Int) by omega,show nt 0 (.str (48::c::r))=some (.int .u8 48) from rfl,ym]
   simp
  ·have:Nat.beq b 48=false:=iC hb
   rw [this,yI,uj];simp only [go_sem,ya,DK,yC,show ¬((r.length+1+1:Nat):Int)=0 by omega,yk,show (1:Int)<((r.length+1+1:Nat):Int) by omega,show nt 0 (.str (b::c::r))=some (.int .u8 (b:Nat)) from rfl,show ¬((b:Nat):Int)=48 by omega,e]
def aaY {s:List Nat} {k:Nat} (h:k<=s.length):iJ s (some 0) (some k)=some (.str (s.take k)):=by
 rw [lL (by omega) h,yg]
def Nq {s:List Nat} {k:Nat} (h:k<=s.length):iJ s (some k) (some s.length)=some (.str (s.drop k)):=by
 rw [lL h (yr _),xQ]
def asS (h:Rm P L) {t:List Nat} {k:Nat} (hk:k=bR t) (hl:t.length<=1000000000) (hp:dS (t.take k)=true) {tm:Env} (t3:ah tm 3= .str t) (t4:ah tm 4=aa k):
  fj [.t 2] (D P L (aw (aw (aw (aw (aw dt.body))))) ⟨tm,[],0,0⟩)=some (aa (
   if k<t.length/\(dS (t.drop (k+1))=false\/t.drop (k+1)=[48]\/t.drop (k+1)=[49]) then 1
   else if 600<k\/600<t.length-k-1 then 4
   else if k<t.length/\wD (fR (t.take k)) (fR (t.drop (k+1)))≠1 then 1
   else 0)):=by
 have XC:k<=t.length:=by rw [hk];exact II t
 have e3:=VJ h.VH h.KR (s:=t.drop (k+1)) (by rw [wi];omega);unfold ae at e3;have Cv:(k:Int)+1=((k+1:Nat):Int):=rfl;by_cases hs:k<t.length
 ·have c2:=Nq (s:=t) (k:=k+1) (by omega);have kA:=Ya t (by omega);rw [<-hk] at kA;have Hd:(t.drop (k+1)).length=t.length-k-1:=by rw [wi];omega
  have hlp:(t.take k).length=k:=by rw [yQ];omega
  generalize hqe:t.drop (k+1)=q at*
  generalize hpe:t.take k=p at*
  cases hd:dS q with
  | false=>
   rw [yH ⟨hs,.inl rfl⟩];rw [hd] at e3
   simp only [go_sem,ya,dt,aw,t3,t4,show (k:Int)<(t.length:Int) by omega,ym,Cv,wrapN (n:=k+1) (by omega),eR,fb,dG,c2,e3,yI]
  | true=>
   rw [hd] at e3;by_cases jD:q=[48]
   ·rw [yH ⟨hs,.inr (.inl jD)⟩]
    simp only [go_sem,ya,dt,aw,t3,t4,show (k:Int)<(t.length:Int) by omega,ym,Cv,wrapN (n:=k+1) (by omega),eR,fb,dG,c2,e3,yJ,j9,TG jD]
   ·by_cases oQ:q=[49]
    ·rw [yH ⟨hs,.inr (.inr oQ)⟩]
     simp only [go_sem,ya,dt,aw,t3,t4,show (k:Int)<(t.length:Int) by omega,ym,Cv,wrapN (n:=k+1) (by omega),eR,fb,dG,c2,e3,yJ,j9,oc jD,TG oQ]
    ·rw [yA (by simp only [hs,uP,tY,ybl];exact fun e=>e.elim jD oQ)]
     by_cases Ea:600<k
     ·rw [yH (.inl Ea)]
      simp only [go_sem,ya,dt,aw,t3,t4,show (k:Int)<(t.length:Int) by omega,ym,Cv,wrapN (n:=k+1) (by omega),eR,fb,dG,c2,e3,yJ,j9,oc jD,oc oQ,show (600:Int)<(k:Int) by omega]
     ·by_cases awX:600<t.length-k-1
      ·rw [yH (.inr awX)]
       simp only [go_sem,ya,dt,aw,t3,t4,show (k:Int)<(t.length:Int) by omega,ym,Cv,wrapN (n:=k+1) (by omega),eR,fb,dG,c2,e3,yJ,j9,oc jD,oc oQ,show ¬(600:Int)<(k:Int) by omega,yk,show (t.length:Int)-(k:Int)=((t.length-k:Nat):Int) by omega,wrapN (n:=t.length-k) (by omega),show ((t.length-k:Nat):Int)-1=((t.length-k-1:Nat):Int) by omega,wrapN (n:=t.length-k-1) (by omega),show (600:Int)<((t.length-k-1:Nat):Int) by omega]
      ·rw [yA (by omega)];have rL:=EZ _ rfl hp;have oR:=EZ _ rfl hd;have iN:fR q≠0:=fun e=>jD (by rw [<-oR,e];rfl)
       have kK:fR q≠1:=fun e=>oQ (by rw [<-oR,e];rfl)
       generalize fR p=n at*
       generalize fR q=d at*
       have hT:TT (n:Int) d=t:=by
        unfold TT;rw [kP,yA kK,rL,oR];exact kA.symm
       obtain ⟨x,y,e4,hx,hy⟩:=agr h.toRb (n:=(n:Int)) (d:=d) (by rw [wW,rL];omega) (by rw [oR];omega);rw [hT] at e4;obtain ⟨xw,xl,rfl,dz,dx,nx,vx⟩:=hx;obtain ⟨yw,yl,rfl,dP,dy,ny,vy⟩:=hy;rw [wW] at vx vy;have qd:n<10^p.length:=by rw [<-rL];exact I6 n
       have hdb:d<10^q.length:=by rw [<-oR];exact I6 d
       obtain ⟨K,hK⟩:∃K:Nat,K=600:=⟨_,rfl⟩;have Qz:∀{m j:Nat},m<10^j->j<=K->m<1000000000^K:=fun {m j} h1 h2=>
        yP h1 (xn (xD (by decide) h2) (uo (by decide) K))
       have lxl:=iE dx nx (by rw [vx];exact Qz qd (by omega))
       have lyl:=iE dy ny (by rw [vy];exact Qz hdb (by omega))
       obtain ⟨g,lg,e5,hg,dgg,ngg,vg⟩:=ae6 h.agj h.KP h.lC h.oC h.pQ h.cJ h.rm dz dP dx dy nx ny (by omega) (by omega);rw [vx,vy] at vg;have Li:0<wD n d:=Nat.gcd_pos_of_pos_right _ (by omega);unfold ae at e4 e5;by_cases VK:lg.length=1
       ·obtain ⟨z,rfl⟩:∃z,lg=[z]:=by
         cases lg with
         | nil=>simp at VK
         | cons z r=>cases r with
          | nil=>exact ⟨z,rfl⟩
          | cons y r=>simp at VK
        have gz:=jG.1 dgg;have L9:z=(wD n d:Nat):=by simp [dv] at vg;omega
        have e8:=hg.aZ (i:=0) (by simp);simp only [tz] at e8;by_cases iL:wD n d=1
        ·rw [yA (by simp [iL])]
         simp only [go_sem,ya,yb,dt,aw,t3,t4,show (k:Int)<(t.length:Int) by omega,ym,Cv,wrapN (n:=k+1) (by omega),eR,fb,dG,c2,e3,yJ,j9,oc jD,oc oQ,show ¬(600:Int)<(k:Int) by omega,yk,show (t.length:Int)-(k:Int)=((t.length-k:Nat):Int) by omega,wrapN (n:=t.length-k) (by omega),show ((t.length-k:Nat):Int)-1=((t.length-k-1:Nat):Int) by omega,wrapN (n:=t.length-k-1) (by omega),show ¬(600:Int)<((t.length-k-1:Nat):Int) by omega,e4,aK,dz.pu,dz.af,dz.one,dP.pu,dP.af,dP.one,dI,aV,yd,bX,e5,hg.len,hg.shut,yC,yK,show ((1:Nat):Int)=(1:Int) from rfl,yJ,e8,L9,iL]
        ·rw [yH ⟨hs,iL⟩]
         simp only [go_sem,ya,yb,dt,aw,t3,t4,show (k:Int)<(t.length:Int) by omega,ym,Cv,wrapN (n:=k+1) (by omega),eR,fb,dG,c2,e3,yJ,j9,oc jD,oc oQ,show ¬(600:Int)<(k:Int) by omega,yk,show (t.length:Int)-(k:Int)=((t.length-k:Nat):Int) by omega,wrapN (n:=t.length-k) (by omega),show ((t.length-k:Nat):Int)-1=((t.length-k-1:Nat):Int) by omega,wrapN (n:=t.length-k-1) (by omega),show ¬(600:Int)<((t.length-k-1:Nat):Int) by omega,e4,aK,dz.pu,dz.af,dz.one,dP.pu,dP.af,dP.one,dI,aV,yd,bX,e5,hg.len,hg.shut,yC,yK,show ((1:Nat):Int)=(1:Int) from rfl,yJ,e8,L9,show ¬((wD n d:Nat):Int)=1 by omega,yI]
       ·have iL:wD n d≠1:=fun e=>VK (by
         have h1:lg.length<=1:=S3 dgg ngg (by omega);have h2:0<lg.length:=by
          rcases xt lg.length with h0 | h0
          ·rw [yD h0] at vg;simp [dv] at vg;omega
          ·exact h0
         omega)
        rw [yH ⟨hs,iL⟩]
        simp only [go_sem,ya,yb,dt,aw,t3,t4,show (k:Int)<(t.length:Int) by omega,ym,Cv,wrapN (n:=k+1) (by omega),eR,fb,dG,c2,e3,yJ,j9,oc jD,oc oQ,show ¬(600:Int)<(k:Int) by omega,yk,show (t.length:Int)-(k:Int)=((t.length-k:Nat):Int) by omega,wrapN (n:=t.length-k) (by omega),show ((t.length-k:Nat):Int)-1=((t.length-k-1:Nat):Int) by omega,wrapN (n:=t.length-k-1) (by omega),show ¬(600:Int)<((t.length-k-1:Nat):Int) by omega,e4,aK,dz.pu,dz.af,dz.one,dP.pu,dP.af,dP.one,dI,aV,yd,bX,e5,hg.len,hg.shut,show ¬(lg.length:Int)=1 by omega,yI]
 ·have hkt:k=t.length:=by omega
  rw [yA (by omega)];by_cases Ea:600<k
  ·rw [yH (.inl Ea)];simp only [go_sem,ya,dt,aw,t3,t4,show ¬(k:Int)<(t.length:Int) by omega,yk,show (600:Int)<(k:Int) by omega,ym]
  ·rw [yA (by omega),yA (by omega)]
   simp only [go_sem,ya,dt,aw,t3,t4,show ¬(k:Int)<(t.length:Int) by omega,yk,show ¬(600:Int)<(k:Int) by omega,show (t.length:Int)-(k:Int)=((t.length-k:Nat):Int) by omega,wrapN (n:=t.length-k) (by omega),show ((t.length-k:Nat):Int)-1= -1 by omega,show IntKind.wrap .i64 (-1)= -1 by rfl,show ¬(600:Int)<(-1:Int) by omega]
def adB (h:Rm P L) {b:Nat} {r:List Nat} {t:List Nat} {neg:Bool} (fJ:decide (((b:Nat):Int)=45)=neg) (hl:t.length<=1000000000) {tm:Env} (t0:ah tm 0= .str (b::r)) (t3:ah tm 3= .str t):
  fj [.t 2] (D P L (aw (aw (aw dt.body))) ⟨tm,[],0,0⟩)=some (aa (Am neg t)):=by
 obtain ⟨k,hk⟩:∃k,k=bR t:=⟨_,rfl⟩;have XC:k<=t.length:=by rw [hk];exact II t
 have e1:=DT h.Ag (s:=t) (by omega);have e2:=VJ h.VH h.KR (s:=t.take k) (by rw [yQ];omega);unfold Am;rw [<-hk] at e1 ⊢;have c1:=aaY XC;have hI:nt 0 (.str (b::r))=some (.int .u8 (b:Nat)):=rfl;generalize hp:t.take k=p at*
 generalize hq:t.drop (k+1)=q at*
 cases hd:dS p with
 | false=>
  rw [yH (.inl rfl)];rw [hd] at e2;simp only [go_sem,ya,dt,aw,t3,e1,eR,fb,dG,c1,e2,yI]
 | true=>
  rw [hd] at e2;by_cases hz:neg=true/\p=[48]
  ·rw [yH (.inr hz)];obtain ⟨z1,z2⟩:=hz;rw [z1] at fJ;have hb:=of_decide_eq_true fJ;subst z2;simp only [go_sem,ya,dt,aw,t0,t3,e1,eR,fb,dG,c1,e2,yJ,hI,hb,ym,j9,show cI [48] [48]=true from rfl]
  ·rw [yA (by simp only [tY,ybl];exact hz)]
   have fin:∀cu,ah cu 3= .str t->ah cu 4=aa k->D P L (.seq (bk (aw (aw (aw dt.body)))) (bk (aw (aw (aw (aw dt.body)))))) ⟨tm,[],0,0⟩=some (.normal,⟨cu,[],0,0⟩)->fj [.t 2] (D P L (aw (aw (aw dt.body))) ⟨tm,[],0,0⟩)=some (aa (
     if k<t.length/\(dS q=false\/q=[48]\/q=[49]) then 1
     else if 600<k\/600<t.length-k-1 then 4
     else if k<t.length/\wD (fR p) (fR q)≠1 then 1
     else 0)):=fun cu f3 f4 e=>by
    show fj [.t 2] (D P L (.seq (bk (aw (aw (aw dt.body)))) (.seq (bk (aw (aw (aw (aw dt.body))))) (aw (aw (aw (aw (aw dt.body))))))) ⟨tm,[],0,0⟩)=_
    rw [CQ,e,gD,<-hp,<-hq];exact asS h hk hl (by rw [hp];exact hd) f3 f4
   by_cases hb:((b:Nat):Int)=45
   ·have awY:p≠[48]:=fun e=>hz ⟨by rw [<-fJ];exact xo hb,e⟩
    refine fin _ ?_ ?_ (by simp only [go_sem,ya,dt,bk,aw,t0,t3,e1,eR,fb,dG,c1,e2,yJ,hI,hb,ym,j9,oc awY]<;>rfl)<;>simp only [go_sem,ya,t3]
   ·refine fin _ ?_ ?_ (by simp only [go_sem,ya,dt,bk,aw,t0,t3,e1,eR,fb,dG,c1,e2,yJ,hI,hb,yk]<;>rfl)<;>simp only [go_sem,ya,t3]
def VL (h:Rm P L) {s:List Nat} (hl:s.length<=1000000000):ae P L 263 [.str s] (aa (a6 s)):=by
 unfold ae;rw [ay h.awP]
 cases s with
 | nil=>
  have e1:=DT h.Ag (s:=[]) (by simp);have e2:=VJ h.VH h.KR (s:=[]) (by simp);have hc:iJ [] (some 0) (some 0)=some (.str []):=rfl;simp only [go_sem,ya,dt,yK,show ¬(0:Int)<((0:Nat):Int) by decide,yk,e1,bR,eR,fb,dG,hc,e2,show dS []=false from rfl,yI];rfl
 | cons b t=>
  have hl':t.length+1<=1000000000:=by simpa using hl
  have hI:nt 0 (.str (b::t))=some (.int .u8 (b:Nat)):=rfl;by_cases hb:b=45
  ·subst hb;have fin:∀cu,ah cu 0= .str (45::t)->ah cu 3= .str t->D P L (.seq (bk dt.body) (.seq (bk (aw dt.body)) (bk (aw (aw dt.body))))) ⟨[(0,.str (45::t))],[],0,0⟩=some (.normal,⟨cu,[],0,0⟩)->fj [.t 2] (D P L dt.body ⟨[(0,.str (45::t))],[],0,0⟩)=some (aa (a6 (45::t))):=fun cu f0 f3 e=>by
    show fj [.t 2] (D P L (.seq (bk dt.body) (.seq (bk (aw dt.body)) (.seq (bk (aw (aw dt.body))) (aw (aw (aw dt.body)))))) ⟨[(0,.str (45::t))],[],0,0⟩)=_
    rw [Z0,e,gD]
    exact adB h (b:=45) rfl (by omega) f0 f3
   have hc:iJ (45::t) (some 1) (some (t.length+1))=some (.str t):=by
    have:=Nq (s:=45::t) (k:=1) (by simp)
    simpa using this
   refine fin _ ?_ ?_ (by simp only [go_sem,ya,dt,bk,aw,yC,show (0:Int)<((t.length+1:Nat):Int) by omega,ym,DU,eR,fb,dG,hc]<;>rfl)<;>simp only [go_sem,ya]
  ·have fin:∀cu,ah cu 0= .str (b::t)->ah cu 3= .str (b::t)->D P L (.seq (bk dt.body) (.seq (bk (aw dt.body)) (bk (aw (aw dt.body))))) ⟨[(0,.str (b::t))],[],0,0⟩=some (.normal,⟨cu,[],0,0⟩)->fj [.t 2] (D P L dt.body ⟨[(0,.str (b::t))],[],0,0⟩)=some (aa (a6 (b::t))):=fun cu f0 f3 e=>by
    show fj [.t 2] (D P L (.seq (bk dt.body) (.seq (bk (aw dt.body)) (.seq (bk (aw (aw dt.body))) (aw (aw (aw dt.body)))))) ⟨[(0,.str (b::t))],[],0,0⟩)=_
    rw [Z0,e,gD]
    have:=adB h (b:=b) (neg:=false) (yZ (by omega)) (by simpa using hl) f0 f3
    rw [this];simp only [a6,yA hb]
   refine fin _ ?_ ?_ (by simp only [go_sem,ya,dt,bk,aw,yC,show (0:Int)<((t.length+1:Nat):Int) by omega,ym,hI,show ¬((b:Nat):Int)=45 by omega]<;>rfl)<;>simp only [go_sem,ya]
end
end
section
open Go (IntKind)
def cN (v:AV) (l:List (List Nat)):Prop:=cS v (l.map AV.str)
section
variable {v:AV} {l:List (List Nat)}
def cN.len (h:cN v l) {hp:Hp}:ia hp 1 v=some (.int .i64 (l.length:Nat)):=by
 have:=cS.len (hp:=hp) h
 grind
def cN.pu (h:cN v l):aU v=true:=cS.pu h
def cN.af (h:cN v l) (n:Nat) {hp:Hp}:freeze (n+1) hp v=some (v,hp):=cS.af h n
def cN.shut (h:cN v l):VE.shut v=v:=cS.shut h
def cN.bG (h:cN v l):VE.bG v=v:=cS.bG h
def cN.dw (h:cN v l) {hp:Hp}:result hp v=some v:=cS.dw h
def cN.one (h:cN v l):bm v=true:=cS.one h
def cN.cells (h:cN v l):cellsOf v=[v]:=cS.cells h
def cN.aZ (h:cN v l) {i:Nat} (hi:i<l.length):hZ 1 i v=some (.aQ (.str l[i]::(l.map AV.str).drop (i+1))):=by
 have:=cS.aZ h (i:=i) (by simpa using hi)
 grind
def Fe (e:Bool) (l:List (List Nat)):cN (.aJ e l.length (l.map AV.str)) l:=by
 have:=CW e (l.map AV.str)
 rwa [yL] at this
end
section
variable {P:aG} {L:Lib}
def aqb (h:Rm P L) {a:Rat} {K:Nat} (ka:Hq K a) (hK:K<=4000000000):bQ P L (D P L) 284 [.str (RT a)]=some (.str (aY a.num))/\bQ P L (D P L) 285 [.str (aY a.num)]=some (.str (aB a.num.natAbs))/\bQ P L (D P L) 286 [.str (RT a)]=some (.str (aB a.den)):=by
 have hl:=FM ka;have e0:=DT h.Ag (s:=RT a) (by omega);have iV:bR (RT a)=(aY a.num).length/\(RT a).take (aY a.num).length=aY a.num:=by
  unfold RT;by_cases hd:a.den=1
  ·rw [yH hd,wJ]
   have:=ER a.num []
   rw [wJ] at this;exact ⟨by rw [this];simp [bR],xQ⟩
  ·rw [yA hd];exact ⟨by rw [ER];simp [bR],List.take_left⟩
 obtain ⟨ez,zd⟩:=iV;rw [ez] at e0;have hlen:(aY a.num).length<=(RT a).length:=by unfold RT;simp
 have e1:bQ P L (D P L) 284 [.str (RT a)]=some (.str (aY a.num)):=by
  rw [ay h.awQ]
  have:=aaY (s:=RT a) hlen
  simp only [go_sem,ya,UN,e0,eR,fb,dG,this,zd]
 have hT:aY a.num=TT a.num 1:=by unfold TT;simp
 have e2:bQ P L (D P L) 285 [.str (aY a.num)]=some (.str (aB a.num.natAbs)):=by
  have e:=ae9 h (n:=a.num) (d:=1) (by rw [<-hT];omega) (fun _=>rfl);rw [<-hT] at e;rw [ay h.awR];by_cases h0:a.num<0
  ·have es:cB a.num= -1:=by unfold cB;rw [yH h0]
   rw [es] at e;rw [nh h0] at e ⊢;have hc:=Nq (s:=45::aB a.num.natAbs) (k:=1) (by simp);simp only [List.drop_succ_cons,yg,yC] at hc;simp only [go_sem,ya,Pa,e,show (-1:Int)<0 by decide,eR,fb,dG,hc]
  ·have es:¬cB a.num<0:=by unfold cB;rw [yA h0];split<;>decide
   have hi:aY a.num=aB a.num.natAbs:=by
    obtain ⟨m,hm⟩:∃m:Nat,a.num=m:=⟨a.num.toNat,by omega⟩;rw [hm,kP,wW]
   simp only [go_sem,ya,Pa,e,es];rw [hi]
 have e3:bQ P L (D P L) 286 [.str (RT a)]=some (.str (aB a.den)):=by
  rw [ay h.awS];by_cases hd:a.den=1
  ·have hR:(RT a).length=(aY a.num).length:=by unfold RT;rw [yH hd];simp
   rw [hd,show aB 1=[49] by decide];simp only [go_sem,ya,Pb,e0,show ((aY a.num).length:Int)=((RT a).length:Int) by omega,ym]
  ·have hR:RT a=(aY a.num++[47])++aB a.den:=by unfold RT;rw [yA hd];simp
   have hRl:(RT a).length=(aY a.num).length+1+(aB a.den).length:=by rw [hR];simp;omega
   have hc:=Nq (s:=RT a) (k:=(aY a.num).length+1) (by omega);have jm:(RT a).drop ((aY a.num).length+1)=aB a.den:=by
    rw [hR,show (aY a.num).length+1=(aY a.num++[47]).length by simp,List.drop_left]
   rw [jm] at hc
   simp only [go_sem,ya,Pb,e0,show ¬((aY a.num).length:Int)=((RT a).length:Int) by omega,show ((aY a.num).length:Int)+1=(((aY a.num).length+1:Nat):Int) from rfl,wrapN (n:=(aY a.num).length+1) (by omega),eR,fb,dG,hc]
 exact ⟨e1,e2,e3⟩
def auI (h:Rl P L) {a:Rat} {K:Nat} (ka:Hq K a) (hK:K<=4000000000):ae P L 269 [.str (RT a)] (aa (if LG a=true then 4 else 0)):=by
 obtain ⟨e1,e2,e3⟩:=aqb h.toRm ka hK;unfold ae;rw [ay h.awT];unfold LG LN;rw [wW];by_cases h1:600<(aB a.num.natAbs).length
 ·rw [xo h1,uy,yH rfl];simp only [go_sem,ya,Km,e1,e2,show (600:Int)<((aB a.num.natAbs).length:Int) by omega,ym]
 ·by_cases h2:600<(aB a.den).length
  ·rw [xo h2,Bool.or_true,yH rfl];simp only [go_sem,ya,Km,e1,e2,show ¬(600:Int)<((aB a.num.natAbs).length:Int) by omega,yk,e3,show (600:Int)<((aB a.den).length:Int) by omega]
  ·rw [yZ h1,yZ h2,ybn,yA (by decide)];simp only [go_sem,ya,Km,e1,e2,show ¬(600:Int)<((aB a.num.natAbs).length:Int) by omega,yk,e3,show ¬(600:Int)<((aB a.den).length:Int) by omega]
def iF (l:List (List Nat)):Bool:=l.all fun s=>decide (s.length<=40)
def ajX {l:List (List Nat)} {i:Nat} (h:i<l.length):iF (l.drop i)=(decide (l[i].length<=40)&&iF (l.drop (i+1))):=by
 rw [yN h];rfl
def alH {l:List (List Nat)} {i:Nat} (h:i<l.length):bn ((l.drop i).map a6)=if a6 l[i]=0 then bn ((l.drop (i+1)).map a6) else a6 l[i]:=by
 rw [yN h];rfl
def VM (h:Has P L 305 DM) {v:AV} {l:List (List Nat)} (hv:cN v l) (hl:l.length<=1000000) (hs:∀s,s∈l->s.length<9223372036854775808):ae P L 305 [v] (.bool (iF l)):=by
 have key:=eF (P:=P) (L:=L) (live:=[0,3]) (a:=Fw)
  (I:=fun k st=>∃i:Nat,st=⟨[(0,v),(3,aa i)],[],0,0⟩/\i+k=l.length/\iF (l.drop i)=iF l)
  (Q:=fun ex st=>∃tm ct,st=⟨tm,[],ct,0⟩/\((ex= .ret/\ah tm 2= .bool false/\iF l=false)\/(ex= .exit 0/\iF l=true))) ?_
 ·unfold ae;rw [ay h];simp only [go_sem,DM];generalize hq:D P L (.loop [0,3] Fw) _=q;obtain ⟨ex,st,rfl,tm,ct,rfl,h2⟩:=bD hq (key l.length) ⟨0,by simp only [go_sem,ya,an,ak hv.pu,ao _ hv.pu]<;>rfl,by omega,by simp⟩
  rcases h2 with ⟨rfl,h2,h3⟩ | ⟨rfl,h3⟩
  ·simp only [go_sem,h2,h3]
  ·simp only [go_sem,an,h3]
 ·rintro k st ⟨i,rfl,hk,hd⟩;by_cases hi:i<l.length
  ·rw [ajX hi] at hd;have ev:=hv.aZ hi;by_cases h1:l[i].length<=40
   ·left
    rw [xo h1,wI] at hd;simp only [go_sem,ya,Fw,hv.len,show (i:Int)<l.length by omega,ev,show ¬(40:Int)<(l[i].length:Int) by omega];refine ⟨_,k-1,rfl,by omega,i+1,?_,by omega,hd⟩;rw [wrap64 (by omega) (by omega)];simp only [go_sem,ya,an,ak hv.pu,ao _ hv.pu]<;>rfl
   ·right
    rw [yZ h1,wK] at hd;simp only [go_sem,ya,Fw,hv.len,show (i:Int)<l.length by omega,ev,show (40:Int)<(l[i].length:Int) by omega];exact ⟨_,_,rfl,by simp,_,_,rfl,.inl ⟨rfl,by simp only [go_sem],hd.symm⟩⟩
  ·right
   simp only [go_sem,ya,Fw,hv.len,show ¬(i:Int)<l.length by omega];refine ⟨_,_,rfl,by simp,_,_,rfl,.inr ⟨rfl,?_⟩⟩;rw [<-hd,yT (by omega)];rfl
def auJ (h:Rm P L) (VN:Has P L 261 O4) {v:AV} {l:List (List Nat)} (hv:cN v l) (hl:l.length<=1000000) (hs:∀s,s∈l->s.length<=1000000000):ae P L 261 [v] (aa (bn (l.map a6))):=by
 have key:=eF (P:=P) (L:=L) (live:=[0,3]) (a:=Ft)
  (I:=fun k st=>∃i:Nat,st=⟨[(0,v),(3,aa i)],[],0,0⟩/\i+k=l.length/\bn ((l.drop i).map a6)=bn (l.map a6))
  (Q:=fun ex st=>∃tm ct,st=⟨tm,[],ct,0⟩/\((ex= .ret/\ah tm 2=aa (bn (l.map a6)))\/(ex= .exit 0/\bn (l.map a6)=0))) ?_
 ·unfold ae;rw [ay VN];simp only [go_sem,O4];generalize hq:D P L (.loop [0,3] Ft) _=q;obtain ⟨ex,st,rfl,tm,ct,rfl,h2⟩:=bD hq (key l.length) ⟨0,by simp only [go_sem,ya,an,ak hv.pu,ao _ hv.pu]<;>rfl,by omega,by simp⟩
  rcases h2 with ⟨rfl,h2⟩ | ⟨rfl,h3⟩
  ·simp only [go_sem,h2]
  ·simp only [go_sem,an,h3]
 ·rintro k st ⟨i,rfl,hk,hd⟩;by_cases hi:i<l.length
  ·rw [alH hi] at hd;have e1:=VL h (hs l[i] (yR hi));have ev:=hv.aZ hi;by_cases h1:a6 l[i]=0
   ·left
    rw [yH h1] at hd;rw [h1] at e1;simp only [go_sem,ya,Ft,hv.len,show (i:Int)<l.length by omega,ev,e1,ym,yJ];refine ⟨_,k-1,rfl,by omega,i+1,?_,by omega,hd⟩;rw [wrap64 (by omega) (by omega)];simp only [go_sem,ya,an,ak hv.pu,ao _ hv.pu]<;>rfl
   ·right
    rw [yA h1] at hd;simp only [go_sem,ya,Ft,hv.len,show (i:Int)<l.length by omega,ev,e1,h1,yk,yI];refine ⟨_,_,rfl,by simp,_,_,rfl,.inl ⟨rfl,?_⟩⟩;rw [<-hd];simp only [go_sem]
  ·right
   simp only [go_sem,ya,Ft,hv.len,show ¬(i:Int)<l.length by omega];refine ⟨_,_,rfl,by simp,_,_,rfl,.inr ⟨rfl,?_⟩⟩;rw [<-hd,yT (by omega)];rfl
def ajY {l:List Rat} {i:Nat} (h:i<l.length):(l.drop i).any LG=(LG l[i]||(l.drop (i+1)).any LG):=by
 rw [yN h];rfl
def auK (h:Rl P L) (KT:Has P L 316 Kv) {v:AV} {l:List Rat} (hv:cN v (l.map RT)) (hl:l.length<=1000000) {K:Nat} (hs:∀r,r∈l->Hq K r) (hK:K<=4000000000):ae P L 316 [v] (aa (if l.any LG=true then 4 else 0)):=by
 have hlen:(l.map RT).length=l.length:=by simp
 have key:=eF (P:=P) (L:=L) (live:=[0,3]) (a:=Fx)
  (I:=fun k st=>∃i:Nat,st=⟨[(0,v),(3,aa i)],[],0,0⟩/\i+k=l.length/\(l.drop i).any LG=l.any LG)
  (Q:=fun ex st=>∃tm ct,st=⟨tm,[],ct,0⟩/\((ex= .ret/\ah tm 2=aa 4/\l.any LG=true)\/(ex= .exit 0/\l.any LG=false))) ?_
 ·unfold ae;rw [ay KT];simp only [go_sem,Kv];generalize hq:D P L (.loop [0,3] Fx) _=q;obtain ⟨ex,st,rfl,tm,ct,rfl,h2⟩:=bD hq (key l.length) ⟨0,by simp only [go_sem,ya,an,ak hv.pu,ao _ hv.pu]<;>rfl,by omega,by simp⟩
  rcases h2 with ⟨rfl,h2,h3⟩ | ⟨rfl,h3⟩
  ·simp only [go_sem,h2,h3,xm]
  ·simp only [go_sem,an,h3];rfl
 ·rintro k st ⟨i,rfl,hk,hd⟩;by_cases hi:i<l.length
  ·rw [ajY hi] at hd;have e1:=auI h (hs l[i] (yR hi)) hK;have ev:=hv.aZ (i:=i) (by simpa using hi);rw [List.getElem_map] at ev
   cases hb:LG l[i] with
   | false=>
    left
    rw [hb,wX] at hd;rw [hb] at e1;simp only [yF,xh] at e1;simp only [go_sem,ya,Fx,hv.len,hlen,show (i:Int)<l.length by omega,ev,e1,ym,yJ];refine ⟨_,k-1,rfl,by omega,i+1,?_,by omega,hd⟩;rw [wrap64 (by omega) (by omega)];simp only [go_sem,ya,an,ak hv.pu,ao _ hv.pu]<;>rfl
   | true=>
    right
    rw [hb,uy] at hd;rw [hb] at e1;simp only [xm] at e1;simp only [go_sem,ya,Fx,hv.len,hlen,show (i:Int)<l.length by omega,ev,e1,show ¬(4:Int)=0 by decide,yk,yI];exact ⟨_,_,rfl,by simp,_,_,rfl,.inl ⟨rfl,by simp only [go_sem],hd.symm⟩⟩
  ·right
   simp only [go_sem,ya,Fx,hv.len,hlen,show ¬(i:Int)<l.length by omega];refine ⟨_,_,rfl,by simp,_,_,rfl,.inr ⟨rfl,?_⟩⟩;rw [<-hd,yT (by omega)];rfl
end
end
section
open Go (IntKind)
open Classical in
noncomputable def bf (s:List Nat):Rat:=if h:a6 s=0 then Classical.choose (asB h) else 0
def A6 {s:List Nat} (h:a6 s=0):s=RT (bf s)/\(aB (bf s).num.natAbs).length<=600/\(aB (bf s).den).length<=600:=by
 unfold bf
 grind
def Z1 {z:Int} {k M:Nat} (h:(aB z.natAbs).length<=k) (hM:4*k<=M):Bd M z:=by
 have h1:=I6 z.natAbs;have h2:=I7 (aB z.natAbs).length;have h3:(2:Nat)^(4*(aB z.natAbs).length)<=2^M:=xD (by decide) (by omega);exact yP h1 (xn h2 h3)
def ki {s:List Nat} (h:a6 s=0) {M:Nat} (hM:2400<=M):Hq M (bf s):=by
 obtain ⟨_,h1,h2⟩:=A6 h
 exact ⟨Z1 h1 (by omega),Z1 (z:=((bf s).den:Int)) (by rw [wW];exact h2) (by omega)⟩
noncomputable def kI (s:List Nat) (least:Int):Int:=if a6 s=0 then (if cB (bf s).num<least then 3 else 0) else a6 s
def S5 {s:List Nat} {m:Int} (h:kI s m=0):a6 s=0/\m<=cB (bf s).num:=by
 unfold kI at h
 grind
abbrev qw (x y:List Nat):AV:= .agg [.str x,.str y]
abbrev nU (a b:Rat):AV:= .agg [.str (RT a),.str (RT b)]
instance (k:Nat) (z:Int):Decidable (Bd k z):=inferInstanceAs (Decidable (z.natAbs<2^k))
def VO:RT 0=[48]:=by decide
def PJ:RT 1=[49]:=by decide
def PK:Hq 2 0:=⟨by decide,by decide⟩
def lD:Hq 2 1:=⟨by decide,by decide⟩
def aqc {a:Rat} (h:RT a=[48]):a=0:=by
 unfold RT at h;have hp:=zD a.den;by_cases hd:a.den=1
 ·rw [yH hd,wJ] at h;by_cases h0:a.num<0
  ·rw [nh h0] at h;simp at h
  ·obtain ⟨m,hm⟩:∃m:Nat,a.num=m:=⟨a.num.toNat,by omega⟩;rw [hm,kP] at h;have hv:=CM m;rw [h] at hv;have hv:some 0=some m:=hv
   have:m=0:=by simp_all
   simp_all
 ·rw [yA hd] at h;have hl:=congrArg List.length h
  grind
def TH (a:Rat):cI (RT a) [48]=decide (a=0):=by
 by_cases h:a=0
 ·subst h;exact TG VO
 ·rw [yZ h];exact oc (fun e=>h (aqc e))
structure S0 (P:aG) (L:Lib):Prop extends Rm P L where
 Cf:Has P L 42 Lo
 VN:Has P L 261 O4
 awZ:Has P L 306 UP
 aw0:Has P L 307 UQ
 aw1:Has P L 308 UR
 aw2:Has P L 314 Ku
structure Sr0 (P:aG) (L:Lib):Prop extends Rx P L,S0 P L where
 aw3:Has P L 304 UO
 Ap:Has P L 305 DM
 pR:Has P L 309 rh
 aw4:Has P L 311 Pe
 nF:Has P L 315 sI
 aw5:Has P L 317 US
 aw6:Has P L 318 UT
instance {P:aG} {L:Lib}:Coe (Sr0 P L) (S0 P L):=⟨fun h=>h.toS0⟩
section
variable {P:aG} {L:Lib}
def agt (h:S0 P L) {s:List Nat} (hl:s.length<=1000000000) (m:Int):ae P L 314 [.str s,aa m] (aa (kI s m)):=by
 have e1:=VL h.toRm hl;unfold ae at e1 ⊢;rw [ay h.aw2];unfold kI;by_cases h0:a6 s=0
 ·obtain ⟨h1,_⟩:=A6 h0;have e2:=Ul h.toRm (ki h0 (yr 2400)) (by omega);rw [<-h1] at e2;rw [h0] at e1;rw [yH h0];by_cases h2:cB (bf s).num<m
  ·rw [yH h2];simp only [go_sem,ya,Ku,e1,ym,e2,h2]
  ·rw [yA h2];simp only [go_sem,ya,Ku,e1,ym,e2,h2]
 ·rw [yA h0];simp only [go_sem,ya,Ku,e1,h0,yk]
def agu (h:S0 P L) {s:List Nat} (hl:s.length<=1000000000):ae P L 307 [.str s] (aa (kI s 0)):=by
 have e1:=agt h hl 0;unfold ae at e1 ⊢;rw [ay h.aw0];simp only [go_sem,ya,UQ,e1]
def PL (h:S0 P L) {x y:List Nat} (hx:x.length<=1000000000) (hy:y.length<=1000000000):ae P L 308 [qw x y] (aa (bn [a6 x,a6 y])):=by
 have e1:=auJ h.toRm h.VN (Fe true [x,y]) (by simp) (fun s hs=>by simp at hs;rcases hs with rfl | rfl<;>assumption)
 simp only [yC,yK,yd,yb,yV,wz] at e1;unfold ae at e1 ⊢;rw [ay h.aw1];simp only [go_sem,ya,yb,yt,yi,yh,UR,aK,aV,yd,bX,e1]
def aw7 (h:S0 P L) {x y s:List Nat} (hx:x.length<=1000000000) (hy:y.length<=1000000000) (hs:s.length<=1000000000):ae P L 306 [.agg [.str x,.str y,.str s]] (aa (bn [bn [a6 x,a6 y],kI s 0])):=by
 have e1:=PL h hx hy;have e2:=agu h hs;have e3:=W1 h.Cf (fy true [bn [a6 x,a6 y],kI s 0]) (by simp);simp only [yC,yK,yd,yb,yV,wz] at e3;unfold ae at e1 e2 ⊢;rw [ay h.awZ];simp only [go_sem,ya,yb,yt,yi,yh,UP,a8,aK,aV,yd,gF,e1,e2,show xg 2 [AV.str x,.str y,.str s]=[.str s] from rfl,e3]
def aw8 (h:Sr0 P L) {x y s:List Nat} (hx:x.length<9223372036854775808) (hy:y.length<9223372036854775808) (hs:s.length<9223372036854775808):ae P L 304 [.agg [.str x,.str y,.str s]] (.bool (iF [x,y,s])):=by
 have e1:=VM h.Ap (Fe true [x,y,s]) (by simp) (fun t ht=>by simp at ht;rcases ht with rfl | rfl | rfl<;>omega)
 simp only [yC,yK,yd,yb,yV,wz] at e1;unfold ae at e1 ⊢;rw [ay h.aw3];simp only [go_sem,ya,yb,yt,yi,yh,UO,aK,aV,yd,bX,show xg 2 [AV.str x,.str y,.str s]=[.str s] from rfl,e1]
def aw9 (h:Rp P L) (nF:Has P L 315 sI) {a b:Rat} {K M:Nat} (ka:Hq K a) (kb:Hq M b) (hK:K+M+1<=8000000000):ae P L 315 [.str (RT a),.str (RT b)] (aa (cB (a-b).num)):=by
 have e1:=DA h ka kb hK;have e2:=Ul h.toRm (ka.sub kb) hK;unfold ae at e1 e2 ⊢;rw [ay nF];simp only [go_sem,ya,sI,e1,e2]
def PM (h:Sr0 P L) {a b t c d:Rat} {K M J:Nat} (ka:Hq K a) (kb:Hq K b) (kt:Hq M t) (kc:Hq J c) (kd:Hq J d) (hK:K+M+J+1<=8000000000):ae P L 318 [nU a b,.str (RT t),nU c d] (nU (a+t*c) (b+t*d)):=by
 have e1:=z6 h.toRn kt kc (by omega);have e2:=Ow h.toRp ka (kt.mul kc) (by omega);have e3:=z6 h.toRn kt kd (by omega);have e4:=Ow h.toRp kb (kt.mul kd) (by omega);unfold ae at e1 e2 e3 e4 ⊢;rw [ay h.aw6];simp only [go_sem,ya,yb,yi,UT,aK,aV,yd,bX,e1,e2,e3,e4,dI];rfl
def agv (h:Sr0 P L) {t c d:Rat} {M J:Nat} (kt:Hq M t) (kc:Hq J c) (kd:Hq J d) (hK:M+J+3<=8000000000):ae P L 317 [.str (RT t),nU c d] (nU (t*c) (t*d)):=by
 have e1:=PM h PK PK kt kc kd (by omega);unfold nU at e1;rw [ybu,ybu,VO] at e1;unfold ae at e1 ⊢;rw [ay h.aw5];simp only [go_sem,ya,yb,yi,US,a8,aK,yd,gF,e1,bC,dI];rfl
end
end
section
open Go (IntKind)
def YC (q:Rat):q.num<0↔q<0:=by
 have h:=@Rat.num_nonneg q
 grind
def aqd (a b:Rat):cB (a-b).num=Ak a b:=by
 unfold cB Ak;by_cases h1:a<b
 ·rw [yH ((YC _).2 (by grind)),yH h1]
 ·rw [yA (fun e=>h1 (by have:=(YC _).1 e;grind)),yA h1]
  by_cases h2:a=b
  ·subst h2;rw [yH (by rw [Rat.sub_self];rfl),yH rfl]
  ·rw [yA (fun e=>h2 (by have:=yaF.1 e;grind)),yA h2]
def Nr (a b:Rat):Ak a b<0↔a<b:=by
 unfold Ak
 grind
abbrev jX (x y s:List Nat):AV:= .agg [.str x,.str y,.str s]
def Dp (hs h:Rat):Bool:=decide (hs=0)||decide (h<hs)
def fW (hs h:Rat):Rat:=if hs=0 then 1 else 1-h/hs
section
variable {P:aG} {L:Lib}
def axa (h:Rp P L) (pR:Has P L 309 rh) (nF:Has P L 315 sI) {x y:List Nat} {hs hh:Rat} {K M:Nat} (ks:Hq K hs) (kh:Hq M hh) (hK:K+M+1<=8000000000):ae P L 309 [jX x y (RT hs),.str (RT hh)] (.bool (Dp hs hh)):=by
 have e1:=aw9 h nF kh ks (by omega);have e0:=TH hs;rw [aqd] at e1;unfold ae at e1 ⊢;rw [ay pR];unfold Dp;by_cases h0:hs=0
 ·rw [xo h0] at e0;rw [xo h0];simp only [go_sem,ya,yb,rh,aK,aV,yd,show xg 2 [AV.str x,.str y,.str (RT hs)]=[.str (RT hs)] from rfl,j9,e0,uy]
 ·rw [yZ h0] at e0;rw [yZ h0];by_cases h1:hh<hs
  ·rw [xo h1]
   have:=(Nr hh hs).2 h1
   simp only [go_sem,ya,yb,rh,aK,aV,yd,show xg 2 [AV.str x,.str y,.str (RT hs)]=[.str (RT hs)] from rfl,j9,e0,e1,this,ym,wX]
  ·rw [yZ h1]
   have:¬Ak hh hs<0:=fun e=>h1 ((Nr hh hs).1 e)
   simp only [go_sem,ya,yb,rh,aK,aV,yd,show xg 2 [AV.str x,.str y,.str (RT hs)]=[.str (RT hs)] from rfl,j9,e0,e1,this,yk,wX]
def IM {hs hh:Rat} {K M:Nat} (ks:Hq K hs) (kh:Hq M hh):Hq (K+M+3) (fW hs hh):=by
 unfold fW
 split
 ·exact lD.mono (by omega)
 ·exact (lD.sub (kh.div ks)).mono (by omega)
def axb (h:Sr0 P L) {dx dy hs hh x y:Rat} {K:Nat} (ED:Hq K dx) (EE:Hq K dy) (ks:Hq K hs) (kh:Hq K hh) (kx:Hq K x) (ky:Hq K y) (hK:K<=100000000):
  ae P L 311 [jX (RT dx) (RT dy) (RT hs),.str (RT hh),nU x y] (nU (fW hs hh*x+hh*dx) (fW hs hh*y+hh*dy)):=by
 have EF:=IM ks kh;have e0:=TH hs;have e3:=agv h EF kx ky (by omega);have e4:=PM h (EF.mul kx) (EF.mul ky) kh ED EE (by omega);unfold ae at e3 e4 ⊢;rw [ay h.aw4];by_cases h0:hs=0
 ·rw [xo h0] at e0;have gl:fW hs hh=1:=by unfold fW;rw [yH h0]
  rw [gl] at e3 e4 ⊢;rw [PJ] at e3;simp only [go_sem,ya,yb,Pe,a8,aK,aV,yd,show xg 2 [AV.str (RT dx),.str (RT dy),.str (RT hs)]=[.str (RT hs)] from rfl,rX,e0,yJ,gF,e3,e4,bC,dI];rfl
 ·rw [yZ h0] at e0;have gl:fW hs hh=1-hh/hs:=by unfold fW;rw [yA h0]
  have e1:=afb h.toRx kh ks (by omega) h0;have e2:=DA h.toRp lD (kh.div ks) (by omega);rw [<-gl,PJ] at e2;simp only [go_sem,ya,yb,Pe,a8,aK,aV,yd,show xg 2 [AV.str (RT dx),.str (RT dy),.str (RT hs)]=[.str (RT hs)] from rfl,rX,e0,yI,e1,e2,gF,e3,e4,bC,dI];rfl
end
end
section
open Go (IntKind)
def oU (v:AV) (a b:Rat):Prop:=∃s1 w1 s2 w2 s3 w3 s4 w4,v= .agg [aa s1,w1,aa s2,w2,aa s3,w3,aa s4,w4]/\da s1 w1 a.num/\da s2 w2 (a.den:Int)/\da s3 w3 b.num/\da s4 w4 (b.den:Int)
section
variable {s1 s2 s3 s4:Int} {w1 w2 w3 w4:AV} {l1 l2 l3 l4:List Nat}
def Ox (h1:bJ w1 l1) (h2:bJ w2 l2) (h3:bJ w3 l3) (h4:bJ w4 l4) (hp:Hp) (ct id:Nat) (a b c d e f g h:AV):fE hp ct id 0 8 [.int .i64 s1,w1,.int .i64 s2,w2,.int .i64 s3,w3,.int .i64 s4,w4] (some (.cells true true true 8 [a,b,c,d,e,f,g,h]))=some (.au [],bg hp id (.cells true true true 8 [.int .i64 s1,w1,.int .i64 s2,w2,.int .i64 s3,w3,.int .i64 s4,w4]),ct):=by
 rw [mD (by rfl) (by simp) (by simp [bO,h1.one,h2.one,h3.one,h4.one,Fa])];simp [aH,h1.pu,h2.pu,h3.pu,h4.pu,over,Di]
def Oy (h1:bJ w1 l1) (h2:bJ w2 l2) (h3:bJ w3 l3) (h4:bJ w4 l4) (hp:Hp):result hp (.agg [aa s1,w1,aa s2,w2,aa s3,w3,aa s4,w4])=some (.agg [aa s1,w1,aa s2,w2,aa s3,w3,aa s4,w4]):=by
 rcases h1 with ⟨rfl,_⟩ | ⟨e,rfl⟩<;>rcases h2 with ⟨rfl,_⟩ | ⟨e',rfl⟩<;>rcases h3 with ⟨rfl,_⟩ | ⟨e,rfl⟩<;>rcases h4 with ⟨rfl,_⟩ | ⟨e',rfl⟩<;>rfl
def S6 {tm:Env} {a b c d x y z w:AV} {x' y' z' w':AV} {r:List (Nat×Nat×X)} (h1:bm a=true) (h2:bm b=true) (h3:bm c=true) (h4:bm d=true):fZ tm [x',y',z',w',x,y,z,w] 0 4 [a,b,c,d] r=fill tm [a,b,c,d,x,y,z,w] r:=by
 rw [jw (by rfl) (by simp) (by simp [bO,h1,h2,h3,h4])];rfl
def S7 {tm:Env} {a b c d x y z w:AV} {x' y' z' w':AV} {r:List (Nat×Nat×X)} (h1:bm a=true) (h2:bm b=true) (h3:bm c=true) (h4:bm d=true):fZ tm [x,y,z,w,x',y',z',w'] 4 4 [a,b,c,d] r=fill tm [x,y,z,w,a,b,c,d] r:=by
 rw [jw (by rfl) (by simp) (by simp [bO,h1,h2,h3,h4])];rfl
def aqe {tm:Env} {a b x y z:AV} {r:List (Nat×Nat×X)} (h1:bm a=true) (h2:bm b=true):fZ tm [x,y,z] 0 2 [a,b] r=fill tm [a,b,z] r:=by
 rw [jw (by rfl) (by simp) (by simp [bO,h1,h2])];rfl
def FY (a b c d e f g h:AV):fD 8 true [a,b,c,d,e,f,g,h]=some (.agg [a,b,c,d,e,f,g,h]):=rfl
def jH (a b c d:AV) (r:List AV):fD 4 true (a::b::c::d::r)=some (.agg [a,b,c,d]):=rfl
def jI (a b c:AV) (r:List AV):fD 3 true (a::b::c::r)=some (.agg [a,b,c]):=rfl
def CY (a b c d e f g h:AV):xg 4 [a,b,c,d,e,f,g,h]=[e,f,g,h]:=rfl
def NP (a b c:AV):xg 2 [a,b,c]=[c]:=rfl
end
structure Sp (P:aG) (L:Lib):Prop extends Ck P L where
 jV:Has P L 31 Cc
 oL:Has P L 33 Ln
 Xv:Has P L 53 WE
 Xw:Has P L 54 WG
 Xx:Has P L 60 WH
 Xy:Has P L 61 Lr
 PV:Has P L 63 Ls
 QP:Has P L 64 Qc
 h65:Has P L 65 c65
 Xz:Has P L 68 WI
 h75:Has P L 75 WO
 axc:Has P L 112 UF
 aBv:Has P L 113 afr
 aBw:Has P L 114 afs
section
variable {P:aG} {L:Lib}
def QU (h:Sp P L) {x y:List Nat} (hx:x.length<=1000000000) (hy:y.length<=1000000000):ae P L 53 [qw x y] (aa (bn [a6 x,a6 y])):=by
 have e1:=QR h.toCk hx;have e2:=QR h.toCk hy;have e3:=zk h.oL (fy true [a6 x,a6 y]) (by simp);simp only [yC,yK,yd,yb,yV,wz] at e3;unfold ae at e1 e2 ⊢;rw [ay h.Xv];simp only [go_sem,ya,yb,yt,yi,yh,WE,aK,aV,yd,bX,e1,e2,e3]
def Aq (h:Sp P L) {s:List Nat} (h0:a6 s=0):∃r,ae P L 62 [.str s] r/\cp r (bf s):=by
 obtain ⟨hR,_⟩:=A6 h0;have kr:=ki h0 (yr 2400);have hl:=FM kr;obtain ⟨r,e,hr⟩:=m62 h.toTx (a:=bf s) (by omega)
 grind
def XN (h:Sp P L) {s:List Nat} (hl:s.length<=1000000000) (m:Int):ae P L 61 [.str s,aa m] (aa (kI s m)):=by
 have e1:=QR h.toCk hl;unfold ae at e1 ⊢;rw [ay h.Xy];unfold kI;by_cases h0:a6 s=0
 ·obtain ⟨r,e2,hr⟩:=Aq h h0;have e3:=awc h.toFr' hr;obtain ⟨s1,w1,s2,w2,rfl,h1,h2⟩:=hr;obtain ⟨l1,u1⟩:=h1.aI;obtain ⟨l2,u2⟩:=h2.aI;rw [h0] at e1;rw [yH h0];have e4:=fun b=>qh h.jV b 3
  by_cases hm:cB (bf s).num<m
  ·rw [yH hm];have e5:=e4 true;simp only [xm] at e5;simp only [go_sem,ya,Lr,e1,ym,yJ,e2,bC,a8,u1.af,u2.af,e3,hm,e5]
  ·rw [yA hm];have e5:=e4 false;simp only [yF,xh] at e5;simp only [go_sem,ya,Lr,e1,ym,yJ,e2,bC,a8,u1.af,u2.af,e3,hm,yk,e5]
 ·rw [yA h0];simp only [go_sem,ya,Lr,e1,h0,yk,yI]
def m60 (h:Sp P L) {x y s:List Nat} (hx:x.length<=1000000000) (hy:y.length<=1000000000) (hs:s.length<=1000000000):ae P L 60 [jX x y s] (aa (bn [bn [a6 x,a6 y],kI s 0])):=by
 have e1:=QU h hx hy;have e2:=XN h hs 0;have e3:=zk h.oL (fy true [bn [a6 x,a6 y],kI s 0]) (by simp);simp only [yC,yK,yd,yb,yV,wz] at e3;unfold ae at e1 e2 ⊢;rw [ay h.Xx];simp only [go_sem,ya,yb,yt,yi,yh,WH,a8,aK,aV,yd,gF,e1,e2,NP,e3]
def auL (a b c d e f:List Nat):jz (.ag [2,2,2]) (jX a b c) (jX d e f)=some (cI a d&&(cI b e&&cI c f)):=by
 show dY [2,2,2] [.str a,.str b,.str c] [.str d,.str e,.str f]=_
 simp only [dY]
 grind
def Z2 (a:List Nat):cI a a=true:=NN rfl
def m68 (h:Sp P L) (x y s:List Nat):ae P L 68 [jX x y s] (.bool (cI s [48])):=by
 unfold ae;rw [ay h.Xz];simp only [go_sem,ya,yb,yi,WI,aK,aV,yd,gF,jI,aqe,auL,dZ,Z2,wI]
def QV (h:Sp P L) {x y:List Nat} (hx:a6 x=0) (hy:a6 y=0):∃r,ae P L 54 [qw x y] r/\oU r (bf x) (bf y):=by
 obtain ⟨p,e1,hp⟩:=Aq h hx;obtain ⟨q,e2,hq⟩:=Aq h hy;obtain ⟨s1,w1,s2,w2,rfl,h1,h2⟩:=hp;obtain ⟨s3,w3,s4,w4,rfl,h3,h4⟩:=hq;obtain ⟨l1,u1⟩:=h1.aI;obtain ⟨l2,u2⟩:=h2.aI;obtain ⟨l3,u3⟩:=h3.aI;obtain ⟨l4,u4⟩:=h4.aI;refine ⟨_,?_,s1,w1,s2,w2,s3,w3,s4,w4,rfl,h1,h2,h3,h4⟩;unfold ae at e1 e2 ⊢;rw [ay h.Xw];simp only [go_sem,ya,yb,WG,aK,aV,yd,bX,e1,e2,bC,u1.one,u2.one,u3.one,u4.one,S6,S7,Ox u1 u2 u3 u4,dA,dB,yg,FY,Oy u1 u2 u3 u4]
def QW (h:Sp P L) {v w:AV} {a b t:Rat} {K:Nat} (hv:oU v a b) (hw:cp w t) (ka:Hq K a) (kb:Hq K b) (kt:Hq K t) (hK:K<=10000000000):∃r,ae P L 75 [v,w] r/\oU r (a*t) (b*t):=by
 obtain ⟨s1,w1,s2,w2,s3,w3,s4,w4,rfl,h1,h2,h3,h4⟩:=hv;obtain ⟨p,e1,hp⟩:=AO h.toFr' ⟨s1,w1,s2,w2,rfl,h1,h2⟩ hw ka kt hK;obtain ⟨q,e2,hq⟩:=AO h.toFr' ⟨s3,w3,s4,w4,rfl,h3,h4⟩ hw kb kt hK;obtain ⟨s5,w5,s6,w6,rfl,h5,h6⟩:=hw;obtain ⟨x1,y1,x2,y2,rfl,g1,g2⟩:=hp;obtain ⟨x3,y3,x4,y4,rfl,g3,g4⟩:=hq;obtain ⟨l1,u1⟩:=h1.aI;obtain ⟨l2,u2⟩:=h2.aI;obtain ⟨l3,u3⟩:=h3.aI;obtain ⟨l4,u4⟩:=h4.aI;obtain ⟨l5,u5⟩:=h5.aI;obtain ⟨l6,u6⟩:=h6.aI;obtain ⟨m1,v1⟩:=g1.aI;obtain ⟨m2,v2⟩:=g2.aI;obtain ⟨m3,v3⟩:=g3.aI;obtain ⟨m4,v4⟩:=g4.aI;refine ⟨_,?_,x1,y1,x2,y2,x3,y3,x4,y4,rfl,g1,g2,g3,g4⟩;unfold ae at e1 e2 ⊢;rw [ay h.h75]
 simp only [go_sem,ya,yb,WO,aK,aV,yd,CY,jH,a8,u1.pu,u1.af,u1.one,u2.pu,u2.af,u2.one,u3.pu,u3.af,u3.one,u4.pu,u4.af,u4.one,u5.pu,u5.af,u5.one,u6.pu,u6.af,u6.one,v1.one,v2.one,v3.one,v4.one,e1,e2,bC,S6,S7,Ox v1 v2 v3 v4,dA,dB,yg,FY,Oy v1 v2 v3 v4]
def VP (h:Sp P L) {v w:AV} {a b c d:Rat} {K:Nat} (hv:oU v a b) (hw:oU w c d) (ka:Hq K a) (kb:Hq K b) (kc:Hq K c) (kd:Hq K d) (hK:K<=10000000000):∃r,ae P L 112 [v,w] r/\oU r (a+c) (b+d):=by
 obtain ⟨s1,w1,s2,w2,s3,w3,s4,w4,rfl,h1,h2,h3,h4⟩:=hv;obtain ⟨s5,w5,s6,w6,s7,w7,s8,w8,rfl,h5,h6,h7,h8⟩:=hw;obtain ⟨p,e1,hp⟩:=QJ h.toFr' ⟨s1,w1,s2,w2,rfl,h1,h2⟩ ⟨s5,w5,s6,w6,rfl,h5,h6⟩ ka kc hK;obtain ⟨q,e2,hq⟩:=QJ h.toFr' ⟨s3,w3,s4,w4,rfl,h3,h4⟩ ⟨s7,w7,s8,w8,rfl,h7,h8⟩ kb kd hK;obtain ⟨x1,y1,x2,y2,rfl,g1,g2⟩:=hp;obtain ⟨x3,y3,x4,y4,rfl,g3,g4⟩:=hq;obtain ⟨l1,u1⟩:=h1.aI;obtain ⟨l2,u2⟩:=h2.aI;obtain ⟨l3,u3⟩:=h3.aI;obtain ⟨l4,u4⟩:=h4.aI;obtain ⟨l5,u5⟩:=h5.aI;obtain ⟨l6,u6⟩:=h6.aI;obtain ⟨l7,u7⟩:=h7.aI;obtain ⟨l8,u8⟩:=h8.aI;obtain ⟨m1,v1⟩:=g1.aI;obtain ⟨m2,v2⟩:=g2.aI;obtain ⟨m3,v3⟩:=g3.aI;obtain ⟨m4,v4⟩:=g4.aI;refine ⟨_,?_,x1,y1,x2,y2,x3,y3,x4,y4,rfl,g1,g2,g3,g4⟩;unfold ae at e1 e2 ⊢;rw [ay h.axc]
 simp only [go_sem,ya,yb,UF,aK,aV,yd,CY,jH,a8,u1.pu,u1.af,u1.one,u2.pu,u2.af,u2.one,u3.pu,u3.af,u3.one,u4.pu,u4.af,u4.one,u5.pu,u5.af,u5.one,u6.pu,u6.af,u6.one,u7.pu,u7.af,u7.one,u8.pu,u8.af,u8.one,v1.one,v2.one,v3.one,v4.one,e1,e2,bC,S6,S7,Ox v1 v2 v3 v4,dA,dB,yg,FY,Oy v1 v2 v3 v4]
end
end
section
open Go (IntKind)
structure F4 (c1 c2 c3 c4:AV):Prop where
 af:∀(n:Nat) (hp:Hp),freeze (n+20) hp (.agg [c1,c2,c3,c4])=some (.agg [c1,c2,c3,c4],hp)
 dw:∀hp:Hp,result hp (.agg [c1,c2,c3,c4])=some (.agg [c1,c2,c3,c4])
 st:∀(hp:Hp) (ct id:Nat) (a b c d:AV),fE hp ct id 0 4 [c1,c2,c3,c4] (some (.cells true true true 4 [a,b,c,d]))=some (.au [],bg hp id (.cells true true true 4 [c1,c2,c3,c4]),ct)
 bx:∀ct:Nat,BN ct 4 [c1,c2,c3,c4]=some (.ptr ct 0,.cells true true true 4 [c1,c2,c3,c4])
 o1:bm c1=true
 o2:bm c2=true
 o3:bm c3=true
 o4:bm c4=true
 pu:aU (.agg [c1,c2,c3,c4])=true
 z1:∀(n:Nat) (hp:Hp),freeze (n+1) hp c1=some (c1,hp)
 z2:∀(n:Nat) (hp:Hp),freeze (n+1) hp c2=some (c2,hp)
 z3:∀(n:Nat) (hp:Hp),freeze (n+1) hp c3=some (c3,hp)
 z4:∀(n:Nat) (hp:Hp),freeze (n+1) hp c4=some (c4,hp)
structure F8 (c1 c2 c3 c4 c5 c6 c7 c8:AV):Prop where
 af:∀(n:Nat) (hp:Hp),freeze (n+20) hp (.agg [c1,c2,c3,c4,c5,c6,c7,c8])=some (.agg [c1,c2,c3,c4,c5,c6,c7,c8],hp)
 dw:∀hp:Hp,result hp (.agg [c1,c2,c3,c4,c5,c6,c7,c8])=some (.agg [c1,c2,c3,c4,c5,c6,c7,c8])
 st:∀(hp:Hp) (ct id:Nat) (a b c d e f g h:AV),fE hp ct id 0 8 [c1,c2,c3,c4,c5,c6,c7,c8] (some (.cells true true true 8 [a,b,c,d,e,f,g,h]))=some (.au [],bg hp id (.cells true true true 8 [c1,c2,c3,c4,c5,c6,c7,c8]),ct)
 bx:∀ct:Nat,BN ct 8 [c1,c2,c3,c4,c5,c6,c7,c8]=some (.ptr ct 0,.cells true true true 8 [c1,c2,c3,c4,c5,c6,c7,c8])
def cp.gen {v:AV} {a:Rat} (h:cp v a):∃c1 c2 c3 c4,v= .agg [c1,c2,c3,c4]/\F4 c1 c2 c3 c4:=by
 obtain ⟨s1,w1,s2,w2,rfl,h1,h2⟩:=h;obtain ⟨l1,u1⟩:=h1.aI;obtain ⟨l2,u2⟩:=h2.aI;refine ⟨_,_,_,_,rfl,fun n hp=>?_,lO u1 u2,fun hp ct id a b c d=>lj u1 u2 hp ct id a b c d,fun ct=>by simp only [go_sem,yb,aK,u1.pu,u1.one,u2.pu,u2.one],rfl,u1.one,rfl,u2.one,by simp [aU,aH,u1.pu,u2.pu],fun _ _=>rfl,fun n _=>u1.af n,fun _ _=>rfl,fun n _=>u2.af n⟩;exact a8 _ _ (by simp only [go_sem,u1.af,u2.af])
def oU.gen {v:AV} {a b:Rat} (h:oU v a b):∃c1 c2 c3 c4 c5 c6 c7 c8,v= .agg [c1,c2,c3,c4,c5,c6,c7,c8]/\F8 c1 c2 c3 c4 c5 c6 c7 c8:=by
 obtain ⟨s1,w1,s2,w2,s3,w3,s4,w4,rfl,h1,h2,h3,h4⟩:=h;obtain ⟨l1,u1⟩:=h1.aI;obtain ⟨l2,u2⟩:=h2.aI;obtain ⟨l3,u3⟩:=h3.aI;obtain ⟨l4,u4⟩:=h4.aI;refine ⟨_,_,_,_,_,_,_,_,rfl,fun n hp=>?_,Oy u1 u2 u3 u4,fun hp ct id a b c d e f g h=>Ox u1 u2 u3 u4 hp ct id a b c d e f g h,fun ct=>by simp only [go_sem,yb,aK,u1.pu,u1.one,u2.pu,u2.one,u3.pu,u3.one,u4.pu,u4.one]⟩;exact a8 _ _ (by simp only [go_sem,u1.af,u2.af,u3.af,u4.af])
def S8 {a b:Int}:bn [a,b]=0↔a=0/\b=0:=by
 simp only [bn]
 grind
noncomputable def Oz (x y s:List Nat):Int:=bn [bn [a6 x,a6 y],kI s 0]
def anN {x y s:List Nat} (h:Oz x y s=0):a6 x=0/\a6 y=0/\a6 s=0/\0<=cB (bf s).num:=by
 obtain ⟨h1,h2⟩:=S8.1 h;obtain ⟨h3,h4⟩:=S8.1 h1;obtain ⟨h5,h6⟩:=S5 h2
 grind
section
variable {P:aG} {L:Lib}
def nat_eq {s:List Nat} (h:a6 s=0):cI s [48]=decide (bf s=0):=by
 have:=TH (bf s)
 rwa [<-(A6 h).1] at this
def m63 (h:Sp P L) {x y s:List Nat} {w:AV} {hh:Rat} (hs:a6 s=0) (hw:cp w hh) {K:Nat} (kh:Hq K hh) (hK:K<=1000000000):ae P L 63 [jX x y s,w] (.bool (Dp (bf s) hh)):=by
 have e1:=m68 h x y s;rw [nat_eq hs] at e1;obtain ⟨r,e2,hr⟩:=Aq h hs;have e3:=m71 h.toFr' hw hr (kh.mono (show K<=K+2400 by omega)) ((ki hs (yr 2400)).mono (show 2400<=K+2400 by omega)) (by omega);obtain ⟨s1,w1,s2,w2,rfl,h1,h2⟩:=hw;obtain ⟨s3,w3,s4,w4,rfl,h3,h4⟩:=hr;obtain ⟨l1,u1⟩:=h1.aI;obtain ⟨l2,u2⟩:=h2.aI;obtain ⟨l3,u3⟩:=h3.aI;obtain ⟨l4,u4⟩:=h4.aI;unfold Dp;unfold ae at e1 e2 e3 ⊢;rw [ay h.PV];by_cases h0:bf s=0
 ·rw [xo h0] at e1 ⊢;simp only [go_sem,ya,yb,Ls,a8,aK,jI,u1.pu,u1.one,u2.pu,u2.one,e1,uy]
 ·rw [yZ h0] at e1 ⊢;by_cases hb:hh<bf s
  ·have:=(Nr _ _).2 hb
   rw [xo hb];simp only [go_sem,ya,yb,Ls,a8,aK,jI,u1.pu,u1.af,u1.one,u2.pu,u2.af,u2.one,u3.af,u4.af,e1,jH,aV,yd,NP,e2,bC,e3,this,ym,wX]
  ·have:¬Ak hh (bf s)<0:=fun e=>hb ((Nr _ _).1 e)
   rw [yZ hb];simp only [go_sem,ya,yb,Ls,a8,aK,jI,u1.pu,u1.af,u1.one,u2.pu,u2.af,u2.one,u3.af,u4.af,e1,jH,aV,yd,NP,e2,bC,e3,this,yk,ybn]
def m64 (h:Sp P L) {dx dy s x y:List Nat} {w:AV} {hh:Rat} (G5:a6 dx=0) (hdy:a6 dy=0) (hs:a6 s=0) (hx:a6 x=0) (hy:a6 y=0) (hw:cp w hh) {K:Nat} (kh:Hq K hh) (hK:K<=100000000):
  ∃r,ae P L 64 [jX dx dy s,w,qw x y] r/\oU r (fW (bf s) hh*bf x+hh*bf dx) (fW (bf s) hh*bf y+hh*bf dy):=by
 have e1:=m68 h dx dy s;rw [nat_eq hs] at e1;have kx:=(ki hx (yr 2400));have ky:=(ki hy (yr 2400));have ED:=(ki G5 (yr 2400));have EE:=(ki hdy (yr 2400));have ks:=(ki hs (yr 2400));obtain ⟨M,hM⟩:∃M,M=2*K+8000:=⟨_,rfl⟩;obtain ⟨p,e2,hp⟩:=QV h hx hy;obtain ⟨d,e3,hd⟩:=QV h G5 hdy;obtain ⟨d2,e4,fT⟩:=QW h hd hw (ED.mono (show 2400<=M by omega)) (EE.mono (by omega)) (kh.mono (by omega)) (by omega);have EF:=IM ks kh;have sum:∀{q:AV},oU q (fW (bf s) hh*bf x) (fW (bf s) hh*bf y)->∃r,ae P L 112 [q,d2] r/\oU r (fW (bf s) hh*bf x+hh*bf dx) (fW (bf s) hh*bf y+hh*bf dy):=fun {q} hq=>by
  obtain ⟨r,e,hr⟩:=VP h hq fT ((EF.mul kx).mono (show 2400+K+3+2400<=M by omega)) ((EF.mul ky).mono (by omega)) ((ED.mul kh).mono (by omega)) ((EE.mul kh).mono (by omega)) (by omega);rw [vM (bf dx),vM (bf dy)] at hr;exact ⟨r,e,hr⟩
 by_cases h0:bf s=0
 ·rw [xo h0] at e1;have gl:fW (bf s) hh=1:=by unfold fW;rw [yH h0]
  obtain ⟨r,e5,hr⟩:=sum (q:=p) (by rw [gl,ybo,ybo];exact hp)
  refine ⟨r,?_,hr⟩;obtain ⟨w1,w2,w3,w4,rfl,gw⟩:=hw.gen;obtain ⟨p1,p2,p3,p4,p5,p6,p7,p8,rfl,gp⟩:=hp.gen;obtain ⟨d1,d2',d3,d4,d5,d6,d7,d8,rfl,gd⟩:=hd.gen;obtain ⟨f1,f2,f3,f4,f5,f6,f7,f8,rfl,gf⟩:=fT.gen;obtain ⟨r1,r2,r3,r4,r5,r6,r7,r8,rfl,gr⟩:=hr.gen;unfold ae at e1 e2 e3 e4 e5 ⊢;rw [ay h.QP];simp only [go_sem,ya,yb,Qc,a8,aK,gF,jI,jH,FY,aV,yd,gw.bx,gw.af,gp.af,gd.af,gf.af,e1,e2,e3,e4,e5,yJ,bC,gp.st,gr.st,dA,dB,yg,gr.dw]
 ·rw [yZ h0] at e1;have gl:fW (bf s) hh=1-hh/bf s:=by unfold fW;rw [yA h0]
  obtain ⟨o,e6,ho⟩:=LW h.toFr' (z:=1) (by decide) (by decide);obtain ⟨f,e7,hf⟩:=Aq h hs;obtain ⟨g,e8,hg⟩:=m70 h.toFr' hw hf h0 (kh.mono (show K<=M by omega)) (ks.mono (by omega)) (by omega);have k1:Hq M ((1:Int):Rat):=lD.mono (by omega);obtain ⟨i,e9,hi⟩:=LX h.toFr' ho hg k1 ((kh.div ks).mono (by omega)) (by omega);rw [show ((1:Int):Rat)-hh/bf s=fW (bf s) hh from gl.symm] at hi;obtain ⟨q,eA,hq⟩:=QW h hp hi (kx.mono (show 2400<=M by omega)) (ky.mono (by omega)) (EF.mono (by omega)) (by omega);rw [vM (bf x),vM (bf y)] at hq;obtain ⟨r,e5,hr⟩:=sum hq;refine ⟨r,?_,hr⟩;obtain ⟨w1,w2,w3,w4,rfl,gw⟩:=hw.gen;obtain ⟨p1,p2,p3,p4,p5,p6,p7,p8,rfl,gp⟩:=hp.gen;obtain ⟨d1,d2',d3,d4,d5,d6,d7,d8,rfl,gd⟩:=hd.gen;obtain ⟨f1,f2,f3,f4,f5,f6,f7,f8,rfl,gf⟩:=fT.gen;obtain ⟨r1,r2,r3,r4,r5,r6,r7,r8,rfl,gr⟩:=hr.gen;obtain ⟨q1,q2,q3,q4,q5,q6,q7,q8,rfl,gq⟩:=hq.gen
  obtain ⟨o1,o2,o3,o4,rfl,go⟩:=ho.gen;obtain ⟨x1,x2,x3,x4,rfl,gx⟩:=hf.gen;obtain ⟨y1,y2,y3,y4,rfl,gy⟩:=hg.gen;obtain ⟨z1,z2,z3,z4,rfl,gz⟩:=hi.gen;unfold ae at e1 e2 e3 e4 e5 e6 e7 e8 e9 eA ⊢;rw [ay h.QP];simp only [go_sem,ya,yb,Qc,a8,aK,gF,jI,jH,FY,aV,yd,NP,gw.bx,gw.af,gp.af,gd.af,gf.af,go.af,gx.af,gy.af,gz.af,gq.af,e1,e2,e3,e4,e5,e6,e7,e8,e9,eA,yI,bC,gp.st,gq.st,gr.st,dA,dB,yg,gr.dw]
end
end
section
open Go (IntKind)
def QL:List AV->List Rat->Prop
 | [],[]=>True
 | a::b::c::d::r,x::l=>cp (.agg [a,b,c,d]) x/\QL r l
 | _,_=>False
def QL.nil:QL [] []:=trivial
def QL.cons {a b c d:AV} {r:List AV} {x:Rat} {l:List Rat} (h1:cp (.agg [a,b,c,d]) x) (h2:QL r l):QL (a::b::c::d::r) (x::l):=⟨h1,h2⟩
def QL.inv {cs:List AV} {x:Rat} {l:List Rat} (h:QL cs (x::l)):∃a b c d r,cs=a::b::c::d::r/\cp (.agg [a,b,c,d]) x/\QL r l:=by
 match cs,h with
 | a::b::c::d::r,h=>exact ⟨a,b,c,d,r,rfl,h.1,h.2⟩
def QL.KU {cs:List AV} (h:QL cs []):cs=[]:=by
 match cs,h with
 | [],_=>rfl
 | [_],h=>exact h.elim
 | [_,_],h=>exact h.elim
 | [_,_,_],h=>exact h.elim
 | _::_::_::_::_,h=>exact h.elim
def QL.len:∀{l:List Rat} {cs:List AV},QL cs l->cs.length=l.length*4
 | [],_,h=>by rw [h.KU];rfl
 | x::l,cs,h=>by
  obtain ⟨a,b,c,d,r,rfl,_,h2⟩:=h.inv
  have:=h2.len
  grind
def F4.EG {c1 c2 c3 c4:AV} (g:F4 c1 c2 c3 c4):aU c1=true/\aU c2=true/\aU c3=true/\aU c4=true:=by
 have:=g.pu
 simpa only [aU,aH,uj,Bool.and_eq_true] using this
def cp.f4 {a b c d:AV} {x:Rat} (h:cp (.agg [a,b,c,d]) x):F4 a b c d:=by
 obtain ⟨_,_,_,_,e,g⟩:=h.gen
 grind
def QL.pu:∀{l:List Rat} {cs:List AV},QL cs l->aH cs=true
 | [],_,h=>by rw [h.KU];rfl
 | x::l,cs,h=>by
  obtain ⟨a,b,c,d,r,rfl,h1,h2⟩:=h.inv;obtain ⟨p1,p2,p3,p4⟩:=h1.f4.EG;simp only [aH,p1,p2,p3,p4,h2.pu,wv]
def QL.one:∀{l:List Rat} {cs:List AV},QL cs l->bO cs=true
 | [],_,h=>by rw [h.KU];rfl
 | x::l,cs,h=>by
  obtain ⟨a,b,c,d,r,rfl,h1,h2⟩:=h.inv;have g:=h1.f4;simp only [bO,g.o1,g.o2,g.o3,g.o4,h2.one,wv]
def QL.cX:∀{l m:List Rat} {cs ds:List AV},QL cs l->QL ds m->QL (cs++ds) (l++m)
 | [],m,cs,ds,h,k=>by rw [h.KU];exact k
 | x::l,m,cs,ds,h,k=>by
  obtain ⟨a,b,c,d,r,rfl,h1,h2⟩:=h.inv;exact ⟨h1,h2.cX k⟩
def QL.snoc {l:List Rat} {x:Rat} {cs:List AV} {a b c d:AV} (h:QL cs l) (k:cp (.agg [a,b,c,d]) x):QL (cs++[a,b,c,d]) (l++[x]):=h.cX ⟨k,trivial⟩
def QL.get:∀{l:List Rat} {cs:List AV} {i:Nat},QL cs l->∀(hi:i<l.length),∃a b c d r,cs.drop (i*4)=a::b::c::d::r/\cp (.agg [a,b,c,d]) l[i]
 | [],_,i,_,hi=>absurd hi (Nat.not_lt_zero i)
 | x::l,cs,0,h,hi=>by
  obtain ⟨a,b,c,d,r,rfl,h1,_⟩:=h.inv
  grind
 | x::l,cs,i+1,h,hi=>by
  obtain ⟨a,b,c,d,r,rfl,_,h2⟩:=h.inv;obtain ⟨a',b',c',d',r',e,k⟩:=h2.get (i:=i) (by simpa using hi)
  grind
def il (v:AV) (l:List Rat):Prop:=(v= .ab/\l=[])\/∃e cs,v= .aJ e l.length cs/\QL cs l
section
variable {v:AV} {l:List Rat} {hp:Hp}
def il.len (h:il v l) {hp:Hp}:ia hp 1 v=some (.int .i64 (l.length:Nat)):=by
 rcases h with ⟨rfl,rfl⟩ | ⟨e,cs,rfl,h⟩<;>rfl
def il.pu (h:il v l):aU v=true:=by
 rcases h with ⟨rfl,rfl⟩ | ⟨e,cs,rfl,h⟩<;>rfl
def il.af (h:il v l) (n:Nat) {hp:Hp}:freeze (n+1) hp v=some (v,hp):=by
 rcases h with ⟨rfl,rfl⟩ | ⟨e,cs,rfl,h⟩<;>rfl
def il.shut (h:il v l):shut v=v:=by
 rcases h with ⟨rfl,rfl⟩ | ⟨e,cs,rfl,h⟩<;>rfl
def il.bG (h:il v l):bG v=v:=by
 rcases h with ⟨rfl,rfl⟩ | ⟨e,cs,rfl,h⟩<;>rfl
def il.dw (h:il v l) {hp:Hp}:result hp v=some v:=by
 rcases h with ⟨rfl,rfl⟩ | ⟨e,cs,rfl,h⟩<;>rfl
def il.one (h:il v l):bm v=true:=by
 rcases h with ⟨rfl,rfl⟩ | ⟨e,cs,rfl,h⟩<;>rfl
def il.cells (h:il v l):cellsOf v=[v]:=by
 rcases h with ⟨rfl,rfl⟩ | ⟨e,cs,rfl,h⟩<;>rfl
def il.aZ (h:il v l) {i:Nat} (hi:i<l.length):∃a b c d r,hZ 4 i v=some (.aQ (a::b::c::d::r))/\cp (.agg [a,b,c,d]) l[i]:=by
 rcases h with ⟨rfl,rfl⟩ | ⟨e,cs,rfl,h⟩
 ·grind
 ·obtain ⟨a,b,c,d,r,e1,e2⟩:=h.get hi;refine ⟨a,b,c,d,r,?_,e2⟩;rw [NG e _ hi,e1]
def anO {cs:List AV} (e:Bool) (h:QL cs l):il (.aJ e l.length cs) l:= .inr ⟨e,cs,rfl,h⟩
end
def asT {tm:Env} {a b c d x0 x1 x2 x3:AV} {r:List (Nat×Nat×X)} (h1:bm a=true) (h2:bm b=true) (h3:bm c=true) (h4:bm d=true):fZ tm [x0,x1,x2,x3] 0 4 [a,b,c,d] r=fill tm [a,b,c,d] r:=by
 rw [jw (by rfl) (by simp) (by simp [bO,h1,h2,h3,h4])];rfl
def OA (eQ pu ex:Bool) (a b c d:AV):LH 0 1 4 (some (.cells eQ pu ex 4 [a,b,c,d]))=some (1,[a,b,c,d]):=rfl
def VQ (hp:Hp) (cs:List AV):ic hp 4 true (.aQ cs)=fD 4 true cs:=rfl
end
section
open Go (IntKind)
section
variable {P:aG} {L:Lib}
def axd (BV:Has P L 150 Gb) {v:AV} {z:Int} (hv:cE v z) (h1: -9223372036854775808<z) (h2:z<9223372036854775808):ae P L 150 [v] (.au [aa z,.bool true]):=by
 obtain ⟨s,w,rfl,hn⟩:=hv;rcases hn with ⟨rfl,rfl,_,_⟩ | ⟨e,l,rfl,g,n,hb,hs,h3⟩
 ·unfold ae;rw [ay BV];simp only [go_sem,ya,yb,Gb,aK,aV,yd,bX,gR,dZ];rfl
 ·omega
def E5 {a:Rat} {K:Nat} (h:Hq K a) (hK:1<=K):Hq K ((a.floor:Int):Rat):=by
 refine ⟨?_,?_⟩
 ·exact h.1.le (by
   rw [wY,uY]
   exact Int.natAbs_ediv_le_natAbs _ _)
 ·rw [wZ];exact vv (by omega)
def Z3 (n:Int) {s:Int} (hs:0<s):((n:Rat)-(s:Rat)*(((n:Rat)/(s:Rat)).floor:Int))=((n%s:Int):Rat):=by
 have h1:(n:Rat)/(s:Rat)=wa n s:=(Rat.divInt_eq_div n s).symm;have h2:((n:Rat)/(s:Rat)).floor=n/s:=by
  rw [h1];obtain ⟨p1,p2⟩:=Mx (a:=n) hs;have hg:=I5 (a:=n) hs;rw [uY,p1,p2];have e1:=adn n s;have e2:=ado n s;show dd n s/dj n s=n/s
  have e3:=Int.mul_ediv_mul_of_pos (dd n s) (dj n s) hg
  grind
 rw [h2,Int.emod_def]
 grind
def agw (h:Fr' P L) (Gv:Has P L 103 J6) (BV:Has P L 150 Gb) {v:AV} {a:Rat} {s:Int} {K:Nat} (hv:cp v a) (ka:Hq K a) (Cw:100<=K) (hK:K<=1000000000) (kJ:0<s) (hs:s<1000000):
  ∃f,ae P L 103 [v,aa s] (.au [aa (a.floor%s),f])/\cp f (a-(a.floor:Int)):=by
 obtain ⟨p,e1,hp⟩:=af1 h hv ka (by omega);obtain ⟨w,e2,hw⟩:=KK h hp;obtain ⟨n,e3,hn⟩:=LW h (z:=s) (by omega) (by omega);have kf:=E5 ka (by omega);have Lb:s.natAbs<2^64:=by omega
 have ks:Hq K (s:Rat):=⟨by rw [wY];exact yP Lb (xD (by decide) (by omega)),by rw [wZ];exact vv (by omega)⟩
 have VR:(s:Rat)≠0:=fun e=>by
  have:=congrArg Rat.num e
  have:s=0:=this
  omega
 obtain ⟨d,e4,hd⟩:=m70 h hw hn VR kf ks (by omega);have kd:=kf.div ks;obtain ⟨g,e5,hg⟩:=af1 h hd kd (by omega);obtain ⟨gw,e6,hgw⟩:=KK h hg;have kg:=E5 kd (by omega);obtain ⟨mu,e7,hmu⟩:=AO h hn hgw (ks.mono (show K<=K+K by omega)) kg (by omega);obtain ⟨r,e8,hr⟩:=LX h hw hmu (kf.mono (show K<=K+(K+K) by omega)) (ks.mul kg) (by omega);rw [Z3 _ kJ] at hr;obtain ⟨f,e9,hf⟩:=LX h hv hw ka kf (by omega);have pP:=Int.emod_nonneg a.floor (show s≠0 by omega);have auM:=Int.emod_lt_of_pos a.floor kJ;refine ⟨f,?_,hf⟩;obtain ⟨v1,v2,v3,v4,rfl,gv⟩:=hv.gen;obtain ⟨w1,w2,w3,w4,rfl,gw'⟩:=hw.gen;obtain ⟨n1,n2,n3,n4,rfl,gn⟩:=hn.gen;obtain ⟨d1,d2,d3,d4,rfl,gd⟩:=hd.gen;obtain ⟨x1,x2,x3,x4,rfl,gx⟩:=hgw.gen;obtain ⟨y1,y2,y3,y4,rfl,gy⟩:=hmu.gen;obtain ⟨f1,f2,f3,f4,rfl,gf⟩:=hf.gen;obtain ⟨ps,pw,rfl,ap⟩:=hp;obtain ⟨gs,gw2,rfl,EA⟩:=hg;obtain ⟨lp,up⟩:=ap.aI;obtain ⟨lg,ug⟩:=EA.aI
 obtain ⟨r1,r2,r3,r4,B9,cw,ep⟩:=hr;subst B9;obtain ⟨l1,u1⟩:=cw.aI;obtain ⟨l2,u2⟩:=ep.aI;rw [wY] at cw;have AR:=axd (P:=P) (L:=L) BV ⟨r1,r2,rfl,cw⟩ (by omega) (by omega);unfold ae at e1 e2 e3 e4 e5 e6 e7 e8 e9 AR ⊢;rw [ay Gv];simp only [go_sem,ya,yb,J6,gv.bx,gv.af,gw'.af,gn.af,gd.af,gx.af,gy.af,a8,up.af,ug.af,u1.af,aK,aV,yd,jH,gF,e1,e2,e3,e4,e5,e6,e7,e8,e9,AR,bC,gw'.st,lj u1 u2,gf.st,dA,dB,yg];have axe:∀i:Int,Fi [aa i,AV.agg [f1,f2,f3,f4]]=some []:=fun i=>by
  simp only [Fi,gf.pu,Di,yz]
 have fF:∀(hp:Hp) (i:Int),zF deep hp [aa i,AV.agg [f1,f2,f3,f4]]=some ([aa i,AV.agg [f1,f2,f3,f4]],hp):=fun hp i=>by
  have e1:qU deep hp (aa i)=some (aa i,hp):=rfl;have e2:qU deep hp (.agg [f1,f2,f3,f4])=some (.agg [f1,f2,f3,f4],hp):=gf.af 980 hp;simp only [zF,e1,e2]
 simp only [result,axe,fF]
end
end
section
open Go (IntKind)
section
variable {P:aG} {L:Lib}
def S9 {hs hh x dx:Rat} {K:Nat} (ks:Hq K hs) (kh:Hq K hh) (kx:Hq K x) (kd:Hq K dx):Hq (5*K+10) (fW hs hh*x+hh*dx):=
 (((IM ks kh).mul kx).add (kh.mul kd)).mono (by omega)
end
end
end VE
