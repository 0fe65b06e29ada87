import Derived.Test.YtdipnpnbdogioaaGreatDoorTbr
import Derived.Test.YtdipnpnbdogioaaGreatDoorTbk
import Derived.Test.YtdipnpnbdogioaaGreatDoorTbl
set_option linter.all false
set_option maxRecDepth 100000
open Nat (reduceAdd reduceEqDiff)
section
namespace VE
open Go (IntKind)
theorem znp {n:Int} {d:Nat} (h:n<0):TT n d=45::TT (-n) d:=by
 have e:zS (-n)=zm n.natAbs:=by
  rw [←za9,if_neg (show ¬-n<0 by omega),List.nil_append,show (-n).natAbs=n.natAbs by omega]
 unfold TT;rw [zaV h,e];rfl
theorem zy0 {n:Int} {d:Nat} (h:¬n<0):∃b u,TT n d=b::u∧48≤b:=by
 obtain ⟨b,r,hb,h1,_⟩:=zee n.natAbs;refine ⟨b,r++(if d=1 then [] else 47::zm d),?_,h1⟩;unfold TT;rw [←za9,if_neg h,List.nil_append,hb];rfl
theorem za0 (a b:AV) (r:List AV):ld1 2 true (a::b::r)=some (.agg [a,b]):=rfl
theorem zzg (k:Nat):2^k≤1000000000^k:=Nat.pow_le_pow_left (by decide) k
theorem Bd.r {k:Nat} {z:Int} (h:Bd k z):z.natAbs<1000000000^k:=Nat.lt_of_lt_of_le h (zzg k)
theorem zo2 (r:Rat):RT r=TT r.num r.den:=rfl
theorem zq3 {n d:Int} (hd:0<d):RT (Rat.divInt n d)=zjt n d:=by
 obtain ⟨h1,h2⟩:=zfG (a:=n) hd;rw [zzz hd,zo2,h1]
 congr 1
 exact Int.ofNat.inj (show ((Rat.divInt n d).den:Int)=((zby n d).toNat:Int) by rw [h2];have:=zfX (a:=n) hd;unfold zby at this ⊢;omega)
structure Rn (P:zQ) (L:Lib):Prop extends Ra P L where
 h263:Has P L 263 c263
 h273:Has P L 273 zp6
 h284:Has P L 284 zFA
 h285:Has P L 285 zzY
 h286:Has P L 286 zz0
 h287:Has P L 287 zvW
 h301:Has P L 301 c301
structure Rx (P:zQ) (L:Lib):Prop extends Rn P L where
 h266:Has P L 266 zKI
 h269:Has P L 269 zJg
 h283:Has P L 283 zJ6
section
variable {P:zQ} {L:Lib}
theorem zBO (h:Rn P L) {v w:AV} {a b:List Int} (hv:IsI v a) (hw:IsI w b) (ha:dg a) (hb:dg b) (na:nz a) (nb:nz b) (la:a.length≤8000000000) (lb:b.length≤8000000000) (h0:0<dv b):
  ∃q r lq lr,zx P L 289 [v,w] (.tup [q,r])∧IsI q lq∧IsI r lr∧dg lq∧nz lq∧dg lr∧nz lr∧dv lq=dv a/dv b∧dv lr=dv a%dv b:=
 zCv h.h289 h.h293 h.h296 h.h299 h.h300 h.h301 hv hw ha hb na nb la lb h0
theorem zFv (h:Rn P L) {x y:AV} {a b:List Int} {n d:Int} {K:Nat} (hK:K≤8000000000) (hx:IsI x a) (ha:dg a) (na:nz a) (va:dv a=n.natAbs) (hy:IsI y b) (hb:dg b) (nb:nz b) (vb:dv b=d.natAbs) (kn:Bd K n) (kd:Bd K d) (hd:0<d) {tm:Env} (t2:zc tm 2= .ptr 0 0) (t3:zc tm 3= .ptr 1 0):
  zdc [.t 4] (D P L (zu (zu c280.body)) ⟨tm,[(1,.cells true true true 2 [.bool (decide (d<0)),y]),(0,.cells true true true 2 [.bool (decide (n<0)),x])],2,0⟩)=some (.str (RT (Rat.divInt n d))):=by
 rw [zq3 hd];have la:=Nat.le_trans (zbC ha na (by rw [va];exact kn.r)) hK
 have lb:=Nat.le_trans (zbC hb nb (by rw [vb];exact kd.r)) hK
 obtain ⟨g,lg,e1,hg,dg',ng,vg⟩:=zCf h.h275 h.h289 h.h293 h.h296 h.h299 h.h300 h.h301 hx hy ha hb na nb la lb;rw [va,vb,show Nat.gcd n.natAbs d.natAbs=Int.gcd n d from rfl] at vg;have hg0:=zhR (a:=n) hd;have hgle:Int.gcd n d≤d.natAbs:=Int.gcd_le_natAbs_right n (by omega);have lg1:lg.length≤8000000000:=Nat.le_trans (zbC dg' ng (by rw [vg];exact Nat.lt_of_le_of_lt hgle kd.r)) hK
 obtain ⟨p,p',lp,lp',e2,hp,hp',dp,np,dp',np',vp,vp'⟩:=zBO h hx hg ha dg' na ng la lg1 (by omega);obtain ⟨q,q',lq,lq',e3,hq,hq',dq,nq,dq',nq',vq,vq'⟩:=zBO h hy hg hb dg' nb ng lb lg1 (by omega);rw [va,vg] at vp;rw [vb,vg] at vq;have hrn:(zbw n d).natAbs=n.natAbs/Int.gcd n d:=by unfold zbw;rw [Int.natAbs_ediv_of_dvd (Int.gcd_dvd_left n d)];rfl
 have hrd:(zby n d).natAbs=d.natAbs/Int.gcd n d:=by unfold zby;rw [Int.natAbs_ediv_of_dvd (Int.gcd_dvd_right n d)];rfl
 have hdp:=zfX (a:=n) hd;rw [←hrn] at vp;rw [←hrd] at vq;have hnum:=zE6 n d;have hsg:zaS (decide (n<0)) (dv lp)=zbw n d:=by
  rw [vp];unfold zaS;by_cases h0:n<0
  ·have:¬0≤zbw n d:=fun h1=>by have:=Int.mul_nonneg (Int.le_of_lt hg0) h1;omega
   simp only [h0,decide_true,if_true];omega
  ·have:¬zbw n d<0:=fun h1=>by have:=Int.mul_neg_of_pos_of_neg hg0 h1;omega
   simp only [h0,decide_false,Bool.false_eq_true,if_false];omega
 have kn':Bd K (zbw n d):=kn.le (zn5 n d);have kd':Bd K (zby n d):=kd.le (zoV n d);have lp1:lp.length≤8000000000:=Nat.le_trans (zbC dp np (by rw [vp];exact kn'.r)) hK
 have lq1:lq.length≤8000000000:=Nat.le_trans (zbC dq nq (by rw [vq];exact kd'.r)) hK
 obtain ⟨s,e4,hs⟩:=znA h.h294 h.h300 (decide (n<0)) hp dp (by omega);rw [hsg] at hs;obtain ⟨e5,l5⟩:=zGi (K:=K) h.h282 h.h292 (by omega) hs kn'.r;obtain ⟨u,e6,hu⟩:=znA h.h294 h.h300 false hq dq (by omega);have hu2:zaS false (dv lq)=zby n d:=by rw [vq];unfold zaS;simp only [Bool.false_eq_true,if_false];omega
 rw [hu2] at hu;obtain ⟨e7,l7⟩:=zGi (K:=K) h.h282 h.h292 (by omega) hu kd'.r;obtain ⟨sw,sl,rfl,hsw,_,_,_⟩:=hs;obtain ⟨uw,ul,rfl,huw,_,_,_⟩:=hu;have hqpos:0<lq.length:=by
  rcases Nat.eq_zero_or_pos lq.length with e | e
  ·rw [List.eq_nil_of_length_eq_zero e] at vq;simp [dv] at vq;omega
  ·exact e
 unfold zx at e1 e2 e3 e4 e5 e6 e7;by_cases hql:lq.length=1
 ·obtain ⟨z,rfl⟩:∃z,lq=[z]:=by
   cases lq with
   | nil=>simp at hql
   | cons z r=>cases r with
    | nil=>exact ⟨z,rfl⟩
    | cons y r=>simp at hql
  have gz:=dg_one.1 dq;have hzd:z=zby n d:=by simp [dv] at vq;omega
  have e8:=hq.ixa (i:=0) (by simp);simp only [List.getElem_cons_zero] at e8;by_cases h1:zby n d=1
  ·have hT:zjt n d=zS (zbw n d):=by unfold zjt;rw [if_pos h1]
   rw [hT];simp only [go_sem,reduceEqDiff,c280,zu,t2,t3,hx.frz,hy.frz,zk,Nat.zero_add,zag,show ¬d<0 by omega,decide_false,e1,hg.frz,hg.shut,e2,hp.frz,hp.shut1,hp'.shut1,e3,hq.len,hq.shut1,hq'.shut1,e4,hsw.frz,zj,zo,e5,List.length_cons,List.length_nil,show ((1:Nat):Int)=(1:Int) from rfl,decide_true,e8,hzd,h1]
  ·have hT:zjt n d=(zS (zbw n d)++[47])++zS (zby n d):=by unfold zjt;rw [if_neg h1]
   rw [hT]
   simp only [go_sem,reduceEqDiff,c280,zu,t2,t3,hx.frz,hy.frz,zk,Nat.zero_add,zag,show ¬d<0 by omega,decide_false,e1,hg.frz,hg.shut,e2,hp.frz,hp.shut1,hp'.shut1,e3,hq.len,hq.frz,hq.shut1,hq'.shut1,e4,hsw.frz,zj,zo,e5,List.length_cons,List.length_nil,show ((1:Nat):Int)=(1:Int) from rfl,decide_true,e8,hzd,h1,zaF (a:=zS (zbw n d)) (b:=[47]) (by simp;omega),e6,huw.frz,e7,zaF (a:=zS (zbw n d)++[47]) (b:=zS (zby n d)) (by simp;omega)]
 ·have h1:¬zby n d=1:=fun h1=>hql (by
   have h2:lq.length≤1:=zrw dq nq (by rw [vq,h1];decide)
   omega)
  have hT:zjt n d=(zS (zbw n d)++[47])++zS (zby n d):=by unfold zjt;rw [if_neg h1]
  rw [hT]
  simp only [go_sem,reduceEqDiff,c280,zu,t2,t3,hx.frz,hy.frz,zk,Nat.zero_add,zag,show ¬d<0 by omega,decide_false,e1,hg.frz,hg.shut,e2,hp.frz,hp.shut1,hp'.shut1,e3,hq.len,hq.frz,hq.shut1,hq'.shut1,e4,hsw.frz,zj,zo,e5,show ¬(lq.length:Int)=1 by omega,zaF (a:=zS (zbw n d)) (b:=[47]) (by simp;omega),e6,huw.frz,e7,zaF (a:=zS (zbw n d)++[47]) (b:=zS (zby n d)) (by simp;omega)]
theorem zo9 (n d:Int):Rat.divInt (-n) (-d)=Rat.divInt n d:=by rw [Rat.divInt_neg',Int.neg_neg]
theorem zBm (h:Rn P L) {v w:AV} {n d:Int} {K:Nat} (hK:K≤8000000000) (hv:IsR v n) (hw:IsR w d) (kn:Bd K n) (kd:Bd K d) (hd:d≠0):zx P L 280 [v,w] (.str (RT (Rat.divInt n d))):=by
 have fin:∀{x y:AV} {a b:List Int} {n' d':Int},IsI x a→dg a→nz a→dv a=n'.natAbs→IsI y b→dg b→nz b→dv b=d'.natAbs→Bd K n'→Bd K d'→0<d'→Rat.divInt n' d'=Rat.divInt n d→∀tm,zc tm 2= .ptr 0 0→zc tm 3= .ptr 1 0→
   D P L (.seq (zaf c280.body) (zaf (zu c280.body))) ⟨[(0,v),(1,w)],[],0,0⟩=some (.normal,⟨tm,[(1,.cells true true true 2 [.bool (decide (d'<0)),y]),(0,.cells true true true 2 [.bool (decide (n'<0)),x])],2,0⟩)→zx P L 280 [v,w] (.str (RT (Rat.divInt n d))):=fun {x y a b n' d'} hx ha na va hy hb nb vb kn kd hd hq tm t2 t3 e=>by
  unfold zx;rw [zd h.h280];show zdc [.t 4] (D P L (.seq (zaf c280.body) (.seq (zaf (zu c280.body)) (zu (zu c280.body)))) ⟨[(0,v),(1,w)],[],0,0⟩)=_
  rw [zem,e,zas,←hq];exact zFv h hK hx ha na va hy hb nb vb kn kd hd t2 t3
 have hv':=hv;have hw':=hw;obtain ⟨x,a,rfl,hx,ha,na,va⟩:=hv;obtain ⟨y,b,rfl,hy,hb,nb,vb⟩:=hw;by_cases h0:d<0
 ·obtain ⟨r,e1,hr⟩:=zIe (K:=K) h.h298 h.h294 h.h300 (by omega) hv' kn.r;obtain ⟨s,e2,hs⟩:=zIe (K:=K) h.h298 h.h294 h.h300 (by omega) hw' kd.r;obtain ⟨x',a',rfl,hx',ha',na',va'⟩:=hr;obtain ⟨y',b',rfl,hy',hb',nb',vb'⟩:=hs;unfold zx at e1 e2;simp only [h0,decide_true] at e2
  refine fin hx' ha' na' va' hy' hb' nb' vb' kn.neg kd.neg (by omega) (zo9 n d) _ ?_ ?_ (by
   simp only [go_sem,reduceEqDiff,reduceAdd,c280,zaf,zu,zi,hx.pu,hx.frz,hx.one,hy.pu,hy.frz,hy.one,hx'.pu,hx'.one,hy'.pu,hy'.one,zk,Nat.zero_add,h0,decide_true,za0,zj,e1,e2,zo,zaH]<;>rfl)<;>simp only [go_sem,reduceEqDiff]
 ·refine fin hx ha na va hy hb nb vb kn kd (by omega) rfl _ ?_ ?_ (by simp only [go_sem,reduceEqDiff,reduceAdd,c280,zaf,zu,zi,hx.pu,hx.one,hy.pu,hy.one,zk,Nat.zero_add,h0,decide_false]<;>rfl)<;>simp only [go_sem,reduceEqDiff]
end
end VE
end
section
namespace VE
open Go (IntKind)
section
variable {P:zQ} {L:Lib}
theorem zeR {K:Nat} {a:Rat} (h:Hq K a):(RT a).length≤2*K+3:=by
 have h1:=zef h.1;have h2:=zef h.2;rw [za5] at h2;unfold RT
 split<;>simp<;>omega
theorem zjL {K:Nat} {z:Int} (h:Bd K z):(zm z.natAbs).length≤K+1:=by
 have:=zef (z:=(z.natAbs:Int)) (k:=K) (by unfold Bd at h ⊢;omega)
 rwa [za5] at this
theorem zrY (h:Rn P L) {a:Rat} {K:Nat} (ka:Hq K a) (hK:K≤8000000000):∃x y,zx P L 274 [.str (RT a)] (.tup [x,y])∧IsR x a.num∧IsR y (a.den:Int):=by
 have h1:=zjL ka.1;have h2:=zjL ka.2
 exact zGI h.toRa (n:=a.num) (d:=a.den) (by omega) (by simpa using (by omega:(zm ((a.den:Int)).natAbs).length≤144000000000))
theorem zCg (h:Rn P L) {n:Int} {d:Nat} (hl:(TT n d).length≤100000000000) (h00:n=0→d=1):zx P L 262 [.str (TT n d)] (zh (sgn n)):=by
 unfold zx;rw [zd h.h262];by_cases h0:n<0
 ·have hne:=zBU (n:=n) (d:=d) (by omega);rw [znp h0] at hne ⊢;simp only [go_sem,reduceEqDiff,zw5,zbq,hne,show (0:Int)<(((TT (-n) d).length+1:Nat):Int) by omega,zpF,decide_true];unfold sgn;rw [if_pos h0]
 ·by_cases h1:n=0
  ·subst h1
   have:=h00 rfl
   subst this;rw [show TT 0 1=[48] by decide];simp only [go_sem,reduceEqDiff,zw5,zbq,show eqL [48] [48]=true from rfl];rfl
  ·have hne:=zBU (n:=n) (d:=d) h1;obtain ⟨b,u,hb,hb1⟩:=zy0 (d:=d) h0;rw [hb] at hne ⊢;simp only [go_sem,reduceEqDiff,zw5,zbq,hne,show (0:Int)<((u.length+1:Nat):Int) by omega,show zeB 0 (.str (b::u))=some (.int .u8 (b:Nat)) from rfl,show ¬((b:Nat):Int)=45 by omega];unfold sgn;rw [if_neg h0,if_neg h1]
theorem zhP {a:Rat} (h:a.num=0):a.den=1:=by
 have:a=0:=Rat.num_eq_zero.1 h
 rw [this];rfl
theorem zCE (h:Rn P L) {a:Rat} {K:Nat} (ka:Hq K a) (hK:K≤8000000000):zx P L 262 [.str (RT a)] (zh (sgn a.num)):=
 zCg h (by have:=zeR ka;rw [zo2] at this;omega) zhP
theorem zHJ (h:Rn P L) {a:Rat} {K:Nat} (ka:Hq K a) (hK:K≤8000000000):zx P L 268 [.str (RT a)] (.str (RT (-a))):=by
 have e:=zCE h ka hK;have hl:=zeR ka;have en:(-a).num= -a.num:=rfl;have ed:(-a).den=a.den:=rfl;rw [zo2] at hl e ⊢;rw [zo2,en,ed];have hz:=zhP (a:=a);generalize a.num=n at*
 generalize a.den=d at*
 unfold zx at e ⊢;rw [zd h.h268];by_cases h0:n<0
 ·have es:sgn n= -1:=by unfold sgn;rw [if_pos h0]
  rw [es,znp h0] at e;rw [znp h0] at hl ⊢;have hc:zeu (45::TT (-n) d) (some 1) (some ((TT (-n) d).length+1))=some (.str (TT (-n) d)):=by rw [zbs (s:=45::TT (-n) d) (l:=1) (h:=(TT (-n) d).length+1) (by omega) (by simp)];simp
  simp only [go_sem,reduceEqDiff,zxl,e,show (-1:Int)<0 by decide,zaj,zaq,zaa,hc]
 ·by_cases h1:n=0
  ·subst h1;have es:sgn 0=0:=rfl;rw [es] at e;simp only [go_sem,reduceEqDiff,zxl,e,show ¬(0:Int)<0 by decide,decide_true,Int.neg_zero]
  ·have es:sgn n=1:=by unfold sgn;rw [if_neg h0,if_neg h1]
   rw [es] at e
   have:TT (-n) d=45::TT n d:=by rw [znp (by omega),Int.neg_neg]
   rw [this]
   simp only [go_sem,reduceEqDiff,zxl,e,show ¬(1:Int)<0 by decide,show ¬(1:Int)=0 by decide,zaF (a:=[45]) (b:=TT n d) (by simp;omega),List.cons_append,List.nil_append]
end
end VE
end
section
namespace VE
open Go (IntKind)
theorem zrV (n:Int) (d:Nat):zpV true n d= .tup [zh n,zh d,.bool true]:=rfl
theorem zoO {a b:Int} (ha:a.natAbs<1000000000) (hb:b.natAbs<1000000000):(a*b).natAbs<1000000000000000000:=by
 rw [Int.natAbs_mul];exact Nat.lt_of_lt_of_le (Nat.mul_lt_mul'' ha hb) (by decide)
section
variable {P:zQ} {L:Lib}
theorem zye (h:Rn P L) {a b:Int} (ha: -4000000000000000000≤a∧a≤4000000000000000000) (hb:0<b∧b≤4000000000000000000):zx P L 277 [zh a,zh b] (.str (RT (Rat.divInt a b))):=by
 rw [zq3 hb.1];exact zJF h.h277 h.h291 h.h292 ha hb
theorem zrA (h:Rn P L) {a:Rat} {K:Nat} (ka:Hq K a) (hK:K≤8000000000):∃q:Bool,zx P L 276 [.str (RT a)] (zpV q a.num a.den)∧(q=true→a.num.natAbs<1000000000∧a.den<1000000000):=
 zI8 h.h276 h.h272 h.h290 (n:=a.num) (d:=a.den) (by have:=zeR ka;rw [zo2] at this;omega)
theorem zl0 (h:Rn P L) {a b:Rat} {K M:Nat} (ka:Hq K a) (kb:Hq M b) (hK:K+M≤8000000000):zx P L 267 [.str (RT a),.str (RT b)] (.str (RT (a*b))):=by
 obtain ⟨q1,e1,b1⟩:=zrA h ka (by omega);obtain ⟨q2,e2,b2⟩:=zrA h kb (by omega);have hden:=zcO a b;by_cases hq:(q1=true∧q2=true)
 ·obtain ⟨rfl,rfl⟩:=hq;obtain ⟨b11,b12⟩:=b1 rfl;obtain ⟨b21,b22⟩:=b2 rfl;have p1:=zoO b11 b21;have p2:=zoO (a:=(a.den:Int)) (b:=(b.den:Int)) (by omega) (by omega);have e3:=zye h (a:=a.num*b.num) (b:=(a.den:Int)*b.den) (by omega) (by omega);rw [←znb] at e3;rw [zrV] at e1 e2;unfold zx at e1 e2 e3 ⊢;rw [zd h.h267]
  simp only [go_sem,reduceEqDiff,zw4,e1,e2,zf (n:=a.num*b.num) (by omega) (by omega),zf (n:=(a.den:Int)*(b.den:Int)) (by omega) (by omega),e3]
 ·have hq':∃n1 d1 n2 d2,zp P L (D P L) 276 [.str (RT a)]=some (.tup [zh n1,zh d1,.bool q1])∧zp P L (D P L) 276 [.str (RT b)]=some (.tup [zh n2,zh d2,.bool q2]):=by
   unfold zx at e1 e2;cases q1<;>cases q2<;>exact ⟨_,_,_,_,e1,e2⟩
  obtain ⟨n1,d1,n2,d2,e1,e2⟩:=hq';obtain ⟨x,y,e3,hx,hy⟩:=zrY h ka (by omega);obtain ⟨z,w,e4,hz,hw⟩:=zrY h kb (by omega);have kmax:max K M≤8000000000:=by omega
  obtain ⟨r,e5,hr⟩:=zul (K:=max K M) h.h278 h.h293 h.h294 h.h300 kmax hx hz (ka.1.mono (by omega)).r (kb.1.mono (by omega)).r;obtain ⟨s,e6,hs⟩:=zul (K:=max K M) h.h278 h.h293 h.h294 h.h300 kmax hy hw (ka.2.mono (by omega)).r (kb.2.mono (by omega)).r;have e7:=zBm h hK hr hs (ka.1.mul kb.1) (ka.2.mul kb.2) (by omega);rw [←znb] at e7;obtain ⟨xw,xl,rfl,hxw,_,_,_⟩:=hx;obtain ⟨yw,yl,rfl,hyw,_,_,_⟩:=hy;obtain ⟨zw,zl,rfl,hzw,_,_,_⟩:=hz;obtain ⟨ww,wl,rfl,hww,_,_,_⟩:=hw;obtain ⟨rw',rl,rfl,hrw,_,_,_⟩:=hr;obtain ⟨sw,sl,rfl,hsw,_,_,_⟩:=hs;have hb:¬(q1=true∧q2=true):=hq;unfold zx at e3 e4 e5 e6 e7 ⊢;rw [zd h.h267]
  cases q1 with
  | false=>
   simp only [go_sem,reduceEqDiff,reduceAdd,zw4,zi,e1,e2,e3,e4,hxw.pu,hxw.frz,hxw.one,hyw.pu,hyw.frz,hyw.one,hzw.pu,hzw.frz,hzw.one,hww.pu,hww.frz,hww.one,hrw.frz,hsw.frz,zj,zo,zcl,zaH,za0,e5,e6,e7]
  | true=>
   cases q2 with
   | true=>exact absurd ⟨rfl,rfl⟩ hb
   | false=>
    simp only [go_sem,reduceEqDiff,reduceAdd,zw4,zi,e1,e2,e3,e4,hxw.pu,hxw.frz,hxw.one,hyw.pu,hyw.frz,hyw.one,hzw.pu,hzw.frz,hzw.one,hww.pu,hww.frz,hww.one,hrw.frz,hsw.frz,zj,zo,zcl,zaH,za0,e5,e6,e7]
theorem zxP (h:Rn P L) {a b:Rat} {K M:Nat} (ka:Hq K a) (kb:Hq M b) (hK:K+M+1≤8000000000):zx P L 264 [.str (RT a),.str (RT b)] (.str (RT (a+b))):=by
 obtain ⟨q1,e1,b1⟩:=zrA h ka (by omega);obtain ⟨q2,e2,b2⟩:=zrA h kb (by omega);have hden:=zcO a b;by_cases hq:(q1=true∧q2=true)
 ·obtain ⟨rfl,rfl⟩:=hq;obtain ⟨b11,b12⟩:=b1 rfl;obtain ⟨b21,b22⟩:=b2 rfl;have p1:=zoO (a:=a.num) (b:=(b.den:Int)) (by omega) (by omega);have p2:=zoO (a:=b.num) (b:=(a.den:Int)) (by omega) (by omega);have p3:=zoO (a:=(a.den:Int)) (b:=(b.den:Int)) (by omega) (by omega);have e3:=zye h (a:=a.num*b.den+b.num*a.den) (b:=(a.den:Int)*b.den) (by omega) (by omega);rw [←zno] at e3;rw [zrV] at e1 e2;unfold zx at e1 e2 e3 ⊢;rw [zd h.h264]
  simp only [go_sem,reduceEqDiff,zuW,e1,e2,zf (n:=a.num*(b.den:Int)) (by omega) (by omega),zf (n:=b.num*(a.den:Int)) (by omega) (by omega),zf (n:=a.num*(b.den:Int)+b.num*(a.den:Int)) (by omega) (by omega),zf (n:=(a.den:Int)*(b.den:Int)) (by omega) (by omega),e3]
 ·have hq':∃n1 d1 n2 d2,zp P L (D P L) 276 [.str (RT a)]=some (.tup [zh n1,zh d1,.bool q1])∧zp P L (D P L) 276 [.str (RT b)]=some (.tup [zh n2,zh d2,.bool q2]):=by
   unfold zx at e1 e2;cases q1<;>cases q2<;>exact ⟨_,_,_,_,e1,e2⟩
  obtain ⟨n1,d1,n2,d2,e1,e2⟩:=hq';obtain ⟨x,y,e3,hx,hy⟩:=zrY h ka (by omega);obtain ⟨z,w,e4,hz,hw⟩:=zrY h kb (by omega);have kmax:max K M≤8000000000:=by omega
  obtain ⟨r,e5,hr⟩:=zul (K:=max K M) h.h278 h.h293 h.h294 h.h300 kmax hx hw (ka.1.mono (by omega)).r (kb.2.mono (by omega)).r;obtain ⟨r2,e52,hr2⟩:=zul (K:=max K M) h.h278 h.h293 h.h294 h.h300 kmax hz hy (kb.1.mono (by omega)).r (ka.2.mono (by omega)).r;obtain ⟨s,e6,hs⟩:=zul (K:=max K M) h.h278 h.h293 h.h294 h.h300 kmax hy hw (ka.2.mono (by omega)).r (kb.2.mono (by omega)).r;have k1:Bd (K+M) (a.num*b.den):=ka.1.mul kb.2;have k2:Bd (K+M) (b.num*a.den):=(kb.1.mul ka.2).mono (by omega);obtain ⟨t,e8,ht⟩:=zKo (K:=K+M) h.h279 h.h295 h.h296 h.h297 h.h302 h.h294 h.h300 (by omega) hr hr2 k1.r k2.r;have e7:=zBm h hK ht hs (k1.add2 k2) ((ka.2.mul kb.2).mono (by omega)) (by omega);rw [←zno] at e7;obtain ⟨xw,xl,rfl,hxw,_,_,_⟩:=hx;obtain ⟨yw,yl,rfl,hyw,_,_,_⟩:=hy;obtain ⟨zw,zl,rfl,hzw,_,_,_⟩:=hz;obtain ⟨ww,wl,rfl,hww,_,_,_⟩:=hw;obtain ⟨rw',rl,rfl,hrw,_,_,_⟩:=hr
  obtain ⟨rw2,rl2,rfl,hrw2,_,_,_⟩:=hr2;obtain ⟨tw,tl,rfl,htw,_,_,_⟩:=ht;obtain ⟨sw,sl,rfl,hsw,_,_,_⟩:=hs;have hb:¬(q1=true∧q2=true):=hq;unfold zx at e3 e4 e5 e52 e6 e7 e8 ⊢;rw [zd h.h264]
  cases q1 with
  | false=>
   simp only [go_sem,reduceEqDiff,reduceAdd,zuW,zi,e1,e2,e3,e4,hxw.pu,hxw.frz,hxw.one,hyw.pu,hyw.frz,hyw.one,hzw.pu,hzw.frz,hzw.one,hww.pu,hww.frz,hww.one,hrw.frz,hrw2.frz,htw.frz,hsw.frz,zj,zo,zcl,zaH,za0,e5,e52,e8,e6,e7]
  | true=>
   cases q2 with
   | true=>exact absurd ⟨rfl,rfl⟩ hb
   | false=>
    simp only [go_sem,reduceEqDiff,reduceAdd,zuW,zi,e1,e2,e3,e4,hxw.pu,hxw.frz,hxw.one,hyw.pu,hyw.frz,hyw.one,hzw.pu,hzw.frz,hzw.one,hww.pu,hww.frz,hww.one,hrw.frz,hrw2.frz,htw.frz,hsw.frz,zj,zo,zcl,zaH,za0,e5,e52,e8,e6,e7]
theorem zjk (h:Rn P L) {a b:Rat} {K M:Nat} (ka:Hq K a) (kb:Hq M b) (hK:K+M+1≤8000000000):zx P L 271 [.str (RT a),.str (RT b)] (.str (RT (a-b))):=by
 have e1:=zHJ h kb (by omega);have e2:=zxP h ka kb.neg hK;rw [←Rat.sub_eq_add_neg] at e2;unfold zx at e1 e2 ⊢;rw [zd h.h271];simp only [go_sem,reduceEqDiff,zED,e1,e2]
end
end VE
end
section
namespace VE
open Go (IntKind)
def zbD (p:List Nat):Bool:=zbp p&&(match p with | []=>false | b::r=> !(Nat.beq b 48)||r.isEmpty)
def zcD (p:List Nat):Nat:=(za7 p 0).getD 0
def zgR (neg:Bool) (t:List Nat):Int:=
 if zbD (t.take (zP t))=false∨(neg=true∧t.take (zP t)=[48]) then 1
 else if zP t<t.length∧(zbD (t.drop (zP t+1))=false∨t.drop (zP t+1)=[48]∨t.drop (zP t+1)=[49]) then 1
 else if 600<zP t∨600<t.length-zP t-1 then 4
 else if zP t<t.length∧Nat.gcd (zcD (t.take (zP t))) (zcD (t.drop (zP t+1)))≠1 then 1
 else 0
def chk:List Nat→Int
 | []=>zgR false []
 | b::t=>if b=45 then zgR true t else zgR false (b::t)
theorem zoI:∀{p:List Nat} (a:Nat),zbp p=true→∃n,za7 p a=some n
 | [],a,_=>⟨a,rfl⟩
 | b::r,a,h=>by
  have h':=h;simp only [zbp,Bool.and_eq_true] at h';obtain ⟨n,hn⟩:=zoI (p:=r) (10*a+(b-48)) h'.2;exact ⟨n,by simp only [za7,h'.1.1,h'.1.2,Bool.and_self,cond_true];exact hn⟩
theorem zec:∀(k:Nat) {p:List Nat},p.length=k→zbD p=true→zm (zcD p)=p:=by
 intro k
 induction k with
 | zero=>intro p hl h;rw [List.eq_nil_of_length_eq_zero hl] at h;simp [zbD] at h
 | succ k ih=>
  intro p hl h;rcases zpm p with rfl | ⟨m,a,rfl⟩
  ·simp at hl
  ·simp only [zbD,Bool.and_eq_true,zeG] at h;obtain ⟨⟨h1,h2⟩,h3⟩:=h;simp only [zbp,Bool.and_eq_true] at h2;have ha1:=Nat.le_of_ble_eq_true h2.1.1;have ha2:=Nat.le_of_ble_eq_true h2.1.2;obtain ⟨n,hn⟩:=zoI 0 h1;have hv:zcD (m++[a])=10*n+(a-48):=by
    unfold zcD;rw [zfW,hn];simp only [Option.bind_some,za7,h2.1.1,h2.1.2,Bool.and_self,cond_true,Option.getD_some]
   cases m with
   | nil=>
    have:n=0:=by simpa [za7] using hn.symm
    subst this;rw [hv,zaZ (by omega)]
    simp;omega
   | cons b r=>
    have hd:zbD (b::r)=true:=by
     simp only [zbD,h1,Bool.true_and];simp at h3
     cases r with
     | nil=>simp
     | cons c r=>simp at h3 ⊢;exact h3
    have hm:=ih (p:=b::r) (by simpa using hl) hd;have hnv:zcD (b::r)=n:=by unfold zcD;rw [hn];rfl
    rw [hnv] at hm;have hn0:n≠0:=fun e=>by
     subst e;rw [zaZ (by omega)] at hm;simp only [Nat.add_zero,List.cons.injEq] at hm;obtain ⟨rfl,rfl⟩:=hm;simp at h3
    rw [hv,zbQ (by omega),show (10*n+(a-48))/10=n by omega,show 48+(10*n+(a-48))%10=a by omega,hm]
theorem zgE (t:List Nat):zP t<t.length→t=t.take (zP t)++47::t.drop (zP t+1):=by
 induction t with
 | nil=>simp
 | cons b r ih=>
  intro h;simp only [zP] at h ⊢;by_cases hb:b=47
  ·subst hb;simp
  ·rw [if_neg hb] at h ⊢
   have:=ih (by simpa using h)
   simp only [List.take_succ_cons,List.drop_succ_cons,List.cons_append];rw [←this]
theorem zmx {n:Int} {d:Nat} (hd:0<d) (hg:Nat.gcd n.natAbs d=1):∃r:Rat,r.num=n∧r.den=d:=⟨⟨n,d,by omega,hg⟩,rfl,rfl⟩
theorem zx8 {s:List Nat} (h:chk s=0):∃r:Rat,s=RT r∧(zm r.num.natAbs).length≤600∧(zm r.den).length≤600:=by
 have key:∀(neg:Bool) (t:List Nat),zgR neg t=0→∃r:Rat,(if neg=true then [45] else [])++t=RT r∧(zm r.num.natAbs).length≤600∧(zm r.den).length≤600:=by
  intro neg t h;unfold zgR at h
  split at h
  ·exact absurd h (by decide)
  rename_i h1
  split at h
  ·exact absurd h (by decide)
  rename_i h2
  split at h
  ·exact absurd h (by decide)
  rename_i h3
  split at h
  ·exact absurd h (by decide)
  rename_i h4;have hle:=zea t;have hp:zbD (t.take (zP t))=true:=by
   cases hb:zbD (t.take (zP t)) with
   | true=>rfl
   | false=>exact absurd (.inl hb) h1
  have hpS:=zec _ rfl hp;generalize hn:zcD (t.take (zP t))=n at*
  have hneg0:neg=true→n≠0:=fun hh e=>by
   subst e;exact h1 (.inr ⟨hh,by rw [←hpS];rfl⟩)
  have hint:(if neg=true then [45] else [])++zm n=zS (if neg=true then -(n:Int) else n):=by
   cases neg with
   | true=>
    have:=hneg0 rfl
    simp only [if_true];rw [zaV (by omega)]
    simp
   | false=>simp [za5]
  have habs:(if neg=true then -(n:Int) else n).natAbs=n:=by split<;>omega
  have hln:(zm n).length≤600:=by rw [hpS,List.length_take];omega
  by_cases hs:zP t<t.length
  ·have hq:zbD (t.drop (zP t+1))=true:=by
    cases hb:zbD (t.drop (zP t+1)) with
    | true=>rfl
    | false=>exact absurd ⟨hs,.inl hb⟩ h2
   have hqS:=zec _ rfl hq;have hg:Nat.gcd n (zcD (t.drop (zP t+1)))=1:=by
    by_cases hg:Nat.gcd n (zcD (t.drop (zP t+1)))=1
    ·exact hg
    ·exact absurd ⟨hs,hg⟩ h4
   have hsplit:=zgE t hs;have hlq:(t.drop (zP t+1)).length≤600:=by rw [List.length_drop];omega
   rw [←hqS] at hsplit hlq;have hd0:zcD (t.drop (zP t+1))≠0:=fun e=>by
    rw [e] at hqS;exact h2 ⟨hs,.inr (.inl (by rw [←hqS];rfl))⟩
   have hd1:zcD (t.drop (zP t+1))≠1:=fun e=>by
    rw [e] at hqS;exact h2 ⟨hs,.inr (.inr (by rw [←hqS];rfl))⟩
   generalize zcD (t.drop (zP t+1))=d at*
   obtain ⟨r,hr1,hr2⟩:=zmx (n:=if neg=true then -(n:Int) else n) (d:=d) (by omega) (by rw [habs];exact hg)
   refine ⟨r,?_,by rw [hr1,habs];exact hln,by rw [hr2];exact hlq⟩
   unfold RT;rw [hr1,hr2,if_neg hd1,←hint,List.append_assoc]
   congr 1
   rw [hpS];exact hsplit
  ·have ht:t.take (zP t)=t:=List.take_of_length_le (by omega);rw [ht] at hpS;obtain ⟨r,hr1,hr2⟩:=zmx (n:=if neg=true then -(n:Int) else n) (d:=1) (by omega) (Nat.gcd_one_right _);refine ⟨r,?_,by rw [hr1,habs];exact hln,by rw [hr2];decide⟩
   unfold RT;rw [hr1,hr2,if_pos rfl,←hint,List.append_nil,hpS]
 cases s with
 | nil=>exact absurd h (by decide)
 | cons b t=>
  simp only [chk] at h
  split at h
  ·rename_i hb;subst hb;exact key true t h
  ·exact key false (b::t) h
end VE
end
