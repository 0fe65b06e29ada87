import Derived.Test.YtknmjihnfgolpaaGreatDoorTbw
import Derived.Test.YtknmjihnfgolpaaGreatDoorTbp
import Derived.Test.YtknmjihnfgolpaaGreatDoorTbq
set_option linter.all false
set_option maxRecDepth 100000
open Nat (reduceAdd reduceEqDiff)
section
namespace VE
open Go (IntKind)
theorem zmp {n:Int} {d:Nat} (h:n<0):TT n d=45::TT (-n) d:=by
 have e:zW (-n)=zn n.natAbs:=by
  rw [←za5,if_neg (show ¬-n<0 by omega),List.nil_append,show (-n).natAbs=n.natAbs by omega]
 unfold TT;rw [zbo h,e];rfl
theorem zAK {n:Int} {d:Nat} (h:¬n<0):∃b u,TT n d=b::u∧48≤b:=by
 obtain ⟨b,r,hb,h1,_⟩:=zdT n.natAbs;refine ⟨b,r++(if d=1 then [] else 47::zn d),?_,h1⟩;unfold TT;rw [←za5,if_neg h,List.nil_append,hb];rfl
theorem zhS (a b:AV) (r:List AV):ld1 2 true (a::b::r)=some (.agg [a,b]):=rfl
theorem zCr (k:Nat):2^k≤1000000000^k:=Nat.pow_le_pow_left (by decide) k
theorem Bd.r {k:Nat} {z:Int} (h:Bd k z):z.natAbs<1000000000^k:=Nat.lt_of_lt_of_le h (zCr k)
theorem zoS (r:Rat):RT r=TT r.num r.den:=rfl
theorem zsF {n d:Int} (hd:0<d):RT (Rat.divInt n d)=zi5 n d:=by
 obtain ⟨h1,h2⟩:=zfk (a:=n) hd;rw [zBG hd,zoS,h1]
 congr 1
 exact Int.ofNat.inj (show ((Rat.divInt n d).den:Int)=((zbt n d).toNat:Int) by rw [h2];have:=zfB (a:=n) hd;unfold zbt at this ⊢;omega)
structure Rn (P:zU) (L:Lib):Prop extends Ra P L where
 h263:Has P L 263 c263
 h273:Has P L 273 zqa
 h284:Has P L 284 zJ2
 h285:Has P L 285 zCK
 h286:Has P L 286 zDa
 h287:Has P L 287 zyX
 h301:Has P L 301 c301
structure Rx (P:zU) (L:Lib):Prop extends Rn P L where
 h266:Has P L 266 zL0
 h269:Has P L 269 zwG
 h283:Has P L 283 zMS
section
variable {P:zU} {L:Lib}
theorem zDO (h:Rn P L) {v w:AV} {a b:List Int} (hv:IsI v a) (hw:IsI w b) (ha:dg a) (hb:dg b) (na:nz a) (nb:nz b) (la:a.length≤8000000000) (lb:b.length≤8000000000) (h0:0<dv b):
  ∃q r lq lr,zF P L 289 [v,w] (.tup [q,r])∧IsI q lq∧IsI r lr∧dg lq∧nz lq∧dg lr∧nz lr∧dv lq=dv a/dv b∧dv lr=dv a%dv b:=
 zDZ h.h289 h.h293 h.h296 h.h299 h.h300 h.h301 hv hw ha hb na nb la lb h0
theorem zKg (h:Rn P L) {x y:AV} {a b:List Int} {n d:Int} {K:Nat} (hK:K≤8000000000) (hx:IsI x a) (ha:dg a) (na:nz a) (va:dv a=n.natAbs) (hy:IsI y b) (hb:dg b) (nb:nz b) (vb:dv b=d.natAbs) (kn:Bd K n) (kd:Bd K d) (hd:0<d) {tm:Env} (t2:zc tm 2= .ptr 0 0) (t3:zc tm 3= .ptr 1 0):
  zdE [.t 4] (D P L (zu (zu c280.body)) ⟨tm,[(1,.cells true true true 2 [.bool (decide (d<0)),y]),(0,.cells true true true 2 [.bool (decide (n<0)),x])],2,0⟩)=some (.str (RT (Rat.divInt n d))):=by
 rw [zsF hd];have la:=Nat.le_trans (zbw ha na (by rw [va];exact kn.r)) hK
 have lb:=Nat.le_trans (zbw hb nb (by rw [vb];exact kd.r)) hK
 obtain ⟨g,lg,e1,hg,dg',ng,vg⟩:=zDN h.h275 h.h289 h.h293 h.h296 h.h299 h.h300 h.h301 hx hy ha hb na nb la lb;rw [va,vb,show Nat.gcd n.natAbs d.natAbs=Int.gcd n d from rfl] at vg;have hg0:=zhl (a:=n) hd;have hgle:Int.gcd n d≤d.natAbs:=Int.gcd_le_natAbs_right n (by omega);have lg1:lg.length≤8000000000:=Nat.le_trans (zbw dg' ng (by rw [vg];exact Nat.lt_of_le_of_lt hgle kd.r)) hK
 obtain ⟨p,p',lp,lp',e2,hp,hp',dp,np,dp',np',vp,vp'⟩:=zDO h hx hg ha dg' na ng la lg1 (by omega);obtain ⟨q,q',lq,lq',e3,hq,hq',dq,nq,dq',nq',vq,vq'⟩:=zDO h hy hg hb dg' nb ng lb lg1 (by omega);rw [va,vg] at vp;rw [vb,vg] at vq;have hrn:(zbr n d).natAbs=n.natAbs/Int.gcd n d:=by unfold zbr;rw [Int.natAbs_ediv_of_dvd (Int.gcd_dvd_left n d)];rfl
 have hrd:(zbt n d).natAbs=d.natAbs/Int.gcd n d:=by unfold zbt;rw [Int.natAbs_ediv_of_dvd (Int.gcd_dvd_right n d)];rfl
 have hdp:=zfB (a:=n) hd;rw [←hrn] at vp;rw [←hrd] at vq;have hnum:=zIV n d;have hsg:zaW (decide (n<0)) (dv lp)=zbr n d:=by
  rw [vp];unfold zaW;by_cases h0:n<0
  ·have:¬0≤zbr n d:=fun h1=>by have:=Int.mul_nonneg (Int.le_of_lt hg0) h1;omega
   simp only [h0,decide_true,if_true];omega
  ·have:¬zbr n d<0:=fun h1=>by have:=Int.mul_neg_of_pos_of_neg hg0 h1;omega
   simp only [h0,decide_false,Bool.false_eq_true,if_false];omega
 have kn':Bd K (zbr n d):=kn.le (zoQ n d);have kd':Bd K (zbt n d):=kd.le (zoe n d);have lp1:lp.length≤8000000000:=Nat.le_trans (zbw dp np (by rw [vp];exact kn'.r)) hK
 have lq1:lq.length≤8000000000:=Nat.le_trans (zbw dq nq (by rw [vq];exact kd'.r)) hK
 obtain ⟨s,e4,hs⟩:=zmY h.h294 h.h300 (decide (n<0)) hp dp (by omega);rw [hsg] at hs;obtain ⟨e5,l5⟩:=zOA (K:=K) h.h282 h.h292 (by omega) hs kn'.r;obtain ⟨u,e6,hu⟩:=zmY h.h294 h.h300 false hq dq (by omega);have hu2:zaW false (dv lq)=zbt n d:=by rw [vq];unfold zaW;simp only [Bool.false_eq_true,if_false];omega
 rw [hu2] at hu;obtain ⟨e7,l7⟩:=zOA (K:=K) h.h282 h.h292 (by omega) hu kd'.r;obtain ⟨sw,sl,rfl,hsw,_,_,_⟩:=hs;obtain ⟨uw,ul,rfl,huw,_,_,_⟩:=hu;have hqpos:0<lq.length:=by
  rcases Nat.eq_zero_or_pos lq.length with e | e
  ·rw [List.eq_nil_of_length_eq_zero e] at vq;simp [dv] at vq;omega
  ·exact e
 unfold zF at e1 e2 e3 e4 e5 e6 e7;by_cases hql:lq.length=1
 ·obtain ⟨z,rfl⟩:∃z,lq=[z]:=by
   cases lq with
   | nil=>simp at hql
   | cons z r=>cases r with
    | nil=>exact ⟨z,rfl⟩
    | cons y r=>simp at hql
  have gz:=dg_one.1 dq;have hzd:z=zbt n d:=by simp [dv] at vq;omega
  have e8:=hq.ixa (i:=0) (by simp);simp only [List.getElem_cons_zero] at e8;by_cases h1:zbt n d=1
  ·have hT:zi5 n d=zW (zbr n d):=by unfold zi5;rw [if_pos h1]
   rw [hT];simp only [go_sem,reduceEqDiff,c280,zu,t2,t3,hx.frz,hy.frz,zE,Nat.zero_add,zau,show ¬d<0 by omega,decide_false,e1,hg.frz,hg.shut,e2,hp.frz,hp.shut1,hp'.shut1,e3,hq.len,hq.shut1,hq'.shut1,e4,hsw.frz,zx,zD,e5,List.length_cons,List.length_nil,show ((1:Nat):Int)=(1:Int) from rfl,decide_true,e8,hzd,h1]
  ·have hT:zi5 n d=(zW (zbr n d)++[47])++zW (zbt n d):=by unfold zi5;rw [if_neg h1]
   rw [hT]
   simp only [go_sem,reduceEqDiff,c280,zu,t2,t3,hx.frz,hy.frz,zE,Nat.zero_add,zau,show ¬d<0 by omega,decide_false,e1,hg.frz,hg.shut,e2,hp.frz,hp.shut1,hp'.shut1,e3,hq.len,hq.frz,hq.shut1,hq'.shut1,e4,hsw.frz,zx,zD,e5,List.length_cons,List.length_nil,show ((1:Nat):Int)=(1:Int) from rfl,decide_true,e8,hzd,h1,zaF (a:=zW (zbr n d)) (b:=[47]) (by simp;omega),e6,huw.frz,e7,zaF (a:=zW (zbr n d)++[47]) (b:=zW (zbt n d)) (by simp;omega)]
 ·have h1:¬zbt n d=1:=fun h1=>hql (by
   have h2:lq.length≤1:=zsO dq nq (by rw [vq,h1];decide)
   omega)
  have hT:zi5 n d=(zW (zbr n d)++[47])++zW (zbt n d):=by unfold zi5;rw [if_neg h1]
  rw [hT]
  simp only [go_sem,reduceEqDiff,c280,zu,t2,t3,hx.frz,hy.frz,zE,Nat.zero_add,zau,show ¬d<0 by omega,decide_false,e1,hg.frz,hg.shut,e2,hp.frz,hp.shut1,hp'.shut1,e3,hq.len,hq.frz,hq.shut1,hq'.shut1,e4,hsw.frz,zx,zD,e5,show ¬(lq.length:Int)=1 by omega,zaF (a:=zW (zbr n d)) (b:=[47]) (by simp;omega),e6,huw.frz,e7,zaF (a:=zW (zbr n d)++[47]) (b:=zW (zbt n d)) (by simp;omega)]
theorem znt (n d:Int):Rat.divInt (-n) (-d)=Rat.divInt n d:=by rw [Rat.divInt_neg',Int.neg_neg]
theorem zyQ (h:Rn P L) {v w:AV} {n d:Int} {K:Nat} (hK:K≤8000000000) (hv:IsR v n) (hw:IsR w d) (kn:Bd K n) (kd:Bd K d) (hd:d≠0):zF P L 280 [v,w] (.str (RT (Rat.divInt n d))):=by
 have fin:∀{x y:AV} {a b:List Int} {n' d':Int},IsI x a→dg a→nz a→dv a=n'.natAbs→IsI y b→dg b→nz b→dv b=d'.natAbs→Bd K n'→Bd K d'→0<d'→Rat.divInt n' d'=Rat.divInt n d→∀tm,zc tm 2= .ptr 0 0→zc tm 3= .ptr 1 0→
   D P L (.seq (zar c280.body) (zar (zu c280.body))) ⟨[(0,v),(1,w)],[],0,0⟩=some (.normal,⟨tm,[(1,.cells true true true 2 [.bool (decide (d'<0)),y]),(0,.cells true true true 2 [.bool (decide (n'<0)),x])],2,0⟩)→zF P L 280 [v,w] (.str (RT (Rat.divInt n d))):=fun {x y a b n' d'} hx ha na va hy hb nb vb kn kd hd hq tm t2 t3 e=>by
  unfold zF;rw [zd h.h280];show zdE [.t 4] (D P L (.seq (zar c280.body) (.seq (zar (zu c280.body)) (zu (zu c280.body)))) ⟨[(0,v),(1,w)],[],0,0⟩)=_
  rw [zdX,e,zaL,←hq];exact zKg h hK hx ha na va hy hb nb vb kn kd hd t2 t3
 have hv':=hv;have hw':=hw;obtain ⟨x,a,rfl,hx,ha,na,va⟩:=hv;obtain ⟨y,b,rfl,hy,hb,nb,vb⟩:=hw;by_cases h0:d<0
 ·obtain ⟨r,e1,hr⟩:=zPI (K:=K) h.h298 h.h294 h.h300 (by omega) hv' kn.r;obtain ⟨s,e2,hs⟩:=zPI (K:=K) h.h298 h.h294 h.h300 (by omega) hw' kd.r;obtain ⟨x',a',rfl,hx',ha',na',va'⟩:=hr;obtain ⟨y',b',rfl,hy',hb',nb',vb'⟩:=hs;unfold zF at e1 e2;simp only [h0,decide_true] at e2
  refine fin hx' ha' na' va' hy' hb' nb' vb' kn.neg kd.neg (by omega) (znt n d) _ ?_ ?_ (by
   simp only [go_sem,reduceEqDiff,reduceAdd,c280,zar,zu,zo,hx.pu,hx.frz,hx.one,hy.pu,hy.frz,hy.one,hx'.pu,hx'.one,hy'.pu,hy'.one,zE,Nat.zero_add,h0,decide_true,zhS,zx,e1,e2,zD,zbM]<;>rfl)<;>simp only [go_sem,reduceEqDiff]
 ·refine fin hx ha na va hy hb nb vb kn kd (by omega) rfl _ ?_ ?_ (by simp only [go_sem,reduceEqDiff,reduceAdd,c280,zar,zu,zo,hx.pu,hx.one,hy.pu,hy.one,zE,Nat.zero_add,h0,decide_false]<;>rfl)<;>simp only [go_sem,reduceEqDiff]
end
end VE
end
section
namespace VE
open Go (IntKind)
section
variable {P:zU} {L:Lib}
theorem zjy {K:Nat} {a:Rat} (h:Hq K a):(RT a).length≤2*K+3:=by
 have h1:=zdR h.1;have h2:=zdR h.2;rw [zbc] at h2;unfold RT
 split<;>simp<;>omega
theorem zjn {K:Nat} {z:Int} (h:Bd K z):(zn z.natAbs).length≤K+1:=by
 have:=zdR (z:=(z.natAbs:Int)) (k:=K) (by unfold Bd at h ⊢;omega)
 rwa [zbc] at this
theorem zon (h:Rn P L) {a:Rat} {K:Nat} (ka:Hq K a) (hK:K≤8000000000):∃x y,zF P L 274 [.str (RT a)] (.tup [x,y])∧IsR x a.num∧IsR y (a.den:Int):=by
 have h1:=zjn ka.1;have h2:=zjn ka.2
 exact zNE h.toRa (n:=a.num) (d:=a.den) (by omega) (by simpa using (by omega:(zn ((a.den:Int)).natAbs).length≤144000000000))
theorem zDW (h:Rn P L) {n:Int} {d:Nat} (hl:(TT n d).length≤100000000000) (h00:n=0→d=1):zF P L 262 [.str (TT n d)] (zf (sgn n)):=by
 unfold zF;rw [zd h.h262];by_cases h0:n<0
 ·have hne:=zDL (n:=n) (d:=d) (by omega);rw [zmp h0] at hne ⊢;simp only [go_sem,reduceEqDiff,zw2,za0,hne,show (0:Int)<(((TT (-n) d).length+1:Nat):Int) by omega,zpL,decide_true];unfold sgn;rw [if_pos h0]
 ·by_cases h1:n=0
  ·subst h1
   have:=h00 rfl
   subst this;rw [show TT 0 1=[48] by decide];simp only [go_sem,reduceEqDiff,zw2,za0,show eqL [48] [48]=true from rfl];rfl
  ·have hne:=zDL (n:=n) (d:=d) h1;obtain ⟨b,u,hb,hb1⟩:=zAK (d:=d) h0;rw [hb] at hne ⊢;simp only [go_sem,reduceEqDiff,zw2,za0,hne,show (0:Int)<((u.length+1:Nat):Int) by omega,show zem 0 (.str (b::u))=some (.int .u8 (b:Nat)) from rfl,show ¬((b:Nat):Int)=45 by omega];unfold sgn;rw [if_neg h0,if_neg h1]
theorem zg0 {a:Rat} (h:a.num=0):a.den=1:=by
 have:a=0:=Rat.num_eq_zero.1 h
 rw [this];rfl
theorem zD2 (h:Rn P L) {a:Rat} {K:Nat} (ka:Hq K a) (hK:K≤8000000000):zF P L 262 [.str (RT a)] (zf (sgn a.num)):=
 zDW h (by have:=zjy ka;rw [zoS] at this;omega) zg0
theorem zNv (h:Rn P L) {a:Rat} {K:Nat} (ka:Hq K a) (hK:K≤8000000000):zF P L 268 [.str (RT a)] (.str (RT (-a))):=by
 have e:=zD2 h ka hK;have hl:=zjy ka;have en:(-a).num= -a.num:=rfl;have ed:(-a).den=a.den:=rfl;rw [zoS] at hl e ⊢;rw [zoS,en,ed];have hz:=zg0 (a:=a);generalize a.num=n at*
 generalize a.den=d at*
 unfold zF at e ⊢;rw [zd h.h268];by_cases h0:n<0
 ·have es:sgn n= -1:=by unfold sgn;rw [if_pos h0]
  rw [es,zmp h0] at e;rw [zmp h0] at hl ⊢;have hc:zeb (45::TT (-n) d) (some 1) (some ((TT (-n) d).length+1))=some (.str (TT (-n) d)):=by rw [zbl (s:=45::TT (-n) d) (l:=1) (h:=(TT (-n) d).length+1) (by omega) (by simp)];simp
  simp only [go_sem,reduceEqDiff,zyx,e,show (-1:Int)<0 by decide,zah,zap,zab,hc]
 ·by_cases h1:n=0
  ·subst h1;have es:sgn 0=0:=rfl;rw [es] at e;simp only [go_sem,reduceEqDiff,zyx,e,show ¬(0:Int)<0 by decide,decide_true,Int.neg_zero]
  ·have es:sgn n=1:=by unfold sgn;rw [if_neg h0,if_neg h1]
   rw [es] at e
   have:TT (-n) d=45::TT n d:=by rw [zmp (by omega),Int.neg_neg]
   rw [this]
   simp only [go_sem,reduceEqDiff,zyx,e,show ¬(1:Int)<0 by decide,show ¬(1:Int)=0 by decide,zaF (a:=[45]) (b:=TT n d) (by simp;omega),List.cons_append,List.nil_append]
end
end VE
end
section
namespace VE
open Go (IntKind)
theorem zqo (n:Int) (d:Nat):zpE true n d= .tup [zf n,zf d,.bool true]:=rfl
theorem zoG {a b:Int} (ha:a.natAbs<1000000000) (hb:b.natAbs<1000000000):(a*b).natAbs<1000000000000000000:=by
 rw [Int.natAbs_mul];exact Nat.lt_of_lt_of_le (Nat.mul_lt_mul'' ha hb) (by decide)
section
variable {P:zU} {L:Lib}
theorem zEi (h:Rn P L) {a b:Int} (ha: -4000000000000000000≤a∧a≤4000000000000000000) (hb:0<b∧b≤4000000000000000000):zF P L 277 [zf a,zf b] (.str (RT (Rat.divInt a b))):=by
 rw [zsF hb.1];exact zQh h.h277 h.h291 h.h292 ha hb
theorem zqq (h:Rn P L) {a:Rat} {K:Nat} (ka:Hq K a) (hK:K≤8000000000):∃q:Bool,zF P L 276 [.str (RT a)] (zpE q a.num a.den)∧(q=true→a.num.natAbs<1000000000∧a.den<1000000000):=
 zRm h.h276 h.h272 h.h290 (n:=a.num) (d:=a.den) (by have:=zjy ka;rw [zoS] at this;omega)
theorem zDT (h:Rn P L) {a b:Rat} {K M:Nat} (ka:Hq K a) (kb:Hq M b) (hK:K+M≤8000000000):zF P L 267 [.str (RT a),.str (RT b)] (.str (RT (a*b))):=by
 obtain ⟨q1,e1,b1⟩:=zqq h ka (by omega);obtain ⟨q2,e2,b2⟩:=zqq h kb (by omega);have hden:=zcD a b;by_cases hq:(q1=true∧q2=true)
 ·obtain ⟨rfl,rfl⟩:=hq;obtain ⟨b11,b12⟩:=b1 rfl;obtain ⟨b21,b22⟩:=b2 rfl;have p1:=zoG b11 b21;have p2:=zoG (a:=(a.den:Int)) (b:=(b.den:Int)) (by omega) (by omega);have e3:=zEi h (a:=a.num*b.num) (b:=(a.den:Int)*b.den) (by omega) (by omega);rw [←zmF] at e3;rw [zqo] at e1 e2;unfold zF at e1 e2 e3 ⊢;rw [zd h.h267]
  simp only [go_sem,reduceEqDiff,zzf,e1,e2,zg (n:=a.num*b.num) (by omega) (by omega),zg (n:=(a.den:Int)*(b.den:Int)) (by omega) (by omega),e3]
 ·have hq':∃n1 d1 n2 d2,zj P L (D P L) 276 [.str (RT a)]=some (.tup [zf n1,zf d1,.bool q1])∧zj P L (D P L) 276 [.str (RT b)]=some (.tup [zf n2,zf d2,.bool q2]):=by
   unfold zF at e1 e2;cases q1<;>cases q2<;>exact ⟨_,_,_,_,e1,e2⟩
  obtain ⟨n1,d1,n2,d2,e1,e2⟩:=hq';obtain ⟨x,y,e3,hx,hy⟩:=zon h ka (by omega);obtain ⟨z,w,e4,hz,hw⟩:=zon h kb (by omega);have kmax:max K M≤8000000000:=by omega
  obtain ⟨r,e5,hr⟩:=zzt (K:=max K M) h.h278 h.h293 h.h294 h.h300 kmax hx hz (ka.1.mono (by omega)).r (kb.1.mono (by omega)).r;obtain ⟨s,e6,hs⟩:=zzt (K:=max K M) h.h278 h.h293 h.h294 h.h300 kmax hy hw (ka.2.mono (by omega)).r (kb.2.mono (by omega)).r;have e7:=zyQ h hK hr hs (ka.1.mul kb.1) (ka.2.mul kb.2) (by omega);rw [←zmF] at e7;obtain ⟨xw,xl,rfl,hxw,_,_,_⟩:=hx;obtain ⟨yw,yl,rfl,hyw,_,_,_⟩:=hy;obtain ⟨zw,zl,rfl,hzw,_,_,_⟩:=hz;obtain ⟨ww,wl,rfl,hww,_,_,_⟩:=hw;obtain ⟨rw',rl,rfl,hrw,_,_,_⟩:=hr;obtain ⟨sw,sl,rfl,hsw,_,_,_⟩:=hs;have hb:¬(q1=true∧q2=true):=hq;unfold zF at e3 e4 e5 e6 e7 ⊢;rw [zd h.h267]
  cases q1 with
  | false=>
   simp only [go_sem,reduceEqDiff,reduceAdd,zzf,zo,e1,e2,e3,e4,hxw.pu,hxw.frz,hxw.one,hyw.pu,hyw.frz,hyw.one,hzw.pu,hzw.frz,hzw.one,hww.pu,hww.frz,hww.one,hrw.frz,hsw.frz,zx,zD,zbS,zbM,zhS,e5,e6,e7]
  | true=>
   cases q2 with
   | true=>exact absurd ⟨rfl,rfl⟩ hb
   | false=>
    simp only [go_sem,reduceEqDiff,reduceAdd,zzf,zo,e1,e2,e3,e4,hxw.pu,hxw.frz,hxw.one,hyw.pu,hyw.frz,hyw.one,hzw.pu,hzw.frz,hzw.one,hww.pu,hww.frz,hww.one,hrw.frz,hsw.frz,zx,zD,zbS,zbM,zhS,e5,e6,e7]
theorem zEm (h:Rn P L) {a b:Rat} {K M:Nat} (ka:Hq K a) (kb:Hq M b) (hK:K+M+1≤8000000000):zF P L 264 [.str (RT a),.str (RT b)] (.str (RT (a+b))):=by
 obtain ⟨q1,e1,b1⟩:=zqq h ka (by omega);obtain ⟨q2,e2,b2⟩:=zqq h kb (by omega);have hden:=zcD a b;by_cases hq:(q1=true∧q2=true)
 ·obtain ⟨rfl,rfl⟩:=hq;obtain ⟨b11,b12⟩:=b1 rfl;obtain ⟨b21,b22⟩:=b2 rfl;have p1:=zoG (a:=a.num) (b:=(b.den:Int)) (by omega) (by omega);have p2:=zoG (a:=b.num) (b:=(a.den:Int)) (by omega) (by omega);have p3:=zoG (a:=(a.den:Int)) (b:=(b.den:Int)) (by omega) (by omega);have e3:=zEi h (a:=a.num*b.den+b.num*a.den) (b:=(a.den:Int)*b.den) (by omega) (by omega);rw [←zms] at e3;rw [zqo] at e1 e2;unfold zF at e1 e2 e3 ⊢;rw [zd h.h264]
  simp only [go_sem,reduceEqDiff,zww,e1,e2,zg (n:=a.num*(b.den:Int)) (by omega) (by omega),zg (n:=b.num*(a.den:Int)) (by omega) (by omega),zg (n:=a.num*(b.den:Int)+b.num*(a.den:Int)) (by omega) (by omega),zg (n:=(a.den:Int)*(b.den:Int)) (by omega) (by omega),e3]
 ·have hq':∃n1 d1 n2 d2,zj P L (D P L) 276 [.str (RT a)]=some (.tup [zf n1,zf d1,.bool q1])∧zj P L (D P L) 276 [.str (RT b)]=some (.tup [zf n2,zf d2,.bool q2]):=by
   unfold zF at e1 e2;cases q1<;>cases q2<;>exact ⟨_,_,_,_,e1,e2⟩
  obtain ⟨n1,d1,n2,d2,e1,e2⟩:=hq';obtain ⟨x,y,e3,hx,hy⟩:=zon h ka (by omega);obtain ⟨z,w,e4,hz,hw⟩:=zon h kb (by omega);have kmax:max K M≤8000000000:=by omega
  obtain ⟨r,e5,hr⟩:=zzt (K:=max K M) h.h278 h.h293 h.h294 h.h300 kmax hx hw (ka.1.mono (by omega)).r (kb.2.mono (by omega)).r;obtain ⟨r2,e52,hr2⟩:=zzt (K:=max K M) h.h278 h.h293 h.h294 h.h300 kmax hz hy (kb.1.mono (by omega)).r (ka.2.mono (by omega)).r;obtain ⟨s,e6,hs⟩:=zzt (K:=max K M) h.h278 h.h293 h.h294 h.h300 kmax hy hw (ka.2.mono (by omega)).r (kb.2.mono (by omega)).r;have k1:Bd (K+M) (a.num*b.den):=ka.1.mul kb.2;have k2:Bd (K+M) (b.num*a.den):=(kb.1.mul ka.2).mono (by omega);obtain ⟨t,e8,ht⟩:=zRk (K:=K+M) h.h279 h.h295 h.h296 h.h297 h.h302 h.h294 h.h300 (by omega) hr hr2 k1.r k2.r;have e7:=zyQ h hK ht hs (k1.add2 k2) ((ka.2.mul kb.2).mono (by omega)) (by omega);rw [←zms] at e7;obtain ⟨xw,xl,rfl,hxw,_,_,_⟩:=hx;obtain ⟨yw,yl,rfl,hyw,_,_,_⟩:=hy;obtain ⟨zw,zl,rfl,hzw,_,_,_⟩:=hz;obtain ⟨ww,wl,rfl,hww,_,_,_⟩:=hw;obtain ⟨rw',rl,rfl,hrw,_,_,_⟩:=hr
  obtain ⟨rw2,rl2,rfl,hrw2,_,_,_⟩:=hr2;obtain ⟨tw,tl,rfl,htw,_,_,_⟩:=ht;obtain ⟨sw,sl,rfl,hsw,_,_,_⟩:=hs;have hb:¬(q1=true∧q2=true):=hq;unfold zF at e3 e4 e5 e52 e6 e7 e8 ⊢;rw [zd h.h264]
  cases q1 with
  | false=>
   simp only [go_sem,reduceEqDiff,reduceAdd,zww,zo,e1,e2,e3,e4,hxw.pu,hxw.frz,hxw.one,hyw.pu,hyw.frz,hyw.one,hzw.pu,hzw.frz,hzw.one,hww.pu,hww.frz,hww.one,hrw.frz,hrw2.frz,htw.frz,hsw.frz,zx,zD,zbS,zbM,zhS,e5,e52,e8,e6,e7]
  | true=>
   cases q2 with
   | true=>exact absurd ⟨rfl,rfl⟩ hb
   | false=>
    simp only [go_sem,reduceEqDiff,reduceAdd,zww,zo,e1,e2,e3,e4,hxw.pu,hxw.frz,hxw.one,hyw.pu,hyw.frz,hyw.one,hzw.pu,hzw.frz,hzw.one,hww.pu,hww.frz,hww.one,hrw.frz,hrw2.frz,htw.frz,hsw.frz,zx,zD,zbS,zbM,zhS,e5,e52,e8,e6,e7]
theorem zPC (h:Rn P L) {a b:Rat} {K M:Nat} (ka:Hq K a) (kb:Hq M b) (hK:K+M+1≤8000000000):zF P L 271 [.str (RT a),.str (RT b)] (.str (RT (a-b))):=by
 have e1:=zNv h kb (by omega);have e2:=zEm h ka kb.neg hK;rw [←Rat.sub_eq_add_neg] at e2;unfold zF at e1 e2 ⊢;rw [zd h.h271];simp only [go_sem,reduceEqDiff,zE2,e1,e2]
theorem zpS (a:Rat) (h:a≠0):a⁻¹=Rat.divInt (a.den:Int) a.num:=by
 rw [Rat.inv_def]
theorem zPi (h:Rx P L) {a:Rat} {K:Nat} (ka:Hq K a) (hK:K≤8000000000) (h0:a≠0):zF P L 283 [.str (RT a)] (.str (RT a⁻¹)):=by
 obtain ⟨x,y,e3,hx,hy⟩:=zon h.toRn ka hK;have hn:a.num≠0:=fun e=>h0 (Rat.num_eq_zero.1 e)
 have e7:=zyQ h.toRn hK hy hx ka.2 ka.1 hn;rw [←zpS a h0] at e7;obtain ⟨xw,xl,rfl,hxw,_,_,_⟩:=hx;obtain ⟨yw,yl,rfl,hyw,_,_,_⟩:=hy;unfold zF at e3 e7 ⊢;rw [zd h.h283];simp only [go_sem,reduceEqDiff,reduceAdd,zMS,zo,e3,hxw.pu,hxw.frz,hxw.one,hyw.pu,hyw.frz,hyw.one,zx,zbS,zbM,zhS,e7]
theorem zOp (h:Rx P L) {a b:Rat} {K M:Nat} (ka:Hq K a) (kb:Hq M b) (hK:K+M≤8000000000) (h0:b≠0):zF P L 266 [.str (RT a),.str (RT b)] (.str (RT (a/b))):=by
 have e1:=zPi h kb (by omega) h0;have e2:=zDT h.toRn ka kb.inv hK;rw [←Rat.div_def] at e2;unfold zF at e1 e2 ⊢;rw [zd h.h266];simp only [go_sem,reduceEqDiff,zL0,e1,e2]
end
end VE
end
section
namespace VE
open Go (IntKind)
def zbF (p:List Nat):Bool:=zbm p&&(match p with | []=>false | b::r=> !(Nat.beq b 48)||r.isEmpty)
def zcX (p:List Nat):Nat:=(za3 p 0).getD 0
def zm3 (neg:Bool) (t:List Nat):Int:=
 if zbF (t.take (zO t))=false∨(neg=true∧t.take (zO t)=[48]) then 1
 else if zO t<t.length∧(zbF (t.drop (zO t+1))=false∨t.drop (zO t+1)=[48]∨t.drop (zO t+1)=[49]) then 1
 else if 600<zO t∨600<t.length-zO t-1 then 4
 else if zO t<t.length∧Nat.gcd (zcX (t.take (zO t))) (zcX (t.drop (zO t+1)))≠1 then 1
 else 0
def chk:List Nat→Int
 | []=>zm3 false []
 | b::t=>if b=45 then zm3 true t else zm3 false (b::t)
theorem zoz:∀{p:List Nat} (a:Nat),zbm p=true→∃n,za3 p a=some n
 | [],a,_=>⟨a,rfl⟩
 | b::r,a,h=>by
  have h':=h;simp only [zbm,Bool.and_eq_true] at h';obtain ⟨n,hn⟩:=zoz (p:=r) (10*a+(b-48)) h'.2;exact ⟨n,by simp only [za3,h'.1.1,h'.1.2,Bool.and_self,cond_true];exact hn⟩
theorem zdS:∀(k:Nat) {p:List Nat},p.length=k→zbF p=true→zn (zcX p)=p:=by
 intro k
 induction k with
 | zero=>intro p hl h;rw [List.eq_nil_of_length_eq_zero hl] at h;simp [zbF] at h
 | succ k ih=>
  intro p hl h;rcases zp1 p with rfl | ⟨m,a,rfl⟩
  ·simp at hl
  ·simp only [zbF,Bool.and_eq_true,zer] at h;obtain ⟨⟨h1,h2⟩,h3⟩:=h;simp only [zbm,Bool.and_eq_true] at h2;have ha1:=Nat.le_of_ble_eq_true h2.1.1;have ha2:=Nat.le_of_ble_eq_true h2.1.2;obtain ⟨n,hn⟩:=zoz 0 h1;have hv:zcX (m++[a])=10*n+(a-48):=by
    unfold zcX;rw [zfA,hn];simp only [Option.bind_some,za3,h2.1.1,h2.1.2,Bool.and_self,cond_true,Option.getD_some]
   cases m with
   | nil=>
    have:n=0:=by simpa [za3] using hn.symm
    subst this;rw [hv,za8 (by omega)]
    simp;omega
   | cons b r=>
    have hd:zbF (b::r)=true:=by
     simp only [zbF,h1,Bool.true_and];simp at h3
     cases r with
     | nil=>simp
     | cons c r=>simp at h3 ⊢;exact h3
    have hm:=ih (p:=b::r) (by simpa using hl) hd;have hnv:zcX (b::r)=n:=by unfold zcX;rw [hn];rfl
    rw [hnv] at hm;have hn0:n≠0:=fun e=>by
     subst e;rw [za8 (by omega)] at hm;simp only [Nat.add_zero,List.cons.injEq] at hm;obtain ⟨rfl,rfl⟩:=hm;simp at h3
    rw [hv,zb4 (by omega),show (10*n+(a-48))/10=n by omega,show 48+(10*n+(a-48))%10=a by omega,hm]
theorem zgn (t:List Nat):zO t<t.length→t=t.take (zO t)++47::t.drop (zO t+1):=by
 induction t with
 | nil=>simp
 | cons b r ih=>
  intro h;simp only [zO] at h ⊢;by_cases hb:b=47
  ·subst hb;simp
  ·rw [if_neg hb] at h ⊢
   have:=ih (by simpa using h)
   simp only [List.take_succ_cons,List.drop_succ_cons,List.cons_append];rw [←this]
theorem zlW {n:Int} {d:Nat} (hd:0<d) (hg:Nat.gcd n.natAbs d=1):∃r:Rat,r.num=n∧r.den=d:=⟨⟨n,d,by omega,hg⟩,rfl,rfl⟩
theorem zyJ {s:List Nat} (h:chk s=0):∃r:Rat,s=RT r∧(zn r.num.natAbs).length≤600∧(zn r.den).length≤600:=by
 have key:∀(neg:Bool) (t:List Nat),zm3 neg t=0→∃r:Rat,(if neg=true then [45] else [])++t=RT r∧(zn r.num.natAbs).length≤600∧(zn r.den).length≤600:=by
  intro neg t h;unfold zm3 at h
  split at h
  ·exact absurd h (by decide)
  rename_i h1
  split at h
  ·exact absurd h (by decide)
  rename_i h2
  split at h
  ·exact absurd h (by decide)
  rename_i h3
  split at h
  ·exact absurd h (by decide)
  rename_i h4;have hle:=zdU t;have hp:zbF (t.take (zO t))=true:=by
   cases hb:zbF (t.take (zO t)) with
   | true=>rfl
   | false=>exact absurd (.inl hb) h1
  have hpS:=zdS _ rfl hp;generalize hn:zcX (t.take (zO t))=n at*
  have hneg0:neg=true→n≠0:=fun hh e=>by
   subst e;exact h1 (.inr ⟨hh,by rw [←hpS];rfl⟩)
  have hint:(if neg=true then [45] else [])++zn n=zW (if neg=true then -(n:Int) else n):=by
   cases neg with
   | true=>
    have:=hneg0 rfl
    simp only [if_true];rw [zbo (by omega)]
    simp
   | false=>simp [zbc]
  have habs:(if neg=true then -(n:Int) else n).natAbs=n:=by split<;>omega
  have hln:(zn n).length≤600:=by rw [hpS,List.length_take];omega
  by_cases hs:zO t<t.length
  ·have hq:zbF (t.drop (zO t+1))=true:=by
    cases hb:zbF (t.drop (zO t+1)) with
    | true=>rfl
    | false=>exact absurd ⟨hs,.inl hb⟩ h2
   have hqS:=zdS _ rfl hq;have hg:Nat.gcd n (zcX (t.drop (zO t+1)))=1:=by
    by_cases hg:Nat.gcd n (zcX (t.drop (zO t+1)))=1
    ·exact hg
    ·exact absurd ⟨hs,hg⟩ h4
   have hsplit:=zgn t hs;have hlq:(t.drop (zO t+1)).length≤600:=by rw [List.length_drop];omega
   rw [←hqS] at hsplit hlq;have hd0:zcX (t.drop (zO t+1))≠0:=fun e=>by
    rw [e] at hqS;exact h2 ⟨hs,.inr (.inl (by rw [←hqS];rfl))⟩
   have hd1:zcX (t.drop (zO t+1))≠1:=fun e=>by
    rw [e] at hqS;exact h2 ⟨hs,.inr (.inr (by rw [←hqS];rfl))⟩
   generalize zcX (t.drop (zO t+1))=d at*
   obtain ⟨r,hr1,hr2⟩:=zlW (n:=if neg=true then -(n:Int) else n) (d:=d) (by omega) (by rw [habs];exact hg)
   refine ⟨r,?_,by rw [hr1,habs];exact hln,by rw [hr2];exact hlq⟩
   unfold RT;rw [hr1,hr2,if_neg hd1,←hint,List.append_assoc]
   congr 1
   rw [hpS];exact hsplit
  ·have ht:t.take (zO t)=t:=List.take_of_length_le (by omega);rw [ht] at hpS;obtain ⟨r,hr1,hr2⟩:=zlW (n:=if neg=true then -(n:Int) else n) (d:=1) (by omega) (Nat.gcd_one_right _);refine ⟨r,?_,by rw [hr1,habs];exact hln,by rw [hr2];decide⟩
   unfold RT;rw [hr1,hr2,if_pos rfl,←hint,List.append_nil,hpS]
 cases s with
 | nil=>exact absurd h (by decide)
 | cons b t=>
  simp only [chk] at h
  split at h
  ·rename_i hb;subst hb;exact key true t h
  ·exact key false (b::t) h
end VE
end
