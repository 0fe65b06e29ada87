import Derived.Test.YtlkgmaenobiooaaGreatDoorTbd
import Derived.Test.YtlkgmaenobiooaaGreatDoorTbc
import Derived.Test.YtlkgmaenobiooaaGreatDoorTav
import Derived.Test.YtlkgmaenobiooaaGreatDoorTaq
import Derived.Test.YtlkgmaenobiooaaGreatDoorTau
set_option linter.all false
set_option maxRecDepth 100000
open Bool renaming and_self→we,not_false→yH,not_true→yI
open Int renaming natAbs_natCast→yQ,toNat_natCast→xC
open List renaming drop_zero→ye,length_cons→yx
open Nat.Coprime renaming mul_left→ycj,mul_right→th
open Nat renaming reduceAdd→yb,reduceEqDiff→ya,zero_add→yd
open Rat renaming add_zero→tq,div_def→xY,le_of_lt→vn,le_refl→uv,mul_assoc→uy,mul_comm→uI,mul_le_mul_of_nonneg_left→wT,mul_lt_mul_of_pos_right→vO,mul_nonneg→vA,mul_one→ybK,neg_zero→uW,one_mul→tZ,sub_eq_add_neg→wE
namespace VE
section
open Go (IntKind)
def LO (m:Nat):0<=rN m:=by rw [<-M2];exact oA.2 (Nat.zero_le _)
def GS {m:Nat} (h:0<m):0<rN m:=by rw [<-M2];exact Et.2 h
def Ps (k:Nat):0<rN (10^k):=GS (Nat.pow_pos (by decide))
def Wk {a:Rat} (ha:0<=a) (k:Nat):rN (dt a k)*rN (dt a k)<=a*(rN (10^k)*rN (10^k))/\a*(rN (10^k)*rN (10^k))<rN (dt a k+1)*rN (dt a k+1):=by
 have h0:0<=a*(rN (10^k)*rN (10^k)):=vA ha (by rw [jz];exact LO _)
 have h1:=OX h0;have h2:=Rat.floor_le (a*(rN (10^k)*rN (10^k)));have h3:=Rat.lt_floor_add_one (a*(rN (10^k)*rN (10^k)));unfold dt;generalize a*(rN (10^k)*rN (10^k))=x at*
 rw [<-h1] at h2 h3;change rN x.floor.toNat<=x at h2
 change x<rN (x.floor.toNat+1) at h3
 rw [jz,jz];have g1:rN (cg x.floor.toNat*cg x.floor.toNat)<=rN x.floor.toNat:=oA.2 (Ch _);have g2:rN (x.floor.toNat+1)<=rN ((cg x.floor.toNat+1)*(cg x.floor.toNat+1)):=oA.2 (Wi _);exact ⟨Rat.le_trans g1 h2,by grind⟩
def alZ {a b:Nat} {x:Rat} (h1:rN a*rN a<=x) (h2:x<rN b*rN b):a<b:=by
 rw [jz] at h1 h2;have h:rN (a*a)<rN (b*b):=by grind
 have h':=Et.1 h;apply Nat.lt_of_not_le;intro hc
 have:=Pr hc
 omega
structure aFw (a lo hi:Rat) (k:Nat):Prop where
 nn:0<=lo
 le:lo<=hi
 low:lo*lo<=a
 high:a<=hi*hi
 wide:hi-lo<=pw (rN 10)⁻¹ k
def ajZ (k:Nat):pw (rN 10)⁻¹ k=1/rN (10^k):=by
 have h:=ale (b:=rN 10) (by intro e;have:=GS (m:=10) (by decide);grind) k
 rw [WJ] at h;have hp:=Ps k;have e:=Rat.mul_inv_cancel (rN (10^k)) (by grind);rw [xY,tZ]
 calc pw (rN 10)⁻¹ k=pw (rN 10)⁻¹ k*(rN (10^k)*(rN (10^k))⁻¹):=by rw [e,ybK]
  _=(rN (10^k))⁻¹:=by rw [<-uy,h,tZ]
def DU {a b:Rat} (h:0<b):a/b*b=a:=by
 rw [xY,uy,Rat.inv_mul_cancel _ (by grind),ybK]
def OA {a b c:Rat} (h:a*c<=b*c) (hc:0<c):a<=b:=Rat.le_of_mul_le_mul_right h hc
def al0 {a:Rat} (ha:0<=a) (k:Nat):aFw a (kJ a k) (kK a k) k:=by
 have hU:=Ps k;have zB:0<=1/rN (10^k):=by rw [xY,tZ];exact vn (Gg hU)
 unfold kJ kK
 cases hx:kV a with
 | true=>
  rw [yz rfl,yz rfl];obtain ⟨_,_,h3⟩:=Lo ha hx;have hs:=J0 a;refine ⟨?_,uv,by rw [h3];exact uv,by rw [h3];exact uv,by rw [ajZ,Rat.sub_self];exact zB⟩
  unfold iW;rw [xY];exact vA (LO _) (vn (Gg (GS hs)))
 | false=>
  rw [yp (by simp),yp (by simp)];obtain ⟨b1,b2⟩:=Wk ha k;have d1:=DU (a:=rN (dt a k)) hU;have d2:=DU (a:=rN (dt a k+1)) hU;have hs:rN (dt a k+1)=rN (dt a k)+1:=by rw [<-GR];rfl
  have d3:=DU (a:=(1:Rat)) hU;have hn:=LO (dt a k);have hw:=ajZ k;have a8:0<=rN (dt a k)/rN (10^k):=by rw [xY];exact vA hn (vn (Gg hU))
  have hlh:rN (dt a k+1)/rN (10^k)=rN (dt a k)/rN (10^k)+1/rN (10^k):=by rw [hs,xY,xY,xY,Rat.add_mul]
  have hUU:=Rat.mul_pos hU hU;generalize rN (dt a k)/rN (10^k)=lo at*
  generalize rN (dt a k+1)/rN (10^k)=hi at*
  generalize rN (10^k)=U at*
  refine ⟨a8,by grind,OA (c:=U*U) ?_ hUU,OA (c:=U*U) ?_ hUU,by rw [hw];grind⟩
  ·rw [show lo*lo*(U*U)=(lo*U)*(lo*U) by grind,d1];exact b1
  ·rw [show hi*hi*(U*U)=(hi*U)*(hi*U) by grind,d2];exact vn b2
def axR {a:Rat} (ha:0<=a) (k:Nat):kJ a k<=kJ a (k+2)/\kK a (k+2)<=kK a k:=by
 unfold kJ kK
 cases hx:kV a with
 | true=>
  rw [yz rfl,yz rfl,yz rfl,yz rfl];exact ⟨uv,uv⟩
 | false=>
  rw [yp (by simp),yp (by simp),yp (by simp),yp (by simp)];obtain ⟨b1,b2⟩:=Wk ha k;obtain ⟨b3,b4⟩:=Wk ha (k+2);have hU:=Ps k;have hV:=Ps (k+2);have TP:rN (10^(k+2))=rN (10^k)*rN 100:=by rw [jz,Nat.pow_add]
  have h1:100*dt a k<dt a (k+2)+1:=by
   refine alZ (x:=a*(rN (10^(k+2))*rN (10^(k+2)))) ?_ b4;rw [TP,<-jz]
   have:=Rat.mul_le_mul_of_nonneg_right b1 (show 0<=rN 100*rN 100 by rw [jz];exact LO _)
   grind
  have h2:dt a (k+2)<100*(dt a k+1):=by
   refine alZ (x:=a*(rN (10^(k+2))*rN (10^(k+2)))) b3 ?_;rw [TP,<-jz]
   have:=vO b2 (show 0<rN 100*rN 100 by rw [jz];exact GS (by decide))
   grind
  have g1:rN (100*dt a k)<=rN (dt a (k+2)):=oA.2 (by omega);have g2:rN (dt a (k+2)+1)<=rN (100*(dt a k+1)):=oA.2 (by omega);rw [<-jz] at g1 g2;have d1:=DU (a:=rN (dt a k)) hU;have d2:=DU (a:=rN (dt a k+1)) hU;have d3:=DU (a:=rN (dt a (k+2))) hV;have d4:=DU (a:=rN (dt a (k+2)+1)) hV;generalize rN (dt a k)/rN (10^k)=w1 at*
  generalize rN (dt a k+1)/rN (10^k)=w2 at*
  generalize rN (dt a (k+2))/rN (10^(k+2))=w3 at*
  generalize rN (dt a (k+2)+1)/rN (10^(k+2))=w4 at*
  refine ⟨OA (c:=rN (10^(k+2))) ?_ hV,OA (c:=rN (10^(k+2))) ?_ hV⟩
  ·rw [d3,TP,<-uy,d1,uI];exact g1
  ·rw [d4,TP,<-uy,d2,uI];exact g2
def al1 {a:Rat} {K k:Nat} (ha:0<=a) (ka:Hq K a):Hq (K+(12*k+5)) (kJ a k)/\Hq (K+(12*k+5)) (kK a k):=by
 have kf:=PI (k:=k) ha ka;have kt:=Ej k;have kN:Hq (K+(8*k+2)) (rN (dt a k)):=ji (Nat.lt_of_le_of_lt (rX _) kf) (by omega);have N1:Hq (K+(8*k+2)+1+1) (rN (dt a k+1)):=by rw [<-GR];exact kN.add (ji (a:=1) (K:=1) (by decide) (by decide))
 unfold kJ kK
 cases hx:kV a with
 | true=>exact ⟨by rw [yz rfl];exact (Lp ha ka hx).mono (by omega),by rw [yz rfl];exact (Lp ha ka hx).mono (by omega)⟩
 | false=>exact ⟨by rw [yp (by simp)];exact (kN.div kt).mono (by omega),by rw [yp (by simp)];exact (N1.div kt).mono (by omega)⟩
def mf (b:Rat):Rat:=if b<0 then -b else b
def axS (b:Rat):0<=mf b:=by unfold mf;split<;>grind
def axT (b:Rat):mf b*mf b=b*b:=by unfold mf;split<;>grind
def aBH {x y:Rat} (hx:0<=x) (hy:0<=y) (h:x*x=y*y):x=y:=by
 by_cases h1:x<y
 ·have:=vO h1 (show 0<y by grind)
  have:=wT (vn h1) hx
  grind
 ·by_cases h2:y<x
  ·have:=vO h2 (show 0<x by grind)
   have:=wT (vn h2) hy
   grind
  ·grind
def aC9 (b:Rat):kV (b*b)=true/\iW (b*b)=mf b:=by
 have h:kV (b*b)=true:=by
  unfold kV;have hc:Nat.Coprime b.num.natAbs b.den:=b.reduced;have e:b*b=Rat.divInt ((b.num.natAbs*b.num.natAbs:Nat):Int) ((b.den*b.den:Nat):Int):=by
   rw [Int.natAbs_mul_self,Int.natCast_mul]
   conv=>lhs;rw [<-Rat.num_divInt_den b,Rat.divInt_mul_divInt]
  obtain ⟨h1,h2⟩:=ae8 (r:=b.num.natAbs*b.num.natAbs) (s:=b.den*b.den) (Nat.mul_pos b.den_pos b.den_pos) (ycj (th hc hc) (th hc hc));rw [<-e] at h1 h2;rw [h1,h2,yQ,agS,agS]
  simp
 refine ⟨h,?_⟩;have hb:=sq_nonneg b;have h3:=(Lo hb h).2.2;refine aBH ?_ (axS b) (by rw [h3,axT]);unfold iW;rw [xY];exact vA (LO _) (vn (Gg (GS (J0 _))))
end
section
open Go (IntKind)
structure UU (P:aJ) (L:Lib):Prop where
 b:Ck P L
 r:Rn P L
 aFx:Has P L 187 Qr
 Fh:Has P L 192 ED
 Ff:Has P L 206 Au
 iO:Has P L 214 rF
 Fg:Has P L 215 Ho
 C2:Has P L 216 EE
 AW:Has P L 235 CD
 AU:Has P L 236 EI
 nO:Has P L 237 Av
 eE:Has P L 261 nJ
 mS:Has P L 283 Aw
 bD:Has P L 315 fU
 me:Has P L 359 pW
 C3:Has P L 389 EM
 Io:Has P L 418 CJ
 eQ:Has P L 419 mL
 ach:Has P L 420 QE
 sD:ai P L 179 [] (.bool true)
def PK {a:Rat} (h:a<0):RT a=45::RT (-a):=by
 have hn:a.num<0:=by
  have:=Rat.num_nonneg (q:=a)
  apply Int.not_le.1;intro hc
  have:=this.1 hc
  grind
 rw [G2,G2,jZ hn,Rat.neg_num,Rat.neg_den];obtain ⟨m,hm⟩:∃m:Nat,-a.num=m:=⟨(-a.num).toNat,by omega⟩;rw [hm,jY,show a.num.natAbs=m by omega];rfl
def aj0 {k:Nat} {s:List Nat} (hk:k<=100) (h:cS k s=true):s.length<=1000/\bE s=0/\Hq (4*k) (ae s):=by
 unfold cS at h;simp only [Bool.and_eq_true,xt] at h;obtain ⟨h1,h2,h3,h4⟩:=h
 exact ⟨by omega,h2,F9 (k:=k) (by omega) (by omega),F9 (z:=((ae s).den:Int)) (k:=k) (by rw [yQ];omega) (by omega)⟩
section
variable {P:aJ} {L:Lib}
def aDa (h:Rm P L) {a:Rat} {K:Nat} (ka:Hq K a) (hK:K<=1000000):ai P L 285 [.str (RT a)] (.str (RT (mf a))):=by
 have e1:=Cv h ka (by omega);have d0:decide (bG a.num<0)=decide (a<0):=by
  have h:=kX a 0
  rwa [<-zT,wE,uW,tq] at h
 have hl:=pK ka;unfold mf;unfold ai at e1 ⊢;rw [ax h.an0];by_cases h0:a<0
 ·rw [yz h0];have hc:=Ku (s:=RT a) (k:=1) (by rw [PK h0];simp)
  rw [show (RT a).drop 1=RT (-a) by rw [PK h0];rfl] at hc
  simp only [PK h0,yx] at hc e1;rw [PK h0];simp only [go_sem,ya,Hv,e1,d0,h0,ym,eR,eZ,dO,yx,hc]
 ·rw [yp h0];simp only [go_sem,ya,Hv,e1,d0,h0,yk]
def aFy (h:Has P L 187 Qr) (x y:List Nat):ai P L 187 [.str x,.str y] (.agg [.str x,.str y]):=by
 unfold ai;rw [ax h];simp only [go_sem,ya,yb,Nat.reduceLeDiff,Qr,az,bP];rfl
def aFz (h:Rp P L) (bD:Has P L 315 fU) (ach:Has P L 420 QE) {a b c d:Rat} {K:Nat} (ka:Hq K a) (kb:Hq K b) (kc:Hq K c) (kd:Hq K d) (hK:K<=1000000) (h1:c<=a) (h2:b<=d):ai P L 420 [cF a b,cF c d] (.bool true):=by
 have e1:=lV h bD kc ka (by omega);have e2:=lV h bD kb kd (by omega);have d1:=ri c a;have d2:=ri b d;rw [yD h1] at d1;rw [yD h2] at d2;unfold ai at e1 e2 ⊢;rw [ax ach];simp only [go_sem,ya,yb,QE,cF,az,aP,yd,bj,ye,e1,e2,d1,d2]
end
section
variable {P:aJ} {L:Lib}
def aqW (h:UU P L) {a b:List Nat} {k:Int} (la:a.length<9223372036854775808) (lb:b.length<9223372036854775808):ai P L 418 [.str a,.str b,ab k] (.bool true):=by
 have ea:=h.sD;have e1:ai P L 359 [.str a,ab 30] (.bool (cS 30 a)):=P6 h.r.toRm h.me (k:=30) (by decide) la;have e2:ai P L 359 [.str b,ab 30] (.bool (cS 30 b)):=P6 h.r.toRm h.me (k:=30) (by decide) lb
 cases w1:cS 30 a with
 | false=>
  rw [w1] at e1;unfold ai at ea e1 ⊢;rw [ax h.Io];simp only [go_sem,ya,CJ,ea,e1,yI,yH]
 | true=>
  rw [w1] at e1
  cases w2:cS 30 b with
  | false=>
   rw [w2] at e2;unfold ai at ea e1 e2 ⊢;rw [ax h.Io];simp only [go_sem,ya,CJ,ea,e1,e2,yI,yH]
  | true=>
   rw [w2] at e2;by_cases k1:k<1
   ·unfold ai at ea e1 e2 ⊢;rw [ax h.Io];simp only [go_sem,ya,CJ,ea,e1,e2,k1,ym,yI]
   ·by_cases k2:10<k
    ·unfold ai at ea e1 e2 ⊢;rw [ax h.Io];simp only [go_sem,ya,CJ,ea,e1,e2,k1,k2,ym,yk,yI]
    ·obtain ⟨m,rfl⟩:∃m:Nat,k=m:=⟨k.toNat,by omega⟩;obtain ⟨sa,ca,ka⟩:=aj0 (by decide) w1;obtain ⟨sb,cb,kb⟩:=aj0 (by decide) w2;have R:=fun {s:List Nat} (k:Int) (hs:s.length<=1000000000)=>aom h.b h.Fh h.Ff h.iO h.Fg h.C2 h.AW h.AU h.nO (s:=s) (k:=k) hs
     have TQ:Hq 240 (ae b*ae b):=kb.mul kb;have lbb:=pK TQ;have r1:=R (s:=a) (m:Int) (by omega);have r2:=R (s:=a) ((m+2:Nat):Int) (by omega);have r3:=R (s:=RT (ae b*ae b)) (m:Int) (by omega);have wk:IntKind.wrap .i64 ((m:Int)+2)=((m+2:Nat):Int):=by rw [wrap64 (by omega) (by omega)];rfl
     have hEb:im (RT (ae b*ae b)) (m:Int)=0:=by
      unfold im
      rw [We TQ (by decide),P5 TQ (by decide),yp (by simp),yp (by have:=sq_nonneg (ae b);grind),yp (by omega)]
      rfl
     obtain ⟨x1,x2⟩:=aC9 (ae b);have kab:Hq 120 (mf (ae b)):=by unfold mf;split;exact kb.neg;exact kb
     unfold FR at r3;rw [hEb,yp (by simp),P5 TQ (by decide)] at r3;unfold kJ kK at r3;rw [x1,yz rfl,yz rfl,x2,Gi kab kab (by decide)] at r3;have q1:=gL h.r kb kb (by decide);have q2:=aDa h.r.toRm kb (by decide);have q3:=aFy h.aFx (RT (mf (ae b))) (RT (mf (ae b)));rw [<-(dZ cb).1] at q1 q2;have q4:=GQ (RT (mf (ae b))) (RT (mf (ae b))) (RT (mf (ae b))) (RT (mf (ae b)));rw [sh] at q4;have q5:=Cv h.r.toRm ka (by decide);have d0:decide (bG (ae a).num<0)=decide (ae a<0):=by
      have h:=kX (ae a) 0
      rwa [<-zT,wE,uW,tq] at h
     rw [<-(dZ ca).1] at q5;unfold bF at q4;by_cases hn:ae a<0
     ·have E:∀j:Nat,1<=j->j<=12->im a (j:Int)=3:=fun j _ _=>by
       unfold im;rw [yp (show ¬bE a≠0 by simp [ca]),yz hn];rfl
      unfold FR at r1 r2;rw [E m (by omega) (by omega),yz (by decide)] at r1;rw [E (m+2) (by omega) (by omega),yz (by decide)] at r2;unfold bF at r1 r2;unfold ai at ea e1 e2 r1 r2 r3 q1 q2 q3 q5 ⊢;rw [ax h.Io];simp only [go_sem,ya,yb,CJ,az,ea,e1,e2,k1,k2,ym,yk,yI,wk,r1,r2,r3,q1,q2,q3,q4,q5,d0,hn,bP,cp,VM,we]
     ·have pa:0<=ae a:=by grind
      have E:∀j:Nat,1<=j->j<=12->im a (j:Int)=0:=fun j _ _=>by
       unfold im;rw [yp (show ¬bE a≠0 by simp [ca]),yp hn,yp (by omega)];rfl
      obtain ⟨K1,K2⟩:=al1 (k:=m) pa ka;obtain ⟨K3,K4⟩:=al1 (k:=m+2) pa ka;have K1:=K1.mono (show _<=400 by omega);have K2:=K2.mono (show _<=400 by omega);have K3:=K3.mono (show _<=400 by omega);have K4:=K4.mono (show _<=400 by omega);have A1:=al0 pa m;have A2:=al0 pa (m+2);obtain ⟨A3,A4⟩:=axR pa m;unfold FR at r1 r2;rw [E m (by omega) (by omega),yp (by simp),xC,Gi K1 K2 (by decide)] at r1;rw [E (m+2) (by omega) (by omega),yp (by simp),xC,Gi K3 K4 (by decide)] at r2;generalize kJ (ae a) m=B1 at*
      generalize kK (ae a) m=B2 at*
      generalize kJ (ae a) (m+2)=B3 at*
      generalize kK (ae a) (m+2)=B4 at*
      have lT:∀{x:Rat},Hq 400 x->(RT x).length<=1000000000:=fun k=>Nat.le_trans (pK k) (by decide)
      have z1:=C1 h.r.toRp h.eE h.bD h.eQ (lT K1) (lT K2);have z2:=C1 h.r.toRp h.eE h.bD h.eQ (lT K3) (lT K4);rw [Lm K1 K2 (by decide) A1.le] at z1;rw [Lm K3 K4 (by decide) A2.le] at z2;have z3:=aFz h.r.toRp h.bD h.ach K3 K4 K1 K2 (by decide) A3 A4;have z4:=Cv h.r.toRm K1 (by decide);have d4:decide (bG B1.num<0)=false:=by
       have h:=kX B1 0;rw [<-zT,wE,uW,tq] at h
       rw [h];exact yC (by have:=A1.nn;grind)
      have z5:=gL h.r K1 K1 (by decide);have z6:=lV h.r.toRp h.bD (K1.mul K1) ka (by decide);have z7:=gL h.r K2 K2 (by decide);have z8:=lV h.r.toRp h.bD (K2.mul K2) ka (by decide);rw [<-(dZ ca).1] at z6 z8;have d6:=ri (B1*B1) (ae a);have d8:=Pk (B2*B2) (ae a);rw [yD A1.low] at d6;rw [yD A1.high] at d8;have z9:=Cw h.r.toRp K2 K1 (by decide);have JT:=aC8 h.r h.mS h.C3 (b:=rN 10) (K:=5) (k:=m) (ji (by decide) (by decide)) (by omega) (by omega) (by omega) (by intro e;have:=GS (m:=10) (by decide);grind) (by decide)
      rw [show RT (rN 10)=[49,48] by decide] at JT;have kp:Hq 400 (pw (rN 10)⁻¹ m):=(G7 (Hq.inv (ji (a:=10) (K:=5) (by decide) (by decide))) m).mono (by omega);have N2:=lV h.r.toRp h.bD (K2.sub K1) kp (by decide);have d11:=ri (B2-B1) (pw (rN 10)⁻¹ m);rw [yD A1.wide] at d11;have w0:IntKind.wrap .i64 (0-(m:Int))= -(m:Int):=by rw [Int.zero_sub];exact wrap64 (by omega) (by omega)
      unfold bF at z1 z2;unfold cF at z3;unfold ai at ea e1 e2 r1 r2 r3 q1 q2 q3 q5 z1 z2 z3 z4 z5 z6 z7 z8 z9 JT N2 ⊢;rw [ax h.Io];simp only [go_sem,ya,yb,CJ,az,aP,yd,bj,ye,ea,e1,e2,k1,k2,ym,yk,yI,wk,r1,r2,r3,q1,q2,q3,q4,q5,d0,hn,aU,bP,cp,VM,we,z1,z2,z3,z4,d4,z5,z6,d6,z7,z8,d8,z9,w0,JT,N2,d11,G6,Int.add_zero]
end
end
section
open Go (IntKind)
abbrev Kx:List Ty:=[.str,.str,.int .i64]
def aqq {P:aJ} {L:Lib} (h:UU P L) {ls:List (List AV)} (hs:hJ iU Kx ls):ai P L 418 (oz Kx ls) (.bool true):=by
 obtain ⟨_,_,_,rfl,h1,h2,h3⟩:=PC hs;obtain ⟨a,rfl,la,_⟩:=h1;obtain ⟨b,rfl,lb,_⟩:=h2;obtain ⟨k,rfl,hk⟩:=h3;exact aqW h la lb
end
section
namespace J2
open Go Go.Proofs
def T:List (Tr aq):=[.n 179 [.o 7 [] (.bool true)] .l .l]
def L0:VE.Lib:=Ei VE.aE 99 BY
def L1:VE.Lib:=CO L0 T 1000
def nu:Nu VE.prog VE.aE:=by
 repeat' (first | rfl | constructor)
def lw:UU VE.prog L1:=by
 repeat' (first | rfl | constructor)
section
variable {W:World} {m:Int} (hm:W.cell? ⟨1,0,none⟩=some (.int .i64 m)) (ht:Go.Lib.TabIs Tryz.prog W "internal/strconv.uint64pow10" .u64 Go.Lib.pow10Tab)
include hm ht
def linked:ep ((J1.O W).oh L1):=by
 have hO:=J1.KF hm ht;have hs:=Kj hO nu rfl rfl rfl ⟨rfl,rfl,rfl⟩ (fn:=Tryz.f193) (c:=p8) Tryz.func193 rfl rfl trivial Ks;have hT:dB (J1.O W) T:=dB.cons (Tr.il (jg.one (ml.holds hO rfl rfl)) Tr.fD Tr.fD) dB.nil;exact Gn (Kk hO hs) hT 1000
def law {ls:List (List AV)} (hs:hJ iU Kx ls):dF (J1.O W) 418 (oz Kx ls) (.bool true):=by
 obtain ⟨k,hk⟩:=GN (aqq lw hs);exact sound (linked hm ht) hk
end
end J2
end
end VE
