import Derived.Test.YtjemkccfpkgopaaGreatDoorXap
import Derived.Test.YtjemkccfpkgopaaGreatDoorXad
import Derived.Test.YtjemkccfpkgopaaGreatDoorXao
set_option linter.all false
set_option maxRecDepth 100000
open BitVec renaming ofInt→xL,ofNat→uG,toNat_ofNat→vK
open Bool renaming and_self→xM,false_eq_true→yN,not_false→yP,not_true→yM
open Go renaming Code→wX,Func→ybd,World→yi
open Go.Fence renaming wide→yaz
open Int renaming ediv_emod_unique→tf,gcd→vc,gcd_comm→ybz,natAbs_ediv_of_dvd→uj,natAbs_mul→yaY,natCast_mul→vj,pow_zero→tY,reduceEq→uy,reduceLT→yby
open List renaming append_assoc→xq,drop_zero→yK,length_append→yL,length_cons→yz,length_nil→yO,length_pos_iff→tg,map_append→xu,map_map→vE,map_reverse→tK,nil_append→xG
open Nat renaming add_zero→y8,beq→yu,ble→yE,ble_eq_true_of_le→yo,blt→yR,div_add_mod→xR,div_eq_of_lt→wS,div_le_self→vI,le_refl→yr,le_trans→xi,lt_of_le_of_lt→wQ,lt_of_lt_of_le→yT,mod_eq_of_lt→yW,mod_le→ybR,mod_lt→xy,mul_add→xA,mul_le_mul_left→yZ,mul_lt_mul''→tS,mul_one→yh,mul_zero→xB,pow_add→wR,pow_le_pow_left→vU,pow_le_pow_right→xh,pow_one→ybI,pow_pos→ybG,pow_succ→xd,reduceAdd→yb,reduceEqDiff→ya,reduceLT→yD,reduceLeDiff→yp,reduceMul→xg,zero_add→yf
open Rat renaming den_divInt→yba,divInt→wJ,divInt_ofNat→yaM,num_divInt→yaZ
open UInt8 renaming toNat→xb
namespace VE
section
open Go (IntKind)
def du (s:Int) (w:AV) (z:Int):Prop:=
 (w= .aa/\s=z/\-9223372036854775808<=z/\z<9223372036854775808)\/
 (∃e l,w= .aA e l.length (l.map uc)/\lo 18446744073709551616 l/\gm l/\bv 18446744073709551616 l=z.natAbs/\s=(if z<0 then -1 else 1)/\9223372036854775808<=z.natAbs)
def cF (v:AV) (z:Int):Prop:=∃s w,v= .agg [ab s,w]/\du s w z
def Bd (k:Nat) (z:Int):Prop:=z.natAbs<2^k
def AW (k:Nat):2^k<=18446744073709551616^k:=vU (by decide) k
def Bd.mono {k m:Nat} {z:Int} (h:Bd k z) (hk:k<=m):Bd m z:=yT h (xh (by decide) hk)
def Bd.neg {k:Nat} {z:Int} (h:Bd k z):Bd k (-z):=by unfold Bd at h ⊢;rwa [Int.natAbs_neg]
def Bd.add {k m:Nat} {a b:Int} (ha:Bd k a) (hb:Bd m b):Bd (max k m+1) (a+b):=by
 have h1:Bd (max k m) a:=ha.mono (by omega);have h2:Bd (max k m) b:=hb.mono (by omega);unfold Bd at h1 h2 ⊢
 grind
def Bd.mul {k m:Nat} {a b:Int} (ha:Bd k a) (hb:Bd m b):Bd (k+m) (a*b):=by
 unfold Bd at*
 rw [yaY,wR];exact tS ha hb
def Bd.le {k:Nat} {a b:Int} (hb:Bd k b) (h:a.natAbs<=b.natAbs):Bd k a:=wQ h hb
def WN.pos {v:AV} {m:Nat} (h:WN v m) (h0:0<m):∃e l,v= .aA e l.length (l.map uc)/\l≠[]/\lo 18446744073709551616 l/\gm l/\bv 18446744073709551616 l=m:=by
 obtain ⟨l,hv,g,n,hb⟩:=h;have hl:l≠[]:=fun e=>by subst e;simp [bv] at hb;omega
 rcases hv with ⟨_,e⟩ | ⟨e,rfl⟩
 ·simp_all
 ·exact ⟨e,l,by simp,hl,g,n,hb⟩
def WN.aY {v:AV} {m:Nat} (h:WN v m):∃l,bU v l/\lo 18446744073709551616 l/\gm l/\bv 18446744073709551616 l=m:=h
def nR (e:Bool) (n:Nat) (cs:List AV):jI .sl (.aA e n cs) .aa=some false:=rfl
def gI:jI .sl .aa .aa=some true:=rfl
def MF (hp:Hp) (ct id:Nat) (a:Int) (e:Bool) (n:Nat) (cs:List AV) (x y:AV):ji hp ct id 0 2 [.int .i64 a,.aA e n cs] (some (.cells true true true 2 [x,y]))=some (.ae [],bc hp id (.cells true true true 2 [.int .i64 a,.aA e n cs]),ct):=gH rfl rfl rfl rfl
def rC {tm:Env} {a x y:AV} {r:List (Nat×Nat×X)} (h:dh a=true):nT tm [x,y] 0 1 [a] r=fill tm [a,y] r:=agB (by simp) h
def du.oS {z:Int} (h1: -9223372036854775808<=z) (h2:z<9223372036854775808):cF (.agg [ab z,.aa]) z:=⟨z,.aa,rfl,.inl ⟨rfl,rfl,h1,h2⟩⟩
def du.df {s:Int} {w:AV} {z:Int} (h:du s w z):(s<0↔z<0)/\(s=0↔z=0)/\-9223372036854775808<=s/\s<9223372036854775808:=by
 rcases h with ⟨_,rfl,h1,h2⟩ | ⟨e,l,_,_,_,_,rfl,h1⟩
 ·grind
 ·grind
section
variable {P:aI} {L:Lib}
structure Nu (P:aI) (L:Lib):Prop extends Wd P L where
 aBx:Has P L 117 NG
 aBy:Has P L 142 NI
 X6:Has P L 136 Jn
 J7:Has P L 145 zH
 aBz:Has P L 146 To
 X7:Has P L 147 Jp
 akH:Has P L 163 NN
 aBA:Has P L 118 C3
 akI:Has P L 119 c119
 aBB:Has P L 156 Tq
 O0:Has P L 100 mA
 X8:Has P L 164 mB
 aBC:Has P L 148 Tp
 aBD:Has P L 130 Tn
def Dg (h:Nu P L) {z:Int} (h1: -9223372036854775808<=z) (h2:z<9223372036854775808):aj P L 117 [ab z] (.agg [ab z,.aa])/\cF (.agg [ab z,.aa]) z:=⟨n117 h.aBx z,du.oS h1 h2⟩
def X9 (h:Nu P L) {n:Int} (h1: -9223372036854775808<=n) (h2:n<9223372036854775808):aj P L 142 [ab n] (uc n.natAbs):=by
 unfold aj;rw [aH h.aBy];by_cases h0:n<0
 ·have e:IntKind.wrap .u64 (IntKind.wrap .i64 (0-n))=(n.natAbs:Int):=by
   by_cases hm:n= -9223372036854775808
   ·subst hm;rfl
   ·rw [wrap64 (by omega) (by omega),Nh];omega
  simp only [go_sem,ya,NI,h0,ah3,e]
 ·have e:IntKind.wrap .u64 n=(n.natAbs:Int):=by rw [Nh];omega
  simp only [go_sem,ya,NI,h0,ah3,e]
def zT (h:Nu P L) {s:Int} {w:AV} {z:Int} (hz:du s w z):∃r,aj P L 136 [.agg [ab s,w]] (.ae [.bool (decide (z<0)),r])/\WN (bH r) z.natAbs:=by
 rcases hz with ⟨rfl,rfl,h1,h2⟩ | ⟨e,l,rfl,g,n,hb,hs,h1⟩
 ·by_cases h0:s=0
  ·subst h0;refine ⟨.aa,?_,[],sX,MT,rfl,rfl⟩;unfold aj;rw [aH h.X6];simp only [go_sem,ya,yb,Jn,bh,b8,yf,db,gI,IP,yby];rfl
  ·have e1:=X9 h h1 h2;refine ⟨.bD true 1 1 [uc s.natAbs],?_,[s.natAbs],mW true [s.natAbs],EK.2 (by omega),D2 (by omega) [],AU _⟩;unfold aj;rw [aH h.X6];simp only [go_sem,ya,yb,yp,yh,Jn,bh,b8,yf,db,gI,IP,h0,e1];rfl
 ·have z6:decide (s<0)=decide (z<0):=by rw [hs];split<;>simp<;>omega
  refine ⟨.aA e l.length (l.map uc),?_,l,mW e l,g,n,hb⟩;unfold aj;rw [aH h.X6];simp only [go_sem,ya,yb,Jn,bh,b8,yf,db,nR,IP,z6];rfl
def acb {d:Nat} (h:d<=9223372036854775807):IntKind.wrap .i64 (d:Int)=d:=wrapN (by omega)
def Dh (h:Nu P L) (neg:Bool) {w:AV} {m K:Nat} (hw:WN w m) (hm:m<18446744073709551616^K) (hK:K<=90000000000):∃r,aj P L 145 [.bool neg,w] r/\cF r (cD neg m):=by
 obtain ⟨l,hu,g,n,hb⟩:=hw;have lV:l.length<=90000000000:=xi (n8 n hb hm) hK;by_cases h0:l=[]
 ·subst h0
  have:m=0:=by rw [<-hb];rfl
  subst this;have e:cD neg 0=0:=by unfold cD;cases neg<;>rfl
  rw [e];refine ⟨.agg [ab 0,.aa],?_,du.oS (by decide) (by decide)⟩;unfold aj;rw [aH h.J7];simp only [go_sem,ya,yb,zH,bh,hu.len,yO,show (((0:Nat):Nat):Int)=0 from rfl,rI];rfl
 ·have j9:0<l.length:=tg.2 h0;by_cases h1:l.length=1/\l.getD 0 0<=9223372036854775807
  ·obtain ⟨h1,h2⟩:=h1;obtain ⟨d,rfl⟩:∃d,l=[d]:=by
    cases l with
    | nil=>simp at h1
    | cons d r=>cases r with
     | nil=>exact ⟨d,rfl⟩
     | cons e r=>simp at h1
   have h2:d<=9223372036854775807:=h2;rw [AU] at hb;subst hb;have ex:=hu.aQ (i:=0) (by simp);rw [show ([d]:List Nat).getD 0 0=d from rfl] at ex;have hlen:∀hp,fP hp 1 w=some (.int .i64 1):=fun hp=>hu.len
   cases neg with
   | true=>
    refine ⟨.agg [ab (0-(d:Int)),.aa],?_,?_⟩
    ·unfold aj;rw [aH h.J7]
     simp only [go_sem,ya,yb,yp,zH,bh,hlen,uy,ex,show (d:Int)<=9223372036854775807 by omega,MV,acb h2,wrap64 (n:=0-(d:Int)) (by omega) (by omega),rI];rfl
    ·have:cD true d=0-(d:Int):=by unfold cD;simp
     rw [this];exact du.oS (by omega) (by omega)
   | false=>
    refine ⟨.agg [ab (d:Int),.aa],?_,?_⟩
    ·unfold aj;rw [aH h.J7];simp only [go_sem,ya,yb,yp,zH,bh,hlen,uy,ex,show (d:Int)<=9223372036854775807 by omega,MV,acb h2,rI];rfl
    ·have:cD false d=(d:Int):=by unfold cD;simp
     rw [this];exact du.oS (by omega) (by omega)
  ·have hm0:9223372036854775808<=m:=by
    rw [<-hb];by_cases h2:l.length=1
    ·obtain ⟨d,rfl⟩:∃d,l=[d]:=by
      cases l with
      | nil=>simp at h2
      | cons d r=>cases r with
       | nil=>exact ⟨d,rfl⟩
       | cons e r=>simp at h2
     have:¬d<=9223372036854775807:=fun hd=>h1 ⟨h2,hd⟩
     rw [AU];omega
    ·have h3:=Sn (b:=18446744073709551616) (by decide) n h0;have h4:18446744073709551616^1<=18446744073709551616^(l.length-1):=xh (by decide) (by omega);rw [ybI] at h4;omega
   have dB:∃e,w= .aA e l.length (l.map uc):=by
    rcases hu with ⟨rfl,hh⟩ | ⟨e,rfl⟩
    ·simp at hh;exact absurd hh h0
    ·exact ⟨e,by simp⟩
   obtain ⟨e,rfl⟩:=dB;have ex:=hu.aQ (i:=0) j9;have first:(decide ((l.length:Int)=1)=true/\¬((l.getD 0 0:Nat):Int)<=9223372036854775807)\/decide ((l.length:Int)=1)=false:=by
    by_cases h2:l.length=1
    ·left;refine ⟨by simp;omega,fun hd=>h1 ⟨h2,by omega⟩⟩
    ·right;simp;omega
   cases neg with
   | true=>
    refine ⟨.agg [ab (-1),.aA e l.length (l.map uc)],?_,-1,_,rfl,.inr ⟨e,l,rfl,g,n,by rw [hb];unfold cD;simp,by unfold cD;simp;omega,by unfold cD;simp;omega⟩⟩
    unfold aj;rw [aH h.J7];rcases first with ⟨f1,f2⟩ | f1
    ·simp only [go_sem,ya,yb,yp,zH,bh,show ¬(l.length:Int)=0 by omega,f1,f2,ex,rC,MF];rfl
    ·simp only [go_sem,ya,yb,yp,zH,bh,show ¬(l.length:Int)=0 by omega,f1,rC,MF];rfl
   | false=>
    refine ⟨.agg [ab 1,.aA e l.length (l.map uc)],?_,1,_,rfl,.inr ⟨e,l,rfl,g,n,by rw [hb];unfold cD;simp,by unfold cD;simp,by unfold cD;simp;omega⟩⟩
    unfold aj;rw [aH h.J7];rcases first with ⟨f1,f2⟩ | f1
    ·simp only [go_sem,ya,yb,yp,zH,bh,show ¬(l.length:Int)=0 by omega,f1,f2,ex,rC,MF];rfl
    ·simp only [go_sem,ya,yb,yp,zH,bh,show ¬(l.length:Int)=0 by omega,f1,rC,MF];rfl
end
end
section
open Go (IntKind)
def bt:VC->VC
 | .seq a _=>a
 | c=>c
def asp {a b:Int} {x y:Nat} (ha:a.natAbs=x) (hb:b.natAbs=y) (h:decide (a<0)=decide (b<0)):cD (decide (a<0)) (x+y)=a+b:=by
 unfold cD
 grind
def adb {a b:Int} {m:Nat} (hm:m+b.natAbs=a.natAbs) (h:¬decide (a<0)=decide (b<0)):cD (decide (a<0)) m=a+b:=by
 unfold cD
 grind
def asq {a:Int}:cD (!decide (a<0)) a.natAbs= -a:=by
 unfold cD
 grind
def ade {a b:Int}:cD (decide (a<0) !=decide (b<0)) (a.natAbs*b.natAbs)=a*b:=by
 unfold cD
 grind
def nd {s:Int} {w:AV} {l:List Nat} (h:bU w l) (hp:Hp):result hp (.agg [ab s,w])=some (.agg [ab s,w]):=by
 rcases h with ⟨rfl,_⟩ | ⟨e,rfl⟩<;>rfl
def dX {s:Int} {w:AV} {l:List Nat} (h:bU w l) (hp:Hp) (ct id:Nat) (x y:AV):ji hp ct id 0 2 [.int .i64 s,w] (some (.cells true true true 2 [x,y]))=some (.ae [],bc hp id (.cells true true true 2 [.int .i64 s,w]),ct):=gH rfl h.one rfl h.pu
def du.aY {s:Int} {w:AV} {z:Int} (h:du s w z):∃l,bU w l:=by
 rcases h with ⟨rfl,_⟩ | ⟨e,l,rfl,_⟩
 ·exact ⟨[],sX⟩
 ·exact ⟨l,mW e l⟩
def aiW (hp:Hp) (sz:Nat) (ag:Bool):AV->Option AV
 | .ptr id o=>PM sz ag o (aq hp id)
 | .b5 cs=>ib sz ag cs
 | _=>none
def fa (tm:Env) (hp:Hp) (ct base i sz:Nat) (ag:Bool):results1 ⟨tm,hp,ct,base⟩ (.cell i sz ag)=aiW hp sz ag (ai tm i):=by
 rfl
def fb (hp:Hp) (sz:Nat) (ag:Bool) (id o:Nat):aiW hp sz ag (.ptr id o)=PM sz ag o (aq hp id):=rfl
section
variable {P:aI} {L:Lib}
def FH (h:Nu P L) {v:AV} {z:Int} (hv:cF v z):aj P L 146 [v] (ab (df z)):=by
 obtain ⟨s,w,rfl,hn⟩:=hv;obtain ⟨l,hu⟩:=hn.aY;have e:df s=df z:=by
  obtain ⟨h1,h2,_⟩:=hn.df;unfold df;by_cases h0:z<0
  ·rw [yQ h0,yQ (h1.2 h0)]
  ·by_cases h3:z=0
   ·rw [yB (fun h=>h0 (h1.1 h)),yQ (h2.2 h3),yB h0,yQ h3]
   ·rw [yB (fun h=>h0 (h1.1 h)),yB (fun h=>h3 (h2.1 h)),yB h0,yB h3]
 unfold aj;rw [aH h.aBz];simp only [go_sem,ya,yb,To,bh,hu.pu,hu.one,b8,yf,ah2,IN,ac4,HW,axZ,e]
def FI (h:Nu P L) {v:AV} {z:Int} {K:Nat} (hv:cF v z) (hz:Bd K z) (hK:K<=90000000000):∃r,aj P L 147 [v] r/\cF r (-z):=by
 obtain ⟨s,w,rfl,hn⟩:=hv;obtain ⟨p,e1,hp⟩:=zT h hn;obtain ⟨lp,iC,_⟩:=hp.aY;obtain ⟨r,e2,hr⟩:=Dh h (!decide (z<0)) hp (yT hz (AW K)) hK;rw [asq] at hr;have bn:=hr;obtain ⟨s',w',rfl,jd⟩:=hr;obtain ⟨l',jl⟩:=jd.aY;rcases hn with ⟨rfl,rfl,h1,h2⟩ | ⟨e,l0,rfl,g,n,hb,hs,h1⟩
 ·by_cases h0:s= -9223372036854775808
  ·refine ⟨_,?_,bn⟩;unfold aj;rw [aH h.X7];simp only [go_sem,ya,yb,Jp,bh,b8,yf,db,gI,ek,h0];rw [h0] at e1 e2;simp only [go_sem,ya,cp,cG,e1,e2,iC.ak,b6,fa,fb,cp,yK,nd jl,dX jl]
  ·refine ⟨.agg [ab (-s),.aa],?_,du.oS (by omega) (by omega)⟩;unfold aj;rw [aH h.X7]
   simp only [go_sem,ya,yb,Jp,bh,b8,yf,db,gI,ek,h0,wrap64 (n:=0-s) (by omega) (by omega),rI,rC];rw [Int.zero_sub];rfl
 ·refine ⟨_,?_,bn⟩;unfold aj;rw [aH h.X7];simp only [go_sem,ya,yb,Jp,bh,b8,yf,db,nR,ek,cp,cG,e1,e2,iC.ak,b6,fa,fb,cp,yK,nd jl,dX jl]
def akJ (h:Nu P L) {v:AV} {z:Int} {K:Nat} (hv:cF v z) (hz:Bd K z) (hK:K<=90000000000):∃r,aj P L 163 [v] r/\cF r (z.natAbs:Nat):=by
 have eA:=hv;obtain ⟨s,w,rfl,hn⟩:=hv;obtain ⟨l,hu⟩:=hn.aY;have Gl:=hn.df.1;by_cases h0:z<0
 ·obtain ⟨r,e1,hr⟩:=FI h eA hz hK;rw [show -z=(z.natAbs:Int) by omega] at hr;have bn:=hr;obtain ⟨s',w',rfl,jd⟩:=hr;obtain ⟨l',jl⟩:=jd.aY;refine ⟨_,?_,bn⟩;unfold aj;rw [aH h.akH];simp only [go_sem,ya,yb,NN,bh,hu.pu,hu.ak,hu.one,b8,yf,Gl.2 h0,cp,cG,e1,b6,fa,fb,cp,yK,nd jl,dX jl]
 ·rw [show ((z.natAbs:Nat):Int)=z by omega];refine ⟨_,?_,eA⟩;unfold aj;rw [aH h.akH];simp only [go_sem,ya,yb,NN,bh,hu.pu,hu.one,b8,yf,show ¬s<0 from fun h=>h0 (Gl.1 h),cp,fa,fb,cp,yK,nd hu,dX hu]
def ayi (h:Nu P L) {s1 s2:Int} {w1 w2:AV} {a b:Int} {K:Nat} (ha:du s1 w1 a) (hb:du s2 w2 b) (ka:Bd K a) (kb:Bd K b) (hK:K<=40000000000):
  ∃r,cF r (a+b)/\∀tm,ai tm 2= .ptr 0 0->ai tm 3= .ptr 1 0->ai tm 4= .ptr 2 0->gh [.cell 4 2 true] (D P L (aC (aC c119.body)) ⟨tm,[(2,.cells true true true 2 [.int .i64 0,.aa]),(1,.cells true true true 2 [ab s2,w2]),(0,.cells true true true 2 [ab s1,w1])],3,0⟩)=some r:=by
 obtain ⟨l1,u1⟩:=ha.aY;obtain ⟨l2,u2⟩:=hb.aY;obtain ⟨p,e1,hp⟩:=zT h ha;obtain ⟨q,e2,hq⟩:=zT h hb;obtain ⟨lp,iC,gp,np,vp⟩:=hp.aY;obtain ⟨lq,oD,gq,nq,vq⟩:=hq.aY;have BZ:=yT ka (AW K);have Gm:=yT kb (AW K);have llp:lp.length<=40000000000:=xi (n8 np vp BZ) hK;have llq:lq.length<=40000000000:=xi (n8 nq vq Gm) hK;by_cases hs:decide (a<0)=decide (b<0)
 ·obtain ⟨o,nE,e3,ho,nD,no,vo⟩:=aBf h.aBp h.mD h.gi iC oD gp gq (by omega) (by omega);obtain ⟨r,e4,hr⟩:=Dh h (decide (a<0)) ⟨nE,ho,nD,no,vo⟩ (K:=K+1) (by rw [vp,vq,xd];omega) (by omega);rw [asp vp.symm vq.symm hs] at hr;have bn:=hr;obtain ⟨s',w',rfl,jd⟩:=hr;obtain ⟨l',jl⟩:=jd.aY;refine ⟨_,bn,fun tm t2 t3 t4=>?_⟩;simp only [go_sem,ya,c119,aC,t2,t3,cp,cG,u1.ak,u2.ak,e1,e2,iC.ak,oD.ak,ek,pq,hs,tT];rw [hs] at e4;simp only [go_sem,ya,t4,e3,ho.ak,ho.shut,e4,b6,fa,fb,cp,yK,nd jl,dX jl]
 ·have An:(decide (a<0)==decide (b<0))=false:=by simpa using hs
  have e3:=aks h.akD iC oD gp gq np nq (by omega) (by omega);rw [vp,vq] at e3;by_cases hc:b.natAbs<=a.natAbs
  ·obtain ⟨o,nE,e4,ho,nD,no,vo⟩:=akt h.akE h.mD h.rZ iC oD gp gq nq (by omega) (by rw [vp,vq];exact hc)
   rw [vp,vq] at vo;obtain ⟨r,e5,hr⟩:=Dh h (decide (a<0)) ⟨nE,ho,nD,no,rfl⟩ (K:=K) (by omega) (by omega);rw [adb vo hs] at hr;have bn:=hr;obtain ⟨s',w',rfl,jd⟩:=hr;obtain ⟨l',jl⟩:=jd.aY;have ef:(0:Int)<=dR a.natAbs b.natAbs:=by unfold dR;rw [yB (by omega)];split<;>decide
   refine ⟨_,bn,fun tm t2 t3 t4=>?_⟩;simp only [go_sem,ya,c119,aC,t2,t3,t4,cp,cG,u1.ak,u2.ak,e1,e2,iC.ak,oD.ak,ek,pq,An,e3,ef,e4,ho.ak,ho.shut,e5,b6,fa,fb,cp,yK,nd jl,dX jl]
  ·obtain ⟨o,nE,e4,ho,nD,no,vo⟩:=akt h.akE h.mD h.rZ oD iC gq gp np (by omega) (by rw [vp,vq];omega);rw [vp,vq] at vo;obtain ⟨r,e5,hr⟩:=Dh h (decide (b<0)) ⟨nE,ho,nD,no,rfl⟩ (K:=K) (by omega) (by omega);rw [adb vo (fun e=>hs e.symm),Int.add_comm] at hr;have bn:=hr;obtain ⟨s',w',rfl,jd⟩:=hr;obtain ⟨l',jl⟩:=jd.aY;have ef:¬(0:Int)<=dR a.natAbs b.natAbs:=by unfold dR;rw [yQ (by omega)];decide
   refine ⟨_,bn,fun tm t2 t3 t4=>?_⟩;simp only [go_sem,ya,c119,aC,t2,t3,t4,cp,cG,u1.ak,u2.ak,e1,e2,iC.ak,oD.ak,ek,pq,An,e3,ef,e4,ho.ak,ho.shut,e5,b6,fa,fb,cp,yK,nd jl,dX jl]
def J8 (h:Nu P L) {v w:AV} {a b:Int} {K:Nat} (hv:cF v a) (hw:cF w b) (ka:Bd K a) (kb:Bd K b) (hK:K<=40000000000):∃r,aj P L 119 [v,w] r/\cF r (a+b):=by
 obtain ⟨s1,w1,rfl,h1⟩:=hv;obtain ⟨s2,w2,rfl,h2⟩:=hw;obtain ⟨l2,u2⟩:=h2.aY;obtain ⟨r,hr,tail⟩:=ayi h h1 h2 ka kb hK;have fin:∀tm,ai tm 2= .ptr 0 0->ai tm 3= .ptr 1 0->ai tm 4= .ptr 2 0->
   D P L (.seq (bt c119.body) (bt (aC c119.body))) ⟨[(0,.agg [ab s1,w1]),(1,.agg [ab s2,w2])],[],0,0⟩=some (.normal,⟨tm,[(2,.cells true true true 2 [.int .i64 0,.aa]),(1,.cells true true true 2 [ab s2,w2]),(0,.cells true true true 2 [ab s1,w1])],3,0⟩)->aj P L 119 [.agg [ab s1,w1],.agg [ab s2,w2]] r:=fun tm t2 t3 t4 e=>by
  unfold aj;rw [aH h.akI];show gh [.cell 4 2 true] (D P L (.seq (bt c119.body) (.seq (bt (aC c119.body)) (aC (aC c119.body)))) ⟨[(0,.agg [ab s1,w1]),(1,.agg [ab s2,w2])],[],0,0⟩)=_
  have e2:D P L (.seq (bt c119.body) (.seq (bt (aC c119.body)) (aC (aC c119.body)))) ⟨[(0,.agg [ab s1,w1]),(1,.agg [ab s2,w2])],[],0,0⟩=nc P L (D P L (.seq (bt c119.body) (bt (aC c119.body))) ⟨[(0,.agg [ab s1,w1]),(1,.agg [ab s2,w2])],[],0,0⟩) (aC (aC c119.body)):=by
   rw [jY,jY]
   cases D P L (bt c119.body) ⟨[(0,.agg [ab s1,w1]),(1,.agg [ab s2,w2])],[],0,0⟩ with
   | none=>rfl
   | some q=>
    obtain ⟨ex,st⟩:=q
    cases ex with
    | normal=>rw [fm,fm,jY]
    | ret=>rfl
    | exit id=>rfl
  rw [e2,e,fm];exact tail tm t2 t3 t4
 rcases h1 with ⟨rfl,rfl,a1,a2⟩ | ⟨e,l,rfl,ga,na,va,sa,a1⟩
 ·rcases h2 with ⟨rfl,rfl,b1,b2⟩ | ⟨e,l,rfl,gb,nb,vb,sb,b1⟩
  ·by_cases et: -9223372036854775808<=s1+s2/\s1+s2<9223372036854775808
   ·refine ⟨.agg [ab (s1+s2),.aa],?_,du.oS et.1 et.2⟩;have e:decide (s1<s1+s2)=decide (0<s2):=by
     by_cases h:0<s2
     ·simp only [h,yq];exact xo (by omega)
     ·simp only [h,yy];exact xa (by omega)
    unfold aj;rw [aH h.akI]
    simp only [go_sem,ya,yb,c119,bh,rI,gI,ek,pq,b8,yf,db,wrap64 (n:=s1+s2) et.1 et.2,e,tT,rC];rfl
   ·have e:(decide (s1<IntKind.wrap .i64 (s1+s2))==decide (0<s2))=false:=by
     have hw:(9223372036854775808<=s1+s2/\IntKind.wrap .i64 (s1+s2)=s1+s2-18446744073709551616)\/(s1+s2< -9223372036854775808/\IntKind.wrap .i64 (s1+s2)=s1+s2+18446744073709551616):=by
      simp only [IntKind.wrap,IntKind.bits,IntKind.signed,Bool.true_and]
      split<;>rename_i h<;>simp at h<;>omega
     by_cases h0:0<s2
     ·rw [xo h0,xa (by omega)];rfl
     ·rw [xa h0,xo (by omega)];rfl
    refine ⟨r,fin _ ?_ ?_ ?_ (by simp only [go_sem,ya,yb,bt,aC,c119,bh,gI,ek,pq,b8,yf,db,e]<;>rfl),hr⟩<;>simp only [go_sem,ya]
  ·refine ⟨r,fin _ ?_ ?_ ?_ (by simp only [go_sem,ya,yb,bt,aC,c119,bh,gI,nR,ek,b8,yf,db]<;>rfl),hr⟩<;>simp only [go_sem,ya]
 ·refine ⟨r,fin _ ?_ ?_ ?_ (by simp only [go_sem,ya,yb,bt,aC,c119,bh,u2.pu,u2.one,nR,ek,b8,yf,db]<;>rfl),hr⟩<;>simp only [go_sem,ya]
end
end
section
open Go (IntKind)
def Cm {P:aI} {L:Lib} (a b c:VC) (s:St):D P L (.seq a (.seq b c)) s=nc P L (D P L (.seq a b) s) c:=by
 rw [jY,jY]
 cases D P L a s with
 | none=>rfl
 | some q=>
  obtain ⟨ex,st⟩:=q
  cases ex with
  | normal=>rw [fm,fm,jY]
  | ret=>rfl
  | exit id=>rfl
def ah8 {s s':Int} {w w':AV} {l l':List Nat} (h:bU w l) (h':bU w' l') (hp:Hp):result hp (.ae [.agg [ab s,w],.agg [ab s',w']])=some (.ae [.agg [ab s,w],.agg [ab s',w']]):=by
 rcases h with ⟨rfl,_⟩ | ⟨e,rfl⟩<;>rcases h' with ⟨rfl,_⟩ | ⟨e',rfl⟩<;>rfl
def O1 (tm:Env) (hp:Hp) (ct:Nat) (rs:List (Nat×Bool×Nat)) (sz:Nat) (p:AV) (new:List AV):fS:=match p with | .ptr id o=>bif nL tm id rs then ji hp ct id o sz new (aq hp id) else none | _=>none
def O2 (id:Nat):AV->Bool | .ptr j _=> !yu j id | .b5 _=>true | _=>false
def Sv {P:aI} {L:Lib} (f:cA) (tm:Env) (hp:Hp) (ct:Nat) (rs:List (Nat×Bool×Nat)) (sz:Nat) (x v:X):bf P L f tm hp ct (.jA rs sz x v)=O1 tm hp ct rs sz (aD tm x) (cellsOf (aD tm v)):=by
 simp only [bf,O1]
 cases hx:aD tm x with
 | ptr id o=>
  rw [acZ,hx,aiM]
 | _=>rfl
def Sw {tm:Env} {hp:Hp} {ct:Nat} {rs:List (Nat×Bool×Nat)} {sz id o:Nat} {new:List AV} (h:nL tm id rs=true):O1 tm hp ct rs sz (.ptr id o) new=ji hp ct id o sz new (aq hp id):=by
 simp only [O1,h,yA]
def RY (tm:Env) (id:Nat):nL tm id []=true:=(rfl)
def Rz (tm:Env) (id sz x:Nat) (ag:Bool) (r:List (Nat×Bool×Nat)):nL tm id ((sz,ag,x)::r)=(O2 id (ai tm x)&&nL tm id r):=by
 simp only [nL,O2]
 grind
def Sx {id j o:Nat} (h:j≠id):O2 id (.ptr j o)=true:=by simp only [O2,fW h,yP]
section
variable {P:aI} {L:Lib}
def akK (h:Nu P L) {v w:AV} {a b:Int} {K:Nat} (hv:cF v a) (hw:cF w b) (ka:Bd K a) (kb:Bd K b) (hK:K<=40000000000):∃r,aj P L 156 [v,w] r/\cF r (a-b):=by
 obtain ⟨n,e1,hn⟩:=FI h hw kb (by omega);obtain ⟨r,e2,hr⟩:=J8 h hv hn ka kb.neg hK;have bn:=hr;obtain ⟨s1,w1,rfl,h1⟩:=hv;obtain ⟨s2,w2,rfl,h2⟩:=hw;obtain ⟨s3,w3,rfl,h3⟩:=hn;obtain ⟨s4,w4,rfl,h4⟩:=hr;obtain ⟨l1,u1⟩:=h1.aY;obtain ⟨l2,u2⟩:=h2.aY;obtain ⟨l3,u3⟩:=h3.aY;obtain ⟨l4,u4⟩:=h4.aY;refine ⟨_,?_,bn⟩;unfold aj;rw [aH h.aBB];simp only [go_sem,ya,yb,Tq,bh,u1.pu,u1.ak,u1.one,u2.pu,u2.ak,u2.one,u3.ak,cG,e1,e2,b6,fa,fb,cp,yK,nd u4,dX u4]
def aBE (h:Nu P L) {v w:AV} {a b:Int} {K:Nat} (hv:cF v a) (hw:cF w b) (ka:Bd K a) (kb:Bd K b) (hK:K<=40000000000):aj P L 118 [v,w] (ab (df (a-b))):=by
 obtain ⟨d,e1,hd⟩:=akK h hv hw ka kb hK;have e2:=FH h hd;obtain ⟨s1,w1,rfl,h1⟩:=hv;obtain ⟨s2,w2,rfl,h2⟩:=hw;obtain ⟨s3,w3,rfl,h3⟩:=hd;obtain ⟨l2,u2⟩:=h2.aY;obtain ⟨l3,u3⟩:=h3.aY;unfold aj;rw [aH h.aBA];rcases h1 with ⟨rfl,rfl,a1,a2⟩ | ⟨e,l,rfl,ga,na,va,sa,a1⟩
 ·rcases h2 with ⟨rfl,rfl,b1,b2⟩ | ⟨e,l,rfl,gb,nb,vb,sb,b1⟩
  ·by_cases c1:s1<s2
   ·rw [show df (s1-s2)= -1 by unfold df;rw [yQ (by omega)]];simp only [go_sem,ya,yb,C3,bh,gI,ek,b8,yf,db,c1]
   ·by_cases c2:s2<s1
    ·rw [show df (s1-s2)=1 by unfold df;rw [yB (by omega),yB (by omega)]];simp only [go_sem,ya,yb,C3,bh,gI,ek,b8,yf,db,c1,c2]
    ·rw [show df (s1-s2)=0 by unfold df;rw [yB (by omega),yQ (by omega)]];simp only [go_sem,ya,yb,C3,bh,gI,ek,b8,yf,db,c1,c2]
  ·simp only [go_sem,ya,yb,C3,bh,gI,nR,ek,b8,yf,db,cp,cG,e1,e2,u3.ak,b6]
 ·simp only [go_sem,ya,yb,C3,bh,u2.pu,u2.ak,u2.one,nR,ek,b8,yf,db,cp,cG,e1,e2,u3.ak,b6]
def ayj (h:Nu P L) {s1 s2:Int} {w1 w2:AV} {a b:Int} {K:Nat} (ha:du s1 w1 a) (hb:du s2 w2 b) (ka:Bd K a) (kb:Bd K b) (hK:K<=40000000000):
  ∃r,cF r (a*b)/\∀tm,ai tm 2= .ptr 0 0->ai tm 3= .ptr 1 0->ai tm 4= .ptr 2 0->gh [.cell 4 2 true] (D P L (aC (aC mA.body)) ⟨tm,[(2,.cells true true true 2 [.int .i64 0,.aa]),(1,.cells true true true 2 [ab s2,w2]),(0,.cells true true true 2 [ab s1,w1])],3,0⟩)=some r:=by
 obtain ⟨l1,u1⟩:=ha.aY;obtain ⟨l2,u2⟩:=hb.aY;obtain ⟨p,e1,hp⟩:=zT h ha;obtain ⟨q,e2,hq⟩:=zT h hb;obtain ⟨lp,iC,gp,np,vp⟩:=hp.aY;obtain ⟨lq,oD,gq,nq,vq⟩:=hq.aY;have BZ:=yT ka (AW K);have Gm:=yT kb (AW K);have llp:lp.length<=40000000000:=xi (n8 np vp BZ) hK;have llq:lq.length<=40000000000:=xi (n8 nq vq Gm) hK;obtain ⟨o,nE,e3,ho,nD,no,vo⟩:=aBi h.aBq h.mD h.mE h.gi iC oD gp gq (by omega) (by omega);obtain ⟨r,e4,hr⟩:=Dh h (decide (a<0) !=decide (b<0)) ⟨nE,ho,nD,no,vo⟩ (K:=K+K) (by rw [vp,vq,wR];exact tS BZ Gm) (by omega)
 rw [vp,vq,ade] at hr;have bn:=hr;obtain ⟨s',w',rfl,jd⟩:=hr;obtain ⟨l',jl⟩:=jd.aY;refine ⟨_,bn,fun tm t2 t3 t4=>?_⟩;have ol:∀x y:Bool,JV true (some (x==y))=some (.bool (x !=y)):=fun x y=>by cases x<;>cases y<;>rfl
 simp only [go_sem,ya,mA,aC,t2,t3,t4,cp,cG,u1.ak,u2.ak,e1,e2,iC.ak,oD.ak,pq,ol,e3,ho.ak,ho.shut,e4,b6,fa,fb,cp,yK,nd jl,dX jl]
def asr {a b:Int} {m:Nat} (h:a.natAbs*b.natAbs=m):a*b=if (decide (a<0)==decide (b<0))=true then (m:Int) else 0-(m:Int):=by
 have:=ade (a:=a) (b:=b)
 rw [h] at this;unfold cD at this
 cases hd:(decide (a<0)==decide (b<0)) with
 | true=>simp only [bne,hd,yM,yN,xf] at this;exact this.symm
 | false=>simp only [bne,hd,yP,xC] at this;rw [yB (by decide)];omega
def Bt (h:Nu P L) {v w:AV} {a b:Int} {K:Nat} (hv:cF v a) (hw:cF w b) (ka:Bd K a) (kb:Bd K b) (hK:K<=40000000000):∃r,aj P L 100 [v,w] r/\cF r (a*b):=by
 obtain ⟨s1,w1,rfl,h1⟩:=hv;obtain ⟨s2,w2,rfl,h2⟩:=hw;obtain ⟨l1,u1⟩:=h1.aY;obtain ⟨l2,u2⟩:=h2.aY;obtain ⟨r,hr,tail⟩:=ayj h h1 h2 ka kb hK;have fin:∀tm,ai tm 2= .ptr 0 0->ai tm 3= .ptr 1 0->ai tm 4= .ptr 2 0->
   D P L (.seq (bt mA.body) (bt (aC mA.body))) ⟨[(0,.agg [ab s1,w1]),(1,.agg [ab s2,w2])],[],0,0⟩=some (.normal,⟨tm,[(2,.cells true true true 2 [.int .i64 0,.aa]),(1,.cells true true true 2 [ab s2,w2]),(0,.cells true true true 2 [ab s1,w1])],3,0⟩)->aj P L 100 [.agg [ab s1,w1],.agg [ab s2,w2]] r:=fun tm t2 t3 t4 e=>by
  unfold aj;rw [aH h.O0];show gh [.cell 4 2 true] (D P L (.seq (bt mA.body) (.seq (bt (aC mA.body)) (aC (aC mA.body)))) ⟨[(0,.agg [ab s1,w1]),(1,.agg [ab s2,w2])],[],0,0⟩)=_
  rw [Cm,e,fm];exact tail tm t2 t3 t4
 rcases h1 with ⟨rfl,rfl,a1,a2⟩ | ⟨e,l,rfl,ga,na,va,sa,a1⟩
 ·rcases h2 with ⟨rfl,rfl,b1,b2⟩ | ⟨e,l,rfl,gb,nb,vb,sb,b1⟩
  ·have f1:=X9 h a1 a2;have f2:=X9 h b1 b2;have f3:=MW (P:=P) (f:=D P L) h.mE (x:=s1.natAbs) (y:=s2.natAbs) (by omega) (by omega);obtain ⟨m,hm⟩:∃m,s1.natAbs*s2.natAbs=m:=⟨_,rfl⟩;rw [hm] at f3;have ic:=asr hm;by_cases et:m<=9223372036854775807
   ·rw [wS (by omega),yW (by omega)] at f3;rw [show (uc 0)=AV.int .u64 0 from rfl] at f3;by_cases hs:(decide (s1<0)==decide (s2<0))=true
    ·rw [yQ hs] at ic;refine ⟨.agg [ab (m:Int),.aa],?_,by rw [ic];exact du.oS (by omega) (by omega)⟩
     unfold aj;rw [aH h.O0]
     simp only [go_sem,ya,yb,mA,bh,rI,gI,ek,IP,pq,b8,yf,db,f1,f2,f3,show (m:Int)<=9223372036854775807 by omega,hs,MV,wrap64 (n:=(m:Int)) (by omega) (by omega),rC];rfl
    ·rw [yB hs] at ic;refine ⟨.agg [ab (0-(m:Int)),.aa],?_,by rw [ic];exact du.oS (by omega) (by omega)⟩
     unfold aj;rw [aH h.O0]
     simp only [go_sem,ya,yb,mA,bh,rI,gI,ek,IP,pq,b8,yf,db,f1,f2,f3,show (m:Int)<=9223372036854775807 by omega,hs,MV,wrap64 (n:=(m:Int)) (by omega) (by omega),wrap64 (n:=0-(m:Int)) (by omega) (by omega),rC];rfl
   ·by_cases B0:m/18446744073709551616=0
    ·rw [B0,yW (by omega)] at f3;rw [show (uc 0)=AV.int .u64 0 from rfl] at f3;refine ⟨r,fin _ ?_ ?_ ?_ (by simp only [go_sem,ya,yb,bt,aC,mA,bh,gI,ek,b8,yf,db,f1,f2,f3,show ¬(m:Int)<=9223372036854775807 by omega]<;>rfl),hr⟩<;>simp only [go_sem,ya]
    ·obtain ⟨q,hq⟩:∃q,q=m/18446744073709551616:=⟨_,rfl⟩;rw [<-hq] at f3 B0;refine ⟨r,fin _ ?_ ?_ ?_ (by simp only [go_sem,ya,yb,bt,aC,mA,bh,gI,ek,b8,yf,db,f1,f2,f3,show ¬(q:Int)=0 by omega]<;>rfl),hr⟩<;>simp only [go_sem,ya]
  ·refine ⟨r,fin _ ?_ ?_ ?_ (by simp only [go_sem,ya,yb,bt,aC,mA,bh,gI,nR,ek,b8,yf,db]<;>rfl),hr⟩<;>simp only [go_sem,ya]
 ·refine ⟨r,fin _ ?_ ?_ ?_ (by simp only [go_sem,ya,yb,bt,aC,mA,bh,u2.pu,u2.one,nR,ek,b8,yf,db]<;>rfl),hr⟩<;>simp only [go_sem,ya]
end
end
section
open Go (IntKind)
def aqo {a b:Int} {q r:Nat} (hb:0<b) (h:q=a.natAbs/b.natAbs) (h2:r=a.natAbs%b.natAbs):
  (cD (decide (a<0)) r<0->a/b=cD (decide (a<0)) q-1/\a%b=cD (decide (a<0)) r+b)/\(¬cD (decide (a<0)) r<0->a/b=cD (decide (a<0)) q/\a%b=cD (decide (a<0)) r):=by
 have fE:=xR a.natAbs b.natAbs;have aX:r<b.natAbs:=by rw [h2];exact xy _ (by omega)
 unfold cD;by_cases h0:a<0
 ·simp only [h0,yq,xC];constructor
  ·intro h3;refine (tf hb).2 ⟨?_,by omega,by omega⟩
   grind
  ·intro h3;refine (tf hb).2 ⟨?_,by omega,by omega⟩
   grind
 ·grind
section
variable {P:aI} {L:Lib}
def ayk (h:Nu P L) {s1 s2:Int} {w1 w2:AV} {a b:Int} {K:Nat} (ha:du s1 w1 a) (hb:du s2 w2 b) (dU:0<b) (ka:Bd K a) (kb:Bd K b) (hK:K<=30000000000):
  ∃q r,cF q (a/b)/\cF r (a%b)/\∀tm,ai tm 2= .ptr 0 0->ai tm 3= .ptr 1 0->ai tm 4= .ptr 2 0->ai tm 5= .ptr 3 0->gh [.cell 4 2 true,.cell 5 2 true] (D P L (aC (aC mB.body)) ⟨tm,[(3,.cells true true true 2 [.int .i64 0,.aa]),(2,.cells true true true 2 [.int .i64 0,.aa]),(1,.cells true true true 2 [ab s2,w2]),(0,.cells true true true 2 [ab s1,w1])],4,0⟩)=some (.ae [q,r]):=by
 obtain ⟨l1,u1⟩:=ha.aY;obtain ⟨l2,u2⟩:=hb.aY;obtain ⟨p,e1,hp⟩:=zT h ha;obtain ⟨q,e2,hq⟩:=zT h hb;have cw:cF (.agg [ab s2,w2]) b:=⟨s2,w2,rfl,hb⟩;obtain ⟨lp,iC,_⟩:=hp.aY;obtain ⟨lq,oD,_⟩:=hq.aY;have BZ:=yT ka (AW K);have Gm:=yT kb (AW K);obtain ⟨dq,dr,e3,DM,ik⟩:=akF h.toWd hp hq (by omega) BZ Gm (by omega);obtain ⟨K5,uq,_⟩:=DM.aY;obtain ⟨lr1,ur,_⟩:=ik.aY;have hqk:a.natAbs/b.natAbs<18446744073709551616^K:=wQ (vI _ _) BZ;have PW:a.natAbs%b.natAbs<18446744073709551616^K:=wQ (ybR _ _) BZ;have hqb:a.natAbs/b.natAbs<2^K:=wQ (vI _ _) ka;have ZI:a.natAbs%b.natAbs<2^K:=wQ (ybR _ _) ka;obtain ⟨f1,f2⟩:=aqo (a:=a) dU rfl rfl;generalize a.natAbs/b.natAbs=Q at*
 generalize a.natAbs%b.natAbs=R at*
 obtain ⟨vq,e4,hvq⟩:=Dh h (decide (a<0)) DM hqk (by omega);obtain ⟨vr,e5,KR⟩:=Dh h (decide (a<0)) ik PW (by omega);have hsq:Bd K (cD (decide (a<0)) Q):=by unfold Bd cD;split<;>omega
 have hsr:Bd K (cD (decide (a<0)) R):=by unfold Bd cD;split<;>omega
 generalize cD (decide (a<0)) R=Rs at*
 have e6:=FH h KR;have akL:=hvq;have akM:=KR;obtain ⟨s3,w3,rfl,h3⟩:=hvq;obtain ⟨s4,w4,rfl,h4⟩:=KR;obtain ⟨l3,u3⟩:=h3.aY;obtain ⟨l4,u4⟩:=h4.aY;by_cases h0:Rs<0
 ·obtain ⟨g1,g2⟩:=f1 h0;have jB:Bd (K+1) 1:=Bd.mono (k:=1) (by unfold Bd;decide) (by omega)
  obtain ⟨o1,o2⟩:=Dg h (z:=1) (by decide) (by decide);obtain ⟨vq2,e7,Ya⟩:=akK h akL o2 (K:=K+1) (hsq.mono (by omega)) jB (by omega);obtain ⟨vr2,e8,Yb⟩:=J8 h akM cw (K:=K+1) (hsr.mono (by omega)) (kb.mono (by omega)) (by omega);rw [<-g1] at Ya;rw [<-g2] at Yb;have ns:df Rs<0:=by unfold df;rw [yQ h0];decide
  have k1:=Ya;have k2:=Yb;obtain ⟨s5,w5,rfl,h5⟩:=Ya;obtain ⟨s6,w6,rfl,h6⟩:=Yb;obtain ⟨l5,u5⟩:=h5.aY;obtain ⟨l6,u6⟩:=h6.aY;refine ⟨_,_,k1,k2,fun tm t2 t3 t4 t5=>?_⟩;simp only [go_sem,ya,yb,mB,aC,t2,t3,t4,t5,Sv,Sw,RY,Rz,Sx,xM,bh,cp,cG,u1.ak,u2.ak,e1,e2,iC.ak,oD.ak,e3,uq.ak,uq.bH,ur.ak,ur.bH,e4,e5,b6,fa,fb,cp,yK,dX u3,dX u4,u3.ak,u4.ak,e6,ns,o1,e7,e8,fa,fb,cp,yK,dX u5,dX u6,ah8 u5 u6]
 ·obtain ⟨g1,g2⟩:=f2 h0;have ns:¬df Rs<0:=by unfold df;rw [yB h0];split<;>decide
  refine ⟨_,_,by rw [g1];exact akL,by rw [g2];exact akM,fun tm t2 t3 t4 t5=>?_⟩
  simp only [go_sem,ya,yb,mB,aC,t2,t3,t4,t5,Sv,Sw,RY,Rz,Sx,xM,bh,cp,cG,u1.ak,u2.ak,e1,e2,iC.ak,oD.ak,e3,uq.ak,uq.bH,ur.ak,ur.bH,e4,e5,b6,fa,fb,cp,yK,dX u3,dX u4,u4.ak,e6,ns,ah8 u3 u4]
def akN (h:Nu P L) {v w:AV} {a b:Int} {K:Nat} (hv:cF v a) (hw:cF w b) (dU:0<b) (ka:Bd K a) (kb:Bd K b) (hK:K<=30000000000):∃q r,aj P L 164 [v,w] (.ae [q,r])/\cF q (a/b)/\cF r (a%b):=by
 obtain ⟨s1,w1,rfl,h1⟩:=hv;obtain ⟨s2,w2,rfl,h2⟩:=hw;obtain ⟨l1,u1⟩:=h1.aY;obtain ⟨l2,u2⟩:=h2.aY;obtain ⟨q,r,hq,hr,tail⟩:=ayk h h1 h2 dU ka kb hK;have fin:∀tm,ai tm 2= .ptr 0 0->ai tm 3= .ptr 1 0->ai tm 4= .ptr 2 0->ai tm 5= .ptr 3 0->
   D P L (.seq (bt mB.body) (bt (aC mB.body))) ⟨[(0,.agg [ab s1,w1]),(1,.agg [ab s2,w2])],[],0,0⟩=some (.normal,⟨tm,[(3,.cells true true true 2 [.int .i64 0,.aa]),(2,.cells true true true 2 [.int .i64 0,.aa]),(1,.cells true true true 2 [ab s2,w2]),(0,.cells true true true 2 [ab s1,w1])],4,0⟩)->aj P L 164 [.agg [ab s1,w1],.agg [ab s2,w2]] (.ae [q,r]):=fun tm t2 t3 t4 t5 e=>by
  unfold aj;rw [aH h.X8];show gh [.cell 4 2 true,.cell 5 2 true] (D P L (.seq (bt mB.body) (.seq (bt (aC mB.body)) (aC (aC mB.body)))) ⟨[(0,.agg [ab s1,w1]),(1,.agg [ab s2,w2])],[],0,0⟩)=_
  rw [Cm,e,fm];exact tail tm t2 t3 t4 t5
 rcases h1 with ⟨rfl,rfl,a1,a2⟩ | ⟨e,l,rfl,ga,na,va,sa,a1⟩
 ·rcases h2 with ⟨rfl,rfl,b1,b2⟩ | ⟨e,l,rfl,gb,nb,vb,sb,b1⟩
  ·by_cases hm:s1= -9223372036854775808
   ·refine ⟨q,r,fin _ ?_ ?_ ?_ ?_ (by simp only [go_sem,ya,yb,bt,aC,mB,bh,gI,ek,b8,yf,db,hm]<;>rfl),hq,hr⟩<;>simp only [go_sem,ya]
   ·obtain ⟨f1,f2⟩:=aqe (a:=s1) dU;have bL:s1.tdiv s2=0\/(s1.tdiv s2).natAbs<=s1.natAbs:= .inr (Int.natAbs_tdiv_le_natAbs s1 s2);have cW:=Int.tmod_lt_of_pos s1 dU;have mO:=Int.lt_tmod_of_pos s1 dU;by_cases h0:s1.tmod s2<0
    ·obtain ⟨g1,g2⟩:=f1 h0;rw [g1,g2];refine ⟨.agg [ab (s1.tdiv s2-1),.aa],.agg [ab (s1.tmod s2+s2),.aa],?_,du.oS (by omega) (by omega),du.oS (by omega) (by omega)⟩;unfold aj;rw [aH h.X8]
     simp only [go_sem,ya,yb,mB,bh,rI,gI,ek,b8,yf,db,hm,fX _ _ _ (show s2≠0 by omega),iK _ _ _ (show s2≠0 by omega),h0,wrap64 (n:=s1.tdiv s2) (by omega) (by omega),wrap64 (n:=s1.tdiv s2-1) (by omega) (by omega),wrap64 (n:=s1.tmod s2+s2) (by omega) (by omega),rC];rfl
    ·obtain ⟨g1,g2⟩:=f2 h0;rw [g1,g2];refine ⟨.agg [ab (s1.tdiv s2),.aa],.agg [ab (s1.tmod s2),.aa],?_,du.oS (by omega) (by omega),du.oS (by omega) (by omega)⟩;unfold aj;rw [aH h.X8]
     simp only [go_sem,ya,yb,mB,bh,rI,gI,ek,b8,yf,db,hm,fX _ _ _ (show s2≠0 by omega),iK _ _ _ (show s2≠0 by omega),h0,wrap64 (n:=s1.tdiv s2) (by omega) (by omega),rC];rfl
  ·refine ⟨q,r,fin _ ?_ ?_ ?_ ?_ (by simp only [go_sem,ya,yb,bt,aC,mB,bh,gI,nR,ek,b8,yf,db]<;>rfl),hq,hr⟩<;>simp only [go_sem,ya]
 ·refine ⟨q,r,fin _ ?_ ?_ ?_ ?_ (by simp only [go_sem,ya,yb,bt,aC,mB,bh,u2.pu,u2.one,nR,ek,b8,yf,db]<;>rfl),hq,hr⟩<;>simp only [go_sem,ya]
end
end
section
open Go (IntKind)
section
variable {P:aI} {L:Lib}
def akO (h:Nu P L) {v w:AV} {a b:Int} {K:Nat} (hv:cF v a) (hw:cF w b) (dU:0<b) (ka:Bd K a) (kb:Bd K b) (hK:K<=30000000000):∃r,aj P L 148 [v,w] r/\cF r (a/b):=by
 have e1:=FH h hw;obtain ⟨q,r,e2,hq,hr⟩:=akN h hv hw dU ka kb hK;have e3:df b=1:=by unfold df;rw [yB (by omega),yB (by omega)]
 rw [e3] at e1;have bL:=hq;obtain ⟨s1,w1,rfl,h1⟩:=hv;obtain ⟨s2,w2,rfl,h2⟩:=hw;obtain ⟨s3,w3,rfl,h3⟩:=hq;obtain ⟨s4,w4,rfl,h4⟩:=hr;obtain ⟨l1,u1⟩:=h1.aY;obtain ⟨l2,u2⟩:=h2.aY;obtain ⟨l3,u3⟩:=h3.aY;obtain ⟨l4,u4⟩:=h4.aY;refine ⟨_,?_,bL⟩;unfold aj;rw [aH h.aBC];simp only [go_sem,ya,yb,Tp,yby,yy,bh,u1.pu,u1.ak,u1.one,u2.pu,u2.ak,u2.one,yf,cG,e1,e2,Cj,fa,fb,cp,yK,nd u3,dX u3,dX u4]
def ayl (h:Nu P L) (G:Nat) {K:Nat} (hK:K<=30000000000) {o1 o2:AV}:
  ∀k s,(∃(x y:Nat) (s1 s2:Int) (w1 w2:AV),aS [2,3,4] s=⟨[(2,.ptr 0 0),(3,.ptr 1 0),(4,.ptr 2 0)],[(2,.cells true true true 2 [o1,o2]),(1,.cells true true true 2 [ab s2,w2]),(0,.cells true true true 2 [ab s1,w1])],3,0⟩/\du s1 w1 x/\du s2 w2 y/\Bd K x/\Bd K y/\Nat.gcd x y=G/\y=k)->
   ∃ex s',D P L (.loop [2,3,4] Iu) s=some (ex,s')/\∃tm s1 w1 c1,s'=⟨tm,[(2,.cells true true true 2 [o1,o2]),(1,c1),(0,.cells true true true 2 [ab s1,w1])],3,0⟩/\ex= .exit 0/\ai tm 2= .ptr 0 0/\ai tm 4= .ptr 2 0/\du s1 w1 G:=by
 intro dq sq;generalize bB:aS [2,3,4] sq=s0;revert bB s0 sq dq;apply dI;rintro k s ⟨x,y,s1,s2,w1,w2,rfl,h1,h2,k1,k2,hG,rfl⟩;obtain ⟨l1,u1⟩:=h1.aY;obtain ⟨l2,u2⟩:=h2.aY;have i1:cF (.agg [ab s1,w1]) (x:Int):=⟨s1,w1,rfl,h1⟩;have i2:cF (.agg [ab s2,w2]) (y:Int):=⟨s2,w2,rfl,h2⟩;have e1:=FH h i2;by_cases iH:y=0
 ·right
  subst iH;rw [show df ((0:Nat):Int)=0 from rfl] at e1;simp only [go_sem,ya,Iu,yq,yM,cp,cG,u2.ak,e1];obtain rfl:x=G:=by rw [<-hG,Nat.gcd_zero_right]
  exact ⟨_,_,rfl,by simp,_,s1,w1,_,rfl,rfl,by simp only [go_sem,ya],by simp only [go_sem,ya],h1⟩
 ·left
  have e3:df (y:Int)=1:=by unfold df;rw [yB (by omega),yB (by omega)]
  rw [e3] at e1;obtain ⟨q,r,e2,hq,hr⟩:=akN h i1 i2 (by omega) k1 k2 hK;obtain ⟨s3,w3,rfl,h3⟩:=hq;obtain ⟨s4,w4,rfl,h4⟩:=hr;obtain ⟨l3,u3⟩:=h3.aY;obtain ⟨l4,u4⟩:=h4.aY;have aX:=xy x (show 0<y by omega);have kr:Bd K ((x%y:Nat):Int):=k2.le (by omega);simp only [go_sem,ya,yb,Iu,Sv,Sw,RY,Rz,Sx,xM,uy,yy,yP,bh,cp,cG,u1.ak,u2.ak,e1,e2,Cj,cp,yK,dX u2,dX u3,dX u4];refine ⟨_,x%y,rfl,aX,y,x%y,s2,s4,w2,w4,?_,h2,h4,k2,kr,by rw [<-hG];exact asg x y iH,rfl⟩
  simp only [go_sem,ya,yb,ax]
def akP (h:Nu P L) {v w:AV} {a b:Int} {K:Nat} (hv:cF v a) (hw:cF w b) (ka:Bd K a) (kb:Bd K b) (hK:K<=30000000000):∃r,aj P L 130 [v,w] r/\cF r (vc a b:Nat):=by
 obtain ⟨va,e1,ha⟩:=akJ h hv ka (by omega);obtain ⟨vb,e2,hb⟩:=akJ h hw kb (by omega);obtain ⟨s1,w1,rfl,h1⟩:=hv;obtain ⟨s2,w2,rfl,h2⟩:=hw;obtain ⟨s3,w3,rfl,h3⟩:=ha;obtain ⟨s4,w4,rfl,h4⟩:=hb;obtain ⟨l1,u1⟩:=h1.aY;obtain ⟨l2,u2⟩:=h2.aY;obtain ⟨l3,u3⟩:=h3.aY;obtain ⟨l4,u4⟩:=h4.aY;have iY:∃s w,aj P L 130 [.agg [ab s1,w1],.agg [ab s2,w2]] (.agg [ab s,w])/\du s w (vc a b:Nat):=by
  unfold aj;rw [aH h.aBD];simp only [go_sem,ya,yb,Tn,bh,u1.pu,u1.ak,u1.one,u2.pu,u2.ak,u2.one,cp,cG,e1,e2,b6,cp,yK,dX u3,dX u4,yf];generalize hq:D P L (.loop [2,3,4] Iu) _=q;obtain ⟨ex,s,rfl,tm,s5,w5,c1,rfl,rfl,t2,t4,h5⟩:=bQ hq (ayl (P:=P) (L:=L) h (vc a b) (K:=K) hK (o1:= .int .i64 0) (o2:= .aa) b.natAbs) ⟨a.natAbs,b.natAbs,s3,s4,w3,w4,by simp only [go_sem,ya,yb,ax],h3,h4,ka,kb,rfl,rfl⟩;obtain ⟨l5,u5⟩:=h5.aY;refine ⟨s5,w5,?_,h5⟩;simp only [go_sem,ya,yb,ax,t2,t4,fa,fb,cp,yK,nd u5,dX u5]
 obtain ⟨s,w,e,hn⟩:=iY;exact ⟨_,e,s,w,rfl,hn⟩
end
def dM (v:AV) (r:Rat):Prop:=∃s1 w1 s2 w2,v= .agg [ab s1,w1,ab s2,w2]/\du s1 w1 r.num/\du s2 w2 (r.den:Int)
def Hq (k:Nat) (r:Rat):Prop:=Bd k r.num/\Bd k (r.den:Int)
def Qh {a b:Int} (hb:0<b):(wJ a b).num=a/(vc a b:Nat)/\((wJ a b).den:Int)=b/(vc a b:Nat):=by
 constructor
 ·rw [yaZ,Int.sign_eq_one_of_pos hb,Int.one_mul,ybz]
 ·rw [yba,yB (by omega),ybz]
  grind
def Hq.divInt {k:Nat} {a b:Int} (hb:0<b) (ka:Bd k a) (kb:Bd k b):Hq k (wJ a b):=by
 obtain ⟨h1,h2⟩:=Qh (a:=a) hb;refine ⟨ka.le ?_,kb.le ?_⟩
 ·rw [h1,uj (Int.gcd_dvd_left a b)];exact vI _ _
 ·rw [h2,uj (Int.gcd_dvd_right a b)];exact vI _ _
section
def Eh {tm:Env} {a b x y z w:AV} {r:List (Nat×Nat×X)} (h1:dh a=true) (h2:dh b=true):nT tm [x,y,z,w] 0 2 [a,b] r=fill tm [a,b,z,w] r:=by
 rw [RU (by rfl) (by simp) (by simp [cy,h1,h2])];rfl
def Ei {tm:Env} {a b x y z w:AV} {r:List (Nat×Nat×X)} (h1:dh a=true) (h2:dh b=true):nT tm [x,y,z,w] 2 2 [a,b] r=fill tm [x,y,a,b] r:=by
 rw [RU (by rfl) (by simp) (by simp [cy,h1,h2])];rfl
def nf {s t:Int} {v w:AV} {l m:List Nat} (hv:bU v l) (hw:bU w m) (hp:Hp) (ct id:Nat) (a b x y:AV):ji hp ct id 0 4 [.int .i64 s,v,.int .i64 t,w] (some (.cells true true true 4 [a,b,x,y]))=some (.ae [],bc hp id (.cells true true true 4 [.int .i64 s,v,.int .i64 t,w]),ct):=by
 rw [A8 (by rfl) (by simp) (by simp [cy,hv.one,hw.one,agz])];simp [aG,hv.pu,hw.pu,over,ahZ]
def nh {s t:Int} {v w:AV} {l m:List Nat} (hv:bU v l) (hw:bU w m) (hp:Hp):result hp (.agg [ab s,v,ab t,w])=some (.agg [ab s,v,ab t,w]):=by
 rcases hv with ⟨rfl,_⟩ | ⟨e,rfl⟩<;>rcases hw with ⟨rfl,_⟩ | ⟨e',rfl⟩<;>rfl
variable {P:aI} {L:Lib}
structure Fr' (P:aI) (L:Lib):Prop extends Nu P L where
 aBF:Has P L 101 nk
 ZJ:Has P L 69 KJ
 aBG:Has P L 111 Tm
 h98:Has P L 98 Pu
 aBH:Has P L 108 Tl
 aBI:Has P L 102 Tk
 h74:Has P L 74 Ad
 h50:Has P L 50 KI
 oE:Has P L 49 c49
 h73:Has P L 73 BP
 h70:Has P L 70 KK
 h71:Has P L 71 Ga
 aHU:Has P L 149 ajs
def ah9 (h:Fr' P L) {s1 s2:Int} {w1 w2:AV} {a b:Int} {K:Nat} (h1:du s1 w1 a) (h2:du s2 w2 b) (dU:0<b) (ka:Bd K a) (kb:Bd K b) (hK:K<=30000000000):
  ∃r,dM r (wJ a b)/\∀tm,ai tm 2= .ptr 0 0->ai tm 3= .ptr 1 0->ai tm 4= .ptr 2 0->gh [.cell 4 4 true] (D P L (aC (aC nk.body)) ⟨tm,[(2,.cells true true true 4 [.int .i64 0,.aa,.int .i64 0,.aa]),(1,.cells true true true 2 [ab s2,w2]),(0,.cells true true true 2 [ab s1,w1])],3,0⟩)=some r:=by
 have hv:cF (.agg [ab s1,w1]) a:=⟨s1,w1,rfl,h1⟩;have hw:cF (.agg [ab s2,w2]) b:=⟨s2,w2,rfl,h2⟩;obtain ⟨p1,p2⟩:=Qh (a:=a) dU;have hgp:=MB (a:=a) dU;have hgk:Bd K ((vc a b:Nat):Int):=kb.le (by
  have:=Int.gcd_le_natAbs_right a (show b≠0 by omega)
  omega)
 obtain ⟨g,e2,hg⟩:=akP h.toNu hv hw ka kb hK;obtain ⟨q1,e4,fw⟩:=akO h.toNu hv hg hgp ka hgk hK;obtain ⟨q2,e5,Gh⟩:=akO h.toNu hw hg hgp kb hgk hK;rw [<-p1] at fw;rw [<-p2] at Gh;obtain ⟨s3,w3,rfl,h3⟩:=hg;obtain ⟨s4,w4,rfl,h4⟩:=fw;obtain ⟨s5,w5,rfl,h5⟩:=Gh;obtain ⟨l1,u1⟩:=h1.aY;obtain ⟨l2,u2⟩:=h2.aY;obtain ⟨l3,u3⟩:=h3.aY;obtain ⟨l4,u4⟩:=h4.aY;obtain ⟨l5,u5⟩:=h5.aY;by_cases er:w2= .aa/\s2=1
 ·obtain ⟨rfl,rfl⟩:=er;have jB:b=1:=by
   rcases h2 with ⟨_,h,_⟩ | ⟨_,_,h,_⟩
   ·exact h.symm
   ·cases h
  subst jB;rw [Int.gcd_one] at p1 p2;have p1:(wJ a 1).num=a:=by rw [p1];exact Int.ediv_one a
  refine ⟨.agg [ab s1,w1,ab 1,.aa],⟨s1,w1,1,.aa,rfl,by rw [p1];exact h1,by rw [p2];exact h2⟩,fun tm t2 t3 t4=>?_⟩
  have un:=sX;simp only [go_sem,ya,nk,aC,t2,t3,t4,u1.one,cp,b8,yf,db,gI,ek,Eh,Ei,nf u1 un,fa,fb,yK,ix,nh u1 un]
 ·refine ⟨.agg [ab s4,w4,ab s5,w5],⟨s4,w4,s5,w5,rfl,h4,h5⟩,fun tm t2 t3 t4=>?_⟩;rcases u2 with ⟨rfl,_⟩ | ⟨e,rfl⟩
  ·simp only [go_sem,ya,yb,nk,aC,t2,t3,t4,bh,u1.ak,cp,cG,b8,yf,db,gI,ek,show ¬s2=1 from fun e=>er ⟨rfl,e⟩,e2,e4,e5,b6,fa,fb,cp,yK,dX u3,u3.ak,u4.one,u5.one,Eh,Ei,nf u4 u5,ix,nh u4 u5]
  ·simp only [go_sem,ya,yb,nk,aC,t2,t3,t4,bh,u1.ak,cp,cG,b8,yf,db,nR,ek,e2,e4,e5,b6,fa,fb,cp,yK,dX u3,u3.ak,u4.one,u5.one,Eh,Ei,nf u4 u5,ix,nh u4 u5]
def Yc (h:Fr' P L) {v w:AV} {a b:Int} {K:Nat} (hv:cF v a) (hw:cF w b) (dU:b≠0) (ka:Bd K a) (kb:Bd K b) (hK:K<=30000000000):∃r,aj P L 101 [v,w] r/\dM r (wJ a b):=by
 have e1:=FH h.toNu hw;have eA:=hv;have Gn:=hw;obtain ⟨s1,w1,rfl,h1⟩:=hv;obtain ⟨s2,w2,rfl,h2⟩:=hw;obtain ⟨l1,u1⟩:=h1.aY;obtain ⟨l2,u2⟩:=h2.aY;have fin:∀r t1 t2 v1 v2 tm,(∀tm,ai tm 2= .ptr 0 0->ai tm 3= .ptr 1 0->ai tm 4= .ptr 2 0->gh [.cell 4 4 true] (D P L (aC (aC nk.body)) ⟨tm,[(2,.cells true true true 4 [.int .i64 0,.aa,.int .i64 0,.aa]),(1,.cells true true true 2 [ab t2,v2]),(0,.cells true true true 2 [ab t1,v1])],3,0⟩)=some r)->ai tm 2= .ptr 0 0->ai tm 3= .ptr 1 0->ai tm 4= .ptr 2 0->
   D P L (.seq (bt nk.body) (bt (aC nk.body))) ⟨[(0,.agg [ab s1,w1]),(1,.agg [ab s2,w2])],[],0,0⟩=some (.normal,⟨tm,[(2,.cells true true true 4 [.int .i64 0,.aa,.int .i64 0,.aa]),(1,.cells true true true 2 [ab t2,v2]),(0,.cells true true true 2 [ab t1,v1])],3,0⟩)->aj P L 101 [.agg [ab s1,w1],.agg [ab s2,w2]] r:=fun r t1 t2 v1 v2 tm tail k2 k3 k4 e=>by
  unfold aj;rw [aH h.aBF];show gh [.cell 4 4 true] (D P L (.seq (bt nk.body) (.seq (bt (aC nk.body)) (aC (aC nk.body)))) ⟨[(0,.agg [ab s1,w1]),(1,.agg [ab s2,w2])],[],0,0⟩)=_
  rw [Cm,e,fm];exact tail tm k2 k3 k4
 by_cases hn:b<0
 ·obtain ⟨n1,e2,ij⟩:=FI h.toNu eA ka (by omega);obtain ⟨n2,e3,dK⟩:=FI h.toNu Gn kb (by omega);obtain ⟨s3,w3,rfl,h3⟩:=ij;obtain ⟨s4,w4,rfl,h4⟩:=dK;obtain ⟨l3,u3⟩:=h3.aY;obtain ⟨l4,u4⟩:=h4.aY;obtain ⟨r,hr,tail⟩:=ah9 h h3 h4 (by omega) ka.neg kb.neg hK;rw [Rat.neg_divInt_neg] at hr;have hs:df b<0:=by unfold df;rw [yQ hn];decide
  refine ⟨r,fin r _ _ _ _ _ tail ?_ ?_ ?_ (by simp only [go_sem,ya,yb,nk,bt,aC,hs,bh,u1.pu,u1.ak,u1.one,u2.pu,u2.ak,u2.one,cp,cG,e1,e2,e3,b6,dX u3,dX u4]<;>rfl),hr⟩<;>simp only [go_sem,ya]
 ·obtain ⟨r,hr,tail⟩:=ah9 h h1 h2 (by omega) ka kb hK;have hs:¬df b<0:=by unfold df;rw [yB hn];split<;>decide
  refine ⟨r,fin r _ _ _ _ _ tail ?_ ?_ ?_ (by simp only [go_sem,ya,yb,nk,bt,aC,hs,bh,u1.pu,u1.one,u2.pu,u2.ak,u2.one,cp,cG,e1]<;>rfl),hr⟩<;>simp only [go_sem,ya]
end
end
section
open Go (IntKind)
def Hq.mono {k m:Nat} {r:Rat} (h:Hq k r) (hk:k<=m):Hq m r:=⟨h.1.mono hk,h.2.mono hk⟩
def Hq.neg {k:Nat} {r:Rat} (h:Hq k r):Hq k (-r):=⟨h.1.neg,h.2⟩
def add_eq (a b:Rat):a+b=wJ (a.num*b.den+b.num*a.den) ((a.den:Int)*b.den):=by
 rw [Rat.add_def',<-yaM,vj]
def mul_eq (a b:Rat):a*b=wJ (a.num*b.num) ((a.den:Int)*b.den):=by
 rw [Rat.mul_def',<-yaM,vj]
def adf (a:Rat):0<(a.den:Int):=by have:=a.den_pos;omega
def DY (a b:Rat):0<(a.den:Int)*b.den:=Int.mul_pos (adf a) (adf b)
def Bd.Yd {k:Nat} {a b:Int} (ha:Bd k a) (hb:Bd k b):Bd (k+1) (a+b):=by
 have:=ha.add hb
 grind
def Hq.add {k m:Nat} {a b:Rat} (ha:Hq k a) (hb:Hq m b):Hq (k+m+1) (a+b):=by
 rw [add_eq];refine Hq.divInt (DY a b) ?_ ((ha.2.mul hb.2).mono (by omega));exact (ha.1.mul hb.2).Yd ((hb.1.mul ha.2).mono (by omega))
def Hq.mul {k m:Nat} {a b:Rat} (ha:Hq k a) (hb:Hq m b):Hq (k+m) (a*b):=by
 rw [mul_eq];exact Hq.divInt (DY a b) (ha.1.mul hb.1) (ha.2.mul hb.2)
def Hq.inv {k:Nat} {a:Rat} (ha:Hq k a):Hq k a⁻¹:=by
 have h1:(a⁻¹).num.natAbs<=a.den:=by
  rw [Rat.num_inv,yaY]
  grind
 refine ⟨ha.2.le (by simpa using h1),?_⟩;unfold Bd;rw [Rat.den_inv]
 split
 ·have h2:=ha.2;unfold Bd at h2
  simp_all
 ·exact ha.1
def RZ (a:Rat) (h:a.den=1):a=(a.num:Rat):=by
 have:=Rat.num_divInt_den a
 rw [h] at this;rw [<-this];exact (Rat.ext (by simp [yaZ]) (by simp [yba]))
def EX (a b c d:AV) (r:List AV):ib 2 true (List.drop 2 (a::b::c::d::r))=some (.agg [c,d]):=rfl
def zA (a b:AV) (r:List AV):ib 2 true (a::b::r)=some (.agg [a,b]):=rfl
section
variable {P:aI} {L:Lib}
def Ye (h:Fr' P L) {v:AV} {z:Int} (hv:cF v z):∃r,aj P L 111 [v] r/\dM r (z:Rat):=by
 obtain ⟨o1,o2⟩:=Dg h.toNu (z:=1) (by decide) (by decide);obtain ⟨s1,w1,rfl,h1⟩:=hv;obtain ⟨l1,u1⟩:=h1.aY;have un:=sX;refine ⟨.agg [ab s1,w1,ab 1,.aa],?_,s1,w1,1,.aa,rfl,h1,.inl ⟨rfl,rfl,(by show (-9223372036854775808:Int)<=1;decide),(by show (1:Int)<9223372036854775808;decide)⟩⟩
 unfold aj;rw [aH h.aBG];simp only [go_sem,ya,yb,Tm,bh,u1.pu,u1.one,cp,o1,b6,Eh,Ei,nf u1 un,fa,fb,yK,ix,nh u1 un]
def ZK (h:Fr' P L) {z:Int} (h1: -9223372036854775808<=z) (h2:z<9223372036854775808):∃r,aj P L 69 [ab z] r/\dM r (z:Rat):=by
 obtain ⟨o1,o2⟩:=Dg h.toNu h1 h2;obtain ⟨r,e,hr⟩:=Ye h o2;have bn:=hr;obtain ⟨s1,w1,s2,w2,rfl,k1,k2⟩:=hr;obtain ⟨l1,u1⟩:=k1.aY;obtain ⟨l2,u2⟩:=k2.aY;refine ⟨_,?_,bn⟩;unfold aj;rw [aH h.ZJ];simp only [go_sem,ya,yb,KJ,bh,cG,o1,e,b6,nf u1 u2,fa,fb,yK,ix,nh u1 u2]
def ZL (h:Fr' P L) {v:AV} {a:Rat} (hv:dM v a):aj P L 98 [v] (.bool (decide (a.den=1))):=by
 obtain ⟨s1,w1,s2,w2,rfl,h1,h2⟩:=hv;obtain ⟨l1,u1⟩:=h1.aY;unfold aj;rw [aH h.h98];rcases h2 with ⟨rfl,rfl,b1,b2⟩ | ⟨e,l,rfl,gb,nb,vb,sb,b1⟩
 ·have e:decide (((a.den:Nat):Int)=1)=decide (a.den=1):=by simp;omega
  simp only [go_sem,ya,yb,Pu,bh,u1.pu,u1.one,b8,yf,az3,aiP,gI,ek,e]
 ·have e:decide (a.den=1)=false:=xa (by omega);rw [e];simp only [go_sem,ya,yb,Pu,bh,u1.pu,u1.one,b8,yf,aiP,nR,ek]
def akQ (h:Fr' P L) {v:AV} {a:Rat} (hv:dM v a):aj P L 108 [v] (ab (df a.num)):=by
 obtain ⟨s1,w1,s2,w2,rfl,h1,h2⟩:=hv;obtain ⟨l1,u1⟩:=h1.aY;obtain ⟨l2,u2⟩:=h2.aY;have e1:=FH h.toNu ⟨s1,w1,rfl,h1⟩;unfold aj;rw [aH h.aBH];simp only [go_sem,ya,yb,Tl,bh,u1.pu,u1.ak,u1.one,u2.pu,u2.one,b8,yf,zA,cG,e1]
def aBJ (h:Fr' P L) {v:AV} {a:Rat} {K:Nat} (hv:dM v a) (ka:Hq K a) (hK:K<=30000000000):∃r,aj P L 102 [v] r/\dM r (-a):=by
 obtain ⟨s1,w1,s2,w2,rfl,h1,h2⟩:=hv;obtain ⟨l1,u1⟩:=h1.aY;obtain ⟨l2,u2⟩:=h2.aY;obtain ⟨n,e1,hn⟩:=FI h.toNu ⟨s1,w1,rfl,h1⟩ ka.1 (by omega);obtain ⟨s3,w3,rfl,h3⟩:=hn;obtain ⟨l3,u3⟩:=h3.aY;refine ⟨.agg [ab s3,w3,ab s2,w2],?_,s3,w3,s2,w2,rfl,h3,h2⟩;unfold aj;rw [aH h.aBI];simp only [go_sem,ya,yb,Tk,bh,u1.pu,u1.ak,u1.one,u2.pu,u2.one,u3.one,b8,yf,zA,EX,cG,e1,b6,Eh,Ei,nf u3 u2,fa,fb,yK,ix,nh u3 u2]
def m74 (h:Fr' P L) {v w:AV} {a b:Rat} {K:Nat} (hv:dM v a) (hw:dM w b) (ka:Hq K a) (kb:Hq K b) (hK:K<=10000000000):∃r,aj P L 74 [v,w] r/\dM r (a+b):=by
 have i1:=ZL h hv;have i2:=ZL h hw;obtain ⟨s1,w1,s2,w2,rfl,h1,h2⟩:=hv;obtain ⟨s3,w3,s4,w4,rfl,h3,h4⟩:=hw;obtain ⟨l1,u1⟩:=h1.aY;obtain ⟨l2,u2⟩:=h2.aY;obtain ⟨l3,u3⟩:=h3.aY;obtain ⟨l4,u4⟩:=h4.aY;have n1:cF (.agg [ab s1,w1]) a.num:=⟨s1,w1,rfl,h1⟩;have n2:cF (.agg [ab s2,w2]) a.den:=⟨s2,w2,rfl,h2⟩;have n3:cF (.agg [ab s3,w3]) b.num:=⟨s3,w3,rfl,h3⟩;have n4:cF (.agg [ab s4,w4]) b.den:=⟨s4,w4,rfl,h4⟩;by_cases qX:a.den=1/\b.den=1
 ·obtain ⟨d1,d2⟩:=qX;obtain ⟨p,e1,hp⟩:=J8 h.toNu n1 n3 ka.1 kb.1 (by omega);obtain ⟨r,e2,hr⟩:=Ye h hp;have he:((a.num+b.num:Int):Rat)=a+b:=by
   rw [Rat.intCast_add,<-RZ a d1,<-RZ b d2]
  rw [he] at hr;have bn:=hr;obtain ⟨s5,w5,rfl,h5⟩:=hp;obtain ⟨s6,w6,s7,w7,rfl,h6,h7⟩:=hr;obtain ⟨l5,u5⟩:=h5.aY;obtain ⟨l6,u6⟩:=h6.aY;obtain ⟨l7,u7⟩:=h7.aY;refine ⟨_,?_,bn⟩;rw [d1] at i1;rw [d2] at i2;unfold aj;rw [aH h.h74];simp only [go_sem,ya,yb,Ad,bh,u1.pu,u1.ak,u1.one,u2.pu,u2.ak,u2.one,u3.pu,u3.ak,u3.one,u4.pu,u4.ak,u4.one,b8,yf,ix,zA,cG,i1,i2,e1,u5.ak,e2,b6,nf u6 u7,fa,fb,yK,ix,nh u6 u7]
 ·obtain ⟨p1,e1,bj⟩:=Bt h.toNu n1 n4 ka.1 kb.2 (by omega);obtain ⟨p2,e2,jJ⟩:=Bt h.toNu n3 n2 kb.1 ka.2 (by omega);obtain ⟨p3,e3,hp3⟩:=J8 h.toNu bj jJ (ka.1.mul kb.2) (kb.1.mul ka.2) (by omega);obtain ⟨p4,e4,hp4⟩:=Bt h.toNu n2 n4 ka.2 kb.2 (by omega);obtain ⟨r,e5,hr⟩:=Yc h hp3 hp4 (by have:=DY a b;omega) ((ka.1.mul kb.2).Yd (kb.1.mul ka.2)) ((ka.2.mul kb.2).mono (by omega)) (by omega);rw [<-add_eq] at hr;have bn:=hr;obtain ⟨s5,w5,rfl,h5⟩:=bj;obtain ⟨s6,w6,rfl,h6⟩:=jJ;obtain ⟨s7,w7,rfl,h7⟩:=hp3;obtain ⟨s8,w8,rfl,h8⟩:=hp4;obtain ⟨s9,w9,s10,w10,rfl,h9,iE⟩:=hr;obtain ⟨l5,u5⟩:=h5.aY;obtain ⟨l6,u6⟩:=h6.aY;obtain ⟨l7,u7⟩:=h7.aY;obtain ⟨l8,u8⟩:=h8.aY;obtain ⟨l9,u9⟩:=h9.aY;obtain ⟨l10,PX⟩:=iE.aY;refine ⟨_,?_,bn⟩;unfold aj;rw [aH h.h74];by_cases d1:a.den=1
  ·rw [d1] at i1;rw [xa (fun d2=>qX ⟨d1,d2⟩)] at i2;simp only [go_sem,ya,yb,Ad,bh,u1.pu,u1.ak,u1.one,u2.pu,u2.ak,u2.one,u3.pu,u3.ak,u3.one,u4.pu,u4.ak,u4.one,b8,yf,ix,zA,EX,cG,i1,i2,e1,e2,u5.ak,u6.ak,e3,e4,u7.ak,u8.ak,e5,b6,nf u9 PX,fa,fb,yK,ix,nh u9 PX]
  ·rw [xa d1] at i1;simp only [go_sem,ya,yb,Ad,bh,u1.pu,u1.ak,u1.one,u2.pu,u2.ak,u2.one,u3.pu,u3.ak,u3.one,u4.pu,u4.ak,u4.one,b8,yf,ix,zA,EX,cG,i1,e1,e2,u5.ak,u6.ak,e3,e4,u7.ak,u8.ak,e5,b6,nf u9 PX,fa,fb,yK,ix,nh u9 PX]
def ZM (h:Fr' P L) {v w:AV} {a b:Rat} {K:Nat} (hv:dM v a) (hw:dM w b) (ka:Hq K a) (kb:Hq K b) (hK:K<=10000000000):∃r,aj P L 49 [v,w] r/\dM r (a*b):=by
 obtain ⟨s1,w1,s2,w2,rfl,h1,h2⟩:=hv;obtain ⟨s3,w3,s4,w4,rfl,h3,h4⟩:=hw;obtain ⟨l1,u1⟩:=h1.aY;obtain ⟨l2,u2⟩:=h2.aY;obtain ⟨l3,u3⟩:=h3.aY;obtain ⟨l4,u4⟩:=h4.aY;obtain ⟨p1,e1,bj⟩:=Bt h.toNu (v:= .agg [ab s1,w1]) (w:= .agg [ab s3,w3]) ⟨s1,w1,rfl,h1⟩ ⟨s3,w3,rfl,h3⟩ ka.1 kb.1 (by omega);obtain ⟨p2,e2,jJ⟩:=Bt h.toNu (v:= .agg [ab s2,w2]) (w:= .agg [ab s4,w4]) ⟨s2,w2,rfl,h2⟩ ⟨s4,w4,rfl,h4⟩ ka.2 kb.2 (by omega);obtain ⟨r,e3,hr⟩:=Yc h bj jJ (by have:=DY a b;omega) (ka.1.mul kb.1) (ka.2.mul kb.2) (by omega);rw [<-mul_eq] at hr;have bn:=hr;obtain ⟨s5,w5,rfl,h5⟩:=bj;obtain ⟨s6,w6,rfl,h6⟩:=jJ;obtain ⟨s7,w7,s8,w8,rfl,h7,h8⟩:=hr;obtain ⟨l5,u5⟩:=h5.aY;obtain ⟨l6,u6⟩:=h6.aY;obtain ⟨l7,u7⟩:=h7.aY;obtain ⟨l8,u8⟩:=h8.aY;refine ⟨_,?_,bn⟩;unfold aj;rw [aH h.oE]
 simp only [go_sem,ya,yb,c49,bh,u1.pu,u1.ak,u1.one,u2.pu,u2.ak,u2.one,u3.pu,u3.ak,u3.one,u4.pu,u4.ak,u4.one,u5.ak,u6.ak,b8,yf,zA,EX,cG,e1,e2,e3,b6,nf u7 u8,fa,fb,yK,ix,nh u7 u8]
def m73 (h:Fr' P L) {v:AV} {a:Rat} {K:Nat} (hv:dM v a) (h0:a≠0) (ka:Hq K a) (hK:K<=10000000000):∃r,aj P L 73 [v] r/\dM r a⁻¹:=by
 obtain ⟨s1,w1,s2,w2,rfl,h1,h2⟩:=hv;obtain ⟨l1,u1⟩:=h1.aY;obtain ⟨l2,u2⟩:=h2.aY;obtain ⟨r,e1,hr⟩:=Yc h (v:= .agg [ab s2,w2]) (w:= .agg [ab s1,w1]) ⟨s2,w2,rfl,h2⟩ ⟨s1,w1,rfl,h1⟩ (fun e=>h0 (Rat.num_eq_zero.1 e)) ka.2 ka.1 (by omega);rw [<-Rat.inv_def] at hr;have bn:=hr;obtain ⟨s7,w7,s8,w8,rfl,h7,h8⟩:=hr;obtain ⟨l7,u7⟩:=h7.aY;obtain ⟨l8,u8⟩:=h8.aY;refine ⟨_,?_,bn⟩;unfold aj;rw [aH h.h73];simp only [go_sem,ya,yb,BP,bh,u1.pu,u1.ak,u1.one,u2.pu,u2.ak,u2.one,b8,yf,zA,EX,cG,e1,b6,nf u7 u8,fa,fb,yK,ix,nh u7 u8]
end
end
section
open Go (IntKind)
def rJ:List AV->Option (List Nat)
 | []=>some []
 | .int .u64 (.ofNat d)::r=>bif yR d 18446744073709551616 then (match rJ r with | some l=>some (d::l) | none=>none) else none
 | _::_=>none
def r8:List Nat->Nat
 | []=>0
 | a::r=>a+18446744073709551616*r8 r
def Ba:List Nat->Bool
 | []=>false
 | [a]=> !yu a 0
 | _::r=>Ba r
def MG:List AV->Option AV
 | [.agg [.int .i64 s,.aa]]=>bif A6 s then some (.str (aV s)) else none
 | [.agg [.int .i64 s,.aA _ n cs]]=>
  match rJ cs with
  | some l=>
   bif yu l.length n&&(yE n 4000000000&&(Ba l&&yE 9223372036854775808 (r8 l))) then
    match s with
    | .ofNat 1=>some (.str (aw (r8 l)))
    | .negSucc 0=>some (.str (45::aw (r8 l)))
    | _=>none
   else none
  | none=>none
 | _=>none
end
section
open Go (IntKind)
def abk:∀{l:List Nat},lo 18446744073709551616 l->rJ (l.map uc)=some l
 | [],_=>rfl
 | a::l,h=>by
  have h1:=h a (by simp);have h2:=abk (l:=l) (fun x hx=>h x (by simp [hx]));show (bif yR a 18446744073709551616 then (match rJ (l.map uc) with | some l=>some (a::l) | none=>none) else none)=_
  rw [kJ h1,h2];rfl
def R0:∀l:List Nat,r8 l=bv 18446744073709551616 l
 | []=>rfl
 | a::l=>by simp only [r8,bv,R0 l]
def adg:∀{l:List Nat},l≠[]->gm l->Ba l=true
 | [],h,_=>absurd rfl h
 | [a],_,h=>by
  have:a≠0:=fun e=>by
   subst e;have h:dW [0]=[0]:=h;simp [dW] at h
  simp [Ba,fW this]
 | a::b::r,_,h=>by
  have h1:gm (b::r):=by
   have h:dW (a::b::r)=a::b::r:=h;rw [dW] at h
   grind
  have:=adg (l:=b::r) (by simp) h1
  simpa [Ba] using this
section
variable {P:aI} {L:Lib}
structure Tx (P:aI) (L:Lib):Prop extends Fr' P L where
 Gp:L.pure 99=some MG
 aBK:L.pure 175=some Ir
 akR:L.pure 152=some LB
 Yf:L.pure 153=some Lr
 Yg:L.pure 154=some I5
 Yh:L.pure 109=some ND
 Yi:Has P L 155 NL
 akS:Has P L 172 NP
 aBL:Has P L 151 NK
 aBM:Has P L 107 NE
 ZN:Has P L 46 sC
 akT:Has P L 110 NF
 PY:Has P L 62 F9
def ZO (h:Tx P L) {v:AV} {z:Int} {K:Nat} (hv:cF v z) (hz:Bd K z) (hK:K<=4000000000):aj P L 99 [v] (.str (aV z)):=by
 obtain ⟨s,w,rfl,hn⟩:=hv;unfold aj;rw [jo h.Gp];rcases hn with ⟨rfl,rfl,h1,h2⟩ | ⟨e,l,rfl,g,n,hb,hs,h1⟩
 ·show (bif A6 s then some (AV.str (aV s)) else none)=_
  have:A6 s=true:=by
   cases s with
   | ofNat k=>exact kJ (by have:(Int.ofNat k)=(k:Int):=rfl;omega)
   | negSucc k=>exact kJ (by omega)
  grind
 ·have j9:l≠[]:=fun e=>by subst e;simp [bv] at hb;omega
  have lV:l.length<=4000000000:=xi (n8 n hb (yT hz (AW K))) hK
  show (match rJ (l.map uc) with
   | some l'=>bif yu l'.length l.length&&(yE l.length 4000000000&&(Ba l'&&yE 9223372036854775808 (r8 l'))) then (match s with | .ofNat 1=>some (AV.str (aw (r8 l'))) | .negSucc 0=>some (.str (45::aw (r8 l'))) | _=>none) else none
   | none=>none)=_
  rw [abk g];simp only [Nat.beq_refl,yo lV,adg j9 n,R0,hb,yo h1,xM,yA];by_cases h0:z<0
  ·rw [yQ h0] at hs;subst hs;rw [kD h0];rfl
  ·rw [yB h0] at hs;subst hs;obtain ⟨m,rfl⟩:∃m:Nat,z=m:=⟨z.toNat,by omega⟩;rfl
def RT (r:Rat):List Nat:=aV r.num++(if r.den=1 then [] else 47::aw r.den)
def HQ {z:Int} {k:Nat} (h:Bd k z):(aV z).length<=k+1:=by
 have h1:∀m:Nat,m<2^k->(aw m).length<=max k 1:=fun m hm=>by
  cases k with
  | zero=>
       have:m=0:=by simpa using hm
       subst this;decide
  | succ k=>
   rw [Nat.max_eq_left (by omega)];exact ru (k:=k) (yT hm (vU (by decide) _))
 by_cases h0:z<0
 ·rw [kD h0];unfold Bd at h
  grind
 ·obtain ⟨m,rfl⟩:∃m:Nat,z=m:=⟨z.toNat,by omega⟩
  have:=h1 m (by unfold Bd at h;simpa using h)
  rw [lD];omega
def m46 (h:Tx P L) {v:AV} {a:Rat} {K:Nat} (hv:dM v a) (ka:Hq K a) (hK:K<=4000000000):aj P L 46 [v] (.str (RT a)):=by
 have i1:=ZL h.toFr' hv;obtain ⟨s1,w1,s2,w2,rfl,h1,h2⟩:=hv;obtain ⟨l1,u1⟩:=h1.aY;obtain ⟨l2,u2⟩:=h2.aY;have e1:=ZO h (v:= .agg [ab s1,w1]) ⟨s1,w1,rfl,h1⟩ ka.1 hK;have e2:=ZO h (v:= .agg [ab s2,w2]) ⟨s2,w2,rfl,h2⟩ ka.2 hK;have b1:=HQ ka.1;have b2:=HQ ka.2;rw [lD] at e2 b2;unfold aj RT;rw [aH h.ZN];by_cases hd:a.den=1
 ·rw [yQ hd,List.append_nil];rw [hd] at i1;simp only [go_sem,ya,yb,sC,bh,u1.pu,u1.ak,u1.one,u2.pu,u2.ak,u2.one,ix,cG,i1,b8,yf,zA,e1]
 ·rw [yB hd];rw [xa hd] at i1;have hc:aV a.num++47::aw a.den=(aV a.num++[47])++aw a.den:=by simp
  rw [hc]
  simp only [go_sem,ya,yb,sC,bh,u1.pu,u1.ak,u1.one,u2.pu,u2.ak,u2.one,ix,cG,i1,b8,yf,zA,EX,e1,e2,gD (a:=aV a.num) (b:=[47]) (by simp;omega),gD (a:=aV a.num++[47]) (b:=aw a.den) (by simp;omega)]
end
end
section
open Go (IntKind)
def aBN {n:Nat} (h:n<9223372036854775808):binOp .and (.int .i64 (n:Int)) (.int .i64 1)=some (.int .i64 ((n%2:Nat):Int)):=by
 show some (AV.int .i64 (IntKind.wrap .i64 ((xL 64 (n:Int)&&&xL 64 1).toNat:Int)))=_
 rw [show xL 64 (n:Int)=uG 64 n from BitVec.ofInt_natCast 64 n,show xL 64 1=uG 64 1 from rfl];rw [BitVec.toNat_and,vK,vK,show (1%2^64:Nat)=2^1-1 from rfl,Nat.and_two_pow_sub_one_eq_mod,wrapN (by omega)]
 grind
def aBO (n:Nat):binOp .shr (.int .i64 (n:Int)) (.int .u64 1)=some (.int .i64 ((n/2:Nat):Int)):=by
 show some (AV.int .i64 ((n:Int).fdiv (2^1)))=_
 grind
def Bd.pow {k:Nat} {z:Int} (h:Bd k z):∀e,Bd (k*e+1) (z^e)
 | 0=>by rw [tY,xB];unfold Bd;decide
 | e+1=>by
  have ih:=Bd.pow h e;rw [Int.pow_succ];exact (ih.mul h).mono (by rw [xA,yh];omega)
section
variable {P:aI} {L:Lib}
def aym (h:Nu P L) (O0:True) {z:Int} {K k0:Nat} (hz:Bd K z) (hK:K*k0+1<=30000000000) {o1 o2:AV}:
  ∀m st,(∃(k i e:Nat) (s1 s2:Int) (w1 w2:AV),aS [1,2,4,5] st=⟨[(1,ab k),(2,.ptr 0 0),(4,.ptr 1 0),(5,.ptr 2 0)],[(2,.cells true true true 2 [ab s2,w2]),(1,.cells true true true 2 [o1,o2]),(0,.cells true true true 2 [ab s1,w1])],3,0⟩/\du s1 w1 (z^i)/\du s2 w2 (z^e)/\e+i*k=k0/\(0<k->i<=k0)/\k<9223372036854775808/\k=m)->
   ∃ex st',D P L (.loop [1,2,4,5] Cw) st=some (ex,st')/\∃tm s2 w2 c0,st'=⟨tm,[(2,.cells true true true 2 [ab s2,w2]),(1,.cells true true true 2 [o1,o2]),(0,c0)],3,0⟩/\ex= .exit 0/\ai tm 4= .ptr 1 0/\ai tm 5= .ptr 2 0/\du s2 w2 (z^k0):=by
 intro dq sq;generalize bB:aS [1,2,4,5] sq=s0;revert bB s0 sq dq;apply dI;rintro m st ⟨k,i,e,s1,s2,w1,w2,rfl,h1,h2,hk,hi,hkb,rfl⟩;obtain ⟨l1,u1⟩:=h1.aY;obtain ⟨l2,u2⟩:=h2.aY;by_cases Kx:k=0
 ·right
  subst Kx;rw [xB,y8] at hk;subst hk;simp only [go_sem,Cw,show ¬(0:Int)<((0:Nat):Int) by omega];exact ⟨_,_,rfl,by simp,_,s2,w2,_,rfl,rfl,by simp only [go_sem,ya],by simp only [go_sem,ya],h2⟩
 ·left
  have dT:=hi (by omega);have he:e<=k0:=by omega
  have hik:i*1<=i*k:=yZ i (by omega);have b1:Bd (K*k0+1) (z^i):=(hz.pow i).mono (by have:=yZ K dT;omega);have b2:Bd (K*k0+1) (z^e):=(hz.pow e).mono (by have:=yZ K he;omega);have n1:cF (.agg [ab s1,w1]) (z^i):=⟨s1,w1,rfl,h1⟩;have n2:cF (.agg [ab s2,w2]) (z^e):=⟨s2,w2,rfl,h2⟩;obtain ⟨p,e1,hp⟩:=Bt h n2 n1 b2 b1 (by omega);obtain ⟨q,e2,hq⟩:=Bt h n1 n1 b1 b1 (by omega);rw [<-Int.pow_add] at hp hq;obtain ⟨s3,w3,rfl,h3⟩:=hp;obtain ⟨s4,w4,rfl,h4⟩:=hq;obtain ⟨l3,u3⟩:=h3.aY;obtain ⟨l4,u4⟩:=h4.aY;have fE:=xR k 2;have K6:=aBN (n:=k) hkb;have ZP:=aBO k;have aHH:(i+i)*(k/2)=i*(2*(k/2)):=by rw [<-Nat.two_mul,Nat.mul_comm 2 i,Nat.mul_assoc]
  by_cases aBP:k%2=1
  ·rw [aBP] at K6 fE;have qP:i*k=i*(2*(k/2))+i:=by
    conv=>lhs;rw [<-fE,xA,yh]
   by_cases kh:1<k
   ·simp only [go_sem,ya,Cw,show (0:Int)<(k:Int) by omega,K6,show ((1:Nat):Int)=1 from rfl,cp,cG,u1.ak,u2.ak,e1,b6,cp,yK,dX u3,dX u4,show (1:Int)<(k:Int) by omega,e2,ZP]
    exact ⟨_,k/2,rfl,by omega,k/2,i+i,e+i,s4,s3,w4,w3,by simp only [go_sem,ya,yb,ax],h4,h3,by omega,fun h0=>by have:=yZ (i+i) h0;omega,by omega,rfl⟩
   ·have er:e+i+i*(k/2)=k0:=by
     have h1:k/2=0:=by omega
     rw [h1] at qP ⊢;omega
    simp only [go_sem,ya,Cw,show (0:Int)<(k:Int) by omega,K6,show ((1:Nat):Int)=1 from rfl,cp,cG,u1.ak,u2.ak,e1,b6,cp,yK,dX u3,show ¬(1:Int)<(k:Int) by omega,ZP];exact ⟨_,k/2,rfl,by omega,k/2,i,e+i,s1,s3,w1,w3,by simp only [go_sem,ya,yb,ax],h1,h3,er,fun h0=>by omega,by omega,rfl⟩
  ·have Dz:k%2=0:=by omega
   rw [Dz] at K6 fE;have qP:i*k=i*(2*(k/2)):=by
    conv=>lhs;rw [<-fE,y8]
   simp only [go_sem,ya,Cw,show (0:Int)<(k:Int) by omega,K6,show ((0:Nat):Int)=0 from rfl,uy,cp,cG,u1.ak,b6,cp,yK,dX u4,show (1:Int)<(k:Int) by omega,e2,ZP]
   exact ⟨_,k/2,rfl,by omega,k/2,i+i,e,s4,s2,w4,w2,by simp only [go_sem,ya,yb,ax],h4,h2,by omega,fun h0=>by have:=yZ (i+i) h0;omega,by omega,rfl⟩
def aBQ (h:Nu P L) (Yi:Has P L 155 NL) {v:AV} {z:Int} {K k:Nat} (hv:cF v z) (hz:Bd K z) (hK:K*k+1<=30000000000) (hk:k<9223372036854775808):∃r,aj P L 155 [v,ab k] r/\cF r (z^k):=by
 obtain ⟨o1,o2⟩:=Dg h (z:=1) (by decide) (by decide);obtain ⟨s1,w1,rfl,h1⟩:=hv;obtain ⟨l1,u1⟩:=h1.aY;have un:=sX;have iY:∃s w,aj P L 155 [.agg [ab s1,w1],ab k] (.agg [ab s,w])/\du s w (z^k):=by
  unfold aj;rw [aH Yi];simp only [go_sem,ya,yb,NL,bh,u1.pu,u1.one,o1,b6,dX un];generalize hq:D P L (.loop [1,2,4,5] Cw) _=q;obtain ⟨ex,st,rfl,tm,s5,w5,c1,rfl,rfl,t4,t5,h5⟩:=bQ hq (aym (P:=P) (L:=L) h trivial hz (k0:=k) hK (o1:= .int .i64 0) (o2:= .aa) k) ⟨k,1,0,s1,1,w1,.aa,by simp only [go_sem,ya,yb,ax],by rw [Int.pow_one];exact h1,.inl ⟨rfl,(tY z).symm,(by rw [tY];decide)⟩,by omega,fun h0=>h0,hk,rfl⟩
  obtain ⟨l5,u5⟩:=h5.aY;refine ⟨s5,w5,?_,h5⟩;simp only [go_sem,ya,yb,ax,t4,t5,fa,fb,cp,yK,nd u5,dX u5]
 obtain ⟨s,w,e,hn⟩:=iY;exact ⟨_,e,s,w,rfl,hn⟩
def HY:∀(l m:List Nat) (a:Nat),cN (l++m) a=(cN l a).bind (fun v=>cN m v)
 | [],m,a=>rfl
 | b::l,m,a=>by
  simp only [List.cons_append,cN]
  cases (yE 48 b&&yE b 57) with
  | true=>exact HY l m _
  | false=>rfl
def ass:∀{l:List Nat} {a v:Nat},cN l 0=some v->cN l a=some (a*10^l.length+v):=by
 intro l
 suffices h:∀{l:List Nat} {a b v:Nat},cN l b=some v->b*10^l.length<=v/\cN l (a+b)=some (a*10^l.length+v) by
  intro a v hv
  have:=(h (a:=a) hv).2
  grind
 intro l
 induction l with
 | nil=>intro a b v h;simp [cN] at h ⊢;omega
 | cons c l ih=>
  intro a b v h;simp only [cN] at h ⊢
  cases hb:(yE 48 c&&yE c 57) with
  | false=>rw [hb] at h;cases h
  | true=>
   rw [hb] at h;obtain ⟨h1,h2⟩:=ih (a:=10*a) h;simp only [yz,xd]
   grind
def R1:∀{l:List Nat} {v:Nat},cN l 0=some v->v<10^l.length:=by
 suffices h:∀{l:List Nat} {b v:Nat},cN l b=some v->v<(b+1)*10^l.length by
  grind
 intro l
 induction l with
 | nil=>intro b v h;simp [cN] at h ⊢;omega
 | cons c l ih=>
  intro b v h;simp only [cN] at h
  cases hb:(yE 48 c&&yE c 57) with
  | false=>rw [hb] at h;cases h
  | true=>
   simp only [Bool.and_eq_true] at hb;have hc:=Nat.le_of_ble_eq_true hb.2;have h2:=Nat.mul_le_mul_right (10^l.length) (show 10*b+(c-48)+1<=10*(b+1) by omega)
   grind
def auz (Yg:L.pure 154=some I5) {f:cA} {s:List Nat} {v:Nat} (h0:0<s.length) (h1:s.length<=18) (hv:cN s 0=some v):bO P L f 154 [.str s]=some (.ae [.int .i64 v,.undef]):=by
 rw [jo Yg];show (bif yR 0 s.length&&yE s.length 18 then (match cN s 0 with | some n=>some (AV.ae [.int .i64 n,.undef]) | none=>none) else none)=_
 rw [kJ h0,yo h1,hv];rfl
end
end
section
open Go (IntKind)
def acd:∀j:Nat,gM [48] j++[48]=[48]++gM [48] j
 | 0=>rfl
 | j+1=>by
  show ([48]++gM [48] j)++[48]=[48]++([48]++gM [48] j)
  rw [xq,acd j]
def D9:∀j:Nat,(gM [48] j).length=j
 | 0=>rfl
 | j+1=>by show ([48]++gM [48] j).length=_;rw [yL,D9 j];simp;omega
def aqp:∀(k n:Nat),n<10^k->0<k->iz k n=gM [48] (k-(aw n).length)++aw n:=by
 intro k
 induction k with
 | zero=>intro n _ h;omega
 | succ k ih=>
  intro n hn _;rw [iz];by_cases iE:n<10
  ·rw [nH iE,yW iE]
   cases k with
   | zero=>rfl
   | succ k=>
    rw [ih (n/10) (by rw [wS iE];exact ybG (by decide)) (by omega),wS iE]
    rw [show aw 0=[48] by decide];rw [acd];rfl
  ·have hk:0<k:=by
    grind
   rw [ih (n/10) (by rw [xd] at hn;omega) hk,oR iE,xq,yL]
   grind
def aqq {m d r:Nat} (hd:d=m/1000000000000000000) (hr:r=m%1000000000000000000):(0<d->aw m=aw d++(gM [48] (18-(aw r).length)++aw r))/\(d=0->aw m=aw r):=by
 have ZI:r<10^18:=by omega
 constructor
 ·intro h0;rw [<-aqp 18 r ZI (by decide),<-Mf 18 d r h0 ZI]
  grind
 ·grind
section
variable {P:aI} {L:Lib}
def ayn {f:cA} (h:L.pure 138=some At) {n:Nat} (hn:n<18446744073709551616):bO P L f 138 [uc n,ab 10]=some (.str (aw n)):=by
 rw [jo h];show (bif yR n 18446744073709551616 then some (AV.str (aw n)) else none)=_
 rw [kJ hn];rfl
def Sy {f:cA} (h:L.pure 139=some AM) {n:Nat} (hn:n<=100):bO P L f 139 [.str [48],ab (n:Nat)]=some (.str (gM [48] n)):=by
 rw [jo h];show (bif yE n 1099511627776&&yE (1*n) 1099511627776 then some (AV.str (gM [48] n)) else none)=_
 rw [yo (by omega),yo (by omega)];rfl
def ayo (h:Wd P L) (Di:L.pure 138=some At) (zU:L.pure 139=some AM) {neg:Bool} {M K:Nat} (hM0:0<M) (hK:K<=4000000000) (hlen:(aw M).length<=300000000000):
  ∀k s,(∃(m:Nat) (w:AV) (ps:List (List Nat)) (fl:Bool),m=k/\WN w m/\m<18446744073709551616^K/\aw M=(if m=0 then [] else aw m)++ps.reverse.flatten/\((ps=[]->m=M)/\18*ps.length<=(aw M).length+18)/\(m≠0->18*ps.length+(aw m).length=(aw M).length)/\
    ((ps=[]/\aS [3,4,5,6] s=⟨[(3,.bool neg),(4,w),(5,.aB 0 0 1),(6,.aa)],[(0,.cells fl true true 1 [uc 1000000000000000000])],1,0⟩)\/
    (ps≠[]/\aS [3,4,5,6] s=⟨[(3,.bool neg),(4,w),(5,.aB 0 0 1),(6,.aB 1 0 ps.length)],[(1,.cells true true false 1 (ps.map .str)),(0,.cells fl true true 1 [uc 1000000000000000000])],2,0⟩)))->
   ∃ex s',D P L (.loop [3,4,5,6] po) s=some (ex,s')/\∃tm ps fl,ex= .exit 0/\ps≠[]/\ps.length<=300000000000/\aw M=ps.reverse.flatten/\ai tm 3= .bool neg/\ai tm 6= .aB 1 0 ps.length/\s'=⟨tm,[(1,.cells true true false 1 (ps.map .str)),(0,.cells fl true true 1 [uc 1000000000000000000])],2,0⟩:=by
 intro dq sq;generalize bB:aS [3,4,5,6] sq=s0;revert bB s0 sq dq;apply dI;rintro k s ⟨m,w,ps,fl,rfl,hw,hmK,Ao,akU,gQ,hs⟩;obtain ⟨lw,uw,gw,nw,vw⟩:=hw;by_cases hm:m=0
 ·right
  have j9:lw=[]:=List.eq_nil_of_length_eq_zero (Nat.le_zero.1 (n8 (K:=0) nw vw (by rw [hm];decide)))
  subst j9;rw [yQ hm,xG] at Ao;have dc:ps≠[]:=fun e=>by have:=akU.1 e;omega
  have PZ:ps.length<=300000000000:=by have:=akU.2;omega
  rcases hs with ⟨h0,_⟩ | ⟨_,rfl⟩
  ·exact absurd h0 dc
  ·simp only [go_sem,ya,po,uw.len,yO,show ¬(0:Int)<((0:Nat):Int) by omega];exact ⟨_,_,rfl,by simp,_,ps,fl,rfl,dc,PZ,Ao,by simp only [go_sem,ya],by simp only [go_sem,ya],rfl⟩
 ·left
  have hw:WN w m:=⟨lw,uw,gw,nw,vw⟩;have hB:WN (.aA true 1 [uc 1000000000000000000]) 1000000000000000000:=⟨[1000000000000000000],mW true [1000000000000000000],EK.2 (by decide),by decide,by simp [bv]⟩;obtain ⟨q,r,e1,hq,hr⟩:=akF h hw hB (K:=K+1) (by decide) (yT hmK (xh (by decide) (by omega))) (by rw [xd];have:=ybG (n:=K) (show 0<18446744073709551616 by decide);omega) (by omega)
  obtain ⟨t1,t2⟩:=aqq (m:=m) rfl rfl;have fE:=xR m 1000000000000000000;have hrB:=xy m (show 0<1000000000000000000 by decide);obtain ⟨d,hd⟩:∃d,d=m/1000000000000000000:=⟨_,rfl⟩;obtain ⟨x,hx⟩:∃x,x=m%1000000000000000000:=⟨_,rfl⟩;rw [<-hd] at hq t1 t2 fE;rw [<-hx] at hr t1 t2 fE hrB;obtain ⟨lq,uq,gq,nq,vq⟩:=hq;obtain ⟨lr,ur,gr,nr,vr⟩:=hr;have hxl:(aw x).length<=18:=ru (k:=17) (by omega);have hxp:=rz x;have KU:(lr=[]/\x=0)\/lr=[x]:=by
   have h1:lr.length<=1:=n8 (K:=1) nr vr (by rw [ybI];omega)
   cases lr with
   | nil=>exact .inl ⟨rfl,by rw [<-vr];rfl⟩
   | cons a l=>
    cases l with
    | nil=>rw [AU] at vr;exact .inr (by rw [vr])
    | cons b l=>simp at h1
  have K7:(lq=[]/\d=0)\/(0<lq.length/\0<d):=by
   cases lq with
   | nil=>exact .inl ⟨rfl,by rw [<-vq];rfl⟩
   | cons a l=>
    refine .inr ⟨by simp,?_⟩;rcases Nat.eq_zero_or_pos d with h0 | h0
    ·have:=n8 (K:=0) nq vq (by rw [h0];decide)
     simp at this
    ·exact h0
  unfold aj at e1;have B1:(0:Int)<(lw.length:Int):=by
   have:lw≠[]:=fun e=>by subst e;simp [bv] at vw;omega
   have:=tg.2 this
   omega
  have aHV:=gQ hm;have hmp:=rz m;have new:∀t:List Nat,aw m=(if d=0 then [] else aw d)++t->(d≠0->t.length=18)->
    aw M=(if d=0 then [] else aw d)++(ps++[t]).reverse.flatten/\((ps++[t]=[]->d=M)/\18*(ps++[t]).length<=(aw M).length+18)/\(d≠0->18*(ps++[t]).length+(aw d).length=(aw M).length):=fun t h1 h2=>by
   rw [yB hm,h1] at Ao;refine ⟨by rw [Ao];simp,⟨by simp,by simp only [yL,yz,yO];omega⟩,fun h0=>?_⟩
   have h3:=congrArg List.length h1;rw [yB h0,yL,h2 h0] at h3;simp only [yL,yz,yO];omega
  have Bu:d<m:=by omega
  have B2:WN q d:=⟨lq,uq,gq,nq,vq⟩;have oA:lr=[x]->iN 1 0 r=some (.b5 (.int .u64 x::([]:List AV))):=fun e=>by
   subst e
   have:=ur.aQ (i:=0) (by simp)
   simpa using this
  have f1:=ayn (P:=P) (f:=D P L) Di (n:=x) (by omega);have f2:=Sy (P:=P) (f:=D P L) zU (n:=18-(aw x).length) (by omega);have Yj:(18:Int)-((aw x).length:Int)=((18-(aw x).length:Nat):Int):=by omega
  have aHW:18*ps.length<=300000000000:=by omega
  have zl:(gM [48] (18-(aw x).length)++aw x).length=18:=by rw [yL,D9];omega
  obtain ⟨z,hz⟩:∃z,z=aw x:=⟨_,rfl⟩;have jC:x=0->z=[48]:=fun e=>by rw [hz,e];decide
  rw [<-hz] at f1 f2 Yj hxl hxp zl t1 t2;cases fl
  all_goals
   rcases K7 with ⟨rfl,gA⟩ | ⟨P0,gA⟩
   ·obtain ⟨n1,n2,n3⟩:=new z (by rw [yQ gA,xG];exact t2 gA) (fun h=>absurd gA h)
    rcases KU with ⟨rfl,Ai⟩ | rfl
    ·have kv:=jC Ai;clear hz;subst kv;rcases hs with ⟨ie,rfl⟩ | ⟨ie,rfl⟩
     ·subst ie;simp only [go_sem,ya,yb,xg,yD,yp,yh,po,uw.len,uw.ak,uq.len,uq.bH,ur.len,ur.bH,B1,e1,yO,yO,show ¬(0:Int)<((0:Nat):Int) by omega,gX];refine ⟨_,d,rfl,Bu,d,q,[]++[[48]],false,rfl,B2,by omega,n1,n2,n3,.inr ⟨by simp,?_⟩⟩;simp only [go_sem,ya,yb,ax,au uq.pu,ay _ uq.pu]<;>rfl
     ·simp only [go_sem,ya,yb,yD,yp,yh,po,uw.len,uw.ak,uq.len,uq.bH,ur.len,ur.bH,B1,e1,yO,yO,show ¬(0:Int)<((0:Nat):Int) by omega]
      rw [fY (ex:=false) (pu:=true) (cs:=ps.map .str) (by simp only [go_sem,ya]) (by simp) (by omega) (by omega) (by decide) (by simp only [go_sem])];simp only [go_sem,ya,yb];refine ⟨_,d,rfl,Bu,d,q,ps++[[48]],false,rfl,B2,by omega,n1,n2,n3,.inr ⟨by simp,?_⟩⟩;rw [xu,yL];simp only [go_sem,ya,yb,ax,au uq.pu,ay _ uq.pu]<;>rfl
    ·rcases hs with ⟨ie,rfl⟩ | ⟨ie,rfl⟩
     ·subst ie;simp only [go_sem,ya,yb,xg,yD,yp,yh,po,uw.len,uw.ak,uq.len,uq.bH,ur.len,ur.bH,B1,e1,yz,yO,yf,show (0:Int)<((1:Nat):Int) by omega,oA rfl,f1,yO,show ¬(0:Int)<((0:Nat):Int) by omega,gX];refine ⟨_,d,rfl,Bu,d,q,[]++[z],false,rfl,B2,by omega,n1,n2,n3,.inr ⟨by simp,?_⟩⟩;simp only [go_sem,ya,yb,ax,au uq.pu,ay _ uq.pu]<;>rfl
     ·simp only [go_sem,ya,yb,yD,yp,yh,po,uw.len,uw.ak,uq.len,uq.bH,ur.len,ur.bH,B1,e1,yz,yO,yf,show (0:Int)<((1:Nat):Int) by omega,oA rfl,f1,yO,show ¬(0:Int)<((0:Nat):Int) by omega]
      rw [fY (ex:=false) (pu:=true) (cs:=ps.map .str) (by simp only [go_sem,ya]) (by simp) (by omega) (by omega) (by decide) (by simp only [go_sem])];simp only [go_sem,ya,yb];refine ⟨_,d,rfl,Bu,d,q,ps++[z],false,rfl,B2,by omega,n1,n2,n3,.inr ⟨by simp,?_⟩⟩;rw [xu,yL];simp only [go_sem,ya,yb,ax,au uq.pu,ay _ uq.pu]<;>rfl
   ·obtain ⟨n1,n2,n3⟩:=new (gM [48] (18-z.length)++z) (by rw [yB (by omega)];exact t1 gA) (fun _=>zl)
    rcases KU with ⟨rfl,Ai⟩ | rfl
    ·have kv:=jC Ai;clear hz;subst kv;rcases hs with ⟨ie,rfl⟩ | ⟨ie,rfl⟩
     ·subst ie
      simp only [go_sem,ya,yb,xg,yD,yp,yh,po,uw.len,uw.ak,uq.len,uq.bH,ur.len,ur.bH,B1,e1,yO,show ¬(0:Int)<((0:Nat):Int) by omega,show (0:Int)<(lq.length:Int) by omega,show (18:Int)-((1:Nat):Int)=((17:Nat):Int) from rfl,wrapN (n:=17) (by omega),Sy (P:=P) (f:=D P L) zU (n:=17) (by omega),gD (a:=gM [48] 17) (b:=[48]) (by rw [D9];decide),gX]
      refine ⟨_,d,rfl,Bu,d,q,[]++[gM [48] 17++[48]],false,rfl,B2,by omega,n1,n2,n3,.inr ⟨by simp,?_⟩⟩;simp only [go_sem,ya,yb,ax,au uq.pu,ay _ uq.pu]<;>rfl
     ·simp only [go_sem,ya,yb,yD,yp,yh,po,uw.len,uw.ak,uq.len,uq.bH,ur.len,ur.bH,B1,e1,yO,show ¬(0:Int)<((0:Nat):Int) by omega,show (0:Int)<(lq.length:Int) by omega,show (18:Int)-((1:Nat):Int)=((17:Nat):Int) from rfl,wrapN (n:=17) (by omega),Sy (P:=P) (f:=D P L) zU (n:=17) (by omega),gD (a:=gM [48] 17) (b:=[48]) (by rw [D9];decide)]
      rw [fY (ex:=false) (pu:=true) (cs:=ps.map .str) (by simp only [go_sem,ya]) (by simp) (by omega) (by omega) (by decide) (by simp only [go_sem])];simp only [go_sem,ya,yb];refine ⟨_,d,rfl,Bu,d,q,ps++[gM [48] 17++[48]],false,rfl,B2,by omega,n1,n2,n3,.inr ⟨by simp,?_⟩⟩;rw [xu,yL];simp only [go_sem,ya,yb,ax,au uq.pu,ay _ uq.pu]<;>rfl
    ·rcases hs with ⟨ie,rfl⟩ | ⟨ie,rfl⟩
     ·subst ie
      simp only [go_sem,ya,yb,xg,yD,yp,yh,po,uw.len,uw.ak,uq.len,uq.bH,ur.len,ur.bH,B1,e1,yz,yO,yf,show (0:Int)<((1:Nat):Int) by omega,oA rfl,f1,show (0:Int)<(lq.length:Int) by omega,Yj,wrapN (n:=18-z.length) (by omega),f2,gD (a:=gM [48] (18-z.length)) (b:=z) (by rw [D9];omega),gX];refine ⟨_,d,rfl,Bu,d,q,[]++[gM [48] (18-z.length)++z],false,rfl,B2,by omega,n1,n2,n3,.inr ⟨by simp,?_⟩⟩;simp only [go_sem,ya,yb,ax,au uq.pu,ay _ uq.pu]<;>rfl
     ·simp only [go_sem,ya,yb,yD,yp,yh,po,uw.len,uw.ak,uq.len,uq.bH,ur.len,ur.bH,B1,e1,yz,yO,yf,show (0:Int)<((1:Nat):Int) by omega,oA rfl,f1,show (0:Int)<(lq.length:Int) by omega,Yj,wrapN (n:=18-z.length) (by omega),f2,gD (a:=gM [48] (18-z.length)) (b:=z) (by rw [D9];omega)]
      rw [fY (ex:=false) (pu:=true) (cs:=ps.map .str) (by simp only [go_sem,ya]) (by simp) (by omega) (by omega) (by decide) (by simp only [go_sem])];simp only [go_sem,ya,yb];refine ⟨_,d,rfl,Bu,d,q,ps++[gM [48] (18-z.length)++z],false,rfl,B2,by omega,n1,n2,n3,.inr ⟨by simp,?_⟩⟩;rw [xu,yL];simp only [go_sem,ya,yb,ax,au uq.pu,ay _ uq.pu]<;>rfl
end
end
section
open Go (IntKind)
def mF:Nat->VC->VC
 | 0,c=>bt c
 | n+1,c=> .seq (bt c) (mF n (aC c))
def jv:Nat->VC->VC
 | 0,c=>aC c
 | n+1,c=>jv n (aC c)
def akV:Nat->VC->Prop
 | 0,c=>c= .seq (bt c) (aC c)
 | n+1,c=>c= .seq (bt c) (aC c)/\akV n (aC c)
def Ij {P:aI} {L:Lib}:∀(n:Nat) {c:VC},akV n c->∀s,D P L c s=nc P L (D P L (mF n c) s) (jv n c)
 | 0,c,h,s=>by
  conv=>lhs;rw [show c= .seq (bt c) (aC c) from h]
  rw [jY];rfl
 | n+1,c,h,s=>by
  conv=>lhs;rw [show c= .seq (bt c) (aC c) from h.1]
  show _=nc P L (D P L (.seq (bt c) (mF n (aC c))) s) (jv n (aC c))
  rw [jY,jY]
  cases D P L (bt c) s with
  | none=>rfl
  | some q=>
   obtain ⟨ex,st⟩:=q
   cases ex with
   | normal=>rw [fm,fm];exact Ij n h.2 st
   | ret=>rfl
   | exit id=>rfl
end
section
open Go (IntKind)
section
variable {P:aI} {L:Lib}
def aoV (h:Nu P L) (Di:L.pure 138=some At) (zU:L.pure 139=some AM) {s z:Int} {e:Bool} {l:List Nat} (hn:du s (.aA e l.length (l.map uc)) z) {K:Nat} (kv:0<z.natAbs) (P1:z.natAbs<18446744073709551616^K) (hK:K<=4000000000) (hlen:(aw z.natAbs).length<=300000000000):
  ∃ps:List (List Nat),ps≠[]/\ps.length<=300000000000/\aw z.natAbs=ps.reverse.flatten/\D P L (mF 5 DD.body) ⟨[(0,.agg [ab s,.aA e l.length (l.map uc)])],[],0,0⟩=some (.normal,⟨[(3,.bool (decide (z<0))),(6,.aB 0 0 ps.length)],[(0,.cells true true false 1 (ps.map .str))],1,0⟩):=by
 obtain ⟨r,e1,hr⟩:=zT h hn;have bn:=hr;obtain ⟨lr,ur,gr,nr,vr⟩:=hr;simp only [go_sem,ya,yb,yp,yh,DD,mF,bt,aC,bh,b8,yf,db,nR,ek,cp,cG,e1];generalize mR:D P L (.loop [3,4,5,6] po) _=qq;obtain ⟨ex,st,rfl,tm,ps,fl,rfl,dc,PZ,Ao,t3,t6,rfl⟩:=bQ mR (ayo (P:=P) (L:=L) h.toWd Di zU (neg:=decide (z<0)) (M:=z.natAbs) (K:=K) kv hK hlen z.natAbs) ⟨z.natAbs,bH r,[],true,rfl,bn,P1,by rw [yB (by omega)];simp,⟨fun _=>rfl,by simp⟩,fun _=>by simp,.inl ⟨rfl,by
  simp only [go_sem,ya,yb,ax,au ur.pu,ay _ ur.pu]<;>rfl⟩⟩
 refine ⟨ps,dc,PZ,Ao,?_⟩;simp only [go_sem,yb,ax,t3,t6]
end
end
section
open Go
variable {O:bk}
def zB:Nat->wX->wX
 | 0,.seq _ b=>b
 | n+1,.seq _ b=>zB n b
 | _,c=>c
def O3:Nat->wX->Prop
 | 0,.seq _ _=>True
 | n+1,.seq _ b=>O3 n b
 | _,_=>False
def adh (hO:eD O) {h:Nat} {c:wX} {l k:Nat} {s:St} {ex:Ex} {s':St} (hv:D O.prog O.aE (comp O.P (O.hint h) c l k).1 s=some (ex,s')):A5 O h c s ex s':=by
 obtain ⟨n,hn⟩:=XT hv
 cases n with
 | zero=>rw [Ic] at hn;cases hn
 | succ n=>
  exact adX hO n (fun k _=>aaC hO k) h c l k n (yr _) s ex s' hn
def aia (hO:eD O) {h:Nat} {ro:Option Nat} {lo:Nat} {Q:Exit->Act->yi->Prop}:∀(n:Nat) (c:wX) (l k:Nat),O3 n c->∀(s s1:St),D O.prog O.aE (mF n (comp O.P (O.hint h) c l k).1) s=some (.normal,s1)->
  ∀(m:Mp) (S:Nat->Prop) (w:yi) (a:Act),zj ro w->b9 O m S w s.tm a.tmps->aU O m S w s.hp s.ct->s.base<=s.ct->(O.hint h).n<=a.tmps.size->O.w0.heap.size<=lo->lo<=w.heap.size->Marks lo S w a.defers->
  (∀a' w',eE O m S w s .normal s1 a.tmps.size lo .normal a' w'->(zB n c).wpIn (WF ro) 0 O.P Q a' w')->c.wpIn (WF ro) 0 O.P Q a w
 | n,c,l,k,hc,s,s1,hv=>by
  intro m S w a cB ht hh hb hn bi eZ cL hQ
  cases c with
  | seq x y=>
   cases n with
   | zero=>
    refine wpIn_seq (wpIn_mono (adh hO (show D O.prog O.aE (comp O.P (O.hint h) x l k).1 s=some (.normal,s1) from hv) ro lo m S w a cB ht hh hb hn bi eZ cL) ?_);rintro e a' w' hp;have he:e= .normal:=hp.1;subst he;exact hQ a' w' hp
   | succ n=>
    have eA:D O.prog O.aE (.seq (comp O.P (O.hint h) x l k).1 (mF n (comp O.P (O.hint h) y (comp O.P (O.hint h) x l k).2.1 (comp O.P (O.hint h) x l k).2.2).1)) s=some (.normal,s1):=hv;rw [jY] at eA
    cases hx:D O.prog O.aE (comp O.P (O.hint h) x l k).1 s with
    | none=>rw [hx] at eA;cases eA
    | some q=>
     obtain ⟨ex,st⟩:=q;rw [hx] at eA
     cases ex with
     | ret=>exact absurd eA (by intro h;cases h)
     | exit id=>exact absurd eA (by intro h;cases h)
     | normal=>
      refine wpIn_seq (wpIn_mono (adh hO hx ro lo m S w a cB ht hh hb hn bi eZ cL) ?_);rintro e a' w' ⟨rfl,m',S',k1,k2,k3,k4,k5,k6,k7⟩;refine aia hO n y _ _ hc st s1 eA m' S' w' a' (LR k5 cB) k1 k2 (by omega) (by omega) bi (xi eZ k5.size) k7 ?_;rintro a2 w2 ⟨_,m2,S2,g1,g2,g3,g4,g5,g6,g7⟩;exact hQ a2 w2 ⟨rfl,m2,S2,g1,g2,by omega,by omega,k5.trans (by rw [<-k3];exact g5),by omega,g7⟩
  | _=>cases n<;>exact hc.elim
def ayp (hO:eD O) {n:Nat} {F:aZ} (hF:O.prog n=some F) {fn:ybd} {c:wX} (kW:O.P.funcs[O.af n]? =some fn) (jj:fn.body=some c) {hp:Hp} {ct:Nat} {av:List AV} {s:St}
  (hc:(comp O.P (O.hint n) c 0 0).1=F.body->∀m S w a,b9 O m S w (eh 0 av) a.tmps->aU O m S w hp ct->(O.hint n).n<=a.tmps.size->a.tmps.size=max fn.ntmps av.length->O.w0.heap.size<=w.heap.size->a.defers=[]->
   c.wpIn (WF none) 0 O.P (eE O m S w ⟨eh 0 av,hp,ct,ct⟩ .ret s a.tmps.size w.heap.size) a w) {v:AV} (hr:iJ s F.gk=some v):A4 O n hp ct av v s.hp s.ct:=by
 intro m S w args hh fG;obtain ⟨fn',q1,q2,q3⟩:=hO.prog n F hF;rw [kW] at q1;cases q1;obtain ⟨c',q4,q5,q6,q7⟩:=Qk q2;rw [jj] at q4;cases q4;refine .inl ⟨Mc kW (by rw [jj];rfl) q3,?_⟩
 have hlen:av.length=args.size:=by have:=(gC _ _ fG).symm;simpa using this
 have hw:=hc q5.symm m S w {tmps:=args++Array.replicate (fn.ntmps-args.size) undef,defers:=[]} (abT _ fG) hh (by simp;omega) (by simp;omega) hh.fF rfl
 refine callsIn_of_wp_marks (F:=yaz) kW jj trivial (wpIn_mono hw ?_);rintro e a' w' ⟨rfl,m',S',k1,k2,k3,k4,k5,k6,rs,k7,k8,k9⟩;show LeavesInM yaz 0 O.P fn a'.tmps (sU O m S w hp ct v s.hp s.ct) a'.defers .returning w'
 rw [k7];exact QP q6 hr k4 rs w' k8 k9 hh.fF k2 k1 k5
def ast (hO:eD O) {n:Nat} {F:aZ} (hF:O.prog n=some F) {fn:ybd} {c:wX} (kW:O.P.funcs[O.af n]? =some fn) (jj:fn.body=some c) {av:List AV} {s:St}
  (hc:(comp O.P (O.hint n) c 0 0).1=F.body->∀m S w a,b9 O m S w (eh 0 av) a.tmps->aU O m S w [] 0->(O.hint n).n<=a.tmps.size->a.tmps.size=max fn.ntmps av.length->O.w0.heap.size<=w.heap.size->a.defers=[]->
   c.wpIn (WF none) 0 O.P (eE O m S w ⟨eh 0 av,[],0,0⟩ .ret s a.tmps.size w.heap.size) a w) {v r:AV} (hv:iJ s F.gk=some v) (hr:result s.hp v=some r):ep O n av r:=
 Qe (ayp hO hF kW jj hc hv) hr
end
section
open Go
def abl {af:Nat->Nat} {m:Mp} {S:Nat->Prop} {w:yi} {b:Nat}:∀{ps:List (List Nat)} {o:Nat},bT af m S w (ps.map .str) b o->
  ∃ts:List ByteArray,(ts.map fun t=>t.data.toList.map xb)=ps/\∀i (h:i<ts.length),w.cell? ⟨b,o+i,none⟩=some (.string ts[i])
 | [],o,_=>⟨[],rfl,fun i h=>absurd h (Nat.not_lt_zero i)⟩
 | p::ps,o,h=>by
  obtain ⟨⟨u,h1,h2⟩,h3⟩:=h;obtain ⟨t,rfl,ht⟩:=h2;obtain ⟨ts,k1,k2⟩:=abl h3;refine ⟨t::ts,by rw [List.map_cons,ht,k1],fun i hi=>?_⟩
  cases i with
  | zero=>exact h1
  | succ i=>
   grind
def n9 (ts:List ByteArray):List UInt8:=(ts.map fun t=>t.data.toList).flatten
def auA {ts:List ByteArray} {ps:List (List Nat)} (h:(ts.map fun t=>t.data.toList.map xb)=ps):(n9 ts.reverse).map xb=ps.reverse.flatten:=by
 subst h;unfold n9;rw [List.map_flatten,vE,<-tK];rfl
def auB {ts:List ByteArray} {ps:List (List Nat)} (h:(ts.map fun t=>t.data.toList.map xb)=ps):(ts.map (·.size)).sum=ps.reverse.flatten.length:=by
 subst h;rw [List.length_flatten,tK,List.sum_reverse,vE]
 congr 1
 simp_all
def R2 (P:Program) (c:wX):Prop:=∀(Q:Exit->Act->yi->Prop) (a:Act) (w:yi) (neg:Bool) (ts:List ByteArray) (b o cc:Nat),a.tmps.size=69->a.tmps.getD 3 undef= .bool neg->a.tmps.getD 6 undef= .slice (some ⟨b,o,none⟩) ts.length cc->
  (∀i (h:i<ts.length),w.cell? ⟨b,o+i,none⟩=some (.string ts[i]))->(ts.map (·.size)).sum+1<=140737488355328->ts.length<=cc->ts.length<9223372036854775808->
  (∀a' w',Calm w w'->a'.tmps.size=69->a'.defers=a.defers->a'.tmps.getD 2 undef= .string ⟨((if neg then [45] else [])++n9 ts.reverse).toArray⟩->Q .ret a' w')->
  (zB 5 c).wpIn Fence.wide 0 P Q a w
section
variable {O:bk}
def aoW {n K:Nat} (h:n<18446744073709551616^K):(aw n).length<=20*K+1:=by
 refine ru (k:=20*K) (yT h ?_);have h1:(10:Nat)^(20*K)=(10^20)^K:=Nat.pow_mul ..;exact xi (by rw [h1];exact vU (by decide) K) (xh (by decide) (Nat.le_succ _))
def asu (hO:eD O) (hN:Nu O.prog O.aE) (Di:O.aE.pure 138=some At) (zU:O.aE.pure 139=some AM) (Gp:O.prog 99=some DD) {fn:ybd} {c:wX} (kW:O.P.funcs[O.af 99]? =some fn) (jj:fn.body=some c) (Pn:fn.ntmps=69)
  (Yk:O3 5 c) (ht:R2 O.P c) {s z:Int} {e:Bool} {l:List Nat} (hn:du s (.aA e l.length (l.map uc)) z) (kv:0<z.natAbs) (hK:l.length<=4000000000) (P1:z.natAbs<18446744073709551616^l.length):
  ep O 99 [.agg [ab s,.aA e l.length (l.map uc)]] (.str (aV z)):=by
 have hlen:=aoW P1;obtain ⟨ps,dc,PZ,Ao,e1⟩:=aoV (P:=O.prog) (L:=O.aE) hN Di zU hn kv P1 hK (by omega)
 refine ast hO Gp kW jj (s:=⟨[(2,.str (aV z))],[(0,.cells true true false 1 (ps.map .str))],1,0⟩) (v:= .str (aV z)) ?_ rfl rfl;intro aAc m S w a htr hh sA eG hgs DN;refine aia hO 5 c 0 0 Yk _ _ (by rw [aAc];exact e1) m S w a (fun l hl=>by cases hl) htr hh (yr _) sA hgs (yr _) ⟨[],by rw [DN];rfl,by simp,by simp⟩ ?_
 rintro a' w' ⟨_,m',S',k1,k2,k3,k4,k5,k6,k7⟩;have r3:=k1 3;have r6:=k1 6;have g3:ai [(3,AV.bool (decide (z<0))),(6,.aB 0 0 ps.length)] 3= .bool (decide (z<0)):=rfl;have g6:ai [(3,AV.bool (decide (z<0))),(6,.aB 0 0 ps.length)] 6= .aB 0 0 ps.length:=rfl;rw [g3] at r3;rw [g6] at r6;simp only [ah] at r3 r6;obtain ⟨p,cc,hm,r6,hcc,_⟩:=r6;obtain ⟨p',arr,t,iD,_,_,_,_,_,og,_⟩:=k2.obj 0 _ p rfl hm;rw [hm] at iD;cases iD;obtain ⟨ts,mL,zt⟩:=abl og;have nn:ts.length=ps.length:=by rw [<-mL,List.length_map]
 have Bv:=auB mL;rw [<-Ao] at Bv;have Yl:=auA mL;rw [<-Ao] at Yl;refine ht _ a' w' (decide (z<0)) ts p.b p.o cc ?_ r3 (by rw [nn];exact r6) zt (by omega) (by omega) (by omega) ?_
 ·grind
 ·intro a2 w2 hc h1 h2 h3;have KF:=Ci k2 hc (S':=S') (fun _ h=>h) (fun _ h=> .inl h) (fun b hb=>yT (k2.slt b hb) hc.size);refine ⟨rfl,m',S',?_,KF,rfl,Nat.zero_le _,k5.trans (AB k2 hc (fun _ h=>h) (fun _ h=> .inl h)),?_,?_⟩
  ·intro i;by_cases hi:i=2
   ·subst hi;rw [h3];show ah O.af m' S' w2 (.str (aV z)) _
    simp only [ah];refine ⟨_,rfl,?_⟩;by_cases h0:z<0
    ·rw [kD h0,xo h0];simp only [xC,xu];rw [Yl];rfl
    ·obtain ⟨n,rfl⟩:∃n:Nat,z=n:=⟨z.toNat,by omega⟩;rw [xa h0];simp only [yN,xf,xG];rw [Yl];rfl
   ·have:ai [(2,AV.str (aV z))] i= .undef:=by
     have hb:yu 2 i=false:=by
      cases hq:yu 2 i with
      | false=>rfl
      | true=>exact absurd (Nat.eq_of_beq_eq_true hq).symm hi
     simp only [ai,hb,yS]
    show ah O.af m' S' w2 (ai [(2,AV.str (aV z))] i) _
    rw [this];simp only [ah]
  ·rw [h1,eG,Pn];simp
  ·rw [h2]
   exact AA k2 (AB (base:=0) k2 hc (fun _ h=>h) (fun _ h=> .inl h)) k7
end
end
end VE
