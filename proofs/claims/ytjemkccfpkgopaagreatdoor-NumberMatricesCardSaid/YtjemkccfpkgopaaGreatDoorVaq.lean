import Derived.Test.YtjemkccfpkgopaaGreatDoorVap
import Derived.Test.YtjemkccfpkgopaaGreatDoorVad
import Derived.Test.YtjemkccfpkgopaaGreatDoorVao
set_option linter.all false
set_option maxRecDepth 100000
open BitVec renaming ofInt→xM,ofNat→uD,toNat_ofNat→vE
open Bool renaming and_self→wT,false_eq_true→yL,not_false→yM,not_true→yO
open Go renaming Code→wU,Func→ybh,World→yi
open Go.Fence renaming wide→yaD
open Int renaming ediv_emod_unique→tg,gcd→wX,gcd_comm→ybE,natAbs_ediv_of_dvd→uj,natAbs_mul→ybb,natCast_mul→vc,pow_zero→yad,reduceEq→vP,reduceLT→ybD
open List renaming append_assoc→xA,drop_zero→yK,length_append→yN,length_cons→yI,length_nil→yP,length_pos_iff→th,map_append→xg,map_map→wh,map_reverse→tN,nil_append→xC
open Nat renaming add_zero→y5,beq→yx,ble→yG,ble_eq_true_of_le→yu,blt→yR,div_add_mod→xR,div_eq_of_lt→wM,div_le_self→vB,le_refl→yv,le_trans→xj,lt_of_le_of_lt→wJ,lt_of_lt_of_le→yU,mod_eq_of_lt→yX,mod_le→ybW,mod_lt→xE,mul_add→xG,mul_le_mul_left→yZ,mul_lt_mul''→tX,mul_one→yf,mul_zero→xH,pow_add→wL,pow_le_pow_left→vW,pow_le_pow_right→yY,pow_one→ybO,pow_pos→ybM,pow_succ→xd,reduceAdd→yb,reduceEqDiff→ya,reduceLT→yF,reduceLeDiff→yp,reduceMul→xn,zero_add→ye
open Rat renaming den_divInt→ybd,divInt→wm,divInt_ofNat→yaO,num_divInt→ybc
open UInt8 renaming toNat→xb
namespace VE
section
open Go (IntKind)
def dC (s:Int) (w:AV) (z:Int):Prop:=
 (w= .aa/\s=z/\-9223372036854775808<=z/\z<9223372036854775808)\/
 (∃e l,w= .aB e l.length (l.map uc)/\lo 18446744073709551616 l/\gW l/\bv 18446744073709551616 l=z.natAbs/\s=(if z<0 then -1 else 1)/\9223372036854775808<=z.natAbs)
def cN (v:AV) (z:Int):Prop:=∃s w,v= .agg [ab s,w]/\dC s w z
def Bd (k:Nat) (z:Int):Prop:=z.natAbs<2^k
def Bi (k:Nat):2^k<=18446744073709551616^k:=vW (by decide) k
def Bd.mono {k m:Nat} {z:Int} (h:Bd k z) (hk:k<=m):Bd m z:=yU h (yY (by decide) hk)
def Bd.neg {k:Nat} {z:Int} (h:Bd k z):Bd k (-z):=by unfold Bd at h ⊢;rwa [Int.natAbs_neg]
def Bd.add {k m:Nat} {a b:Int} (ha:Bd k a) (hb:Bd m b):Bd (max k m+1) (a+b):=by
 have h1:Bd (max k m) a:=ha.mono (by omega);have h2:Bd (max k m) b:=hb.mono (by omega);unfold Bd at h1 h2 ⊢
 grind
def Bd.mul {k m:Nat} {a b:Int} (ha:Bd k a) (hb:Bd m b):Bd (k+m) (a*b):=by
 unfold Bd at*
 rw [ybb,wL];exact tX ha hb
def Bd.le {k:Nat} {a b:Int} (hb:Bd k b) (h:a.natAbs<=b.natAbs):Bd k a:=wJ h hb
def WN.pos {v:AV} {m:Nat} (h:WN v m) (h0:0<m):∃e l,v= .aB e l.length (l.map uc)/\l≠[]/\lo 18446744073709551616 l/\gW l/\bv 18446744073709551616 l=m:=by
 obtain ⟨l,hv,g,n,hb⟩:=h;have hl:l≠[]:=fun e=>by subst e;simp [bv] at hb;omega
 rcases hv with ⟨_,e⟩ | ⟨e,rfl⟩
 ·simp_all
 ·exact ⟨e,l,by simp,hl,g,n,hb⟩
def WN.aY {v:AV} {m:Nat} (h:WN v m):∃l,bV v l/\lo 18446744073709551616 l/\gW l/\bv 18446744073709551616 l=m:=h
def nS (e:Bool) (n:Nat) (cs:List AV):jN .sl (.aB e n cs) .aa=some false:=rfl
def ie:jN .sl .aa .aa=some true:=rfl
def Ns (hp:Hp) (ct id:Nat) (a:Int) (e:Bool) (n:Nat) (cs:List AV) (x y:AV):im hp ct id 0 2 [.int .i64 a,.aB e n cs] (some (.cells true true true 2 [x,y]))=some (.ae [],a6 hp id (.cells true true true 2 [.int .i64 a,.aB e n cs]),ct):=gO rfl rfl rfl rfl
def rX {tm:Env} {a x y:AV} {r:List (Nat×Nat×X)} (h:dt a=true):qX tm [x,y] 0 1 [a] r=fill tm [a,y] r:=ahu (by simp) h
def dC.oX {z:Int} (h1: -9223372036854775808<=z) (h2:z<9223372036854775808):cN (.agg [ab z,.aa]) z:=⟨z,.aa,rfl,.inl ⟨rfl,rfl,h1,h2⟩⟩
def dC.cX {s:Int} {w:AV} {z:Int} (h:dC s w z):(s<0↔z<0)/\(s=0↔z=0)/\-9223372036854775808<=s/\s<9223372036854775808:=by
 rcases h with ⟨_,rfl,h1,h2⟩ | ⟨e,l,_,_,_,_,rfl,h1⟩
 ·grind
 ·grind
section
variable {P:aM} {L:Lib}
structure Nu (P:aM) (L:Lib):Prop extends Wd P L where
 aCb:Has P L 117 Om
 aCc:Has P L 142 Oo
 Y1:Has P L 136 J9
 KR:Has P L 145 z7
 aCd:Has P L 146 Uv
 Y2:Has P L 147 Kb
 alh:Has P L 163 Ow
 aCe:Has P L 118 Dx
 ali:Has P L 119 c119
 aCf:Has P L 156 Ux
 PK:Has P L 100 mq
 Y3:Has P L 164 mr
 aCg:Has P L 148 Uw
 aCh:Has P L 130 Uu
def DL (h:Nu P L) {z:Int} (h1: -9223372036854775808<=z) (h2:z<9223372036854775808):aj P L 117 [ab z] (.agg [ab z,.aa])/\cN (.agg [ab z,.aa]) z:=⟨n117 h.aCb z,dC.oX h1 h2⟩
def Y4 (h:Nu P L) {n:Int} (h1: -9223372036854775808<=n) (h2:n<9223372036854775808):aj P L 142 [ab n] (uc n.natAbs):=by
 unfold aj;rw [aI h.aCc];by_cases h0:n<0
 ·have e:IntKind.wrap .u64 (IntKind.wrap .i64 (0-n))=(n.natAbs:Int):=by
   by_cases hm:n= -9223372036854775808
   ·subst hm;rfl
   ·rw [wrap64 (by omega) (by omega),N6];omega
  simp only [go_sem,ya,Oo,h0,aiI,e]
 ·have e:IntKind.wrap .u64 n=(n.natAbs:Int):=by rw [N6];omega
  simp only [go_sem,ya,Oo,h0,aiI,e]
def Aj (h:Nu P L) {s:Int} {w:AV} {z:Int} (hz:dC s w z):∃r,aj P L 136 [.agg [ab s,w]] (.ae [.bool (decide (z<0)),r])/\WN (bQ r) z.natAbs:=by
 rcases hz with ⟨rfl,rfl,h1,h2⟩ | ⟨e,l,rfl,g,n,hb,hs,h1⟩
 ·by_cases h0:s=0
  ·subst h0;refine ⟨.aa,?_,[],zy,NH,rfl,rfl⟩;unfold aj;rw [aI h.Y1];simp only [go_sem,ya,yb,J9,bj,cd,ye,dh,ie,Jv,ybD];rfl
  ·have e1:=Y4 h h1 h2;refine ⟨.bw true 1 1 [uc s.natAbs],?_,[s.natAbs],mR true [s.natAbs],Ft.2 (by omega),EG (by omega) [],Bg _⟩;unfold aj;rw [aI h.Y1];simp only [go_sem,ya,yb,yp,yf,J9,bj,cd,ye,dh,ie,Jv,h0,e1];rfl
 ·have As:decide (s<0)=decide (z<0):=by rw [hs];split<;>simp<;>omega
  refine ⟨.aB e l.length (l.map uc),?_,l,mR e l,g,n,hb⟩;unfold aj;rw [aI h.Y1];simp only [go_sem,ya,yb,J9,bj,cd,ye,dh,nS,Jv,As];rfl
def ac9 {d:Nat} (h:d<=9223372036854775807):IntKind.wrap .i64 (d:Int)=d:=wrapN (by omega)
def DM (h:Nu P L) (neg:Bool) {w:AV} {m K:Nat} (hw:WN w m) (hm:m<18446744073709551616^K) (hK:K<=90000000000):∃r,aj P L 145 [.bool neg,w] r/\cN r (cG neg m):=by
 obtain ⟨l,hu,g,n,hb⟩:=hw;have sY:l.length<=90000000000:=xj (od n hb hm) hK;by_cases h0:l=[]
 ·subst h0
  have:m=0:=by rw [<-hb];rfl
  subst this;have e:cG neg 0=0:=by unfold cG;cases neg<;>rfl
  rw [e];refine ⟨.agg [ab 0,.aa],?_,dC.oX (by decide) (by decide)⟩;unfold aj;rw [aI h.KR];simp only [go_sem,ya,yb,z7,bj,hu.len,yP,show (((0:Nat):Nat):Int)=0 from rfl,sf];rfl
 ·have lR:0<l.length:=th.2 h0;by_cases h1:l.length=1/\l.getD 0 0<=9223372036854775807
  ·obtain ⟨h1,h2⟩:=h1;obtain ⟨d,rfl⟩:∃d,l=[d]:=by
    cases l with
    | nil=>simp at h1
    | cons d r=>cases r with
     | nil=>exact ⟨d,rfl⟩
     | cons e r=>simp at h1
   have h2:d<=9223372036854775807:=h2;rw [Bg] at hb;subst hb;have ex:=hu.aU (i:=0) (by simp);rw [show ([d]:List Nat).getD 0 0=d from rfl] at ex;have hlen:∀hp,fE hp 1 w=some (.int .i64 1):=fun hp=>hu.len
   cases neg with
   | true=>
    refine ⟨.agg [ab (0-(d:Int)),.aa],?_,?_⟩
    ·unfold aj;rw [aI h.KR]
     simp only [go_sem,ya,yb,yp,z7,bj,hlen,vP,ex,show (d:Int)<=9223372036854775807 by omega,NJ,ac9 h2,wrap64 (n:=0-(d:Int)) (by omega) (by omega),sf];rfl
    ·have:cG true d=0-(d:Int):=by unfold cG;simp
     rw [this];exact dC.oX (by omega) (by omega)
   | false=>
    refine ⟨.agg [ab (d:Int),.aa],?_,?_⟩
    ·unfold aj;rw [aI h.KR];simp only [go_sem,ya,yb,yp,z7,bj,hlen,vP,ex,show (d:Int)<=9223372036854775807 by omega,NJ,ac9 h2,sf];rfl
    ·have:cG false d=(d:Int):=by unfold cG;simp
     rw [this];exact dC.oX (by omega) (by omega)
  ·have hm0:9223372036854775808<=m:=by
    rw [<-hb];by_cases h2:l.length=1
    ·obtain ⟨d,rfl⟩:∃d,l=[d]:=by
      cases l with
      | nil=>simp at h2
      | cons d r=>cases r with
       | nil=>exact ⟨d,rfl⟩
       | cons e r=>simp at h2
     have:¬d<=9223372036854775807:=fun hd=>h1 ⟨h2,hd⟩
     rw [Bg];omega
    ·have h3:=Tk (b:=18446744073709551616) (by decide) n h0;have h4:18446744073709551616^1<=18446744073709551616^(l.length-1):=yY (by decide) (by omega);rw [ybO] at h4;omega
   have dF:∃e,w= .aB e l.length (l.map uc):=by
    rcases hu with ⟨rfl,hh⟩ | ⟨e,rfl⟩
    ·simp at hh;exact absurd hh h0
    ·exact ⟨e,by simp⟩
   obtain ⟨e,rfl⟩:=dF;have ex:=hu.aU (i:=0) lR;have first:(decide ((l.length:Int)=1)=true/\¬((l.getD 0 0:Nat):Int)<=9223372036854775807)\/decide ((l.length:Int)=1)=false:=by
    by_cases h2:l.length=1
    ·left;refine ⟨by simp;omega,fun hd=>h1 ⟨h2,by omega⟩⟩
    ·right;simp;omega
   cases neg with
   | true=>
    refine ⟨.agg [ab (-1),.aB e l.length (l.map uc)],?_,-1,_,rfl,.inr ⟨e,l,rfl,g,n,by rw [hb];unfold cG;simp,by unfold cG;simp;omega,by unfold cG;simp;omega⟩⟩
    unfold aj;rw [aI h.KR];rcases first with ⟨f1,f2⟩ | f1
    ·simp only [go_sem,ya,yb,yp,z7,bj,show ¬(l.length:Int)=0 by omega,f1,f2,ex,rX,Ns];rfl
    ·simp only [go_sem,ya,yb,yp,z7,bj,show ¬(l.length:Int)=0 by omega,f1,rX,Ns];rfl
   | false=>
    refine ⟨.agg [ab 1,.aB e l.length (l.map uc)],?_,1,_,rfl,.inr ⟨e,l,rfl,g,n,by rw [hb];unfold cG;simp,by unfold cG;simp,by unfold cG;simp;omega⟩⟩
    unfold aj;rw [aI h.KR];rcases first with ⟨f1,f2⟩ | f1
    ·simp only [go_sem,ya,yb,yp,z7,bj,show ¬(l.length:Int)=0 by omega,f1,f2,ex,rX,Ns];rfl
    ·simp only [go_sem,ya,yb,yp,z7,bj,show ¬(l.length:Int)=0 by omega,f1,rX,Ns];rfl
end
end
section
open Go (IntKind)
def bF:VC->VC
 | .seq a _=>a
 | c=>c
def as5 {a b:Int} {x y:Nat} (ha:a.natAbs=x) (hb:b.natAbs=y) (h:decide (a<0)=decide (b<0)):cG (decide (a<0)) (x+y)=a+b:=by
 unfold cG
 grind
def aea {a b:Int} {m:Nat} (hm:m+b.natAbs=a.natAbs) (h:¬decide (a<0)=decide (b<0)):cG (decide (a<0)) m=a+b:=by
 unfold cG
 grind
def as6 {a:Int}:cG (!decide (a<0)) a.natAbs= -a:=by
 unfold cG
 grind
def aeb {a b:Int}:cG (decide (a<0) !=decide (b<0)) (a.natAbs*b.natAbs)=a*b:=by
 unfold cG
 grind
def mY {s:Int} {w:AV} {l:List Nat} (h:bV w l) (hp:Hp):result hp (.agg [ab s,w])=some (.agg [ab s,w]):=by
 rcases h with ⟨rfl,_⟩ | ⟨e,rfl⟩<;>rfl
def eh {s:Int} {w:AV} {l:List Nat} (h:bV w l) (hp:Hp) (ct id:Nat) (x y:AV):im hp ct id 0 2 [.int .i64 s,w] (some (.cells true true true 2 [x,y]))=some (.ae [],a6 hp id (.cells true true true 2 [.int .i64 s,w]),ct):=gO rfl h.one rfl h.pu
def dC.aY {s:Int} {w:AV} {z:Int} (h:dC s w z):∃l,bV w l:=by
 rcases h with ⟨rfl,_⟩ | ⟨e,l,rfl,_⟩
 ·exact ⟨[],zy⟩
 ·exact ⟨l,mR e l⟩
def ajx (hp:Hp) (sz:Nat) (ag:Bool):AV->Option AV
 | .ptr id o=>QA sz ag o (ay hp id)
 | .cg cs=>iC sz ag cs
 | _=>none
def fB (tm:Env) (hp:Hp) (ct base i sz:Nat) (ag:Bool):results1 ⟨tm,hp,ct,base⟩ (.cell i sz ag)=ajx hp sz ag (af tm i):=by
 rfl
def fD (hp:Hp) (sz:Nat) (ag:Bool) (id o:Nat):ajx hp sz ag (.ptr id o)=QA sz ag o (ay hp id):=rfl
section
variable {P:aM} {L:Lib}
def Gm (h:Nu P L) {v:AV} {z:Int} (hv:cN v z):aj P L 146 [v] (ab (cX z)):=by
 obtain ⟨s,w,rfl,hn⟩:=hv;obtain ⟨l,hu⟩:=hn.aY;have e:cX s=cX z:=by
  obtain ⟨h1,h2,_⟩:=hn.cX;unfold cX;by_cases h0:z<0
  ·rw [yT h0,yT (h1.2 h0)]
  ·by_cases h3:z=0
   ·rw [yD (fun h=>h0 (h1.1 h)),yT (h2.2 h3),yD h0,yT h3]
   ·rw [yD (fun h=>h0 (h1.1 h)),yD (fun h=>h3 (h2.1 h)),yD h0,yD h3]
 unfold aj;rw [aI h.aCd];simp only [go_sem,ya,yb,Uv,bj,hu.pu,hu.one,cd,ye,aiH,Ju,ad2,IF,ayv,e]
def Gn (h:Nu P L) {v:AV} {z:Int} {K:Nat} (hv:cN v z) (hz:Bd K z) (hK:K<=90000000000):∃r,aj P L 147 [v] r/\cN r (-z):=by
 obtain ⟨s,w,rfl,hn⟩:=hv;obtain ⟨p,e1,hp⟩:=Aj h hn;obtain ⟨lp,iP,_⟩:=hp.aY;obtain ⟨r,e2,hr⟩:=DM h (!decide (z<0)) hp (yU hz (Bi K)) hK;rw [as6] at hr;have bJ:=hr;obtain ⟨s',w',rfl,iE⟩:=hr;obtain ⟨l',iH⟩:=iE.aY;rcases hn with ⟨rfl,rfl,h1,h2⟩ | ⟨e,l0,rfl,g,n,hb,hs,h1⟩
 ·by_cases h0:s= -9223372036854775808
  ·refine ⟨_,?_,bJ⟩;unfold aj;rw [aI h.Y2];simp only [go_sem,ya,yb,Kb,bj,cd,ye,dh,ie,eG,h0];rw [h0] at e1 e2;simp only [go_sem,ya,cy,cF,e1,e2,iP.an,bX,fB,fD,cy,yK,mY iH,eh iH]
  ·refine ⟨.agg [ab (-s),.aa],?_,dC.oX (by omega) (by omega)⟩;unfold aj;rw [aI h.Y2]
   simp only [go_sem,ya,yb,Kb,bj,cd,ye,dh,ie,eG,h0,wrap64 (n:=0-s) (by omega) (by omega),sf,rX];rw [Int.zero_sub];rfl
 ·refine ⟨_,?_,bJ⟩;unfold aj;rw [aI h.Y2];simp only [go_sem,ya,yb,Kb,bj,cd,ye,dh,nS,eG,cy,cF,e1,e2,iP.an,bX,fB,fD,cy,yK,mY iH,eh iH]
def alj (h:Nu P L) {v:AV} {z:Int} {K:Nat} (hv:cN v z) (hz:Bd K z) (hK:K<=90000000000):∃r,aj P L 163 [v] r/\cN r (z.natAbs:Nat):=by
 have eI:=hv;obtain ⟨s,w,rfl,hn⟩:=hv;obtain ⟨l,hu⟩:=hn.aY;have G0:=hn.cX.1;by_cases h0:z<0
 ·obtain ⟨r,e1,hr⟩:=Gn h eI hz hK;rw [show -z=(z.natAbs:Int) by omega] at hr;have bJ:=hr;obtain ⟨s',w',rfl,iE⟩:=hr;obtain ⟨l',iH⟩:=iE.aY;refine ⟨_,?_,bJ⟩;unfold aj;rw [aI h.alh];simp only [go_sem,ya,yb,Ow,bj,hu.pu,hu.an,hu.one,cd,ye,G0.2 h0,cy,cF,e1,bX,fB,fD,cy,yK,mY iH,eh iH]
 ·rw [show ((z.natAbs:Nat):Int)=z by omega];refine ⟨_,?_,eI⟩;unfold aj;rw [aI h.alh];simp only [go_sem,ya,yb,Ow,bj,hu.pu,hu.one,cd,ye,show ¬s<0 from fun h=>h0 (G0.1 h),cy,fB,fD,cy,yK,mY hu,eh hu]
def ayO (h:Nu P L) {s1 s2:Int} {w1 w2:AV} {a b:Int} {K:Nat} (ha:dC s1 w1 a) (hb:dC s2 w2 b) (ka:Bd K a) (kb:Bd K b) (hK:K<=40000000000):
  ∃r,cN r (a+b)/\∀tm,af tm 2= .ptr 0 0->af tm 3= .ptr 1 0->af tm 4= .ptr 2 0->gS [.cell 4 2 true] (D P L (aC (aC c119.body)) ⟨tm,[(2,.cells true true true 2 [.int .i64 0,.aa]),(1,.cells true true true 2 [ab s2,w2]),(0,.cells true true true 2 [ab s1,w1])],3,0⟩)=some r:=by
 obtain ⟨l1,u1⟩:=ha.aY;obtain ⟨l2,u2⟩:=hb.aY;obtain ⟨p,e1,hp⟩:=Aj h ha;obtain ⟨q,e2,hq⟩:=Aj h hb;obtain ⟨lp,iP,gp,np,vp⟩:=hp.aY;obtain ⟨lq,oL,gq,nq,vq⟩:=hq.aY;have Cm:=yU ka (Bi K);have G1:=yU kb (Bi K);have llp:lp.length<=40000000000:=xj (od np vp Cm) hK;have llq:lq.length<=40000000000:=xj (od nq vq G1) hK;by_cases hs:decide (a<0)=decide (b<0)
 ·obtain ⟨o,nD,e3,ho,nC,no,vo⟩:=aBT h.aB3 h.mv h.gT iP oL gp gq (by omega) (by omega);obtain ⟨r,e4,hr⟩:=DM h (decide (a<0)) ⟨nD,ho,nC,no,vo⟩ (K:=K+1) (by rw [vp,vq,xd];omega) (by omega);rw [as5 vp.symm vq.symm hs] at hr;have bJ:=hr;obtain ⟨s',w',rfl,iE⟩:=hr;obtain ⟨l',iH⟩:=iE.aY;refine ⟨_,bJ,fun tm t2 t3 t4=>?_⟩;simp only [go_sem,ya,c119,aC,t2,t3,cy,cF,u1.an,u2.an,e1,e2,iP.an,oL.an,eG,pz,hs,tY];rw [hs] at e4;simp only [go_sem,ya,t4,e3,ho.an,ho.shut,e4,bX,fB,fD,cy,yK,mY iH,eh iH]
 ·have gg:(decide (a<0)==decide (b<0))=false:=by simpa using hs
  have e3:=ak2 h.ald iP oL gp gq np nq (by omega) (by omega);rw [vp,vq] at e3;by_cases hc:b.natAbs<=a.natAbs
  ·obtain ⟨o,nD,e4,ho,nC,no,vo⟩:=ak3 h.ale h.mv h.sK iP oL gp gq nq (by omega) (by rw [vp,vq];exact hc)
   rw [vp,vq] at vo;obtain ⟨r,e5,hr⟩:=DM h (decide (a<0)) ⟨nD,ho,nC,no,rfl⟩ (K:=K) (by omega) (by omega);rw [aea vo hs] at hr;have bJ:=hr;obtain ⟨s',w',rfl,iE⟩:=hr;obtain ⟨l',iH⟩:=iE.aY;have eC:(0:Int)<=dV a.natAbs b.natAbs:=by unfold dV;rw [yD (by omega)];split<;>decide
   refine ⟨_,bJ,fun tm t2 t3 t4=>?_⟩;simp only [go_sem,ya,c119,aC,t2,t3,t4,cy,cF,u1.an,u2.an,e1,e2,iP.an,oL.an,eG,pz,gg,e3,eC,e4,ho.an,ho.shut,e5,bX,fB,fD,cy,yK,mY iH,eh iH]
  ·obtain ⟨o,nD,e4,ho,nC,no,vo⟩:=ak3 h.ale h.mv h.sK oL iP gq gp np (by omega) (by rw [vp,vq];omega);rw [vp,vq] at vo;obtain ⟨r,e5,hr⟩:=DM h (decide (b<0)) ⟨nD,ho,nC,no,rfl⟩ (K:=K) (by omega) (by omega);rw [aea vo (fun e=>hs e.symm),Int.add_comm] at hr;have bJ:=hr;obtain ⟨s',w',rfl,iE⟩:=hr;obtain ⟨l',iH⟩:=iE.aY;have eC:¬(0:Int)<=dV a.natAbs b.natAbs:=by unfold dV;rw [yT (by omega)];decide
   refine ⟨_,bJ,fun tm t2 t3 t4=>?_⟩;simp only [go_sem,ya,c119,aC,t2,t3,t4,cy,cF,u1.an,u2.an,e1,e2,iP.an,oL.an,eG,pz,gg,e3,eC,e4,ho.an,ho.shut,e5,bX,fB,fD,cy,yK,mY iH,eh iH]
def KS (h:Nu P L) {v w:AV} {a b:Int} {K:Nat} (hv:cN v a) (hw:cN w b) (ka:Bd K a) (kb:Bd K b) (hK:K<=40000000000):∃r,aj P L 119 [v,w] r/\cN r (a+b):=by
 obtain ⟨s1,w1,rfl,h1⟩:=hv;obtain ⟨s2,w2,rfl,h2⟩:=hw;obtain ⟨l2,u2⟩:=h2.aY;obtain ⟨r,hr,tail⟩:=ayO h h1 h2 ka kb hK;have fin:∀tm,af tm 2= .ptr 0 0->af tm 3= .ptr 1 0->af tm 4= .ptr 2 0->
   D P L (.seq (bF c119.body) (bF (aC c119.body))) ⟨[(0,.agg [ab s1,w1]),(1,.agg [ab s2,w2])],[],0,0⟩=some (.normal,⟨tm,[(2,.cells true true true 2 [.int .i64 0,.aa]),(1,.cells true true true 2 [ab s2,w2]),(0,.cells true true true 2 [ab s1,w1])],3,0⟩)->aj P L 119 [.agg [ab s1,w1],.agg [ab s2,w2]] r:=fun tm t2 t3 t4 e=>by
  unfold aj;rw [aI h.ali];show gS [.cell 4 2 true] (D P L (.seq (bF c119.body) (.seq (bF (aC c119.body)) (aC (aC c119.body)))) ⟨[(0,.agg [ab s1,w1]),(1,.agg [ab s2,w2])],[],0,0⟩)=_
  have e2:D P L (.seq (bF c119.body) (.seq (bF (aC c119.body)) (aC (aC c119.body)))) ⟨[(0,.agg [ab s1,w1]),(1,.agg [ab s2,w2])],[],0,0⟩=jL P L (D P L (.seq (bF c119.body) (bF (aC c119.body))) ⟨[(0,.agg [ab s1,w1]),(1,.agg [ab s2,w2])],[],0,0⟩) (aC (aC c119.body)):=by
   rw [j8,j8]
   cases D P L (bF c119.body) ⟨[(0,.agg [ab s1,w1]),(1,.agg [ab s2,w2])],[],0,0⟩ with
   | none=>rfl
   | some q=>
    obtain ⟨ex,st⟩:=q
    cases ex with
    | normal=>rw [fK,fK,j8]
    | ret=>rfl
    | exit id=>rfl
  rw [e2,e,fK];exact tail tm t2 t3 t4
 rcases h1 with ⟨rfl,rfl,a1,a2⟩ | ⟨e,l,rfl,ga,na,va,sa,a1⟩
 ·rcases h2 with ⟨rfl,rfl,b1,b2⟩ | ⟨e,l,rfl,gb,nb,vb,sb,b1⟩
  ·by_cases gI: -9223372036854775808<=s1+s2/\s1+s2<9223372036854775808
   ·refine ⟨.agg [ab (s1+s2),.aa],?_,dC.oX gI.1 gI.2⟩;have e:decide (s1<s1+s2)=decide (0<s2):=by
     by_cases h:0<s2
     ·simp only [h,yr];exact xx (by omega)
     ·simp only [h,ym];exact xa (by omega)
    unfold aj;rw [aI h.ali]
    simp only [go_sem,ya,yb,c119,bj,sf,ie,eG,pz,cd,ye,dh,wrap64 (n:=s1+s2) gI.1 gI.2,e,tY,rX];rfl
   ·have e:(decide (s1<IntKind.wrap .i64 (s1+s2))==decide (0<s2))=false:=by
     have hw:(9223372036854775808<=s1+s2/\IntKind.wrap .i64 (s1+s2)=s1+s2-18446744073709551616)\/(s1+s2< -9223372036854775808/\IntKind.wrap .i64 (s1+s2)=s1+s2+18446744073709551616):=by
      simp only [IntKind.wrap,IntKind.bits,IntKind.signed,Bool.true_and]
      split<;>rename_i h<;>simp at h<;>omega
     by_cases h0:0<s2
     ·rw [xx h0,xa (by omega)];rfl
     ·rw [xa h0,xx (by omega)];rfl
    refine ⟨r,fin _ ?_ ?_ ?_ (by simp only [go_sem,ya,yb,bF,aC,c119,bj,ie,eG,pz,cd,ye,dh,e]<;>rfl),hr⟩<;>simp only [go_sem,ya]
  ·refine ⟨r,fin _ ?_ ?_ ?_ (by simp only [go_sem,ya,yb,bF,aC,c119,bj,ie,nS,eG,cd,ye,dh]<;>rfl),hr⟩<;>simp only [go_sem,ya]
 ·refine ⟨r,fin _ ?_ ?_ ?_ (by simp only [go_sem,ya,yb,bF,aC,c119,bj,u2.pu,u2.one,nS,eG,cd,ye,dh]<;>rfl),hr⟩<;>simp only [go_sem,ya]
end
end
section
open Go (IntKind)
def CL {P:aM} {L:Lib} (a b c:VC) (s:St):D P L (.seq a (.seq b c)) s=jL P L (D P L (.seq a b) s) c:=by
 rw [j8,j8]
 cases D P L a s with
 | none=>rfl
 | some q=>
  obtain ⟨ex,st⟩:=q
  cases ex with
  | normal=>rw [fK,fK,j8]
  | ret=>rfl
  | exit id=>rfl
def aiN {s s':Int} {w w':AV} {l l':List Nat} (h:bV w l) (h':bV w' l') (hp:Hp):result hp (.ae [.agg [ab s,w],.agg [ab s',w']])=some (.ae [.agg [ab s,w],.agg [ab s',w']]):=by
 rcases h with ⟨rfl,_⟩ | ⟨e,rfl⟩<;>rcases h' with ⟨rfl,_⟩ | ⟨e',rfl⟩<;>rfl
def PL (tm:Env) (hp:Hp) (ct:Nat) (rs:List (Nat×Bool×Nat)) (sz:Nat) (p:AV) (new:List AV):gF:=match p with | .ptr id o=>bif nO tm id rs then im hp ct id o sz new (ay hp id) else none | _=>none
def PM (id:Nat):AV->Bool | .ptr j _=> !yx j id | .cg _=>true | _=>false
def Tu {P:aM} {L:Lib} (f:cD) (tm:Env) (hp:Hp) (ct:Nat) (rs:List (Nat×Bool×Nat)) (sz:Nat) (x v:X):bf P L f tm hp ct (.jB rs sz x v)=PL tm hp ct rs sz (aF tm x) (cellsOf (aF tm v)):=by
 simp only [bf,PL]
 cases hx:aF tm x with
 | ptr id o=>
  rw [adX,hx,ajm]
 | _=>rfl
def Tv {tm:Env} {hp:Hp} {ct:Nat} {rs:List (Nat×Bool×Nat)} {sz id o:Nat} {new:List AV} (h:nO tm id rs=true):PL tm hp ct rs sz (.ptr id o) new=im hp ct id o sz new (ay hp id):=by
 simp only [PL,h,yA]
def SR (tm:Env) (id:Nat):nO tm id []=true:=(rfl)
def Su (tm:Env) (id sz x:Nat) (ag:Bool) (r:List (Nat×Bool×Nat)):nO tm id ((sz,ag,x)::r)=(PM id (af tm x)&&nO tm id r):=by
 simp only [nO,PM]
 grind
def Tw {id j o:Nat} (h:j≠id):PM id (.ptr j o)=true:=by simp only [PM,hX h,yM]
section
variable {P:aM} {L:Lib}
def alk (h:Nu P L) {v w:AV} {a b:Int} {K:Nat} (hv:cN v a) (hw:cN w b) (ka:Bd K a) (kb:Bd K b) (hK:K<=40000000000):∃r,aj P L 156 [v,w] r/\cN r (a-b):=by
 obtain ⟨n,e1,hn⟩:=Gn h hw kb (by omega);obtain ⟨r,e2,hr⟩:=KS h hv hn ka kb.neg hK;have bJ:=hr;obtain ⟨s1,w1,rfl,h1⟩:=hv;obtain ⟨s2,w2,rfl,h2⟩:=hw;obtain ⟨s3,w3,rfl,h3⟩:=hn;obtain ⟨s4,w4,rfl,h4⟩:=hr;obtain ⟨l1,u1⟩:=h1.aY;obtain ⟨l2,u2⟩:=h2.aY;obtain ⟨l3,u3⟩:=h3.aY;obtain ⟨l4,u4⟩:=h4.aY;refine ⟨_,?_,bJ⟩;unfold aj;rw [aI h.aCf];simp only [go_sem,ya,yb,Ux,bj,u1.pu,u1.an,u1.one,u2.pu,u2.an,u2.one,u3.an,cF,e1,e2,bX,fB,fD,cy,yK,mY u4,eh u4]
def aCi (h:Nu P L) {v w:AV} {a b:Int} {K:Nat} (hv:cN v a) (hw:cN w b) (ka:Bd K a) (kb:Bd K b) (hK:K<=40000000000):aj P L 118 [v,w] (ab (cX (a-b))):=by
 obtain ⟨d,e1,hd⟩:=alk h hv hw ka kb hK;have e2:=Gm h hd;obtain ⟨s1,w1,rfl,h1⟩:=hv;obtain ⟨s2,w2,rfl,h2⟩:=hw;obtain ⟨s3,w3,rfl,h3⟩:=hd;obtain ⟨l2,u2⟩:=h2.aY;obtain ⟨l3,u3⟩:=h3.aY;unfold aj;rw [aI h.aCe];rcases h1 with ⟨rfl,rfl,a1,a2⟩ | ⟨e,l,rfl,ga,na,va,sa,a1⟩
 ·rcases h2 with ⟨rfl,rfl,b1,b2⟩ | ⟨e,l,rfl,gb,nb,vb,sb,b1⟩
  ·by_cases c1:s1<s2
   ·rw [show cX (s1-s2)= -1 by unfold cX;rw [yT (by omega)]];simp only [go_sem,ya,yb,Dx,bj,ie,eG,cd,ye,dh,c1]
   ·by_cases c2:s2<s1
    ·rw [show cX (s1-s2)=1 by unfold cX;rw [yD (by omega),yD (by omega)]];simp only [go_sem,ya,yb,Dx,bj,ie,eG,cd,ye,dh,c1,c2]
    ·rw [show cX (s1-s2)=0 by unfold cX;rw [yD (by omega),yT (by omega)]];simp only [go_sem,ya,yb,Dx,bj,ie,eG,cd,ye,dh,c1,c2]
  ·simp only [go_sem,ya,yb,Dx,bj,ie,nS,eG,cd,ye,dh,cy,cF,e1,e2,u3.an,bX]
 ·simp only [go_sem,ya,yb,Dx,bj,u2.pu,u2.an,u2.one,nS,eG,cd,ye,dh,cy,cF,e1,e2,u3.an,bX]
def ayP (h:Nu P L) {s1 s2:Int} {w1 w2:AV} {a b:Int} {K:Nat} (ha:dC s1 w1 a) (hb:dC s2 w2 b) (ka:Bd K a) (kb:Bd K b) (hK:K<=40000000000):
  ∃r,cN r (a*b)/\∀tm,af tm 2= .ptr 0 0->af tm 3= .ptr 1 0->af tm 4= .ptr 2 0->gS [.cell 4 2 true] (D P L (aC (aC mq.body)) ⟨tm,[(2,.cells true true true 2 [.int .i64 0,.aa]),(1,.cells true true true 2 [ab s2,w2]),(0,.cells true true true 2 [ab s1,w1])],3,0⟩)=some r:=by
 obtain ⟨l1,u1⟩:=ha.aY;obtain ⟨l2,u2⟩:=hb.aY;obtain ⟨p,e1,hp⟩:=Aj h ha;obtain ⟨q,e2,hq⟩:=Aj h hb;obtain ⟨lp,iP,gp,np,vp⟩:=hp.aY;obtain ⟨lq,oL,gq,nq,vq⟩:=hq.aY;have Cm:=yU ka (Bi K);have G1:=yU kb (Bi K);have llp:lp.length<=40000000000:=xj (od np vp Cm) hK;have llq:lq.length<=40000000000:=xj (od nq vq G1) hK;obtain ⟨o,nD,e3,ho,nC,no,vo⟩:=aBW h.aB4 h.mv h.mw h.gT iP oL gp gq (by omega) (by omega);obtain ⟨r,e4,hr⟩:=DM h (decide (a<0) !=decide (b<0)) ⟨nD,ho,nC,no,vo⟩ (K:=K+K) (by rw [vp,vq,wL];exact tX Cm G1) (by omega)
 rw [vp,vq,aeb] at hr;have bJ:=hr;obtain ⟨s',w',rfl,iE⟩:=hr;obtain ⟨l',iH⟩:=iE.aY;refine ⟨_,bJ,fun tm t2 t3 t4=>?_⟩;have sT:∀x y:Bool,KJ true (some (x==y))=some (.bool (x !=y)):=fun x y=>by cases x<;>cases y<;>rfl
 simp only [go_sem,ya,mq,aC,t2,t3,t4,cy,cF,u1.an,u2.an,e1,e2,iP.an,oL.an,pz,sT,e3,ho.an,ho.shut,e4,bX,fB,fD,cy,yK,mY iH,eh iH]
def as7 {a b:Int} {m:Nat} (h:a.natAbs*b.natAbs=m):a*b=if (decide (a<0)==decide (b<0))=true then (m:Int) else 0-(m:Int):=by
 have:=aeb (a:=a) (b:=b)
 rw [h] at this;unfold cG at this
 cases hd:(decide (a<0)==decide (b<0)) with
 | true=>simp only [bne,hd,yO,yL,xi] at this;exact this.symm
 | false=>simp only [bne,hd,yM,xD] at this;rw [yD (by decide)];omega
def BS (h:Nu P L) {v w:AV} {a b:Int} {K:Nat} (hv:cN v a) (hw:cN w b) (ka:Bd K a) (kb:Bd K b) (hK:K<=40000000000):∃r,aj P L 100 [v,w] r/\cN r (a*b):=by
 obtain ⟨s1,w1,rfl,h1⟩:=hv;obtain ⟨s2,w2,rfl,h2⟩:=hw;obtain ⟨l1,u1⟩:=h1.aY;obtain ⟨l2,u2⟩:=h2.aY;obtain ⟨r,hr,tail⟩:=ayP h h1 h2 ka kb hK;have fin:∀tm,af tm 2= .ptr 0 0->af tm 3= .ptr 1 0->af tm 4= .ptr 2 0->
   D P L (.seq (bF mq.body) (bF (aC mq.body))) ⟨[(0,.agg [ab s1,w1]),(1,.agg [ab s2,w2])],[],0,0⟩=some (.normal,⟨tm,[(2,.cells true true true 2 [.int .i64 0,.aa]),(1,.cells true true true 2 [ab s2,w2]),(0,.cells true true true 2 [ab s1,w1])],3,0⟩)->aj P L 100 [.agg [ab s1,w1],.agg [ab s2,w2]] r:=fun tm t2 t3 t4 e=>by
  unfold aj;rw [aI h.PK];show gS [.cell 4 2 true] (D P L (.seq (bF mq.body) (.seq (bF (aC mq.body)) (aC (aC mq.body)))) ⟨[(0,.agg [ab s1,w1]),(1,.agg [ab s2,w2])],[],0,0⟩)=_
  rw [CL,e,fK];exact tail tm t2 t3 t4
 rcases h1 with ⟨rfl,rfl,a1,a2⟩ | ⟨e,l,rfl,ga,na,va,sa,a1⟩
 ·rcases h2 with ⟨rfl,rfl,b1,b2⟩ | ⟨e,l,rfl,gb,nb,vb,sb,b1⟩
  ·have f1:=Y4 h a1 a2;have f2:=Y4 h b1 b2;have f3:=NK (P:=P) (f:=D P L) h.mw (x:=s1.natAbs) (y:=s2.natAbs) (by omega) (by omega);obtain ⟨m,hm⟩:∃m,s1.natAbs*s2.natAbs=m:=⟨_,rfl⟩;rw [hm] at f3;have fk:=as7 hm;by_cases gI:m<=9223372036854775807
   ·rw [wM (by omega),yX (by omega)] at f3;rw [show (uc 0)=AV.int .u64 0 from rfl] at f3;by_cases hs:(decide (s1<0)==decide (s2<0))=true
    ·rw [yT hs] at fk;refine ⟨.agg [ab (m:Int),.aa],?_,by rw [fk];exact dC.oX (by omega) (by omega)⟩
     unfold aj;rw [aI h.PK]
     simp only [go_sem,ya,yb,mq,bj,sf,ie,eG,Jv,pz,cd,ye,dh,f1,f2,f3,show (m:Int)<=9223372036854775807 by omega,hs,NJ,wrap64 (n:=(m:Int)) (by omega) (by omega),rX];rfl
    ·rw [yD hs] at fk;refine ⟨.agg [ab (0-(m:Int)),.aa],?_,by rw [fk];exact dC.oX (by omega) (by omega)⟩
     unfold aj;rw [aI h.PK]
     simp only [go_sem,ya,yb,mq,bj,sf,ie,eG,Jv,pz,cd,ye,dh,f1,f2,f3,show (m:Int)<=9223372036854775807 by omega,hs,NJ,wrap64 (n:=(m:Int)) (by omega) (by omega),wrap64 (n:=0-(m:Int)) (by omega) (by omega),rX];rfl
   ·by_cases Cn:m/18446744073709551616=0
    ·rw [Cn,yX (by omega)] at f3;rw [show (uc 0)=AV.int .u64 0 from rfl] at f3;refine ⟨r,fin _ ?_ ?_ ?_ (by simp only [go_sem,ya,yb,bF,aC,mq,bj,ie,eG,cd,ye,dh,f1,f2,f3,show ¬(m:Int)<=9223372036854775807 by omega]<;>rfl),hr⟩<;>simp only [go_sem,ya]
    ·obtain ⟨q,hq⟩:∃q,q=m/18446744073709551616:=⟨_,rfl⟩;rw [<-hq] at f3 Cn;refine ⟨r,fin _ ?_ ?_ ?_ (by simp only [go_sem,ya,yb,bF,aC,mq,bj,ie,eG,cd,ye,dh,f1,f2,f3,show ¬(q:Int)=0 by omega]<;>rfl),hr⟩<;>simp only [go_sem,ya]
  ·refine ⟨r,fin _ ?_ ?_ ?_ (by simp only [go_sem,ya,yb,bF,aC,mq,bj,ie,nS,eG,cd,ye,dh]<;>rfl),hr⟩<;>simp only [go_sem,ya]
 ·refine ⟨r,fin _ ?_ ?_ ?_ (by simp only [go_sem,ya,yb,bF,aC,mq,bj,u2.pu,u2.one,nS,eG,cd,ye,dh]<;>rfl),hr⟩<;>simp only [go_sem,ya]
end
end
section
open Go (IntKind)
def aq3 {a b:Int} {q r:Nat} (hb:0<b) (h:q=a.natAbs/b.natAbs) (h2:r=a.natAbs%b.natAbs):
  (cG (decide (a<0)) r<0->a/b=cG (decide (a<0)) q-1/\a%b=cG (decide (a<0)) r+b)/\(¬cG (decide (a<0)) r<0->a/b=cG (decide (a<0)) q/\a%b=cG (decide (a<0)) r):=by
 have fW:=xR a.natAbs b.natAbs;have aZ:r<b.natAbs:=by rw [h2];exact xE _ (by omega)
 unfold cG;by_cases h0:a<0
 ·simp only [h0,yr,xD];constructor
  ·intro h3;refine (tg hb).2 ⟨?_,by omega,by omega⟩
   grind
  ·intro h3;refine (tg hb).2 ⟨?_,by omega,by omega⟩
   grind
 ·grind
section
variable {P:aM} {L:Lib}
def ayQ (h:Nu P L) {s1 s2:Int} {w1 w2:AV} {a b:Int} {K:Nat} (ha:dC s1 w1 a) (hb:dC s2 w2 b) (dY:0<b) (ka:Bd K a) (kb:Bd K b) (hK:K<=30000000000):
  ∃q r,cN q (a/b)/\cN r (a%b)/\∀tm,af tm 2= .ptr 0 0->af tm 3= .ptr 1 0->af tm 4= .ptr 2 0->af tm 5= .ptr 3 0->gS [.cell 4 2 true,.cell 5 2 true] (D P L (aC (aC mr.body)) ⟨tm,[(3,.cells true true true 2 [.int .i64 0,.aa]),(2,.cells true true true 2 [.int .i64 0,.aa]),(1,.cells true true true 2 [ab s2,w2]),(0,.cells true true true 2 [ab s1,w1])],4,0⟩)=some (.ae [q,r]):=by
 obtain ⟨l1,u1⟩:=ha.aY;obtain ⟨l2,u2⟩:=hb.aY;obtain ⟨p,e1,hp⟩:=Aj h ha;obtain ⟨q,e2,hq⟩:=Aj h hb;have cK:cN (.agg [ab s2,w2]) b:=⟨s2,w2,rfl,hb⟩;obtain ⟨lp,iP,_⟩:=hp.aY;obtain ⟨lq,oL,_⟩:=hq.aY;have Cm:=yU ka (Bi K);have G1:=yU kb (Bi K);obtain ⟨dq,dr,e3,Ef,jj⟩:=alf h.toWd hp hq (by omega) Cm G1 (by omega);obtain ⟨LO,uq,_⟩:=Ef.aY;obtain ⟨lr1,ur,_⟩:=jj.aY;have hqk:a.natAbs/b.natAbs<18446744073709551616^K:=wJ (vB _ _) Cm;have hrk:a.natAbs%b.natAbs<18446744073709551616^K:=wJ (ybW _ _) Cm;have hqb:a.natAbs/b.natAbs<2^K:=wJ (vB _ _) ka;have hrb:a.natAbs%b.natAbs<2^K:=wJ (ybW _ _) ka;obtain ⟨f1,f2⟩:=aq3 (a:=a) dY rfl rfl;generalize a.natAbs/b.natAbs=Q at*
 generalize a.natAbs%b.natAbs=R at*
 obtain ⟨vq,e4,hvq⟩:=DM h (decide (a<0)) Ef hqk (by omega);obtain ⟨vr,e5,Lx⟩:=DM h (decide (a<0)) jj hrk (by omega);have hsq:Bd K (cG (decide (a<0)) Q):=by unfold Bd cG;split<;>omega
 have hsr:Bd K (cG (decide (a<0)) R):=by unfold Bd cG;split<;>omega
 generalize cG (decide (a<0)) R=Rs at*
 have e6:=Gm h Lx;have alm:=hvq;have aln:=Lx;obtain ⟨s3,w3,rfl,h3⟩:=hvq;obtain ⟨s4,w4,rfl,h4⟩:=Lx;obtain ⟨l3,u3⟩:=h3.aY;obtain ⟨l4,u4⟩:=h4.aY;by_cases h0:Rs<0
 ·obtain ⟨g1,g2⟩:=f1 h0;have mC:Bd (K+1) 1:=Bd.mono (k:=1) (by unfold Bd;decide) (by omega)
  obtain ⟨o1,o2⟩:=DL h (z:=1) (by decide) (by decide);obtain ⟨vq2,e7,Y5⟩:=alk h alm o2 (K:=K+1) (hsq.mono (by omega)) mC (by omega);obtain ⟨vr2,e8,Y6⟩:=KS h aln cK (K:=K+1) (hsr.mono (by omega)) (kb.mono (by omega)) (by omega);rw [<-g1] at Y5;rw [<-g2] at Y6;have nv:cX Rs<0:=by unfold cX;rw [yT h0];decide
  have k1:=Y5;have k2:=Y6;obtain ⟨s5,w5,rfl,h5⟩:=Y5;obtain ⟨s6,w6,rfl,h6⟩:=Y6;obtain ⟨l5,u5⟩:=h5.aY;obtain ⟨l6,u6⟩:=h6.aY;refine ⟨_,_,k1,k2,fun tm t2 t3 t4 t5=>?_⟩;simp only [go_sem,ya,yb,mr,aC,t2,t3,t4,t5,Tu,Tv,SR,Su,Tw,wT,bj,cy,cF,u1.an,u2.an,e1,e2,iP.an,oL.an,e3,uq.an,uq.bQ,ur.an,ur.bQ,e4,e5,bX,fB,fD,cy,yK,eh u3,eh u4,u3.an,u4.an,e6,nv,o1,e7,e8,fB,fD,cy,yK,eh u5,eh u6,aiN u5 u6]
 ·obtain ⟨g1,g2⟩:=f2 h0;have nv:¬cX Rs<0:=by unfold cX;rw [yD h0];split<;>decide
  refine ⟨_,_,by rw [g1];exact alm,by rw [g2];exact aln,fun tm t2 t3 t4 t5=>?_⟩
  simp only [go_sem,ya,yb,mr,aC,t2,t3,t4,t5,Tu,Tv,SR,Su,Tw,wT,bj,cy,cF,u1.an,u2.an,e1,e2,iP.an,oL.an,e3,uq.an,uq.bQ,ur.an,ur.bQ,e4,e5,bX,fB,fD,cy,yK,eh u3,eh u4,u4.an,e6,nv,aiN u3 u4]
def alo (h:Nu P L) {v w:AV} {a b:Int} {K:Nat} (hv:cN v a) (hw:cN w b) (dY:0<b) (ka:Bd K a) (kb:Bd K b) (hK:K<=30000000000):∃q r,aj P L 164 [v,w] (.ae [q,r])/\cN q (a/b)/\cN r (a%b):=by
 obtain ⟨s1,w1,rfl,h1⟩:=hv;obtain ⟨s2,w2,rfl,h2⟩:=hw;obtain ⟨l1,u1⟩:=h1.aY;obtain ⟨l2,u2⟩:=h2.aY;obtain ⟨q,r,hq,hr,tail⟩:=ayQ h h1 h2 dY ka kb hK;have fin:∀tm,af tm 2= .ptr 0 0->af tm 3= .ptr 1 0->af tm 4= .ptr 2 0->af tm 5= .ptr 3 0->
   D P L (.seq (bF mr.body) (bF (aC mr.body))) ⟨[(0,.agg [ab s1,w1]),(1,.agg [ab s2,w2])],[],0,0⟩=some (.normal,⟨tm,[(3,.cells true true true 2 [.int .i64 0,.aa]),(2,.cells true true true 2 [.int .i64 0,.aa]),(1,.cells true true true 2 [ab s2,w2]),(0,.cells true true true 2 [ab s1,w1])],4,0⟩)->aj P L 164 [.agg [ab s1,w1],.agg [ab s2,w2]] (.ae [q,r]):=fun tm t2 t3 t4 t5 e=>by
  unfold aj;rw [aI h.Y3];show gS [.cell 4 2 true,.cell 5 2 true] (D P L (.seq (bF mr.body) (.seq (bF (aC mr.body)) (aC (aC mr.body)))) ⟨[(0,.agg [ab s1,w1]),(1,.agg [ab s2,w2])],[],0,0⟩)=_
  rw [CL,e,fK];exact tail tm t2 t3 t4 t5
 rcases h1 with ⟨rfl,rfl,a1,a2⟩ | ⟨e,l,rfl,ga,na,va,sa,a1⟩
 ·rcases h2 with ⟨rfl,rfl,b1,b2⟩ | ⟨e,l,rfl,gb,nb,vb,sb,b1⟩
  ·by_cases hm:s1= -9223372036854775808
   ·refine ⟨q,r,fin _ ?_ ?_ ?_ ?_ (by simp only [go_sem,ya,yb,bF,aC,mr,bj,ie,eG,cd,ye,dh,hm]<;>rfl),hq,hr⟩<;>simp only [go_sem,ya]
   ·obtain ⟨f1,f2⟩:=aqT (a:=s1) dY;have bI:s1.tdiv s2=0\/(s1.tdiv s2).natAbs<=s1.natAbs:= .inr (Int.natAbs_tdiv_le_natAbs s1 s2);have cM:=Int.tmod_lt_of_pos s1 dY;have mB:=Int.lt_tmod_of_pos s1 dY;by_cases h0:s1.tmod s2<0
    ·obtain ⟨g1,g2⟩:=f1 h0;rw [g1,g2];refine ⟨.agg [ab (s1.tdiv s2-1),.aa],.agg [ab (s1.tmod s2+s2),.aa],?_,dC.oX (by omega) (by omega),dC.oX (by omega) (by omega)⟩;unfold aj;rw [aI h.Y3]
     simp only [go_sem,ya,yb,mr,bj,sf,ie,eG,cd,ye,dh,hm,gL _ _ _ (show s2≠0 by omega),iV _ _ _ (show s2≠0 by omega),h0,wrap64 (n:=s1.tdiv s2) (by omega) (by omega),wrap64 (n:=s1.tdiv s2-1) (by omega) (by omega),wrap64 (n:=s1.tmod s2+s2) (by omega) (by omega),rX];rfl
    ·obtain ⟨g1,g2⟩:=f2 h0;rw [g1,g2];refine ⟨.agg [ab (s1.tdiv s2),.aa],.agg [ab (s1.tmod s2),.aa],?_,dC.oX (by omega) (by omega),dC.oX (by omega) (by omega)⟩;unfold aj;rw [aI h.Y3]
     simp only [go_sem,ya,yb,mr,bj,sf,ie,eG,cd,ye,dh,hm,gL _ _ _ (show s2≠0 by omega),iV _ _ _ (show s2≠0 by omega),h0,wrap64 (n:=s1.tdiv s2) (by omega) (by omega),rX];rfl
  ·refine ⟨q,r,fin _ ?_ ?_ ?_ ?_ (by simp only [go_sem,ya,yb,bF,aC,mr,bj,ie,nS,eG,cd,ye,dh]<;>rfl),hq,hr⟩<;>simp only [go_sem,ya]
 ·refine ⟨q,r,fin _ ?_ ?_ ?_ ?_ (by simp only [go_sem,ya,yb,bF,aC,mr,bj,u2.pu,u2.one,nS,eG,cd,ye,dh]<;>rfl),hq,hr⟩<;>simp only [go_sem,ya]
end
end
section
open Go (IntKind)
section
variable {P:aM} {L:Lib}
def alp (h:Nu P L) {v w:AV} {a b:Int} {K:Nat} (hv:cN v a) (hw:cN w b) (dY:0<b) (ka:Bd K a) (kb:Bd K b) (hK:K<=30000000000):∃r,aj P L 148 [v,w] r/\cN r (a/b):=by
 have e1:=Gm h hw;obtain ⟨q,r,e2,hq,hr⟩:=alo h hv hw dY ka kb hK;have e3:cX b=1:=by unfold cX;rw [yD (by omega),yD (by omega)]
 rw [e3] at e1;have bI:=hq;obtain ⟨s1,w1,rfl,h1⟩:=hv;obtain ⟨s2,w2,rfl,h2⟩:=hw;obtain ⟨s3,w3,rfl,h3⟩:=hq;obtain ⟨s4,w4,rfl,h4⟩:=hr;obtain ⟨l1,u1⟩:=h1.aY;obtain ⟨l2,u2⟩:=h2.aY;obtain ⟨l3,u3⟩:=h3.aY;obtain ⟨l4,u4⟩:=h4.aY;refine ⟨_,?_,bI⟩;unfold aj;rw [aI h.aCg];simp only [go_sem,ya,yb,Uw,ybD,ym,bj,u1.pu,u1.an,u1.one,u2.pu,u2.an,u2.one,ye,cF,e1,e2,AX,fB,fD,cy,yK,mY u3,eh u3,eh u4]
def ayR (h:Nu P L) (G:Nat) {K:Nat} (hK:K<=30000000000) {o1 o2:AV}:
  ∀k s,(∃(x y:Nat) (s1 s2:Int) (w1 w2:AV),aJ [2,3,4] s=⟨[(2,.ptr 0 0),(3,.ptr 1 0),(4,.ptr 2 0)],[(2,.cells true true true 2 [o1,o2]),(1,.cells true true true 2 [ab s2,w2]),(0,.cells true true true 2 [ab s1,w1])],3,0⟩/\dC s1 w1 x/\dC s2 w2 y/\Bd K x/\Bd K y/\Nat.gcd x y=G/\y=k)->
   ∃ex s',D P L (.loop [2,3,4] I8) s=some (ex,s')/\∃tm s1 w1 c1,s'=⟨tm,[(2,.cells true true true 2 [o1,o2]),(1,c1),(0,.cells true true true 2 [ab s1,w1])],3,0⟩/\ex= .exit 0/\af tm 2= .ptr 0 0/\af tm 4= .ptr 2 0/\dC s1 w1 G:=by
 intro dq sq;generalize a8:aJ [2,3,4] sq=s0;revert a8 s0 sq dq;apply cY;rintro k s ⟨x,y,s1,s2,w1,w2,rfl,h1,h2,k1,k2,hG,rfl⟩;obtain ⟨l1,u1⟩:=h1.aY;obtain ⟨l2,u2⟩:=h2.aY;have i1:cN (.agg [ab s1,w1]) (x:Int):=⟨s1,w1,rfl,h1⟩;have i2:cN (.agg [ab s2,w2]) (y:Int):=⟨s2,w2,rfl,h2⟩;have e1:=Gm h i2;by_cases iS:y=0
 ·right
  subst iS;rw [show cX ((0:Nat):Int)=0 from rfl] at e1;simp only [go_sem,ya,I8,yr,yO,cy,cF,u2.an,e1];obtain rfl:x=G:=by rw [<-hG,Nat.gcd_zero_right]
  exact ⟨_,_,rfl,by simp,_,s1,w1,_,rfl,rfl,by simp only [go_sem,ya],by simp only [go_sem,ya],h1⟩
 ·left
  have e3:cX (y:Int)=1:=by unfold cX;rw [yD (by omega),yD (by omega)]
  rw [e3] at e1;obtain ⟨q,r,e2,hq,hr⟩:=alo h i1 i2 (by omega) k1 k2 hK;obtain ⟨s3,w3,rfl,h3⟩:=hq;obtain ⟨s4,w4,rfl,h4⟩:=hr;obtain ⟨l3,u3⟩:=h3.aY;obtain ⟨l4,u4⟩:=h4.aY;have aZ:=xE x (show 0<y by omega);have kr:Bd K ((x%y:Nat):Int):=k2.le (by omega);simp only [go_sem,ya,yb,I8,Tu,Tv,SR,Su,Tw,wT,vP,ym,yM,bj,cy,cF,u1.an,u2.an,e1,e2,AX,cy,yK,eh u2,eh u3,eh u4];refine ⟨_,x%y,rfl,aZ,y,x%y,s2,s4,w2,w4,?_,h2,h4,k2,kr,by rw [<-hG];exact asV x y iS,rfl⟩
  simp only [go_sem,ya,yb,av]
def alq (h:Nu P L) {v w:AV} {a b:Int} {K:Nat} (hv:cN v a) (hw:cN w b) (ka:Bd K a) (kb:Bd K b) (hK:K<=30000000000):∃r,aj P L 130 [v,w] r/\cN r (wX a b:Nat):=by
 obtain ⟨va,e1,ha⟩:=alj h hv ka (by omega);obtain ⟨vb,e2,hb⟩:=alj h hw kb (by omega);obtain ⟨s1,w1,rfl,h1⟩:=hv;obtain ⟨s2,w2,rfl,h2⟩:=hw;obtain ⟨s3,w3,rfl,h3⟩:=ha;obtain ⟨s4,w4,rfl,h4⟩:=hb;obtain ⟨l1,u1⟩:=h1.aY;obtain ⟨l2,u2⟩:=h2.aY;obtain ⟨l3,u3⟩:=h3.aY;obtain ⟨l4,u4⟩:=h4.aY;have jc:∃s w,aj P L 130 [.agg [ab s1,w1],.agg [ab s2,w2]] (.agg [ab s,w])/\dC s w (wX a b:Nat):=by
  unfold aj;rw [aI h.aCh];simp only [go_sem,ya,yb,Uu,bj,u1.pu,u1.an,u1.one,u2.pu,u2.an,u2.one,cy,cF,e1,e2,bX,cy,yK,eh u3,eh u4,ye];generalize hq:D P L (.loop [2,3,4] I8) _=q;obtain ⟨ex,s,rfl,tm,s5,w5,c1,rfl,rfl,t2,t4,h5⟩:=bq hq (ayR (P:=P) (L:=L) h (wX a b) (K:=K) hK (o1:= .int .i64 0) (o2:= .aa) b.natAbs) ⟨a.natAbs,b.natAbs,s3,s4,w3,w4,by simp only [go_sem,ya,yb,av],h3,h4,ka,kb,rfl,rfl⟩;obtain ⟨l5,u5⟩:=h5.aY;refine ⟨s5,w5,?_,h5⟩;simp only [go_sem,ya,yb,av,t2,t4,fB,fD,cy,yK,mY u5,eh u5]
 obtain ⟨s,w,e,hn⟩:=jc;exact ⟨_,e,s,w,rfl,hn⟩
end
def dI (v:AV) (r:Rat):Prop:=∃s1 w1 s2 w2,v= .agg [ab s1,w1,ab s2,w2]/\dC s1 w1 r.num/\dC s2 w2 (r.den:Int)
def Hq (k:Nat) (r:Rat):Prop:=Bd k r.num/\Bd k (r.den:Int)
def Rj {a b:Int} (hb:0<b):(wm a b).num=a/(wX a b:Nat)/\((wm a b).den:Int)=b/(wX a b:Nat):=by
 constructor
 ·rw [ybc,Int.sign_eq_one_of_pos hb,Int.one_mul,ybE]
 ·rw [ybd,yD (by omega),ybE]
  grind
def Hq.divInt {k:Nat} {a b:Int} (hb:0<b) (ka:Bd k a) (kb:Bd k b):Hq k (wm a b):=by
 obtain ⟨h1,h2⟩:=Rj (a:=a) hb;refine ⟨ka.le ?_,kb.le ?_⟩
 ·rw [h1,uj (Int.gcd_dvd_left a b)];exact vB _ _
 ·rw [h2,uj (Int.gcd_dvd_right a b)];exact vB _ _
section
def EV {tm:Env} {a b x y z w:AV} {r:List (Nat×Nat×X)} (h1:dt a=true) (h2:dt b=true):qX tm [x,y,z,w] 0 2 [a,b] r=fill tm [a,b,z,w] r:=by
 rw [SM (by rfl) (by simp) (by simp [cu,h1,h2])];rfl
def EW {tm:Env} {a b x y z w:AV} {r:List (Nat×Nat×X)} (h1:dt a=true) (h2:dt b=true):qX tm [x,y,z,w] 2 2 [a,b] r=fill tm [x,y,a,b] r:=by
 rw [SM (by rfl) (by simp) (by simp [cu,h1,h2])];rfl
def mZ {s t:Int} {v w:AV} {l m:List Nat} (hv:bV v l) (hw:bV w m) (hp:Hp) (ct id:Nat) (a b x y:AV):im hp ct id 0 4 [.int .i64 s,v,.int .i64 t,w] (some (.cells true true true 4 [a,b,x,y]))=some (.ae [],a6 hp id (.cells true true true 4 [.int .i64 s,v,.int .i64 t,w]),ct):=by
 rw [qW (by rfl) (by simp) (by simp [cu,hv.one,hw.one,ahs])];simp [aK,hv.pu,hw.pu,over,aiE]
def nc {s t:Int} {v w:AV} {l m:List Nat} (hv:bV v l) (hw:bV w m) (hp:Hp):result hp (.agg [ab s,v,ab t,w])=some (.agg [ab s,v,ab t,w]):=by
 rcases hv with ⟨rfl,_⟩ | ⟨e,rfl⟩<;>rcases hw with ⟨rfl,_⟩ | ⟨e',rfl⟩<;>rfl
variable {P:aM} {L:Lib}
structure Fr' (P:aM) (L:Lib):Prop extends Nu P L where
 aCj:Has P L 101 ni
 h69:Has P L 69 Lp
 aCk:Has P L 111 Ut
 h98:Has P L 98 Qj
 aCl:Has P L 108 Us
 aCm:Has P L 102 Ur
 h74:Has P L 74 AB
 h50:Has P L 50 Lo
 oM:Has P L 49 c49
 h73:Has P L 73 Cc
 h70:Has P L 70 Lq
 h71:Has P L 71 GP
 aIY:Has P L 149 aj7
def aiO (h:Fr' P L) {s1 s2:Int} {w1 w2:AV} {a b:Int} {K:Nat} (h1:dC s1 w1 a) (h2:dC s2 w2 b) (dY:0<b) (ka:Bd K a) (kb:Bd K b) (hK:K<=30000000000):
  ∃r,dI r (wm a b)/\∀tm,af tm 2= .ptr 0 0->af tm 3= .ptr 1 0->af tm 4= .ptr 2 0->gS [.cell 4 4 true] (D P L (aC (aC ni.body)) ⟨tm,[(2,.cells true true true 4 [.int .i64 0,.aa,.int .i64 0,.aa]),(1,.cells true true true 2 [ab s2,w2]),(0,.cells true true true 2 [ab s1,w1])],3,0⟩)=some r:=by
 have hv:cN (.agg [ab s1,w1]) a:=⟨s1,w1,rfl,h1⟩;have hw:cN (.agg [ab s2,w2]) b:=⟨s2,w2,rfl,h2⟩;obtain ⟨p1,p2⟩:=Rj (a:=a) dY;have hgp:=No (a:=a) dY;have hgk:Bd K ((wX a b:Nat):Int):=kb.le (by
  have:=Int.gcd_le_natAbs_right a (show b≠0 by omega)
  omega)
 obtain ⟨g,e2,hg⟩:=alq h.toNu hv hw ka kb hK;obtain ⟨q1,e4,fy⟩:=alp h.toNu hv hg hgp ka hgk hK;obtain ⟨q2,e5,qt⟩:=alp h.toNu hw hg hgp kb hgk hK;rw [<-p1] at fy;rw [<-p2] at qt;obtain ⟨s3,w3,rfl,h3⟩:=hg;obtain ⟨s4,w4,rfl,h4⟩:=fy;obtain ⟨s5,w5,rfl,h5⟩:=qt;obtain ⟨l1,u1⟩:=h1.aY;obtain ⟨l2,u2⟩:=h2.aY;obtain ⟨l3,u3⟩:=h3.aY;obtain ⟨l4,u4⟩:=h4.aY;obtain ⟨l5,u5⟩:=h5.aY;by_cases gB:w2= .aa/\s2=1
 ·obtain ⟨rfl,rfl⟩:=gB;have mC:b=1:=by
   rcases h2 with ⟨_,h,_⟩ | ⟨_,_,h,_⟩
   ·exact h.symm
   ·cases h
  subst mC;rw [Int.gcd_one] at p1 p2;have p1:(wm a 1).num=a:=by rw [p1];exact Int.ediv_one a
  refine ⟨.agg [ab s1,w1,ab 1,.aa],⟨s1,w1,1,.aa,rfl,by rw [p1];exact h1,by rw [p2];exact h2⟩,fun tm t2 t3 t4=>?_⟩
  have un:=zy;simp only [go_sem,ya,ni,aC,t2,t3,t4,u1.one,cy,cd,ye,dh,ie,eG,EV,EW,mZ u1 un,fB,fD,yK,iK,nc u1 un]
 ·refine ⟨.agg [ab s4,w4,ab s5,w5],⟨s4,w4,s5,w5,rfl,h4,h5⟩,fun tm t2 t3 t4=>?_⟩;rcases u2 with ⟨rfl,_⟩ | ⟨e,rfl⟩
  ·simp only [go_sem,ya,yb,ni,aC,t2,t3,t4,bj,u1.an,cy,cF,cd,ye,dh,ie,eG,show ¬s2=1 from fun e=>gB ⟨rfl,e⟩,e2,e4,e5,bX,fB,fD,cy,yK,eh u3,u3.an,u4.one,u5.one,EV,EW,mZ u4 u5,iK,nc u4 u5]
  ·simp only [go_sem,ya,yb,ni,aC,t2,t3,t4,bj,u1.an,cy,cF,cd,ye,dh,nS,eG,e2,e4,e5,bX,fB,fD,cy,yK,eh u3,u3.an,u4.one,u5.one,EV,EW,mZ u4 u5,iK,nc u4 u5]
def Y7 (h:Fr' P L) {v w:AV} {a b:Int} {K:Nat} (hv:cN v a) (hw:cN w b) (dY:b≠0) (ka:Bd K a) (kb:Bd K b) (hK:K<=30000000000):∃r,aj P L 101 [v,w] r/\dI r (wm a b):=by
 have e1:=Gm h.toNu hw;have eI:=hv;have hw':=hw;obtain ⟨s1,w1,rfl,h1⟩:=hv;obtain ⟨s2,w2,rfl,h2⟩:=hw;obtain ⟨l1,u1⟩:=h1.aY;obtain ⟨l2,u2⟩:=h2.aY;have fin:∀r t1 t2 v1 v2 tm,(∀tm,af tm 2= .ptr 0 0->af tm 3= .ptr 1 0->af tm 4= .ptr 2 0->gS [.cell 4 4 true] (D P L (aC (aC ni.body)) ⟨tm,[(2,.cells true true true 4 [.int .i64 0,.aa,.int .i64 0,.aa]),(1,.cells true true true 2 [ab t2,v2]),(0,.cells true true true 2 [ab t1,v1])],3,0⟩)=some r)->af tm 2= .ptr 0 0->af tm 3= .ptr 1 0->af tm 4= .ptr 2 0->
   D P L (.seq (bF ni.body) (bF (aC ni.body))) ⟨[(0,.agg [ab s1,w1]),(1,.agg [ab s2,w2])],[],0,0⟩=some (.normal,⟨tm,[(2,.cells true true true 4 [.int .i64 0,.aa,.int .i64 0,.aa]),(1,.cells true true true 2 [ab t2,v2]),(0,.cells true true true 2 [ab t1,v1])],3,0⟩)->aj P L 101 [.agg [ab s1,w1],.agg [ab s2,w2]] r:=fun r t1 t2 v1 v2 tm tail k2 k3 k4 e=>by
  unfold aj;rw [aI h.aCj];show gS [.cell 4 4 true] (D P L (.seq (bF ni.body) (.seq (bF (aC ni.body)) (aC (aC ni.body)))) ⟨[(0,.agg [ab s1,w1]),(1,.agg [ab s2,w2])],[],0,0⟩)=_
  rw [CL,e,fK];exact tail tm k2 k3 k4
 by_cases hn:b<0
 ·obtain ⟨n1,e2,e9⟩:=Gn h.toNu eI ka (by omega);obtain ⟨n2,e3,eB⟩:=Gn h.toNu hw' kb (by omega);obtain ⟨s3,w3,rfl,h3⟩:=e9;obtain ⟨s4,w4,rfl,h4⟩:=eB;obtain ⟨l3,u3⟩:=h3.aY;obtain ⟨l4,u4⟩:=h4.aY;obtain ⟨r,hr,tail⟩:=aiO h h3 h4 (by omega) ka.neg kb.neg hK;rw [Rat.neg_divInt_neg] at hr;have hs:cX b<0:=by unfold cX;rw [yT hn];decide
  refine ⟨r,fin r _ _ _ _ _ tail ?_ ?_ ?_ (by simp only [go_sem,ya,yb,ni,bF,aC,hs,bj,u1.pu,u1.an,u1.one,u2.pu,u2.an,u2.one,cy,cF,e1,e2,e3,bX,eh u3,eh u4]<;>rfl),hr⟩<;>simp only [go_sem,ya]
 ·obtain ⟨r,hr,tail⟩:=aiO h h1 h2 (by omega) ka kb hK;have hs:¬cX b<0:=by unfold cX;rw [yD hn];split<;>decide
  refine ⟨r,fin r _ _ _ _ _ tail ?_ ?_ ?_ (by simp only [go_sem,ya,yb,ni,bF,aC,hs,bj,u1.pu,u1.one,u2.pu,u2.an,u2.one,cy,cF,e1]<;>rfl),hr⟩<;>simp only [go_sem,ya]
end
end
section
open Go (IntKind)
def Hq.mono {k m:Nat} {r:Rat} (h:Hq k r) (hk:k<=m):Hq m r:=⟨h.1.mono hk,h.2.mono hk⟩
def Hq.neg {k:Nat} {r:Rat} (h:Hq k r):Hq k (-r):=⟨h.1.neg,h.2⟩
def add_eq (a b:Rat):a+b=wm (a.num*b.den+b.num*a.den) ((a.den:Int)*b.den):=by
 rw [Rat.add_def',<-yaO,vc]
def mul_eq (a b:Rat):a*b=wm (a.num*b.num) ((a.den:Int)*b.den):=by
 rw [Rat.mul_def',<-yaO,vc]
def aec (a:Rat):0<(a.den:Int):=by have:=a.den_pos;omega
def EC (a b:Rat):0<(a.den:Int)*b.den:=Int.mul_pos (aec a) (aec b)
def Bd.Y8 {k:Nat} {a b:Int} (ha:Bd k a) (hb:Bd k b):Bd (k+1) (a+b):=by
 have:=ha.add hb
 grind
def Hq.add {k m:Nat} {a b:Rat} (ha:Hq k a) (hb:Hq m b):Hq (k+m+1) (a+b):=by
 rw [add_eq];refine Hq.divInt (EC a b) ?_ ((ha.2.mul hb.2).mono (by omega));exact (ha.1.mul hb.2).Y8 ((hb.1.mul ha.2).mono (by omega))
def Hq.mul {k m:Nat} {a b:Rat} (ha:Hq k a) (hb:Hq m b):Hq (k+m) (a*b):=by
 rw [mul_eq];exact Hq.divInt (EC a b) (ha.1.mul hb.1) (ha.2.mul hb.2)
def Hq.inv {k:Nat} {a:Rat} (ha:Hq k a):Hq k a⁻¹:=by
 have h1:(a⁻¹).num.natAbs<=a.den:=by
  rw [Rat.num_inv,ybb]
  grind
 refine ⟨ha.2.le (by simpa using h1),?_⟩;unfold Bd;rw [Rat.den_inv]
 split
 ·have h2:=ha.2;unfold Bd at h2
  simp_all
 ·exact ha.1
def SS (a:Rat) (h:a.den=1):a=(a.num:Rat):=by
 have:=Rat.num_divInt_den a
 rw [h] at this;rw [<-this];exact (Rat.ext (by simp [ybc]) (by simp [ybd]))
def FD (a b c d:AV) (r:List AV):iC 2 true (List.drop 2 (a::b::c::d::r))=some (.agg [c,d]):=rfl
def zV (a b:AV) (r:List AV):iC 2 true (a::b::r)=some (.agg [a,b]):=rfl
section
variable {P:aM} {L:Lib}
def Y9 (h:Fr' P L) {v:AV} {z:Int} (hv:cN v z):∃r,aj P L 111 [v] r/\dI r (z:Rat):=by
 obtain ⟨o1,o2⟩:=DL h.toNu (z:=1) (by decide) (by decide);obtain ⟨s1,w1,rfl,h1⟩:=hv;obtain ⟨l1,u1⟩:=h1.aY;have un:=zy;refine ⟨.agg [ab s1,w1,ab 1,.aa],?_,s1,w1,1,.aa,rfl,h1,.inl ⟨rfl,rfl,(by show (-9223372036854775808:Int)<=1;decide),(by show (1:Int)<9223372036854775808;decide)⟩⟩
 unfold aj;rw [aI h.aCk];simp only [go_sem,ya,yb,Ut,bj,u1.pu,u1.one,cy,o1,bX,EV,EW,mZ u1 un,fB,fD,yK,iK,nc u1 un]
def LP (h:Fr' P L) {z:Int} (h1: -9223372036854775808<=z) (h2:z<9223372036854775808):∃r,aj P L 69 [ab z] r/\dI r (z:Rat):=by
 obtain ⟨o1,o2⟩:=DL h.toNu h1 h2;obtain ⟨r,e,hr⟩:=Y9 h o2;have bJ:=hr;obtain ⟨s1,w1,s2,w2,rfl,k1,k2⟩:=hr;obtain ⟨l1,u1⟩:=k1.aY;obtain ⟨l2,u2⟩:=k2.aY;refine ⟨_,?_,bJ⟩;unfold aj;rw [aI h.h69];simp only [go_sem,ya,yb,Lp,bj,cF,o1,e,bX,mZ u1 u2,fB,fD,yK,iK,nc u1 u2]
def m98 (h:Fr' P L) {v:AV} {a:Rat} (hv:dI v a):aj P L 98 [v] (.bool (decide (a.den=1))):=by
 obtain ⟨s1,w1,s2,w2,rfl,h1,h2⟩:=hv;obtain ⟨l1,u1⟩:=h1.aY;unfold aj;rw [aI h.h98];rcases h2 with ⟨rfl,rfl,b1,b2⟩ | ⟨e,l,rfl,gb,nb,vb,sb,b1⟩
 ·have e:decide (((a.den:Nat):Int)=1)=decide (a.den=1):=by simp;omega
  simp only [go_sem,ya,yb,Qj,bj,u1.pu,u1.one,cd,ye,aAF,ajp,ie,eG,e]
 ·have e:decide (a.den=1)=false:=xa (by omega);rw [e];simp only [go_sem,ya,yb,Qj,bj,u1.pu,u1.one,cd,ye,ajp,nS,eG]
def alr (h:Fr' P L) {v:AV} {a:Rat} (hv:dI v a):aj P L 108 [v] (ab (cX a.num)):=by
 obtain ⟨s1,w1,s2,w2,rfl,h1,h2⟩:=hv;obtain ⟨l1,u1⟩:=h1.aY;obtain ⟨l2,u2⟩:=h2.aY;have e1:=Gm h.toNu ⟨s1,w1,rfl,h1⟩;unfold aj;rw [aI h.aCl];simp only [go_sem,ya,yb,Us,bj,u1.pu,u1.an,u1.one,u2.pu,u2.one,cd,ye,zV,cF,e1]
def als (h:Fr' P L) {v:AV} {a:Rat} {K:Nat} (hv:dI v a) (ka:Hq K a) (hK:K<=30000000000):∃r,aj P L 102 [v] r/\dI r (-a):=by
 obtain ⟨s1,w1,s2,w2,rfl,h1,h2⟩:=hv;obtain ⟨l1,u1⟩:=h1.aY;obtain ⟨l2,u2⟩:=h2.aY;obtain ⟨n,e1,hn⟩:=Gn h.toNu ⟨s1,w1,rfl,h1⟩ ka.1 (by omega);obtain ⟨s3,w3,rfl,h3⟩:=hn;obtain ⟨l3,u3⟩:=h3.aY;refine ⟨.agg [ab s3,w3,ab s2,w2],?_,s3,w3,s2,w2,rfl,h3,h2⟩;unfold aj;rw [aI h.aCm];simp only [go_sem,ya,yb,Ur,bj,u1.pu,u1.an,u1.one,u2.pu,u2.one,u3.one,cd,ye,zV,FD,cF,e1,bX,EV,EW,mZ u3 u2,fB,fD,yK,iK,nc u3 u2]
def m74 (h:Fr' P L) {v w:AV} {a b:Rat} {K:Nat} (hv:dI v a) (hw:dI w b) (ka:Hq K a) (kb:Hq K b) (hK:K<=10000000000):∃r,aj P L 74 [v,w] r/\dI r (a+b):=by
 have i1:=m98 h hv;have i2:=m98 h hw;obtain ⟨s1,w1,s2,w2,rfl,h1,h2⟩:=hv;obtain ⟨s3,w3,s4,w4,rfl,h3,h4⟩:=hw;obtain ⟨l1,u1⟩:=h1.aY;obtain ⟨l2,u2⟩:=h2.aY;obtain ⟨l3,u3⟩:=h3.aY;obtain ⟨l4,u4⟩:=h4.aY;have n1:cN (.agg [ab s1,w1]) a.num:=⟨s1,w1,rfl,h1⟩;have n2:cN (.agg [ab s2,w2]) a.den:=⟨s2,w2,rfl,h2⟩;have n3:cN (.agg [ab s3,w3]) b.num:=⟨s3,w3,rfl,h3⟩;have n4:cN (.agg [ab s4,w4]) b.den:=⟨s4,w4,rfl,h4⟩;by_cases mF:a.den=1/\b.den=1
 ·obtain ⟨d1,d2⟩:=mF;obtain ⟨p,e1,hp⟩:=KS h.toNu n1 n3 ka.1 kb.1 (by omega);obtain ⟨r,e2,hr⟩:=Y9 h hp;have he:((a.num+b.num:Int):Rat)=a+b:=by
   rw [Rat.intCast_add,<-SS a d1,<-SS b d2]
  rw [he] at hr;have bJ:=hr;obtain ⟨s5,w5,rfl,h5⟩:=hp;obtain ⟨s6,w6,s7,w7,rfl,h6,h7⟩:=hr;obtain ⟨l5,u5⟩:=h5.aY;obtain ⟨l6,u6⟩:=h6.aY;obtain ⟨l7,u7⟩:=h7.aY;refine ⟨_,?_,bJ⟩;rw [d1] at i1;rw [d2] at i2;unfold aj;rw [aI h.h74];simp only [go_sem,ya,yb,AB,bj,u1.pu,u1.an,u1.one,u2.pu,u2.an,u2.one,u3.pu,u3.an,u3.one,u4.pu,u4.an,u4.one,cd,ye,iK,zV,cF,i1,i2,e1,u5.an,e2,bX,mZ u6 u7,fB,fD,yK,iK,nc u6 u7]
 ·obtain ⟨p1,e1,bl⟩:=BS h.toNu n1 n4 ka.1 kb.2 (by omega);obtain ⟨p2,e2,gU⟩:=BS h.toNu n3 n2 kb.1 ka.2 (by omega);obtain ⟨p3,e3,Eg⟩:=KS h.toNu bl gU (ka.1.mul kb.2) (kb.1.mul ka.2) (by omega);obtain ⟨p4,e4,QK⟩:=BS h.toNu n2 n4 ka.2 kb.2 (by omega);obtain ⟨r,e5,hr⟩:=Y7 h Eg QK (by have:=EC a b;omega) ((ka.1.mul kb.2).Y8 (kb.1.mul ka.2)) ((ka.2.mul kb.2).mono (by omega)) (by omega);rw [<-add_eq] at hr;have bJ:=hr;obtain ⟨s5,w5,rfl,h5⟩:=bl;obtain ⟨s6,w6,rfl,h6⟩:=gU;obtain ⟨s7,w7,rfl,h7⟩:=Eg;obtain ⟨s8,w8,rfl,h8⟩:=QK;obtain ⟨s9,w9,s10,G2,rfl,h9,iQ⟩:=hr;obtain ⟨l5,u5⟩:=h5.aY;obtain ⟨l6,u6⟩:=h6.aY;obtain ⟨l7,u7⟩:=h7.aY;obtain ⟨l8,u8⟩:=h8.aY;obtain ⟨l9,u9⟩:=h9.aY;obtain ⟨l10,QM⟩:=iQ.aY;refine ⟨_,?_,bJ⟩;unfold aj;rw [aI h.h74];by_cases d1:a.den=1
  ·rw [d1] at i1;rw [xa (fun d2=>mF ⟨d1,d2⟩)] at i2;simp only [go_sem,ya,yb,AB,bj,u1.pu,u1.an,u1.one,u2.pu,u2.an,u2.one,u3.pu,u3.an,u3.one,u4.pu,u4.an,u4.one,cd,ye,iK,zV,FD,cF,i1,i2,e1,e2,u5.an,u6.an,e3,e4,u7.an,u8.an,e5,bX,mZ u9 QM,fB,fD,yK,iK,nc u9 QM]
  ·rw [xa d1] at i1;simp only [go_sem,ya,yb,AB,bj,u1.pu,u1.an,u1.one,u2.pu,u2.an,u2.one,u3.pu,u3.an,u3.one,u4.pu,u4.an,u4.one,cd,ye,iK,zV,FD,cF,i1,e1,e2,u5.an,u6.an,e3,e4,u7.an,u8.an,e5,bX,mZ u9 QM,fB,fD,yK,iK,nc u9 QM]
def m49 (h:Fr' P L) {v w:AV} {a b:Rat} {K:Nat} (hv:dI v a) (hw:dI w b) (ka:Hq K a) (kb:Hq K b) (hK:K<=10000000000):∃r,aj P L 49 [v,w] r/\dI r (a*b):=by
 obtain ⟨s1,w1,s2,w2,rfl,h1,h2⟩:=hv;obtain ⟨s3,w3,s4,w4,rfl,h3,h4⟩:=hw;obtain ⟨l1,u1⟩:=h1.aY;obtain ⟨l2,u2⟩:=h2.aY;obtain ⟨l3,u3⟩:=h3.aY;obtain ⟨l4,u4⟩:=h4.aY;obtain ⟨p1,e1,bl⟩:=BS h.toNu (v:= .agg [ab s1,w1]) (w:= .agg [ab s3,w3]) ⟨s1,w1,rfl,h1⟩ ⟨s3,w3,rfl,h3⟩ ka.1 kb.1 (by omega);obtain ⟨p2,e2,gU⟩:=BS h.toNu (v:= .agg [ab s2,w2]) (w:= .agg [ab s4,w4]) ⟨s2,w2,rfl,h2⟩ ⟨s4,w4,rfl,h4⟩ ka.2 kb.2 (by omega);obtain ⟨r,e3,hr⟩:=Y7 h bl gU (by have:=EC a b;omega) (ka.1.mul kb.1) (ka.2.mul kb.2) (by omega);rw [<-mul_eq] at hr;have bJ:=hr;obtain ⟨s5,w5,rfl,h5⟩:=bl;obtain ⟨s6,w6,rfl,h6⟩:=gU;obtain ⟨s7,w7,s8,w8,rfl,h7,h8⟩:=hr;obtain ⟨l5,u5⟩:=h5.aY;obtain ⟨l6,u6⟩:=h6.aY;obtain ⟨l7,u7⟩:=h7.aY;obtain ⟨l8,u8⟩:=h8.aY;refine ⟨_,?_,bJ⟩;unfold aj;rw [aI h.oM]
 simp only [go_sem,ya,yb,c49,bj,u1.pu,u1.an,u1.one,u2.pu,u2.an,u2.one,u3.pu,u3.an,u3.one,u4.pu,u4.an,u4.one,u5.an,u6.an,cd,ye,zV,FD,cF,e1,e2,e3,bX,mZ u7 u8,fB,fD,yK,iK,nc u7 u8]
def m73 (h:Fr' P L) {v:AV} {a:Rat} {K:Nat} (hv:dI v a) (h0:a≠0) (ka:Hq K a) (hK:K<=10000000000):∃r,aj P L 73 [v] r/\dI r a⁻¹:=by
 obtain ⟨s1,w1,s2,w2,rfl,h1,h2⟩:=hv;obtain ⟨l1,u1⟩:=h1.aY;obtain ⟨l2,u2⟩:=h2.aY;obtain ⟨r,e1,hr⟩:=Y7 h (v:= .agg [ab s2,w2]) (w:= .agg [ab s1,w1]) ⟨s2,w2,rfl,h2⟩ ⟨s1,w1,rfl,h1⟩ (fun e=>h0 (Rat.num_eq_zero.1 e)) ka.2 ka.1 (by omega);rw [<-Rat.inv_def] at hr;have bJ:=hr;obtain ⟨s7,w7,s8,w8,rfl,h7,h8⟩:=hr;obtain ⟨l7,u7⟩:=h7.aY;obtain ⟨l8,u8⟩:=h8.aY;refine ⟨_,?_,bJ⟩;unfold aj;rw [aI h.h73];simp only [go_sem,ya,yb,Cc,bj,u1.pu,u1.an,u1.one,u2.pu,u2.an,u2.one,cd,ye,zV,FD,cF,e1,bX,mZ u7 u8,fB,fD,yK,iK,nc u7 u8]
end
end
section
open Go (IntKind)
def sj:List AV->Option (List Nat)
 | []=>some []
 | .int .u64 (.ofNat d)::r=>bif yR d 18446744073709551616 then (match sj r with | some l=>some (d::l) | none=>none) else none
 | _::_=>none
def sN:List Nat->Nat
 | []=>0
 | a::r=>a+18446744073709551616*sN r
def Bu:List Nat->Bool
 | []=>false
 | [a]=> !yx a 0
 | _::r=>Bu r
def Nt:List AV->Option AV
 | [.agg [.int .i64 s,.aa]]=>bif Bq s then some (.str (aX s)) else none
 | [.agg [.int .i64 s,.aB _ n cs]]=>
  match sj cs with
  | some l=>
   bif yx l.length n&&(yG n 4000000000&&(Bu l&&yG 9223372036854775808 (sN l))) then
    match s with
    | .ofNat 1=>some (.str (aD (sN l)))
    | .negSucc 0=>some (.str (45::aD (sN l)))
    | _=>none
   else none
  | none=>none
 | _=>none
end
section
open Go (IntKind)
def acm:∀{l:List Nat},lo 18446744073709551616 l->sj (l.map uc)=some l
 | [],_=>rfl
 | a::l,h=>by
  have h1:=h a (by simp);have h2:=acm (l:=l) (fun x hx=>h x (by simp [hx]));show (bif yR a 18446744073709551616 then (match sj (l.map uc) with | some l=>some (a::l) | none=>none) else none)=_
  rw [kP h1,h2];rfl
def SU:∀l:List Nat,sN l=bv 18446744073709551616 l
 | []=>rfl
 | a::l=>by simp only [sN,bv,SU l]
def aed:∀{l:List Nat},l≠[]->gW l->Bu l=true
 | [],h,_=>absurd rfl h
 | [a],_,h=>by
  have:a≠0:=fun e=>by
   subst e;have h:ef [0]=[0]:=h;simp [ef] at h
  simp [Bu,hX this]
 | a::b::r,_,h=>by
  have h1:gW (b::r):=by
   have h:ef (a::b::r)=a::b::r:=h;rw [ef] at h
   grind
  have:=aed (l:=b::r) (by simp) h1
  simpa [Bu] using this
section
variable {P:aM} {L:Lib}
structure Tx (P:aM) (L:Lib):Prop extends Fr' P L where
 G3:L.pure 99=some Nt
 aCn:L.pure 175=some I5
 alt:L.pure 152=some Mt
 Za:L.pure 153=some Mg
 Zb:L.pure 154=some JI
 Zc:L.pure 109=some Oj
 Zd:Has P L 155 Ou
 alu:Has P L 172 Oy
 aCo:Has P L 151 Ot
 aCp:Has P L 107 Ok
 h46:Has P L 46 zb
 alv:Has P L 110 Ol
 QN:Has P L 62 GO
def m99 (h:Tx P L) {v:AV} {z:Int} {K:Nat} (hv:cN v z) (hz:Bd K z) (hK:K<=4000000000):aj P L 99 [v] (.str (aX z)):=by
 obtain ⟨s,w,rfl,hn⟩:=hv;unfold aj;rw [jq h.G3];rcases hn with ⟨rfl,rfl,h1,h2⟩ | ⟨e,l,rfl,g,n,hb,hs,h1⟩
 ·show (bif Bq s then some (AV.str (aX s)) else none)=_
  have:Bq s=true:=by
   cases s with
   | ofNat k=>exact kP (by have:(Int.ofNat k)=(k:Int):=rfl;omega)
   | negSucc k=>exact kP (by omega)
  grind
 ·have lR:l≠[]:=fun e=>by subst e;simp [bv] at hb;omega
  have sY:l.length<=4000000000:=xj (od n hb (yU hz (Bi K))) hK
  show (match sj (l.map uc) with
   | some l'=>bif yx l'.length l.length&&(yG l.length 4000000000&&(Bu l'&&yG 9223372036854775808 (sN l'))) then (match s with | .ofNat 1=>some (AV.str (aD (sN l'))) | .negSucc 0=>some (.str (45::aD (sN l'))) | _=>none) else none
   | none=>none)=_
  rw [acm g];simp only [Nat.beq_refl,yu sY,aed lR n,SU,hb,yu h1,wT,yA];by_cases h0:z<0
  ·rw [yT h0] at hs;subst hs;rw [mP h0];rfl
  ·rw [yD h0] at hs;subst hs;obtain ⟨m,rfl⟩:∃m:Nat,z=m:=⟨z.toNat,by omega⟩;rfl
def RT (r:Rat):List Nat:=aX r.num++(if r.den=1 then [] else 47::aD r.den)
def Iz {z:Int} {k:Nat} (h:Bd k z):(aX z).length<=k+1:=by
 have h1:∀m:Nat,m<2^k->(aD m).length<=max k 1:=fun m hm=>by
  cases k with
  | zero=>
       have:m=0:=by simpa using hm
       subst this;decide
  | succ k=>
   rw [Nat.max_eq_left (by omega)];exact rU (k:=k) (yU hm (vW (by decide) _))
 by_cases h0:z<0
 ·rw [mP h0];unfold Bd at h
  grind
 ·obtain ⟨m,rfl⟩:∃m:Nat,z=m:=⟨z.toNat,by omega⟩
  have:=h1 m (by unfold Bd at h;simpa using h)
  rw [ll];omega
def m46 (h:Tx P L) {v:AV} {a:Rat} {K:Nat} (hv:dI v a) (ka:Hq K a) (hK:K<=4000000000):aj P L 46 [v] (.str (RT a)):=by
 have i1:=m98 h.toFr' hv;obtain ⟨s1,w1,s2,w2,rfl,h1,h2⟩:=hv;obtain ⟨l1,u1⟩:=h1.aY;obtain ⟨l2,u2⟩:=h2.aY;have e1:=m99 h (v:= .agg [ab s1,w1]) ⟨s1,w1,rfl,h1⟩ ka.1 hK;have e2:=m99 h (v:= .agg [ab s2,w2]) ⟨s2,w2,rfl,h2⟩ ka.2 hK;have b1:=Iz ka.1;have b2:=Iz ka.2;rw [ll] at e2 b2;unfold aj RT;rw [aI h.h46];by_cases hd:a.den=1
 ·rw [yT hd,List.append_nil];rw [hd] at i1;simp only [go_sem,ya,yb,zb,bj,u1.pu,u1.an,u1.one,u2.pu,u2.an,u2.one,iK,cF,i1,cd,ye,zV,e1]
 ·rw [yD hd];rw [xa hd] at i1;have hc:aX a.num++47::aD a.den=(aX a.num++[47])++aD a.den:=by simp
  rw [hc]
  simp only [go_sem,ya,yb,zb,bj,u1.pu,u1.an,u1.one,u2.pu,u2.an,u2.one,iK,cF,i1,cd,ye,zV,FD,e1,e2,gM (a:=aX a.num) (b:=[47]) (by simp;omega),gM (a:=aX a.num++[47]) (b:=aD a.den) (by simp;omega)]
end
end
section
open Go (IntKind)
def aCq {n:Nat} (h:n<9223372036854775808):binOp .and (.int .i64 (n:Int)) (.int .i64 1)=some (.int .i64 ((n%2:Nat):Int)):=by
 show some (AV.int .i64 (IntKind.wrap .i64 ((xM 64 (n:Int)&&&xM 64 1).toNat:Int)))=_
 rw [show xM 64 (n:Int)=uD 64 n from BitVec.ofInt_natCast 64 n,show xM 64 1=uD 64 1 from rfl];rw [BitVec.toNat_and,vE,vE,show (1%2^64:Nat)=2^1-1 from rfl,Nat.and_two_pow_sub_one_eq_mod,wrapN (by omega)]
 grind
def aCr (n:Nat):binOp .shr (.int .i64 (n:Int)) (.int .u64 1)=some (.int .i64 ((n/2:Nat):Int)):=by
 show some (AV.int .i64 ((n:Int).fdiv (2^1)))=_
 grind
def Bd.pow {k:Nat} {z:Int} (h:Bd k z):∀e,Bd (k*e+1) (z^e)
 | 0=>by rw [yad,xH];unfold Bd;decide
 | e+1=>by
  have ih:=Bd.pow h e;rw [Int.pow_succ];exact (ih.mul h).mono (by rw [xG,yf];omega)
section
variable {P:aM} {L:Lib}
def ayS (h:Nu P L) (PK:True) {z:Int} {K k0:Nat} (hz:Bd K z) (hK:K*k0+1<=30000000000) {o1 o2:AV}:
  ∀m st,(∃(k i e:Nat) (s1 s2:Int) (w1 w2:AV),aJ [1,2,4,5] st=⟨[(1,ab k),(2,.ptr 0 0),(4,.ptr 1 0),(5,.ptr 2 0)],[(2,.cells true true true 2 [ab s2,w2]),(1,.cells true true true 2 [o1,o2]),(0,.cells true true true 2 [ab s1,w1])],3,0⟩/\dC s1 w1 (z^i)/\dC s2 w2 (z^e)/\e+i*k=k0/\(0<k->i<=k0)/\k<9223372036854775808/\k=m)->
   ∃ex st',D P L (.loop [1,2,4,5] CW) st=some (ex,st')/\∃tm s2 w2 c0,st'=⟨tm,[(2,.cells true true true 2 [ab s2,w2]),(1,.cells true true true 2 [o1,o2]),(0,c0)],3,0⟩/\ex= .exit 0/\af tm 4= .ptr 1 0/\af tm 5= .ptr 2 0/\dC s2 w2 (z^k0):=by
 intro dq sq;generalize a8:aJ [1,2,4,5] sq=s0;revert a8 s0 sq dq;apply cY;rintro m st ⟨k,i,e,s1,s2,w1,w2,rfl,h1,h2,hk,hi,hkb,rfl⟩;obtain ⟨l1,u1⟩:=h1.aY;obtain ⟨l2,u2⟩:=h2.aY;by_cases sU:k=0
 ·right
  subst sU;rw [xH,y5] at hk;subst hk;simp only [go_sem,CW,show ¬(0:Int)<((0:Nat):Int) by omega];exact ⟨_,_,rfl,by simp,_,s2,w2,_,rfl,rfl,by simp only [go_sem,ya],by simp only [go_sem,ya],h2⟩
 ·left
  have dS:=hi (by omega);have he:e<=k0:=by omega
  have hik:i*1<=i*k:=yZ i (by omega);have b1:Bd (K*k0+1) (z^i):=(hz.pow i).mono (by have:=yZ K dS;omega);have b2:Bd (K*k0+1) (z^e):=(hz.pow e).mono (by have:=yZ K he;omega);have n1:cN (.agg [ab s1,w1]) (z^i):=⟨s1,w1,rfl,h1⟩;have n2:cN (.agg [ab s2,w2]) (z^e):=⟨s2,w2,rfl,h2⟩;obtain ⟨p,e1,hp⟩:=BS h n2 n1 b2 b1 (by omega);obtain ⟨q,e2,hq⟩:=BS h n1 n1 b1 b1 (by omega);rw [<-Int.pow_add] at hp hq;obtain ⟨s3,w3,rfl,h3⟩:=hp;obtain ⟨s4,w4,rfl,h4⟩:=hq;obtain ⟨l3,u3⟩:=h3.aY;obtain ⟨l4,u4⟩:=h4.aY;have fW:=xR k 2;have LQ:=aCq (n:=k) hkb;have o2':=aCr k;have aIL:(i+i)*(k/2)=i*(2*(k/2)):=by rw [<-Nat.two_mul,Nat.mul_comm 2 i,Nat.mul_assoc]
  by_cases aCs:k%2=1
  ·rw [aCs] at LQ fW;have ru:i*k=i*(2*(k/2))+i:=by
    conv=>lhs;rw [<-fW,xG,yf]
   by_cases jE:1<k
   ·simp only [go_sem,ya,CW,show (0:Int)<(k:Int) by omega,LQ,show ((1:Nat):Int)=1 from rfl,cy,cF,u1.an,u2.an,e1,bX,cy,yK,eh u3,eh u4,show (1:Int)<(k:Int) by omega,e2,o2']
    exact ⟨_,k/2,rfl,by omega,k/2,i+i,e+i,s4,s3,w4,w3,by simp only [go_sem,ya,yb,av],h4,h3,by omega,fun h0=>by have:=yZ (i+i) h0;omega,by omega,rfl⟩
   ·have gB:e+i+i*(k/2)=k0:=by
     have h1:k/2=0:=by omega
     rw [h1] at ru ⊢;omega
    simp only [go_sem,ya,CW,show (0:Int)<(k:Int) by omega,LQ,show ((1:Nat):Int)=1 from rfl,cy,cF,u1.an,u2.an,e1,bX,cy,yK,eh u3,show ¬(1:Int)<(k:Int) by omega,o2'];exact ⟨_,k/2,rfl,by omega,k/2,i,e+i,s1,s3,w1,w3,by simp only [go_sem,ya,yb,av],h1,h3,gB,fun h0=>by omega,by omega,rfl⟩
  ·have D3:k%2=0:=by omega
   rw [D3] at LQ fW;have ru:i*k=i*(2*(k/2)):=by
    conv=>lhs;rw [<-fW,y5]
   simp only [go_sem,ya,CW,show (0:Int)<(k:Int) by omega,LQ,show ((0:Nat):Int)=0 from rfl,vP,cy,cF,u1.an,bX,cy,yK,eh u4,show (1:Int)<(k:Int) by omega,e2,o2']
   exact ⟨_,k/2,rfl,by omega,k/2,i+i,e,s4,s2,w4,w2,by simp only [go_sem,ya,yb,av],h4,h2,by omega,fun h0=>by have:=yZ (i+i) h0;omega,by omega,rfl⟩
def aCt (h:Nu P L) (Zd:Has P L 155 Ou) {v:AV} {z:Int} {K k:Nat} (hv:cN v z) (hz:Bd K z) (hK:K*k+1<=30000000000) (hk:k<9223372036854775808):∃r,aj P L 155 [v,ab k] r/\cN r (z^k):=by
 obtain ⟨o1,o2⟩:=DL h (z:=1) (by decide) (by decide);obtain ⟨s1,w1,rfl,h1⟩:=hv;obtain ⟨l1,u1⟩:=h1.aY;have un:=zy;have jc:∃s w,aj P L 155 [.agg [ab s1,w1],ab k] (.agg [ab s,w])/\dC s w (z^k):=by
  unfold aj;rw [aI Zd];simp only [go_sem,ya,yb,Ou,bj,u1.pu,u1.one,o1,bX,eh un];generalize hq:D P L (.loop [1,2,4,5] CW) _=q;obtain ⟨ex,st,rfl,tm,s5,w5,c1,rfl,rfl,t4,t5,h5⟩:=bq hq (ayS (P:=P) (L:=L) h trivial hz (k0:=k) hK (o1:= .int .i64 0) (o2:= .aa) k) ⟨k,1,0,s1,1,w1,.aa,by simp only [go_sem,ya,yb,av],by rw [Int.pow_one];exact h1,.inl ⟨rfl,(yad z).symm,(by rw [yad];decide)⟩,by omega,fun h0=>h0,hk,rfl⟩
  obtain ⟨l5,u5⟩:=h5.aY;refine ⟨s5,w5,?_,h5⟩;simp only [go_sem,ya,yb,av,t4,t5,fB,fD,cy,yK,mY u5,eh u5]
 obtain ⟨s,w,e,hn⟩:=jc;exact ⟨_,e,s,w,rfl,hn⟩
def II:∀(l m:List Nat) (a:Nat),cT (l++m) a=(cT l a).bind (fun v=>cT m v)
 | [],m,a=>rfl
 | b::l,m,a=>by
  simp only [List.cons_append,cT]
  cases (yG 48 b&&yG b 57) with
  | true=>exact II l m _
  | false=>rfl
def as8:∀{l:List Nat} {a v:Nat},cT l 0=some v->cT l a=some (a*10^l.length+v):=by
 intro l
 suffices h:∀{l:List Nat} {a b v:Nat},cT l b=some v->b*10^l.length<=v/\cT l (a+b)=some (a*10^l.length+v) by
  intro a v hv
  have:=(h (a:=a) hv).2
  grind
 intro l
 induction l with
 | nil=>intro a b v h;simp [cT] at h ⊢;omega
 | cons c l ih=>
  intro a b v h;simp only [cT] at h ⊢
  cases hb:(yG 48 c&&yG c 57) with
  | false=>rw [hb] at h;cases h
  | true=>
   rw [hb] at h;obtain ⟨h1,h2⟩:=ih (a:=10*a) h;simp only [yI,xd]
   grind
def SV:∀{l:List Nat} {v:Nat},cT l 0=some v->v<10^l.length:=by
 suffices h:∀{l:List Nat} {b v:Nat},cT l b=some v->v<(b+1)*10^l.length by
  grind
 intro l
 induction l with
 | nil=>intro b v h;simp [cT] at h ⊢;omega
 | cons c l ih=>
  intro b v h;simp only [cT] at h
  cases hb:(yG 48 c&&yG c 57) with
  | false=>rw [hb] at h;cases h
  | true=>
   simp only [Bool.and_eq_true] at hb;have hc:=Nat.le_of_ble_eq_true hb.2;have h2:=Nat.mul_le_mul_right (10^l.length) (show 10*b+(c-48)+1<=10*(b+1) by omega)
   grind
def ave (Zb:L.pure 154=some JI) {f:cD} {s:List Nat} {v:Nat} (h0:0<s.length) (h1:s.length<=18) (hv:cT s 0=some v):bP P L f 154 [.str s]=some (.ae [.int .i64 v,.undef]):=by
 rw [jq Zb];show (bif yR 0 s.length&&yG s.length 18 then (match cT s 0 with | some n=>some (AV.ae [.int .i64 n,.undef]) | none=>none) else none)=_
 rw [kP h0,yu h1,hv];rfl
end
end
section
open Go (IntKind)
def ada:∀j:Nat,ij [48] j++[48]=[48]++ij [48] j
 | 0=>rfl
 | j+1=>by
  show ([48]++ij [48] j)++[48]=[48]++([48]++ij [48] j)
  rw [xA,ada j]
def EN:∀j:Nat,(ij [48] j).length=j
 | 0=>rfl
 | j+1=>by show ([48]++ij [48] j).length=_;rw [yN,EN j];simp;omega
def aq4:∀(k n:Nat),n<10^k->0<k->iN k n=ij [48] (k-(aD n).length)++aD n:=by
 intro k
 induction k with
 | zero=>intro n _ h;omega
 | succ k ih=>
  intro n hn _;rw [iN];by_cases iQ:n<10
  ·rw [oS iQ,yX iQ]
   cases k with
   | zero=>rfl
   | succ k=>
    rw [ih (n/10) (by rw [wM iQ];exact ybM (by decide)) (by omega),wM iQ]
    rw [show aD 0=[48] by decide];rw [ada];rfl
  ·have hk:0<k:=by
    grind
   rw [ih (n/10) (by rw [xd] at hn;omega) hk,qJ iQ,xA,yN]
   grind
def aq5 {m d r:Nat} (hd:d=m/1000000000000000000) (hr:r=m%1000000000000000000):(0<d->aD m=aD d++(ij [48] (18-(aD r).length)++aD r))/\(d=0->aD m=aD r):=by
 have hrb:r<10^18:=by omega
 constructor
 ·intro h0;rw [<-aq4 18 r hrb (by decide),<-MZ 18 d r h0 hrb]
  grind
 ·grind
section
variable {P:aM} {L:Lib}
def ayT {f:cD} (h:L.pure 138=some AP) {n:Nat} (hn:n<18446744073709551616):bP P L f 138 [uc n,ab 10]=some (.str (aD n)):=by
 rw [jq h];show (bif yR n 18446744073709551616 then some (AV.str (aD n)) else none)=_
 rw [kP hn];rfl
def Tz {f:cD} (h:L.pure 139=some A5) {n:Nat} (hn:n<=100):bP P L f 139 [.str [48],ab (n:Nat)]=some (.str (ij [48] n)):=by
 rw [jq h];show (bif yG n 1099511627776&&yG (1*n) 1099511627776 then some (AV.str (ij [48] n)) else none)=_
 rw [yu (by omega),yu (by omega)];rfl
def ayU (h:Wd P L) (DN:L.pure 138=some AP) (Ak:L.pure 139=some A5) {neg:Bool} {M K:Nat} (QO:0<M) (hK:K<=4000000000) (hlen:(aD M).length<=300000000000):
  ∀k s,(∃(m:Nat) (w:AV) (ps:List (List Nat)) (fl:Bool),m=k/\WN w m/\m<18446744073709551616^K/\aD M=(if m=0 then [] else aD m)++ps.reverse.flatten/\((ps=[]->m=M)/\18*ps.length<=(aD M).length+18)/\(m≠0->18*ps.length+(aD m).length=(aD M).length)/\
    ((ps=[]/\aJ [3,4,5,6] s=⟨[(3,.bool neg),(4,w),(5,.aw 0 0 1),(6,.aa)],[(0,.cells fl true true 1 [uc 1000000000000000000])],1,0⟩)\/
    (ps≠[]/\aJ [3,4,5,6] s=⟨[(3,.bool neg),(4,w),(5,.aw 0 0 1),(6,.aw 1 0 ps.length)],[(1,.cells true true false 1 (ps.map .str)),(0,.cells fl true true 1 [uc 1000000000000000000])],2,0⟩)))->
   ∃ex s',D P L (.loop [3,4,5,6] py) s=some (ex,s')/\∃tm ps fl,ex= .exit 0/\ps≠[]/\ps.length<=300000000000/\aD M=ps.reverse.flatten/\af tm 3= .bool neg/\af tm 6= .aw 1 0 ps.length/\s'=⟨tm,[(1,.cells true true false 1 (ps.map .str)),(0,.cells fl true true 1 [uc 1000000000000000000])],2,0⟩:=by
 intro dq sq;generalize a8:aJ [3,4,5,6] sq=s0;revert a8 s0 sq dq;apply cY;rintro k s ⟨m,w,ps,fl,rfl,hw,hmK,AK,alw,ep,hs⟩;obtain ⟨lw,uw,gw,nw,vw⟩:=hw;by_cases hm:m=0
 ·right
  have lR:lw=[]:=List.eq_nil_of_length_eq_zero (Nat.le_zero.1 (od (K:=0) nw vw (by rw [hm];decide)))
  subst lR;rw [yT hm,xC] at AK;have dH:ps≠[]:=fun e=>by have:=alw.1 e;omega
  have QP:ps.length<=300000000000:=by have:=alw.2;omega
  rcases hs with ⟨h0,_⟩ | ⟨_,rfl⟩
  ·exact absurd h0 dH
  ·simp only [go_sem,ya,py,uw.len,yP,show ¬(0:Int)<((0:Nat):Int) by omega];exact ⟨_,_,rfl,by simp,_,ps,fl,rfl,dH,QP,AK,by simp only [go_sem,ya],by simp only [go_sem,ya],rfl⟩
 ·left
  have hw:WN w m:=⟨lw,uw,gw,nw,vw⟩;have hB:WN (.aB true 1 [uc 1000000000000000000]) 1000000000000000000:=⟨[1000000000000000000],mR true [1000000000000000000],Ft.2 (by decide),by decide,by simp [bv]⟩;obtain ⟨q,r,e1,hq,hr⟩:=alf h hw hB (K:=K+1) (by decide) (yU hmK (yY (by decide) (by omega))) (by rw [xd];have:=ybM (n:=K) (show 0<18446744073709551616 by decide);omega) (by omega)
  obtain ⟨t1,t2⟩:=aq5 (m:=m) rfl rfl;have fW:=xR m 1000000000000000000;have hrB:=xE m (show 0<1000000000000000000 by decide);obtain ⟨d,hd⟩:∃d,d=m/1000000000000000000:=⟨_,rfl⟩;obtain ⟨x,hx⟩:∃x,x=m%1000000000000000000:=⟨_,rfl⟩;rw [<-hd] at hq t1 t2 fW;rw [<-hx] at hr t1 t2 fW hrB;obtain ⟨lq,uq,gq,nq,vq⟩:=hq;obtain ⟨lr,ur,gr,nr,vr⟩:=hr;have hxl:(aD x).length<=18:=rU (k:=17) (by omega);have hxp:=zx x;have Lz:(lr=[]/\x=0)\/lr=[x]:=by
   have h1:lr.length<=1:=od (K:=1) nr vr (by rw [ybO];omega)
   cases lr with
   | nil=>exact .inl ⟨rfl,by rw [<-vr];rfl⟩
   | cons a l=>
    cases l with
    | nil=>rw [Bg] at vr;exact .inr (by rw [vr])
    | cons b l=>simp at h1
  have LR:(lq=[]/\d=0)\/(0<lq.length/\0<d):=by
   cases lq with
   | nil=>exact .inl ⟨rfl,by rw [<-vq];rfl⟩
   | cons a l=>
    refine .inr ⟨by simp,?_⟩;rcases Nat.eq_zero_or_pos d with h0 | h0
    ·have:=od (K:=0) nq vq (by rw [h0];decide)
     simp at this
    ·exact h0
  unfold aj at e1;have Co:(0:Int)<(lw.length:Int):=by
   have:lw≠[]:=fun e=>by subst e;simp [bv] at vw;omega
   have:=th.2 this
   omega
  have aIZ:=ep hm;have hmp:=zx m;have new:∀t:List Nat,aD m=(if d=0 then [] else aD d)++t->(d≠0->t.length=18)->
    aD M=(if d=0 then [] else aD d)++(ps++[t]).reverse.flatten/\((ps++[t]=[]->d=M)/\18*(ps++[t]).length<=(aD M).length+18)/\(d≠0->18*(ps++[t]).length+(aD d).length=(aD M).length):=fun t h1 h2=>by
   rw [yD hm,h1] at AK;refine ⟨by rw [AK];simp,⟨by simp,by simp only [yN,yI,yP];omega⟩,fun h0=>?_⟩
   have h3:=congrArg List.length h1;rw [yD h0,yN,h2 h0] at h3;simp only [yN,yI,yP];omega
  have BT:d<m:=by omega
  have Cp:WN q d:=⟨lq,uq,gq,nq,vq⟩;have oG:lr=[x]->j0 1 0 r=some (.cg (.int .u64 x::([]:List AV))):=fun e=>by
   subst e
   have:=ur.aU (i:=0) (by simp)
   simpa using this
  have f1:=ayT (P:=P) (f:=D P L) DN (n:=x) (by omega);have f2:=Tz (P:=P) (f:=D P L) Ak (n:=18-(aD x).length) (by omega);have Ze:(18:Int)-((aD x).length:Int)=((18-(aD x).length:Nat):Int):=by omega
  have aI0:18*ps.length<=300000000000:=by omega
  have zl:(ij [48] (18-(aD x).length)++aD x).length=18:=by rw [yN,EN];omega
  obtain ⟨z,hz⟩:∃z,z=aD x:=⟨_,rfl⟩;have jF:x=0->z=[48]:=fun e=>by rw [hz,e];decide
  rw [<-hz] at f1 f2 Ze hxl hxp zl t1 t2;cases fl
  all_goals
   rcases LR with ⟨rfl,iG⟩ | ⟨QQ,iG⟩
   ·obtain ⟨n1,n2,n3⟩:=new z (by rw [yT iG,xC];exact t2 iG) (fun h=>absurd iG h)
    rcases Lz with ⟨rfl,AF⟩ | rfl
    ·have kB:=jF AF;clear hz;subst kB;rcases hs with ⟨iD,rfl⟩ | ⟨iD,rfl⟩
     ·subst iD;simp only [go_sem,ya,yb,xn,yF,yp,yf,py,uw.len,uw.an,uq.len,uq.bQ,ur.len,ur.bQ,Co,e1,yP,yP,show ¬(0:Int)<((0:Nat):Int) by omega,fQ];refine ⟨_,d,rfl,BT,d,q,[]++[[48]],false,rfl,Cp,by omega,n1,n2,n3,.inr ⟨by simp,?_⟩⟩;simp only [go_sem,ya,yb,av,aq uq.pu,au _ uq.pu]<;>rfl
     ·simp only [go_sem,ya,yb,yF,yp,yf,py,uw.len,uw.an,uq.len,uq.bQ,ur.len,ur.bQ,Co,e1,yP,yP,show ¬(0:Int)<((0:Nat):Int) by omega]
      rw [fC (ex:=false) (pu:=true) (cs:=ps.map .str) (by simp only [go_sem,ya]) (by simp) (by omega) (by omega) (by decide) (by simp only [go_sem])];simp only [go_sem,ya,yb];refine ⟨_,d,rfl,BT,d,q,ps++[[48]],false,rfl,Cp,by omega,n1,n2,n3,.inr ⟨by simp,?_⟩⟩;rw [xg,yN];simp only [go_sem,ya,yb,av,aq uq.pu,au _ uq.pu]<;>rfl
    ·rcases hs with ⟨iD,rfl⟩ | ⟨iD,rfl⟩
     ·subst iD;simp only [go_sem,ya,yb,xn,yF,yp,yf,py,uw.len,uw.an,uq.len,uq.bQ,ur.len,ur.bQ,Co,e1,yI,yP,ye,show (0:Int)<((1:Nat):Int) by omega,oG rfl,f1,yP,show ¬(0:Int)<((0:Nat):Int) by omega,fQ];refine ⟨_,d,rfl,BT,d,q,[]++[z],false,rfl,Cp,by omega,n1,n2,n3,.inr ⟨by simp,?_⟩⟩;simp only [go_sem,ya,yb,av,aq uq.pu,au _ uq.pu]<;>rfl
     ·simp only [go_sem,ya,yb,yF,yp,yf,py,uw.len,uw.an,uq.len,uq.bQ,ur.len,ur.bQ,Co,e1,yI,yP,ye,show (0:Int)<((1:Nat):Int) by omega,oG rfl,f1,yP,show ¬(0:Int)<((0:Nat):Int) by omega]
      rw [fC (ex:=false) (pu:=true) (cs:=ps.map .str) (by simp only [go_sem,ya]) (by simp) (by omega) (by omega) (by decide) (by simp only [go_sem])];simp only [go_sem,ya,yb];refine ⟨_,d,rfl,BT,d,q,ps++[z],false,rfl,Cp,by omega,n1,n2,n3,.inr ⟨by simp,?_⟩⟩;rw [xg,yN];simp only [go_sem,ya,yb,av,aq uq.pu,au _ uq.pu]<;>rfl
   ·obtain ⟨n1,n2,n3⟩:=new (ij [48] (18-z.length)++z) (by rw [yD (by omega)];exact t1 iG) (fun _=>zl)
    rcases Lz with ⟨rfl,AF⟩ | rfl
    ·have kB:=jF AF;clear hz;subst kB;rcases hs with ⟨iD,rfl⟩ | ⟨iD,rfl⟩
     ·subst iD
      simp only [go_sem,ya,yb,xn,yF,yp,yf,py,uw.len,uw.an,uq.len,uq.bQ,ur.len,ur.bQ,Co,e1,yP,show ¬(0:Int)<((0:Nat):Int) by omega,show (0:Int)<(lq.length:Int) by omega,show (18:Int)-((1:Nat):Int)=((17:Nat):Int) from rfl,wrapN (n:=17) (by omega),Tz (P:=P) (f:=D P L) Ak (n:=17) (by omega),gM (a:=ij [48] 17) (b:=[48]) (by rw [EN];decide),fQ]
      refine ⟨_,d,rfl,BT,d,q,[]++[ij [48] 17++[48]],false,rfl,Cp,by omega,n1,n2,n3,.inr ⟨by simp,?_⟩⟩;simp only [go_sem,ya,yb,av,aq uq.pu,au _ uq.pu]<;>rfl
     ·simp only [go_sem,ya,yb,yF,yp,yf,py,uw.len,uw.an,uq.len,uq.bQ,ur.len,ur.bQ,Co,e1,yP,show ¬(0:Int)<((0:Nat):Int) by omega,show (0:Int)<(lq.length:Int) by omega,show (18:Int)-((1:Nat):Int)=((17:Nat):Int) from rfl,wrapN (n:=17) (by omega),Tz (P:=P) (f:=D P L) Ak (n:=17) (by omega),gM (a:=ij [48] 17) (b:=[48]) (by rw [EN];decide)]
      rw [fC (ex:=false) (pu:=true) (cs:=ps.map .str) (by simp only [go_sem,ya]) (by simp) (by omega) (by omega) (by decide) (by simp only [go_sem])];simp only [go_sem,ya,yb];refine ⟨_,d,rfl,BT,d,q,ps++[ij [48] 17++[48]],false,rfl,Cp,by omega,n1,n2,n3,.inr ⟨by simp,?_⟩⟩;rw [xg,yN];simp only [go_sem,ya,yb,av,aq uq.pu,au _ uq.pu]<;>rfl
    ·rcases hs with ⟨iD,rfl⟩ | ⟨iD,rfl⟩
     ·subst iD
      simp only [go_sem,ya,yb,xn,yF,yp,yf,py,uw.len,uw.an,uq.len,uq.bQ,ur.len,ur.bQ,Co,e1,yI,yP,ye,show (0:Int)<((1:Nat):Int) by omega,oG rfl,f1,show (0:Int)<(lq.length:Int) by omega,Ze,wrapN (n:=18-z.length) (by omega),f2,gM (a:=ij [48] (18-z.length)) (b:=z) (by rw [EN];omega),fQ];refine ⟨_,d,rfl,BT,d,q,[]++[ij [48] (18-z.length)++z],false,rfl,Cp,by omega,n1,n2,n3,.inr ⟨by simp,?_⟩⟩;simp only [go_sem,ya,yb,av,aq uq.pu,au _ uq.pu]<;>rfl
     ·simp only [go_sem,ya,yb,yF,yp,yf,py,uw.len,uw.an,uq.len,uq.bQ,ur.len,ur.bQ,Co,e1,yI,yP,ye,show (0:Int)<((1:Nat):Int) by omega,oG rfl,f1,show (0:Int)<(lq.length:Int) by omega,Ze,wrapN (n:=18-z.length) (by omega),f2,gM (a:=ij [48] (18-z.length)) (b:=z) (by rw [EN];omega)]
      rw [fC (ex:=false) (pu:=true) (cs:=ps.map .str) (by simp only [go_sem,ya]) (by simp) (by omega) (by omega) (by decide) (by simp only [go_sem])];simp only [go_sem,ya,yb];refine ⟨_,d,rfl,BT,d,q,ps++[ij [48] (18-z.length)++z],false,rfl,Cp,by omega,n1,n2,n3,.inr ⟨by simp,?_⟩⟩;rw [xg,yN];simp only [go_sem,ya,yb,av,aq uq.pu,au _ uq.pu]<;>rfl
end
end
section
open Go (IntKind)
def oe:Nat->VC->VC
 | 0,c=>bF c
 | n+1,c=> .seq (bF c) (oe n (aC c))
def nW:Nat->VC->VC
 | 0,c=>aC c
 | n+1,c=>nW n (aC c)
def alx:Nat->VC->Prop
 | 0,c=>c= .seq (bF c) (aC c)
 | n+1,c=>c= .seq (bF c) (aC c)/\alx n (aC c)
def Nv {P:aM} {L:Lib}:∀(n:Nat) {c:VC},alx n c->∀s,D P L c s=jL P L (D P L (oe n c) s) (nW n c)
 | 0,c,h,s=>by
  conv=>lhs;rw [show c= .seq (bF c) (aC c) from h]
  rw [j8];rfl
 | n+1,c,h,s=>by
  conv=>lhs;rw [show c= .seq (bF c) (aC c) from h.1]
  show _=jL P L (D P L (.seq (bF c) (oe n (aC c))) s) (nW n (aC c))
  rw [j8,j8]
  cases D P L (bF c) s with
  | none=>rfl
  | some q=>
   obtain ⟨ex,st⟩:=q
   cases ex with
   | normal=>rw [fK,fK];exact Nv n h.2 st
   | ret=>rfl
   | exit id=>rfl
end
section
open Go (IntKind)
section
variable {P:aM} {L:Lib}
def apA (h:Nu P L) (DN:L.pure 138=some AP) (Ak:L.pure 139=some A5) {s z:Int} {e:Bool} {l:List Nat} (hn:dC s (.aB e l.length (l.map uc)) z) {K:Nat} (kB:0<z.natAbs) (QR:z.natAbs<18446744073709551616^K) (hK:K<=4000000000) (hlen:(aD z.natAbs).length<=300000000000):
  ∃ps:List (List Nat),ps≠[]/\ps.length<=300000000000/\aD z.natAbs=ps.reverse.flatten/\D P L (oe 5 D6.body) ⟨[(0,.agg [ab s,.aB e l.length (l.map uc)])],[],0,0⟩=some (.normal,⟨[(3,.bool (decide (z<0))),(6,.aw 0 0 ps.length)],[(0,.cells true true false 1 (ps.map .str))],1,0⟩):=by
 obtain ⟨r,e1,hr⟩:=Aj h hn;have bJ:=hr;obtain ⟨lr,ur,gr,nr,vr⟩:=hr;simp only [go_sem,ya,yb,yp,yf,D6,oe,bF,aC,bj,cd,ye,dh,nS,eG,cy,cF,e1];generalize mG:D P L (.loop [3,4,5,6] py) _=qq;obtain ⟨ex,st,rfl,tm,ps,fl,rfl,dH,QP,AK,t3,t6,rfl⟩:=bq mG (ayU (P:=P) (L:=L) h.toWd DN Ak (neg:=decide (z<0)) (M:=z.natAbs) (K:=K) kB hK hlen z.natAbs) ⟨z.natAbs,bQ r,[],true,rfl,bJ,QR,by rw [yD (by omega)];simp,⟨fun _=>rfl,by simp⟩,fun _=>by simp,.inl ⟨rfl,by
  simp only [go_sem,ya,yb,av,aq ur.pu,au _ ur.pu]<;>rfl⟩⟩
 refine ⟨ps,dH,QP,AK,?_⟩;simp only [go_sem,yb,av,t3,t6]
end
end
section
open Go
variable {O:bA}
def zW:Nat->wU->wU
 | 0,.seq _ b=>b
 | n+1,.seq _ b=>zW n b
 | _,c=>c
def PN:Nat->wU->Prop
 | 0,.seq _ _=>True
 | n+1,.seq _ b=>PN n b
 | _,_=>False
def aee (hO:eR O) {h:Nat} {c:wU} {l k:Nat} {s:St} {ex:Ex} {s':St} (hv:D O.prog O.aE (comp O.P (O.hint h) c l k).1 s=some (ex,s')):Bp O h c s ex s':=by
 obtain ⟨n,hn⟩:=YM hv
 cases n with
 | zero=>rw [IS] at hn;cases hn
 | succ n=>
  exact aeR hO n (fun k _=>abC hO k) h c l k n (yv _) s ex s' hn
def aiP (hO:eR O) {h:Nat} {ro:Option Nat} {lo:Nat} {Q:Exit->Act->yi->Prop}:∀(n:Nat) (c:wU) (l k:Nat),PN n c->∀(s s1:St),D O.prog O.aE (oe n (comp O.P (O.hint h) c l k).1) s=some (.normal,s1)->
  ∀(m:Mp) (S:Nat->Prop) (w:yi) (a:Act),zJ ro w->cm O m S w s.tm a.tmps->aW O m S w s.hp s.ct->s.base<=s.ct->(O.hint h).n<=a.tmps.size->O.w0.heap.size<=lo->lo<=w.heap.size->Marks lo S w a.defers->
  (∀a' w',eT O m S w s .normal s1 a.tmps.size lo .normal a' w'->(zW n c).wpIn (WF ro) 0 O.P Q a' w')->c.wpIn (WF ro) 0 O.P Q a w
 | n,c,l,k,hc,s,s1,hv=>by
  intro m S w a cL ht hh hb hn bk fu cS hQ
  cases c with
  | seq x y=>
   cases n with
   | zero=>
    refine wpIn_seq (wpIn_mono (aee hO (show D O.prog O.aE (comp O.P (O.hint h) x l k).1 s=some (.normal,s1) from hv) ro lo m S w a cL ht hh hb hn bk fu cS) ?_);rintro e a' w' hp;have he:e= .normal:=hp.1;subst he;exact hQ a' w' hp
   | succ n=>
    have eI:D O.prog O.aE (.seq (comp O.P (O.hint h) x l k).1 (oe n (comp O.P (O.hint h) y (comp O.P (O.hint h) x l k).2.1 (comp O.P (O.hint h) x l k).2.2).1)) s=some (.normal,s1):=hv;rw [j8] at eI
    cases hx:D O.prog O.aE (comp O.P (O.hint h) x l k).1 s with
    | none=>rw [hx] at eI;cases eI
    | some q=>
     obtain ⟨ex,st⟩:=q;rw [hx] at eI
     cases ex with
     | ret=>exact absurd eI (by intro h;cases h)
     | exit id=>exact absurd eI (by intro h;cases h)
     | normal=>
      refine wpIn_seq (wpIn_mono (aee hO hx ro lo m S w a cL ht hh hb hn bk fu cS) ?_);rintro e a' w' ⟨rfl,m',S',k1,k2,k3,k4,k5,k6,k7⟩;refine aiP hO n y _ _ hc st s1 eI m' S' w' a' (MF k5 cL) k1 k2 (by omega) (by omega) bk (xj fu k5.size) k7 ?_;rintro a2 w2 ⟨_,m2,S2,g1,g2,g3,g4,g5,g6,g7⟩;exact hQ a2 w2 ⟨rfl,m2,S2,g1,g2,by omega,by omega,k5.trans (by rw [<-k3];exact g5),by omega,g7⟩
  | _=>cases n<;>exact hc.elim
def ayV (hO:eR O) {n:Nat} {F:aV} (hF:O.prog n=some F) {fn:ybh} {c:wU} (lf:O.P.funcs[O.ah n]? =some fn) (jk:fn.body=some c) {hp:Hp} {ct:Nat} {az:List AV} {s:St}
  (hc:(comp O.P (O.hint n) c 0 0).1=F.body->∀m S w a,cm O m S w (dM 0 az) a.tmps->aW O m S w hp ct->(O.hint n).n<=a.tmps.size->a.tmps.size=max fn.ntmps az.length->O.w0.heap.size<=w.heap.size->a.defers=[]->
   c.wpIn (WF none) 0 O.P (eT O m S w ⟨dM 0 az,hp,ct,ct⟩ .ret s a.tmps.size w.heap.size) a w) {v:AV} (hr:iT s F.fO=some v):Bo O n hp ct az v s.hp s.ct:=by
 intro m S w args hh ic;obtain ⟨fn',q1,q2,q3⟩:=hO.prog n F hF;rw [lf] at q1;cases q1;obtain ⟨c',q4,q5,q6,q7⟩:=Ro q2;rw [jk] at q4;cases q4;refine .inl ⟨MX lf (by rw [jk];rfl) q3,?_⟩
 have hlen:az.length=args.size:=by have:=(iU _ _ ic).symm;simpa using this
 have hw:=hc q5.symm m S w {tmps:=args++Array.replicate (fn.ntmps-args.size) undef,defers:=[]} (acQ _ ic) hh (by simp;omega) (by simp;omega) hh.fY rfl
 refine callsIn_of_wp_marks (F:=yaD) lf jk trivial (wpIn_mono hw ?_);rintro e a' w' ⟨rfl,m',S',k1,k2,k3,k4,k5,k6,rs,k7,k8,k9⟩;show LeavesInM yaD 0 O.P fn a'.tmps (zt O m S w hp ct v s.hp s.ct) a'.defers .returning w'
 rw [k7];exact RX q6 hr k4 rs w' k8 k9 hh.fY k2 k1 k5
def as9 (hO:eR O) {n:Nat} {F:aV} (hF:O.prog n=some F) {fn:ybh} {c:wU} (lf:O.P.funcs[O.ah n]? =some fn) (jk:fn.body=some c) {az:List AV} {s:St}
  (hc:(comp O.P (O.hint n) c 0 0).1=F.body->∀m S w a,cm O m S w (dM 0 az) a.tmps->aW O m S w [] 0->(O.hint n).n<=a.tmps.size->a.tmps.size=max fn.ntmps az.length->O.w0.heap.size<=w.heap.size->a.defers=[]->
   c.wpIn (WF none) 0 O.P (eT O m S w ⟨dM 0 az,[],0,0⟩ .ret s a.tmps.size w.heap.size) a w) {v r:AV} (hv:iT s F.fO=some v) (hr:result s.hp v=some r):eH O n az r:=
 Rg (ayV hO hF lf jk hc hv) hr
end
section
open Go
def acn {ah:Nat->Nat} {m:Mp} {S:Nat->Prop} {w:yi} {b:Nat}:∀{ps:List (List Nat)} {o:Nat},bW ah m S w (ps.map .str) b o->
  ∃ts:List ByteArray,(ts.map fun t=>t.data.toList.map xb)=ps/\∀i (h:i<ts.length),w.cell? ⟨b,o+i,none⟩=some (.string ts[i])
 | [],o,_=>⟨[],rfl,fun i h=>absurd h (Nat.not_lt_zero i)⟩
 | p::ps,o,h=>by
  obtain ⟨⟨u,h1,h2⟩,h3⟩:=h;obtain ⟨t,rfl,ht⟩:=h2;obtain ⟨ts,k1,k2⟩:=acn h3;refine ⟨t::ts,by rw [List.map_cons,ht,k1],fun i hi=>?_⟩
  cases i with
  | zero=>exact h1
  | succ i=>
   grind
def og (ts:List ByteArray):List UInt8:=(ts.map fun t=>t.data.toList).flatten
def avf {ts:List ByteArray} {ps:List (List Nat)} (h:(ts.map fun t=>t.data.toList.map xb)=ps):(og ts.reverse).map xb=ps.reverse.flatten:=by
 subst h;unfold og;rw [List.map_flatten,wh,<-tN];rfl
def avg {ts:List ByteArray} {ps:List (List Nat)} (h:(ts.map fun t=>t.data.toList.map xb)=ps):(ts.map (·.size)).sum=ps.reverse.flatten.length:=by
 subst h;rw [List.length_flatten,tN,List.sum_reverse,wh]
 congr 1
 simp_all
def SW (P:Program) (c:wU):Prop:=∀(Q:Exit->Act->yi->Prop) (a:Act) (w:yi) (neg:Bool) (ts:List ByteArray) (b o cc:Nat),a.tmps.size=69->a.tmps.getD 3 undef= .bool neg->a.tmps.getD 6 undef= .slice (some ⟨b,o,none⟩) ts.length cc->
  (∀i (h:i<ts.length),w.cell? ⟨b,o+i,none⟩=some (.string ts[i]))->(ts.map (·.size)).sum+1<=140737488355328->ts.length<=cc->ts.length<9223372036854775808->
  (∀a' w',Calm w w'->a'.tmps.size=69->a'.defers=a.defers->a'.tmps.getD 2 undef= .string ⟨((if neg then [45] else [])++og ts.reverse).toArray⟩->Q .ret a' w')->
  (zW 5 c).wpIn Fence.wide 0 P Q a w
section
variable {O:bA}
def apB {n K:Nat} (h:n<18446744073709551616^K):(aD n).length<=20*K+1:=by
 refine rU (k:=20*K) (yU h ?_);have h1:(10:Nat)^(20*K)=(10^20)^K:=Nat.pow_mul ..;exact xj (by rw [h1];exact vW (by decide) K) (yY (by decide) (Nat.le_succ _))
def ata (hO:eR O) (hN:Nu O.prog O.aE) (DN:O.aE.pure 138=some AP) (Ak:O.aE.pure 139=some A5) (G3:O.prog 99=some D6) {fn:ybh} {c:wU} (lf:O.P.funcs[O.ah 99]? =some fn) (jk:fn.body=some c) (Qa:fn.ntmps=69)
  (Zf:PN 5 c) (ht:SW O.P c) {s z:Int} {e:Bool} {l:List Nat} (hn:dC s (.aB e l.length (l.map uc)) z) (kB:0<z.natAbs) (hK:l.length<=4000000000) (QR:z.natAbs<18446744073709551616^l.length):
  eH O 99 [.agg [ab s,.aB e l.length (l.map uc)]] (.str (aX z)):=by
 have hlen:=apB QR;obtain ⟨ps,dH,QP,AK,e1⟩:=apA (P:=O.prog) (L:=O.aE) hN DN Ak hn kB QR hK (by omega)
 refine as9 hO G3 lf jk (s:=⟨[(2,.str (aX z))],[(0,.cells true true false 1 (ps.map .str))],1,0⟩) (v:= .str (aX z)) ?_ rfl rfl;intro aAN m S w a htr hh Az eV hgs Eh;refine aiP hO 5 c 0 0 Zf _ _ (by rw [aAN];exact e1) m S w a (fun l hl=>by cases hl) htr hh (yv _) Az hgs (yv _) ⟨[],by rw [Eh];rfl,by simp,by simp⟩ ?_
 rintro a' w' ⟨_,m',S',k1,k2,k3,k4,k5,k6,k7⟩;have r3:=k1 3;have r6:=k1 6;have g3:af [(3,AV.bool (decide (z<0))),(6,.aw 0 0 ps.length)] 3= .bool (decide (z<0)):=rfl;have g6:af [(3,AV.bool (decide (z<0))),(6,.aw 0 0 ps.length)] 6= .aw 0 0 ps.length:=rfl;rw [g3] at r3;rw [g6] at r6;simp only [ai] at r3 r6;obtain ⟨p,cc,hm,r6,hcc,_⟩:=r6;obtain ⟨p',arr,t,gG,_,_,_,_,_,oz,_⟩:=k2.obj 0 _ p rfl hm;rw [hm] at gG;cases gG;obtain ⟨ts,pW,zR⟩:=acn oz;have ns:ts.length=ps.length:=by rw [<-pW,List.length_map]
 have BU:=avg pW;rw [<-AK] at BU;have Zg:=avf pW;rw [<-AK] at Zg;refine ht _ a' w' (decide (z<0)) ts p.b p.o cc ?_ r3 (by rw [ns];exact r6) zR (by omega) (by omega) (by omega) ?_
 ·grind
 ·intro a2 w2 hc h1 h2 h3;have Lk:=EJ k2 hc (S':=S') (fun _ h=>h) (fun _ h=> .inl h) (fun b hb=>yU (k2.slt b hb) hc.size);refine ⟨rfl,m',S',?_,Lk,rfl,Nat.zero_le _,k5.trans (CJ k2 hc (fun _ h=>h) (fun _ h=> .inl h)),?_,?_⟩
  ·intro i;by_cases hi:i=2
   ·subst hi;rw [h3];show ai O.ah m' S' w2 (.str (aX z)) _
    simp only [ai];refine ⟨_,rfl,?_⟩;by_cases h0:z<0
    ·rw [mP h0,xx h0];simp only [xD,xg];rw [Zg];rfl
    ·obtain ⟨n,rfl⟩:∃n:Nat,z=n:=⟨z.toNat,by omega⟩;rw [xa h0];simp only [yL,xi,xC];rw [Zg];rfl
   ·have:af [(2,AV.str (aX z))] i= .undef:=by
     have hb:yx 2 i=false:=by
      cases hq:yx 2 i with
      | false=>rfl
      | true=>exact absurd (Nat.eq_of_beq_eq_true hq).symm hi
     simp only [af,hb,yV]
    show ai O.ah m' S' w2 (af [(2,AV.str (aX z))] i) _
    rw [this];simp only [ai]
  ·rw [h1,eV,Qa];simp
  ·rw [h2]
   exact AW k2 (CJ (base:=0) k2 hc (fun _ h=>h) (fun _ h=> .inl h)) k7
end
end
end VE
