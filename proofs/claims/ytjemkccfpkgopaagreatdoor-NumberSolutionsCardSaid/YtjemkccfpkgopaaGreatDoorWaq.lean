import Derived.Test.YtjemkccfpkgopaaGreatDoorWap
import Derived.Test.YtjemkccfpkgopaaGreatDoorWad
import Derived.Test.YtjemkccfpkgopaaGreatDoorWao
set_option linter.all false
set_option maxRecDepth 100000
open BitVec renaming ofInt→xQ,ofNat→uH,toNat_ofNat→vJ
open Bool renaming and_self→wm,false_eq_true→yI,not_false→yO,not_true→yR
open Go renaming Code→wY,Func→ybm,World→yi
open Go.Fence renaming wide→yaJ
open Int renaming ediv_emod_unique→tj,gcd→vc,gcd_comm→ybH,natAbs_ediv_of_dvd→um,natAbs_mul→ybh,natCast_mul→ve,pow_zero→yag,reduceEq→vV,reduceLT→ybG
open List renaming append_assoc→xy,drop_zero→yL,length_append→yG,length_cons→yz,length_nil→yK,length_pos_iff→tk,map_append→xi,map_map→wO,map_reverse→tP,nil_append→xB
open Nat renaming add_zero→yY,beq→yv,ble→yF,ble_eq_true_of_le→ym,blt→yQ,div_add_mod→xU,div_eq_of_lt→wT,div_le_self→vH,le_refl→yu,le_trans→xm,lt_of_le_of_lt→wR,lt_of_lt_of_le→yU,mod_eq_of_lt→yW,mod_le→ybX,mod_lt→xF,mul_add→xI,mul_le_mul_left→yZ,mul_lt_mul''→tX,mul_one→yf,mul_zero→xJ,pow_add→wS,pow_le_pow_left→vZ,pow_le_pow_right→xh,pow_one→ybQ,pow_pos→ybO,pow_succ→xd,reduceAdd→yb,reduceEqDiff→ya,reduceLT→yD,reduceLeDiff→yk,reduceMul→xt,zero_add→ye
open Rat renaming den_divInt→ybj,divInt→wE,divInt_ofNat→yaV,num_divInt→ybi
open UInt8 renaming toNat→xc
namespace VE
section
open Go (IntKind)
def dC (s:Int) (w:AV) (z:Int):Prop:=
 (w= .aa/\s=z/\-9223372036854775808<=z/\z<9223372036854775808)\/
 (∃e l,w= .aw e l.length (l.map uc)/\lo 18446744073709551616 l/\gQ l/\bv 18446744073709551616 l=z.natAbs/\s=(if z<0 then -1 else 1)/\9223372036854775808<=z.natAbs)
def cG (v:AV) (z:Int):Prop:=∃s w,v= .agg [ab s,w]/\dC s w z
def Bd (k:Nat) (z:Int):Prop:=z.natAbs<2^k
def A8 (k:Nat):2^k<=18446744073709551616^k:=vZ (by decide) k
def Bd.mono {k m:Nat} {z:Int} (h:Bd k z) (hk:k<=m):Bd m z:=yU h (xh (by decide) hk)
def Bd.neg {k:Nat} {z:Int} (h:Bd k z):Bd k (-z):=by unfold Bd at h ⊢;rwa [Int.natAbs_neg]
def Bd.add {k m:Nat} {a b:Int} (ha:Bd k a) (hb:Bd m b):Bd (max k m+1) (a+b):=by
 have h1:Bd (max k m) a:=ha.mono (by omega);have h2:Bd (max k m) b:=hb.mono (by omega);unfold Bd at h1 h2 ⊢
 grind
def Bd.mul {k m:Nat} {a b:Int} (ha:Bd k a) (hb:Bd m b):Bd (k+m) (a*b):=by
 unfold Bd at*
 rw [ybh,wS];exact tX ha hb
def Bd.le {k:Nat} {a b:Int} (hb:Bd k b) (h:a.natAbs<=b.natAbs):Bd k a:=wR h hb
def WN.pos {v:AV} {m:Nat} (h:WN v m) (h0:0<m):∃e l,v= .aw e l.length (l.map uc)/\l≠[]/\lo 18446744073709551616 l/\gQ l/\bv 18446744073709551616 l=m:=by
 obtain ⟨l,hv,g,n,hb⟩:=h;have hl:l≠[]:=fun e=>by subst e;simp [bv] at hb;omega
 rcases hv with ⟨_,e⟩ | ⟨e,rfl⟩
 ·simp_all
 ·exact ⟨e,l,by simp,hl,g,n,hb⟩
def WN.a6 {v:AV} {m:Nat} (h:WN v m):∃l,bV v l/\lo 18446744073709551616 l/\gQ l/\bv 18446744073709551616 l=m:=h
def nY (e:Bool) (n:Nat) (cs:List AV):jM .sl (.aw e n cs) .aa=some false:=rfl
def gX:jM .sl .aa .aa=some true:=rfl
def M5 (hp:Hp) (ct id:Nat) (a:Int) (e:Bool) (n:Nat) (cs:List AV) (x y:AV):iR hp ct id 0 2 [.int .i64 a,.aw e n cs] (some (.cells true true true 2 [x,y]))=some (.ae [],a7 hp id (.cells true true true 2 [.int .i64 a,.aw e n cs]),ct):=gL rfl rfl rfl rfl
def rM {tm:Env} {a x y:AV} {r:List (Nat×Nat×X)} (h:dt a=true):pD tm [x,y] 0 1 [a] r=fill tm [a,y] r:=ahm (by simp) h
def dC.oY {z:Int} (h1: -9223372036854775808<=z) (h2:z<9223372036854775808):cG (.agg [ab z,.aa]) z:=⟨z,.aa,rfl,.inl ⟨rfl,rfl,h1,h2⟩⟩
def dC.cT {s:Int} {w:AV} {z:Int} (h:dC s w z):(s<0↔z<0)/\(s=0↔z=0)/\-9223372036854775808<=s/\s<9223372036854775808:=by
 rcases h with ⟨_,rfl,h1,h2⟩ | ⟨e,l,_,_,_,_,rfl,h1⟩
 ·grind
 ·grind
section
variable {P:aK} {L:Lib}
structure Nu (P:aK) (L:Lib):Prop extends Wd P L where
 aCd:Has P L 117 N5
 aCe:Has P L 142 N7
 YL:Has P L 136 JB
 Kk:Has P L 145 zT
 aCf:Has P L 146 Ug
 YM:Has P L 147 JD
 alc:Has P L 163 Oc
 aCg:Has P L 118 Dl
 ald:Has P L 119 c119
 aCh:Has P L 156 Ui
 Pr:Has P L 100 mv
 YN:Has P L 164 mw
 aCi:Has P L 148 Uh
 aCj:Has P L 130 Uf
def Dz (h:Nu P L) {z:Int} (h1: -9223372036854775808<=z) (h2:z<9223372036854775808):ak P L 117 [ab z] (.agg [ab z,.aa])/\cG (.agg [ab z,.aa]) z:=⟨n117 h.aCd z,dC.oY h1 h2⟩
def YO (h:Nu P L) {n:Int} (h1: -9223372036854775808<=n) (h2:n<9223372036854775808):ak P L 142 [ab n] (uc n.natAbs):=by
 unfold ak;rw [aH h.aCe];by_cases h0:n<0
 ·have e:IntKind.wrap .u64 (IntKind.wrap .i64 (0-n))=(n.natAbs:Int):=by
   by_cases hm:n= -9223372036854775808
   ·subst hm;rfl
   ·rw [wrap64 (by omega) (by omega),NM];omega
  simp only [go_sem,ya,N7,h0,aiD,e]
 ·have e:IntKind.wrap .u64 n=(n.natAbs:Int):=by rw [NM];omega
  simp only [go_sem,ya,N7,h0,aiD,e]
def Ac (h:Nu P L) {s:Int} {w:AV} {z:Int} (hz:dC s w z):∃r,ak P L 136 [.agg [ab s,w]] (.ae [.bool (decide (z<0)),r])/\WN (bK r) z.natAbs:=by
 rcases hz with ⟨rfl,rfl,h1,h2⟩ | ⟨e,l,rfl,g,n,hb,hs,h1⟩
 ·by_cases h0:s=0
  ·subst h0;refine ⟨.aa,?_,[],zi,Nn,rfl,rfl⟩;unfold ak;rw [aH h.YL];simp only [go_sem,ya,yb,JB,bi,b5,ye,de,gX,I3,ybG];rfl
  ·have e1:=YO h h1 h2;refine ⟨.bn true 1 1 [uc s.natAbs],?_,[s.natAbs],mQ true [s.natAbs],E1.2 (by omega),Em (by omega) [],A7 _⟩;unfold ak;rw [aH h.YL];simp only [go_sem,ya,yb,yk,yf,JB,bi,b5,ye,de,gX,I3,h0,e1];rfl
 ·have Aj:decide (s<0)=decide (z<0):=by rw [hs];split<;>simp<;>omega
  refine ⟨.aw e l.length (l.map uc),?_,l,mQ e l,g,n,hb⟩;unfold ak;rw [aH h.YL];simp only [go_sem,ya,yb,JB,bi,b5,ye,de,nY,I3,Aj];rfl
def acU {d:Nat} (h:d<=9223372036854775807):IntKind.wrap .i64 (d:Int)=d:=wrapN (by omega)
def DA (h:Nu P L) (neg:Bool) {w:AV} {m K:Nat} (hw:WN w m) (hm:m<18446744073709551616^K) (hK:K<=90000000000):∃r,ak P L 145 [.bool neg,w] r/\cG r (cE neg m):=by
 obtain ⟨l,hu,g,n,hb⟩:=hw;have jT:l.length<=90000000000:=xm (ot n hb hm) hK;by_cases h0:l=[]
 ·subst h0
  have:m=0:=by rw [<-hb];rfl
  subst this;have e:cE neg 0=0:=by unfold cE;cases neg<;>rfl
  rw [e];refine ⟨.agg [ab 0,.aa],?_,dC.oY (by decide) (by decide)⟩;unfold ak;rw [aH h.Kk];simp only [go_sem,ya,yb,zT,bi,hu.len,yK,show (((0:Nat):Nat):Int)=0 from rfl,rW];rfl
 ·have kz:0<l.length:=tk.2 h0;by_cases h1:l.length=1/\l.getD 0 0<=9223372036854775807
  ·obtain ⟨h1,h2⟩:=h1;obtain ⟨d,rfl⟩:∃d,l=[d]:=by
    cases l with
    | nil=>simp at h1
    | cons d r=>cases r with
     | nil=>exact ⟨d,rfl⟩
     | cons e r=>simp at h1
   have h2:d<=9223372036854775807:=h2;rw [A7] at hb;subst hb;have ex:=hu.aY (i:=0) (by simp);rw [show ([d]:List Nat).getD 0 0=d from rfl] at ex;have hlen:∀hp,gI hp 1 w=some (.int .i64 1):=fun hp=>hu.len
   cases neg with
   | true=>
    refine ⟨.agg [ab (0-(d:Int)),.aa],?_,?_⟩
    ·unfold ak;rw [aH h.Kk]
     simp only [go_sem,ya,yb,yk,zT,bi,hlen,vV,ex,show (d:Int)<=9223372036854775807 by omega,Nr,acU h2,wrap64 (n:=0-(d:Int)) (by omega) (by omega),rW];rfl
    ·have:cE true d=0-(d:Int):=by unfold cE;simp
     rw [this];exact dC.oY (by omega) (by omega)
   | false=>
    refine ⟨.agg [ab (d:Int),.aa],?_,?_⟩
    ·unfold ak;rw [aH h.Kk];simp only [go_sem,ya,yb,yk,zT,bi,hlen,vV,ex,show (d:Int)<=9223372036854775807 by omega,Nr,acU h2,rW];rfl
    ·have:cE false d=(d:Int):=by unfold cE;simp
     rw [this];exact dC.oY (by omega) (by omega)
  ·have hm0:9223372036854775808<=m:=by
    rw [<-hb];by_cases h2:l.length=1
    ·obtain ⟨d,rfl⟩:∃d,l=[d]:=by
      cases l with
      | nil=>simp at h2
      | cons d r=>cases r with
       | nil=>exact ⟨d,rfl⟩
       | cons e r=>simp at h2
     have:¬d<=9223372036854775807:=fun hd=>h1 ⟨h2,hd⟩
     rw [A7];omega
    ·have h3:=SW (b:=18446744073709551616) (by decide) n h0;have h4:18446744073709551616^1<=18446744073709551616^(l.length-1):=xh (by decide) (by omega);rw [ybQ] at h4;omega
   have dH:∃e,w= .aw e l.length (l.map uc):=by
    rcases hu with ⟨rfl,hh⟩ | ⟨e,rfl⟩
    ·simp at hh;exact absurd hh h0
    ·exact ⟨e,by simp⟩
   obtain ⟨e,rfl⟩:=dH;have ex:=hu.aY (i:=0) kz;have first:(decide ((l.length:Int)=1)=true/\¬((l.getD 0 0:Nat):Int)<=9223372036854775807)\/decide ((l.length:Int)=1)=false:=by
    by_cases h2:l.length=1
    ·left;refine ⟨by simp;omega,fun hd=>h1 ⟨h2,by omega⟩⟩
    ·right;simp;omega
   cases neg with
   | true=>
    refine ⟨.agg [ab (-1),.aw e l.length (l.map uc)],?_,-1,_,rfl,.inr ⟨e,l,rfl,g,n,by rw [hb];unfold cE;simp,by unfold cE;simp;omega,by unfold cE;simp;omega⟩⟩
    unfold ak;rw [aH h.Kk];rcases first with ⟨f1,f2⟩ | f1
    ·simp only [go_sem,ya,yb,yk,zT,bi,show ¬(l.length:Int)=0 by omega,f1,f2,ex,rM,M5];rfl
    ·simp only [go_sem,ya,yb,yk,zT,bi,show ¬(l.length:Int)=0 by omega,f1,rM,M5];rfl
   | false=>
    refine ⟨.agg [ab 1,.aw e l.length (l.map uc)],?_,1,_,rfl,.inr ⟨e,l,rfl,g,n,by rw [hb];unfold cE;simp,by unfold cE;simp,by unfold cE;simp;omega⟩⟩
    unfold ak;rw [aH h.Kk];rcases first with ⟨f1,f2⟩ | f1
    ·simp only [go_sem,ya,yb,yk,zT,bi,show ¬(l.length:Int)=0 by omega,f1,f2,ex,rM,M5];rfl
    ·simp only [go_sem,ya,yb,yk,zT,bi,show ¬(l.length:Int)=0 by omega,f1,rM,M5];rfl
end
end
section
open Go (IntKind)
def bw:VC->VC
 | .seq a _=>a
 | c=>c
def asX {a b:Int} {x y:Nat} (ha:a.natAbs=x) (hb:b.natAbs=y) (h:decide (a<0)=decide (b<0)):cE (decide (a<0)) (x+y)=a+b:=by
 unfold cE
 grind
def adX {a b:Int} {m:Nat} (hm:m+b.natAbs=a.natAbs) (h:¬decide (a<0)=decide (b<0)):cE (decide (a<0)) m=a+b:=by
 unfold cE
 grind
def asY {a:Int}:cE (!decide (a<0)) a.natAbs= -a:=by
 unfold cE
 grind
def adY {a b:Int}:cE (decide (a<0) !=decide (b<0)) (a.natAbs*b.natAbs)=a*b:=by
 unfold cE
 grind
def mX {s:Int} {w:AV} {l:List Nat} (h:bV w l) (hp:Hp):result hp (.agg [ab s,w])=some (.agg [ab s,w]):=by
 rcases h with ⟨rfl,_⟩ | ⟨e,rfl⟩<;>rfl
def eb {s:Int} {w:AV} {l:List Nat} (h:bV w l) (hp:Hp) (ct id:Nat) (x y:AV):iR hp ct id 0 2 [.int .i64 s,w] (some (.cells true true true 2 [x,y]))=some (.ae [],a7 hp id (.cells true true true 2 [.int .i64 s,w]),ct):=gL rfl h.one rfl h.pu
def dC.a6 {s:Int} {w:AV} {z:Int} (h:dC s w z):∃l,bV w l:=by
 rcases h with ⟨rfl,_⟩ | ⟨e,l,rfl,_⟩
 ·exact ⟨[],zi⟩
 ·exact ⟨l,mQ e l⟩
def ajs (hp:Hp) (sz:Nat) (ag:Bool):AV->Option AV
 | .ptr id o=>Qb sz ag o (au hp id)
 | .b6 cs=>iy sz ag cs
 | _=>none
def fq (tm:Env) (hp:Hp) (ct base i sz:Nat) (ag:Bool):results1 ⟨tm,hp,ct,base⟩ (.cell i sz ag)=ajs hp sz ag (ai tm i):=by
 rfl
def fu (hp:Hp) (sz:Nat) (ag:Bool) (id o:Nat):ajs hp sz ag (.ptr id o)=Qb sz ag o (au hp id):=rfl
section
variable {P:aK} {L:Lib}
def F3 (h:Nu P L) {v:AV} {z:Int} (hv:cG v z):ak P L 146 [v] (ab (cT z)):=by
 obtain ⟨s,w,rfl,hn⟩:=hv;obtain ⟨l,hu⟩:=hn.a6;have e:cT s=cT z:=by
  obtain ⟨h1,h2,_⟩:=hn.cT;unfold cT;by_cases h0:z<0
  ·rw [yM h0,yM (h1.2 h0)]
  ·by_cases h3:z=0
   ·rw [yx (fun h=>h0 (h1.1 h)),yM (h2.2 h3),yx h0,yM h3]
   ·rw [yx (fun h=>h0 (h1.1 h)),yx (fun h=>h3 (h2.1 h)),yx h0,yx h3]
 unfold ak;rw [aH h.aCf];simp only [go_sem,ya,yb,Ug,bi,hu.pu,hu.one,b5,ye,aiC,I2,adQ,Ih,ayA,e]
def F5 (h:Nu P L) {v:AV} {z:Int} {K:Nat} (hv:cG v z) (hz:Bd K z) (hK:K<=90000000000):∃r,ak P L 147 [v] r/\cG r (-z):=by
 obtain ⟨s,w,rfl,hn⟩:=hv;obtain ⟨p,e1,hp⟩:=Ac h hn;obtain ⟨lp,iN,_⟩:=hp.a6;obtain ⟨r,e2,hr⟩:=DA h (!decide (z<0)) hp (yU hz (A8 K)) hK;rw [asY] at hr;have bP:=hr;obtain ⟨s',w',rfl,iA⟩:=hr;obtain ⟨l',jo⟩:=iA.a6;rcases hn with ⟨rfl,rfl,h1,h2⟩ | ⟨e,l0,rfl,g,n,hb,hs,h1⟩
 ·by_cases h0:s= -9223372036854775808
  ·refine ⟨_,?_,bP⟩;unfold ak;rw [aH h.YM];simp only [go_sem,ya,yb,JD,bi,b5,ye,de,gX,eC,h0];rw [h0] at e1 e2;simp only [go_sem,ya,cu,cD,e1,e2,iN.ap,cd,fq,fu,cu,yL,mX jo,eb jo]
  ·refine ⟨.agg [ab (-s),.aa],?_,dC.oY (by omega) (by omega)⟩;unfold ak;rw [aH h.YM]
   simp only [go_sem,ya,yb,JD,bi,b5,ye,de,gX,eC,h0,wrap64 (n:=0-s) (by omega) (by omega),rW,rM];rw [Int.zero_sub];rfl
 ·refine ⟨_,?_,bP⟩;unfold ak;rw [aH h.YM];simp only [go_sem,ya,yb,JD,bi,b5,ye,de,nY,eC,cu,cD,e1,e2,iN.ap,cd,fq,fu,cu,yL,mX jo,eb jo]
def ale (h:Nu P L) {v:AV} {z:Int} {K:Nat} (hv:cG v z) (hz:Bd K z) (hK:K<=90000000000):∃r,ak P L 163 [v] r/\cG r (z.natAbs:Nat):=by
 have eG:=hv;obtain ⟨s,w,rfl,hn⟩:=hv;obtain ⟨l,hu⟩:=hn.a6;have GI:=hn.cT.1;by_cases h0:z<0
 ·obtain ⟨r,e1,hr⟩:=F5 h eG hz hK;rw [show -z=(z.natAbs:Int) by omega] at hr;have bP:=hr;obtain ⟨s',w',rfl,iA⟩:=hr;obtain ⟨l',jo⟩:=iA.a6;refine ⟨_,?_,bP⟩;unfold ak;rw [aH h.alc];simp only [go_sem,ya,yb,Oc,bi,hu.pu,hu.ap,hu.one,b5,ye,GI.2 h0,cu,cD,e1,cd,fq,fu,cu,yL,mX jo,eb jo]
 ·rw [show ((z.natAbs:Nat):Int)=z by omega];refine ⟨_,?_,eG⟩;unfold ak;rw [aH h.alc];simp only [go_sem,ya,yb,Oc,bi,hu.pu,hu.one,b5,ye,show ¬s<0 from fun h=>h0 (GI.1 h),cu,fq,fu,cu,yL,mX hu,eb hu]
def ayT (h:Nu P L) {s1 s2:Int} {w1 w2:AV} {a b:Int} {K:Nat} (ha:dC s1 w1 a) (hb:dC s2 w2 b) (ka:Bd K a) (kb:Bd K b) (hK:K<=40000000000):
  ∃r,cG r (a+b)/\∀tm,ai tm 2= .ptr 0 0->ai tm 3= .ptr 1 0->ai tm 4= .ptr 2 0->gM [.cell 4 2 true] (D P L (az (az c119.body)) ⟨tm,[(2,.cells true true true 2 [.int .i64 0,.aa]),(1,.cells true true true 2 [ab s2,w2]),(0,.cells true true true 2 [ab s1,w1])],3,0⟩)=some r:=by
 obtain ⟨l1,u1⟩:=ha.a6;obtain ⟨l2,u2⟩:=hb.a6;obtain ⟨p,e1,hp⟩:=Ac h ha;obtain ⟨q,e2,hq⟩:=Ac h hb;obtain ⟨lp,iN,gp,np,vp⟩:=hp.a6;obtain ⟨lq,oN,gq,nq,vq⟩:=hq.a6;have B9:=yU ka (A8 K);have GJ:=yU kb (A8 K);have llp:lp.length<=40000000000:=xm (ot np vp B9) hK;have llq:lq.length<=40000000000:=xm (ot nq vq GJ) hK;by_cases hs:decide (a<0)=decide (b<0)
 ·obtain ⟨o,nG,e3,ho,nF,no,vo⟩:=aBV h.aB5 h.mz h.gN iN oN gp gq (by omega) (by omega);obtain ⟨r,e4,hr⟩:=DA h (decide (a<0)) ⟨nG,ho,nF,no,vo⟩ (K:=K+1) (by rw [vp,vq,xd];omega) (by omega);rw [asX vp.symm vq.symm hs] at hr;have bP:=hr;obtain ⟨s',w',rfl,iA⟩:=hr;obtain ⟨l',jo⟩:=iA.a6;refine ⟨_,bP,fun tm t2 t3 t4=>?_⟩;simp only [go_sem,ya,c119,az,t2,t3,cu,cD,u1.ap,u2.ap,e1,e2,iN.ap,oN.ap,eC,pE,hs,tY];rw [hs] at e4;simp only [go_sem,ya,t4,e3,ho.ap,ho.shut,e4,cd,fq,fu,cu,yL,mX jo,eb jo]
 ·have sZ:(decide (a<0)==decide (b<0))=false:=by simpa using hs
  have e3:=akX h.ak8 iN oN gp gq np nq (by omega) (by omega);rw [vp,vq] at e3;by_cases hc:b.natAbs<=a.natAbs
  ·obtain ⟨o,nG,e4,ho,nF,no,vo⟩:=akY h.ak9 h.mz h.ss iN oN gp gq nq (by omega) (by rw [vp,vq];exact hc)
   rw [vp,vq] at vo;obtain ⟨r,e5,hr⟩:=DA h (decide (a<0)) ⟨nG,ho,nF,no,rfl⟩ (K:=K) (by omega) (by omega);rw [adX vo hs] at hr;have bP:=hr;obtain ⟨s',w',rfl,iA⟩:=hr;obtain ⟨l',jo⟩:=iA.a6;have ew:(0:Int)<=dU a.natAbs b.natAbs:=by unfold dU;rw [yx (by omega)];split<;>decide
   refine ⟨_,bP,fun tm t2 t3 t4=>?_⟩;simp only [go_sem,ya,c119,az,t2,t3,t4,cu,cD,u1.ap,u2.ap,e1,e2,iN.ap,oN.ap,eC,pE,sZ,e3,ew,e4,ho.ap,ho.shut,e5,cd,fq,fu,cu,yL,mX jo,eb jo]
  ·obtain ⟨o,nG,e4,ho,nF,no,vo⟩:=akY h.ak9 h.mz h.ss oN iN gq gp np (by omega) (by rw [vp,vq];omega);rw [vp,vq] at vo;obtain ⟨r,e5,hr⟩:=DA h (decide (b<0)) ⟨nG,ho,nF,no,rfl⟩ (K:=K) (by omega) (by omega);rw [adX vo (fun e=>hs e.symm),Int.add_comm] at hr;have bP:=hr;obtain ⟨s',w',rfl,iA⟩:=hr;obtain ⟨l',jo⟩:=iA.a6;have ew:¬(0:Int)<=dU a.natAbs b.natAbs:=by unfold dU;rw [yM (by omega)];decide
   refine ⟨_,bP,fun tm t2 t3 t4=>?_⟩;simp only [go_sem,ya,c119,az,t2,t3,t4,cu,cD,u1.ap,u2.ap,e1,e2,iN.ap,oN.ap,eC,pE,sZ,e3,ew,e4,ho.ap,ho.shut,e5,cd,fq,fu,cu,yL,mX jo,eb jo]
def Kl (h:Nu P L) {v w:AV} {a b:Int} {K:Nat} (hv:cG v a) (hw:cG w b) (ka:Bd K a) (kb:Bd K b) (hK:K<=40000000000):∃r,ak P L 119 [v,w] r/\cG r (a+b):=by
 obtain ⟨s1,w1,rfl,h1⟩:=hv;obtain ⟨s2,w2,rfl,h2⟩:=hw;obtain ⟨l2,u2⟩:=h2.a6;obtain ⟨r,hr,tail⟩:=ayT h h1 h2 ka kb hK;have fin:∀tm,ai tm 2= .ptr 0 0->ai tm 3= .ptr 1 0->ai tm 4= .ptr 2 0->
   D P L (.seq (bw c119.body) (bw (az c119.body))) ⟨[(0,.agg [ab s1,w1]),(1,.agg [ab s2,w2])],[],0,0⟩=some (.normal,⟨tm,[(2,.cells true true true 2 [.int .i64 0,.aa]),(1,.cells true true true 2 [ab s2,w2]),(0,.cells true true true 2 [ab s1,w1])],3,0⟩)->ak P L 119 [.agg [ab s1,w1],.agg [ab s2,w2]] r:=fun tm t2 t3 t4 e=>by
  unfold ak;rw [aH h.ald];show gM [.cell 4 2 true] (D P L (.seq (bw c119.body) (.seq (bw (az c119.body)) (az (az c119.body)))) ⟨[(0,.agg [ab s1,w1]),(1,.agg [ab s2,w2])],[],0,0⟩)=_
  have e2:D P L (.seq (bw c119.body) (.seq (bw (az c119.body)) (az (az c119.body)))) ⟨[(0,.agg [ab s1,w1]),(1,.agg [ab s2,w2])],[],0,0⟩=jK P L (D P L (.seq (bw c119.body) (bw (az c119.body))) ⟨[(0,.agg [ab s1,w1]),(1,.agg [ab s2,w2])],[],0,0⟩) (az (az c119.body)):=by
   rw [kh,kh]
   cases D P L (bw c119.body) ⟨[(0,.agg [ab s1,w1]),(1,.agg [ab s2,w2])],[],0,0⟩ with
   | none=>rfl
   | some q=>
    obtain ⟨ex,st⟩:=q
    cases ex with
    | normal=>rw [fB,fB,kh]
    | ret=>rfl
    | exit id=>rfl
  rw [e2,e,fB];exact tail tm t2 t3 t4
 rcases h1 with ⟨rfl,rfl,a1,a2⟩ | ⟨e,l,rfl,ga,na,va,sa,a1⟩
 ·rcases h2 with ⟨rfl,rfl,b1,b2⟩ | ⟨e,l,rfl,gb,nb,vb,sb,b1⟩
  ·by_cases eF: -9223372036854775808<=s1+s2/\s1+s2<9223372036854775808
   ·refine ⟨.agg [ab (s1+s2),.aa],?_,dC.oY eF.1 eF.2⟩;have e:decide (s1<s1+s2)=decide (0<s2):=by
     by_cases h:0<s2
     ·simp only [h,yq];exact xn (by omega)
     ·simp only [h,yt];exact y8 (by omega)
    unfold ak;rw [aH h.ald]
    simp only [go_sem,ya,yb,c119,bi,rW,gX,eC,pE,b5,ye,de,wrap64 (n:=s1+s2) eF.1 eF.2,e,tY,rM];rfl
   ·have e:(decide (s1<IntKind.wrap .i64 (s1+s2))==decide (0<s2))=false:=by
     have hw:(9223372036854775808<=s1+s2/\IntKind.wrap .i64 (s1+s2)=s1+s2-18446744073709551616)\/(s1+s2< -9223372036854775808/\IntKind.wrap .i64 (s1+s2)=s1+s2+18446744073709551616):=by
      simp only [IntKind.wrap,IntKind.bits,IntKind.signed,Bool.true_and]
      split<;>rename_i h<;>simp at h<;>omega
     by_cases h0:0<s2
     ·rw [xn h0,y8 (by omega)];rfl
     ·rw [y8 h0,xn (by omega)];rfl
    refine ⟨r,fin _ ?_ ?_ ?_ (by simp only [go_sem,ya,yb,bw,az,c119,bi,gX,eC,pE,b5,ye,de,e]<;>rfl),hr⟩<;>simp only [go_sem,ya]
  ·refine ⟨r,fin _ ?_ ?_ ?_ (by simp only [go_sem,ya,yb,bw,az,c119,bi,gX,nY,eC,b5,ye,de]<;>rfl),hr⟩<;>simp only [go_sem,ya]
 ·refine ⟨r,fin _ ?_ ?_ ?_ (by simp only [go_sem,ya,yb,bw,az,c119,bi,u2.pu,u2.one,nY,eC,b5,ye,de]<;>rfl),hr⟩<;>simp only [go_sem,ya]
end
end
section
open Go (IntKind)
def CA {P:aK} {L:Lib} (a b c:VC) (s:St):D P L (.seq a (.seq b c)) s=jK P L (D P L (.seq a b) s) c:=by
 rw [kh,kh]
 cases D P L a s with
 | none=>rfl
 | some q=>
  obtain ⟨ex,st⟩:=q
  cases ex with
  | normal=>rw [fB,fB,kh]
  | ret=>rfl
  | exit id=>rfl
def aiI {s s':Int} {w w':AV} {l l':List Nat} (h:bV w l) (h':bV w' l') (hp:Hp):result hp (.ae [.agg [ab s,w],.agg [ab s',w']])=some (.ae [.agg [ab s,w],.agg [ab s',w']]):=by
 rcases h with ⟨rfl,_⟩ | ⟨e,rfl⟩<;>rcases h' with ⟨rfl,_⟩ | ⟨e',rfl⟩<;>rfl
def Ps (tm:Env) (hp:Hp) (ct:Nat) (rs:List (Nat×Bool×Nat)) (sz:Nat) (p:AV) (new:List AV):fY:=match p with | .ptr id o=>bif nS tm id rs then iR hp ct id o sz new (au hp id) else none | _=>none
def Pt (id:Nat):AV->Bool | .ptr j _=> !yv j id | .b6 _=>true | _=>false
def S9 {P:aK} {L:Lib} (f:cA) (tm:Env) (hp:Hp) (ct:Nat) (rs:List (Nat×Bool×Nat)) (sz:Nat) (x v:X):bf P L f tm hp ct (.jC rs sz x v)=Ps tm hp ct rs sz (aA tm x) (cellsOf (aA tm v)):=by
 simp only [bf,Ps]
 cases hx:aA tm x with
 | ptr id o=>
  rw [adM,hx,ajh]
 | _=>rfl
def Ta {tm:Env} {hp:Hp} {ct:Nat} {rs:List (Nat×Bool×Nat)} {sz id o:Nat} {new:List AV} (h:nS tm id rs=true):Ps tm hp ct rs sz (.ptr id o) new=iR hp ct id o sz new (au hp id):=by
 simp only [Ps,h,yA]
def Sv (tm:Env) (id:Nat):nS tm id []=true:=(rfl)
def R6 (tm:Env) (id sz x:Nat) (ag:Bool) (r:List (Nat×Bool×Nat)):nS tm id ((sz,ag,x)::r)=(Pt id (ai tm x)&&nS tm id r):=by
 simp only [nS,Pt]
 grind
def Tb {id j o:Nat} (h:j≠id):Pt id (.ptr j o)=true:=by simp only [Pt,gF h,yO]
section
variable {P:aK} {L:Lib}
def alf (h:Nu P L) {v w:AV} {a b:Int} {K:Nat} (hv:cG v a) (hw:cG w b) (ka:Bd K a) (kb:Bd K b) (hK:K<=40000000000):∃r,ak P L 156 [v,w] r/\cG r (a-b):=by
 obtain ⟨n,e1,hn⟩:=F5 h hw kb (by omega);obtain ⟨r,e2,hr⟩:=Kl h hv hn ka kb.neg hK;have bP:=hr;obtain ⟨s1,w1,rfl,h1⟩:=hv;obtain ⟨s2,w2,rfl,h2⟩:=hw;obtain ⟨s3,w3,rfl,h3⟩:=hn;obtain ⟨s4,w4,rfl,h4⟩:=hr;obtain ⟨l1,u1⟩:=h1.a6;obtain ⟨l2,u2⟩:=h2.a6;obtain ⟨l3,u3⟩:=h3.a6;obtain ⟨l4,u4⟩:=h4.a6;refine ⟨_,?_,bP⟩;unfold ak;rw [aH h.aCh];simp only [go_sem,ya,yb,Ui,bi,u1.pu,u1.ap,u1.one,u2.pu,u2.ap,u2.one,u3.ap,cD,e1,e2,cd,fq,fu,cu,yL,mX u4,eb u4]
def aCk (h:Nu P L) {v w:AV} {a b:Int} {K:Nat} (hv:cG v a) (hw:cG w b) (ka:Bd K a) (kb:Bd K b) (hK:K<=40000000000):ak P L 118 [v,w] (ab (cT (a-b))):=by
 obtain ⟨d,e1,hd⟩:=alf h hv hw ka kb hK;have e2:=F3 h hd;obtain ⟨s1,w1,rfl,h1⟩:=hv;obtain ⟨s2,w2,rfl,h2⟩:=hw;obtain ⟨s3,w3,rfl,h3⟩:=hd;obtain ⟨l2,u2⟩:=h2.a6;obtain ⟨l3,u3⟩:=h3.a6;unfold ak;rw [aH h.aCg];rcases h1 with ⟨rfl,rfl,a1,a2⟩ | ⟨e,l,rfl,ga,na,va,sa,a1⟩
 ·rcases h2 with ⟨rfl,rfl,b1,b2⟩ | ⟨e,l,rfl,gb,nb,vb,sb,b1⟩
  ·by_cases c1:s1<s2
   ·rw [show cT (s1-s2)= -1 by unfold cT;rw [yM (by omega)]];simp only [go_sem,ya,yb,Dl,bi,gX,eC,b5,ye,de,c1]
   ·by_cases c2:s2<s1
    ·rw [show cT (s1-s2)=1 by unfold cT;rw [yx (by omega),yx (by omega)]];simp only [go_sem,ya,yb,Dl,bi,gX,eC,b5,ye,de,c1,c2]
    ·rw [show cT (s1-s2)=0 by unfold cT;rw [yx (by omega),yM (by omega)]];simp only [go_sem,ya,yb,Dl,bi,gX,eC,b5,ye,de,c1,c2]
  ·simp only [go_sem,ya,yb,Dl,bi,gX,nY,eC,b5,ye,de,cu,cD,e1,e2,u3.ap,cd]
 ·simp only [go_sem,ya,yb,Dl,bi,u2.pu,u2.ap,u2.one,nY,eC,b5,ye,de,cu,cD,e1,e2,u3.ap,cd]
def ayU (h:Nu P L) {s1 s2:Int} {w1 w2:AV} {a b:Int} {K:Nat} (ha:dC s1 w1 a) (hb:dC s2 w2 b) (ka:Bd K a) (kb:Bd K b) (hK:K<=40000000000):
  ∃r,cG r (a*b)/\∀tm,ai tm 2= .ptr 0 0->ai tm 3= .ptr 1 0->ai tm 4= .ptr 2 0->gM [.cell 4 2 true] (D P L (az (az mv.body)) ⟨tm,[(2,.cells true true true 2 [.int .i64 0,.aa]),(1,.cells true true true 2 [ab s2,w2]),(0,.cells true true true 2 [ab s1,w1])],3,0⟩)=some r:=by
 obtain ⟨l1,u1⟩:=ha.a6;obtain ⟨l2,u2⟩:=hb.a6;obtain ⟨p,e1,hp⟩:=Ac h ha;obtain ⟨q,e2,hq⟩:=Ac h hb;obtain ⟨lp,iN,gp,np,vp⟩:=hp.a6;obtain ⟨lq,oN,gq,nq,vq⟩:=hq.a6;have B9:=yU ka (A8 K);have GJ:=yU kb (A8 K);have llp:lp.length<=40000000000:=xm (ot np vp B9) hK;have llq:lq.length<=40000000000:=xm (ot nq vq GJ) hK;obtain ⟨o,nG,e3,ho,nF,no,vo⟩:=aBY h.aB6 h.mz h.mA h.gN iN oN gp gq (by omega) (by omega);obtain ⟨r,e4,hr⟩:=DA h (decide (a<0) !=decide (b<0)) ⟨nG,ho,nF,no,vo⟩ (K:=K+K) (by rw [vp,vq,wS];exact tX B9 GJ) (by omega)
 rw [vp,vq,adY] at hr;have bP:=hr;obtain ⟨s',w',rfl,iA⟩:=hr;obtain ⟨l',jo⟩:=iA.a6;refine ⟨_,bP,fun tm t2 t3 t4=>?_⟩;have sJ:∀x y:Bool,Kc true (some (x==y))=some (.bool (x !=y)):=fun x y=>by cases x<;>cases y<;>rfl
 simp only [go_sem,ya,mv,az,t2,t3,t4,cu,cD,u1.ap,u2.ap,e1,e2,iN.ap,oN.ap,pE,sJ,e3,ho.ap,ho.shut,e4,cd,fq,fu,cu,yL,mX jo,eb jo]
def asZ {a b:Int} {m:Nat} (h:a.natAbs*b.natAbs=m):a*b=if (decide (a<0)==decide (b<0))=true then (m:Int) else 0-(m:Int):=by
 have:=adY (a:=a) (b:=b)
 rw [h] at this;unfold cE at this
 cases hd:(decide (a<0)==decide (b<0)) with
 | true=>simp only [bne,hd,yR,yI,xg] at this;exact this.symm
 | false=>simp only [bne,hd,yO,xE] at this;rw [yx (by decide)];omega
def BE (h:Nu P L) {v w:AV} {a b:Int} {K:Nat} (hv:cG v a) (hw:cG w b) (ka:Bd K a) (kb:Bd K b) (hK:K<=40000000000):∃r,ak P L 100 [v,w] r/\cG r (a*b):=by
 obtain ⟨s1,w1,rfl,h1⟩:=hv;obtain ⟨s2,w2,rfl,h2⟩:=hw;obtain ⟨l1,u1⟩:=h1.a6;obtain ⟨l2,u2⟩:=h2.a6;obtain ⟨r,hr,tail⟩:=ayU h h1 h2 ka kb hK;have fin:∀tm,ai tm 2= .ptr 0 0->ai tm 3= .ptr 1 0->ai tm 4= .ptr 2 0->
   D P L (.seq (bw mv.body) (bw (az mv.body))) ⟨[(0,.agg [ab s1,w1]),(1,.agg [ab s2,w2])],[],0,0⟩=some (.normal,⟨tm,[(2,.cells true true true 2 [.int .i64 0,.aa]),(1,.cells true true true 2 [ab s2,w2]),(0,.cells true true true 2 [ab s1,w1])],3,0⟩)->ak P L 100 [.agg [ab s1,w1],.agg [ab s2,w2]] r:=fun tm t2 t3 t4 e=>by
  unfold ak;rw [aH h.Pr];show gM [.cell 4 2 true] (D P L (.seq (bw mv.body) (.seq (bw (az mv.body)) (az (az mv.body)))) ⟨[(0,.agg [ab s1,w1]),(1,.agg [ab s2,w2])],[],0,0⟩)=_
  rw [CA,e,fB];exact tail tm t2 t3 t4
 rcases h1 with ⟨rfl,rfl,a1,a2⟩ | ⟨e,l,rfl,ga,na,va,sa,a1⟩
 ·rcases h2 with ⟨rfl,rfl,b1,b2⟩ | ⟨e,l,rfl,gb,nb,vb,sb,b1⟩
  ·have f1:=YO h a1 a2;have f2:=YO h b1 b2;have f3:=Ns (P:=P) (f:=D P L) h.mA (x:=s1.natAbs) (y:=s2.natAbs) (by omega) (by omega);obtain ⟨m,hm⟩:∃m,s1.natAbs*s2.natAbs=m:=⟨_,rfl⟩;rw [hm] at f3;have eU:=asZ hm;by_cases eF:m<=9223372036854775807
   ·rw [wT (by omega),yW (by omega)] at f3;rw [show (uc 0)=AV.int .u64 0 from rfl] at f3;by_cases hs:(decide (s1<0)==decide (s2<0))=true
    ·rw [yM hs] at eU;refine ⟨.agg [ab (m:Int),.aa],?_,by rw [eU];exact dC.oY (by omega) (by omega)⟩
     unfold ak;rw [aH h.Pr]
     simp only [go_sem,ya,yb,mv,bi,rW,gX,eC,I3,pE,b5,ye,de,f1,f2,f3,show (m:Int)<=9223372036854775807 by omega,hs,Nr,wrap64 (n:=(m:Int)) (by omega) (by omega),rM];rfl
    ·rw [yx hs] at eU;refine ⟨.agg [ab (0-(m:Int)),.aa],?_,by rw [eU];exact dC.oY (by omega) (by omega)⟩
     unfold ak;rw [aH h.Pr]
     simp only [go_sem,ya,yb,mv,bi,rW,gX,eC,I3,pE,b5,ye,de,f1,f2,f3,show (m:Int)<=9223372036854775807 by omega,hs,Nr,wrap64 (n:=(m:Int)) (by omega) (by omega),wrap64 (n:=0-(m:Int)) (by omega) (by omega),rM];rfl
   ·by_cases Ca:m/18446744073709551616=0
    ·rw [Ca,yW (by omega)] at f3;rw [show (uc 0)=AV.int .u64 0 from rfl] at f3;refine ⟨r,fin _ ?_ ?_ ?_ (by simp only [go_sem,ya,yb,bw,az,mv,bi,gX,eC,b5,ye,de,f1,f2,f3,show ¬(m:Int)<=9223372036854775807 by omega]<;>rfl),hr⟩<;>simp only [go_sem,ya]
    ·obtain ⟨q,hq⟩:∃q,q=m/18446744073709551616:=⟨_,rfl⟩;rw [<-hq] at f3 Ca;refine ⟨r,fin _ ?_ ?_ ?_ (by simp only [go_sem,ya,yb,bw,az,mv,bi,gX,eC,b5,ye,de,f1,f2,f3,show ¬(q:Int)=0 by omega]<;>rfl),hr⟩<;>simp only [go_sem,ya]
  ·refine ⟨r,fin _ ?_ ?_ ?_ (by simp only [go_sem,ya,yb,bw,az,mv,bi,gX,nY,eC,b5,ye,de]<;>rfl),hr⟩<;>simp only [go_sem,ya]
 ·refine ⟨r,fin _ ?_ ?_ ?_ (by simp only [go_sem,ya,yb,bw,az,mv,bi,u2.pu,u2.one,nY,eC,b5,ye,de]<;>rfl),hr⟩<;>simp only [go_sem,ya]
end
end
section
open Go (IntKind)
def aqV {a b:Int} {q r:Nat} (hb:0<b) (h:q=a.natAbs/b.natAbs) (h2:r=a.natAbs%b.natAbs):
  (cE (decide (a<0)) r<0->a/b=cE (decide (a<0)) q-1/\a%b=cE (decide (a<0)) r+b)/\(¬cE (decide (a<0)) r<0->a/b=cE (decide (a<0)) q/\a%b=cE (decide (a<0)) r):=by
 have fP:=xU a.natAbs b.natAbs;have aW:r<b.natAbs:=by rw [h2];exact xF _ (by omega)
 unfold cE;by_cases h0:a<0
 ·simp only [h0,yq,xE];constructor
  ·intro h3;refine (tj hb).2 ⟨?_,by omega,by omega⟩
   grind
  ·intro h3;refine (tj hb).2 ⟨?_,by omega,by omega⟩
   grind
 ·grind
section
variable {P:aK} {L:Lib}
def ayV (h:Nu P L) {s1 s2:Int} {w1 w2:AV} {a b:Int} {K:Nat} (ha:dC s1 w1 a) (hb:dC s2 w2 b) (dW:0<b) (ka:Bd K a) (kb:Bd K b) (hK:K<=30000000000):
  ∃q r,cG q (a/b)/\cG r (a%b)/\∀tm,ai tm 2= .ptr 0 0->ai tm 3= .ptr 1 0->ai tm 4= .ptr 2 0->ai tm 5= .ptr 3 0->gM [.cell 4 2 true,.cell 5 2 true] (D P L (az (az mw.body)) ⟨tm,[(3,.cells true true true 2 [.int .i64 0,.aa]),(2,.cells true true true 2 [.int .i64 0,.aa]),(1,.cells true true true 2 [ab s2,w2]),(0,.cells true true true 2 [ab s1,w1])],4,0⟩)=some (.ae [q,r]):=by
 obtain ⟨l1,u1⟩:=ha.a6;obtain ⟨l2,u2⟩:=hb.a6;obtain ⟨p,e1,hp⟩:=Ac h ha;obtain ⟨q,e2,hq⟩:=Ac h hb;have cw:cG (.agg [ab s2,w2]) b:=⟨s2,w2,rfl,hb⟩;obtain ⟨lp,iN,_⟩:=hp.a6;obtain ⟨lq,oN,_⟩:=hq.a6;have B9:=yU ka (A8 K);have GJ:=yU kb (A8 K);obtain ⟨dq,dr,e3,D3,jl⟩:=ala h.toWd hp hq (by omega) B9 GJ (by omega);obtain ⟨Ll,uq,_⟩:=D3.a6;obtain ⟨lr1,ur,_⟩:=jl.a6;have hqk:a.natAbs/b.natAbs<18446744073709551616^K:=wR (vH _ _) B9;have hrk:a.natAbs%b.natAbs<18446744073709551616^K:=wR (ybX _ _) B9;have hqb:a.natAbs/b.natAbs<2^K:=wR (vH _ _) ka;have hrb:a.natAbs%b.natAbs<2^K:=wR (ybX _ _) ka;obtain ⟨f1,f2⟩:=aqV (a:=a) dW rfl rfl;generalize a.natAbs/b.natAbs=Q at*
 generalize a.natAbs%b.natAbs=R at*
 obtain ⟨vq,e4,hvq⟩:=DA h (decide (a<0)) D3 hqk (by omega);obtain ⟨vr,e5,K7⟩:=DA h (decide (a<0)) jl hrk (by omega);have hsq:Bd K (cE (decide (a<0)) Q):=by unfold Bd cE;split<;>omega
 have hsr:Bd K (cE (decide (a<0)) R):=by unfold Bd cE;split<;>omega
 generalize cE (decide (a<0)) R=Rs at*
 have e6:=F3 h K7;have alg:=hvq;have alh:=K7;obtain ⟨s3,w3,rfl,h3⟩:=hvq;obtain ⟨s4,w4,rfl,h4⟩:=K7;obtain ⟨l3,u3⟩:=h3.a6;obtain ⟨l4,u4⟩:=h4.a6;by_cases h0:Rs<0
 ·obtain ⟨g1,g2⟩:=f1 h0;have kW:Bd (K+1) 1:=Bd.mono (k:=1) (by unfold Bd;decide) (by omega)
  obtain ⟨o1,o2⟩:=Dz h (z:=1) (by decide) (by decide);obtain ⟨vq2,e7,YP⟩:=alf h alg o2 (K:=K+1) (hsq.mono (by omega)) kW (by omega);obtain ⟨vr2,e8,YQ⟩:=Kl h alh cw (K:=K+1) (hsr.mono (by omega)) (kb.mono (by omega)) (by omega);rw [<-g1] at YP;rw [<-g2] at YQ;have nv:cT Rs<0:=by unfold cT;rw [yM h0];decide
  have k1:=YP;have k2:=YQ;obtain ⟨s5,w5,rfl,h5⟩:=YP;obtain ⟨s6,w6,rfl,h6⟩:=YQ;obtain ⟨l5,u5⟩:=h5.a6;obtain ⟨l6,u6⟩:=h6.a6;refine ⟨_,_,k1,k2,fun tm t2 t3 t4 t5=>?_⟩;simp only [go_sem,ya,yb,mw,az,t2,t3,t4,t5,S9,Ta,Sv,R6,Tb,wm,bi,cu,cD,u1.ap,u2.ap,e1,e2,iN.ap,oN.ap,e3,uq.ap,uq.bK,ur.ap,ur.bK,e4,e5,cd,fq,fu,cu,yL,eb u3,eb u4,u3.ap,u4.ap,e6,nv,o1,e7,e8,fq,fu,cu,yL,eb u5,eb u6,aiI u5 u6]
 ·obtain ⟨g1,g2⟩:=f2 h0;have nv:¬cT Rs<0:=by unfold cT;rw [yx h0];split<;>decide
  refine ⟨_,_,by rw [g1];exact alg,by rw [g2];exact alh,fun tm t2 t3 t4 t5=>?_⟩
  simp only [go_sem,ya,yb,mw,az,t2,t3,t4,t5,S9,Ta,Sv,R6,Tb,wm,bi,cu,cD,u1.ap,u2.ap,e1,e2,iN.ap,oN.ap,e3,uq.ap,uq.bK,ur.ap,ur.bK,e4,e5,cd,fq,fu,cu,yL,eb u3,eb u4,u4.ap,e6,nv,aiI u3 u4]
def ali (h:Nu P L) {v w:AV} {a b:Int} {K:Nat} (hv:cG v a) (hw:cG w b) (dW:0<b) (ka:Bd K a) (kb:Bd K b) (hK:K<=30000000000):∃q r,ak P L 164 [v,w] (.ae [q,r])/\cG q (a/b)/\cG r (a%b):=by
 obtain ⟨s1,w1,rfl,h1⟩:=hv;obtain ⟨s2,w2,rfl,h2⟩:=hw;obtain ⟨l1,u1⟩:=h1.a6;obtain ⟨l2,u2⟩:=h2.a6;obtain ⟨q,r,hq,hr,tail⟩:=ayV h h1 h2 dW ka kb hK;have fin:∀tm,ai tm 2= .ptr 0 0->ai tm 3= .ptr 1 0->ai tm 4= .ptr 2 0->ai tm 5= .ptr 3 0->
   D P L (.seq (bw mw.body) (bw (az mw.body))) ⟨[(0,.agg [ab s1,w1]),(1,.agg [ab s2,w2])],[],0,0⟩=some (.normal,⟨tm,[(3,.cells true true true 2 [.int .i64 0,.aa]),(2,.cells true true true 2 [.int .i64 0,.aa]),(1,.cells true true true 2 [ab s2,w2]),(0,.cells true true true 2 [ab s1,w1])],4,0⟩)->ak P L 164 [.agg [ab s1,w1],.agg [ab s2,w2]] (.ae [q,r]):=fun tm t2 t3 t4 t5 e=>by
  unfold ak;rw [aH h.YN];show gM [.cell 4 2 true,.cell 5 2 true] (D P L (.seq (bw mw.body) (.seq (bw (az mw.body)) (az (az mw.body)))) ⟨[(0,.agg [ab s1,w1]),(1,.agg [ab s2,w2])],[],0,0⟩)=_
  rw [CA,e,fB];exact tail tm t2 t3 t4 t5
 rcases h1 with ⟨rfl,rfl,a1,a2⟩ | ⟨e,l,rfl,ga,na,va,sa,a1⟩
 ·rcases h2 with ⟨rfl,rfl,b1,b2⟩ | ⟨e,l,rfl,gb,nb,vb,sb,b1⟩
  ·by_cases hm:s1= -9223372036854775808
   ·refine ⟨q,r,fin _ ?_ ?_ ?_ ?_ (by simp only [go_sem,ya,yb,bw,az,mw,bi,gX,eC,b5,ye,de,hm]<;>rfl),hq,hr⟩<;>simp only [go_sem,ya]
   ·obtain ⟨f1,f2⟩:=aqL (a:=s1) dW;have bR:s1.tdiv s2=0\/(s1.tdiv s2).natAbs<=s1.natAbs:= .inr (Int.natAbs_tdiv_le_natAbs s1 s2);have cC:=Int.tmod_lt_of_pos s1 dW;have mI:=Int.lt_tmod_of_pos s1 dW;by_cases h0:s1.tmod s2<0
    ·obtain ⟨g1,g2⟩:=f1 h0;rw [g1,g2];refine ⟨.agg [ab (s1.tdiv s2-1),.aa],.agg [ab (s1.tmod s2+s2),.aa],?_,dC.oY (by omega) (by omega),dC.oY (by omega) (by omega)⟩;unfold ak;rw [aH h.YN]
     simp only [go_sem,ya,yb,mw,bi,rW,gX,eC,b5,ye,de,hm,gG _ _ _ (show s2≠0 by omega),iV _ _ _ (show s2≠0 by omega),h0,wrap64 (n:=s1.tdiv s2) (by omega) (by omega),wrap64 (n:=s1.tdiv s2-1) (by omega) (by omega),wrap64 (n:=s1.tmod s2+s2) (by omega) (by omega),rM];rfl
    ·obtain ⟨g1,g2⟩:=f2 h0;rw [g1,g2];refine ⟨.agg [ab (s1.tdiv s2),.aa],.agg [ab (s1.tmod s2),.aa],?_,dC.oY (by omega) (by omega),dC.oY (by omega) (by omega)⟩;unfold ak;rw [aH h.YN]
     simp only [go_sem,ya,yb,mw,bi,rW,gX,eC,b5,ye,de,hm,gG _ _ _ (show s2≠0 by omega),iV _ _ _ (show s2≠0 by omega),h0,wrap64 (n:=s1.tdiv s2) (by omega) (by omega),rM];rfl
  ·refine ⟨q,r,fin _ ?_ ?_ ?_ ?_ (by simp only [go_sem,ya,yb,bw,az,mw,bi,gX,nY,eC,b5,ye,de]<;>rfl),hq,hr⟩<;>simp only [go_sem,ya]
 ·refine ⟨q,r,fin _ ?_ ?_ ?_ ?_ (by simp only [go_sem,ya,yb,bw,az,mw,bi,u2.pu,u2.one,nY,eC,b5,ye,de]<;>rfl),hq,hr⟩<;>simp only [go_sem,ya]
end
end
section
open Go (IntKind)
section
variable {P:aK} {L:Lib}
def alj (h:Nu P L) {v w:AV} {a b:Int} {K:Nat} (hv:cG v a) (hw:cG w b) (dW:0<b) (ka:Bd K a) (kb:Bd K b) (hK:K<=30000000000):∃r,ak P L 148 [v,w] r/\cG r (a/b):=by
 have e1:=F3 h hw;obtain ⟨q,r,e2,hq,hr⟩:=ali h hv hw dW ka kb hK;have e3:cT b=1:=by unfold cT;rw [yx (by omega),yx (by omega)]
 rw [e3] at e1;have bR:=hq;obtain ⟨s1,w1,rfl,h1⟩:=hv;obtain ⟨s2,w2,rfl,h2⟩:=hw;obtain ⟨s3,w3,rfl,h3⟩:=hq;obtain ⟨s4,w4,rfl,h4⟩:=hr;obtain ⟨l1,u1⟩:=h1.a6;obtain ⟨l2,u2⟩:=h2.a6;obtain ⟨l3,u3⟩:=h3.a6;obtain ⟨l4,u4⟩:=h4.a6;refine ⟨_,?_,bR⟩;unfold ak;rw [aH h.aCi];simp only [go_sem,ya,yb,Uh,ybG,yt,bi,u1.pu,u1.ap,u1.one,u2.pu,u2.ap,u2.one,ye,cD,e1,e2,AQ,fq,fu,cu,yL,mX u3,eb u3,eb u4]
def ayW (h:Nu P L) (G:Nat) {K:Nat} (hK:K<=30000000000) {o1 o2:AV}:
  ∀k s,(∃(x y:Nat) (s1 s2:Int) (w1 w2:AV),aI [2,3,4] s=⟨[(2,.ptr 0 0),(3,.ptr 1 0),(4,.ptr 2 0)],[(2,.cells true true true 2 [o1,o2]),(1,.cells true true true 2 [ab s2,w2]),(0,.cells true true true 2 [ab s1,w1])],3,0⟩/\dC s1 w1 x/\dC s2 w2 y/\Bd K x/\Bd K y/\Nat.gcd x y=G/\y=k)->
   ∃ex s',D P L (.loop [2,3,4] II) s=some (ex,s')/\∃tm s1 w1 c1,s'=⟨tm,[(2,.cells true true true 2 [o1,o2]),(1,c1),(0,.cells true true true 2 [ab s1,w1])],3,0⟩/\ex= .exit 0/\ai tm 2= .ptr 0 0/\ai tm 4= .ptr 2 0/\dC s1 w1 G:=by
 intro dq sq;generalize bk:aI [2,3,4] sq=s0;revert bk s0 sq dq;apply du;rintro k s ⟨x,y,s1,s2,w1,w2,rfl,h1,h2,k1,k2,hG,rfl⟩;obtain ⟨l1,u1⟩:=h1.a6;obtain ⟨l2,u2⟩:=h2.a6;have i1:cG (.agg [ab s1,w1]) (x:Int):=⟨s1,w1,rfl,h1⟩;have i2:cG (.agg [ab s2,w2]) (y:Int):=⟨s2,w2,rfl,h2⟩;have e1:=F3 h i2;by_cases jW:y=0
 ·right
  subst jW;rw [show cT ((0:Nat):Int)=0 from rfl] at e1;simp only [go_sem,ya,II,yq,yR,cu,cD,u2.ap,e1];obtain rfl:x=G:=by rw [<-hG,Nat.gcd_zero_right]
  exact ⟨_,_,rfl,by simp,_,s1,w1,_,rfl,rfl,by simp only [go_sem,ya],by simp only [go_sem,ya],h1⟩
 ·left
  have e3:cT (y:Int)=1:=by unfold cT;rw [yx (by omega),yx (by omega)]
  rw [e3] at e1;obtain ⟨q,r,e2,hq,hr⟩:=ali h i1 i2 (by omega) k1 k2 hK;obtain ⟨s3,w3,rfl,h3⟩:=hq;obtain ⟨s4,w4,rfl,h4⟩:=hr;obtain ⟨l3,u3⟩:=h3.a6;obtain ⟨l4,u4⟩:=h4.a6;have aW:=xF x (show 0<y by omega);have kr:Bd K ((x%y:Nat):Int):=k2.le (by omega);simp only [go_sem,ya,yb,II,S9,Ta,Sv,R6,Tb,wm,vV,yt,yO,bi,cu,cD,u1.ap,u2.ap,e1,e2,AQ,cu,yL,eb u2,eb u3,eb u4];refine ⟨_,x%y,rfl,aW,y,x%y,s2,s4,w2,w4,?_,h2,h4,k2,kr,by rw [<-hG];exact asP x y jW,rfl⟩
  simp only [go_sem,ya,yb,ax]
def alk (h:Nu P L) {v w:AV} {a b:Int} {K:Nat} (hv:cG v a) (hw:cG w b) (ka:Bd K a) (kb:Bd K b) (hK:K<=30000000000):∃r,ak P L 130 [v,w] r/\cG r (vc a b:Nat):=by
 obtain ⟨va,e1,ha⟩:=ale h hv ka (by omega);obtain ⟨vb,e2,hb⟩:=ale h hw kb (by omega);obtain ⟨s1,w1,rfl,h1⟩:=hv;obtain ⟨s2,w2,rfl,h2⟩:=hw;obtain ⟨s3,w3,rfl,h3⟩:=ha;obtain ⟨s4,w4,rfl,h4⟩:=hb;obtain ⟨l1,u1⟩:=h1.a6;obtain ⟨l2,u2⟩:=h2.a6;obtain ⟨l3,u3⟩:=h3.a6;obtain ⟨l4,u4⟩:=h4.a6;have je:∃s w,ak P L 130 [.agg [ab s1,w1],.agg [ab s2,w2]] (.agg [ab s,w])/\dC s w (vc a b:Nat):=by
  unfold ak;rw [aH h.aCj];simp only [go_sem,ya,yb,Uf,bi,u1.pu,u1.ap,u1.one,u2.pu,u2.ap,u2.one,cu,cD,e1,e2,cd,cu,yL,eb u3,eb u4,ye];generalize hq:D P L (.loop [2,3,4] II) _=q;obtain ⟨ex,s,rfl,tm,s5,w5,c1,rfl,rfl,t2,t4,h5⟩:=bJ hq (ayW (P:=P) (L:=L) h (vc a b) (K:=K) hK (o1:= .int .i64 0) (o2:= .aa) b.natAbs) ⟨a.natAbs,b.natAbs,s3,s4,w3,w4,by simp only [go_sem,ya,yb,ax],h3,h4,ka,kb,rfl,rfl⟩;obtain ⟨l5,u5⟩:=h5.a6;refine ⟨s5,w5,?_,h5⟩;simp only [go_sem,ya,yb,ax,t2,t4,fq,fu,cu,yL,mX u5,eb u5]
 obtain ⟨s,w,e,hn⟩:=je;exact ⟨_,e,s,w,rfl,hn⟩
end
def eN (v:AV) (r:Rat):Prop:=∃s1 w1 s2 w2,v= .agg [ab s1,w1,ab s2,w2]/\dC s1 w1 r.num/\dC s2 w2 (r.den:Int)
def Hq (k:Nat) (r:Rat):Prop:=Bd k r.num/\Bd k (r.den:Int)
def QN {a b:Int} (hb:0<b):(wE a b).num=a/(vc a b:Nat)/\((wE a b).den:Int)=b/(vc a b:Nat):=by
 constructor
 ·rw [ybi,Int.sign_eq_one_of_pos hb,Int.one_mul,ybH]
 ·rw [ybj,yx (by omega),ybH]
  grind
def Hq.divInt {k:Nat} {a b:Int} (hb:0<b) (ka:Bd k a) (kb:Bd k b):Hq k (wE a b):=by
 obtain ⟨h1,h2⟩:=QN (a:=a) hb;refine ⟨ka.le ?_,kb.le ?_⟩
 ·rw [h1,um (Int.gcd_dvd_left a b)];exact vH _ _
 ·rw [h2,um (Int.gcd_dvd_right a b)];exact vH _ _
section
def EB {tm:Env} {a b x y z w:AV} {r:List (Nat×Nat×X)} (h1:dt a=true) (h2:dt b=true):pD tm [x,y,z,w] 0 2 [a,b] r=fill tm [a,b,z,w] r:=by
 rw [Sq (by rfl) (by simp) (by simp [cp,h1,h2])];rfl
def EC {tm:Env} {a b x y z w:AV} {r:List (Nat×Nat×X)} (h1:dt a=true) (h2:dt b=true):pD tm [x,y,z,w] 2 2 [a,b] r=fill tm [x,y,a,b] r:=by
 rw [Sq (by rfl) (by simp) (by simp [cp,h1,h2])];rfl
def mY {s t:Int} {v w:AV} {l m:List Nat} (hv:bV v l) (hw:bV w m) (hp:Hp) (ct id:Nat) (a b x y:AV):iR hp ct id 0 4 [.int .i64 s,v,.int .i64 t,w] (some (.cells true true true 4 [a,b,x,y]))=some (.ae [],a7 hp id (.cells true true true 4 [.int .i64 s,v,.int .i64 t,w]),ct):=by
 rw [zJ (by rfl) (by simp) (by simp [cp,hv.one,hw.one,ahl])];simp [aG,hv.pu,hw.pu,over,aiA]
def mZ {s t:Int} {v w:AV} {l m:List Nat} (hv:bV v l) (hw:bV w m) (hp:Hp):result hp (.agg [ab s,v,ab t,w])=some (.agg [ab s,v,ab t,w]):=by
 rcases hv with ⟨rfl,_⟩ | ⟨e,rfl⟩<;>rcases hw with ⟨rfl,_⟩ | ⟨e',rfl⟩<;>rfl
variable {P:aK} {L:Lib}
structure Fr' (P:aK) (L:Lib):Prop extends Nu P L where
 aCl:Has P L 101 nf
 h69:Has P L 69 KZ
 aCm:Has P L 111 Ue
 h98:Has P L 98 PU
 aCn:Has P L 108 Ud
 aCo:Has P L 102 Uc
 h74:Has P L 74 Ar
 h50:Has P L 50 KY
 oO:Has P L 49 c49
 h73:Has P L 73 BZ
 h70:Has P L 70 K0
 h71:Has P L 71 Gw
 aI0:Has P L 149 aj1
def aiJ (h:Fr' P L) {s1 s2:Int} {w1 w2:AV} {a b:Int} {K:Nat} (h1:dC s1 w1 a) (h2:dC s2 w2 b) (dW:0<b) (ka:Bd K a) (kb:Bd K b) (hK:K<=30000000000):
  ∃r,eN r (wE a b)/\∀tm,ai tm 2= .ptr 0 0->ai tm 3= .ptr 1 0->ai tm 4= .ptr 2 0->gM [.cell 4 4 true] (D P L (az (az nf.body)) ⟨tm,[(2,.cells true true true 4 [.int .i64 0,.aa,.int .i64 0,.aa]),(1,.cells true true true 2 [ab s2,w2]),(0,.cells true true true 2 [ab s1,w1])],3,0⟩)=some r:=by
 have hv:cG (.agg [ab s1,w1]) a:=⟨s1,w1,rfl,h1⟩;have hw:cG (.agg [ab s2,w2]) b:=⟨s2,w2,rfl,h2⟩;obtain ⟨p1,p2⟩:=QN (a:=a) dW;have hgp:=MZ (a:=a) dW;have hgk:Bd K ((vc a b:Nat):Int):=kb.le (by
  have:=Int.gcd_le_natAbs_right a (show b≠0 by omega)
  omega)
 obtain ⟨g,e2,hg⟩:=alk h.toNu hv hw ka kb hK;obtain ⟨q1,e4,fm⟩:=alj h.toNu hv hg hgp ka hgk hK;obtain ⟨q2,e5,GF⟩:=alj h.toNu hw hg hgp kb hgk hK;rw [<-p1] at fm;rw [<-p2] at GF;obtain ⟨s3,w3,rfl,h3⟩:=hg;obtain ⟨s4,w4,rfl,h4⟩:=fm;obtain ⟨s5,w5,rfl,h5⟩:=GF;obtain ⟨l1,u1⟩:=h1.a6;obtain ⟨l2,u2⟩:=h2.a6;obtain ⟨l3,u3⟩:=h3.a6;obtain ⟨l4,u4⟩:=h4.a6;obtain ⟨l5,u5⟩:=h5.a6;by_cases eh:w2= .aa/\s2=1
 ·obtain ⟨rfl,rfl⟩:=eh;have kW:b=1:=by
   rcases h2 with ⟨_,h,_⟩ | ⟨_,_,h,_⟩
   ·exact h.symm
   ·cases h
  subst kW;rw [Int.gcd_one] at p1 p2;have p1:(wE a 1).num=a:=by rw [p1];exact Int.ediv_one a
  refine ⟨.agg [ab s1,w1,ab 1,.aa],⟨s1,w1,1,.aa,rfl,by rw [p1];exact h1,by rw [p2];exact h2⟩,fun tm t2 t3 t4=>?_⟩
  have un:=zi;simp only [go_sem,ya,nf,az,t2,t3,t4,u1.one,cu,b5,ye,de,gX,eC,EB,EC,mY u1 un,fq,fu,yL,jx,mZ u1 un]
 ·refine ⟨.agg [ab s4,w4,ab s5,w5],⟨s4,w4,s5,w5,rfl,h4,h5⟩,fun tm t2 t3 t4=>?_⟩;rcases u2 with ⟨rfl,_⟩ | ⟨e,rfl⟩
  ·simp only [go_sem,ya,yb,nf,az,t2,t3,t4,bi,u1.ap,cu,cD,b5,ye,de,gX,eC,show ¬s2=1 from fun e=>eh ⟨rfl,e⟩,e2,e4,e5,cd,fq,fu,cu,yL,eb u3,u3.ap,u4.one,u5.one,EB,EC,mY u4 u5,jx,mZ u4 u5]
  ·simp only [go_sem,ya,yb,nf,az,t2,t3,t4,bi,u1.ap,cu,cD,b5,ye,de,nY,eC,e2,e4,e5,cd,fq,fu,cu,yL,eb u3,u3.ap,u4.one,u5.one,EB,EC,mY u4 u5,jx,mZ u4 u5]
def YR (h:Fr' P L) {v w:AV} {a b:Int} {K:Nat} (hv:cG v a) (hw:cG w b) (dW:b≠0) (ka:Bd K a) (kb:Bd K b) (hK:K<=30000000000):∃r,ak P L 101 [v,w] r/\eN r (wE a b):=by
 have e1:=F3 h.toNu hw;have eG:=hv;have GK:=hw;obtain ⟨s1,w1,rfl,h1⟩:=hv;obtain ⟨s2,w2,rfl,h2⟩:=hw;obtain ⟨l1,u1⟩:=h1.a6;obtain ⟨l2,u2⟩:=h2.a6;have fin:∀r t1 t2 v1 v2 tm,(∀tm,ai tm 2= .ptr 0 0->ai tm 3= .ptr 1 0->ai tm 4= .ptr 2 0->gM [.cell 4 4 true] (D P L (az (az nf.body)) ⟨tm,[(2,.cells true true true 4 [.int .i64 0,.aa,.int .i64 0,.aa]),(1,.cells true true true 2 [ab t2,v2]),(0,.cells true true true 2 [ab t1,v1])],3,0⟩)=some r)->ai tm 2= .ptr 0 0->ai tm 3= .ptr 1 0->ai tm 4= .ptr 2 0->
   D P L (.seq (bw nf.body) (bw (az nf.body))) ⟨[(0,.agg [ab s1,w1]),(1,.agg [ab s2,w2])],[],0,0⟩=some (.normal,⟨tm,[(2,.cells true true true 4 [.int .i64 0,.aa,.int .i64 0,.aa]),(1,.cells true true true 2 [ab t2,v2]),(0,.cells true true true 2 [ab t1,v1])],3,0⟩)->ak P L 101 [.agg [ab s1,w1],.agg [ab s2,w2]] r:=fun r t1 t2 v1 v2 tm tail k2 k3 k4 e=>by
  unfold ak;rw [aH h.aCl];show gM [.cell 4 4 true] (D P L (.seq (bw nf.body) (.seq (bw (az nf.body)) (az (az nf.body)))) ⟨[(0,.agg [ab s1,w1]),(1,.agg [ab s2,w2])],[],0,0⟩)=_
  rw [CA,e,fB];exact tail tm k2 k3 k4
 by_cases hn:b<0
 ·obtain ⟨n1,e2,eV⟩:=F5 h.toNu eG ka (by omega);obtain ⟨n2,e3,dQ⟩:=F5 h.toNu GK kb (by omega);obtain ⟨s3,w3,rfl,h3⟩:=eV;obtain ⟨s4,w4,rfl,h4⟩:=dQ;obtain ⟨l3,u3⟩:=h3.a6;obtain ⟨l4,u4⟩:=h4.a6;obtain ⟨r,hr,tail⟩:=aiJ h h3 h4 (by omega) ka.neg kb.neg hK;rw [Rat.neg_divInt_neg] at hr;have hs:cT b<0:=by unfold cT;rw [yM hn];decide
  refine ⟨r,fin r _ _ _ _ _ tail ?_ ?_ ?_ (by simp only [go_sem,ya,yb,nf,bw,az,hs,bi,u1.pu,u1.ap,u1.one,u2.pu,u2.ap,u2.one,cu,cD,e1,e2,e3,cd,eb u3,eb u4]<;>rfl),hr⟩<;>simp only [go_sem,ya]
 ·obtain ⟨r,hr,tail⟩:=aiJ h h1 h2 (by omega) ka kb hK;have hs:¬cT b<0:=by unfold cT;rw [yx hn];split<;>decide
  refine ⟨r,fin r _ _ _ _ _ tail ?_ ?_ ?_ (by simp only [go_sem,ya,yb,nf,bw,az,hs,bi,u1.pu,u1.one,u2.pu,u2.ap,u2.one,cu,cD,e1]<;>rfl),hr⟩<;>simp only [go_sem,ya]
end
end
section
open Go (IntKind)
def Hq.mono {k m:Nat} {r:Rat} (h:Hq k r) (hk:k<=m):Hq m r:=⟨h.1.mono hk,h.2.mono hk⟩
def Hq.neg {k:Nat} {r:Rat} (h:Hq k r):Hq k (-r):=⟨h.1.neg,h.2⟩
def add_eq (a b:Rat):a+b=wE (a.num*b.den+b.num*a.den) ((a.den:Int)*b.den):=by
 rw [Rat.add_def',<-yaV,ve]
def mul_eq (a b:Rat):a*b=wE (a.num*b.num) ((a.den:Int)*b.den):=by
 rw [Rat.mul_def',<-yaV,ve]
def adZ (a:Rat):0<(a.den:Int):=by have:=a.den_pos;omega
def Ei (a b:Rat):0<(a.den:Int)*b.den:=Int.mul_pos (adZ a) (adZ b)
def Bd.YS {k:Nat} {a b:Int} (ha:Bd k a) (hb:Bd k b):Bd (k+1) (a+b):=by
 have:=ha.add hb
 grind
def Hq.add {k m:Nat} {a b:Rat} (ha:Hq k a) (hb:Hq m b):Hq (k+m+1) (a+b):=by
 rw [add_eq];refine Hq.divInt (Ei a b) ?_ ((ha.2.mul hb.2).mono (by omega));exact (ha.1.mul hb.2).YS ((hb.1.mul ha.2).mono (by omega))
def Hq.mul {k m:Nat} {a b:Rat} (ha:Hq k a) (hb:Hq m b):Hq (k+m) (a*b):=by
 rw [mul_eq];exact Hq.divInt (Ei a b) (ha.1.mul hb.1) (ha.2.mul hb.2)
def Hq.inv {k:Nat} {a:Rat} (ha:Hq k a):Hq k a⁻¹:=by
 have h1:(a⁻¹).num.natAbs<=a.den:=by
  rw [Rat.num_inv,ybh]
  grind
 refine ⟨ha.2.le (by simpa using h1),?_⟩;unfold Bd;rw [Rat.den_inv]
 split
 ·have h2:=ha.2;unfold Bd at h2
  simp_all
 ·exact ha.1
def Sw (a:Rat) (h:a.den=1):a=(a.num:Rat):=by
 have:=Rat.num_divInt_den a
 rw [h] at this;rw [<-this];exact (Rat.ext (by simp [ybi]) (by simp [ybj]))
def Fc (a b c d:AV) (r:List AV):iy 2 true (List.drop 2 (a::b::c::d::r))=some (.agg [c,d]):=rfl
def zM (a b:AV) (r:List AV):iy 2 true (a::b::r)=some (.agg [a,b]):=rfl
section
variable {P:aK} {L:Lib}
def YT (h:Fr' P L) {v:AV} {z:Int} (hv:cG v z):∃r,ak P L 111 [v] r/\eN r (z:Rat):=by
 obtain ⟨o1,o2⟩:=Dz h.toNu (z:=1) (by decide) (by decide);obtain ⟨s1,w1,rfl,h1⟩:=hv;obtain ⟨l1,u1⟩:=h1.a6;have un:=zi;refine ⟨.agg [ab s1,w1,ab 1,.aa],?_,s1,w1,1,.aa,rfl,h1,.inl ⟨rfl,rfl,(by show (-9223372036854775808:Int)<=1;decide),(by show (1:Int)<9223372036854775808;decide)⟩⟩
 unfold ak;rw [aH h.aCm];simp only [go_sem,ya,yb,Ue,bi,u1.pu,u1.one,cu,o1,cd,EB,EC,mY u1 un,fq,fu,yL,jx,mZ u1 un]
def m69 (h:Fr' P L) {z:Int} (h1: -9223372036854775808<=z) (h2:z<9223372036854775808):∃r,ak P L 69 [ab z] r/\eN r (z:Rat):=by
 obtain ⟨o1,o2⟩:=Dz h.toNu h1 h2;obtain ⟨r,e,hr⟩:=YT h o2;have bP:=hr;obtain ⟨s1,w1,s2,w2,rfl,k1,k2⟩:=hr;obtain ⟨l1,u1⟩:=k1.a6;obtain ⟨l2,u2⟩:=k2.a6;refine ⟨_,?_,bP⟩;unfold ak;rw [aH h.h69];simp only [go_sem,ya,yb,KZ,bi,cD,o1,e,cd,mY u1 u2,fq,fu,yL,jx,mZ u1 u2]
def m98 (h:Fr' P L) {v:AV} {a:Rat} (hv:eN v a):ak P L 98 [v] (.bool (decide (a.den=1))):=by
 obtain ⟨s1,w1,s2,w2,rfl,h1,h2⟩:=hv;obtain ⟨l1,u1⟩:=h1.a6;unfold ak;rw [aH h.h98];rcases h2 with ⟨rfl,rfl,b1,b2⟩ | ⟨e,l,rfl,gb,nb,vb,sb,b1⟩
 ·have e:decide (((a.den:Nat):Int)=1)=decide (a.den=1):=by simp;omega
  simp only [go_sem,ya,yb,PU,bi,u1.pu,u1.one,b5,ye,aAG,ajk,gX,eC,e]
 ·have e:decide (a.den=1)=false:=y8 (by omega);rw [e];simp only [go_sem,ya,yb,PU,bi,u1.pu,u1.one,b5,ye,ajk,nY,eC]
def alm (h:Fr' P L) {v:AV} {a:Rat} (hv:eN v a):ak P L 108 [v] (ab (cT a.num)):=by
 obtain ⟨s1,w1,s2,w2,rfl,h1,h2⟩:=hv;obtain ⟨l1,u1⟩:=h1.a6;obtain ⟨l2,u2⟩:=h2.a6;have e1:=F3 h.toNu ⟨s1,w1,rfl,h1⟩;unfold ak;rw [aH h.aCn];simp only [go_sem,ya,yb,Ud,bi,u1.pu,u1.ap,u1.one,u2.pu,u2.one,b5,ye,zM,cD,e1]
def aCp (h:Fr' P L) {v:AV} {a:Rat} {K:Nat} (hv:eN v a) (ka:Hq K a) (hK:K<=30000000000):∃r,ak P L 102 [v] r/\eN r (-a):=by
 obtain ⟨s1,w1,s2,w2,rfl,h1,h2⟩:=hv;obtain ⟨l1,u1⟩:=h1.a6;obtain ⟨l2,u2⟩:=h2.a6;obtain ⟨n,e1,hn⟩:=F5 h.toNu ⟨s1,w1,rfl,h1⟩ ka.1 (by omega);obtain ⟨s3,w3,rfl,h3⟩:=hn;obtain ⟨l3,u3⟩:=h3.a6;refine ⟨.agg [ab s3,w3,ab s2,w2],?_,s3,w3,s2,w2,rfl,h3,h2⟩;unfold ak;rw [aH h.aCo];simp only [go_sem,ya,yb,Uc,bi,u1.pu,u1.ap,u1.one,u2.pu,u2.one,u3.one,b5,ye,zM,Fc,cD,e1,cd,EB,EC,mY u3 u2,fq,fu,yL,jx,mZ u3 u2]
def m74 (h:Fr' P L) {v w:AV} {a b:Rat} {K:Nat} (hv:eN v a) (hw:eN w b) (ka:Hq K a) (kb:Hq K b) (hK:K<=10000000000):∃r,ak P L 74 [v,w] r/\eN r (a+b):=by
 have i1:=m98 h hv;have i2:=m98 h hw;obtain ⟨s1,w1,s2,w2,rfl,h1,h2⟩:=hv;obtain ⟨s3,w3,s4,w4,rfl,h3,h4⟩:=hw;obtain ⟨l1,u1⟩:=h1.a6;obtain ⟨l2,u2⟩:=h2.a6;obtain ⟨l3,u3⟩:=h3.a6;obtain ⟨l4,u4⟩:=h4.a6;have n1:cG (.agg [ab s1,w1]) a.num:=⟨s1,w1,rfl,h1⟩;have n2:cG (.agg [ab s2,w2]) a.den:=⟨s2,w2,rfl,h2⟩;have n3:cG (.agg [ab s3,w3]) b.num:=⟨s3,w3,rfl,h3⟩;have n4:cG (.agg [ab s4,w4]) b.den:=⟨s4,w4,rfl,h4⟩;by_cases kZ:a.den=1/\b.den=1
 ·obtain ⟨d1,d2⟩:=kZ;obtain ⟨p,e1,hp⟩:=Kl h.toNu n1 n3 ka.1 kb.1 (by omega);obtain ⟨r,e2,hr⟩:=YT h hp;have he:((a.num+b.num:Int):Rat)=a+b:=by
   rw [Rat.intCast_add,<-Sw a d1,<-Sw b d2]
  rw [he] at hr;have bP:=hr;obtain ⟨s5,w5,rfl,h5⟩:=hp;obtain ⟨s6,w6,s7,w7,rfl,h6,h7⟩:=hr;obtain ⟨l5,u5⟩:=h5.a6;obtain ⟨l6,u6⟩:=h6.a6;obtain ⟨l7,u7⟩:=h7.a6;refine ⟨_,?_,bP⟩;rw [d1] at i1;rw [d2] at i2;unfold ak;rw [aH h.h74];simp only [go_sem,ya,yb,Ar,bi,u1.pu,u1.ap,u1.one,u2.pu,u2.ap,u2.one,u3.pu,u3.ap,u3.one,u4.pu,u4.ap,u4.one,b5,ye,jx,zM,cD,i1,i2,e1,u5.ap,e2,cd,mY u6 u7,fq,fu,yL,jx,mZ u6 u7]
 ·obtain ⟨p1,e1,bc⟩:=BE h.toNu n1 n4 ka.1 kb.2 (by omega);obtain ⟨p2,e2,fX⟩:=BE h.toNu n3 n2 kb.1 ka.2 (by omega);obtain ⟨p3,e3,D4⟩:=Kl h.toNu bc fX (ka.1.mul kb.2) (kb.1.mul ka.2) (by omega);obtain ⟨p4,e4,Ql⟩:=BE h.toNu n2 n4 ka.2 kb.2 (by omega);obtain ⟨r,e5,hr⟩:=YR h D4 Ql (by have:=Ei a b;omega) ((ka.1.mul kb.2).YS (kb.1.mul ka.2)) ((ka.2.mul kb.2).mono (by omega)) (by omega);rw [<-add_eq] at hr;have bP:=hr;obtain ⟨s5,w5,rfl,h5⟩:=bc;obtain ⟨s6,w6,rfl,h6⟩:=fX;obtain ⟨s7,w7,rfl,h7⟩:=D4;obtain ⟨s8,w8,rfl,h8⟩:=Ql;obtain ⟨s9,w9,s10,Qm,rfl,h9,iO⟩:=hr;obtain ⟨l5,u5⟩:=h5.a6;obtain ⟨l6,u6⟩:=h6.a6;obtain ⟨l7,u7⟩:=h7.a6;obtain ⟨l8,u8⟩:=h8.a6;obtain ⟨l9,u9⟩:=h9.a6;obtain ⟨l10,Qn⟩:=iO.a6;refine ⟨_,?_,bP⟩;unfold ak;rw [aH h.h74];by_cases d1:a.den=1
  ·rw [d1] at i1;rw [y8 (fun d2=>kZ ⟨d1,d2⟩)] at i2;simp only [go_sem,ya,yb,Ar,bi,u1.pu,u1.ap,u1.one,u2.pu,u2.ap,u2.one,u3.pu,u3.ap,u3.one,u4.pu,u4.ap,u4.one,b5,ye,jx,zM,Fc,cD,i1,i2,e1,e2,u5.ap,u6.ap,e3,e4,u7.ap,u8.ap,e5,cd,mY u9 Qn,fq,fu,yL,jx,mZ u9 Qn]
  ·rw [y8 d1] at i1;simp only [go_sem,ya,yb,Ar,bi,u1.pu,u1.ap,u1.one,u2.pu,u2.ap,u2.one,u3.pu,u3.ap,u3.one,u4.pu,u4.ap,u4.one,b5,ye,jx,zM,Fc,cD,i1,e1,e2,u5.ap,u6.ap,e3,e4,u7.ap,u8.ap,e5,cd,mY u9 Qn,fq,fu,yL,jx,mZ u9 Qn]
def m49 (h:Fr' P L) {v w:AV} {a b:Rat} {K:Nat} (hv:eN v a) (hw:eN w b) (ka:Hq K a) (kb:Hq K b) (hK:K<=10000000000):∃r,ak P L 49 [v,w] r/\eN r (a*b):=by
 obtain ⟨s1,w1,s2,w2,rfl,h1,h2⟩:=hv;obtain ⟨s3,w3,s4,w4,rfl,h3,h4⟩:=hw;obtain ⟨l1,u1⟩:=h1.a6;obtain ⟨l2,u2⟩:=h2.a6;obtain ⟨l3,u3⟩:=h3.a6;obtain ⟨l4,u4⟩:=h4.a6;obtain ⟨p1,e1,bc⟩:=BE h.toNu (v:= .agg [ab s1,w1]) (w:= .agg [ab s3,w3]) ⟨s1,w1,rfl,h1⟩ ⟨s3,w3,rfl,h3⟩ ka.1 kb.1 (by omega);obtain ⟨p2,e2,fX⟩:=BE h.toNu (v:= .agg [ab s2,w2]) (w:= .agg [ab s4,w4]) ⟨s2,w2,rfl,h2⟩ ⟨s4,w4,rfl,h4⟩ ka.2 kb.2 (by omega);obtain ⟨r,e3,hr⟩:=YR h bc fX (by have:=Ei a b;omega) (ka.1.mul kb.1) (ka.2.mul kb.2) (by omega);rw [<-mul_eq] at hr;have bP:=hr;obtain ⟨s5,w5,rfl,h5⟩:=bc;obtain ⟨s6,w6,rfl,h6⟩:=fX;obtain ⟨s7,w7,s8,w8,rfl,h7,h8⟩:=hr;obtain ⟨l5,u5⟩:=h5.a6;obtain ⟨l6,u6⟩:=h6.a6;obtain ⟨l7,u7⟩:=h7.a6;obtain ⟨l8,u8⟩:=h8.a6;refine ⟨_,?_,bP⟩;unfold ak;rw [aH h.oO]
 simp only [go_sem,ya,yb,c49,bi,u1.pu,u1.ap,u1.one,u2.pu,u2.ap,u2.one,u3.pu,u3.ap,u3.one,u4.pu,u4.ap,u4.one,u5.ap,u6.ap,b5,ye,zM,Fc,cD,e1,e2,e3,cd,mY u7 u8,fq,fu,yL,jx,mZ u7 u8]
def m73 (h:Fr' P L) {v:AV} {a:Rat} {K:Nat} (hv:eN v a) (h0:a≠0) (ka:Hq K a) (hK:K<=10000000000):∃r,ak P L 73 [v] r/\eN r a⁻¹:=by
 obtain ⟨s1,w1,s2,w2,rfl,h1,h2⟩:=hv;obtain ⟨l1,u1⟩:=h1.a6;obtain ⟨l2,u2⟩:=h2.a6;obtain ⟨r,e1,hr⟩:=YR h (v:= .agg [ab s2,w2]) (w:= .agg [ab s1,w1]) ⟨s2,w2,rfl,h2⟩ ⟨s1,w1,rfl,h1⟩ (fun e=>h0 (Rat.num_eq_zero.1 e)) ka.2 ka.1 (by omega);rw [<-Rat.inv_def] at hr;have bP:=hr;obtain ⟨s7,w7,s8,w8,rfl,h7,h8⟩:=hr;obtain ⟨l7,u7⟩:=h7.a6;obtain ⟨l8,u8⟩:=h8.a6;refine ⟨_,?_,bP⟩;unfold ak;rw [aH h.h73];simp only [go_sem,ya,yb,BZ,bi,u1.pu,u1.ap,u1.one,u2.pu,u2.ap,u2.one,b5,ye,zM,Fc,cD,e1,cd,mY u7 u8,fq,fu,yL,jx,mZ u7 u8]
end
end
section
open Go (IntKind)
def rX:List AV->Option (List Nat)
 | []=>some []
 | .int .u64 (.ofNat d)::r=>bif yQ d 18446744073709551616 then (match rX r with | some l=>some (d::l) | none=>none) else none
 | _::_=>none
def sB:List Nat->Nat
 | []=>0
 | a::r=>a+18446744073709551616*sB r
def Bl:List Nat->Bool
 | []=>false
 | [a]=> !yv a 0
 | _::r=>Bl r
def M6:List AV->Option AV
 | [.agg [.int .i64 s,.aa]]=>bif Bi s then some (.str (aZ s)) else none
 | [.agg [.int .i64 s,.aw _ n cs]]=>
  match rX cs with
  | some l=>
   bif yv l.length n&&(yF n 4000000000&&(Bl l&&yF 9223372036854775808 (sB l))) then
    match s with
    | .ofNat 1=>some (.str (aB (sB l)))
    | .negSucc 0=>some (.str (45::aB (sB l)))
    | _=>none
   else none
  | none=>none
 | _=>none
end
section
open Go (IntKind)
def ab3:∀{l:List Nat},lo 18446744073709551616 l->rX (l.map uc)=some l
 | [],_=>rfl
 | a::l,h=>by
  have h1:=h a (by simp);have h2:=ab3 (l:=l) (fun x hx=>h x (by simp [hx]));show (bif yQ a 18446744073709551616 then (match rX (l.map uc) with | some l=>some (a::l) | none=>none) else none)=_
  rw [kO h1,h2];rfl
def Sx:∀l:List Nat,sB l=bv 18446744073709551616 l
 | []=>rfl
 | a::l=>by simp only [sB,bv,Sx l]
def ad0:∀{l:List Nat},l≠[]->gQ l->Bl l=true
 | [],h,_=>absurd rfl h
 | [a],_,h=>by
  have:a≠0:=fun e=>by
   subst e;have h:dZ [0]=[0]:=h;simp [dZ] at h
  simp [Bl,gF this]
 | a::b::r,_,h=>by
  have h1:gQ (b::r):=by
   have h:dZ (a::b::r)=a::b::r:=h;rw [dZ] at h
   grind
  have:=ad0 (l:=b::r) (by simp) h1
  simpa [Bl] using this
section
variable {P:aK} {L:Lib}
structure Tx (P:aK) (L:Lib):Prop extends Fr' P L where
 GL:L.pure 99=some M6
 aCq:L.pure 175=some IE
 aln:L.pure 152=some L2
 YU:L.pure 153=some LM
 YV:L.pure 154=some Jh
 YW:L.pure 109=some N2
 YX:Has P L 155 Oa
 alo:Has P L 172 Oe
 aCr:Has P L 151 N9
 aCs:Has P L 107 N3
 h46:Has P L 46 sR
 alp:Has P L 110 N4
 Qo:Has P L 62 Gv
def m99 (h:Tx P L) {v:AV} {z:Int} {K:Nat} (hv:cG v z) (hz:Bd K z) (hK:K<=4000000000):ak P L 99 [v] (.str (aZ z)):=by
 obtain ⟨s,w,rfl,hn⟩:=hv;unfold ak;rw [jr h.GL];rcases hn with ⟨rfl,rfl,h1,h2⟩ | ⟨e,l,rfl,g,n,hb,hs,h1⟩
 ·show (bif Bi s then some (AV.str (aZ s)) else none)=_
  have:Bi s=true:=by
   cases s with
   | ofNat k=>exact kO (by have:(Int.ofNat k)=(k:Int):=rfl;omega)
   | negSucc k=>exact kO (by omega)
  grind
 ·have kz:l≠[]:=fun e=>by subst e;simp [bv] at hb;omega
  have jT:l.length<=4000000000:=xm (ot n hb (yU hz (A8 K))) hK
  show (match rX (l.map uc) with
   | some l'=>bif yv l'.length l.length&&(yF l.length 4000000000&&(Bl l'&&yF 9223372036854775808 (sB l'))) then (match s with | .ofNat 1=>some (AV.str (aB (sB l'))) | .negSucc 0=>some (.str (45::aB (sB l'))) | _=>none) else none
   | none=>none)=_
  rw [ab3 g];simp only [Nat.beq_refl,ym jT,ad0 kz n,Sx,hb,ym h1,wm,yA];by_cases h0:z<0
  ·rw [yM h0] at hs;subst hs;rw [mO h0];rfl
  ·rw [yx h0] at hs;subst hs;obtain ⟨m,rfl⟩:∃m:Nat,z=m:=⟨z.toNat,by omega⟩;rfl
def RT (r:Rat):List Nat:=aZ r.num++(if r.den=1 then [] else 47::aB r.den)
def H9 {z:Int} {k:Nat} (h:Bd k z):(aZ z).length<=k+1:=by
 have h1:∀m:Nat,m<2^k->(aB m).length<=max k 1:=fun m hm=>by
  cases k with
  | zero=>
       have:m=0:=by simpa using hm
       subst this;decide
  | succ k=>
   rw [Nat.max_eq_left (by omega)];exact rJ (k:=k) (yU hm (vZ (by decide) _))
 by_cases h0:z<0
 ·rw [mO h0];unfold Bd at h
  grind
 ·obtain ⟨m,rfl⟩:∃m:Nat,z=m:=⟨z.toNat,by omega⟩
  have:=h1 m (by unfold Bd at h;simpa using h)
  rw [lA];omega
def m46 (h:Tx P L) {v:AV} {a:Rat} {K:Nat} (hv:eN v a) (ka:Hq K a) (hK:K<=4000000000):ak P L 46 [v] (.str (RT a)):=by
 have i1:=m98 h.toFr' hv;obtain ⟨s1,w1,s2,w2,rfl,h1,h2⟩:=hv;obtain ⟨l1,u1⟩:=h1.a6;obtain ⟨l2,u2⟩:=h2.a6;have e1:=m99 h (v:= .agg [ab s1,w1]) ⟨s1,w1,rfl,h1⟩ ka.1 hK;have e2:=m99 h (v:= .agg [ab s2,w2]) ⟨s2,w2,rfl,h2⟩ ka.2 hK;have b1:=H9 ka.1;have b2:=H9 ka.2;rw [lA] at e2 b2;unfold ak RT;rw [aH h.h46];by_cases hd:a.den=1
 ·rw [yM hd,List.append_nil];rw [hd] at i1;simp only [go_sem,ya,yb,sR,bi,u1.pu,u1.ap,u1.one,u2.pu,u2.ap,u2.one,jx,cD,i1,b5,ye,zM,e1]
 ·rw [yx hd];rw [y8 hd] at i1;have hc:aZ a.num++47::aB a.den=(aZ a.num++[47])++aB a.den:=by simp
  rw [hc]
  simp only [go_sem,ya,yb,sR,bi,u1.pu,u1.ap,u1.one,u2.pu,u2.ap,u2.one,jx,cD,i1,b5,ye,zM,Fc,e1,e2,gH (a:=aZ a.num) (b:=[47]) (by simp;omega),gH (a:=aZ a.num++[47]) (b:=aB a.den) (by simp;omega)]
end
end
section
open Go (IntKind)
def aCt {n:Nat} (h:n<9223372036854775808):binOp .and (.int .i64 (n:Int)) (.int .i64 1)=some (.int .i64 ((n%2:Nat):Int)):=by
 show some (AV.int .i64 (IntKind.wrap .i64 ((xQ 64 (n:Int)&&&xQ 64 1).toNat:Int)))=_
 rw [show xQ 64 (n:Int)=uH 64 n from BitVec.ofInt_natCast 64 n,show xQ 64 1=uH 64 1 from rfl];rw [BitVec.toNat_and,vJ,vJ,show (1%2^64:Nat)=2^1-1 from rfl,Nat.and_two_pow_sub_one_eq_mod,wrapN (by omega)]
 grind
def aCu (n:Nat):binOp .shr (.int .i64 (n:Int)) (.int .u64 1)=some (.int .i64 ((n/2:Nat):Int)):=by
 show some (AV.int .i64 ((n:Int).fdiv (2^1)))=_
 grind
def Bd.pow {k:Nat} {z:Int} (h:Bd k z):∀e,Bd (k*e+1) (z^e)
 | 0=>by rw [yag,xJ];unfold Bd;decide
 | e+1=>by
  have ih:=Bd.pow h e;rw [Int.pow_succ];exact (ih.mul h).mono (by rw [xI,yf];omega)
section
variable {P:aK} {L:Lib}
def ayX (h:Nu P L) (Pr:True) {z:Int} {K k0:Nat} (hz:Bd K z) (hK:K*k0+1<=30000000000) {o1 o2:AV}:
  ∀m st,(∃(k i e:Nat) (s1 s2:Int) (w1 w2:AV),aI [1,2,4,5] st=⟨[(1,ab k),(2,.ptr 0 0),(4,.ptr 1 0),(5,.ptr 2 0)],[(2,.cells true true true 2 [ab s2,w2]),(1,.cells true true true 2 [o1,o2]),(0,.cells true true true 2 [ab s1,w1])],3,0⟩/\dC s1 w1 (z^i)/\dC s2 w2 (z^e)/\e+i*k=k0/\(0<k->i<=k0)/\k<9223372036854775808/\k=m)->
   ∃ex st',D P L (.loop [1,2,4,5] CK) st=some (ex,st')/\∃tm s2 w2 c0,st'=⟨tm,[(2,.cells true true true 2 [ab s2,w2]),(1,.cells true true true 2 [o1,o2]),(0,c0)],3,0⟩/\ex= .exit 0/\ai tm 4= .ptr 1 0/\ai tm 5= .ptr 2 0/\dC s2 w2 (z^k0):=by
 intro dq sq;generalize bk:aI [1,2,4,5] sq=s0;revert bk s0 sq dq;apply du;rintro m st ⟨k,i,e,s1,s2,w1,w2,rfl,h1,h2,hk,hi,hkb,rfl⟩;obtain ⟨l1,u1⟩:=h1.a6;obtain ⟨l2,u2⟩:=h2.a6;by_cases KL:k=0
 ·right
  subst KL;rw [xJ,yY] at hk;subst hk;simp only [go_sem,CK,show ¬(0:Int)<((0:Nat):Int) by omega];exact ⟨_,_,rfl,by simp,_,s2,w2,_,rfl,rfl,by simp only [go_sem,ya],by simp only [go_sem,ya],h2⟩
 ·left
  have df:=hi (by omega);have he:e<=k0:=by omega
  have hik:i*1<=i*k:=yZ i (by omega);have b1:Bd (K*k0+1) (z^i):=(hz.pow i).mono (by have:=yZ K df;omega);have b2:Bd (K*k0+1) (z^e):=(hz.pow e).mono (by have:=yZ K he;omega);have n1:cG (.agg [ab s1,w1]) (z^i):=⟨s1,w1,rfl,h1⟩;have n2:cG (.agg [ab s2,w2]) (z^e):=⟨s2,w2,rfl,h2⟩;obtain ⟨p,e1,hp⟩:=BE h n2 n1 b2 b1 (by omega);obtain ⟨q,e2,hq⟩:=BE h n1 n1 b1 b1 (by omega);rw [<-Int.pow_add] at hp hq;obtain ⟨s3,w3,rfl,h3⟩:=hp;obtain ⟨s4,w4,rfl,h4⟩:=hq;obtain ⟨l3,u3⟩:=h3.a6;obtain ⟨l4,u4⟩:=h4.a6;have fP:=xU k 2;have Lm:=aCt (n:=k) hkb;have o2':=aCu k;have aIP:(i+i)*(k/2)=i*(2*(k/2)):=by rw [<-Nat.two_mul,Nat.mul_comm 2 i,Nat.mul_assoc]
  by_cases aCv:k%2=1
  ·rw [aCv] at Lm fP;have sH:i*k=i*(2*(k/2))+i:=by
    conv=>lhs;rw [<-fP,xI,yf]
   by_cases nA:1<k
   ·simp only [go_sem,ya,CK,show (0:Int)<(k:Int) by omega,Lm,show ((1:Nat):Int)=1 from rfl,cu,cD,u1.ap,u2.ap,e1,cd,cu,yL,eb u3,eb u4,show (1:Int)<(k:Int) by omega,e2,o2']
    exact ⟨_,k/2,rfl,by omega,k/2,i+i,e+i,s4,s3,w4,w3,by simp only [go_sem,ya,yb,ax],h4,h3,by omega,fun h0=>by have:=yZ (i+i) h0;omega,by omega,rfl⟩
   ·have eh:e+i+i*(k/2)=k0:=by
     have h1:k/2=0:=by omega
     rw [h1] at sH ⊢;omega
    simp only [go_sem,ya,CK,show (0:Int)<(k:Int) by omega,Lm,show ((1:Nat):Int)=1 from rfl,cu,cD,u1.ap,u2.ap,e1,cd,cu,yL,eb u3,show ¬(1:Int)<(k:Int) by omega,o2'];exact ⟨_,k/2,rfl,by omega,k/2,i,e+i,s1,s3,w1,w3,by simp only [go_sem,ya,yb,ax],h1,h3,eh,fun h0=>by omega,by omega,rfl⟩
  ·have DR:k%2=0:=by omega
   rw [DR] at Lm fP;have sH:i*k=i*(2*(k/2)):=by
    conv=>lhs;rw [<-fP,yY]
   simp only [go_sem,ya,CK,show (0:Int)<(k:Int) by omega,Lm,show ((0:Nat):Int)=0 from rfl,vV,cu,cD,u1.ap,cd,cu,yL,eb u4,show (1:Int)<(k:Int) by omega,e2,o2']
   exact ⟨_,k/2,rfl,by omega,k/2,i+i,e,s4,s2,w4,w2,by simp only [go_sem,ya,yb,ax],h4,h2,by omega,fun h0=>by have:=yZ (i+i) h0;omega,by omega,rfl⟩
def aCw (h:Nu P L) (YX:Has P L 155 Oa) {v:AV} {z:Int} {K k:Nat} (hv:cG v z) (hz:Bd K z) (hK:K*k+1<=30000000000) (hk:k<9223372036854775808):∃r,ak P L 155 [v,ab k] r/\cG r (z^k):=by
 obtain ⟨o1,o2⟩:=Dz h (z:=1) (by decide) (by decide);obtain ⟨s1,w1,rfl,h1⟩:=hv;obtain ⟨l1,u1⟩:=h1.a6;have un:=zi;have je:∃s w,ak P L 155 [.agg [ab s1,w1],ab k] (.agg [ab s,w])/\dC s w (z^k):=by
  unfold ak;rw [aH YX];simp only [go_sem,ya,yb,Oa,bi,u1.pu,u1.one,o1,cd,eb un];generalize hq:D P L (.loop [1,2,4,5] CK) _=q;obtain ⟨ex,st,rfl,tm,s5,w5,c1,rfl,rfl,t4,t5,h5⟩:=bJ hq (ayX (P:=P) (L:=L) h trivial hz (k0:=k) hK (o1:= .int .i64 0) (o2:= .aa) k) ⟨k,1,0,s1,1,w1,.aa,by simp only [go_sem,ya,yb,ax],by rw [Int.pow_one];exact h1,.inl ⟨rfl,(yag z).symm,(by rw [yag];decide)⟩,by omega,fun h0=>h0,hk,rfl⟩
  obtain ⟨l5,u5⟩:=h5.a6;refine ⟨s5,w5,?_,h5⟩;simp only [go_sem,ya,yb,ax,t4,t5,fq,fu,cu,yL,mX u5,eb u5]
 obtain ⟨s,w,e,hn⟩:=je;exact ⟨_,e,s,w,rfl,hn⟩
def Ij:∀(l m:List Nat) (a:Nat),cP (l++m) a=(cP l a).bind (fun v=>cP m v)
 | [],m,a=>rfl
 | b::l,m,a=>by
  simp only [List.cons_append,cP]
  cases (yF 48 b&&yF b 57) with
  | true=>exact Ij l m _
  | false=>rfl
def as3:∀{l:List Nat} {a v:Nat},cP l 0=some v->cP l a=some (a*10^l.length+v):=by
 intro l
 suffices h:∀{l:List Nat} {a b v:Nat},cP l b=some v->b*10^l.length<=v/\cP l (a+b)=some (a*10^l.length+v) by
  intro a v hv
  have:=(h (a:=a) hv).2
  grind
 intro l
 induction l with
 | nil=>intro a b v h;simp [cP] at h ⊢;omega
 | cons c l ih=>
  intro a b v h;simp only [cP] at h ⊢
  cases hb:(yF 48 c&&yF c 57) with
  | false=>rw [hb] at h;cases h
  | true=>
   rw [hb] at h;obtain ⟨h1,h2⟩:=ih (a:=10*a) h;simp only [yz,xd]
   grind
def Sy:∀{l:List Nat} {v:Nat},cP l 0=some v->v<10^l.length:=by
 suffices h:∀{l:List Nat} {b v:Nat},cP l b=some v->v<(b+1)*10^l.length by
  grind
 intro l
 induction l with
 | nil=>intro b v h;simp [cP] at h ⊢;omega
 | cons c l ih=>
  intro b v h;simp only [cP] at h
  cases hb:(yF 48 c&&yF c 57) with
  | false=>rw [hb] at h;cases h
  | true=>
   simp only [Bool.and_eq_true] at hb;have hc:=Nat.le_of_ble_eq_true hb.2;have h2:=Nat.mul_le_mul_right (10^l.length) (show 10*b+(c-48)+1<=10*(b+1) by omega)
   grind
def au5 (YV:L.pure 154=some Jh) {f:cA} {s:List Nat} {v:Nat} (h0:0<s.length) (h1:s.length<=18) (hv:cP s 0=some v):bL P L f 154 [.str s]=some (.ae [.int .i64 v,.undef]):=by
 rw [jr YV];show (bif yQ 0 s.length&&yF s.length 18 then (match cP s 0 with | some n=>some (AV.ae [.int .i64 n,.undef]) | none=>none) else none)=_
 rw [kO h0,ym h1,hv];rfl
end
end
section
open Go (IntKind)
def acV:∀j:Nat,gZ [48] j++[48]=[48]++gZ [48] j
 | 0=>rfl
 | j+1=>by
  show ([48]++gZ [48] j)++[48]=[48]++([48]++gZ [48] j)
  rw [xy,acV j]
def Eu:∀j:Nat,(gZ [48] j).length=j
 | 0=>rfl
 | j+1=>by show ([48]++gZ [48] j).length=_;rw [yG,Eu j];simp;omega
def aqW:∀(k n:Nat),n<10^k->0<k->iJ k n=gZ [48] (k-(aB n).length)++aB n:=by
 intro k
 induction k with
 | zero=>intro n _ h;omega
 | succ k ih=>
  intro n hn _;rw [iJ];by_cases iO:n<10
  ·rw [oW iO,yW iO]
   cases k with
   | zero=>rfl
   | succ k=>
    rw [ih (n/10) (by rw [wT iO];exact ybO (by decide)) (by omega),wT iO]
    rw [show aB 0=[48] by decide];rw [acV];rfl
  ·have hk:0<k:=by
    grind
   rw [ih (n/10) (by rw [xd] at hn;omega) hk,qG iO,xy,yG]
   grind
def aqX {m d r:Nat} (hd:d=m/1000000000000000000) (hr:r=m%1000000000000000000):(0<d->aB m=aB d++(gZ [48] (18-(aB r).length)++aB r))/\(d=0->aB m=aB r):=by
 have hrb:r<10^18:=by omega
 constructor
 ·intro h0;rw [<-aqW 18 r hrb (by decide),<-MB 18 d r h0 hrb]
  grind
 ·grind
section
variable {P:aK} {L:Lib}
def ayY {f:cA} (h:L.pure 138=some AH) {n:Nat} (hn:n<18446744073709551616):bL P L f 138 [uc n,ab 10]=some (.str (aB n)):=by
 rw [jr h];show (bif yQ n 18446744073709551616 then some (AV.str (aB n)) else none)=_
 rw [kO hn];rfl
def Tc {f:cA} (h:L.pure 139=some AZ) {n:Nat} (hn:n<=100):bL P L f 139 [.str [48],ab (n:Nat)]=some (.str (gZ [48] n)):=by
 rw [jr h];show (bif yF n 1099511627776&&yF (1*n) 1099511627776 then some (AV.str (gZ [48] n)) else none)=_
 rw [ym (by omega),ym (by omega)];rfl
def ayZ (h:Wd P L) (DB:L.pure 138=some AH) (Ad:L.pure 139=some AZ) {neg:Bool} {M K:Nat} (Qp:0<M) (hK:K<=4000000000) (hlen:(aB M).length<=300000000000):
  ∀k s,(∃(m:Nat) (w:AV) (ps:List (List Nat)) (fl:Bool),m=k/\WN w m/\m<18446744073709551616^K/\aB M=(if m=0 then [] else aB m)++ps.reverse.flatten/\((ps=[]->m=M)/\18*ps.length<=(aB M).length+18)/\(m≠0->18*ps.length+(aB m).length=(aB M).length)/\
    ((ps=[]/\aI [3,4,5,6] s=⟨[(3,.bool neg),(4,w),(5,.ao 0 0 1),(6,.aa)],[(0,.cells fl true true 1 [uc 1000000000000000000])],1,0⟩)\/
    (ps≠[]/\aI [3,4,5,6] s=⟨[(3,.bool neg),(4,w),(5,.ao 0 0 1),(6,.ao 1 0 ps.length)],[(1,.cells true true false 1 (ps.map .str)),(0,.cells fl true true 1 [uc 1000000000000000000])],2,0⟩)))->
   ∃ex s',D P L (.loop [3,4,5,6] pC) s=some (ex,s')/\∃tm ps fl,ex= .exit 0/\ps≠[]/\ps.length<=300000000000/\aB M=ps.reverse.flatten/\ai tm 3= .bool neg/\ai tm 6= .ao 1 0 ps.length/\s'=⟨tm,[(1,.cells true true false 1 (ps.map .str)),(0,.cells fl true true 1 [uc 1000000000000000000])],2,0⟩:=by
 intro dq sq;generalize bk:aI [3,4,5,6] sq=s0;revert bk s0 sq dq;apply du;rintro k s ⟨m,w,ps,fl,rfl,hw,hmK,AB,alq,dP,hs⟩;obtain ⟨lw,uw,gw,nw,vw⟩:=hw;by_cases hm:m=0
 ·right
  have kz:lw=[]:=List.eq_nil_of_length_eq_zero (Nat.le_zero.1 (ot (K:=0) nw vw (by rw [hm];decide)))
  subst kz;rw [yM hm,xB] at AB;have dd:ps≠[]:=fun e=>by have:=alq.1 e;omega
  have Qq:ps.length<=300000000000:=by have:=alq.2;omega
  rcases hs with ⟨h0,_⟩ | ⟨_,rfl⟩
  ·exact absurd h0 dd
  ·simp only [go_sem,ya,pC,uw.len,yK,show ¬(0:Int)<((0:Nat):Int) by omega];exact ⟨_,_,rfl,by simp,_,ps,fl,rfl,dd,Qq,AB,by simp only [go_sem,ya],by simp only [go_sem,ya],rfl⟩
 ·left
  have hw:WN w m:=⟨lw,uw,gw,nw,vw⟩;have hB:WN (.aw true 1 [uc 1000000000000000000]) 1000000000000000000:=⟨[1000000000000000000],mQ true [1000000000000000000],E1.2 (by decide),by decide,by simp [bv]⟩;obtain ⟨q,r,e1,hq,hr⟩:=ala h hw hB (K:=K+1) (by decide) (yU hmK (xh (by decide) (by omega))) (by rw [xd];have:=ybO (n:=K) (show 0<18446744073709551616 by decide);omega) (by omega)
  obtain ⟨t1,t2⟩:=aqX (m:=m) rfl rfl;have fP:=xU m 1000000000000000000;have hrB:=xF m (show 0<1000000000000000000 by decide);obtain ⟨d,hd⟩:∃d,d=m/1000000000000000000:=⟨_,rfl⟩;obtain ⟨x,hx⟩:∃x,x=m%1000000000000000000:=⟨_,rfl⟩;rw [<-hd] at hq t1 t2 fP;rw [<-hx] at hr t1 t2 fP hrB;obtain ⟨lq,uq,gq,nq,vq⟩:=hq;obtain ⟨lr,ur,gr,nr,vr⟩:=hr;have hxl:(aB x).length<=18:=rJ (k:=17) (by omega);have hxp:=zh x;have K9:(lr=[]/\x=0)\/lr=[x]:=by
   have h1:lr.length<=1:=ot (K:=1) nr vr (by rw [ybQ];omega)
   cases lr with
   | nil=>exact .inl ⟨rfl,by rw [<-vr];rfl⟩
   | cons a l=>
    cases l with
    | nil=>rw [A7] at vr;exact .inr (by rw [vr])
    | cons b l=>simp at h1
  have Ln:(lq=[]/\d=0)\/(0<lq.length/\0<d):=by
   cases lq with
   | nil=>exact .inl ⟨rfl,by rw [<-vq];rfl⟩
   | cons a l=>
    refine .inr ⟨by simp,?_⟩;rcases Nat.eq_zero_or_pos d with h0 | h0
    ·have:=ot (K:=0) nq vq (by rw [h0];decide)
     simp at this
    ·exact h0
  unfold ak at e1;have Cb:(0:Int)<(lw.length:Int):=by
   have:lw≠[]:=fun e=>by subst e;simp [bv] at vw;omega
   have:=tk.2 this
   omega
  have aI1:=dP hm;have hmp:=zh m;have new:∀t:List Nat,aB m=(if d=0 then [] else aB d)++t->(d≠0->t.length=18)->
    aB M=(if d=0 then [] else aB d)++(ps++[t]).reverse.flatten/\((ps++[t]=[]->d=M)/\18*(ps++[t]).length<=(aB M).length+18)/\(d≠0->18*(ps++[t]).length+(aB d).length=(aB M).length):=fun t h1 h2=>by
   rw [yx hm,h1] at AB;refine ⟨by rw [AB];simp,⟨by simp,by simp only [yG,yz,yK];omega⟩,fun h0=>?_⟩
   have h3:=congrArg List.length h1;rw [yx h0,yG,h2 h0] at h3;simp only [yG,yz,yK];omega
  have BF:d<m:=by omega
  have Cc:WN q d:=⟨lq,uq,gq,nq,vq⟩;have oL:lr=[x]->jG 1 0 r=some (.b6 (.int .u64 x::([]:List AV))):=fun e=>by
   subst e
   have:=ur.aY (i:=0) (by simp)
   simpa using this
  have f1:=ayY (P:=P) (f:=D P L) DB (n:=x) (by omega);have f2:=Tc (P:=P) (f:=D P L) Ad (n:=18-(aB x).length) (by omega);have YY:(18:Int)-((aB x).length:Int)=((18-(aB x).length:Nat):Int):=by omega
  have aI2:18*ps.length<=300000000000:=by omega
  have zl:(gZ [48] (18-(aB x).length)++aB x).length=18:=by rw [yG,Eu];omega
  obtain ⟨z,hz⟩:∃z,z=aB x:=⟨_,rfl⟩;have jE:x=0->z=[48]:=fun e=>by rw [hz,e];decide
  rw [<-hz] at f1 f2 YY hxl hxp zl t1 t2;cases fl
  all_goals
   rcases Ln with ⟨rfl,iC⟩ | ⟨Qr,iC⟩
   ·obtain ⟨n1,n2,n3⟩:=new z (by rw [yM iC,xB];exact t2 iC) (fun h=>absurd iC h)
    rcases K9 with ⟨rfl,Aw⟩ | rfl
    ·have lV:=jE Aw;clear hz;subst lV;rcases hs with ⟨iz,rfl⟩ | ⟨iz,rfl⟩
     ·subst iz;simp only [go_sem,ya,yb,xt,yD,yk,yf,pC,uw.len,uw.ap,uq.len,uq.bK,ur.len,ur.bK,Cb,e1,yK,yK,show ¬(0:Int)<((0:Nat):Int) by omega,ij];refine ⟨_,d,rfl,BF,d,q,[]++[[48]],false,rfl,Cc,by omega,n1,n2,n3,.inr ⟨by simp,?_⟩⟩;simp only [go_sem,ya,yb,ax,aD uq.pu,aE _ uq.pu]<;>rfl
     ·simp only [go_sem,ya,yb,yD,yk,yf,pC,uw.len,uw.ap,uq.len,uq.bK,ur.len,ur.bK,Cb,e1,yK,yK,show ¬(0:Int)<((0:Nat):Int) by omega]
      rw [fS (ex:=false) (pu:=true) (cs:=ps.map .str) (by simp only [go_sem,ya]) (by simp) (by omega) (by omega) (by decide) (by simp only [go_sem])];simp only [go_sem,ya,yb];refine ⟨_,d,rfl,BF,d,q,ps++[[48]],false,rfl,Cc,by omega,n1,n2,n3,.inr ⟨by simp,?_⟩⟩;rw [xi,yG];simp only [go_sem,ya,yb,ax,aD uq.pu,aE _ uq.pu]<;>rfl
    ·rcases hs with ⟨iz,rfl⟩ | ⟨iz,rfl⟩
     ·subst iz;simp only [go_sem,ya,yb,xt,yD,yk,yf,pC,uw.len,uw.ap,uq.len,uq.bK,ur.len,ur.bK,Cb,e1,yz,yK,ye,show (0:Int)<((1:Nat):Int) by omega,oL rfl,f1,yK,show ¬(0:Int)<((0:Nat):Int) by omega,ij];refine ⟨_,d,rfl,BF,d,q,[]++[z],false,rfl,Cc,by omega,n1,n2,n3,.inr ⟨by simp,?_⟩⟩;simp only [go_sem,ya,yb,ax,aD uq.pu,aE _ uq.pu]<;>rfl
     ·simp only [go_sem,ya,yb,yD,yk,yf,pC,uw.len,uw.ap,uq.len,uq.bK,ur.len,ur.bK,Cb,e1,yz,yK,ye,show (0:Int)<((1:Nat):Int) by omega,oL rfl,f1,yK,show ¬(0:Int)<((0:Nat):Int) by omega]
      rw [fS (ex:=false) (pu:=true) (cs:=ps.map .str) (by simp only [go_sem,ya]) (by simp) (by omega) (by omega) (by decide) (by simp only [go_sem])];simp only [go_sem,ya,yb];refine ⟨_,d,rfl,BF,d,q,ps++[z],false,rfl,Cc,by omega,n1,n2,n3,.inr ⟨by simp,?_⟩⟩;rw [xi,yG];simp only [go_sem,ya,yb,ax,aD uq.pu,aE _ uq.pu]<;>rfl
   ·obtain ⟨n1,n2,n3⟩:=new (gZ [48] (18-z.length)++z) (by rw [yx (by omega)];exact t1 iC) (fun _=>zl)
    rcases K9 with ⟨rfl,Aw⟩ | rfl
    ·have lV:=jE Aw;clear hz;subst lV;rcases hs with ⟨iz,rfl⟩ | ⟨iz,rfl⟩
     ·subst iz
      simp only [go_sem,ya,yb,xt,yD,yk,yf,pC,uw.len,uw.ap,uq.len,uq.bK,ur.len,ur.bK,Cb,e1,yK,show ¬(0:Int)<((0:Nat):Int) by omega,show (0:Int)<(lq.length:Int) by omega,show (18:Int)-((1:Nat):Int)=((17:Nat):Int) from rfl,wrapN (n:=17) (by omega),Tc (P:=P) (f:=D P L) Ad (n:=17) (by omega),gH (a:=gZ [48] 17) (b:=[48]) (by rw [Eu];decide),ij]
      refine ⟨_,d,rfl,BF,d,q,[]++[gZ [48] 17++[48]],false,rfl,Cc,by omega,n1,n2,n3,.inr ⟨by simp,?_⟩⟩;simp only [go_sem,ya,yb,ax,aD uq.pu,aE _ uq.pu]<;>rfl
     ·simp only [go_sem,ya,yb,yD,yk,yf,pC,uw.len,uw.ap,uq.len,uq.bK,ur.len,ur.bK,Cb,e1,yK,show ¬(0:Int)<((0:Nat):Int) by omega,show (0:Int)<(lq.length:Int) by omega,show (18:Int)-((1:Nat):Int)=((17:Nat):Int) from rfl,wrapN (n:=17) (by omega),Tc (P:=P) (f:=D P L) Ad (n:=17) (by omega),gH (a:=gZ [48] 17) (b:=[48]) (by rw [Eu];decide)]
      rw [fS (ex:=false) (pu:=true) (cs:=ps.map .str) (by simp only [go_sem,ya]) (by simp) (by omega) (by omega) (by decide) (by simp only [go_sem])];simp only [go_sem,ya,yb];refine ⟨_,d,rfl,BF,d,q,ps++[gZ [48] 17++[48]],false,rfl,Cc,by omega,n1,n2,n3,.inr ⟨by simp,?_⟩⟩;rw [xi,yG];simp only [go_sem,ya,yb,ax,aD uq.pu,aE _ uq.pu]<;>rfl
    ·rcases hs with ⟨iz,rfl⟩ | ⟨iz,rfl⟩
     ·subst iz
      simp only [go_sem,ya,yb,xt,yD,yk,yf,pC,uw.len,uw.ap,uq.len,uq.bK,ur.len,ur.bK,Cb,e1,yz,yK,ye,show (0:Int)<((1:Nat):Int) by omega,oL rfl,f1,show (0:Int)<(lq.length:Int) by omega,YY,wrapN (n:=18-z.length) (by omega),f2,gH (a:=gZ [48] (18-z.length)) (b:=z) (by rw [Eu];omega),ij];refine ⟨_,d,rfl,BF,d,q,[]++[gZ [48] (18-z.length)++z],false,rfl,Cc,by omega,n1,n2,n3,.inr ⟨by simp,?_⟩⟩;simp only [go_sem,ya,yb,ax,aD uq.pu,aE _ uq.pu]<;>rfl
     ·simp only [go_sem,ya,yb,yD,yk,yf,pC,uw.len,uw.ap,uq.len,uq.bK,ur.len,ur.bK,Cb,e1,yz,yK,ye,show (0:Int)<((1:Nat):Int) by omega,oL rfl,f1,show (0:Int)<(lq.length:Int) by omega,YY,wrapN (n:=18-z.length) (by omega),f2,gH (a:=gZ [48] (18-z.length)) (b:=z) (by rw [Eu];omega)]
      rw [fS (ex:=false) (pu:=true) (cs:=ps.map .str) (by simp only [go_sem,ya]) (by simp) (by omega) (by omega) (by decide) (by simp only [go_sem])];simp only [go_sem,ya,yb];refine ⟨_,d,rfl,BF,d,q,ps++[gZ [48] (18-z.length)++z],false,rfl,Cc,by omega,n1,n2,n3,.inr ⟨by simp,?_⟩⟩;rw [xi,yG];simp only [go_sem,ya,yb,ax,aD uq.pu,aE _ uq.pu]<;>rfl
end
end
section
open Go (IntKind)
def nj:Nat->VC->VC
 | 0,c=>bw c
 | n+1,c=> .seq (bw c) (nj n (az c))
def lI:Nat->VC->VC
 | 0,c=>az c
 | n+1,c=>lI n (az c)
def alr:Nat->VC->Prop
 | 0,c=>c= .seq (bw c) (az c)
 | n+1,c=>c= .seq (bw c) (az c)/\alr n (az c)
def M7 {P:aK} {L:Lib}:∀(n:Nat) {c:VC},alr n c->∀s,D P L c s=jK P L (D P L (nj n c) s) (lI n c)
 | 0,c,h,s=>by
  conv=>lhs;rw [show c= .seq (bw c) (az c) from h]
  rw [kh];rfl
 | n+1,c,h,s=>by
  conv=>lhs;rw [show c= .seq (bw c) (az c) from h.1]
  show _=jK P L (D P L (.seq (bw c) (nj n (az c))) s) (lI n (az c))
  rw [kh,kh]
  cases D P L (bw c) s with
  | none=>rfl
  | some q=>
   obtain ⟨ex,st⟩:=q
   cases ex with
   | normal=>rw [fB,fB];exact M7 n h.2 st
   | ret=>rfl
   | exit id=>rfl
end
section
open Go (IntKind)
section
variable {P:aK} {L:Lib}
def aps (h:Nu P L) (DB:L.pure 138=some AH) (Ad:L.pure 139=some AZ) {s z:Int} {e:Bool} {l:List Nat} (hn:dC s (.aw e l.length (l.map uc)) z) {K:Nat} (lV:0<z.natAbs) (Qs:z.natAbs<18446744073709551616^K) (hK:K<=4000000000) (hlen:(aB z.natAbs).length<=300000000000):
  ∃ps:List (List Nat),ps≠[]/\ps.length<=300000000000/\aB z.natAbs=ps.reverse.flatten/\D P L (nj 5 DU.body) ⟨[(0,.agg [ab s,.aw e l.length (l.map uc)])],[],0,0⟩=some (.normal,⟨[(3,.bool (decide (z<0))),(6,.ao 0 0 ps.length)],[(0,.cells true true false 1 (ps.map .str))],1,0⟩):=by
 obtain ⟨r,e1,hr⟩:=Ac h hn;have bP:=hr;obtain ⟨lr,ur,gr,nr,vr⟩:=hr;simp only [go_sem,ya,yb,yk,yf,DU,nj,bw,az,bi,b5,ye,de,nY,eC,cu,cD,e1];generalize mJ:D P L (.loop [3,4,5,6] pC) _=qq;obtain ⟨ex,st,rfl,tm,ps,fl,rfl,dd,Qq,AB,t3,t6,rfl⟩:=bJ mJ (ayZ (P:=P) (L:=L) h.toWd DB Ad (neg:=decide (z<0)) (M:=z.natAbs) (K:=K) lV hK hlen z.natAbs) ⟨z.natAbs,bK r,[],true,rfl,bP,Qs,by rw [yx (by omega)];simp,⟨fun _=>rfl,by simp⟩,fun _=>by simp,.inl ⟨rfl,by
  simp only [go_sem,ya,yb,ax,aD ur.pu,aE _ ur.pu]<;>rfl⟩⟩
 refine ⟨ps,dd,Qq,AB,?_⟩;simp only [go_sem,yb,ax,t3,t6]
end
end
section
open Go
variable {O:bl}
def zN:Nat->wY->wY
 | 0,.seq _ b=>b
 | n+1,.seq _ b=>zN n b
 | _,c=>c
def Pu:Nat->wY->Prop
 | 0,.seq _ _=>True
 | n+1,.seq _ b=>Pu n b
 | _,_=>False
def ad1 (hO:eP O) {h:Nat} {c:wY} {l k:Nat} {s:St} {ex:Ex} {s':St} (hv:D O.prog O.aC (comp O.P (O.hint h) c l k).1 s=some (ex,s')):Bh O h c s ex s':=by
 obtain ⟨n,hn⟩:=Yx hv
 cases n with
 | zero=>rw [Is] at hn;cases hn
 | succ n=>
  exact aeK hO n (fun k _=>abi hO k) h c l k n (yu _) s ex s' hn
def aiK (hO:eP O) {h:Nat} {ro:Option Nat} {lo:Nat} {Q:Exit->Act->yi->Prop}:∀(n:Nat) (c:wY) (l k:Nat),Pu n c->∀(s s1:St),D O.prog O.aC (nj n (comp O.P (O.hint h) c l k).1) s=some (.normal,s1)->
  ∀(m:Mp) (S:Nat->Prop) (w:yi) (a:Act),zy ro w->b8 O m S w s.tm a.tmps->aU O m S w s.hp s.ct->s.base<=s.ct->(O.hint h).n<=a.tmps.size->O.w0.heap.size<=lo->lo<=w.heap.size->Marks lo S w a.defers->
  (∀a' w',eR O m S w s .normal s1 a.tmps.size lo .normal a' w'->(zN n c).wpIn (WF ro) 0 O.P Q a' w')->c.wpIn (WF ro) 0 O.P Q a w
 | n,c,l,k,hc,s,s1,hv=>by
  intro m S w a cO ht hh hb hn bh fj cN hQ
  cases c with
  | seq x y=>
   cases n with
   | zero=>
    refine wpIn_seq (wpIn_mono (ad1 hO (show D O.prog O.aC (comp O.P (O.hint h) x l k).1 s=some (.normal,s1) from hv) ro lo m S w a cO ht hh hb hn bh fj cN) ?_);rintro e a' w' hp;have he:e= .normal:=hp.1;subst he;exact hQ a' w' hp
   | succ n=>
    have eG:D O.prog O.aC (.seq (comp O.P (O.hint h) x l k).1 (nj n (comp O.P (O.hint h) y (comp O.P (O.hint h) x l k).2.1 (comp O.P (O.hint h) x l k).2.2).1)) s=some (.normal,s1):=hv;rw [kh] at eG
    cases hx:D O.prog O.aC (comp O.P (O.hint h) x l k).1 s with
    | none=>rw [hx] at eG;cases eG
    | some q=>
     obtain ⟨ex,st⟩:=q;rw [hx] at eG
     cases ex with
     | ret=>exact absurd eG (by intro h;cases h)
     | exit id=>exact absurd eG (by intro h;cases h)
     | normal=>
      refine wpIn_seq (wpIn_mono (ad1 hO hx ro lo m S w a cO ht hh hb hn bh fj cN) ?_);rintro e a' w' ⟨rfl,m',S',k1,k2,k3,k4,k5,k6,k7⟩;refine aiK hO n y _ _ hc st s1 eG m' S' w' a' (Me k5 cO) k1 k2 (by omega) (by omega) bh (xm fj k5.size) k7 ?_;rintro a2 w2 ⟨_,m2,S2,g1,g2,g3,g4,g5,g6,g7⟩;exact hQ a2 w2 ⟨rfl,m2,S2,g1,g2,by omega,by omega,k5.trans (by rw [<-k3];exact g5),by omega,g7⟩
  | _=>cases n<;>exact hc.elim
def ay0 (hO:eP O) {n:Nat} {F:aV} (hF:O.prog n=some F) {fn:ybm} {c:wY} (kY:O.P.funcs[O.af n]? =some fn) (jm:fn.body=some c) {hp:Hp} {ct:Nat} {av:List AV} {s:St}
  (hc:(comp O.P (O.hint n) c 0 0).1=F.body->∀m S w a,b8 O m S w (dX 0 av) a.tmps->aU O m S w hp ct->(O.hint n).n<=a.tmps.size->a.tmps.size=max fn.ntmps av.length->O.w0.heap.size<=w.heap.size->a.defers=[]->
   c.wpIn (WF none) 0 O.P (eR O m S w ⟨dX 0 av,hp,ct,ct⟩ .ret s a.tmps.size w.heap.size) a w) {v:AV} (hr:iU s F.fO=some v):Bg O n hp ct av v s.hp s.ct:=by
 intro m S w args hh fV;obtain ⟨fn',q1,q2,q3⟩:=hO.prog n F hF;rw [kY] at q1;cases q1;obtain ⟨c',q4,q5,q6,q7⟩:=QQ q2;rw [jm] at q4;cases q4;refine .inl ⟨My kY (by rw [jm];rfl) q3,?_⟩
 have hlen:av.length=args.size:=by have:=(gU _ _ fV).symm;simpa using this
 have hw:=hc q5.symm m S w {tmps:=args++Array.replicate (fn.ntmps-args.size) undef,defers:=[]} (acD _ fV) hh (by simp;omega) (by simp;omega) hh.fU rfl
 refine callsIn_of_wp_marks (F:=yaJ) kY jm trivial (wpIn_mono hw ?_);rintro e a' w' ⟨rfl,m',S',k1,k2,k3,k4,k5,k6,rs,k7,k8,k9⟩;show LeavesInM yaJ 0 O.P fn a'.tmps (ze O m S w hp ct v s.hp s.ct) a'.defers .returning w'
 rw [k7];exact Rr q6 hr k4 rs w' k8 k9 hh.fU k2 k1 k5
def as4 (hO:eP O) {n:Nat} {F:aV} (hF:O.prog n=some F) {fn:ybm} {c:wY} (kY:O.P.funcs[O.af n]? =some fn) (jm:fn.body=some c) {av:List AV} {s:St}
  (hc:(comp O.P (O.hint n) c 0 0).1=F.body->∀m S w a,b8 O m S w (dX 0 av) a.tmps->aU O m S w [] 0->(O.hint n).n<=a.tmps.size->a.tmps.size=max fn.ntmps av.length->O.w0.heap.size<=w.heap.size->a.defers=[]->
   c.wpIn (WF none) 0 O.P (eR O m S w ⟨dX 0 av,[],0,0⟩ .ret s a.tmps.size w.heap.size) a w) {v r:AV} (hv:iU s F.fO=some v) (hr:result s.hp v=some r):eD O n av r:=
 QJ (ay0 hO hF kY jm hc hv) hr
end
section
open Go
def ab4 {af:Nat->Nat} {m:Mp} {S:Nat->Prop} {w:yi} {b:Nat}:∀{ps:List (List Nat)} {o:Nat},bU af m S w (ps.map .str) b o->
  ∃ts:List ByteArray,(ts.map fun t=>t.data.toList.map xc)=ps/\∀i (h:i<ts.length),w.cell? ⟨b,o+i,none⟩=some (.string ts[i])
 | [],o,_=>⟨[],rfl,fun i h=>absurd h (Nat.not_lt_zero i)⟩
 | p::ps,o,h=>by
  obtain ⟨⟨u,h1,h2⟩,h3⟩:=h;obtain ⟨t,rfl,ht⟩:=h2;obtain ⟨ts,k1,k2⟩:=ab4 h3;refine ⟨t::ts,by rw [List.map_cons,ht,k1],fun i hi=>?_⟩
  cases i with
  | zero=>exact h1
  | succ i=>
   grind
def ow (ts:List ByteArray):List UInt8:=(ts.map fun t=>t.data.toList).flatten
def au6 {ts:List ByteArray} {ps:List (List Nat)} (h:(ts.map fun t=>t.data.toList.map xc)=ps):(ow ts.reverse).map xc=ps.reverse.flatten:=by
 subst h;unfold ow;rw [List.map_flatten,wO,<-tP];rfl
def au7 {ts:List ByteArray} {ps:List (List Nat)} (h:(ts.map fun t=>t.data.toList.map xc)=ps):(ts.map (·.size)).sum=ps.reverse.flatten.length:=by
 subst h;rw [List.length_flatten,tP,List.sum_reverse,wO]
 congr 1
 simp_all
def Sz (P:Program) (c:wY):Prop:=∀(Q:Exit->Act->yi->Prop) (a:Act) (w:yi) (neg:Bool) (ts:List ByteArray) (b o cc:Nat),a.tmps.size=69->a.tmps.getD 3 undef= .bool neg->a.tmps.getD 6 undef= .slice (some ⟨b,o,none⟩) ts.length cc->
  (∀i (h:i<ts.length),w.cell? ⟨b,o+i,none⟩=some (.string ts[i]))->(ts.map (·.size)).sum+1<=140737488355328->ts.length<=cc->ts.length<9223372036854775808->
  (∀a' w',Calm w w'->a'.tmps.size=69->a'.defers=a.defers->a'.tmps.getD 2 undef= .string ⟨((if neg then [45] else [])++ow ts.reverse).toArray⟩->Q .ret a' w')->
  (zN 5 c).wpIn Fence.wide 0 P Q a w
section
variable {O:bl}
def apt {n K:Nat} (h:n<18446744073709551616^K):(aB n).length<=20*K+1:=by
 refine rJ (k:=20*K) (yU h ?_);have h1:(10:Nat)^(20*K)=(10^20)^K:=Nat.pow_mul ..;exact xm (by rw [h1];exact vZ (by decide) K) (xh (by decide) (Nat.le_succ _))
def as5 (hO:eP O) (hN:Nu O.prog O.aC) (DB:O.aC.pure 138=some AH) (Ad:O.aC.pure 139=some AZ) (GL:O.prog 99=some DU) {fn:ybm} {c:wY} (kY:O.P.funcs[O.af 99]? =some fn) (jm:fn.body=some c) (PN:fn.ntmps=69)
  (YZ:Pu 5 c) (ht:Sz O.P c) {s z:Int} {e:Bool} {l:List Nat} (hn:dC s (.aw e l.length (l.map uc)) z) (lV:0<z.natAbs) (hK:l.length<=4000000000) (Qs:z.natAbs<18446744073709551616^l.length):
  eD O 99 [.agg [ab s,.aw e l.length (l.map uc)]] (.str (aZ z)):=by
 have hlen:=apt Qs;obtain ⟨ps,dd,Qq,AB,e1⟩:=aps (P:=O.prog) (L:=O.aC) hN DB Ad hn lV Qs hK (by omega)
 refine as4 hO GL kY jm (s:=⟨[(2,.str (aZ z))],[(0,.cells true true false 1 (ps.map .str))],1,0⟩) (v:= .str (aZ z)) ?_ rfl rfl;intro aAO m S w a htr hh sO eT hgs D5;refine aiK hO 5 c 0 0 YZ _ _ (by rw [aAO];exact e1) m S w a (fun l hl=>by cases hl) htr hh (yu _) sO hgs (yu _) ⟨[],by rw [D5];rfl,by simp,by simp⟩ ?_
 rintro a' w' ⟨_,m',S',k1,k2,k3,k4,k5,k6,k7⟩;have r3:=k1 3;have r6:=k1 6;have g3:ai [(3,AV.bool (decide (z<0))),(6,.ao 0 0 ps.length)] 3= .bool (decide (z<0)):=rfl;have g6:ai [(3,AV.bool (decide (z<0))),(6,.ao 0 0 ps.length)] 6= .ao 0 0 ps.length:=rfl;rw [g3] at r3;rw [g6] at r6;simp only [ah] at r3 r6;obtain ⟨p,cc,hm,r6,hcc,_⟩:=r6;obtain ⟨p',arr,t,hZ,_,_,_,_,_,DH,_⟩:=k2.obj 0 _ p rfl hm;rw [hm] at hZ;cases hZ;obtain ⟨ts,mF,zH⟩:=ab4 DH;have ns:ts.length=ps.length:=by rw [<-mF,List.length_map]
 have BG:=au7 mF;rw [<-AB] at BG;have Y0:=au6 mF;rw [<-AB] at Y0;refine ht _ a' w' (decide (z<0)) ts p.b p.o cc ?_ r3 (by rw [ns];exact r6) zH (by omega) (by omega) (by omega) ?_
 ·grind
 ·intro a2 w2 hc h1 h2 h3;have KT:=Cx k2 hc (S':=S') (fun _ h=>h) (fun _ h=> .inl h) (fun b hb=>yU (k2.slt b hb) hc.size);refine ⟨rfl,m',S',?_,KT,rfl,Nat.zero_le _,k5.trans (AR k2 hc (fun _ h=>h) (fun _ h=> .inl h)),?_,?_⟩
  ·intro i;by_cases hi:i=2
   ·subst hi;rw [h3];show ah O.af m' S' w2 (.str (aZ z)) _
    simp only [ah];refine ⟨_,rfl,?_⟩;by_cases h0:z<0
    ·rw [mO h0,xn h0];simp only [xE,xi];rw [Y0];rfl
    ·obtain ⟨n,rfl⟩:∃n:Nat,z=n:=⟨z.toNat,by omega⟩;rw [y8 h0];simp only [yI,xg,xB];rw [Y0];rfl
   ·have:ai [(2,AV.str (aZ z))] i= .undef:=by
     have hb:yv 2 i=false:=by
      cases hq:yv 2 i with
      | false=>rfl
      | true=>exact absurd (Nat.eq_of_beq_eq_true hq).symm hi
     simp only [ai,hb,yT]
    show ah O.af m' S' w2 (ai [(2,AV.str (aZ z))] i) _
    rw [this];simp only [ah]
  ·rw [h1,eT,PN];simp
  ·rw [h2]
   exact AO k2 (AR (base:=0) k2 hc (fun _ h=>h) (fun _ h=> .inl h)) k7
end
end
end VE
