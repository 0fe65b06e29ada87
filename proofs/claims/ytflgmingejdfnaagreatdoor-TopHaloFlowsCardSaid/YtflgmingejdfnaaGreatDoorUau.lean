import Derived.Test.YtflgmingejdfnaaGreatDoorUat
import Derived.Test.YtflgmingejdfnaaGreatDoorUah
import Derived.Test.YtflgmingejdfnaaGreatDoorUaq
import Derived.Test.YtflgmingejdfnaaGreatDoorUao
import Derived.Test.YtflgmingejdfnaaGreatDoorUap
set_option linter.all false
set_option maxRecDepth 100000
open BitVec renaming ofInt→xG,ofNat→uk,toNat_ofNat→vm
open Bool renaming and_self→wi
open Go renaming DataW→xr,Field→uF,FloatKind→ud,IntKind→yU,MemPlace→xZ,Program→y7,TypeId→yv,Value→yf,World→yh
open Int renaming ediv_emod_unique→uL,gcd→wc,gcd_comm→ybV,natAbs_ediv_of_dvd→vX,natCast_mul→xS,pow_zero→tO,reduceEq→vn
open List.cons renaming injEq→tS
open List renaming drop_zero→yj,flatMap_def→yaO,length_map→xm,mapM_cons→vT,map_cons→y8,mem_cons_of_mem→wI,mem_cons_self→vL,mem_map→vv
open Nat renaming add_zero→yZ,beq→yx,ble→yE,ble_eq_true_of_le→yu,blt→yJ,div_add_mod→wC,div_le_self→vQ,lt_of_le_of_lt→xR,lt_of_lt_of_le→yL,mod_le→ycj,mod_lt→xD,mul_add→xH,mul_le_mul_left→yQ,mul_one→yi,mul_zero→xO,reduceAdd→yb,reduceEqDiff→ya,zero_add→yd
open Option renaming bind_eq_bind→vd,bind_some→xP,map_eq_some_iff→we,pure_def→wB
open Option.some renaming injEq→yc
open Prod.mk renaming injEq→yk
open Rat renaming den_divInt→ybp,divInt→xX,divInt_ofNat→yaX,lt_iff→yck,num_divInt→ybo,sub_eq_add_neg→tj
namespace VE
section
open Go (IntKind)
def anp {a b:Int} {q r:Nat} (hb:0<b) (h:q=a.natAbs/b.natAbs) (h2:r=a.natAbs%b.natAbs):
  (cL (decide (a<0)) r<0->a/b=cL (decide (a<0)) q-1/\a%b=cL (decide (a<0)) r+b)/\(¬cL (decide (a<0)) r<0->a/b=cL (decide (a<0)) q/\a%b=cL (decide (a<0)) r):=by
 have fS:=wC a.natAbs b.natAbs;have bm:r<b.natAbs:=by rw [h2];exact xD _ (by omega)
 unfold cL;by_cases h0:a<0
 ·simp only [h0,yq,yV];constructor
  ·intro h3;refine (uL hb).2 ⟨?_,by omega,by omega⟩
   grind
  ·intro h3;refine (uL hb).2 ⟨?_,by omega,by omega⟩
   grind
 ·grind
section
variable {P:aI} {L:Lib}
def auL (h:Nu P L) {s1 s2:Int} {w1 w2:AV} {a b:Int} {K:Nat} (ha:cZ s1 w1 a) (hb:cZ s2 w2 b) (dJ:0<b) (ka:Bd K a) (kb:Bd K b) (hK:K<=30000000000):
  ∃q r,cO q (a/b)/\cO r (a%b)/\∀tm,ab tm 2= .ptr 0 0->ab tm 3= .ptr 1 0->ab tm 4= .ptr 2 0->ab tm 5= .ptr 3 0->ia [.cell 4 2 true,.cell 5 2 true] (D P L (aD (aD iJ.body)) ⟨tm,[(3,.cells true true true 2 [.int .i64 0,.ae]),(2,.cells true true true 2 [.int .i64 0,.ae]),(1,.cells true true true 2 [aa s2,w2]),(0,.cells true true true 2 [aa s1,w1])],4,0⟩)=some (.aw [q,r]):=by
 obtain ⟨l1,u1⟩:=ha.aA;obtain ⟨l2,u2⟩:=hb.aA;obtain ⟨p,e1,hp⟩:=A3 h ha;obtain ⟨q,e2,hq⟩:=A3 h hb;have dl:cO (.agg [aa s2,w2]) b:=⟨s2,w2,rfl,hb⟩;obtain ⟨lp,ix,_⟩:=hp.aA;obtain ⟨lq,pC,_⟩:=hq.aA;have Dc:=yL ka (Ca K);have HJ:=yL kb (Ca K);obtain ⟨dq,dr,e3,E2,iO⟩:=ahW h.toWd hp hq (by omega) Dc HJ (by omega);obtain ⟨Mu,uq,_⟩:=E2.aA;obtain ⟨lr1,ur,_⟩:=iO.aA;have hqk:a.natAbs/b.natAbs<18446744073709551616^K:=xR (vQ _ _) Dc;have hrk:a.natAbs%b.natAbs<18446744073709551616^K:=xR (ycj _ _) Dc;have hqb:a.natAbs/b.natAbs<2^K:=xR (vQ _ _) ka;have X4:a.natAbs%b.natAbs<2^K:=xR (ycj _ _) ka;obtain ⟨f1,f2⟩:=anp (a:=a) dJ rfl rfl;generalize a.natAbs/b.natAbs=Q at*
 generalize a.natAbs%b.natAbs=R at*
 obtain ⟨vq,e4,hvq⟩:=Ez h (decide (a<0)) E2 hqk (by omega);obtain ⟨vr,e5,EU⟩:=Ez h (decide (a<0)) iO hrk (by omega);have hsq:Bd K (cL (decide (a<0)) Q):=by unfold Bd cL;split<;>omega
 have hsr:Bd K (cL (decide (a<0)) R):=by unfold Bd cL;split<;>omega
 generalize cL (decide (a<0)) R=Rs at*
 have e6:=GY h EU;have ah1:=hvq;have ah2:=EU;obtain ⟨s3,w3,rfl,h3⟩:=hvq;obtain ⟨s4,w4,rfl,h4⟩:=EU;obtain ⟨l3,u3⟩:=h3.aA;obtain ⟨l4,u4⟩:=h4.aA;by_cases h0:Rs<0
 ·obtain ⟨g1,g2⟩:=f1 h0;have jY:Bd (K+1) 1:=Bd.mono (k:=1) (by unfold Bd;decide) (by omega)
  obtain ⟨o1,o2⟩:=Ey h (z:=1) (by decide) (by decide);obtain ⟨vq2,e7,V4⟩:=ahZ h ah1 o2 (K:=K+1) (hsq.mono (by omega)) jY (by omega);obtain ⟨vr2,e8,V5⟩:=Lh h ah2 dl (K:=K+1) (hsr.mono (by omega)) (kb.mono (by omega)) (by omega);rw [<-g1] at V4;rw [<-g2] at V5;have oh:cA Rs<0:=by unfold cA;rw [yF h0];decide
  have k1:=V4;have k2:=V5;obtain ⟨s5,w5,rfl,h5⟩:=V4;obtain ⟨s6,w6,rfl,h6⟩:=V5;obtain ⟨l5,u5⟩:=h5.aA;obtain ⟨l6,u6⟩:=h6.aA;refine ⟨_,_,k1,k2,fun tm t2 t3 t4 t5=>?_⟩;simp only [go_sem,ya,yb,iJ,aD,t2,t3,t4,t5,AB,AD,Ap,Aj,AE,wi,aG,bZ,bl,u1.ah,u2.ah,e1,e2,ix.ah,pC.ah,e3,uq.ah,uq.bN,ur.ah,ur.bN,e4,e5,bB,dB,dD,bZ,yj,ep u3,ep u4,u3.ah,u4.ah,e6,oh,o1,e7,e8,dB,dD,bZ,yj,ep u5,ep u6,afQ u5 u6]
 ·obtain ⟨g1,g2⟩:=f2 h0;have oh:¬cA Rs<0:=by unfold cA;rw [yr h0];split<;>decide
  refine ⟨_,_,by rw [g1];exact ah1,by rw [g2];exact ah2,fun tm t2 t3 t4 t5=>?_⟩
  simp only [go_sem,ya,yb,iJ,aD,t2,t3,t4,t5,AB,AD,Ap,Aj,AE,wi,aG,bZ,bl,u1.ah,u2.ah,e1,e2,ix.ah,pC.ah,e3,uq.ah,uq.bN,ur.ah,ur.bN,e4,e5,bB,dB,dD,bZ,yj,ep u3,ep u4,u4.ah,e6,oh,afQ u3 u4]
def V6 (h:Nu P L) {v w:AV} {a b:Int} {K:Nat} (hv:cO v a) (hw:cO w b) (dJ:0<b) (ka:Bd K a) (kb:Bd K b) (hK:K<=30000000000):∃q r,af P L 164 [v,w] (.aw [q,r])/\cO q (a/b)/\cO r (a%b):=by
 obtain ⟨s1,w1,rfl,h1⟩:=hv;obtain ⟨s2,w2,rfl,h2⟩:=hw;obtain ⟨l1,u1⟩:=h1.aA;obtain ⟨l2,u2⟩:=h2.aA;obtain ⟨q,r,hq,hr,tail⟩:=auL h h1 h2 dJ ka kb hK;have fin:∀tm,ab tm 2= .ptr 0 0->ab tm 3= .ptr 1 0->ab tm 4= .ptr 2 0->ab tm 5= .ptr 3 0->
   D P L (.seq (bP iJ.body) (bP (aD iJ.body))) ⟨[(0,.agg [aa s1,w1]),(1,.agg [aa s2,w2])],[],0,0⟩=some (.normal,⟨tm,[(3,.cells true true true 2 [.int .i64 0,.ae]),(2,.cells true true true 2 [.int .i64 0,.ae]),(1,.cells true true true 2 [aa s2,w2]),(0,.cells true true true 2 [aa s1,w1])],4,0⟩)->af P L 164 [.agg [aa s1,w1],.agg [aa s2,w2]] (.aw [q,r]):=fun tm t2 t3 t4 t5 e=>by
  unfold af;rw [aq h.nB];show ia [.cell 4 2 true,.cell 5 2 true] (D P L (.seq (bP iJ.body) (.seq (bP (aD iJ.body)) (aD (aD iJ.body)))) ⟨[(0,.agg [aa s1,w1]),(1,.agg [aa s2,w2])],[],0,0⟩)=_
  rw [DC,e,gG];exact tail tm t2 t3 t4 t5
 rcases h1 with ⟨rfl,rfl,a1,a2⟩ | ⟨e,l,rfl,ga,na,va,sa,a1⟩
 ·rcases h2 with ⟨rfl,rfl,b1,b2⟩ | ⟨e,l,rfl,gb,nb,vb,sb,b1⟩
  ·by_cases hm:s1= -9223372036854775808
   ·refine ⟨q,r,fin _ ?_ ?_ ?_ ?_ (by simp only [go_sem,ya,yb,bP,aD,iJ,aG,hZ,dA,aZ,yd,cC,hm]<;>rfl),hq,hr⟩<;>simp only [go_sem,ya]
   ·obtain ⟨f1,f2⟩:=abn (a:=s1) dJ;have cz:s1.tdiv s2=0\/(s1.tdiv s2).natAbs<=s1.natAbs:= .inr (Int.natAbs_tdiv_le_natAbs s1 s2);have bS:=Int.tmod_lt_of_pos s1 dJ;have dQ:=Int.lt_tmod_of_pos s1 dJ;by_cases h0:s1.tmod s2<0
    ·obtain ⟨g1,g2⟩:=f1 h0;rw [g1,g2];refine ⟨.agg [aa (s1.tdiv s2-1),.ae],.agg [aa (s1.tmod s2+s2),.ae],?_,cZ.pK (by omega) (by omega),cZ.pK (by omega) (by omega)⟩;unfold af;rw [aq h.nB]
     simp only [go_sem,ya,yb,iJ,aG,iT,hZ,dA,aZ,yd,cC,hm,eU _ _ _ (show s2≠0 by omega),dK _ _ _ (show s2≠0 by omega),h0,wrap64 (n:=s1.tdiv s2) (by omega) (by omega),wrap64 (n:=s1.tdiv s2-1) (by omega) (by omega),wrap64 (n:=s1.tmod s2+s2) (by omega) (by omega),sR];rfl
    ·obtain ⟨g1,g2⟩:=f2 h0;rw [g1,g2];refine ⟨.agg [aa (s1.tdiv s2),.ae],.agg [aa (s1.tmod s2),.ae],?_,cZ.pK (by omega) (by omega),cZ.pK (by omega) (by omega)⟩;unfold af;rw [aq h.nB]
     simp only [go_sem,ya,yb,iJ,aG,iT,hZ,dA,aZ,yd,cC,hm,eU _ _ _ (show s2≠0 by omega),dK _ _ _ (show s2≠0 by omega),h0,wrap64 (n:=s1.tdiv s2) (by omega) (by omega),sR];rfl
  ·refine ⟨q,r,fin _ ?_ ?_ ?_ ?_ (by simp only [go_sem,ya,yb,bP,aD,iJ,aG,hZ,oL,dA,aZ,yd,cC]<;>rfl),hq,hr⟩<;>simp only [go_sem,ya]
 ·refine ⟨q,r,fin _ ?_ ?_ ?_ ?_ (by simp only [go_sem,ya,yb,bP,aD,iJ,aG,u2.pu,u2.one,oL,dA,aZ,yd,cC]<;>rfl),hq,hr⟩<;>simp only [go_sem,ya]
end
end
section
open Go (IntKind)
section
variable {P:aI} {L:Lib}
def ah3 (h:Nu P L) {v w:AV} {a b:Int} {K:Nat} (hv:cO v a) (hw:cO w b) (dJ:0<b) (ka:Bd K a) (kb:Bd K b) (hK:K<=30000000000):∃r,af P L 148 [v,w] r/\cO r (a/b):=by
 have e1:=GY h hw;obtain ⟨q,r,e2,hq,hr⟩:=V6 h hv hw dJ ka kb hK;have e3:cA b=1:=by unfold cA;rw [yr (by omega),yr (by omega)]
 rw [e3] at e1;have cz:=hq;obtain ⟨s1,w1,rfl,h1⟩:=hv;obtain ⟨s2,w2,rfl,h2⟩:=hw;obtain ⟨s3,w3,rfl,h3⟩:=hq;obtain ⟨s4,w4,rfl,h4⟩:=hr;obtain ⟨l1,u1⟩:=h1.aA;obtain ⟨l2,u2⟩:=h2.aA;obtain ⟨l3,u3⟩:=h3.aA;obtain ⟨l4,u4⟩:=h4.aA;refine ⟨_,?_,cz⟩;unfold af;rw [aq h.GU];simp only [go_sem,ya,yb,Em,Int.reduceLT,yp,aG,u1.pu,u1.ah,u1.one,u2.pu,u2.ah,u2.one,yd,bl,e1,e2,rh,dB,dD,bZ,yj,nn u3,ep u3,ep u4]
def auM (h:Nu P L) (G:Nat) {K:Nat} (hK:K<=30000000000) {o1 o2:AV}:
  ∀k s,(∃(x y:Nat) (s1 s2:Int) (w1 w2:AV),bA [2,3,4] s=⟨[(2,.ptr 0 0),(3,.ptr 1 0),(4,.ptr 2 0)],[(2,.cells true true true 2 [o1,o2]),(1,.cells true true true 2 [aa s2,w2]),(0,.cells true true true 2 [aa s1,w1])],3,0⟩/\cZ s1 w1 x/\cZ s2 w2 y/\Bd K x/\Bd K y/\Nat.gcd x y=G/\y=k)->
   ∃ex s',D P L (.loop [2,3,4] Av) s=some (ex,s')/\∃tm s1 w1 c1,s'=⟨tm,[(2,.cells true true true 2 [o1,o2]),(1,c1),(0,.cells true true true 2 [aa s1,w1])],3,0⟩/\ex= .exit 0/\ab tm 2= .ptr 0 0/\ab tm 4= .ptr 2 0/\cZ s1 w1 G:=by
 refine cg (I:=fun k s=>∃(x y:Nat) (s1 s2:Int) (w1 w2:AV),s=⟨[(2,.ptr 0 0),(3,.ptr 1 0),(4,.ptr 2 0)],[(2,.cells true true true 2 [o1,o2]),(1,.cells true true true 2 [aa s2,w2]),(0,.cells true true true 2 [aa s1,w1])],3,0⟩/\cZ s1 w1 x/\cZ s2 w2 y/\Bd K x/\Bd K y/\Nat.gcd x y=G/\y=k)
  (Q:=fun ex s'=>∃tm s1 w1 c1,s'=⟨tm,[(2,.cells true true true 2 [o1,o2]),(1,c1),(0,.cells true true true 2 [aa s1,w1])],3,0⟩/\ex= .exit 0/\ab tm 2= .ptr 0 0/\ab tm 4= .ptr 2 0/\cZ s1 w1 G) ?_
 rintro k s ⟨x,y,s1,s2,w1,w2,rfl,h1,h2,k1,k2,hG,rfl⟩;obtain ⟨l1,u1⟩:=h1.aA;obtain ⟨l2,u2⟩:=h2.aA;have i1:cO (.agg [aa s1,w1]) (x:Int):=⟨s1,w1,rfl,h1⟩;have i2:cO (.agg [aa s2,w2]) (y:Int):=⟨s2,w2,rfl,h2⟩;have e1:=GY h i2;by_cases jk:y=0
 ·right
  subst jk;rw [show cA ((0:Nat):Int)=0 from rfl] at e1;simp only [go_sem,ya,Av,yq,Bool.not_true,bZ,bl,u2.ah,e1];obtain rfl:x=G:=by rw [<-hG,Nat.gcd_zero_right]
  exact ⟨_,_,rfl,by simp,_,s1,w1,_,rfl,rfl,by simp only [go_sem,ya],by simp only [go_sem,ya],h1⟩
 ·left
  have e3:cA (y:Int)=1:=by unfold cA;rw [yr (by omega),yr (by omega)]
  rw [e3] at e1;obtain ⟨q,r,e2,hq,hr⟩:=V6 h i1 i2 (by omega) k1 k2 hK;obtain ⟨s3,w3,rfl,h3⟩:=hq;obtain ⟨s4,w4,rfl,h4⟩:=hr;obtain ⟨l3,u3⟩:=h3.aA;obtain ⟨l4,u4⟩:=h4.aA;have bm:=xD x (show 0<y by omega);have kr:Bd K ((x%y:Nat):Int):=k2.le (by omega);simp only [go_sem,ya,yb,Av,AB,AD,Ap,Aj,AE,wi,vn,yp,Bool.not_false,aG,bZ,bl,u1.ah,u2.ah,e1,e2,rh,bZ,yj,ep u2,ep u3,ep u4];refine ⟨_,x%y,rfl,bm,y,x%y,s2,s4,w2,w4,?_,h2,h4,k2,kr,by rw [<-hG];exact aco x y jk,rfl⟩
  simp only [go_sem,ya,yb,av]
def ah4 (h:Nu P L) {v w:AV} {a b:Int} {K:Nat} (hv:cO v a) (hw:cO w b) (ka:Bd K a) (kb:Bd K b) (hK:K<=30000000000):∃r,af P L 130 [v,w] r/\cO r (wc a b:Nat):=by
 obtain ⟨va,e1,ha⟩:=ahY h hv ka (by omega);obtain ⟨vb,e2,hb⟩:=ahY h hw kb (by omega);obtain ⟨s1,w1,rfl,h1⟩:=hv;obtain ⟨s2,w2,rfl,h2⟩:=hw;obtain ⟨s3,w3,rfl,h3⟩:=ha;obtain ⟨s4,w4,rfl,h4⟩:=hb;obtain ⟨l1,u1⟩:=h1.aA;obtain ⟨l2,u2⟩:=h2.aA;obtain ⟨l3,u3⟩:=h3.aA;obtain ⟨l4,u4⟩:=h4.aA;have jz:∃s w,af P L 130 [.agg [aa s1,w1],.agg [aa s2,w2]] (.agg [aa s,w])/\cZ s w (wc a b:Nat):=by
  unfold af;rw [aq h.K8];simp only [go_sem,ya,yb,El,aG,u1.pu,u1.ah,u1.one,u2.pu,u2.ah,u2.one,bZ,bl,e1,e2,bB,bZ,yj,ep u3,ep u4,yd];generalize hq:D P L (.loop [2,3,4] Av) _=q;obtain ⟨ex,s,rfl,tm,s5,w5,c1,rfl,rfl,t2,t4,h5⟩:=bV hq (auM (P:=P) (L:=L) h (wc a b) (K:=K) hK (o1:= .int .i64 0) (o2:= .ae) b.natAbs) ⟨a.natAbs,b.natAbs,s3,s4,w3,w4,by simp only [go_sem,ya,yb,av],h3,h4,ka,kb,rfl,rfl⟩;obtain ⟨l5,u5⟩:=h5.aA;refine ⟨s5,w5,?_,h5⟩;simp only [go_sem,ya,yb,av,t2,t4,dB,dD,bZ,yj,nn u5,ep u5]
 obtain ⟨s,w,e,hn⟩:=jz;exact ⟨_,e,s,w,rfl,hn⟩
end
def cK (v:AV) (r:Rat):Prop:=∃s1 w1 s2 w2,v= .agg [aa s1,w1,aa s2,w2]/\cZ s1 w1 r.num/\cZ s2 w2 (r.den:Int)
def Hq (k:Nat) (r:Rat):Prop:=Bd k r.num/\Bd k (r.den:Int)
def I4 {a b:Int} (hb:0<b):(xX a b).num=a/(wc a b:Nat)/\((xX a b).den:Int)=b/(wc a b:Nat):=by
 constructor
 ·rw [ybo,Int.sign_eq_one_of_pos hb,Int.one_mul,ybV]
 ·rw [ybp,yr (by omega),ybV]
  grind
def Hq.divInt {k:Nat} {a b:Int} (hb:0<b) (ka:Bd k a) (kb:Bd k b):Hq k (xX a b):=by
 obtain ⟨h1,h2⟩:=I4 (a:=a) hb;refine ⟨ka.le ?_,kb.le ?_⟩
 ·rw [h1,vX (Int.gcd_dvd_left a b)];exact vQ _ _
 ·rw [h2,vX (Int.gcd_dvd_right a b)];exact vQ _ _
section
def FN {tm:Env} {a b x y z w:AV} {r:List (Nat×Nat×X)} (h1:bE a=true) (h2:bE b=true):iG tm [x,y,z,w] 0 2 [a,b] r=fill tm [a,b,z,w] r:=by
 rw [nR (by rfl) (by simp) (by simp [cf,h1,h2])];rfl
def FO {tm:Env} {a b x y z w:AV} {r:List (Nat×Nat×X)} (h1:bE a=true) (h2:bE b=true):iG tm [x,y,z,w] 2 2 [a,b] r=fill tm [x,y,a,b] r:=by
 rw [nR (by rfl) (by simp) (by simp [cf,h1,h2])];rfl
def lZ {s t:Int} {v w:AV} {l m:List Nat} (hv:bO v l) (hw:bO w m) (hp:Hp) (ct id:Nat) (a b x y:AV):fu hp ct id 0 4 [.int .i64 s,v,.int .i64 t,w] (some (.cells true true true 4 [a,b,x,y]))=some (.aw [],bf hp id (.cells true true true 4 [.int .i64 s,v,.int .i64 t,w]),ct):=by
 rw [lj (by rfl) (by simp) (by simp [cf,hv.one,hw.one,JK])];simp [aK,hv.pu,hw.pu,over,Ga]
def mD {s t:Int} {v w:AV} {l m:List Nat} (hv:bO v l) (hw:bO w m) (hp:Hp):result hp (.agg [aa s,v,aa t,w])=some (.agg [aa s,v,aa t,w]):=by
 rcases hv with ⟨rfl,_⟩ | ⟨e,rfl⟩<;>rcases hw with ⟨rfl,_⟩ | ⟨e',rfl⟩<;>rfl
variable {P:aI} {L:Lib}
structure Fr' (P:aI) (L:Lib):Prop extends Nu P L where
 V7:Has P L 101 lz
 Mv:Has P L 69 L5
 V8:Has P L 111 KG
 X5:Has P L 98 EQ
 axY:Has P L 108 Vy
 ah5:Has P L 102 Pt
 X6:Has P L 74 Hv
 Rh:Has P L 50 QK
 nM:Has P L 49 c49
 X7:Has P L 73 L7
 X8:Has P L 70 L6
 h71:Has P L 71 Xy
 axZ:Has P L 149 VD
def afR (h:Fr' P L) {s1 s2:Int} {w1 w2:AV} {a b:Int} {K:Nat} (h1:cZ s1 w1 a) (h2:cZ s2 w2 b) (dJ:0<b) (ka:Bd K a) (kb:Bd K b) (hK:K<=30000000000):
  ∃r,cK r (xX a b)/\∀tm,ab tm 2= .ptr 0 0->ab tm 3= .ptr 1 0->ab tm 4= .ptr 2 0->ia [.cell 4 4 true] (D P L (aD (aD lz.body)) ⟨tm,[(2,.cells true true true 4 [.int .i64 0,.ae,.int .i64 0,.ae]),(1,.cells true true true 2 [aa s2,w2]),(0,.cells true true true 2 [aa s1,w1])],3,0⟩)=some r:=by
 have hv:cO (.agg [aa s1,w1]) a:=⟨s1,w1,rfl,h1⟩;have hw:cO (.agg [aa s2,w2]) b:=⟨s2,w2,rfl,h2⟩;obtain ⟨p1,p2⟩:=I4 (a:=a) dJ;have hgp:=FM (a:=a) dJ;have hgk:Bd K ((wc a b:Nat):Int):=kb.le (by
  have:=Int.gcd_le_natAbs_right a (show b≠0 by omega)
  omega)
 obtain ⟨g,e2,hg⟩:=ah4 h.toNu hv hw ka kb hK;obtain ⟨q1,e4,fa⟩:=ah3 h.toNu hv hg hgp ka hgk hK;obtain ⟨q2,e5,ow⟩:=ah3 h.toNu hw hg hgp kb hgk hK;rw [<-p1] at fa;rw [<-p2] at ow;obtain ⟨s3,w3,rfl,h3⟩:=hg;obtain ⟨s4,w4,rfl,h4⟩:=fa;obtain ⟨s5,w5,rfl,h5⟩:=ow;obtain ⟨l1,u1⟩:=h1.aA;obtain ⟨l2,u2⟩:=h2.aA;obtain ⟨l3,u3⟩:=h3.aA;obtain ⟨l4,u4⟩:=h4.aA;obtain ⟨l5,u5⟩:=h5.aA;by_cases gA:w2= .ae/\s2=1
 ·obtain ⟨rfl,rfl⟩:=gA;have jY:b=1:=by
   rcases h2 with ⟨_,h,_⟩ | ⟨_,_,h,_⟩
   ·exact h.symm
   ·cases h
  subst jY;rw [Int.gcd_one] at p1 p2;have p1:(xX a 1).num=a:=by rw [p1];exact Int.ediv_one a
  refine ⟨.agg [aa s1,w1,aa 1,.ae],⟨s1,w1,1,.ae,rfl,by rw [p1];exact h1,by rw [p2];exact h2⟩,fun tm t2 t3 t4=>?_⟩
  have un:=Ai;simp only [go_sem,ya,lz,aD,t2,t3,t4,u1.one,bZ,aZ,yd,cC,hZ,dA,FN,FO,lZ u1 un,dB,dD,yj,gL,mD u1 un]
 ·refine ⟨.agg [aa s4,w4,aa s5,w5],⟨s4,w4,s5,w5,rfl,h4,h5⟩,fun tm t2 t3 t4=>?_⟩;rcases u2 with ⟨rfl,_⟩ | ⟨e,rfl⟩
  ·simp only [go_sem,ya,yb,lz,aD,t2,t3,t4,aG,u1.ah,bZ,bl,aZ,yd,cC,hZ,dA,show ¬s2=1 from fun e=>gA ⟨rfl,e⟩,e2,e4,e5,bB,dB,dD,bZ,yj,ep u3,u3.ah,u4.one,u5.one,FN,FO,lZ u4 u5,gL,mD u4 u5]
  ·simp only [go_sem,ya,yb,lz,aD,t2,t3,t4,aG,u1.ah,bZ,bl,aZ,yd,cC,oL,dA,e2,e4,e5,bB,dB,dD,bZ,yj,ep u3,u3.ah,u4.one,u5.one,FN,FO,lZ u4 u5,gL,mD u4 u5]
def V9 (h:Fr' P L) {v w:AV} {a b:Int} {K:Nat} (hv:cO v a) (hw:cO w b) (dJ:b≠0) (ka:Bd K a) (kb:Bd K b) (hK:K<=30000000000):∃r,af P L 101 [v,w] r/\cK r (xX a b):=by
 have e1:=GY h.toNu hw;have eZ:=hv;have X9:=hw;obtain ⟨s1,w1,rfl,h1⟩:=hv;obtain ⟨s2,w2,rfl,h2⟩:=hw;obtain ⟨l1,u1⟩:=h1.aA;obtain ⟨l2,u2⟩:=h2.aA;have fin:∀r t1 t2 v1 v2 tm,(∀tm,ab tm 2= .ptr 0 0->ab tm 3= .ptr 1 0->ab tm 4= .ptr 2 0->ia [.cell 4 4 true] (D P L (aD (aD lz.body)) ⟨tm,[(2,.cells true true true 4 [.int .i64 0,.ae,.int .i64 0,.ae]),(1,.cells true true true 2 [aa t2,v2]),(0,.cells true true true 2 [aa t1,v1])],3,0⟩)=some r)->ab tm 2= .ptr 0 0->ab tm 3= .ptr 1 0->ab tm 4= .ptr 2 0->
   D P L (.seq (bP lz.body) (bP (aD lz.body))) ⟨[(0,.agg [aa s1,w1]),(1,.agg [aa s2,w2])],[],0,0⟩=some (.normal,⟨tm,[(2,.cells true true true 4 [.int .i64 0,.ae,.int .i64 0,.ae]),(1,.cells true true true 2 [aa t2,v2]),(0,.cells true true true 2 [aa t1,v1])],3,0⟩)->af P L 101 [.agg [aa s1,w1],.agg [aa s2,w2]] r:=fun r t1 t2 v1 v2 tm tail k2 k3 k4 e=>by
  unfold af;rw [aq h.V7];show ia [.cell 4 4 true] (D P L (.seq (bP lz.body) (.seq (bP (aD lz.body)) (aD (aD lz.body)))) ⟨[(0,.agg [aa s1,w1]),(1,.agg [aa s2,w2])],[],0,0⟩)=_
  rw [DC,e,gG];exact tail tm k2 k3 k4
 by_cases hn:b<0
 ·obtain ⟨n1,e2,gE⟩:=GZ h.toNu eZ ka (by omega);obtain ⟨n2,e3,eQ⟩:=GZ h.toNu X9 kb (by omega);obtain ⟨s3,w3,rfl,h3⟩:=gE;obtain ⟨s4,w4,rfl,h4⟩:=eQ;obtain ⟨l3,u3⟩:=h3.aA;obtain ⟨l4,u4⟩:=h4.aA;obtain ⟨r,hr,tail⟩:=afR h h3 h4 (by omega) ka.neg kb.neg hK;rw [Rat.neg_divInt_neg] at hr;have hs:cA b<0:=by unfold cA;rw [yF hn];decide
  refine ⟨r,fin r _ _ _ _ _ tail ?_ ?_ ?_ (by simp only [go_sem,ya,yb,lz,bP,aD,hs,aG,u1.pu,u1.ah,u1.one,u2.pu,u2.ah,u2.one,bZ,bl,e1,e2,e3,bB,ep u3,ep u4]<;>rfl),hr⟩<;>simp only [go_sem,ya]
 ·obtain ⟨r,hr,tail⟩:=afR h h1 h2 (by omega) ka kb hK;have hs:¬cA b<0:=by unfold cA;rw [yr hn];split<;>decide
  refine ⟨r,fin r _ _ _ _ _ tail ?_ ?_ ?_ (by simp only [go_sem,ya,yb,lz,bP,aD,hs,aG,u1.pu,u1.one,u2.pu,u2.ah,u2.one,bZ,bl,e1]<;>rfl),hr⟩<;>simp only [go_sem,ya]
end
end
section
open Go (IntKind)
def Hq.mono {k m:Nat} {r:Rat} (h:Hq k r) (hk:k<=m):Hq m r:=⟨h.1.mono hk,h.2.mono hk⟩
def Hq.neg {k:Nat} {r:Rat} (h:Hq k r):Hq k (-r):=⟨h.1.neg,h.2⟩
def add_eq (a b:Rat):a+b=xX (a.num*b.den+b.num*a.den) ((a.den:Int)*b.den):=by
 rw [Rat.add_def',<-yaX,xS]
def mul_eq (a b:Rat):a*b=xX (a.num*b.num) ((a.den:Int)*b.den):=by
 rw [Rat.mul_def',<-yaX,xS]
def Tp (a:Rat):0<(a.den:Int):=by have:=a.den_pos;omega
def Fl (a b:Rat):0<(a.den:Int)*b.den:=Int.mul_pos (Tp a) (Tp b)
def Bd.Wa {k:Nat} {a b:Int} (ha:Bd k a) (hb:Bd k b):Bd (k+1) (a+b):=by
 have:=ha.add hb
 grind
def Hq.add {k m:Nat} {a b:Rat} (ha:Hq k a) (hb:Hq m b):Hq (k+m+1) (a+b):=by
 rw [add_eq];refine Hq.divInt (Fl a b) ?_ ((ha.2.mul hb.2).mono (by omega));exact (ha.1.mul hb.2).Wa ((hb.1.mul ha.2).mono (by omega))
def Hq.mul {k m:Nat} {a b:Rat} (ha:Hq k a) (hb:Hq m b):Hq (k+m) (a*b):=by
 rw [mul_eq];exact Hq.divInt (Fl a b) (ha.1.mul hb.1) (ha.2.mul hb.2)
def Hq.sub {k m:Nat} {a b:Rat} (ha:Hq k a) (hb:Hq m b):Hq (k+m+1) (a-b):=by
 rw [tj];exact ha.add hb.neg
def Hq.inv {k:Nat} {a:Rat} (ha:Hq k a):Hq k a⁻¹:=by
 have h1:(a⁻¹).num.natAbs<=a.den:=by
  rw [Rat.num_inv,Int.natAbs_mul]
  grind
 refine ⟨ha.2.le (by simpa using h1),?_⟩;unfold Bd;rw [Rat.den_inv]
 split
 ·have h2:=ha.2;unfold Bd at h2
  simp_all
 ·exact ha.1
def Hq.div {k m:Nat} {a b:Rat} (ha:Hq k a) (hb:Hq m b):Hq (k+m) (a/b):=by
 rw [Rat.div_def];exact ha.mul hb.inv
def A4 (a b:Rat):Int:=if a<b then -1 else if a=b then 0 else 1
def arT (a b:Rat):cA (a.num*b.den-b.num*a.den)=A4 a b:=by
 unfold cA A4;by_cases h:a<b
 ·rw [yF h]
  have:=(yck a b).1 h
  grind
 ·rw [yr h];have h1:¬a.num*b.den<b.num*a.den:=fun e=>h ((yck a b).2 e)
  rw [yr (by omega)];by_cases h2:a=b
  ·grind
  ·rw [yr h2,yr (by have:¬a.num*b.den=b.num*a.den:=fun e=>h2 (Rat.eq_iff_mul_eq_mul.2 e);omega)]
def TU (a:Rat) (h:a.den=1):a=(a.num:Rat):=by
 have:=Rat.num_divInt_den a
 rw [h] at this;rw [<-this];exact (Rat.ext (by simp [ybo]) (by simp [ybp]))
def Co (a b c d:AV) (r:List AV):eY 2 true (List.drop 2 (a::b::c::d::r))=some (.agg [c,d]):=rfl
def rD (a b:AV) (r:List AV):eY 2 true (a::b::r)=some (.agg [a,b]):=rfl
section
variable {P:aI} {L:Lib}
def Li (h:Fr' P L) {v:AV} {z:Int} (hv:cO v z):∃r,af P L 111 [v] r/\cK r (z:Rat):=by
 obtain ⟨o1,o2⟩:=Ey h.toNu (z:=1) (by decide) (by decide);obtain ⟨s1,w1,rfl,h1⟩:=hv;obtain ⟨l1,u1⟩:=h1.aA;have un:=Ai;refine ⟨.agg [aa s1,w1,aa 1,.ae],?_,s1,w1,1,.ae,rfl,h1,.inl ⟨rfl,rfl,(by show (-9223372036854775808:Int)<=1;decide),(by show (1:Int)<9223372036854775808;decide)⟩⟩
 unfold af;rw [aq h.V8];simp only [go_sem,ya,yb,KG,aG,u1.pu,u1.one,bZ,o1,bB,FN,FO,lZ u1 un,dB,dD,yj,gL,mD u1 un]
def E3 (h:Fr' P L) {z:Int} (h1: -9223372036854775808<=z) (h2:z<9223372036854775808):∃r,af P L 69 [aa z] r/\cK r (z:Rat):=by
 obtain ⟨o1,o2⟩:=Ey h.toNu h1 h2;obtain ⟨r,e,hr⟩:=Li h o2;have bW:=hr;obtain ⟨s1,w1,s2,w2,rfl,k1,k2⟩:=hr;obtain ⟨l1,u1⟩:=k1.aA;obtain ⟨l2,u2⟩:=k2.aA;refine ⟨_,?_,bW⟩;unfold af;rw [aq h.Mv];simp only [go_sem,ya,yb,L5,aG,bl,o1,e,bB,lZ u1 u2,dB,dD,yj,gL,mD u1 u2]
def Ya (h:Fr' P L) {v:AV} {a:Rat} (hv:cK v a):af P L 98 [v] (.bool (decide (a.den=1))):=by
 obtain ⟨s1,w1,s2,w2,rfl,h1,h2⟩:=hv;obtain ⟨l1,u1⟩:=h1.aA;unfold af;rw [aq h.X5];rcases h2 with ⟨rfl,rfl,b1,b2⟩ | ⟨e,l,rfl,gb,nb,vb,sb,b1⟩
 ·have e:decide (((a.den:Nat):Int)=1)=decide (a.den=1):=by simp;omega
  simp only [go_sem,ya,yb,EQ,aG,u1.pu,u1.one,aZ,yd,D6,U6,hZ,dA,e]
 ·have e:decide (a.den=1)=false:=yR (by omega);rw [e];simp only [go_sem,ya,yb,EQ,aG,u1.pu,u1.one,aZ,yd,U6,oL,dA]
def ax0 (h:Fr' P L) {v:AV} {a:Rat} (hv:cK v a):af P L 108 [v] (aa (cA a.num)):=by
 obtain ⟨s1,w1,s2,w2,rfl,h1,h2⟩:=hv;obtain ⟨l1,u1⟩:=h1.aA;obtain ⟨l2,u2⟩:=h2.aA;have e1:=GY h.toNu ⟨s1,w1,rfl,h1⟩;unfold af;rw [aq h.axY];simp only [go_sem,ya,yb,Vy,aG,u1.pu,u1.ah,u1.one,u2.pu,u2.one,aZ,yd,rD,bl,e1]
def ax1 (h:Fr' P L) {v:AV} {a:Rat} {K:Nat} (hv:cK v a) (ka:Hq K a) (hK:K<=30000000000):∃r,af P L 102 [v] r/\cK r (-a):=by
 obtain ⟨s1,w1,s2,w2,rfl,h1,h2⟩:=hv;obtain ⟨l1,u1⟩:=h1.aA;obtain ⟨l2,u2⟩:=h2.aA;obtain ⟨n,e1,hn⟩:=GZ h.toNu ⟨s1,w1,rfl,h1⟩ ka.1 (by omega);obtain ⟨s3,w3,rfl,h3⟩:=hn;obtain ⟨l3,u3⟩:=h3.aA;refine ⟨.agg [aa s3,w3,aa s2,w2],?_,s3,w3,s2,w2,rfl,h3,h2⟩;unfold af;rw [aq h.ah5];simp only [go_sem,ya,yb,Pt,aG,u1.pu,u1.ah,u1.one,u2.pu,u2.one,u3.one,aZ,yd,rD,Co,bl,e1,bB,FN,FO,lZ u3 u2,dB,dD,yj,gL,mD u3 u2]
def Ri (h:Fr' P L) {v w:AV} {a b:Rat} {K:Nat} (hv:cK v a) (hw:cK w b) (ka:Hq K a) (kb:Hq K b) (hK:K<=10000000000):∃r,af P L 74 [v,w] r/\cK r (a+b):=by
 have i1:=Ya h hv;have i2:=Ya h hw;obtain ⟨s1,w1,s2,w2,rfl,h1,h2⟩:=hv;obtain ⟨s3,w3,s4,w4,rfl,h3,h4⟩:=hw;obtain ⟨l1,u1⟩:=h1.aA;obtain ⟨l2,u2⟩:=h2.aA;obtain ⟨l3,u3⟩:=h3.aA;obtain ⟨l4,u4⟩:=h4.aA;have n1:cO (.agg [aa s1,w1]) a.num:=⟨s1,w1,rfl,h1⟩;have n2:cO (.agg [aa s2,w2]) a.den:=⟨s2,w2,rfl,h2⟩;have n3:cO (.agg [aa s3,w3]) b.num:=⟨s3,w3,rfl,h3⟩;have n4:cO (.agg [aa s4,w4]) b.den:=⟨s4,w4,rfl,h4⟩;by_cases zX:a.den=1/\b.den=1
 ·obtain ⟨d1,d2⟩:=zX;obtain ⟨p,e1,hp⟩:=Lh h.toNu n1 n3 ka.1 kb.1 (by omega);obtain ⟨r,e2,hr⟩:=Li h hp;have he:((a.num+b.num:Int):Rat)=a+b:=by
   rw [Rat.intCast_add,<-TU a d1,<-TU b d2]
  rw [he] at hr;have bW:=hr;obtain ⟨s5,w5,rfl,h5⟩:=hp;obtain ⟨s6,w6,s7,w7,rfl,h6,h7⟩:=hr;obtain ⟨l5,u5⟩:=h5.aA;obtain ⟨l6,u6⟩:=h6.aA;obtain ⟨l7,u7⟩:=h7.aA;refine ⟨_,?_,bW⟩;rw [d1] at i1;rw [d2] at i2;unfold af;rw [aq h.X6];simp only [go_sem,ya,yb,Hv,aG,u1.pu,u1.ah,u1.one,u2.pu,u2.ah,u2.one,u3.pu,u3.ah,u3.one,u4.pu,u4.ah,u4.one,aZ,yd,gL,rD,bl,i1,i2,e1,u5.ah,e2,bB,lZ u6 u7,dB,dD,yj,gL,mD u6 u7]
 ·obtain ⟨p1,e1,bI⟩:=zx h.toNu n1 n4 ka.1 kb.2 (by omega);obtain ⟨p2,e2,jV⟩:=zx h.toNu n3 n2 kb.1 ka.2 (by omega);obtain ⟨p3,e3,hp3⟩:=Lh h.toNu bI jV (ka.1.mul kb.2) (kb.1.mul ka.2) (by omega);obtain ⟨p4,e4,hp4⟩:=zx h.toNu n2 n4 ka.2 kb.2 (by omega);obtain ⟨r,e5,hr⟩:=V9 h hp3 hp4 (by have:=Fl a b;omega) ((ka.1.mul kb.2).Wa (kb.1.mul ka.2)) ((ka.2.mul kb.2).mono (by omega)) (by omega);rw [<-add_eq] at hr;have bW:=hr;obtain ⟨s5,w5,rfl,h5⟩:=bI;obtain ⟨s6,w6,rfl,h6⟩:=jV;obtain ⟨s7,w7,rfl,h7⟩:=hp3;obtain ⟨s8,w8,rfl,h8⟩:=hp4;obtain ⟨s9,w9,s10,w10,rfl,h9,iy⟩:=hr;obtain ⟨l5,u5⟩:=h5.aA;obtain ⟨l6,u6⟩:=h6.aA;obtain ⟨l7,u7⟩:=h7.aA;obtain ⟨l8,u8⟩:=h8.aA;obtain ⟨l9,u9⟩:=h9.aA;obtain ⟨l10,Rj⟩:=iy.aA;refine ⟨_,?_,bW⟩;unfold af;rw [aq h.X6];by_cases d1:a.den=1
  ·rw [d1] at i1;rw [yR (fun d2=>zX ⟨d1,d2⟩)] at i2;simp only [go_sem,ya,yb,Hv,aG,u1.pu,u1.ah,u1.one,u2.pu,u2.ah,u2.one,u3.pu,u3.ah,u3.one,u4.pu,u4.ah,u4.one,aZ,yd,gL,rD,Co,bl,i1,i2,e1,e2,u5.ah,u6.ah,e3,e4,u7.ah,u8.ah,e5,bB,lZ u9 Rj,dB,dD,yj,gL,mD u9 Rj]
  ·rw [yR d1] at i1;simp only [go_sem,ya,yb,Hv,aG,u1.pu,u1.ah,u1.one,u2.pu,u2.ah,u2.one,u3.pu,u3.ah,u3.one,u4.pu,u4.ah,u4.one,aZ,yd,gL,rD,Co,bl,i1,e1,e2,u5.ah,u6.ah,e3,e4,u7.ah,u8.ah,e5,bB,lZ u9 Rj,dB,dD,yj,gL,mD u9 Rj]
def Mw (h:Fr' P L) {v w:AV} {a b:Rat} {K:Nat} (hv:cK v a) (hw:cK w b) (ka:Hq K a) (kb:Hq K b) (hK:K<=10000000000):∃r,af P L 50 [v,w] r/\cK r (a-b):=by
 obtain ⟨n,e1,hn⟩:=ax1 h hw kb (by omega);obtain ⟨r,e2,hr⟩:=Ri h hv hn ka kb.neg hK;rw [<-tj] at hr;have bW:=hr;obtain ⟨s1,w1,s2,w2,rfl,h1,h2⟩:=hv;obtain ⟨s3,w3,s4,w4,rfl,h3,h4⟩:=hw;obtain ⟨s5,w5,s6,w6,rfl,h5,h6⟩:=hn;obtain ⟨s7,w7,s8,w8,rfl,h7,h8⟩:=hr;obtain ⟨l1,u1⟩:=h1.aA;obtain ⟨l2,u2⟩:=h2.aA;obtain ⟨l3,u3⟩:=h3.aA;obtain ⟨l4,u4⟩:=h4.aA;obtain ⟨l5,u5⟩:=h5.aA;obtain ⟨l6,u6⟩:=h6.aA;obtain ⟨l7,u7⟩:=h7.aA;obtain ⟨l8,u8⟩:=h8.aA;refine ⟨_,?_,bW⟩;unfold af;rw [aq h.Rh];simp only [go_sem,ya,yb,QK,aG,u1.pu,u1.ah,u1.one,u2.pu,u2.ah,u2.one,u3.pu,u3.ah,u3.one,u4.pu,u4.ah,u4.one,u5.ah,u6.ah,gL,bl,e1,e2,bB,lZ u7 u8,dB,dD,yj,gL,mD u7 u8]
def z7 (h:Fr' P L) {v w:AV} {a b:Rat} {K:Nat} (hv:cK v a) (hw:cK w b) (ka:Hq K a) (kb:Hq K b) (hK:K<=10000000000):∃r,af P L 49 [v,w] r/\cK r (a*b):=by
 obtain ⟨s1,w1,s2,w2,rfl,h1,h2⟩:=hv;obtain ⟨s3,w3,s4,w4,rfl,h3,h4⟩:=hw;obtain ⟨l1,u1⟩:=h1.aA;obtain ⟨l2,u2⟩:=h2.aA;obtain ⟨l3,u3⟩:=h3.aA;obtain ⟨l4,u4⟩:=h4.aA;obtain ⟨p1,e1,bI⟩:=zx h.toNu (v:= .agg [aa s1,w1]) (w:= .agg [aa s3,w3]) ⟨s1,w1,rfl,h1⟩ ⟨s3,w3,rfl,h3⟩ ka.1 kb.1 (by omega);obtain ⟨p2,e2,jV⟩:=zx h.toNu (v:= .agg [aa s2,w2]) (w:= .agg [aa s4,w4]) ⟨s2,w2,rfl,h2⟩ ⟨s4,w4,rfl,h4⟩ ka.2 kb.2 (by omega);obtain ⟨r,e3,hr⟩:=V9 h bI jV (by have:=Fl a b;omega) (ka.1.mul kb.1) (ka.2.mul kb.2) (by omega);rw [<-mul_eq] at hr;have bW:=hr;obtain ⟨s5,w5,rfl,h5⟩:=bI;obtain ⟨s6,w6,rfl,h6⟩:=jV;obtain ⟨s7,w7,s8,w8,rfl,h7,h8⟩:=hr;obtain ⟨l5,u5⟩:=h5.aA;obtain ⟨l6,u6⟩:=h6.aA;obtain ⟨l7,u7⟩:=h7.aA;obtain ⟨l8,u8⟩:=h8.aA;refine ⟨_,?_,bW⟩;unfold af;rw [aq h.nM]
 simp only [go_sem,ya,yb,c49,aG,u1.pu,u1.ah,u1.one,u2.pu,u2.ah,u2.one,u3.pu,u3.ah,u3.one,u4.pu,u4.ah,u4.one,u5.ah,u6.ah,aZ,yd,rD,Co,bl,e1,e2,e3,bB,lZ u7 u8,dB,dD,yj,gL,mD u7 u8]
def m73 (h:Fr' P L) {v:AV} {a:Rat} {K:Nat} (hv:cK v a) (h0:a≠0) (ka:Hq K a) (hK:K<=10000000000):∃r,af P L 73 [v] r/\cK r a⁻¹:=by
 obtain ⟨s1,w1,s2,w2,rfl,h1,h2⟩:=hv;obtain ⟨l1,u1⟩:=h1.aA;obtain ⟨l2,u2⟩:=h2.aA;obtain ⟨r,e1,hr⟩:=V9 h (v:= .agg [aa s2,w2]) (w:= .agg [aa s1,w1]) ⟨s2,w2,rfl,h2⟩ ⟨s1,w1,rfl,h1⟩ (fun e=>h0 (Rat.num_eq_zero.1 e)) ka.2 ka.1 (by omega);rw [<-Rat.inv_def] at hr;have bW:=hr;obtain ⟨s7,w7,s8,w8,rfl,h7,h8⟩:=hr;obtain ⟨l7,u7⟩:=h7.aA;obtain ⟨l8,u8⟩:=h8.aA;refine ⟨_,?_,bW⟩;unfold af;rw [aq h.X7];simp only [go_sem,ya,yb,L7,aG,u1.pu,u1.ah,u1.one,u2.pu,u2.ah,u2.one,aZ,yd,rD,Co,bl,e1,bB,lZ u7 u8,dB,dD,yj,gL,mD u7 u8]
def m70 (h:Fr' P L) {v w:AV} {a b:Rat} {K:Nat} (hv:cK v a) (hw:cK w b) (h0:b≠0) (ka:Hq K a) (kb:Hq K b) (hK:K<=10000000000):∃r,af P L 70 [v,w] r/\cK r (a/b):=by
 obtain ⟨n,e1,hn⟩:=m73 h hw h0 kb hK;obtain ⟨r,e2,hr⟩:=z7 h hv hn ka kb.inv hK;have bW:=hr;obtain ⟨s1,w1,s2,w2,rfl,h1,h2⟩:=hv;obtain ⟨s3,w3,s4,w4,rfl,h3,h4⟩:=hw;obtain ⟨s5,w5,s6,w6,rfl,h5,h6⟩:=hn;obtain ⟨s7,w7,s8,w8,rfl,h7,h8⟩:=hr;obtain ⟨l1,u1⟩:=h1.aA;obtain ⟨l2,u2⟩:=h2.aA;obtain ⟨l3,u3⟩:=h3.aA;obtain ⟨l4,u4⟩:=h4.aA;obtain ⟨l5,u5⟩:=h5.aA;obtain ⟨l6,u6⟩:=h6.aA;obtain ⟨l7,u7⟩:=h7.aA;obtain ⟨l8,u8⟩:=h8.aA;refine ⟨_,?_,bW⟩;unfold af;rw [aq h.X8];simp only [go_sem,ya,yb,L6,aG,u1.pu,u1.ah,u1.one,u2.pu,u2.ah,u2.one,u3.pu,u3.ah,u3.one,u4.pu,u4.ah,u4.one,u5.ah,u6.ah,gL,bl,e1,e2,bB,lZ u7 u8,dB,dD,yj,gL,mD u7 u8]
def m71 (h:Fr' P L) {v w:AV} {a b:Rat} {K:Nat} (hv:cK v a) (hw:cK w b) (ka:Hq K a) (kb:Hq K b) (hK:K<=10000000000):af P L 71 [v,w] (aa (A4 a b)):=by
 obtain ⟨s1,w1,s2,w2,rfl,h1,h2⟩:=hv;obtain ⟨s3,w3,s4,w4,rfl,h3,h4⟩:=hw;obtain ⟨l1,u1⟩:=h1.aA;obtain ⟨l2,u2⟩:=h2.aA;obtain ⟨l3,u3⟩:=h3.aA;obtain ⟨l4,u4⟩:=h4.aA;obtain ⟨p1,e1,bI⟩:=zx h.toNu (v:= .agg [aa s1,w1]) (w:= .agg [aa s4,w4]) ⟨s1,w1,rfl,h1⟩ ⟨s4,w4,rfl,h4⟩ ka.1 kb.2 (by omega);obtain ⟨p2,e2,jV⟩:=zx h.toNu (v:= .agg [aa s3,w3]) (w:= .agg [aa s2,w2]) ⟨s3,w3,rfl,h3⟩ ⟨s2,w2,rfl,h2⟩ kb.1 ka.2 (by omega);have e3:=ah0 h.toNu bI jV (ka.1.mul kb.2) (kb.1.mul ka.2) (by omega);rw [arT] at e3;obtain ⟨s5,w5,rfl,h5⟩:=bI;obtain ⟨s6,w6,rfl,h6⟩:=jV;obtain ⟨l5,u5⟩:=h5.aA;obtain ⟨l6,u6⟩:=h6.aA;unfold af;rw [aq h.h71];simp only [go_sem,ya,yb,Xy,aG,u1.pu,u1.ah,u1.one,u2.pu,u2.ah,u2.one,u3.pu,u3.ah,u3.one,u4.pu,u4.ah,u4.one,u5.ah,u6.ah,aZ,yd,rD,Co,bl,e1,e2,e3,bB]
def ah6 (h:Fr' P L) {v:AV} {a:Rat} {K:Nat} (hv:cK v a) (ka:Hq K a) (hK:K<=10000000000):∃r,af P L 149 [v] r/\cO r a.floor:=by
 obtain ⟨s1,w1,s2,w2,rfl,h1,h2⟩:=hv;obtain ⟨l1,u1⟩:=h1.aA;obtain ⟨l2,u2⟩:=h2.aA;obtain ⟨q,r,e1,hq,hr⟩:=V6 h.toNu (v:= .agg [aa s1,w1]) (w:= .agg [aa s2,w2]) ⟨s1,w1,rfl,h1⟩ ⟨s2,w2,rfl,h2⟩ (Tp a) ka.1 ka.2 (by omega);rw [<-Rat.floor_def] at hq;have cz:=hq;obtain ⟨s3,w3,rfl,h3⟩:=hq;obtain ⟨s4,w4,rfl,h4⟩:=hr;obtain ⟨l3,u3⟩:=h3.aA;obtain ⟨l4,u4⟩:=h4.aA;refine ⟨_,?_,cz⟩;unfold af;rw [aq h.axZ];simp only [go_sem,ya,yb,VD,aG,u1.pu,u1.ah,u1.one,u2.pu,u2.ah,u2.one,aZ,yd,rD,Co,bl,e1,rh,dB,dD,yj,nn u3,ep u3,ep u4]
end
end
section
open Go (IntKind)
def sX:List AV->Option (List Nat)
 | []=>some []
 | .int .u64 (.ofNat d)::r=>bif yJ d 18446744073709551616 then (match sX r with | some l=>some (d::l) | none=>none) else none
 | _::_=>none
def zy:List Nat->Nat
 | []=>0
 | a::r=>a+18446744073709551616*zy r
def Cp:List Nat->Bool
 | []=>false
 | [a]=> !yx a 0
 | _::r=>Cp r
def Of:List AV->Option AV
 | [.agg [.int .i64 s,.ae]]=>bif zc s then some (.str (aW s)) else none
 | [.agg [.int .i64 s,.aO _ n cs]]=>
  match sX cs with
  | some l=>
   bif yx l.length n&&(yE n 4000000000&&(Cp l&&yE 9223372036854775808 (zy l))) then
    match s with
    | .ofNat 1=>some (.str (an (zy l)))
    | .negSucc 0=>some (.str (45::an (zy l)))
    | _=>none
   else none
  | none=>none
 | _=>none
end
section
open Go (IntKind)
def aaF:∀{l:List Nat},lo 18446744073709551616 l->sX (l.map uc)=some l
 | [],_=>rfl
 | a::l,h=>by
  have h1:=h a (by simp);have h2:=aaF (l:=l) (fun x hx=>h x (by simp [hx]));show (bif yJ a 18446744073709551616 then (match sX (l.map uc) with | some l=>some (a::l) | none=>none) else none)=_
  rw [lk h1,h2];rfl
def TV:∀l:List Nat,zy l=bv 18446744073709551616 l
 | []=>rfl
 | a::l=>by simp only [zy,bv,TV l]
def acw:∀{l:List Nat},l≠[]->gU l->Cp l=true
 | [],h,_=>absurd rfl h
 | [a],_,h=>by
  have:a≠0:=fun e=>by
   subst e;have h:eI [0]=[0]:=h;simp [eI] at h
  simp [Cp,cP this]
 | a::b::r,_,h=>by
  have h1:gU (b::r):=by
   have h:eI (a::b::r)=a::b::r:=h;rw [eI] at h
   grind
  have:=acw (l:=b::r) (by simp) h1
  simpa [Cp] using this
section
variable {P:aI} {L:Lib}
structure Tx (P:aI) (L:Lib):Prop extends Fr' P L where
 Dd:L.pure 99=some Of
 ax2:L.pure 175=some JS
 ah7:L.pure 152=some Nb
 Wb:L.pure 153=some MV
 Wc:L.pure 154=some Kt
 We:L.pure 109=some Pp
 Wf:Has P L 155 PE
 ah8:Has P L 172 PH
 ax3:Has P L 151 PD
 ax4:Has P L 107 Px
 Mx:Has P L 46 EO
 ah9:Has P L 110 Py
 Rk:Has P L 62 QR
def Yb (h:Tx P L) {v:AV} {z:Int} {K:Nat} (hv:cO v z) (hz:Bd K z) (hK:K<=4000000000):af P L 99 [v] (.str (aW z)):=by
 obtain ⟨s,w,rfl,hn⟩:=hv;unfold af;rw [iP h.Dd];rcases hn with ⟨rfl,rfl,h1,h2⟩ | ⟨e,l,rfl,g,n,hb,hs,h1⟩
 ·show (bif zc s then some (AV.str (aW s)) else none)=_
  have:zc s=true:=by
   cases s with
   | ofNat k=>exact lk (by have:(Int.ofNat k)=(k:Int):=rfl;omega)
   | negSucc k=>exact lk (by omega)
  grind
 ·have mM:l≠[]:=fun e=>by subst e;simp [bv] at hb;omega
  have rW:l.length<=4000000000:=Nat.le_trans (oW n hb (yL hz (Ca K))) hK
  show (match sX (l.map uc) with
   | some l'=>bif yx l'.length l.length&&(yE l.length 4000000000&&(Cp l'&&yE 9223372036854775808 (zy l'))) then (match s with | .ofNat 1=>some (AV.str (an (zy l'))) | .negSucc 0=>some (.str (45::an (zy l'))) | _=>none) else none
   | none=>none)=_
  rw [aaF g];simp only [Nat.beq_refl,yu rW,acw mM n,TV,hb,yu h1,wi,ym];by_cases h0:z<0
  ·rw [yF h0] at hs;subst hs;rw [kS h0];rfl
  ·rw [yr h0] at hs;subst hs;obtain ⟨m,rfl⟩:∃m:Nat,z=m:=⟨z.toNat,by omega⟩;rfl
def RT (r:Rat):List Nat:=aW r.num++(if r.den=1 then [] else 47::an r.den)
def Js {z:Int} {k:Nat} (h:Bd k z):(aW z).length<=k+1:=by
 have h1:∀m:Nat,m<2^k->(an m).length<=max k 1:=fun m hm=>by
  cases k with
  | zero=>
       have:m=0:=by simpa using hm
       subst this;decide
  | succ k=>
   rw [Nat.max_eq_left (by omega)];exact sO (k:=k) (yL hm (Nat.pow_le_pow_left (by decide) _))
 by_cases h0:z<0
 ·rw [kS h0];unfold Bd at h
  grind
 ·obtain ⟨m,rfl⟩:∃m:Nat,z=m:=⟨z.toNat,by omega⟩
  have:=h1 m (by unfold Bd at h;simpa using h)
  rw [lJ];omega
def Yc (h:Tx P L) {v:AV} {a:Rat} {K:Nat} (hv:cK v a) (ka:Hq K a) (hK:K<=4000000000):af P L 46 [v] (.str (RT a)):=by
 have i1:=Ya h.toFr' hv;obtain ⟨s1,w1,s2,w2,rfl,h1,h2⟩:=hv;obtain ⟨l1,u1⟩:=h1.aA;obtain ⟨l2,u2⟩:=h2.aA;have e1:=Yb h (v:= .agg [aa s1,w1]) ⟨s1,w1,rfl,h1⟩ ka.1 hK;have e2:=Yb h (v:= .agg [aa s2,w2]) ⟨s2,w2,rfl,h2⟩ ka.2 hK;have b1:=Js ka.1;have b2:=Js ka.2;rw [lJ] at e2 b2;unfold af RT;rw [aq h.Mx];by_cases hd:a.den=1
 ·rw [yF hd,List.append_nil];rw [hd] at i1;simp only [go_sem,ya,yb,EO,aG,u1.pu,u1.ah,u1.one,u2.pu,u2.ah,u2.one,gL,bl,i1,aZ,yd,rD,e1]
 ·rw [yr hd];rw [yR hd] at i1;have hc:aW a.num++47::an a.den=(aW a.num++[47])++an a.den:=by simp
  rw [hc]
  simp only [go_sem,ya,yb,EO,aG,u1.pu,u1.ah,u1.one,u2.pu,u2.ah,u2.one,gL,bl,i1,aZ,yd,rD,Co,e1,e2,gH (a:=aW a.num) (b:=[47]) (by simp;omega),gH (a:=aW a.num++[47]) (b:=an a.den) (by simp;omega)]
end
end
section
open Go (IntKind)
def ax5 {n:Nat} (h:n<9223372036854775808):binOp .and (.int .i64 (n:Int)) (.int .i64 1)=some (.int .i64 ((n%2:Nat):Int)):=by
 show some (AV.int .i64 (IntKind.wrap .i64 ((xG 64 (n:Int)&&&xG 64 1).toNat:Int)))=_
 rw [show xG 64 (n:Int)=uk 64 n from BitVec.ofInt_natCast 64 n,show xG 64 1=uk 64 1 from rfl];rw [BitVec.toNat_and,vm,vm,show (1%2^64:Nat)=2^1-1 from rfl,Nat.and_two_pow_sub_one_eq_mod,wrapN (by omega)]
 grind
def ax6 (n:Nat):binOp .shr (.int .i64 (n:Int)) (.int .u64 1)=some (.int .i64 ((n/2:Nat):Int)):=by
 show some (AV.int .i64 ((n:Int).fdiv (2^1)))=_
 grind
def Bd.pow {k:Nat} {z:Int} (h:Bd k z):∀e,Bd (k*e+1) (z^e)
 | 0=>by rw [tO,xO];unfold Bd;decide
 | e+1=>by
  have ih:=Bd.pow h e;rw [Int.pow_succ];exact (ih.mul h).mono (by rw [xH,yi];omega)
section
variable {P:aI} {L:Lib}
def auN (h:Nu P L) (Ew:True) {z:Int} {K k0:Nat} (hz:Bd K z) (hK:K*k0+1<=30000000000) {o1 o2:AV}:
  ∀m st,(∃(k i e:Nat) (s1 s2:Int) (w1 w2:AV),bA [1,2,4,5] st=⟨[(1,aa k),(2,.ptr 0 0),(4,.ptr 1 0),(5,.ptr 2 0)],[(2,.cells true true true 2 [aa s2,w2]),(1,.cells true true true 2 [o1,o2]),(0,.cells true true true 2 [aa s1,w1])],3,0⟩/\cZ s1 w1 (z^i)/\cZ s2 w2 (z^e)/\e+i*k=k0/\(0<k->i<=k0)/\k<9223372036854775808/\k=m)->
   ∃ex st',D P L (.loop [1,2,4,5] DM) st=some (ex,st')/\∃tm s2 w2 c0,st'=⟨tm,[(2,.cells true true true 2 [aa s2,w2]),(1,.cells true true true 2 [o1,o2]),(0,c0)],3,0⟩/\ex= .exit 0/\ab tm 4= .ptr 1 0/\ab tm 5= .ptr 2 0/\cZ s2 w2 (z^k0):=by
 refine cg (I:=fun m st=>∃(k i e:Nat) (s1 s2:Int) (w1 w2:AV),st=⟨[(1,aa k),(2,.ptr 0 0),(4,.ptr 1 0),(5,.ptr 2 0)],[(2,.cells true true true 2 [aa s2,w2]),(1,.cells true true true 2 [o1,o2]),(0,.cells true true true 2 [aa s1,w1])],3,0⟩/\cZ s1 w1 (z^i)/\cZ s2 w2 (z^e)/\e+i*k=k0/\(0<k->i<=k0)/\k<9223372036854775808/\k=m)
  (Q:=fun ex st'=>∃tm s2 w2 c0,st'=⟨tm,[(2,.cells true true true 2 [aa s2,w2]),(1,.cells true true true 2 [o1,o2]),(0,c0)],3,0⟩/\ex= .exit 0/\ab tm 4= .ptr 1 0/\ab tm 5= .ptr 2 0/\cZ s2 w2 (z^k0)) ?_
 rintro m st ⟨k,i,e,s1,s2,w1,w2,rfl,h1,h2,hk,hi,hkb,rfl⟩;obtain ⟨l1,u1⟩:=h1.aA;obtain ⟨l2,u2⟩:=h2.aA;by_cases LK:k=0
 ·right
  subst LK;rw [xO,yZ] at hk;subst hk;simp only [go_sem,DM,show ¬(0:Int)<((0:Nat):Int) by omega];exact ⟨_,_,rfl,by simp,_,s2,w2,_,rfl,rfl,by simp only [go_sem,ya],by simp only [go_sem,ya],h2⟩
 ·left
  have cu:=hi (by omega);have he:e<=k0:=by omega
  have hik:i*1<=i*k:=yQ i (by omega);have b1:Bd (K*k0+1) (z^i):=(hz.pow i).mono (by have:=yQ K cu;omega);have b2:Bd (K*k0+1) (z^e):=(hz.pow e).mono (by have:=yQ K he;omega);have n1:cO (.agg [aa s1,w1]) (z^i):=⟨s1,w1,rfl,h1⟩;have n2:cO (.agg [aa s2,w2]) (z^e):=⟨s2,w2,rfl,h2⟩;obtain ⟨p,e1,hp⟩:=zx h n2 n1 b2 b1 (by omega);obtain ⟨q,e2,hq⟩:=zx h n1 n1 b1 b1 (by omega);rw [<-Int.pow_add] at hp hq;obtain ⟨s3,w3,rfl,h3⟩:=hp;obtain ⟨s4,w4,rfl,h4⟩:=hq;obtain ⟨l3,u3⟩:=h3.aA;obtain ⟨l4,u4⟩:=h4.aA;have fS:=wC k 2;have My:=ax5 (n:=k) hkb;have Yd:=ax6 k;have aCf:(i+i)*(k/2)=i*(2*(k/2)):=by rw [<-Nat.two_mul,Nat.mul_comm 2 i,Nat.mul_assoc]
  by_cases Lj:k%2=1
  ·rw [Lj] at My fS;have zJ:i*k=i*(2*(k/2))+i:=by
    conv=>lhs;rw [<-fS,xH,yi]
   by_cases om:1<k
   ·simp only [go_sem,ya,DM,show (0:Int)<(k:Int) by omega,My,show ((1:Nat):Int)=1 from rfl,bZ,bl,u1.ah,u2.ah,e1,bB,bZ,yj,ep u3,ep u4,show (1:Int)<(k:Int) by omega,e2,Yd]
    exact ⟨_,k/2,rfl,by omega,k/2,i+i,e+i,s4,s3,w4,w3,by simp only [go_sem,ya,yb,av],h4,h3,by omega,fun h0=>by have:=yQ (i+i) h0;omega,by omega,rfl⟩
   ·have gA:e+i+i*(k/2)=k0:=by
     have h1:k/2=0:=by omega
     rw [h1] at zJ ⊢;omega
    simp only [go_sem,ya,DM,show (0:Int)<(k:Int) by omega,My,show ((1:Nat):Int)=1 from rfl,bZ,bl,u1.ah,u2.ah,e1,bB,bZ,yj,ep u3,show ¬(1:Int)<(k:Int) by omega,Yd];exact ⟨_,k/2,rfl,by omega,k/2,i,e+i,s1,s3,w1,w3,by simp only [go_sem,ya,yb,av],h1,h3,gA,fun h0=>by omega,by omega,rfl⟩
  ·have EN:k%2=0:=by omega
   rw [EN] at My fS;have zJ:i*k=i*(2*(k/2)):=by
    conv=>lhs;rw [<-fS,yZ]
   simp only [go_sem,ya,DM,show (0:Int)<(k:Int) by omega,My,show ((0:Nat):Int)=0 from rfl,vn,bZ,bl,u1.ah,bB,bZ,yj,ep u4,show (1:Int)<(k:Int) by omega,e2,Yd]
   exact ⟨_,k/2,rfl,by omega,k/2,i+i,e,s4,s2,w4,w2,by simp only [go_sem,ya,yb,av],h4,h2,by omega,fun h0=>by have:=yQ (i+i) h0;omega,by omega,rfl⟩
def ax7 (h:Nu P L) (Wf:Has P L 155 PE) {v:AV} {z:Int} {K k:Nat} (hv:cO v z) (hz:Bd K z) (hK:K*k+1<=30000000000) (hk:k<9223372036854775808):∃r,af P L 155 [v,aa k] r/\cO r (z^k):=by
 obtain ⟨o1,o2⟩:=Ey h (z:=1) (by decide) (by decide);obtain ⟨s1,w1,rfl,h1⟩:=hv;obtain ⟨l1,u1⟩:=h1.aA;have un:=Ai;have jz:∃s w,af P L 155 [.agg [aa s1,w1],aa k] (.agg [aa s,w])/\cZ s w (z^k):=by
  unfold af;rw [aq Wf];simp only [go_sem,ya,yb,PE,aG,u1.pu,u1.one,o1,bB,ep un];generalize hq:D P L (.loop [1,2,4,5] DM) _=q;obtain ⟨ex,st,rfl,tm,s5,w5,c1,rfl,rfl,t4,t5,h5⟩:=bV hq (auN (P:=P) (L:=L) h trivial hz (k0:=k) hK (o1:= .int .i64 0) (o2:= .ae) k) ⟨k,1,0,s1,1,w1,.ae,by simp only [go_sem,ya,yb,av],by rw [Int.pow_one];exact h1,.inl ⟨rfl,(tO z).symm,(by rw [tO];decide)⟩,by omega,fun h0=>h0,hk,rfl⟩
  obtain ⟨l5,u5⟩:=h5.aA;refine ⟨s5,w5,?_,h5⟩;simp only [go_sem,ya,yb,av,t4,t5,dB,dD,bZ,yj,nn u5,ep u5]
 obtain ⟨s,w,e,hn⟩:=jz;exact ⟨_,e,s,w,rfl,hn⟩
def JA:∀(l m:List Nat) (a:Nat),df (l++m) a=(df l a).bind (fun v=>df m v)
 | [],m,a=>rfl
 | b::l,m,a=>by
  simp only [List.cons_append,df]
  cases (yE 48 b&&yE b 57) with
  | true=>exact JA l m _
  | false=>rfl
def apD:∀{l:List Nat} {a v:Nat},df l 0=some v->df l a=some (a*10^l.length+v):=by
 intro l
 suffices h:∀{l:List Nat} {a b v:Nat},df l b=some v->b*10^l.length<=v/\df l (a+b)=some (a*10^l.length+v) by
  intro a v hv
  have:=(h (a:=a) hv).2
  grind
 intro l
 induction l with
 | nil=>intro a b v h;simp [df] at h ⊢;omega
 | cons c l ih=>
  intro a b v h;simp only [df] at h ⊢
  cases hb:(yE 48 c&&yE c 57) with
  | false=>rw [hb] at h;cases h
  | true=>
   rw [hb] at h;obtain ⟨h1,h2⟩:=ih (a:=10*a) h;simp only [List.length_cons,Nat.pow_succ]
   grind
def TW:∀{l:List Nat} {v:Nat},df l 0=some v->v<10^l.length:=by
 suffices h:∀{l:List Nat} {b v:Nat},df l b=some v->v<(b+1)*10^l.length by
  grind
 intro l
 induction l with
 | nil=>intro b v h;simp [df] at h ⊢;omega
 | cons c l ih=>
  intro b v h;simp only [df] at h
  cases hb:(yE 48 c&&yE c 57) with
  | false=>rw [hb] at h;cases h
  | true=>
   simp only [Bool.and_eq_true] at hb;have hc:=Nat.le_of_ble_eq_true hb.2;have h2:=Nat.mul_le_mul_right (10^l.length) (show 10*b+(c-48)+1<=10*(b+1) by omega)
   grind
def arU (Wc:L.pure 154=some Kt) {f:cT} {s:List Nat} {v:Nat} (h0:0<s.length) (h1:s.length<=18) (hv:df s 0=some v):bY P L f 154 [.str s]=some (.aw [.int .i64 v,.undef]):=by
 rw [iP Wc];show (bif yJ 0 s.length&&yE s.length 18 then (match df s 0 with | some n=>some (AV.aw [.int .i64 n,.undef]) | none=>none) else none)=_
 rw [lk h0,yu h1,hv];rfl
end
end
section
open Go (IntKind)
def Lk:Nat->VC->VC
 | 0,c=>bP c
 | n+1,c=> .seq (bP c) (Lk n (aD c))
end
section
open Go
section
variable {H:Type} {enc:yv×yf->H} {P:y7} {w:yh} {base:Nat} {sp:Nat->Bool} {held:Bool}
def mapM_mem {α β:Type} {f:α->Option β}:∀{l:List α} {r:List β},l.mapM f=some r->∀y,y∈r->∃x,f x=some y
 | [],r,h,y,hy=>by simp only [List.mapM_nil,wB,yc] at h;subst h;cases hy
 | x::l,r,h,y,hy=>by
  rw [vT] at h
  cases h1:f x with
  | none=>simp [h1] at h
  | some z=>
   cases h2:l.mapM f with
   | none=>simp [h1,h2] at h
   | some zs=>
    simp only [h1,h2,xP,vd,wB,yc] at h;subst h;rcases List.mem_cons.1 hy with rfl | hy
    ·exact ⟨x,h1⟩
    ·exact mapM_mem h2 y hy
def Rd (enc:yv×yf->H) (P:y7) (w:yh) (base:Nat) (sp:Nat->Bool) (held:Bool) (t:yv) (d:xr H):Prop:=∃bF cs ps,DataW.trod enc P w base sp held bF t cs=some (d,ps)
def auO {t:yv} {k:yU} {d:xr H} {n:Nat} (ht:P.underlying t=some (.int k)) (h:Rd enc P w base sp held t d):∃z,du P (n+1) t d=[.int k z]/\(Lit.int k z).wf=true:=by
 obtain ⟨bF,cs,ps,h⟩:=h
 cases bF with
 | zero=>simp [DataW.trod] at h
 | succ bF=>
  unfold DataW.trod at h
  split at h
  all_goals first
   | (rename_i hu;rw [ht] at hu;cases hu;done)
   | skip
  ·rename_i k1 k2 z hu;rw [ht] at hu;injection hu with hu
   injection hu with hu
   subst hu
   split at h
   ·rename_i hk;simp only [yc,yk] at h;obtain ⟨rfl,rfl⟩:=h;exact ⟨z,by simp only [du,ht],hk.2⟩
   ·cases h
  all_goals (cases h;done)
def apE {t e:yv} {d:xr H} {n:Nat} (ht:P.underlying t=some (.slice e)) (h:Rd enc P w base sp held t d):
  du P (n+1) t d=[.ae]\/∃(x:Bool) (kC:List (xr H)),du P (n+1) t d=[.aO x kC.length (kC.flatMap fun y=>du P n e y)]/\∀y,y∈kC->Rd enc P w base sp held e y:=by
 obtain ⟨bF,cs,ps,h⟩:=h
 cases bF with
 | zero=>simp [DataW.trod] at h
 | succ bF=>
  unfold DataW.trod at h
  split at h
  all_goals first
   | (rename_i hu;rw [ht] at hu;cases hu;done)
   | skip
  ·simp only [yc,yk] at h;obtain ⟨rfl,rfl⟩:=h;exact .inl (by simp only [du,ht])
  ·rename_i e' a len cap hu;rw [ht] at hu;injection hu with hu
   injection hu with hu
   subst hu;simp only at h
   split at h
   case isFalse=>cases h
   cases h1:(List.range len).mapM fun i=>(w.cells? base (a.add (i*P.cellsOf e)) (P.cellsOf e)).bind (DataW.trod enc P w base sp held bF e) with
   | none=>rw [h1] at h;simp at h
   | some kC=>
    rw [h1] at h;simp only [xP] at h;obtain ⟨rest,_,h⟩:=we.1 h;simp only [yk] at h;obtain ⟨rfl,rfl⟩:=h;refine .inr ⟨(rest.map (·.1)).isEmpty,kC.map (·.1),by simp only [du,ht,xm],?_⟩;intro y hy;obtain ⟨p,hp,rfl⟩:=vv.1 hy;obtain ⟨i,hi⟩:=mapM_mem h1 p hp;obtain ⟨dZ,_,rR⟩:=Option.bind_eq_some_iff.1 hi;exact ⟨bF,dZ,p.2,rR⟩
  all_goals (cases h;done)
def anq {t:yv} {fs:Array uF} {d:xr H} {n:Nat} (ht:P.underlying t=some (.struct fs)) (h:Rd enc P w base sp held t d):
  ∃ds:List (xr H),ds.length=fs.toList.length/\du P (n+1) t d=(fs.toList.zip ds).flatMap (fun x=>du P n x.1.type x.2)/\∀i (h1:i<fs.toList.length) (h2:i<ds.length),Rd enc P w base sp held fs.toList[i].type ds[i]:=by
 obtain ⟨bF,cs,ps,h⟩:=h
 cases bF with
 | zero=>simp [DataW.trod] at h
 | succ bF=>
  unfold DataW.trod at h
  split at h
  all_goals first
   | (rename_i hu;rw [ht] at hu;cases hu;done)
   | (cases h;done)
   | skip
  rename_i cs x1 Mb fs' hu;rw [ht] at hu;injection hu with hu
  injection hu with hu
  subst hu
  split at h
  case isFalse=>cases h
  obtain ⟨xs,h1,h⟩:=we.1 h;simp only [yk] at h;obtain ⟨rfl,rfl⟩:=h;refine ⟨xs.map (·.1),by simp [Np h1],by simp only [du,ht],?_⟩;have key:∀{r:List uF} {xs:List (xr H×List xZ)},r.mapM (fun f=>DataW.trod enc P w base sp held bF f.type ((cs.drop f.offset).take (P.cellsOf f.type)))=some xs->
    ∀i (h1:i<r.length) (h2:i<(xs.map (·.1)).length),Rd enc P w base sp held r[i].type (xs.map (·.1))[i]:=by
   intro r
   induction r with
   | nil=>intro xs h i h1;exact absurd h1 (Nat.not_lt_zero i)
   | cons f r ih=>
    intro xs h i h1 h2;rw [vT] at h
    cases g1:DataW.trod enc P w base sp held bF f.type ((cs.drop f.offset).take (P.cellsOf f.type)) with
    | none=>simp [g1] at h
    | some x=>
     cases g2:r.mapM (fun f=>DataW.trod enc P w base sp held bF f.type ((cs.drop f.offset).take (P.cellsOf f.type))) with
     | none=>simp [g1,g2] at h
     | some ys=>
      simp only [g1,g2,xP,vd,wB,yc] at h;subst h
      cases i with
      | zero=>exact ⟨bF,_,x.2,g1⟩
      | succ i=>exact ih g2 i (by simpa using h1) (by simpa using h2)
  exact key h1
def apF {t e:yv} {k:Nat} {d:xr H} {n:Nat} (ht:P.underlying t=some (.array k e)) (h:Rd enc P w base sp held t d):
  ∃ds:List (xr H),ds.length=k/\du P (n+1) t d=ds.flatMap (fun x=>du P n e x)/\∀y,y∈ds->Rd enc P w base sp held e y:=by
 obtain ⟨bF,cs,ps,h⟩:=h
 cases bF with
 | zero=>simp [DataW.trod] at h
 | succ bF=>
  unfold DataW.trod at h
  split at h
  all_goals first
   | (rename_i hu;rw [ht] at hu;cases hu;done)
   | (cases h;done)
   | skip
  rename_i cs x1 Mb k' e' hu;rw [ht] at hu;injection hu with hu
  injection hu with se Bp
  subst se;subst Bp
  split at h
  case isFalse=>cases h
  obtain ⟨xs,h1,h⟩:=we.1 h;simp only [yk] at h;obtain ⟨rfl,rfl⟩:=h;refine ⟨xs.map (·.1),by simp [Np h1],by simp only [du,ht],fun y hy=>?_⟩;obtain ⟨p,hp,rfl⟩:=vv.1 hy;obtain ⟨i,hi⟩:=mapM_mem h1 p hp;exact ⟨bF,_,p.2,hi⟩
end
end
section
open Go
inductive Ty
 | int (k:yU)
 | dP (k:ud)
 | bool
 | str
 | sl (e:Ty)
 | nil
 | cat (a b:Ty)
 | ar (n:Nat) (e:Ty)
def jH:Ty->List AV->Prop
 | .int k,l=>∃z,l=[.int k z]/\(Lit.int k z).wf=true
 | .dP k,l=>∃b,l=[.dP k b]
 | .bool,l=>∃b,l=[.bool b]
 | .str,l=>∃s:List Nat,l=[.str s]/\s.length<9223372036854775808/\∀c,c∈s->c<256
 | .sl e,l=>l=[.ae]\/∃(x:Bool) (ps:List (List AV)),l=[.aO x ps.length ps.flatten]/\∀p,p∈ps->jH e p
 | .nil,l=>l=[]
 | .cat a b,l=>∃x y,l=x++y/\jH a x/\jH b y
 | .ar n e,l=>∃ps:List (List AV),ps.length=n/\l=ps.flatten/\∀p,p∈ps->jH e p
def n8:List (Option Ty)->Option Ty
 | []=>some .nil
 | some a::r=>match n8 r with
  | some b=>some (.cat a b)
  | none=>none
 | none::_=>none
def gR (P:y7):Nat->yv->Option Ty
 | 0,_=>none
 | n+1,t=>
  match P.underlying t with
  | some .bool=>some .bool
  | some (.int k)=>some (.int k)
  | some (.float k)=>some (.dP k)
  | some .string=>some .str
  | some (.slice e)=>(gR P n e).map .sl
  | some (.struct fs)=>n8 (fs.toList.map fun f=>gR P n f.type)
  | some (.array k e)=>(gR P n e).map (.ar k)
  | _=>none
section
variable {H:Type} {enc:yv×yf->H} {P:y7} {w:yh} {base:Nat} {sp:Nat->Bool} {held:Bool}
def auP {t:yv} {k:ud} {d:xr H} {n:Nat} (ht:P.underlying t=some (.float k)) (h:Rd enc P w base sp held t d):∃b,du P (n+1) t d=[.dP k b]:=by
 obtain ⟨bF,cs,ps,h⟩:=h
 cases bF with
 | zero=>simp [DataW.trod] at h
 | succ bF=>
  unfold DataW.trod at h
  split at h
  all_goals first
   | (rename_i hu;rw [ht] at hu;cases hu;done)
   | skip
  ·rename_i k1 k2 z hu;rw [ht] at hu;injection hu with hu
   injection hu with hu
   subst hu
   split at h
   ·simp only [yc,yk] at h;obtain ⟨rfl,rfl⟩:=h;exact ⟨z,by simp only [du,ht]⟩
   ·cases h
  all_goals (cases h;done)
def arV {t:yv} {d:xr H} {n:Nat} (ht:P.underlying t=some .bool) (h:Rd enc P w base sp held t d):∃b,du P (n+1) t d=[.bool b]:=by
 obtain ⟨bF,cs,ps,h⟩:=h
 cases bF with
 | zero=>simp [DataW.trod] at h
 | succ bF=>
  unfold DataW.trod at h
  split at h
  all_goals first
   | (rename_i hu;rw [ht] at hu;cases hu;done)
   | skip
  ·simp only [yc,yk] at h;obtain ⟨rfl,rfl⟩:=h;rename_i b _;exact ⟨b,by simp only [du,ht]⟩
  all_goals (cases h;done)
def auQ {t:yv} {d:xr H} {n:Nat} (ht:P.underlying t=some .string) (h:Rd enc P w base sp held t d):
  ∃s:List Nat,du P (n+1) t d=[.str s]/\s.length<9223372036854775808/\∀c,c∈s->c<256:=by
 obtain ⟨bF,cs,ps,h⟩:=h
 cases bF with
 | zero=>simp [DataW.trod] at h
 | succ bF=>
  unfold DataW.trod at h
  split at h
  all_goals first
   | (rename_i hu;rw [ht] at hu;cases hu;done)
   | skip
  ·rename_i s hu
   split at h
   ·rename_i hs;simp only [yc,yk] at h;obtain ⟨rfl,rfl⟩:=h;refine ⟨_,by simp only [du,ht];rfl,?_,fun c hc=>?_⟩
    ·simp only [xm,Array.length_toList];have h1:s.size<=9223372036854775807:=hs;have h2:s.data.size=s.size:=rfl;omega
    ·obtain ⟨b,_,rfl⟩:=vv.1 hc;exact b.toNat_lt
   ·cases h
  all_goals (cases h;done)
def aaG {n:Nat} (ih:∀{t:yv} {T:Ty} {d:xr H},gR P n t=some T->Rd enc P w base sp held t d->jH T (du P n t d)):
  ∀(fs:List uF) (ds:List (xr H)) (T:Ty),n8 (fs.map fun f=>gR P n f.type)=some T->ds.length=fs.length->(∀i (h1:i<fs.length) (h2:i<ds.length),Rd enc P w base sp held fs[i].type ds[i])->
   jH T ((fs.zip ds).flatMap fun x=>du P n x.1.type x.2)
 | [],ds,T,hT,_,_=>by
  simp only [List.map_nil,n8,yc] at hT;subst hT;simp [jH]
 | f::fs,[],T,_,hl,_=>by simp at hl
 | f::fs,d::ds,T,hT,hl,hr=>by
  simp only [y8] at hT
  cases h1:gR P n f.type with
  | none=>simp [h1,n8] at hT
  | some a=>
   cases h2:n8 (fs.map fun f=>gR P n f.type) with
   | none=>simp [h1,h2,n8] at hT
   | some b=>
    simp only [h1,h2,n8,yc] at hT;subst hT;simp only [List.zip_cons_cons,List.flatMap_cons];exact ⟨_,_,rfl,ih h1 (hr 0 (by simp) (by simp)),aaG ih fs ds b h2 (by simpa using hl) (fun i h1 h2=>hr (i+1) (by simpa using h1) (by simpa using h2))⟩
def afS:∀(n:Nat) {t:yv} {T:Ty} {d:xr H},gR P n t=some T->Rd enc P w base sp held t d->jH T (du P n t d)
 | 0,t,T,d,hT,_=>by simp [gR] at hT
 | n+1,t,T,d,hT,hr=>by
  have ih:=@afS n
  cases hu:P.underlying t with
  | none=>simp [gR,hu] at hT
  | some u=>
   cases u with
   | slice e=>
    simp only [gR,hu] at hT;obtain ⟨E,hE,rfl⟩:=we.1 hT
    rcases apE (n:=n) hu hr with h | ⟨x,kC,h,hm⟩
    ·exact .inl h
    ·refine .inr ⟨x,kC.map (du P n e),by rw [h,xm,yaO],fun p hp=>?_⟩;obtain ⟨y,hy,rfl⟩:=vv.1 hp;exact ih hE (hm y hy)
   | struct fs=>
    simp only [gR,hu] at hT;obtain ⟨ds,e1,e2,e3⟩:=anq (n:=n) hu hr;rw [e2];exact aaG ih fs.toList ds T hT e1 e3
   | array k e=>
    simp only [gR,hu] at hT;obtain ⟨E,hE,rfl⟩:=we.1 hT;obtain ⟨ds,e1,e2,e3⟩:=apF (n:=n) hu hr;refine ⟨ds.map (du P n e),by simp [e1],by rw [e2,yaO],fun p hp=>?_⟩;obtain ⟨y,hy,rfl⟩:=vv.1 hp;exact ih hE (e3 y hy)
   | int k=>
    simp only [gR,hu,yc] at hT;subst hT;exact auO hu hr
   | float k=>
    simp only [gR,hu,yc] at hT;subst hT;exact auP hu hr
   | bool=>
    simp only [gR,hu,yc] at hT;subst hT;exact arV hu hr
   | string=>
    simp only [gR,hu,yc] at hT;subst hT;exact auQ hu hr
   | _=>simp [gR,hu] at hT
def G0:Ty->List AV->AV
 | .nil,l | .cat _ _,l | .ar _ _,l=> .agg l
 | _,l=>l.headD .undef
def anr:∀{l:List (Option Ty)} {T:Ty},n8 l=some T->∀x,G0 T x= .agg x
 | [],T,h=>by simp only [n8,yc] at h;subst h;exact fun _=>rfl
 | none::r,T,h=>by simp [n8] at h
 | some a::r,T,h=>by
  cases h1:n8 r with
  | none=>simp [n8,h1] at h
  | some b=>
   simp only [n8,h1,yc] at h;subst h;exact fun _=>rfl
def aws {n:Nat} {t:yv} {T:Ty} {d:xr H} (hT:gR P n t=some T):mC P n t d=G0 T (du P n t d):=by
 cases n with
 | zero=>simp [gR] at hT
 | succ n=>
  cases hu:P.underlying t with
  | none=>simp [gR,hu] at hT
  | some u=>
   cases u with
   | slice e=>
    simp only [gR,hu] at hT;obtain ⟨E,hE,rfl⟩:=we.1 hT;simp only [mC,hu,G0]
   | struct fs=>
    simp only [gR,hu] at hT;rw [anr hT];simp only [mC,hu]
   | array k e=>
    simp only [gR,hu] at hT;obtain ⟨E,hE,rfl⟩:=we.1 hT;simp only [mC,hu,G0]
   | _=>
    simp only [gR,hu,yc,reduceCtorEq] at hT<;>
    (subst hT
     simp only [mC,hu,G0])
def D9:List Ty->List (List AV)->List AV
 | T::Ts,l::ls=>G0 T l::D9 Ts ls
 | _,_=>[]
def Tq {n:Nat}:∀{ts:List yv} {Ts:List Ty} {vs:List yf} {ds:List (xr H)} {ps:List xZ},(ts.map (gR P n))=Ts.map some->DataW.TrodAll enc P w base sp held ts vs ds ps->
  ∃ls,jy jH Ts ls/\sW P n ts ds=D9 Ts ls/\ds.length=ts.length
 | [],[],[],[],ps,_,_=>⟨[],trivial,rfl,rfl⟩
 | t::ts,T::Ts,v::vs,d::ds,ps,hT,⟨p,q,⟨bF,h1⟩,h2,_⟩=>by
  simp only [y8,tS] at hT;obtain ⟨ls,k1,k2,k3⟩:=Tq hT.2 h2;exact ⟨du P n t d::ls,⟨afS n hT.1 ⟨bF,_,_,h1⟩,k1⟩,by simp only [sW,D9,k2,aws hT.1],by simp [k3]⟩
 | [],_::_,_,_,_,h,_=>by simp at h
 | _::_,[],_,_,_,h,_=>by simp at h
 | [],[],_::_,_,_,_,h=>by simp [DataW.TrodAll] at h
 | [],[],[],_::_,_,_,h=>by simp [DataW.TrodAll] at h
 | _::_,_,[],_,_,_,h=>by simp [DataW.TrodAll] at h
 | _::_,_,_::_,[],_,_,h=>by simp [DataW.TrodAll] at h
def auR {α β:Type} {p:α->β->Prop} {a:α}:∀{l:List β},jy p [a] l->∃x,l=[x]/\p a x
 | [x],h=>⟨x,rfl,h.1⟩
 | [],h=>h.elim
 | _::_::_,h=>h.2.elim
def auS {α β:Type} {p:α->β->Prop} {a b:α}:∀{l:List β},jy p [a,b] l->∃x y,l=[x,y]/\p a x/\p b y
 | x::l,h=>let ⟨y,h1,h2⟩:=auR h.2;⟨x,y,by rw [h1],h.1,h2⟩
 | [],h=>h.elim
def auT {α β:Type} {p:α->β->Prop} {a b c:α}:∀{l:List β},jy p [a,b,c] l->∃x y z,l=[x,y,z]/\p a x/\p b y/\p c z
 | x::l,h=>let ⟨y,z,h1,h2,h3⟩:=auS h.2;⟨x,y,z,by rw [h1],h.1,h2,h3⟩
 | [],h=>h.elim
end
end
section
open Go (IntKind)
abbrev Ki:Ty:= .cat .str (.cat .str .nil)
abbrev ag6:Ty:= .cat Ki (.cat .str .nil)
def Nv {l:List AV} (h:jH Ki l):∃x y:List Nat,l=[.str x,.str y]/\x.length<9223372036854775808/\y.length<9223372036854775808:=by
 obtain ⟨_,_,rfl,⟨x,rfl,hx,_⟩,_,_,rfl,⟨y,rfl,hy,_⟩,rfl⟩:=h;exact ⟨x,y,rfl,hx,hy⟩
def apG {l:List AV} (h:jH ag6 l):∃x y s:List Nat,l=[.str x,.str y,.str s]/\x.length<9223372036854775808/\y.length<9223372036854775808/\s.length<9223372036854775808:=by
 obtain ⟨_,_,rfl,h1,_,_,rfl,⟨s,rfl,hs,_⟩,rfl⟩:=h;obtain ⟨x,y,rfl,hx,hy⟩:=Nv h1;exact ⟨x,y,s,rfl,hx,hy,hs⟩
end
section
open Go (IntKind)
abbrev O3:Ty:= .sl (.int .i64)
abbrev TX:Ty:= .sl O3
abbrev afT:Ty:= .cat TX (.cat .str (.cat .str (.cat .str (.cat Ki (.cat Ki .nil)))))
def acx:∀{ps:List (List AV)},(∀p,p∈ps->jH (.int .i64) p)->∃zs:List Int,zs.length=ps.length/\ps.flatten=zs.map aa
 | [],_=>⟨[],rfl,rfl⟩
 | p::ps,h=>by
  obtain ⟨z,rfl,_⟩:=h p vL;obtain ⟨zs,h1,h2⟩:=acx (ps:=ps) (fun q hq=>h q (wI _ hq));exact ⟨z::zs,by simp [h1],by simp [h2]⟩
def acy {l:List AV} (h:jH O3 l):∃(v:AV) (zs:List Int),l=[v]/\bq v zs:=by
 rcases h with rfl | ⟨x,ps,rfl,h⟩
 ·exact ⟨_,[],rfl,rk⟩
 ·obtain ⟨zs,h1,h2⟩:=acx h;refine ⟨_,zs,rfl,?_⟩;rw [h2,<-h1];exact fN x zs
def acz:∀{ps:List (List AV)},(∀p,p∈ps->jH O3 p)->∃s:List (List Int),s.length=ps.length/\ps.flatten.length=ps.length/\jy bq ps.flatten s
 | [],_=>⟨[],rfl,rfl,trivial⟩
 | p::ps,h=>by
  obtain ⟨v,zs,rfl,hv⟩:=acy (h p vL);obtain ⟨s,h1,h2,h3⟩:=acz (ps:=ps) (fun q hq=>h q (wI _ hq));exact ⟨zs::s,by simp [h1],by simp [h2],hv,h3⟩
def aaH {l:List AV} (h:jH TX l):∃(v:AV) (s:List (List Int)),l=[v]/\bU v s:=by
 rcases h with rfl | ⟨x,ps,rfl,h⟩
 ·exact ⟨_,[],rfl,ao2⟩
 ·obtain ⟨s,h1,h2,h3⟩:=acz h;refine ⟨_,s,rfl,ps.flatten,?_,h3⟩
  have:=FK x ps.flatten
  rwa [h2] at this
def ans {l:List AV} (h:jH afT l):∃(w:AV) (s:List (List Int)) (a b c d e f g:List Nat),l=[w,.str a,.str b,.str c,.str d,.str e,.str f,.str g]/\bU w s/\a.length<9223372036854775808/\b.length<9223372036854775808/\c.length<9223372036854775808/\d.length<9223372036854775808/\e.length<9223372036854775808/\f.length<9223372036854775808/\g.length<9223372036854775808:=by
 obtain ⟨_,_,rfl,h1,_,_,rfl,⟨a,rfl,ha,_⟩,_,_,rfl,⟨b,rfl,hb,_⟩,_,_,rfl,⟨c,rfl,hc,_⟩,_,_,rfl,h2,_,_,rfl,h3,rfl⟩:=h;obtain ⟨w,s,rfl,hw⟩:=aaH h1;obtain ⟨d,e,rfl,hd,he⟩:=Nv h2;obtain ⟨f,g,rfl,hf,hg⟩:=Nv h3;exact ⟨w,s,a,b,c,d,e,f,g,rfl,hw,ha,hb,hc,hd,he,hf,hg⟩
end
end VE
