import Derived.Test.YtflgmingejdfnaaGreatDoorVat
import Derived.Test.YtflgmingejdfnaaGreatDoorVah
import Derived.Test.YtflgmingejdfnaaGreatDoorVaq
import Derived.Test.YtflgmingejdfnaaGreatDoorVag
set_option linter.all false
set_option maxRecDepth 100000
open BitVec renaming ofInt→xF,ofNat→vY,toNat_ofNat→vm
open Bool renaming and_self→ve
open Go renaming Code→wI,Func→tn,World→yh
open Go.Fence renaming wide→yaq
open Int renaming gcd→xX,gcd_comm→ybD,natAbs_ediv_of_dvd→vP,natCast_mul→vh,pow_zero→tH,reduceEq→tk
open List renaming append_assoc→xu,drop_zero→yj,length_append→yQ,length_cons→yv,length_nil→yF,map_append→xq,map_map→ybd,map_reverse→uX,nil_append→xS
open Nat renaming add_zero→yX,beq→yr,ble→yE,ble_eq_true_of_le→yu,blt→yG,div_add_mod→wB,div_eq_of_lt→wS,div_le_self→uy,le_refl→yD,le_trans→xi,lt_of_lt_of_le→yH,mod_lt→xC,mul_add→xD,mul_le_mul_left→yS,mul_one→yi,mul_zero→xJ,pow_le_pow_left→ue,pow_le_pow_right→xn,pow_pos→ybJ,pow_succ→xg,reduceAdd→yb,reduceEqDiff→ya,reduceLT→yy,reduceLeDiff→yg,reduceMul→xR,zero_add→yd
open Rat renaming den_divInt→yba,divInt→xY,divInt_ofNat→yaH,lt_iff→ybR,num_divInt→yaZ,sub_eq_add_neg→uT
open UInt8 renaming toNat→yW
namespace VE
section
open Go (IntKind)
section
variable {P:aK} {L:Lib}
def afx (h:Nu P L) {v w:AV} {a b:Int} {K:Nat} (hv:cD v a) (hw:cD w b) (dL:0<b) (ka:Bd K a) (kb:Bd K b) (hK:K<=30000000000):∃r,ae P L 148 [v,w] r/\cD r (a/b):=by
 have e1:=E3 h hw;obtain ⟨q,r,e2,hq,hr⟩:=Tn h hv hw dL ka kb hK;have e3:bZ b=1:=by unfold bZ;rw [yz (by omega),yz (by omega)]
 rw [e3] at e1;have cf:=hq;obtain ⟨s1,w1,rfl,h1⟩:=hv;obtain ⟨s2,w2,rfl,h2⟩:=hw;obtain ⟨s3,w3,rfl,h3⟩:=hq;obtain ⟨s4,w4,rfl,h4⟩:=hr;obtain ⟨l1,u1⟩:=h1.aw;obtain ⟨l2,u2⟩:=h2.aw;obtain ⟨l3,u3⟩:=h3.aw;obtain ⟨l4,u4⟩:=h4.aw;refine ⟨_,?_,cf⟩;unfold ae;rw [av h.NH];simp only [go_sem,ya,yb,EP,Int.reduceLT,yp,aH,u1.pu,u1.ai,u1.one,u2.pu,u2.ai,u2.one,yd,bk,e1,e2,AB,db,de,bW,yj,ml u3,dQ u3,dQ u4]
def arL (h:Nu P L) (G:Nat) {K:Nat} (hK:K<=30000000000) {o1 o2:AV}:
  ∀k s,(∃(x y:Nat) (s1 s2:Int) (w1 w2:AV),bH [2,3,4] s=⟨[(2,.ptr 0 0),(3,.ptr 1 0),(4,.ptr 2 0)],[(2,.cells true true true 2 [o1,o2]),(1,.cells true true true 2 [aa s2,w2]),(0,.cells true true true 2 [aa s1,w1])],3,0⟩/\cM s1 w1 x/\cM s2 w2 y/\Bd K x/\Bd K y/\Nat.gcd x y=G/\y=k)->
   ∃ex s',D P L (.loop [2,3,4] sX) s=some (ex,s')/\∃tm s1 w1 c1,s'=⟨tm,[(2,.cells true true true 2 [o1,o2]),(1,c1),(0,.cells true true true 2 [aa s1,w1])],3,0⟩/\ex= .exit 0/\af tm 2= .ptr 0 0/\af tm 4= .ptr 2 0/\cM s1 w1 G:=by
 refine cC (I:=fun k s=>∃(x y:Nat) (s1 s2:Int) (w1 w2:AV),s=⟨[(2,.ptr 0 0),(3,.ptr 1 0),(4,.ptr 2 0)],[(2,.cells true true true 2 [o1,o2]),(1,.cells true true true 2 [aa s2,w2]),(0,.cells true true true 2 [aa s1,w1])],3,0⟩/\cM s1 w1 x/\cM s2 w2 y/\Bd K x/\Bd K y/\Nat.gcd x y=G/\y=k)
  (Q:=fun ex s'=>∃tm s1 w1 c1,s'=⟨tm,[(2,.cells true true true 2 [o1,o2]),(1,c1),(0,.cells true true true 2 [aa s1,w1])],3,0⟩/\ex= .exit 0/\af tm 2= .ptr 0 0/\af tm 4= .ptr 2 0/\cM s1 w1 G) ?_
 rintro k s ⟨x,y,s1,s2,w1,w2,rfl,h1,h2,k1,k2,hG,rfl⟩;obtain ⟨l1,u1⟩:=h1.aw;obtain ⟨l2,u2⟩:=h2.aw;have i1:cD (.agg [aa s1,w1]) (x:Int):=⟨s1,w1,rfl,h1⟩;have i2:cD (.agg [aa s2,w2]) (y:Int):=⟨s2,w2,rfl,h2⟩;have e1:=E3 h i2;by_cases iD:y=0
 ·right
  subst iD;rw [show bZ ((0:Nat):Int)=0 from rfl] at e1;simp only [go_sem,ya,sX,yq,Bool.not_true,bW,bk,u2.ai,e1];obtain rfl:x=G:=by rw [<-hG,Nat.gcd_zero_right]
  exact ⟨_,_,rfl,by simp,_,s1,w1,_,rfl,rfl,by simp only [go_sem,ya],by simp only [go_sem,ya],h1⟩
 ·left
  have e3:bZ (y:Int)=1:=by unfold bZ;rw [yz (by omega),yz (by omega)]
  rw [e3] at e1;obtain ⟨q,r,e2,hq,hr⟩:=Tn h i1 i2 (by omega) k1 k2 hK;obtain ⟨s3,w3,rfl,h3⟩:=hq;obtain ⟨s4,w4,rfl,h4⟩:=hr;obtain ⟨l3,u3⟩:=h3.aw;obtain ⟨l4,u4⟩:=h4.aw;have bi:=xC x (show 0<y by omega);have kr:Bd K ((x%y:Nat):Int):=k2.le (by omega);simp only [go_sem,ya,yb,sX,RM,RN,Q8,QO,RO,ve,tk,yp,Bool.not_false,aH,bW,bk,u1.ai,u2.ai,e1,e2,AB,bW,yj,dQ u2,dQ u3,dQ u4];refine ⟨_,x%y,rfl,bi,y,x%y,s2,s4,w2,w4,?_,h2,h4,k2,kr,by rw [<-hG];exact ZX x y iD,rfl⟩
  simp only [go_sem,ya,yb,aD]
def afy (h:Nu P L) {v w:AV} {a b:Int} {K:Nat} (hv:cD v a) (hw:cD w b) (ka:Bd K a) (kb:Bd K b) (hK:K<=30000000000):∃r,ae P L 130 [v,w] r/\cD r (xX a b:Nat):=by
 obtain ⟨va,e1,ha⟩:=afs h hv ka (by omega);obtain ⟨vb,e2,hb⟩:=afs h hw kb (by omega);obtain ⟨s1,w1,rfl,h1⟩:=hv;obtain ⟨s2,w2,rfl,h2⟩:=hw;obtain ⟨s3,w3,rfl,h3⟩:=ha;obtain ⟨s4,w4,rfl,h4⟩:=hb;obtain ⟨l1,u1⟩:=h1.aw;obtain ⟨l2,u2⟩:=h2.aw;obtain ⟨l3,u3⟩:=h3.aw;obtain ⟨l4,u4⟩:=h4.aw;have iL:∃s w,ae P L 130 [.agg [aa s1,w1],.agg [aa s2,w2]] (.agg [aa s,w])/\cM s w (xX a b:Nat):=by
  unfold ae;rw [av h.S9];simp only [go_sem,ya,yb,EN,aH,u1.pu,u1.ai,u1.one,u2.pu,u2.ai,u2.one,bW,bk,e1,e2,bE,bW,yj,dQ u3,dQ u4,yd];generalize hq:D P L (.loop [2,3,4] sX) _=q;obtain ⟨ex,s,rfl,tm,s5,w5,c1,rfl,rfl,t2,t4,h5⟩:=cd hq (arL (P:=P) (L:=L) h (xX a b) (K:=K) hK (o1:= .int .i64 0) (o2:= .ab) b.natAbs) ⟨a.natAbs,b.natAbs,s3,s4,w3,w4,by simp only [go_sem,ya,yb,aD],h3,h4,ka,kb,rfl,rfl⟩;obtain ⟨l5,u5⟩:=h5.aw;refine ⟨s5,w5,?_,h5⟩;simp only [go_sem,ya,yb,aD,t2,t4,db,de,bW,yj,ml u5,dQ u5]
 obtain ⟨s,w,e,hn⟩:=iL;exact ⟨_,e,s,w,rfl,hn⟩
end
def cB (v:AV) (r:Rat):Prop:=∃s1 w1 s2 w2,v= .agg [aa s1,w1,aa s2,w2]/\cM s1 w1 r.num/\cM s2 w2 (r.den:Int)
def Hq (k:Nat) (r:Rat):Prop:=Bd k r.num/\Bd k (r.den:Int)
def G1 {a b:Int} (hb:0<b):(xY a b).num=a/(xX a b:Nat)/\((xY a b).den:Int)=b/(xX a b:Nat):=by
 constructor
 ·rw [yaZ,Int.sign_eq_one_of_pos hb,Int.one_mul,ybD]
 ·rw [yba,yz (by omega),ybD]
  grind
def Hq.divInt {k:Nat} {a b:Int} (hb:0<b) (ka:Bd k a) (kb:Bd k b):Hq k (xY a b):=by
 obtain ⟨h1,h2⟩:=G1 (a:=a) hb;refine ⟨ka.le ?_,kb.le ?_⟩
 ·rw [h1,vP (Int.gcd_dvd_left a b)];exact uy _ _
 ·rw [h2,vP (Int.gcd_dvd_right a b)];exact uy _ _
section
def D2 {tm:Env} {a b x y z w:AV} {r:List (Nat×Nat×X)} (h1:bA a=true) (h2:bA b=true):hJ tm [x,y,z,w] 0 2 [a,b] r=fill tm [a,b,z,w] r:=by
 rw [mL (by rfl) (by simp) (by simp [bQ,h1,h2])];rfl
def D3 {tm:Env} {a b x y z w:AV} {r:List (Nat×Nat×X)} (h1:bA a=true) (h2:bA b=true):hJ tm [x,y,z,w] 2 2 [a,b] r=fill tm [x,y,a,b] r:=by
 rw [mL (by rfl) (by simp) (by simp [bQ,h1,h2])];rfl
def kL {s t:Int} {v w:AV} {l m:List Nat} (hv:bJ v l) (hw:bJ w m) (hp:Hp) (ct id:Nat) (a b x y:AV):fy hp ct id 0 4 [.int .i64 s,v,.int .i64 t,w] (some (.cells true true true 4 [a,b,x,y]))=some (.aq [],aY hp id (.cells true true true 4 [.int .i64 s,v,.int .i64 t,w]),ct):=by
 rw [mj (by rfl) (by simp) (by simp [bQ,hv.one,hw.one,HN])];simp [aJ,hv.pu,hw.pu,over,Ej]
def lB {s t:Int} {v w:AV} {l m:List Nat} (hv:bJ v l) (hw:bJ w m) (hp:Hp):result hp (.agg [aa s,v,aa t,w])=some (.agg [aa s,v,aa t,w]):=by
 rcases hv with ⟨rfl,_⟩ | ⟨e,rfl⟩<;>rcases hw with ⟨rfl,_⟩ | ⟨e',rfl⟩<;>rfl
variable {P:aK} {L:Lib}
structure Fr' (P:aK) (L:Lib):Prop extends Nu P L where
 auV:Has P L 101 kP
 VH:Has P L 69 U1
 auW:Has P L 111 SL
 h98:Has P L 98 OI
 auX:Has P L 108 SK
 auY:Has P L 102 SJ
 h74:Has P L 74 JX
 VI:Has P L 50 UR
 od:Has P L 49 c49
 h73:Has P L 73 U4
 h70:Has P L 70 U2
 h71:Has P L 71 U3
 auZ:Has P L 149 SP
def acY (h:Fr' P L) {s1 s2:Int} {w1 w2:AV} {a b:Int} {K:Nat} (h1:cM s1 w1 a) (h2:cM s2 w2 b) (dL:0<b) (ka:Bd K a) (kb:Bd K b) (hK:K<=30000000000):
  ∃r,cB r (xY a b)/\∀tm,af tm 2= .ptr 0 0->af tm 3= .ptr 1 0->af tm 4= .ptr 2 0->gD [.cell 4 4 true] (D P L (aA (aA kP.body)) ⟨tm,[(2,.cells true true true 4 [.int .i64 0,.ab,.int .i64 0,.ab]),(1,.cells true true true 2 [aa s2,w2]),(0,.cells true true true 2 [aa s1,w1])],3,0⟩)=some r:=by
 have hv:cD (.agg [aa s1,w1]) a:=⟨s1,w1,rfl,h1⟩;have hw:cD (.agg [aa s2,w2]) b:=⟨s2,w2,rfl,h2⟩;obtain ⟨p1,p2⟩:=G1 (a:=a) dL;have hgp:=HP (a:=a) dL;have hgk:Bd K ((xX a b:Nat):Int):=kb.le (by
  have:=Int.gcd_le_natAbs_right a (show b≠0 by omega)
  omega)
 obtain ⟨g,e2,hg⟩:=afy h.toNu hv hw ka kb hK;obtain ⟨q1,e4,eG⟩:=afx h.toNu hv hg hgp ka hgk hK;obtain ⟨q2,e5,nk⟩:=afx h.toNu hw hg hgp kb hgk hK;rw [<-p1] at eG;rw [<-p2] at nk;obtain ⟨s3,w3,rfl,h3⟩:=hg;obtain ⟨s4,w4,rfl,h4⟩:=eG;obtain ⟨s5,w5,rfl,h5⟩:=nk;obtain ⟨l1,u1⟩:=h1.aw;obtain ⟨l2,u2⟩:=h2.aw;obtain ⟨l3,u3⟩:=h3.aw;obtain ⟨l4,u4⟩:=h4.aw;obtain ⟨l5,u5⟩:=h5.aw;by_cases fH:w2= .ab/\s2=1
 ·obtain ⟨rfl,rfl⟩:=fH;have jG:b=1:=by
   rcases h2 with ⟨_,h,_⟩ | ⟨_,_,h,_⟩
   ·exact h.symm
   ·cases h
  subst jG;rw [Int.gcd_one] at p1 p2;have p1:(xY a 1).num=a:=by rw [p1];exact Int.ediv_one a
  refine ⟨.agg [aa s1,w1,aa 1,.ab],⟨s1,w1,1,.ab,rfl,by rw [p1];exact h1,by rw [p2];exact h2⟩,fun tm t2 t3 t4=>?_⟩
  have un:=sJ;simp only [go_sem,ya,kP,aA,t2,t3,t4,u1.one,bW,bg,yd,bY,gC,dw,D2,D3,kL u1 un,db,de,yj,gM,lB u1 un]
 ·refine ⟨.agg [aa s4,w4,aa s5,w5],⟨s4,w4,s5,w5,rfl,h4,h5⟩,fun tm t2 t3 t4=>?_⟩;rcases u2 with ⟨rfl,_⟩ | ⟨e,rfl⟩
  ·simp only [go_sem,ya,yb,kP,aA,t2,t3,t4,aH,u1.ai,bW,bk,bg,yd,bY,gC,dw,show ¬s2=1 from fun e=>fH ⟨rfl,e⟩,e2,e4,e5,bE,db,de,bW,yj,dQ u3,u3.ai,u4.one,u5.one,D2,D3,kL u4 u5,gM,lB u4 u5]
  ·simp only [go_sem,ya,yb,kP,aA,t2,t3,t4,aH,u1.ai,bW,bk,bg,yd,bY,nD,dw,e2,e4,e5,bE,db,de,bW,yj,dQ u3,u3.ai,u4.one,u5.one,D2,D3,kL u4 u5,gM,lB u4 u5]
def To (h:Fr' P L) {v w:AV} {a b:Int} {K:Nat} (hv:cD v a) (hw:cD w b) (dL:b≠0) (ka:Bd K a) (kb:Bd K b) (hK:K<=30000000000):∃r,ae P L 101 [v,w] r/\cB r (xY a b):=by
 have e1:=E3 h.toNu hw;have eF:=hv;have VJ:=hw;obtain ⟨s1,w1,rfl,h1⟩:=hv;obtain ⟨s2,w2,rfl,h2⟩:=hw;obtain ⟨l1,u1⟩:=h1.aw;obtain ⟨l2,u2⟩:=h2.aw;have fin:∀r t1 t2 v1 v2 tm,(∀tm,af tm 2= .ptr 0 0->af tm 3= .ptr 1 0->af tm 4= .ptr 2 0->gD [.cell 4 4 true] (D P L (aA (aA kP.body)) ⟨tm,[(2,.cells true true true 4 [.int .i64 0,.ab,.int .i64 0,.ab]),(1,.cells true true true 2 [aa t2,v2]),(0,.cells true true true 2 [aa t1,v1])],3,0⟩)=some r)->af tm 2= .ptr 0 0->af tm 3= .ptr 1 0->af tm 4= .ptr 2 0->
   D P L (.seq (bK kP.body) (bK (aA kP.body))) ⟨[(0,.agg [aa s1,w1]),(1,.agg [aa s2,w2])],[],0,0⟩=some (.normal,⟨tm,[(2,.cells true true true 4 [.int .i64 0,.ab,.int .i64 0,.ab]),(1,.cells true true true 2 [aa t2,v2]),(0,.cells true true true 2 [aa t1,v1])],3,0⟩)->ae P L 101 [.agg [aa s1,w1],.agg [aa s2,w2]] r:=fun r t1 t2 v1 v2 tm tail k2 k3 k4 e=>by
  unfold ae;rw [av h.auV];show gD [.cell 4 4 true] (D P L (.seq (bK kP.body) (.seq (bK (aA kP.body)) (aA (aA kP.body)))) ⟨[(0,.agg [aa s1,w1]),(1,.agg [aa s2,w2])],[],0,0⟩)=_
  rw [Ce,e,fM];exact tail tm k2 k3 k4
 by_cases hn:b<0
 ·obtain ⟨n1,e2,ie⟩:=E4 h.toNu eF ka (by omega);obtain ⟨n2,e3,ew⟩:=E4 h.toNu VJ kb (by omega);obtain ⟨s3,w3,rfl,h3⟩:=ie;obtain ⟨s4,w4,rfl,h4⟩:=ew;obtain ⟨l3,u3⟩:=h3.aw;obtain ⟨l4,u4⟩:=h4.aw;obtain ⟨r,hr,tail⟩:=acY h h3 h4 (by omega) ka.neg kb.neg hK;rw [Rat.neg_divInt_neg] at hr;have hs:bZ b<0:=by unfold bZ;rw [yJ hn];decide
  refine ⟨r,fin r _ _ _ _ _ tail ?_ ?_ ?_ (by simp only [go_sem,ya,yb,kP,bK,aA,hs,aH,u1.pu,u1.ai,u1.one,u2.pu,u2.ai,u2.one,bW,bk,e1,e2,e3,bE,dQ u3,dQ u4]<;>rfl),hr⟩<;>simp only [go_sem,ya]
 ·obtain ⟨r,hr,tail⟩:=acY h h1 h2 (by omega) ka kb hK;have hs:¬bZ b<0:=by unfold bZ;rw [yz hn];split<;>decide
  refine ⟨r,fin r _ _ _ _ _ tail ?_ ?_ ?_ (by simp only [go_sem,ya,yb,kP,bK,aA,hs,aH,u1.pu,u1.one,u2.pu,u2.ai,u2.one,bW,bk,e1]<;>rfl),hr⟩<;>simp only [go_sem,ya]
end
end
section
open Go (IntKind)
def Hq.mono {k m:Nat} {r:Rat} (h:Hq k r) (hk:k<=m):Hq m r:=⟨h.1.mono hk,h.2.mono hk⟩
def Hq.neg {k:Nat} {r:Rat} (h:Hq k r):Hq k (-r):=⟨h.1.neg,h.2⟩
def add_eq (a b:Rat):a+b=xY (a.num*b.den+b.num*a.den) ((a.den:Int)*b.den):=by
 rw [Rat.add_def',<-yaH,vh]
def mul_eq (a b:Rat):a*b=xY (a.num*b.num) ((a.den:Int)*b.den):=by
 rw [Rat.mul_def',<-yaH,vh]
def QP (a:Rat):0<(a.den:Int):=by have:=a.den_pos;omega
def G7 (a b:Rat):0<(a.den:Int)*b.den:=Int.mul_pos (QP a) (QP b)
def Bd.Tp {k:Nat} {a b:Int} (ha:Bd k a) (hb:Bd k b):Bd (k+1) (a+b):=by
 have:=ha.add hb
 grind
def Hq.add {k m:Nat} {a b:Rat} (ha:Hq k a) (hb:Hq m b):Hq (k+m+1) (a+b):=by
 rw [add_eq];refine Hq.divInt (G7 a b) ?_ ((ha.2.mul hb.2).mono (by omega));exact (ha.1.mul hb.2).Tp ((hb.1.mul ha.2).mono (by omega))
def Hq.mul {k m:Nat} {a b:Rat} (ha:Hq k a) (hb:Hq m b):Hq (k+m) (a*b):=by
 rw [mul_eq];exact Hq.divInt (G7 a b) (ha.1.mul hb.1) (ha.2.mul hb.2)
def Hq.sub {k m:Nat} {a b:Rat} (ha:Hq k a) (hb:Hq m b):Hq (k+m+1) (a-b):=by
 rw [uT];exact ha.add hb.neg
def Hq.inv {k:Nat} {a:Rat} (ha:Hq k a):Hq k a⁻¹:=by
 have h1:(a⁻¹).num.natAbs<=a.den:=by
  rw [Rat.num_inv,Int.natAbs_mul]
  grind
 refine ⟨ha.2.le (by simpa using h1),?_⟩;unfold Bd;rw [Rat.den_inv]
 split
 ·have h2:=ha.2;unfold Bd at h2
  simp_all
 ·exact ha.1
def Hq.div {k m:Nat} {a b:Rat} (ha:Hq k a) (hb:Hq m b):Hq (k+m) (a/b):=by
 rw [Rat.div_def];exact ha.mul hb.inv
def zK (a b:Rat):Int:=if a<b then -1 else if a=b then 0 else 1
def apf (a b:Rat):bZ (a.num*b.den-b.num*a.den)=zK a b:=by
 unfold bZ zK;by_cases h:a<b
 ·rw [yJ h]
  have:=(ybR a b).1 h
  grind
 ·rw [yz h];have h1:¬a.num*b.den<b.num*a.den:=fun e=>h ((ybR a b).2 e)
  rw [yz (by omega)];by_cases h2:a=b
  ·grind
  ·rw [yz h2,yz (by have:¬a.num*b.den=b.num*a.den:=fun e=>h2 (Rat.eq_iff_mul_eq_mul.2 e);omega)]
def Q9 (a:Rat) (h:a.den=1):a=(a.num:Rat):=by
 have:=Rat.num_divInt_den a
 rw [h] at this;rw [<-this];exact (Rat.ext (by simp [yaZ]) (by simp [yba]))
def A7 (a b c d:AV) (r:List AV):eX 2 true (List.drop 2 (a::b::c::d::r))=some (.agg [c,d]):=rfl
def pR (a b:AV) (r:List AV):eX 2 true (a::b::r)=some (.agg [a,b]):=rfl
section
variable {P:aK} {L:Lib}
def Jl (h:Fr' P L) {v:AV} {z:Int} (hv:cD v z):∃r,ae P L 111 [v] r/\cB r (z:Rat):=by
 obtain ⟨o1,o2⟩:=C0 h.toNu (z:=1) (by decide) (by decide);obtain ⟨s1,w1,rfl,h1⟩:=hv;obtain ⟨l1,u1⟩:=h1.aw;have un:=sJ;refine ⟨.agg [aa s1,w1,aa 1,.ab],?_,s1,w1,1,.ab,rfl,h1,.inl ⟨rfl,rfl,(by show (-9223372036854775808:Int)<=1;decide),(by show (1:Int)<9223372036854775808;decide)⟩⟩
 unfold ae;rw [av h.auW];simp only [go_sem,ya,yb,SL,aH,u1.pu,u1.one,bW,o1,bE,D2,D3,kL u1 un,db,de,yj,gM,lB u1 un]
def Ds (h:Fr' P L) {z:Int} (h1: -9223372036854775808<=z) (h2:z<9223372036854775808):∃r,ae P L 69 [aa z] r/\cB r (z:Rat):=by
 obtain ⟨o1,o2⟩:=C0 h.toNu h1 h2;obtain ⟨r,e,hr⟩:=Jl h o2;have bX:=hr;obtain ⟨s1,w1,s2,w2,rfl,k1,k2⟩:=hr;obtain ⟨l1,u1⟩:=k1.aw;obtain ⟨l2,u2⟩:=k2.aw;refine ⟨_,?_,bX⟩;unfold ae;rw [av h.VH];simp only [go_sem,ya,yb,U1,aH,bk,o1,e,bE,kL u1 u2,db,de,yj,gM,lB u1 u2]
def VK (h:Fr' P L) {v:AV} {a:Rat} (hv:cB v a):ae P L 98 [v] (.bool (decide (a.den=1))):=by
 obtain ⟨s1,w1,s2,w2,rfl,h1,h2⟩:=hv;obtain ⟨l1,u1⟩:=h1.aw;unfold ae;rw [av h.h98];rcases h2 with ⟨rfl,rfl,b1,b2⟩ | ⟨e,l,rfl,gb,nb,vb,sb,b1⟩
 ·have e:decide (((a.den:Nat):Int)=1)=decide (a.den=1):=by simp;omega
  simp only [go_sem,ya,yb,OI,aH,u1.pu,u1.one,bg,yd,atf,aeu,gC,dw,e]
 ·have e:decide (a.den=1)=false:=yM (by omega);rw [e];simp only [go_sem,ya,yb,OI,aH,u1.pu,u1.one,bg,yd,aeu,nD,dw]
def au0 (h:Fr' P L) {v:AV} {a:Rat} (hv:cB v a):ae P L 108 [v] (aa (bZ a.num)):=by
 obtain ⟨s1,w1,s2,w2,rfl,h1,h2⟩:=hv;obtain ⟨l1,u1⟩:=h1.aw;obtain ⟨l2,u2⟩:=h2.aw;have e1:=E3 h.toNu ⟨s1,w1,rfl,h1⟩;unfold ae;rw [av h.auX];simp only [go_sem,ya,yb,SK,aH,u1.pu,u1.ai,u1.one,u2.pu,u2.one,bg,yd,pR,bk,e1]
def au1 (h:Fr' P L) {v:AV} {a:Rat} {K:Nat} (hv:cB v a) (ka:Hq K a) (hK:K<=30000000000):∃r,ae P L 102 [v] r/\cB r (-a):=by
 obtain ⟨s1,w1,s2,w2,rfl,h1,h2⟩:=hv;obtain ⟨l1,u1⟩:=h1.aw;obtain ⟨l2,u2⟩:=h2.aw;obtain ⟨n,e1,hn⟩:=E4 h.toNu ⟨s1,w1,rfl,h1⟩ ka.1 (by omega);obtain ⟨s3,w3,rfl,h3⟩:=hn;obtain ⟨l3,u3⟩:=h3.aw;refine ⟨.agg [aa s3,w3,aa s2,w2],?_,s3,w3,s2,w2,rfl,h3,h2⟩;unfold ae;rw [av h.auY];simp only [go_sem,ya,yb,SJ,aH,u1.pu,u1.ai,u1.one,u2.pu,u2.one,u3.one,bg,yd,pR,A7,bk,e1,bE,D2,D3,kL u3 u2,db,de,yj,gM,lB u3 u2]
def O8 (h:Fr' P L) {v w:AV} {a b:Rat} {K:Nat} (hv:cB v a) (hw:cB w b) (ka:Hq K a) (kb:Hq K b) (hK:K<=10000000000):∃r,ae P L 74 [v,w] r/\cB r (a+b):=by
 have i1:=VK h hv;have i2:=VK h hw;obtain ⟨s1,w1,s2,w2,rfl,h1,h2⟩:=hv;obtain ⟨s3,w3,s4,w4,rfl,h3,h4⟩:=hw;obtain ⟨l1,u1⟩:=h1.aw;obtain ⟨l2,u2⟩:=h2.aw;obtain ⟨l3,u3⟩:=h3.aw;obtain ⟨l4,u4⟩:=h4.aw;have n1:cD (.agg [aa s1,w1]) a.num:=⟨s1,w1,rfl,h1⟩;have n2:cD (.agg [aa s2,w2]) a.den:=⟨s2,w2,rfl,h2⟩;have n3:cD (.agg [aa s3,w3]) b.num:=⟨s3,w3,rfl,h3⟩;have n4:cD (.agg [aa s4,w4]) b.den:=⟨s4,w4,rfl,h4⟩;by_cases OY:a.den=1/\b.den=1
 ·obtain ⟨d1,d2⟩:=OY;obtain ⟨p,e1,hp⟩:=Jk h.toNu n1 n3 ka.1 kb.1 (by omega);obtain ⟨r,e2,hr⟩:=Jl h hp;have he:((a.num+b.num:Int):Rat)=a+b:=by
   rw [Rat.intCast_add,<-Q9 a d1,<-Q9 b d2]
  rw [he] at hr;have bX:=hr;obtain ⟨s5,w5,rfl,h5⟩:=hp;obtain ⟨s6,w6,s7,w7,rfl,h6,h7⟩:=hr;obtain ⟨l5,u5⟩:=h5.aw;obtain ⟨l6,u6⟩:=h6.aw;obtain ⟨l7,u7⟩:=h7.aw;refine ⟨_,?_,bX⟩;rw [d1] at i1;rw [d2] at i2;unfold ae;rw [av h.h74];simp only [go_sem,ya,yb,JX,aH,u1.pu,u1.ai,u1.one,u2.pu,u2.ai,u2.one,u3.pu,u3.ai,u3.one,u4.pu,u4.ai,u4.one,bg,yd,gM,pR,bk,i1,i2,e1,u5.ai,e2,bE,kL u6 u7,db,de,yj,gM,lB u6 u7]
 ·obtain ⟨p1,e1,bD⟩:=rJ h.toNu n1 n4 ka.1 kb.2 (by omega);obtain ⟨p2,e2,ji⟩:=rJ h.toNu n3 n2 kb.1 ka.2 (by omega);obtain ⟨p3,e3,hp3⟩:=Jk h.toNu bD ji (ka.1.mul kb.2) (kb.1.mul ka.2) (by omega);obtain ⟨p4,e4,hp4⟩:=rJ h.toNu n2 n4 ka.2 kb.2 (by omega);obtain ⟨r,e5,hr⟩:=To h hp3 hp4 (by have:=G7 a b;omega) ((ka.1.mul kb.2).Tp (kb.1.mul ka.2)) ((ka.2.mul kb.2).mono (by omega)) (by omega);rw [<-add_eq] at hr;have bX:=hr;obtain ⟨s5,w5,rfl,h5⟩:=bD;obtain ⟨s6,w6,rfl,h6⟩:=ji;obtain ⟨s7,w7,rfl,h7⟩:=hp3;obtain ⟨s8,w8,rfl,h8⟩:=hp4;obtain ⟨s9,w9,s10,w10,rfl,h9,iA⟩:=hr;obtain ⟨l5,u5⟩:=h5.aw;obtain ⟨l6,u6⟩:=h6.aw;obtain ⟨l7,u7⟩:=h7.aw;obtain ⟨l8,u8⟩:=h8.aw;obtain ⟨l9,u9⟩:=h9.aw;obtain ⟨l10,O9⟩:=iA.aw;refine ⟨_,?_,bX⟩;unfold ae;rw [av h.h74];by_cases d1:a.den=1
  ·rw [d1] at i1;rw [yM (fun d2=>OY ⟨d1,d2⟩)] at i2;simp only [go_sem,ya,yb,JX,aH,u1.pu,u1.ai,u1.one,u2.pu,u2.ai,u2.one,u3.pu,u3.ai,u3.one,u4.pu,u4.ai,u4.one,bg,yd,gM,pR,A7,bk,i1,i2,e1,e2,u5.ai,u6.ai,e3,e4,u7.ai,u8.ai,e5,bE,kL u9 O9,db,de,yj,gM,lB u9 O9]
  ·rw [yM d1] at i1;simp only [go_sem,ya,yb,JX,aH,u1.pu,u1.ai,u1.one,u2.pu,u2.ai,u2.one,u3.pu,u3.ai,u3.one,u4.pu,u4.ai,u4.one,bg,yd,gM,pR,A7,bk,i1,e1,e2,u5.ai,u6.ai,e3,e4,u7.ai,u8.ai,e5,bE,kL u9 O9,db,de,yj,gM,lB u9 O9]
def Km (h:Fr' P L) {v w:AV} {a b:Rat} {K:Nat} (hv:cB v a) (hw:cB w b) (ka:Hq K a) (kb:Hq K b) (hK:K<=10000000000):∃r,ae P L 50 [v,w] r/\cB r (a-b):=by
 obtain ⟨n,e1,hn⟩:=au1 h hw kb (by omega);obtain ⟨r,e2,hr⟩:=O8 h hv hn ka kb.neg hK;rw [<-uT] at hr;have bX:=hr;obtain ⟨s1,w1,s2,w2,rfl,h1,h2⟩:=hv;obtain ⟨s3,w3,s4,w4,rfl,h3,h4⟩:=hw;obtain ⟨s5,w5,s6,w6,rfl,h5,h6⟩:=hn;obtain ⟨s7,w7,s8,w8,rfl,h7,h8⟩:=hr;obtain ⟨l1,u1⟩:=h1.aw;obtain ⟨l2,u2⟩:=h2.aw;obtain ⟨l3,u3⟩:=h3.aw;obtain ⟨l4,u4⟩:=h4.aw;obtain ⟨l5,u5⟩:=h5.aw;obtain ⟨l6,u6⟩:=h6.aw;obtain ⟨l7,u7⟩:=h7.aw;obtain ⟨l8,u8⟩:=h8.aw;refine ⟨_,?_,bX⟩;unfold ae;rw [av h.VI];simp only [go_sem,ya,yb,UR,aH,u1.pu,u1.ai,u1.one,u2.pu,u2.ai,u2.one,u3.pu,u3.ai,u3.one,u4.pu,u4.ai,u4.one,u5.ai,u6.ai,gM,bk,e1,e2,bE,kL u7 u8,db,de,yj,gM,lB u7 u8]
def sA (h:Fr' P L) {v w:AV} {a b:Rat} {K:Nat} (hv:cB v a) (hw:cB w b) (ka:Hq K a) (kb:Hq K b) (hK:K<=10000000000):∃r,ae P L 49 [v,w] r/\cB r (a*b):=by
 obtain ⟨s1,w1,s2,w2,rfl,h1,h2⟩:=hv;obtain ⟨s3,w3,s4,w4,rfl,h3,h4⟩:=hw;obtain ⟨l1,u1⟩:=h1.aw;obtain ⟨l2,u2⟩:=h2.aw;obtain ⟨l3,u3⟩:=h3.aw;obtain ⟨l4,u4⟩:=h4.aw;obtain ⟨p1,e1,bD⟩:=rJ h.toNu (v:= .agg [aa s1,w1]) (w:= .agg [aa s3,w3]) ⟨s1,w1,rfl,h1⟩ ⟨s3,w3,rfl,h3⟩ ka.1 kb.1 (by omega);obtain ⟨p2,e2,ji⟩:=rJ h.toNu (v:= .agg [aa s2,w2]) (w:= .agg [aa s4,w4]) ⟨s2,w2,rfl,h2⟩ ⟨s4,w4,rfl,h4⟩ ka.2 kb.2 (by omega);obtain ⟨r,e3,hr⟩:=To h bD ji (by have:=G7 a b;omega) (ka.1.mul kb.1) (ka.2.mul kb.2) (by omega);rw [<-mul_eq] at hr;have bX:=hr;obtain ⟨s5,w5,rfl,h5⟩:=bD;obtain ⟨s6,w6,rfl,h6⟩:=ji;obtain ⟨s7,w7,s8,w8,rfl,h7,h8⟩:=hr;obtain ⟨l5,u5⟩:=h5.aw;obtain ⟨l6,u6⟩:=h6.aw;obtain ⟨l7,u7⟩:=h7.aw;obtain ⟨l8,u8⟩:=h8.aw;refine ⟨_,?_,bX⟩;unfold ae;rw [av h.od]
 simp only [go_sem,ya,yb,c49,aH,u1.pu,u1.ai,u1.one,u2.pu,u2.ai,u2.one,u3.pu,u3.ai,u3.one,u4.pu,u4.ai,u4.one,u5.ai,u6.ai,bg,yd,pR,A7,bk,e1,e2,e3,bE,kL u7 u8,db,de,yj,gM,lB u7 u8]
def m73 (h:Fr' P L) {v:AV} {a:Rat} {K:Nat} (hv:cB v a) (h0:a≠0) (ka:Hq K a) (hK:K<=10000000000):∃r,ae P L 73 [v] r/\cB r a⁻¹:=by
 obtain ⟨s1,w1,s2,w2,rfl,h1,h2⟩:=hv;obtain ⟨l1,u1⟩:=h1.aw;obtain ⟨l2,u2⟩:=h2.aw;obtain ⟨r,e1,hr⟩:=To h (v:= .agg [aa s2,w2]) (w:= .agg [aa s1,w1]) ⟨s2,w2,rfl,h2⟩ ⟨s1,w1,rfl,h1⟩ (fun e=>h0 (Rat.num_eq_zero.1 e)) ka.2 ka.1 (by omega);rw [<-Rat.inv_def] at hr;have bX:=hr;obtain ⟨s7,w7,s8,w8,rfl,h7,h8⟩:=hr;obtain ⟨l7,u7⟩:=h7.aw;obtain ⟨l8,u8⟩:=h8.aw;refine ⟨_,?_,bX⟩;unfold ae;rw [av h.h73];simp only [go_sem,ya,yb,U4,aH,u1.pu,u1.ai,u1.one,u2.pu,u2.ai,u2.one,bg,yd,pR,A7,bk,e1,bE,kL u7 u8,db,de,yj,gM,lB u7 u8]
def m70 (h:Fr' P L) {v w:AV} {a b:Rat} {K:Nat} (hv:cB v a) (hw:cB w b) (h0:b≠0) (ka:Hq K a) (kb:Hq K b) (hK:K<=10000000000):∃r,ae P L 70 [v,w] r/\cB r (a/b):=by
 obtain ⟨n,e1,hn⟩:=m73 h hw h0 kb hK;obtain ⟨r,e2,hr⟩:=sA h hv hn ka kb.inv hK;have bX:=hr;obtain ⟨s1,w1,s2,w2,rfl,h1,h2⟩:=hv;obtain ⟨s3,w3,s4,w4,rfl,h3,h4⟩:=hw;obtain ⟨s5,w5,s6,w6,rfl,h5,h6⟩:=hn;obtain ⟨s7,w7,s8,w8,rfl,h7,h8⟩:=hr;obtain ⟨l1,u1⟩:=h1.aw;obtain ⟨l2,u2⟩:=h2.aw;obtain ⟨l3,u3⟩:=h3.aw;obtain ⟨l4,u4⟩:=h4.aw;obtain ⟨l5,u5⟩:=h5.aw;obtain ⟨l6,u6⟩:=h6.aw;obtain ⟨l7,u7⟩:=h7.aw;obtain ⟨l8,u8⟩:=h8.aw;refine ⟨_,?_,bX⟩;unfold ae;rw [av h.h70];simp only [go_sem,ya,yb,U2,aH,u1.pu,u1.ai,u1.one,u2.pu,u2.ai,u2.one,u3.pu,u3.ai,u3.one,u4.pu,u4.ai,u4.one,u5.ai,u6.ai,gM,bk,e1,e2,bE,kL u7 u8,db,de,yj,gM,lB u7 u8]
def m71 (h:Fr' P L) {v w:AV} {a b:Rat} {K:Nat} (hv:cB v a) (hw:cB w b) (ka:Hq K a) (kb:Hq K b) (hK:K<=10000000000):ae P L 71 [v,w] (aa (zK a b)):=by
 obtain ⟨s1,w1,s2,w2,rfl,h1,h2⟩:=hv;obtain ⟨s3,w3,s4,w4,rfl,h3,h4⟩:=hw;obtain ⟨l1,u1⟩:=h1.aw;obtain ⟨l2,u2⟩:=h2.aw;obtain ⟨l3,u3⟩:=h3.aw;obtain ⟨l4,u4⟩:=h4.aw;obtain ⟨p1,e1,bD⟩:=rJ h.toNu (v:= .agg [aa s1,w1]) (w:= .agg [aa s4,w4]) ⟨s1,w1,rfl,h1⟩ ⟨s4,w4,rfl,h4⟩ ka.1 kb.2 (by omega);obtain ⟨p2,e2,ji⟩:=rJ h.toNu (v:= .agg [aa s3,w3]) (w:= .agg [aa s2,w2]) ⟨s3,w3,rfl,h3⟩ ⟨s2,w2,rfl,h2⟩ kb.1 ka.2 (by omega);have e3:=afu h.toNu bD ji (ka.1.mul kb.2) (kb.1.mul ka.2) (by omega);rw [apf] at e3;obtain ⟨s5,w5,rfl,h5⟩:=bD;obtain ⟨s6,w6,rfl,h6⟩:=ji;obtain ⟨l5,u5⟩:=h5.aw;obtain ⟨l6,u6⟩:=h6.aw;unfold ae;rw [av h.h71];simp only [go_sem,ya,yb,U3,aH,u1.pu,u1.ai,u1.one,u2.pu,u2.ai,u2.one,u3.pu,u3.ai,u3.one,u4.pu,u4.ai,u4.one,u5.ai,u6.ai,bg,yd,pR,A7,bk,e1,e2,e3,bE]
def afz (h:Fr' P L) {v:AV} {a:Rat} {K:Nat} (hv:cB v a) (ka:Hq K a) (hK:K<=10000000000):∃r,ae P L 149 [v] r/\cD r a.floor:=by
 obtain ⟨s1,w1,s2,w2,rfl,h1,h2⟩:=hv;obtain ⟨l1,u1⟩:=h1.aw;obtain ⟨l2,u2⟩:=h2.aw;obtain ⟨q,r,e1,hq,hr⟩:=Tn h.toNu (v:= .agg [aa s1,w1]) (w:= .agg [aa s2,w2]) ⟨s1,w1,rfl,h1⟩ ⟨s2,w2,rfl,h2⟩ (QP a) ka.1 ka.2 (by omega);rw [<-Rat.floor_def] at hq;have cf:=hq;obtain ⟨s3,w3,rfl,h3⟩:=hq;obtain ⟨s4,w4,rfl,h4⟩:=hr;obtain ⟨l3,u3⟩:=h3.aw;obtain ⟨l4,u4⟩:=h4.aw;refine ⟨_,?_,cf⟩;unfold ae;rw [av h.auZ];simp only [go_sem,ya,yb,SP,aH,u1.pu,u1.ai,u1.one,u2.pu,u2.ai,u2.one,bg,yd,pR,A7,bk,e1,AB,db,de,yj,ml u3,dQ u3,dQ u4]
end
end
section
open Go (IntKind)
def re:List AV->Option (List Nat)
 | []=>some []
 | .int .u64 (.ofNat d)::r=>bif yG d 18446744073709551616 then (match re r with | some l=>some (d::l) | none=>none) else none
 | _::_=>none
def rK:List Nat->Nat
 | []=>0
 | a::r=>a+18446744073709551616*rK r
def A8:List Nat->Bool
 | []=>false
 | [a]=> !yr a 0
 | _::r=>A8 r
def L2:List AV->Option AV
 | [.agg [.int .i64 s,.ab]]=>bif A2 s then some (.str (aW s)) else none
 | [.agg [.int .i64 s,.aE _ n cs]]=>
  match re cs with
  | some l=>
   bif yr l.length n&&(yE n 4000000000&&(A8 l&&yE 9223372036854775808 (rK l))) then
    match s with
    | .ofNat 1=>some (.str (an (rK l)))
    | .negSucc 0=>some (.str (45::an (rK l)))
    | _=>none
   else none
  | none=>none
 | _=>none
end
section
open Go (IntKind)
def Yi:∀{l:List Nat},lo 18446744073709551616 l->re (l.map uc)=some l
 | [],_=>rfl
 | a::l,h=>by
  have h1:=h a (by simp);have h2:=Yi (l:=l) (fun x hx=>h x (by simp [hx]));show (bif yG a 18446744073709551616 then (match re (l.map uc) with | some l=>some (a::l) | none=>none) else none)=_
  rw [jR h1,h2];rfl
def Ra:∀l:List Nat,rK l=bv 18446744073709551616 l
 | []=>rfl
 | a::l=>by simp only [rK,bv,Ra l]
def Z5:∀{l:List Nat},l≠[]->fX l->A8 l=true
 | [],h,_=>absurd rfl h
 | [a],_,h=>by
  have:a≠0:=fun e=>by
   subst e;have h:eb [0]=[0]:=h;simp [eb] at h
  simp [A8,cE this]
 | a::b::r,_,h=>by
  have h1:fX (b::r):=by
   have h:eb (a::b::r)=a::b::r:=h;rw [eb] at h
   grind
  have:=Z5 (l:=b::r) (by simp) h1
  simpa [A8] using this
section
variable {P:aK} {L:Lib}
structure Tx (P:aK) (L:Lib):Prop extends Fr' P L where
 FL:L.pure 99=some L2
 au2:L.pure 175=some HV
 afA:L.pure 152=some KU
 Tq:L.pure 153=some KF
 Tt:L.pure 154=some Iz
 Tu:L.pure 109=some M0
 Tv:Has P L 155 Nh
 afB:Has P L 172 Nk
 au3:Has P L 151 Ng
 au4:Has P L 107 M6
 VL:Has P L 46 Oy
 afC:Has P L 110 M7
 Pa:Has P L 62 OC
def VM (h:Tx P L) {v:AV} {z:Int} {K:Nat} (hv:cD v z) (hz:Bd K z) (hK:K<=4000000000):ae P L 99 [v] (.str (aW z)):=by
 obtain ⟨s,w,rfl,hn⟩:=hv;unfold ae;rw [iS h.FL];rcases hn with ⟨rfl,rfl,h1,h2⟩ | ⟨e,l,rfl,g,n,hb,hs,h1⟩
 ·show (bif A2 s then some (AV.str (aW s)) else none)=_
  have:A2 s=true:=by
   cases s with
   | ofNat k=>exact jR (by have:(Int.ofNat k)=(k:Int):=rfl;omega)
   | negSucc k=>exact jR (by omega)
  grind
 ·have lL:l≠[]:=fun e=>by subst e;simp [bv] at hb;omega
  have nh:l.length<=4000000000:=xi (nM n hb (yH hz (AU K))) hK
  show (match re (l.map uc) with
   | some l'=>bif yr l'.length l.length&&(yE l.length 4000000000&&(A8 l'&&yE 9223372036854775808 (rK l'))) then (match s with | .ofNat 1=>some (AV.str (an (rK l'))) | .negSucc 0=>some (.str (45::an (rK l'))) | _=>none) else none
   | none=>none)=_
  rw [Yi g];simp only [Nat.beq_refl,yu nh,Z5 lL n,Ra,hb,yu h1,ve,ym];by_cases h0:z<0
  ·rw [yJ h0] at hs;subst hs;rw [jL h0];rfl
  ·rw [yz h0] at hs;subst hs;obtain ⟨m,rfl⟩:∃m:Nat,z=m:=⟨z.toNat,by omega⟩;rfl
def RT (r:Rat):List Nat:=aW r.num++(if r.den=1 then [] else 47::an r.den)
def Hm {z:Int} {k:Nat} (h:Bd k z):(aW z).length<=k+1:=by
 have h1:∀m:Nat,m<2^k->(an m).length<=max k 1:=fun m hm=>by
  cases k with
  | zero=>
       have:m=0:=by simpa using hm
       subst this;decide
  | succ k=>
   rw [Nat.max_eq_left (by omega)];exact om (k:=k) (yH hm (ue (by decide) _))
 by_cases h0:z<0
 ·rw [jL h0];unfold Bd at h
  grind
 ·obtain ⟨m,rfl⟩:∃m:Nat,z=m:=⟨z.toNat,by omega⟩
  have:=h1 m (by unfold Bd at h;simpa using h)
  rw [jK];omega
def VN (h:Tx P L) {v:AV} {a:Rat} {K:Nat} (hv:cB v a) (ka:Hq K a) (hK:K<=4000000000):ae P L 46 [v] (.str (RT a)):=by
 have i1:=VK h.toFr' hv;obtain ⟨s1,w1,s2,w2,rfl,h1,h2⟩:=hv;obtain ⟨l1,u1⟩:=h1.aw;obtain ⟨l2,u2⟩:=h2.aw;have e1:=VM h (v:= .agg [aa s1,w1]) ⟨s1,w1,rfl,h1⟩ ka.1 hK;have e2:=VM h (v:= .agg [aa s2,w2]) ⟨s2,w2,rfl,h2⟩ ka.2 hK;have b1:=Hm ka.1;have b2:=Hm ka.2;rw [jK] at e2 b2;unfold ae RT;rw [av h.VL];by_cases hd:a.den=1
 ·rw [yJ hd,List.append_nil];rw [hd] at i1;simp only [go_sem,ya,yb,Oy,aH,u1.pu,u1.ai,u1.one,u2.pu,u2.ai,u2.one,gM,bk,i1,bg,yd,pR,e1]
 ·rw [yz hd];rw [yM hd] at i1;have hc:aW a.num++47::an a.den=(aW a.num++[47])++an a.den:=by simp
  rw [hc]
  simp only [go_sem,ya,yb,Oy,aH,u1.pu,u1.ai,u1.one,u2.pu,u2.ai,u2.one,gM,bk,i1,bg,yd,pR,A7,e1,e2,gl (a:=aW a.num) (b:=[47]) (by simp;omega),gl (a:=aW a.num++[47]) (b:=an a.den) (by simp;omega)]
end
end
section
open Go (IntKind)
def au5 {n:Nat} (h:n<9223372036854775808):binOp .and (.int .i64 (n:Int)) (.int .i64 1)=some (.int .i64 ((n%2:Nat):Int)):=by
 show some (AV.int .i64 (IntKind.wrap .i64 ((xF 64 (n:Int)&&&xF 64 1).toNat:Int)))=_
 rw [show xF 64 (n:Int)=vY 64 n from BitVec.ofInt_natCast 64 n,show xF 64 1=vY 64 1 from rfl];rw [BitVec.toNat_and,vm,vm,show (1%2^64:Nat)=2^1-1 from rfl,Nat.and_two_pow_sub_one_eq_mod,wrapN (by omega)]
 grind
def au6 (n:Nat):binOp .shr (.int .i64 (n:Int)) (.int .u64 1)=some (.int .i64 ((n/2:Nat):Int)):=by
 show some (AV.int .i64 ((n:Int).fdiv (2^1)))=_
 grind
def Bd.pow {k:Nat} {z:Int} (h:Bd k z):∀e,Bd (k*e+1) (z^e)
 | 0=>by rw [tH,xJ];unfold Bd;decide
 | e+1=>by
  have ih:=Bd.pow h e;rw [Int.pow_succ];exact (ih.mul h).mono (by rw [xD,yi];omega)
section
variable {P:aK} {L:Lib}
def arM (h:Nu P L) (NO:True) {z:Int} {K k0:Nat} (hz:Bd K z) (hK:K*k0+1<=30000000000) {o1 o2:AV}:
  ∀m st,(∃(k i e:Nat) (s1 s2:Int) (w1 w2:AV),bH [1,2,4,5] st=⟨[(1,aa k),(2,.ptr 0 0),(4,.ptr 1 0),(5,.ptr 2 0)],[(2,.cells true true true 2 [aa s2,w2]),(1,.cells true true true 2 [o1,o2]),(0,.cells true true true 2 [aa s1,w1])],3,0⟩/\cM s1 w1 (z^i)/\cM s2 w2 (z^e)/\e+i*k=k0/\(0<k->i<=k0)/\k<9223372036854775808/\k=m)->
   ∃ex st',D P L (.loop [1,2,4,5] Cn) st=some (ex,st')/\∃tm s2 w2 c0,st'=⟨tm,[(2,.cells true true true 2 [aa s2,w2]),(1,.cells true true true 2 [o1,o2]),(0,c0)],3,0⟩/\ex= .exit 0/\af tm 4= .ptr 1 0/\af tm 5= .ptr 2 0/\cM s2 w2 (z^k0):=by
 refine cC (I:=fun m st=>∃(k i e:Nat) (s1 s2:Int) (w1 w2:AV),st=⟨[(1,aa k),(2,.ptr 0 0),(4,.ptr 1 0),(5,.ptr 2 0)],[(2,.cells true true true 2 [aa s2,w2]),(1,.cells true true true 2 [o1,o2]),(0,.cells true true true 2 [aa s1,w1])],3,0⟩/\cM s1 w1 (z^i)/\cM s2 w2 (z^e)/\e+i*k=k0/\(0<k->i<=k0)/\k<9223372036854775808/\k=m)
  (Q:=fun ex st'=>∃tm s2 w2 c0,st'=⟨tm,[(2,.cells true true true 2 [aa s2,w2]),(1,.cells true true true 2 [o1,o2]),(0,c0)],3,0⟩/\ex= .exit 0/\af tm 4= .ptr 1 0/\af tm 5= .ptr 2 0/\cM s2 w2 (z^k0)) ?_
 rintro m st ⟨k,i,e,s1,s2,w1,w2,rfl,h1,h2,hk,hi,hkb,rfl⟩;obtain ⟨l1,u1⟩:=h1.aw;obtain ⟨l2,u2⟩:=h2.aw;by_cases JG:k=0
 ·right
  subst JG;rw [xJ,yX] at hk;subst hk;simp only [go_sem,Cn,show ¬(0:Int)<((0:Nat):Int) by omega];exact ⟨_,_,rfl,by simp,_,s2,w2,_,rfl,rfl,by simp only [go_sem,ya],by simp only [go_sem,ya],h2⟩
 ·left
  have cz:=hi (by omega);have he:e<=k0:=by omega
  have hik:i*1<=i*k:=yS i (by omega);have b1:Bd (K*k0+1) (z^i):=(hz.pow i).mono (by have:=yS K cz;omega);have b2:Bd (K*k0+1) (z^e):=(hz.pow e).mono (by have:=yS K he;omega);have n1:cD (.agg [aa s1,w1]) (z^i):=⟨s1,w1,rfl,h1⟩;have n2:cD (.agg [aa s2,w2]) (z^e):=⟨s2,w2,rfl,h2⟩;obtain ⟨p,e1,hp⟩:=rJ h n2 n1 b2 b1 (by omega);obtain ⟨q,e2,hq⟩:=rJ h n1 n1 b1 b1 (by omega);rw [<-Int.pow_add] at hp hq;obtain ⟨s3,w3,rfl,h3⟩:=hp;obtain ⟨s4,w4,rfl,h4⟩:=hq;obtain ⟨l3,u3⟩:=h3.aw;obtain ⟨l4,u4⟩:=h4.aw;have fL:=wB k 2;have Kn:=au5 (n:=k) hkb;have VO:=au6 k;have azv:(i+i)*(k/2)=i*(2*(k/2)):=by rw [<-Nat.two_mul,Nat.mul_comm 2 i,Nat.mul_assoc]
  by_cases au7:k%2=1
  ·rw [au7] at Kn fL;have rS:i*k=i*(2*(k/2))+i:=by
    conv=>lhs;rw [<-fL,xD,yi]
   by_cases nf:1<k
   ·simp only [go_sem,ya,Cn,show (0:Int)<(k:Int) by omega,Kn,show ((1:Nat):Int)=1 from rfl,bW,bk,u1.ai,u2.ai,e1,bE,bW,yj,dQ u3,dQ u4,show (1:Int)<(k:Int) by omega,e2,VO]
    exact ⟨_,k/2,rfl,by omega,k/2,i+i,e+i,s4,s3,w4,w3,by simp only [go_sem,ya,yb,aD],h4,h3,by omega,fun h0=>by have:=yS (i+i) h0;omega,by omega,rfl⟩
   ·have fH:e+i+i*(k/2)=k0:=by
     have h1:k/2=0:=by omega
     rw [h1] at rS ⊢;omega
    simp only [go_sem,ya,Cn,show (0:Int)<(k:Int) by omega,Kn,show ((1:Nat):Int)=1 from rfl,bW,bk,u1.ai,u2.ai,e1,bE,bW,yj,dQ u3,show ¬(1:Int)<(k:Int) by omega,VO];exact ⟨_,k/2,rfl,by omega,k/2,i,e+i,s1,s3,w1,w3,by simp only [go_sem,ya,yb,aD],h1,h3,fH,fun h0=>by omega,by omega,rfl⟩
  ·have Dg:k%2=0:=by omega
   rw [Dg] at Kn fL;have rS:i*k=i*(2*(k/2)):=by
    conv=>lhs;rw [<-fL,yX]
   simp only [go_sem,ya,Cn,show (0:Int)<(k:Int) by omega,Kn,show ((0:Nat):Int)=0 from rfl,tk,bW,bk,u1.ai,bE,bW,yj,dQ u4,show (1:Int)<(k:Int) by omega,e2,VO]
   exact ⟨_,k/2,rfl,by omega,k/2,i+i,e,s4,s2,w4,w2,by simp only [go_sem,ya,yb,aD],h4,h2,by omega,fun h0=>by have:=yS (i+i) h0;omega,by omega,rfl⟩
def au8 (h:Nu P L) (Tv:Has P L 155 Nh) {v:AV} {z:Int} {K k:Nat} (hv:cD v z) (hz:Bd K z) (hK:K*k+1<=30000000000) (hk:k<9223372036854775808):∃r,ae P L 155 [v,aa k] r/\cD r (z^k):=by
 obtain ⟨o1,o2⟩:=C0 h (z:=1) (by decide) (by decide);obtain ⟨s1,w1,rfl,h1⟩:=hv;obtain ⟨l1,u1⟩:=h1.aw;have un:=sJ;have iL:∃s w,ae P L 155 [.agg [aa s1,w1],aa k] (.agg [aa s,w])/\cM s w (z^k):=by
  unfold ae;rw [av Tv];simp only [go_sem,ya,yb,Nh,aH,u1.pu,u1.one,o1,bE,dQ un];generalize hq:D P L (.loop [1,2,4,5] Cn) _=q;obtain ⟨ex,st,rfl,tm,s5,w5,c1,rfl,rfl,t4,t5,h5⟩:=cd hq (arM (P:=P) (L:=L) h trivial hz (k0:=k) hK (o1:= .int .i64 0) (o2:= .ab) k) ⟨k,1,0,s1,1,w1,.ab,by simp only [go_sem,ya,yb,aD],by rw [Int.pow_one];exact h1,.inl ⟨rfl,(tH z).symm,(by rw [tH];decide)⟩,by omega,fun h0=>h0,hk,rfl⟩
  obtain ⟨l5,u5⟩:=h5.aw;refine ⟨s5,w5,?_,h5⟩;simp only [go_sem,ya,yb,aD,t4,t5,db,de,bW,yj,ml u5,dQ u5]
 obtain ⟨s,w,e,hn⟩:=iL;exact ⟨_,e,s,w,rfl,hn⟩
def HA:∀(l m:List Nat) (a:Nat),cR (l++m) a=(cR l a).bind (fun v=>cR m v)
 | [],m,a=>rfl
 | b::l,m,a=>by
  simp only [List.cons_append,cR]
  cases (yE 48 b&&yE b 57) with
  | true=>exact HA l m _
  | false=>rfl
def am1:∀{l:List Nat} {a v:Nat},cR l 0=some v->cR l a=some (a*10^l.length+v):=by
 intro l
 suffices h:∀{l:List Nat} {a b v:Nat},cR l b=some v->b*10^l.length<=v/\cR l (a+b)=some (a*10^l.length+v) by
  intro a v hv
  have:=(h (a:=a) hv).2
  grind
 intro l
 induction l with
 | nil=>intro a b v h;simp [cR] at h ⊢;omega
 | cons c l ih=>
  intro a b v h;simp only [cR] at h ⊢
  cases hb:(yE 48 c&&yE c 57) with
  | false=>rw [hb] at h;cases h
  | true=>
   rw [hb] at h;obtain ⟨h1,h2⟩:=ih (a:=10*a) h;simp only [yv,xg]
   grind
def Rc:∀{l:List Nat} {v:Nat},cR l 0=some v->v<10^l.length:=by
 suffices h:∀{l:List Nat} {b v:Nat},cR l b=some v->v<(b+1)*10^l.length by
  grind
 intro l
 induction l with
 | nil=>intro b v h;simp [cR] at h ⊢;omega
 | cons c l ih=>
  intro b v h;simp only [cR] at h
  cases hb:(yE 48 c&&yE c 57) with
  | false=>rw [hb] at h;cases h
  | true=>
   simp only [Bool.and_eq_true] at hb;have hc:=Nat.le_of_ble_eq_true hb.2;have h2:=Nat.mul_le_mul_right (10^l.length) (show 10*b+(c-48)+1<=10*(b+1) by omega)
   grind
def apg (Tt:L.pure 154=some Iz) {f:cJ} {s:List Nat} {v:Nat} (h0:0<s.length) (h1:s.length<=18) (hv:cR s 0=some v):bR P L f 154 [.str s]=some (.aq [.int .i64 v,.undef]):=by
 rw [iS Tt];show (bif yG 0 s.length&&yE s.length 18 then (match cR s 0 with | some n=>some (AV.aq [.int .i64 n,.undef]) | none=>none) else none)=_
 rw [jR h0,yu h1,hv];rfl
end
end
section
open Go (IntKind)
def Y7:∀j:Nat,gO [48] j++[48]=[48]++gO [48] j
 | 0=>rfl
 | j+1=>by
  show ([48]++gO [48] j)++[48]=[48]++([48]++gO [48] j)
  rw [xu,Y7 j]
def DU:∀j:Nat,(gO [48] j).length=j
 | 0=>rfl
 | j+1=>by show ([48]++gO [48] j).length=_;rw [yQ,DU j];simp;omega
def akM:∀(k n:Nat),n<10^k->0<k->iv k n=gO [48] (k-(an n).length)++an n:=by
 intro k
 induction k with
 | zero=>intro n _ h;omega
 | succ k ih=>
  intro n hn _;rw [iv];by_cases iA:n<10
  ·rw [nt iA,Nat.mod_eq_of_lt iA]
   cases k with
   | zero=>rfl
   | succ k=>
    rw [ih (n/10) (by rw [wS iA];exact ybJ (by decide)) (by omega),wS iA]
    rw [show an 0=[48] by decide];rw [Y7];rfl
  ·have hk:0<k:=by
    grind
   rw [ih (n/10) (by rw [xg] at hn;omega) hk,ol iA,xu,yQ]
   grind
def akN {m d r:Nat} (hd:d=m/1000000000000000000) (hr:r=m%1000000000000000000):(0<d->an m=an d++(gO [48] (18-(an r).length)++an r))/\(d=0->an m=an r):=by
 have VG:r<10^18:=by omega
 constructor
 ·intro h0;rw [<-akM 18 r VG (by decide),<-Lv 18 d r h0 VG]
  grind
 ·grind
section
variable {P:aK} {L:Lib}
def arN {f:cJ} (h:L.pure 138=some At) {n:Nat} (hn:n<18446744073709551616):bR P L f 138 [uc n,aa 10]=some (.str (an n)):=by
 rw [iS h];show (bif yG n 18446744073709551616 then some (AV.str (an n)) else none)=_
 rw [jR hn];rfl
def RP {f:cJ} (h:L.pure 139=some AL) {n:Nat} (hn:n<=100):bR P L f 139 [.str [48],aa (n:Nat)]=some (.str (gO [48] n)):=by
 rw [iS h];show (bif yE n 1099511627776&&yE (1*n) 1099511627776 then some (AV.str (gO [48] n)) else none)=_
 rw [yu (by omega),yu (by omega)];rfl
def arO (h:Wd P L) (C2:L.pure 138=some At) (zL:L.pure 139=some AL) {neg:Bool} {M K:Nat} (hM0:0<M) (hK:K<=4000000000) (hlen:(an M).length<=300000000000):
  ∀k s,(∃(m:Nat) (w:AV) (ps:List (List Nat)) (fl:Bool),m=k/\WN w m/\m<18446744073709551616^K/\an M=(if m=0 then [] else an m)++ps.reverse.flatten/\((ps=[]->m=M)/\18*ps.length<=(an M).length+18)/\(m≠0->18*ps.length+(an m).length=(an M).length)/\
    ((ps=[]/\bH [3,4,5,6] s=⟨[(3,.bool neg),(4,w),(5,.ak 0 0 1),(6,.ab)],[(0,.cells fl true true 1 [uc 1000000000000000000])],1,0⟩)\/
    (ps≠[]/\bH [3,4,5,6] s=⟨[(3,.bool neg),(4,w),(5,.ak 0 0 1),(6,.ak 1 0 ps.length)],[(1,.cells true true false 1 (ps.map .str)),(0,.cells fl true true 1 [uc 1000000000000000000])],2,0⟩)))->
   ∃ex s',D P L (.loop [3,4,5,6] oJ) s=some (ex,s')/\∃tm ps fl,ex= .exit 0/\ps≠[]/\ps.length<=300000000000/\an M=ps.reverse.flatten/\af tm 3= .bool neg/\af tm 6= .ak 1 0 ps.length/\s'=⟨tm,[(1,.cells true true false 1 (ps.map .str)),(0,.cells fl true true 1 [uc 1000000000000000000])],2,0⟩:=by
 refine cC (I:=fun k s=>∃(m:Nat) (w:AV) (ps:List (List Nat)) (fl:Bool),m=k/\WN w m/\m<18446744073709551616^K/\an M=(if m=0 then [] else an m)++ps.reverse.flatten/\((ps=[]->m=M)/\18*ps.length<=(an M).length+18)/\(m≠0->18*ps.length+(an m).length=(an M).length)/\
    ((ps=[]/\s=⟨[(3,.bool neg),(4,w),(5,.ak 0 0 1),(6,.ab)],[(0,.cells fl true true 1 [uc 1000000000000000000])],1,0⟩)\/
    (ps≠[]/\s=⟨[(3,.bool neg),(4,w),(5,.ak 0 0 1),(6,.ak 1 0 ps.length)],[(1,.cells true true false 1 (ps.map .str)),(0,.cells fl true true 1 [uc 1000000000000000000])],2,0⟩))) (Q:=fun ex s'=>∃tm ps fl,ex= .exit 0/\ps≠[]/\ps.length<=300000000000/\an M=ps.reverse.flatten/\af tm 3= .bool neg/\af tm 6= .ak 1 0 ps.length/\s'=⟨tm,[(1,.cells true true false 1 (ps.map .str)),(0,.cells fl true true 1 [uc 1000000000000000000])],2,0⟩) ?_
 rintro k s ⟨m,w,ps,fl,rfl,hw,hmK,Ao,afD,pg,hs⟩;obtain ⟨lw,uw,gw,nw,vw⟩:=hw;by_cases hm:m=0
 ·right
  have lL:lw=[]:=List.eq_nil_of_length_eq_zero (Nat.le_zero.1 (nM (K:=0) nw vw (by rw [hm];decide)))
  subst lL;rw [yJ hm,xS] at Ao;have dS:ps≠[]:=fun e=>by have:=afD.1 e;omega
  have Pb:ps.length<=300000000000:=by have:=afD.2;omega
  rcases hs with ⟨h0,_⟩ | ⟨_,rfl⟩
  ·exact absurd h0 dS
  ·simp only [go_sem,ya,oJ,uw.len,yF,show ¬(0:Int)<((0:Nat):Int) by omega];exact ⟨_,_,rfl,by simp,_,ps,fl,rfl,dS,Pb,Ao,by simp only [go_sem,ya],by simp only [go_sem,ya],rfl⟩
 ·left
  have hw:WN w m:=⟨lw,uw,gw,nw,vw⟩;have hB:WN (.aE true 1 [uc 1000000000000000000]) 1000000000000000000:=⟨[1000000000000000000],mM true [1000000000000000000],Eg.2 (by decide),by decide,by simp [bv]⟩;obtain ⟨q,r,e1,hq,hr⟩:=afp h hw hB (K:=K+1) (by decide) (yH hmK (xn (by decide) (by omega))) (by rw [xg];have:=ybJ (n:=K) (show 0<18446744073709551616 by decide);omega) (by omega)
  obtain ⟨t1,t2⟩:=akN (m:=m) rfl rfl;have fL:=wB m 1000000000000000000;have hrB:=xC m (show 0<1000000000000000000 by decide);obtain ⟨d,hd⟩:∃d,d=m/1000000000000000000:=⟨_,rfl⟩;obtain ⟨x,hx⟩:∃x,x=m%1000000000000000000:=⟨_,rfl⟩;rw [<-hd] at hq t1 t2 fL;rw [<-hx] at hr t1 t2 fL hrB;obtain ⟨lq,uq,gq,nq,vq⟩:=hq;obtain ⟨lr,ur,gr,nr,vr⟩:=hr;have hxl:(an x).length<=18:=om (k:=17) (by omega);have hxp:=pK x;have J8:(lr=[]/\x=0)\/lr=[x]:=by
   have h1:lr.length<=1:=nM (K:=1) nr vr (by rw [Nat.pow_one];omega)
   cases lr with
   | nil=>exact .inl ⟨rfl,by rw [<-vr];rfl⟩
   | cons a l=>
    cases l with
    | nil=>rw [AT] at vr;exact .inr (by rw [vr])
    | cons b l=>simp at h1
  have Ko:(lq=[]/\d=0)\/(0<lq.length/\0<d):=by
   cases lq with
   | nil=>exact .inl ⟨rfl,by rw [<-vq];rfl⟩
   | cons a l=>
    refine .inr ⟨by simp,?_⟩;rcases Nat.eq_zero_or_pos d with h0 | h0
    ·have:=nM (K:=0) nq vq (by rw [h0];decide)
     simp at this
    ·exact h0
  unfold ae at e1;have BW:(0:Int)<(lw.length:Int):=by
   have:lw≠[]:=fun e=>by subst e;simp [bv] at vw;omega
   have:=List.length_pos_iff.2 this
   omega
  have azI:=pg hm;have hmp:=pK m;have new:∀t:List Nat,an m=(if d=0 then [] else an d)++t->(d≠0->t.length=18)->
    an M=(if d=0 then [] else an d)++(ps++[t]).reverse.flatten/\((ps++[t]=[]->d=M)/\18*(ps++[t]).length<=(an M).length+18)/\(d≠0->18*(ps++[t]).length+(an d).length=(an M).length):=fun t h1 h2=>by
   rw [yz hm,h1] at Ao;refine ⟨by rw [Ao];simp,⟨by simp,by simp only [yQ,yv,yF];omega⟩,fun h0=>?_⟩
   have h3:=congrArg List.length h1;rw [yz h0,yQ,h2 h0] at h3;simp only [yQ,yv,yF];omega
  have Bp:d<m:=by omega
  have BX:WN q d:=⟨lq,uq,gq,nq,vq⟩;have n5:lr=[x]->gZ 1 0 r=some (.aF (.int .u64 x::([]:List AV))):=fun e=>by
   subst e
   have:=ur.bj (i:=0) (by simp)
   simpa using this
  have f1:=arN (P:=P) (f:=D P L) C2 (n:=x) (by omega);have f2:=RP (P:=P) (f:=D P L) zL (n:=18-(an x).length) (by omega);have Tw:(18:Int)-((an x).length:Int)=((18-(an x).length:Nat):Int):=by omega
  have azJ:18*ps.length<=300000000000:=by omega
  have zl:(gO [48] (18-(an x).length)++an x).length=18:=by rw [yQ,DU];omega
  obtain ⟨z,hz⟩:∃z,z=an x:=⟨_,rfl⟩;have jm:x=0->z=[48]:=fun e=>by rw [hz,e];decide
  rw [<-hz] at f1 f2 Tw hxl hxp zl t1 t2;cases fl
  all_goals
   rcases Ko with ⟨rfl,fR⟩ | ⟨Pc,fR⟩
   ·obtain ⟨n1,n2,n3⟩:=new z (by rw [yJ fR,xS];exact t2 fR) (fun h=>absurd fR h)
    rcases J8 with ⟨rfl,Aj⟩ | rfl
    ·have lR:=jm Aj;clear hz;subst lR;rcases hs with ⟨fg,rfl⟩ | ⟨fg,rfl⟩
     ·subst fg;simp only [go_sem,ya,yb,xR,yy,yg,yi,oJ,uw.len,uw.ai,uq.len,uq.bO,ur.len,ur.bO,BW,e1,yF,yF,show ¬(0:Int)<((0:Nat):Int) by omega,lY];refine ⟨_,d,rfl,Bp,d,q,[]++[[48]],false,rfl,BX,by omega,n1,n2,n3,.inr ⟨by simp,?_⟩⟩;simp only [go_sem,ya,yb,aD,aM uq.pu,aQ _ uq.pu]<;>rfl
     ·simp only [go_sem,ya,yb,yy,yg,yi,oJ,uw.len,uw.ai,uq.len,uq.bO,ur.len,ur.bO,BW,e1,yF,yF,show ¬(0:Int)<((0:Nat):Int) by omega]
      rw [lk (ex:=false) (pu:=true) (cs:=ps.map .str) (by simp only [go_sem,ya]) (by simp) (by omega) (by omega) (by decide) (by simp only [go_sem])];simp only [go_sem,ya,yb];refine ⟨_,d,rfl,Bp,d,q,ps++[[48]],false,rfl,BX,by omega,n1,n2,n3,.inr ⟨by simp,?_⟩⟩;rw [xq,yQ];simp only [go_sem,ya,yb,aD,aM uq.pu,aQ _ uq.pu]<;>rfl
    ·rcases hs with ⟨fg,rfl⟩ | ⟨fg,rfl⟩
     ·subst fg;simp only [go_sem,ya,yb,xR,yy,yg,yi,oJ,uw.len,uw.ai,uq.len,uq.bO,ur.len,ur.bO,BW,e1,yv,yF,yd,show (0:Int)<((1:Nat):Int) by omega,n5 rfl,f1,yF,show ¬(0:Int)<((0:Nat):Int) by omega,lY];refine ⟨_,d,rfl,Bp,d,q,[]++[z],false,rfl,BX,by omega,n1,n2,n3,.inr ⟨by simp,?_⟩⟩;simp only [go_sem,ya,yb,aD,aM uq.pu,aQ _ uq.pu]<;>rfl
     ·simp only [go_sem,ya,yb,yy,yg,yi,oJ,uw.len,uw.ai,uq.len,uq.bO,ur.len,ur.bO,BW,e1,yv,yF,yd,show (0:Int)<((1:Nat):Int) by omega,n5 rfl,f1,yF,show ¬(0:Int)<((0:Nat):Int) by omega]
      rw [lk (ex:=false) (pu:=true) (cs:=ps.map .str) (by simp only [go_sem,ya]) (by simp) (by omega) (by omega) (by decide) (by simp only [go_sem])];simp only [go_sem,ya,yb];refine ⟨_,d,rfl,Bp,d,q,ps++[z],false,rfl,BX,by omega,n1,n2,n3,.inr ⟨by simp,?_⟩⟩;rw [xq,yQ];simp only [go_sem,ya,yb,aD,aM uq.pu,aQ _ uq.pu]<;>rfl
   ·obtain ⟨n1,n2,n3⟩:=new (gO [48] (18-z.length)++z) (by rw [yz (by omega)];exact t1 fR) (fun _=>zl)
    rcases J8 with ⟨rfl,Aj⟩ | rfl
    ·have lR:=jm Aj;clear hz;subst lR;rcases hs with ⟨fg,rfl⟩ | ⟨fg,rfl⟩
     ·subst fg
      simp only [go_sem,ya,yb,xR,yy,yg,yi,oJ,uw.len,uw.ai,uq.len,uq.bO,ur.len,ur.bO,BW,e1,yF,show ¬(0:Int)<((0:Nat):Int) by omega,show (0:Int)<(lq.length:Int) by omega,show (18:Int)-((1:Nat):Int)=((17:Nat):Int) from rfl,wrapN (n:=17) (by omega),RP (P:=P) (f:=D P L) zL (n:=17) (by omega),gl (a:=gO [48] 17) (b:=[48]) (by rw [DU];decide),lY]
      refine ⟨_,d,rfl,Bp,d,q,[]++[gO [48] 17++[48]],false,rfl,BX,by omega,n1,n2,n3,.inr ⟨by simp,?_⟩⟩;simp only [go_sem,ya,yb,aD,aM uq.pu,aQ _ uq.pu]<;>rfl
     ·simp only [go_sem,ya,yb,yy,yg,yi,oJ,uw.len,uw.ai,uq.len,uq.bO,ur.len,ur.bO,BW,e1,yF,show ¬(0:Int)<((0:Nat):Int) by omega,show (0:Int)<(lq.length:Int) by omega,show (18:Int)-((1:Nat):Int)=((17:Nat):Int) from rfl,wrapN (n:=17) (by omega),RP (P:=P) (f:=D P L) zL (n:=17) (by omega),gl (a:=gO [48] 17) (b:=[48]) (by rw [DU];decide)]
      rw [lk (ex:=false) (pu:=true) (cs:=ps.map .str) (by simp only [go_sem,ya]) (by simp) (by omega) (by omega) (by decide) (by simp only [go_sem])];simp only [go_sem,ya,yb];refine ⟨_,d,rfl,Bp,d,q,ps++[gO [48] 17++[48]],false,rfl,BX,by omega,n1,n2,n3,.inr ⟨by simp,?_⟩⟩;rw [xq,yQ];simp only [go_sem,ya,yb,aD,aM uq.pu,aQ _ uq.pu]<;>rfl
    ·rcases hs with ⟨fg,rfl⟩ | ⟨fg,rfl⟩
     ·subst fg
      simp only [go_sem,ya,yb,xR,yy,yg,yi,oJ,uw.len,uw.ai,uq.len,uq.bO,ur.len,ur.bO,BW,e1,yv,yF,yd,show (0:Int)<((1:Nat):Int) by omega,n5 rfl,f1,show (0:Int)<(lq.length:Int) by omega,Tw,wrapN (n:=18-z.length) (by omega),f2,gl (a:=gO [48] (18-z.length)) (b:=z) (by rw [DU];omega),lY];refine ⟨_,d,rfl,Bp,d,q,[]++[gO [48] (18-z.length)++z],false,rfl,BX,by omega,n1,n2,n3,.inr ⟨by simp,?_⟩⟩;simp only [go_sem,ya,yb,aD,aM uq.pu,aQ _ uq.pu]<;>rfl
     ·simp only [go_sem,ya,yb,yy,yg,yi,oJ,uw.len,uw.ai,uq.len,uq.bO,ur.len,ur.bO,BW,e1,yv,yF,yd,show (0:Int)<((1:Nat):Int) by omega,n5 rfl,f1,show (0:Int)<(lq.length:Int) by omega,Tw,wrapN (n:=18-z.length) (by omega),f2,gl (a:=gO [48] (18-z.length)) (b:=z) (by rw [DU];omega)]
      rw [lk (ex:=false) (pu:=true) (cs:=ps.map .str) (by simp only [go_sem,ya]) (by simp) (by omega) (by omega) (by decide) (by simp only [go_sem])];simp only [go_sem,ya,yb];refine ⟨_,d,rfl,Bp,d,q,ps++[gO [48] (18-z.length)++z],false,rfl,BX,by omega,n1,n2,n3,.inr ⟨by simp,?_⟩⟩;rw [xq,yQ];simp only [go_sem,ya,yb,aD,aM uq.pu,aQ _ uq.pu]<;>rfl
end
end
section
open Go (IntKind)
def Jm:Nat->VC->VC
 | 0,c=>bK c
 | n+1,c=> .seq (bK c) (Jm n (aA c))
end
section
open Go (IntKind)
section
variable {P:aK} {L:Lib}
def ai6 (h:Nu P L) (C2:L.pure 138=some At) (zL:L.pure 139=some AL) {s z:Int} {e:Bool} {l:List Nat} (hn:cM s (.aE e l.length (l.map uc)) z) {K:Nat} (lR:0<z.natAbs) (Pd:z.natAbs<18446744073709551616^K) (hK:K<=4000000000) (hlen:(an z.natAbs).length<=300000000000):
  ∃ps:List (List Nat),ps≠[]/\ps.length<=300000000000/\an z.natAbs=ps.reverse.flatten/\D P L (Jm 5 Dh.body) ⟨[(0,.agg [aa s,.aE e l.length (l.map uc)])],[],0,0⟩=some (.normal,⟨[(3,.bool (decide (z<0))),(6,.ak 0 0 ps.length)],[(0,.cells true true false 1 (ps.map .str))],1,0⟩):=by
 obtain ⟨r,e1,hr⟩:=zJ h hn;have bX:=hr;obtain ⟨lr,ur,gr,nr,vr⟩:=hr;simp only [go_sem,ya,yb,yg,yi,Dh,Jm,bK,aA,aH,bg,yd,bY,nD,dw,bW,bk,e1];generalize mI:D P L (.loop [3,4,5,6] oJ) _=qq;obtain ⟨ex,st,rfl,tm,ps,fl,rfl,dS,Pb,Ao,t3,t6,rfl⟩:=cd mI (arO (P:=P) (L:=L) h.toWd C2 zL (neg:=decide (z<0)) (M:=z.natAbs) (K:=K) lR hK hlen z.natAbs) ⟨z.natAbs,bO r,[],true,rfl,bX,Pd,by rw [yz (by omega)];simp,⟨fun _=>rfl,by simp⟩,fun _=>by simp,.inl ⟨rfl,by
  simp only [go_sem,ya,yb,aD,aM ur.pu,aQ _ ur.pu]<;>rfl⟩⟩
 refine ⟨ps,dS,Pb,Ao,?_⟩;simp only [go_sem,yb,aD,t3,t6]
end
end
section
open Go
variable {O:bw}
def zm:Nat->wI->wI
 | 0,.seq _ b=>b
 | n+1,.seq _ b=>zm n b
 | _,c=>c
def NR:Nat->wI->Prop
 | 0,.seq _ _=>True
 | n+1,.seq _ b=>NR n b
 | _,_=>False
def Z6 (hO:eH O) {h:Nat} {c:wI} {l k:Nat} {s:St} {ex:Ex} {s':St} (hv:D O.prog O.aU (comp O.P (O.hint h) c l k).1 s=some (ex,s')):A1 O h c s ex s':=by
 obtain ⟨n,hn⟩:=S4 hv
 cases n with
 | zero=>rw [HI] at hn;cases hn
 | succ n=>
  exact aaL hO n (fun k _=>Xr hO k) h c l k n (yD _) s ex s' hn
def acZ (hO:eH O) {h:Nat} {ro:Option Nat} {lo:Nat} {Q:Exit->Act->yh->Prop}:∀(n:Nat) (c:wI) (l k:Nat),NR n c->∀(s s1:St),D O.prog O.aU (Jm n (comp O.P (O.hint h) c l k).1) s=some (.normal,s1)->
  ∀(m:Mp) (S:Nat->Prop) (w:yh) (a:Act),sW ro w->cp O m S w s.tm a.tmps->aZ O m S w s.hp s.ct->s.base<=s.ct->(O.hint h).n<=a.tmps.size->O.w0.heap.size<=lo->lo<=w.heap.size->Marks lo S w a.defers->
  (∀a' w',eP O m S w s .normal s1 a.tmps.size lo .normal a' w'->(zm n c).wpIn (WF ro) 0 O.P Q a' w')->c.wpIn (WF ro) 0 O.P Q a w
 | n,c,l,k,hc,s,s1,hv=>by
  intro m S w a da ht hh hb hn bn fj cQ hQ
  cases c with
  | seq x y=>
   cases n with
   | zero=>
    refine wpIn_seq (wpIn_mono (Z6 hO (show D O.prog O.aU (comp O.P (O.hint h) x l k).1 s=some (.normal,s1) from hv) ro lo m S w a da ht hh hb hn bn fj cQ) ?_);rintro e a' w' hp;have he:e= .normal:=hp.1;subst he;exact hQ a' w' hp
   | succ n=>
    have eF:D O.prog O.aU (.seq (comp O.P (O.hint h) x l k).1 (Jm n (comp O.P (O.hint h) y (comp O.P (O.hint h) x l k).2.1 (comp O.P (O.hint h) x l k).2.2).1)) s=some (.normal,s1):=hv;rw [jy] at eF
    cases hx:D O.prog O.aU (comp O.P (O.hint h) x l k).1 s with
    | none=>rw [hx] at eF;cases eF
    | some q=>
     obtain ⟨ex,st⟩:=q;rw [hx] at eF
     cases ex with
     | ret=>exact absurd eF (by intro h;cases h)
     | exit id=>exact absurd eF (by intro h;cases h)
     | normal=>
      refine wpIn_seq (wpIn_mono (Z6 hO hx ro lo m S w a da ht hh hb hn bn fj cQ) ?_);rintro e a' w' ⟨rfl,m',S',k1,k2,k3,k4,k5,k6,k7⟩;refine acZ hO n y _ _ hc st s1 eF m' S' w' a' (K5 k5 da) k1 k2 (by omega) (by omega) bn (xi fj k5.size) k7 ?_;rintro a2 w2 ⟨_,m2,S2,g1,g2,g3,g4,g5,g6,g7⟩;exact hQ a2 w2 ⟨rfl,m2,S2,g1,g2,by omega,by omega,k5.trans (by rw [<-k3];exact g5),by omega,g7⟩
  | _=>cases n<;>exact hc.elim
def arP (hO:eH O) {n:Nat} {F:aI} (hF:O.prog n=some F) {fn:tn} {c:wI} (lf:O.P.funcs[O.ah n]? =some fn) (iO:fn.body=some c) {hp:Hp} {ct:Nat} {vals:List AV} {s:St}
  (hc:(comp O.P (O.hint n) c 0 0).1=F.body->∀m S w a,cp O m S w (fp 0 vals) a.tmps->aZ O m S w hp ct->(O.hint n).n<=a.tmps.size->a.tmps.size=max fn.ntmps vals.length->O.w0.heap.size<=w.heap.size->a.defers=[]->
   c.wpIn (WF none) 0 O.P (eP O m S w ⟨fp 0 vals,hp,ct,ct⟩ .ret s a.tmps.size w.heap.size) a w) {v:AV} (hr:gh s F.dn=some v):A0 O n hp ct vals v s.hp s.ct:=by
 intro m S w args hh gL;obtain ⟨fn',q1,q2,q3⟩:=hO.prog n F hF;rw [lf] at q1;cases q1;obtain ⟨c',q4,q5,q6,q7⟩:=Pz q2;rw [iO] at q4;cases q4;refine .inl ⟨Ls lf (by rw [iO];rfl) q3,?_⟩
 have hlen:vals.length=args.size:=by have:=(iF _ _ gL).symm;simpa using this
 have hw:=hc q5.symm m S w {tmps:=args++Array.replicate (fn.ntmps-args.size) undef,defers:=[]} (YN _ gL) hh (by simp;omega) (by simp;omega) hh.fP rfl
 refine callsIn_of_wp_marks (F:=yaq) lf iO trivial (wpIn_mono hw ?_);rintro e a' w' ⟨rfl,m',S',k1,k2,k3,k4,k5,k6,rs,k7,k8,k9⟩;show LeavesInM yaq 0 O.P fn a'.tmps (sH O m S w hp ct v s.hp s.ct) a'.defers .returning w'
 rw [k7];exact P8 q6 hr k4 rs w' k8 k9 hh.fP k2 k1 k5
def am2 (hO:eH O) {n:Nat} {F:aI} (hF:O.prog n=some F) {fn:tn} {c:wI} (lf:O.P.funcs[O.ah n]? =some fn) (iO:fn.body=some c) {vals:List AV} {s:St}
  (hc:(comp O.P (O.hint n) c 0 0).1=F.body->∀m S w a,cp O m S w (fp 0 vals) a.tmps->aZ O m S w [] 0->(O.hint n).n<=a.tmps.size->a.tmps.size=max fn.ntmps vals.length->O.w0.heap.size<=w.heap.size->a.defers=[]->
   c.wpIn (WF none) 0 O.P (eP O m S w ⟨fp 0 vals,[],0,0⟩ .ret s a.tmps.size w.heap.size) a w) {v r:AV} (hv:gh s F.dn=some v) (hr:result s.hp v=some r):eN O n vals r:=
 Pw (arP hO hF lf iO hc hv) hr
end
section
open Go
def Yj {ah:Nat->Nat} {m:Mp} {S:Nat->Prop} {w:yh} {b:Nat}:∀{ps:List (List Nat)} {o:Nat},bT ah m S w (ps.map .str) b o->
  ∃ts:List ByteArray,(ts.map fun t=>t.data.toList.map yW)=ps/\∀i (h:i<ts.length),w.cell? ⟨b,o+i,none⟩=some (.string ts[i])
 | [],o,_=>⟨[],rfl,fun i h=>absurd h (Nat.not_lt_zero i)⟩
 | p::ps,o,h=>by
  obtain ⟨⟨u,h1,h2⟩,h3⟩:=h;obtain ⟨t,rfl,ht⟩:=h2;obtain ⟨ts,k1,k2⟩:=Yj h3;refine ⟨t::ts,by rw [List.map_cons,ht,k1],fun i hi=>?_⟩
  cases i with
  | zero=>exact h1
  | succ i=>
   grind
def nN (ts:List ByteArray):List UInt8:=(ts.map fun t=>t.data.toList).flatten
def aph {ts:List ByteArray} {ps:List (List Nat)} (h:(ts.map fun t=>t.data.toList.map yW)=ps):(nN ts.reverse).map yW=ps.reverse.flatten:=by
 subst h;unfold nN;rw [List.map_flatten,ybd,<-uX];rfl
def api {ts:List ByteArray} {ps:List (List Nat)} (h:(ts.map fun t=>t.data.toList.map yW)=ps):(ts.map (·.size)).sum=ps.reverse.flatten.length:=by
 subst h;rw [List.length_flatten,uX,List.sum_reverse,ybd]
 congr 1
 simp_all
def Re (P:Program) (c:wI):Prop:=∀(Q:Exit->Act->yh->Prop) (a:Act) (w:yh) (neg:Bool) (ts:List ByteArray) (b o cc:Nat),a.tmps.size=69->a.tmps.getD 3 undef= .bool neg->a.tmps.getD 6 undef= .slice (some ⟨b,o,none⟩) ts.length cc->
  (∀i (h:i<ts.length),w.cell? ⟨b,o+i,none⟩=some (.string ts[i]))->(ts.map (·.size)).sum+1<=140737488355328->ts.length<=cc->ts.length<9223372036854775808->
  (∀a' w',Calm w w'->a'.tmps.size=69->a'.defers=a.defers->a'.tmps.getD 2 undef= .string ⟨((if neg then [45] else [])++nN ts.reverse).toArray⟩->Q .ret a' w')->
  (zm 5 c).wpIn Fence.wide 0 P Q a w
section
variable {O:bw}
def ai7 {n K:Nat} (h:n<18446744073709551616^K):(an n).length<=20*K+1:=by
 refine om (k:=20*K) (yH h ?_);have h1:(10:Nat)^(20*K)=(10^20)^K:=Nat.pow_mul ..;exact xi (by rw [h1];exact ue (by decide) K) (xn (by decide) (Nat.le_succ _))
def am3 (hO:eH O) (hN:Nu O.prog O.aU) (C2:O.aU.pure 138=some At) (zL:O.aU.pure 139=some AL) (FL:O.prog 99=some Dh) {fn:tn} {c:wI} (lf:O.P.funcs[O.ah 99]? =some fn) (iO:fn.body=some c) (Of:fn.ntmps=69)
  (Tz:NR 5 c) (ht:Re O.P c) {s z:Int} {e:Bool} {l:List Nat} (hn:cM s (.aE e l.length (l.map uc)) z) (lR:0<z.natAbs) (hK:l.length<=4000000000) (Pd:z.natAbs<18446744073709551616^l.length):
  eN O 99 [.agg [aa s,.aE e l.length (l.map uc)]] (.str (aW z)):=by
 have hlen:=ai7 Pd;obtain ⟨ps,dS,Pb,Ao,e1⟩:=ai6 (P:=O.prog) (L:=O.aU) hN C2 zL hn lR Pd hK (by omega)
 refine am2 hO FL lf iO (s:=⟨[(2,.str (aW z))],[(0,.cells true true false 1 (ps.map .str))],1,0⟩) (v:= .str (aW z)) ?_ rfl rfl;intro ato m S w a htr hh BG eQ hgs Dt;refine acZ hO 5 c 0 0 Tz _ _ (by rw [ato];exact e1) m S w a (fun l hl=>by cases hl) htr hh (yD _) BG hgs (yD _) ⟨[],by rw [Dt];rfl,by simp,by simp⟩ ?_
 rintro a' w' ⟨_,m',S',k1,k2,k3,k4,k5,k6,k7⟩;have r3:=k1 3;have r6:=k1 6;have g3:af [(3,AV.bool (decide (z<0))),(6,.ak 0 0 ps.length)] 3= .bool (decide (z<0)):=rfl;have g6:af [(3,AV.bool (decide (z<0))),(6,.ak 0 0 ps.length)] 6= .ak 0 0 ps.length:=rfl;rw [g3] at r3;rw [g6] at r6;simp only [aj] at r3 r6;obtain ⟨p,cc,hm,r6,hcc,_⟩:=r6;obtain ⟨p',arr,t,fV,_,_,_,_,_,C8,_⟩:=k2.obj 0 _ p rfl hm;rw [hm] at fV;cases fV;obtain ⟨ts,po,ri⟩:=Yj C8;have nd:ts.length=ps.length:=by rw [<-po,List.length_map]
 have Bq:=api po;rw [<-Ao] at Bq;have TA:=aph po;rw [<-Ao] at TA;refine ht _ a' w' (decide (z<0)) ts p.b p.o cc ?_ r3 (by rw [nd];exact r6) ri (by omega) (by omega) (by omega) ?_
 ·grind
 ·intro a2 w2 hc h1 h2 h3;have JN:=DO k2 hc (S':=S') (fun _ h=>h) (fun _ h=> .inl h) (fun b hb=>yH (k2.slt b hb) hc.size);refine ⟨rfl,m',S',?_,JN,rfl,Nat.zero_le _,k5.trans (Cc k2 hc (fun _ h=>h) (fun _ h=> .inl h)),?_,?_⟩
  ·intro i;by_cases hi:i=2
   ·subst hi;rw [h3];show aj O.ah m' S' w2 (.str (aW z)) _
    simp only [aj];refine ⟨_,rfl,?_⟩;by_cases h0:z<0
    ·rw [jL h0,yV h0];simp only [y7,xq];rw [TA];rfl
    ·obtain ⟨n,rfl⟩:∃n:Nat,z=n:=⟨z.toNat,by omega⟩;rw [yM h0];simp only [Bool.false_eq_true,yR,xS];rw [TA];rfl
   ·have:af [(2,AV.str (aW z))] i= .undef:=by
     have hb:yr 2 i=false:=by
      cases hq:yr 2 i with
      | false=>rfl
      | true=>exact absurd (Nat.eq_of_beq_eq_true hq).symm hi
     simp only [af,hb,yB]
    show aj O.ah m' S' w2 (af [(2,AV.str (aW z))] i) _
    rw [this];simp only [aj]
  ·rw [h1,eQ,Of];simp
  ·rw [h2]
   exact Az k2 (Cc (base:=0) k2 hc (fun _ h=>h) (fun _ h=> .inl h)) k7
end
end
end VE
