import Derived.Test.YtknmjihnfgolpaaGreatDoorTbo
import Derived.Test.YtknmjihnfgolpaaGreatDoorTao
import Derived.Test.YtknmjihnfgolpaaGreatDoorTbh
set_option linter.all false
set_option maxRecDepth 100000
open Nat (reduceAdd reduceEqDiff)
section
namespace VE
open Go (IntKind)
section
variable {P:zU} {L:Lib}
theorem zND (h:Nu P L) {v w:AV} {a b:Int} {K:Nat} (hv:IsN v a) (hw:IsN w b) (hb0:0<b) (ka:Bd K a) (kb:Bd K b) (hK:K≤30000000000):∃r,zF P L 148 [v,w] r∧IsN r (a/b):=by
 have e1:=zwa h hw;obtain ⟨q,r,e2,hq,hr⟩:=zPQ h hv hw hb0 ka kb hK;have e3:sgn b=1:=by unfold sgn;rw [if_neg (by omega),if_neg (by omega)]
 rw [e3] at e1;have hq':=hq;obtain ⟨s1,w1,rfl,h1⟩:=hv;obtain ⟨s2,w2,rfl,h2⟩:=hw;obtain ⟨s3,w3,rfl,h3⟩:=hq;obtain ⟨s4,w4,rfl,h4⟩:=hr;obtain ⟨l1,u1⟩:=h1.isU;obtain ⟨l2,u2⟩:=h2.isU;obtain ⟨l3,u3⟩:=h3.isU;obtain ⟨l4,u4⟩:=h4.isU;refine ⟨_,?_,hq'⟩;unfold zF at e1 e2;unfold zF;rw [zd h.h148];simp only [go_sem,reduceEqDiff,reduceAdd,zu9,Int.reduceLT,decide_false,zo,u1.pu,u1.frz,u1.one,u2.pu,u2.frz,u2.one,Nat.zero_add,zx,e1,e2,zbS,zL,zas,z9,List.drop_zero,zeo u3,zaU u3,zaU u4]
theorem zEH (h:Nu P L) (G:Nat) {K:Nat} (hK:K≤30000000000) {o1 o2:AV}:
  ∀k s,(∃(x y:Nat) (s1 s2:Int) (w1 w2:AV),zC [2,3,4] s=⟨[(2,.ptr 0 0),(3,.ptr 1 0),(4,.ptr 2 0)],[(2,.cells true true true 2 [o1,o2]),(1,.cells true true true 2 [zf s2,w2]),(0,.cells true true true 2 [zf s1,w1])],3,0⟩∧Nok s1 w1 x∧Nok s2 w2 y∧Bd K x∧Bd K y∧Nat.gcd x y=G∧y=k)→
   ∃ex s',D P L (.loop [2,3,4] ze4) s=some (ex,s')∧∃tm s1 w1 c1,s'=⟨tm,[(2,.cells true true true 2 [o1,o2]),(1,c1),(0,.cells true true true 2 [zf s1,w1])],3,0⟩∧ex= .exit 0∧zc tm 2= .ptr 0 0∧zc tm 4= .ptr 2 0∧Nok s1 w1 G:=by
 refine zT (I:=fun k s=>∃(x y:Nat) (s1 s2:Int) (w1 w2:AV),s=⟨[(2,.ptr 0 0),(3,.ptr 1 0),(4,.ptr 2 0)],[(2,.cells true true true 2 [o1,o2]),(1,.cells true true true 2 [zf s2,w2]),(0,.cells true true true 2 [zf s1,w1])],3,0⟩∧Nok s1 w1 x∧Nok s2 w2 y∧Bd K x∧Bd K y∧Nat.gcd x y=G∧y=k)
  (Q:=fun ex s'=>∃tm s1 w1 c1,s'=⟨tm,[(2,.cells true true true 2 [o1,o2]),(1,c1),(0,.cells true true true 2 [zf s1,w1])],3,0⟩∧ex= .exit 0∧zc tm 2= .ptr 0 0∧zc tm 4= .ptr 2 0∧Nok s1 w1 G) ?_
 rintro k s ⟨x,y,s1,s2,w1,w2,rfl,h1,h2,k1,k2,hG,rfl⟩;obtain ⟨l1,u1⟩:=h1.isU;obtain ⟨l2,u2⟩:=h2.isU;have i1:IsN (.agg [zf s1,w1]) (x:Int):=⟨s1,w1,rfl,h1⟩;have i2:IsN (.agg [zf s2,w2]) (y:Int):=⟨s2,w2,rfl,h2⟩;have e1:=zwa h i2;by_cases hy0:y=0
 ·right
  subst hy0;rw [show sgn ((0:Nat):Int)=0 from rfl] at e1;unfold zF at e1;simp only [go_sem,reduceEqDiff,ze4,decide_true,Bool.not_true,z9,zx,u2.frz,e1];obtain rfl:x=G:=by rw [←hG,Nat.gcd_zero_right]
  exact ⟨_,_,rfl,by simp,_,s1,w1,_,rfl,rfl,by simp only [go_sem,reduceEqDiff],by simp only [go_sem,reduceEqDiff],h1⟩
 ·left
  have e3:sgn (y:Int)=1:=by unfold sgn;rw [if_neg (by omega),if_neg (by omega)]
  rw [e3] at e1;obtain ⟨q,r,e2,hq,hr⟩:=zPQ h i1 i2 (by omega) k1 k2 hK;rw [show ((x:Int)%(y:Int))=((x%y:Nat):Int) from rfl] at hr;obtain ⟨s3,w3,rfl,h3⟩:=hq;obtain ⟨s4,w4,rfl,h4⟩:=hr;obtain ⟨l3,u3⟩:=h3.isU;obtain ⟨l4,u4⟩:=h4.isU;have hlt:=Nat.mod_lt x (show 0<y by omega);have kr:Bd K ((x%y:Nat):Int):=k2.le (by omega);unfold zF at e1 e2;simp only [go_sem,reduceEqDiff,reduceAdd,ze4,zo8,zpt,zmV,zjz,zpb,Bool.and_self,Int.reduceEq,decide_false,Bool.not_false,zo,z9,zx,u1.frz,u2.frz,e1,e2,zbS,z9,List.drop_zero,zaU u2,zaU u3,zaU u4];refine ⟨_,x%y,rfl,hlt,y,x%y,s2,s4,w2,w4,?_,h2,h4,k2,kr,by rw [←hG];exact zoq x y hy0,rfl⟩
  simp only [go_sem,reduceEqDiff,reduceAdd,za]
theorem zOh (h:Nu P L) {v w:AV} {a b:Int} {K:Nat} (hv:IsN v a) (hw:IsN w b) (ka:Bd K a) (kb:Bd K b) (hK:K≤30000000000):∃r,zF P L 130 [v,w] r∧IsN r (Int.gcd a b:Nat):=by
 obtain ⟨va,e1,ha⟩:=zN5 h hv ka (by omega);obtain ⟨vb,e2,hb⟩:=zN5 h hw kb (by omega);obtain ⟨s1,w1,rfl,h1⟩:=hv;obtain ⟨s2,w2,rfl,h2⟩:=hw;obtain ⟨s3,w3,rfl,h3⟩:=ha;obtain ⟨s4,w4,rfl,h4⟩:=hb;obtain ⟨l1,u1⟩:=h1.isU;obtain ⟨l2,u2⟩:=h2.isU;obtain ⟨l3,u3⟩:=h3.isU;obtain ⟨l4,u4⟩:=h4.isU;unfold zF at e1 e2;have goal:∃s w,zF P L 130 [.agg [zf s1,w1],.agg [zf s2,w2]] (.agg [zf s,w])∧Nok s w (Int.gcd a b:Nat):=by
  unfold zF;rw [zd h.h130];simp only [go_sem,reduceEqDiff,reduceAdd,zuA,zo,u1.pu,u1.frz,u1.one,u2.pu,u2.frz,u2.one,z9,zx,e1,e2,zD,z9,List.drop_zero,zaU u3,zaU u4,Nat.zero_add];generalize hq:D P L (.loop [2,3,4] ze4) _=q;obtain ⟨ex,s,rfl,tm,s5,w5,c1,rfl,rfl,t2,t4,h5⟩:=zae hq (zEH (P:=P) (L:=L) h (Int.gcd a b) (K:=K) hK (o1:= .int .i64 0) (o2:= .nils) b.natAbs) ⟨a.natAbs,b.natAbs,s3,s4,w3,w4,by simp only [go_sem,reduceEqDiff,reduceAdd,za],h3,h4,ka,kb,rfl,rfl⟩;obtain ⟨l5,u5⟩:=h5.isU;refine ⟨s5,w5,?_,h5⟩;simp only [go_sem,reduceEqDiff,reduceAdd,za,t2,t4,zL,zas,z9,List.drop_zero,zeo u5,zaU u5]
 obtain ⟨s,w,e,hn⟩:=goal;exact ⟨_,e,s,w,rfl,hn⟩
end
def IsQ (v:AV) (r:Rat):Prop:=∃s1 w1 s2 w2,v= .agg [zf s1,w1,zf s2,w2]∧Nok s1 w1 r.num∧Nok s2 w2 (r.den:Int)
def Hq (k:Nat) (r:Rat):Prop:=Bd k r.num∧Bd k (r.den:Int)
theorem zfk {a b:Int} (hb:0<b):(Rat.divInt a b).num=a/(Int.gcd a b:Nat)∧((Rat.divInt a b).den:Int)=b/(Int.gcd a b:Nat):=by
 constructor
 ·rw [Rat.num_divInt,Int.sign_eq_one_of_pos hb,Int.one_mul,Int.gcd_comm]
 ·rw [Rat.den_divInt,if_neg (by omega),Int.gcd_comm];rw [Int.natCast_ediv,show ((b.natAbs:Nat):Int)=b by omega]
theorem Hq.divInt {k:Nat} {a b:Int} (hb:0<b) (ka:Bd k a) (kb:Bd k b):Hq k (Rat.divInt a b):=by
 obtain ⟨h1,h2⟩:=zfk (a:=a) hb;have hp:=zhl (a:=a) hb;refine ⟨ka.le ?_,kb.le ?_⟩
 ·rw [h1,Int.natAbs_ediv_of_dvd (Int.gcd_dvd_left a b)];exact Nat.div_le_self _ _
 ·rw [h2,Int.natAbs_ediv_of_dvd (Int.gcd_dvd_right a b)];exact Nat.div_le_self _ _
section
theorem zf2 {tm:Env} {a b x y z w:AV} {r:List (Nat×Nat×X)} (h1:zag a=true) (h2:zag b=true):zgm tm [x,y,z,w] 0 2 [a,b] r=fill tm [a,b,z,w] r:=by
 rw [zrD (by rfl) (by simp) (by simp [zM,h1,h2])];rfl
theorem zfV {tm:Env} {a b x y z w:AV} {r:List (Nat×Nat×X)} (h1:zag a=true) (h2:zag b=true):zgm tm [x,y,z,w] 2 2 [a,b] r=fill tm [x,y,a,b] r:=by
 rw [zrD (by rfl) (by simp) (by simp [zM,h1,h2])];rfl
theorem zd0 {s t:Int} {v w:AV} {l m:List Nat} (hv:IsU v l) (hw:IsU w m) (hp:Hp) (ct id:Nat) (a b x y:AV):stC hp ct id 0 4 [.int .i64 s,v,.int .i64 t,w] (some (.cells true true true 4 [a,b,x,y]))=some (.tup [],zad hp id (.cells true true true 4 [.int .i64 s,v,.int .i64 t,w]),ct):=by
 rw [zn8 (by rfl) (by simp) (by simp [zM,hv.one,hw.one,zmx])];simp [zp,hv.pu,hw.pu,zck,zpP]
theorem zed {s t:Int} {v w:AV} {l m:List Nat} (hv:IsU v l) (hw:IsU w m) (hp:Hp):zaR hp (.agg [zf s,v,zf t,w])=some (.agg [zf s,v,zf t,w]):=by
 rcases hv with ⟨rfl,_⟩ | ⟨e,rfl⟩<;>rcases hw with ⟨rfl,_⟩ | ⟨e',rfl⟩<;>rfl
variable {P:zU} {L:Lib}
structure Fr' (P:zU) (L:Lib):Prop extends Nu P L where
 h101:Has P L 101 c101
 h69:Has P L 69 c69
 h111:Has P L 111 zMv
 h98:Has P L 98 c98
 h108:Has P L 108 zNA
 h102:Has P L 102 zJT
 h74:Has P L 74 c74
 h50:Has P L 50 c50
 h49:Has P L 49 c49
 h73:Has P L 73 c73
 h70:Has P L 70 c70
 h71:Has P L 71 c71
 h149:Has P L 149 zPB
theorem zw5 (h:Fr' P L) {s1 s2:Int} {w1 w2:AV} {a b:Int} {K:Nat} (h1:Nok s1 w1 a) (h2:Nok s2 w2 b) (hb0:0<b) (ka:Bd K a) (kb:Bd K b) (hK:K≤30000000000):
  ∃r,IsQ r (Rat.divInt a b)∧∀tm,zc tm 2= .ptr 0 0→zc tm 3= .ptr 1 0→zc tm 4= .ptr 2 0→zdE [.cell 4 4 true] (D P L (zu (zu c101.body)) ⟨tm,[(2,.cells true true true 4 [.int .i64 0,.nils,.int .i64 0,.nils]),(1,.cells true true true 2 [zf s2,w2]),(0,.cells true true true 2 [zf s1,w1])],3,0⟩)=some r:=by
 have hv:IsN (.agg [zf s1,w1]) a:=⟨s1,w1,rfl,h1⟩;have hw:IsN (.agg [zf s2,w2]) b:=⟨s2,w2,rfl,h2⟩;obtain ⟨p1,p2⟩:=zfk (a:=a) hb0;have hgp:=zhl (a:=a) hb0;have hgk:Bd K ((Int.gcd a b:Nat):Int):=kb.le (by
  have:=Int.gcd_le_natAbs_right a (show b≠0 by omega)
  omega)
 obtain ⟨g,e2,hg⟩:=zOh h.toNu hv hw ka kb hK;obtain ⟨q1,e4,hq1⟩:=zND h.toNu hv hg hgp ka hgk hK;obtain ⟨q2,e5,hq2⟩:=zND h.toNu hw hg hgp kb hgk hK;rw [←p1] at hq1;rw [←p2] at hq2;obtain ⟨s3,w3,rfl,h3⟩:=hg;obtain ⟨s4,w4,rfl,h4⟩:=hq1;obtain ⟨s5,w5,rfl,h5⟩:=hq2;obtain ⟨l1,u1⟩:=h1.isU;obtain ⟨l2,u2⟩:=h2.isU;obtain ⟨l3,u3⟩:=h3.isU;obtain ⟨l4,u4⟩:=h4.isU;obtain ⟨l5,u5⟩:=h5.isU;unfold zF at e2 e4 e5;by_cases hone:w2= .nils∧s2=1
 ·obtain ⟨rfl,rfl⟩:=hone;have hb1:b=1:=by
   rcases h2 with ⟨_,h,_⟩ | ⟨_,_,h,_⟩
   ·exact h.symm
   ·cases h
  subst hb1;rw [Int.gcd_one] at p1 p2;have p1:(Rat.divInt a 1).num=a:=by rw [p1];exact Int.ediv_one a
  have p2:((Rat.divInt a 1).den:Int)=1:=by rw [p2];rfl
  refine ⟨.agg [zf s1,w1,zf 1,.nils],⟨s1,w1,1,.nils,rfl,by rw [p1];exact h1,by rw [p2];exact h2⟩,fun tm t2 t3 t4=>?_⟩
  have un:=zcM;simp only [go_sem,reduceEqDiff,c101,zu,t2,t3,t4,u1.one,z9,zE,Nat.zero_add,zau,zbX,zam,zf2,zfV,zd0 u1 un,zL,zas,List.drop_zero,zb0,zed u1 un]
 ·refine ⟨.agg [zf s4,w4,zf s5,w5],⟨s4,w4,s5,w5,rfl,h4,h5⟩,fun tm t2 t3 t4=>?_⟩;rcases u2 with ⟨rfl,_⟩ | ⟨e,rfl⟩
  ·simp only [go_sem,reduceEqDiff,reduceAdd,c101,zu,t2,t3,t4,zo,u1.frz,z9,zx,zE,Nat.zero_add,zau,zbX,zam,show ¬s2=1 from fun e=>hone ⟨rfl,e⟩,e2,e4,e5,zD,zL,zas,z9,List.drop_zero,zaU u3,u3.frz,u4.one,u5.one,zf2,zfV,zd0 u4 u5,zb0,zed u4 u5]
  ·simp only [go_sem,reduceEqDiff,reduceAdd,c101,zu,t2,t3,t4,zo,u1.frz,z9,zx,zE,Nat.zero_add,zau,zc8,zam,e2,e4,e5,zD,zL,zas,z9,List.drop_zero,zaU u3,u3.frz,u4.one,u5.one,zf2,zfV,zd0 u4 u5,zb0,zed u4 u5]
theorem zKt (h:Fr' P L) {v w:AV} {a b:Int} {K:Nat} (hv:IsN v a) (hw:IsN w b) (hb0:b≠0) (ka:Bd K a) (kb:Bd K b) (hK:K≤30000000000):∃r,zF P L 101 [v,w] r∧IsQ r (Rat.divInt a b):=by
 have e1:=zwa h.toNu hw;have hv':=hv;have hw':=hw;obtain ⟨s1,w1,rfl,h1⟩:=hv;obtain ⟨s2,w2,rfl,h2⟩:=hw;obtain ⟨l1,u1⟩:=h1.isU;obtain ⟨l2,u2⟩:=h2.isU;unfold zF at e1;have fin:∀r t1 t2 v1 v2 tm,(∀tm,zc tm 2= .ptr 0 0→zc tm 3= .ptr 1 0→zc tm 4= .ptr 2 0→zdE [.cell 4 4 true] (D P L (zu (zu c101.body)) ⟨tm,[(2,.cells true true true 4 [.int .i64 0,.nils,.int .i64 0,.nils]),(1,.cells true true true 2 [zf t2,v2]),(0,.cells true true true 2 [zf t1,v1])],3,0⟩)=some r)→zc tm 2= .ptr 0 0→zc tm 3= .ptr 1 0→zc tm 4= .ptr 2 0→
   D P L (.seq (zar c101.body) (zar (zu c101.body))) ⟨[(0,.agg [zf s1,w1]),(1,.agg [zf s2,w2])],[],0,0⟩=some (.normal,⟨tm,[(2,.cells true true true 4 [.int .i64 0,.nils,.int .i64 0,.nils]),(1,.cells true true true 2 [zf t2,v2]),(0,.cells true true true 2 [zf t1,v1])],3,0⟩)→zF P L 101 [.agg [zf s1,w1],.agg [zf s2,w2]] r:=fun r t1 t2 v1 v2 tm tail k2 k3 k4 e=>by
  unfold zF;rw [zd h.h101];show zdE [.cell 4 4 true] (D P L (.seq (zar c101.body) (.seq (zar (zu c101.body)) (zu (zu c101.body)))) ⟨[(0,.agg [zf s1,w1]),(1,.agg [zf s2,w2])],[],0,0⟩)=_
  rw [zdX,e,zaL];exact tail tm k2 k3 k4
 by_cases hn:b<0
 ·obtain ⟨n1,e2,hn1⟩:=zvd h.toNu hv' ka (by omega);obtain ⟨n2,e3,hn2⟩:=zvd h.toNu hw' kb (by omega);obtain ⟨s3,w3,rfl,h3⟩:=hn1;obtain ⟨s4,w4,rfl,h4⟩:=hn2;obtain ⟨l3,u3⟩:=h3.isU;obtain ⟨l4,u4⟩:=h4.isU;obtain ⟨r,hr,tail⟩:=zw5 h h3 h4 (by omega) ka.neg kb.neg hK;rw [Rat.neg_divInt_neg] at hr;have hs:sgn b<0:=by unfold sgn;rw [if_pos hn];decide
  unfold zF at e2 e3;refine ⟨r,fin r _ _ _ _ _ tail ?_ ?_ ?_ (by simp only [go_sem,reduceEqDiff,reduceAdd,c101,zar,zu,hs,zo,u1.pu,u1.frz,u1.one,u2.pu,u2.frz,u2.one,z9,zx,e1,e2,e3,zD,zaU u3,zaU u4]<;>rfl),hr⟩<;>simp only [go_sem,reduceEqDiff]
 ·obtain ⟨r,hr,tail⟩:=zw5 h h1 h2 (by omega) ka kb hK;have hs:¬sgn b<0:=by unfold sgn;rw [if_neg hn];split<;>decide
  refine ⟨r,fin r _ _ _ _ _ tail ?_ ?_ ?_ (by simp only [go_sem,reduceEqDiff,reduceAdd,c101,zar,zu,hs,zo,u1.pu,u1.one,u2.pu,u2.frz,u2.one,z9,zx,e1]<;>rfl),hr⟩<;>simp only [go_sem,reduceEqDiff]
end
end VE
end
section
namespace VE
open Go (IntKind)
theorem Hq.mono {k m:Nat} {r:Rat} (h:Hq k r) (hk:k≤m):Hq m r:=⟨h.1.mono hk,h.2.mono hk⟩
theorem Hq.neg {k:Nat} {r:Rat} (h:Hq k r):Hq k (-r):=⟨h.1.neg,h.2⟩
theorem zms (a b:Rat):a+b=Rat.divInt (a.num*b.den+b.num*a.den) ((a.den:Int)*b.den):=by
 rw [Rat.add_def',←Rat.divInt_ofNat,Int.natCast_mul]
theorem zmF (a b:Rat):a*b=Rat.divInt (a.num*b.num) ((a.den:Int)*b.den):=by
 rw [Rat.mul_def',←Rat.divInt_ofNat,Int.natCast_mul]
theorem zoH (a:Rat):0<(a.den:Int):=by have:=a.den_pos;omega
theorem zcD (a b:Rat):0<(a.den:Int)*b.den:=Int.mul_pos (zoH a) (zoH b)
theorem Bd.add2 {k:Nat} {a b:Int} (ha:Bd k a) (hb:Bd k b):Bd (k+1) (a+b):=by
 have:=ha.add hb
 rwa [Nat.max_self] at this
theorem Hq.add {k m:Nat} {a b:Rat} (ha:Hq k a) (hb:Hq m b):Hq (k+m+1) (a+b):=by
 rw [zms];refine Hq.divInt (zcD a b) ?_ ((ha.2.mul hb.2).mono (by omega));exact (ha.1.mul hb.2).add2 ((hb.1.mul ha.2).mono (by omega))
theorem Hq.mul {k m:Nat} {a b:Rat} (ha:Hq k a) (hb:Hq m b):Hq (k+m) (a*b):=by
 rw [zmF];exact Hq.divInt (zcD a b) (ha.1.mul hb.1) (ha.2.mul hb.2)
theorem Hq.sub {k m:Nat} {a b:Rat} (ha:Hq k a) (hb:Hq m b):Hq (k+m+1) (a-b):=by
 rw [Rat.sub_eq_add_neg];exact ha.add hb.neg
theorem Hq.inv {k:Nat} {a:Rat} (ha:Hq k a):Hq k a⁻¹:=by
 have h1:(a⁻¹).num.natAbs≤a.den:=by
  rw [Rat.num_inv,Int.natAbs_mul]
  have:a.num.sign.natAbs≤1:=by
   rcases Int.lt_trichotomy a.num 0 with h | h | h
   ·rw [Int.sign_eq_neg_one_of_neg h];decide
   ·rw [h];decide
   ·rw [Int.sign_eq_one_of_pos h];decide
  have:=Nat.mul_le_mul_right a.den this
  simpa using this
 refine ⟨ha.2.le (by simpa using h1),?_⟩;unfold Bd;rw [Rat.den_inv]
 split
 ·have h2:=ha.2;unfold Bd at h2
  have:=a.den_pos
  have:(((a.den:Nat):Int)).natAbs=a.den:=by omega
  show (((1:Nat):Int)).natAbs<2^k
  rw [show (((1:Nat):Int)).natAbs=1 from rfl];omega
 ·exact ha.1
theorem Hq.div {k m:Nat} {a b:Rat} (ha:Hq k a) (hb:Hq m b):Hq (k+m) (a/b):=by
 rw [Rat.div_def];exact ha.mul hb.inv
def zoA (a b:Rat):Int:=if a<b then -1 else if a=b then 0 else 1
theorem zBx (a b:Rat):sgn (a.num*b.den-b.num*a.den)=zoA a b:=by
 unfold sgn zoA;by_cases h:a<b
 ·rw [if_pos h]
  have:=(Rat.lt_iff a b).1 h
  rw [if_pos (by omega)]
 ·rw [if_neg h];have h1:¬a.num*b.den<b.num*a.den:=fun e=>h ((Rat.lt_iff a b).2 e)
  rw [if_neg (by omega)];by_cases h2:a=b
  ·rw [if_pos h2,if_pos (by have:=Rat.eq_iff_mul_eq_mul.1 h2;omega)]
  ·rw [if_neg h2,if_neg (by have:¬a.num*b.den=b.num*a.den:=fun e=>h2 (Rat.eq_iff_mul_eq_mul.2 e);omega)]
theorem zmt (a:Rat) (h:a.den=1):a=(a.num:Rat):=by
 have:=Rat.num_divInt_den a
 rw [h] at this;rw [←this];exact (Rat.ext (by simp [Rat.num_divInt]) (by simp [Rat.den_divInt]))
theorem zkU (a b c d:AV) (r:List AV):ld1 2 true (List.drop 2 (a::b::c::d::r))=some (.agg [c,d]):=rfl
theorem zhJ (a b:AV) (r:List AV):ld1 2 true (a::b::r)=some (.agg [a,b]):=rfl
section
variable {P:zU} {L:Lib}
theorem zOM (h:Fr' P L) {v:AV} {z:Int} (hv:IsN v z):∃r,zF P L 111 [v] r∧IsQ r (z:Rat):=by
 obtain ⟨o1,o2⟩:=ztS h.toNu (z:=1) (by decide) (by decide);obtain ⟨s1,w1,rfl,h1⟩:=hv;obtain ⟨l1,u1⟩:=h1.isU;have un:=zcM;refine ⟨.agg [zf s1,w1,zf 1,.nils],?_,s1,w1,1,.nils,rfl,h1,.inl ⟨rfl,rfl,(by show (-9223372036854775808:Int)≤1;decide),(by show (1:Int)<9223372036854775808;decide)⟩⟩
 unfold zF at o1;unfold zF;rw [zd h.h111];simp only [go_sem,reduceEqDiff,reduceAdd,zMv,zo,u1.pu,u1.one,z9,o1,zD,zf2,zfV,zd0 u1 un,zL,zas,List.drop_zero,zb0,zed u1 un]
theorem m98 (h:Fr' P L) {v:AV} {a:Rat} (hv:IsQ v a):zF P L 98 [v] (.bool (decide (a.den=1))):=by
 obtain ⟨s1,w1,s2,w2,rfl,h1,h2⟩:=hv;obtain ⟨l1,u1⟩:=h1.isU;unfold zF;rw [zd h.h98];rcases h2 with ⟨rfl,rfl,b1,b2⟩ | ⟨e,l,rfl,gb,nb,vb,sb,b1⟩
 ·have e:decide (((a.den:Nat):Int)=1)=decide (a.den=1):=by simp;omega
  simp only [go_sem,reduceEqDiff,reduceAdd,c98,zo,u1.pu,u1.one,zE,Nat.zero_add,zOS,zEk,zbX,zam,e]
 ·have e:decide (a.den=1)=false:=decide_eq_false (by omega);rw [e];simp only [go_sem,reduceEqDiff,reduceAdd,c98,zo,u1.pu,u1.one,zE,Nat.zero_add,zEk,zc8,zam]
theorem zQT (h:Fr' P L) {v:AV} {a:Rat} {K:Nat} (hv:IsQ v a) (ka:Hq K a) (hK:K≤30000000000):∃r,zF P L 102 [v] r∧IsQ r (-a):=by
 obtain ⟨s1,w1,s2,w2,rfl,h1,h2⟩:=hv;obtain ⟨l1,u1⟩:=h1.isU;obtain ⟨l2,u2⟩:=h2.isU;obtain ⟨n,e1,hn⟩:=zvd h.toNu ⟨s1,w1,rfl,h1⟩ ka.1 (by omega);obtain ⟨s3,w3,rfl,h3⟩:=hn;obtain ⟨l3,u3⟩:=h3.isU;refine ⟨.agg [zf s3,w3,zf s2,w2],?_,s3,w3,s2,w2,rfl,h3,h2⟩;unfold zF at e1;unfold zF;rw [zd h.h102];simp only [go_sem,reduceEqDiff,reduceAdd,zJT,zo,u1.pu,u1.frz,u1.one,u2.pu,u2.one,u3.one,zE,Nat.zero_add,zhJ,zkU,zx,e1,zD,zf2,zfV,zd0 u3 u2,zL,zas,List.drop_zero,zb0,zed u3 u2]
theorem m74 (h:Fr' P L) {v w:AV} {a b:Rat} {K:Nat} (hv:IsQ v a) (hw:IsQ w b) (ka:Hq K a) (kb:Hq K b) (hK:K≤10000000000):∃r,zF P L 74 [v,w] r∧IsQ r (a+b):=by
 have i1:=m98 h hv;have i2:=m98 h hw;obtain ⟨s1,w1,s2,w2,rfl,h1,h2⟩:=hv;obtain ⟨s3,w3,s4,w4,rfl,h3,h4⟩:=hw;obtain ⟨l1,u1⟩:=h1.isU;obtain ⟨l2,u2⟩:=h2.isU;obtain ⟨l3,u3⟩:=h3.isU;obtain ⟨l4,u4⟩:=h4.isU;have n1:IsN (.agg [zf s1,w1]) a.num:=⟨s1,w1,rfl,h1⟩;have n2:IsN (.agg [zf s2,w2]) a.den:=⟨s2,w2,rfl,h2⟩;have n3:IsN (.agg [zf s3,w3]) b.num:=⟨s3,w3,rfl,h3⟩;have n4:IsN (.agg [zf s4,w4]) b.den:=⟨s4,w4,rfl,h4⟩;by_cases hw1:a.den=1∧b.den=1
 ·obtain ⟨d1,d2⟩:=hw1;obtain ⟨p,e1,hp⟩:=zzz h.toNu n1 n3 ka.1 kb.1 (by omega);obtain ⟨r,e2,hr⟩:=zOM h hp;have he:((a.num+b.num:Int):Rat)=a+b:=by
   rw [Rat.intCast_add,←zmt a d1,←zmt b d2]
  rw [he] at hr;have hr':=hr;obtain ⟨s5,w5,rfl,h5⟩:=hp;obtain ⟨s6,w6,s7,w7,rfl,h6,h7⟩:=hr;obtain ⟨l5,u5⟩:=h5.isU;obtain ⟨l6,u6⟩:=h6.isU;obtain ⟨l7,u7⟩:=h7.isU;refine ⟨_,?_,hr'⟩;rw [d1] at i1;rw [d2] at i2;unfold zF at e1 e2 i1 i2;unfold zF;rw [zd h.h74];simp only [go_sem,reduceEqDiff,reduceAdd,c74,zo,u1.pu,u1.frz,u1.one,u2.pu,u2.frz,u2.one,u3.pu,u3.frz,u3.one,u4.pu,u4.frz,u4.one,zE,Nat.zero_add,zb0,zhJ,zx,i1,i2,e1,u5.frz,e2,zD,zd0 u6 u7,zL,zas,List.drop_zero,zb0,zed u6 u7]
 ·obtain ⟨p1,e1,hp1⟩:=zlk h.toNu n1 n4 ka.1 kb.2 (by omega);obtain ⟨p2,e2,hp2⟩:=zlk h.toNu n3 n2 kb.1 ka.2 (by omega);obtain ⟨p3,e3,hp3⟩:=zzz h.toNu hp1 hp2 (ka.1.mul kb.2) (kb.1.mul ka.2) (by omega);obtain ⟨p4,e4,hp4⟩:=zlk h.toNu n2 n4 ka.2 kb.2 (by omega);obtain ⟨r,e5,hr⟩:=zKt h hp3 hp4 (by have:=zcD a b;omega) ((ka.1.mul kb.2).add2 (kb.1.mul ka.2)) ((ka.2.mul kb.2).mono (by omega)) (by omega);rw [←zms] at hr;have hr':=hr;obtain ⟨s5,w5,rfl,h5⟩:=hp1;obtain ⟨s6,w6,rfl,h6⟩:=hp2;obtain ⟨s7,w7,rfl,h7⟩:=hp3;obtain ⟨s8,w8,rfl,h8⟩:=hp4;obtain ⟨s9,w9,s10,w10,rfl,h9,h10⟩:=hr;obtain ⟨l5,u5⟩:=h5.isU;obtain ⟨l6,u6⟩:=h6.isU;obtain ⟨l7,u7⟩:=h7.isU;obtain ⟨l8,u8⟩:=h8.isU;obtain ⟨l9,u9⟩:=h9.isU;obtain ⟨l10,u10⟩:=h10.isU;refine ⟨_,?_,hr'⟩;unfold zF at e1 e2 e3 e4 e5 i1 i2;unfold zF;rw [zd h.h74];by_cases d1:a.den=1
  ·rw [d1] at i1;rw [decide_eq_false (fun d2=>hw1 ⟨d1,d2⟩)] at i2;simp only [go_sem,reduceEqDiff,reduceAdd,c74,zo,u1.pu,u1.frz,u1.one,u2.pu,u2.frz,u2.one,u3.pu,u3.frz,u3.one,u4.pu,u4.frz,u4.one,zE,Nat.zero_add,zb0,zhJ,zkU,zx,i1,i2,e1,e2,u5.frz,u6.frz,e3,e4,u7.frz,u8.frz,e5,zD,zd0 u9 u10,zL,zas,List.drop_zero,zb0,zed u9 u10]
  ·rw [decide_eq_false d1] at i1;simp only [go_sem,reduceEqDiff,reduceAdd,c74,zo,u1.pu,u1.frz,u1.one,u2.pu,u2.frz,u2.one,u3.pu,u3.frz,u3.one,u4.pu,u4.frz,u4.one,zE,Nat.zero_add,zb0,zhJ,zkU,zx,i1,e1,e2,u5.frz,u6.frz,e3,e4,u7.frz,u8.frz,e5,zD,zd0 u9 u10,zL,zas,List.drop_zero,zb0,zed u9 u10]
theorem m50 (h:Fr' P L) {v w:AV} {a b:Rat} {K:Nat} (hv:IsQ v a) (hw:IsQ w b) (ka:Hq K a) (kb:Hq K b) (hK:K≤10000000000):∃r,zF P L 50 [v,w] r∧IsQ r (a-b):=by
 obtain ⟨n,e1,hn⟩:=zQT h hw kb (by omega);obtain ⟨r,e2,hr⟩:=m74 h hv hn ka kb.neg hK;rw [←Rat.sub_eq_add_neg] at hr;have hr':=hr;obtain ⟨s1,w1,s2,w2,rfl,h1,h2⟩:=hv;obtain ⟨s3,w3,s4,w4,rfl,h3,h4⟩:=hw;obtain ⟨s5,w5,s6,w6,rfl,h5,h6⟩:=hn;obtain ⟨s7,w7,s8,w8,rfl,h7,h8⟩:=hr;obtain ⟨l1,u1⟩:=h1.isU;obtain ⟨l2,u2⟩:=h2.isU;obtain ⟨l3,u3⟩:=h3.isU;obtain ⟨l4,u4⟩:=h4.isU;obtain ⟨l5,u5⟩:=h5.isU;obtain ⟨l6,u6⟩:=h6.isU;obtain ⟨l7,u7⟩:=h7.isU;obtain ⟨l8,u8⟩:=h8.isU;refine ⟨_,?_,hr'⟩;unfold zF at e1 e2;unfold zF;rw [zd h.h50];simp only [go_sem,reduceEqDiff,reduceAdd,c50,zo,u1.pu,u1.frz,u1.one,u2.pu,u2.frz,u2.one,u3.pu,u3.frz,u3.one,u4.pu,u4.frz,u4.one,u5.frz,u6.frz,zb0,zx,e1,e2,zD,zd0 u7 u8,zL,zas,List.drop_zero,zb0,zed u7 u8]
theorem m49 (h:Fr' P L) {v w:AV} {a b:Rat} {K:Nat} (hv:IsQ v a) (hw:IsQ w b) (ka:Hq K a) (kb:Hq K b) (hK:K≤10000000000):∃r,zF P L 49 [v,w] r∧IsQ r (a*b):=by
 obtain ⟨s1,w1,s2,w2,rfl,h1,h2⟩:=hv;obtain ⟨s3,w3,s4,w4,rfl,h3,h4⟩:=hw;obtain ⟨l1,u1⟩:=h1.isU;obtain ⟨l2,u2⟩:=h2.isU;obtain ⟨l3,u3⟩:=h3.isU;obtain ⟨l4,u4⟩:=h4.isU;obtain ⟨p1,e1,hp1⟩:=zlk h.toNu (v:= .agg [zf s1,w1]) (w:= .agg [zf s3,w3]) ⟨s1,w1,rfl,h1⟩ ⟨s3,w3,rfl,h3⟩ ka.1 kb.1 (by omega);obtain ⟨p2,e2,hp2⟩:=zlk h.toNu (v:= .agg [zf s2,w2]) (w:= .agg [zf s4,w4]) ⟨s2,w2,rfl,h2⟩ ⟨s4,w4,rfl,h4⟩ ka.2 kb.2 (by omega);obtain ⟨r,e3,hr⟩:=zKt h hp1 hp2 (by have:=zcD a b;omega) (ka.1.mul kb.1) (ka.2.mul kb.2) (by omega);rw [←zmF] at hr;have hr':=hr;obtain ⟨s5,w5,rfl,h5⟩:=hp1;obtain ⟨s6,w6,rfl,h6⟩:=hp2;obtain ⟨s7,w7,s8,w8,rfl,h7,h8⟩:=hr;obtain ⟨l5,u5⟩:=h5.isU;obtain ⟨l6,u6⟩:=h6.isU;obtain ⟨l7,u7⟩:=h7.isU;obtain ⟨l8,u8⟩:=h8.isU;refine ⟨_,?_,hr'⟩;unfold zF at e1 e2 e3;unfold zF;rw [zd h.h49]
 simp only [go_sem,reduceEqDiff,reduceAdd,c49,zo,u1.pu,u1.frz,u1.one,u2.pu,u2.frz,u2.one,u3.pu,u3.frz,u3.one,u4.pu,u4.frz,u4.one,u5.frz,u6.frz,zE,Nat.zero_add,zhJ,zkU,zx,e1,e2,e3,zD,zd0 u7 u8,zL,zas,List.drop_zero,zb0,zed u7 u8]
theorem m73 (h:Fr' P L) {v:AV} {a:Rat} {K:Nat} (hv:IsQ v a) (h0:a≠0) (ka:Hq K a) (hK:K≤10000000000):∃r,zF P L 73 [v] r∧IsQ r a⁻¹:=by
 obtain ⟨s1,w1,s2,w2,rfl,h1,h2⟩:=hv;obtain ⟨l1,u1⟩:=h1.isU;obtain ⟨l2,u2⟩:=h2.isU;obtain ⟨r,e1,hr⟩:=zKt h (v:= .agg [zf s2,w2]) (w:= .agg [zf s1,w1]) ⟨s2,w2,rfl,h2⟩ ⟨s1,w1,rfl,h1⟩ (fun e=>h0 (Rat.num_eq_zero.1 e)) ka.2 ka.1 (by omega);rw [←Rat.inv_def] at hr;have hr':=hr;obtain ⟨s7,w7,s8,w8,rfl,h7,h8⟩:=hr;obtain ⟨l7,u7⟩:=h7.isU;obtain ⟨l8,u8⟩:=h8.isU;refine ⟨_,?_,hr'⟩;unfold zF at e1;unfold zF;rw [zd h.h73];simp only [go_sem,reduceEqDiff,reduceAdd,c73,zo,u1.pu,u1.frz,u1.one,u2.pu,u2.frz,u2.one,zE,Nat.zero_add,zhJ,zkU,zx,e1,zD,zd0 u7 u8,zL,zas,List.drop_zero,zb0,zed u7 u8]
theorem m70 (h:Fr' P L) {v w:AV} {a b:Rat} {K:Nat} (hv:IsQ v a) (hw:IsQ w b) (h0:b≠0) (ka:Hq K a) (kb:Hq K b) (hK:K≤10000000000):∃r,zF P L 70 [v,w] r∧IsQ r (a/b):=by
 obtain ⟨n,e1,hn⟩:=m73 h hw h0 kb hK;obtain ⟨r,e2,hr⟩:=m49 h hv hn ka kb.inv hK;rw [←Rat.div_def] at hr;have hr':=hr;obtain ⟨s1,w1,s2,w2,rfl,h1,h2⟩:=hv;obtain ⟨s3,w3,s4,w4,rfl,h3,h4⟩:=hw;obtain ⟨s5,w5,s6,w6,rfl,h5,h6⟩:=hn;obtain ⟨s7,w7,s8,w8,rfl,h7,h8⟩:=hr;obtain ⟨l1,u1⟩:=h1.isU;obtain ⟨l2,u2⟩:=h2.isU;obtain ⟨l3,u3⟩:=h3.isU;obtain ⟨l4,u4⟩:=h4.isU;obtain ⟨l5,u5⟩:=h5.isU;obtain ⟨l6,u6⟩:=h6.isU;obtain ⟨l7,u7⟩:=h7.isU;obtain ⟨l8,u8⟩:=h8.isU;refine ⟨_,?_,hr'⟩;unfold zF at e1 e2;unfold zF;rw [zd h.h70];simp only [go_sem,reduceEqDiff,reduceAdd,c70,zo,u1.pu,u1.frz,u1.one,u2.pu,u2.frz,u2.one,u3.pu,u3.frz,u3.one,u4.pu,u4.frz,u4.one,u5.frz,u6.frz,zb0,zx,e1,e2,zD,zd0 u7 u8,zL,zas,List.drop_zero,zb0,zed u7 u8]
theorem m71 (h:Fr' P L) {v w:AV} {a b:Rat} {K:Nat} (hv:IsQ v a) (hw:IsQ w b) (ka:Hq K a) (kb:Hq K b) (hK:K≤10000000000):zF P L 71 [v,w] (zf (zoA a b)):=by
 obtain ⟨s1,w1,s2,w2,rfl,h1,h2⟩:=hv;obtain ⟨s3,w3,s4,w4,rfl,h3,h4⟩:=hw;obtain ⟨l1,u1⟩:=h1.isU;obtain ⟨l2,u2⟩:=h2.isU;obtain ⟨l3,u3⟩:=h3.isU;obtain ⟨l4,u4⟩:=h4.isU;obtain ⟨p1,e1,hp1⟩:=zlk h.toNu (v:= .agg [zf s1,w1]) (w:= .agg [zf s4,w4]) ⟨s1,w1,rfl,h1⟩ ⟨s4,w4,rfl,h4⟩ ka.1 kb.2 (by omega);obtain ⟨p2,e2,hp2⟩:=zlk h.toNu (v:= .agg [zf s3,w3]) (w:= .agg [zf s2,w2]) ⟨s3,w3,rfl,h3⟩ ⟨s2,w2,rfl,h2⟩ kb.1 ka.2 (by omega);have e3:=zOG h.toNu hp1 hp2 (ka.1.mul kb.2) (kb.1.mul ka.2) (by omega);rw [zBx] at e3;obtain ⟨s5,w5,rfl,h5⟩:=hp1;obtain ⟨s6,w6,rfl,h6⟩:=hp2;obtain ⟨l5,u5⟩:=h5.isU;obtain ⟨l6,u6⟩:=h6.isU;unfold zF at e1 e2 e3;unfold zF;rw [zd h.h71];simp only [go_sem,reduceEqDiff,reduceAdd,c71,zo,u1.pu,u1.frz,u1.one,u2.pu,u2.frz,u2.one,u3.pu,u3.frz,u3.one,u4.pu,u4.frz,u4.one,u5.frz,u6.frz,zE,Nat.zero_add,zhJ,zkU,zx,e1,e2,e3,zD]
end
end VE
end
section
namespace VE
open Go (IntKind)
def zeu:List AV→Option (List Nat)
 | []=>some []
 | .int .u64 (.ofNat d)::r=>bif Nat.blt d 18446744073709551616 then (match zeu r with | some l=>some (d::l) | none=>none) else none
 | _::_=>none
def zli:List Nat→Nat
 | []=>0
 | a::r=>a+18446744073709551616*zli r
def ziA:List Nat→Bool
 | []=>false
 | [a]=> !Nat.beq a 0
 | _::r=>ziA r
def zjc:List AV→Option AV
 | [.agg [.int .i64 s,.nils]]=>bif ziV s then some (.str (zW s)) else none
 | [.agg [.int .i64 s,.vsl _ n cs]]=>
  match zeu cs with
  | some l=>
   bif Nat.beq l.length n&&(Nat.ble n 4000000000&&(ziA l&&Nat.ble 9223372036854775808 (zli l))) then
    match s with
    | .ofNat 1=>some (.str (zn (zli l)))
    | .negSucc 0=>some (.str (45::zn (zli l)))
    | _=>none
   else none
  | none=>none
 | _=>none
end VE
end
section
namespace VE
open Go (IntKind)
theorem zkd:∀{l:List Nat},lo 18446744073709551616 l→zeu (l.map uc)=some l
 | [],_=>rfl
 | a::l,h=>by
  have h1:=h a (by simp);have h2:=zkd (l:=l) (fun x hx=>h x (by simp [hx]));show (bif Nat.blt a 18446744073709551616 then (match zeu (l.map uc) with | some l=>some (a::l) | none=>none) else none)=_
  rw [zdo h1,h2];rfl
theorem zmL:∀l:List Nat,zli l=bv 18446744073709551616 l
 | []=>rfl
 | a::l=>by simp only [zli,bv,zmL l]
theorem zoN:∀{l:List Nat},l≠[]→nzN l→ziA l=true
 | [],h,_=>absurd rfl h
 | [a],_,h=>by
  have:a≠0:=fun e=>by
   subst e;have h:zaP [0]=[0]:=h;simp [zaP] at h
  simp [ziA,zaQ this]
 | a::b::r,_,h=>by
  have h1:nzN (b::r):=by
   have h:zaP (a::b::r)=a::b::r:=h;show zaP (b::r)=b::r
   rw [zaP] at h
   split at h
   ·split at h<;>simp at h
   ·rename_i t q hq;simp only [List.cons.injEq,true_and] at h;rw [hq,h.1,h.2]
  have:=zoN (l:=b::r) (by simp) h1
  simpa [ziA] using this
section
variable {P:zU} {L:Lib}
structure Tx (P:zU) (L:Lib):Prop extends Fr' P L where
 h99:L.pure 99=some zjc
 h175:L.pure 175=some zkJ
 h152:L.pure 152=some zfc
 h153:L.pure 153=some zep
 h154:L.pure 154=some zn0
 h109:L.pure 109=some zAJ
 h155:Has P L 155 zBc
 h172:Has P L 172 zBi
 h151:Has P L 151 zAx
 h107:Has P L 107 zBH
 h46:Has P L 46 c46
 h110:Has P L 110 zBv
 h62:Has P L 62 c62
theorem m99 (h:Tx P L) {v:AV} {z:Int} {K:Nat} (hv:IsN v z) (hz:Bd K z) (hK:K≤4000000000):zF P L 99 [v] (.str (zW z)):=by
 obtain ⟨s,w,rfl,hn⟩:=hv;unfold zF;rw [zaI h.h99];rcases hn with ⟨rfl,rfl,h1,h2⟩ | ⟨e,l,rfl,g,n,hb,hs,h1⟩
 ·show (bif ziV s then some (AV.str (zW s)) else none)=_
  have:ziV s=true:=by
   cases s with
   | ofNat k=>exact zdo (by have:(Int.ofNat k)=(k:Int):=rfl;omega)
   | negSucc k=>exact zdo (by omega)
  rw [this];rfl
 ·have hl0:l≠[]:=fun e=>by subst e;simp [bv] at hb;omega
  have hll:l.length≤4000000000:=Nat.le_trans (zir n hb (Nat.lt_of_lt_of_le hz (zfh K))) hK
  show (match zeu (l.map uc) with
   | some l'=>bif Nat.beq l'.length l.length&&(Nat.ble l.length 4000000000&&(ziA l'&&Nat.ble 9223372036854775808 (zli l'))) then (match s with | .ofNat 1=>some (AV.str (zn (zli l'))) | .negSucc 0=>some (.str (45::zn (zli l'))) | _=>none) else none
   | none=>none)=_
  rw [zkd g];simp only [Nat.beq_refl,Nat.ble_eq_true_of_le hll,zoN hl0 n,zmL,hb,Nat.ble_eq_true_of_le h1,Bool.and_self,cond_true];by_cases h0:z<0
  ·rw [if_pos h0] at hs;subst hs;rw [zbo h0];rfl
  ·rw [if_neg h0] at hs;subst hs;obtain ⟨m,rfl⟩:∃m:Nat,z=m:=⟨z.toNat,by omega⟩;rfl
def RT (r:Rat):List Nat:=zW r.num++(if r.den=1 then [] else 47::zn r.den)
theorem zdR {z:Int} {k:Nat} (h:Bd k z):(zW z).length≤k+1:=by
 have h1:∀m:Nat,m<2^k→(zn m).length≤max k 1:=fun m hm=>by
  cases k with
  | zero=>
       have:m=0:=by simpa using hm
       subst this;decide
  | succ k=>
   rw [Nat.max_eq_left (by omega)];exact zcm (k:=k) (Nat.lt_of_lt_of_le hm (Nat.pow_le_pow_left (by decide) _))
 by_cases h0:z<0
 ·rw [zbo h0]
  have:=h1 _ h
  have hz:z.natAbs≠0:=by omega
  unfold Bd at h;have hk:0<k:=by
   rcases Nat.eq_zero_or_pos k with h | h
   ·subst h;omega
   ·exact h
  simp only [List.length_cons];omega
 ·obtain ⟨m,rfl⟩:∃m:Nat,z=m:=⟨z.toNat,by omega⟩
  have:=h1 m (by unfold Bd at h;simpa using h)
  rw [zbc];omega
theorem m46 (h:Tx P L) {v:AV} {a:Rat} {K:Nat} (hv:IsQ v a) (ka:Hq K a) (hK:K≤4000000000):zF P L 46 [v] (.str (RT a)):=by
 have i1:=m98 h.toFr' hv;obtain ⟨s1,w1,s2,w2,rfl,h1,h2⟩:=hv;obtain ⟨l1,u1⟩:=h1.isU;obtain ⟨l2,u2⟩:=h2.isU;have e1:=m99 h (v:= .agg [zf s1,w1]) ⟨s1,w1,rfl,h1⟩ ka.1 hK;have e2:=m99 h (v:= .agg [zf s2,w2]) ⟨s2,w2,rfl,h2⟩ ka.2 hK;have b1:=zdR ka.1;have b2:=zdR ka.2;rw [zbc] at e2 b2;unfold zF at i1 e1 e2;unfold zF RT;rw [zd h.h46];by_cases hd:a.den=1
 ·rw [if_pos hd,List.append_nil];rw [hd] at i1;simp only [go_sem,reduceEqDiff,reduceAdd,c46,zo,u1.pu,u1.frz,u1.one,u2.pu,u2.frz,u2.one,zb0,zx,i1,zE,Nat.zero_add,zhJ,e1]
 ·rw [if_neg hd];rw [decide_eq_false hd] at i1;have hc:zW a.num++47::zn a.den=(zW a.num++[47])++zn a.den:=by simp
  rw [hc]
  simp only [go_sem,reduceEqDiff,reduceAdd,c46,zo,u1.pu,u1.frz,u1.one,u2.pu,u2.frz,u2.one,zb0,zx,i1,zE,Nat.zero_add,zhJ,zkU,e1,e2,zaF (a:=zW a.num) (b:=[47]) (by simp;omega),zaF (a:=zW a.num++[47]) (b:=zn a.den) (by simp;omega)]
end
end VE
end
