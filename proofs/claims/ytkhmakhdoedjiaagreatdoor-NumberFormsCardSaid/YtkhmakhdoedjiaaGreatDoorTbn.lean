import Derived.Test.YtkhmakhdoedjiaaGreatDoorTbm
import Derived.Test.YtkhmakhdoedjiaaGreatDoorTao
import Derived.Test.YtkhmakhdoedjiaaGreatDoorTbg
set_option linter.all false
set_option maxRecDepth 100000
open Nat (reduceAdd reduceEqDiff)
section
namespace VE
open Go (IntKind)
section
variable {P:zN} {L:Lib}
theorem zMA (h:Nu P L) {v w:AV} {a b:Int} {K:Nat} (hv:IsN v a) (hw:IsN w b) (hb0:0<b) (ka:Bd K a) (kb:Bd K b) (hK:K≤30000000000):∃r,zK P L 148 [v,w] r∧IsN r (a/b):=by
 have e1:=zxs h hw;obtain ⟨q,r,e2,hq,hr⟩:=zEQ h hv hw hb0 ka kb hK;have e3:sgn b=1:=by unfold sgn;rw [if_neg (by omega),if_neg (by omega)]
 rw [e3] at e1;have hq':=hq;obtain ⟨s1,w1,rfl,h1⟩:=hv;obtain ⟨s2,w2,rfl,h2⟩:=hw;obtain ⟨s3,w3,rfl,h3⟩:=hq;obtain ⟨s4,w4,rfl,h4⟩:=hr;obtain ⟨l1,u1⟩:=h1.isU;obtain ⟨l2,u2⟩:=h2.isU;obtain ⟨l3,u3⟩:=h3.isU;obtain ⟨l4,u4⟩:=h4.isU;refine ⟨_,?_,hq'⟩;unfold zK at e1 e2;unfold zK;rw [zf h.h148];simp only [go_sem,reduceEqDiff,reduceAdd,zuf,Int.reduceLT,decide_false,zu,u1.pu,u1.frz,u1.one,u2.pu,u2.frz,u2.one,Nat.zero_add,zG,e1,e2,zcV,zU,zaD,z6,List.drop_zero,zdZ u3,zaG u3,zaG u4]
theorem zJA (h:Nu P L) (G:Nat) {K:Nat} (hK:K≤30000000000) {o1 o2:AV}:
  ∀k s,(∃(x y:Nat) (s1 s2:Int) (w1 w2:AV),zA [2,3,4] s=⟨[(2,.ptr 0 0),(3,.ptr 1 0),(4,.ptr 2 0)],[(2,.cells true true true 2 [o1,o2]),(1,.cells true true true 2 [zh s2,w2]),(0,.cells true true true 2 [zh s1,w1])],3,0⟩∧Nok s1 w1 x∧Nok s2 w2 y∧Bd K x∧Bd K y∧Nat.gcd x y=G∧y=k)→
   ∃ex s',D P L (.loop [2,3,4] zfd) s=some (ex,s')∧∃tm s1 w1 c1,s'=⟨tm,[(2,.cells true true true 2 [o1,o2]),(1,c1),(0,.cells true true true 2 [zh s1,w1])],3,0⟩∧ex= .exit 0∧zc tm 2= .ptr 0 0∧zc tm 4= .ptr 2 0∧Nok s1 w1 G:=by
 refine zS (I:=fun k s=>∃(x y:Nat) (s1 s2:Int) (w1 w2:AV),s=⟨[(2,.ptr 0 0),(3,.ptr 1 0),(4,.ptr 2 0)],[(2,.cells true true true 2 [o1,o2]),(1,.cells true true true 2 [zh s2,w2]),(0,.cells true true true 2 [zh s1,w1])],3,0⟩∧Nok s1 w1 x∧Nok s2 w2 y∧Bd K x∧Bd K y∧Nat.gcd x y=G∧y=k)
  (Q:=fun ex s'=>∃tm s1 w1 c1,s'=⟨tm,[(2,.cells true true true 2 [o1,o2]),(1,c1),(0,.cells true true true 2 [zh s1,w1])],3,0⟩∧ex= .exit 0∧zc tm 2= .ptr 0 0∧zc tm 4= .ptr 2 0∧Nok s1 w1 G) ?_
 rintro k s ⟨x,y,s1,s2,w1,w2,rfl,h1,h2,k1,k2,hG,rfl⟩;obtain ⟨l1,u1⟩:=h1.isU;obtain ⟨l2,u2⟩:=h2.isU;have i1:IsN (.agg [zh s1,w1]) (x:Int):=⟨s1,w1,rfl,h1⟩;have i2:IsN (.agg [zh s2,w2]) (y:Int):=⟨s2,w2,rfl,h2⟩;have e1:=zxs h i2;by_cases hy0:y=0
 ·right
  subst hy0;rw [show sgn ((0:Nat):Int)=0 from rfl] at e1;unfold zK at e1;simp only [go_sem,reduceEqDiff,zfd,decide_true,Bool.not_true,z6,zG,u2.frz,e1];obtain rfl:x=G:=by rw [←hG,Nat.gcd_zero_right]
  exact ⟨_,_,rfl,by simp,_,s1,w1,_,rfl,rfl,by simp only [go_sem,reduceEqDiff],by simp only [go_sem,reduceEqDiff],h1⟩
 ·left
  have e3:sgn (y:Int)=1:=by unfold sgn;rw [if_neg (by omega),if_neg (by omega)]
  rw [e3] at e1;obtain ⟨q,r,e2,hq,hr⟩:=zEQ h i1 i2 (by omega) k1 k2 hK;rw [show ((x:Int)%(y:Int))=((x%y:Nat):Int) from rfl] at hr;obtain ⟨s3,w3,rfl,h3⟩:=hq;obtain ⟨s4,w4,rfl,h4⟩:=hr;obtain ⟨l3,u3⟩:=h3.isU;obtain ⟨l4,u4⟩:=h4.isU;have hlt:=Nat.mod_lt x (show 0<y by omega);have kr:Bd K ((x%y:Nat):Int):=k2.le (by omega);unfold zK at e1 e2;simp only [go_sem,reduceEqDiff,reduceAdd,zfd,zpv,zo9,zmW,zkr,zoM,Bool.and_self,Int.reduceEq,decide_false,Bool.not_false,zu,z6,zG,u1.frz,u2.frz,e1,e2,zcV,z6,List.drop_zero,zaG u2,zaG u3,zaG u4];refine ⟨_,x%y,rfl,hlt,y,x%y,s2,s4,w2,w4,?_,h2,h4,k2,kr,by rw [←hG];exact zno x y hy0,rfl⟩
  simp only [go_sem,reduceEqDiff,reduceAdd,za]
theorem zMS (h:Nu P L) {v w:AV} {a b:Int} {K:Nat} (hv:IsN v a) (hw:IsN w b) (ka:Bd K a) (kb:Bd K b) (hK:K≤30000000000):∃r,zK P L 130 [v,w] r∧IsN r (Int.gcd a b:Nat):=by
 obtain ⟨va,e1,ha⟩:=zMF h hv ka (by omega);obtain ⟨vb,e2,hb⟩:=zMF h hw kb (by omega);obtain ⟨s1,w1,rfl,h1⟩:=hv;obtain ⟨s2,w2,rfl,h2⟩:=hw;obtain ⟨s3,w3,rfl,h3⟩:=ha;obtain ⟨s4,w4,rfl,h4⟩:=hb;obtain ⟨l1,u1⟩:=h1.isU;obtain ⟨l2,u2⟩:=h2.isU;obtain ⟨l3,u3⟩:=h3.isU;obtain ⟨l4,u4⟩:=h4.isU;unfold zK at e1 e2;have goal:∃s w,zK P L 130 [.agg [zh s1,w1],.agg [zh s2,w2]] (.agg [zh s,w])∧Nok s w (Int.gcd a b:Nat):=by
  unfold zK;rw [zf h.h130];simp only [go_sem,reduceEqDiff,reduceAdd,zun,zu,u1.pu,u1.frz,u1.one,u2.pu,u2.frz,u2.one,z6,zG,e1,e2,zO,z6,List.drop_zero,zaG u3,zaG u4,Nat.zero_add];generalize hq:D P L (.loop [2,3,4] zfd) _=q;obtain ⟨ex,s,rfl,tm,s5,w5,c1,rfl,rfl,t2,t4,h5⟩:=z8 hq (zJA (P:=P) (L:=L) h (Int.gcd a b) (K:=K) hK (o1:= .int .i64 0) (o2:= .nils) b.natAbs) ⟨a.natAbs,b.natAbs,s3,s4,w3,w4,by simp only [go_sem,reduceEqDiff,reduceAdd,za],h3,h4,ka,kb,rfl,rfl⟩;obtain ⟨l5,u5⟩:=h5.isU;refine ⟨s5,w5,?_,h5⟩;simp only [go_sem,reduceEqDiff,reduceAdd,za,t2,t4,zU,zaD,z6,List.drop_zero,zdZ u5,zaG u5]
 obtain ⟨s,w,e,hn⟩:=goal;exact ⟨_,e,s,w,rfl,hn⟩
end
def IsQ (v:AV) (r:Rat):Prop:=∃s1 w1 s2 w2,v= .agg [zh s1,w1,zh s2,w2]∧Nok s1 w1 r.num∧Nok s2 w2 (r.den:Int)
def Hq (k:Nat) (r:Rat):Prop:=Bd k r.num∧Bd k (r.den:Int)
theorem ze7 {a b:Int} (hb:0<b):(Rat.divInt a b).num=a/(Int.gcd a b:Nat)∧((Rat.divInt a b).den:Int)=b/(Int.gcd a b:Nat):=by
 constructor
 ·rw [Rat.num_divInt,Int.sign_eq_one_of_pos hb,Int.one_mul,Int.gcd_comm]
 ·rw [Rat.den_divInt,if_neg (by omega),Int.gcd_comm];rw [Int.natCast_ediv,show ((b.natAbs:Nat):Int)=b by omega]
theorem Hq.divInt {k:Nat} {a b:Int} (hb:0<b) (ka:Bd k a) (kb:Bd k b):Hq k (Rat.divInt a b):=by
 obtain ⟨h1,h2⟩:=ze7 (a:=a) hb;have hp:=zgZ (a:=a) hb;refine ⟨ka.le ?_,kb.le ?_⟩
 ·rw [h1,Int.natAbs_ediv_of_dvd (Int.gcd_dvd_left a b)];exact Nat.div_le_self _ _
 ·rw [h2,Int.natAbs_ediv_of_dvd (Int.gcd_dvd_right a b)];exact Nat.div_le_self _ _
section
theorem zhk {tm:Env} {a b x y z w:AV} {r:List (Nat×Nat×X)} (h1:z9 a=true) (h2:z9 b=true):zgd tm [x,y,z,w] 0 2 [a,b] r=fill tm [a,b,z,w] r:=by
 rw [zqe (by rfl) (by simp) (by simp [zH,h1,h2])];rfl
theorem zhA {tm:Env} {a b x y z w:AV} {r:List (Nat×Nat×X)} (h1:z9 a=true) (h2:z9 b=true):zgd tm [x,y,z,w] 2 2 [a,b] r=fill tm [x,y,a,b] r:=by
 rw [zqe (by rfl) (by simp) (by simp [zH,h1,h2])];rfl
theorem zjZ {s t:Int} {v w:AV} {l m:List Nat} (hv:IsU v l) (hw:IsU w m) (hp:Hp) (ct id:Nat) (a b x y:AV):stC hp ct id 0 4 [.int .i64 s,v,.int .i64 t,w] (some (.cells true true true 4 [a,b,x,y]))=some (.tup [],z7 hp id (.cells true true true 4 [.int .i64 s,v,.int .i64 t,w]),ct):=by
 rw [zoo (by rfl) (by simp) (by simp [zH,hv.one,hw.one,zmJ])];simp [zn,hv.pu,hw.pu,zb6,zpz]
theorem zkg {s t:Int} {v w:AV} {l m:List Nat} (hv:IsU v l) (hw:IsU w m) (hp:Hp):zaL hp (.agg [zh s,v,zh t,w])=some (.agg [zh s,v,zh t,w]):=by
 rcases hv with ⟨rfl,_⟩ | ⟨e,rfl⟩<;>rcases hw with ⟨rfl,_⟩ | ⟨e',rfl⟩<;>rfl
variable {P:zN} {L:Lib}
structure Fr' (P:zN) (L:Lib):Prop extends Nu P L where
 h101:Has P L 101 c101
 h69:Has P L 69 c69
 h111:Has P L 111 zBY
 h98:Has P L 98 c98
 h108:Has P L 108 zM4
 h102:Has P L 102 zOj
 h74:Has P L 74 c74
 h50:Has P L 50 c50
 h49:Has P L 49 c49
 h73:Has P L 73 c73
 h70:Has P L 70 c70
 h71:Has P L 71 c71
 h149:Has P L 149 zAM
theorem zyF (h:Fr' P L) {s1 s2:Int} {w1 w2:AV} {a b:Int} {K:Nat} (h1:Nok s1 w1 a) (h2:Nok s2 w2 b) (hb0:0<b) (ka:Bd K a) (kb:Bd K b) (hK:K≤30000000000):
  ∃r,IsQ r (Rat.divInt a b)∧∀tm,zc tm 2= .ptr 0 0→zc tm 3= .ptr 1 0→zc tm 4= .ptr 2 0→zdO [.cell 4 4 true] (D P L (zw (zw c101.body)) ⟨tm,[(2,.cells true true true 4 [.int .i64 0,.nils,.int .i64 0,.nils]),(1,.cells true true true 2 [zh s2,w2]),(0,.cells true true true 2 [zh s1,w1])],3,0⟩)=some r:=by
 have hv:IsN (.agg [zh s1,w1]) a:=⟨s1,w1,rfl,h1⟩;have hw:IsN (.agg [zh s2,w2]) b:=⟨s2,w2,rfl,h2⟩;obtain ⟨p1,p2⟩:=ze7 (a:=a) hb0;have hgp:=zgZ (a:=a) hb0;have hgk:Bd K ((Int.gcd a b:Nat):Int):=kb.le (by
  have:=Int.gcd_le_natAbs_right a (show b≠0 by omega)
  omega)
 obtain ⟨g,e2,hg⟩:=zMS h.toNu hv hw ka kb hK;obtain ⟨q1,e4,hq1⟩:=zMA h.toNu hv hg hgp ka hgk hK;obtain ⟨q2,e5,hq2⟩:=zMA h.toNu hw hg hgp kb hgk hK;rw [←p1] at hq1;rw [←p2] at hq2;obtain ⟨s3,w3,rfl,h3⟩:=hg;obtain ⟨s4,w4,rfl,h4⟩:=hq1;obtain ⟨s5,w5,rfl,h5⟩:=hq2;obtain ⟨l1,u1⟩:=h1.isU;obtain ⟨l2,u2⟩:=h2.isU;obtain ⟨l3,u3⟩:=h3.isU;obtain ⟨l4,u4⟩:=h4.isU;obtain ⟨l5,u5⟩:=h5.isU;unfold zK at e2 e4 e5;by_cases hone:w2= .nils∧s2=1
 ·obtain ⟨rfl,rfl⟩:=hone;have hb1:b=1:=by
   rcases h2 with ⟨_,h,_⟩ | ⟨_,_,h,_⟩
   ·exact h.symm
   ·cases h
  subst hb1;rw [Int.gcd_one] at p1 p2;have p1:(Rat.divInt a 1).num=a:=by rw [p1];exact Int.ediv_one a
  have p2:((Rat.divInt a 1).den:Int)=1:=by rw [p2];rfl
  refine ⟨.agg [zh s1,w1,zh 1,.nils],⟨s1,w1,1,.nils,rfl,by rw [p1];exact h1,by rw [p2];exact h2⟩,fun tm t2 t3 t4=>?_⟩
  have un:=zcz;simp only [go_sem,reduceEqDiff,c101,zw,t2,t3,t4,u1.one,z6,zI,Nat.zero_add,zak,zbJ,zal,zhk,zhA,zjZ u1 un,zU,zaD,List.drop_zero,zgl,zkg u1 un]
 ·refine ⟨.agg [zh s4,w4,zh s5,w5],⟨s4,w4,s5,w5,rfl,h4,h5⟩,fun tm t2 t3 t4=>?_⟩;rcases u2 with ⟨rfl,_⟩ | ⟨e,rfl⟩
  ·simp only [go_sem,reduceEqDiff,reduceAdd,c101,zw,t2,t3,t4,zu,u1.frz,z6,zG,zI,Nat.zero_add,zak,zbJ,zal,show ¬s2=1 from fun e=>hone ⟨rfl,e⟩,e2,e4,e5,zO,zU,zaD,z6,List.drop_zero,zaG u3,u3.frz,u4.one,u5.one,zhk,zhA,zjZ u4 u5,zgl,zkg u4 u5]
  ·simp only [go_sem,reduceEqDiff,reduceAdd,c101,zw,t2,t3,t4,zu,u1.frz,z6,zG,zI,Nat.zero_add,zak,zc1,zal,e2,e4,e5,zO,zU,zaD,z6,List.drop_zero,zaG u3,u3.frz,u4.one,u5.one,zhk,zhA,zjZ u4 u5,zgl,zkg u4 u5]
theorem zQ0 (h:Fr' P L) {v w:AV} {a b:Int} {K:Nat} (hv:IsN v a) (hw:IsN w b) (hb0:b≠0) (ka:Bd K a) (kb:Bd K b) (hK:K≤30000000000):∃r,zK P L 101 [v,w] r∧IsQ r (Rat.divInt a b):=by
 have e1:=zxs h.toNu hw;have hv':=hv;have hw':=hw;obtain ⟨s1,w1,rfl,h1⟩:=hv;obtain ⟨s2,w2,rfl,h2⟩:=hw;obtain ⟨l1,u1⟩:=h1.isU;obtain ⟨l2,u2⟩:=h2.isU;unfold zK at e1;have fin:∀r t1 t2 v1 v2 tm,(∀tm,zc tm 2= .ptr 0 0→zc tm 3= .ptr 1 0→zc tm 4= .ptr 2 0→zdO [.cell 4 4 true] (D P L (zw (zw c101.body)) ⟨tm,[(2,.cells true true true 4 [.int .i64 0,.nils,.int .i64 0,.nils]),(1,.cells true true true 2 [zh t2,v2]),(0,.cells true true true 2 [zh t1,v1])],3,0⟩)=some r)→zc tm 2= .ptr 0 0→zc tm 3= .ptr 1 0→zc tm 4= .ptr 2 0→
   D P L (.seq (zan c101.body) (zan (zw c101.body))) ⟨[(0,.agg [zh s1,w1]),(1,.agg [zh s2,w2])],[],0,0⟩=some (.normal,⟨tm,[(2,.cells true true true 4 [.int .i64 0,.nils,.int .i64 0,.nils]),(1,.cells true true true 2 [zh t2,v2]),(0,.cells true true true 2 [zh t1,v1])],3,0⟩)→zK P L 101 [.agg [zh s1,w1],.agg [zh s2,w2]] r:=fun r t1 t2 v1 v2 tm tail k2 k3 k4 e=>by
  unfold zK;rw [zf h.h101];show zdO [.cell 4 4 true] (D P L (.seq (zan c101.body) (.seq (zan (zw c101.body)) (zw (zw c101.body)))) ⟨[(0,.agg [zh s1,w1]),(1,.agg [zh s2,w2])],[],0,0⟩)=_
  rw [zex,e,zaI];exact tail tm k2 k3 k4
 by_cases hn:b<0
 ·obtain ⟨n1,e2,hn1⟩:=zyI h.toNu hv' ka (by omega);obtain ⟨n2,e3,hn2⟩:=zyI h.toNu hw' kb (by omega);obtain ⟨s3,w3,rfl,h3⟩:=hn1;obtain ⟨s4,w4,rfl,h4⟩:=hn2;obtain ⟨l3,u3⟩:=h3.isU;obtain ⟨l4,u4⟩:=h4.isU;obtain ⟨r,hr,tail⟩:=zyF h h3 h4 (by omega) ka.neg kb.neg hK;rw [Rat.neg_divInt_neg] at hr;have hs:sgn b<0:=by unfold sgn;rw [if_pos hn];decide
  unfold zK at e2 e3;refine ⟨r,fin r _ _ _ _ _ tail ?_ ?_ ?_ (by simp only [go_sem,reduceEqDiff,reduceAdd,c101,zan,zw,hs,zu,u1.pu,u1.frz,u1.one,u2.pu,u2.frz,u2.one,z6,zG,e1,e2,e3,zO,zaG u3,zaG u4]<;>rfl),hr⟩<;>simp only [go_sem,reduceEqDiff]
 ·obtain ⟨r,hr,tail⟩:=zyF h h1 h2 (by omega) ka kb hK;have hs:¬sgn b<0:=by unfold sgn;rw [if_neg hn];split<;>decide
  refine ⟨r,fin r _ _ _ _ _ tail ?_ ?_ ?_ (by simp only [go_sem,reduceEqDiff,reduceAdd,c101,zan,zw,hs,zu,u1.pu,u1.one,u2.pu,u2.frz,u2.one,z6,zG,e1]<;>rfl),hr⟩<;>simp only [go_sem,reduceEqDiff]
end
end VE
end
section
namespace VE
open Go (IntKind)
theorem Hq.mono {k m:Nat} {r:Rat} (h:Hq k r) (hk:k≤m):Hq m r:=⟨h.1.mono hk,h.2.mono hk⟩
theorem Hq.neg {k:Nat} {r:Rat} (h:Hq k r):Hq k (-r):=⟨h.1.neg,h.2⟩
theorem zJY (a b:Rat):a+b=Rat.divInt (a.num*b.den+b.num*a.den) ((a.den:Int)*b.den):=by
 rw [Rat.add_def',←Rat.divInt_ofNat,Int.natCast_mul]
theorem zKH (a b:Rat):a*b=Rat.divInt (a.num*b.num) ((a.den:Int)*b.den):=by
 rw [Rat.mul_def',←Rat.divInt_ofNat,Int.natCast_mul]
theorem zhE (a:Rat):0<(a.den:Int):=by have:=a.den_pos;omega
theorem ziq (a b:Rat):0<(a.den:Int)*b.den:=Int.mul_pos (zhE a) (zhE b)
theorem Bd.add2 {k:Nat} {a b:Int} (ha:Bd k a) (hb:Bd k b):Bd (k+1) (a+b):=by
 have:=ha.add hb
 rwa [Nat.max_self] at this
theorem Hq.add {k m:Nat} {a b:Rat} (ha:Hq k a) (hb:Hq m b):Hq (k+m+1) (a+b):=by
 rw [zJY];refine Hq.divInt (ziq a b) ?_ ((ha.2.mul hb.2).mono (by omega));exact (ha.1.mul hb.2).add2 ((hb.1.mul ha.2).mono (by omega))
theorem Hq.mul {k m:Nat} {a b:Rat} (ha:Hq k a) (hb:Hq m b):Hq (k+m) (a*b):=by
 rw [zKH];exact Hq.divInt (ziq a b) (ha.1.mul hb.1) (ha.2.mul hb.2)
theorem Hq.sub {k m:Nat} {a b:Rat} (ha:Hq k a) (hb:Hq m b):Hq (k+m+1) (a-b):=by
 rw [Rat.sub_eq_add_neg];exact ha.add hb.neg
theorem Hq.inv {k:Nat} {a:Rat} (ha:Hq k a):Hq k a⁻¹:=by
 have h1:(a⁻¹).num.natAbs≤a.den:=by
  rw [Rat.num_inv,Int.natAbs_mul]
  have:a.num.sign.natAbs≤1:=by
   rcases Int.lt_trichotomy a.num 0 with h | h | h
   ·rw [Int.sign_eq_neg_one_of_neg h];decide
   ·rw [h];decide
   ·rw [Int.sign_eq_one_of_pos h];decide
  have:=Nat.mul_le_mul_right a.den this
  simpa using this
 refine ⟨ha.2.le (by simpa using h1),?_⟩;unfold Bd;rw [Rat.den_inv]
 split
 ·have h2:=ha.2;unfold Bd at h2
  have:=a.den_pos
  have:(((a.den:Nat):Int)).natAbs=a.den:=by omega
  show (((1:Nat):Int)).natAbs<2^k
  rw [show (((1:Nat):Int)).natAbs=1 from rfl];omega
 ·exact ha.1
theorem Hq.div {k m:Nat} {a b:Rat} (ha:Hq k a) (hb:Hq m b):Hq (k+m) (a/b):=by
 rw [Rat.div_def];exact ha.mul hb.inv
theorem zsg (a:Rat) (h:a.den=1):a=(a.num:Rat):=by
 have:=Rat.num_divInt_den a
 rw [h] at this;rw [←this];exact (Rat.ext (by simp [Rat.num_divInt]) (by simp [Rat.den_divInt]))
theorem zDu (a b c d:AV) (r:List AV):ld1 2 true (List.drop 2 (a::b::c::d::r))=some (.agg [c,d]):=rfl
theorem zyy (a b:AV) (r:List AV):ld1 2 true (a::b::r)=some (.agg [a,b]):=rfl
section
variable {P:zN} {L:Lib}
theorem zNN (h:Fr' P L) {v:AV} {z:Int} (hv:IsN v z):∃r,zK P L 111 [v] r∧IsQ r (z:Rat):=by
 obtain ⟨o1,o2⟩:=zop h.toNu (z:=1) (by decide) (by decide);obtain ⟨s1,w1,rfl,h1⟩:=hv;obtain ⟨l1,u1⟩:=h1.isU;have un:=zcz;refine ⟨.agg [zh s1,w1,zh 1,.nils],?_,s1,w1,1,.nils,rfl,h1,.inl ⟨rfl,rfl,(by show (-9223372036854775808:Int)≤1;decide),(by show (1:Int)<9223372036854775808;decide)⟩⟩
 unfold zK at o1;unfold zK;rw [zf h.h111];simp only [go_sem,reduceEqDiff,reduceAdd,zBY,zu,u1.pu,u1.one,z6,o1,zO,zhk,zhA,zjZ u1 un,zU,zaD,List.drop_zero,zgl,zkg u1 un]
theorem m98 (h:Fr' P L) {v:AV} {a:Rat} (hv:IsQ v a):zK P L 98 [v] (.bool (decide (a.den=1))):=by
 obtain ⟨s1,w1,s2,w2,rfl,h1,h2⟩:=hv;obtain ⟨l1,u1⟩:=h1.isU;unfold zK;rw [zf h.h98];rcases h2 with ⟨rfl,rfl,b1,b2⟩ | ⟨e,l,rfl,gb,nb,vb,sb,b1⟩
 ·have e:decide (((a.den:Nat):Int)=1)=decide (a.den=1):=by simp;omega
  simp only [go_sem,reduceEqDiff,reduceAdd,c98,zu,u1.pu,u1.one,zI,Nat.zero_add,zMM,zDi,zbJ,zal,e]
 ·have e:decide (a.den=1)=false:=decide_eq_false (by omega);rw [e];simp only [go_sem,reduceEqDiff,reduceAdd,c98,zu,u1.pu,u1.one,zI,Nat.zero_add,zDi,zc1,zal]
theorem zQt (h:Fr' P L) {v:AV} {a:Rat} {K:Nat} (hv:IsQ v a) (ka:Hq K a) (hK:K≤10000000000):∃r,zK P L 149 [v] r∧IsN r a.floor:=by
 obtain ⟨s1,w1,s2,w2,rfl,h1,h2⟩:=hv;obtain ⟨l1,u1⟩:=h1.isU;obtain ⟨l2,u2⟩:=h2.isU;obtain ⟨q,r,e1,hq,hr⟩:=zEQ h.toNu (v:= .agg [zh s1,w1]) (w:= .agg [zh s2,w2]) ⟨s1,w1,rfl,h1⟩ ⟨s2,w2,rfl,h2⟩ (zhE a) ka.1 ka.2 (by omega);rw [←Rat.floor_def] at hq;have hq':=hq;obtain ⟨s3,w3,rfl,h3⟩:=hq;obtain ⟨s4,w4,rfl,h4⟩:=hr;obtain ⟨l3,u3⟩:=h3.isU;obtain ⟨l4,u4⟩:=h4.isU;refine ⟨_,?_,hq'⟩;unfold zK at e1;unfold zK;rw [zf h.h149];simp only [go_sem,reduceEqDiff,reduceAdd,zAM,zu,u1.pu,u1.frz,u1.one,u2.pu,u2.frz,u2.one,zI,Nat.zero_add,zyy,zDu,zG,e1,zcV,zU,zaD,List.drop_zero,zdZ u3,zaG u3,zaG u4]
end
end VE
end
section
namespace VE
open Go (IntKind)
def zen:List AV→Option (List Nat)
 | []=>some []
 | .int .u64 (.ofNat d)::r=>bif Nat.blt d 18446744073709551616 then (match zen r with | some l=>some (d::l) | none=>none) else none
 | _::_=>none
def zld:List Nat→Nat
 | []=>0
 | a::r=>a+18446744073709551616*zld r
def ziN:List Nat→Bool
 | []=>false
 | [a]=> !Nat.beq a 0
 | _::r=>ziN r
def zi5:List AV→Option AV
 | [.agg [.int .i64 s,.nils]]=>bif ziz s then some (.str (zW s)) else none
 | [.agg [.int .i64 s,.vsl _ n cs]]=>
  match zen cs with
  | some l=>
   bif Nat.beq l.length n&&(Nat.ble n 4000000000&&(ziN l&&Nat.ble 9223372036854775808 (zld l))) then
    match s with
    | .ofNat 1=>some (.str (zo (zld l)))
    | .negSucc 0=>some (.str (45::zo (zld l)))
    | _=>none
   else none
  | none=>none
 | _=>none
end VE
end
section
namespace VE
open Go (IntKind)
theorem zjT:∀{l:List Nat},lo 18446744073709551616 l→zen (l.map uc)=some l
 | [],_=>rfl
 | a::l,h=>by
  have h1:=h a (by simp);have h2:=zjT (l:=l) (fun x hx=>h x (by simp [hx]));show (bif Nat.blt a 18446744073709551616 then (match zen (l.map uc) with | some l=>some (a::l) | none=>none) else none)=_
  rw [zcP h1,h2];rfl
theorem zmD:∀l:List Nat,zld l=bv 18446744073709551616 l
 | []=>rfl
 | a::l=>by simp only [zld,bv,zmD l]
theorem zom:∀{l:List Nat},l≠[]→nzN l→ziN l=true
 | [],h,_=>absurd rfl h
 | [a],_,h=>by
  have:a≠0:=fun e=>by
   subst e;have h:zaJ [0]=[0]:=h;simp [zaJ] at h
  simp [ziN,zaH this]
 | a::b::r,_,h=>by
  have h1:nzN (b::r):=by
   have h:zaJ (a::b::r)=a::b::r:=h;show zaJ (b::r)=b::r
   rw [zaJ] at h
   split at h
   ·split at h<;>simp at h
   ·rename_i t q hq;simp only [List.cons.injEq,true_and] at h;rw [hq,h.1,h.2]
  have:=zom (l:=b::r) (by simp) h1
  simpa [ziN] using this
section
variable {P:zN} {L:Lib}
structure Tx (P:zN) (L:Lib):Prop extends Fr' P L where
 h99:L.pure 99=some zi5
 h175:L.pure 175=some zkn
 h152:L.pure 152=some zeP
 h153:L.pure 153=some zeg
 h154:L.pure 154=some zm9
 h109:L.pure 109=some zBq
 h155:Has P L 155 zCK
 h172:Has P L 172 zBA
 h151:Has P L 151 zAq
 h107:Has P L 107 zBz
 h46:Has P L 46 c46
 h110:Has P L 110 zzS
 h62:Has P L 62 c62
theorem m99 (h:Tx P L) {v:AV} {z:Int} {K:Nat} (hv:IsN v z) (hz:Bd K z) (hK:K≤4000000000):zK P L 99 [v] (.str (zW z)):=by
 obtain ⟨s,w,rfl,hn⟩:=hv;unfold zK;rw [zaA h.h99];rcases hn with ⟨rfl,rfl,h1,h2⟩ | ⟨e,l,rfl,g,n,hb,hs,h1⟩
 ·show (bif ziz s then some (AV.str (zW s)) else none)=_
  have:ziz s=true:=by
   cases s with
   | ofNat k=>exact zcP (by have:(Int.ofNat k)=(k:Int):=rfl;omega)
   | negSucc k=>exact zcP (by omega)
  rw [this];rfl
 ·have hl0:l≠[]:=fun e=>by subst e;simp [bv] at hb;omega
  have hll:l.length≤4000000000:=Nat.le_trans (zhN n hb (Nat.lt_of_lt_of_le hz (zfg K))) hK
  show (match zen (l.map uc) with
   | some l'=>bif Nat.beq l'.length l.length&&(Nat.ble l.length 4000000000&&(ziN l'&&Nat.ble 9223372036854775808 (zld l'))) then (match s with | .ofNat 1=>some (AV.str (zo (zld l'))) | .negSucc 0=>some (.str (45::zo (zld l'))) | _=>none) else none
   | none=>none)=_
  rw [zjT g];simp only [Nat.beq_refl,Nat.ble_eq_true_of_le hll,zom hl0 n,zmD,hb,Nat.ble_eq_true_of_le h1,Bool.and_self,cond_true];by_cases h0:z<0
  ·rw [if_pos h0] at hs;subst hs;rw [zby h0];rfl
  ·rw [if_neg h0] at hs;subst hs;obtain ⟨m,rfl⟩:∃m:Nat,z=m:=⟨z.toNat,by omega⟩;rfl
def RT (r:Rat):List Nat:=zW r.num++(if r.den=1 then [] else 47::zo r.den)
theorem zdL {z:Int} {k:Nat} (h:Bd k z):(zW z).length≤k+1:=by
 have h1:∀m:Nat,m<2^k→(zo m).length≤max k 1:=fun m hm=>by
  cases k with
  | zero=>
       have:m=0:=by simpa using hm
       subst this;decide
  | succ k=>
   rw [Nat.max_eq_left (by omega)];exact zb7 (k:=k) (Nat.lt_of_lt_of_le hm (Nat.pow_le_pow_left (by decide) _))
 by_cases h0:z<0
 ·rw [zby h0]
  have:=h1 _ h
  have hz:z.natAbs≠0:=by omega
  unfold Bd at h;have hk:0<k:=by
   rcases Nat.eq_zero_or_pos k with h | h
   ·subst h;omega
   ·exact h
  simp only [List.length_cons];omega
 ·obtain ⟨m,rfl⟩:∃m:Nat,z=m:=⟨z.toNat,by omega⟩
  have:=h1 m (by unfold Bd at h;simpa using h)
  rw [za7];omega
theorem m46 (h:Tx P L) {v:AV} {a:Rat} {K:Nat} (hv:IsQ v a) (ka:Hq K a) (hK:K≤4000000000):zK P L 46 [v] (.str (RT a)):=by
 have i1:=m98 h.toFr' hv;obtain ⟨s1,w1,s2,w2,rfl,h1,h2⟩:=hv;obtain ⟨l1,u1⟩:=h1.isU;obtain ⟨l2,u2⟩:=h2.isU;have e1:=m99 h (v:= .agg [zh s1,w1]) ⟨s1,w1,rfl,h1⟩ ka.1 hK;have e2:=m99 h (v:= .agg [zh s2,w2]) ⟨s2,w2,rfl,h2⟩ ka.2 hK;have b1:=zdL ka.1;have b2:=zdL ka.2;rw [za7] at e2 b2;unfold zK at i1 e1 e2;unfold zK RT;rw [zf h.h46];by_cases hd:a.den=1
 ·rw [if_pos hd,List.append_nil];rw [hd] at i1;simp only [go_sem,reduceEqDiff,reduceAdd,c46,zu,u1.pu,u1.frz,u1.one,u2.pu,u2.frz,u2.one,zgl,zG,i1,zI,Nat.zero_add,zyy,e1]
 ·rw [if_neg hd];rw [decide_eq_false hd] at i1;have hc:zW a.num++47::zo a.den=(zW a.num++[47])++zo a.den:=by simp
  rw [hc]
  simp only [go_sem,reduceEqDiff,reduceAdd,c46,zu,u1.pu,u1.frz,u1.one,u2.pu,u2.frz,u2.one,zgl,zG,i1,zI,Nat.zero_add,zyy,zDu,e1,e2,zap (a:=zW a.num) (b:=[47]) (by simp;omega),zap (a:=zW a.num++[47]) (b:=zo a.den) (by simp;omega)]
end
end VE
end
section
namespace VE
open Go (IntKind)
theorem zPR {n:Nat} (h:n<9223372036854775808):binOp .and (.int .i64 (n:Int)) (.int .i64 1)=some (.int .i64 ((n%2:Nat):Int)):=by
 show some (AV.int .i64 (IntKind.wrap .i64 ((BitVec.ofInt 64 (n:Int)&&&BitVec.ofInt 64 1).toNat:Int)))=_
 congr 2
 rw [show BitVec.ofInt 64 (n:Int)=BitVec.ofNat 64 n from BitVec.ofInt_natCast 64 n,show BitVec.ofInt 64 1=BitVec.ofNat 64 1 from rfl];rw [BitVec.toNat_and,BitVec.toNat_ofNat,BitVec.toNat_ofNat,show (1%2^64:Nat)=2^1-1 from rfl,Nat.and_two_pow_sub_one_eq_mod,zy (by omega)]
 congr 1
 omega
theorem zP5 (n:Nat):binOp .shr (.int .i64 (n:Int)) (.int .u64 1)=some (.int .i64 ((n/2:Nat):Int)):=by
 rw [zxH];show some (AV.int .i64 ((n:Int).fdiv (2^1)))=_
 rw [Int.fdiv_eq_ediv_of_nonneg _ (by decide)];rfl
theorem Bd.pow {k:Nat} {z:Int} (h:Bd k z):∀e,Bd (k*e+1) (z^e)
 | 0=>by rw [Int.pow_zero,Nat.mul_zero];unfold Bd;decide
 | e+1=>by
  have ih:=Bd.pow h e;rw [Int.pow_succ];exact (ih.mul h).mono (by rw [Nat.mul_add,Nat.mul_one];omega)
section
variable {P:zN} {L:Lib}
theorem zF1 (h:Nu P L) (h100:True) {z:Int} {K k0:Nat} (hz:Bd K z) (hK:K*k0+1≤30000000000) {o1 o2:AV}:
  ∀m st,(∃(k i e:Nat) (s1 s2:Int) (w1 w2:AV),zA [1,2,4,5] st=⟨[(1,zh k),(2,.ptr 0 0),(4,.ptr 1 0),(5,.ptr 2 0)],[(2,.cells true true true 2 [zh s2,w2]),(1,.cells true true true 2 [o1,o2]),(0,.cells true true true 2 [zh s1,w1])],3,0⟩∧Nok s1 w1 (z^i)∧Nok s2 w2 (z^e)∧e+i*k=k0∧(0<k→i≤k0)∧k<9223372036854775808∧k=m)→
   ∃ex st',D P L (.loop [1,2,4,5] zgP) st=some (ex,st')∧∃tm s2 w2 c0,st'=⟨tm,[(2,.cells true true true 2 [zh s2,w2]),(1,.cells true true true 2 [o1,o2]),(0,c0)],3,0⟩∧ex= .exit 0∧zc tm 4= .ptr 1 0∧zc tm 5= .ptr 2 0∧Nok s2 w2 (z^k0):=by
 refine zS (I:=fun m st=>∃(k i e:Nat) (s1 s2:Int) (w1 w2:AV),st=⟨[(1,zh k),(2,.ptr 0 0),(4,.ptr 1 0),(5,.ptr 2 0)],[(2,.cells true true true 2 [zh s2,w2]),(1,.cells true true true 2 [o1,o2]),(0,.cells true true true 2 [zh s1,w1])],3,0⟩∧Nok s1 w1 (z^i)∧Nok s2 w2 (z^e)∧e+i*k=k0∧(0<k→i≤k0)∧k<9223372036854775808∧k=m)
  (Q:=fun ex st'=>∃tm s2 w2 c0,st'=⟨tm,[(2,.cells true true true 2 [zh s2,w2]),(1,.cells true true true 2 [o1,o2]),(0,c0)],3,0⟩∧ex= .exit 0∧zc tm 4= .ptr 1 0∧zc tm 5= .ptr 2 0∧Nok s2 w2 (z^k0)) ?_
 rintro m st ⟨k,i,e,s1,s2,w1,w2,rfl,h1,h2,hk,hi,hkb,rfl⟩;obtain ⟨l1,u1⟩:=h1.isU;obtain ⟨l2,u2⟩:=h2.isU;by_cases hk0:k=0
 ·right
  subst hk0;rw [Nat.mul_zero,Nat.add_zero] at hk;subst hk;simp only [go_sem,zgP,show ¬(0:Int)<((0:Nat):Int) by omega];exact ⟨_,_,rfl,by simp,_,s2,w2,_,rfl,rfl,by simp only [go_sem,reduceEqDiff],by simp only [go_sem,reduceEqDiff],h2⟩
 ·left
  have hi':=hi (by omega);have he:e≤k0:=by omega
  have hik:i*1≤i*k:=Nat.mul_le_mul_left i (by omega);have b1:Bd (K*k0+1) (z^i):=(hz.pow i).mono (by have:=Nat.mul_le_mul_left K hi';omega);have b2:Bd (K*k0+1) (z^e):=(hz.pow e).mono (by have:=Nat.mul_le_mul_left K he;omega);have n1:IsN (.agg [zh s1,w1]) (z^i):=⟨s1,w1,rfl,h1⟩;have n2:IsN (.agg [zh s2,w2]) (z^e):=⟨s2,w2,rfl,h2⟩;obtain ⟨p,e1,hp⟩:=zGM h n2 n1 b2 b1 (by omega);obtain ⟨q,e2,hq⟩:=zGM h n1 n1 b1 b1 (by omega);rw [←Int.pow_add] at hp hq;obtain ⟨s3,w3,rfl,h3⟩:=hp;obtain ⟨s4,w4,rfl,h4⟩:=hq;obtain ⟨l3,u3⟩:=h3.isU;obtain ⟨l4,u4⟩:=h4.isU;unfold zK at e1 e2;have hdm:=Nat.div_add_mod k 2;have o1':=zPR (n:=k) hkb;have o2':=zP5 k;have hhalf:(i+i)*(k/2)=i*(2*(k/2)):=by rw [←Nat.two_mul,Nat.mul_comm 2 i,Nat.mul_assoc]
  by_cases hodd:k%2=1
  ·rw [hodd] at o1' hdm;have hkk:i*k=i*(2*(k/2))+i:=by
    conv=>lhs;rw [←hdm,Nat.mul_add,Nat.mul_one]
   by_cases hk1:1<k
   ·simp only [go_sem,reduceEqDiff,zgP,show (0:Int)<(k:Int) by omega,o1',show ((1:Nat):Int)=1 from rfl,z6,zG,u1.frz,u2.frz,e1,zO,z6,List.drop_zero,zaG u3,zaG u4,show (1:Int)<(k:Int) by omega,e2,o2']
    exact ⟨_,k/2,rfl,by omega,k/2,i+i,e+i,s4,s3,w4,w3,by simp only [go_sem,reduceEqDiff,reduceAdd,za],h4,h3,by omega,fun h0=>by have:=Nat.mul_le_mul_left (i+i) h0;omega,by omega,rfl⟩
   ·have hone:e+i+i*(k/2)=k0:=by
     have h1:k/2=0:=by omega
     rw [h1] at hkk ⊢;omega
    simp only [go_sem,reduceEqDiff,zgP,show (0:Int)<(k:Int) by omega,o1',show ((1:Nat):Int)=1 from rfl,z6,zG,u1.frz,u2.frz,e1,zO,z6,List.drop_zero,zaG u3,show ¬(1:Int)<(k:Int) by omega,o2'];exact ⟨_,k/2,rfl,by omega,k/2,i,e+i,s1,s3,w1,w3,by simp only [go_sem,reduceEqDiff,reduceAdd,za],h1,h3,hone,fun h0=>by omega,by omega,rfl⟩
  ·have hev:k%2=0:=by omega
   rw [hev] at o1' hdm;have hkk:i*k=i*(2*(k/2)):=by
    conv=>lhs;rw [←hdm,Nat.add_zero]
   simp only [go_sem,reduceEqDiff,zgP,show (0:Int)<(k:Int) by omega,o1',show ((0:Nat):Int)=0 from rfl,Int.reduceEq,z6,zG,u1.frz,zO,z6,List.drop_zero,zaG u4,show (1:Int)<(k:Int) by omega,e2,o2']
   exact ⟨_,k/2,rfl,by omega,k/2,i+i,e,s4,s2,w4,w2,by simp only [go_sem,reduceEqDiff,reduceAdd,za],h4,h2,by omega,fun h0=>by have:=Nat.mul_le_mul_left (i+i) h0;omega,by omega,rfl⟩
theorem zQF (h:Nu P L) (h155:Has P L 155 zCK) {v:AV} {z:Int} {K k:Nat} (hv:IsN v z) (hz:Bd K z) (hK:K*k+1≤30000000000) (hk:k<9223372036854775808):∃r,zK P L 155 [v,zh k] r∧IsN r (z^k):=by
 obtain ⟨o1,o2⟩:=zop h (z:=1) (by decide) (by decide);obtain ⟨s1,w1,rfl,h1⟩:=hv;obtain ⟨l1,u1⟩:=h1.isU;have un:=zcz;unfold zK at o1;have goal:∃s w,zK P L 155 [.agg [zh s1,w1],zh k] (.agg [zh s,w])∧Nok s w (z^k):=by
  unfold zK;rw [zf h155];simp only [go_sem,reduceEqDiff,reduceAdd,zCK,zu,u1.pu,u1.one,o1,zO,zaG un];generalize hq:D P L (.loop [1,2,4,5] zgP) _=q;obtain ⟨ex,st,rfl,tm,s5,w5,c1,rfl,rfl,t4,t5,h5⟩:=z8 hq (zF1 (P:=P) (L:=L) h trivial hz (k0:=k) hK (o1:= .int .i64 0) (o2:= .nils) k) ⟨k,1,0,s1,1,w1,.nils,by simp only [go_sem,reduceEqDiff,reduceAdd,za],by rw [Int.pow_one];exact h1,.inl ⟨rfl,(Int.pow_zero z).symm,(by rw [Int.pow_zero];decide),(by rw [Int.pow_zero];decide)⟩,by omega,fun h0=>h0,hk,rfl⟩
  obtain ⟨l5,u5⟩:=h5.isU;refine ⟨s5,w5,?_,h5⟩;simp only [go_sem,reduceEqDiff,reduceAdd,za,t4,t5,zU,zaD,z6,List.drop_zero,zdZ u5,zaG u5]
 obtain ⟨s,w,e,hn⟩:=goal;exact ⟨_,e,s,w,rfl,hn⟩
theorem zfz:∀(l m:List Nat) (a:Nat),zaV (l++m) a=(zaV l a).bind (fun v=>zaV m v)
 | [],m,a=>rfl
 | b::l,m,a=>by
  simp only [List.cons_append,zaV]
  cases (Nat.ble 48 b&&Nat.ble b 57) with
  | true=>exact zfz l m _
  | false=>rfl
theorem zw4:∀{l:List Nat} {a v:Nat},zaV l 0=some v→zaV l a=some (a*10^l.length+v):=by
 intro l
 suffices h:∀{l:List Nat} {a b v:Nat},zaV l b=some v→b*10^l.length≤v∧zaV l (a+b)=some (a*10^l.length+v) by
  intro a v hv
  have:=(h (a:=a) hv).2
  simpa using this
 intro l
 induction l with
 | nil=>intro a b v h;simp [zaV] at h ⊢;omega
 | cons c l ih=>
  intro a b v h;simp only [zaV] at h ⊢
  cases hb:(Nat.ble 48 c&&Nat.ble c 57) with
  | false=>rw [hb] at h;cases h
  | true=>
   rw [hb] at h;simp only [cond_true] at h ⊢;obtain ⟨h1,h2⟩:=ih (a:=10*a) h;rw [show 10*(a+b)+(c-48)=10*a+(10*b+(c-48)) by omega,h2];simp only [List.length_cons,Nat.pow_succ];refine ⟨?_,by rw [Nat.mul_comm 10 a,Nat.mul_assoc a 10,Nat.mul_comm 10 (10^l.length)]⟩;rw [Nat.add_mul] at h1
   have:b*(10^l.length*10)=10*b*10^l.length:=by rw [Nat.mul_comm (10^l.length),←Nat.mul_assoc,Nat.mul_comm b 10]
   omega
theorem zml:∀{l:List Nat} {v:Nat},zaV l 0=some v→v<10^l.length:=by
 suffices h:∀{l:List Nat} {b v:Nat},zaV l b=some v→v<(b+1)*10^l.length by
  intro l v hv
  have:=h hv
  simpa using this
 intro l
 induction l with
 | nil=>intro b v h;simp [zaV] at h ⊢;omega
 | cons c l ih=>
  intro b v h;simp only [zaV] at h
  cases hb:(Nat.ble 48 c&&Nat.ble c 57) with
  | false=>rw [hb] at h;cases h
  | true=>
   rw [hb] at h;simp only [Bool.and_eq_true] at hb;have hc:=Nat.le_of_ble_eq_true hb.2;have h1:=ih h;simp only [List.length_cons,Nat.pow_succ];have h2:=Nat.mul_le_mul_right (10^l.length) (show 10*b+(c-48)+1≤10*(b+1) by omega)
   have:10*(b+1)*10^l.length=(b+1)*(10^l.length*10):=by rw [Nat.mul_comm 10,Nat.mul_assoc,Nat.mul_comm 10]
   omega
theorem zBn (h154:L.pure 154=some zm9) {f:Run} {s:List Nat} {v:Nat} (h0:0<s.length) (h1:s.length≤18) (hv:zaV s 0=some v):zk P L f 154 [.str s]=some (.tup [.int .i64 v,.undef]):=by
 rw [zaA h154];show (bif Nat.blt 0 s.length&&Nat.ble s.length 18 then (match zaV s 0 with | some n=>some (AV.tup [.int .i64 n,.undef]) | none=>none) else none)=_
 rw [zcP h0,Nat.ble_eq_true_of_le h1,hv];rfl
end
end VE
end
