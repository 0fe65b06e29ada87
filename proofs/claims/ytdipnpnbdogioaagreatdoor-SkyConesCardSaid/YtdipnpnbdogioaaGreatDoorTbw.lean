import Derived.Test.YtdipnpnbdogioaaGreatDoorTbv
import Derived.Test.YtdipnpnbdogioaaGreatDoorTbl
set_option linter.all false
set_option maxRecDepth 100000
open Nat (reduceAdd reduceEqDiff reduceLT reduceLeDiff)
section
namespace VE
open Go (IntKind)
structure F4 (c1 c2 c3 c4:AV):Prop where
 frz:∀(n:Nat) (hp:Hp),zah (n+20) hp (.agg [c1,c2,c3,c4])=some (.agg [c1,c2,c3,c4],hp)
 res:∀hp:Hp,zaP hp (.agg [c1,c2,c3,c4])=some (.agg [c1,c2,c3,c4])
 st:∀(hp:Hp) (ct id:Nat) (a b c d:AV),stC hp ct id 0 4 [c1,c2,c3,c4] (some (.cells true true true 4 [a,b,c,d]))=some (.tup [],zac hp id (.cells true true true 4 [c1,c2,c3,c4]),ct)
 bx:∀ct:Nat,zpZ ct 4 [c1,c2,c3,c4]=some (.ptr ct 0,.cells true true true 4 [c1,c2,c3,c4])
 o1:zX c1=true
 o2:zX c2=true
 o3:zX c3=true
 o4:zX c4=true
 pu:zD (.agg [c1,c2,c3,c4])=true
 z1:∀(n:Nat) (hp:Hp),zah (n+1) hp c1=some (c1,hp)
 z2:∀(n:Nat) (hp:Hp),zah (n+1) hp c2=some (c2,hp)
 z3:∀(n:Nat) (hp:Hp),zah (n+1) hp c3=some (c3,hp)
 z4:∀(n:Nat) (hp:Hp),zah (n+1) hp c4=some (c4,hp)
structure F8 (c1 c2 c3 c4 c5 c6 c7 c8:AV):Prop where
 frz:∀(n:Nat) (hp:Hp),zah (n+20) hp (.agg [c1,c2,c3,c4,c5,c6,c7,c8])=some (.agg [c1,c2,c3,c4,c5,c6,c7,c8],hp)
 res:∀hp:Hp,zaP hp (.agg [c1,c2,c3,c4,c5,c6,c7,c8])=some (.agg [c1,c2,c3,c4,c5,c6,c7,c8])
 st:∀(hp:Hp) (ct id:Nat) (a b c d e f g h:AV),stC hp ct id 0 8 [c1,c2,c3,c4,c5,c6,c7,c8] (some (.cells true true true 8 [a,b,c,d,e,f,g,h]))=some (.tup [],zac hp id (.cells true true true 8 [c1,c2,c3,c4,c5,c6,c7,c8]),ct)
 bx:∀ct:Nat,zpZ ct 8 [c1,c2,c3,c4,c5,c6,c7,c8]=some (.ptr ct 0,.cells true true true 8 [c1,c2,c3,c4,c5,c6,c7,c8])
theorem IsQ.gen {v:AV} {a:Rat} (h:IsQ v a):∃c1 c2 c3 c4,v= .agg [c1,c2,c3,c4]∧F4 c1 c2 c3 c4:=by
 obtain ⟨s1,w1,s2,w2,rfl,h1,h2⟩:=h;obtain ⟨l1,u1⟩:=h1.isU;obtain ⟨l2,u2⟩:=h2.isU;refine ⟨_,_,_,_,rfl,fun n hp=>?_,zdX u1 u2,fun hp ct id a b c d=>zdT u1 u2 hp ct id a b c d,fun ct=>by simp only [go_sem,reduceAdd,zi,u1.pu,u1.one,u2.pu,u2.one],rfl,u1.one,rfl,u2.one,by simp [zD,zt,u1.pu,u2.pu],fun _ _=>rfl,fun n _=>u1.frz n,fun _ _=>rfl,fun n _=>u2.frz n⟩;exact zj _ _ (by simp only [go_sem,u1.frz,u2.frz])
theorem IsP.gen {v:AV} {a b:Rat} (h:IsP v a b):∃c1 c2 c3 c4 c5 c6 c7 c8,v= .agg [c1,c2,c3,c4,c5,c6,c7,c8]∧F8 c1 c2 c3 c4 c5 c6 c7 c8:=by
 obtain ⟨s1,w1,s2,w2,s3,w3,s4,w4,rfl,h1,h2,h3,h4⟩:=h;obtain ⟨l1,u1⟩:=h1.isU;obtain ⟨l2,u2⟩:=h2.isU;obtain ⟨l3,u3⟩:=h3.isU;obtain ⟨l4,u4⟩:=h4.isU;refine ⟨_,_,_,_,_,_,_,_,rfl,fun n hp=>?_,zoQ u1 u2 u3 u4,fun hp ct id a b c d e f g h=>zo6 u1 u2 u3 u4 hp ct id a b c d e f g h,fun ct=>by simp only [go_sem,reduceAdd,zi,u1.pu,u1.one,u2.pu,u2.one,u3.pu,u3.one,u4.pu,u4.one]⟩;exact zj _ _ (by simp only [go_sem,u1.frz,u2.frz,u3.frz,u4.frz])
theorem firstI2 {a b:Int}:zM [a,b]=0↔a=0∧b=0:=by
 simp only [zM];by_cases h:a=0<;>by_cases h2:b=0<;>simp [h,h2]
theorem firstI3 {a b c:Int}:zM [a,b,c]=0↔a=0∧b=0∧c=0:=by
 simp only [zM];by_cases h:a=0<;>by_cases h2:b=0<;>by_cases h3:c=0<;>simp [h,h2,h3]
noncomputable def ze0 (x y s:List Nat):Int:=zM [zM [chk x,chk y],zeh s 0]
theorem ze8 {x y s:List Nat} (h:ze0 x y s=0):chk x=0∧chk y=0∧chk s=0∧0≤sgn (zg s).num:=by
 obtain ⟨h1,h2⟩:=firstI2.1 h;obtain ⟨h3,h4⟩:=firstI2.1 h1;obtain ⟨h5,h6⟩:=znq h2;exact ⟨h3,h4,h5,h6⟩
section
variable {P:zQ} {L:Lib}
theorem zf3 {s:List Nat} (h:chk s=0):eqL s [48]=decide (zg s=0):=by
 have:=zDo (zg s)
 rwa [←(zaX h).1] at this
theorem m63 (h:Sp P L) {x y s:List Nat} {w:AV} {hh:Rat} (hs:chk s=0) (hw:IsQ w hh) {K:Nat} (kh:Hq K hh) (hK:K≤1000000000):zx P L 63 [stT x y s,w] (.bool (zcJ (zg s) hh)):=by
 have e1:=m68 h x y s;rw [zf3 hs] at e1;obtain ⟨r,e2,hr⟩:=zn1 h hs;have e3:=m71 h.toFr' hw hr (kh.mono (show K≤K+2400 by omega)) ((za2 hs (Nat.le_refl 2400)).mono (show 2400≤K+2400 by omega)) (by omega);obtain ⟨s1,w1,s2,w2,rfl,h1,h2⟩:=hw;obtain ⟨s3,w3,s4,w4,rfl,h3,h4⟩:=hr;obtain ⟨l1,u1⟩:=h1.isU;obtain ⟨l2,u2⟩:=h2.isU;obtain ⟨l3,u3⟩:=h3.isU;obtain ⟨l4,u4⟩:=h4.isU;unfold zcJ;unfold zx at e1 e2 e3 ⊢;rw [zd h.h63];by_cases h0:zg s=0
 ·rw [decide_eq_true h0] at e1 ⊢;simp only [go_sem,reduceEqDiff,reduceAdd,c63,zj,zi,zbk,u1.pu,u1.one,u2.pu,u2.one,e1,Bool.true_or]
 ·rw [decide_eq_false h0] at e1 ⊢;by_cases hb:hh<zg s
  ·have:=(zh2 _ _).2 hb
   rw [decide_eq_true hb];simp only [go_sem,reduceEqDiff,reduceAdd,c63,zj,zi,zbk,u1.pu,u1.frz,u1.one,u2.pu,u2.frz,u2.one,u3.frz,u4.frz,e1,zcr,zk,Nat.zero_add,zcf,e2,zo,e3,this,decide_true,Bool.false_or]
  ·have:¬zpu hh (zg s)<0:=fun e=>hb ((zh2 _ _).1 e)
   rw [decide_eq_false hb];simp only [go_sem,reduceEqDiff,reduceAdd,c63,zj,zi,zbk,u1.pu,u1.frz,u1.one,u2.pu,u2.frz,u2.one,u3.frz,u4.frz,e1,zcr,zk,Nat.zero_add,zcf,e2,zo,e3,this,decide_false,Bool.or_self]
theorem m64 (h:Sp P L) {dx dy s x y:List Nat} {w:AV} {hh:Rat} (hdx:chk dx=0) (hdy:chk dy=0) (hs:chk s=0) (hx:chk x=0) (hy:chk y=0) (hw:IsQ w hh) {K:Nat} (kh:Hq K hh) (hK:K≤100000000):
  ∃r,zx P L 64 [stT dx dy s,w,plT x y] r∧IsP r (zav (zg s) hh*zg x+hh*zg dx) (zav (zg s) hh*zg y+hh*zg dy):=by
 have e1:=m68 h dx dy s;rw [zf3 hs] at e1;have kx:=(za2 hx (Nat.le_refl 2400));have ky:=(za2 hy (Nat.le_refl 2400));have kdx:=(za2 hdx (Nat.le_refl 2400));have kdy:=(za2 hdy (Nat.le_refl 2400));have ks:=(za2 hs (Nat.le_refl 2400));obtain ⟨M,hM⟩:∃M,M=2*K+8000:=⟨_,rfl⟩;obtain ⟨p,e2,hp⟩:=m54 h hx hy;obtain ⟨d,e3,hd⟩:=m54 h hdx hdy;have hw':=hw;obtain ⟨d2,e4,hd2⟩:=m75 h hd hw (kdx.mono (show 2400≤M by omega)) (kdy.mono (by omega)) (kh.mono (by omega)) (by omega);have ksh:=zme ks kh;have sum:∀{q:AV},IsP q (zav (zg s) hh*zg x) (zav (zg s) hh*zg y)→∃r,zx P L 112 [q,d2] r∧IsP r (zav (zg s) hh*zg x+hh*zg dx) (zav (zg s) hh*zg y+hh*zg dy):=fun {q} hq=>by
  obtain ⟨r,e,hr⟩:=zJw h hq hd2 ((ksh.mul kx).mono (show 2400+K+3+2400≤M by omega)) ((ksh.mul ky).mono (by omega)) ((kdx.mul kh).mono (by omega)) ((kdy.mul kh).mono (by omega)) (by omega);rw [Rat.mul_comm (zg dx),Rat.mul_comm (zg dy)] at hr;exact ⟨r,e,hr⟩
 by_cases h0:zg s=0
 ·rw [decide_eq_true h0] at e1;have hsh:zav (zg s) hh=1:=by unfold zav;rw [if_pos h0]
  obtain ⟨r,e5,hr⟩:=sum (q:=p) (by rw [hsh,Rat.one_mul,Rat.one_mul];exact hp)
  refine ⟨r,?_,hr⟩;obtain ⟨w1,w2,w3,w4,rfl,gw⟩:=hw.gen;obtain ⟨p1,p2,p3,p4,p5,p6,p7,p8,rfl,gp⟩:=hp.gen;obtain ⟨d1,d2',d3,d4,d5,d6,d7,d8,rfl,gd⟩:=hd.gen;obtain ⟨f1,f2,f3,f4,f5,f6,f7,f8,rfl,gf⟩:=hd2.gen;obtain ⟨r1,r2,r3,r4,r5,r6,r7,r8,rfl,gr⟩:=hr.gen;unfold zx at e1 e2 e3 e4 e5 ⊢;rw [zd h.h64];simp only [go_sem,reduceEqDiff,reduceAdd,c64,zj,zi,za0,zbk,zcr,zja,zk,Nat.zero_add,gw.bx,gw.frz,gp.frz,gd.frz,gf.frz,e1,e2,e3,e4,e5,Bool.not_true,zo,gp.st,gr.st,zB,zad,List.drop_zero,gr.res]
 ·rw [decide_eq_false h0] at e1;have hsh:zav (zg s) hh=1-hh/zg s:=by unfold zav;rw [if_neg h0]
  obtain ⟨o,e6,ho⟩:=m69 h.toFr' (z:=1) (by decide) (by decide);obtain ⟨f,e7,hf⟩:=zn1 h hs;obtain ⟨g,e8,hg⟩:=m70 h.toFr' hw hf h0 (kh.mono (show K≤M by omega)) (ks.mono (by omega)) (by omega);have k1:Hq M ((1:Int):Rat):=Hq_1.mono (by omega);obtain ⟨i,e9,hi⟩:=m50 h.toFr' ho hg k1 ((kh.div ks).mono (by omega)) (by omega);rw [show ((1:Int):Rat)-hh/zg s=zav (zg s) hh from hsh.symm] at hi;obtain ⟨q,eA,hq⟩:=m75 h hp hi (kx.mono (show 2400≤M by omega)) (ky.mono (by omega)) (ksh.mono (by omega)) (by omega);rw [Rat.mul_comm (zg x),Rat.mul_comm (zg y)] at hq;obtain ⟨r,e5,hr⟩:=sum hq;refine ⟨r,?_,hr⟩;obtain ⟨w1,w2,w3,w4,rfl,gw⟩:=hw.gen;obtain ⟨p1,p2,p3,p4,p5,p6,p7,p8,rfl,gp⟩:=hp.gen;obtain ⟨d1,d2',d3,d4,d5,d6,d7,d8,rfl,gd⟩:=hd.gen;obtain ⟨f1,f2,f3,f4,f5,f6,f7,f8,rfl,gf⟩:=hd2.gen;obtain ⟨r1,r2,r3,r4,r5,r6,r7,r8,rfl,gr⟩:=hr.gen;obtain ⟨q1,q2,q3,q4,q5,q6,q7,q8,rfl,gq⟩:=hq.gen
  obtain ⟨o1,o2,o3,o4,rfl,go⟩:=ho.gen;obtain ⟨x1,x2,x3,x4,rfl,gx⟩:=hf.gen;obtain ⟨y1,y2,y3,y4,rfl,gy⟩:=hg.gen;obtain ⟨z1,z2,z3,z4,rfl,gz⟩:=hi.gen;unfold zx at e1 e2 e3 e4 e5 e6 e7 e8 e9 eA ⊢;rw [zd h.h64];simp only [go_sem,reduceEqDiff,reduceAdd,c64,zj,zi,za0,zbk,zcr,zja,zk,Nat.zero_add,zcf,gw.bx,gw.frz,gp.frz,gd.frz,gf.frz,go.frz,gx.frz,gy.frz,gz.frz,gq.frz,e1,e2,e3,e4,e5,e6,e7,e8,e9,eA,Bool.not_false,zo,gp.st,gq.st,gr.st,zB,zad,List.drop_zero,gr.res]
end
end VE
end
section
namespace VE
open Go (IntKind)
structure Ss (P:zQ) (L:Lib):Prop extends Sp P L where
 h22:Has P L 22 c22
 h25:Has P L 25 c25
def zr8 (a b:Rat):AV:=if (LG a||LG b)=true then .tup [plT [] [],zh 4] else .tup [plV a b,zh 0]
section
variable {P:zQ} {L:Lib}
noncomputable def zlS (dx dy s hh x y:List Nat):Int:=zM [ze0 dx dy s,zeh hh 0,zM [chk x,chk y]]
noncomputable def zrR (dx dy s hh x y:List Nat):AV:=
 if zlS dx dy s hh x y≠0 then .tup [plT [] [],zh (zlS dx dy s hh x y)]
 else if zcJ (zg s) (zg hh)=false then .tup [plT [] [],zh 31]
 else zr8 (zav (zg s) (zg hh)*zg x+zg hh*zg dx) (zav (zg s) (zg hh)*zg y+zg hh*zg dy)
theorem zjy {hs hh x dx:Rat} {K:Nat} (ks:Hq K hs) (kh:Hq K hh) (kx:Hq K x) (kd:Hq K dx):Hq (5*K+10) (zav hs hh*x+hh*dx):=
 (((zme ks kh).mul kx).add (kh.mul kd)).mono (by omega)
theorem m22 (h:Ss P L) {dx dy s hh x y:List Nat} (ldx:dx.length≤1000000000) (ldy:dy.length≤1000000000) (ls:s.length≤1000000000) (lh:hh.length≤1000000000) (lx:x.length≤1000000000) (ly:y.length≤1000000000):
  zx P L 22 [stT dx dy s,.str hh,plT x y] (zrR dx dy s hh x y):=by
 have e1:=m60 h.toSp ldx ldy ls;have e2:=m61 h.toSp lh 0;have e3:=m53 h.toSp lx ly;have e4:=s33 h.h33 (za8 true [ze0 dx dy s,zeh hh 0,zM [chk x,chk y]]) (by simp);simp only [List.length_cons,List.length_nil,Nat.zero_add,reduceAdd,List.map_cons,List.map_nil] at e4;unfold zrR;rw [show zM [zM [chk dx,chk dy],zeh s 0]=ze0 dx dy s from rfl] at e1;rw [show zM [ze0 dx dy s,zeh hh 0,zM [chk x,chk y]]=zlS dx dy s hh x y from rfl] at e4;unfold zx at e1 e2 e3 ⊢;rw [zd h.h22];by_cases h0:zlS dx dy s hh x y=0
 ·rw [h0] at e4;rw [if_neg (by simp [h0])];obtain ⟨f1,f2,f3⟩:=firstI3.1 h0;obtain ⟨a1,a2,a3,_⟩:=ze8 f1;obtain ⟨a4,_⟩:=znq f2;obtain ⟨a5,a6⟩:=firstI2.1 f3;obtain ⟨w,e5,hw⟩:=zn1 h.toSp a4;have kh:=za2 a4 (Nat.le_refl 2400);have ks:=za2 a3 (Nat.le_refl 2400);have e6:=m63 h.toSp (x:=dx) (y:=dy) a3 hw kh (by omega);obtain ⟨r,e7,hr⟩:=m64 h.toSp a1 a2 a3 a5 a6 hw kh (by omega);have e8:=m65 h.toSp hr (zjy ks kh (za2 a5 (Nat.le_refl 2400)) (za2 a1 (Nat.le_refl 2400))) (zjy ks kh (za2 a6 (Nat.le_refl 2400)) (za2 a2 (Nat.le_refl 2400))) (by omega);obtain ⟨w1,w2,w3,w4,rfl,gw⟩:=hw.gen;obtain ⟨r1,r2,r3,r4,r5,r6,r7,r8,rfl,gr⟩:=hr.gen;rw [f1] at e1;rw [f2] at e2;rw [f3] at e3;rw [f1,f2,f3] at e4;unfold zr8;unfold zx at e5 e6 e7 e8
  cases hb:zcJ (zg s) (zg hh) with
  | false=>
   rw [hb] at e6;rw [if_pos rfl];simp only [go_sem,reduceEqDiff,reduceAdd,reduceLT,reduceLeDiff,Nat.mul_one,c22,zj,zi,za0,zbk,zcr,Nat.zero_add,e1,e2,e3,e4,decide_true,Bool.not_true,e5,zo,gw.st,gw.frz,e6,Bool.not_false,zaH,zB,zad,List.drop_zero];rfl
  | true=>
   rw [hb] at e6;rw [if_neg (by decide)]
   cases hg:(LG (zav (zg s) (zg hh)*zg x+zg hh*zg dx)||LG (zav (zg s) (zg hh)*zg y+zg hh*zg dy)) with
   | true=>
    rw [hg,if_pos rfl] at e8;rw [if_pos rfl];simp only [go_sem,reduceEqDiff,reduceAdd,reduceLT,reduceLeDiff,Nat.mul_one,c22,zj,zi,za0,zbk,zcr,Nat.zero_add,e1,e2,e3,e4,decide_true,Bool.not_true,e5,zo,gw.st,gw.frz,e6,e7,gr.frz,e8,zaH];rfl
   | false=>
    rw [hg,if_neg (by decide)] at e8;rw [if_neg (by decide)];simp only [go_sem,reduceEqDiff,reduceAdd,reduceLT,reduceLeDiff,Nat.mul_one,c22,zj,zi,za0,zbk,zcr,Nat.zero_add,e1,e2,e3,e4,decide_true,Bool.not_true,e5,zo,gw.st,gw.frz,e6,e7,gr.frz,e8,zaH];rfl
 ·rw [if_pos h0];simp only [go_sem,reduceEqDiff,reduceAdd,reduceLT,reduceLeDiff,Nat.mul_one,c22,zj,zi,za0,zbk,Nat.zero_add,e1,e2,e3,e4,h0,decide_false,Bool.not_false,zaH];rfl
theorem zht:zbM=1/2:=by
 have h:zbM=Rat.divInt 1 2:=Rat.mk_eq_divInt ..;rw [h,Rat.divInt_eq_div];rfl
theorem half_lt {a b:Rat}:a*zbM<b↔a<2*b:=by
 rw [zht];constructor<;>intro h<;>grind
theorem zzM (a:Rat):a/((2:Int):Rat)=a*zbM:=by rw [zht];grind
theorem zAk {s t:Rat} (h0:s≠0) (h1:0≤s) (h2:0≤t) (h3:t<2*s):s-t*zbM≠0∧s+t*zbM≠0:=by
 rw [zht];constructor<;>intro e<;>grind
noncomputable def zgN (dx dy s t:List Nat):Int:=zM [ze0 dx dy s,if eqL s [48]=true then 13 else 0,zeh t 0]
noncomputable def ziI (s t lx ly x y:List Nat):Int:=zM [if zg t<2*zg s then 0 else 3,zM [chk lx,chk ly],zM [chk x,chk y]]
noncomputable def zq2 (dx dy s t lx ly x y:List Nat):AV:=
 if zgN dx dy s t≠0 then .tup [plT [] [],zh (zgN dx dy s t)]
 else if ziI s t lx ly x y≠0 then .tup [plT [] [],zh (ziI s t lx ly x y)]
 else zr8 (zeq (zg s) (zg t)*(zg x+ -1*zg lx)) (zeq (zg s) (zg t)*(zg y+ -1*zg ly))
theorem zdu {q:Rat} (h:0≤sgn q.num):0≤q:=by
 refine Rat.num_nonneg.1 ?_;unfold sgn at h
 split at h
 ·exact absurd h (by decide)
 ·omega
theorem zkT {s t:Rat} {K:Nat} (ks:Hq K s) (kt:Hq K t):Hq (4*K+20) (zeq s t):=by
 have kh:=kt.mul zAT;exact ((ks.sub kh).inv.sub (ks.add kh).inv).mono (by omega)
theorem zfd {x lx:Rat} {K:Nat} (kx:Hq K x) (kl:Hq K lx):Hq (2*K+10) (x+ -1*lx):=(kx.add (Hq_m1.mul kl)).mono (by omega)
theorem zrD (x l:Rat):x-l=x+ -1*l:=by grind
theorem m25 (h:Ss P L) {dx dy s t lx ly x y:List Nat} (ldx:dx.length≤1000000000) (ldy:dy.length≤1000000000) (ls:s.length≤1000000000) (lt:t.length≤1000000000) (llx:lx.length≤1000000000) (lly:ly.length≤1000000000) (lx':x.length≤1000000000) (ly':y.length≤1000000000):
  zx P L 25 [stT dx dy s,.str t,plT lx ly,plT x y] (zq2 dx dy s t lx ly x y):=by
 have e1:=m60 h.toSp ldx ldy ls;have e2:=m68 h.toSp dx dy s;have e3:=s31 h.h31 (eqL s [48]) 13;have e4:=m61 h.toSp lt 0;have e5:=s33 h.h33 (za8 true [ze0 dx dy s,if eqL s [48]=true then 13 else 0,zeh t 0]) (by simp);simp only [List.length_cons,List.length_nil,Nat.zero_add,reduceAdd,List.map_cons,List.map_nil] at e5;rw [show zM [zM [chk dx,chk dy],zeh s 0]=ze0 dx dy s from rfl] at e1;rw [show zM [ze0 dx dy s,if eqL s [48]=true then 13 else 0,zeh t 0]=zgN dx dy s t from rfl] at e5;unfold zq2;unfold zx at e1 e2 e3 e4 ⊢;rw [zd h.h25];by_cases h0:zgN dx dy s t=0
 ·have h0':¬zgN dx dy s t≠0:=by simp [h0]
  rw [if_neg h0'];obtain ⟨f1,f2,f3⟩:=firstI3.1 h0;obtain ⟨a1,a2,a3,a3'⟩:=ze8 f1;obtain ⟨a4,a4'⟩:=znq f3;have hnat:eqL s [48]=false:=by
   cases hb:eqL s [48] with
   | false=>rfl
   | true=>rw [hb] at f2;exact absurd f2 (by decide)
  have hs0:zg s≠0:=by
   have:=zf3 a3
   rw [hnat] at this;exact of_decide_eq_false this.symm
  have hsn:=zdu a3';have htn:=zdu a4';have ks:=za2 a3 (Nat.le_refl 2400);have kt:=za2 a4 (Nat.le_refl 2400);obtain ⟨w,g1,hw⟩:=zn1 h.toSp a4;obtain ⟨o,g2,ho⟩:=m69 h.toFr' (z:=2) (by decide) (by decide);have k2:Hq 2400 ((2:Int):Rat):=Hq_2.mono (by omega);obtain ⟨f,g3,hf⟩:=m70 h.toFr' hw ho (by decide) kt k2 (by omega);rw [zzM] at hf;obtain ⟨z,g4,hz⟩:=zn1 h.toSp a3;have kh:=kt.mul zAT;obtain ⟨M,hM⟩:∃M,M=20000:=⟨_,rfl⟩;have g5:=m71 h.toFr' hf hz (kh.mono (show 2400+2≤M by omega)) (ks.mono (by omega)) (by omega);have g7:=m53 h.toSp llx lly;have g8:=m53 h.toSp lx' ly';have g9:=s33 h.h33 (za8 true [if zg t<2*zg s then 0 else 3,zM [chk lx,chk ly],zM [chk x,chk y]]) (by simp);simp only [List.length_cons,List.length_nil,Nat.zero_add,reduceAdd,List.map_cons,List.map_nil] at g9
  rw [show zM [if zg t<2*zg s then 0 else 3,zM [chk lx,chk ly],zM [chk x,chk y]]=ziI s t lx ly x y from rfl] at g9;have g6:∃c:Int,zp P L (D P L) 71 [f,z]=some (zh c)∧zp P L (D P L) 31 [.bool (decide (0≤c)),zh 3]=some (zh (if zg t<2*zg s then 0 else 3)):=by
   refine ⟨_,g5,?_⟩;by_cases hlt:zg t<2*zg s
   ·have h1:=(zh2 _ _).2 (half_lt.2 hlt);rw [if_pos hlt,decide_eq_false (by omega)];exact s31 h.h31 false 3
   ·have h1:¬zpu (zg t*zbM) (zg s)<0:=fun e=>hlt (half_lt.1 ((zh2 _ _).1 e))
    rw [if_neg hlt,decide_eq_true (by omega)];exact s31 h.h31 true 3
  obtain ⟨c,g5,g6⟩:=g6;have hf':=hf;have hz':=hz;obtain ⟨w1,w2,w3,w4,rfl,gw⟩:=hw.gen;obtain ⟨o1,o2,o3,o4,rfl,go⟩:=ho.gen;obtain ⟨f1',f2',f3',f4',rfl,gf⟩:=hf.gen;obtain ⟨z1,z2,z3,z4,rfl,gz⟩:=hz.gen;rw [hnat] at e2 e3;simp only [Bool.false_eq_true,if_false] at e3;rw [f1] at e1;rw [f3] at e4;rw [h0,f1,hnat,f3] at e5;simp only [Bool.false_eq_true,if_false] at e5;unfold zx at g1 g2 g3 g4 g7 g8;by_cases h1:ziI s t lx ly x y=0
  ·rw [if_neg (by simp [h1])];rw [h1] at g9;obtain ⟨i1,i2,i3⟩:=firstI3.1 h1;obtain ⟨j1,j2⟩:=firstI2.1 i2;obtain ⟨j3,j4⟩:=firstI2.1 i3;have hlt:zg t<2*zg s:=by
    by_cases hl:zg t<2*zg s
    ·exact hl
    ·rw [if_neg hl] at i1;exact absurd i1 (by decide)
   obtain ⟨n1,n2⟩:=zAk hs0 hsn htn hlt;rw [i1] at g6 g9;rw [i2] at g7 g9;rw [i3] at g8 g9;have klx:=za2 j1 (Nat.le_refl 2400);have kly:=za2 j2 (Nat.le_refl 2400);have kx:=za2 j3 (Nat.le_refl 2400);have ky:=za2 j4 (Nat.le_refl 2400);obtain ⟨p,q1,hp⟩:=m54 h.toSp j3 j4;obtain ⟨l,q2,hl⟩:=m54 h.toSp j1 j2;obtain ⟨d,q3,hd⟩:=m72 h.toSp hp hl (kx.mono (show 2400≤M by omega)) (ky.mono (by omega)) (klx.mono (by omega)) (kly.mono (by omega)) (by omega);obtain ⟨a,q4,ha⟩:=m50 h.toFr' hz' hf' (ks.mono (show 2400≤M by omega)) (kh.mono (by omega)) (by omega);obtain ⟨b,q5,hb⟩:=m73 h.toFr' ha n1 ((ks.sub kh).mono (show 2400+(2400+2)+1≤M by omega)) (by omega);obtain ⟨c',q6,hc⟩:=m74 h.toFr' hz' hf' (ks.mono (show 2400≤M by omega)) (kh.mono (by omega)) (by omega);obtain ⟨e,q7,he⟩:=m73 h.toFr' hc n2 ((ks.add kh).mono (show 2400+(2400+2)+1≤M by omega)) (by omega)
   obtain ⟨g,q8,hg⟩:=m50 h.toFr' hb he ((ks.sub kh).inv.mono (show 2400+(2400+2)+1≤M by omega)) ((ks.add kh).inv.mono (by omega)) (by omega);rw [show (zg s-zg t*zbM)⁻¹-(zg s+zg t*zbM)⁻¹=zeq (zg s) (zg t) from rfl] at hg;rw [zrD,zrD] at hd;have kel:=zkT ks kt;obtain ⟨r,q9,hr⟩:=m75 h.toSp hd hg ((zfd kx klx).mono (show 2*2400+10≤M by omega)) ((zfd ky kly).mono (by omega)) (kel.mono (by omega)) (by omega);rw [Rat.mul_comm (zg x+ -1*zg lx),Rat.mul_comm (zg y+ -1*zg ly)] at hr;have qA:=m65 h.toSp hr ((kel.mul (zfd kx klx)).mono (show 4*2400+20+(2*2400+10)≤M by omega)) ((kel.mul (zfd ky kly)).mono (by omega)) (by omega);obtain ⟨p1,p2,p3,p4,p5,p6,p7,p8,rfl,gp⟩:=hp.gen;obtain ⟨l1,l2,l3,l4,l5,l6,l7,l8,rfl,gl⟩:=hl.gen;obtain ⟨d1,d2,d3,d4,d5,d6,d7,d8,rfl,gd⟩:=hd.gen;obtain ⟨r1,r2,r3,r4,r5,r6,r7,r8,rfl,gr⟩:=hr.gen
   obtain ⟨a1',a2',a3',a4',rfl,ga⟩:=ha.gen;obtain ⟨b1,b2,b3,b4,rfl,gb⟩:=hb.gen;obtain ⟨c1,c2,c3,c4,rfl,gc⟩:=hc.gen;obtain ⟨y1,y2,y3,y4,rfl,ge⟩:=he.gen;obtain ⟨x1,x2,x3,x4,rfl,gg⟩:=hg.gen;unfold zr8;unfold zx at q1 q2 q3 q4 q5 q6 q7 q8 q9 qA
   cases hL:(LG (zeq (zg s) (zg t)*(zg x+ -1*zg lx))||LG (zeq (zg s) (zg t)*(zg y+ -1*zg ly))) with
   | true=>
    rw [hL,if_pos rfl] at qA;rw [if_pos rfl];simp only [go_sem,reduceEqDiff,reduceAdd,reduceLT,reduceLeDiff,Nat.mul_one,c25,zj,zi,za0,zbk,zcr,zk,Nat.zero_add,e1,e2,e3,e4,e5,decide_true,Bool.not_true,g1,g2,g3,g4,zcf,zo,gw.frz,go.frz,gf.st,gz.st,gf.frz,gz.frz,g5,g6,g7,g8,q1,q2,gp.frz,gl.frz,q3,q4,ga.frz,q5,q6,gc.frz,q7,gb.frz,ge.frz,q8,gd.frz,gg.frz,q9,gr.frz,qA,zaH];rfl
   | false=>
    rw [hL,if_neg (by decide)] at qA;rw [if_neg (by decide)];simp only [go_sem,reduceEqDiff,reduceAdd,reduceLT,reduceLeDiff,Nat.mul_one,c25,zj,zi,za0,zbk,zcr,zk,Nat.zero_add,e1,e2,e3,e4,e5,decide_true,Bool.not_true,g1,g2,g3,g4,zcf,zo,gw.frz,go.frz,gf.st,gz.st,gf.frz,gz.frz,g5,g6,g7,g8,q1,q2,gp.frz,gl.frz,q3,q4,ga.frz,q5,q6,gc.frz,q7,gb.frz,ge.frz,q8,gd.frz,gg.frz,q9,gr.frz,qA,zaH];rfl
  ·rw [if_pos h1];simp only [go_sem,reduceEqDiff,reduceAdd,reduceLT,reduceLeDiff,Nat.mul_one,c25,zj,zi,za0,zbk,zcr,zk,Nat.zero_add,e1,e2,e3,e4,e5,decide_true,Bool.not_true,g1,g2,g3,g4,zcf,zo,gw.frz,go.frz,gf.st,gz.st,gf.frz,gz.frz,g5,g6,g7,g8,g9,h1,decide_false,Bool.not_false,zaH];rfl
 ·rw [if_pos h0];simp only [go_sem,reduceEqDiff,reduceAdd,reduceLT,reduceLeDiff,Nat.mul_one,c25,zj,zi,zbk,Nat.zero_add,e1,e2,e3,e4,e5,h0,decide_false,Bool.not_false,zaH];rfl
end
end VE
end
section
namespace VE
open Go (IntKind)
theorem zrk (a b c d:List Nat):zex (.ag [2,2]) (plT a b) (plT c d)=some (eqL a c&&eqL b d):=by
 show z7 [2,2] [.str a,.str b] [.str c,.str d]=_
 simp only [z7];cases eqL a c<;>cases eqL b d<;>rfl
section
variable {P:zQ} {L:Lib}
end
end VE
end
section
namespace VE
open Go (IntKind)
theorem znN {r:Rat} (h:0≤r):0≤sgn r.num:=by
 have:=Rat.num_nonneg.2 h
 unfold sgn
 split
 ·omega
 ·split<;>decide
theorem zr0 {r:Rat} {K:Nat} (k:Hq K r) (hK:K≤1800) (h:0≤r):zeh (RT r) 0=0:=by
 unfold zeh
 rw [if_pos (zqK k hK),zo3 k hK,if_neg (by have:=znN h;omega)]
structure zjw (a b c d e:List Nat):Prop where
 dx:zcq 6 a=true
 dy:zcq 6 b=true
 s:zcq 6 c=true
 st:ze0 a b c=0
 x:zcq 6 d=true
 y:zcq 6 e=true
theorem zel {dx dy s x y:List Nat} (h:zjw dx dy s x y) {t:Rat} {K:Nat} (kt:Hq K t) (hK0:24≤K) (hK:K≤200) (h0:0≤t):zrR dx dy s (RT t) x y=
  if zcJ (zg s) t=false then .tup [plT [] [],zh 31] else .tup [plV (zav (zg s) t*zg x+t*zg dx) (zav (zg s) t*zg y+t*zg dy),zh 0]:=by
 have hE:zlS dx dy s (RT t) x y=0:=by
  unfold zlS;rw [h.st,zr0 kt (by omega) h0,(zO h.x).2.1,(zO h.y).2.1];decide
 have k1:=zjy ((zO h.s).2.2.mono hK0) kt ((zO h.x).2.2.mono hK0) ((zO h.dx).2.2.mono hK0);have k2:=zjy ((zO h.s).2.2.mono hK0) kt ((zO h.y).2.2.mono hK0) ((zO h.dy).2.2.mono hK0);unfold zrR;rw [hE,if_neg (by simp),zo3 kt (by omega)];unfold zr8;rw [zry k1 (by omega),zry k2 (by omega)];rfl
theorem zhB {dx dy s x y lx ly:List Nat} (h:zjw dx dy s x y) (hs0:zg s≠0) (flx:zcq 6 lx=true) (fly:zcq 6 ly=true) {t:Rat} (kt:Hq 24 t) (h0:0≤t) (h1:t<2*zg s):zq2 dx dy s (RT t) lx ly x y=
  .tup [plV (zeq (zg s) t*(zg x+ -1*zg lx)) (zeq (zg s) t*(zg y+ -1*zg ly)),zh 0]:=by
 have hn:eqL s [48]=false:=by rw [zf3 (zO h.s).2.1];exact decide_eq_false hs0
 have hE:zgN dx dy s (RT t)=0:=by
  unfold zgN;rw [h.st,hn,zr0 kt (by decide) h0];rfl
 have hE2:ziI s (RT t) lx ly x y=0:=by
  unfold ziI;rw [zo3 kt (by decide),if_pos h1,(zO h.x).2.1,(zO h.y).2.1,(zO flx).2.1,(zO fly).2.1];decide
 have ke:=zkT (zO h.s).2.2 kt;have k1:=ke.mul (zfd (zO h.x).2.2 (zO flx).2.2);have k2:=ke.mul (zfd (zO h.y).2.2 (zO fly).2.2);unfold zq2;rw [hE,if_neg (by simp),hE2,if_neg (by simp),zo3 kt (by decide)];unfold zr8;rw [zry k1 (by decide),zry k2 (by decide)];rfl
structure zcy (P:zQ) (L:Lib):Prop where
 r:S0 P L
 p:Ss P L
 h14:Has P L 14 c14
 h277:Has P L 277 zoB
 h356:Has P L 356 c356
 h357:Has P L 357 zym
 h358:Has P L 358 zA6
 h359:Has P L 359 zoZ
 awake:zx P L 1 [] (.bool true)
section
variable {P:zQ} {L:Lib}
theorem a14 (h14:Has P L 14 c14) (a b:List Nat):zx P L 14 [.str a,.str b] (plT a b):=by
 unfold zx;rw [zd h14];simp only [go_sem,reduceEqDiff,reduceAdd,reduceLeDiff,c14,zi,zaH];rfl
theorem zxp (h:zcy P L) {x y:List Nat} (hx:x.length<9223372036854775808) (hy:y.length<9223372036854775808):zx P L 358 [plT x y,zh 6] (.bool (zcq 6 x&&zcq 6 y)):=by
 have e1:=zFt h.r.toRn h.h359 hx;have e2:=zFt h.r.toRn h.h359 hy;unfold zx at e1 e2 ⊢;rw [zd h.h358];cases h1:zcq 6 x<;>rw [h1] at e1
 ·simp only [go_sem,reduceEqDiff,reduceAdd,zA6,zi,zk,Nat.zero_add,e1,Bool.false_and]
 ·simp only [go_sem,reduceEqDiff,reduceAdd,zA6,zi,zk,Nat.zero_add,zag,e1,e2,Bool.true_and]
theorem zGT (h:zcy P L) {x y s:List Nat} (hx:x.length<9223372036854775808) (hy:y.length<9223372036854775808) (hs:s.length<9223372036854775808):zx P L 357 [stT x y s,zh 6] (.bool (zcq 6 x&&zcq 6 y&&(zcq 6 s&&decide (ze0 x y s=0)))):=by
 have e1:=zxp h hx hy;have e2:=zFt h.r.toRn h.h359 hs;unfold zx at e1 e2 ⊢;rw [zd h.h357];cases h1:(zcq 6 x&&zcq 6 y)<;>rw [h1] at e1
 ·simp only [go_sem,reduceEqDiff,reduceAdd,zym,zi,zk,Nat.zero_add,za0,zj,e1,Bool.false_and]
 ·cases h2:zcq 6 s<;>rw [h2] at e2
  ·simp only [go_sem,reduceEqDiff,reduceAdd,zym,zi,zk,Nat.zero_add,zcf,za0,zj,e1,e2,Bool.false_and,Bool.true_and]
  ·rw [Bool.and_eq_true] at h1;obtain ⟨l1,_⟩:=zO h1.1;obtain ⟨l2,_⟩:=zO h1.2;obtain ⟨l3,_⟩:=zO h2;have e3:=zJJ h.r (x:=x) (y:=y) (s:=s) (by omega) (by omega) (by omega);unfold zx at e3;rw [show zM [zM [chk x,chk y],zeh s 0]=ze0 x y s from rfl] at e3;simp only [go_sem,reduceEqDiff,reduceAdd,zym,zi,zk,Nat.zero_add,zcf,za0,zbk,zj,e1,e2,e3,Bool.true_and]
end
end VE
end
section
namespace VE
open Go (IntKind)
def zbP (p:Int):Rat:=Rat.divInt (p.tmod 255) 255
theorem zvg {p:Int} (h0:0≤p) (h1:p<256):0≤zbP p∧zbP p<1∧Hq 8 (zbP p):=by
 have hb:0≤p.tmod 255∧p.tmod 255<255:=⟨Int.tmod_nonneg 255 h0,Int.tmod_lt_of_pos p (by decide)⟩;unfold zbP;generalize p.tmod 255=n at hb;obtain ⟨m,rfl⟩:∃m:Nat,n=m:=⟨n.toNat,by omega⟩;refine ⟨?_,?_,Hq.divInt (by decide) (by unfold Bd;rw [Int.natAbs_natCast];omega) (by decide)⟩
 ·exact Rat.divInt_nonneg (by omega) (by decide)
 ·rw [Rat.divInt_eq_div];have h2:((m:Int):Rat)<((255:Int):Rat):=Rat.intCast_lt_intCast.2 hb.2;have h3:((255:Int):Rat)=255:=rfl;rw [h3] at h2 ⊢
  grind
theorem zm8 (hp:Hp) (ct id:Nat) (a b c:List Nat) (x y z:AV):stC hp ct id 0 3 [.str a,.str b,.str c] (some (.cells true true true 3 [x,y,z]))=some (.tup [],zac hp id (.cells true true true 3 [.str a,.str b,.str c]),ct):=by
 rw [zl9 (by rfl) (by simp) (by rfl)];rfl
abbrev zqH (dx dy s x y:List Nat) (fr:Int):Obj:= .cells true true true 6 [.str dx,.str dy,.str s,.str x,.str y,zh fr]
abbrev pr2 (a b:List Nat):Obj:= .cells true true true 2 [.str a,.str b]
abbrev st3 (a b c:List Nat):Obj:= .cells true true true 3 [.str a,.str b,.str c]
section
variable {P:zQ} {L:Lib} {dx dy s x y ox oy:List Nat} {fr p:Int}
theorem zAo (h:zcy P L) (hf:zjw dx dy s x y) (hx:zcq 6 ox=true) (hy:zcq 6 oy=true) (h0:0≤p) (h1:p<256):
  ∃tm,D P L (ziv 5 c356.body) ⟨[(0,.agg [.str dx,.str dy,.str s,.str x,.str y,zh fr]),(1,.agg [.str ox,.str oy]),(2,.int .u8 p)],[],0,0⟩=some (.normal,⟨tm,[(3,pr2 x y),(2,st3 dx dy s),(1,pr2 ox oy),(0,zqH dx dy s x y fr)],4,0⟩)∧
   zc tm 3= .ptr 0 0∧zc tm 4= .ptr 1 0∧zc tm 7= .ptr 2 0∧zc tm 10= .str (RT (zbP p)):=by
 have ea:=h.awake;obtain ⟨l1,_⟩:=zO hf.dx;obtain ⟨l2,_⟩:=zO hf.dy;obtain ⟨l3,c3,_⟩:=zO hf.s;obtain ⟨l4,c4,_⟩:=zO hf.x;obtain ⟨l5,c5,_⟩:=zO hf.y;obtain ⟨l6,_⟩:=zO hx;obtain ⟨l7,_⟩:=zO hy;have e1:=zGT h (x:=dx) (y:=dy) (s:=s) (by omega) (by omega) (by omega);have e2:=zxp h (x:=x) (y:=y) (by omega) (by omega);have e3:=zxp h (x:=ox) (y:=oy) (by omega) (by omega);rw [hf.dx,hf.dy,hf.s,hf.st] at e1;rw [hf.x,hf.y] at e2;rw [hx,hy] at e3;have e4:=m22 h.p (dx:=dx) (dy:=dy) (s:=s) (hh:=[48]) (x:=x) (y:=y) (by omega) (by omega) (by omega) (by decide) (by omega) (by omega);have hs0:=zdu (ze8 hf.st).2.2.2;have hbl:zcJ (zg s) 0=true:=by
  unfold zcJ;by_cases hq:zg s=0
  ·rw [decide_eq_true hq];rfl
  ·rw [decide_eq_true (show (0:Rat)<zg s by grind),Bool.or_true]
 have hsh:zav (zg s) 0=1:=by
  unfold zav
  split
  ·rfl
  ·grind
 have e4':=zel hf (Hq_0.mono (show 2≤24 by decide)) (by decide) (by decide) (by grind);rw [zxk,hbl,if_neg (by decide),hsh,show ∀a b:Rat,1*a+0*b=a from fun a b=>by grind] at e4';unfold plV at e4';rw [show ∀a b:Rat,1*a+0*b=a from fun a b=>by grind,←(zaX c4).1,←(zaX c5).1] at e4';rw [e4'] at e4;have hm:0≤p.tmod 255∧p.tmod 255<255:=⟨Int.tmod_nonneg 255 h0,Int.tmod_lt_of_pos p (by decide)⟩;have e5:=zye h.r.toRn (a:=p.tmod 255) (b:=255) (by omega) (by omega);rw [show Rat.divInt (p.tmod 255) 255=zbP p from rfl] at e5;unfold zx at ea e1 e2 e3 e4 e5;have dr3:List.drop 3 [AV.str dx,.str dy,.str s,.str x,.str y,zh fr]=[.str x,.str y,zh fr]:=rfl
 refine ⟨_,(by simp only [go_sem,reduceEqDiff,reduceAdd,c356,ziv,zaf,zu,zk,Nat.zero_add,za0,zbk,dr3,zj,zi,zaH,zm8,decide_true,Bool.not_true,Bool.and_self,ea,e1,e2,e3,e4,zrk,zf7,zd9,zq9,zf (n:=p) (by omega) (by omega),zaw .i64 p 255 (by decide),e5]<;>rfl),?_,?_,?_,?_⟩<;>simp only [go_sem,reduceEqDiff]
theorem zwL:List.drop 3 [AV.str dx,.str dy,.str s,.str x,.str y,zh fr]=[.str x,.str y,zh fr]:=rfl
theorem zze:List.drop 4 [AV.str dx,.str dy,.str s,.str x,.str y,zh fr]=[.str y,zh fr]:=rfl
theorem zjS (h:zcy P L) (hx:zcq 6 x=true) (hy:zcq 6 ox=true):zp P L (D P L) 271 [.str x,.str ox]=some (.str (RT (zg x-zg ox))):=by
 have e:=zjk h.r.toRn (zO hx).2.2 (zO hy).2.2 (by decide);rw [←(zaX (zO hx).2.1).1,←(zaX (zO hy).2.1).1] at e;exact e
theorem zie (h:zcy P L) {a b:Rat} {K:Nat} (ka:Hq K a) (kb:Hq K b) (hK:K≤1800):zp P L (D P L) 308 [plV a b]=some (zh 0):=by
 have e:=zHe h.r (x:=RT a) (y:=RT b) (by have:=zeR ka;omega) (by have:=zeR kb;omega);rw [zqK ka hK,zqK kb hK] at e;exact e
theorem zyS (h:zcy P L) (hf:zjw dx dy s x y) (hg:zjw dx dy s ox oy) (hp:0≤zbP p) (kp:Hq 8 (zbP p)) (hn:eqL s [48]=true) {tm:Env} {o3:Obj} (t3:zc tm 3= .ptr 0 0) (t4:zc tm 4= .ptr 1 0) (t7:zc tm 7= .ptr 2 0) (t10:zc tm 10= .str (RT (zbP p))):
  zdc [.t 6] (D P L (zdy 5 c356.body) ⟨tm,[(3,o3),(2,st3 dx dy s),(1,pr2 ox oy),(0,zqH dx dy s x y fr)],4,0⟩)=some (.bool true):=by
 obtain ⟨l1,q1,k1⟩:=zO hf.dx;obtain ⟨l2,q2,k2⟩:=zO hf.dy;obtain ⟨l3,q3,k3⟩:=zO hf.s;obtain ⟨l4,q4,k4⟩:=zO hf.x;obtain ⟨l5,q5,k5⟩:=zO hf.y;obtain ⟨l6,q6,k6⟩:=zO hg.x;obtain ⟨l7,q7,k7⟩:=zO hg.y;have hs0:zg s=0:=by
  have:=zf3 q3
  rw [hn] at this;exact of_decide_eq_true this.symm
 have kT:=kp.mono (show 8≤24 by decide);have lT:=zeR kp;have hbl:zcJ (zg s) (zbP p)=true:=by unfold zcJ;rw [hs0];rfl
 have hsh:zav (zg s) (zbP p)=1:=by unfold zav;rw [hs0,if_pos rfl]
 have e1:=m22 h.p (dx:=dx) (dy:=dy) (s:=s) (hh:=RT (zbP p)) (x:=x) (y:=y) (by omega) (by omega) (by omega) (by omega) (by omega) (by omega);have e2:=m22 h.p (dx:=dx) (dy:=dy) (s:=s) (hh:=RT (zbP p)) (x:=ox) (y:=oy) (by omega) (by omega) (by omega) (by omega) (by omega) (by omega);rw [zel hf kT (by decide) (by decide) hp,hbl,if_neg (by decide),hsh] at e1;rw [zel hg kT (by decide) (by decide) hp,hbl,if_neg (by decide),hsh] at e2;have kf:=fun {a d:Rat} (ka:Hq 24 a) (kd:Hq 24 d)=>(((Hq_1.mul ka).add (kT.mul kd)).mono (show 2+24+(24+24)+1≤80 by decide):Hq 80 (1*a+zbP p*d))
 have e3:=zie h (kf k4 k1) (kf k5 k2) (by decide);have e4:=zie h (kf k6 k1) (kf k7 k2) (by decide);have e5:=zjk h.r.toRn (kf k4 k1) (kf k6 k1) (by decide);have e6:=zjk h.r.toRn (kf k5 k2) (kf k7 k2) (by decide);rw [show 1*zg x+zbP p*zg dx-(1*zg ox+zbP p*zg dx)=zg x-zg ox by grind] at e5;rw [show 1*zg y+zbP p*zg dy-(1*zg oy+zbP p*zg dy)=zg y-zg oy by grind] at e6;have e7:=zjS h hf.x hg.x;have e8:=zjS h hf.y hg.y;unfold zx at e1 e2 e5 e6;have dr3:=@zwL dx dy s x y fr;have dr4:=@zze dx dy s x y fr
 simp only [go_sem,reduceEqDiff,reduceAdd,c356,zu,zdy,t3,t4,t7,t10,zk,Nat.zero_add,zag,za0,zbk,dr3,dr4,zcf,zj,zi,zaH,decide_true,Bool.and_self,zd9,zbq,Int.reduceAdd,zf (n:=0) (by decide) (by decide),hn,e1,e2,e3,e4,e5,e6,e7,e8]
theorem zyD (h:zcy P L) (hf:zjw dx dy s x y) (hn:eqL s [48]=false) {tm:Env} {o3 o1:Obj} (t3:zc tm 3= .ptr 0 0) (t4:zc tm 4= .ptr 1 0) (t7:zc tm 7= .ptr 2 0) (t10:zc tm 10= .str (RT (zbP p))):
  ∃tm' o4 o5,D P L (ziv 3 (zdy 5 c356.body)) ⟨tm,[(3,o3),(2,st3 dx dy s),(1,o1),(0,zqH dx dy s x y fr)],4,0⟩=some (.normal,⟨tm',[(5,o5),(4,o4),(3,o3),(2,st3 dx dy s),(1,o1),(0,zqH dx dy s x y fr)],6,0⟩)∧
   zc tm' 3= .ptr 0 0∧zc tm' 4= .ptr 1 0∧zc tm' 7= .ptr 2 0∧zc tm' 10= .str (RT (zbP p)):=by
 obtain ⟨l1,q1,k1⟩:=zO hf.dx;obtain ⟨l2,q2,k2⟩:=zO hf.dy;obtain ⟨l3,q3,k3⟩:=zO hf.s;obtain ⟨l4,q4,k4⟩:=zO hf.x;obtain ⟨l5,q5,k5⟩:=zO hf.y;have hs0:zg s≠0:=by
  have:=zf3 q3
  rw [hn] at this;exact of_decide_eq_false this.symm
 have hs1:=zdu (ze8 hf.st).2.2.2;have kh:=k3.mul zAT;have lh:=zeR kh;have e1:=zl0 h.r.toRn k3 k1 (by decide);have e2:=zl0 h.r.toRn k3 k2 (by decide);have e3:=zD9 h.r k3 (by decide);rw [←(zaX q3).1] at e1 e2 e3;rw [←(zaX q1).1] at e1;rw [←(zaX q2).1] at e2;have hv:=zht;have hbl:zcJ (zg s) (zg s*zbM)=true:=by
  unfold zcJ;rw [decide_eq_true (show zg s*zbM<zg s by rw [hv];grind),Bool.or_true]
 have hsh:zav (zg s) (zg s*zbM)=zbM:=by
  unfold zav;rw [if_neg hs0,hv];grind
 have e4:=m22 h.p (dx:=dx) (dy:=dy) (s:=s) (hh:=RT (zg s*zbM)) (x:=x) (y:=y) (by omega) (by omega) (by omega) (by omega) (by omega) (by omega);rw [zel hf kh (by decide) (by decide) (by rw [hv];grind),hbl,if_neg (by decide),hsh] at e4
 have e5:=zxP h.r.toRn k4 (k3.mul k1) (by decide);have e6:=zxP h.r.toRn k5 (k3.mul k2) (by decide);rw [←(zaX q4).1] at e5;rw [←(zaX q5).1] at e6;have e7:=zD9 h.r (k4.add (k3.mul k1)) (by decide);have e8:=zD9 h.r (k5.add (k3.mul k2)) (by decide);rw [show (zg x+zg s*zg dx)*zbM=zbM*zg x+zg s*zbM*zg dx by grind] at e7;rw [show (zg y+zg s*zg dy)*zbM=zbM*zg y+zg s*zbM*zg dy by grind] at e8;have e9:=fun a b=>a14 h.h14 a b
 unfold zx at e1 e2 e3 e4 e5 e6 e7 e8 e9;have dr3:=@zwL dx dy s x y fr;have dr4:=@zze dx dy s x y fr;refine ⟨_,_,_,(by simp only [go_sem,reduceEqDiff,reduceAdd,c356,ziv,zaf,zu,zdy,t3,t7,zk,Nat.zero_add,zag,za0,zbk,dr3,dr4,zcf,zj,zi,zaH,decide_true,Bool.not_true,Bool.and_self,zrk,zf7,zd9,zbq,hn,e1,e2,e3,e4,e5,e6,e7,e8,e9]<;>rfl),?_,?_,?_,?_⟩<;>simp only [go_sem,reduceEqDiff,t3,t4,t7,t10]
end
end VE
end
