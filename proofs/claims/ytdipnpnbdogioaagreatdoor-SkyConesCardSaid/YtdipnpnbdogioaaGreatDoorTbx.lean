import Derived.Test.YtdipnpnbdogioaaGreatDoorTbw
import Derived.Test.YtdipnpnbdogioaaGreatDoorTbn
import Derived.Test.YtdipnpnbdogioaaGreatDoorTax
import Derived.Test.YtdipnpnbdogioaaGreatDoorTbm
set_option linter.all false
set_option maxRecDepth 100000
open Nat (reduceAdd reduceEqDiff)
section
namespace VE
open Go (IntKind)
theorem zJ3:zcq 6 [48]=true∧zg [48]=0:=by
 have h:zg [48]=0:=by
  have:=zo3 Hq_0 (by decide)
  rwa [zxk] at this
 refine ⟨?_,h⟩;unfold zcq;rw [h];decide
section
variable {P:zQ} {L:Lib} {dx dy s x y ox oy:List Nat} {fr p:Int}
theorem zzO (h:zcy P L) (hf:zjw dx dy s x y) (hg:zjw dx dy s ox oy) (hp:0≤zbP p) (hp1:zbP p<1) (kp:Hq 8 (zbP p)) (hn:eqL s [48]=false) {tm:Env} {o3 o4 o5:Obj} (t3:zc tm 3= .ptr 0 0) (t4:zc tm 4= .ptr 1 0) (t7:zc tm 7= .ptr 2 0) (t10:zc tm 10= .str (RT (zbP p))):
  ∃tm' o6 o7 o8 o9,D P L (ziv 6 (zdy 3 (zdy 5 c356.body))) ⟨tm,[(5,o5),(4,o4),(3,o3),(2,st3 dx dy s),(1,pr2 ox oy),(0,zqH dx dy s x y fr)],6,0⟩=some (.normal,⟨tm',[(9,o9),(8,o8),(7,o7),(6,o6),(5,o5),(4,o4),(3,o3),(2,st3 dx dy s),(1,pr2 ox oy),(0,zqH dx dy s x y fr)],10,0⟩)∧
   zc tm' 3= .ptr 0 0∧zc tm' 4= .ptr 1 0∧zc tm' 7= .ptr 2 0:=by
 obtain ⟨l1,q1,k1⟩:=zO hf.dx;obtain ⟨l2,q2,k2⟩:=zO hf.dy;obtain ⟨l3,q3,k3⟩:=zO hf.s;obtain ⟨l4,q4,k4⟩:=zO hf.x;obtain ⟨l5,q5,k5⟩:=zO hf.y;obtain ⟨l6,q6,k6⟩:=zO hg.x;obtain ⟨l7,q7,k7⟩:=zO hg.y;have hs0:zg s≠0:=by
  have:=zf3 q3
  rw [hn] at this;exact of_decide_eq_false this.symm
 have hs1:=zdu (ze8 hf.st).2.2.2;have hsp:0<zg s:=by grind
 obtain ⟨T,hT⟩:∃T,T=zbP p:=⟨_,rfl⟩;rw [←hT] at hp hp1 kp t10;have kh:=kp.mul k3;have lh:=zeR kh;have e1:=zl0 h.r.toRn kp k3 (by decide);rw [←(zaX q3).1] at e1;have hlt:T*zg s<zg s:=by
  have:=Rat.mul_lt_mul_of_pos_right hp1 hsp
  rwa [Rat.one_mul] at this
 have hbl:zcJ (zg s) (T*zg s)=true:=by
  unfold zcJ;rw [decide_eq_true hlt,Bool.or_true]
 have hbs:zcJ (zg s) (zg s)=false:=by
  unfold zcJ;rw [decide_eq_false hs0,decide_eq_false (by grind)];rfl
 have hsh:zav (zg s) (T*zg s)=1-T:=by
  unfold zav;rw [if_neg hs0];grind
 have h0:0≤T*zg s:=Rat.mul_nonneg hp hs1;have e2:=m22 h.p (dx:=dx) (dy:=dy) (s:=s) (hh:=RT (T*zg s)) (x:=x) (y:=y) (by omega) (by omega) (by omega) (by omega) (by omega) (by omega);have e3:=m22 h.p (dx:=dx) (dy:=dy) (s:=s) (hh:=RT (T*zg s)) (x:=ox) (y:=oy) (by omega) (by omega) (by omega) (by omega) (by omega) (by omega);rw [zel hf kh (by decide) (by decide) h0,hbl,if_neg (by decide),hsh] at e2;rw [zel hg kh (by decide) (by decide) h0,hbl,if_neg (by decide),hsh] at e3;have e4:=m22 h.p (dx:=dx) (dy:=dy) (s:=s) (hh:=s) (x:=x) (y:=y) (by omega) (by omega) (by omega) (by omega) (by omega) (by omega);have e4':=zel hf k3 (by decide) (by decide) hs1;rw [←(zaX q3).1,hbs,if_pos rfl] at e4';rw [e4'] at e4
 have e5:=m25 h.p (dx:=dx) (dy:=dy) (s:=s) (t:=[48]) (lx:=ox) (ly:=oy) (x:=x) (y:=y) (by omega) (by omega) (by omega) (by decide) (by omega) (by omega) (by omega) (by omega);have e5':=zhB hf hs0 hg.x hg.y (Hq_0.mono (show 2≤24 by decide)) (by grind) (by grind);have hE:zeq (zg s) 0=0:=by
  unfold zeq;rw [Rat.zero_mul,show zg s-0=zg s by grind,show zg s+0=zg s by grind]
  grind
 rw [zxk,hE,Rat.zero_mul,Rat.zero_mul] at e5';rw [e5'] at e5;unfold plV at e5;rw [zxk] at e5;have k1T:=Hq_1.sub kp;have kf:=fun {a d:Rat} (ka:Hq 24 a) (kd:Hq 24 d)=>(((k1T.mul ka).add (kh.mul kd)).mono (show 2+8+1+24+(8+24+24)+1≤100 by decide):Hq 100 ((1-T)*a+T*zg s*d))
 have e6:=zie h (kf k4 k1) (kf k5 k2) (by decide);have e7:=zie h (kf k6 k1) (kf k7 k2) (by decide);have e8:=zjk h.r.toRn Hq_1 kp (by decide);rw [zJ2] at e8;have e9:=zjk h.r.toRn (kf k4 k1) (kf k6 k1) (by decide);have e10:=zjk h.r.toRn (kf k5 k2) (kf k7 k2) (by decide);rw [show (1-T)*zg x+T*zg s*zg dx-((1-T)*zg ox+T*zg s*zg dx)=(1-T)*(zg x-zg ox) by grind] at e9;rw [show (1-T)*zg y+T*zg s*zg dy-((1-T)*zg oy+T*zg s*zg dy)=(1-T)*(zg y-zg oy) by grind] at e10;have e11:=zjS h hf.x hg.x;have e12:=zjS h hf.y hg.y;have e13:=zl0 h.r.toRn k1T (k4.sub k6) (by decide);have e14:=zl0 h.r.toRn k1T (k5.sub k7) (by decide);have e15:=a14 h.h14 [48] [48];unfold zx at e1 e2 e3 e4 e5 e8 e9 e10 e13 e14 e15;have dr3:=@zwL dx dy s x y fr;have dr4:=@zze dx dy s x y fr
 refine ⟨_,_,_,_,_,(by simp only [go_sem,reduceEqDiff,reduceAdd,c356,ziv,zaf,zu,zdy,t3,t4,t7,t10,zk,Nat.zero_add,zag,za0,zbk,dr3,dr4,zcf,zj,zi,zaH,decide_true,Bool.not_true,Bool.and_self,zrk,zf7,zd9,zeA,Int.reduceAdd,zf (n:=0) (by decide) (by decide),e1,e2,e3,e4,e5,e6,e7,e8,e9,e10,e11,e12,e13,e14,e15]<;>rfl),?_,?_,?_⟩<;>simp only [go_sem,reduceEqDiff,t3,t4,t7]
theorem zzZ (h:zcy P L) (hf:zjw dx dy s x y) (hg:zjw dx dy s ox oy) (hn:eqL s [48]=false) {tm:Env} {o3 o4 o5 o6 o7 o8 o9:Obj} (t3:zc tm 3= .ptr 0 0) (t4:zc tm 4= .ptr 1 0) (t7:zc tm 7= .ptr 2 0):
  zdc [.t 6] (D P L (zdy 6 (zdy 3 (zdy 5 c356.body))) ⟨tm,[(9,o9),(8,o8),(7,o7),(6,o6),(5,o5),(4,o4),(3,o3),(2,st3 dx dy s),(1,pr2 ox oy),(0,zqH dx dy s x y fr)],10,0⟩)=some (.bool true):=by
 obtain ⟨l1,q1,k1⟩:=zO hf.dx;obtain ⟨l2,q2,k2⟩:=zO hf.dy;obtain ⟨l3,q3,k3⟩:=zO hf.s;obtain ⟨l4,q4,k4⟩:=zO hf.x;obtain ⟨l5,q5,k5⟩:=zO hf.y;obtain ⟨l6,q6,k6⟩:=zO hg.x;obtain ⟨l7,q7,k7⟩:=zO hg.y;have hs0:zg s≠0:=by
  have:=zf3 q3
  rw [hn] at this;exact of_decide_eq_false this.symm
 have hs1:=zdu (ze8 hf.st).2.2.2;have hlt:zg s<2*zg s:=by grind
 obtain ⟨z1,z2⟩:=zJ3;have ks:Hq 24 (zg s):=k3;have e1:=m25 h.p (dx:=dx) (dy:=dy) (s:=s) (t:=s) (lx:=[48]) (ly:=[48]) (x:=x) (y:=y) (by omega) (by omega) (by omega) (by omega) (by decide) (by decide) (by omega) (by omega);have e2:=m25 h.p (dx:=dx) (dy:=dy) (s:=s) (t:=s) (lx:=[48]) (ly:=[48]) (x:=ox) (y:=oy) (by omega) (by omega) (by omega) (by omega) (by decide) (by decide) (by omega) (by omega);have e3:=m25 h.p (dx:=dx) (dy:=dy) (s:=s) (t:=s) (lx:=ox) (ly:=oy) (x:=x) (y:=y) (by omega) (by omega) (by omega) (by omega) (by omega) (by omega) (by omega) (by omega);have f1:=zhB hf hs0 z1 z1 ks hs1 hlt;have f2:=zhB hg hs0 z1 z1 ks hs1 hlt;have f3:=zhB hf hs0 hg.x hg.y ks hs1 hlt;rw [←(zaX q3).1] at f1 f2 f3;rw [z2] at f1 f2;rw [f1] at e1;rw [f2] at e2;rw [f3] at e3;have ke:=zkT k3 k3;generalize zeq (zg s) (zg s)=E at*
 have kf:=fun {a:Rat} (ka:Hq 24 a)=>(ke.mul (zfd ka (Hq_0.mono (show 2≤24 by decide))))
 have e4:=zie h (kf k4) (kf k5) (by decide);have e5:=zie h (kf k6) (kf k7) (by decide);have e6:=zjk h.r.toRn (kf k4) (kf k6) (by decide);have e7:=zjk h.r.toRn (kf k5) (kf k7) (by decide);rw [show E*(zg x+ -1*0)-E*(zg ox+ -1*0)=E*(zg x+ -1*zg ox) by grind] at e6;rw [show E*(zg y+ -1*0)-E*(zg oy+ -1*0)=E*(zg y+ -1*zg oy) by grind] at e7;have e8:=fun a b=>a14 h.h14 a b
 unfold zx at e1 e2 e3 e6 e7 e8;have dr3:=@zwL dx dy s x y fr;have dr4:=@zze dx dy s x y fr
 simp only [go_sem,reduceEqDiff,reduceAdd,c356,zu,zdy,t3,t4,t7,zk,Nat.zero_add,zag,za0,zbk,dr3,zcf,zj,zi,zaH,decide_true,Bool.and_self,zrk,zai,zd9,Int.reduceAdd,zf (n:=0) (by decide) (by decide),e1,e2,e3,e4,e5,e6,e7,e8]
theorem zt1 (h:zcy P L) (b1:dx.length<9223372036854775808) (b2:dy.length<9223372036854775808) (b3:s.length<9223372036854775808) (b4:x.length<9223372036854775808) (b5:y.length<9223372036854775808) (b6:ox.length<9223372036854775808) (b7:oy.length<9223372036854775808) (h0:0≤p) (h1:p<256):
  zx P L 356 [.agg [.str dx,.str dy,.str s,.str x,.str y,zh fr],.agg [.str ox,.str oy],.int .u8 p] (.bool true):=by
 have ea:=h.awake;have e1:=zGT h b1 b2 b3;have e2:=zxp h b4 b5;have e3:=zxp h b6 b7;have dr3:=@zwL dx dy s x y fr;unfold zx at ea e1 e2 e3;unfold zx;rw [zd h.h356]
 cases c1:(zcq 6 dx&&zcq 6 dy&&(zcq 6 s&&decide (ze0 dx dy s=0))) with
 | false=>
  rw [c1] at e1;simp only [go_sem,reduceEqDiff,reduceAdd,c356,zk,Nat.zero_add,zbk,zj,zi,zm8,Bool.not_false,Bool.not_true,ea,e1]
 | true=>
  rw [c1] at e1
  cases c2:(zcq 6 x&&zcq 6 y) with
  | false=>
   rw [c2] at e2;simp only [go_sem,reduceEqDiff,reduceAdd,c356,zk,Nat.zero_add,za0,zbk,dr3,zj,zi,zm8,Bool.not_false,Bool.not_true,ea,e1,e2]
  | true=>
   rw [c2] at e2
   cases c3:(zcq 6 ox&&zcq 6 oy) with
   | false=>
    rw [c3] at e3;simp only [go_sem,reduceEqDiff,reduceAdd,c356,zk,Nat.zero_add,za0,zbk,dr3,zj,zi,zm8,Bool.not_false,Bool.not_true,ea,e1,e2,e3]
   | true=>
    simp only [Bool.and_eq_true,decide_eq_true_eq] at c1 c2 c3;have hf:zjw dx dy s x y:=⟨c1.1.1,c1.1.2,c1.2.1,c1.2.2,c2.1,c2.2⟩;have hg:zjw dx dy s ox oy:=⟨c1.1.1,c1.1.2,c1.2.1,c1.2.2,c3.1,c3.2⟩;obtain ⟨hp,hp1,kp⟩:=zvg h0 h1;show zdc [.t 6] (D P L c356.body ⟨[(0,.agg [.str dx,.str dy,.str s,.str x,.str y,zh fr]),(1,.agg [.str ox,.str oy]),(2,.int .u8 p)],[],0,0⟩)=_
    obtain ⟨tm,eA,t3,t4,t7,t10⟩:=zAo (fr:=fr) h hf c3.1 c3.2 h0 h1
    rw [zjJ 5 (c:=c356.body) (by refine ⟨rfl,rfl,rfl,rfl,rfl,?_⟩;show _=_;rfl),eA,zas]
    cases hn:eqL s [48] with
    | true=>exact zyS h hf hg hp kp hn t3 t4 t7 t10
    | false=>
     obtain ⟨tm',o4,o5,eC,t3,t4,t7,t10⟩:=zyD (fr:=fr) (o3:= .cells true true true 2 [.str x,.str y]) (o1:= .cells true true true 2 [.str ox,.str oy]) h hf hn t3 t4 t7 t10
     rw [zjJ 3 (c:=zdy 5 c356.body) (by refine ⟨rfl,rfl,rfl,?_⟩;show _=_;rfl),eC,zas]
     obtain ⟨tm'',o6,o7,o8,o9,eD,t3,t4,t7⟩:=zzO (fr:=fr) (o3:= .cells true true true 2 [.str x,.str y]) (o4:=o4) (o5:=o5) h hf hg hp hp1 kp hn t3 t4 t7 t10
     rw [zjJ 6 (c:=zdy 3 (zdy 5 c356.body)) (by refine ⟨rfl,rfl,rfl,rfl,rfl,rfl,?_⟩;show _=_;rfl),eD,zas]
     exact zzZ h hf hg hn t3 t4 t7
end
end VE
end
section
namespace VE
open Go (IntKind)
abbrev conesT:List Ty:=[zKA,znm,.int .u8]
theorem zqc {P:zQ} {L:Lib} (h:zcy P L) {ls:List (List AV)} (hs:All2 Shp conesT ls):zx P L 356 (zn8 conesT ls) (.bool true):=by
 obtain ⟨_,_,_,rfl,ha,hb,hc⟩:=zDx hs;obtain ⟨_,_,rfl,h1,_,_,rfl,h2,_,_,rfl,⟨fr,rfl,_⟩,rfl⟩:=ha;obtain ⟨dx,dy,s,rfl,b1,b2,b3⟩:=zyd h1;obtain ⟨x,y,rfl,b4,b5⟩:=zio h2;obtain ⟨ox,oy,rfl,b6,b7⟩:=zio hb;obtain ⟨p,rfl,hp⟩:=hc;have bd:0≤p∧p<256:=by
  simp only [Go.Lit.wf,Bool.and_eq_true,decide_eq_true_eq] at hp;have h1:IntKind.u8.min=0:=rfl;have h2:IntKind.u8.max=255:=rfl;rw [h1,h2] at hp;omega
 exact zt1 h b1 b2 b3 b4 b5 b6 b7 bd.1 bd.2
end VE
end
section
namespace VE
namespace J2
open Go Go.Proofs
def T:List (Tr Ent):=[.n 1 [.o 7 [] (.bool true)] .l .l]
def L0:VE.Lib:=zqj VE.lib 99 zjC
def L1:VE.Lib:=zA7 L0 T 1000
theorem nu:Nu VE.prog VE.lib:=by
 repeat' (first | rfl | constructor)
theorem lw:zcy VE.prog L1:=by
 repeat' (first | rfl | constructor)
section
variable {W:World} {m:Int} (hm:W.cell? ⟨0,0,none⟩=some (.int .i64 m)) (ht:Go.Lib.TabIs Tryz.prog W "internal/strconv.uint64pow10" .u64 Go.Lib.pow10Tab)
include hm ht
theorem zEC:zaz ((J1.Λ W).withLib L1):=by
 have hΛ:=J1.link_ok hm ht;have hs:=zsJ hΛ nu rfl rfl rfl ⟨rfl,rfl,rfl⟩ (fn:=Tryz.f141) (c:=znZ) Tryz.func141 rfl rfl trivial zuI;have hT:AllT (J1.Λ W) T:=AllT.cons (Tr.all_n (AllC.one (VK1.holds hΛ rfl rfl)) Tr.all_l Tr.all_l) AllT.nil;exact zrh (zsO hΛ hs) hT 1000
theorem law {ls:List (List AV)} (hs:All2 Shp conesT ls):PureC (J1.Λ W) 356 (zn8 conesT ls) (.bool true):=by
 obtain ⟨k,hk⟩:=zxe (zqc lw hs);exact zxw (zEC hm ht) hk
end
end J2
end VE
end
