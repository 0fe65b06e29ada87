import Derived.Test.YtlkgmaenobiooaaGreatDoorTaz
import Derived.Test.YtlkgmaenobiooaaGreatDoorTav
import Derived.Test.YtlkgmaenobiooaaGreatDoorTaq
import Derived.Test.YtlkgmaenobiooaaGreatDoorTau
set_option linter.all false
set_option maxRecDepth 100000
open Bool renaming not_false→yH,not_true→yI
open List renaming drop→wK,drop_zero→ye
open Nat renaming mul_one→yj,reduceAdd→yb,reduceEqDiff→ya,reduceLT→yr,reduceLeDiff→yi,zero_add→yd
open Rat renaming sub_eq_add_neg→wE
namespace VE
section
open Go (IntKind)
structure KL (P:aJ) (L:Lib):Prop where
 b:JR P L
 r:FP P L
 Sm:Has P L 269 Ht
 Il:Has P L 197 Hk
 Ih:Has P L 198 c198
 Ij:Has P L 199 Hl
 E8:Has P L 219 Hr
 eE:Has P L 261 nJ
 jh:Has P L 316 Az
 Sy:Has P L 393 L9
 kI:Has P L 395 CI
 sX:Has P L 396 EN
 qu:Has P L 401 Hz
 Fc:Has P L 402 Ma
 M5:Has P L 415 Xa
 eQ:Has P L 419 mL
 sU:Has P L 422 EO
 Sz:Has P L 453 HC
 Ii:Has P L 454 HE
 ab3:Has P L 455 QN
 ab5:Has P L 456 QO
 ab4:Has P L 457 QP
 ab6:Has P L 458 QQ
 sD:ai P L 179 [] (.bool true)
def axM (a b c d:List Nat):(if cB a b=0 then cB c d else cB a b)=dn a b c d:=by
 unfold dn cX cX cX
 split<;>simp_all
def aop (x:Rat):0-x= -x:=by rw [wE,Rat.zero_add]
section
variable {P:aJ} {L:Lib}
def KL.rl (h:KL P L):Rl P L:={h.r.toRm with Sm:=h.Sm}
def atv (h:KL P L) {a b c d a' b' c' d':List Nat} (ls:∀s,s∈[a,b,c,d,a',b',c',d']->s.length<9223372036854775808):ai P L 453 [dh a b c d,dh a' b' c' d'] (.bool true):=by
 have ea:=h.sD;have ew:=ab9 h.Sy (rh true [a,b,c,d,a',b',c',d']) (by simp) ls;simp only [List.length_cons,List.length_nil,yd,yb,List.map_cons,List.map_nil] at ew;have fX:∀a b c d:AV,wK 2 [a,b,c,d]=[c,d]:=fun _ _ _ _=>rfl
 have DF:∀a b c d:AV,wK 3 [a,b,c,d]=[d]:=fun _ _ _ _=>rfl
 have o6:∀x a b c d e f g k:AV,over 6 [x] [a,b,c,d,e,f,g,k]=[a,b,c,d,e,f,x,k]:=fun _ _ _ _ _ _ _ _ _=>rfl
 have o7:∀x a b c d e f g k:AV,over 7 [x] [a,b,c,d,e,f,g,k]=[a,b,c,d,e,f,g,x]:=fun _ _ _ _ _ _ _ _ _=>rfl
 cases hw:pT [a,b,c,d,a',b',c',d'] with
 | true=>
  rw [hw] at ew;unfold dh;unfold ai at ea ew ⊢;rw [ax h.Sz];simp only [go_sem,ya,yb,yr,yi,yj,HC,az,aP,yd,fX,DF,o6,o7,bj,ye,ea,yI,ew]
 | false=>
  have ln:∀s,s∈[a,b,c,d,a',b',c',d']->s.length<=1000000000:=fun s hs=>Nat.le_trans (Vn hw s hs) (by decide)
  rw [hw] at ew;have la:=ln a (by simp);have lb:=ln b (by simp);have lc:=ln c (by simp);have ld:=ln d (by simp);have nf:=ln a' (by simp);have nh:=ln b' (by simp);have ni:=ln c' (by simp);have nj:=ln d' (by simp);have e1:=ab7 h.r.toRp h.eE h.r.bD h.eQ h.sU la lb lc ld;have e2:=ab7 h.r.toRp h.eE h.r.bD h.eQ h.sU nf nh ni nj;rw [axM] at e1 e2;have e3:=Fb h.b.toCk h.b.dW h.b.iN h.b.jE h.b.AR la lb lc ld;have e4:=aof h.b h.Ih la lb lc ld;have e5:=aoh h.b h.Ij la lb lc ld;have e6:=aog h.b h.Ii la lb lc ld nf nh ni nj;have e7:=aoi h.b h.Il la lb lc ld nf nh ni nj;have e8:ai P L 415 [.ap true 2 [ab (dn a b c d),ab (dn a' b' c' d')]] (ab (nZ a b c d a' b' c' d')):=Tc (n:=415) (h:=(show Has P L 415 Di from h.M5)) (gG true [dn a b c d,dn a' b' c' d']) (by simp)
  have k:∀{t:List Nat},bE t=0->Hq 2400 (ae t):=fun c=>jx c (Nat.le_refl 2400)
  by_cases h1:dn a b c d=0
  ·obtain ⟨⟨c1,c2,o1⟩,c3,c4,o2⟩:=rk h1;have hT:dh a b c d=jL (ae a) (ae b) (ae c) (ae d):=by unfold dh jL;rw [<-(dZ c1).1,<-(dZ c2).1,<-(dZ c3).1,<-(dZ c4).1]
   have z1:=aFc h.r h.E8 h.ab3 (k c1) (k c2) (k c3) (k c4) (by decide) (by decide);have z2:=aFe h.r h.ab5 (k c1) (k c2) (k c3) (k c4) (by decide) (by decide);rw [<-hT] at z1 z2;rw [aop,aop] at z1;have l1:=BT (k c1) (k c2);have l2:=BT (k c3) (k c4);have m1:=(fZ (k c1) (k c2) (k c1) (k c2)).mono (show 2*2400<=2*2400+2 by decide);have m2:=(fZ (k c3) (k c4) (k c3) (k c4)).mono (show 2*2400<=2*2400+2 by decide);change ai P L 456 [dh a b c d] (cF (mZ (ae a) (ae b)+mZ (ae c) (ae d)) (du (ae a) (ae b) (ae a) (ae b)+du (ae c) (ae d) (ae c) (ae d))) at z2
   rw [<-OW o1,<-OW o2] at z2;obtain ⟨p1,p2,p3,p4,p5,f1,y1⟩:=Vm h.rl h.jh h.Fc h.sX (k c1) (k c2) (k c4).neg (k c3).neg (by decide);obtain ⟨q1,q2,q3,f2,y2⟩:=DT h.rl h.jh h.qu h.kI ((l1.add l2).mono (show _<=20000 by decide)) ((m1.add m2).mono (by decide)) (by decide);unfold NX at e4;unfold NY at e5;rw [yp (by simp [h1]),f1] at e4;rw [yp (by simp [h1]),f2] at e5;generalize gM (ae a) (ae b)+gM (ae c) (ae d)=A1 at*
   generalize du (ae a) (ae b) (ae a) (ae b)+du (ae c) (ae d) (ae c) (ae d)=A2 at*
   rw [h1] at e1 e3;by_cases h2:nZ a b c d a' b' c' d'=0
   ·have h3:dn a' b' c' d'=0:=(nt.1 h2).2;obtain ⟨⟨b1,b2,o3⟩,b3,b4,o4⟩:=rk h3;have qJ:dh a' b' c' d'=jL (ae a') (ae b') (ae c') (ae d'):=by unfold dh jL;rw [<-(dZ b1).1,<-(dZ b2).1,<-(dZ b3).1,<-(dZ b4).1]
    have z3:=aFd h.r h.ab4 (k c1) (k c2) (k c3) (k c4) (k b1) (k b2) (k b3) (k b4) (by decide);have z4:=aFf h.r h.ab6 (k c1) (k c2) (k c3) (k c4) (k b1) (k b2) (k b3) (k b4) (by decide);rw [<-hT,<-qJ] at z3 z4
    change ai P L 458 [dh a b c d,dh a' b' c' d'] (jL (fH (ae a) (ae b) (ae a') (ae b')-du (ae c) (ae d) (ae c') (ae d')) (du (ae a) (ae b) (ae a') (ae b')-fH (ae c) (ae d) (ae c') (ae d'))
     (fH (ae a) (ae b) (ae c') (ae d')+fH (ae c) (ae d) (ae a') (ae b')) (du (ae a) (ae b) (ae c') (ae d')+du (ae c) (ae d) (ae a') (ae b'))) at z4
    rw [wE,wE] at z4;have ka:∀{x y:Rat},Hq 2400 x->Hq 2400 y->Hq 10000 (x+y):=fun h1 h2=>(h1.add h2).mono (by decide)
    have kb:∀{x y:Rat},Hq (2*2400) x->Hq (2*2400) y->Hq 20000 (x+y):=fun h1 h2=>(h1.add h2).mono (by decide)
    obtain ⟨r1,r2,r3,r4,r5,f3,y3⟩:=Vm h.rl h.jh h.Fc h.sX (ka (k c1) (k b1)) (ka (k c2) (k b2)) (ka (k c3) (k b3)) (ka (k c4) (k b4)) (by decide);obtain ⟨s1,s2,s3,s4,s5,f4,y4⟩:=Vm h.rl h.jh h.Fc h.sX (kb (kj (k c1) (k c2) (k b1) (k b2)) (fZ (k c3) (k c4) (k b3) (k b4)).neg) (kb (fZ (k c1) (k c2) (k b1) (k b2)) (kj (k c3) (k c4) (k b3) (k b4)).neg)
     (kb (kj (k c1) (k c2) (k b3) (k b4)) (kj (k c3) (k c4) (k b1) (k b2))) (kb (fZ (k c1) (k c2) (k b3) (k b4)) (fZ (k c3) (k c4) (k b1) (k b2))) (by decide)
    unfold Ig at e6;unfold Ik at e7;rw [yp (by simp [h2]),f3] at e6;rw [yp (by simp [h2]),f4] at e7;generalize fH (ae a) (ae b) (ae a') (ae b')+ -du (ae c) (ae d) (ae c') (ae d')=B1 at*
    generalize du (ae a) (ae b) (ae a') (ae b')+ -fH (ae c) (ae d) (ae c') (ae d')=B2 at*
    generalize fH (ae a) (ae b) (ae c') (ae d')+fH (ae c) (ae d) (ae a') (ae b')=B3 at*
    generalize du (ae a) (ae b) (ae c') (ae d')+du (ae c) (ae d) (ae a') (ae b')=B4 at*
    rw [h3] at e2;rw [h2,h1,h3] at e8;unfold dh at*
    unfold ai at ea ew e1 e2 e3 e4 e5 e6 e7 e8 y1 y2 y3 y4 z1 z2 z3 z4 ⊢;rw [ax h.Sz];simp only [go_sem,ya,yb,yr,yi,yj,HC,az,aP,yd,fX,DF,o6,o7,bj,ye,cp,eL,aU,ea,yI,ew,e1,e2,e3,e4,e5,e6,e7,e8,y1,y2,y3,y4,z1,z2,z3,z4,ym,nB,bP]
   ·have h3:nZ a b c d a' b' c' d'=dn a' b' c' d':=by unfold nZ;simp only [cX,h1,xm];split<;>simp_all
    rw [h3] at h2 e8;have y3:=agP h.sX h2 a b c d;unfold Ig at e6;unfold Ik at e7;rw [h3,yz h2] at e6 e7;rw [h1] at e8;unfold dh at*
    unfold ai at ea ew e1 e2 e3 e4 e5 e6 e7 e8 y1 y2 y3 z1 z2 ⊢;rw [ax h.Sz];simp only [go_sem,ya,yb,yr,yi,yj,HC,az,aP,yd,fX,DF,o6,o7,bj,ye,cp,eL,aU,ea,yI,ew,e1,e2,e3,e4,e5,e6,e7,e8,y1,y2,y3,z1,z2,h2,yk,ym,yH,nB,bP]
  ·have h2:nZ a b c d a' b' c' d'=dn a b c d:=yp h1;have y1:=Kv h.kI h1 a b;have y2:=agP h.sX h1 a b c d;unfold NX at e4;unfold NY at e5;unfold Ig at e6;unfold Ik at e7;rw [yz h1] at e4 e5;rw [yz (by rw [h2];exact h1),h2] at e6 e7
   rw [h2] at e8;unfold dh bF at*
   unfold ai at ea ew e1 e2 e3 e4 e5 e6 e7 e8 y1 y2 ⊢;rw [ax h.Sz];simp only [go_sem,ya,yb,yr,yi,yj,HC,az,aP,yd,fX,DF,o6,o7,bj,ye,cp,eL,aU,ea,yI,ew,e1,e2,e3,e4,e5,e6,e7,e8,y1,y2,h1,yk,ym,yH,nB,bP]
end
end
section
open Go (IntKind)
abbrev ace:Ty:= .cat Ae (.cat Ae .nil)
abbrev Lq:List Ty:=[ace,ace]
def ajX {l:List AV} (h:iU ace l):∃x y z t:List Nat,l=[.str x,.str y,.str z,.str t]/\x.length<9223372036854775808/\y.length<9223372036854775808/\z.length<9223372036854775808/\t.length<9223372036854775808:=by
 obtain ⟨_,_,rfl,h1,_,_,rfl,h2,rfl⟩:=h;obtain ⟨x,y,rfl,hx,hy⟩:=BN h1;obtain ⟨z,t,rfl,hz,ht⟩:=BN h2;exact ⟨x,y,z,t,rfl,hx,hy,hz,ht⟩
def arL {P:aJ} {L:Lib} (h:KL P L) {ls:List (List AV)} (hs:hJ iU Lq ls):ai P L 453 (oz Lq ls) (.bool true):=by
 obtain ⟨_,_,rfl,h1,h2⟩:=ak2 hs;obtain ⟨a,b,c,d,rfl,la,lb,lc,ld⟩:=ajX h1;obtain ⟨a',b',c',d',rfl,nf,nh,ni,nj⟩:=ajX h2;exact atv h (fun s hs=>by simp only [List.mem_cons,List.not_mem_nil,vt] at hs;rcases hs with rfl | rfl | rfl | rfl | rfl | rfl | rfl | rfl<;>assumption)
end
section
namespace J2
open Go Go.Proofs
def T:List (Tr aq):=[.n 179 [.o 7 [] (.bool true)] .l .l]
def L0:VE.Lib:=Ei VE.aE 99 BY
def L1:VE.Lib:=CO L0 T 1000
def nu:Nu VE.prog VE.aE:=by
 repeat' (first | rfl | constructor)
def lw:KL VE.prog L1:=by
 repeat' (first | rfl | constructor)
section
variable {W:World} {m:Int} (hm:W.cell? ⟨1,0,none⟩=some (.int .i64 m)) (ht:Go.Lib.TabIs Tryz.prog W "internal/strconv.uint64pow10" .u64 Go.Lib.pow10Tab)
include hm ht
def linked:ep ((J1.O W).oh L1):=by
 have hO:=J1.KF hm ht;have hs:=Kj hO nu rfl rfl rfl ⟨rfl,rfl,rfl⟩ (fn:=Tryz.f193) (c:=p8) Tryz.func193 rfl rfl trivial Ks;have hT:dB (J1.O W) T:=dB.cons (Tr.il (jg.one (ml.holds hO rfl rfl)) Tr.fD Tr.fD) dB.nil;exact Gn (Kk hO hs) hT 1000
def law {ls:List (List AV)} (hs:hJ iU Lq ls):dF (J1.O W) 453 (oz Lq ls) (.bool true):=by
 obtain ⟨k,hk⟩:=GN (arL lw hs);exact sound (linked hm ht) hk
end
end J2
end
end VE
