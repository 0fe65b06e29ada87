import Derived.Test.YtlkgmaenobiooaaGreatDoorTay
import Derived.Test.YtlkgmaenobiooaaGreatDoorTax
set_option linter.all false
set_option maxRecDepth 100000
open Bool renaming and_self→we,false_eq_true→yE,not_false→yH,not_true→yI,or_false→ybm
open List renaming any_cons→ybn,any_nil→ybJ,drop→wK,drop_zero→ye,length_cons→yx,length_nil→yJ,map_cons→xi,map_nil→wH,mem_cons→wb,not_mem_nil→wX
open Nat renaming le_refl→yA,mul_one→yj,reduceAdd→yb,reduceEqDiff→ya,reduceLT→yr,reduceLeDiff→yi,zero_add→yd
namespace VE
section
open Go (IntKind)
noncomputable def TL (a b c d:Rat):AV:=if b<c then .af [ab (-1),ab 0] else if d<a then .af [ab 1,ab 0] else
 if (bQ (RT a) (RT b)&&(bQ (RT a) (RT c)&&bQ (RT b) (RT d)))=true then .af [ab 0,ab 0] else .af [ab 0,ab 24]
section
variable {P:aJ} {L:Lib} {a b c d:Rat} {K:Nat}
def aFg (h:Rp P L) (bD:Has P L 315 fU) (ab8:Has P L 441 EP) (ka:Hq K a) (kb:Hq K b) (kc:Hq K c) (kd:Hq K d) (hK:K<=400000000):ai P L 441 [cF a b,cF c d] (TL a b c d):=by
 have e1:=lV h bD kb kc (by omega);have e2:=lV h bD kd ka (by omega);have e3:=GQ (RT a) (RT b) (RT c) (RT d);unfold TL;unfold bF at e3;unfold ai at*;rw [ax ab8];by_cases h1:b<c
 ·rw [yz h1];simp only [go_sem,ya,yb,EP,az,aP,yd,bj,ye,e1,kX,h1,ym];rfl
 ·rw [yp h1];by_cases h2:d<a
  ·rw [yz h2];simp only [go_sem,ya,yb,EP,az,aP,yd,bj,ye,e1,e2,kX,h1,h2,ym,yk];rfl
  ·rw [yp h2];cases h3:bQ (RT a) (RT b)
   ·simp only [go_sem,ya,yb,EP,az,aP,yd,bj,ye,e1,e2,kX,h1,h2,iZ,h3,yk,Bool.false_and,yE,y9];rfl
   ·cases h4:(bQ (RT a) (RT c)&&bQ (RT b) (RT d))<;>rw [h4] at e3<;>simp only [go_sem,ya,yb,EP,az,aP,yd,bj,ye,cp,e1,e2,e3,kX,h1,h2,iZ,cY,h3,yk,Bool.true_and,yE,y9,xm]<;>rfl
end
end
section
open Go (IntKind)
section
variable {P:aJ} {L:Lib} {a b c d:Rat} {K:Nat}
def aFh (h:Rl P L) (jh:Has P L 316 Az) (qu:Has P L 401 Hz) (ka:Hq K a) (kb:Hq K b) (hK:K<=4000000000):ai P L 401 [cF a b] (ab (if (LG a||LG b)=true then 4 else 0)):=by
 have e1:=alX h jh (rh true ([a,b].map RT)) (by simp) (K:=K) (fun r hr=>by
  simp only [wb,wX,vt] at hr;rcases hr with rfl | rfl<;>assumption) hK
 simp only [xi,wH,yx,yJ,yd,yb,ybn,ybJ,ybm] at e1;unfold ai at e1 ⊢;rw [ax qu];simp only [go_sem,ya,yb,yr,yi,yj,Hz,az,aP,yd,bj,ye,e1]
def aFi (h:Rl P L) (jh:Has P L 316 Az) (Fc:Has P L 402 Ma) (ka:Hq K a) (kb:Hq K b) (kc:Hq K c) (kd:Hq K d) (hK:K<=4000000000):ai P L 402 [jL a b c d] (ab (if (LG a||LG b||(LG c||LG d))=true then 4 else 0)):=by
 have e1:=alX h jh (rh true ([a,b,c,d].map RT)) (by simp) (K:=K) (fun r hr=>by
  simp only [wb,wX,vt] at hr;rcases hr with rfl | rfl | rfl | rfl<;>assumption) hK
 simp only [xi,wH,yx,yJ,yd,yb,ybn,ybJ,ybm] at e1;have fX:∀a b c d:AV,wK 2 [a,b,c,d]=[c,d]:=fun _ _ _ _=>rfl
 have dd1:∀a b c d:AV,wK 1 [a,b,c,d]=[b,c,d]:=fun _ _ _ _=>rfl
 have DF:∀a b c d:AV,wK 3 [a,b,c,d]=[d]:=fun _ _ _ _=>rfl
 rw [Bool.or_assoc];unfold ai at e1 ⊢;rw [ax Fc];simp only [go_sem,ya,yb,yr,yi,yj,Ma,az,aP,yd,dd1,fX,DF,ye,e1]
end
end
section
open Go (IntKind)
section
variable {P:aJ} {L:Lib}
def Kv (kI:Has P L 395 CI) {bad:Int} (h0:bad≠0) (x y:List Nat):ai P L 395 [bF [] [],ab bad,ab bad,bF x y] (.bool true):=by
 have e:=GQ [] [] [] [];unfold bF at*
 unfold ai;rw [ax kI];simp only [go_sem,ya,yb,CI,az,h0,yk,yH,ye,cp,e,cY,show bQ [] []=true from rfl,we,ym]
def DT (h:Rl P L) (jh:Has P L 316 Az) (qu:Has P L 401 Hz) (kI:Has P L 395 CI) {a b:Rat} {K:Nat} (ka:Hq K a) (kb:Hq K b) (hK:K<=4000000000):∃u v e,kF a b= .af [.agg [.str u,.str v],ab e]/\ai P L 395 [.agg [.str u,.str v],ab e,ab 0,cF a b] (.bool true):=by
 have e1:=aFh h jh qu ka kb hK;have e2:=sh (RT a);have e3:=sh (RT b);have e4:=GQ (RT a) (RT b) (RT a) (RT b);have e5:=GQ [] [] [] [];unfold kF;unfold bF at e4 e5
 cases hg:(LG a||LG b) with
 | false=>
  rw [hg] at e1;refine ⟨_,_,_,rfl,?_⟩;unfold ai at e1 ⊢;rw [ax kI];simp only [yE,y9] at e1;simp only [go_sem,ya,yb,CI,az,ym,yI,ye,cp,aU,e1,e4,cY,e2,e3,we]
 | true=>
  rw [hg] at e1;refine ⟨_,_,_,rfl,?_⟩;unfold ai at e1 ⊢;rw [ax kI];simp only [xm] at e1;simp only [go_sem,ya,yb,CI,az,ym,ye,cp,aU,e1,show ¬(4:Int)=0 by decide,yk,yH,e5,cY,show bQ [] []=true from rfl,we]
end
end
section
open Go (IntKind)
def WI (a b c d a' b' c' d':List Nat):iH (.ag [2,2,2,2]) (.agg [.str a,.str b,.str c,.str d]) (.agg [.str a',.str b',.str c',.str d'])=some (bQ a a'&&(bQ b b'&&(bQ c c'&&bQ d d'))):=by
 show dS [2,2,2,2] [.str a,.str b,.str c,.str d] [.str a',.str b',.str c',.str d']=_
 simp only [dS];cases bQ a a'<;>cases bQ b b'<;>cases bQ c c'<;>cases bQ d d'<;>rfl
section
variable {P:aJ} {L:Lib}
def agP (sX:Has P L 396 EN) {bad:Int} (h0:bad≠0) (x y z t:List Nat):ai P L 396 [dh [] [] [] [],ab bad,ab bad,dh x y z t] (.bool true):=by
 have e:=WI [] [] [] [] [] [] [] [];unfold dh at*
 unfold ai;rw [ax sX];simp only [go_sem,ya,yb,EN,az,h0,yk,yH,ye,eL,e,cY,show bQ [] []=true from rfl,we,ym]
def Vm (h:Rl P L) (jh:Has P L 316 Az) (Fc:Has P L 402 Ma) (sX:Has P L 396 EN) {a b c d:Rat} {K:Nat} (ka:Hq K a) (kb:Hq K b) (kc:Hq K c) (kd:Hq K d) (hK:K<=4000000000):∃p q u v e,rK a b c d= .af [.agg [.str p,.str q,.str u,.str v],ab e]/\ai P L 396 [.agg [.str p,.str q,.str u,.str v],ab e,ab 0,jL a b c d] (.bool true):=by
 have e1:=aFi h jh Fc ka kb kc kd hK;have f1:=sh (RT a);have f2:=sh (RT b);have f3:=sh (RT c);have f4:=sh (RT d);have e4:=WI (RT a) (RT b) (RT c) (RT d) (RT a) (RT b) (RT c) (RT d);have e5:=WI [] [] [] [] [] [] [] [];unfold rK dh
 cases hg:(LG a||LG b||(LG c||LG d)) with
 | false=>
  rw [hg] at e1;refine ⟨_,_,_,_,_,rfl,?_⟩;unfold ai at e1 ⊢;rw [ax sX];simp only [yE,y9] at e1;simp only [go_sem,ya,yb,EN,az,ym,yI,ye,eL,aU,e1,e4,cY,f1,f2,f3,f4,we]
 | true=>
  rw [hg] at e1;refine ⟨_,_,_,_,_,rfl,?_⟩;unfold ai at e1 ⊢;rw [ax sX];simp only [xm] at e1;simp only [go_sem,ya,yb,EN,az,ym,ye,eL,aU,e1,show ¬(4:Int)=0 by decide,yk,yH,e5,cY,show bQ [] []=true from rfl,we]
end
end
section
open Go (IntKind)
structure JR (P:aJ) (L:Lib):Prop extends DD P L where
 kH:Has P L 212 Hn
 AS:Has P L 213 CC
 AR:Has P L 220 Qu
 nN:Has P L 221 EF
 Sq:Has P L 222 Qv
 Fa:Has P L 223 Qw
 M1:Has P L 224 Qx
noncomputable def NX (a b c d:List Nat):AV:=if dn a b c d≠0 then .af [dh [] [] [] [],ab (dn a b c d)] else rK (ae a) (ae b) (-ae d) (-ae c)
noncomputable def nZ (a b c d a' b' c' d':List Nat):Int:=cX [dn a b c d,dn a' b' c' d']
noncomputable def Ig (a b c d a' b' c' d':List Nat):AV:=if nZ a b c d a' b' c' d'≠0 then .af [dh [] [] [] [],ab (nZ a b c d a' b' c' d')] else rK (ae a+ae a') (ae b+ae b') (ae c+ae c') (ae d+ae d')
noncomputable def NY (a b c d:List Nat):AV:=if dn a b c d≠0 then .af [bF [] [],ab (dn a b c d)] else kF (gM (ae a) (ae b)+gM (ae c) (ae d)) (du (ae a) (ae b) (ae a) (ae b)+du (ae c) (ae d) (ae c) (ae d))
section
variable {P:aJ} {L:Lib}
def Pm (a b c d:AV):wK 2 [a,b,c,d]=[c,d]:=rfl
def aof (h:JR P L) (Ih:Has P L 198 c198) {a b c d:List Nat} (la:a.length<=1000000000) (lb:b.length<=1000000000) (lc:c.length<=1000000000) (ld:d.length<=1000000000):ai P L 198 [dh a b c d] (NX a b c d):=by
 have e1:=Fb h.toCk h.dW h.iN h.jE h.AR la lb lc ld;have k:∀{t:List Nat},bE t=0->Hq 2400 (ae t):=fun c=>jx c (yA 2400)
 unfold NX;by_cases h0:dn a b c d=0
 ·rw [yp (by simp [h0])];obtain ⟨⟨c1,c2,_⟩,c3,c4,_⟩:=rk h0;obtain ⟨r,e2,hr⟩:=oO h.toCk h.kH c1 c2;obtain ⟨s,e3,hs⟩:=oO h.toCk h.kH c3 c4;obtain ⟨t,e4,ht⟩:=aoe h.toCk.toFr' h.Sq hs (k c3) (k c4) (by decide);have e5:=ab1 h.toCk h.iO h.M1 hr ht (k c1) (k c2) (k c4).neg (k c3).neg (by decide);obtain ⟨p,q,u,v,e,hu⟩:=Wh (ae a) (ae b) (-ae d) (-ae c);obtain ⟨r1,r2,r3,r4,r5,r6,r7,r8,rfl,gr⟩:=hr.gen;obtain ⟨s1,s2,s3,s4,s5,s6,s7,s8,rfl,gs⟩:=hs.gen;obtain ⟨t1,t2,t3,t4,t5,t6,t7,t8,rfl,gt⟩:=ht.gen;rw [hu] at e5 ⊢;rw [h0] at e1;unfold dh at*
  unfold bF at e2 e3;unfold ai at e1 e2 e3 e4 e5 ⊢;rw [ax Ih];simp only [go_sem,ya,yb,c198,az,aP,yd,Pm,ye,cp,eL,aU,e1,e2,e3,e4,e5,gr.ao,gs.ao,gt.ao,bq,lP,nB];rfl
 ·rw [yz h0];unfold dh at*
  unfold ai at e1 ⊢;rw [ax Ih];simp only [go_sem,ya,yb,c198,az,ye,eL,aU,e1,h0,yk,yH,nB];rfl
def aog (h:JR P L) (Ii:Has P L 454 HE) {a b c d a' b' c' d':List Nat} (la:a.length<=1000000000) (lb:b.length<=1000000000) (lc:c.length<=1000000000) (ld:d.length<=1000000000)
  (nf:a'.length<=1000000000) (nh:b'.length<=1000000000) (ni:c'.length<=1000000000) (nj:d'.length<=1000000000):ai P L 454 [dh a b c d,dh a' b' c' d'] (Ig a b c d a' b' c' d'):=by
 have e1:=Fb h.toCk h.dW h.iN h.jE h.AR la lb lc ld;have e2:=Fb h.toCk h.dW h.iN h.jE h.AR nf nh ni nj;have e3:ai P L 125 [.ap true 2 [ab (dn a b c d),ab (dn a' b' c' d')]] (ab (nZ a b c d a' b' c' d')):=Nd.AN h.toCk.AO (gG true [dn a b c d,dn a' b' c' d']) (by simp);have k:∀{t:List Nat},bE t=0->Hq 2400 (ae t):=fun c=>jx c (yA 2400)
 unfold Ig;by_cases h0:nZ a b c d a' b' c' d'=0
 ·rw [yp (by simp [h0])];obtain ⟨n1,n2⟩:=nt.1 h0;obtain ⟨⟨c1,c2,_⟩,c3,c4,_⟩:=rk n1;obtain ⟨⟨b1,b2,_⟩,b3,b4,_⟩:=rk n2;obtain ⟨r,e4,hr⟩:=oO h.toCk h.kH c1 c2;obtain ⟨s,e5,hs⟩:=oO h.toCk h.kH b1 b2;obtain ⟨t,e6,ht⟩:=MZ h.toCk.toFr' h.Fa hr hs (k c1) (k c2) (k b1) (k b2) (by decide);obtain ⟨w,e7,hw⟩:=oO h.toCk h.kH c3 c4;obtain ⟨x,e8,hx⟩:=oO h.toCk h.kH b3 b4;obtain ⟨y,e9,hy⟩:=MZ h.toCk.toFr' h.Fa hw hx (k c3) (k c4) (k b3) (k b4) (by decide);have ka:∀{x y:Rat},Hq 2400 x->Hq 2400 y->Hq 10000 (x+y):=fun h1 h2=>(h1.add h2).mono (by decide)
  have lM:=ab1 h.toCk h.iO h.M1 ht hy (ka (k c1) (k b1)) (ka (k c2) (k b2)) (ka (k c3) (k b3)) (ka (k c4) (k b4)) (by decide);obtain ⟨p,q,u,v,e,hu⟩:=Wh (ae a+ae a') (ae b+ae b') (ae c+ae c') (ae d+ae d');obtain ⟨r1,r2,r3,r4,r5,r6,r7,r8,rfl,gr⟩:=hr.gen;obtain ⟨s1,s2,s3,s4,s5,s6,s7,s8,rfl,gs⟩:=hs.gen;obtain ⟨t1,t2,t3,t4,t5,t6,t7,t8,rfl,gt⟩:=ht.gen;obtain ⟨w1,w2,w3,w4,w5,w6,w7,w8,rfl,gw⟩:=hw.gen;obtain ⟨x1,x2,x3,x4,x5,x6,x7,x8,rfl,gx⟩:=hx.gen;obtain ⟨y1,y2,y3,y4,y5,y6,y7,y8,rfl,gy⟩:=hy.gen;rw [hu] at lM ⊢;rw [h0] at e3;unfold dh at*
  unfold bF at e4 e5 e7 e8;unfold ai at e1 e2 e3 e4 e5 e6 e7 e8 e9 lM ⊢;rw [ax Ii];simp only [go_sem,ya,yb,yr,yi,yj,HE,az,aP,yd,Pm,ye,cp,eL,aU,e1,e2,e3,e4,e5,e6,e7,e8,e9,lM,gr.ao,gs.ao,gt.ao,gw.ao,gx.ao,gy.ao,bq,lP,nB];rfl
 ·rw [yz h0];unfold dh at*
  unfold ai at e1 e2 e3 ⊢;rw [ax Ii];simp only [go_sem,ya,yb,yr,yi,yj,HE,az,ye,eL,aU,e1,e2,e3,h0,yk,yH,nB];rfl
def aoh (h:JR P L) (Ij:Has P L 199 Hl) {a b c d:List Nat} (la:a.length<=1000000000) (lb:b.length<=1000000000) (lc:c.length<=1000000000) (ld:d.length<=1000000000):ai P L 199 [dh a b c d] (NY a b c d):=by
 have e1:=Fb h.toCk h.dW h.iN h.jE h.AR la lb lc ld;have k:∀{t:List Nat},bE t=0->Hq 2400 (ae t):=fun c=>jx c (yA 2400)
 unfold NY;by_cases h0:dn a b c d=0
 ·rw [yp (by simp [h0])];obtain ⟨⟨c1,c2,_⟩,c3,c4,_⟩:=rk h0;obtain ⟨r,e2,hr⟩:=oO h.toCk h.kH c1 c2;obtain ⟨s,e3,hs⟩:=ab0 h.toCk.toFr' h.dW h.kG h.lD h.nN h.AS hr (k c1) (k c2) (by decide);obtain ⟨w,e4,hw⟩:=oO h.toCk h.kH c3 c4;obtain ⟨x,e5,hx⟩:=ab0 h.toCk.toFr' h.dW h.kG h.lD h.nN h.AS hw (k c3) (k c4) (by decide);have l1:=BT (k c1) (k c2);have l2:=BT (k c3) (k c4);have m1:=(fZ (k c1) (k c2) (k c1) (k c2)).mono (show 2*2400<=2*2400+2 by decide);have m2:=(fZ (k c3) (k c4) (k c3) (k c4)).mono (show 2*2400<=2*2400+2 by decide);obtain ⟨y,e6,hy⟩:=MZ h.toCk.toFr' h.Fa hs hx l1 m1 l2 m2 (by decide);obtain ⟨r1,r2,r3,r4,r5,r6,r7,r8,rfl,gr⟩:=hr.gen;obtain ⟨s1,s2,s3,s4,s5,s6,s7,s8,rfl,gs⟩:=hs.gen;obtain ⟨w1,w2,w3,w4,w5,w6,w7,w8,rfl,gw⟩:=hw.gen;obtain ⟨x1,x2,x3,x4,x5,x6,x7,x8,rfl,gx⟩:=hx.gen
  obtain ⟨y1,y2,y3,y4,y5,y6,y7,y8,rfl,q1,q2,gy⟩:=hy.two;have e7:=E6 h.toCk.toTx h.iO q1 q2 ((l1.add l2).mono (show _<=20000 by decide)) ((m1.add m2).mono (by decide)) (by decide);obtain ⟨u,v,e,hu⟩:=zW (gM (ae a) (ae b)+gM (ae c) (ae d)) (du (ae a) (ae b) (ae a) (ae b)+du (ae c) (ae d) (ae c) (ae d));have f1:=q1.f4;have f2:=q2.f4;rw [hu] at e7 ⊢;rw [h0] at e1;unfold dh at*
  unfold bF at e2 e4;unfold ai at e1 e2 e3 e4 e5 e6 e7 ⊢;rw [ax Ij];simp only [go_sem,ya,yb,Hl,az,aP,yd,Pm,zU,ye,cp,eL,aU,e1,e2,e3,e4,e5,e6,e7,gr.ao,gs.ao,gw.ao,gx.ao,gy.st,f1.ao,f2.ao,bq,lP,bP];rfl
 ·rw [yz h0];unfold dh bF at*
  unfold ai at e1 ⊢;rw [ax Ij];simp only [go_sem,ya,yb,Hl,az,ye,eL,aU,e1,h0,yk,yH,bP];rfl
end
end
section
open Go (IntKind)
noncomputable def Ik (a b c d a' b' c' d':List Nat):AV:=if nZ a b c d a' b' c' d'≠0 then .af [dh [] [] [] [],ab (nZ a b c d a' b' c' d')] else
 rK (fH (ae a) (ae b) (ae a') (ae b')+ -du (ae c) (ae d) (ae c') (ae d')) (du (ae a) (ae b) (ae a') (ae b')+ -fH (ae c) (ae d) (ae c') (ae d'))
  (fH (ae a) (ae b) (ae c') (ae d')+fH (ae c) (ae d) (ae a') (ae b')) (du (ae a) (ae b) (ae c') (ae d')+du (ae c) (ae d) (ae a') (ae b'))
section
variable {P:aJ} {L:Lib}
def aoi (h:JR P L) (Il:Has P L 197 Hk) {a b c d a' b' c' d':List Nat} (la:a.length<=1000000000) (lb:b.length<=1000000000) (lc:c.length<=1000000000) (ld:d.length<=1000000000)
  (nf:a'.length<=1000000000) (nh:b'.length<=1000000000) (ni:c'.length<=1000000000) (nj:d'.length<=1000000000):ai P L 197 [dh a b c d,dh a' b' c' d'] (Ik a b c d a' b' c' d'):=by
 have e1:=Fb h.toCk h.dW h.iN h.jE h.AR la lb lc ld;have e2:=Fb h.toCk h.dW h.iN h.jE h.AR nf nh ni nj;have e3:ai P L 125 [.ap true 2 [ab (dn a b c d),ab (dn a' b' c' d')]] (ab (nZ a b c d a' b' c' d')):=Nd.AN h.toCk.AO (gG true [dn a b c d,dn a' b' c' d']) (by simp);have k:∀{t:List Nat},bE t=0->Hq 2400 (ae t):=fun c=>jx c (yA 2400)
 unfold Ik;by_cases h0:nZ a b c d a' b' c' d'=0
 ·rw [yp (by simp [h0])];obtain ⟨n1,n2⟩:=nt.1 h0;obtain ⟨⟨c1,c2,_⟩,c3,c4,_⟩:=rk n1;obtain ⟨⟨b1,b2,_⟩,b3,b4,_⟩:=rk n2;have F:=h.toCk.toFr';obtain ⟨r,e4,hr⟩:=oO h.toCk h.kH c1 c2;obtain ⟨s,e5,hs⟩:=oO h.toCk h.kH c3 c4;obtain ⟨t,e6,ht⟩:=oO h.toCk h.kH b1 b2;obtain ⟨w,e7,hw⟩:=oO h.toCk h.kH b3 b4;obtain ⟨x,e8,hx⟩:=M0 F h.dW h.kG h.lD h.nN hr ht (k c1) (k c2) (k b1) (k b2) (by decide);obtain ⟨y,e9,hy⟩:=M0 F h.dW h.kG h.lD h.nN hs hw (k c3) (k c4) (k b3) (k b4) (by decide);obtain ⟨z,lM,hz⟩:=aoe F h.Sq hy (kj (k c3) (k c4) (k b3) (k b4)) (fZ (k c3) (k c4) (k b3) (k b4)) (by decide);obtain ⟨i,zC,hi⟩:=MZ F h.Fa hx hz (kj (k c1) (k c2) (k b1) (k b2)) (fZ (k c1) (k c2) (k b1) (k b2)) (fZ (k c3) (k c4) (k b3) (k b4)).neg (kj (k c3) (k c4) (k b3) (k b4)).neg (by decide)
  obtain ⟨j,rW,hj⟩:=M0 F h.dW h.kG h.lD h.nN hr hw (k c1) (k c2) (k b3) (k b4) (by decide);obtain ⟨l,NZ,hl⟩:=M0 F h.dW h.kG h.lD h.nN hs ht (k c3) (k c4) (k b1) (k b2) (by decide);obtain ⟨m,e14,hm⟩:=MZ F h.Fa hj hl (kj (k c1) (k c2) (k b3) (k b4)) (fZ (k c1) (k c2) (k b3) (k b4)) (kj (k c3) (k c4) (k b1) (k b2)) (fZ (k c3) (k c4) (k b1) (k b2)) (by decide);have ka:∀{x y:Rat},Hq (2*2400) x->Hq (2*2400) y->Hq 20000 (x+y):=fun h1 h2=>(h1.add h2).mono (by decide)
  have e15:=ab1 h.toCk h.iO h.M1 hi hm (ka (kj (k c1) (k c2) (k b1) (k b2)) (fZ (k c3) (k c4) (k b3) (k b4)).neg) (ka (fZ (k c1) (k c2) (k b1) (k b2)) (kj (k c3) (k c4) (k b3) (k b4)).neg)
   (ka (kj (k c1) (k c2) (k b3) (k b4)) (kj (k c3) (k c4) (k b1) (k b2))) (ka (fZ (k c1) (k c2) (k b3) (k b4)) (fZ (k c3) (k c4) (k b1) (k b2))) (by decide)
  generalize fH (ae a) (ae b) (ae a') (ae b')+ -du (ae c) (ae d) (ae c') (ae d')=A1 at*
  generalize du (ae a) (ae b) (ae a') (ae b')+ -fH (ae c) (ae d) (ae c') (ae d')=A2 at*
  generalize fH (ae a) (ae b) (ae c') (ae d')+fH (ae c) (ae d) (ae a') (ae b')=A3 at*
  generalize du (ae a) (ae b) (ae c') (ae d')+du (ae c) (ae d) (ae a') (ae b')=A4 at*
  obtain ⟨p,q,u,v,e,hu⟩:=Wh A1 A2 A3 A4;obtain ⟨r1,r2,r3,r4,r5,r6,r7,r8,rfl,gr⟩:=hr.gen;obtain ⟨s1,s2,s3,s4,s5,s6,s7,s8,rfl,gs⟩:=hs.gen;obtain ⟨t1,t2,t3,t4,t5,t6,t7,t8,rfl,gt⟩:=ht.gen;obtain ⟨w1,w2,w3,w4,w5,w6,w7,w8,rfl,gw⟩:=hw.gen;obtain ⟨x1,x2,x3,x4,x5,x6,x7,x8,rfl,gx⟩:=hx.gen;obtain ⟨y1,y2,y3,y4,y5,y6,y7,y8,rfl,gy⟩:=hy.gen;obtain ⟨z1,z2,z3,z4,z5,z6,z7,z8,rfl,gz⟩:=hz.gen;obtain ⟨i1,i2,i3,i4,i5,i6,i7,i8,rfl,gi⟩:=hi.gen;obtain ⟨j1,j2,j3,j4,j5,j6,j7,j8,rfl,gj⟩:=hj.gen;obtain ⟨l1,l2,l3,l4,l5,l6,l7,l8,rfl,gl⟩:=hl.gen;obtain ⟨m1,m2,m3,m4,m5,m6,m7,m8,rfl,gm⟩:=hm.gen;rw [hu] at e15 ⊢;rw [h0] at e3;unfold dh at*
  unfold bF at e4 e5 e6 e7;unfold ai at e1 e2 e3 e4 e5 e6 e7 e8 e9 lM zC rW NZ e14 e15 ⊢;rw [ax Il];simp only [go_sem,ya,yb,yr,yi,yj,Hk,az,aP,yd,Pm,ye,cp,eL,Cx,aU,e1,e2,e3,e4,e5,e6,e7,e8,e9,lM,zC,rW,NZ,e14,e15,gr.ao,gs.ao,gt.ao,gw.ao,gx.ao,gy.ao,gz.ao,gi.ao,gj.ao,gl.ao,gm.ao,gr.st,gs.st,gt.st,gw.st,bq,lP,nB];rfl
 ·rw [yz h0];unfold dh at*
  unfold ai at e1 e2 e3 ⊢;rw [ax Il];simp only [go_sem,ya,yb,yr,yi,yj,Hk,az,ye,eL,aU,e1,e2,e3,h0,yk,yH,nB];rfl
end
end
section
open Go (IntKind)
def pT (l:List (List Nat)):Bool:=l.any fun s=>decide (60<s.length)
def atr {l:List (List Nat)} {i:Nat} (h:i<l.length):pT (l.drop i)=(decide (60<l[i].length)||pT (l.drop (i+1))):=by
 rw [List.drop_eq_getElem_cons h];rfl
def Vn {l:List (List Nat)} (h:pT l=false):∀s,s∈l->s.length<=60:=fun s hs=>by
 unfold pT at h;rw [List.any_eq_false] at h
 have:=h s hs
 simpa using this
section
variable {P:aJ} {L:Lib}
def ab9 (h:Has P L 393 L9) {v:AV} {l:List (List Nat)} (hv:gU v l) (hl:l.length<=1000000) (hs:∀s,s∈l->s.length<9223372036854775808):ai P L 393 [v] (.bool (pT l)):=by
 have key:=cR (P:=P) (L:=L) (live:=[0,3]) (a:=GI)
  (I:=fun k st=>∃i:Nat,st=⟨[(0,v),(3,ab i)],[],0,0⟩/\i+k=l.length/\pT (l.drop i)=pT l)
  (Q:=fun ex st=>∃tm ct,st=⟨tm,[],ct,0⟩/\((ex= .ret/\ak tm 2= .bool true/\pT l=true)\/(ex= .exit 0/\pT l=false))) ?_
 ·unfold ai;rw [ax h];simp only [go_sem,L9];generalize hq:D P L (.loop [0,3] GI) _=q;obtain ⟨ex,st,rfl,tm,ct,rfl,h2⟩:=cG hq (key l.length) ⟨0,by simp only [go_sem,ya,aH,aR hv.pu,aW _ hv.pu]<;>rfl,by omega,by simp⟩
  rcases h2 with ⟨rfl,h2,h3⟩ | ⟨rfl,h3⟩
  ·simp only [go_sem,h2,h3]
  ·simp only [go_sem,aH,h3]
 ·rintro k st ⟨i,rfl,hk,hd⟩;by_cases hi:i<l.length
  ·rw [atr hi] at hd;have hb:=hs l[i] (List.getElem_mem hi);have ev:=hv.bz hi;by_cases h1:l[i].length<=60
   ·left
    rw [yC (by omega),Bool.false_or] at hd;simp only [go_sem,ya,GI,hv.len,show (i:Int)<l.length by omega,ev,show ¬(60:Int)<(l[i].length:Int) by omega];refine ⟨_,k-1,rfl,by omega,i+1,?_,by omega,hd⟩;rw [wrap64 (by omega) (by omega)];simp only [go_sem,ya,aH,aR hv.pu,aW _ hv.pu]<;>rfl
   ·right
    rw [yD (by omega),Bool.true_or] at hd;simp only [go_sem,ya,GI,hv.len,show (i:Int)<l.length by omega,ev,show (60:Int)<(l[i].length:Int) by omega];exact ⟨_,_,rfl,by simp,_,_,rfl,.inl ⟨rfl,by simp only [go_sem],hd.symm⟩⟩
  ·right
   simp only [go_sem,ya,GI,hv.len,show ¬(i:Int)<l.length by omega];refine ⟨_,_,rfl,by simp,_,_,rfl,.inr ⟨rfl,?_⟩⟩;rw [<-hd,List.drop_eq_nil_of_le (by omega)];rfl
end
end
end VE
