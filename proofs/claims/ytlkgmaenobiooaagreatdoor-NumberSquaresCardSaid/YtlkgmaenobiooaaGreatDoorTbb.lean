import Derived.Test.YtlkgmaenobiooaaGreatDoorTba
set_option linter.all false
set_option maxRecDepth 100000
open Bool renaming and_eq_true→yg,not_false→yH,not_true→yI
open Int renaming add_zero→uQ,reduceEq→tj
open List renaming drop_zero→ye
open Nat renaming le_trans→yS,reduceAdd→yb,reduceEqDiff→ya,zero_add→yd
open Rat renaming divInt→xF
namespace VE
open Go (IntKind)
def qV (a b:Rat) (p:Int):Rat:=a+xF p 255*(b-a)
def Pp {p:Int} (h0:0<=p) (h1:p<256):0<=xF p 255/\xF p 255<=1/\Hq 8 (xF p 255):=by
 obtain ⟨m,rfl⟩:∃m:Nat,p=m:=⟨p.toNat,by omega⟩;refine ⟨Rat.divInt_nonneg (by omega) (by decide),?_,Hq.divInt (by decide) (by unfold Bd;rw [Int.natAbs_natCast];omega) (by decide)⟩;rw [Rat.divInt_eq_div];have h2:((m:Int):Rat)<=((255:Int):Rat):=Rat.intCast_le_intCast.2 (by omega);have h3:((255:Int):Rat)=255:=rfl;rw [h3] at h2 ⊢
 grind
def Gs {a b:Rat} {p:Int} (h0:0<=p) (h1:p<256) (iV:a<=b):a<=qV a b p/\qV a b p<=b:=by
 obtain ⟨t0,t1,_⟩:=Pp h0 h1;unfold qV;generalize xF p 255=t at*
 have m1:=Rat.mul_nonneg t0 (show 0<=b-a by grind);have m2:=Rat.mul_le_mul_of_nonneg_right t1 (show 0<=b-a by grind);rw [Rat.one_mul] at m2;generalize t*(b-a)=u at*
 constructor<;>grind
def G5 {a b:Rat} {p:Int} (h0:0<=p) (h1:p<256) (ka:Hq 24 a) (kb:Hq 24 b):Hq 90 (qV a b p):=
 (ka.add ((Pp h0 h1).2.2.mul (kb.sub ka))).mono (by decide)
noncomputable def DG (f:Rat->Rat->Rat) (a b c d:Rat):Rat:=dl (f a c) (bU f a b c d)
noncomputable def DH (f:Rat->Rat->Rat) (a b c d:Rat):Rat:=dA (f a c) (bU f a b c d)
def Pq {f:Rat->Rat->Rat} {a b c d:Rat} {K:Nat} (h1:Hq K (f a c)) (h2:Hq K (f a d)) (h3:Hq K (f b c)) (h4:Hq K (f b d)):Hq K (DG f a b c d)/\Hq K (DH f a b c d):=by
 have key:∀x,x∈bU f a b c d->Hq K x:=fun x hx=>by
  simp only [bU,List.mem_cons,List.not_mem_nil,vt] at hx;rcases hx with rfl | rfl | rfl<;>assumption
 exact ⟨zV h1 key,BZ h1 key⟩
structure Ux (P:aJ) (L:Lib):Prop where
 b:DD P L
 r:Rn P L
 eE:Has P L 261 nJ
 AP:Has P L 266 Hs
 mS:Has P L 283 Aw
 bD:Has P L 315 fU
 me:Has P L 359 pW
 eQ:Has P L 419 mL
 iP:Has P L 424 sK
 MX:Has P L 438 Mc
 MY:Has P L 439 Me
 Sw:Has P L 450 CM
 sW:Has P L 451 CN
 AT:Has P L 452 Mf
 sD:ai P L 179 [] (.bool true)
def G6:IntKind.wrap .i64 0=0:=rfl
section
variable {P:aJ} {L:Lib}
def Im (h:Rn P L) (AT:Has P L 452 Mf) {a b:Rat} {p:Int} (ka:Hq 24 a) (kb:Hq 24 b) (h0:0<=p) (h1:p<256):ai P L 452 [cF a b,.int .u8 p] (.str (RT (qV a b p))):=by
 have e1:=Cw h.toRp kb ka (by decide);have e2:ai P L 277 [ab p,ab 255] (.str (RT (xF p 255))):=WH h.toRm (by omega) (by omega);have e3:=gL h (Pp h0 h1).2.2 (kb.sub ka) (by decide);have e4:=rC h.toRp ka ((Pp h0 h1).2.2.mul (kb.sub ka)) (by decide);have cv:oB (.toInt .i64) (.int .u8 p)=some (.int .i64 p):=by
  show some (AV.int .i64 (IntKind.wrap .i64 p))=_
  rw [wrap64 (by omega) (by omega)]
 unfold qV;unfold ai at e1 e2 e3 e4 ⊢;rw [ax AT];simp only [go_sem,ya,yb,Mf,cF,az,aP,yd,bj,ye,cv,e1,e2,e3,e4]
def enc (h:Rp P L) (eE:Has P L 261 nJ) (bD:Has P L 315 fU) (eQ:Has P L 419 mL) (iP:Has P L 424 sK) {u v z:Rat} (ku:Hq 400 u) (kv:Hq 400 v) (kz:Hq 400 z) (hz:u<=z/\z<=v):
  ai P L 419 [cF u v] (ab 0)/\ai P L 424 [cF u v,.str (RT z)] (.bool true):=by
 have e1:=C1 h eE bD eQ (a:=RT u) (b:=RT v) (yS (pK ku) (by decide)) (yS (pK kv) (by decide));rw [Lm ku kv (by decide) (Rat.le_trans hz.1 hz.2)] at e1;have e2:=Ic h bD iP ku kv kz (by decide);rw [show jS u v z=true by unfold jS;rw [yD hz.1,yD hz.2];rfl] at e2
 exact ⟨e1,e2⟩
def Vo {f:Rat->Rat->Rat} {a b c d:List Nat} (h:dn a b c d=0) (k:Hq 400 (DG f (ae a) (ae b) (ae c) (ae d))/\Hq 400 (DH f (ae a) (ae b) (ae c) (ae d))):
  qt f a b c d= .af [.agg [.str (RT (DG f (ae a) (ae b) (ae c) (ae d))),.str (RT (DH f (ae a) (ae b) (ae c) (ae d)))],ab 0]:=by
 unfold qt;rw [yp (by simp [h])];exact Gi k.1 k.2 (by decide)
def avI {a b c d:List Nat} {x y:Rat} (ca:bE a=0) (cb:bE b=0) (cc:bE c=0) (cd:bE d=0) (h1:ae a<=x) (h2:x<=ae b) (h3:ae c<=y) (h4:y<=ae d):
  ∃o e,E9 a b c d= .af [ab o,ab e]/\(e=24\/e=0/\kE x y=o):=by
 unfold E9;by_cases q1:ae b<ae c
 ·rw [yz q1];exact ⟨_,_,rfl,.inr ⟨rfl,by unfold kE;rw [yz (by grind)]⟩⟩
 ·rw [yp q1];by_cases q2:ae d<ae a
  ·rw [yz q2];exact ⟨_,_,rfl,.inr ⟨rfl,by unfold kE;rw [yp (by grind),yp (by grind)]⟩⟩
  ·rw [yp q2];by_cases q3:(bQ a c&&bQ b d)=true/\bQ a b=true
   ·rw [yz q3];have i1:=q3.2;have i2:=q3.1;simp only [yg] at i2;have f1:=Ge i1;have f2:=Ge i2.1;have f3:=Ge i2.2;subst f1;subst f2;rw [<-f3] at h4
    have:x=y:=by grind
    exact ⟨_,_,rfl,.inr ⟨rfl,by unfold kE;rw [yp (by grind),yz this]⟩⟩
   ·rw [yp q3];exact ⟨_,_,rfl,.inl rfl⟩
def aqo (h:Ux P L) {a b c d:List Nat} {p q:Int} (la:a.length<9223372036854775808) (lb:b.length<9223372036854775808) (lc:c.length<9223372036854775808) (ld:d.length<9223372036854775808) (p0:0<=p) (p1:p<256) (q0:0<=q) (q1:q<256):ai P L 450 [bF a b,bF c d,.agg [.int .u8 p,.int .u8 q]] (.bool true):=by
 have ea:=h.sD;have e1:ai P L 451 [bF a b,ab 6] (.bool (cS 6 a&&cS 6 b&&decide (cB a b=0))):=Su h.r.toRp h.eE h.bD h.eQ h.me h.sW (k:=6) (by decide) la lb;have e2:ai P L 451 [bF c d,ab 6] (.bool (cS 6 c&&cS 6 d&&decide (cB c d=0))):=Su h.r.toRp h.eE h.bD h.eQ h.me h.sW (k:=6) (by decide) lc ld
 cases w1:(cS 6 a&&cS 6 b&&decide (cB a b=0)) with
 | false=>
  rw [w1] at e1;unfold bF at*
  unfold ai at ea e1 e2 ⊢;rw [ax h.Sw];simp only [go_sem,ya,yb,CM,az,ye,cp,aU,ea,e1,yI,yH]
 | true=>
  rw [w1] at e1
  cases w2:(cS 6 c&&cS 6 d&&decide (cB c d=0)) with
  | false=>
   rw [w2] at e2;unfold bF at*
   unfold ai at ea e1 e2 ⊢;rw [ax h.Sw];simp only [go_sem,ya,yb,CM,az,ye,cp,aU,ea,e1,e2,yI,yH]
  | true=>
   rw [w2] at e2;simp only [yg,xt] at w1 w2;obtain ⟨⟨fa,fb⟩,s1⟩:=w1;obtain ⟨⟨fc,fd⟩,s2⟩:=w2;obtain ⟨na,ca,ka⟩:=pE fa;obtain ⟨nb,cb,kb⟩:=pE fb;obtain ⟨nc,cc,kc⟩:=pE fc;obtain ⟨nd,cd,kd⟩:=pE fd;have la:=yS na (show 14<=1000000000 by decide);have lb:=yS nb (show 14<=1000000000 by decide);have lc:=yS nc (show 14<=1000000000 by decide);have ld:=yS nd (show 14<=1000000000 by decide);have iV:=(pM s1).2.2;have JS:=(pM s2).2.2;have h0:dn a b c d=0:=nt.2 ⟨s1,s2⟩;have hT:bF a b=cF (ae a) (ae b):=by unfold bF;show _=AV.agg [.str (RT (ae a)),.str (RT (ae b))];rw [<-(dZ ca).1,<-(dZ cb).1]
   have qJ:bF c d=cF (ae c) (ae d):=by unfold bF;show _=AV.agg [.str (RT (ae c)),.str (RT (ae d))];rw [<-(dZ cc).1,<-(dZ cd).1]
   have x1:=Im h.r h.AT ka kb p0 p1;have x2:=Im h.r h.AT kc kd q0 q1;rw [<-hT] at x1;rw [<-qJ] at x2;obtain ⟨i1,i2⟩:=Gs p0 p1 iV;obtain ⟨i3,i4⟩:=Gs q0 q1 JS;have kx:=G5 p0 p1 ka kb;have ky:=G5 q0 q1 kc kd;generalize qV (ae a) (ae b) p=x at*
   generalize qV (ae c) (ae d) q=y at*
   have ga:=fun {x y:Rat} (k1:Hq 24 x) (k2:Hq 24 y)=>((k1.add k2).mono (by decide):Hq 400 (x+y))
   have gs:=fun {x y:Rat} (k1:Hq 24 x) (k2:Hq 24 y)=>((k1.sub k2).mono (by decide):Hq 400 (x-y))
   have gm:=fun {x y:Rat} (k1:Hq 24 x) (k2:Hq 24 y)=>((k1.mul k2).mono (by decide):Hq 400 (x*y))
   have gd:=fun {x y:Rat} (k1:Hq 24 x) (k2:Hq 24 y)=>((k1.div k2).mono (by decide):Hq 400 (x/y))
   have ka2:=Pq (f:=(·+·)) (ga ka kc) (ga ka kd) (ga kb kc) (ga kb kd);have ks2:=Pq (f:=(· - ·)) (gs ka kc) (gs ka kd) (gs kb kc) (gs kb kd);have km2:=Pq (f:=(·*·)) (gm ka kc) (gm ka kd) (gm kb kc) (gm kb kd);have TM:=Pq (f:=(·/·)) (gd ka kc) (gd ka kd) (gd kb kc) (gd kb kd);have o1:=an9 h.b la lb lc ld h.MX;have o2:=aoa h.b la lb lc ld h.MY;have o3:=aob h.b la lb lc ld;have o4:=aod h.b la lb lc ld;have o5:=aoc h.b la lb lc ld;rw [Vo h0 ka2] at o1;rw [Vo h0 ks2] at o2;rw [Vo h0 km2] at o3;rw [yp (by simp [h0])] at o4;obtain ⟨r1,r2⟩:=enc h.r.toRp h.eE h.bD h.eQ h.iP ka2.1 ka2.2 ((kx.add ky).mono (by decide)) (avF i1 i2 i3 i4);obtain ⟨r3,r4⟩:=enc h.r.toRp h.eE h.bD h.eQ h.iP ks2.1 ks2.2 ((kx.sub ky).mono (by decide)) (avG i1 i2 i3 i4)
   obtain ⟨r5,r6⟩:=enc h.r.toRp h.eE h.bD h.eQ h.iP km2.1 km2.2 ((kx.mul ky).mono (by decide)) (Gh i1 i2 i3 i4);have z1:=rC h.r.toRp kx ky (by decide);have z2:=Cw h.r.toRp kx ky (by decide);have z3:=gL h.r kx ky (by decide);have z4:=lV h.r.toRp h.bD kx ky (by decide);have z5:=Ic h.r.toRp h.bD h.iP kc kd (x:=0) ((H0 0).mono (by decide)) (by decide);rw [Ib,<-qJ] at z5;obtain ⟨o,e,hc,TN⟩:=avI ca cb cc cd i1 i2 i3 i4;rw [hc] at o4;generalize DG (·+·) (ae a) (ae b) (ae c) (ae d)=A1 at*
   generalize DH (·+·) (ae a) (ae b) (ae c) (ae d)=A2 at*
   generalize DG (· - ·) (ae a) (ae b) (ae c) (ae d)=A3 at*
   generalize DH (· - ·) (ae a) (ae b) (ae c) (ae d)=A4 at*
   generalize DG (·*·) (ae a) (ae b) (ae c) (ae d)=A5 at*
   generalize DH (·*·) (ae a) (ae b) (ae c) (ae d)=A6 at*
   unfold Ie at o5;rw [yp (by simp [h0])] at o5;by_cases hz:ae c<=0/\0<=ae d
   ·rw [yz hz] at o5;rw [show jS (ae c) (ae d) 0=true by unfold jS;rw [yD hz.1,yD hz.2];rfl] at z5
    unfold bF at*
    unfold ai at ea e1 e2 x1 x2 o1 o2 o3 o4 o5 r1 r2 r3 r4 r5 r6 z1 z2 z3 z4 z5 ⊢;rw [ax h.Sw];rcases TN with rfl | ⟨rfl,rfl⟩
    ·simp only [go_sem,ya,yb,CM,az,aP,yd,bj,ye,cp,aU,ea,e1,e2,x1,x2,o1,o2,o3,o4,o5,r1,r2,r3,r4,r5,r6,z1,z2,z3,z5,yI,yH,bP,uQ,G6,ym,yk,tj]
    ·simp only [go_sem,ya,yb,CM,az,aP,yd,bj,ye,cp,aU,ea,e1,e2,x1,x2,o1,o2,o3,o4,o5,r1,r2,r3,r4,r5,r6,z1,z2,z3,z4,z5,yI,bP,uQ,G6,ym]
   ·rw [yp hz] at o5;rw [show jS (ae c) (ae d) 0=false by unfold jS;rw [<-Bool.decide_and];exact yC hz] at z5
    have gD:y≠0:=fun e=>hz ⟨by grind,by grind⟩
    rw [show kF (dl (ae a/ae c) (bU (·/·) (ae a) (ae b) (ae c) (ae d))) (dA (ae a/ae c) (bU (·/·) (ae a) (ae b) (ae c) (ae d)))= .af [.agg [.str (RT (DG (·/·) (ae a) (ae b) (ae c) (ae d))),.str (RT (DH (·/·) (ae a) (ae b) (ae c) (ae d)))],ab 0] from Gi TM.1 TM.2 (by decide)] at o5;obtain ⟨r7,r8⟩:=enc h.r.toRp h.eE h.bD h.eQ h.iP TM.1 TM.2 ((kx.div ky).mono (by decide)) (avH i1 i2 i3 i4 hz);have z6:=LL h.r h.AP h.mS kx ky (by decide) gD;generalize DG (·/·) (ae a) (ae b) (ae c) (ae d)=A7 at*
    generalize DH (·/·) (ae a) (ae b) (ae c) (ae d)=A8 at*
    unfold bF at*
    unfold ai at ea e1 e2 x1 x2 o1 o2 o3 o4 o5 r1 r2 r3 r4 r5 r6 r7 r8 z1 z2 z3 z4 z5 z6 ⊢;rw [ax h.Sw];rcases TN with rfl | ⟨rfl,rfl⟩
    ·simp only [go_sem,ya,yb,CM,az,aP,yd,bj,ye,cp,aU,ea,e1,e2,x1,x2,o1,o2,o3,o4,o5,r1,r2,r3,r4,r5,r6,r7,r8,z1,z2,z3,z5,z6,yI,yH,bP,uQ,G6,ym,yk,tj]
    ·simp only [go_sem,ya,yb,CM,az,aP,yd,bj,ye,cp,aU,ea,e1,e2,x1,x2,o1,o2,o3,o4,o5,r1,r2,r3,r4,r5,r6,r7,r8,z1,z2,z3,z4,z5,z6,yI,bP,uQ,G6,ym]
end
end VE
