import Derived.Test.YtlkgmaenobiooaaGreatDoorTbc
import Derived.Test.YtlkgmaenobiooaaGreatDoorTav
import Derived.Test.YtlkgmaenobiooaaGreatDoorTaq
import Derived.Test.YtlkgmaenobiooaaGreatDoorTau
set_option linter.all false
set_option maxRecDepth 100000
open Bool renaming and_eq_true→yg,not_false→yH,not_true→yI
open List renaming drop→wK,drop_zero→ye
open Nat renaming le_trans→yS,reduceAdd→yb,reduceEqDiff→ya
namespace VE
section
open Go (IntKind)
structure UT (P:aJ) (L:Lib):Prop where
 b:JR P L
 r:Rn P L
 Il:Has P L 197 Hk
 Ih:Has P L 198 c198
 Ij:Has P L 199 Hl
 eE:Has P L 261 nJ
 bD:Has P L 315 fU
 me:Has P L 359 pW
 eQ:Has P L 419 mL
 sU:Has P L 422 EO
 iP:Has P L 424 sK
 sW:Has P L 451 CN
 AT:Has P L 452 Mf
 Ii:Has P L 454 HE
 acf:Has P L 465 Mg
 Sx:Has P L 466 Mh
 Fe:Has P L 467 Mi
 sD:ai P L 179 [] (.bool true)
section
variable {P:aJ} {L:Lib}
def aqV (h:UT P L) {a b c d a' b' c' d':List Nat} {p q r s:Int} (la:a.length<9223372036854775808) (lb:b.length<9223372036854775808) (lc:c.length<9223372036854775808) (ld:d.length<9223372036854775808)
  (nf:a'.length<9223372036854775808) (nh:b'.length<9223372036854775808) (ni:c'.length<9223372036854775808) (nj:d'.length<9223372036854775808) (hp:0<=p/\p<256) (hq:0<=q/\q<256) (hr:0<=r/\r<256) (hs:0<=s/\s<256):
  ai P L 465 [dh a b c d,dh a' b' c' d',.agg [.int .u8 p,.int .u8 q,.int .u8 r,.int .u8 s]] (.bool true):=by
 have ea:=h.sD;have e1:ai P L 466 [dh a b c d,ab 5] (.bool ((cS 5 a&&cS 5 b&&decide (cB a b=0))&&(cS 5 c&&cS 5 d&&decide (cB c d=0)))):=aoj h.r.toRp h.eE h.bD h.eQ h.me h.sW h.Sx (k:=5) (by decide) la lb lc ld;have e2:ai P L 466 [dh a' b' c' d',ab 5] (.bool ((cS 5 a'&&cS 5 b'&&decide (cB a' b'=0))&&(cS 5 c'&&cS 5 d'&&decide (cB c' d'=0)))):=aoj h.r.toRp h.eE h.bD h.eQ h.me h.sW h.Sx (k:=5) (by decide) nf nh ni nj;have fX:∀a b c d:AV,wK 2 [a,b,c,d]=[c,d]:=fun _ _ _ _=>rfl
 have DF:∀a b c d:AV,wK 3 [a,b,c,d]=[d]:=fun _ _ _ _=>rfl
 cases w1:((cS 5 a&&cS 5 b&&decide (cB a b=0))&&(cS 5 c&&cS 5 d&&decide (cB c d=0))) with
 | false=>
  rw [w1] at e1;unfold dh at*
  unfold ai at ea e1 e2 ⊢;rw [ax h.acf];simp only [go_sem,ya,yb,Mg,az,ye,eL,aU,ea,e1,yI,yH]
 | true=>
  rw [w1] at e1
  cases w2:((cS 5 a'&&cS 5 b'&&decide (cB a' b'=0))&&(cS 5 c'&&cS 5 d'&&decide (cB c' d'=0))) with
  | false=>
   rw [w2] at e2;unfold dh at*
   unfold ai at ea e1 e2 ⊢;rw [ax h.acf];simp only [go_sem,ya,yb,Mg,az,ye,eL,aU,ea,e1,e2,yI,yH]
  | true=>
   rw [w2] at e2;simp only [yg,xt] at w1 w2;obtain ⟨⟨⟨fa,fb⟩,s1⟩,⟨fc,fd⟩,s2⟩:=w1;obtain ⟨⟨⟨fa',fb'⟩,s3⟩,⟨fc',fd'⟩,s4⟩:=w2;obtain ⟨na,ca,ka⟩:=pE (B0 fa);obtain ⟨nb,cb,kb⟩:=pE (B0 fb);obtain ⟨nc,cc,kc⟩:=pE (B0 fc);obtain ⟨nd,cd,kd⟩:=pE (B0 fd);obtain ⟨na',ca',gT⟩:=pE (B0 fa');obtain ⟨nb',cb',iF⟩:=pE (B0 fb');obtain ⟨nc',cc',mq⟩:=pE (B0 fc');obtain ⟨nd',cd',jG⟩:=pE (B0 fd');have la:=yS na (show 14<=1000000000 by decide);have lb:=yS nb (show 14<=1000000000 by decide);have lc:=yS nc (show 14<=1000000000 by decide);have ld:=yS nd (show 14<=1000000000 by decide);have nf:=yS na' (show 14<=1000000000 by decide);have nh:=yS nb' (show 14<=1000000000 by decide);have ni:=yS nc' (show 14<=1000000000 by decide)
   have nj:=yS nd' (show 14<=1000000000 by decide);have iV:=(pM s1).2.2;have JS:=(pM s2).2.2;have aFr:=(pM s3).2.2;have aFs:=(pM s4).2.2;have h1:dn a b c d=0:=nt.2 ⟨s1,s2⟩;have Na:dn a' b' c' d'=0:=nt.2 ⟨s3,s4⟩;have h2:nZ a b c d a' b' c' d'=0:=nt.2 ⟨h1,Na⟩;have o1:=aog h.b h.Ii la lb lc ld nf nh ni nj;have o2:=aoi h.b h.Il la lb lc ld nf nh ni nj;have o3:=aof h.b h.Ih la lb lc ld;have o4:=aoh h.b h.Ij la lb lc ld;unfold Ig at o1;unfold Ik at o2;unfold NX at o3;unfold NY at o4;rw [yp (by simp [h2])] at o1 o2;rw [yp (by simp [h1])] at o3 o4;have hTa:cF (ae a) (ae b)= .agg [.str a,.str b]:=by show AV.agg [.str (RT (ae a)),.str (RT (ae b))]=_;rw [<-(dZ ca).1,<-(dZ cb).1]
   have hTc:cF (ae c) (ae d)= .agg [.str c,.str d]:=by show AV.agg [.str (RT (ae c)),.str (RT (ae d))]=_;rw [<-(dZ cc).1,<-(dZ cd).1]
   have aFt:cF (ae a') (ae b')= .agg [.str a',.str b']:=by show AV.agg [.str (RT (ae a')),.str (RT (ae b'))]=_;rw [<-(dZ ca').1,<-(dZ cb').1]
   have aFu:cF (ae c') (ae d')= .agg [.str c',.str d']:=by show AV.agg [.str (RT (ae c')),.str (RT (ae d'))]=_;rw [<-(dZ cc').1,<-(dZ cd').1]
   have x1:=Im h.r h.AT ka kb hp.1 hp.2;have x2:=Im h.r h.AT kc kd hr.1 hr.2;have x3:=Im h.r h.AT gT iF hq.1 hq.2;have x4:=Im h.r h.AT mq jG hs.1 hs.2;rw [hTa] at x1;rw [hTc] at x2;rw [aFt] at x3;rw [aFu] at x4;have iu:=Gs hp.1 hp.2 iV;have iv:=Gs hr.1 hr.2 JS;have ix:=Gs hq.1 hq.2 aFr;have iy:=Gs hs.1 hs.2 aFs;have ku:=G5 hp.1 hp.2 ka kb;have kv:=G5 hr.1 hr.2 kc kd;have kx:=G5 hq.1 hq.2 gT iF;have ky:=G5 hs.1 hs.2 mq jG;generalize qV (ae a) (ae b) p=u at*
   generalize qV (ae c) (ae d) r=v at*
   generalize qV (ae a') (ae b') q=x at*
   generalize qV (ae c') (ae d') s=y at*
   generalize ae a=A at*
   generalize ae b=B at*
   generalize ae c=C at*
   generalize ae d=D' at*
   generalize ae a'=A' at*
   generalize ae b'=B' at*
   generalize ae c'=C' at*
   generalize ae d'=E' at*
   have g1:=fun {x y:Rat} (k1:Hq 24 x) (k2:Hq 24 y)=>((k1.add k2).mono (by decide):Hq 400 (x+y))
   have g2:=fun {x y:Rat} (k1:Hq 90 x) (k2:Hq 90 y)=>((k1.add k2).mono (by decide):Hq 400 (x+y))
   have g3:=fun {x y:Rat} (k1:Hq (2*24) x) (k2:Hq (2*24) y)=>((k1.add k2).mono (by decide):Hq 400 (x+y))
   have g4:=fun {x y z w:Rat} (k1:Hq 90 x) (k2:Hq 90 y) (k3:Hq 90 z) (k4:Hq 90 w)=>(((k1.mul k2).add (k3.mul k4)).mono (by decide):Hq 400 (x*y+z*w))
   have g5:=fun {x y z w:Rat} (k1:Hq 90 x) (k2:Hq 90 y) (k3:Hq 90 z) (k4:Hq 90 w)=>(((k1.mul k2).sub (k3.mul k4)).mono (by decide):Hq 400 (x*y-z*w))
   have g6:=fun {x:Rat} (k1:Hq 24 x)=>(k1.mono (by decide):Hq 400 x)
   have m1:=Gh iu.1 iu.2 ix.1 ix.2;have m2:=Gh iv.1 iv.2 iy.1 iy.2;have m3:=Gh iu.1 iu.2 iy.1 iy.2;have m4:=Gh iv.1 iv.2 ix.1 ix.2;change fH A B A' B'<=u*x/\u*x<=du A B A' B' at m1
   change fH C D' C' E'<=v*y/\v*y<=du C D' C' E' at m2
   change fH A B C' E'<=u*y/\u*y<=du A B C' E' at m3
   change fH C D' A' B'<=v*x/\v*x<=du C D' A' B' at m4
   obtain ⟨n1,n2,n3⟩:=afW iu.1 iu.2;obtain ⟨n4,n5,n6⟩:=afW iv.1 iv.2;have Q1:=kj ka kb gT iF;have Q2:=fZ ka kb gT iF;have Q3:=kj kc kd mq jG;have Q4:=fZ kc kd mq jG;have Q5:=kj ka kb mq jG;have Q6:=fZ ka kb mq jG;have Q7:=kj kc kd gT iF;have Q8:=fZ kc kd gT iF;have Q9:=BT ka kb;have Q10:=fZ ka kb ka kb;have Q11:=BT kc kd;have Q12:=fZ kc kd kc kd;obtain ⟨b1,r1,t1⟩:=aca h.r.toRp h.eE h.bD h.eQ h.sU h.iP h.Fe (g1 ka gT) (g1 kb iF) (g1 kc mq) (g1 kd jG) (g2 ku kx) (g2 kv ky) (by grind) (by grind);obtain ⟨b2,r2,t2⟩:=aca h.r.toRp h.eE h.bD h.eQ h.sU h.iP h.Fe (g3 Q1 Q4.neg) (g3 Q2 Q3.neg) (g3 Q5 Q7) (g3 Q6 Q8) (g5 ku kx kv ky) (g4 ku ky kv kx) (by grind) (by grind)
   obtain ⟨b3,r3,t3⟩:=aca h.r.toRp h.eE h.bD h.eQ h.sU h.iP h.Fe (g6 ka) (g6 kb) (g6 kd).neg (g6 kc).neg (ku.mono (by decide)) (kv.neg.mono (by decide)) (by grind) (by grind);have K1:Hq 400 (gM A B+gM C D'):=(Q9.add Q11).mono (by decide);have K2:Hq 400 (du A B A B+du C D' C D'):=(Q10.add Q12).mono (by decide);obtain ⟨r4,t4⟩:=enc h.r.toRp h.eE h.bD h.eQ h.iP K1 K2 (g4 ku ku kv kv) (by grind);have b4:=Gi K1 K2 (by decide);have z1:=rC h.r.toRp ku kx (by decide);have z2:=rC h.r.toRp kv ky (by decide);have z3:=gL h.r ku kx (by decide);have z4:=gL h.r kv ky (by decide);have z5:=Cw h.r.toRp (ku.mul kx) (kv.mul ky) (by decide);have z6:=gL h.r ku ky (by decide);have z7:=gL h.r kv kx (by decide);have z8:=rC h.r.toRp (ku.mul ky) (kv.mul kx) (by decide);have z9:=alV h.r.toRp kv (by decide);have JT:=gL h.r ku ku (by decide)
   have N2:=gL h.r kv kv (by decide);have z12:=rC h.r.toRp (ku.mul ku) (kv.mul kv) (by decide);have z13:=Cv h.r.toRm K1 (by decide);have z14:decide (0<=bG (gM A B+gM C D').num)=true:=by rw [KJ];exact yD (by grind)
   rw [b1] at o1;rw [b2] at o2;rw [b3] at o3;rw [b4] at o4;clear m1 m2 m3 m4 n1 n2 n3 n4 n5 n6 iu iv ix iy;generalize fH A B A' B'+ -du C D' C' E'=B1 at*
   generalize du A B A' B'+ -fH C D' C' E'=B2 at*
   generalize fH A B C' E'+fH C D' A' B'=B3 at*
   generalize du A B C' E'+du C D' A' B'=B4 at*
   generalize gM A B+gM C D'=B5 at*
   generalize du A B A B+du C D' C D'=B6 at*
   unfold dh at*
   unfold ai at ea e1 e2 x1 x2 x3 x4 o1 o2 o3 o4 r1 r2 r3 r4 t1 t2 t3 t4 z1 z2 z3 z4 z5 z6 z7 z8 z9 JT N2 z12 z13 ⊢;rw [ax h.acf];simp only [go_sem,ya,yb,Mg,az,aP,Nat.zero_add,fX,DF,bj,ye,cp,eL,aU,ea,e1,e2,x1,x2,x3,x4,o1,o2,o3,o4,r1,r2,r3,r4,t1,t2,t3,t4,z1,z2,z3,z4,z5,z6,z7,z8,z9,JT,N2,z12,z13,z14,yI,bP,nB,Int.add_zero,G6,ym]
end
end
section
open Go (IntKind)
abbrev acg:Ty:= .cat Ae (.cat Ae .nil)
abbrev alf:Ty:= .cat (.int .u8) (.cat (.int .u8) .nil)
abbrev Kw:List Ty:=[acg,acg,.cat alf (.cat alf .nil)]
def ajY {l:List AV} (h:iU acg l):∃x y z t:List Nat,l=[.str x,.str y,.str z,.str t]/\x.length<9223372036854775808/\y.length<9223372036854775808/\z.length<9223372036854775808/\t.length<9223372036854775808:=by
 obtain ⟨_,_,rfl,h1,_,_,rfl,h2,rfl⟩:=h;obtain ⟨x,y,rfl,hx,hy⟩:=BN h1;obtain ⟨z,t,rfl,hz,ht⟩:=BN h2;exact ⟨x,y,z,t,rfl,hx,hy,hz,ht⟩
def PJ {p:Int} (hp:(Go.Lit.int .u8 p).wf=true):0<=p/\p<256:=by
 simp only [Go.Lit.wf,yg,xt] at hp;have h1:IntKind.u8.min=0:=rfl;have h2:IntKind.u8.max=255:=rfl;rw [h1,h2] at hp;omega
def aqp {P:aJ} {L:Lib} (h:UT P L) {ls:List (List AV)} (hS:hJ iU Kw ls):ai P L 465 (oz Kw ls) (.bool true):=by
 obtain ⟨_,_,_,rfl,h1,h2,h3⟩:=PC hS;obtain ⟨a,b,c,d,rfl,la,lb,lc,ld⟩:=ajY h1;obtain ⟨a',b',c',d',rfl,nf,nh,ni,nj⟩:=ajY h2;obtain ⟨_,_,rfl,⟨_,_,rfl,⟨p,rfl,hp⟩,_,_,rfl,⟨q,rfl,hq⟩,rfl⟩,_,_,rfl,⟨_,_,rfl,⟨r,rfl,hr⟩,_,_,rfl,⟨s,rfl,hs⟩,rfl⟩,rfl⟩:=h3;exact aqV h la lb lc ld nf nh ni nj (PJ hp) (PJ hq) (PJ hr) (PJ hs)
end
section
namespace J2
open Go Go.Proofs
def T:List (Tr aq):=[.n 179 [.o 7 [] (.bool true)] .l .l]
def L0:VE.Lib:=Ei VE.aE 99 BY
def L1:VE.Lib:=CO L0 T 1000
def nu:Nu VE.prog VE.aE:=by
 repeat' (first | rfl | constructor)
def lw:UT VE.prog L1:=by
 repeat' (first | rfl | constructor)
section
variable {W:World} {m:Int} (hm:W.cell? ⟨1,0,none⟩=some (.int .i64 m)) (ht:Go.Lib.TabIs Tryz.prog W "internal/strconv.uint64pow10" .u64 Go.Lib.pow10Tab)
include hm ht
def linked:ep ((J1.O W).oh L1):=by
 have hO:=J1.KF hm ht;have hs:=Kj hO nu rfl rfl rfl ⟨rfl,rfl,rfl⟩ (fn:=Tryz.f193) (c:=p8) Tryz.func193 rfl rfl trivial Ks;have hT:dB (J1.O W) T:=dB.cons (Tr.il (jg.one (ml.holds hO rfl rfl)) Tr.fD Tr.fD) dB.nil;exact Gn (Kk hO hs) hT 1000
def law {ls:List (List AV)} (hs:hJ iU Kw ls):dF (J1.O W) 465 (oz Kw ls) (.bool true):=by
 obtain ⟨k,hk⟩:=GN (aqp lw hs);exact sound (linked hm ht) hk
end
end J2
end
end VE
