import Derived.Test.YtlkgmaenobiooaaGreatDoorTax
set_option linter.all false
set_option maxRecDepth 100000
open Bool renaming and_self→we,false_and→wg,false_eq_true→yE,not_false→yH,true_and→xV
open List.cons renaming injEq→vU
open List renaming drop→wK,drop_zero→ye,length_cons→yx,length_nil→yJ,mem_cons→wb,mem_cons_of_mem→xg,mem_cons_self→xy,not_mem_nil→wX
open Nat renaming le_add_left→yaZ,le_refl→yA,mul_one→yj,reduceAdd→yb,reduceEqDiff→ya,reduceLT→yr,reduceLeDiff→yi,reduceMul→xT,zero_add→yd
open Rat renaming mul_le_mul_of_nonneg_left→wT
namespace VE
section
open Go (IntKind)
def fR.f8 {c1 c2 c3 c4 c5 c6 c7 c8:AV} {a b:Rat} (h:fR (.agg [c1,c2,c3,c4,c5,c6,c7,c8]) a b):F8 c1 c2 c3 c4 c5 c6 c7 c8:=by
 obtain ⟨_,_,_,_,_,_,_,_,e,g⟩:=h.gen;simp only [AV.agg.injEq,vU,wM] at e;obtain ⟨rfl,rfl,rfl,rfl,rfl,rfl,rfl,rfl⟩:=e;exact g
section
variable {tm:Env} {a b c d x y z w a2 b2 c2 d2 x2 y2 z2 w2 p q r s:AV} {R:List (Nat×Nat×X)} (h1:cP a=true) (h2:cP b=true) (h3:cP c=true) (h4:cP d=true)
include h1 h2 h3 h4
def avC:lj tm [p,q,r,s,x,y,z,w,a2,b2,c2,d2,x2,y2,z2,w2] 0 4 [a,b,c,d] R=fill tm [a,b,c,d,x,y,z,w,a2,b2,c2,d2,x2,y2,z2,w2] R:=by
 rw [zS (by rfl) (by simp) (by simp [cr,h1,h2,h3,h4])];rfl
def avD:lj tm [x,y,z,w,p,q,r,s,a2,b2,c2,d2,x2,y2,z2,w2] 4 4 [a,b,c,d] R=fill tm [x,y,z,w,a,b,c,d,a2,b2,c2,d2,x2,y2,z2,w2] R:=by
 rw [zS (by rfl) (by simp) (by simp [cr,h1,h2,h3,h4])];rfl
def avE:lj tm [x,y,z,w,a2,b2,c2,d2,p,q,r,s,x2,y2,z2,w2] 8 4 [a,b,c,d] R=fill tm [x,y,z,w,a2,b2,c2,d2,a,b,c,d,x2,y2,z2,w2] R:=by
 rw [zS (by rfl) (by simp) (by simp [cr,h1,h2,h3,h4])];rfl
def atq:lj tm [x,y,z,w,a2,b2,c2,d2,x2,y2,z2,w2,p,q,r,s] 12 4 [a,b,c,d] R=fill tm [x,y,z,w,a2,b2,c2,d2,x2,y2,z2,w2,a,b,c,d] R:=by
 rw [zS (by rfl) (by simp) (by simp [cr,h1,h2,h3,h4])];rfl
end
section
variable {P:aJ} {L:Lib}
def oO (h:Ck P L) (kH:Has P L 212 Hn) {a b:List Nat} (ca:bE a=0) (cb:bE b=0):∃r,ai P L 212 [bF a b] r/\fR r (ae a) (ae b):=by
 obtain ⟨u,e1,hu⟩:=qg h ca;obtain ⟨v,e2,hv⟩:=qg h cb;obtain ⟨u1,u2,u3,u4,rfl,gu⟩:=hu.gen;obtain ⟨v1,v2,v3,v4,rfl,gv⟩:=hv.gen;have hp:=fR.mk hu hv;have gp:=hp.f8;refine ⟨_,?_,hp⟩;unfold bF;unfold ai at e1 e2 ⊢;rw [ax kH];simp only [go_sem,ya,yb,Hn,az,aP,yd,bj,ye,e1,e2,bq,Gq gu.o1 gu.o2 gu.o3 gu.o4,Gr gv.o1 gv.o2 gv.o3 gv.o4,gp.st,di,dj,Cx,gp.dU]
def aoe (h:Fr' P L) (Sq:Has P L 222 Qv) {v:AV} {a b:Rat} {K:Nat} (hv:fR v a b) (ka:Hq K a) (kb:Hq K b) (hK:K<=4000000000):∃r,ai P L 222 [v] r/\fR r (-b) (-a):=by
 obtain ⟨x1,x2,x3,x4,x5,x6,x7,x8,rfl,q1,q2,gx⟩:=hv.two;obtain ⟨u,e1,hu⟩:=abx h q2 kb (by omega);obtain ⟨w,e2,hw⟩:=abx h q1 ka (by omega);obtain ⟨u1,u2,u3,u4,rfl,gu⟩:=hu.gen;obtain ⟨w1,w2,w3,w4,rfl,gw⟩:=hw.gen;have hp:=fR.mk hu hw;have gp:=hp.f8;have g1:=q1.f4;have g2:=q2.f4;refine ⟨_,?_,hp⟩;unfold ai at e1 e2 ⊢;rw [ax Sq];simp only [go_sem,ya,yb,Qv,az,aP,yd,zU,ye,eL,e1,e2,gx.bx,g1.ao,g2.ao,bq,Gq gu.o1 gu.o2 gu.o3 gu.o4,Gr gw.o1 gw.o2 gw.o3 gw.o4,gp.st,di,dj,Cx,gp.dU]
def MZ (h:Fr' P L) (Fa:Has P L 223 Qw) {v w:AV} {a b c d:Rat} {K:Nat} (hv:fR v a b) (hw:fR w c d) (ka:Hq K a) (kb:Hq K b) (kc:Hq K c) (kd:Hq K d) (hK:K<=4000000000):∃r,ai P L 223 [v,w] r/\fR r (a+c) (b+d):=by
 obtain ⟨x1,x2,x3,x4,x5,x6,x7,x8,rfl,q1,q2,gx⟩:=hv.two;obtain ⟨y1,y2,y3,y4,y5,y6,y7,y8,rfl,q3,q4,gy⟩:=hw.two;obtain ⟨u,e1,hu⟩:=Tp h q1 q3 ka kc (by omega);obtain ⟨s,e2,hs⟩:=Tp h q2 q4 kb kd (by omega);obtain ⟨u1,u2,u3,u4,rfl,gu⟩:=hu.gen;obtain ⟨s1,s2,s3,s4,rfl,gs⟩:=hs.gen;have hp:=fR.mk hu hs;have gp:=hp.f8;have g1:=q1.f4;have g2:=q2.f4;have g3:=q3.f4;have g4:=q4.f4;refine ⟨_,?_,hp⟩;unfold ai at e1 e2 ⊢;rw [ax Fa];simp only [go_sem,ya,yb,Qw,az,aP,yd,zU,ye,eL,e1,e2,gx.bx,gy.bx,g1.ao,g2.ao,g3.ao,g4.ao,bq,Gq gu.o1 gu.o2 gu.o3 gu.o4,Gr gs.o1 gs.o2 gs.o3 gs.o4,gp.st,di,dj,Cx,gp.dU]
def M0 (h:Fr' P L) (dW:Has P L 71 nU) (kG:Has P L 233 EG) (lD:Has P L 234 EH) (nN:Has P L 221 EF) {v w:AV} {a b c d:Rat} {K:Nat} (hv:fR v a b) (hw:fR w c d) (ka:Hq K a) (kb:Hq K b) (kc:Hq K c) (kd:Hq K d) (hK:K<=400000000):∃r,ai P L 221 [v,w] r/\fR r (fH a b c d) (du a b c d):=by
 obtain ⟨x1,x2,x3,x4,x5,x6,x7,x8,rfl,q1,q2,gx⟩:=hv.two;obtain ⟨y1,y2,y3,y4,y5,y6,y7,y8,rfl,q3,q4,gy⟩:=hw.two;obtain ⟨r1,e1,p1⟩:=Bv h q1 q3 ka kc (by omega);obtain ⟨r2,e2,p2⟩:=Bv h q1 q4 ka kd (by omega);obtain ⟨r3,e3,p3⟩:=Bv h q2 q3 kb kc (by omega);obtain ⟨r4,e4,p4⟩:=Bv h q2 q4 kb kd (by omega);obtain ⟨s1,s2,s3,s4,rfl,gs⟩:=p1.gen;obtain ⟨t1,t2,t3,t4,rfl,gt⟩:=p2.gen;obtain ⟨u1,u2,u3,u4,rfl,gu⟩:=p3.gen;obtain ⟨v1,v2,v3,v4,rfl,gv⟩:=p4.gen;have hQ:QL [s1,s2,s3,s4,t1,t2,t3,t4,u1,u2,u3,u4,v1,v2,v3,v4] (a*c::bU (·*·) a b c d):=⟨p1,p2,p3,p4,trivial⟩;have hF:=OU true hQ;have kk:=KK ka kb kc kd;obtain ⟨lo,g1,z1⟩:=abT h dW kG hF (by simp [bU]) kk (by omega);obtain ⟨hi,g2,z2⟩:=an3 h dW lD hF (by simp [bU]) kk (by omega);simp only [bU,yx,yJ,yd,yb] at g1 g2;obtain ⟨lo1,lo2,lo3,rU,rfl,JN⟩:=z1.gen
 obtain ⟨Fz,hi2,hi3,rV,rfl,JO⟩:=z2.gen;have hp:=fR.mk z1 z2;have gp:=hp.f8;have f1:=q1.f4;have f2:=q2.f4;have f3:=q3.f4;have f4:=q4.f4;obtain ⟨nP,qF,JP,JQ⟩:=gs.pk;obtain ⟨FL,FM,FN,FO⟩:=gt.pk;obtain ⟨TC,TD,TE,TF⟩:=gu.pk;obtain ⟨TG,TH,TI,TJ⟩:=gv.pk;have fz:∀hp:Hp,jR 0 4 (some (true,4,[s1,s2,s3,s4,t1,t2,t3,t4,u1,u2,u3,u4,v1,v2,v3,v4],hp))=some (.ap true 4 [s1,s2,s3,s4,t1,t2,t3,t4,u1,u2,u3,u4,v1,v2,v3,v4],hp):=fun hp=>q8 true rfl (by decide)
 refine ⟨_,?_,hp⟩;unfold ai at e1 e2 e3 e4 g1 g2 ⊢;rw [ax nN];simp only [go_sem,ya,yb,xT,EF,az,aP,yd,zU,ye,eL,e1,e2,e3,e4,gx.bx,gy.bx,f1.ao,f2.ao,f3.ao,f4.ao,bq,avC gs.o1 gs.o2 gs.o3 gs.o4,avD gt.o1 gt.o2 gt.o3 gt.o4,avE gu.o1 gu.o2 gu.o3 gu.o4,atq gv.o1 gv.o2 gv.o3 gv.o4,nP,qF,JP,JQ,FL,FM,FN,FO,TC,TD,TE,TF,TG,TH,TI,TJ,we,fz,g1,g2,Gq JN.o1 JN.o2 JN.o3 JN.o4,Gr JO.o1 JO.o2 JO.o3 JO.o4,gp.st,di,dj,Cx,gp.dU]
end
end
section
open Go (IntKind)
def dh (a b c d:List Nat):AV:= .agg [.str a,.str b,.str c,.str d]
noncomputable def gM (a b:Rat):Rat:=if a<=0/\0<=b then 0 else dl (a*a) [b*b]
def Wg {hp:Hp} {ct id:Nat} {a b c d x1 x2 x3 x4 x5 x6 x7 x8:AV} (g:F4 a b c d):
  gC hp ct id 0 4 [a,b,c,d] (some (.cells true true true 8 [x1,x2,x3,x4,x5,x6,x7,x8]))=some (.af [],bf hp id (.cells true true true 8 [a,b,c,d,x5,x6,x7,x8]),ct):=by
 obtain ⟨p1,p2,p3,p4⟩:=g.pk;rw [rq (by rfl) (by simp) (by simp [cr,g.o1,g.o2,g.o3,g.o4])];simp [aO,p1,p2,p3,p4,over]
section
variable {tm:Env} {a b c d x y z w p q r s:AV} {R:List (Nat×Nat×X)}
end
section
variable {P:aJ} {L:Lib}
def Fb (h:Ck P L) (dW:Has P L 71 nU) (iN:Has P L 161 Hi) (jE:Has P L 210 Hm) (AR:Has P L 220 Qu) {a b c d:List Nat} (la:a.length<=1000000000) (lb:b.length<=1000000000) (lc:c.length<=1000000000) (ld:d.length<=1000000000):ai P L 220 [dh a b c d] (ab (dn a b c d)):=by
 have e1:=sS h dW iN jE la lb;have e2:=sS h dW iN jE lc ld;have e3:ai P L 125 [.ap true 2 [ab (cB a b),ab (cB c d)]] (ab (dn a b c d)):=Nd.AN h.AO (gG true [cB a b,cB c d]) (by simp);have fX:∀a b c d:AV,wK 2 [a,b,c,d]=[c,d]:=fun _ _ _ _=>rfl
 unfold dh;unfold bF at e1 e2;unfold ai at e1 e2 e3 ⊢;rw [ax AR];simp only [go_sem,ya,yb,yr,yi,yj,Qu,az,aP,yd,fX,ye,cp,aU,e1,e2,e3]
def ab0 (h:Fr' P L) (dW:Has P L 71 nU) (kG:Has P L 233 EG) (lD:Has P L 234 EH) (nN:Has P L 221 EF) (AS:Has P L 213 CC) {v:AV} {a b:Rat} {K:Nat} (hv:fR v a b) (ka:Hq K a) (kb:Hq K b) (hK:K<=400000000):∃r,ai P L 213 [v] r/\fR r (gM a b) (du a b a b):=by
 obtain ⟨u,e1,hu⟩:=M0 h dW kG lD nN hv hv ka kb ka kb hK;obtain ⟨x1,x2,x3,x4,x5,x6,x7,x8,rfl,q1,q2,gx⟩:=hv.two;obtain ⟨y1,y2,y3,y4,y5,y6,y7,y8,rfl,_,q4,gy⟩:=hu.two;have f1:=q1.f4;have f2:=q2.f4;have e2:=H7 h q1;have e3:=H7 h q2;unfold gM;by_cases h0:a<=0/\0<=b
 ·rw [yz h0];obtain ⟨z,e4,hz⟩:=m69 h (z:=0) (by decide) (by decide);rw [show ((0:Int):Rat)=0 from rfl] at hz;obtain ⟨z1,z2,z3,z4,rfl,gz⟩:=hz.gen;have hp:=fR.mk hz q4;have gp:=hp.f8;have d1:decide (bG a.num<=0)=true:=by rw [D1];exact yD h0.1
  have d2:decide (0<=bG b.num)=true:=by rw [KJ];exact yD h0.2
  refine ⟨_,?_,hp⟩;unfold ai at e1 e2 e3 e4 ⊢;rw [ax AS];simp only [go_sem,ya,yb,CC,az,aP,yd,zU,ye,eL,Cx,e1,e2,e3,e4,d1,d2,gx.bx,gx.ao,gy.st,f1.ao,f2.ao,bq,Wg gz,gp.st,di,dj,gp.dU]
 ·rw [yp h0];obtain ⟨r1,e4,p1⟩:=Bv h q1 q1 ka ka (by omega);obtain ⟨r2,e5,p2⟩:=Bv h q2 q2 kb kb (by omega);obtain ⟨s1,s2,s3,s4,rfl,gs⟩:=p1.gen;obtain ⟨t1,t2,t3,t4,rfl,gt⟩:=p2.gen;have hQ:QL [s1,s2,s3,s4,t1,t2,t3,t4] [a*a,b*b]:=⟨p1,p2,trivial⟩;have hF:=OU true hQ;have kk:∀x,x∈a*a::[b*b]->Hq (2*K) x:=fun x hx=>by
   simp only [wb,wX,vt] at hx;rcases hx with rfl | rfl
   ·exact (ka.mul ka).mono (by omega)
   ·exact (kb.mul kb).mono (by omega)
  obtain ⟨z,e6,hz⟩:=abT h dW kG hF (by simp) kk (by omega);obtain ⟨z1,z2,z3,z4,rfl,gz⟩:=hz.gen;have hp:=fR.mk hz q4;have gp:=hp.f8;obtain ⟨nP,qF,JP,JQ⟩:=gs.pk;obtain ⟨FL,FM,FN,FO⟩:=gt.pk;have fz:∀hp:Hp,jR 0 2 (some (true,4,[s1,s2,s3,s4,t1,t2,t3,t4],hp))=some (.ap true 2 [s1,s2,s3,s4,t1,t2,t3,t4],hp):=fun hp=>q8 true rfl (by decide)
  simp only [yx,yJ,yd,yb] at e6;refine ⟨_,?_,hp⟩;unfold ai at e1 e2 e3 e4 e5 e6 ⊢;rw [ax AS];have dd:(decide (bG a.num<=0)&&decide (0<=bG b.num))=false:=by rw [D1,KJ];simp only [<-Bool.decide_and];exact yC h0
  by_cases d1:a<=0
  ·have TK:decide (bG a.num<=0)=true:=by rw [D1];exact yD d1
   have d2':decide (0<=bG b.num)=false:=by rw [TK,xV] at dd;exact dd
   simp only [go_sem,ya,yb,xT,CC,az,aP,yd,zU,ye,eL,Cx,e1,e2,e3,e4,e5,e6,TK,d2',gx.bx,gx.ao,gy.st,f1.ao,f2.ao,bq,Gq gs.o1 gs.o2 gs.o3 gs.o4,Gr gt.o1 gt.o2 gt.o3 gt.o4,nP,qF,JP,JQ,FL,FM,FN,FO,we,fz,Wg gz,gp.st,di,dj,gp.dU]
  ·have TK:decide (bG a.num<=0)=false:=by rw [D1];exact yC d1
   simp only [go_sem,ya,yb,xT,CC,az,aP,yd,zU,ye,eL,Cx,e1,e2,e4,e5,e6,TK,gx.bx,gx.ao,gy.st,f1.ao,f2.ao,bq,Gq gs.o1 gs.o2 gs.o3 gs.o4,Gr gt.o1 gt.o2 gt.o3 gt.o4,nP,qF,JP,JQ,FL,FM,FN,FO,we,fz,Wg gz,gp.st,di,dj,gp.dU]
end
end
section
open Go (IntKind)
def rK (x y z t:Rat):AV:=if (LG x||LG y||(LG z||LG t))=true then .af [dh [] [] [] [],ab 4] else .af [dh (RT x) (RT y) (RT z) (RT t),ab 0]
def Wh (x y z t:Rat):∃p q r s e,rK x y z t= .af [.agg [.str p,.str q,.str r,.str s],ab e]:=by
 unfold rK;split<;>exact ⟨_,_,_,_,_,rfl⟩
def nB {hp:Hp} {ct id:Nat} {x1 x2 x3 x4:AV} (p q r s:List Nat):
  gC hp ct id 0 4 [.str p,.str q,.str r,.str s] (some (.cells true true true 4 [x1,x2,x3,x4]))=some (.af [],bf hp id (.cells true true true 4 [.str p,.str q,.str r,.str s]),ct):=by
 rw [rq (by rfl) (by simp) (by rfl)];rfl
section
variable {P:aJ} {L:Lib}
def ab1 (h:Ck P L) (iO:Has P L 214 rF) (M1:Has P L 224 Qx) {v w:AV} {x y z t:Rat} {K:Nat} (hv:fR v x y) (hw:fR w z t) (kx:Hq K x) (ky:Hq K y) (kz:Hq K z) (kt:Hq K t) (hK:K<=4000000000):ai P L 224 [v,w] (rK x y z t):=by
 obtain ⟨x1,x2,x3,x4,x5,x6,x7,x8,rfl,q1,q2,gx⟩:=hv.two;obtain ⟨y1,y2,y3,y4,y5,y6,y7,y8,rfl,q3,q4,gy⟩:=hw.two;have e1:=E6 h.toTx iO q1 q2 kx ky hK;have e2:=E6 h.toTx iO q3 q4 kz kt hK;have f1:=q1.f4;have f2:=q2.f4;have f3:=q3.f4;have f4:=q4.f4;have e3:∀a b:Int,ai P L 125 [.ap true 2 [ab a,ab b]] (ab (cX [a,b])):=fun a b=>Nd.AN h.AO (gG true [a,b]) (by simp)
 have s1:cX [4,4]=4:=rfl;have s2:cX [4,0]=4:=rfl;have s3:cX [0,4]=4:=rfl;have s4:cX [0,0]=0:=rfl;unfold rK;unfold kF bF at e1 e2;unfold ai at e1 e2 e3 ⊢;rw [ax M1];cases g1:(LG x||LG y)<;>cases g2:(LG z||LG t)<;>simp only [g1,g2,yE,y9,xm] at e1 e2<;>simp only [go_sem,ya,yb,yr,yi,yj,Qx,dh,az,aP,yd,zU,ye,eL,cp,e1,e2,e3,s1,s2,s3,s4,gx.bx,gy.bx,f1.ao,f2.ao,f3.ao,f4.ao,lP,bP,nB,pC,pD,show decide ((4:Int)=0)=false from rfl,yH,Bool.or_self,Bool.or_true,Bool.or_false,yE,y9,xm]<;>rfl
noncomputable def Sr (a b:List Nat):AV:=if cB a b≠0 then .af [bF [] [],ab (cB a b)] else kF (gM (ae a) (ae b)) (du (ae a) (ae b) (ae a) (ae b))
def BT {a b:Rat} {K:Nat} (ka:Hq K a) (kb:Hq K b):Hq (2*K+2) (gM a b):=by
 unfold gM
 split
 ·exact Hq.mono ⟨by unfold Bd;simp,by unfold Bd;simp⟩ (yaZ 2 _)
 ·exact zV ((ka.mul ka).mono (by omega)) (fun x hx=>by simp only [wb,wX,vt] at hx;subst hx;exact (kb.mul kb).mono (by omega))
def aFa (h:DD P L) (kH:Has P L 212 Hn) (AS:Has P L 213 CC) (nN:Has P L 221 EF) (Ss:Has P L 190 LW) {a b:List Nat} (la:a.length<=1000000000) (lb:b.length<=1000000000):ai P L 190 [bF a b] (Sr a b):=by
 have e1:=sS h.toCk h.dW h.iN h.jE la lb;unfold Sr;by_cases h0:cB a b=0
 ·rw [yp (by simp [h0])];obtain ⟨c1,c2,_⟩:=pM h0;have k1:=jx c1 (yA 2400);have k2:=jx c2 (yA 2400);obtain ⟨r,e2,hr⟩:=oO h.toCk kH c1 c2;obtain ⟨s,e3,hs⟩:=ab0 h.toCk.toFr' h.dW h.kG h.lD nN AS hr k1 k2 (by omega);obtain ⟨r1,r2,r3,r4,r5,r6,r7,r8,rfl,_,_,gr⟩:=hr.two;obtain ⟨x1,x2,x3,x4,x5,x6,x7,x8,rfl,q1,q2,gx⟩:=hs.two;have e4:=E6 h.toCk.toTx h.iO q1 q2 (BT k1 k2) ((fZ k1 k2 k1 k2).mono (by omega)) (by omega);obtain ⟨u,v,e,hu⟩:=zW (gM (ae a) (ae b)) (du (ae a) (ae b) (ae a) (ae b));have f1:=q1.f4;have f2:=q2.f4;rw [hu] at e4 ⊢;rw [h0] at e1;unfold bF at*
  unfold ai at e1 e2 e3 e4 ⊢;rw [ax Ss];simp only [go_sem,ya,yb,LW,az,aP,yd,zU,ye,cp,eL,aU,e1,e2,e3,e4,gr.ao,gx.st,f1.ao,f2.ao,bq,lP,bP];rfl
 ·rw [yz h0];unfold bF at*
  unfold ai at e1 ⊢;rw [ax Ss];simp only [go_sem,ya,yb,LW,az,ye,cp,aU,e1,h0,yk,yH,bP];rfl
end
end
section
open Go (IntKind)
abbrev jL (a b c d:Rat):AV:= .agg [.str (RT a),.str (RT b),.str (RT c),.str (RT d)]
structure FP (P:aJ) (L:Lib):Prop extends Rn P L where
 bD:Has P L 315 fU
 iP:Has P L 424 sK
 aFb:Has P L 437 QG
 E7:Has P L 442 QH
 MV:Has P L 443 QI
 MW:Has P L 444 QJ
 sT:Has P L 447 HB
 qh:Has P L 448 CK
 qj:Has P L 449 CL
noncomputable def mZ (a b:Rat):Rat:=if jS a b 0=true then 0 else dl (a*a) (bU (·*·) a b a b)
noncomputable def DE (a b:Rat):Rat:=dA (a*a) (bU (·*·) a b a b)
section
variable {P:aJ} {L:Lib} {a b c d a' b' c' d':Rat} {K:Nat}
def H0 (K:Nat):Hq (K+2) 0:=Hq.mono (show Hq 2 0 from ⟨by unfold Bd;simp,by unfold Bd;simp⟩) (yaZ 2 _)
def ab2 (h:FP P L) (ka:Hq K a) (kb:Hq K b) (FQ:2<=K) (hK:K<=400000000):ai P L 437 [cF a b] (cF (mZ a b) (DE a b)):=by
 have e1:=abW h.toRn h.bD h.sT h.qh h.qj h.MW ka kb ka kb hK;have e2:=Ic h.toRp h.bD h.iP ka kb (x:=0) ((H0 0).mono FQ) (by omega);rw [Ib] at e2;unfold mZ DE;generalize dl (a*a) (bU (·*·) a b a b)=A1 at*
 generalize dA (a*a) (bU (·*·) a b a b)=A2 at*
 have s0:∀(hp:Hp) (ct id:Nat) (x:AV),gC hp ct id 0 1 [.str [48]] (some (.cells true true true 2 [x,.str (RT A2)]))=some (.af [],bf hp id (.cells true true true 2 [.str [48],.str (RT A2)]),ct):=fun hp ct id x=>by
  rw [rq (by rfl) (by simp) (by rfl)];rfl
 unfold ai at e1 e2 ⊢;rw [ax h.aFb];cases h0:jS a b 0
 ·rw [h0] at e2;simp only [go_sem,ya,yb,QG,az,yd,ye,cp,aU,e1,e2,bP,yE,y9];rfl
 ·rw [h0] at e2;rw [yz rfl];unfold cF at e1 e2 ⊢;rw [Ib];simp only [go_sem,ya,yb,QG,az,aP,yd,ye,cp,aU,e1,e2,s0,bP];rfl
def aFc (h:FP P L) (E8:Has P L 219 Hr) (ab3:Has P L 455 QN) (ka:Hq K a) (kb:Hq K b) (kc:Hq K c) (kd:Hq K d) (FQ:2<=K) (hK:K<=400000000):ai P L 455 [jL a b c d] (jL a b (0-d) (0-c)):=by
 have e1:ai P L 219 [.str [48]] (.agg [.str [48],.str [48]]):=an6 E8 [48];have e2:=abV h.toRp h.MV ((H0 0).mono FQ) ((H0 0).mono FQ) kc kd (by omega);have fX:∀a b c d:AV,wK 2 [a,b,c,d]=[c,d]:=fun _ _ _ _=>rfl
 unfold cF at e2;rw [Ib] at e2;unfold ai at e1 e2 ⊢;rw [ax ab3];simp only [go_sem,ya,yb,QN,az,aP,yd,fX,ye,cp,aU,e1,e2,pC,pD,nB];rfl
def aFd (h:FP P L) (ab4:Has P L 457 QP) (ka:Hq K a) (kb:Hq K b) (kc:Hq K c) (kd:Hq K d) (gT:Hq K a') (iF:Hq K b') (mq:Hq K c') (jG:Hq K d') (hK:K<=400000000):ai P L 457 [jL a b c d,jL a' b' c' d'] (jL (a+a') (b+b') (c+c') (d+d')):=by
 have e1:=MU h.toRp h.E7 ka kb gT iF (by omega);have e2:=MU h.toRp h.E7 kc kd mq jG (by omega);have fX:∀a b c d:AV,wK 2 [a,b,c,d]=[c,d]:=fun _ _ _ _=>rfl
 unfold ai at e1 e2 ⊢;rw [ax ab4];simp only [go_sem,ya,yb,QP,az,aP,yd,fX,ye,cp,aU,e1,e2,pC,pD,nB];rfl
end
end
section
open Go (IntKind)
noncomputable def rU (a b c d:Rat):Rat:=dl (a*c) (bU (·*·) a b c d)
noncomputable def rV (a b c d:Rat):Rat:=dA (a*c) (bU (·*·) a b c d)
section
variable {P:aJ} {L:Lib} {a b c d a' b' c' d':Rat} {K:Nat}
def PG (ka:Hq K a) (kb:Hq K b) (kc:Hq K c) (kd:Hq K d):∀x,x∈a*c::bU (·*·) a b c d->Hq (2*K) x:=fun x hx=>by
 simp only [bU,wb,wX,vt] at hx;rcases hx with rfl | rfl | rfl | rfl
 ·exact (ka.mul kc).mono (by omega)
 ·exact (ka.mul kd).mono (by omega)
 ·exact (kb.mul kc).mono (by omega)
 ·exact (kb.mul kd).mono (by omega)
def LM (ka:Hq K a) (kb:Hq K b) (kc:Hq K c) (kd:Hq K d):Hq (2*K) (rU a b c d):=zV (PG ka kb kc kd _ xy) (fun x hx=>PG ka kb kc kd x (xg _ hx))
def G4 (ka:Hq K a) (kb:Hq K b) (kc:Hq K c) (kd:Hq K d):Hq (2*K) (rV a b c d):=BZ (PG ka kb kc kd _ xy) (fun x hx=>PG ka kb kc kd x (xg _ hx))
def alY (ka:Hq K a) (kb:Hq K b):Hq (2*K+2) (mZ a b):=by
 unfold mZ
 split
 ·exact H0 _
 ·exact (LM ka kb ka kb).mono (by omega)
def aFe (h:FP P L) (ab5:Has P L 456 QO) (ka:Hq K a) (kb:Hq K b) (kc:Hq K c) (kd:Hq K d) (FQ:2<=K) (hK:K<=100000000):ai P L 456 [jL a b c d] (cF (mZ a b+mZ c d) (DE a b+DE c d)):=by
 have e1:=ab2 h ka kb FQ (by omega);have e2:=ab2 h kc kd FQ (by omega);have e3:=MU h.toRp h.E7 (alY ka kb) ((G4 ka kb ka kb).mono (show 2*K<=2*K+2 by omega)) (alY kc kd) ((G4 kc kd kc kd).mono (by omega)) (by omega);have fX:∀a b c d:AV,wK 2 [a,b,c,d]=[c,d]:=fun _ _ _ _=>rfl
 change ai P L 442 [cF (mZ a b) (DE a b),cF (mZ c d) (DE c d)] (cF (mZ a b+mZ c d) (DE a b+DE c d)) at e3
 unfold ai at e1 e2 e3 ⊢;rw [ax ab5];simp only [go_sem,ya,yb,QO,az,aP,yd,fX,ye,cp,aU,e1,e2,e3,bP];rfl
def aFf (h:FP P L) (ab6:Has P L 458 QQ) (ka:Hq K a) (kb:Hq K b) (kc:Hq K c) (kd:Hq K d) (gT:Hq K a') (iF:Hq K b') (mq:Hq K c') (jG:Hq K d') (hK:K<=100000000):ai P L 458 [jL a b c d,jL a' b' c' d']
  (jL (rU a b a' b'-rV c d c' d') (rV a b a' b'-rU c d c' d') (rU a b c' d'+rU c d a' b') (rV a b c' d'+rV c d a' b')):=by
 have T:=fun {a b c d:Rat} (ka:Hq K a) (kb:Hq K b) (kc:Hq K c) (kd:Hq K d)=>abW h.toRn h.bD h.sT h.qh h.qj h.MW ka kb kc kd (by omega)
 have e1:ai P L 444 [cF a b,cF a' b'] (cF (rU a b a' b') (rV a b a' b')):=T ka kb gT iF;have e2:ai P L 444 [cF c d,cF c' d'] (cF (rU c d c' d') (rV c d c' d')):=T kc kd mq jG;have e3:=abV h.toRp h.MV (LM ka kb gT iF) (G4 ka kb gT iF) (LM kc kd mq jG) (G4 kc kd mq jG) (by omega);have e4:ai P L 444 [cF a b,cF c' d'] (cF (rU a b c' d') (rV a b c' d')):=T ka kb mq jG;have e5:ai P L 444 [cF c d,cF a' b'] (cF (rU c d a' b') (rV c d a' b')):=T kc kd gT iF;have e6:=MU h.toRp h.E7 (LM ka kb mq jG) (G4 ka kb mq jG) (LM kc kd gT iF) (G4 kc kd gT iF) (by omega);have fX:∀a b c d:AV,wK 2 [a,b,c,d]=[c,d]:=fun _ _ _ _=>rfl
 unfold ai at e1 e2 e3 e4 e5 e6 ⊢;rw [ax ab6];simp only [go_sem,ya,yb,QQ,az,aP,yd,fX,ye,cp,aU,e1,e2,e3,e4,e5,e6,pC,pD,nB];rfl
end
section
variable {P:aJ} {L:Lib}
def ab7 (h:Rp P L) (eE:Has P L 261 nJ) (bD:Has P L 315 fU) (eQ:Has P L 419 mL) (sU:Has P L 422 EO) {a b c d:List Nat} (la:a.length<=1000000000) (lb:b.length<=1000000000) (lc:c.length<=1000000000) (ld:d.length<=1000000000):ai P L 422 [dh a b c d] (ab (if cB a b=0 then cB c d else cB a b)):=by
 have e1:=C1 h eE bD eQ la lb;have e2:=C1 h eE bD eQ lc ld;have fX:∀a b c d:AV,wK 2 [a,b,c,d]=[c,d]:=fun _ _ _ _=>rfl
 unfold dh;unfold bF at e1 e2;unfold ai at e1 e2 ⊢;rw [ax sU];by_cases h0:cB a b=0
 ·rw [yz h0];rw [h0] at e1;simp only [go_sem,ya,yb,EO,az,aP,yd,fX,ye,cp,aU,e1,e2]
 ·rw [yp h0];simp only [go_sem,ya,yb,EO,az,aP,yd,ye,cp,aU,e1,h0,yk]
end
end
section
open Go (IntKind)
section
variable {P:aJ} {L:Lib}
def agO {k:Nat} {s:List Nat} (h:cS k s=true):s.length<=2*k+2:=by
 unfold cS at h;simp only [Bool.and_eq_true,xt] at h;exact h.1
def Su (h:Rp P L) (eE:Has P L 261 nJ) (bD:Has P L 315 fU) (eQ:Has P L 419 mL) (me:Has P L 359 pW) (sW:Has P L 451 CN) {k:Nat} (hk:k<=1000) {x y:List Nat} (hx:x.length<9223372036854775808) (hy:y.length<9223372036854775808):ai P L 451 [bF x y,ab k] (.bool (cS k x&&cS k y&&decide (cB x y=0))):=by
 have e1:=P6 h.toRm me hk (s:=x) (by omega);have e2:=P6 h.toRm me hk (s:=y) (by omega);have e3:cS k x=true->cS k y=true->ai P L 419 [bF x y] (ab (cB x y)):=fun f1 f2=>by
  have l1:=agO f1;have l2:=agO f2;exact C1 h eE bD eQ (by omega) (by omega)
 unfold bF at*
 unfold ai at*;rw [ax sW];cases h1:cS k x
 ·rw [h1] at e1;simp only [go_sem,ya,yb,CN,az,aP,yd,ye,e1,wg]
 ·cases h2:cS k y
  ·rw [h1] at e1;rw [h2] at e2;simp only [go_sem,ya,yb,CN,az,aP,yd,bj,ye,e1,e2,xV,wg]
  ·have e3:=e3 h1 h2;unfold ai at e3;rw [h1] at e1;rw [h2] at e2;simp only [go_sem,ya,yb,CN,az,aP,yd,bj,ye,cp,aU,e1,e2,e3,xV]
end
end
section
def OW {a b:Rat} (iV:a<=b):gM a b=mZ a b:=by
 unfold gM mZ jS;by_cases h0:a<=0/\0<=b
 ·rw [yz h0,yz (by simp [h0.1,h0.2])]
 ·rw [yp h0,yp (by simpa using h0)];simp only [dl,bU,List.foldl];rw [Rat.mul_comm b a];by_cases ha:0<=a
  ·have h1:=wT iV ha;have h2:=Rat.mul_le_mul_of_nonneg_right iV (Rat.le_trans ha iV)
   grind
  ·have hb:b<=0:=by grind
   have h1:=wT iV (show (0:Rat)<=-b by grind);have h2:=wT iV (show (0:Rat)<=-a by grind)
   grind
end
end VE
