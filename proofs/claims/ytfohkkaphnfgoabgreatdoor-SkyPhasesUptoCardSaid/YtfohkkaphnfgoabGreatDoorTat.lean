import Derived.Test.YtfohkkaphnfgoabGreatDoorTas
import Derived.Test.YtfohkkaphnfgoabGreatDoorTai
import Derived.Test.YtfohkkaphnfgoabGreatDoorTal
import Derived.Test.YtfohkkaphnfgoabGreatDoorTam
import Derived.Test.YtfohkkaphnfgoabGreatDoorTah
set_option linter.all false
set_option maxRecDepth 100000
open Bool renaming and_self→wB,not_false→yG,not_true→yK
open Int renaming emod_lt_of_pos→wR,emod_nonneg→wm,tmod_eq_emod_of_nonneg→xB,toNat_natCast→xN
open List renaming drop→xo,drop_drop→wQ,drop_zero→yi,eq_nil_of_length_eq_zero→yD,flatten_cons→wU,getElem_map→yaf,getElem_mem→xr,length_cons→yu,length_map→yY,length_nil→yA,length_take→yQ,map_append→xy,map_cons→yS,map_nil→xH,mem_cons→wg,mem_cons_of_mem→wv,mem_cons_self→vj,nil_append→xW,not_mem_nil→yag,replicate→yH,replicate_succ→wP,take_of_length_le→yE,take_succ_eq_append_getElem→yT,take_zero→uB
open Nat renaming add_mul→we,add_zero→yV,eq_zero_or_pos→xm,le_refl→yv,le_trans→xj,min_eq_left→xQ,mul_one→yj,not_lt_zero→tB,one_lt_two_pow→wT,reduceAdd→yb,reduceEqDiff→ya,reduceLT→yq,reduceLeDiff→yh,reduceMul→xt,zero_add→yd
open Rat renaming den_intCast→wG,floor_def→uP,mul_comm→vG,num_intCast→wF,one_mul→ybf
namespace VE
section
open Go (IntKind)
def ajx {n:Int} {d:Nat} (hd:0<d):n/(d:Int)=if n<0/\0<n.natAbs%d then -((n.natAbs/d:Nat)+1:Int) else cg (decide (n<0)) (n.natAbs/d):=by
 have eU:=Nat.div_add_mod n.natAbs d;have hm:=Nat.mod_lt n.natAbs hd;generalize n.natAbs/d=q at*
 generalize hr:n.natAbs%d=r at*
 by_cases h0:n<0
 ·have hn:n= -((d*q+r:Nat):Int):=by omega
  by_cases h1:0<r
  ·rw [yL ⟨h0,h1⟩];rw [hn]
   refine (Int.ediv_emod_unique (a:= -((d*q+r:Nat):Int)) (b:=(d:Int)) (r:=(d:Int)-r) (q:= -((q:Int)+1)) (by omega)).2 ⟨?_,by omega,by omega⟩ |>.1
   grind
  ·have:r=0:=by omega
   subst this;rw [yF (by omega)];unfold cg;rw [yL (by simpa using h0),hn,yV,Int.natCast_mul,<-Int.mul_neg,Int.mul_ediv_cancel_left _ (by omega)]
 ·rw [yF (by omega)];unfold cg;rw [yF (by simpa using h0)];have hn:n=((d*q+r:Nat):Int):=by omega
  rw [hn];rw [<-Int.natCast_ediv,Nat.mul_add_div hd,Nat.div_eq_of_lt hm,yV]
section
variable {P:aI} {L:Lib}
def aer (h:Rm P L) (mW:Has P L 338 As) {a:Rat} {K:Nat} (ka:Hq K a) (hK:K<=8000000000):ae P L 338 [.str (RT a)] (.bool (decide (a.den=1))):=by
 have hl:=D7 ka;have e0:=Cs h.sF (s:=RT a) (by omega);unfold ae at e0 ⊢;rw [au mW];by_cases hd:a.den=1
 ·have hs:bO (RT a)=(RT a).length:=by
   unfold RT;rw [yL hd]
   have:=Dp a.num []
   rw [this];simp [bO]
  rw [hs] at e0;simp only [go_sem,ya,As,e0,hd,yo]
 ·have hs:bO (RT a)<(RT a).length:=by
   unfold RT;rw [yF hd,Dp];simp [bO]
  rw [yX hd];simp only [go_sem,ya,As,e0,show ¬((bO (RT a):Nat):Int)=((RT a).length:Int) by omega,yp]
def auK (h:Rm P L) (pg:Has P L 339 At) {v w:AV} {n d:Int} {K:Nat} (hK:K<=7000000000) (hv:iq v n) (hw:iq w d) (kn:Bd K n) (kd:Bd K d) (hd:0<d):∃r,ae P L 339 [v,w] r/\iq r (n/d):=by
 obtain ⟨x,a,rfl,hx,ha,na,va⟩:=hv;obtain ⟨y,b,rfl,hy,hb,nb,vb⟩:=hw;have la:=xj (gT ha na (by rw [va];exact kn.r)) hK
 have lb:=xj (gT hb nb (by rw [vb];exact kd.r)) hK
 obtain ⟨q,r,lq,lr,e1,hq,hr,dq,nq,dr,nr,vq,vr⟩:=RJ h hx hy ha hb na nb (by omega) (by omega) (by omega);rw [va,vb] at vq vr;have Ft:lq.length<=7000000000:=xj (gT dq nq (by rw [vq];exact Nat.lt_of_le_of_lt (Nat.div_le_self _ _) kn.r)) hK
 have qQ:=ajx (n:=n) (d:=d.natAbs) (by omega);rw [show ((d.natAbs:Nat):Int)=d by omega] at qQ;have kR:(0<n.natAbs%d.natAbs)↔0<lr.length:=by
  rw [<-vr];constructor
  ·intro h1;rcases xm lr.length with h0 | h0
   ·rw [yD h0] at h1;simp [dv] at h1
   ·exact h0
  ·intro h1;rcases xm (dv lr) with h0 | h0
   ·have:=Ql nr dr h0;subst this;simp at h1
   ·exact h0
 by_cases hc:n<0/\0<lr.length
 ·obtain ⟨c1,c2⟩:=hc;rw [yL ⟨c1,kR.2 c2⟩] at qQ;have fw:bk (.aH true 1 [aa 1]) [(1:Int)]:=fb true [(1:Int)];obtain ⟨z,out,e2,hz,hdo,hvo,bi⟩:=ad6 h.Nw h.lP hq fw dq (jc.2 (by decide)) (by omega) (by simp);simp only [yu,yA] at bi;obtain ⟨s,e3,hs⟩:=mT h.gK h.cJ (decide (n<0)) hz hdo (by omega);have aQ:cg (decide (n<0)) (dv out)=n/d:=by
   rw [hvo,vq,qQ];unfold cg;rw [yL (by simpa using c1)];simp [dv]
  rw [aQ] at hs;refine ⟨s,?_,hs⟩;obtain ⟨sw,sl,rfl,fO,_,_,_⟩:=hs;unfold ae at e1 e2 e3 ⊢;rw [au pg];simp only [c1,yo] at e3 ⊢;simp only [go_sem,ya,yb,yq,yh,yj,At,aG,hx.pu,hx.af,hx.one,hy.pu,hy.af,hy.one,aZ,yd,bX,e1,hq.af,hq.bT,hr.len,hr.bT,show (0:Int)<(lr.length:Int) by omega,yo,e2,hz.af,e3,fO.pu,fO.one,bm,dj];rcases fO with ⟨rfl,_⟩ | ⟨e,rfl⟩<;>rfl
 ·rw [yF (fun e=>hc ⟨e.1,kR.1 e.2⟩)] at qQ;obtain ⟨s,e3,hs⟩:=mT h.gK h.cJ (decide (n<0)) hq dq (by omega);rw [vq,<-qQ] at hs;refine ⟨s,?_,hs⟩;obtain ⟨sw,sl,rfl,fO,_,_,_⟩:=hs;unfold ae at e1 e3 ⊢;rw [au pg];by_cases h0:n<0
  ·have iW:lr.length=0:=by
    rcases xm lr.length with h1 | h1
    ·exact h1
    ·exact absurd ⟨h0,h1⟩ hc
   simp only [h0,yo] at e3 ⊢;simp only [go_sem,ya,yb,At,aG,hx.pu,hx.af,hx.one,hy.pu,hy.af,hy.one,aZ,yd,bX,e1,hq.af,hq.bT,hr.len,hr.bT,iW,show ¬(0:Int)<((0:Nat):Int) by omega,e3,fO.pu,fO.one,bm,dj];rcases fO with ⟨rfl,_⟩ | ⟨e,rfl⟩<;>rfl
  ·simp only [h0,yp] at e3 ⊢;simp only [go_sem,ya,yb,At,aG,hx.pu,hx.af,hx.one,hy.pu,hy.af,hy.one,aZ,yd,bX,e1,hq.af,hq.bT,hr.bT,e3,fO.pu,fO.one,bm,dj];rcases fO with ⟨rfl,_⟩ | ⟨e,rfl⟩<;>rfl
def Tp (h:Rm P L) (AK:Has P L 336 ED) (mW:Has P L 338 As) (pg:Has P L 339 At) {a:Rat} {K:Nat} (ka:Hq K a) (hK:K<=7000000000):ae P L 336 [.str (RT a)] (.str (RT (a.floor:Rat))):=by
 have e0:=aer h mW ka (by omega);unfold ae at e0 ⊢;rw [au AK];by_cases hd:a.den=1
 ·rw [xi hd] at e0;have hf:(a.floor:Rat)=a:=by
   rw [uP,hd];simp only [Int.natCast_one,Int.ediv_one];exact (LH a hd).symm
  rw [hf];simp only [go_sem,ya,ED,e0]
 ·rw [yX hd] at e0;obtain ⟨x,y,e1,hx,hy⟩:=Ef h ka (by omega);obtain ⟨r,e2,hr⟩:=auK h pg (K:=K) hK hx hy ka.1 ka.2 (Lf a);rw [<-uP] at hr;have kf:Bd K a.floor:=ka.1.le (by
   rw [uP]
   exact Int.natAbs_ediv_le_natAbs _ _)
  obtain ⟨e3,_⟩:=Ny (K:=K) h.Nz h.mP (by omega) hr kf.r;rw [Q3];obtain ⟨xw,xl,rfl,dB,_,_,_⟩:=hx;obtain ⟨yw,yl,rfl,dC,_,_,_⟩:=hy;obtain ⟨eH,rl,rfl,nc,_,_,_⟩:=hr;simp only [go_sem,ya,yb,ED,e0,aG,e1,dB.pu,dB.af,dB.one,dC.pu,dC.af,dC.one,nc.af,aY,bm,pL,dj,dX,e2,e3]
end
end
section
open Go (IntKind)
section
variable {P:aI} {L:Lib}
def auL (h:Rm P L) (EP:Has P L 340 EE) (mW:Has P L 338 As) {n:Nat} (hn:n<1000000000):ae P L 340 [.str (RT ((n:Int):Rat))] (.aq [aa n,.bool true]):=by
 have kz:Hq 40 ((n:Int):Rat):=⟨by rw [wF];unfold Bd;omega,by rw [wG];unfold Bd;omega⟩;have e0:=aer h mW kz (by omega);rw [show ((n:Int):Rat).den=1 from wG ..,xi rfl] at e0;have hl:(ax n).length<=9:=oP (k:=8) (by omega);obtain ⟨x,e1,hx⟩:=Td h.toRb (n:=(n:Int)) (by simp;omega);rw [Q3] at e0 ⊢;rw [jI] at e0 e1 ⊢;obtain ⟨w,l,rfl,hw,hd,hz,hv⟩:=hx;rw [Int.natAbs_natCast] at hv;have om:l.length<=1:=Qv hd hz (by omega);have fk:decide ((n:Int)<0)=false:=yX (by omega);rw [fk] at e1;unfold ae at e0 e1 ⊢;rw [au EP]
 match l,om,hw,hv,hd with
 | [],_,hw,hv,hd=>
  have h0:n=0:=by rw [<-hv];rfl
  subst h0;simp only [go_sem,ya,yb,EE,e0,yK,show ¬(20:Int)<((ax 0).length:Int) by decide,aG,e1,bm,hw.len,hw.pu,hw.one,dj,aZ,yd,bX,yA,show ((0:Nat):Int)-1= -1 from rfl,show IntKind.wrap .i64 (-1)= -1 from rfl,D4,ao,QN,show ¬(0:Int)<=-1 by decide];rfl
 | [d],_,hw,hv,hd=>
  have gd:=jc.1 hd;have zk:d=(n:Int):=by simp [dv] at hv;omega
  subst zk;have ei:=hw.a8 (i:=0) (by simp);simp only [List.getElem_cons_zero] at ei
  simp only [go_sem,ya,yb,EE,e0,yK,show ¬(20:Int)<((ax n).length:Int) by omega,aG,e1,bm,hw.len,hw.pu,hw.one,dj,aZ,yd,bX,yu,yA,show ((1:Nat):Int)-1=0 from rfl,show IntKind.wrap .i64 0=0 from rfl,D4,ao,QN,show (0:Int)<=0 by decide,yo,ei,yp,show ¬(9223372036:Int)<0 by decide,show ¬(0:Int)< -9223372036 by decide,show ¬(0:Int)=9223372036 by decide,show ¬(0:Int)= -9223372036 by decide,Int.zero_mul,Int.zero_add,wrapN (n:=n) (by omega),show (0:Int)-1= -1 from rfl,show IntKind.wrap .i64 (-1)= -1 from rfl,show ¬(0:Int)<=-1 by decide];rfl
def aes (h:Rx P L) (qG:Has P L 265 Ew) (AK:Has P L 336 ED) (NE:Has P L 337 M7) (mW:Has P L 338 As) (pg:Has P L 339 At) (EP:Has P L 340 EE) {m s:Int} {K:Nat} (km:Hq K (m:Rat)) (rz:100<=K) (hK:K<=1000000000) (jC:0<s) (hs:s<1000000000):ae P L 337 [.str (RT (m:Rat)),aa s] (aa (m%s)):=by
 have Jv:s.natAbs<2^64:=by omega
 have ks:Hq K (s:Rat):=⟨by rw [wF];exact Nat.lt_of_lt_of_le Jv (Nat.pow_le_pow_right (by decide) (by omega)),by rw [wG];exact wT (by omega)⟩
 have To:(s:Rat)≠0:=fun e=>by
  have:=congrArg Rat.num e
  have:s=0:=this
  omega
 have e1:=RM h.toRm qG (n:=s) (by omega);have e2:=ac2 h km ks (by omega) To;have kd:=km.div ks;have e3:=Tp h.toRm AK mW pg kd (by omega);have kg:=DB kd (by omega);have e4:=qc h.toRn ks kg (by omega);have e5:=B9 h.toRp km (ks.mul kg) (by omega);rw [X5 _ jC] at e5;have n8:=wm m (show s≠0 by omega);have asj:=wR m jC;obtain ⟨r,hr⟩:∃r:Nat,m%s=r:=⟨(m%s).toNat,by omega⟩;rw [hr] at e5 ⊢;have e6:=auL h.toRm EP mW (n:=r) (by omega);unfold ae at e1 e2 e3 e4 e5 e6 ⊢;rw [au NE];simp only [go_sem,ya,M7,e1,e2,e3,e4,e5,e6]
end
end
section
open Go (IntKind)
def CB (sc f o w:Rat) (fr:Int):Rat:=sc*f+1*o+(fr:Rat)*w
def aqD {sc f o w:Rat} {fr:Int} {K J:Nat} (ks:Hq K sc) (kf:Hq J f) (ko:Hq K o) (kw:Hq K w) (gA:fr.natAbs<2^64) (hK:100<=K):Hq (4*K+J+100) (CB sc f o w fr):=by
 have C9:Hq 64 (fr:Rat):=⟨by rw [wF];exact gA,by rw [wG];exact wT (by omega)⟩
 exact (((ks.mul kf).add (jZ.mul ko)).add (C9.mul kw)).mono (by omega)
section
variable {P:aI} {L:Lib}
def auM (h:Sr0 P L) (qG:Has P L 265 Ew) (Tq:Has P L 333 M6) {scr st:AV} (o1:br scr=true) (p1:aX scr=true) (o2:br st=true) (p2:aX st=true) {dx dy hs hh sc ox oy wx wy x y:Rat} {fr:Int} {K:Nat} (C6:Hq K dx) (C7:Hq K dy) (ks:Hq K hs) (kh:Hq K hh) (Ko:Hq K sc) (kox:Hq K ox) (koy:Hq K oy) (kwx:Hq K wx) (kwy:Hq K wy) (kx:Hq K x) (ky:Hq K y) (rz:100<=K) (hK:K<=10000000) (AY: -9223372036854775808<=fr) (gM:fr<9223372036854775808):
  ae P L 333 [.agg [scr,.str (RT hh),.str (RT sc),st,.str (RT ox),.str (RT oy),.str (RT wx),.str (RT wy)],fa (RT dx) (RT dy) (RT hs),lY x y,aa fr]
   (lY (CB sc (fD hs hh*x+hh*dx) ox wx fr) (CB sc (fD hs hh*y+hh*dy) oy wy fr)):=by
 have e1:=auG h C6 C7 ks kh kx ky (by omega);have Gu:Hq (5*K+10) (fD hs hh*x+hh*dx):=(((GX ks kh).mul kx).add (kh.mul C6)).mono (by omega);have Gv:Hq (5*K+10) (fD hs hh*y+hh*dy):=(((GX ks kh).mul ky).add (kh.mul C7)).mono (by omega);have e2:=aep h Ko Gu Gv (by omega);have e3:=NC h (Ko.mul Gu) (Ko.mul Gv) jZ kox koy (by omega);have e4:=RM h.toRm qG (n:=fr) ⟨AY,gM⟩;have C9:Hq 64 (fr:Rat):=⟨by rw [wF];unfold Bd;omega,by rw [wG];exact wT (by omega)⟩
 have e5:=NC h ((Ko.mul Gu).add (jZ.mul kox)) ((Ko.mul Gv).add (jZ.mul koy)) C9 kwx kwy (by omega);rw [NB] at e3;unfold ae at e1 e2 e3 e4 e5 ⊢;rw [au Tq];have d2:∀a b c d e f g i:AV,xo 2 [a,b,c,d,e,f,g,i]=[c,d,e,f,g,i]:=fun _ _ _ _ _ _ _ _=>rfl
 have d6:∀a b c d e f g i:AV,xo 6 [a,b,c,d,e,f,g,i]=[g,i]:=fun _ _ _ _ _ _ _ _=>rfl
 have d4:∀a b c d e f g i:AV,xo 4 [a,b,c,d,e,f,g,i]=[e,f,g,i]:=fun _ _ _ _ _ _ _ _=>rfl
 simp only [go_sem,ya,yb,M6,aY,aG,o1,p1,o2,p2,aZ,yd,bX,d2,d4,d6,dX,fc,e1,e2,e3,e4,e5,bm,dj];rfl
end
end
section
open Go (IntKind)
section
variable {P:aI} {L:Lib}
def auN (h:Sp P L) (Tt:Has P L 116 MI) {scr st:AV} (o1:br scr=true) (p1:aX scr=true) (o2:br st=true) (p2:aX st=true) {dx dy s hh sc ox oy wx wy x y:List Nat} {fr:Int} (cdx:aU dx=0) (cdy:aU dy=0) (cs:aU s=0) (ch:aU hh=0) (Gw:aU sc=0) (VB:aU ox=0) (VD:aU oy=0) (VF:aU wx=0) (VG:aU wy=0) (cx:aU x=0) (cy:aU y=0) (AY: -9223372036854775808<=fr) (gM:fr<9223372036854775808):
  ∃r,ae P L 116 [.agg [scr,.str hh,.str sc,st,.str ox,.str oy,.str wx,.str wy],fa dx dy s,iL x y,aa fr] r/\
   nA r (CB (bC sc) (fD (bC s) (bC hh)*bC x+bC hh*bC dx) (bC ox) (bC wx) fr) (CB (bC sc) (fD (bC s) (bC hh)*bC y+bC hh*bC dy) (bC oy) (bC wy) fr):=by
 have H:=fun {t:List Nat} (c:aU t=0)=>jK c (yv 2400)
 obtain ⟨M,hM⟩:∃M,M=100000:=⟨_,rfl⟩;obtain ⟨a,e1,ha⟩:=sN h ch;obtain ⟨b,e2,hb⟩:=m64 h cdx cdy cs cx cy ha (H ch) (by omega);obtain ⟨c,e3,hc⟩:=sN h Gw;have VH:=QB (H cs) (H ch) (H cx) (H cdx);have VI:=QB (H cs) (H ch) (H cy) (H cdy);obtain ⟨d,e4,hd⟩:=OU h hb hc (VH.mono (show 5*2400+10<=M by omega)) (VI.mono (by omega)) ((H Gw).mono (by omega)) (by omega);rw [vG _ (bC sc),vG _ (bC sc)] at hd;obtain ⟨o,e5,ho⟩:=OT h VB VD;obtain ⟨f,e6,hf⟩:=Tn h hd ho (((H Gw).mul VH).mono (show 2400+(5*2400+10)<=M by omega)) (((H Gw).mul VI).mono (by omega)) ((H VB).mono (by omega)) ((H VD).mono (by omega)) (by omega);obtain ⟨g,e7,hg⟩:=OT h VF VG;obtain ⟨i,e8,hi⟩:=CY h.toFr' AY gM;have C9:Hq 64 (fr:Rat):=⟨by rw [wF];unfold Bd;omega,by rw [wG];exact wT (by omega)⟩
 obtain ⟨j,e9,hj⟩:=OU h hg hi ((H VF).mono (show 2400<=M by omega)) ((H VG).mono (by omega)) (C9.mono (by omega)) (by omega);rw [vG _ (fr:Rat),vG _ (fr:Rat)] at hj;obtain ⟨r,zt,hr⟩:=Tn h hf hj ((((H Gw).mul VH).add (H VB)).mono (show 2400+(5*2400+10)+2400+1<=M by omega)) ((((H Gw).mul VI).add (H VD)).mono (by omega)) ((C9.mul (H VF)).mono (by omega)) ((C9.mul (H VG)).mono (by omega)) (by omega);have bY:=hr;refine ⟨r,?_,by unfold CB;rw [ybf,ybf];exact bY⟩
 obtain ⟨a1,a2,a3,a4,rfl,ga⟩:=ha.gen;obtain ⟨b1,b2,b3,b4,b5,b6,b7,b8,rfl,gb⟩:=hb.gen;obtain ⟨c1,c2,c3,c4,rfl,gc⟩:=hc.gen;obtain ⟨d1,d2,d3,d4,d5,d6,d7,d8,rfl,gd⟩:=hd.gen;obtain ⟨k1,k2,k3,k4,k5,k6,k7,k8,rfl,gk⟩:=ho.gen;obtain ⟨f1,f2,f3,f4,f5,f6,f7,f8,rfl,gf⟩:=hf.gen;obtain ⟨g1,g2,g3,g4,g5,g6,g7,g8,rfl,gg⟩:=hg.gen;obtain ⟨i1,i2,i3,i4,rfl,gi⟩:=hi.gen;obtain ⟨j1,j2,j3,j4,j5,j6,j7,j8,rfl,gj⟩:=hj.gen;obtain ⟨r1,r2,r3,r4,r5,r6,r7,r8,rfl,gr⟩:=hr.gen;have dd2:∀a b c d e f g i:AV,xo 2 [a,b,c,d,e,f,g,i]=[c,d,e,f,g,i]:=fun _ _ _ _ _ _ _ _=>rfl
 have dd6:∀a b c d e f g i:AV,xo 6 [a,b,c,d,e,f,g,i]=[g,i]:=fun _ _ _ _ _ _ _ _=>rfl
 unfold ae at e1 e2 e3 e4 e5 e6 e7 e8 e9 zt ⊢;rw [au Tt];simp only [go_sem,ya,yb,MI,aY,aG,o1,p1,o2,p2,aZ,yd,bX,dd2,BC,dd6,dX,fc,Eg,ga.af,gb.af,gc.af,gd.af,gk.af,gf.af,gg.af,gi.af,gj.af,e1,e2,e3,e4,e5,e6,e7,e8,e9,zt,bm,gd.st,gr.st,cR,cS,yi,gr.dY]
end
end
section
open Go (IntKind)
def cP (x:Rat):Rat:=x-(x.floor:Int)
def LM (n:Int) (x y:Rat):AV:=
 .agg [aa (x.floor%n),aa (y.floor%n),.str (RT ((1-cP x)*(1-cP y))),aa ((x.floor%n+1)%n),aa (y.floor%n),.str (RT (cP x*(1-cP y))),
  aa (x.floor%n),aa ((y.floor%n+1)%n),.str (RT ((1-cP x)*cP y)),aa ((x.floor%n+1)%n),aa ((y.floor%n+1)%n),.str (RT (cP x*cP y))]
def alD {tm:Env} {a b c:AV} {r:List (Nat×Nat×X)} {x0 x1 x2 x3 x4 x5 x6 x7 x8 x9 xa xb:AV} (h1:br a=true) (h2:br b=true) (h3:br c=true):fG tm [x0,x1,x2,x3,x4,x5,x6,x7,x8,x9,xa,xb] 0 3 [a,b,c] r=fill tm [a,b,c,x3,x4,x5,x6,x7,x8,x9,xa,xb] r:=by
 rw [jb (by rfl) (by simp) (by simp [bL,h1,h2,h3])];rfl
def alE {tm:Env} {a b c:AV} {r:List (Nat×Nat×X)} {x0 x1 x2 x3 x4 x5 x6 x7 x8 x9 xa xb:AV} (h1:br a=true) (h2:br b=true) (h3:br c=true):fG tm [x0,x1,x2,x3,x4,x5,x6,x7,x8,x9,xa,xb] 3 3 [a,b,c] r=fill tm [x0,x1,x2,a,b,c,x6,x7,x8,x9,xa,xb] r:=by
 rw [jb (by rfl) (by simp) (by simp [bL,h1,h2,h3])];rfl
def alF {tm:Env} {a b c:AV} {r:List (Nat×Nat×X)} {x0 x1 x2 x3 x4 x5 x6 x7 x8 x9 xa xb:AV} (h1:br a=true) (h2:br b=true) (h3:br c=true):fG tm [x0,x1,x2,x3,x4,x5,x6,x7,x8,x9,xa,xb] 6 3 [a,b,c] r=fill tm [x0,x1,x2,x3,x4,x5,a,b,c,x9,xa,xb] r:=by
 rw [jb (by rfl) (by simp) (by simp [bL,h1,h2,h3])];rfl
def alG {tm:Env} {a b c:AV} {r:List (Nat×Nat×X)} {x0 x1 x2 x3 x4 x5 x6 x7 x8 x9 xa xb:AV} (h1:br a=true) (h2:br b=true) (h3:br c=true):fG tm [x0,x1,x2,x3,x4,x5,x6,x7,x8,x9,xa,xb] 9 3 [a,b,c] r=fill tm [x0,x1,x2,x3,x4,x5,x6,x7,x8,a,b,c] r:=by
 rw [jb (by rfl) (by simp) (by simp [bL,h1,h2,h3])];rfl
def abr (hp:Hp) (ct id:Nat) (a b d e g h k l:Int) (c f i m:List Nat) (x0 x1 x2 x3 x4 x5 x6 x7 x8 x9 xa xb:AV):fM hp ct id 0 12 [aa a,aa b,.str c,aa d,aa e,.str f,aa g,aa h,.str i,aa k,aa l,.str m] (some (.cells true true true 12 [x0,x1,x2,x3,x4,x5,x6,x7,x8,x9,xa,xb]))=some (.aq [],bh hp id (.cells true true true 12 [aa a,aa b,.str c,aa d,aa e,.str f,aa g,aa h,.str i,aa k,aa l,.str m]),ct):=by
 rw [nV (by rfl) (by simp) (by rfl)];rfl
def Aj {x:Rat} {K:Nat} (h:Hq K x) (hK:1<=K):Hq (2*K+1) (cP x):=(h.sub (DB h hK)).mono (by omega)
structure Ar (P:aI) (L:Lib):Prop extends Rx P L where
 qG:Has P L 265 Ew
 auO:Has P L 334 Sn
 AK:Has P L 336 ED
 NE:Has P L 337 M7
 mW:Has P L 338 As
 pg:Has P L 339 At
 EP:Has P L 340 EE
section
variable {P:aI} {L:Lib}
def auP (h:Ar P L) {x y:Rat} {n:Int} {K:Nat} (kx:Hq K x) (ky:Hq K y) (rz:100<=K) (hK:K<=1000000000) (lS:0<n) (hn:n<1000000):ae P L 334 [aa n,lY x y] (LM n x y):=by
 have Gu:=DB kx (by omega);have Gv:=DB ky (by omega);have OV:=Aj kx (by omega);have OW:=Aj ky (by omega);have e1:=Tp h.toRm h.AK h.mW h.pg kx (by omega);have e2:=Tp h.toRm h.AK h.mW h.pg ky (by omega);have e3:=B9 h.toRp kx Gu (by omega);have e4:=B9 h.toRp ky Gv (by omega);rw [show x-(x.floor:Int)=cP x from rfl] at e3;rw [show y-(y.floor:Int)=cP y from rfl] at e4;have e5:=aes h.toRx h.qG h.AK h.NE h.mW h.pg h.EP (s:=n) Gu rz hK lS (by omega);have e6:=aes h.toRx h.qG h.AK h.NE h.mW h.pg h.EP (s:=n) Gv rz hK lS (by omega);have e7:=B9 h.toRp jZ OV (by omega);have e8:=B9 h.toRp jZ OW (by omega);have ku:=jZ.sub OV;have kv:=jZ.sub OW;have e9:=qc h.toRn ku kv (by omega);have eA:=qc h.toRn OV kv (by omega);have eB:=qc h.toRn ku OW (by omega);have eC:=qc h.toRn OV OW (by omega)
 rw [NB] at e7 e8;have m1:=wm x.floor (show n≠0 by omega);have m2:=wR x.floor lS;have m3:=wm y.floor (show n≠0 by omega);have m4:=wR y.floor lS;unfold LM;generalize x.floor%n=i at*
 generalize y.floor%n=j at*
 have r1:(i+1).tmod n=(i+1)%n:=xB (by omega);have r2:(j+1).tmod n=(j+1)%n:=xB (by omega);unfold ae at e1 e2 e3 e4 e5 e6 e7 e8 e9 eA eB eC ⊢;rw [au h.auO]
 simp only [go_sem,ya,yb,yh,Sn,aG,aZ,yd,bX,e1,e2,e3,e4,e5,e6,wrap64 (n:=i+1) (by omega) (by omega),wrap64 (n:=j+1) (by omega) (by omega),fo _ _ _ (show n≠0 by omega),r1,r2,e7,e8,e9,eA,eB,eC,alD,alE,alF,alG,abr];rfl
end
end
section
open Go (IntKind)
def alH {tm:Env} {a:AV} {r:List (Nat×Nat×X)} {x0 x1 x2 x3 x4 x5 x6 x7 x8 x9:AV} (h1:br a=true):fG tm [x0,x1,x2,x3,x4,x5,x6,x7,x8,x9] 0 1 [a] r=fill tm [a,x1,x2,x3,x4,x5,x6,x7,x8,x9] r:=by
 rw [jb (by rfl) (by simp) (by simp [bL,h1])];rfl
def alI {tm:Env} {a:AV} {r:List (Nat×Nat×X)} {x0 x1 x2 x3 x4 x5 x6 x7 x8 x9:AV} (h1:br a=true):fG tm [x0,x1,x2,x3,x4,x5,x6,x7,x8,x9] 1 1 [a] r=fill tm [x0,a,x2,x3,x4,x5,x6,x7,x8,x9] r:=by
 rw [jb (by rfl) (by simp) (by simp [bL,h1])];rfl
def alJ {tm:Env} {a b c d:AV} {r:List (Nat×Nat×X)} {x0 x1 x2 x3 x4 x5 x6 x7 x8 x9:AV} (h1:br a=true) (h2:br b=true) (h3:br c=true) (h4:br d=true):fG tm [x0,x1,x2,x3,x4,x5,x6,x7,x8,x9] 2 4 [a,b,c,d] r=fill tm [x0,x1,a,b,c,d,x6,x7,x8,x9] r:=by
 rw [jb (by rfl) (by simp) (by simp [bL,h1,h2,h3,h4])];rfl
def alK {tm:Env} {a b c d:AV} {r:List (Nat×Nat×X)} {x0 x1 x2 x3 x4 x5 x6 x7 x8 x9:AV} (h1:br a=true) (h2:br b=true) (h3:br c=true) (h4:br d=true):fG tm [x0,x1,x2,x3,x4,x5,x6,x7,x8,x9] 6 4 [a,b,c,d] r=fill tm [x0,x1,x2,x3,x4,x5,a,b,c,d] r:=by
 rw [jb (by rfl) (by simp) (by simp [bL,h1,h2,h3,h4])];rfl
def Eh (v:AV) (i j:Int) (f g:Rat):Prop:=∃c1 c2 c3 c4 d1 d2 d3 d4,v= .agg [aa i,aa j,c1,c2,c3,c4,d1,d2,d3,d4]/\bW (.agg [c1,c2,c3,c4]) f/\bW (.agg [d1,d2,d3,d4]) g
section
variable {P:aI} {L:Lib}
def m55 (h:Fr' P L) (Kg:Has P L 55 N9) (EO:Has P L 103 Ih) (AJ:Has P L 150 Et) {v:AV} {x y:Rat} {s:Int} {K:Nat} (hv:nA v x y) (kx:Hq K x) (ky:Hq K y) (rz:100<=K) (hK:K<=1000000000) (jC:0<s) (hs:s<1000000):
  ∃r,ae P L 55 [v,aa s] r/\Eh r (x.floor%s) (y.floor%s) (cP x) (cP y):=by
 obtain ⟨s1,w1,s2,w2,s3,w3,s4,w4,rfl,h1,h2,h3,h4⟩:=hv;obtain ⟨f,e1,hf⟩:=aeq h EO AJ (v:= .agg [aa s1,w1,aa s2,w2]) (a:=x) ⟨s1,w1,s2,w2,rfl,h1,h2⟩ kx rz hK jC hs;obtain ⟨g,e2,hg⟩:=aeq h EO AJ (v:= .agg [aa s3,w3,aa s4,w4]) (a:=y) ⟨s3,w3,s4,w4,rfl,h3,h4⟩ ky rz hK jC hs;have eb:=hf;have C3:=hg;obtain ⟨c1,c2,c3,c4,rfl,gf⟩:=hf.gen;obtain ⟨d1,d2,d3,d4,rfl,gg⟩:=hg.gen;obtain ⟨l1,u1⟩:=h1.aD;obtain ⟨l2,u2⟩:=h2.aD;obtain ⟨l3,u3⟩:=h3.aD;obtain ⟨l4,u4⟩:=h4.aD;refine ⟨_,?_,c1,c2,c3,c4,d1,d2,d3,d4,rfl,eb,C3⟩;have p1:=gf.pu;have p2:=gg.pu;simp only [aX,aK,Bool.and_true,Bool.and_eq_true] at p1 p2;obtain ⟨VJ,VK,VL,VM⟩:=p1;obtain ⟨VN,VO,VP,VQ⟩:=p2
 have aR:∀(hp:Hp) (ct id:Nat) (i j:Int) (x0 x1 x2 x3 x4 x5 x6 x7 x8 x9:AV),fM hp ct id 0 10 [aa i,aa j,c1,c2,c3,c4,d1,d2,d3,d4] (some (.cells true true true 10 [x0,x1,x2,x3,x4,x5,x6,x7,x8,x9]))=some (.aq [],bh hp id (.cells true true true 10 [aa i,aa j,c1,c2,c3,c4,d1,d2,d3,d4]),ct):=fun hp ct id i j x0 x1 x2 x3 x4 x5 x6 x7 x8 x9=>by
  rw [nV (by rfl) (by simp) (by simp [bL,Hd,gf.o1,gf.o2,gf.o3,gf.o4,gg.o1,gg.o2,gg.o3,gg.o4])];simp [aK,D5,VJ,VK,VL,VM,VN,VO,VP,VQ,over]
 have Aw:∀(hp:Hp) (i j:Int),result hp (.agg [aa i,aa j,c1,c2,c3,c4,d1,d2,d3,d4])=some (.agg [aa i,aa j,c1,c2,c3,c4,d1,d2,d3,d4]):=fun hp i j=>by
  have e:freeze (980+20) hp (.agg [aa i,aa j,c1,c2,c3,c4,d1,d2,d3,d4])=some (.agg [aa i,aa j,c1,c2,c3,c4,d1,d2,d3,d4],hp):=
   aY _ _ (by simp only [go_sem,yb,gf.z1,gf.z2,gf.z3,gf.z4,gg.z1,gg.z2,gg.z3,gg.z4])
  show (match freeze (980+20) hp (.agg [aa i,aa j,c1,c2,c3,c4,d1,d2,d3,d4]) with | some (v',_)=>some v' | none=>none)=_
  rw [e]
 unfold ae at e1 e2 ⊢;rw [au Kg];simp only [go_sem,ya,yb,N9,aG,aY,u1.pu,u1.af,u1.one,u2.pu,u2.af,u2.one,u3.pu,u3.af,u3.one,u4.pu,u4.af,u4.one,aZ,yd,BC,jw,e1,e2,gf.st,gg.st,alH,alI,alJ,alK,gf.o1,gf.o2,gf.o3,gf.o4,gg.o1,gg.o2,gg.o3,gg.o4,aR,cR,cS,yi];exact Aw _ _ _
end
end
section
open Go (IntKind)
def js (f g:Rat):List Rat:=[(1-f)*(1-g),f*(1-g),(1-f)*g,f*g]
def IsW (v:AV) (f g:Rat):Prop:=∃cs,v= .agg cs/\QL cs (js f g)
def Q7 {f g:Rat} {K:Nat} (kf:Hq K f) (kg:Hq K g):∀x,x∈js f g->Hq (2*K+6) x:=by
 intro x hx;have ku:=jZ.sub kf;have kv:=jZ.sub kg;simp only [js,wg,yag,or_false] at hx;rcases hx with rfl | rfl | rfl | rfl
 ·exact (ku.mul kv).mono (by omega)
 ·exact (kf.mul kv).mono (by omega)
 ·exact (ku.mul kg).mono (by omega)
 ·exact (kf.mul kg).mono (by omega)
section
variable {tm:Env} {a b c d:AV} {r:List (Nat×Nat×X)} {x0 x1 x2 x3 x4 x5 x6 x7 x8 x9 xa xb xc xd xe xf:AV}
def alL (h1:br a=true) (h2:br b=true) (h3:br c=true) (h4:br d=true):fG tm [x0,x1,x2,x3,x4,x5,x6,x7,x8,x9,xa,xb,xc,xd,xe,xf] 0 4 [a,b,c,d] r=fill tm [a,b,c,d,x4,x5,x6,x7,x8,x9,xa,xb,xc,xd,xe,xf] r:=by
 rw [jb (by rfl) (by simp) (by simp [bL,h1,h2,h3,h4])];rfl
def alM (h1:br a=true) (h2:br b=true) (h3:br c=true) (h4:br d=true):fG tm [x0,x1,x2,x3,x4,x5,x6,x7,x8,x9,xa,xb,xc,xd,xe,xf] 4 4 [a,b,c,d] r=fill tm [x0,x1,x2,x3,a,b,c,d,x8,x9,xa,xb,xc,xd,xe,xf] r:=by
 rw [jb (by rfl) (by simp) (by simp [bL,h1,h2,h3,h4])];rfl
def alN (h1:br a=true) (h2:br b=true) (h3:br c=true) (h4:br d=true):fG tm [x0,x1,x2,x3,x4,x5,x6,x7,x8,x9,xa,xb,xc,xd,xe,xf] 8 4 [a,b,c,d] r=fill tm [x0,x1,x2,x3,x4,x5,x6,x7,a,b,c,d,xc,xd,xe,xf] r:=by
 rw [jb (by rfl) (by simp) (by simp [bL,h1,h2,h3,h4])];rfl
def alO (h1:br a=true) (h2:br b=true) (h3:br c=true) (h4:br d=true):fG tm [x0,x1,x2,x3,x4,x5,x6,x7,x8,x9,xa,xb,xc,xd,xe,xf] 12 4 [a,b,c,d] r=fill tm [x0,x1,x2,x3,x4,x5,x6,x7,x8,x9,xa,xb,a,b,c,d] r:=by
 rw [jb (by rfl) (by simp) (by simp [bL,h1,h2,h3,h4])];rfl
end
def aqE {cs:List AV} (hl:cs.length=16) (ho:bL cs=true) (an:aK cs=true) (hp:Hp) (ct id:Nat) (x0 x1 x2 x3 x4 x5 x6 x7 x8 x9 xa xb xc xd xe xf:AV):fM hp ct id 0 16 cs (some (.cells true true true 16 [x0,x1,x2,x3,x4,x5,x6,x7,x8,x9,xa,xb,xc,xd,xe,xf]))=some (.aq [],bh hp id (.cells true true true 16 cs),ct):=by
 rw [nV hl (by simp) ho,an]
 match cs,hl with
 | [_,_,_,_,_,_,_,_,_,_,_,_,_,_,_,_],_=>rfl
def ZS:∀{l:List Rat} {cs:List AV},QL cs l->∀(n:Nat) (hp:Hp),cB (n+l.length*4+2) hp cs=some (cs,hp)
 | [],_,h,n,hp=>by rw [h.Jf];rfl
 | x::l,cs,h,n,hp=>by
  obtain ⟨a,b,c,d,r,rfl,h1,h2⟩:=h.inv;have g:=h1.f4;have e:=ZS h2 n hp;rw [show n+(x::l).length*4+2=n+l.length*4+2+1+1+1+1 by simp only [yu];omega];simp only [go_sem,g.z1,g.z2,g.z3,g.z4,e]
def QL.af {l:List Rat} {cs:List AV} (h:QL cs l) {n:Nat} (hn:l.length*4+3<=n) (hp:Hp):freeze n hp (.agg cs)=some (.agg cs,hp):=by
 obtain ⟨m,rfl⟩:∃m,n=m+l.length*4+3:=⟨n-(l.length*4+3),by omega⟩;exact aY _ _ (ZS h m hp)
def QL.dY {l:List Rat} {cs:List AV} (h:QL cs l) (hl:l.length<=200) (hp:Hp):result hp (.agg cs)=some (.agg cs):=by
 show (match freeze 1000 hp (.agg cs) with | some (v',_)=>some v' | none=>none)=_
 rw [h.af (by omega)]
def Eh.gen {v:AV} {i j:Int} {f g:Rat} (h:Eh v i j f g):∃c1 c2 c3 c4 d1 d2 d3 d4,v= .agg [aa i,aa j,c1,c2,c3,c4,d1,d2,d3,d4]/\bW (.agg [c1,c2,c3,c4]) f/\bW (.agg [d1,d2,d3,d4]) g/\(∀ct:Nat,Ax ct 10 [aa i,aa j,c1,c2,c3,c4,d1,d2,d3,d4]=some (.ptr ct 0,.cells true true true 10 [aa i,aa j,c1,c2,c3,c4,d1,d2,d3,d4]))/\∀(n:Nat) (hp:Hp),freeze (n+20) hp (.agg [aa i,aa j,c1,c2,c3,c4,d1,d2,d3,d4])=some (.agg [aa i,aa j,c1,c2,c3,c4,d1,d2,d3,d4],hp):=by
 obtain ⟨c1,c2,c3,c4,d1,d2,d3,d4,rfl,hf,hg⟩:=h;have gf:=hf.f4;have gg:=hg.f4;obtain ⟨VJ,VK,VL,VM⟩:=gf.Kn;obtain ⟨VN,VO,VP,VQ⟩:=gg.Kn;refine ⟨c1,c2,c3,c4,d1,d2,d3,d4,rfl,hf,hg,fun ct=>?_,fun n hp=>aY _ _ (by simp only [go_sem,gf.z1,gf.z2,gf.z3,gf.z4,gg.z1,gg.z2,gg.z3,gg.z4])⟩;rw [aG (by rfl) (by simp [bL,Hd,gf.o1,gf.o2,gf.o3,gf.o4,gg.o1,gg.o2,gg.o3,gg.o4])];simp [aK,D5,VJ,VK,VL,VM,VN,VO,VP,VQ]
def Q8 (a b c d e f g h i j:AV):eY 10 true [a,b,c,d,e,f,g,h,i,j]=some (.agg [a,b,c,d,e,f,g,h,i,j]):=rfl
def alP (a b c d e f g h i j:AV):xo 2 [a,b,c,d,e,f,g,h,i,j]=[c,d,e,f,g,h,i,j]:=rfl
def alQ (a b c d e f g h i j:AV):xo 6 [a,b,c,d,e,f,g,h,i,j]=[g,h,i,j]:=rfl
def alR (a b c d e f g h i j:AV):xo 1 [a,b,c,d,e,f,g,h,i,j]=[b,c,d,e,f,g,h,i,j]:=rfl
structure Vl (P:aI) (L:Lib):Prop extends Fr' P L where
 Kg:Has P L 55 N9
 Vi:Has P L 56 Us
 EO:Has P L 103 Ih
 Tu:Has P L 104 MD
 Tv:Has P L 105 ME
 Tw:Has P L 106 MF
 Jg:Has P L 134 Es
 AJ:Has P L 150 Et
section
variable {P:aI} {L:Lib}
def auQ (h:Fr' P L) (Tu:Has P L 104 MD) {v:AV} {i j:Int} {f g:Rat} {K:Nat} (hv:Eh v i j f g) (kf:Hq K f) (kg:Hq K g) (hK:K<=1000000000):∃r,ae P L 104 [v] r/\IsW r f g:=by
 obtain ⟨c1,c2,c3,c4,d1,d2,d3,d4,rfl,hf,hg,bx,_⟩:=hv.gen;have k1:Hq (K+4) (1:Rat):=jZ.mono (by omega);have VR:Hq (K+4) f:=kf.mono (by omega);have VS:Hq (K+4) g:=kg.mono (by omega);have ku:Hq (K+4) (1-f):=(jZ.sub kf).mono (by omega);have kv:Hq (K+4) (1-g):=(jZ.sub kg).mono (by omega);obtain ⟨o,e1,ho⟩:=CY h (z:=1) (by omega) (by omega);have j9:bW o 1:=ho;obtain ⟨u,e2,hu⟩:=Kd h j9 hf k1 VR (by omega);obtain ⟨w,e3,hw⟩:=Kd h j9 hg k1 VS (by omega);obtain ⟨r1,e4,q1⟩:=rq h hu hw ku kv (by omega);obtain ⟨r2,e5,q2⟩:=rq h hf hw VR kv (by omega);obtain ⟨r3,e6,q3⟩:=rq h hu hg ku VS (by omega);obtain ⟨r4,e7,q4⟩:=rq h hf hg VR VS (by omega);have gf:=hf.f4;have gg:=hg.f4;obtain ⟨o1,o2,o3,o4,rfl,go⟩:=ho.gen;obtain ⟨u1,u2,u3,u4,rfl,gu⟩:=hu.gen;obtain ⟨w1,w2,w3,w4,rfl,gw⟩:=hw.gen;obtain ⟨x1,x2,x3,x4,rfl,gx⟩:=q1.gen;obtain ⟨y1,y2,y3,y4,rfl,gy⟩:=q2.gen
 obtain ⟨z1,z2,z3,z4,rfl,gz⟩:=q3.gen;obtain ⟨t1,t2,t3,t4,rfl,gt⟩:=q4.gen;have hq:QL [x1,x2,x3,x4,y1,y2,y3,y4,z1,z2,z3,z4,t1,t2,t3,t4] (js f g):=⟨q1,q2,q3,q4,trivial⟩;have aR:=aqE (by rfl) hq.one hq.pu;refine ⟨_,?_,_,rfl,hq⟩;unfold ae at e1 e2 e3 e4 e5 e6 e7 ⊢;rw [au Tu];simp only [go_sem,ya,yb,MD,bx,aG,aZ,yd,alP,alQ,jw,e1,e2,e3,e4,e5,e6,e7,bm,go.st,gu.st,gw.st,go.af,gu.af,gw.af,gf.af,gg.af,gx.o1,gx.o2,gx.o3,gx.o4,gy.o1,gy.o2,gy.o3,gy.o4,gz.o1,gz.o2,gz.o3,gz.o4,gt.o1,gt.o2,gt.o3,gt.o4,alL,alM,alN,alO,aR,cR,cS,yi];exact hq.dY (by simp [js]) _
def auR (Tv:Has P L 105 ME) (Jg:Has P L 134 Es) {v:AV} {i j:Int} {f g:Rat} {k:Int} {n:Int} (hv:Eh v i j f g) (hi:0<=i/\i<n) (hj:0<=j/\j<n) (hk:0<=k/\k<4) (hn:0<n) (jE:n<=1000000):ae P L 105 [v,aa k,aa n] (.aq [aa ((i+k%2)%n),aa ((j+k/2)%n)]):=by
 obtain ⟨c1,c2,c3,c4,d1,d2,d3,d4,rfl,hf,hg,bx,_⟩:=hv.gen;have e1:=adu Jg (n:=i+k%2) hn jE;have e2:=adu Jg (n:=j+k/2) hn jE;have r1:k.tmod 2=k%2:=xB hk.1;have r2:k.tdiv 2=k/2:=Int.tdiv_eq_ediv_of_nonneg hk.1;unfold ae at e1 e2 ⊢;rw [au Tv]
 simp only [go_sem,ya,ME,bx,aZ,yd,alR,yi,fo _ _ _ (show (2:Int)≠0 by decide),eV _ _ _ (show (2:Int)≠0 by decide),r1,r2,wrap64 (n:=k/2) (by omega) (by omega),wrap64 (n:=i+k%2) (by omega) (by omega),wrap64 (n:=j+k/2) (by omega) (by omega),e1,e2];rfl
def auS (h:Fr' P L) (Tw:Has P L 106 MF) {v w:AV} {s:Rat} {l:List Rat} {K M:Nat} (hv:bW v s) (hw:kN w l) (ks:Hq M s) (kl:∀x,x∈l->Hq K x) (hl:l.length<=1000000) (hK:M+l.length*(K+1)+K<=1000000000):∃r,ae P L 106 [v,w,.fn (.f 74) [] []] r/\bW r (lQ s l):=by
 have key:=eh (P:=P) (L:=L) (live:=[2,3,6,9,10,11]) (a:=Hn)
  (I:=fun k st=>∃i:Nat,i+k=l.length/\∃c1 c2 c3 c4,bW (.agg [c1,c2,c3,c4]) (lQ s (l.take i))/\st=⟨[(2,.fn (.f 74) [] []),(3,.ptr 0 0),(6,.ptr 1 0),(9,w),(10,aa l.length),(11,aa i)],[(1,.cells true true true 4 [.int .i64 0,.ab,.int .i64 0,.ab]),(0,.cells true true true 4 [c1,c2,c3,c4])],2,0⟩)
  (Q:=fun ex st=>∃tm hp ct c1 c2 c3 c4,bW (.agg [c1,c2,c3,c4]) (lQ s l)/\st=⟨tm,hp,ct,0⟩/\ex= .exit 0/\aj tm 3= .ptr 0 0/\aj tm 6= .ptr 1 0/\aw hp 0=some (.cells true true true 4 [c1,c2,c3,c4])/\aw hp 1=some (.cells true true true 4 [.int .i64 0,.ab,.int .i64 0,.ab])) ?_
 ·have ef:=hv;obtain ⟨v1,v2,v3,v4,rfl,gv⟩:=hv.gen;unfold ae;rw [au Tw];simp only [go_sem,ya,yb,MF,gv.bx,aG,hw.len];generalize hq:D P L (.loop [2,3,6,9,10,11] Hn) _=q;obtain ⟨ex,st,rfl,tm,hp,ct,c1,c2,c3,c4,h1,rfl,rfl,t3,t6,g0,g1⟩:=bI hq (key l.length) ⟨0,by omega,v1,v2,v3,v4,by simpa [lQ] using ef,by simp only [go_sem,ya,yb,ao,aA hw.pu,aF _ hw.pu]<;>rfl⟩
  have g:=h1.f4;refine ⟨_,?_,h1⟩;simp only [go_sem,ya,yb,ao,t3,t6,g0,g1,jw,g.st,cR,cS,yi];exact g.dY _
 ·rintro k st ⟨i,hk,c1,c2,c3,c4,hs,rfl⟩;by_cases hi:i<l.length
  ·left
   obtain ⟨a,b,c,d,r,e1,hx⟩:=hw.a8 hi;obtain ⟨y,e2,hy⟩:=Kc h hs hx (K:=M+l.length*(K+1)+K) ((ZR ks kl i).mono (by omega)) ((kl _ (xr hi)).mono (by omega)) (by omega);rw [<-X4 hi] at hy;have ns:=hy;obtain ⟨y1,y2,y3,y4,rfl,gy⟩:=hy.gen;have gs:=hs.f4;have gx:=hx.f4;simp only [go_sem,ya,yb,Hn,show (i:Int)<l.length by omega,e1,ND,jw,aG,gx.st,e2,gs.af,gx.af,gy.st,bm,yi];refine ⟨_,k-1,rfl,by omega,i+1,by omega,y1,y2,y3,y4,ns,?_⟩;rw [wrap64 (by omega) (by omega)];simp only [go_sem,ya,yb,ao,aA hw.pu,aF _ hw.pu]<;>rfl
  ·right
   simp only [go_sem,ya,Hn,show ¬(i:Int)<l.length by omega];rw [yE (by omega)] at hs;exact ⟨_,_,rfl,by simp,_,_,_,c1,c2,c3,c4,hs,rfl,rfl,by simp only [go_sem,ya],by simp only [go_sem,ya],by simp only [go_sem,ya],by simp only [go_sem]⟩
def lF (s:List (List Int)) (i j:Int) (k:Int):Rat:=((jg s (i+k%2) (j+k/2):Int):Rat)
def ig (s:List (List Int)) (i j:Int) (f g:Rat):List Rat:=[(1-f)*(1-g)*lF s i j 0,f*(1-g)*lF s i j 1,(1-f)*g*lF s i j 2,f*g*lF s i j 3]
def NF (s:List (List Int)) (i j:Int) (f g:Rat):Rat:=lQ 0 (ig s i j f g)
def YZ (s:List (List Int)) (i j:Int) (f g:Rat):∀(k:Nat) (hk:k<4),(ig s i j f g)[k]'hk=(js f g)[k]'hk*lF s i j (k:Int)
 | 0,_=>rfl
 | 1,_=>rfl
 | 2,_=>rfl
 | 3,_=>rfl
 | k+4,hk=>absurd hk (by omega)
structure Da (v:AV) (s:List (List Int)) (n:Nat):Prop where
 is:eS v s
 len:s.length=n
 pos:0<n
 le:n<=16
 row:∀i (hi:i<s.length),s[i].length=n
 sq:jf n (-1000) 1000 s=0
def Da.cell {v:AV} {s:List (List Int)} {n:Nat} (h:Da v s n) (c r:Int):∃q rest RO,gU 1 (r%n).toNat v=some (.aO (q::rest))/\gU 1 (c%n).toNat q=some (.aO (aa (jg s c r)::RO)):=by
 obtain ⟨h1,h2,h3⟩:=ala h.len h.pos h.row c r;obtain ⟨q,rest,eT,Fk⟩:=h.is.a8 h1;exact ⟨q,rest,_,Fk,by rw [h3];exact eT.a8 h2⟩
def Da.cI {v:AV} {s:List (List Int)} {n:Nat} (h:Da v s n) (c r:Int): -1000<=jg s c r/\jg s c r<=1000:=Wu h.sq (by decide) c r
def BD {s:List (List Int)} {i j k:Int} (h:∀c r,-1000<=jg s c r/\jg s c r<=1000):Hq 64 (lF s i j k):=by
 have:=h (i+k%2) (j+k/2)
 unfold lF;exact ⟨by rw [wF];unfold Bd;omega,by rw [wG];exact wT (by omega)⟩
def QC {s:List (List Int)} {i j:Int} {f g:Rat} {K:Nat} (h:∀c r,-1000<=jg s c r/\jg s c r<=1000) (kf:Hq K f) (kg:Hq K g):∀x,x∈ig s i j f g->Hq (2*K+70) x:=by
 intro x hx;have hw:=Q7 kf kg;simp only [ig,wg,yag,or_false] at hx;rcases hx with rfl | rfl | rfl | rfl
 ·exact ((hw _ (by simp [js])).mul (BD h)).mono (by omega)
 ·exact ((hw _ (by simp [js])).mul (BD h)).mono (by omega)
 ·exact ((hw _ (by simp [js])).mul (BD h)).mono (by omega)
 ·exact ((hw _ (by simp [js])).mul (BD h)).mono (by omega)
def QL.sQ {cs:List AV} {l:List Rat} (h:QL cs l) {k n:Nat} (hl:l.length=n) (hk:k<n):∃a b c d,HR n 4 true k (.agg cs)=some (.agg [a,b,c,d])/\bW (.agg [a,b,c,d]) (l[k]'(by omega)):=by
 obtain ⟨a,b,c,d,r,e,hq⟩:=h.get (i:=k) (by omega);refine ⟨a,b,c,d,?_,hq⟩;show (bif Nat.blt k n then eY 4 true (cs.drop (k*4)) else none)=_
 rw [ji hk,e];rfl
def m56 (h:Vl P L) {v w:AV} {s:List (List Int)} {n:Nat} {i j:Int} {f g:Rat} {K:Nat} (hv:Eh v i j f g) (hw:Da w s n) (hi:0<=i/\i<n) (hj:0<=j/\j<n) (kf:Hq K f) (kg:Hq K g) (hK:K<=10000000):
  ∃r,ae P L 56 [v,w] r/\bW r (NF s i j f g):=by
 obtain ⟨W,eW,hW⟩:=auQ h.toFr' h.Tu hv kf kg (by omega);obtain ⟨c1,c2,c3,c4,d1,d2,d3,d4,rfl,hf,hg,bx,fz⟩:=hv.gen;obtain ⟨cs,rfl,iY⟩:=hW;have hS:=hw.is;have hn:=hw.len;have n0:=hw.pos;have n1:=hw.le;have kp:=QC (i:=i) (j:=j) hw.cI kf kg;have kw:=Q7 kf kg;have pW:aX (.agg cs)=true:=by simp only [aX,iY.pu]
 have key:=eh (P:=P) (L:=L) (live:=[1,2,4,5,11,12]) (a:=Ed)
  (I:=fun k st=>∃m:Nat,m+k=4/\((m=0/\st=⟨[(1,w),(2,.ptr 0 0),(4,.ptr 1 0),(5,.ab),(11,.agg cs),(12,aa m)],[(1,.cells true true true 4 [.int .i64 0,.ab,.int .i64 0,.ab]),(0,.cells true true true 10 [aa i,aa j,c1,c2,c3,c4,d1,d2,d3,d4])],2,0⟩)\/
   (0<m/\∃ps,QL ps ((ig s i j f g).take m)/\st=⟨[(1,w),(2,.ptr 0 0),(4,.ptr 1 0),(5,.aE 2 0 m),(11,.agg cs),(12,aa m)],[(2,.cells true true false 4 ps),(1,.cells true true true 4 [.int .i64 0,.ab,.int .i64 0,.ab]),(0,.cells true true true 10 [aa i,aa j,c1,c2,c3,c4,d1,d2,d3,d4])],3,0⟩)))
  (Q:=fun ex st=>∃tm hp ct ps,QL ps (ig s i j f g)/\st=⟨tm,hp,ct,0⟩/\ex= .exit 0/\aj tm 4= .ptr 1 0/\aj tm 5= .aE 2 0 4/\aw hp 1=some (.cells true true true 4 [.int .i64 0,.ab,.int .i64 0,.ab])/\aw hp 2=some (.cells true true false 4 ps)) ?_
 ·unfold ae at eW ⊢;rw [au h.Vi];simp only [go_sem,ya,yb,Us,bx,aG,Q8,fz,eW,bm,yi];generalize hq:D P L (.loop [1,2,4,5,11,12] Ed) _=q;obtain ⟨ex,st,rfl,tm,hp,ct,ps,eP,rfl,rfl,t4,t5,g1,g2⟩:=bI hq (key 4) ⟨0,by omega,.inl ⟨rfl,by simp only [go_sem,ya,yb,ao,aA hS.pu,aF _ hS.pu,aA pW,aF _ pW]<;>rfl⟩⟩
  have hl4:ps.length=4*4:=by rw [eP.len];rfl
  obtain ⟨z,e1,hz⟩:=CY h.toFr' (z:=0) (by omega) (by omega);have dZ:bW z 0:=hz;have ik:=hz;obtain ⟨z1,z2,z3,z4,rfl,gz⟩:=hz.gen;obtain ⟨r,e2,hr⟩:=auS h.toFr' h.Tw (K:=2*K+70) (M:=2) dZ (w:= .aH false 4 ps) (YY false eP) AI kp (by simp [ig]) (by simp only [ig,yu,yA];omega);have bY:=hr;obtain ⟨r1,r2,r3,r4,rfl,gr⟩:=hr.gen;refine ⟨_,?_,bY⟩;unfold ae at e1 e2;simp only [go_sem,ya,yb,ao,t4,t5,g1,g2,e1,gz.af,pM false hl4 (show 0<4 by decide),e2,bm,gr.st,cR,cS,yi];exact gr.dY _
 ·rintro k st ⟨m,hk,aR⟩;by_cases hm:m<4
  ·left
   obtain ⟨a,b,c,d,e1,hx⟩:=iY.sQ (n:=4) rfl hm;have e2:=auR h.Tv h.Jg hv (k:=(m:Int)) (n:=n) hi hj (by omega) (by omega) (by omega);obtain ⟨q,rest,RO,e3,e4⟩:=hw.cell (i+(m:Int)%2) (j+(m:Int)/2);have hb:=hw.cI (i+(m:Int)%2) (j+(m:Int)/2);obtain ⟨z,e5,hz⟩:=CY h.toFr' (z:=jg s (i+(m:Int)%2) (j+(m:Int)/2)) (by omega) (by omega);obtain ⟨y,e6,hy⟩:=rq h.toFr' hx hz (K:=2*K+70) ((kw _ (xr _)).mono (by omega)) ((BD (i:=i) (j:=j) (k:=(m:Int)) hw.cI).mono (by omega)) (by omega);have a1:=wm (i+(m:Int)%2) (show (n:Int)≠0 by omega);have a2:=wm (j+(m:Int)/2) (show (n:Int)≠0 by omega);have ns:=hy;obtain ⟨y1,y2,y3,y4,rfl,gy⟩:=hy.gen;obtain ⟨z1,z2,z3,z4,rfl,gz⟩:=hz.gen;have gx:=hx.f4;have bz:∀q,fG q [AV.int .i64 0,.ab,.int .i64 0,.ab] 0 4 [y1,y2,y3,y4] []=fill q [y1,y2,y3,y4] []:=fun q=>abq gy.o1 gy.o2 gy.o3 gy.o4
   have hpg:(ig s i j f g)[m]'(by simp [ig];omega)=(js f g)[m]'hm*lF s i j (m:Int):=YZ _ _ _ _ _ m hm;have dS:(ig s i j f g).take (m+1)=(ig s i j f g).take m++[(js f g)[m]'hm*lF s i j (m:Int)]:=by rw [yT (by simp [ig];omega),hpg]
   unfold lF at dS;unfold ae at e2 e5 e6;obtain ⟨Db,Dc,Dd,De⟩:=gy.Kn;have pY:aK [y1,y2,y3,y4]=true:=by simp only [aK,Db,Dc,Dd,De,wB]
   rcases aR with ⟨h0,rfl⟩ | ⟨h0,ps,eP,rfl⟩
   ·subst h0;simp only [go_sem,ya,yb,xt,yq,yh,Ed,show ((0:Nat):Int)<4 by omega,yo,oM (show (0:Int)<=((0:Nat):Int) by omega),xN,e1,aG,gx.st,Q8,jw,fz,hn,hS.len,e2,Bu,oM a1,oM a2,e3,e4,e5,gx.af,gz.af,e6,bz,Db,Dc,Dd,De,wB,Ms,bm,yi,ix];refine ⟨_,k-1,rfl,by omega,1,by omega,.inr ⟨by omega,[y1,y2,y3,y4],?_,?_⟩⟩
    ·rw [dS];exact ⟨ns,trivial⟩
    ·rw [wrap64 (by omega) (by omega)];simp only [go_sem,ya,yb,ao,aA hS.pu,aF _ hS.pu,aA pW,aF _ pW]<;>rfl
   ·simp only [go_sem,ya,yb,xt,Ed,show (m:Int)<4 by omega,yo,oM (show (0:Int)<=m by omega),xN,e1,aG,gx.st,Q8,jw,fz,hn,hS.len,e2,Bu,oM a1,oM a2,e3,e4,e5,gx.af,gz.af,e6,bz,Db,Dc,Dd,De,wB,Ms,bm,yi]
    rw [hZ (ex:=false) (pu:=true) (cs:=ps) (by simp only [go_sem,ya]) (by rw [eP.len,yQ,xQ (by simp [ig];omega)]) (by omega) (by omega) (by decide) (by simp only [go_sem,gy.o1,gy.o2,gy.o3,gy.o4])];simp only [go_sem,ya,yb,pY];refine ⟨_,k-1,rfl,by omega,m+1,by omega,.inr ⟨by omega,ps++[y1,y2,y3,y4],?_,?_⟩⟩
    ·rw [dS];exact eP.snoc ns
    ·rw [wrap64 (by omega) (by omega)];simp only [go_sem,ya,yb,ao,aA hS.pu,aF _ hS.pu,aA pW,aF _ pW]<;>rfl
  ·right
   have h4:m=4:=by omega
   subst h4;rcases aR with ⟨h0,rfl⟩ | ⟨h0,ps,eP,rfl⟩
   ·exact absurd h0 (by decide)
   ·simp only [go_sem,ya,Ed,show ¬((4:Nat):Int)<4 by decide,yp];exact ⟨_,_,rfl,by simp,_,_,_,ps,eP,rfl,rfl,by simp only [go_sem,ya],by simp only [go_sem,ya]<;>rfl,by simp only [go_sem,ya],by simp only [go_sem]⟩
end
end
section
open Go (IntKind)
section
variable {P:aI} {L:Lib}
structure BuT (P:aI) (L:Lib):Prop where
 h40:Has P L 40 c40
 h96:Has P L 96 c96
 ayQ:Has P L 133 ado
end
end
section
open Go (IntKind)
section
variable {P:aI} {L:Lib}
structure SmP (P:aI) (L:Lib):Prop extends BuT P L,Sq P L where
 h41:Has P L 41 c41
 h97:Has P L 97 c97
 Jg:Has P L 134 Es
end
end
section
open Go (IntKind)
section
variable {P:aI} {L:Lib}
def Wa {s:List (List Int)} (h:nE s=0):0<s.length/\s.length<=16/\jf s.length (-1000) 1000 s=0:=by
 unfold nE at h
 grind
end
end
section
open Go (IntKind)
section
variable {P:aI} {L:Lib}
structure ShP (P:aI) (L:Lib):Prop extends SmP P L where
 lW:Has P L 20 c20
 OO:Has P L 51 N8
 h58:Has P L 58 c58
 Gt:Has P L 34 CN
def iQ (n:Int):Int:=if n< -999999999\/999999999<n then 3 else 0
def s51 (h:Has P L 51 N8) (Gt:Has P L 34 CN) (kT:Has P L 31 A0) (n:Int):ae P L 51 [aa n] (aa (iQ n)):=by
 unfold ae;rw [au h];simp only [go_sem,ya,N8,s34 Gt kT,iQ]
end
end
section
open Go (IntKind)
section
variable {P:aI} {L:Lib}
def CC (a:Rat):AV:=if LG a=true then .aq [.str [],aa 4] else .aq [.str (RT a),aa 0]
end
end
section
open Go (IntKind)
def NG (s:List (List Int)) (x y:Rat):Rat:=NF s (x.floor%s.length) (y.floor%s.length) (cP x) (cP y)
def an0 {s:List (List Int)} {i j:Int} {f g:Rat} {K:Nat} (h:∀c r,-1000<=jg s c r/\jg s c r<=1000) (kf:Hq K f) (kg:Hq K g):Hq (8*K+300) (NF s i j f g):=
 (Q6 (AI.mono (yv _)) (QC (i:=i) (j:=j) h kf kg)).mono (by simp only [ig,yu,yA];omega)
def Q9 {s:List (List Int)} {x y:Rat} {K:Nat} (h:∀c r,-1000<=jg s c r/\jg s c r<=1000) (kx:Hq K x) (ky:Hq K y) (hK:1<=K):Hq (16*K+400) (NG s x y):=
 (an0 h (Aj kx hK) (Aj ky hK)).mono (by omega)
structure Av (P:aI) (L:Lib):Prop extends Ar P L where
 auT:Has P L 377 Sr
def Df (n:Int) (x y:Rat) (k:Int):Int:=(x.floor%n+k%2)%n
def Dg (n:Int) (x y:Rat) (k:Int):Int:=(y.floor%n+k/2)%n
def Kp (n:Int) (x y:Rat):List AV:=[aa (Df n x y 0),aa (Dg n x y 0),.str (RT ((1-cP x)*(1-cP y))),aa (Df n x y 1),aa (Dg n x y 1),.str (RT (cP x*(1-cP y))),
  aa (Df n x y 2),aa (Dg n x y 2),.str (RT ((1-cP x)*cP y)),aa (Df n x y 3),aa (Dg n x y 3),.str (RT (cP x*cP y))]
def ajy (n:Int) (x y:Rat):LM n x y= .agg (Kp n x y):=by
 unfold LM Kp Df Dg
 simp_all
def an1 (n:Int) (x y:Rat):∀{k:Nat},(hk:k<4)->∃r,(Kp n x y).drop (k*3)=aa (Df n x y k)::aa (Dg n x y k):: .str (RT ((js (cP x) (cP y))[k]'hk))::r
 | 0,_=>⟨_,rfl⟩
 | 1,_=>⟨_,rfl⟩
 | 2,_=>⟨_,rfl⟩
 | 3,_=>⟨_,rfl⟩
 | k+4,hk=>absurd hk (by omega)
section
variable {P:aI} {L:Lib}
def an2 {k:Nat} (hk:k<4) (id:Nat):HQ 4 3 k (.ptr id 0)=some (.ptr id (k*3)):=by
 show (bif Nat.blt k 4 then some (AV.ptr id (0+k*3)) else none)=_
 rw [ji hk,yd];rfl
def aqF {l:List AV} {k:Nat} {a:AV} {r:List AV} (h:l.drop k=a::r):l.drop (k+1)=r:=by
 rw [<-wQ,h];rfl
def aqG {l:List AV} {k:Nat} {a b:AV} {r:List AV} (h:l.drop k=a::b::r):l.drop (k+2)=r:=by
 rw [<-wQ,h];rfl
def auU (h:Av P L) {w:AV} {s:List (List Int)} {n:Nat} {x y:Rat} {K:Nat} (hw:Da w s n) (kx:Hq K x) (ky:Hq K y) (rz:100<=K) (hK:K<=10000000):ae P L 377 [w,lY x y] (.str (RT (NG s x y))):=by
 have hn:=hw.len;have n0:=hw.pos;have n1:=hw.le;have hS:=hw.is;have e0:=auP h.toAr kx ky rz (by omega) (n:=n) (by omega) (by omega);rw [ajy] at e0;have kf:=Aj kx (by omega);have kg:=Aj ky (by omega);have kw:=Q7 kf kg;have kp:=QC (i:=x.floor%n) (j:=y.floor%n) hw.cI kf kg;have ks:=fun m=>ZR (AI.mono (yv _)) kp m
 have pl:(ig s (x.floor%n) (y.floor%n) (cP x) (cP y)).length=4:=rfl;rw [pl] at ks;have key:=eh (P:=P) (L:=L) (live:=[0,5,6,7]) (a:=HJ)
  (I:=fun k st=>∃m:Nat,m+k=4/\st=⟨[(0,w),(5,.ptr 0 0),(6,.str (RT (lQ 0 ((ig s (x.floor%n) (y.floor%n) (cP x) (cP y)).take m)))),(7,aa m)],[(0,.cells true true true 12 (Kp n x y))],1,0⟩)
  (Q:=fun ex st=>∃tm hp ct,st=⟨tm,hp,ct,0⟩/\ex= .exit 0/\aj tm 6= .str (RT (lQ 0 (ig s (x.floor%n) (y.floor%n) (cP x) (cP y))))) ?_
 ·unfold ae at e0 ⊢;rw [au h.auT];simp only [go_sem,ya,yb,Sr,aY,aG,dX,hS.len,hn,e0,Kp,abr];generalize hq:D P L (.loop [0,5,6,7] HJ) _=q;obtain ⟨ex,st,rfl,tm,hp,ct,rfl,rfl,t6⟩:=bI hq (key 4) ⟨0,by omega,by simp only [go_sem,ya,yb,ao,aA hS.pu,aF _ hS.pu]<;>rfl⟩
  simp only [go_sem,ao,t6];unfold NG NF;rw [hn]
 ·rintro k st ⟨m,hk,rfl⟩;by_cases hm:m<4
  ·left
   obtain ⟨r,hr⟩:=an1 n x y hm;obtain ⟨q,rest,RO,e3,e4⟩:=hw.cell (x.floor%n+(m:Int)%2) (y.floor%n+(m:Int)/2);have hb:=hw.cI (x.floor%n+(m:Int)%2) (y.floor%n+(m:Int)/2);have e5:=RM h.toRm h.qG (n:=jg s (x.floor%n+(m:Int)%2) (y.floor%n+(m:Int)/2)) (by omega);have e6:ae P L 267 [.str (RT ((js (cP x) (cP y))[m]'hm)),.str (RT (lF s (x.floor%n) (y.floor%n) (m:Int)))] (.str (RT ((js (cP x) (cP y))[m]'hm*lF s (x.floor%n) (y.floor%n) (m:Int)))):=qc h.toRn (kw _ (xr (show m<(js (cP x) (cP y)).length from hm))) (BD (i:=x.floor%n) (j:=y.floor%n) (k:=(m:Int)) hw.cI) (by omega);have e7:=H9 h.toRp (ks m) ((kw _ (xr (show m<(js (cP x) (cP y)).length from hm))).mul (BD (i:=x.floor%n) (j:=y.floor%n) (k:=(m:Int)) hw.cI)) (by omega)
   have hp:(ig s (x.floor%n) (y.floor%n) (cP x) (cP y))[m]'(by rw [pl];exact hm)=(js (cP x) (cP y))[m]'hm*lF s (x.floor%n) (y.floor%n) (m:Int):=YZ _ _ _ _ _ m hm
   have hs:=X4 (s:=0) (l:=ig s (x.floor%n) (y.floor%n) (cP x) (cP y)) (i:=m) (by rw [pl];exact hm)
   rw [hp] at hs;have e7:ae P L 264 [.str (RT (lQ 0 ((ig s (x.floor%n) (y.floor%n) (cP x) (cP y)).take m))),.str (RT ((js (cP x) (cP y))[m]'hm*lF s (x.floor%n) (y.floor%n) (m:Int)))] (.str (RT (lQ 0 ((ig s (x.floor%n) (y.floor%n) (cP x) (cP y)).take (m+1))))):=by rw [hs];exact e7
   have a1:=wm (x.floor%n+(m:Int)%2) (show (n:Int)≠0 by omega);have a2:=wm (y.floor%n+(m:Int)/2) (show (n:Int)≠0 by omega);unfold lF at e6 e7;simp only [go_sem,ya,HJ,show (m:Int)<4 by omega,an2 hm,oM (show (0:Int)<=m by omega),xN,aZ,yV,hr,aqF hr,aqG hr,Df,Dg,oM a1,oM a2,e3,e4,e5,e6,e7];refine ⟨_,k-1,rfl,by omega,m+1,by omega,?_⟩;rw [wrap64 (by omega) (by omega)];simp only [go_sem,ya,yb,ao,aA hS.pu,aF _ hS.pu]<;>rfl
  ·right
   have:m=4:=by omega
   subst this;simp only [go_sem,ya,HJ,show ¬((4:Nat):Int)<4 by decide,yp];exact ⟨_,_,rfl,by simp,_,_,_,rfl,rfl,by simp only [go_sem,ya]<;>rfl⟩
end
end
section
open Go (IntKind)
def abt {w:AV} {s:List (List Int)} (hw:eS w s) (h:nE s=0):Da w s s.length:=by
 obtain ⟨a1,a2,a3⟩:=Wa h;exact ⟨hw,rfl,a1,a2,fun i hi=>(XN a3 i hi).1,a3⟩
def kV (w:AV) (hh sc st ox oy wx wy:List Nat):AV:= .agg [w,.str hh,.str sc,.str st,.str ox,.str oy,.str wx,.str wy]
noncomputable def EQ (s:List (List Int)) (hh sc st ox oy wx wy:List Nat):Int:=bj [nE s,iF hh 0,iF sc 1,aU st,bj [aU ox,aU oy],bj [aU wx,aU wy]]
def Bn {a:Int} {l:List Int}:bj (a::l)=0↔a=0/\bj l=0:=by
 simp only [bj]
 grind
def Du:bj []=0:=rfl
def an3 {s:List (List Int)} {hh sc st ox oy wx wy:List Nat} (h:EQ s hh sc st ox oy wx wy=0):nE s=0/\(aU hh=0/\0<=cA (bC hh).num)/\(aU sc=0/\1<=cA (bC sc).num)/\aU st=0/\(aU ox=0/\aU oy=0)/\aU wx=0/\aU wy=0:=by
 unfold EQ at h;simp only [Bn,Du,wi] at h;obtain ⟨h1,h2,h3,h4,⟨h5,h6⟩,h7,h8⟩:=h;exact ⟨h1,Qx h2,Qx h3,h4,⟨h5,h6⟩,h7,h8⟩
noncomputable def Tz (s:List (List Int)) (hh sc st ox oy wx wy dx dy sh x y:List Nat) (fr:Int):Int:=bj [EQ s hh sc st ox oy wx wy,jS dx dy sh,bj [aU x,aU y],iQ fr]
noncomputable def pk (hh sc o w d sh x:List Nat) (fr:Int):Rat:=CB (bC sc) (fD (bC sh) (bC hh)*bC x+bC hh*bC d) (bC o) (bC w) fr
structure Lp (P:aI) (L:Lib):Prop extends Sp P L,Vl P L,ShP P L where
 h24:Has P L 24 c24
 Vj:Has P L 57 Oa
 h66:Has P L 66 c66
 Vn:Has P L 67 Uu
 auV:Has P L 115 R9
 Tt:Has P L 116 MI
section
variable {P:aI} {L:Lib}
def auW (h:Lp P L) {w:AV} {s:List (List Int)} (hw:eS w s) (hl:s.length<=1000000) (hr:∀i (hi:i<s.length),s[i].length<=1000000) {hh sc st ox oy wx wy:List Nat} (l1:hh.length<=1000000000) (l2:sc.length<=1000000000) (l3:st.length<=1000000000) (l4:ox.length<=1000000000) (l5:oy.length<=1000000000) (l6:wx.length<=1000000000) (l7:wy.length<=1000000000):
  ae P L 115 [kV w hh sc st ox oy wx wy] (aa (EQ s hh sc st ox oy wx wy)):=by
 have e1:=s4 h.toSq hw hl hr;have e2:=VA h.toSp l1 0;have e3:=VA h.toSp l2 1;have e4:=OR h.toCk l3;have e5:=Km h.toSp l4 l5;have e6:=Km h.toSp l6 l7;have e7:=zf h.toSp.oC (fb true [nE s,iF hh 0,iF sc 1,aU st,bj [aU ox,aU oy],bj [aU wx,aU wy]]) (by simp);simp only [yu,yA,yd,yb,yS,xH] at e7;have o1:=hw.one;have p1:=hw.pu;have d2:∀a b c d e f g i:AV,xo 2 [a,b,c,d,e,f,g,i]=[c,d,e,f,g,i]:=fun _ _ _ _ _ _ _ _=>rfl
 have d3:∀a b c d e f g i:AV,xo 3 [a,b,c,d,e,f,g,i]=[d,e,f,g,i]:=fun _ _ _ _ _ _ _ _=>rfl
 have d6:∀a b c d e f g i:AV,xo 6 [a,b,c,d,e,f,g,i]=[g,i]:=fun _ _ _ _ _ _ _ _=>rfl
 unfold ae at e1 e2 e3 e4 e5 e6 e7 ⊢;rw [au h.auV];unfold kV;simp only [go_sem,ya,yb,yq,yh,yj,R9,aG,o1,p1,hw.af,aZ,yd,bX,d2,d3,BC,d6,dX,aY,yi,e1,e2,e3,e4,e5,e6,e7];rfl
structure qd (s:List (List Int)) (hh sc st ox oy wx wy dx dy sh x y:List Nat) (fr:Int):Prop where
 scr:nE s=0
 hh:aU hh=0
 sc:aU sc=0
 st:aU st=0
 ox:aU ox=0
 oy:aU oy=0
 wx:aU wx=0
 wy:aU wy=0
 dx:aU dx=0
 dy:aU dy=0
 sh:aU sh=0
 x:aU x=0
 y:aU y=0
 fr:iQ fr=0
def an4 {s:List (List Int)} {hh sc st ox oy wx wy dx dy sh x y:List Nat} {fr:Int} (h0:Tz s hh sc st ox oy wx wy dx dy sh x y fr=0):qd s hh sc st ox oy wx wy dx dy sh x y fr:=by
 unfold Tz at h0;simp only [Bn,Du,wi] at h0;obtain ⟨h2,h3,⟨h4,h5⟩,h6⟩:=h0;obtain ⟨q1,⟨q2,_⟩,⟨q3,_⟩,q4,⟨q5,q6⟩,q7,q8⟩:=an3 h2;obtain ⟨r1,r2,r3,_⟩:=Qa h3;exact ⟨q1,q2,q3,q4,q5,q6,q7,q8,r1,r2,r3,h4,h5,h6⟩
def PK {n:Int} (h:iQ n=0): -999999999<=n/\n<=999999999:=by
 unfold iQ at h;split at h<;>omega
def ZT {hh sc o w d sh x:List Nat} {fr:Int} (h1:aU hh=0) (h2:aU sc=0) (h3:aU o=0) (h4:aU w=0) (h5:aU d=0) (h6:aU sh=0) (h7:aU x=0) (h8:iQ fr=0):Hq 22000 (pk hh sc o w d sh x fr):=by
 have:=PK h8
 have H:=fun {t:List Nat} (c:aU t=0)=>jK c (yv 2400)
 exact (aqD (H h2) (QB (H h6) (H h1) (H h7) (H h5)) (H h3) (H h4) (by omega) (by omega)).mono (by omega)
def qd.kX {s:List (List Int)} {hh sc st ox oy wx wy dx dy sh x y:List Nat} {fr:Int} (h:qd s hh sc st ox oy wx wy dx dy sh x y fr):Hq 22000 (pk hh sc ox wx dx sh x fr):=ZT h.hh h.sc h.ox h.wx h.dx h.sh h.x h.fr
def qd.kY {s:List (List Int)} {hh sc st ox oy wx wy dx dy sh x y:List Nat} {fr:Int} (h:qd s hh sc st ox oy wx wy dx dy sh x y fr):Hq 22000 (pk hh sc oy wy dy sh y fr):=ZT h.hh h.sc h.oy h.wy h.dy h.sh h.y h.fr
noncomputable def Kq (s:List (List Int)) (hh sc st ox oy wx wy dx dy sh x y:List Nat) (fr:Int):Rat:=bC st*NG s (pk hh sc ox wx dx sh x fr) (pk hh sc oy wy dy sh y fr)
def Ia {s:List (List Int)} {hh sc st ox oy wx wy dx dy sh x y:List Nat} {fr:Int} (k:qd s hh sc st ox oy wx wy dx dy sh x y fr):Hq 400000 (Kq s hh sc st ox oy wx wy dx dy sh x y fr):=by
 obtain ⟨a1,a2,a3⟩:=Wa k.scr;exact ((jK k.st (yv 2400)).mul (Q9 (fun c r=>Wu a3 (by decide) c r) k.kX k.kY (by omega))).mono (by omega)
def m67 (h:Lp P L) {w:AV} {s:List (List Int)} (hw:eS w s) {hh sc st ox oy wx wy dx dy sh x y:List Nat} {fr:Int} (k:qd s hh sc st ox oy wx wy dx dy sh x y fr):
  ∃r,ae P L 67 [kV w hh sc st ox oy wx wy,fa dx dy sh,iL x y,aa fr] r/\bW r (Kq s hh sc st ox oy wx wy dx dy sh x y fr):=by
 have hS:=abt hw k.scr;have hf:=PK k.fr;have o1:=hw.one;have p1:=hw.pu;have n0:=hS.pos;have n1:=hS.le;obtain ⟨a,e1,ha⟩:=sN h.toSp k.st;obtain ⟨b,e2,hb⟩:=auN h.toSp h.Tt (scr:=w) (st:= .str st) (fr:=fr) o1 p1 rfl rfl k.dx k.dy k.sh k.hh k.sc k.ox k.oy k.wx k.wy k.x k.y (by omega) (by omega);obtain ⟨c,e3,hc⟩:=m55 h.toVl.toFr' h.Kg h.EO h.AJ (s:=(s.length:Int)) hb k.kX k.kY (by omega) (by omega) (by omega) (by omega);have q1:=wm (pk hh sc ox wx dx sh x fr).floor (show (s.length:Int)≠0 by omega);have q2:=wR (pk hh sc ox wx dx sh x fr).floor (show (0:Int)<s.length by omega);have q3:=wm (pk hh sc oy wy dy sh y fr).floor (show (s.length:Int)≠0 by omega);have q4:=wR (pk hh sc oy wy dy sh y fr).floor (show (0:Int)<s.length by omega)
 obtain ⟨d,e4,hd⟩:=m56 h.toVl hc hS ⟨q1,q2⟩ ⟨q3,q4⟩ (Aj k.kX (by omega)) (Aj k.kY (by omega)) (by omega);have kv:=Q9 (fun c r=>hS.cI c r) k.kX k.kY (by omega);obtain ⟨e,e5,he⟩:=rq h.toVl.toFr' ha hd (K:=400000) ((jK k.st (yv 2400)).mono (by omega)) (kv.mono (by omega)) (by omega);have TY:=he;refine ⟨e,?_,TY⟩;obtain ⟨a1,a2,a3,a4,rfl,ga⟩:=ha.gen;obtain ⟨b1,b2,b3,b4,b5,b6,b7,b8,rfl,gb⟩:=hb.gen;obtain ⟨c1,c2,c3,c4,c5,c6,c7,c8,rfl,_,_,_,fz⟩:=hc.gen;obtain ⟨d1,d2,d3,d4,rfl,gd⟩:=hd.gen;obtain ⟨f1,f2,f3,f4,rfl,ge⟩:=he.gen;have d3':∀a b c d e f g i:AV,xo 3 [a,b,c,d,e,f,g,i]=[d,e,f,g,i]:=fun _ _ _ _ _ _ _ _=>rfl
 have VT:∀a b c d e f g i:AV,eY 8 true [a,b,c,d,e,f,g,i]=some (.agg [a,b,c,d,e,f,g,i]):=fun _ _ _ _ _ _ _ _=>rfl
 unfold ae at e1 e2 e3 e4 e5 ⊢;rw [au h.Vn];unfold kV fa iL at*
 simp only [go_sem,ya,yb,Uu,aG,o1,p1,hw.len,hw.af,aZ,yd,VT,d3',dX,fc,aY,yi,e1,bm,ga.af,e2,gb.af,e3,fz,e4,gd.af,e5,ge.st,cR,cS];exact ge.dY _
def m57 (h:Lp P L) {v:AV} {a:Rat} {K:Nat} (hv:bW v a) (ka:Hq K a) (hK:K<=4000000000):ae P L 57 [v] (CC a):=by
 have e1:=ad5 h.toSp.toTx hv ka hK;have e2:=m46 h.toSp.toTx hv ka hK;obtain ⟨s1,w1,s2,w2,rfl,h1,h2⟩:=hv;obtain ⟨l1,u1⟩:=h1.aD;obtain ⟨l2,u2⟩:=h2.aD;unfold CC;unfold ae at e1 e2 ⊢;rw [au h.Vj];cases hL:LG a<;>rw [hL] at e1
 ·simp only [go_sem,ya,yb,Oa,aG,gF,aY,u1.pu,u1.af,u1.one,u2.pu,u2.af,u2.one,e1,e2,Bool.false_eq_true,y8];rfl
 ·simp only [go_sem,ya,yb,Oa,aG,gF,aY,u1.pu,u1.af,u1.one,u2.pu,u2.af,u2.one,e1,xh];rfl
def aqH (a:Rat):∃u e,CC a= .aq [.str u,aa e]:=by unfold CC;split<;>exact ⟨_,_,rfl⟩
section
variable (h:Lp P L) {w:AV} {s:List (List Int)} (hw:eS w s) (hl:s.length<=1000000) (hr:∀i (hi:i<s.length),s[i].length<=1000000) {hh sc st ox oy wx wy dx dy sh x y:List Nat} {fr:Int} (l1:hh.length<=1000000000) (l2:sc.length<=1000000000) (l3:st.length<=1000000000) (l4:ox.length<=1000000000) (l5:oy.length<=1000000000) (l6:wx.length<=1000000000) (l7:wy.length<=1000000000) (l8:dx.length<=1000000000) (l9:dy.length<=1000000000) (la:sh.length<=1000000000) (lb:x.length<=1000000000) (lc:y.length<=1000000000)
include h hw hl hr l1 l2 l3 l4 l5 l6 l7 l8 l9 la lb lc
end
end
end
section
open Go (IntKind)
def fQ (k:Nat) (v:AV) (ps:List (List AV)):Prop:=((v= .ab/\ps=[])\/∃e,v= .aH e ps.length ps.flatten)/\∀p,p∈ps->p.length=k
section
variable {k:Nat} {v:AV} {ps:List (List AV)} {hp:Hp}
def fQ.len (h:fQ k v ps) {hp:Hp}:gV hp 1 v=some (.int .i64 (ps.length:Nat)):=by
 rcases h.1 with ⟨rfl,rfl⟩ | ⟨e,rfl⟩<;>rfl
def fQ.pu (h:fQ k v ps):aX v=true:=by
 rcases h.1 with ⟨rfl,rfl⟩ | ⟨e,rfl⟩<;>rfl
def fQ.af (h:fQ k v ps) (n:Nat) {hp:Hp}:freeze (n+1) hp v=some (v,hp):=by
 rcases h.1 with ⟨rfl,rfl⟩ | ⟨e,rfl⟩<;>rfl
def fQ.one (h:fQ k v ps):br v=true:=by
 rcases h.1 with ⟨rfl,rfl⟩ | ⟨e,rfl⟩<;>rfl
def fQ.cells (h:fQ k v ps):cellsOf v=[v]:=by
 rcases h.1 with ⟨rfl,rfl⟩ | ⟨e,rfl⟩<;>rfl
def PL:∀{ps:List (List AV)},(∀p,p∈ps->p.length=k)->ps.flatten.length=ps.length*k
 | [],_=>by simp
 | p::ps,h=>by
  have:=PL (ps:=ps) (fun q hq=>h q (wv _ hq))
  rw [wU,List.length_append,this,h p vj,yu,we];omega
def X6:∀{ps:List (List AV)} {i:Nat},(∀p,p∈ps->p.length=k)->∀(hi:i<ps.length),∃rest,ps.flatten.drop (i*k)=ps[i]++rest
 | [],i,_,hi=>absurd hi (tB i)
 | p::ps,0,h,_=>⟨ps.flatten,by simp⟩
 | p::ps,i+1,h,hi=>by
  obtain ⟨rest,e⟩:=X6 (ps:=ps) (i:=i) (fun q hq=>h q (wv _ hq)) (by simpa using hi);refine ⟨rest,?_⟩;rw [show (i+1)*k=p.length+i*k by rw [h p vj,we];omega,wU,<-wQ,List.drop_left,e];rfl
def fQ.a8 (h:fQ k v ps) {i:Nat} (hi:i<ps.length):∃rest,gU k i v=some (.aO (ps[i]++rest)):=by
 obtain ⟨rest,e⟩:=X6 h.2 hi;refine ⟨rest,?_⟩;rcases h.1 with ⟨rfl,rfl⟩ | ⟨b,rfl⟩
 ·exact absurd hi (tB i)
 ·rw [Lz b _ hi,e]
def Qb:fQ k .ab []:=⟨.inl ⟨rfl,rfl⟩,fun _ h=>by cases h⟩
def QD (e:Bool) (h:∀p,p∈ps->p.length=k):fQ k (.aH e ps.length ps.flatten) ps:=⟨.inr ⟨e,rfl⟩,h⟩
end
abbrev fR:=List Nat×List Nat
def Gx (p:fR):List AV:=[.str p.1,.str p.2]
def jT (v:AV) (l:List fR):Prop:=fQ 2 v (l.map Gx)
structure Lay where
 w:AV
 s:List (List Int)
 hh:List Nat
 sc:List Nat
 st:List Nat
 ox:List Nat
 oy:List Nat
 wx:List Nat
 wy:List Nat
def Lay.cs (a:Lay):List AV:=[a.w,.str a.hh,.str a.sc,.str a.st,.str a.ox,.str a.oy,.str a.wx,.str a.wy]
def Lay.T (a:Lay):AV:=kV a.w a.hh a.sc a.st a.ox a.oy a.wx a.wy
noncomputable def Lay.E (a:Lay):Int:=EQ a.s a.hh a.sc a.st a.ox a.oy a.wx a.wy
def fq (v:AV) (l:List Lay):Prop:=fQ 8 v (l.map Lay.cs)/\∀a,a∈l->eS a.w a.s
structure Lay.Fit (a:Lay):Prop where
 rows:a.s.length<=1000000
 auX:∀i (hi:i<a.s.length),a.s[i].length<=1000000
 hh:a.hh.length<=1000000000
 sc:a.sc.length<=1000000000
 st:a.st.length<=1000000000
 ox:a.ox.length<=1000000000
 oy:a.oy.length<=1000000000
 wx:a.wx.length<=1000000000
 wy:a.wy.length<=1000000000
section
variable {v:AV} {hp:Hp}
def jT.len {l:List fR} (h:jT v l) {hp:Hp}:gV hp 1 v=some (.int .i64 (l.length:Nat)):=by
 have:=fQ.len (hp:=hp) h;rwa [yY] at this
def jT.pu {l:List fR} (h:jT v l):aX v=true:=fQ.pu h
def jT.af {l:List fR} (h:jT v l) (n:Nat) {hp:Hp}:freeze (n+1) hp v=some (v,hp):=fQ.af h n
def jT.a8 {l:List fR} (h:jT v l) {i:Nat} (hi:i<l.length):∃rest,gU 2 i v=some (.aO (.str l[i].1:: .str l[i].2::rest)):=by
 obtain ⟨rest,e⟩:=fQ.a8 h (i:=i) (by simpa using hi);refine ⟨rest,?_⟩;rw [e,yaf];rfl
def fq.len {l:List Lay} (h:fq v l) {hp:Hp}:gV hp 1 v=some (.int .i64 (l.length:Nat)):=by
 have:=fQ.len (hp:=hp) h.1;rwa [yY] at this
def fq.pu {l:List Lay} (h:fq v l):aX v=true:=fQ.pu h.1
def fq.af {l:List Lay} (h:fq v l) (n:Nat) {hp:Hp}:freeze (n+1) hp v=some (v,hp):=fQ.af h.1 n
def fq.one {l:List Lay} (h:fq v l):br v=true:=fQ.one h.1
def fq.cells {l:List Lay} (h:fq v l):cellsOf v=[v]:=fQ.cells h.1
def fq.a8 {l:List Lay} (h:fq v l) {i:Nat} (hi:i<l.length):∃rest,gU 8 i v=some (.aO (l[i].w:: .str l[i].hh:: .str l[i].sc:: .str l[i].st:: .str l[i].ox:: .str l[i].oy:: .str l[i].wx:: .str l[i].wy::rest)):=by
 obtain ⟨rest,e⟩:=fQ.a8 h.1 (i:=i) (by simpa using hi);refine ⟨rest,?_⟩;rw [e,yaf];rfl
def fq.get {l:List Lay} (h:fq v l) {i:Nat} (hi:i<l.length):eS l[i].w l[i].s:=h.2 _ (xr hi)
end
def pn (hp:Hp) (a b c d e f g i:AV) (r:List AV):gG hp 8 true (.aO (a::b::c::d::e::f::g::i::r))=some (.agg [a,b,c,d,e,f,g,i]):=rfl
def AL (hp:Hp) (a b:AV) (r:List AV):gG hp 2 true (.aO (a::b::r))=some (.agg [a,b]):=rfl
def auY (hp:Hp) (a b c:AV) (r:List AV):gG hp 3 true (.aO (a::b::c::r))=some (.agg [a,b,c]):=rfl
def L2 {w:AV} {s:List (List Int)} (hw:eS w s) (hp:Hp) (ct id:Nat) (a b c d e f g:List Nat) (x0 x1 x2 x3 x4 x5 x6 x7:AV):fM hp ct id 0 8 [w,.str a,.str b,.str c,.str d,.str e,.str f,.str g] (some (.cells true true true 8 [x0,x1,x2,x3,x4,x5,x6,x7]))=some (.aq [],bh hp id (.cells true true true 8 [w,.str a,.str b,.str c,.str d,.str e,.str f,.str g]),ct):=by
 rw [nV (by rfl) (by simp) (by simp [bL,hw.one,Qm])];simp [aK,hw.pu,over,aX]
def Rc (a b c d e f g i:AV):eY 8 true [a,b,c,d,e,f,g,i]=some (.agg [a,b,c,d,e,f,g,i]):=rfl
end
section
open Go (IntKind)
section
variable {P:aI} {L:Lib}
def auZ (h:Has P L 120 Ii) {v:AV} {l:List Lay} (hv:fq v l) (hl:l.length<=1000000) {g:Nat} {cap:List AV} (hc:aK cap=true) (hz:∀(n:Nat) (hp:Hp),cB (n+900) hp cap=some (cap,hp)) {f:Lay->Int} (hg:∀a,a∈l->ae P L g (.agg (Lay.cs a)::cap) (aa (f a))):
  ∃r,ae P L 120 [v,.fn (.f g) [] cap] r/\bk (shut r) (l.map f):=by
 have pf:aX (.fn (.f g) [] cap)=true:=by simp [aX,aK,hc]
 have key:=eh (P:=P) (L:=L) (live:=[1,5,8,9,10]) (a:=BG)
  (I:=fun k st=>∃i:Nat,i+k=l.length/\((i=0/\st=⟨[(1,.fn (.f g) [] cap),(5,.ab),(8,v),(9,aa l.length),(10,aa i)],[],0,0⟩)\/
   (0<i/\st=⟨[(1,.fn (.f g) [] cap),(5,.aE 0 0 i),(8,v),(9,aa l.length),(10,aa i)],[(0,.cells true true false 1 (((l.take i).map f).map aa))],1,0⟩)))
  (Q:=fun ex st=>∃tm hp ct,st=⟨tm,hp,ct,0⟩/\ex= .exit 0/\((l.length=0/\aj tm 5= .ab)\/(0<l.length/\aj tm 5= .aE 0 0 l.length/\aw hp 0=some (.cells true true false 1 ((l.map f).map aa))))) ?_
 ·unfold ae;rw [au h];simp only [go_sem,ya,Ii,hv.len];generalize hq:D P L (.loop [1,5,8,9,10] BG) _=q;obtain ⟨ex,st,rfl,tm,hp,ct,rfl,rfl,h2⟩:=bI hq (key l.length) ⟨0,by omega,.inl ⟨rfl,by simp only [go_sem,ya,ao,aA hv.pu,aF _ hv.pu,aA pf,aF _ pf]<;>rfl⟩⟩
  rcases h2 with ⟨h2,h3⟩ | ⟨h2,h3,h4⟩
  ·refine ⟨.ab,by simp only [go_sem,ao,h3],?_⟩;rw [yD h2];exact lh
  ·refine ⟨.cp false 1 l.length ((l.map f).map aa),?_,?_⟩
   ·simp only [go_sem,yb,ao,h3,h4];exact zA (rH _ _ _) (by simp) (by decide)
   ·have:=fb false (l.map f)
    rwa [yY] at this
 ·rintro k st ⟨i,hk,aR⟩;by_cases hi:i<l.length
  ·have bU:(i:Int)<l.length:=by omega
   obtain ⟨rest,e1⟩:=hv.a8 hi;have e2:=hg _ (xr hi);have hS:=hv.get hi;unfold ae Lay.cs at e2;left
   rcases aR with ⟨h0,rfl⟩ | ⟨h0,rfl⟩
   ·subst h0;simp only [go_sem,ya,yb,xt,yq,yh,yj,BG,show ((0:Nat):Int)<l.length from bU,e1,pn,aG,L2 hS,Rc,yi,aY,hS.af,hz,e2,ix];refine ⟨_,k-1,rfl,by omega,1,by omega,.inr ⟨by omega,?_⟩⟩;rw [wrap64 (by omega) (by omega),yT hi];simp only [go_sem,ya,yb,ao,aA hv.pu,aF _ hv.pu,aA pf,aF _ pf,uB,xW]<;>rfl
   ·have hlen:(((l.take i).map f).map aa).length=i:=by simp;omega
    simp only [go_sem,ya,yb,yh,yj,BG,bU,e1,pn,aG,L2 hS,Rc,yi,aY,hS.af,hz,e2]
    rw [hZ (ex:=false) (pu:=true) (cs:=((l.take i).map f).map aa) (by simp only [go_sem,ya]) (by rw [hlen,yj]) (by omega) (by omega) (by decide) (by simp only [go_sem])];simp only [go_sem,ya,yb];refine ⟨_,k-1,rfl,by omega,i+1,by omega,.inr ⟨by omega,?_⟩⟩;rw [wrap64 (by omega) (by omega),yT hi];simp only [go_sem,ya,yb,ao,aA hv.pu,aF _ hv.pu,aA pf,aF _ pf,xy]<;>rfl
  ·right
   rcases aR with ⟨h0,rfl⟩ | ⟨h0,rfl⟩
   ·simp only [go_sem,ya,BG,show ¬(i:Int)<l.length by omega];refine ⟨_,_,rfl,by simp,_,_,_,rfl,rfl,.inl ⟨by omega,?_⟩⟩;simp only [go_sem,ya]
   ·simp only [go_sem,ya,BG,show ¬(i:Int)<l.length by omega];refine ⟨_,_,rfl,by simp,_,_,_,rfl,rfl,.inr ⟨by omega,?_,?_⟩⟩
    ·simp only [go_sem,ya];rw [show i=l.length by omega]
    ·simp only [go_sem];rw [yE (by omega)]
def au0 (h:Has P L 121 Ij) {v:AV} {l:List fR} (hv:jT v l) (hl:l.length<=1000000) {g:Nat} {cap:List AV} (hc:aK cap=true) (hz:∀(n:Nat) (hp:Hp),cB (n+900) hp cap=some (cap,hp)) {f:fR->Int} (hg:∀a,a∈l->ae P L g (.agg (Gx a)::cap) (aa (f a))):
  ∃r,ae P L 121 [v,.fn (.f g) [] cap] r/\bk (shut r) (l.map f):=by
 have pf:aX (.fn (.f g) [] cap)=true:=by simp [aX,aK,hc]
 have key:=eh (P:=P) (L:=L) (live:=[1,5,8,9,10]) (a:=BH)
  (I:=fun k st=>∃i:Nat,i+k=l.length/\((i=0/\st=⟨[(1,.fn (.f g) [] cap),(5,.ab),(8,v),(9,aa l.length),(10,aa i)],[],0,0⟩)\/
   (0<i/\st=⟨[(1,.fn (.f g) [] cap),(5,.aE 0 0 i),(8,v),(9,aa l.length),(10,aa i)],[(0,.cells true true false 1 (((l.take i).map f).map aa))],1,0⟩)))
  (Q:=fun ex st=>∃tm hp ct,st=⟨tm,hp,ct,0⟩/\ex= .exit 0/\((l.length=0/\aj tm 5= .ab)\/(0<l.length/\aj tm 5= .aE 0 0 l.length/\aw hp 0=some (.cells true true false 1 ((l.map f).map aa))))) ?_
 ·unfold ae;rw [au h];simp only [go_sem,ya,Ij,hv.len];generalize hq:D P L (.loop [1,5,8,9,10] BH) _=q;obtain ⟨ex,st,rfl,tm,hp,ct,rfl,rfl,h2⟩:=bI hq (key l.length) ⟨0,by omega,.inl ⟨rfl,by simp only [go_sem,ya,ao,aA hv.pu,aF _ hv.pu,aA pf,aF _ pf]<;>rfl⟩⟩
  rcases h2 with ⟨h2,h3⟩ | ⟨h2,h3,h4⟩
  ·refine ⟨.ab,by simp only [go_sem,ao,h3],?_⟩;rw [yD h2];exact lh
  ·refine ⟨.cp false 1 l.length ((l.map f).map aa),?_,?_⟩
   ·simp only [go_sem,yb,ao,h3,h4];exact zA (rH _ _ _) (by simp) (by decide)
   ·have:=fb false (l.map f)
    rwa [yY] at this
 ·rintro k st ⟨i,hk,aR⟩;by_cases hi:i<l.length
  ·have bU:(i:Int)<l.length:=by omega
   obtain ⟨rest,e1⟩:=hv.a8 hi;have e2:=hg _ (xr hi);unfold ae Gx at e2;left
   rcases aR with ⟨h0,rfl⟩ | ⟨h0,rfl⟩
   ·subst h0;simp only [go_sem,ya,yb,xt,yq,yh,yj,BH,show ((0:Nat):Int)<l.length from bU,e1,AL,aG,dj,dX,yi,aY,hz,e2,ix];refine ⟨_,k-1,rfl,by omega,1,by omega,.inr ⟨by omega,?_⟩⟩;rw [wrap64 (by omega) (by omega),yT hi];simp only [go_sem,ya,yb,ao,aA hv.pu,aF _ hv.pu,aA pf,aF _ pf,uB,xW]<;>rfl
   ·have hlen:(((l.take i).map f).map aa).length=i:=by simp;omega
    simp only [go_sem,ya,yb,yh,yj,BH,bU,e1,AL,aG,dj,dX,yi,aY,hz,e2]
    rw [hZ (ex:=false) (pu:=true) (cs:=((l.take i).map f).map aa) (by simp only [go_sem,ya]) (by rw [hlen,yj]) (by omega) (by omega) (by decide) (by simp only [go_sem])];simp only [go_sem,ya,yb];refine ⟨_,k-1,rfl,by omega,i+1,by omega,.inr ⟨by omega,?_⟩⟩;rw [wrap64 (by omega) (by omega),yT hi];simp only [go_sem,ya,yb,ao,aA hv.pu,aF _ hv.pu,aA pf,aF _ pf,xy]<;>rfl
  ·right
   rcases aR with ⟨h0,rfl⟩ | ⟨h0,rfl⟩
   ·simp only [go_sem,ya,BH,show ¬(i:Int)<l.length by omega];refine ⟨_,_,rfl,by simp,_,_,_,rfl,rfl,.inl ⟨by omega,?_⟩⟩;simp only [go_sem,ya]
   ·simp only [go_sem,ya,BH,show ¬(i:Int)<l.length by omega];refine ⟨_,_,rfl,by simp,_,_,_,rfl,rfl,.inr ⟨by omega,?_,?_⟩⟩
    ·simp only [go_sem,ya];rw [show i=l.length by omega]
    ·simp only [go_sem];rw [yE (by omega)]
end
end
section
open Go (IntKind)
def take_set {α:Type} {l:List α} {i:Nat} {a:α} (h:i<l.length):(l.set i a).take (i+1)=l.take i++[a]:=by
 rw [yT (by simpa using h),List.getElem_set_self,List.take_set_of_le (yv i)]
def stS {hp:Hp} {ct id o:Nat} {v:List Nat} {ex:Bool} {l:List (List Nat)} (h:o<l.length):fM hp ct id o 1 [.str v] (some (.cells true true ex 1 (l.map .str)))=some (.aq [],bh hp id (.cells true true ex 1 ((l.set o v).map .str)),ct):=by
 rw [nV (by rfl) (by simp;omega) (by rfl)]
 have:over o [.str v] (l.map .str)=(l.set o v).map .str:=by
  simp only [over,yu,yA,yd];rw [List.map_set,List.set_eq_take_append_cons_drop,yL (by simpa using h)]
  simp
 rw [this];rfl
def au1 (ct:Nat) {n:Nat} (h:n<=10000000000):sE ct 1 16 [.str []] (some n) (some n)=some (.aE ct 0 n,.cells true true true 1 ((yH n []).map .str)):=by
 rw [HK (sz:=1) (by omega) (by omega) (by rfl) (by rfl)]
 have:∀n,(yH n [AV.str []]).flatten=(yH n []).map .str:=fun n=>by
  induction n with
  | zero=>rfl
  | succ n ih=>rw [wP,wU,ih,wP,yS];rfl
 rw [this];rfl
def an5 (l:List (List Nat)):fP (.aH true l.length (l.map .str)) l:=BB true l
section
variable {P:aI} {L:Lib}
def au2 (h:Has P L 369 IM) {v:AV} {l:List fR} (hv:jT v l) (hl:l.length<=1000000) {g:Nat} {cap:List AV} (hc:aK cap=true) (hz:∀(n:Nat) (hp:Hp),cB (n+900) hp cap=some (cap,hp)) {f:fR->Rat} (hg:∀a,a∈l->∃r,ae P L g (.agg (Gx a)::cap) r/\bW r (f a)):
  ∃r,ae P L 369 [v,.fn (.f g) [] cap] r/\kN (shut r) (l.map f):=by
 have pf:aX (.fn (.f g) [] cap)=true:=by simp [aX,aK,hc]
 have key:=eh (P:=P) (L:=L) (live:=[1,5,8,9,10]) (a:=BR)
  (I:=fun k st=>∃i:Nat,i+k=l.length/\((i=0/\st=⟨[(1,.fn (.f g) [] cap),(5,.ab),(8,v),(9,aa l.length),(10,aa i)],[],0,0⟩)\/
   (0<i/\∃cs,QL cs ((l.take i).map f)/\st=⟨[(1,.fn (.f g) [] cap),(5,.aE 0 0 i),(8,v),(9,aa l.length),(10,aa i)],[(0,.cells true true false 4 cs)],1,0⟩)))
  (Q:=fun ex st=>∃tm hp ct,st=⟨tm,hp,ct,0⟩/\ex= .exit 0/\((l.length=0/\aj tm 5= .ab)\/(0<l.length/\∃cs,QL cs (l.map f)/\aj tm 5= .aE 0 0 l.length/\aw hp 0=some (.cells true true false 4 cs)))) ?_
 ·unfold ae;rw [au h];simp only [go_sem,ya,IM,hv.len];generalize hq:D P L (.loop [1,5,8,9,10] BR) _=q;obtain ⟨ex,st,rfl,tm,hp,ct,rfl,rfl,h2⟩:=bI hq (key l.length) ⟨0,by omega,.inl ⟨rfl,by simp only [go_sem,ya,ao,aA hv.pu,aF _ hv.pu,aA pf,aF _ pf]<;>rfl⟩⟩
  rcases h2 with ⟨h2,h3⟩ | ⟨h2,cs,iY,h3,h4⟩
  ·refine ⟨.ab,by simp only [go_sem,ao,h3],?_⟩;rw [yD h2];exact ajw
  ·have mY:=iY.len;rw [yY] at mY;refine ⟨.cp false 4 l.length cs,?_,?_⟩
   ·simp only [go_sem,yb,ao,h3,h4];exact zA (rH _ _ _) mY (by decide)
   ·have:=YY false iY
    rwa [yY] at this
 ·rintro k st ⟨i,hk,aR⟩;by_cases hi:i<l.length
  ·have bU:(i:Int)<l.length:=by omega
   obtain ⟨rest,e1⟩:=hv.a8 hi;obtain ⟨y,e2,hy⟩:=hg _ (xr hi);have ns:=hy;obtain ⟨y1,y2,y3,y4,rfl,gy⟩:=hy.gen;have bz:∀q,fG q [AV.int .i64 0,.ab,.int .i64 0,.ab] 0 4 [y1,y2,y3,y4] []=fill q [y1,y2,y3,y4] []:=fun q=>abq gy.o1 gy.o2 gy.o3 gy.o4
   obtain ⟨Db,Dc,Dd,De⟩:=gy.Kn;have pY:aK [y1,y2,y3,y4]=true:=by simp only [aK,Db,Dc,Dd,De,wB]
   unfold ae Gx at e2;left
   rcases aR with ⟨h0,rfl⟩ | ⟨h0,cs,iY,rfl⟩
   ·subst h0;simp only [go_sem,ya,yb,xt,yq,yh,BR,show ((0:Nat):Int)<l.length from bU,e1,AL,aG,dj,dX,yi,aY,hz,e2,bm,bz,Db,Dc,Dd,De,wB,Ms,ix];refine ⟨_,k-1,rfl,by omega,1,by omega,.inr ⟨by omega,[y1,y2,y3,y4],?_,?_⟩⟩
    ·rw [yT hi];exact ⟨ns,trivial⟩
    ·rw [wrap64 (by omega) (by omega)];simp only [go_sem,ya,yb,ao,aA hv.pu,aF _ hv.pu,aA pf,aF _ pf]<;>rfl
   ·simp only [go_sem,ya,yb,xt,BR,bU,e1,AL,aG,dj,dX,yi,aY,hz,e2,bm,bz,Db,Dc,Dd,De,wB,Ms]
    rw [hZ (ex:=false) (pu:=true) (cs:=cs) (by simp only [go_sem,ya]) (by rw [iY.len,yY,yQ,xQ (by omega)]) (by omega) (by omega) (by decide) (by simp only [go_sem,gy.o1,gy.o2,gy.o3,gy.o4])];simp only [go_sem,ya,yb,pY];refine ⟨_,k-1,rfl,by omega,i+1,by omega,.inr ⟨by omega,cs++[y1,y2,y3,y4],?_,?_⟩⟩
    ·rw [yT hi,xy];exact iY.snoc ns
    ·rw [wrap64 (by omega) (by omega)];simp only [go_sem,ya,yb,ao,aA hv.pu,aF _ hv.pu,aA pf,aF _ pf]<;>rfl
  ·right
   rcases aR with ⟨h0,rfl⟩ | ⟨h0,cs,iY,rfl⟩
   ·simp only [go_sem,ya,BR,show ¬(i:Int)<l.length by omega];refine ⟨_,_,rfl,by simp,_,_,_,rfl,rfl,.inl ⟨by omega,?_⟩⟩;simp only [go_sem,ya]
   ·simp only [go_sem,ya,BR,show ¬(i:Int)<l.length by omega];rw [yE (by omega)] at iY;refine ⟨_,_,rfl,by simp,_,_,_,rfl,rfl,.inr ⟨by omega,cs,iY,?_,?_⟩⟩
    ·simp only [go_sem,ya];rw [show i=l.length by omega]
    ·simp only [go_sem]
def au3 (h:Has P L 160 Ev) {v:AV} {l:List Rat} (hv:kN v l) (hl:l.length<=1000000) {g:Nat} {p:Rat->Bool} (hg:∀w x,x∈l->bW w x->ae P L g [w] (.bool (p x))):∃n:Int,ae P L 160 [v,.fn (.f g) [] []] (aa n)/\decide (0<=n)=l.any p:=by
 have key:=eh (P:=P) (L:=L) (live:=[0,1,7,8]) (a:=DQ)
  (I:=fun k s=>∃i:Nat,i+k=l.length/\(l.drop i).any p=l.any p/\s=⟨[(0,v),(1,.fn (.f g) [] []),(7,aa l.length),(8,aa i)],[],0,0⟩)
  (Q:=fun ex s=>∃tm hp ct,s=⟨tm,hp,ct,0⟩/\((∃n:Int,ex= .ret/\aj tm 4=aa n/\0<=n/\l.any p=true)\/(ex= .exit 0/\l.any p=false))) ?_
 ·unfold ae;rw [au h];simp only [go_sem,ya,Ev,hv.len];generalize hq:D P L (.loop [0,1,7,8] DQ) _=q;obtain ⟨ex,s,rfl,tm,hp,ct,rfl,h2⟩:=bI hq (key l.length) ⟨0,by omega,rfl,by simp only [go_sem,ya,ao,aA hv.pu,aF _ hv.pu]<;>rfl⟩
  rcases h2 with ⟨n,rfl,h2,h3,h4⟩ | ⟨rfl,h2⟩
  ·exact ⟨n,by simp only [go_sem,h2]<;>rfl,by rw [h4];simpa using h3⟩
  ·exact ⟨-1,by simp only [go_sem,ao]<;>rfl,by rw [h2];decide⟩
 ·rintro k s ⟨i,hk,hf,rfl⟩;by_cases hi:i<l.length
  ·have bU:(i:Int)<l.length:=by omega
   obtain ⟨a,b,c,d,r,e1,hx⟩:=hv.a8 hi;have e2:=hg _ _ (xr hi) hx;have gx:=hx.f4;rw [YC hi] at hf
   cases dZ:p l[i] with
   | false=>
    left
    rw [dZ] at e2;simp only [go_sem,ya,DQ,bU,e1,ND,jw,gx.af,e2];rw [dZ,Bool.false_or] at hf;refine ⟨_,k-1,rfl,by omega,i+1,by omega,hf,?_⟩;rw [wrap64 (by omega) (by omega)];simp only [go_sem,ya,ao,aA hv.pu,aF _ hv.pu]<;>rfl
   | true=>
    right
    rw [dZ] at e2;simp only [go_sem,ya,DQ,bU,e1,ND,jw,gx.af,e2];refine ⟨_,_,rfl,by simp,_,_,_,rfl,.inl ⟨i,rfl,?_,by omega,?_⟩⟩
    ·simp only [go_sem]
    ·rw [<-hf,dZ,Bool.true_or]
  ·right
   simp only [go_sem,ya,DQ,show ¬(i:Int)<l.length by omega];refine ⟨_,_,rfl,by simp,_,_,_,rfl,.inr ⟨rfl,?_⟩⟩;rw [<-hf,List.drop_eq_nil_of_le (by omega)];rfl
def au4 (h:Has P L 122 Ik) (Jh:Has P L 160 Ev) {v:AV} {l:List Rat} (hv:kN v l) (hl:l.length<=1000000) {g:Nat} {p:Rat->Bool} (hg:∀w x,x∈l->bW w x->ae P L g [w] (.bool (p x))):ae P L 122 [v,.fn (.f g) [] []] (.bool (l.any p)):=by
 obtain ⟨n,e1,e2⟩:=au3 Jh hv hl hg;unfold ae at e1 ⊢;rw [au h];simp only [go_sem,ya,Ik,hv.af,e1,e2]
def au5 (h:Has P L 123 Il) (hT:Tx P L) {v:AV} {l:List Rat} {K:Nat} (hv:kN v l) (hl:l.length<=1000000) (hk:∀x,x∈l->Hq K x) (hK:K<=4000000000):∃r,ae P L 123 [v] r/\fP (shut r) (l.map RT):=by
 have key:=eh (P:=P) (L:=L) (live:=[3,9,10,11]) (a:=Ho)
  (I:=fun k st=>∃(i:Nat) (out:List (List Nat)),i+k=l.length/\out.length=l.length/\out.take i=(l.take i).map RT/\st=⟨[(3,.aE 0 0 l.length),(9,v),(10,aa l.length),(11,aa i)],[(0,.cells true true true 1 (out.map .str))],1,0⟩)
  (Q:=fun ex st=>∃tm hp ct,st=⟨tm,hp,ct,0⟩/\ex= .exit 0/\aj tm 3= .aE 0 0 l.length/\aw hp 0=some (.cells true true true 1 ((l.map RT).map .str))) ?_
 ·unfold ae;rw [au h];simp only [go_sem,ya,yb,Il,hv.len,oM (show (0:Int)<=l.length by omega),xN,au1 0 (show l.length<=10000000000 by omega)];generalize hq:D P L (.loop [3,9,10,11] Ho) _=q;obtain ⟨ex,st,rfl,tm,hp,ct,rfl,rfl,t3,g0⟩:=bI hq (key l.length) ⟨0,yH l.length [],by omega,by simp,by simp,by simp only [go_sem,ya,yb,ao,aA hv.pu,aF _ hv.pu]<;>rfl⟩
  refine ⟨.cp true 1 l.length ((l.map RT).map .str),?_,?_⟩
  ·simp only [go_sem,yb,ao,t3,g0];exact zA (rH _ _ _) (by simp) (by decide)
  ·have:=an5 (l.map RT)
   rwa [yY] at this
 ·rintro k st ⟨i,out,sS,hlen,Em,rfl⟩;by_cases hi:i<l.length
  ·left
   obtain ⟨a,b,c,d,r,e1,hx⟩:=hv.a8 hi;have e2:=m46 hT hx (hk _ (xr hi)) hK;have gx:=hx.f4;unfold ae at e2
   simp only [go_sem,ya,yb,yj,Ho,show (i:Int)<l.length by omega,e1,ND,aG,gx.st,jw,gx.af,yi,e2,oM (show (0:Int)<=i by omega),xN,db 0 0 hi,yd,stS (l:=out) (o:=i) (by omega)];refine ⟨_,k-1,rfl,by omega,i+1,out.set i (RT l[i]),by omega,by simpa using hlen,?_,?_⟩
   ·rw [take_set (by omega),Em,yT hi,xy];rfl
   ·rw [wrap64 (by omega) (by omega)];simp only [go_sem,ya,yb,ao,aA hv.pu,aF _ hv.pu]<;>rfl
  ·right
   have:i=l.length:=by omega
   subst this;rw [yE (by omega),yE (yv _)] at Em;subst Em;simp only [go_sem,ya,Ho,show ¬(l.length:Int)<l.length by omega];exact ⟨_,_,rfl,by simp,_,_,_,rfl,rfl,by simp only [go_sem,ya],by simp only [go_sem]⟩
noncomputable def jA (l:List Lay):Int:=if 4<l.length then 5 else bj (l.map Lay.E)
noncomputable def Bk (p:fR):Int:=bj [aU p.1,aU p.2]
noncomputable def po (l:List fR):Int:=if 256<l.length then 5 else bj (l.map Bk)
def asl (h:Lp P L) {a:Lay} (hS:eS a.w a.s) (hf:a.Fit):ae P L 115 [.agg a.cs] (aa a.E):=auW h hS hf.rows hf.auX hf.hh hf.sc hf.st hf.ox hf.oy hf.wx hf.wy
def m76 (h:Lp P L) (OX:Has P L 76 JL) (NH:Has P L 120 Ii) {v:AV} {l:List Lay} (hv:fq v l) (hl:l.length<=1000000) (hf:∀a,a∈l->a.Fit):ae P L 76 [v] (aa (jA l)):=by
 obtain ⟨r,e1,hr⟩:=auZ NH hv hl (g:=115) (cap:=[]) rfl (fun _ _=>rfl) (f:=Lay.E) (fun a ha=>asl h (hv.2 a ha) (hf a ha));have e2:=zf h.toSp.oC hr (by simpa using hl);unfold jA;unfold ae at e1 e2 ⊢;rw [au OX];by_cases h4:4<l.length
 ·rw [yL h4];simp only [go_sem,ya,JL,hv.len,show (4:Int)<l.length by omega,yo]
 ·rw [yF h4];simp only [go_sem,ya,JL,hv.len,hv.af,show ¬(4:Int)<l.length by omega,yp,e1,hr.af,e2]
def m78 (h:Sp P L) (VU:Has P L 78 JM) (TA:Has P L 121 Ij) {v:AV} {l:List fR} (hv:jT v l) (hl:l.length<=1000000) (hf:∀p,p∈l->p.1.length<=1000000000/\p.2.length<=1000000000):ae P L 78 [v] (aa (po l)):=by
 obtain ⟨r,e1,hr⟩:=au0 TA hv hl (g:=53) (cap:=[]) rfl (fun _ _=>rfl) (f:=Bk) (fun p hp=>Km h (hf p hp).1 (hf p hp).2);have e2:=zf h.oC hr (by simpa using hl);unfold po;unfold ae at e1 e2 ⊢;rw [au VU];by_cases h4:256<l.length
 ·rw [yL h4];simp only [go_sem,ya,JM,hv.len,show (256:Int)<l.length by omega,yo]
 ·rw [yF h4];simp only [go_sem,ya,JM,hv.len,hv.af,show ¬(256:Int)<l.length by omega,yp,e1,hr.af,e2]
def m83 (OY:Has P L 83 JN) (TB:Has P L 122 Ik) (TC:Has P L 123 Il) (Jh:Has P L 160 Ev) (hT:Tx P L) {v:AV} {l:List Rat} {K:Nat} (hv:kN v l) (hl:l.length<=1000000) (hk:∀x,x∈l->Hq K x) (hK:K<=4000000000):
  (l.any LG=true->ae P L 83 [v] (.aq [.ab,aa 4]))/\(l.any LG=false->∃r,fP r (l.map RT)/\ae P L 83 [v] (.aq [r,aa 0])):=by
 have e1:=au4 TB Jh hv hl (g:=107) (p:=LG) (fun w x hx hw=>ad5 hT hw (hk x hx) hK);obtain ⟨r,e2,hr⟩:=au5 TC hT hv hl hk hK;unfold ae at e1 e2 ⊢;constructor
 ·intro ha;rw [ha] at e1;rw [au OY];simp only [go_sem,ya,JN,hv.af,e1]
 ·intro ha;rw [ha] at e1;refine ⟨_,hr,?_⟩;rw [au OY];simp only [go_sem,ya,JN,hv.af,e1,e2];rcases hr with ⟨hr,_⟩ | ⟨e,hr⟩<;>rw [hr]<;>rfl
end
end
section
open Go (IntKind)
def kE {α:Type} (b:α->Bool) (f:α->Rat) (s:Rat) (l:List α):Rat:=l.foldl (fun acc a=>if b a=true then acc+f a else acc) s
def Xg {α:Type} {b:α->Bool} {f:α->Rat} {s:Rat} {l:List α} {i:Nat} (h:i<l.length):kE b f s (l.take (i+1))=if b l[i]=true then kE b f s (l.take i)+f l[i] else kE b f s (l.take i):=by
 rw [yT h];simp only [kE,List.foldl_append,List.foldl_cons,List.foldl_nil]
def Qc {α:Type} {b:α->Bool} {f:α->Rat} {K:Nat}:∀{l:List α} {s:Rat} {M:Nat},Hq M s->(∀x,x∈l->Hq K (f x))->Hq (M+l.length*(K+1)) (kE b f s l)
 | [],s,M,hs,_=>by simpa [kE] using hs
 | x::l,s,M,hs,hl=>by
  show Hq _ (kE b f (if b x=true then s+f x else s) l)
  have ih:=fun {s':Rat} {M':Nat} (h:Hq M' s')=>Qc (b:=b) (l:=l) h (fun y hy=>hl y (wv _ hy))
  have e:(x::l).length*(K+1)=l.length*(K+1)+(K+1):=by grind
  split
  ·exact (ih (hs.add (hl x vj))).mono (by omega)
  ·exact (ih hs).mono (by omega)
def V3 {α:Type} {b:α->Bool} {f:α->Rat} {K M:Nat} {l:List α} {s:Rat} (hs:Hq M s) (hl:∀x,x∈l->Hq K (f x)) (i:Nat):Hq (M+l.length*(K+1)) (kE b f s (l.take i)):=
 (Qc hs (fun x hx=>hl x (List.mem_of_mem_take hx))).mono (by rw [yQ];have:=Nat.mul_le_mul_right (K+1) (Nat.min_le_right i l.length);omega)
noncomputable def Lay.ph (dx dy sh x y:List Nat) (fr:Int) (a:Lay):Rat:=Kq a.s a.hh a.sc a.st a.ox a.oy a.wx a.wy dx dy sh x y fr
noncomputable def Lay.low (sh:List Nat) (a:Lay):Bool:=B0 (bC sh) (bC a.hh)
def Lay.Ok (dx dy sh x y:List Nat) (fr:Int) (a:Lay):Prop:=qd a.s a.hh a.sc a.st a.ox a.oy a.wx a.wy dx dy sh x y fr
noncomputable def mL (l:List Lay) (dx dy sh x y:List Nat) (fr:Int):Rat:=kE (Lay.low sh) (Lay.ph dx dy sh x y fr) 0 l
def Lk {l:List Lay} {dx dy sh x y:List Nat} {fr:Int} (h:∀a,a∈l->a.Ok dx dy sh x y fr) (hl:l.length<=4):Hq 2000000 (mL l dx dy sh x y fr):=
 (Qc AI (fun a ha=>Ia (h a ha))).mono (by omega)
def Pp {α:Type} {f:α->Int}:∀{l:List α},bj (l.map f)=0->∀a,a∈l->f a=0
 | [],_,_,h=>by cases h
 | x::l,h,a,ha=>by
  rw [yS,Bn] at h;rcases wg.1 ha with rfl | ha
  ·grind
  ·exact Pp h.2 a ha
def QE {l:List Lay} (h:jA l=0):l.length<=4/\∀a,a∈l->a.E=0:=by
 unfold jA at h
 split at h
 ·grind
 ·exact ⟨by omega,Pp h⟩
def QF {l:List fR} (h:po l=0):l.length<=256/\∀p,p∈l->aU p.1=0/\aU p.2=0:=by
 unfold po at h
 split at h
 ·grind
 ·exact ⟨by omega,fun p hp=>QA.1 (Pp h p hp)⟩
noncomputable def nB (l:List Lay) (dx dy sh x y:List Nat) (fr:Int):Int:=bj [jA l,jS dx dy sh,bj [aU x,aU y],iQ fr]
def ac5 {l:List Lay} {dx dy sh x y:List Nat} {fr:Int} (h1:jA l=0) (h2:jS dx dy sh=0) (h3:aU x=0) (h4:aU y=0) (h5:iQ fr=0):∀a,a∈l->a.Ok dx dy sh x y fr:=fun a ha=>by
 have e:=(QE h1).2 a ha;refine an4 ?_;unfold Tz;unfold Lay.E at e;rw [e,h2,h3,h4,h5];rfl
def abu {l:List Lay} {dx dy sh x y:List Nat} {fr:Int} (h:nB l dx dy sh x y fr=0):l.length<=4/\∀a,a∈l->a.Ok dx dy sh x y fr:=by
 unfold nB at h;simp only [Bn,Du,wi] at h;obtain ⟨h1,h2,⟨h3,h4⟩,h5⟩:=h;exact ⟨(QE h1).1,ac5 h1 h2 h3 h4 h5⟩
structure Lq (P:aI) (L:Lib):Prop extends Lp P L where
 OX:Has P L 76 JL
 VU:Has P L 78 JM
 OY:Has P L 83 JN
 NH:Has P L 120 Ii
 TA:Has P L 121 Ij
 TB:Has P L 122 Ik
 TC:Has P L 123 Il
 Jh:Has P L 160 Ev
section
variable {P:aI} {L:Lib}
def aet (h:Lp P L) (qI:Has P L 370 Co) {v:AV} {l:List Lay} (hv:fq v l) (hl:l.length<=4) {dx dy sh x y:List Nat} {fr:Int} (ok:∀a,a∈l->a.Ok dx dy sh x y fr):
  ∃r,ae P L 370 [v,fa dx dy sh,iL x y,aa fr] r/\bW r (mL l dx dy sh x y fr):=by
 have ks:=fun i=>V3 (b:=Lay.low sh) AI (fun a ha=>Ia (ok a ha)) i
 have key:=eh (P:=P) (L:=L) (live:=[3,5,6,8,9,13,14,15]) (a:=DZ)
  (I:=fun k st=>∃i:Nat,i+k=l.length/\∃c1 c2 c3 c4,bW (.agg [c1,c2,c3,c4]) (kE (Lay.low sh) (Lay.ph dx dy sh x y fr) 0 (l.take i))/\st=⟨[(3,aa fr),(5,.ptr 0 0),(6,.ptr 1 0),(8,.ptr 2 0),(9,.ptr 3 0),(13,v),(14,aa l.length),(15,aa i)],[(3,.cells true true true 4 [c1,c2,c3,c4]),(2,.cells true true true 4 [.int .i64 0,.ab,.int .i64 0,.ab]),(1,.cells true true true 2 [.str x,.str y]),(0,.cells true true true 3 [.str dx,.str dy,.str sh])],4,0⟩)
  (Q:=fun ex st=>∃tm hp ct c1 c2 c3 c4,bW (.agg [c1,c2,c3,c4]) (mL l dx dy sh x y fr)/\st=⟨tm,hp,ct,0⟩/\ex= .exit 0/\aj tm 8= .ptr 2 0/\aj tm 9= .ptr 3 0/\aw hp 3=some (.cells true true true 4 [c1,c2,c3,c4])/\aw hp 2=some (.cells true true true 4 [.int .i64 0,.ab,.int .i64 0,.ab])) ?_
 ·obtain ⟨z,e1,hz⟩:=CY h.toVl.toFr' (z:=0) (by omega) (by omega);have dZ:bW z 0:=hz;obtain ⟨z1,z2,z3,z4,rfl,gz⟩:=hz.gen;unfold ae at e1 ⊢;rw [au qI];simp only [go_sem,ya,yb,Co,aG,e1,bm,gz.st,hv.len];generalize hq:D P L (.loop [3,5,6,8,9,13,14,15] DZ) _=q;obtain ⟨ex,st,rfl,tm,hp,ct,c1,c2,c3,c4,h1,rfl,rfl,t8,t9,g3,g2⟩:=bI hq (key l.length) ⟨0,by omega,z1,z2,z3,z4,by simpa [kE] using dZ,by simp only [go_sem,ya,yb,ao,aA hv.pu,aF _ hv.pu]<;>rfl⟩
  have g:=h1.f4;refine ⟨_,?_,h1⟩;simp only [go_sem,ya,yb,ao,t8,t9,g3,g2,jw,g.st,cR,cS,yi];exact g.dY _
 ·rintro k st ⟨i,hk,c1,c2,c3,c4,hs,rfl⟩;by_cases hi:i<l.length
  ·left
   obtain ⟨rest,e1⟩:=hv.a8 hi;have hS:=hv.get hi;have eN:=ok _ (xr hi);obtain ⟨a,e2,ha⟩:=sN h.toSp eN.hh;have e3:=m63 h.toSp (x:=dx) (y:=dy) eN.sh ha (jK eN.hh (yv 2400)) (by decide);rw [show B0 (bC sh) (bC l[i].hh)=Lay.low sh l[i] from rfl] at e3;have aR:=Xg (b:=Lay.low sh) (f:=Lay.ph dx dy sh x y fr) (s:=0) hi;obtain ⟨a1,a2,a3,a4,rfl,ga⟩:=ha.gen;have gs:=hs.f4
   cases hb:Lay.low sh l[i] with
   | false=>
    rw [hb] at e3 aR;simp only [go_sem,ya,yb,DZ,show (i:Int)<l.length by omega,e1,pn,aG,L2 hS,aZ,yd,bX,yi,fc,aY,e2,bm,ga.af,e3];refine ⟨_,k-1,rfl,by omega,i+1,by omega,c1,c2,c3,c4,by rw [aR];exact hs,?_⟩
    rw [wrap64 (by omega) (by omega)];simp only [go_sem,ya,yb,ao,aA hv.pu,aF _ hv.pu]<;>rfl
   | true=>
    rw [hb] at e3 aR;obtain ⟨p,e4,hp⟩:=m67 h hS eN;obtain ⟨y',e5,hy⟩:=Kc h.toVl.toFr' hs hp (K:=2000000) ((ks i).mono (by omega)) ((Ia eN).mono (by omega)) (by omega);have hy2:bW y' (kE (Lay.low sh) (Lay.ph dx dy sh x y fr) 0 (l.take (i+1))):=by rw [aR];exact hy
    obtain ⟨p1,p2,p3,p4,rfl,gp⟩:=hp.gen;obtain ⟨y1,y2,y3,y4,rfl,gy⟩:=hy.gen;unfold kV fa iL at e4;simp only [go_sem,ya,yb,DZ,show (i:Int)<l.length by omega,e1,pn,aG,L2 hS,aZ,yd,bX,yi,fc,dX,jw,Rc,aY,hS.af,e2,bm,ga.af,e3,e4,gs.af,gp.af,e5,gy.st];refine ⟨_,k-1,rfl,by omega,i+1,by omega,y1,y2,y3,y4,hy2,?_⟩;rw [wrap64 (by omega) (by omega)];simp only [go_sem,ya,yb,ao,aA hv.pu,aF _ hv.pu]<;>rfl
  ·right
   simp only [go_sem,ya,DZ,show ¬(i:Int)<l.length by omega];rw [yE (by omega)] at hs;exact ⟨_,_,rfl,by simp,_,_,_,c1,c2,c3,c4,hs,rfl,rfl,by simp only [go_sem,ya],by simp only [go_sem,ya],by simp only [go_sem],by simp only [go_sem,ya]⟩
def au6 (h:Lq P L) (qI:Has P L 370 Co) (NI:Has P L 373 IN) {v:AV} {l:List Lay} (hv:fq v l) (hl:l.length<=1000000) (hf:∀a,a∈l->a.Fit) {dx dy sh x y:List Nat} {fr:Int} (l8:dx.length<=1000000000) (l9:dy.length<=1000000000) (la:sh.length<=1000000000) (lb:x.length<=1000000000) (lc:y.length<=1000000000):
  ae P L 373 [v,fa dx dy sh,iL x y,aa fr] (if nB l dx dy sh x y fr≠0 then .aq [.str [],aa (nB l dx dy sh x y fr)] else CC (mL l dx dy sh x y fr)):=by
 have e1:=m76 h.toLp h.OX h.NH hv hl hf;have e2:=m60 h.toLp.toSp l8 l9 la;rw [show bj [bj [aU dx,aU dy],iF sh 0]=jS dx dy sh from rfl] at e2;have e3:=Km h.toLp.toSp lb lc;have e4:=s51 h.toLp.OO h.toLp.Gt h.toLp.toSp.kT fr;have e5:=zf h.toLp.toSp.oC (fb true [jA l,jS dx dy sh,bj [aU x,aU y],iQ fr]) (by simp);simp only [yu,yA,yd,yb,yS,xH] at e5;rw [show bj [jA l,jS dx dy sh,bj [aU x,aU y],iQ fr]=nB l dx dy sh x y fr from rfl] at e5;by_cases h0:nB l dx dy sh x y fr=0
 ·rw [yF (by simp [h0])];obtain ⟨k1,k2⟩:=abu h0;obtain ⟨r,e6,hr⟩:=aet h.toLp qI hv k1 k2;have e7:=m57 h.toLp hr (Lk k2 k1) (by decide);obtain ⟨u,z,hu⟩:=aqH (mL l dx dy sh x y fr);rw [hu] at e7 ⊢;rw [h0] at e5;obtain ⟨r1,r2,r3,r4,rfl,gr⟩:=hr.gen;unfold ae at*;rw [au NI];simp only [go_sem,ya,yb,yq,yh,yj,IN,aG,hv.af,fc,dX,aY,yi,e1,e2,e3,e4,e5,e6,bm,gr.af,e7];rfl
 ·rw [yL h0];unfold ae at*;rw [au NI];simp only [go_sem,ya,yb,yq,yh,yj,IN,aG,hv.af,fc,dX,aY,yi,e1,e2,e3,e4,e5,h0,yp,yG];rfl
def au7 (h:Lp P L) (Ji:Has P L 368 IL) (qI:Has P L 370 Co) {v:AV} {l:List Lay} (hv:fq v l) (hl:l.length<=4) {dx dy sh x y:List Nat} {fr:Int} (ok:∀a,a∈l->a.Ok dx dy sh x y fr):
  ∃r,ae P L 368 [iL x y,.aO [v],.aO [.str dx,.str dy,.str sh],.aO [aa fr]] r/\bW r (mL l dx dy sh x y fr):=by
 obtain ⟨r,e1,hr⟩:=aet h qI hv hl ok;have bY:=hr;refine ⟨r,?_,bY⟩;obtain ⟨r1,r2,r3,r4,rfl,gr⟩:=hr.gen;unfold ae at*;rw [au Ji];simp only [go_sem,ya,yb,IL,aG,hv.af,auY,dX,aY,yi,e1,bm,gr.st,cR,cS];exact gr.dY _
noncomputable def mo (l:List Lay) (dx dy sh:List Nat) (pl:List fR) (fr:Int):Int:=bj [jA l,jS dx dy sh,po pl,iQ fr]
noncomputable def gD (l:List Lay) (dx dy sh:List Nat) (pl:List fR) (fr:Int):List Rat:=pl.map fun p=>mL l dx dy sh p.1 p.2 fr
def ZU {l:List Lay} {dx dy sh:List Nat} {pl:List fR} {fr:Int} (h:mo l dx dy sh pl fr=0):l.length<=4/\pl.length<=256/\∀p,p∈pl->∀a,a∈l->a.Ok dx dy sh p.1 p.2 fr:=by
 unfold mo at h;simp only [Bn,Du,wi] at h;obtain ⟨h1,h2,h3,h5⟩:=h;exact ⟨(QE h1).1,(QF h3).1,fun p hp=>ac5 h1 h2 ((QF h3).2 p hp).1 ((QF h3).2 p hp).2 h5⟩
def au8 (h:Lq P L) (Jj:Has P L 367 EF) (Ji:Has P L 368 IL) (TD:Has P L 369 IM) (qI:Has P L 370 Co) {v w:AV} {l:List Lay} (hv:fq v l) (hl:l.length<=1000000) (hf:∀a,a∈l->a.Fit) {dx dy sh:List Nat} {pl:List fR} {fr:Int} (hw:jT w pl) (iX:pl.length<=1000000) (JV:∀p,p∈pl->p.1.length<=1000000000/\p.2.length<=1000000000) (l8:dx.length<=1000000000) (l9:dy.length<=1000000000) (la:sh.length<=1000000000):
  (mo l dx dy sh pl fr≠0->ae P L 367 [v,fa dx dy sh,w,aa fr] (.aq [.ab,aa (mo l dx dy sh pl fr)]))/\
  (mo l dx dy sh pl fr=0->((gD l dx dy sh pl fr).any LG=true->ae P L 367 [v,fa dx dy sh,w,aa fr] (.aq [.ab,aa 4]))/\
   ((gD l dx dy sh pl fr).any LG=false->∃r,fP r ((gD l dx dy sh pl fr).map RT)/\ae P L 367 [v,fa dx dy sh,w,aa fr] (.aq [r,aa 0]))):=by
 have e1:=m76 h.toLp h.OX h.NH hv hl hf;have e2:=m60 h.toLp.toSp l8 l9 la;rw [show bj [bj [aU dx,aU dy],iF sh 0]=jS dx dy sh from rfl] at e2;have e3:=m78 h.toLp.toSp h.VU h.TA hw iX JV;have e4:=s51 h.toLp.OO h.toLp.Gt h.toLp.toSp.kT fr;have e5:=zf h.toLp.toSp.oC (fb true [jA l,jS dx dy sh,po pl,iQ fr]) (by simp);simp only [yu,yA,yd,yb,yS,xH] at e5;rw [show bj [jA l,jS dx dy sh,po pl,iQ fr]=mo l dx dy sh pl fr from rfl] at e5;constructor
 ·intro h0;unfold ae at*;rw [au Jj];simp only [go_sem,ya,yb,yq,yh,yj,EF,aG,hv.pu,hv.af,hv.one,hv.cells,hw.af,fc,aY,yi,e1,e2,e3,e4,e5,h0,yp,yG]
 ·intro h0;obtain ⟨k1,k2,k3⟩:=ZU h0;obtain ⟨r,e6,hr⟩:=au2 TD hw iX (g:=368) (cap:=[.aO [v],.aO [.str dx,.str dy,.str sh],.aO [aa fr]]) (by simp [aK,aX]) (fun n hp=>by simp only [go_sem,cB,freeze,aX,yy]) (f:=fun p=>mL l dx dy sh p.1 p.2 fr) (fun p hp=>au7 h.toLp Ji qI hv k1 (k3 p hp));have kk:∀q,q∈gD l dx dy sh pl fr->Hq 2000000 q:=fun q hq=>by
   obtain ⟨p,hp,rfl⟩:=List.mem_map.1 hq;exact Lk (k3 p hp) k1
  obtain ⟨m1,m2⟩:=m83 h.OY h.TB h.TC h.Jh h.toLp.toSp.toTx (l:=gD l dx dy sh pl fr) hr (by simpa [gD] using iX) kk (by decide);rw [h0] at e5;constructor
  ·intro ha;have m1:=m1 ha;unfold ae at*;rw [au Jj];simp only [go_sem,ya,yb,yq,yh,yj,EF,aG,hv.pu,hv.af,hv.one,hv.cells,hw.af,fc,aY,yi,e1,e2,e3,e4,e5,e6,hr.af,m1]
  ·intro ha;obtain ⟨q,hq,m2⟩:=m2 ha;refine ⟨q,hq,?_⟩;unfold ae at*;rw [au Jj];simp only [go_sem,ya,yb,yq,yh,yj,EF,aG,hv.pu,hv.af,hv.one,hv.cells,hw.af,fc,aY,yi,e1,e2,e3,e4,e5,e6,hr.af,m2];rcases hq with ⟨rfl,_⟩ | ⟨e,rfl⟩<;>rfl
end
end
end VE
