import Derived.Test.YtfohkkaphnfgoaaGreatDoorTas
import Derived.Test.YtfohkkaphnfgoaaGreatDoorTai
import Derived.Test.YtfohkkaphnfgoaaGreatDoorTal
import Derived.Test.YtfohkkaphnfgoaaGreatDoorTam
import Derived.Test.YtfohkkaphnfgoaaGreatDoorTah
import Derived.Test.YtfohkkaphnfgoaaGreatDoorTaq
set_option linter.all false
set_option maxRecDepth 100000
open Bool renaming and_eq_true→ye,and_self→wv,false_and→wK,not_true→yJ,true_and→wI
open Int renaming emod_lt_of_pos→we,emod_nonneg→wm,mul_le_mul→uQ,mul_nonneg→uz,tmod_eq_emod_of_nonneg→xE,toNat_natCast→xp
open List renaming drop→xg,drop_eq_getElem_cons→yN,drop_eq_nil_of_le→yT,drop_zero→yg,eq_nil_of_length_eq_zero→yD,find?→vz,flatten_cons→xT,getD_eq_getElem?_getD→xK,getElem?_eq_getElem→wo,getElem_map→vW,getElem_mem→yR,length_cons→yC,length_map→yL,length_nil→yK,map_append→xq,map_cons→yV,map_nil→wz,mem_cons→wq,mem_cons_of_mem→xS,mem_cons_self→wA,mem_map→wb,nil_append→xM,replicate→yG,replicate_succ→wV,take_of_length_le→yp,take_succ_eq_append_getElem→yB,take_zero→vD
open Nat renaming add_mul→xH,add_zero→y7,eq_zero_or_pos→xt,le_refl→yr,le_trans→xn,mul_one→yh,not_lt_zero→uD,one_lt_two_pow→vv,reduceAdd→yb,reduceEqDiff→ya,reduceLT→yt,reduceLeDiff→yi,reduceMul→xj,zero_add→yd
open Option renaming getD_some→wU
open Rat renaming add_zero→ybv,den_intCast→wZ,floor_def→uY,mul_comm→vM,num_intCast→wY,one_mul→ybo
namespace VE
section
open Go (IntKind)
def alI {n:Int} {d:Nat} (hd:0<d):n/(d:Int)=if n<0/\0<n.natAbs%d then -((n.natAbs/d:Nat)+1:Int) else cf (decide (n<0)) (n.natAbs/d):=by
 have fu:=Nat.div_add_mod n.natAbs d;have hm:=Nat.mod_lt n.natAbs hd;generalize n.natAbs/d=q at*
 generalize hr:n.natAbs%d=r at*
 by_cases h0:n<0
 ·have hn:n= -((d*q+r:Nat):Int):=by omega
  by_cases h1:0<r
  ·rw [yH ⟨h0,h1⟩];rw [hn]
   refine (Int.ediv_emod_unique (a:= -((d*q+r:Nat):Int)) (b:=(d:Int)) (r:=(d:Int)-r) (q:= -((q:Int)+1)) (by omega)).2 ⟨?_,by omega,by omega⟩ |>.1
   grind
  ·have:r=0:=by omega
   subst this;rw [yA (by omega)];unfold cf;rw [yH (by simpa using h0),hn,y7,Int.natCast_mul,<-Int.mul_neg,Int.mul_ediv_cancel_left _ (by omega)]
 ·rw [yA (by omega)];unfold cf;rw [yA (by simpa using h0)];have hn:n=((d*q+r:Nat):Int):=by omega
  rw [hn];rw [<-Int.natCast_ediv,Nat.mul_add_div hd,Nat.div_eq_of_lt hm,y7]
section
variable {P:aG} {L:Lib}
def agx (h:Rm P L) (oD:Has P L 338 BK) {a:Rat} {K:Nat} (ka:Hq K a) (hK:K<=8000000000):ae P L 338 [.str (RT a)] (.bool (decide (a.den=1))):=by
 have hl:=FM ka;have e0:=DT h.Ag (s:=RT a) (by omega);unfold ae at e0 ⊢;rw [ay oD];by_cases hd:a.den=1
 ·have hs:bR (RT a)=(RT a).length:=by
   unfold RT;rw [yH hd]
   have:=ER a.num []
   rw [this];simp [bR]
  rw [hs] at e0;simp only [go_sem,ya,BK,e0,hd,ym]
 ·have hs:bR (RT a)<(RT a).length:=by
   unfold RT;rw [yA hd,ER];simp [bR]
  rw [yZ hd];simp only [go_sem,ya,BK,e0,show ¬((bR (RT a):Nat):Int)=((RT a).length:Int) by omega,yk]
def axf (h:Rm P L) (rq:Has P L 339 BL) {v w:AV} {n d:Int} {K:Nat} (hK:K<=7000000000) (hv:ja v n) (hw:ja w d) (kn:Bd K n) (kd:Bd K d) (hd:0<d):∃r,ae P L 339 [v,w] r/\ja r (n/d):=by
 obtain ⟨x,a,rfl,hx,ha,na,va⟩:=hv;obtain ⟨y,b,rfl,hy,hb,nb,vb⟩:=hw;have la:=xn (iE ha na (by rw [va];exact kn.r)) hK
 have lb:=xn (iE hb nb (by rw [vb];exact kd.r)) hK
 obtain ⟨q,r,lq,lr,e1,hq,hr,dq,nq,dr,nr,vq,vr⟩:=Uj h hx hy ha hb na nb (by omega) (by omega) (by omega);rw [va,vb] at vq vr;have Hd:lq.length<=7000000000:=xn (iE dq nq (by rw [vq];exact Nat.lt_of_le_of_lt (Nat.div_le_self _ _) kn.r)) hK
 have za:=alI (n:=n) (d:=d.natAbs) (by omega);rw [show ((d.natAbs:Nat):Int)=d by omega] at za;have ma:(0<n.natAbs%d.natAbs)↔0<lr.length:=by
  rw [<-vr];constructor
  ·intro h1;rcases xt lr.length with h0 | h0
   ·rw [yD h0] at h1;simp [dv] at h1
   ·exact h0
  ·intro h1;rcases xt (dv lr) with h0 | h0
   ·have:=SP nr dr h0;subst this;simp at h1
   ·exact h0
 by_cases hc:n<0/\0<lr.length
 ·obtain ⟨c1,c2⟩:=hc;rw [yH ⟨c1,ma.2 c2⟩] at za;have fO:bl (.aJ true 1 [aa 1]) [(1:Int)]:=fy true [(1:Int)];obtain ⟨z,out,e2,hz,hdo,hvo,bj⟩:=agb h.PF h.mR hq fO dq (jG.2 (by decide)) (by omega) (by simp);simp only [yC,yK] at bj;obtain ⟨s,e3,hs⟩:=oA h.ij h.cJ (decide (n<0)) hz hdo (by omega);have aR:cf (decide (n<0)) (dv out)=n/d:=by
   rw [hvo,vq,za];unfold cf;rw [yH (by simpa using c1)];simp [dv]
  rw [aR] at hs;refine ⟨s,?_,hs⟩;obtain ⟨sw,sl,rfl,gM,_,_,_⟩:=hs;unfold ae at e1 e2 e3 ⊢;rw [ay rq];simp only [c1,ym] at e3 ⊢;simp only [go_sem,ya,yb,yt,yi,yh,BL,aK,hx.pu,hx.af,hx.one,hy.pu,hy.af,hy.one,aV,yd,bX,e1,hq.af,hq.bG,hr.len,hr.bG,show (0:Int)<(lr.length:Int) by omega,ym,e2,hz.af,e3,gM.pu,gM.one,bC,dI];rcases gM with ⟨rfl,_⟩ | ⟨e,rfl⟩<;>rfl
 ·rw [yA (fun e=>hc ⟨e.1,ma.1 e.2⟩)] at za;obtain ⟨s,e3,hs⟩:=oA h.ij h.cJ (decide (n<0)) hq dq (by omega);rw [vq,<-za] at hs;refine ⟨s,?_,hs⟩;obtain ⟨sw,sl,rfl,gM,_,_,_⟩:=hs;unfold ae at e1 e3 ⊢;rw [ay rq];by_cases h0:n<0
  ·have jB:lr.length=0:=by
    rcases xt lr.length with h1 | h1
    ·exact h1
    ·exact absurd ⟨h0,h1⟩ hc
   simp only [h0,ym] at e3 ⊢;simp only [go_sem,ya,yb,BL,aK,hx.pu,hx.af,hx.one,hy.pu,hy.af,hy.one,aV,yd,bX,e1,hq.af,hq.bG,hr.len,hr.bG,jB,show ¬(0:Int)<((0:Nat):Int) by omega,e3,gM.pu,gM.one,bC,dI];rcases gM with ⟨rfl,_⟩ | ⟨e,rfl⟩<;>rfl
  ·simp only [h0,yk] at e3 ⊢;simp only [go_sem,ya,yb,BL,aK,hx.pu,hx.af,hx.one,hy.pu,hy.af,hy.one,aV,yd,bX,e1,hq.af,hq.bG,hr.bG,e3,gM.pu,gM.one,bC,dI];rcases gM with ⟨rfl,_⟩ | ⟨e,rfl⟩<;>rfl
def VS (h:Rm P L) (BW:Has P L 336 Gl) (oD:Has P L 338 BK) (rq:Has P L 339 BL) {a:Rat} {K:Nat} (ka:Hq K a) (hK:K<=7000000000):ae P L 336 [.str (RT a)] (.str (RT (a.floor:Rat))):=by
 have e0:=agx h oD ka (by omega);unfold ae at e0 ⊢;rw [ay BW];by_cases hd:a.den=1
 ·rw [xo hd] at e0;have hf:(a.floor:Rat)=a:=by
   rw [uY,hd];simp only [Int.natCast_one,Int.ediv_one];exact (NL a hd).symm
  rw [hf];simp only [go_sem,ya,Gl,e0]
 ·rw [yZ hd] at e0;obtain ⟨x,y,e1,hx,hy⟩:=FX h ka (by omega);obtain ⟨r,e2,hr⟩:=axf h rq (K:=K) hK hx hy ka.1 ka.2 (Nn a);rw [<-uY] at hr;have kf:Bd K a.floor:=ka.1.le (by
   rw [uY]
   exact Int.natAbs_ediv_le_natAbs _ _)
  obtain ⟨e3,_⟩:=PH (K:=K) h.PI h.ol (by omega) hr kf.r;rw [TF];obtain ⟨xw,xl,rfl,dz,_,_,_⟩:=hx;obtain ⟨yw,yl,rfl,dP,_,_,_⟩:=hy;obtain ⟨eQ,rl,rfl,oH,_,_,_⟩:=hr;simp only [go_sem,ya,yb,Gl,e0,aK,e1,dz.pu,dz.af,dz.one,dP.pu,dP.af,dP.one,oH.af,a8,bC,rU,dI,gF,e2,e3]
end
end
section
open Go (IntKind)
section
variable {P:aG} {L:Lib}
def axg (h:Rm P L) (Gw:Has P L 340 Gm) (oD:Has P L 338 BK) {n:Nat} (hn:n<1000000000):ae P L 340 [.str (RT ((n:Int):Rat))] (.au [aa n,.bool true]):=by
 have kz:Hq 40 ((n:Int):Rat):=⟨by rw [wY];unfold Bd;omega,by rw [wZ];unfold Bd;omega⟩;have e0:=agx h oD kz (by omega);rw [show ((n:Int):Rat).den=1 from wZ ..,xo rfl] at e0;have hl:(aB n).length<=9:=qO (k:=8) (by omega);obtain ⟨x,e1,hx⟩:=VG h.toRb (n:=(n:Int)) (by simp;omega);rw [TF] at e0 ⊢;rw [kP] at e0 e1 ⊢;obtain ⟨w,l,rfl,hw,hd,hz,hv⟩:=hx;rw [Int.natAbs_natCast] at hv;have p9:l.length<=1:=S3 hd hz (by omega);have fJ:decide ((n:Int)<0)=false:=yZ (by omega);rw [fJ] at e1;unfold ae at e0 e1 ⊢;rw [ay Gw]
 match l,p9,hw,hv,hd with
 | [],_,hw,hv,hd=>
  have h0:n=0:=by rw [<-hv];rfl
  subst h0;simp only [go_sem,ya,yb,Gm,e0,yJ,show ¬(20:Int)<((aB 0).length:Int) by decide,aK,e1,bC,hw.len,hw.pu,hw.one,dI,aV,yd,bX,yK,show ((0:Nat):Int)-1= -1 from rfl,show IntKind.wrap .i64 (-1)= -1 from rfl,FJ,an,Tl,show ¬(0:Int)<=-1 by decide];rfl
 | [d],_,hw,hv,hd=>
  have gd:=jG.1 hd;have AK:d=(n:Int):=by simp [dv] at hv;omega
  subst AK;have ei:=hw.aZ (i:=0) (by simp);simp only [List.getElem_cons_zero] at ei
  simp only [go_sem,ya,yb,Gm,e0,yJ,show ¬(20:Int)<((aB n).length:Int) by omega,aK,e1,bC,hw.len,hw.pu,hw.one,dI,aV,yd,bX,yC,yK,show ((1:Nat):Int)-1=0 from rfl,show IntKind.wrap .i64 0=0 from rfl,FJ,an,Tl,show (0:Int)<=0 by decide,ym,ei,yk,show ¬(9223372036:Int)<0 by decide,show ¬(0:Int)< -9223372036 by decide,show ¬(0:Int)=9223372036 by decide,show ¬(0:Int)= -9223372036 by decide,Int.zero_mul,Int.zero_add,wrapN (n:=n) (by omega),show (0:Int)-1= -1 from rfl,show IntKind.wrap .i64 (-1)= -1 from rfl,show ¬(0:Int)<=-1 by decide];rfl
def agy (h:Rx P L) (Ao:Has P L 265 Ge) (BW:Has P L 336 Gl) (PN:Has P L 337 Pk) (oD:Has P L 338 BK) (rq:Has P L 339 BL) (Gw:Has P L 340 Gm) {m s:Int} {K:Nat} (km:Hq K (m:Rat)) (Cw:100<=K) (hK:K<=1000000000) (kJ:0<s) (hs:s<1000000000):ae P L 337 [.str (RT (m:Rat)),aa s] (aa (m%s)):=by
 have Lb:s.natAbs<2^64:=by omega
 have ks:Hq K (s:Rat):=⟨by rw [wY];exact Nat.lt_of_lt_of_le Lb (Nat.pow_le_pow_right (by decide) (by omega)),by rw [wZ];exact vv (by omega)⟩
 have VR:(s:Rat)≠0:=fun e=>by
  have:=congrArg Rat.num e
  have:s=0:=this
  omega
 have e1:=ae8 h.toRm Ao (n:=s) (by omega);have e2:=afb h km ks (by omega) VR;have kd:=km.div ks;have e3:=VS h.toRm BW oD rq kd (by omega);have kg:=E5 kd (by omega);have e4:=z6 h.toRn ks kg (by omega);have e5:=DA h.toRp km (ks.mul kg) (by omega);rw [Z3 _ kJ] at e5;have pP:=wm m (show s≠0 by omega);have auM:=we m kJ;obtain ⟨r,hr⟩:∃r:Nat,m%s=r:=⟨(m%s).toNat,by omega⟩;rw [hr] at e5 ⊢;have e6:=axg h.toRm Gw oD (n:=r) (by omega);unfold ae at e1 e2 e3 e4 e5 e6 ⊢;rw [ay PN];simp only [go_sem,ya,Pk,e1,e2,e3,e4,e5,e6]
end
end
section
open Go (IntKind)
def D2 (sc f o w:Rat) (fr:Int):Rat:=sc*f+1*o+(fr:Rat)*w
def asU {sc f o w:Rat} {fr:Int} {K J:Nat} (ks:Hq K sc) (kf:Hq J f) (ko:Hq K o) (kw:Hq K w) (fF:fr.natAbs<2^64) (hK:100<=K):Hq (4*K+J+100) (D2 sc f o w fr):=by
 have EH:Hq 64 (fr:Rat):=⟨by rw [wY];exact fF,by rw [wZ];exact vv (by omega)⟩
 exact (((ks.mul kf).add (lD.mul ko)).add (EH.mul kw)).mono (by omega)
section
variable {P:aG} {L:Lib}
def axh (h:Sr0 P L) (Ao:Has P L 265 Ge) (VT:Has P L 333 Pj) {scr st:AV} (o1:bm scr=true) (p1:aU scr=true) (o2:bm st=true) (p2:aU st=true) {dx dy hs hh sc ox oy wx wy x y:Rat} {fr:Int} {K:Nat} (ED:Hq K dx) (EE:Hq K dy) (ks:Hq K hs) (kh:Hq K hh) (Ma:Hq K sc) (kox:Hq K ox) (koy:Hq K oy) (kwx:Hq K wx) (kwy:Hq K wy) (kx:Hq K x) (ky:Hq K y) (Cw:100<=K) (hK:K<=10000000) (Ca: -9223372036854775808<=fr) (iw:fr<9223372036854775808):
  ae P L 333 [.agg [scr,.str (RT hh),.str (RT sc),st,.str (RT ox),.str (RT oy),.str (RT wx),.str (RT wy)],jX (RT dx) (RT dy) (RT hs),nU x y,aa fr]
   (nU (D2 sc (fW hs hh*x+hh*dx) ox wx fr) (D2 sc (fW hs hh*y+hh*dy) oy wy fr)):=by
 have e1:=axb h ED EE ks kh kx ky (by omega);have Ij:Hq (5*K+10) (fW hs hh*x+hh*dx):=(((IM ks kh).mul kx).add (kh.mul ED)).mono (by omega);have Ik:Hq (5*K+10) (fW hs hh*y+hh*dy):=(((IM ks kh).mul ky).add (kh.mul EE)).mono (by omega);have e2:=agv h Ma Ij Ik (by omega);have e3:=PM h (Ma.mul Ij) (Ma.mul Ik) lD kox koy (by omega);have e4:=ae8 h.toRm Ao (n:=fr) ⟨Ca,iw⟩;have EH:Hq 64 (fr:Rat):=⟨by rw [wY];unfold Bd;omega,by rw [wZ];exact vv (by omega)⟩
 have e5:=PM h ((Ma.mul Ij).add (lD.mul kox)) ((Ma.mul Ik).add (lD.mul koy)) EH kwx kwy (by omega);rw [PJ] at e3;unfold ae at e1 e2 e3 e4 e5 ⊢;rw [ay VT];have d2:∀a b c d e f g i:AV,xg 2 [a,b,c,d,e,f,g,i]=[c,d,e,f,g,i]:=fun _ _ _ _ _ _ _ _=>rfl
 have d6:∀a b c d e f g i:AV,xg 6 [a,b,c,d,e,f,g,i]=[g,i]:=fun _ _ _ _ _ _ _ _=>rfl
 have d4:∀a b c d e f g i:AV,xg 4 [a,b,c,d,e,f,g,i]=[e,f,g,i]:=fun _ _ _ _ _ _ _ _=>rfl
 simp only [go_sem,ya,yb,Pj,a8,aK,o1,p1,o2,p2,aV,yd,bX,d2,d4,d6,gF,jI,e1,e2,e3,e4,e5,bC,dI];rfl
end
end
section
open Go (IntKind)
section
variable {P:aG} {L:Lib}
def axi (h:Sp P L) (VU:Has P L 116 OT) {scr st:AV} (o1:bm scr=true) (p1:aU scr=true) (o2:bm st=true) (p2:aU st=true) {dx dy s hh sc ox oy wx wy x y:List Nat} {fr:Int} (cdx:a6 dx=0) (cdy:a6 dy=0) (cs:a6 s=0) (ch:a6 hh=0) (Il:a6 sc=0) (XO:a6 ox=0) (XP:a6 oy=0) (XQ:a6 wx=0) (XR:a6 wy=0) (cx:a6 x=0) (cy:a6 y=0) (Ca: -9223372036854775808<=fr) (iw:fr<9223372036854775808):
  ∃r,ae P L 116 [.agg [scr,.str hh,.str sc,st,.str ox,.str oy,.str wx,.str wy],jX dx dy s,qw x y,aa fr] r/\
   oU r (D2 (bf sc) (fW (bf s) (bf hh)*bf x+bf hh*bf dx) (bf ox) (bf wx) fr) (D2 (bf sc) (fW (bf s) (bf hh)*bf y+bf hh*bf dy) (bf oy) (bf wy) fr):=by
 have H:=fun {t:List Nat} (c:a6 t=0)=>ki c (yr 2400)
 obtain ⟨M,hM⟩:∃M,M=100000:=⟨_,rfl⟩;obtain ⟨a,e1,ha⟩:=Aq h ch;obtain ⟨b,e2,hb⟩:=m64 h cdx cdy cs cx cy ha (H ch) (by omega);obtain ⟨c,e3,hc⟩:=Aq h Il;have XS:=S9 (H cs) (H ch) (H cx) (H cdx);have XT:=S9 (H cs) (H ch) (H cy) (H cdy);obtain ⟨d,e4,hd⟩:=QW h hb hc (XS.mono (show 5*2400+10<=M by omega)) (XT.mono (by omega)) ((H Il).mono (by omega)) (by omega);rw [vM _ (bf sc),vM _ (bf sc)] at hd;obtain ⟨o,e5,ho⟩:=QV h XO XP;obtain ⟨f,e6,hf⟩:=VP h hd ho (((H Il).mul XS).mono (show 2400+(5*2400+10)<=M by omega)) (((H Il).mul XT).mono (by omega)) ((H XO).mono (by omega)) ((H XP).mono (by omega)) (by omega);obtain ⟨g,e7,hg⟩:=QV h XQ XR;obtain ⟨i,e8,hi⟩:=LW h.toFr' Ca iw;have EH:Hq 64 (fr:Rat):=⟨by rw [wY];unfold Bd;omega,by rw [wZ];exact vv (by omega)⟩
 obtain ⟨j,e9,hj⟩:=QW h hg hi ((H XQ).mono (show 2400<=M by omega)) ((H XR).mono (by omega)) (EH.mono (by omega)) (by omega);rw [vM _ (fr:Rat),vM _ (fr:Rat)] at hj;obtain ⟨r,AR,hr⟩:=VP h hf hj ((((H Il).mul XS).add (H XO)).mono (show 2400+(5*2400+10)+2400+1<=M by omega)) ((((H Il).mul XT).add (H XP)).mono (by omega)) ((EH.mul (H XQ)).mono (by omega)) ((EH.mul (H XR)).mono (by omega)) (by omega);have cm:=hr;refine ⟨r,?_,by unfold D2;rw [ybo,ybo];exact cm⟩
 obtain ⟨a1,a2,a3,a4,rfl,ga⟩:=ha.gen;obtain ⟨b1,b2,b3,b4,b5,b6,b7,b8,rfl,gb⟩:=hb.gen;obtain ⟨c1,c2,c3,c4,rfl,gc⟩:=hc.gen;obtain ⟨d1,d2,d3,d4,d5,d6,d7,d8,rfl,gd⟩:=hd.gen;obtain ⟨k1,k2,k3,k4,k5,k6,k7,k8,rfl,gk⟩:=ho.gen;obtain ⟨f1,f2,f3,f4,f5,f6,f7,f8,rfl,gf⟩:=hf.gen;obtain ⟨g1,g2,g3,g4,g5,g6,g7,g8,rfl,gg⟩:=hg.gen;obtain ⟨i1,i2,i3,i4,rfl,gi⟩:=hi.gen;obtain ⟨j1,j2,j3,j4,j5,j6,j7,j8,rfl,gj⟩:=hj.gen;obtain ⟨r1,r2,r3,r4,r5,r6,r7,r8,rfl,gr⟩:=hr.gen;have dd2:∀a b c d e f g i:AV,xg 2 [a,b,c,d,e,f,g,i]=[c,d,e,f,g,i]:=fun _ _ _ _ _ _ _ _=>rfl
 have dd6:∀a b c d e f g i:AV,xg 6 [a,b,c,d,e,f,g,i]=[g,i]:=fun _ _ _ _ _ _ _ _=>rfl
 unfold ae at e1 e2 e3 e4 e5 e6 e7 e8 e9 AR ⊢;rw [ay VU];simp only [go_sem,ya,yb,OT,a8,aK,o1,p1,o2,p2,aV,yd,bX,dd2,CY,dd6,gF,jI,FY,ga.af,gb.af,gc.af,gd.af,gk.af,gf.af,gg.af,gi.af,gj.af,e1,e2,e3,e4,e5,e6,e7,e8,e9,AR,bC,gd.st,gr.st,dA,dB,yg,gr.dw]
end
end
section
open Go (IntKind)
def gZ (x:Rat):Rat:=x-(x.floor:Int)
def Ta (n:Int) (x y:Rat):AV:=
 .agg [aa (x.floor%n),aa (y.floor%n),.str (RT ((1-gZ x)*(1-gZ y))),aa ((x.floor%n+1)%n),aa (y.floor%n),.str (RT (gZ x*(1-gZ y))),
  aa (x.floor%n),aa ((y.floor%n+1)%n),.str (RT ((1-gZ x)*gZ y)),aa ((x.floor%n+1)%n),aa ((y.floor%n+1)%n),.str (RT (gZ x*gZ y))]
def anP {tm:Env} {a b c:AV} {r:List (Nat×Nat×X)} {x0 x1 x2 x3 x4 x5 x6 x7 x8 x9 xa xb:AV} (h1:bm a=true) (h2:bm b=true) (h3:bm c=true):fZ tm [x0,x1,x2,x3,x4,x5,x6,x7,x8,x9,xa,xb] 0 3 [a,b,c] r=fill tm [a,b,c,x3,x4,x5,x6,x7,x8,x9,xa,xb] r:=by
 rw [jw (by rfl) (by simp) (by simp [bO,h1,h2,h3])];rfl
def anQ {tm:Env} {a b c:AV} {r:List (Nat×Nat×X)} {x0 x1 x2 x3 x4 x5 x6 x7 x8 x9 xa xb:AV} (h1:bm a=true) (h2:bm b=true) (h3:bm c=true):fZ tm [x0,x1,x2,x3,x4,x5,x6,x7,x8,x9,xa,xb] 3 3 [a,b,c] r=fill tm [x0,x1,x2,a,b,c,x6,x7,x8,x9,xa,xb] r:=by
 rw [jw (by rfl) (by simp) (by simp [bO,h1,h2,h3])];rfl
def anR {tm:Env} {a b c:AV} {r:List (Nat×Nat×X)} {x0 x1 x2 x3 x4 x5 x6 x7 x8 x9 xa xb:AV} (h1:bm a=true) (h2:bm b=true) (h3:bm c=true):fZ tm [x0,x1,x2,x3,x4,x5,x6,x7,x8,x9,xa,xb] 6 3 [a,b,c] r=fill tm [x0,x1,x2,x3,x4,x5,a,b,c,x9,xa,xb] r:=by
 rw [jw (by rfl) (by simp) (by simp [bO,h1,h2,h3])];rfl
def anS {tm:Env} {a b c:AV} {r:List (Nat×Nat×X)} {x0 x1 x2 x3 x4 x5 x6 x7 x8 x9 xa xb:AV} (h1:bm a=true) (h2:bm b=true) (h3:bm c=true):fZ tm [x0,x1,x2,x3,x4,x5,x6,x7,x8,x9,xa,xb] 9 3 [a,b,c] r=fill tm [x0,x1,x2,x3,x4,x5,x6,x7,x8,a,b,c] r:=by
 rw [jw (by rfl) (by simp) (by simp [bO,h1,h2,h3])];rfl
def adC (hp:Hp) (ct id:Nat) (a b d e g h k l:Int) (c f i m:List Nat) (x0 x1 x2 x3 x4 x5 x6 x7 x8 x9 xa xb:AV):fE hp ct id 0 12 [aa a,aa b,.str c,aa d,aa e,.str f,aa g,aa h,.str i,aa k,aa l,.str m] (some (.cells true true true 12 [x0,x1,x2,x3,x4,x5,x6,x7,x8,x9,xa,xb]))=some (.au [],bg hp id (.cells true true true 12 [aa a,aa b,.str c,aa d,aa e,.str f,aa g,aa h,.str i,aa k,aa l,.str m]),ct):=by
 rw [mD (by rfl) (by simp) (by rfl)];rfl
def BB {x:Rat} {K:Nat} (h:Hq K x) (hK:1<=K):Hq (2*K+1) (gZ x):=(h.sub (E5 h hK)).mono (by omega)
structure Ar (P:aG) (L:Lib):Prop extends Rx P L where
 Ao:Has P L 265 Ge
 axj:Has P L 334 UU
 BW:Has P L 336 Gl
 PN:Has P L 337 Pk
 oD:Has P L 338 BK
 rq:Has P L 339 BL
 Gw:Has P L 340 Gm
section
variable {P:aG} {L:Lib}
def axk (h:Ar P L) {x y:Rat} {n:Int} {K:Nat} (kx:Hq K x) (ky:Hq K y) (Cw:100<=K) (hK:K<=1000000000) (mU:0<n) (hn:n<1000000):ae P L 334 [aa n,nU x y] (Ta n x y):=by
 have Ij:=E5 kx (by omega);have Ik:=E5 ky (by omega);have QX:=BB kx (by omega);have QY:=BB ky (by omega);have e1:=VS h.toRm h.BW h.oD h.rq kx (by omega);have e2:=VS h.toRm h.BW h.oD h.rq ky (by omega);have e3:=DA h.toRp kx Ij (by omega);have e4:=DA h.toRp ky Ik (by omega);rw [show x-(x.floor:Int)=gZ x from rfl] at e3;rw [show y-(y.floor:Int)=gZ y from rfl] at e4;have e5:=agy h.toRx h.Ao h.BW h.PN h.oD h.rq h.Gw (s:=n) Ij Cw hK mU (by omega);have e6:=agy h.toRx h.Ao h.BW h.PN h.oD h.rq h.Gw (s:=n) Ik Cw hK mU (by omega);have e7:=DA h.toRp lD QX (by omega);have e8:=DA h.toRp lD QY (by omega);have ku:=lD.sub QX;have kv:=lD.sub QY;have e9:=z6 h.toRn ku kv (by omega);have eA:=z6 h.toRn QX kv (by omega);have eB:=z6 h.toRn ku QY (by omega);have eC:=z6 h.toRn QX QY (by omega)
 rw [PJ] at e7 e8;have m1:=wm x.floor (show n≠0 by omega);have m2:=we x.floor mU;have m3:=wm y.floor (show n≠0 by omega);have m4:=we y.floor mU;unfold Ta;generalize x.floor%n=i at*
 generalize y.floor%n=j at*
 have r1:(i+1).tmod n=(i+1)%n:=xE (by omega);have r2:(j+1).tmod n=(j+1)%n:=xE (by omega);unfold ae at e1 e2 e3 e4 e5 e6 e7 e8 e9 eA eB eC ⊢;rw [ay h.axj]
 simp only [go_sem,ya,yb,yi,UU,aK,aV,yd,bX,e1,e2,e3,e4,e5,e6,wrap64 (n:=i+1) (by omega) (by omega),wrap64 (n:=j+1) (by omega) (by omega),fM _ _ _ (show n≠0 by omega),r1,r2,e7,e8,e9,eA,eB,eC,anP,anQ,anR,anS,adC];rfl
end
end
section
open Go (IntKind)
def anT {tm:Env} {a:AV} {r:List (Nat×Nat×X)} {x0 x1 x2 x3 x4 x5 x6 x7 x8 x9:AV} (h1:bm a=true):fZ tm [x0,x1,x2,x3,x4,x5,x6,x7,x8,x9] 0 1 [a] r=fill tm [a,x1,x2,x3,x4,x5,x6,x7,x8,x9] r:=by
 rw [jw (by rfl) (by simp) (by simp [bO,h1])];rfl
def anU {tm:Env} {a:AV} {r:List (Nat×Nat×X)} {x0 x1 x2 x3 x4 x5 x6 x7 x8 x9:AV} (h1:bm a=true):fZ tm [x0,x1,x2,x3,x4,x5,x6,x7,x8,x9] 1 1 [a] r=fill tm [x0,a,x2,x3,x4,x5,x6,x7,x8,x9] r:=by
 rw [jw (by rfl) (by simp) (by simp [bO,h1])];rfl
def anV {tm:Env} {a b c d:AV} {r:List (Nat×Nat×X)} {x0 x1 x2 x3 x4 x5 x6 x7 x8 x9:AV} (h1:bm a=true) (h2:bm b=true) (h3:bm c=true) (h4:bm d=true):fZ tm [x0,x1,x2,x3,x4,x5,x6,x7,x8,x9] 2 4 [a,b,c,d] r=fill tm [x0,x1,a,b,c,d,x6,x7,x8,x9] r:=by
 rw [jw (by rfl) (by simp) (by simp [bO,h1,h2,h3,h4])];rfl
def anW {tm:Env} {a b c d:AV} {r:List (Nat×Nat×X)} {x0 x1 x2 x3 x4 x5 x6 x7 x8 x9:AV} (h1:bm a=true) (h2:bm b=true) (h3:bm c=true) (h4:bm d=true):fZ tm [x0,x1,x2,x3,x4,x5,x6,x7,x8,x9] 6 4 [a,b,c,d] r=fill tm [x0,x1,x2,x3,x4,x5,a,b,c,d] r:=by
 rw [jw (by rfl) (by simp) (by simp [bO,h1,h2,h3,h4])];rfl
def DB (v:AV) (i j:Int) (f g:Rat):Prop:=∃c1 c2 c3 c4 d1 d2 d3 d4,v= .agg [aa i,aa j,c1,c2,c3,c4,d1,d2,d3,d4]/\cp (.agg [c1,c2,c3,c4]) f/\cp (.agg [d1,d2,d3,d4]) g
section
variable {P:aG} {L:Lib}
def m55 (h:Fr' P L) (L4:Has P L 55 Qa) (Gv:Has P L 103 J6) (BV:Has P L 150 Gb) {v:AV} {x y:Rat} {s:Int} {K:Nat} (hv:oU v x y) (kx:Hq K x) (ky:Hq K y) (Cw:100<=K) (hK:K<=1000000000) (kJ:0<s) (hs:s<1000000):
  ∃r,ae P L 55 [v,aa s] r/\DB r (x.floor%s) (y.floor%s) (gZ x) (gZ y):=by
 obtain ⟨s1,w1,s2,w2,s3,w3,s4,w4,rfl,h1,h2,h3,h4⟩:=hv;obtain ⟨f,e1,hf⟩:=agw h Gv BV (v:= .agg [aa s1,w1,aa s2,w2]) (a:=x) ⟨s1,w1,s2,w2,rfl,h1,h2⟩ kx Cw hK kJ hs;obtain ⟨g,e2,hg⟩:=agw h Gv BV (v:= .agg [aa s3,w3,aa s4,w4]) (a:=y) ⟨s3,w3,s4,w4,rfl,h3,h4⟩ ky Cw hK kJ hs;have et:=hf;have EA:=hg;obtain ⟨c1,c2,c3,c4,rfl,gf⟩:=hf.gen;obtain ⟨d1,d2,d3,d4,rfl,gg⟩:=hg.gen;obtain ⟨l1,u1⟩:=h1.aI;obtain ⟨l2,u2⟩:=h2.aI;obtain ⟨l3,u3⟩:=h3.aI;obtain ⟨l4,u4⟩:=h4.aI;refine ⟨_,?_,c1,c2,c3,c4,d1,d2,d3,d4,rfl,et,EA⟩;have p1:=gf.pu;have p2:=gg.pu;simp only [aU,aH,Bool.and_true,ye] at p1 p2;obtain ⟨Mb,Mc,Me,Mf⟩:=p1;obtain ⟨Mg,Mh,Mi,Mj⟩:=p2
 have aP:∀(hp:Hp) (ct id:Nat) (i j:Int) (x0 x1 x2 x3 x4 x5 x6 x7 x8 x9:AV),fE hp ct id 0 10 [aa i,aa j,c1,c2,c3,c4,d1,d2,d3,d4] (some (.cells true true true 10 [x0,x1,x2,x3,x4,x5,x6,x7,x8,x9]))=some (.au [],bg hp id (.cells true true true 10 [aa i,aa j,c1,c2,c3,c4,d1,d2,d3,d4]),ct):=fun hp ct id i j x0 x1 x2 x3 x4 x5 x6 x7 x8 x9=>by
  rw [mD (by rfl) (by simp) (by simp [bO,Fa,gf.o1,gf.o2,gf.o3,gf.o4,gg.o1,gg.o2,gg.o3,gg.o4])];simp [aH,Di,Mb,Mc,Me,Mf,Mg,Mh,Mi,Mj,over]
 have BM:∀(hp:Hp) (i j:Int),result hp (.agg [aa i,aa j,c1,c2,c3,c4,d1,d2,d3,d4])=some (.agg [aa i,aa j,c1,c2,c3,c4,d1,d2,d3,d4]):=fun hp i j=>by
  have e:freeze (980+20) hp (.agg [aa i,aa j,c1,c2,c3,c4,d1,d2,d3,d4])=some (.agg [aa i,aa j,c1,c2,c3,c4,d1,d2,d3,d4],hp):=
   a8 _ _ (by simp only [go_sem,yb,gf.z1,gf.z2,gf.z3,gf.z4,gg.z1,gg.z2,gg.z3,gg.z4])
  show (match freeze (980+20) hp (.agg [aa i,aa j,c1,c2,c3,c4,d1,d2,d3,d4]) with | some (v',_)=>some v' | none=>none)=_
  rw [e]
 unfold ae at e1 e2 ⊢;rw [ay L4];simp only [go_sem,ya,yb,Qa,aK,a8,u1.pu,u1.af,u1.one,u2.pu,u2.af,u2.one,u3.pu,u3.af,u3.one,u4.pu,u4.af,u4.one,aV,yd,CY,jH,e1,e2,gf.st,gg.st,anT,anU,anV,anW,gf.o1,gf.o2,gf.o3,gf.o4,gg.o1,gg.o2,gg.o3,gg.o4,aP,dA,dB,yg];exact BM _ _ _
end
end
section
open Go (IntKind)
def qB (f g:Rat):List Rat:=[(1-f)*(1-g),f*(1-g),(1-f)*g,f*g]
def IsW (v:AV) (f g:Rat):Prop:=∃cs,v= .agg cs/\QL cs (qB f g)
def N3 {f g:Rat} {K:Nat} (kf:Hq K f) (kg:Hq K g):∀x,x∈qB f g->Hq (2*K+6) x:=by
 intro x hx;have ku:=lD.sub kf;have kv:=lD.sub kg;simp only [qB,wq,List.not_mem_nil,or_false] at hx;rcases hx with rfl | rfl | rfl | rfl
 ·exact (ku.mul kv).mono (by omega)
 ·exact (kf.mul kv).mono (by omega)
 ·exact (ku.mul kg).mono (by omega)
 ·exact (kf.mul kg).mono (by omega)
section
variable {tm:Env} {a b c d:AV} {r:List (Nat×Nat×X)} {x0 x1 x2 x3 x4 x5 x6 x7 x8 x9 xa xb xc xd xe xf:AV}
def anX (h1:bm a=true) (h2:bm b=true) (h3:bm c=true) (h4:bm d=true):fZ tm [x0,x1,x2,x3,x4,x5,x6,x7,x8,x9,xa,xb,xc,xd,xe,xf] 0 4 [a,b,c,d] r=fill tm [a,b,c,d,x4,x5,x6,x7,x8,x9,xa,xb,xc,xd,xe,xf] r:=by
 rw [jw (by rfl) (by simp) (by simp [bO,h1,h2,h3,h4])];rfl
def anY (h1:bm a=true) (h2:bm b=true) (h3:bm c=true) (h4:bm d=true):fZ tm [x0,x1,x2,x3,x4,x5,x6,x7,x8,x9,xa,xb,xc,xd,xe,xf] 4 4 [a,b,c,d] r=fill tm [x0,x1,x2,x3,a,b,c,d,x8,x9,xa,xb,xc,xd,xe,xf] r:=by
 rw [jw (by rfl) (by simp) (by simp [bO,h1,h2,h3,h4])];rfl
def anZ (h1:bm a=true) (h2:bm b=true) (h3:bm c=true) (h4:bm d=true):fZ tm [x0,x1,x2,x3,x4,x5,x6,x7,x8,x9,xa,xb,xc,xd,xe,xf] 8 4 [a,b,c,d] r=fill tm [x0,x1,x2,x3,x4,x5,x6,x7,a,b,c,d,xc,xd,xe,xf] r:=by
 rw [jw (by rfl) (by simp) (by simp [bO,h1,h2,h3,h4])];rfl
def an0 (h1:bm a=true) (h2:bm b=true) (h3:bm c=true) (h4:bm d=true):fZ tm [x0,x1,x2,x3,x4,x5,x6,x7,x8,x9,xa,xb,xc,xd,xe,xf] 12 4 [a,b,c,d] r=fill tm [x0,x1,x2,x3,x4,x5,x6,x7,x8,x9,xa,xb,a,b,c,d] r:=by
 rw [jw (by rfl) (by simp) (by simp [bO,h1,h2,h3,h4])];rfl
end
def asV {cs:List AV} (hl:cs.length=16) (ho:bO cs=true) (ap:aH cs=true) (hp:Hp) (ct id:Nat) (x0 x1 x2 x3 x4 x5 x6 x7 x8 x9 xa xb xc xd xe xf:AV):fE hp ct id 0 16 cs (some (.cells true true true 16 [x0,x1,x2,x3,x4,x5,x6,x7,x8,x9,xa,xb,xc,xd,xe,xf]))=some (.au [],bg hp id (.cells true true true 16 cs),ct):=by
 rw [mD hl (by simp) ho,ap]
 match cs,hl with
 | [_,_,_,_,_,_,_,_,_,_,_,_,_,_,_,_],_=>rfl
def abV:∀{l:List Rat} {cs:List AV},QL cs l->∀(n:Nat) (hp:Hp),cC (n+l.length*4+2) hp cs=some (cs,hp)
 | [],_,h,n,hp=>by rw [h.KU];rfl
 | x::l,cs,h,n,hp=>by
  obtain ⟨a,b,c,d,r,rfl,h1,h2⟩:=h.inv;have g:=h1.f4;have e:=abV h2 n hp;rw [show n+(x::l).length*4+2=n+l.length*4+2+1+1+1+1 by simp only [yC];omega];simp only [go_sem,g.z1,g.z2,g.z3,g.z4,e]
def QL.af {l:List Rat} {cs:List AV} (h:QL cs l) {n:Nat} (hn:l.length*4+3<=n) (hp:Hp):freeze n hp (.agg cs)=some (.agg cs,hp):=by
 obtain ⟨m,rfl⟩:∃m,n=m+l.length*4+3:=⟨n-(l.length*4+3),by omega⟩;exact a8 _ _ (abV h m hp)
def QL.dw {l:List Rat} {cs:List AV} (h:QL cs l) (hl:l.length<=200) (hp:Hp):result hp (.agg cs)=some (.agg cs):=by
 show (match freeze 1000 hp (.agg cs) with | some (v',_)=>some v' | none=>none)=_
 rw [h.af (by omega)]
def DB.gen {v:AV} {i j:Int} {f g:Rat} (h:DB v i j f g):∃c1 c2 c3 c4 d1 d2 d3 d4,v= .agg [aa i,aa j,c1,c2,c3,c4,d1,d2,d3,d4]/\cp (.agg [c1,c2,c3,c4]) f/\cp (.agg [d1,d2,d3,d4]) g/\(∀ct:Nat,BN ct 10 [aa i,aa j,c1,c2,c3,c4,d1,d2,d3,d4]=some (.ptr ct 0,.cells true true true 10 [aa i,aa j,c1,c2,c3,c4,d1,d2,d3,d4]))/\∀(n:Nat) (hp:Hp),freeze (n+20) hp (.agg [aa i,aa j,c1,c2,c3,c4,d1,d2,d3,d4])=some (.agg [aa i,aa j,c1,c2,c3,c4,d1,d2,d3,d4],hp):=by
 obtain ⟨c1,c2,c3,c4,d1,d2,d3,d4,rfl,hf,hg⟩:=h;have gf:=hf.f4;have gg:=hg.f4;obtain ⟨Mb,Mc,Me,Mf⟩:=gf.EG;obtain ⟨Mg,Mh,Mi,Mj⟩:=gg.EG;refine ⟨c1,c2,c3,c4,d1,d2,d3,d4,rfl,hf,hg,fun ct=>?_,fun n hp=>a8 _ _ (by simp only [go_sem,gf.z1,gf.z2,gf.z3,gf.z4,gg.z1,gg.z2,gg.z3,gg.z4])⟩;rw [aK (by rfl) (by simp [bO,Fa,gf.o1,gf.o2,gf.o3,gf.o4,gg.o1,gg.o2,gg.o3,gg.o4])];simp [aH,Di,Mb,Mc,Me,Mf,Mg,Mh,Mi,Mj]
def TI (a b c d e f g h i j:AV):fD 10 true [a,b,c,d,e,f,g,h,i,j]=some (.agg [a,b,c,d,e,f,g,h,i,j]):=rfl
def an1 (a b c d e f g h i j:AV):xg 2 [a,b,c,d,e,f,g,h,i,j]=[c,d,e,f,g,h,i,j]:=rfl
def an2 (a b c d e f g h i j:AV):xg 6 [a,b,c,d,e,f,g,h,i,j]=[g,h,i,j]:=rfl
def an3 (a b c d e f g h i j:AV):xg 1 [a,b,c,d,e,f,g,h,i,j]=[b,c,d,e,f,g,h,i,j]:=rfl
structure Vl (P:aG) (L:Lib):Prop extends Fr' P L where
 L4:Has P L 55 Qa
 h56:Has P L 56 c56
 Gv:Has P L 103 J6
 VV:Has P L 104 OP
 VW:Has P L 105 OQ
 aBx:Has P L 106 afq
 KV:Has P L 134 Ga
 BV:Has P L 150 Gb
section
variable {P:aG} {L:Lib}
def axl (h:Fr' P L) (VV:Has P L 104 OP) {v:AV} {i j:Int} {f g:Rat} {K:Nat} (hv:DB v i j f g) (kf:Hq K f) (kg:Hq K g) (hK:K<=1000000000):∃r,ae P L 104 [v] r/\IsW r f g:=by
 obtain ⟨c1,c2,c3,c4,d1,d2,d3,d4,rfl,hf,hg,bx,_⟩:=hv.gen;have k1:Hq (K+4) (1:Rat):=lD.mono (by omega);have XU:Hq (K+4) f:=kf.mono (by omega);have XV:Hq (K+4) g:=kg.mono (by omega);have ku:Hq (K+4) (1-f):=(lD.sub kf).mono (by omega);have kv:Hq (K+4) (1-g):=(lD.sub kg).mono (by omega);obtain ⟨o,e1,ho⟩:=LW h (z:=1) (by omega) (by omega);have lF:cp o 1:=ho;obtain ⟨u,e2,hu⟩:=LX h lF hf k1 XU (by omega);obtain ⟨w,e3,hw⟩:=LX h lF hg k1 XV (by omega);obtain ⟨r1,e4,q1⟩:=AO h hu hw ku kv (by omega);obtain ⟨r2,e5,q2⟩:=AO h hf hw XU kv (by omega);obtain ⟨r3,e6,q3⟩:=AO h hu hg ku XV (by omega);obtain ⟨r4,e7,q4⟩:=AO h hf hg XU XV (by omega);have gf:=hf.f4;have gg:=hg.f4;obtain ⟨o1,o2,o3,o4,rfl,go⟩:=ho.gen;obtain ⟨u1,u2,u3,u4,rfl,gu⟩:=hu.gen;obtain ⟨w1,w2,w3,w4,rfl,gw⟩:=hw.gen;obtain ⟨x1,x2,x3,x4,rfl,gx⟩:=q1.gen;obtain ⟨y1,y2,y3,y4,rfl,gy⟩:=q2.gen
 obtain ⟨z1,z2,z3,z4,rfl,gz⟩:=q3.gen;obtain ⟨t1,t2,t3,t4,rfl,gt⟩:=q4.gen;have hq:QL [x1,x2,x3,x4,y1,y2,y3,y4,z1,z2,z3,z4,t1,t2,t3,t4] (qB f g):=⟨q1,q2,q3,q4,trivial⟩;have aP:=asV (by rfl) hq.one hq.pu;refine ⟨_,?_,_,rfl,hq⟩;unfold ae at e1 e2 e3 e4 e5 e6 e7 ⊢;rw [ay VV];simp only [go_sem,ya,yb,OP,bx,aK,aV,yd,an1,an2,jH,e1,e2,e3,e4,e5,e6,e7,bC,go.st,gu.st,gw.st,go.af,gu.af,gw.af,gf.af,gg.af,gx.o1,gx.o2,gx.o3,gx.o4,gy.o1,gy.o2,gy.o3,gy.o4,gz.o1,gz.o2,gz.o3,gz.o4,gt.o1,gt.o2,gt.o3,gt.o4,anX,anY,anZ,an0,aP,dA,dB,yg];exact hq.dw (by simp [qB]) _
def axm (VW:Has P L 105 OQ) (KV:Has P L 134 Ga) {v:AV} {i j:Int} {f g:Rat} {k:Int} {n:Int} (hv:DB v i j f g) (hi:0<=i/\i<n) (hj:0<=j/\j<n) (hk:0<=k/\k<4) (hn:0<n) (gW:n<=1000000):ae P L 105 [v,aa k,aa n] (.au [aa ((i+k%2)%n),aa ((j+k/2)%n)]):=by
 obtain ⟨c1,c2,c3,c4,d1,d2,d3,d4,rfl,hf,hg,bx,_⟩:=hv.gen;have e1:=afz KV (n:=i+k%2) hn gW;have e2:=afz KV (n:=j+k/2) hn gW;have r1:k.tmod 2=k%2:=xE hk.1;have r2:k.tdiv 2=k/2:=Int.tdiv_eq_ediv_of_nonneg hk.1;unfold ae at e1 e2 ⊢;rw [ay VW]
 simp only [go_sem,ya,OQ,bx,aV,yd,an3,yg,fM _ _ _ (show (2:Int)≠0 by decide),fw _ _ _ (show (2:Int)≠0 by decide),r1,r2,wrap64 (n:=k/2) (by omega) (by omega),wrap64 (n:=i+k%2) (by omega) (by omega),wrap64 (n:=j+k/2) (by omega) (by omega),e1,e2];rfl
structure Mk (v:AV) (s:List (List Int)) (n:Nat):Prop where
 is:dU v s
 len:s.length=n
 pos:0<n
 le:n<=16
 row:∀i (hi:i<s.length),s[i].length=n
 sq:kD n (-1000) 1000 s=0
def QL.sS {cs:List AV} {l:List Rat} (h:QL cs l) {k n:Nat} (hl:l.length=n) (hk:k<n):∃a b c d,JF n 4 true k (.agg cs)=some (.agg [a,b,c,d])/\cp (.agg [a,b,c,d]) (l[k]'(by omega)):=by
 obtain ⟨a,b,c,d,r,e,hq⟩:=h.get (i:=k) (by omega);refine ⟨a,b,c,d,?_,hq⟩;show (bif Nat.blt k n then fD 4 true (cs.drop (k*4)) else none)=_
 rw [jM hk,e];rfl
end
end
section
open Go (IntKind)
section
variable {P:aG} {L:Lib}
structure BuT (P:aG) (L:Lib):Prop where
 h40:Has P L 40 c40
 h96:Has P L 96 c96
 aBy:Has P L 133 aft
end
end
section
open Go (IntKind)
section
variable {P:aG} {L:Lib}
structure SmP (P:aG) (L:Lib):Prop extends BuT P L,Sq P L where
 h41:Has P L 41 c41
 h97:Has P L 97 c97
 KV:Has P L 134 Ga
end
end
section
open Go (IntKind)
section
variable {P:aG} {L:Lib}
def CD {s:List (List Int)} (h:oZ s=0):0<s.length/\s.length<=16/\kD s.length (-1000) 1000 s=0:=by
 unfold oZ at h
 grind
end
end
section
open Go (IntKind)
section
variable {P:aG} {L:Lib}
structure ShP (P:aG) (L:Lib):Prop extends SmP P L where
 mY:Has P L 20 c20
 Xu:Has P L 51 P9
 h58:Has P L 58 c58
 L3:Has P L 34 Ej
def nm (n:Int):Int:=if n< -999999999\/999999999<n then 3 else 0
def s51 (h:Has P L 51 P9) (L3:Has P L 34 Ej) (jV:Has P L 31 Cc) (n:Int):ae P L 51 [aa n] (aa (nm n)):=by
 unfold ae;rw [ay h];simp only [go_sem,ya,P9,s34 L3 jV,nm]
end
end
section
open Go (IntKind)
def TJ {w:AV} {s:List (List Int)} (hw:dU w s) (h:oZ s=0):Mk w s s.length:=by
 obtain ⟨a1,a2,a3⟩:=CD h;exact ⟨hw,rfl,a1,a2,fun i hi=>(akD a3 i hi).1,a3⟩
def zu (w:AV) (hh sc st ox oy wx wy:List Nat):AV:= .agg [w,.str hh,.str sc,.str st,.str ox,.str oy,.str wx,.str wy]
noncomputable def Gx (s:List (List Int)) (hh sc st ox oy wx wy:List Nat):Int:=bn [oZ s,kI hh 0,kI sc 1,a6 st,bn [a6 ox,a6 oy],bn [a6 wx,a6 wy]]
def MC {a:Int} {l:List Int}:bn (a::l)=0↔a=0/\bn l=0:=by
 simp only [bn]
 grind
def RL:bn []=0:=rfl
def Ff {s:List (List Int)} {hh sc st ox oy wx wy:List Nat} (h:Gx s hh sc st ox oy wx wy=0):oZ s=0/\(a6 hh=0/\0<=cB (bf hh).num)/\(a6 sc=0/\1<=cB (bf sc).num)/\a6 st=0/\(a6 ox=0/\a6 oy=0)/\a6 wx=0/\a6 wy=0:=by
 unfold Gx at h;simp only [MC,RL,wL] at h;obtain ⟨h1,h2,h3,h4,⟨h5,h6⟩,h7,h8⟩:=h;exact ⟨h1,S5 h2,S5 h3,h4,⟨h5,h6⟩,h7,h8⟩
noncomputable def VX (s:List (List Int)) (hh sc st ox oy wx wy dx dy sh x y:List Nat) (fr:Int):Int:=bn [Gx s hh sc st ox oy wx wy,Oz dx dy sh,bn [a6 x,a6 y],nm fr]
noncomputable def fk (hh sc o w d sh x:List Nat) (fr:Int):Rat:=D2 (bf sc) (fW (bf sh) (bf hh)*bf x+bf hh*bf d) (bf o) (bf w) fr
structure Lp (P:aG) (L:Lib):Prop extends Sp P L,Vl P L,ShP P L where
 h24:Has P L 24 c24
 h57:Has P L 57 c57
 h66:Has P L 66 c66
 h67:Has P L 67 c67
 axn:Has P L 115 UG
 VU:Has P L 116 OT
section
variable {P:aG} {L:Lib}
def axo (h:Lp P L) {w:AV} {s:List (List Int)} (hw:dU w s) (hl:s.length<=1000000) (hr:∀i (hi:i<s.length),s[i].length<=1000000) {hh sc st ox oy wx wy:List Nat} (l1:hh.length<=1000000000) (l2:sc.length<=1000000000) (l3:st.length<=1000000000) (l4:ox.length<=1000000000) (l5:oy.length<=1000000000) (l6:wx.length<=1000000000) (l7:wy.length<=1000000000):
  ae P L 115 [zu w hh sc st ox oy wx wy] (aa (Gx s hh sc st ox oy wx wy)):=by
 have e1:=s4 h.toSq hw hl hr;have e2:=XN h.toSp l1 0;have e3:=XN h.toSp l2 1;have e4:=QR h.toCk l3;have e5:=QU h.toSp l4 l5;have e6:=QU h.toSp l6 l7;have e7:=zk h.toSp.oL (fy true [oZ s,kI hh 0,kI sc 1,a6 st,bn [a6 ox,a6 oy],bn [a6 wx,a6 wy]]) (by simp);simp only [yC,yK,yd,yb,yV,wz] at e7;have o1:=hw.one;have p1:=hw.pu;have d2:∀a b c d e f g i:AV,xg 2 [a,b,c,d,e,f,g,i]=[c,d,e,f,g,i]:=fun _ _ _ _ _ _ _ _=>rfl
 have d3:∀a b c d e f g i:AV,xg 3 [a,b,c,d,e,f,g,i]=[d,e,f,g,i]:=fun _ _ _ _ _ _ _ _=>rfl
 have d6:∀a b c d e f g i:AV,xg 6 [a,b,c,d,e,f,g,i]=[g,i]:=fun _ _ _ _ _ _ _ _=>rfl
 unfold ae at e1 e2 e3 e4 e5 e6 e7 ⊢;rw [ay h.axn];unfold zu;simp only [go_sem,ya,yb,yt,yi,yh,UG,aK,o1,p1,hw.af,aV,yd,bX,d2,d3,CY,d6,gF,a8,yg,e1,e2,e3,e4,e5,e6,e7];rfl
structure DC (s:List (List Int)) (hh sc st ox oy wx wy dx dy sh x y:List Nat) (fr:Int):Prop where
 scr:oZ s=0
 hh:a6 hh=0
 sc:a6 sc=0
 st:a6 st=0
 ox:a6 ox=0
 oy:a6 oy=0
 wx:a6 wx=0
 wy:a6 wy=0
 dx:a6 dx=0
 dy:a6 dy=0
 sh:a6 sh=0
 x:a6 x=0
 y:a6 y=0
 fr:nm fr=0
def aqf {s:List (List Int)} {hh sc st ox oy wx wy dx dy sh x y:List Nat} {fr:Int} (h0:VX s hh sc st ox oy wx wy dx dy sh x y fr=0):DC s hh sc st ox oy wx wy dx dy sh x y fr:=by
 unfold VX at h0;simp only [MC,RL,wL] at h0;obtain ⟨h2,h3,⟨h4,h5⟩,h6⟩:=h0;obtain ⟨q1,⟨q2,_⟩,⟨q3,_⟩,q4,⟨q5,q6⟩,q7,q8⟩:=Ff h2;obtain ⟨r1,r2,r3,_⟩:=anN h3;exact ⟨q1,q2,q3,q4,q5,q6,q7,q8,r1,r2,r3,h4,h5,h6⟩
def Sa {n:Int} (h:nm n=0): -999999999<=n/\n<=999999999:=by
 unfold nm at h;split at h<;>omega
def abW {hh sc o w d sh x:List Nat} {fr:Int} (h1:a6 hh=0) (h2:a6 sc=0) (h3:a6 o=0) (h4:a6 w=0) (h5:a6 d=0) (h6:a6 sh=0) (h7:a6 x=0) (h8:nm fr=0):Hq 22000 (fk hh sc o w d sh x fr):=by
 have:=Sa h8
 have H:=fun {t:List Nat} (c:a6 t=0)=>ki c (yr 2400)
 exact (asU (H h2) (S9 (H h6) (H h1) (H h7) (H h5)) (H h3) (H h4) (by omega) (by omega)).mono (by omega)
def DC.kX {s:List (List Int)} {hh sc st ox oy wx wy dx dy sh x y:List Nat} {fr:Int} (h:DC s hh sc st ox oy wx wy dx dy sh x y fr):Hq 22000 (fk hh sc ox wx dx sh x fr):=abW h.hh h.sc h.ox h.wx h.dx h.sh h.x h.fr
def DC.kY {s:List (List Int)} {hh sc st ox oy wx wy dx dy sh x y:List Nat} {fr:Int} (h:DC s hh sc st ox oy wx wy dx dy sh x y fr):Hq 22000 (fk hh sc oy wy dy sh y fr):=abW h.hh h.sc h.oy h.wy h.dy h.sh h.y h.fr
section
variable (h:Lp P L) {w:AV} {s:List (List Int)} (hw:dU w s) (hl:s.length<=1000000) (hr:∀i (hi:i<s.length),s[i].length<=1000000) {hh sc st ox oy wx wy dx dy sh x y:List Nat} {fr:Int} (l1:hh.length<=1000000000) (l2:sc.length<=1000000000) (l3:st.length<=1000000000) (l4:ox.length<=1000000000) (l5:oy.length<=1000000000) (l6:wx.length<=1000000000) (l7:wy.length<=1000000000) (l8:dx.length<=1000000000) (l9:dy.length<=1000000000) (la:sh.length<=1000000000) (lb:x.length<=1000000000) (lc:y.length<=1000000000)
include h hw hl hr l1 l2 l3 l4 l5 l6 l7 l8 l9 la lb lc
end
end
end
section
open Go (IntKind)
def cO (k:Nat) (v:AV) (ps:List (List AV)):Prop:=((v= .ab/\ps=[])\/∃e,v= .aJ e ps.length ps.flatten)/\∀p,p∈ps->p.length=k
section
variable {k:Nat} {v:AV} {ps:List (List AV)} {hp:Hp}
def cO.len (h:cO k v ps) {hp:Hp}:ia hp 1 v=some (.int .i64 (ps.length:Nat)):=by
 rcases h.1 with ⟨rfl,rfl⟩ | ⟨e,rfl⟩<;>rfl
def cO.pu (h:cO k v ps):aU v=true:=by
 rcases h.1 with ⟨rfl,rfl⟩ | ⟨e,rfl⟩<;>rfl
def cO.af (h:cO k v ps) (n:Nat) {hp:Hp}:freeze (n+1) hp v=some (v,hp):=by
 rcases h.1 with ⟨rfl,rfl⟩ | ⟨e,rfl⟩<;>rfl
def cO.shut (h:cO k v ps):shut v=v:=by
 rcases h.1 with ⟨rfl,rfl⟩ | ⟨e,rfl⟩<;>rfl
def cO.bG (h:cO k v ps):bG v=v:=by
 rcases h.1 with ⟨rfl,rfl⟩ | ⟨e,rfl⟩<;>rfl
def cO.dw (h:cO k v ps) {hp:Hp}:result hp v=some v:=by
 rcases h.1 with ⟨rfl,rfl⟩ | ⟨e,rfl⟩<;>rfl
def cO.one (h:cO k v ps):bm v=true:=by
 rcases h.1 with ⟨rfl,rfl⟩ | ⟨e,rfl⟩<;>rfl
def cO.cells (h:cO k v ps):cellsOf v=[v]:=by
 rcases h.1 with ⟨rfl,rfl⟩ | ⟨e,rfl⟩<;>rfl
def IN:∀{ps:List (List AV)},(∀p,p∈ps->p.length=k)->ps.flatten.length=ps.length*k
 | [],_=>by simp
 | p::ps,h=>by
  have:=IN (ps:=ps) (fun q hq=>h q (xS _ hq))
  rw [xT,List.length_append,this,h p wA,yC,xH];omega
def Z4:∀{ps:List (List AV)} {i:Nat},(∀p,p∈ps->p.length=k)->∀(hi:i<ps.length),∃rest,ps.flatten.drop (i*k)=ps[i]++rest
 | [],i,_,hi=>absurd hi (uD i)
 | p::ps,0,h,_=>⟨ps.flatten,by simp⟩
 | p::ps,i+1,h,hi=>by
  obtain ⟨rest,e⟩:=Z4 (ps:=ps) (i:=i) (fun q hq=>h q (xS _ hq)) (by simpa using hi);refine ⟨rest,?_⟩;rw [show (i+1)*k=p.length+i*k by rw [h p wA,xH];omega,xT,<-List.drop_drop,List.drop_left,e];rfl
def cO.aZ (h:cO k v ps) {i:Nat} (hi:i<ps.length):∃rest,hZ k i v=some (.aQ (ps[i]++rest)):=by
 obtain ⟨rest,e⟩:=Z4 h.2 hi;refine ⟨rest,?_⟩;rcases h.1 with ⟨rfl,rfl⟩ | ⟨b,rfl⟩
 ·exact absurd hi (uD i)
 ·rw [NG b _ hi,e]
def IX:cO k .ab []:=⟨.inl ⟨rfl,rfl⟩,fun _ h=>by cases h⟩
def Fg (e:Bool) (h:∀p,p∈ps->p.length=k):cO k (.aJ e ps.length ps.flatten) ps:=⟨.inr ⟨e,rfl⟩,h⟩
end
abbrev cV:=List Nat×List Nat
def QZ (p:cV):List AV:=[.str p.1,.str p.2]
def eT (v:AV) (l:List cV):Prop:=cO 2 v (l.map QZ)
structure Lay where
 w:AV
 s:List (List Int)
 hh:List Nat
 sc:List Nat
 st:List Nat
 ox:List Nat
 oy:List Nat
 wx:List Nat
 wy:List Nat
def Lay.cs (a:Lay):List AV:=[a.w,.str a.hh,.str a.sc,.str a.st,.str a.ox,.str a.oy,.str a.wx,.str a.wy]
def Lay.T (a:Lay):AV:=zu a.w a.hh a.sc a.st a.ox a.oy a.wx a.wy
noncomputable def Lay.E (a:Lay):Int:=Gx a.s a.hh a.sc a.st a.ox a.oy a.wx a.wy
def dh (v:AV) (l:List Lay):Prop:=cO 8 v (l.map Lay.cs)/\∀a,a∈l->dU a.w a.s
structure Lay.Fit (a:Lay):Prop where
 rows:a.s.length<=1000000
 nG:∀i (hi:i<a.s.length),a.s[i].length<=1000000
 hh:a.hh.length<=1000000000
 sc:a.sc.length<=1000000000
 st:a.st.length<=1000000000
 ox:a.ox.length<=1000000000
 oy:a.oy.length<=1000000000
 wx:a.wx.length<=1000000000
 wy:a.wy.length<=1000000000
section
variable {v:AV} {hp:Hp}
def eT.len {l:List cV} (h:eT v l) {hp:Hp}:ia hp 1 v=some (.int .i64 (l.length:Nat)):=by
 have:=cO.len (hp:=hp) h;rwa [yL] at this
def eT.pu {l:List cV} (h:eT v l):aU v=true:=cO.pu h
def eT.af {l:List cV} (h:eT v l) (n:Nat) {hp:Hp}:freeze (n+1) hp v=some (v,hp):=cO.af h n
def eT.shut {l:List cV} (h:eT v l):VE.shut v=v:=cO.shut h
def eT.bG {l:List cV} (h:eT v l):VE.bG v=v:=cO.bG h
def eT.dw {l:List cV} (h:eT v l) {hp:Hp}:result hp v=some v:=cO.dw h
def eT.one {l:List cV} (h:eT v l):bm v=true:=cO.one h
def eT.cells {l:List cV} (h:eT v l):cellsOf v=[v]:=cO.cells h
def eT.aZ {l:List cV} (h:eT v l) {i:Nat} (hi:i<l.length):∃rest,hZ 2 i v=some (.aQ (.str l[i].1:: .str l[i].2::rest)):=by
 obtain ⟨rest,e⟩:=cO.aZ h (i:=i) (by simpa using hi);refine ⟨rest,?_⟩;rw [e,vW];rfl
def dh.len {l:List Lay} (h:dh v l) {hp:Hp}:ia hp 1 v=some (.int .i64 (l.length:Nat)):=by
 have:=cO.len (hp:=hp) h.1;rwa [yL] at this
def dh.pu {l:List Lay} (h:dh v l):aU v=true:=cO.pu h.1
def dh.af {l:List Lay} (h:dh v l) (n:Nat) {hp:Hp}:freeze (n+1) hp v=some (v,hp):=cO.af h.1 n
def dh.shut {l:List Lay} (h:dh v l):VE.shut v=v:=cO.shut h.1
def dh.bG {l:List Lay} (h:dh v l):VE.bG v=v:=cO.bG h.1
def dh.dw {l:List Lay} (h:dh v l) {hp:Hp}:result hp v=some v:=cO.dw h.1
def dh.one {l:List Lay} (h:dh v l):bm v=true:=cO.one h.1
def dh.cells {l:List Lay} (h:dh v l):cellsOf v=[v]:=cO.cells h.1
def dh.aZ {l:List Lay} (h:dh v l) {i:Nat} (hi:i<l.length):∃rest,hZ 8 i v=some (.aQ (l[i].w:: .str l[i].hh:: .str l[i].sc:: .str l[i].st:: .str l[i].ox:: .str l[i].oy:: .str l[i].wx:: .str l[i].wy::rest)):=by
 obtain ⟨rest,e⟩:=cO.aZ h.1 (i:=i) (by simpa using hi);refine ⟨rest,?_⟩;rw [e,vW];rfl
def dh.get {l:List Lay} (h:dh v l) {i:Nat} (hi:i<l.length):dU l[i].w l[i].s:=h.2 _ (yR hi)
end
def nI (hp:Hp) (a b c d e f g i:AV) (r:List AV):ic hp 8 true (.aQ (a::b::c::d::e::f::g::i::r))=some (.agg [a,b,c,d,e,f,g,i]):=rfl
def BX (hp:Hp) (a b:AV) (r:List AV):ic hp 2 true (.aQ (a::b::r))=some (.agg [a,b]):=rfl
def ru (hp:Hp) (a b c:AV) (r:List AV):ic hp 3 true (.aQ (a::b::c::r))=some (.agg [a,b,c]):=rfl
def Bm {w:AV} {s:List (List Int)} (hw:dU w s) (hp:Hp) (ct id:Nat) (a b c d e f g:List Nat) (x0 x1 x2 x3 x4 x5 x6 x7:AV):fE hp ct id 0 8 [w,.str a,.str b,.str c,.str d,.str e,.str f,.str g] (some (.cells true true true 8 [x0,x1,x2,x3,x4,x5,x6,x7]))=some (.au [],bg hp id (.cells true true true 8 [w,.str a,.str b,.str c,.str d,.str e,.str f,.str g]),ct):=by
 rw [mD (by rfl) (by simp) (by simp [bO,hw.one,SQ])];simp [aH,hw.pu,over,aU]
def FN (a b c d e f g i:AV):fD 8 true [a,b,c,d,e,f,g,i]=some (.agg [a,b,c,d,e,f,g,i]):=rfl
end
section
open Go (IntKind)
section
variable {P:aG} {L:Lib}
def axp (h:Has P L 120 J7) {v:AV} {l:List Lay} (hv:dh v l) (hl:l.length<=1000000) {g:Nat} {cap:List AV} (hc:aH cap=true) (hz:∀(n:Nat) (hp:Hp),cC (n+900) hp cap=some (cap,hp)) {f:Lay->Int} (hg:∀a,a∈l->ae P L g (.agg (Lay.cs a)::cap) (aa (f a))):
  ∃r,ae P L 120 [v,.fn (.f g) [] cap] r/\bl (shut r) (l.map f):=by
 have pf:aU (.fn (.f g) [] cap)=true:=by simp [aU,aH,hc]
 have key:=eF (P:=P) (L:=L) (live:=[1,5,8,9,10]) (a:=C2)
  (I:=fun k st=>∃i:Nat,i+k=l.length/\((i=0/\st=⟨[(1,.fn (.f g) [] cap),(5,.ab),(8,v),(9,aa l.length),(10,aa i)],[],0,0⟩)\/
   (0<i/\st=⟨[(1,.fn (.f g) [] cap),(5,.aC 0 0 i),(8,v),(9,aa l.length),(10,aa i)],[(0,.cells true true false 1 (((l.take i).map f).map aa))],1,0⟩)))
  (Q:=fun ex st=>∃tm hp ct,st=⟨tm,hp,ct,0⟩/\ex= .exit 0/\((l.length=0/\ah tm 5= .ab)\/(0<l.length/\ah tm 5= .aC 0 0 l.length/\az hp 0=some (.cells true true false 1 ((l.map f).map aa))))) ?_
 ·unfold ae;rw [ay h];simp only [go_sem,ya,J7,hv.len];generalize hq:D P L (.loop [1,5,8,9,10] C2) _=q;obtain ⟨ex,st,rfl,tm,hp,ct,rfl,rfl,h2⟩:=bD hq (key l.length) ⟨0,by omega,.inl ⟨rfl,by simp only [go_sem,ya,an,ak hv.pu,ao _ hv.pu,ak pf,ao _ pf]<;>rfl⟩⟩
  rcases h2 with ⟨h2,h3⟩ | ⟨h2,h3,h4⟩
  ·refine ⟨.ab,by simp only [go_sem,an,h3],?_⟩;rw [yD h2];exact nf
  ·refine ⟨.bW false 1 l.length ((l.map f).map aa),?_,?_⟩
   ·simp only [go_sem,yb,an,h3,h4];exact oX (nd _ _ _) (by simp) (by decide)
   ·have:=fy false (l.map f)
    rwa [yL] at this
 ·rintro k st ⟨i,hk,aP⟩;by_cases hi:i<l.length
  ·have bL:(i:Int)<l.length:=by omega
   obtain ⟨rest,e1⟩:=hv.aZ hi;have e2:=hg _ (yR hi);have hS:=hv.get hi;unfold ae Lay.cs at e2;left
   rcases aP with ⟨h0,rfl⟩ | ⟨h0,rfl⟩
   ·subst h0;simp only [go_sem,ya,yb,xj,yt,yi,yh,C2,show ((0:Nat):Int)<l.length from bL,e1,nI,aK,Bm hS,FN,yg,a8,hS.af,hz,e2,gC];refine ⟨_,k-1,rfl,by omega,1,by omega,.inr ⟨by omega,?_⟩⟩;rw [wrap64 (by omega) (by omega),yB hi];simp only [go_sem,ya,yb,an,ak hv.pu,ao _ hv.pu,ak pf,ao _ pf,vD,xM]<;>rfl
   ·have hlen:(((l.take i).map f).map aa).length=i:=by simp;omega
    simp only [go_sem,ya,yb,yi,yh,C2,bL,e1,nI,aK,Bm hS,FN,yg,a8,hS.af,hz,e2]
    rw [fV (ex:=false) (pu:=true) (cs:=((l.take i).map f).map aa) (by simp only [go_sem,ya]) (by rw [hlen,yh]) (by omega) (by omega) (by decide) (by simp only [go_sem])];simp only [go_sem,ya,yb];refine ⟨_,k-1,rfl,by omega,i+1,by omega,.inr ⟨by omega,?_⟩⟩;rw [wrap64 (by omega) (by omega),yB hi];simp only [go_sem,ya,yb,an,ak hv.pu,ao _ hv.pu,ak pf,ao _ pf,xq]<;>rfl
  ·right
   rcases aP with ⟨h0,rfl⟩ | ⟨h0,rfl⟩
   ·simp only [go_sem,ya,C2,show ¬(i:Int)<l.length by omega];refine ⟨_,_,rfl,by simp,_,_,_,rfl,rfl,.inl ⟨by omega,?_⟩⟩;simp only [go_sem,ya]
   ·simp only [go_sem,ya,C2,show ¬(i:Int)<l.length by omega];refine ⟨_,_,rfl,by simp,_,_,_,rfl,rfl,.inr ⟨by omega,?_,?_⟩⟩
    ·simp only [go_sem,ya];rw [show i=l.length by omega]
    ·simp only [go_sem];rw [yp (by omega)]
def axq (h:Has P L 121 J8) {v:AV} {l:List cV} (hv:eT v l) (hl:l.length<=1000000) {g:Nat} {cap:List AV} (hc:aH cap=true) (hz:∀(n:Nat) (hp:Hp),cC (n+900) hp cap=some (cap,hp)) {f:cV->Int} (hg:∀a,a∈l->ae P L g (.agg (QZ a)::cap) (aa (f a))):
  ∃r,ae P L 121 [v,.fn (.f g) [] cap] r/\bl (shut r) (l.map f):=by
 have pf:aU (.fn (.f g) [] cap)=true:=by simp [aU,aH,hc]
 have key:=eF (P:=P) (L:=L) (live:=[1,5,8,9,10]) (a:=C3)
  (I:=fun k st=>∃i:Nat,i+k=l.length/\((i=0/\st=⟨[(1,.fn (.f g) [] cap),(5,.ab),(8,v),(9,aa l.length),(10,aa i)],[],0,0⟩)\/
   (0<i/\st=⟨[(1,.fn (.f g) [] cap),(5,.aC 0 0 i),(8,v),(9,aa l.length),(10,aa i)],[(0,.cells true true false 1 (((l.take i).map f).map aa))],1,0⟩)))
  (Q:=fun ex st=>∃tm hp ct,st=⟨tm,hp,ct,0⟩/\ex= .exit 0/\((l.length=0/\ah tm 5= .ab)\/(0<l.length/\ah tm 5= .aC 0 0 l.length/\az hp 0=some (.cells true true false 1 ((l.map f).map aa))))) ?_
 ·unfold ae;rw [ay h];simp only [go_sem,ya,J8,hv.len];generalize hq:D P L (.loop [1,5,8,9,10] C3) _=q;obtain ⟨ex,st,rfl,tm,hp,ct,rfl,rfl,h2⟩:=bD hq (key l.length) ⟨0,by omega,.inl ⟨rfl,by simp only [go_sem,ya,an,ak hv.pu,ao _ hv.pu,ak pf,ao _ pf]<;>rfl⟩⟩
  rcases h2 with ⟨h2,h3⟩ | ⟨h2,h3,h4⟩
  ·refine ⟨.ab,by simp only [go_sem,an,h3],?_⟩;rw [yD h2];exact nf
  ·refine ⟨.bW false 1 l.length ((l.map f).map aa),?_,?_⟩
   ·simp only [go_sem,yb,an,h3,h4];exact oX (nd _ _ _) (by simp) (by decide)
   ·have:=fy false (l.map f)
    rwa [yL] at this
 ·rintro k st ⟨i,hk,aP⟩;by_cases hi:i<l.length
  ·have bL:(i:Int)<l.length:=by omega
   obtain ⟨rest,e1⟩:=hv.aZ hi;have e2:=hg _ (yR hi);unfold ae QZ at e2;left
   rcases aP with ⟨h0,rfl⟩ | ⟨h0,rfl⟩
   ·subst h0;simp only [go_sem,ya,yb,xj,yt,yi,yh,C3,show ((0:Nat):Int)<l.length from bL,e1,BX,aK,dI,gF,yg,a8,hz,e2,gC];refine ⟨_,k-1,rfl,by omega,1,by omega,.inr ⟨by omega,?_⟩⟩;rw [wrap64 (by omega) (by omega),yB hi];simp only [go_sem,ya,yb,an,ak hv.pu,ao _ hv.pu,ak pf,ao _ pf,vD,xM]<;>rfl
   ·have hlen:(((l.take i).map f).map aa).length=i:=by simp;omega
    simp only [go_sem,ya,yb,yi,yh,C3,bL,e1,BX,aK,dI,gF,yg,a8,hz,e2]
    rw [fV (ex:=false) (pu:=true) (cs:=((l.take i).map f).map aa) (by simp only [go_sem,ya]) (by rw [hlen,yh]) (by omega) (by omega) (by decide) (by simp only [go_sem])];simp only [go_sem,ya,yb];refine ⟨_,k-1,rfl,by omega,i+1,by omega,.inr ⟨by omega,?_⟩⟩;rw [wrap64 (by omega) (by omega),yB hi];simp only [go_sem,ya,yb,an,ak hv.pu,ao _ hv.pu,ak pf,ao _ pf,xq]<;>rfl
  ·right
   rcases aP with ⟨h0,rfl⟩ | ⟨h0,rfl⟩
   ·simp only [go_sem,ya,C3,show ¬(i:Int)<l.length by omega];refine ⟨_,_,rfl,by simp,_,_,_,rfl,rfl,.inl ⟨by omega,?_⟩⟩;simp only [go_sem,ya]
   ·simp only [go_sem,ya,C3,show ¬(i:Int)<l.length by omega];refine ⟨_,_,rfl,by simp,_,_,_,rfl,rfl,.inr ⟨by omega,?_,?_⟩⟩
    ·simp only [go_sem,ya];rw [show i=l.length by omega]
    ·simp only [go_sem];rw [yp (by omega)]
end
end
section
open Go (IntKind)
def take_set {α:Type} {l:List α} {i:Nat} {a:α} (h:i<l.length):(l.set i a).take (i+1)=l.take i++[a]:=by
 rw [yB (by simpa using h),List.getElem_set_self,List.take_set_of_le (yr i)]
def XB {hp:Hp} {ct id o:Nat} {v:List Nat} {ex:Bool} {l:List (List Nat)} (h:o<l.length):fE hp ct id o 1 [.str v] (some (.cells true true ex 1 (l.map .str)))=some (.au [],bg hp id (.cells true true ex 1 ((l.set o v).map .str)),ct):=by
 rw [mD (by rfl) (by simp;omega) (by rfl)]
 have:over o [.str v] (l.map .str)=(l.set o v).map .str:=by
  simp only [over,yC,yK,yd];rw [List.map_set,List.set_eq_take_append_cons_drop,yH (by simpa using h)]
  simp
 rw [this];rfl
def axr (ct:Nat) {n:Nat} (h:n<=10000000000):Af ct 1 16 [.str []] (some n) (some n)=some (.aC ct 0 n,.cells true true true 1 ((yG n []).map .str)):=by
 rw [Jy (sz:=1) (by omega) (by omega) (by rfl) (by rfl)]
 have:∀n,(yG n [AV.str []]).flatten=(yG n []).map .str:=fun n=>by
  induction n with
  | zero=>rfl
  | succ n ih=>rw [wV,xT,ih,wV,yV];rfl
 rw [this];rfl
def aqg (l:List (List Nat)):cN (.aJ true l.length (l.map .str)) l:=Fe true l
section
variable {P:aG} {L:Lib}
def axs (h:Has P L 160 Gd) {v:AV} {l:List Rat} (hv:il v l) (hl:l.length<=1000000) {g:Nat} {p:Rat->Bool} (hg:∀w x,x∈l->cp w x->ae P L g [w] (.bool (p x))):∃n:Int,ae P L 160 [v,.fn (.f g) [] []] (aa n)/\decide (0<=n)=l.any p:=by
 have key:=eF (P:=P) (L:=L) (live:=[0,1,7,8]) (a:=Fq)
  (I:=fun k s=>∃i:Nat,i+k=l.length/\(l.drop i).any p=l.any p/\s=⟨[(0,v),(1,.fn (.f g) [] []),(7,aa l.length),(8,aa i)],[],0,0⟩)
  (Q:=fun ex s=>∃tm hp ct,s=⟨tm,hp,ct,0⟩/\((∃n:Int,ex= .ret/\ah tm 4=aa n/\0<=n/\l.any p=true)\/(ex= .exit 0/\l.any p=false))) ?_
 ·unfold ae;rw [ay h];simp only [go_sem,ya,Gd,hv.len];generalize hq:D P L (.loop [0,1,7,8] Fq) _=q;obtain ⟨ex,s,rfl,tm,hp,ct,rfl,h2⟩:=bD hq (key l.length) ⟨0,by omega,rfl,by simp only [go_sem,ya,an,ak hv.pu,ao _ hv.pu]<;>rfl⟩
  rcases h2 with ⟨n,rfl,h2,h3,h4⟩ | ⟨rfl,h2⟩
  ·exact ⟨n,by simp only [go_sem,h2]<;>rfl,by rw [h4];simpa using h3⟩
  ·exact ⟨-1,by simp only [go_sem,an]<;>rfl,by rw [h2];decide⟩
 ·rintro k s ⟨i,hk,hf,rfl⟩;by_cases hi:i<l.length
  ·have bL:(i:Int)<l.length:=by omega
   obtain ⟨a,b,c,d,r,e1,hx⟩:=hv.aZ hi;have e2:=hg _ _ (yR hi) hx;have gx:=hx.f4;rw [aaE hi] at hf
   cases fe:p l[i] with
   | false=>
    left
    rw [fe] at e2;simp only [go_sem,ya,Fq,bL,e1,VQ,jH,gx.af,e2];rw [fe,Bool.false_or] at hf;refine ⟨_,k-1,rfl,by omega,i+1,by omega,hf,?_⟩;rw [wrap64 (by omega) (by omega)];simp only [go_sem,ya,an,ak hv.pu,ao _ hv.pu]<;>rfl
   | true=>
    right
    rw [fe] at e2;simp only [go_sem,ya,Fq,bL,e1,VQ,jH,gx.af,e2];refine ⟨_,_,rfl,by simp,_,_,_,rfl,.inl ⟨i,rfl,?_,by omega,?_⟩⟩
    ·simp only [go_sem]
    ·rw [<-hf,fe,Bool.true_or]
  ·right
   simp only [go_sem,ya,Fq,show ¬(i:Int)<l.length by omega];refine ⟨_,_,rfl,by simp,_,_,_,rfl,.inr ⟨rfl,?_⟩⟩;rw [<-hf,yT (by omega)];rfl
def axt (h:Has P L 122 J9) (KW:Has P L 160 Gd) {v:AV} {l:List Rat} (hv:il v l) (hl:l.length<=1000000) {g:Nat} {p:Rat->Bool} (hg:∀w x,x∈l->cp w x->ae P L g [w] (.bool (p x))):ae P L 122 [v,.fn (.f g) [] []] (.bool (l.any p)):=by
 obtain ⟨n,e1,e2⟩:=axs KW hv hl hg;unfold ae at e1 ⊢;rw [ay h];simp only [go_sem,ya,J9,hv.af,e1,e2]
def axu (h:Has P L 123 Ka) (hT:Tx P L) {v:AV} {l:List Rat} {K:Nat} (hv:il v l) (hl:l.length<=1000000) (hk:∀x,x∈l->Hq K x) (hK:K<=4000000000):∃r,ae P L 123 [v] r/\cN (shut r) (l.map RT):=by
 have key:=eF (P:=P) (L:=L) (live:=[3,9,10,11]) (a:=Je)
  (I:=fun k st=>∃(i:Nat) (out:List (List Nat)),i+k=l.length/\out.length=l.length/\out.take i=(l.take i).map RT/\st=⟨[(3,.aC 0 0 l.length),(9,v),(10,aa l.length),(11,aa i)],[(0,.cells true true true 1 (out.map .str))],1,0⟩)
  (Q:=fun ex st=>∃tm hp ct,st=⟨tm,hp,ct,0⟩/\ex= .exit 0/\ah tm 3= .aC 0 0 l.length/\az hp 0=some (.cells true true true 1 ((l.map RT).map .str))) ?_
 ·unfold ae;rw [ay h];simp only [go_sem,ya,yb,Ka,hv.len,kN (show (0:Int)<=l.length by omega),xp,axr 0 (show l.length<=10000000000 by omega)];generalize hq:D P L (.loop [3,9,10,11] Je) _=q;obtain ⟨ex,st,rfl,tm,hp,ct,rfl,rfl,t3,g0⟩:=bD hq (key l.length) ⟨0,yG l.length [],by omega,by simp,by simp,by simp only [go_sem,ya,yb,an,ak hv.pu,ao _ hv.pu]<;>rfl⟩
  refine ⟨.bW true 1 l.length ((l.map RT).map .str),?_,?_⟩
  ·simp only [go_sem,yb,an,t3,g0];exact oX (nd _ _ _) (by simp) (by decide)
  ·have:=aqg (l.map RT)
   rwa [yL] at this
 ·rintro k st ⟨i,out,oF,hlen,F3,rfl⟩;by_cases hi:i<l.length
  ·left
   obtain ⟨a,b,c,d,r,e1,hx⟩:=hv.aZ hi;have e2:=m46 hT hx (hk _ (yR hi)) hK;have gx:=hx.f4;unfold ae at e2
   simp only [go_sem,ya,yb,yh,Je,show (i:Int)<l.length by omega,e1,VQ,aK,gx.st,jH,gx.af,yg,e2,kN (show (0:Int)<=i by omega),xp,cW 0 0 hi,yd,XB (l:=out) (o:=i) (by omega)];refine ⟨_,k-1,rfl,by omega,i+1,out.set i (RT l[i]),by omega,by simpa using hlen,?_,?_⟩
   ·rw [take_set (by omega),F3,yB hi,xq];rfl
   ·rw [wrap64 (by omega) (by omega)];simp only [go_sem,ya,yb,an,ak hv.pu,ao _ hv.pu]<;>rfl
  ·right
   have:i=l.length:=by omega
   subst this;rw [yp (by omega),yp (yr _)] at F3;subst F3;simp only [go_sem,ya,Je,show ¬(l.length:Int)<l.length by omega];exact ⟨_,_,rfl,by simp,_,_,_,rfl,rfl,by simp only [go_sem,ya],by simp only [go_sem]⟩
noncomputable def nJ (l:List Lay):Int:=if 4<l.length then 5 else bn (l.map Lay.E)
noncomputable def Cx (p:cV):Int:=bn [a6 p.1,a6 p.2]
noncomputable def sP (l:List cV):Int:=if 256<l.length then 5 else bn (l.map Cx)
def auO (h:Lp P L) {a:Lay} (hS:dU a.w a.s) (hf:a.Fit):ae P L 115 [.agg a.cs] (aa a.E):=axo h hS hf.rows hf.nG hf.hh hf.sc hf.st hf.ox hf.oy hf.wx hf.wy
def m76 (h:Lp P L) (XW:Has P L 76 Lu) (VY:Has P L 120 J7) {v:AV} {l:List Lay} (hv:dh v l) (hl:l.length<=1000000) (hf:∀a,a∈l->a.Fit):ae P L 76 [v] (aa (nJ l)):=by
 obtain ⟨r,e1,hr⟩:=axp VY hv hl (g:=115) (cap:=[]) rfl (fun _ _=>rfl) (f:=Lay.E) (fun a ha=>auO h (hv.2 a ha) (hf a ha));have e2:=zk h.toSp.oL hr (by simpa using hl);unfold nJ;unfold ae at e1 e2 ⊢;rw [ay XW];by_cases h4:4<l.length
 ·rw [yH h4];simp only [go_sem,ya,Lu,hv.len,show (4:Int)<l.length by omega,ym]
 ·rw [yA h4];simp only [go_sem,ya,Lu,hv.len,hv.af,show ¬(4:Int)<l.length by omega,yk,e1,hr.af,e2]
def m78 (h:Sp P L) (XX:Has P L 78 Lv) (VZ:Has P L 121 J8) {v:AV} {l:List cV} (hv:eT v l) (hl:l.length<=1000000) (hf:∀p,p∈l->p.1.length<=1000000000/\p.2.length<=1000000000):ae P L 78 [v] (aa (sP l)):=by
 obtain ⟨r,e1,hr⟩:=axq VZ hv hl (g:=53) (cap:=[]) rfl (fun _ _=>rfl) (f:=Cx) (fun p hp=>QU h (hf p hp).1 (hf p hp).2);have e2:=zk h.oL hr (by simpa using hl);unfold sP;unfold ae at e1 e2 ⊢;rw [ay XX];by_cases h4:256<l.length
 ·rw [yH h4];simp only [go_sem,ya,Lv,hv.len,show (256:Int)<l.length by omega,ym]
 ·rw [yA h4];simp only [go_sem,ya,Lv,hv.len,hv.af,show ¬(256:Int)<l.length by omega,yk,e1,hr.af,e2]
def m83 (Q0:Has P L 83 Lx) (V1:Has P L 122 J9) (V2:Has P L 123 Ka) (KW:Has P L 160 Gd) (hT:Tx P L) {v:AV} {l:List Rat} {K:Nat} (hv:il v l) (hl:l.length<=1000000) (hk:∀x,x∈l->Hq K x) (hK:K<=4000000000):
  (l.any LG=true->ae P L 83 [v] (.au [.ab,aa 4]))/\(l.any LG=false->∃r,cN r (l.map RT)/\ae P L 83 [v] (.au [r,aa 0])):=by
 have e1:=axt V1 KW hv hl (g:=107) (p:=LG) (fun w x hx hw=>awv hT hw (hk x hx) hK);obtain ⟨r,e2,hr⟩:=axu V2 hT hv hl hk hK;unfold ae at e1 e2 ⊢;constructor
 ·intro ha;rw [ha] at e1;rw [ay Q0];simp only [go_sem,ya,Lx,hv.af,e1]
 ·intro ha;rw [ha] at e1;refine ⟨_,hr,?_⟩;rw [ay Q0];simp only [go_sem,ya,Lx,hv.af,e1,e2];rcases hr with ⟨hr,_⟩ | ⟨e,hr⟩<;>rw [hr]<;>rfl
end
end
section
open Go (IntKind)
noncomputable def Lay.low (sh:List Nat) (a:Lay):Bool:=Dp (bf sh) (bf a.hh)
def Lay.Ok (dx dy sh x y:List Nat) (fr:Int) (a:Lay):Prop:=DC a.s a.hh a.sc a.st a.ox a.oy a.wx a.wy dx dy sh x y fr
def MQ {α:Type} {f:α->Int}:∀{l:List α},bn (l.map f)=0->∀a,a∈l->f a=0
 | [],_,_,h=>by cases h
 | x::l,h,a,ha=>by
  rw [yV,MC] at h;rcases wq.1 ha with rfl | ha
  ·grind
  ·exact MQ h.2 a ha
def abX {l:List Lay} (h:nJ l=0):l.length<=4/\∀a,a∈l->a.E=0:=by
 unfold nJ at h
 split at h
 ·grind
 ·exact ⟨by omega,MQ h⟩
def aqh {l:List cV} (h:sP l=0):l.length<=256/\∀p,p∈l->a6 p.1=0/\a6 p.2=0:=by
 unfold sP at h
 split at h
 ·grind
 ·exact ⟨by omega,fun p hp=>S8.1 (MQ h p hp)⟩
def auP {l:List Lay} {dx dy sh x y:List Nat} {fr:Int} (h1:nJ l=0) (h2:Oz dx dy sh=0) (h3:a6 x=0) (h4:a6 y=0) (h5:nm fr=0):∀a,a∈l->a.Ok dx dy sh x y fr:=fun a ha=>by
 have e:=(abX h1).2 a ha;refine aqf ?_;unfold VX;unfold Lay.E at e;rw [e,h2,h3,h4,h5];rfl
structure Lq (P:aG) (L:Lib):Prop extends Lp P L where
 XW:Has P L 76 Lu
 XX:Has P L 78 Lv
 Q0:Has P L 83 Lx
 VY:Has P L 120 J7
 VZ:Has P L 121 J8
 V1:Has P L 122 J9
 V2:Has P L 123 Ka
 KW:Has P L 160 Gd
section
variable {P:aG} {L:Lib}
end
end
section
open Go (IntKind)
section
variable {P:aG} {L:Lib}
def axv (h:S0 P L) (h3:Has P L 3 c3) (mX:Has P L 30 rC) (D3:Has P L 335 Gk) {w:AV} {s:List (List Int)} (hw:dU w s) {hh sc st ox oy wx wy:List Nat} (l1:hh.length<=1000000000) (l2:sc.length<=1000000000) (l3:st.length<=1000000000) (l4:ox.length<=1000000000) (l5:oy.length<=1000000000) (l6:wx.length<=1000000000) (l7:wy.length<=1000000000):
  ae P L 335 [zu w hh sc st ox oy wx wy] (aa (Gx s hh sc st ox oy wx wy)):=by
 have e1:=s3 h3 mX hw;have e2:=agu h l1;have e3:=agt h l2 1;have e4:=VL h.toRm l3;have e5:=PL h l4 l5;have e6:=PL h l6 l7;have e7:=W1 h.Cf (fy true [oZ s,kI hh 0,kI sc 1,a6 st,bn [a6 ox,a6 oy],bn [a6 wx,a6 wy]]) (by simp);simp only [yC,yK,yd,yb,yV,wz] at e7;have o1:=hw.one;have p1:=hw.pu;have d2:∀a b c d e f g i:AV,xg 2 [a,b,c,d,e,f,g,i]=[c,d,e,f,g,i]:=fun _ _ _ _ _ _ _ _=>rfl
 have d3:∀a b c d e f g i:AV,xg 3 [a,b,c,d,e,f,g,i]=[d,e,f,g,i]:=fun _ _ _ _ _ _ _ _=>rfl
 have d6:∀a b c d e f g i:AV,xg 6 [a,b,c,d,e,f,g,i]=[g,i]:=fun _ _ _ _ _ _ _ _=>rfl
 unfold ae at e1 e2 e3 e4 e5 e6 e7 ⊢;rw [ay D3];unfold zu;simp only [go_sem,ya,yb,yt,yi,yh,Gk,aK,o1,p1,hw.af,aV,yd,bX,d2,d3,CY,d6,gF,a8,yg,e1,e2,e3,e4,e5,e6,e7];rfl
def auQ (v a b c d e f u:AV) (r:List AV):over 6 [v] (a::b::c::d::e::f::u::r)=a::b::c::d::e::f::v::r:=rfl
def axw (h2:Has P L 2 c2) (Ap:Has P L 305 DM) (KX:Has P L 327 Gh) {w:AV} {s:List (List Int)} (hw:dU w s) {n:Nat} {hh sc st ox oy wx wy:List Nat} (l1:hh.length<9223372036854775808) (l2:sc.length<9223372036854775808) (l3:st.length<9223372036854775808) (l4:ox.length<9223372036854775808) (l5:oy.length<9223372036854775808) (l6:wx.length<9223372036854775808) (l7:wy.length<9223372036854775808):
  ae P L 327 [zu w hh sc st ox oy wx wy,aa n] (.bool (pD n s&&iF [hh,sc,st,ox,oy,wx,wy])):=by
 have e1:=s2 h2 hw (n:=n);have e2:=VM Ap (Fe true [hh,sc,st,ox,oy,wx,wy]) (by simp) (fun t ht=>by
  simp at ht
  rcases ht with rfl | rfl | rfl | rfl | rfl | rfl | rfl<;>omega)
 simp only [yC,yK,yd,yb,yV,wz] at e2;have o1:=hw.one;have p1:=hw.pu;have d2:∀a b c d e f g i:AV,xg 2 [a,b,c,d,e,f,g,i]=[c,d,e,f,g,i]:=fun _ _ _ _ _ _ _ _=>rfl
 have d3:∀a b c d e f g i:AV,xg 3 [a,b,c,d,e,f,g,i]=[d,e,f,g,i]:=fun _ _ _ _ _ _ _ _=>rfl
 have d5:∀a b c d e f g i:AV,xg 5 [a,b,c,d,e,f,g,i]=[f,g,i]:=fun _ _ _ _ _ _ _ _=>rfl
 have d6:∀a b c d e f g i:AV,xg 6 [a,b,c,d,e,f,g,i]=[g,i]:=fun _ _ _ _ _ _ _ _=>rfl
 have d7:∀a b c d e f g i:AV,xg 7 [a,b,c,d,e,f,g,i]=[i]:=fun _ _ _ _ _ _ _ _=>rfl
 unfold ae at e1 e2 ⊢;rw [ay KX];unfold zu;cases hs:pD n s<;>rw [hs] at e1
 ·simp only [go_sem,ya,yb,Gh,aK,o1,p1,hw.af,aV,yd,yg,e1,wK]
 ·simp only [go_sem,ya,yb,yt,yi,yh,Gh,aK,o1,p1,hw.af,aV,yd,bX,d2,d3,CY,d5,d6,d7,yg,e1,auQ,e2,wI]
structure Rz (P:aG) (L:Lib):Prop extends Sr0 P L,Ar P L where
 h3:Has P L 3 c3
 mX:Has P L 30 rC
 VT:Has P L 333 Pj
 D3:Has P L 335 Gk
def auR (h:Rz P L) {w:AV} {s:List (List Int)} (hw:dU w s) {hh sc st ox oy wx wy dx dy sh x y:List Nat} {fr:Int} (k:DC s hh sc st ox oy wx wy dx dy sh x y fr):
  ae P L 333 [zu w hh sc st ox oy wx wy,jX dx dy sh,qw x y,aa fr] (nU (fk hh sc ox wx dx sh x fr) (fk hh sc oy wy dy sh y fr)):=by
 have hf:=Sa k.fr;have H:=fun {t:List Nat} (c:a6 t=0)=>ki c (yr 2400)
 have R:=fun {t:List Nat} (c:a6 t=0)=>(A6 c).1
 have e1:=axh h.toSr0 h.Ao h.VT (st:= .str st) (fr:=fr) hw.one hw.pu rfl rfl (H k.dx) (H k.dy) (H k.sh) (H k.hh) (H k.sc) (H k.ox) (H k.oy) (H k.wx) (H k.wy) (H k.x) (H k.y) (by omega) (by omega) (by omega) (by omega);unfold nU at e1;rw [<-R k.dx,<-R k.dy,<-R k.sh,<-R k.hh,<-R k.sc,<-R k.ox,<-R k.oy,<-R k.wx,<-R k.wy,<-R k.x,<-R k.y] at e1;exact e1
end
end
section
open Go (IntKind)
def Fh (n:Nat) (l:List Lay):Bool:=if 3<l.length/\l.length<=4\/6<l.length then false else l.all fun a=>pD n a.s&&iF [a.hh,a.sc,a.st,a.ox,a.oy,a.wx,a.wy]
structure Lay.PO (a:Lay):Prop where
 hh:a.hh.length<9223372036854775808
 sc:a.sc.length<9223372036854775808
 st:a.st.length<9223372036854775808
 ox:a.ox.length<9223372036854775808
 oy:a.oy.length<9223372036854775808
 wx:a.wx.length<9223372036854775808
 wy:a.wy.length<9223372036854775808
def an4 {α:Type} {p:α->Bool} {l:List α} {i:Nat} (h:i<l.length):(l.drop i).all p=(p l[i]&&(l.drop (i+1)).all p):=by
 rw [yN h,List.all_cons]
def Rh {α:Type} {f:α->Int} {l:List α} {i:Nat} (h:i<l.length):bn ((l.drop i).map f)=if f l[i]=0 then bn ((l.drop (i+1)).map f) else f l[i]:=by
 rw [yN h,yV,bn]
section
variable {P:aG} {L:Lib}
def axx (h:Has P L 321 Pf) {v:AV} {l:List Lay} (hv:dh v l) (hl:l.length<=1500000):∃r,ae P L 321 [v] r/\dh (shut r) l:=by
 have h8:∀{m:List Lay},∀p,p∈m.map Lay.cs->p.length=8:=fun {m} p hp=>by
  obtain ⟨a,_,rfl⟩:=wb.1 hp;rfl
 have key:=eF (P:=P) (L:=L) (live:=[0,3,6,7]) (a:=Db)
  (I:=fun k st=>∃i:Nat,i+k=l.length/\((i=0/\st=⟨[(0,v),(3,.ab),(6,aa l.length),(7,aa i)],[],0,0⟩)\/
   (0<i/\st=⟨[(0,v),(3,.aC 0 0 i),(6,aa l.length),(7,aa i)],[(0,.cells true true false 8 ((l.take i).map Lay.cs).flatten)],1,0⟩)))
  (Q:=fun ex st=>∃tm hp ct,st=⟨tm,hp,ct,0⟩/\ex= .exit 0/\((l.length=0/\ah tm 3= .ab)\/(0<l.length/\ah tm 3= .aC 0 0 l.length/\az hp 0=some (.cells true true false 8 (l.map Lay.cs).flatten)))) ?_
 ·unfold ae;rw [ay h];simp only [go_sem,ya,Pf,hv.len];generalize hq:D P L (.loop [0,3,6,7] Db) _=q;obtain ⟨ex,st,rfl,tm,hp,ct,rfl,rfl,h2⟩:=bD hq (key l.length) ⟨0,by omega,.inl ⟨rfl,by simp only [go_sem,ya,an,ak hv.pu,ao _ hv.pu]<;>rfl⟩⟩
  rcases h2 with ⟨h2,h3⟩ | ⟨h2,h3,h4⟩
  ·refine ⟨.ab,by simp only [go_sem,an,h3],?_⟩;rw [yD h2];exact ⟨IX,fun _ h=>by cases h⟩
  ·refine ⟨.bW false 8 l.length (l.map Lay.cs).flatten,?_,?_,hv.2⟩
   ·simp only [go_sem,yb,an,h3,h4];exact oX (nd _ _ _) (by rw [IN h8,yL]) (by decide)
   ·have:=Fg (k:=8) false (h8 (m:=l))
    rwa [yL] at this
 ·rintro k st ⟨i,hk,aP⟩;by_cases hi:i<l.length
  ·have bL:(i:Int)<l.length:=by omega
   obtain ⟨rest,e1⟩:=hv.aZ hi;have hS:=hv.get hi;have bz:∀q,fZ q [.ab,.str [],.str [],.str [],.str [],.str [],.str [],.str []] 0 8 [l[i].w,.str l[i].hh,.str l[i].sc,.str l[i].st,.str l[i].ox,.str l[i].oy,.str l[i].wx,.str l[i].wy] []=fill q [l[i].w,.str l[i].hh,.str l[i].sc,.str l[i].st,.str l[i].ox,.str l[i].oy,.str l[i].wx,.str l[i].wy] []:=fun q=>by
    rw [jw (by rfl) (by simp) (by simp [bO,hS.one,SQ])];rfl
   have pY:aH [l[i].w,.str l[i].hh,.str l[i].sc,.str l[i].st,.str l[i].ox,.str l[i].oy,.str l[i].wx,.str l[i].wy]=true:=by simp [aH,hS.pu,aU]
   have at8:∀(eQ pu ex:Bool) (a b c d e f g i:AV),LH 0 1 8 (some (.cells eQ pu ex 8 [a,b,c,d,e,f,g,i]))=some (1,[a,b,c,d,e,f,g,i]):=fun _ _ _ _ _ _ _ _ _ _ _=>rfl
   left
   rcases aP with ⟨h0,rfl⟩ | ⟨h0,rfl⟩
   ·subst h0;simp only [go_sem,ya,yb,xj,yt,yi,Db,show ((0:Nat):Int)<l.length from bL,e1,nI,bz,hS.pu,wv,at8,gC];refine ⟨_,k-1,rfl,by omega,1,by omega,.inr ⟨by omega,?_⟩⟩;rw [wrap64 (by omega) (by omega),yB hi];simp only [go_sem,ya,yb,an,ak hv.pu,ao _ hv.pu,vD,xM]<;>rfl
   ·have hlen:((l.take i).map Lay.cs).flatten.length=i*8:=by rw [IN h8,yL,List.length_take,Nat.min_eq_left (by omega)]
    simp only [go_sem,ya,yb,xj,Db,bL,e1,nI,bz,hS.pu,wv,at8]
    rw [fV (ex:=false) (pu:=true) (cs:=((l.take i).map Lay.cs).flatten) (by simp only [go_sem,ya]) hlen (by omega) (by omega) (by decide) (by simp only [go_sem,hS.one])];simp only [go_sem,ya,yb,pY];refine ⟨_,k-1,rfl,by omega,i+1,by omega,.inr ⟨by omega,?_⟩⟩;rw [wrap64 (by omega) (by omega),yB hi,xq,List.flatten_append];simp only [go_sem,ya,yb,an,ak hv.pu,ao _ hv.pu,yV,wz,xT,List.flatten_nil,List.append_nil]<;>rfl
  ·right
   rcases aP with ⟨h0,rfl⟩ | ⟨h0,rfl⟩
   ·simp only [go_sem,ya,Db,show ¬(i:Int)<l.length by omega];refine ⟨_,_,rfl,by simp,_,_,_,rfl,rfl,.inl ⟨by omega,?_⟩⟩;simp only [go_sem,ya]
   ·simp only [go_sem,ya,Db,show ¬(i:Int)<l.length by omega];refine ⟨_,_,rfl,by simp,_,_,_,rfl,rfl,.inr ⟨by omega,?_,?_⟩⟩
    ·simp only [go_sem,ya];rw [show i=l.length by omega]
    ·simp only [go_sem];rw [yp (by omega)]
def axy (h:Has P L 322 DN) (h2:Has P L 2 c2) (Ap:Has P L 305 DM) (KX:Has P L 327 Gh) {v:AV} {l:List Lay} (hv:dh v l) (hf:∀a,a∈l->a.PO) (n:Nat):ae P L 322 [v,aa n] (.bool (Fh n l)):=by
 unfold Fh;by_cases hc:3<l.length/\l.length<=4\/6<l.length
 ·rw [yH hc];unfold ae;rw [ay h];by_cases h3:3<l.length
  ·by_cases h4:l.length<=4
   ·simp only [go_sem,ya,DN,hv.len,show (3:Int)<l.length by omega,show (l.length:Int)<=4 by omega,ym]
   ·simp only [go_sem,ya,DN,hv.len,show (3:Int)<l.length by omega,show ¬(l.length:Int)<=4 by omega,ym,yk,show (6:Int)<l.length by omega]
  ·omega
 ·rw [yA hc];have key:=eF (P:=P) (L:=L) (live:=[0,1,5]) (a:=Dc)
   (I:=fun k st=>∃i:Nat,i+k=l.length/\((l.drop i).all fun a=>pD n a.s&&iF [a.hh,a.sc,a.st,a.ox,a.oy,a.wx,a.wy])=(l.all fun a=>pD n a.s&&iF [a.hh,a.sc,a.st,a.ox,a.oy,a.wx,a.wy])/\st=⟨[(0,v),(1,aa n),(5,aa i)],[],0,0⟩)
   (Q:=fun ex st=>∃tm hp ct,st=⟨tm,hp,ct,0⟩/\((ex= .ret/\ah tm 4= .bool false/\(l.all fun a=>pD n a.s&&iF [a.hh,a.sc,a.st,a.ox,a.oy,a.wx,a.wy])=false)\/(ex= .exit 0/\(l.all fun a=>pD n a.s&&iF [a.hh,a.sc,a.st,a.ox,a.oy,a.wx,a.wy])=true))) ?_
  ·unfold ae;rw [ay h];have g1:¬(6:Int)<l.length:=by omega
   by_cases h3:3<l.length
   ·simp only [go_sem,ya,DN,hv.len,show (3:Int)<l.length by omega,show ¬(l.length:Int)<=4 by omega,g1,ym,yk];generalize hq:D P L (.loop [0,1,5] Dc) _=q;obtain ⟨ex,st,rfl,tm,hp,ct,rfl,h2⟩:=bD hq (key l.length) ⟨0,by omega,rfl,by simp only [go_sem,ya,an,ak hv.pu,ao _ hv.pu]<;>rfl⟩
    rcases h2 with ⟨rfl,h3,h4⟩ | ⟨rfl,h4⟩
    ·rw [h4];simp only [go_sem,h3]
    ·rw [h4];simp only [go_sem,an]
   ·simp only [go_sem,ya,DN,hv.len,show ¬(3:Int)<l.length by omega,g1,yk];generalize hq:D P L (.loop [0,1,5] Dc) _=q;obtain ⟨ex,st,rfl,tm,hp,ct,rfl,h2⟩:=bD hq (key l.length) ⟨0,by omega,rfl,by simp only [go_sem,ya,an,ak hv.pu,ao _ hv.pu]<;>rfl⟩
    rcases h2 with ⟨rfl,h3,h4⟩ | ⟨rfl,h4⟩
    ·rw [h4];simp only [go_sem,h3]
    ·rw [h4];simp only [go_sem,an]
  ·rintro k st ⟨i,hk,et,rfl⟩;by_cases hi:i<l.length
   ·obtain ⟨rest,e1⟩:=hv.aZ hi;have hS:=hv.get hi;have hn:=hf _ (yR hi);have e2:=axw h2 Ap KX hS (n:=n) hn.hh hn.sc hn.st hn.ox hn.oy hn.wx hn.wy;unfold zu at e2;unfold ae at e2;rw [an4 hi] at et
    cases hb:(pD n l[i].s&&iF [l[i].hh,l[i].sc,l[i].st,l[i].ox,l[i].oy,l[i].wx,l[i].wy]) with
    | false=>
     right
     rw [hb] at e2;simp only [go_sem,ya,Dc,hv.len,show (i:Int)<l.length by omega,e1,nI,a8,hS.af,e2];refine ⟨_,_,rfl,by simp,_,_,_,rfl,.inl ⟨rfl,by simp only [go_sem],?_⟩⟩;rw [<-et,hb,wK]
    | true=>
     left
     rw [hb] at e2;simp only [go_sem,ya,Dc,hv.len,show (i:Int)<l.length by omega,e1,nI,a8,hS.af,e2];rw [hb,wI] at et;refine ⟨_,k-1,rfl,by omega,i+1,by omega,et,?_⟩;rw [wrap64 (by omega) (by omega)];simp only [go_sem,ya,an,ak hv.pu,ao _ hv.pu]<;>rfl
   ·right
    simp only [go_sem,ya,Dc,hv.len,show ¬(i:Int)<l.length by omega];refine ⟨_,_,rfl,by simp,_,_,_,rfl,.inr ⟨rfl,?_⟩⟩;rw [<-et,yT (by omega)];rfl
end
end
section
open Go (IntKind)
def Zg:∀{ps:List (List AV)},(∀p,p∈ps->iz NZ p)->∃l:List Lay,ps=l.map Lay.cs/\(∀a,a∈l->dU a.w a.s)/\∀a,a∈l->a.PO
 | [],_=>⟨[],rfl,(fun _ h=>by cases h),(fun _ h=>by cases h)⟩
 | p::ps,h=>by
  obtain ⟨w,s,a,b,c,d,e,f,g,rfl,hw,ha,hb,hc,hd,he,hf,hg⟩:=alA (h p wA);obtain ⟨l,h1,h2,h3⟩:=Zg (ps:=ps) (fun q hq=>h q (xS _ hq));refine ⟨⟨w,s,a,b,c,d,e,f,g⟩::l,by rw [h1];rfl,fun q hq=>?_,fun q hq=>?_⟩
  ·rcases wq.1 hq with rfl | hq
   ·exact hw
   ·exact h2 q hq
  ·rcases wq.1 hq with rfl | hq
   ·exact ⟨ha,hb,hc,hd,he,hf,hg⟩
   ·exact h3 q hq
def Zh:∀{ps:List (List AV)},(∀p,p∈ps->iz Dn p)->∃l:List cV,ps=l.map QZ/\∀p,p∈l->p.1.length<9223372036854775808/\p.2.length<9223372036854775808
 | [],_=>⟨[],rfl,(fun _ h=>by cases h)⟩
 | p::ps,h=>by
  obtain ⟨x,y,rfl,hx,hy⟩:=M1 (h p wA);obtain ⟨l,h1,h2⟩:=Zh (ps:=ps) (fun q hq=>h q (xS _ hq));refine ⟨(x,y)::l,by rw [h1];rfl,fun q hq=>?_⟩
  rcases wq.1 hq with rfl | hq
  ·exact ⟨hx,hy⟩
  ·exact h2 q hq
def aqi {l:List AV} (h:iz (.sl NZ) l):∃(v:AV) (m:List Lay),l=[v]/\dh v m/\∀a,a∈m->a.PO:=by
 rcases h with rfl | ⟨x,ps,rfl,h⟩
 ·exact ⟨_,[],rfl,⟨IX,(fun _ h=>by cases h)⟩,(fun _ h=>by cases h)⟩
 ·obtain ⟨m,rfl,h2,h3⟩:=Zg h
  exact ⟨_,m,rfl,⟨Fg x (fun p hp=>by obtain ⟨a,_,rfl⟩:=wb.1 hp;rfl),h2⟩,h3⟩
def aqj {l:List AV} (h:iz (.sl Dn) l):∃(v:AV) (m:List cV),l=[v]/\eT v m/\∀p,p∈m->p.1.length<9223372036854775808/\p.2.length<9223372036854775808:=by
 rcases h with rfl | ⟨x,ps,rfl,h⟩
 ·exact ⟨_,[],rfl,IX,fun _ h=>by cases h⟩
 ·obtain ⟨m,rfl,h2⟩:=Zh h
  exact ⟨_,m,rfl,Fg x (fun p hp=>by obtain ⟨a,_,rfl⟩:=wb.1 hp;rfl),h2⟩
end
section
open Go (IntKind)
abbrev gA:=List (Int×AV)
def jr (E:gA):List AV:=E.map fun e=>aa e.1
def dW (E:gA):List AV:=E.map (·.2)
def fK (E:gA) (k:Int):Option AV:=(E.find? fun e=>k==e.1).map (·.2)
def jA (E:gA) (k:Int) (v:AV):gA:=match E with
 | []=>[(k,v)]
 | e::r=>if k=e.1 then (e.1,v)::r else e::jA r k v
def Sb (e:Int×AV) (r:gA) (k:Int) (v:AV):jA (e::r) k v=if k=e.1 then (e.1,v)::r else e::jA r k v:=rfl
def abY (a b:Int):so (aa a) (aa b)=some (a==b):=by simp [so]
def abZ (k:Int):∀E:gA,ss (aa k) (jr E) (dW E)=some (fK E k)
 | []=>rfl
 | e::r=>by
  show (match so (aa k) (aa e.1) with | some true=>some (some e.2) | some false=>ss (aa k) (jr r) (dW r) | none=>none)=_
  rw [abY,abZ k r];unfold fK;by_cases h:k=e.1
  ·simp [vz,h]
  ·have:(k==e.1)=false:=by simpa using h
   simp [vz,this]
def adD (k:Int) (v:AV):∀E:gA,q9 (aa k) v (jr E) (dW E)=some (jr (jA E k v),dW (jA E k v))
 | []=>rfl
 | e::r=>by
  show (match so (aa k) (aa e.1) with | some true=>some (aa e.1::jr r,v::dW r) | some false=>(match q9 (aa k) v (jr r) (dW r) with | some (iW,K1)=>some (aa e.1::iW,e.2::K1) | none=>none) | none=>none)=_
  rw [abY,adD k v r,Sb];by_cases h:k=e.1
  ·rw [yH h]
   have:(k==e.1)=true:=by simpa using h
   rw [this];rfl
  ·rw [yA h]
   have:(k==e.1)=false:=by simpa using h
   rw [this];rfl
def aaZ (k:Int) (v:AV) (j:Int):∀E:gA,fK (jA E k v) j=if j=k then some v else fK E j
 | []=>by
  by_cases h:j=k
  ·simp [jA,fK,h]
  ·simp [jA,fK,vz,h]
 | e::r=>by
  have ih:=aaZ k v j r;rw [Sb];by_cases h:k=e.1
  ·rw [yH h];by_cases h2:j=k
   ·rw [yH h2];unfold fK;simp [vz,h2,h]
   ·rw [yA h2];have h3:(j==e.1)=false:=by rw [<-h];simpa using h2
    unfold fK;simp [vz,h3]
  ·rw [yA h];by_cases h4:j=e.1
   ·have h5:¬j=k:=fun q=>h (q▸h4)
    rw [yA h5];unfold fK;simp [vz,h4]
   ·have h3:(j==e.1)=false:=by simpa using h4
    have e1:∀x:AV,fK ((e.1,x)::jA r k v) j=fK (jA r k v) j:=fun x=>by unfold fK;simp [vz,h3]
    have e2:fK (e::r) j=fK r j:=by unfold fK;simp [vz,h3]
    rw [e2,<-ih];exact e1 e.2
def SE {E:gA} {k:Int} {v:AV} (hE:aH (dW E)=true) (hv:aU v=true):aH (dW (jA E k v))=true:=by
 induction E with
 | nil=>simp [jA,dW,aH,hv]
 | cons e r ih=>
  simp only [dW,yV,aH,ye] at hE;rw [Sb]
  split
  ·simp only [dW,yV,aH,ye];exact ⟨hv,hE.2⟩
  ·simp only [dW,yV,aH,ye];exact ⟨hE.1,ih hE.2⟩
def adE (E:gA):aH (jr E)=true:=by
 induction E with
 | nil=>rfl
 | cons e r ih=>simp only [jr,yV,aH,ye];exact ⟨rfl,ih⟩
def iG (E:gA) (K:Nat) (C:Int->Rat):Prop:=∀j,match fK E j with
 | some v=>cp v (C j)/\Hq K (C j)
 | none=>C j=0
def iG.nil {K:Nat}:iG [] K fun _=>0:=fun _=>rfl
def iG.set {E:gA} {K:Nat} {C C':Int->Rat} (h:iG E K C) {k:Int} {v:AV} (hv:cp v (C' k)) (hk:Hq K (C' k)) (hC:∀j,j≠k->C' j=C j):iG (jA E k v) K C':=fun j=>by
 rw [aaZ];by_cases hj:j=k
 ·rw [yH hj];subst hj;exact ⟨hv,hk⟩
 ·rw [yA hj]
  have:=h j
  cases hm:fK E j with
  | none=>rw [hm] at this;show C' j=0;rw [hC j hj];exact this
  | some u=>rw [hm] at this;show cp u (C' j)/\Hq K (C' j);rw [hC j hj];exact this
def iG.mono {E:gA} {K M:Nat} {C:Int->Rat} (h:iG E K C) (hK:K<=M):iG E M C:=fun j=>by
 have:=h j
 cases hm:fK E j with
 | none=>rw [hm] at this;exact this
 | some u=>rw [hm] at this;exact ⟨this.1,this.2.mono hK⟩
end
section
open Go (IntKind)
def NQ {hp:Hp} {id:Nat} {b:Bool} {E:gA} (k:Int) (h:az hp id=some (.mp b (jr E) (dW E))):kW hp (aa k) (.map id)=some (fK E k):=by
 show (match az hp id with | some (.mp _ ks vs)=>ss (aa k) ks vs | _=>none)=_
 rw [h];exact abZ k E
def Ml (hp:Hp) (z k m:AV):Option AV:=match kW hp k m with | some (some v)=>some (.au [v,.bool true]) | some none=>some (.au [z,.bool false]) | none=>none
def OB {hp:Hp} {z k m v:AV} (h:kW hp k m=some (some v)):Ml hp z k m=some (.au [v,.bool true]):=by unfold Ml;rw [h]
def OC {hp:Hp} {z k m:AV} (h:kW hp k m=some none):Ml hp z k m=some (.au [z,.bool false]):=by unfold Ml;rw [h]
def Bn {P:aG} {L:Lib} {f:cD} {tm:Env} {hp:Hp} {ct:Nat} (z:AV) (m k:X) (n:Int) (h:aA tm k=aa n):br P L f tm hp ct (.BY 1 z true m k)=rd hp ct (Ml hp z (aA tm k) (aA tm m)):=by
 show rd hp ct (bif qR 1 (aA tm k) then (match kW hp (aA tm k) (aA tm m) with | some (some v)=>some (.au [v,.bool true]) | some none=>some (.au [z,.bool false]) | none=>none) else none)=_
 rw [h];rfl
def TK {P:aG} {L:Lib} {f:cD} {tm:Env} {hp:Hp} {ct id:Nat} {E:gA} {n:Int} (m k v:X) (hm:aA tm m= .map id) (hk:aA tm k=aa n) (h:az hp id=some (.mp true (jr E) (dW E))):br P L f tm hp ct (.mS 1 m k v)=some (.au [],bg hp id (.mp true (jr (jA E n (aA tm v))) (dW (jA E n (aA tm v)))),ct):=by
 show (match aA tm m with
  | .map id=>(match az hp id with
   | some (.mp true ks vs)=>bif !qR 1 (aA tm k) then none else match q9 (aA tm k) (aA tm v) ks vs with | some (iW,dL)=>some (AV.au [],bg hp id (.mp true iW dL),ct) | none=>none
   | _=>none)
  | _=>none)=_
 rw [hm,hk];simp only [h];rw [adD];rfl
def jE (id:Nat):refs (.map id)=[id]:=rfl
def afc (q:Option Nat):AV:=match q with | some j=> .map j | none=> .undef
def jF (s:List Nat) (id:Nat):bZ (pos s) (.map id)=afc (lQ id s 0):=rfl
def kj (j:Nat):afc (some j)= .map j:=rfl
def jZ {b:Bool} {E:gA} (h:aH (dW E)=true):od (.mp b (jr E) (dW E))=[]:=by
 show iO _++iO _=[]
 rw [CK (adE E),CK h];rfl
def kq (f:Nat->Option Nat) {b:Bool} {E:gA} (h:aH (dW E)=true):lz f (.mp b (jr E) (dW E))= .mp b (jr E) (dW E):=by
 show Obj.mp b (fB f _) (fB f _)=_
 rw [CL f (adE E),CL f h]
def Q1 (hp:Hp) (ct id:Nat) (a b c d:AV):fE hp ct id 0 4 [.int .i64 0,.ab,.int .i64 0,.ab] (some (.cells true true true 4 [a,b,c,d]))=some (.au [],bg hp id (.cells true true true 4 [.int .i64 0,.ab,.int .i64 0,.ab]),ct):=by
 rw [mD (by rfl) (by simp) (by rfl)];rfl
def eL (fr n i j:Int) (k:Nat):Int:=fr+(j+(k:Int)/2)%n*n+(i+(k:Int)%2)%n
def OD {fr n i j:Int} (hn:0<n) (gW:n<=1000) (h0:0<=fr) (k:Nat):fr<=eL fr n i j k/\eL fr n i j k<fr+n*n:=by
 have a1:=wm (i+(k:Int)%2) (show n≠0 by omega);have a2:=wm (j+(k:Int)/2) (show n≠0 by omega);have a3:=we (i+(k:Int)%2) hn;have a4:=we (j+(k:Int)/2) hn;have h1:0<=(j+(k:Int)/2)%n*n:=uz a2 (by omega);have h2:((j+(k:Int)/2)%n+1)*n<=n*n:=Int.mul_le_mul_of_nonneg_right (by omega) (by omega);rw [Int.add_mul,Int.one_mul] at h2;unfold eL;omega
def gB (f g:Rat) (k:Nat):Rat:=(qB f g).getD k 0
def im (C:Int->Rat) (fr n i j:Int) (f g:Rat):Nat->Int->Rat
 | 0,q=>C q
 | m+1,q=>if q=eL fr n i j m then gB f g m+im C fr n i j f g m q else im C fr n i j f g m q
def Cy (sc pc lc rc:List AV) (E:gA):Hp:=[(4,.cells true true true 10 rc),(3,.cells true true true 8 lc),(2,.mp true (jr E) (dW E)),(1,.cells true true true 2 pc),(0,.cells true true true 3 sc)]
section
variable {P:aG} {L:Lib}
def auS (h:Vl P L) {v:AV} {i j n fr:Int} {f g:Rat} {K B:Nat} (hv:DB v i j f g) (hi:0<=i/\i<n) (hj:0<=j/\j<n) (hn:n<=1000) (fF:0<=fr/\fr<=1000000) (kf:Hq K f) (kg:Hq K g) (hK:B+8*K+40<=1000000000)
  {cs:List AV} (nN:QL cs (qB f g)) {C:Int->Rat} (Cz nG:Int) {a1 a2 a3 p1 p2 l0:AV} {l1 l2 l3 l4 l5 l6 l7:AV} {lv:AV} (ln li:Int) (AS:aU lv=true)
  {c1 c2 c3 c4 d1 d2 d3 d4:AV} (hvc:v= .agg [aa i,aa j,c1,c2,c3,c4,d1,d2,d3,d4]):
  ∀d st,(∃(m:Nat) (E:gA),m+d=4/\iG E (B+m*(2*K+7)) (im C fr n i j f g m)/\aH (dW E)=true/\aT [3,4,6,7,11,12,14,15,16,32,33,34,54,55] st=⟨[(3,aa Cz),(4,aa nG),(6,.ptr 0 0),(7,.ptr 1 0),(11,.map 2),(12,aa fr),(14,.ptr 3 0),(15,aa n),(16,.ptr 4 0),(32,lv),(33,aa ln),(34,aa li),(54,.agg cs),(55,aa m)],Cy [a1,a2,a3] [p1,p2] [l0,l1,l2,l3,l4,l5,l6,l7] [aa i,aa j,c1,c2,c3,c4,d1,d2,d3,d4] E,5,0⟩)->
   ∃ex s',D P L (.loop [3,4,6,7,11,12,14,15,16,32,33,34,54,55] FU) st=some (ex,s')/\∃tm ct E,s'=⟨tm,Cy [a1,a2,a3] [p1,p2] [l0,l1,l2,l3,l4,l5,l6,l7] [aa i,aa j,c1,c2,c3,c4,d1,d2,d3,d4] E,ct,0⟩/\ct=5/\iG E (B+4*(2*K+7)) (im C fr n i j f g 4)/\aH (dW E)=true/\ex= .exit 2/\ah tm 3=aa Cz/\ah tm 4=aa nG/\ah tm 6= .ptr 0 0/\ah tm 7= .ptr 1 0/\ah tm 11= .map 2/\ah tm 12=aa fr/\ah tm 14= .ptr 3 0/\ah tm 15=aa n/\ah tm 32=lv/\ah tm 33=aa ln/\ah tm 34=aa li:=by
 intro dq sq;generalize bw:aT [3,4,6,7,11,12,14,15,16,32,33,34,54,55] sq=s0;revert bw s0 sq dq;apply dn;rintro d st ⟨m,E,K6,hM,fg,rfl⟩;by_cases hm:m<4
 ·left
  have pW:aU (.agg cs)=true:=by simp only [aU,nN.pu]
  obtain ⟨x1,x2,x3,x4,e1,hx⟩:=nN.sS (n:=4) rfl hm;have dz:cp (.agg [x1,x2,x3,x4]) (gB f g m):=by
   unfold gB;rw [xK,wo (show m<(qB f g).length from hm),wU];exact hx
  have kw:Hq (2*K+6) (gB f g m):=by
   unfold gB;rw [xK,wo (show m<(qB f g).length from hm),wU];exact N3 kf kg _ (yR _)
  have e2:=axm h.VW h.KV hv (k:=(m:Int)) (n:=n) hi hj (by omega) (by omega) (by omega);have gx:=hx.f4;have cb:=OD (fr:=fr) (i:=i) (j:=j) (n:=n) (by omega) hn fF.1 m;have nn:n*n<=1000*1000:=uQ hn hn (by omega) (by omega);have r1:=wm (i+(m:Int)%2) (show n≠0 by omega);have r2:=we (i+(m:Int)%2) (show 0<n by omega);have rn:0<=(j+(m:Int)/2)%n*n:=uz (wm _ (by omega)) (by omega);have su:fr+(j+(m:Int)/2)%n*n+(i+(m:Int)%2)%n=eL fr n i j m:=rfl;subst hvc;obtain ⟨_,_,_,_,_,_,_,_,XY,_,_,bx,fz⟩:=hv.gen;obtain ⟨rfl,rfl,rfl,rfl,rfl,rfl,rfl,rfl⟩:=by simpa using XY
  obtain ⟨px1,px2,px3,px4⟩:=gx.EG;have hk:∀o5:Obj,kW ((5,o5)::Cy [a1,a2,a3] [p1,p2] [l0,l1,l2,l3,l4,l5,l6,l7] [aa i,aa j,c1,c2,c3,c4,d1,d2,d3,d4] E) (aa (eL fr n i j m)) (.map 2)=some (fK E (eL fr n i j m)):=fun o5=>NQ _ rfl
  unfold Cy at hk;have step:∀(y:AV),cp y (gB f g m+im C fr n i j f g m (eL fr n i j m))->Hq (B+(m+1)*(2*K+7)) (gB f g m+im C fr n i j f g m (eL fr n i j m))->iG (jA E (eL fr n i j m) y) (B+(m+1)*(2*K+7)) (im C fr n i j f g (m+1)):=fun y hy ky=>
   (hM.mono (by rw [xH];omega)).set (C':=im C fr n i j f g (m+1)) (by show cp y (if _ then _ else _);rw [yH rfl];exact hy) (by show Hq _ (if _ then _ else _);rw [yH rfl];exact ky) (fun q hq=>yA hq)
  have mm:m*(2*K+7)<=3*(2*K+7):=Nat.mul_le_mul_right _ (by omega);have mE:=hM (eL fr n i j m);unfold ae at e2
  cases hg:fK E (eL fr n i j m) with
  | none=>
   rw [hg] at mE;simp only [hg] at hk;have aP:=step _ (by rw [show im C fr n i j f g m (eL fr n i j m)=0 from mE,ybv];exact dz) (by rw [show im C fr n i j f g m (eL fr n i j m)=0 from mE,ybv];exact kw.mono (by rw [xH];omega))
   simp only [go_sem,ya,yb,FU,Cy,show (m:Int)<4 by omega,ym,kN (show (0:Int)<=(m:Int) by omega),xp,e1,aK,gx.st,TI,jH,fz,e2,rV,wrap64 (n:=(j+(m:Int)/2)%n*n) (by omega) (by omega),wrap64 (n:=fr+(j+(m:Int)/2)%n*n) (by omega) (by omega),su,wrap64 (n:=eL fr n i j m) (by omega) (by omega),Bn (n:=eL fr n i j m),OC (hk _),Q1,TK (id:=2) (E:=E) (n:=eL fr n i j m),yg];have rM:aH (dW (jA E (eL fr n i j m) (AV.agg [x1,x2,x3,x4])))=true:=SE fg gx.pu;refine ⟨_,d-1,rfl,by omega,m+1,_,by omega,aP,rM,?_⟩
   rw [show (m:Int)+1=((m+1:Nat):Int) from rfl,wrapN (n:=m+1) (by omega)];simp only [go_sem,ya,yb,an,jE,jF,kj,jZ rM,kq _ rM,ak AS,ao _ AS,ak pW,ao _ pW]<;>rfl
  | some u=>
   rw [hg] at mE;simp only [hg] at hk;obtain ⟨hu,ku⟩:=mE;have ku':Hq (B+m*(2*K+7)) (im C fr n i j f g m (eL fr n i j m)):=ku;obtain ⟨y,e3,hy⟩:=QJ h.toFr' dz hu (K:=1000000000) (kw.mono (by omega)) (ku'.mono (by omega)) (by decide);have aP:=step y hy ((kw.add ku').mono (by rw [xH];omega));obtain ⟨u1,u2,u3,u4,rfl,gu⟩:=hu.gen;obtain ⟨y1,y2,y3,y4,rfl,gy⟩:=hy.gen;unfold ae at e3
   simp only [go_sem,ya,yb,FU,Cy,show (m:Int)<4 by omega,ym,kN (show (0:Int)<=(m:Int) by omega),xp,e1,aK,gx.st,TI,jH,fz,e2,rV,wrap64 (n:=(j+(m:Int)/2)%n*n) (by omega) (by omega),wrap64 (n:=fr+(j+(m:Int)/2)%n*n) (by omega) (by omega),su,wrap64 (n:=eL fr n i j m) (by omega) (by omega),Bn (n:=eL fr n i j m),OB (hk _),gu.st,gx.af,gu.af,e3,bC,gy.st,TK (id:=2) (E:=E) (n:=eL fr n i j m),yg];have rM:aH (dW (jA E (eL fr n i j m) (AV.agg [y1,y2,y3,y4])))=true:=SE fg gy.pu;refine ⟨_,d-1,rfl,by omega,m+1,_,by omega,aP,rM,?_⟩
   rw [show (m:Int)+1=((m+1:Nat):Int) from rfl,wrapN (n:=m+1) (by omega)];simp only [go_sem,ya,yb,an,jE,jF,kj,jZ rM,kq _ rM,ak AS,ao _ AS,ak pW,ao _ pW]<;>rfl
 ·right
  have h4:m=4:=by omega
  subst h4;simp only [go_sem,ya,FU,show ¬((4:Nat):Int)<4 by decide,yk];exact ⟨_,_,rfl,by simp,_,_,E,rfl,rfl,hM,fg,rfl,by simp only [go_sem,ya],by simp only [go_sem,ya],by simp only [go_sem,ya],by simp only [go_sem,ya],by simp only [go_sem,ya],by simp only [go_sem,ya],by simp only [go_sem,ya],by simp only [go_sem,ya],by simp only [go_sem,ya],by simp only [go_sem,ya],by simp only [go_sem,ya]⟩
end
end
section
open Go (IntKind)
def axz (a b c d e f g i:AV):xg 3 [a,b,c,d,e,f,g,i]=[d,e,f,g,i]:=rfl
def iG.bd {E:gA} {K:Nat} {C:Int->Rat} (h:iG E K C) (hK:2<=K) (j:Int):Hq K (C j):=by
 have:=h j
 cases hm:fK E j with
 | none=>rw [hm] at this;rw [show C j=0 from this];exact PK.mono hK
 | some u=>rw [hm] at this;exact this.2
def iK (C:Int->Rat) (fr:Int) (S:Rat) (t:Nat) (q:Int):Rat:=if fr<=q/\q<fr+t then C q*S else C q
def asW (C:Int->Rat) (fr:Int) (S:Rat):iK C fr S 0=C:=by
 funext q
 unfold iK;rw [yA (by omega)]
def Tb (C:Int->Rat) (fr:Int) (S:Rat) (t:Nat):iK C fr S (t+1) (fr+t)=C (fr+t)*S:=yH (by omega)
def ab0 (C:Int->Rat) (fr:Int) (S:Rat) (t:Nat):iK C fr S t (fr+t)=C (fr+t):=yA (by omega)
def ab1 (C:Int->Rat) (fr:Int) (S:Rat) (t:Nat) {q:Int} (h:q≠fr+t):iK C fr S (t+1) q=iK C fr S t q:=by
 unfold iK;by_cases h1:fr<=q/\q<fr+t
 ·rw [yH h1,yH (by omega)]
 ·rw [yA h1,yA (by omega)]
def qC (sc pc lc:List AV) (E:gA):Hp:=[(3,.cells true true true 8 lc),(2,.mp true (jr E) (dW E)),(1,.cells true true true 2 pc),(0,.cells true true true 3 sc)]
section
variable {P:aG} {L:Lib}
def auT (h:Sp P L) {fr n:Int} {N B:Nat} (hN:n*n=N) (hn:0<=n/\n<=1000) (fF:0<=fr/\fr<=1000000) (hB:2<=B) (hK:B+2400<=1000000000)
  {C:Int->Rat} (hC:∀q,Hq B (C q)) (Cz nG:Int) {a1 a2 a3 p1 p2 l0 l1 l2 l4 l5 l6 l7:AV} {st:List Nat} (Im:a6 st=0) {lv:AV} (ln li:Int) (AS:aU lv=true):
  ∀d s,(∃(t:Nat) (E:gA),t+d=N/\iG E (B+2400) (iK C fr (bf st) t)/\aH (dW E)=true/\aT [3,4,6,7,11,12,14,15,32,33,34,89,90] s=⟨[(3,aa Cz),(4,aa nG),(6,.ptr 0 0),(7,.ptr 1 0),(11,.map 2),(12,aa fr),(14,.ptr 3 0),(15,aa n),(32,lv),(33,aa ln),(34,aa li),(89,aa N),(90,aa t)],qC [a1,a2,a3] [p1,p2] [l0,l1,l2,.str st,l4,l5,l6,l7] E,4,0⟩)->
   ∃ex s',D P L (.loop [3,4,6,7,11,12,14,15,32,33,34,89,90] Bu) s=some (ex,s')/\∃tm ct E,s'=⟨tm,qC [a1,a2,a3] [p1,p2] [l0,l1,l2,.str st,l4,l5,l6,l7] E,ct,0⟩/\iG E (B+2400) (iK C fr (bf st) N)/\aH (dW E)=true/\ex= .exit 4/\ah tm 3=aa Cz/\ah tm 4=aa nG/\ah tm 6= .ptr 0 0/\ah tm 7= .ptr 1 0/\ah tm 11= .map 2/\ah tm 12=aa fr/\ah tm 15=aa n/\ah tm 32=lv/\ah tm 33=aa ln/\ah tm 34=aa li:=by
 intro dq sq;generalize bw:aT [3,4,6,7,11,12,14,15,32,33,34,89,90] sq=s0;revert bw s0 sq dq;apply dn;have nn:n*n<=1000*1000:=uQ hn.2 hn.2 hn.1 (by omega);rintro d s ⟨t,E,htd,hM,fg,rfl⟩;by_cases ht:t<N
 ·left
  have hk:kW (qC [a1,a2,a3] [p1,p2] [l0,l1,l2,.str st,l4,l5,l6,l7] E) (aa (fr+t)) (.map 2)=some (fK E (fr+t)):=NQ _ rfl;unfold qC at hk;have mE:=hM (fr+t)
  cases hg:fK E (fr+t) with
  | none=>
   rw [hg] at mE;simp only [hg] at hk;have e0:iK C fr (bf st) t (fr+t)=0:=mE;rw [ab0] at e0;have XZ:iG E (B+2400) (iK C fr (bf st) (t+1)):=fun q=>by
    by_cases hq:q=fr+t
    ·rw [hq,hg];show iK C fr (bf st) (t+1) (fr+t)=0;rw [Tb,e0,Rat.zero_mul]
    ·rw [ab1 _ _ _ _ hq];exact hM q
   simp only [go_sem,ya,yb,Bu,qC,show (t:Int)<N by omega,wrap64 (n:=fr+t) (by omega) (by omega),Bn (n:=fr+t),OC hk,Q1,aK];refine ⟨_,d-1,rfl,by omega,t+1,E,by omega,XZ,fg,?_⟩
   rw [show (t:Int)+1=((t+1:Nat):Int) from rfl,wrapN (n:=t+1) (by omega)];simp only [go_sem,ya,yb,an,jE,jF,kj,jZ fg,kq _ fg,ak AS,ao _ AS]<;>rfl
  | some u=>
   rw [hg] at mE;simp only [hg] at hk;obtain ⟨hu,-⟩:=mE;have hu:cp u (C (fr+t)):=by rw [<-ab0 C fr (bf st) t];exact hu
   obtain ⟨z,e1,hz⟩:=Aq h Im;obtain ⟨y,e2,hy⟩:=AO h.toFr' hu hz (K:=1000000000) ((hC _).mono (by omega)) ((ki Im (yr 2400)).mono (by decide)) (by decide);have XZ:iG (jA E (fr+t) y) (B+2400) (iK C fr (bf st) (t+1)):=hM.set (by rw [Tb];exact hy) (by rw [Tb];exact (hC _).mul (ki Im (yr 2400))) (fun q hq=>ab1 _ _ _ _ hq)
   obtain ⟨u1,u2,u3,u4,rfl,gu⟩:=hu.gen;obtain ⟨z1,z2,z3,z4,rfl,gz⟩:=hz.gen;obtain ⟨y1,y2,y3,y4,rfl,gy⟩:=hy.gen;unfold ae at e1 e2
   simp only [go_sem,ya,yb,Bu,qC,show (t:Int)<N by omega,wrap64 (n:=fr+t) (by omega) (by omega),Bn (n:=fr+t),OB hk,gu.st,aK,jH,aV,yd,axz,e1,gu.af,gz.af,e2,bC,TK (id:=2) (E:=E) (n:=fr+t),yg];have rM:aH (dW (jA E (fr+t) (AV.agg [y1,y2,y3,y4])))=true:=SE fg gy.pu;refine ⟨_,d-1,rfl,by omega,t+1,_,by omega,XZ,rM,?_⟩
   rw [show (t:Int)+1=((t+1:Nat):Int) from rfl,wrapN (n:=t+1) (by omega)];simp only [go_sem,ya,yb,an,jE,jF,kj,jZ rM,kq _ rM,ak AS,ao _ AS]<;>rfl
 ·right
  have h4:t=N:=by omega
  subst h4;simp only [go_sem,ya,Bu,show ¬(t:Int)<t by omega,yk];exact ⟨_,_,rfl,by simp,_,_,E,rfl,hM,fg,rfl,by simp only [go_sem,ya],by simp only [go_sem,ya],by simp only [go_sem,ya],by simp only [go_sem,ya],by simp only [go_sem,ya],by simp only [go_sem,ya],by simp only [go_sem,ya],by simp only [go_sem,ya],by simp only [go_sem,ya],by simp only [go_sem,ya]⟩
end
end
end VE
