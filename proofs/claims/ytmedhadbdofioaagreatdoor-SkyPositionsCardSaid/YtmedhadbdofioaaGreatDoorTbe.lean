import Derived.Test.YtmedhadbdofioaaGreatDoorTbd
import Derived.Test.YtmedhadbdofioaaGreatDoorTau
import Derived.Test.YtmedhadbdofioaaGreatDoorTax
import Derived.Test.YtmedhadbdofioaaGreatDoorTao
import Derived.Test.YtmedhadbdofioaaGreatDoorTaw
set_option linter.all false
set_option maxRecDepth 100000
open Bool renaming and_eq_true→yg,and_self→wp,and_true→uF,not_false→yF,not_true→yH
open Int renaming reduceEq→vN,toNat_natCast→xI
open List renaming all_cons→tL,all_nil→yaY,any_cons→tM,any_nil→yaX,drop→xm,drop_zero→yj,length_cons→yr,length_nil→yE,map_cons→yU,map_nil→xU
open Nat renaming mul_one→yh,reduceAdd→yb,reduceEqDiff→ya,reduceLT→yt,reduceLeDiff→ye,zero_add→yd
namespace VE
section
open Go (IntKind)
structure AK (P:aG) (L:Lib):Prop where
 r:Ry P L
 p:Lp P L
 h2:Has P L 2 c2
 qW:Has P L 11 iD
 DO:Has P L 21 KG
 Ap:Has P L 59 FP
 Pb:Has P L 255 C6
 Pc:Has P L 258 Oh
 nW:Has P L 310 zO
 qH:Has P L 316 C9
 Vg:Has P L 327 JJ
 Kk:Has P L 362 Ft
 Kj:Has P L 363 Oy
 Vq:Has P L 365 JK
 Pd:Has P L 378 ic
 Vo:Has P L 379 JL
 Vp:Has P L 380 JM
 Vi:Has P L 381 Oz
 auQ:ae P L 1 [] (.bool true)
section
variable {P:aG} {L:Lib}
def agP (Pc:Has P L 258 Oh) (pL:Has P L 30 Ak) (n:Int):ae P L 258 [aa n] (aa (hO n)):=by
 have e:=Wp pL n (-999999999) 999999999;unfold ae at e ⊢;rw [av Pc];simp only [go_sem,ya,Oh,e,hO]
def Q1 (h:Has P L 255 C6) {e:Int} (he:e≠0):ae P L 255 [.str [],aa e,aa e,.str []] (.bool true):=by
 unfold ae;rw [av h];simp only [go_sem,ya,C6,he,yo,yF,iF,show cA [] []=true from rfl,yq]
def aj9 (hr:Rl P L) (h:Has P L 255 C6) {a:Rat} {K:Nat} (ka:Hq K a) (hK:K<=4000000000):∃u e,Dn a= .ap [.str u,aa e]/\ae P L 255 [.str u,aa e,aa 0,.str (RT a)] (.bool true):=by
 have e1:=Tu hr ka hK;unfold Dn;unfold ae at e1 ⊢;cases hL:LG a<;>rw [hL] at e1<;>simp only [Bool.false_eq_true,yO,y5] at e1
 ·refine ⟨_,_,rfl,?_⟩;rw [av h];simp only [go_sem,ya,C6,e1,yq,yH,iF,HV]
 ·refine ⟨_,_,rfl,?_⟩;rw [av h];simp only [go_sem,ya,C6,e1,vN,yq,yo,yF,iF,HV]
def aox (h:Rx P L) (nW:Has P L 310 zO) (qH:Has P L 316 C9) {a b:Rat} {K:Nat} (ka:Hq K a) (kb:Hq K b) (hK:K<=4000000000):∃u v e,FE a b= .ap [.agg [.str u,.str v],aa e]/\ae P L 310 [.agg [.str u,.str v],aa e,aa 0,gh a b] (.bool true):=by
 unfold FE
 cases hg:(LG a||LG b) with
 | false=>exact ⟨_,_,_,rfl,aqz h.toRl nW qH ka kb hK hg⟩
 | true=>exact ⟨_,_,_,rfl,aob h.toRl nW qH ka kb hK hg⟩
section
variable (h:AK P L) {w:AV} {s:List (List Int)} (hw:cF w s) (hl:s.length<=1000000) (hr:∀i (hi:i<s.length),s[i].length<=1000000) {hh sc st ox oy wx wy dx dy sh x y:List Nat} {fr:Int} (l1:hh.length<=1000000000) (l2:sc.length<=1000000000) (l3:st.length<=1000000000) (l4:ox.length<=1000000000) (l5:oy.length<=1000000000) (l6:wx.length<=1000000000) (l7:wy.length<=1000000000) (l8:dx.length<=1000000000) (l9:dy.length<=1000000000) (la:sh.length<=1000000000) (lb:x.length<=1000000000) (lc:y.length<=1000000000)
include h hw hl hr l1 l2 l3 l4 l5 l6 l7 l8 l9 la lb lc
def atg:∃u v e,ae P L 379 [cM w hh sc st ox oy wx wy,fj dx dy sh,dI x y,aa fr] (.ap [.agg [.str u,.str v],aa e])/\
  (du s hh sc st ox oy wx wy dx dy sh x y fr≠0->u=[]/\v=[]/\e=du s hh sc st ox oy wx wy dx dy sh x y fr)/\
  (du s hh sc st ox oy wx wy dx dy sh x y fr=0->ae P L 310 [.agg [.str u,.str v],aa e,aa 0,gh (cS hh sc ox wx dx sh x fr) (cS hh sc oy wy dy sh y fr)] (.bool true)):=by
 have e1:=axo h.p hw hl hr (fr:=fr) l1 l2 l3 l4 l5 l6 l7 l8 l9 la lb lc h.Vo;unfold Vj at e1;by_cases h0:du s hh sc st ox oy wx wy dx dy sh x y fr=0
 ·have k:=A1 (Ev h0).1;obtain ⟨u,v,e,e2,e3⟩:=aox h.r.toSr0.toRx h.nW h.qH k.kX k.kY (by decide);rw [yB (by simp [h0]),e2] at e1;exact ⟨u,v,e,e1,fun c=>absurd h0 c,fun _=>e3⟩
 ·rw [yI h0] at e1;exact ⟨_,_,_,e1,fun _=>⟨rfl,rfl,rfl⟩,fun c=>absurd c h0⟩
def ath:∃u e,ae P L 24 [cM w hh sc st ox oy wx wy,fj dx dy sh,dI x y,aa fr] (.ap [.str u,aa e])/\
  (du s hh sc st ox oy wx wy dx dy sh x y fr≠0->u=[]/\e=du s hh sc st ox oy wx wy dx dy sh x y fr)/\
  (du s hh sc st ox oy wx wy dx dy sh x y fr=0->ae P L 255 [.str u,aa e,aa 0,.str (RT (Cd s hh sc st ox oy wx wy dx dy sh x y fr))] (.bool true)):=by
 have e1:=m24 h.p hw hl hr (fr:=fr) l1 l2 l3 l4 l5 l6 l7 l8 l9 la lb lc;unfold Ve at e1;by_cases h0:du s hh sc st ox oy wx wy dx dy sh x y fr=0
 ·have k:=A1 (Ev h0).1;obtain ⟨u,e,e2,e3⟩:=aj9 h.r.toSr0.toRl h.Pb (afp k) (by decide);rw [yB (by simp [h0]),e2] at e1;exact ⟨u,e,e1,fun c=>absurd h0 c,fun _=>e3⟩
 ·rw [yI h0] at e1;exact ⟨_,_,e1,fun _=>⟨rfl,rfl⟩,fun c=>absurd c h0⟩
def ati:∃cs e,ae P L 380 [cM w hh sc st ox oy wx wy,fj dx dy sh,dI x y,aa fr] (.ap [.agg cs,aa e])/\
  ((cs=z12/\e=du s hh sc st ox oy wx wy dx dy sh x y fr/\du s hh sc st ox oy wx wy dx dy sh x y fr≠0)\/
   (du s hh sc st ox oy wx wy dx dy sh x y fr=0/\(cV (aS (cS hh sc ox wx dx sh x fr)) (aS (cS hh sc oy wy dy sh y fr))).any LG=true/\cs=z12/\e=4)\/
   (du s hh sc st ox oy wx wy dx dy sh x y fr=0/\(cV (aS (cS hh sc ox wx dx sh x fr)) (aS (cS hh sc oy wy dy sh y fr))).any LG=false/\cs=gl s.length (cS hh sc ox wx dx sh x fr) (cS hh sc oy wy dy sh y fr)/\e=0)):=by
 have e1:=axp h.p hw hl hr (fr:=fr) l1 l2 l3 l4 l5 l6 l7 l8 l9 la lb lc h.Vp;unfold Vk at e1
 grind
end
def al3 (h:AK P L) {n:Int} {X Y:Rat} {K:Nat} (kX:Hq K X) (kY:Hq K Y) (nv:1<=K) (hK:K<=10000000) {cs:List AV} {e:Int} (hc:((cV (aS X) (aS Y)).any LG=true/\cs=z12/\e=4)\/((cV (aS X) (aS Y)).any LG=false/\cs=gl n X Y/\e=0))
  {tm:Env} {hp:Hp} (ct:Nat) (t10:af tm 10= .ptr 6 0) (t11:af tm 11=aa e) (t19:af tm 19= .ptr 13 0) (g1:ak hp 6=some (.cells true true true 12 cs)) (g2:ak hp 13=some (.cells true true true 12 (gl n X Y))):
  fJ [.t 4] (D P L (jN 18 ic.body) ⟨tm,hp,ct,0⟩)=some (.bool true):=by
 have kw:=IW (nf kX nv) (nf kY nv);have F5:(cV (aS X) (aS Y)).any LG=true->cs=z12/\e=4:=fun ha=>by
  rcases hc with ⟨_,h1,h2⟩ | ⟨h0,_,_⟩
  ·exact ⟨h1,h2⟩
  ·rw [ha] at h0;exact absurd h0 (by decide)
 have axu:=cg (P:=P) (L:=L) (live:=[10,11,19,216]) (a:=EJ)
  (I:=fun k st'=>∃m:Nat,m+k=4/\(∀j (hj:j<4),j<m->LG ((cV (aS X) (aS Y))[j]'hj)=false)/\st'=⟨[(10,.ptr 0 0),(11,aa e),(19,.ptr 1 0),(216,aa m)],[(1,.cells true true true 12 (gl n X Y)),(0,.cells true true true 12 cs)],2,0⟩)
  (Q:=fun ex st'=>∃tm hp ct,st'=⟨tm,hp,ct,0⟩/\((ex= .ret/\af tm 4= .bool true)\/
   (ex= .exit 0/\(cV (aS X) (aS Y)).any LG=false/\af tm 10= .ptr 0 0/\af tm 11=aa e/\af tm 19= .ptr 1 0/\ak hp 0=some (.cells true true true 12 cs)/\ak hp 1=some (.cells true true true 12 (gl n X Y))))) ?_
 ·have axv:=fun (_:cs=gl n X Y)=>cg (P:=P) (L:=L) (live:=[10,11,19,233]) (a:=IT)
   (I:=fun k st'=>∃m:Nat,m+k=4/\st'=⟨[(10,.ptr 0 0),(11,aa 0),(19,.ptr 1 0),(233,aa m)],[(1,.cells true true true 12 (gl n X Y)),(0,.cells true true true 12 (gl n X Y))],2,0⟩)
   (Q:=fun ex st'=>∃tm hp ct,st'=⟨tm,hp,ct,0⟩/\ex= .exit 2/\af tm 11=aa 0) (by
   rintro k st' ⟨m,hk,rfl⟩;by_cases hm:m<4
   ·left
    obtain ⟨r,hr⟩:=Sz n X Y hm;have hl3:dO 3 true ((gl n X Y).drop (m*3))=some (.agg [aa (lH n X Y m),aa (lI n X Y m),.str (RT ((cV (aS X) (aS Y))[m]'hm))]):=by rw [hr];rfl
    have fZ:gH (.ag [1,1,2]) (.agg [aa (lH n X Y m),aa (lI n X Y m),.str (RT ((cV (aS X) (aS Y))[m]'hm))]) (.agg [aa (lH n X Y m),aa (lI n X Y m),.str (RT ((cV (aS X) (aS Y))[m]'hm))])=some true:=by
     show dJ [1,1,2] [.int .i64 _,.int .i64 _,.str _] [.int .i64 _,.int .i64 _,.str _]=_
     simp only [dJ,y5,uh,HV,wp]
    simp only [go_sem,ya,IT,show (m:Int)<4 by omega,yq,Is hm,jY (show (0:Int)<=m by omega),xI,hl3,fZ,abV,yH];refine ⟨_,k-1,rfl,by omega,m+1,by omega,?_⟩;rw [wrap64 (by omega) (by omega)];simp only [go_sem,ya,yb,ay]<;>rfl
   ·right
    have h4:m=4:=by omega
    subst h4;simp only [go_sem,ya,IT,show ¬((4:Nat):Int)<4 by decide,yo]
    exact ⟨_,_,rfl,by simp,_,_,_,rfl,rfl,by simp only [go_sem,ya]⟩)
  simp only [go_sem,ic,jN,ax];generalize hq:D P L (.loop [10,11,19,216] EJ) _=q;obtain ⟨ex,st',rfl,tm',ao,bg,rfl,hQ⟩:=bP hq (axu 4) ⟨0,by omega,fun j _ hj=>absurd hj (by omega),by simp only [go_sem,ya,yb,ay,t10,t11,t19,g1,g2]<;>rfl⟩
  rcases hQ with ⟨rfl,t4⟩ | ⟨rfl,ha,s10,F2,s19,k0,k1⟩
  ·simp only [go_sem,t4]
  ·rcases hc with ⟨h0,_,_⟩ | ⟨_,rfl,rfl⟩
   ·rw [ha] at h0;exact absurd h0 (by decide)
   ·simp only [go_sem,ya,yb,ay,s10,F2,s19,k0,k1];generalize lF:D P L (.loop [10,11,19,233] IT) _=q2;obtain ⟨ex2,st2,rfl,jh,gC,ct2,rfl,rfl,u11⟩:=bP lF (axv rfl 4) ⟨0,by omega,by simp only [go_sem,ya,yb,ay]<;>rfl⟩
    simp only [go_sem,ay,u11,yq]
 ·rintro k st' ⟨m,hk,gW,rfl⟩;by_cases hm:m<4
  ·obtain ⟨r,hr⟩:=Sz n X Y hm;have rI:(cV (aS X) (aS Y))[m]'hm∈cV (aS X) (aS Y):=List.getElem_mem _;have e1:=Tu h.r.toSr0.toRl (kw _ rI) (by omega);unfold ae at e1
   cases hL:LG ((cV (aS X) (aS Y))[m]'hm) with
   | true=>
    right
    obtain ⟨rfl,rfl⟩:=F5 (List.any_eq_true.2 ⟨_,rI,hL⟩);rw [hL,yI rfl] at e1;have fZ:gH (.ag [1,1,2,1,1,2,1,1,2,1,1,2]) (.agg z12) (.agg z12)=some true:=rfl;have hz:dO 12 true z12=some (.agg z12):=rfl;unfold z12 at fZ hz;simp only [go_sem,ya,EJ,show (m:Int)<4 by omega,yq,Is hm,jY (show (0:Int)<=m by omega),xI,aV,S3 hr,e1,vN,yo,yF,yj,z12,hz,fZ,cQ];exact ⟨_,_,rfl,by simp,_,_,_,rfl,.inl ⟨rfl,by simp only [go_sem]⟩⟩
   | false=>
    left
    rw [hL,yB (by decide)] at e1;simp only [go_sem,ya,EJ,show (m:Int)<4 by omega,yq,Is hm,jY (show (0:Int)<=m by omega),xI,aV,S3 hr,e1,yq,yH];refine ⟨_,k-1,rfl,by omega,m+1,by omega,fun j hj hjm=>?_,?_⟩
    ·by_cases Vm:j<m
     ·exact gW j hj Vm
     ·have:j=m:=by omega
      subst this;exact hL
    ·rw [wrap64 (by omega) (by omega)];simp only [go_sem,ya,yb,ay]<;>rfl
  ·right
   have h4:m=4:=by omega
   subst h4;have Vn:(cV (aS X) (aS Y)).any LG=false:=by
    have a0:LG ((1-aS X)*(1-aS Y))=false:=gW 0 (by omega) (by omega);have a1:LG (aS X*(1-aS Y))=false:=gW 1 (by omega) (by omega);have a2:LG ((1-aS X)*aS Y)=false:=gW 2 (by omega) (by omega);have a3:LG (aS X*aS Y)=false:=gW 3 (by omega) (by omega);simp only [cV,tM,yaX,a0,a1,a2,a3,Bool.or_self]
   simp only [go_sem,ya,EJ,show ¬((4:Nat):Int)<4 by decide,yo];exact ⟨_,_,rfl,by simp,_,_,_,rfl,.inr ⟨rfl,Vn,by simp only [go_sem,ya],by simp only [go_sem,ya],by simp only [go_sem,ya],by simp only [go_sem,ya],by simp only [go_sem]⟩⟩
end
end
section
open Go (IntKind)
section
variable {P:aG} {L:Lib}
def FG (a b c d e f g i:AV):xm 5 [a,b,c,d,e,f,g,i]=[f,g,i]:=rfl
def z7 (a b c d e f:AV):xm 3 [a,b,c,d,e,f]=[d,e,f]:=rfl
def agQ (a b c d e f:AV):xm 4 [a,b,c,d,e,f]=[e,f]:=rfl
def BI (a b c d e f:AV):xm 5 [a,b,c,d,e,f]=[f]:=rfl
def fk (a b c d e f g i:AV):dO 8 true [a,b,c,d,e,f,g,i]=some (.agg [a,b,c,d,e,f,g,i]):=rfl
def atj (h:AK P L) {w wb:AV} {s:List (List Int)} (hw:cF w s) {hh sc st ox oy wx wy dx dy sh x y:List Nat} {fr:Int} (l8:dx.length<=1000000000) (l9:dy.length<=1000000000) (la:sh.length<=1000000000) (lb:x.length<=1000000000) (lc:y.length<=1000000000)
  (h0:bj [iP s hh sc st ox oy wx wy,hO fr]≠0) {tm:Env} {hp:Hp} {E:Int} (hE:du s hh sc st ox oy wx wy dx dy sh x y fr=E)
  (t3:af tm 3= .ptr 1 0) (t5:af tm 5= .ptr 3 0) (t6:af tm 6= .ptr 4 0) (t7:af tm 7=aa (iP s hh sc st ox oy wx wy)) (t8:af tm 8= .ptr 5 0) (t9:af tm 9=aa E) (t10:af tm 10= .ptr 6 0) (t11:af tm 11=aa E) (t12:af tm 12= .str []) (t13:af tm 13=aa E) (t14:af tm 14= .ptr 7 0) (t15:af tm 15=aa (bj [iP s hh sc st ox oy wx wy,hO fr]))
  (g1:ak hp 1=some (.cells true true true 6 [.str dx,.str dy,.str sh,.str x,.str y,aa fr])) (g4:ak hp 4=some (.cells true true true 3 [.str dx,.str dy,.str sh])) (g5:ak hp 5=some (.cells true true true 2 [.str [],.str []])) (g6:ak hp 6=some (.cells true true true 12 z12)) (g7:ak hp 7=some (.cells true true true 8 [.ab,.str [],.str [],.str [],.str [],.str [],.str [],.str []])):
  fJ [.t 4] (D P L (jN 8 ic.body) ⟨tm,hp,8,0⟩)=some (.bool true):=by
 have e1:=agP h.Pc h.r.pL fr;have e2:=F2 h.qW h.r.sD (fm true [iP s hh sc st ox oy wx wy,hO fr]) (by simp);have e3:=Vh h.DO h.Ap h.Kj H6 H6 (by simp) (by simp) [] [] [] [] [] [] [];have e4:=agD h.r.toS0 l8 l9 la;rw [show bj [bj [aY dx,aY dy],jg sh 0]=qw dx dy sh from rfl] at e4;have e5:=Kf h.r.toS0 lb lc;have e6:=F2 h.qW h.r.sD (fm true [iP s hh sc st ox oy wx wy,qw dx dy sh,bj [aY x,aY y],hO fr]) (by simp);rw [show bj [iP s hh sc st ox oy wx wy,qw dx dy sh,bj [aY x,aY y],hO fr]=kC s hh sc st ox oy wx wy dx dy sh x y fr from rfl] at e6;simp only [yr,yE,yd,yb,yU,xU] at e2 e6;have hF:kC s hh sc st ox oy wx wy dx dy sh x y fr≠0:=fun c=>by
  have k:=A1 c;unfold kC at c;simp only [Hx,HE,wi] at c;exact h0 (Eu.2 ⟨c.1,k.fr⟩)
 have hE2:kC s hh sc st ox oy wx wy dx dy sh x y fr=E:=by
  rw [<-hE];unfold du;rw [yI hF]
 rw [hE2] at e6 hF;have e7:=R4 h.nW hF [] [];have e8:=Q1 h.Pb hF;have fZ:gH (.ag [1,1,2,1,1,2,1,1,2,1,1,2]) (.agg z12) (.agg z12)=some true:=rfl;have hz:dO 12 true z12=some (.agg z12):=rfl;unfold z12 at fZ hz g6;unfold cM dI at*
 unfold ae at e1 e2 e3 e4 e5 e6 e7 e8;simp only [go_sem,ya,yb,yt,ye,yh,ic,jN,ax,t3,t6,t7,t8,t9,t10,t11,t12,t13,t14,t15,g1,g4,g5,g6,g7,aV,yd,z7,BI,aB,e1,e2,h0,yo,yq,yH,yF,yj,fk,dl,fU,aZ,e3,e4,e5,e6,hF,e7,hz,fZ,cQ,e8]
def atk (h:AK P L) {w wb:AV} {s:List (List Int)} (hw:cF w s) (hwb:cF wb s) (hl:s.length<=1000000) (hr:∀i (hi:i<s.length),s[i].length<=1000000) {hh sc st ox oy wx wy dx dy sh x y:List Nat} {fr:Int} (l8:dx.length<=1000000000) (l9:dy.length<=1000000000) (la:sh.length<=1000000000) (lb:x.length<=1000000000) (lc:y.length<=1000000000)
  (hE:iP s hh sc st ox oy wx wy=0) (hF:hO fr=0) {tm:Env} {hp:Hp} {cs:List AV} {u v u3:List Nat} {XK AF Ce:Int}
  (f1:du s hh sc st ox oy wx wy dx dy sh x y fr≠0->u=[]/\v=[]/\XK=du s hh sc st ox oy wx wy dx dy sh x y fr)
  (Cf:du s hh sc st ox oy wx wy dx dy sh x y fr=0->ae P L 310 [.agg [.str u,.str v],aa XK,aa 0,gh (cS hh sc ox wx dx sh x fr) (cS hh sc oy wy dy sh y fr)] (.bool true))
  (f2:(cs=z12/\AF=du s hh sc st ox oy wx wy dx dy sh x y fr/\du s hh sc st ox oy wx wy dx dy sh x y fr≠0)\/
   (du s hh sc st ox oy wx wy dx dy sh x y fr=0/\(cV (aS (cS hh sc ox wx dx sh x fr)) (aS (cS hh sc oy wy dy sh y fr))).any LG=true/\cs=z12/\AF=4)\/
   (du s hh sc st ox oy wx wy dx dy sh x y fr=0/\(cV (aS (cS hh sc ox wx dx sh x fr)) (aS (cS hh sc oy wy dy sh y fr))).any LG=false/\cs=gl s.length (cS hh sc ox wx dx sh x fr) (cS hh sc oy wy dy sh y fr)/\AF=0))
  (f3:du s hh sc st ox oy wx wy dx dy sh x y fr≠0->u3=[]/\Ce=du s hh sc st ox oy wx wy dx dy sh x y fr)
  (DY:du s hh sc st ox oy wx wy dx dy sh x y fr=0->ae P L 255 [.str u3,aa Ce,aa 0,.str (RT (Cd s hh sc st ox oy wx wy dx dy sh x y fr))] (.bool true))
  (t3:af tm 3= .ptr 1 0) (t5:af tm 5= .ptr 3 0) (t6:af tm 6= .ptr 4 0) (t7:af tm 7=aa 0) (t8:af tm 8= .ptr 5 0) (t9:af tm 9=aa XK) (t10:af tm 10= .ptr 6 0) (t11:af tm 11=aa AF) (t12:af tm 12= .str u3) (t13:af tm 13=aa Ce) (t14:af tm 14= .ptr 7 0) (t15:af tm 15=aa (jr s hh sc st ox oy wx wy fr))
  (g1:ak hp 1=some (.cells true true true 6 [.str dx,.str dy,.str sh,.str x,.str y,aa fr])) (g3:ak hp 3=some (.cells true true true 8 [w,.str hh,.str sc,.str st,.str ox,.str oy,.str wx,.str wy])) (g4:ak hp 4=some (.cells true true true 3 [.str dx,.str dy,.str sh])) (g5:ak hp 5=some (.cells true true true 2 [.str u,.str v])) (g6:ak hp 6=some (.cells true true true 12 cs))
  {b0:AV} {b1 b2 b3 b4 b5 b6 b7:List Nat} (ff:jr s hh sc st ox oy wx wy fr≠0->ae P L 363 [.agg [b0,.str b1,.str b2,.str b3,.str b4,.str b5,.str b6,.str b7],cM .ab [] [] [] [] [] [] []] (.bool true))
  (lG:jr s hh sc st ox oy wx wy fr=0->ae P L 363 [.agg [b0,.str b1,.str b2,.str b3,.str b4,.str b5,.str b6,.str b7],cM w hh sc st (RT (aM ox+(fr:Rat)*aM wx)) (RT (aM oy+(fr:Rat)*aM wy)) wx wy] (.bool true))
  (fb:∀(n:Nat) (hp:Hp),freeze (n+20) hp (.agg [b0,.str b1,.str b2,.str b3,.str b4,.str b5,.str b6,.str b7])=some (.agg [b0,.str b1,.str b2,.str b3,.str b4,.str b5,.str b6,.str b7],hp))
  (g7:ak hp 7=some (.cells true true true 8 [b0,.str b1,.str b2,.str b3,.str b4,.str b5,.str b6,.str b7])):
  fJ [.t 4] (D P L (jN 8 ic.body) ⟨tm,hp,8,0⟩)=some (.bool true):=by
 obtain ⟨q1,⟨q2,_⟩,⟨q3,_⟩,q4,⟨q5,q6⟩,q7,q8⟩:=It hE;have hf:=AR hF;have me:Hq 64 (fr:Rat):=⟨by rw [Rat.num_intCast];unfold Bd;omega,by rw [Rat.den_intCast];unfold Bd;exact Nat.one_lt_two_pow (by omega)⟩
 have H:=fun {t:List Nat} (c:aY t=0)=>iG c (Nat.le_refl 2400)
 have k1:=(H q5).add (me.mul (H q7));have k2:=(H q6).add (me.mul (H q8));have e1:=agP h.Pc h.r.pL fr;have e2:=F2 h.qW h.r.sD (fm true [0,0]) (by simp);have e3:=axn h.r h.Vi hw hE hF;have e4:=Tv h.r.toSr0.toRl h.qH (l:=[aM ox+(fr:Rat)*aM wx,aM oy+(fr:Rat)*aM wy]) (Cx true [RT (aM ox+(fr:Rat)*aM wx),RT (aM oy+(fr:Rat)*aM wy)]) (by simp) (K:=10000) (fun r hr=>by simp at hr;rcases hr with rfl | rfl;exact k1.mono (by omega);exact k2.mono (by omega)) (by omega)
 have hB:(if [aM ox+(fr:Rat)*aM wx,aM oy+(fr:Rat)*aM wy].any LG=true then (4:Int) else 0)=jr s hh sc st ox oy wx wy fr:=by
  unfold jr;rw [hE,hF];have hz:bj [0,0]=0:=rfl;simp only [hz,tJ,wQ,yO,tM,yaX,Bool.or_false]
 rw [hB] at e4;have e5:=agD h.r.toS0 l8 l9 la;rw [show bj [bj [aY dx,aY dy],jg sh 0]=qw dx dy sh from rfl] at e5;have e6:=Kf h.r.toS0 lb lc;have e7:=F2 h.qW h.r.sD (fm true [0,qw dx dy sh,bj [aY x,aY y],0]) (by simp);have hRF:bj [0,qw dx dy sh,bj [aY x,aY y],0]=kC s hh sc st ox oy wx wy dx dy sh x y fr:=by unfold kC;rw [hE,hF]
 rw [hRF] at e7;simp only [yr,yE,yd,yb,yU,xU] at e2 e4 e7;rw [hF] at e1;rw [show bj [0,0]=0 from rfl] at e2;have o1:=hw.one;have p1:=hw.pu;have pR:∀(hp:Hp) (ct id:Nat) (a b c d e f g:List Nat) (x0 x1 x2 x3 x4 x5 x6 x7:AV),eM hp ct id 0 8 [w,.str a,.str b,.str c,.str d,.str e,.str f,.str g] (some (.cells true true true 8 [x0,x1,x2,x3,x4,x5,x6,x7]))=some (.ap [],aW hp id (.cells true true true 8 [w,.str a,.str b,.str c,.str d,.str e,.str f,.str g]),ct):=fun hp ct id a b c d e f g x0 x1 x2 x3 x4 x5 x6 x7=>by
  rw [jb (by rfl) (by simp) (by simp [bK,o1,Il])];simp [aH,p1,over,aR]
 unfold cM dI at*
 unfold ae at e1 e2 e3 e4 e5 e6 e7 ff lG;have Pe:∀a b c d e f g i:AV,xm 1 [a,b,c,d,e,f,g,i]=[b,c,d,e,f,g,i]:=fun _ _ _ _ _ _ _ _=>rfl
 have fZ:gH (.ag [1,1,2,1,1,2,1,1,2,1,1,2]) (.agg z12) (.agg z12)=some true:=rfl;have hz:dO 12 true z12=some (.agg z12):=rfl;by_cases nY:kC s hh sc st ox oy wx wy dx dy sh x y fr=0
 ·have k:=A1 nY;have e9:=aw0 h.r.toSr0.toRp h.r.toSr0.U6 h.r.toSr0.Ke (x:=dx) (y:=dy) (H k.sh) (H k.hh) (by omega);rw [<-(sR k.sh).1,<-(sR k.hh).1] at e9;unfold ae fj at e9;rw [nY] at e7
  cases pQ:zn (aM sh) (aM hh) with
  | false=>
   have hR:du s hh sc st ox oy wx wy dx dy sh x y fr=31:=by unfold du;rw [nY,pQ];rfl
   rw [hR] at f1 f2 f3;obtain ⟨rfl,rfl,rfl⟩:=f1 (by decide);obtain ⟨rfl,rfl⟩:=f3 (by decide);rw [pQ] at e9;have DZ:cs=z12/\AF=31:=by
    rcases f2 with ⟨a,b,_⟩ | ⟨a,_⟩ | ⟨a,_⟩
    ·exact ⟨a,b⟩
    ·exact absurd a (by decide)
    ·exact absurd a (by decide)
   obtain ⟨rfl,rfl⟩:=DZ;have y1:=R4 h.nW (bad:=31) (by decide) [] [];have y2:=Q1 h.Pb (e:=31) (by decide);unfold dI at y1;unfold z12 at fZ hz g6;unfold ae at y1 y2;by_cases hb:jr s hh sc st ox oy wx wy fr=0
   ·have lG:=lG hb;rw [hb] at e4 t15;simp only [go_sem,ya,yb,yt,ye,yh,ic,jN,ax,t3,t5,t6,t7,t8,t9,t10,t11,t12,t13,t14,t15,g1,g3,g4,g5,g6,g7,aV,yd,z7,BI,FG,jE,Pe,aB,e1,e2,yo,yq,yH,yF,yj,fk,dl,fU,aZ,hw.ah,e3,bl,pR,e4,fb,e5,e6,e7,lG,e9,vN,y1,hz,fZ,cQ,y2]
   ·have ff:=ff hb;simp only [go_sem,ya,yb,yt,ye,yh,ic,jN,ax,t3,t5,t6,t7,t8,t9,t10,t11,t12,t13,t14,t15,g1,g3,g4,g5,g6,g7,aV,yd,z7,BI,FG,jE,Pe,aB,e1,e2,yo,yq,yH,yF,yj,fk,dl,fU,aZ,hw.ah,e3,bl,pR,e4,fb,e5,e6,e7,hb,ff,e9,vN,y1,hz,fZ,cQ,y2]
  | true=>
   have hR:du s hh sc st ox oy wx wy dx dy sh x y fr=0:=by unfold du;rw [nY,pQ];rfl
   have Cf:=Cf hR;have DY:=DY hR;have DZ:((cV (aS (cS hh sc ox wx dx sh x fr)) (aS (cS hh sc oy wy dy sh y fr))).any LG=true/\cs=z12/\AF=4)\/((cV (aS (cS hh sc ox wx dx sh x fr)) (aS (cS hh sc oy wy dy sh y fr))).any LG=false/\cs=gl s.length (cS hh sc ox wx dx sh x fr) (cS hh sc oy wy dy sh y fr)/\AF=0):=by
    rcases f2 with ⟨_,_,a⟩ | ⟨_,a⟩ | ⟨_,a⟩
    ·exact absurd hR a
    ·exact .inl a
    ·exact .inr a
   rw [pQ] at e9;have hS:=I0 hw k.scr;have n0:=hS.pos;have n1:=hS.le;have y1:=afq h.r hw k;have y2:=axm h.r hw k;have y3:=agI h.r.toAv.toAr k.kX k.kY (by omega) (by omega) (n:=s.length) (by omega) (by omega);rw [Z8] at y3;have fin:=fun tm hp ct=>al3 h (n:=s.length) k.kX k.kY (by omega) (by omega) DZ (tm:=tm) (hp:=hp) ct
   generalize cS hh sc ox wx dx sh x fr=X at*
   generalize cS hh sc oy wy dy sh y fr=Y at*
   have aX:=fun hp ct id x0 x1 x2 x3 x4 x5 x6 x7 x8 x9 xa xb=>ET hp ct id (lH s.length X Y 0) (lI s.length X Y 0) (lH s.length X Y 1) (lI s.length X Y 1) (lH s.length X Y 2) (lI s.length X Y 2) (lH s.length X Y 3) (lI s.length X Y 3) (RT ((1-aS X)*(1-aS Y))) (RT (aS X*(1-aS Y))) (RT ((1-aS X)*aS Y)) (RT (aS X*aS Y)) x0 x1 x2 x3 x4 x5 x6 x7 x8 x9 xa xb
   rw [Sl 9 (c:=jN 8 ic.body) (by refine ⟨rfl,rfl,rfl,rfl,rfl,rfl,rfl,rfl,rfl,?_⟩;show _=_;rfl)]
   unfold cM fj dI at y1 y2;unfold gh at y1 y3 Cf;unfold ae at y1 y2 y3 Cf DY;have agR:∀jh gC,af jh 10= .ptr 6 0->af jh 11=aa AF->af jh 19= .ptr 13 0->ak gC 6=some (.cells true true true 12 cs)->ak gC 13=some (.cells true true true 12 (gl s.length X Y))->D P L (nT 9 (jN 8 ic.body)) ⟨tm,hp,8,0⟩=some (.normal,⟨jh,gC,14,0⟩)->
     fJ [.t 4] (mA P L (D P L (nT 9 (jN 8 ic.body)) ⟨tm,hp,8,0⟩) (jN 9 (jN 8 ic.body)))=some (.bool true):=fun jh gC a b c d f e=>by
    rw [e,fu];exact fin jh gC 14 a b c d f
   by_cases hb:jr s hh sc st ox oy wx wy fr=0
   ·have lG:=lG hb;rw [hb] at e4 t15;refine agR _ _ ?_ ?_ ?_ ?_ ?_ (by simp only [go_sem,ya,yb,yt,ye,yh,ic,nT,bC,jN,ax,t3,t5,t6,t7,t8,t9,t12,t13,t14,t15,g1,g3,g4,g5,g7,aV,yd,z7,BI,FG,jE,Pe,aB,e1,e2,yq,yH,yj,fk,dl,fU,aZ,hw.len,hw.ah,e3,bl,pR,e4,fb,e5,e6,e7,lG,e9,de,y1,Cf,y2,DY,y3,gl,aX]<;>rfl)<;>simp only [go_sem,ya,t10,t11,g6,gl]
   ·have ff:=ff hb;refine agR _ _ ?_ ?_ ?_ ?_ ?_ (by simp only [go_sem,ya,yb,yt,ye,yh,ic,nT,bC,jN,ax,t3,t5,t6,t7,t8,t9,t12,t13,t14,t15,g1,g3,g4,g5,g7,aV,yd,z7,BI,FG,jE,Pe,aB,e1,e2,yo,yq,yH,yF,yj,fk,dl,fU,aZ,hw.len,hw.ah,e3,bl,pR,e4,fb,e5,e6,e7,hb,ff,e9,de,y1,Cf,y2,DY,y3,gl,aX]<;>rfl)<;>simp only [go_sem,ya,t10,t11,g6,gl]
 ·have hR:du s hh sc st ox oy wx wy dx dy sh x y fr=kC s hh sc st ox oy wx wy dx dy sh x y fr:=by unfold du;rw [yI nY]
  rw [hR] at f1 f2 f3;generalize kC s hh sc st ox oy wx wy dx dy sh x y fr=E at*
  obtain ⟨rfl,rfl,rfl⟩:=f1 nY;obtain ⟨rfl,rfl⟩:=f3 nY;have DZ:cs=z12/\AF=Ce:=by
   rcases f2 with ⟨a,b,_⟩ | ⟨a,_⟩ | ⟨a,_⟩
   ·exact ⟨a,b⟩
   ·exact absurd a nY
   ·exact absurd a nY
  obtain ⟨rfl,rfl⟩:=DZ;have y1:=R4 h.nW nY [] [];have y2:=Q1 h.Pb nY;unfold dI at y1;unfold z12 at fZ hz g6;unfold ae at y1 y2;by_cases hb:jr s hh sc st ox oy wx wy fr=0
  ·have lG:=lG hb;rw [hb] at e4 t15;simp only [go_sem,ya,yb,yt,ye,yh,ic,jN,ax,t3,t5,t6,t7,t8,t9,t10,t11,t12,t13,t14,t15,g1,g3,g4,g5,g6,g7,aV,yd,z7,BI,FG,jE,aB,e1,e2,yo,yq,yH,yF,yj,fk,dl,fU,aZ,hw.ah,e3,bl,pR,e4,fb,e5,e6,e7,lG,nY,y1,hz,fZ,cQ,y2]
  ·have ff:=ff hb;simp only [go_sem,ya,yb,yt,ye,yh,ic,jN,ax,t3,t5,t6,t7,t8,t9,t10,t11,t12,t13,t14,t15,g1,g3,g4,g5,g6,g7,aV,yd,z7,BI,FG,jE,aB,e1,e2,yo,yq,yH,yF,yj,fk,dl,fU,aZ,hw.ah,e3,bl,pR,e4,fb,e5,e6,e7,hb,ff,nY,y1,hz,fZ,cQ,y2]
end
end
section
open Go (IntKind)
def X1:∀{s:List (List Int)},pV s=true->∀i (hi:i<s.length),s[i].length<=18
 | [],_,i,hi=>absurd hi (Nat.not_lt_zero _)
 | r::s,h,i,hi=>by
  simp only [pV] at h
  split at h
  ·grind
  ·cases i with
   | zero=>simp only [List.getElem_cons_zero];omega
   | succ i=>simp only [List.getElem_cons_succ];exact X1 h i (by simpa using hi)
def al4 {n:Nat} {s:List (List Int)} (h:A8 n s=true):s.length<=18/\∀i (hi:i<s.length),s[i].length<=18:=by
 unfold A8 at h
 split at h
 ·grind
 ·exact ⟨by omega,X1 h⟩
def atl {a b:List Nat} (h:jO [a,b]=true):a.length<=40/\b.length<=40:=by
 simp only [jO,tL,yaY,uF,yg,wP] at h;exact h
def atm {a b c d e f g:List Nat} (h:jO [a,b,c,d,e,f,g]=true):a.length<=40/\b.length<=40/\c.length<=40/\d.length<=40/\e.length<=40/\f.length<=40/\g.length<=40:=by
 simp only [jO,tL,yaY,uF,yg,wP] at h;exact h
def atn {cs:List AV} (hl:cs.length=12) (ho:bK cs=true) (ao:aH cs=true) (hp:Hp) (ct id:Nat) (x0 x1 x2 x3 x4 x5 x6 x7 x8 x9 xa xb:AV):eM hp ct id 0 12 cs (some (.cells true true true 12 [x0,x1,x2,x3,x4,x5,x6,x7,x8,x9,xa,xb]))=some (.ap [],aW hp id (.cells true true true 12 cs),ct):=by
 rw [jb hl (by simp) ho,ao]
 match cs,hl with
 | [_,_,_,_,_,_,_,_,_,_,_,_],_=>rfl
section
variable {P:aG} {L:Lib}
def ato (h:AK P L) {w:AV} {s:List (List Int)} (hw:cF w s) (hl:s.length<=1000000) (hr:∀i (hi:i<s.length),s[i].length<=1000000) {hh sc st ox oy wx wy:List Nat} {fr:Int} (l1:hh.length<=1000000000) (l2:sc.length<=1000000000) (l3:st.length<=1000000000) (l4:ox.length<=1000000000) (l5:oy.length<=1000000000) (l6:wx.length<=1000000000) (l7:wy.length<=1000000000):
  ∃(b0:AV) (b1 b2 b3 b4 b5 b6 b7:List Nat),ae P L 362 [cM w hh sc st ox oy wx wy,aa fr] (.ap [.agg [b0,.str b1,.str b2,.str b3,.str b4,.str b5,.str b6,.str b7],aa (jr s hh sc st ox oy wx wy fr)])/\bm b0=true/\aR b0=true/\
   (∀(n:Nat) (hp:Hp),freeze (n+20) hp (.agg [b0,.str b1,.str b2,.str b3,.str b4,.str b5,.str b6,.str b7])=some (.agg [b0,.str b1,.str b2,.str b3,.str b4,.str b5,.str b6,.str b7],hp))/\
   (jr s hh sc st ox oy wx wy fr≠0->ae P L 363 [.agg [b0,.str b1,.str b2,.str b3,.str b4,.str b5,.str b6,.str b7],cM .ab [] [] [] [] [] [] []] (.bool true))/\
   (jr s hh sc st ox oy wx wy fr=0->ae P L 363 [.agg [b0,.str b1,.str b2,.str b3,.str b4,.str b5,.str b6,.str b7],cM w hh sc st (RT (aM ox+(fr:Rat)*aM wx)) (RT (aM oy+(fr:Rat)*aM wy)) wx wy] (.bool true))/\
   (jr s hh sc st ox oy wx wy fr≠0->b0= .ab/\b1=[]/\b2=[]/\b3=[]/\b4=[]/\b5=[]/\b6=[]/\b7=[]):=by
 obtain ⟨c1,c2⟩:=axs h.p h.Kk h.Vq hw hl hr (fr:=fr) l1 l2 l3 l4 l5 l6 l7;by_cases hb:jr s hh sc st ox oy wx wy fr=0
 ·obtain ⟨w',AA,e⟩:=c2 hb;refine ⟨w',_,_,_,_,_,_,_,?_,AA.one,AA.pu,fun n hp=>aZ _ _ (by simp only [go_sem,AA.ah]),fun c=>absurd hb c,fun _=>Vh h.DO h.Ap h.Kj AA hw hl hr _ _ _ _ _ _ _,fun c=>absurd hb c⟩;rw [hb];exact e
 ·refine ⟨.ab,[],[],[],[],[],[],[],c1 hb,rfl,rfl,fun n hp=>rfl,fun _=>Vh h.DO h.Ap h.Kj H6 H6 (by simp) (by simp) [] [] [] [] [] [] [],fun c=>absurd c hb,fun _=>⟨rfl,rfl,rfl,rfl,rfl,rfl,rfl,rfl⟩⟩
def aiu (h:AK P L) {w:AV} {s:List (List Int)} (hw:cF w s) {hh sc st ox oy wx wy dx dy sh x y:List Nat} {fr:Int} (b1:hh.length<9223372036854775808) (b2:sc.length<9223372036854775808) (b3:st.length<9223372036854775808) (b4:ox.length<9223372036854775808) (b5:oy.length<9223372036854775808) (b6:wx.length<9223372036854775808) (b7:wy.length<9223372036854775808) (b8:dx.length<9223372036854775808) (b9:dy.length<9223372036854775808) (ba:sh.length<9223372036854775808) (bb:x.length<9223372036854775808) (bc:y.length<9223372036854775808):
  ae P L 378 [cM w hh sc st ox oy wx wy,.agg [.str dx,.str dy,.str sh,.str x,.str y,aa fr]] (.bool true):=by
 have ea:=h.auQ;have AG:=axk h.h2 h.r.toSr0.Kd h.Vg hw (n:=6) b1 b2 b3 b4 b5 b6 b7;have Hn:=awY h.r.toSr0 b8 b9 ba;have Ho:=U4 h.r.toSr0.Kd (Cx true [x,y]) (by simp) (fun t ht=>by
  simp at ht
  rcases ht with rfl | rfl<;>omega)
 simp only [yr,yE,yd,yb,yU,xU] at Ho;have o1:=hw.one;have p1:=hw.pu;have AG:ae P L 327 [cM w hh sc st ox oy wx wy,.int .i64 6] (.bool (A8 6 s&&jO [hh,sc,st,ox,oy,wx,wy])):=AG;unfold ae at ea AG Hn Ho
 cases ff:(A8 6 s&&jO [hh,sc,st,ox,oy,wx,wy]) with
 | false=>
  rw [ff] at AG;unfold ae;rw [av h.Pd];unfold cM at*
  simp only [go_sem,ya,yb,ic,yd,fk,aZ,aB,o1,p1,hw.ah,yj,ea,yH,AG,yF]
 | true=>
  rw [ff] at AG
  cases lG:jO [dx,dy,sh] with
  | false=>
   rw [lG] at Hn;unfold ae;rw [av h.Pd];unfold cM at*
   simp only [go_sem,ya,yb,ic,aV,yd,fk,fU,aZ,aB,o1,p1,hw.ah,yj,ea,yH,AG,Hn,yF]
  | true=>
   rw [lG] at Hn
   cases XL:jO [x,y] with
   | false=>
    rw [XL] at Ho;unfold ae;rw [av h.Pd];unfold cM at*
    simp only [go_sem,ya,yb,yt,ye,yh,ic,aV,yd,z7,agQ,fk,fU,aZ,aB,o1,p1,hw.ah,yj,ea,yH,AG,Hn,Ho,yF]
   | true=>
    rw [XL] at Ho;obtain ⟨fS,KC⟩:=Bool.and_eq_true_iff.1 ff;obtain ⟨sl,sr⟩:=al4 fS;have hl:s.length<=1000000:=by omega
    have hr:∀i (hi:i<s.length),s[i].length<=1000000:=fun i hi=>by have:=sr i hi;omega
    obtain ⟨l1,l2,l3,l4,l5,l6,l7⟩:=atm KC;obtain ⟨l8,l9,la⟩:=atf lG;obtain ⟨lb,lc⟩:=atl XL;have e1:=axj h.r.toS0 h.r.h3 h.r.pL h.r.Vf hw (hh:=hh) (sc:=sc) (st:=st) (ox:=ox) (oy:=oy) (wx:=wx) (wy:=wy) (by omega) (by omega) (by omega) (by omega) (by omega) (by omega) (by omega);have e2:=Vd h.p hw hl hr (hh:=hh) (sc:=sc) (st:=st) (ox:=ox) (oy:=oy) (wx:=wx) (wy:=wy) (by omega) (by omega) (by omega) (by omega) (by omega) (by omega) (by omega);obtain ⟨u,v,z1,e3,f1,Cf⟩:=atg h hw hl hr (hh:=hh) (sc:=sc) (st:=st) (ox:=ox) (oy:=oy) (wx:=wx) (wy:=wy) (dx:=dx) (dy:=dy) (sh:=sh) (x:=x) (y:=y) (fr:=fr) (by omega) (by omega) (by omega) (by omega) (by omega) (by omega) (by omega) (by omega) (by omega) (by omega) (by omega) (by omega)
    obtain ⟨cs,z2,e4,f2⟩:=ati h hw hl hr (hh:=hh) (sc:=sc) (st:=st) (ox:=ox) (oy:=oy) (wx:=wx) (wy:=wy) (dx:=dx) (dy:=dy) (sh:=sh) (x:=x) (y:=y) (fr:=fr) (by omega) (by omega) (by omega) (by omega) (by omega) (by omega) (by omega) (by omega) (by omega) (by omega) (by omega) (by omega);obtain ⟨u3,z3,e5,f3,DY⟩:=ath h hw hl hr (hh:=hh) (sc:=sc) (st:=st) (ox:=ox) (oy:=oy) (wx:=wx) (wy:=wy) (dx:=dx) (dy:=dy) (sh:=sh) (x:=x) (y:=y) (fr:=fr) (by omega) (by omega) (by omega) (by omega) (by omega) (by omega) (by omega) (by omega) (by omega) (by omega) (by omega) (by omega);obtain ⟨b0,b1',b2',b3',b4',b5',b6',b7',e6,ob,pb,fb,eh,pG,hc3⟩:=ato h hw hl hr (hh:=hh) (sc:=sc) (st:=st) (ox:=ox) (oy:=oy) (wx:=wx) (wy:=wy) (fr:=fr) (by omega) (by omega) (by omega) (by omega) (by omega) (by omega) (by omega);have jj:cs.length=12/\bK cs=true/\aH cs=true:=by
     rcases f2 with ⟨rfl,_⟩ | ⟨_,_,rfl,_⟩ | ⟨_,_,rfl,_⟩<;>exact ⟨rfl,rfl,rfl⟩
    have axw:=atn jj.1 jj.2.1 jj.2.2;have agS:∀(v:AV) (_:bm v=true) (_:aR v=true) (hp:Hp) (ct id:Nat) (a b c d e f g:List Nat) (x0 x1 x2 x3 x4 x5 x6 x7:AV),eM hp ct id 0 8 [v,.str a,.str b,.str c,.str d,.str e,.str f,.str g] (some (.cells true true true 8 [x0,x1,x2,x3,x4,x5,x6,x7]))=some (.ap [],aW hp id (.cells true true true 8 [v,.str a,.str b,.str c,.str d,.str e,.str f,.str g]),ct):=fun v o2 p2 hp ct id a b c d e f g x0 x1 x2 x3 x4 x5 x6 x7=>by
     rw [jb (by rfl) (by simp) (by simp [bK,o2,Il])];simp [aH,p2,over,aR]
    have Vr:=agS w o1 p1;have axx:=agS b0 ob pb;have fin:∀(tm:Env) (hp:Hp),af tm 3= .ptr 1 0->af tm 5= .ptr 3 0->af tm 6= .ptr 4 0->af tm 7=aa (iP s hh sc st ox oy wx wy)->af tm 8= .ptr 5 0->af tm 9=aa z1->af tm 10= .ptr 6 0->af tm 11=aa z2->af tm 12= .str u3->af tm 13=aa z3->af tm 14= .ptr 7 0->af tm 15=aa (jr s hh sc st ox oy wx wy fr)->
      ak hp 1=some (.cells true true true 6 [.str dx,.str dy,.str sh,.str x,.str y,aa fr])->ak hp 3=some (.cells true true true 8 [w,.str hh,.str sc,.str st,.str ox,.str oy,.str wx,.str wy])->ak hp 4=some (.cells true true true 3 [.str dx,.str dy,.str sh])->ak hp 5=some (.cells true true true 2 [.str u,.str v])->ak hp 6=some (.cells true true true 12 cs)->ak hp 7=some (.cells true true true 8 [b0,.str b1',.str b2',.str b3',.str b4',.str b5',.str b6',.str b7'])->
      D P L (nT 8 ic.body) ⟨[(0,cM w hh sc st ox oy wx wy),(1,.agg [.str dx,.str dy,.str sh,.str x,.str y,aa fr])],[],0,0⟩=some (.normal,⟨tm,hp,8,0⟩)->
      ae P L 378 [cM w hh sc st ox oy wx wy,.agg [.str dx,.str dy,.str sh,.str x,.str y,aa fr]] (.bool true):=fun tm hp t3 t5 t6 t7 t8 t9 t10 t11 t12 t13 t14 t15 g1 g3 g4 g5 g6 g7 e=>by
     unfold ae;rw [av h.Pd];show fJ [.t 4] (D P L ic.body ⟨[(0,cM w hh sc st ox oy wx wy),(1,.agg [.str dx,.str dy,.str sh,.str x,.str y,aa fr])],[],0,0⟩)=_
     rw [Sl 8 (c:=ic.body) (by refine ⟨rfl,rfl,rfl,rfl,rfl,rfl,rfl,rfl,?_⟩;show _=_;rfl),e,fu]
     by_cases h0:bj [iP s hh sc st ox oy wx wy,hO fr]=0
     ·obtain ⟨hE,hF⟩:=Eu.1 h0;rw [hE] at t7
      exact atk h (wb:=w) hw hw hl hr (by omega) (by omega) (by omega) (by omega) (by omega) hE hF f1 Cf f2 f3 DY t3 t5 t6 t7 t8 t9 t10 t11 t12 t13 t14 t15 g1 g3 g4 g5 g6 eh pG fb g7
     ·have hB:jr s hh sc st ox oy wx wy fr=bj [iP s hh sc st ox oy wx wy,hO fr]:=by unfold jr;rw [yI h0]
      have hR:du s hh sc st ox oy wx wy dx dy sh x y fr≠0:=fun c=>by
       have k:=(Ev c).1;have k2:=A1 k;unfold kC at k;simp only [Hx,HE,wi] at k;exact h0 (Eu.2 ⟨k.1,k2.fr⟩)
      rw [hB] at t15;obtain ⟨rfl,rfl,rfl,rfl,rfl,rfl,rfl,rfl⟩:=hc3 (by rw [hB];exact h0)
      obtain ⟨rfl,rfl,rfl⟩:=f1 hR;obtain ⟨rfl,rfl⟩:=f3 hR;have DZ:cs=z12/\z2=du s hh sc st ox oy wx wy dx dy sh x y fr:=by
       rcases f2 with ⟨a,b,_⟩ | ⟨a,_⟩ | ⟨a,_⟩
       ·exact ⟨a,b⟩
       ·exact absurd a hR
       ·exact absurd a hR
      obtain ⟨rfl,rfl⟩:=DZ
      exact atj h (wb:=w) hw (by omega) (by omega) (by omega) (by omega) (by omega) h0 rfl t3 t5 t6 t7 t8 t9 t10 t11 t12 t13 t14 t15 g1 g4 g5 g6 g7
    unfold cM fj dI at*
    refine fin _ _ ?_ ?_ ?_ ?_ ?_ ?_ ?_ ?_ ?_ ?_ ?_ ?_ ?_ ?_ ?_ ?_ ?_ ?_ (by simp only [go_sem,ya,yb,yt,ye,yh,ic,nT,bC,ax,aV,yd,z7,agQ,BI,fk,dl,fU,aZ,aB,o1,p1,hw.ah,yj,ea,yH,AG,Hn,Ho,Nb,Nc,MT,Mw,Nf,wp,Vr,auP,e1,e2,e3,e4,e5,e6,yq,Cq,de,axw,axx]<;>rfl)<;>simp only [go_sem,ya]
end
end
section
open Go (IntKind)
abbrev HF:List Ty:=[adI,awa]
def aim {P:aG} {L:Lib} (h:AK P L) {ls:List (List AV)} (hs:li kJ HF ls):ae P L 378 (Jh HF ls) (.bool true):=by
 obtain ⟨_,_,rfl,h1,h2⟩:=asN hs;obtain ⟨w,s,a,b,c,d,e,f,g,rfl,hw,ha,hb,hc,hd,he,hf,hg⟩:=alL h1;obtain ⟨_,_,rfl,k1,_,_,rfl,k2,_,_,rfl,⟨fr,rfl,_⟩,rfl⟩:=h2;obtain ⟨dx,dy,sh,rfl,b1,b2,b3⟩:=an3 k1;obtain ⟨x,y,rfl,b4,b5⟩:=Ma k2;exact aiu h hw ha hb hc hd he hf hg b1 b2 b3 b4 b5
end
section
namespace J2
open Go Go.Proofs
def T:List (Tr aC):=[.n 1 [.o 7 [] (.bool true)] .l .l]
def L0:VE.Lib:=SU VE.aU 99 MV
def L1:VE.Lib:=OA L0 T 1000
def nu:Nu VE.prog VE.aU:=by
 repeat' (first | rfl | constructor)
def lw:AK VE.prog L1:=by
 repeat' (first | rfl | constructor)
section
variable {W:World} {m:Int} (hm:W.cell? ⟨0,0,none⟩=some (.int .i64 m)) (ht:Go.Lib.TabIs Tryz.prog W "internal/strconv.uint64pow10" .u64 Go.Lib.pow10Tab)
include hm ht
def linked:eP ((J1.O W).sX L1):=by
 have hO:=J1.ao8 hm ht;have hs:=alH hO nu rfl rfl rfl ⟨rfl,rfl,rfl⟩ (fn:=Tryz.f158) (c:=BE) Tryz.func158 rfl rfl trivial an0;have hT:eT (J1.O W) T:=eT.cons (Tr.kS (lf.one (VK1.holds hO rfl rfl)) Tr.jJ Tr.jJ) eT.nil;exact abu (alI hO hs) hT 1000
def law {ls:List (List AV)} (hs:li kJ HF ls):eX (J1.O W) 378 (Jh HF ls) (.bool true):=by
 obtain ⟨k,hk⟩:=adk (aim lw hs);exact sound (linked hm ht) hk
end
end J2
end
end VE
