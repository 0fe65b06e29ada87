import Derived.Test.YtjemkccfpkgopaaGreatDoorWau
import Derived.Test.YtjemkccfpkgopaaGreatDoorWat
import Derived.Test.YtjemkccfpkgopaaGreatDoorWao
import Derived.Test.YtjemkccfpkgopaaGreatDoorWar
import Derived.Test.YtjemkccfpkgopaaGreatDoorWas
set_option linter.all false
set_option maxRecDepth 100000
open Bool renaming and_self→wm,not_false→yO,not_true→yR
open Int renaming reduceEq→vV
open List renaming eq_nil_of_length_eq_zero→yB,getD_eq_getElem?_getD→y9,getElem?_eq_getElem→xM,getElem_map→xx,getElem_mem→yS,getElem_replicate→yab,length_append→yG,length_cons→yz,length_map→yr,length_nil→yK,length_take→yE,length_zipWith→yau,map→wb,map_append→xi,map_cons→xa,map_nil→vM,mem_append→xZ,mem_append_right→vv,mem_cons_of_mem→we,mem_cons_self→wF,mem_map→vO,mem_of_mem_take→yam,mem_singleton→xC,nil_append→xB,replicate→yj,replicate_succ→wo,replicate_succ'→yal,take_length→xD,take_of_length_le→yN,take_succ_eq_append_getElem→xb,zipWith→wQ,zipWith_cons_cons→yaa
open Nat renaming ble_eq_true_of_le→ym,blt→yQ,le_refl→yu,mul_le_mul_right→yV,mul_one→yf,pow_le_pow_right→xh,reduceAdd→yb,reduceEqDiff→ya,reduceLT→yD,reduceLeDiff→yk,reduceMul→xt,sub_self→yaK,zero_add→ye
open Option renaming getD_some→ue
namespace VE
section
def ahJ {w:Nat} {m:Mx} (h:wid (w+1) m):wid w (gB w m):=fun i hi=>by
 rw [MK] at hi;rw [Ba,yE,h i hi];omega
def avH {m:Mx} {w:Nat} (hw:wid (w+1) m) (h0:0<w):(w∉(aq m (w+1)).2/\(aq (gB w m) w).2.length=w)↔((aq m (w+1)).2.length=w/\(aq m (w+1)).2.getD (w-1) 0=w-1):=by
 have h:=Nf (ahJ hw) w (yu w);have aW:=h.pv.lt
 rcases aen (m:=m) (w:=w) with e | e
 ·rw [e];constructor
  ·rintro ⟨_,hl⟩;refine ⟨hl,?_⟩;rw [y9,xM (by omega),ue];exact ahI hl h.inc aW (w-1) (by omega)
  ·rintro ⟨hl,_⟩;exact ⟨fun hm=>absurd (aW _ hm) (by omega),hl⟩
 ·rw [e];constructor
  ·rintro ⟨hm,_⟩;exact absurd (vv _ (xC.2 rfl)) hm
  ·rintro ⟨hl,hg⟩;rw [yG,List.length_singleton] at hl;rw [y9,List.getElem?_append_right (by omega),show w-1-(aq (gB w m) w).2.length=0 by omega] at hg;simp only [List.getElem?_cons_zero,ue] at hg;omega
def avI {m:Mx} {w:Nat} (hw:wid (w+1) m) (hm:w∉(aq m (w+1)).2) (hl:(aq (gB w m) w).2.length=w):(aq m (w+1)).2.length=w/\∀i (hi:i<(aq m (w+1)).2.length),(aq m (w+1)).2[i]=i:=by
 have h:=Nf (ahJ hw) w (yu w)
 rcases aen (m:=m) (w:=w) with e | e
 ·simp only [e];exact ⟨hl,fun i hi=>ahI hl h.inc h.pv.lt i hi⟩
 ·exact absurd (by rw [e];exact vv _ (xC.2 rfl)) hm
end
section
open Go (IntKind)
def cm (R:Mx) (b:List Rat):Mx:=wQ (fun r x=>r++[x]) R b
def pw {R:Mx} {b:List Rat} (h:b.length=R.length):(cm R b).length=R.length:=by unfold cm;rw [yau];omega
def Iz {R:Mx} {b:List Rat} {i:Nat} (h:i<R.length) (hb:i<b.length):(cm R b)[i]'(by unfold cm;rw [yau];omega)=R[i]++[b[i]]:=by simp [cm]
def Nh {R:Mx} {b:List Rat} {w:Nat} (hw:wid w R) (h:b.length=R.length):wid (w+1) (cm R b):=fun i hi=>by
 rw [pw h] at hi
 have:=hw i hi
 rw [eQ hi] at this;rw [eQ (by rw [pw h];exact hi),Iz hi (by omega),yG,this];rfl
def avJ {R:Mx} {b:List Rat} {w:Nat} (hw:wid w R) (h:b.length=R.length):gB w (cm R b)=R:=by
 have lc:(gB w (cm R b)).length=R.length:=by rw [MK,pw h]
 refine List.ext_getElem lc (fun i h1 h2=>?_)
 have:=hw i h2
 rw [eQ h2] at this;have e:=Ba w (cm R b) i;rw [eQ h1,eQ (by rw [pw h];exact h2),Iz h2 (by omega),List.take_left' this] at e
 exact e
def ajM {R:Mx} {b:List Rat} {K:Nat} (hk:eJ K R) (hb:∀x,x∈b->Hq K x) (h:b.length=R.length):eJ K (cm R b):=fun i hi x hx=>by
 rw [pw h] at hi;rw [eQ (by rw [pw h];exact hi),Iz hi (by omega)] at hx
 rcases xZ.1 hx with hx | hx
 ·have:=hk i hi
  rw [eQ hi] at this;exact this x hx
 ·simp only [xC] at hx;rw [hx];exact hb _ (yS _)
def Bb (W:Mx) (w:Nat):Prop:=(aq W (w+1)).2.length=w/\(aq W (w+1)).2.getD (w-1) 0=w-1
instance (W:Mx) (w:Nat):Decidable (Bb W w):=inferInstanceAs (Decidable (_/\_))
def kv (W:Mx) (w:Nat):List Rat:=((aq W (w+1)).1.take w).map fun r=>b9 r w
def aBf {hp:Hp} {ct sz by' n m:Nat} {cs new:List AV} (hm:0<m) (h1:n+m<=1099511627776) (h2:(n+m)*by'<=1099511627776) (hl:cs.length=n*sz) (hs:0<sz):
  sr hp ct sz by' (.aw true n cs) (some (m,new))=some (.ao ct 0 (n+m),(ct,.cells true (aG cs&&aG new) false sz (cs++new))::hp,ct+1):=by
 have e1:Nat.beq m 0=false:=gF (by omega);have e2:yQ 0 sz=true:=ym hs;simp [sr,e1,e2,hl,ym (show n+m<=room from h1),ym (show (n+m)*by'<=room from h2)]
def ab9 {k:Nat} (y:Bool):∀{T:List (List AV)} {W:Mx},cK QL T W->(∀r,r∈W->r.length=k)->cK et (wQ (fun w r=>AV.aw y w r) (yj T.length k) T) W
 | [],[],_,_=>trivial
 | c::T,r::W,h,hw=>by
  rw [yz,wo,yaa]
  have:=MH y h.1
  rw [hw r wF] at this;exact ⟨this,ab9 y h.2 (fun q hq=>hw q (we _ hq))⟩
def ahK {k:Nat}:∀{T:List (List AV)} {W:Mx},cK QL T W->(∀r,r∈W->r.length=k)->∀c,c∈T->c.length=k*4
 | [],[],_,_,c,hc=>by cases hc
 | c::T,r::W,h,hw,x,hx=>by
  rcases List.mem_cons.1 hx with rfl | hx
  ·rw [QL.len h.1,hw r wF]
  ·exact ahK h.2 (fun q hq=>hw q (we _ hq)) x hx
section
variable {P:aK} {L:Lib}
def azD (h:Ck P L) {v bv rv:AV} (pv:bg v=true) {R:Mx} {l:List (List Nat)} {w:Nat} (hr:cL Af rv R) (hw:wid w R) (kZ:w<=1000) (hb:bS bv l) (hl:l.length=R.length) (hn:R.length<=1000) (h0:0<R.length) (hc:∀s,s∈l->cf s=0):
  ∀(d:Nat) (st:St),(∃(i:Nat) (T:List (List AV)),i+d=R.length/\T.length=i/\cK QL T ((cm R (l.map cV)).take i)/\((i=0/\aI [0,1,7,34,35,36] st=⟨[(0,v),(1,bv),(7,.aa),(34,rv),(35,ab R.length),(36,ab i)],[],0,0⟩)\/(0<i/\∃hp,aI [0,1,7,34,35,36] st=⟨[(0,v),(1,bv),(7,.ao 0 0 i),(34,rv),(35,ab R.length),(36,ab i)],hp,1+i,0⟩/\ma hp false false 4 (yj T.length (w+1)) T 0)))->
   ∃ex s',D P L (.loop [0,1,7,34,35,36] EO) st=some (ex,s')/\∃tm hp ct T,s'=⟨tm,hp,ct,0⟩/\ex= .exit 0/\ai tm 0=v/\ai tm 7= .ao 0 0 R.length/\T.length=R.length/\cK QL T (cm R (l.map cV))/\ma hp false false 4 (yj T.length (w+1)) T 0:=by
 have lb:(l.map cV).length=R.length:=by rw [yr];exact hl
 intro dq sq;generalize bk:aI [0,1,7,34,35,36] sq=s0;revert bk s0 sq dq;apply du;rintro d st ⟨i,T,hid,hT,hQ,aO⟩;by_cases hi:i<R.length
 ·left
  obtain ⟨r,rest,iK,e0⟩:=hr.aY hi;obtain ⟨cs,rfl,pV⟩:=iK;have wr:=hw i hi;rw [eQ hi] at wr;have lcs:=pV.len;have e1:=hb.aY (i:=i) (by omega);obtain ⟨q,e2,hq⟩:=alQ h (hc _ (yS (show i<l.length by omega)));have bR:=hq;obtain ⟨q1,q2,q3,q4,rfl,gq⟩:=hq.gen;have bz:∀tm,pD tm [AV.int .i64 0,.aa,.int .i64 0,.aa] 0 4 [q1,q2,q3,q4] []=fill tm [q1,q2,q3,q4] []:=fun tm=>Th gq.o1 gq.o2 gq.o3 gq.o4
  obtain ⟨p1,p2,p3,p4⟩:=gq.Lv;have Cm:cK QL (T++[cs++[q1,q2,q3,q4]]) ((cm R (l.map cV)).take (i+1)):=by
   rw [xb (by rw [pw lb];exact hi),Iz hi (by omega),xx]
   exact hQ.snoc (pV.snoc bR)
  have hax:=fun (hp:Hp) (ct:Nat)=>aBf (hp:=hp) (ct:=ct) (sz:=4) (by':=64) (n:=R[i].length) (m:=1) (cs:=cs) (new:=[q1,q2,q3,q4]) (by omega) (by omega) (by omega) lcs (by decide)
  simp only [pV.pu,aG,p1,p2,p3,p4,wm,wr] at hax;have w4:IntKind.wrap .i64 ((i:Int)+1)=((i+1:Nat):Int):=wrap64 (by omega) (by omega);have rB:(i:Int)<R.length:=by omega
  unfold ak at e2;rcases aO with ⟨lX,rfl⟩ | ⟨lX,hp,rfl,hM⟩
  ·subst lX;have hT0:T=[]:=yB hT;subst hT0;simp only [go_sem,ya,yb,xt,yD,yk,yf,EO,rB,e0,e1,wr,e2,cd,bz,p1,p2,p3,p4,wm,Ff,hax,ij,w4];refine ⟨_,d-1,rfl,by omega,1,[cs++[q1,q2,q3,q4]],by omega,rfl,Cm,.inr ⟨by omega,?_⟩⟩;refine ⟨[(1,.cells true true false 4 (cs++[q1,q2,q3,q4])),(0,.cells true false false 1 [.ao 1 0 (w+1)])],by simp only [go_sem,ya,yb,ax,aD pv,aE _ pv,aD hb.pu,aE _ hb.pu,aD hr.pu,aE _ hr.pu]<;>rfl,⟨rfl,rfl,fun k hk=>?_⟩⟩
   have:k=0:=by simp at hk;omega
   subst this;rfl
  ·have g0:=hM.m;rw [hT] at g0;have gr:=hM.r;rw [hT] at gr;simp only [go_sem,ya,yb,xt,yk,yf,EO,rB,e0,e1,wr,e2,cd,bz,p1,p2,p3,p4,wm,Ff,hax]
   rw [fS (sz:=1) (ex:=false) (pu:=false) (cs:=iT (iM i) (yj i (w+1)) 0) (by rw [dn _ _ (by omega),dn _ _ (by omega),dn _ _ (by omega)];exact g0) (by simp [iT,rC,rL]) (by omega) (by omega) (by decide) (by simp only [go_sem])]
   simp only [go_sem,ya,w4];refine ⟨_,d-1,rfl,by omega,i+1,T++[cs++[q1,q2,q3,q4]],by omega,by simp [hT],Cm,.inr ⟨by omega,?_⟩⟩;rw [show (T++[cs++[q1,q2,q3,q4]]).length=i+1 by simp [hT],yal];rw [hT] at hM
   refine ahD (x:=false) (r:=0) hM hT (a:=1+i+1+1+1) (b:=1+i+1) (by simp only [go_sem,ya,aD pv,aD hb.pu,aD hr.pu]<;>rfl) (by omega) (by omega) (by omega) (by rw [fR];simp [iT]) (fun j hj=>?_) ?_ (by omega) (fun S q=>by simp only [go_sem,ya,q,aE _ pv,aE _ hb.pu,aE _ hr.pu]<;>rfl)
   ·rw [dn _ _ (by omega),dn _ _ (by omega),dn _ _ (by omega),rF,yx (by omega),dn _ _ (by omega)]
   ·rw [dn _ _ (by omega),dn _ _ (by omega),fR]
 ·right
  have:i=R.length:=by omega
  subst this;rcases aO with ⟨lX,rfl⟩ | ⟨lX,hp,rfl,hM⟩
  ·omega
  ·rw [yN (by rw [pw lb];exact yu _)] at hQ
   simp only [go_sem,ya,EO,show ¬(R.length:Int)<R.length by omega];exact ⟨_,_,rfl,by simp,_,_,_,T,rfl,rfl,by simp only [go_sem,ya],by simp only [go_sem,ya],hT,hQ,hM⟩
def azE {rv:AV} {R:Mx} {w:Nat} (hr:cL et rv R) (hw:wid (w+1) R) (kZ:w<=1000) (hn:R.length<=1000):
  ∀(d:Nat) (st:St),(∃(i:Nat) (out:List AV),i+d=R.length/\QL out ((R.take i).map fun r=>b9 r w)/\aI [10,13,76,77,78] st=⟨[(10,ab w),(13,oV 0 i),(76,rv),(77,ab R.length),(78,ab i)],oH 0 4 out [] i,oC 0 i,0⟩)->
   ∃ex s',D P L (.loop [10,13,76,77,78] CO) st=some (ex,s')/\∃tm ct out,s'=⟨tm,oH 0 4 out [] R.length,ct,0⟩/\ex= .exit 2/\ai tm 13=oV 0 R.length/\QL out (R.map fun r=>b9 r w):=by
 intro dq sq;generalize bk:aI [10,13,76,77,78] sq=s0;revert bk s0 sq dq;apply du;rintro d st ⟨i,out,hid,hQ,rfl⟩;by_cases hi:i<R.length
 ·left
  obtain ⟨r,rest,iK,e0⟩:=hr.aY hi;have wr:=hw i hi;rw [eQ hi] at wr;obtain ⟨q1,q2,q3,q4,pr,e1,hq⟩:=iK.aY (i:=w) (by omega);have gq:=hq.f4;have bz:∀tm,pD tm [AV.int .i64 0,.aa,.int .i64 0,.aa] 0 4 [q1,q2,q3,q4] []=fill tm [q1,q2,q3,q4] []:=fun tm=>Th gq.o1 gq.o2 gq.o3 gq.o4
  obtain ⟨p1,p2,p3,p4⟩:=gq.Lv;have pY:aG [q1,q2,q3,q4]=true:=by simp only [aG,p1,p2,p3,p4,wm]
  have Cm:QL (out++[q1,q2,q3,q4]) ((R.take (i+1)).map fun r=>b9 r w):=by
   rw [xb hi,xi];refine hQ.snoc ?_;show eN _ (b9 R[i] w)
   rw [jw (show w<R[i].length by omega)];exact hq
  have lo:=hQ.len;rw [yr,yE,Nat.min_eq_left (by omega)] at lo;have w4:IntKind.wrap .i64 ((i:Int)+1)=((i+1:Nat):Int):=wrap64 (by omega) (by omega)
  cases i with
  | zero=>
   have:out=[]:=yB (by omega)
   subst this;simp only [go_sem,ya,yb,xt,yD,yk,CO,oV,oH,oC,show ((0:Nat):Int)<R.length by omega,e0,e1,rE,pQ,rY,bz,p1,p2,p3,p4,wm,Ff,ij];refine ⟨_,d-1,rfl,by omega,1,_,by omega,Cm,?_⟩;rw [w4];simp only [go_sem,ya,yb,ax,aD hr.pu,aE _ hr.pu]<;>rfl
  | succ i=>
   simp only [go_sem,ya,yb,xt,CO,oV,oH,oC,show ((i+1:Nat):Int)<R.length by omega,e0,e1,rE,pQ,rY,bz,p1,p2,p3,p4,wm,Ff]
   rw [fS (ex:=false) (pu:=true) (cs:=out) (by simp only [go_sem,ya]) lo (by omega) (by omega) (by decide) (by simp only [go_sem,gq.o1,gq.o2,gq.o3,gq.o4])];simp only [go_sem,ya,yb,pY];refine ⟨_,d-1,rfl,by omega,i+1+1,_,by omega,Cm,?_⟩;rw [w4];simp only [go_sem,ya,yb,ax,aD hr.pu,aE _ hr.pu]<;>rfl
 ·right
  have:i=R.length:=by omega
  subst this;rw [xD] at hQ;simp only [go_sem,ya,CO,show ¬(R.length:Int)<R.length by omega];exact ⟨_,_,rfl,by simp,_,_,out,rfl,rfl,by simp only [go_sem,ya],hQ⟩
def aDw (h:Mtr P L) (DE:Has P L 201 oc) {v bv:AV} {M:List (List (List Nat))} {l:List (List Nat)} (hv:cL bS v M) (hb:bS bv l) (hl:M.length<=1000000) (ll:l.length<=1000000) (hr:∀r,r∈M->r.length<=1000000/\∀s,s∈r->s.length<=1000000000) (hs:∀s,s∈l->s.length<=1000000000):
  (bD [jF M,bD (l.map cf),if l.length=M.length then 0 else 2]≠0->ak P L 201 [v,bv] (.ae [.aa,ab (bD [jF M,bD (l.map cf),if l.length=M.length then 0 else 2])]))/\
  (jF M=0->bD (l.map cf)=0->l.length=M.length->∀{K:Nat},eJ K (fW M)->(∀x,x∈l.map cV->Hq K x)->1<=K->4^M.length*(K+1)<=400000000->
   (¬Bb (cm (fW M) (l.map cV)) (wd M)->ak P L 201 [v,bv] (.ae [.aa,ab 14]))/\
   (Bb (cm (fW M) (l.map cV)) (wd M)->((kv (cm (fW M) (l.map cV)) (wd M)).any LG=true->ak P L 201 [v,bv] (.ae [.aa,ab 4]))/\
    ((kv (cm (fW M) (l.map cV)) (wd M)).any LG=false->∃r,ak P L 201 [v,bv] (.ae [r,ab 0])/\bS (bK r) ((kv (cm (fW M) (l.map cV)) (wd M)).map RT)))):=by
 have e1:=m84 h.toCk h.BL h.Ks h.Kt h.h84 hv hl hr;have e2:=alR h.toCk h.BL hb ll hs;have e3:=mB h.oz (!decide ((l.length:Int)=(M.length:Nat))) 2;have q3:(if (!decide ((l.length:Int)=(M.length:Nat)))=true then (2:Int) else 0)=if l.length=M.length then 0 else 2:=by
  simp only [Bool.not_eq_true',vl];split<;>split<;>omega
 rw [q3] at e3;have e5:ak P L 125 _ _:=Nd.Py h.Pz (lB true [jF M,bD (l.map cf),if l.length=M.length then 0 else 2]) (by simp);simp only [yz,yK,xa,vM] at e5;unfold ak at e1 e2 e3 e5;constructor
 ·intro hE;generalize (if l.length=M.length then (0:Int) else 2)=x3 at*
  generalize jF M=x1 at*
  generalize bD (l.map cf)=x2 at*
  unfold ak;rw [aH DE];simp only [go_sem,ya,yb,yD,yk,yf,oc,hv.len,hv.ap,hb.len,hb.ap,e1,e2,e3,e5,hE,yt,yO]
 ·intro hM hc jT K hk Ce jX hK;obtain ⟨m0,m64,cO⟩:=Tj hM;have hw:=aec (M:=M) (fun r bP=>(cO r bP).1);have lM:=Ev M;have fZ:∀s,s∈l->cf s=0:=HW hc;have Cn:(l.map cV).length=(fW M).length:=by rw [yr,lM];exact jT
  have hW:=Nh hw Cn;have lW:=pw Cn;have LD:=ajM hk Ce Cn;have aJd:wd M<=64/\0<wd M:=by
   have:=cO _ (yS m0)
   unfold wd;rw [Fg m0];omega
  obtain ⟨x,x1,hx⟩:=aA5 h.toCk h.Lw h.Zd hv hl (fun r bP=>⟨(hr r bP).1,(cO r bP).2.2.2⟩);have hx:cL Af (shut x) (fW M):=hx;have f0:=azD (P:=P) (L:=L) h.toCk hv.pu hx hw (by omega) hb (by omega) (by omega) (by omega) fZ (fW M).length;rw [lM] at f0;rw [hM,hc,yM jT] at e5;rw [hM] at e1;rw [hc] at e2;rw [yM jT] at e3;obtain ⟨r0,rest,fa,a0⟩:=hv.aY (i:=0) m0;have iQ:M[0].length=wd M:=(cO _ (yS m0)).1;unfold ak at x1;have Ju:∃hp ct T,D P L (nj 3 oc.body) ⟨dX 0 [v,bv],[],0,0⟩=some (.normal,⟨[(0,v),(7,.ao 0 0 M.length)],hp,ct,0⟩)/\T.length=M.length/\cK QL T (cm (fW M) (l.map cV))/\ma hp false false 4 (yj T.length (wd M+1)) T 0:=by
   have z0:bD [0,0,0]=0:=by decide
   rw [z0] at e5;simp only [go_sem,ya,yb,yD,yk,yf,oc,nj,bw,az,hv.len,hv.ap,hb.len,hb.ap,e1,e2,e3,e5,yq,yR,x1,hx.len,lM];generalize hq:D P L (.loop [0,1,7,34,35,36] EO) _=q;obtain ⟨ex,st,rfl,tm,hp,ct,T,rfl,rfl,t0,t7,lT,hQ,hG⟩:=bJ hq f0 ⟨0,[],by omega,rfl,by simp [cK],.inl ⟨rfl,by simp only [go_sem,ya,ax,aD hv.pu,aE _ hv.pu,aD hb.pu,aE _ hb.pu,aD hx.pu,aE _ hx.pu]<;>rfl⟩⟩
   obtain ⟨aj,e,hG'⟩:=hG.comp (ct:=ct) (live:=[0,7]) (tm:=tm) (tm':=[(0,v),(7,.ao 0 0 M.length)]) (by simp only [go_sem,t0,t7,aD hv.pu]<;>rfl) (by omega) (fun S q=>by simp only [go_sem,t0,t7,q,aE _ hv.pu]<;>rfl)
   simp only [go_sem,e];exact ⟨_,_,T,rfl,lT,hQ,hG'⟩
  obtain ⟨hp,ct,T,hS,lT,hQ,hG⟩:=Ju;have hD:D P L oc.body ⟨dX 0 [v,bv],[],0,0⟩=D P L (lI 3 oc.body) ⟨[(0,v),(7,.ao 0 0 M.length)],hp,ct,0⟩:=by
   rw [M7 3 (c:=oc.body) (by refine ⟨rfl,rfl,rfl,?_⟩;show _=_;rfl),hS,fB]
  have hvR:cL et (.aw false M.length (wQ (fun w r=>AV.aw false w r) (yj T.length (wd M+1)) T)) (cm (fW M) (l.map cV)):=by
   have:=zj false (ab9 (k:=wd M+1) false hQ (fun r bP=>zq hW bP))
   rwa [lW,lM] at this
  have B7:=fun n (hn:T.length+4<=n)=>hG.z7 (n:=n) (by decide) (fun i h1 h2=>by
   rw [ahK hQ (fun r bP=>zq hW bP) _ (yS h1),yab])  hn
  have Bp:∀hp:Hp,jN 0 M.length (some (false,1,wQ (fun w r=>AV.aw false w r) (yj T.length (wd M+1)) T,hp))=some (.aw false M.length (wQ (fun w r=>AV.aw false w r) (yj T.length (wd M+1)) T),hp):=fun hp=>nP false (by rw [adb (by simp),lT,yf]) (by decide)
  obtain ⟨fX,ez⟩:=B7 997 (by omega);have g0:=hG.m;clear B7 hG hS;generalize hWe:cm (fW M) (l.map cV)=W at*
  have lWM:W.length=M.length:=by rw [lW,lM]
  obtain ⟨r3,q3,e6,qt,sX⟩:=aDl h.toFr' h.sD h.PF hvR hW (by omega) (by omega) (by omega) LD jX (by rw [lWM];exact hK)
  have hP:=n7 hW (wd M+1);have fH:=hP.pv;have wr1:IntKind.wrap .i64 (((wd M:Nat):Int)-1)=((wd M-1:Nat):Int):=by
   rw [show (((wd M:Nat):Int)-1)=((wd M-1:Nat):Int) by omega];exact wrap64 (by omega) (by omega)
  have lq:∀hp:Hp,gI hp 1 (bK q3)=some (ab ((aq W (wd M+1)).2.length:Nat)):=fun hp=>by
   have:=sX.len (hp:=hp);rwa [yr] at this
  unfold ak at e6;by_cases hlen:(aq W (wd M+1)).2.length=wd M
  ·have ev:=sX.aY (i:=wd M-1) (by rw [yr];omega);rw [xx] at ev;have zO:decide (((aq W (wd M+1)).2.length:Int)=(wd M:Nat))=true:=xn (by omega);have hgd:(aq W (wd M+1)).2.getD (wd M-1) 0=(aq W (wd M+1)).2[wd M-1]'(by omega):=by simp [y9,xM (show wd M-1<(aq W (wd M+1)).2.length by omega)]
   by_cases qM:(aq W (wd M+1)).2[wd M-1]'(by omega)=wd M-1
   ·have fF:decide ((((aq W (wd M+1)).2[wd M-1]'(by omega):Nat):Int)=((wd M-1:Nat):Int))=true:=xn (by omega);have eh:Bb W (wd M):=⟨hlen,by rw [hgd];exact qM⟩
    refine ⟨fun q=>absurd eh q,fun _=>?_⟩;rw [hlen] at qt;have lR:((aq W (wd M+1)).1.take (wd M)).length=wd M:=by rw [yE,pq];omega
    have f1:=azE (P:=P) (L:=L) qt (aed hP.wid (wd M)) (by omega) (by omega) (wd M);rw [lR] at f1;have alZ:((aq W (wd M+1)).1.take (wd M)).map (fun r=>b9 r (wd M))=kv W (wd M):=rfl;rw [alZ] at f1;obtain ⟨J,J0,J1,J2⟩:=Js hW LD jX (wd M+1) (yu _);have hJ:J<=4000000000:=by
     have h1:4^(aq W (wd M+1)).2.length<=4^M.length:=xh (by decide) (by omega)
     have:=yV (K+1) h1
     omega
    have QE:∀x,x∈kv W (wd M)->Hq J x:=fun x rq=>by
     obtain ⟨r,bP,rfl⟩:=vO.1 rq;have LF:=yam bP;have hwr:=zq hP.wid LF;rw [jw (by omega)];exact ahw J2 LF _ (yS _)
    have ls:(kv W (wd M)).length=wd M:=by rw [<-alZ,yr,lR]
    obtain ⟨w',GK⟩:∃w',wd M=w'+1:=⟨wd M-1,by omega⟩;have hG:∀out,QL out (kv W (wd M))->_:=fun out hO=>aDm h.toTx h.Zf h.Zg (v:= .aw true 1 [.aw false (wd M) out]) (M:=[kv W (wd M)]) (by
     have h1:=MH false hO;rw [ls] at h1
     exact zj true (rows:=[.aw false (wd M) out]) (s:=[kv W (wd M)]) ⟨h1,trivial⟩) (by simp) (fun r bP=>by simp only [xC] at bP;rw [bP,ls];omega) (K:=J) (fun r bP=>by simp only [xC] at bP;rw [bP];exact QE) hJ
    have Ak:oT [kv W (wd M)]=(kv W (wd M)).any LG:=by simp [oT]
    rw [Ak] at hG;have lQ:∀(out:List AV) (hp:Hp),QL out (kv W (wd M))->jN 0 (wd M) (some (false,4,out,hp))=some (.aw false (wd M) out,hp):=fun out hp hO=>nP false (by rw [hO.len,ls]) (by decide)
    constructor
    ·intro hLG;unfold ak;rw [aH DE,hD];simp only [go_sem,ya,oc,lI,az,ru,a0,fa.len,iQ,g0,ez,Bp,e6,me,mb,mc,lq,zO,yR,wr1,rE,ev,fF,qt.len,lR];generalize hq:D P L (.loop [10,13,76,77,78] CO) _=q;obtain ⟨ex,st,rfl,tm,ct,out,rfl,rfl,t13,hO⟩:=bJ hq f1 ⟨0,[],by omega,trivial,by simp only [go_sem,ya,ax,oV,oH,oC,aD qt.pu,aE _ qt.pu]<;>rfl⟩
     have g:=(hG out hO).1 hLG;have Kz:=fun hp=>lQ out hp hO
     unfold ak at g;rw [GK] at t13 g Kz ⊢;simp only [oV,oH] at t13 ⊢;simp only [go_sem,ya,yb,yD,yk,yf,ax,t13,Kz,g,En,AP,vV,yt,yO]
    ·intro hLG;have azF:∃out,QL out (kv W (wd M))/\∀y row rest,(ak P L 226 [.aw true 1 [.aw false (wd M) out]] (.ae [y,ab 0]))->jG 1 0 (bK y)=some (.b6 (row::rest))->bg (bK y)=true->(∀hp:Hp,result hp (.ae [row,ab 0])=some (.ae [row,ab 0]))->ak P L 201 [v,bv] (.ae [row,ab 0]):=by
      unfold ak;rw [aH DE,hD];simp only [go_sem,ya,oc,lI,az,ru,a0,fa.len,iQ,g0,ez,Bp,e6,me,mb,mc,lq,zO,yR,wr1,rE,ev,fF,qt.len,lR];generalize hq:D P L (.loop [10,13,76,77,78] CO) _=q;obtain ⟨ex,st,rfl,tm,ct,out,rfl,rfl,t13,hO⟩:=bJ hq f1 ⟨0,[],by omega,trivial,by simp only [go_sem,ya,ax,oV,oH,oC,aD qt.pu,aE _ qt.pu]<;>rfl⟩
      refine ⟨out,hO,fun y row rest g g2 g3 g4=>?_⟩;have Kz:=fun hp=>lQ out hp hO
      rw [GK] at t13 g Kz ⊢;simp only [oV,oH] at t13 ⊢;simp only [go_sem,ya,yb,yD,yk,yf,ax,t13,Kz,g,AP,yq,yR,g2,g4]
     obtain ⟨out,hO,aO⟩:=azF;obtain ⟨y,g,hy⟩:=(hG out hO).2 hLG;obtain ⟨row,rest,iK,e8⟩:=hy.aY (i:=0) (by simp);simp only [xa,vM,List.getElem_cons_zero] at iK;refine ⟨row,aO y row rest g e8 hy.pu (fun hp=>?_),by rw [iK.bK];exact iK⟩
     rcases iK with ⟨rfl,_⟩ | ⟨e,h2⟩
     ·rfl
     ·rw [h2];rfl
   ·have fF:decide ((((aq W (wd M+1)).2[wd M-1]'(by omega):Nat):Int)=((wd M-1:Nat):Int))=false:=y8 (by omega);refine ⟨fun _=>?_,fun q=>absurd q.2 (by rw [hgd];exact qM)⟩
    unfold ak;rw [aH DE,hD];simp only [go_sem,ya,oc,lI,az,ru,a0,fa.len,iQ,g0,ez,Bp,e6,me,mb,mc,lq,zO,yR,yO,wr1,rE,ev,fF]
  ·have zO:decide (((aq W (wd M+1)).2.length:Int)=(wd M:Nat))=false:=y8 (by omega);refine ⟨fun _=>?_,fun q=>absurd q.1 hlen⟩;unfold ak;rw [aH DE,hD];simp only [go_sem,ya,oc,lI,az,ru,a0,fa.len,iQ,g0,ez,Bp,e6,me,mb,mc,lq,zO,yO]
end
end
section
open Go (IntKind)
def jB (R:Mx) (pv:List Nat) (n:Nat):Nat->List Rat
 | 0=>yj n 0
 | i+1=>(jB R pv n i).set (pv.getD i 0) (b9 (gR R i) n)
def ML (R:Mx) (pv:List Nat) (n:Nat):∀i,(jB R pv n i).length=n
 | 0=>List.length_replicate
 | i+1=>by rw [jB,List.length_set,ML R pv n i]
def ade {R:Mx} {pv:List Nat} {n k:Nat} (hk:pv.length<=k) (hR:k<=R.length):∀i,i<=pv.length->jB (R.take k) pv n i=jB R pv n i
 | 0,_=>rfl
 | i+1,hi=>by
  rw [jB,jB,ade hk hR i (by omega),eQ (by rw [yE];omega),eQ (by omega),List.getElem_take]
def aeo {R:Mx} {pv:List Nat} {n:Nat} (hp:∀i (h:i<pv.length),pv[i]=i) (hl:pv.length=n) (hR:n<=R.length):∀i,i<=n->jB R pv n i=((R.take i).map fun r=>b9 r n)++yj (n-i) 0
 | 0,_=>by simp [jB]
 | i+1,hi=>by
  have e:pv.getD i 0=i:=by simp [y9,xM (show i<pv.length by omega),hp]
  have li:((R.take i).map fun r=>b9 r n).length=i:=by rw [yr,yE];omega
  obtain ⟨m,hm⟩:∃m,n-i=m+1:=⟨n-i-1,by omega⟩;rw [jB,aeo hp hl hR i (by omega),e,eQ (show i<R.length by omega),List.set_append_right _ _ (by omega),li,yaK,hm,wo,List.set_cons_zero,xb (show i<R.length by omega),xi,List.append_assoc];rw [show n-(i+1)=m by omega];rfl
def ato {R:Mx} {pv:List Nat} {n:Nat} (hp:∀i (h:i<pv.length),pv[i]=i) (hl:pv.length=n) (hR:n<=R.length):jB R pv n n=(R.take n).map fun r=>b9 r n:=by
 rw [aeo hp hl hR n (yu n),yaK];simp
section
variable {P:aK} {L:Lib}
def azG {rv qv:AV} {R:Mx} {pv:List Nat} {n:Nat} (hr:cL bS rv (R.map (wb RT))) (hq:bt qv (pv.map (fun p:Nat=>(p:Int)))) (hn:n<=1000) (hw:wid (n+1) R) (dP:pv.length<=R.length) (hl:R.length<=1000) (aW:∀p,p∈pv->p<n+1):
  ∀(d:Nat) (st:St),(∃i:Nat,aI [7,9,10,11,12] st=⟨[(7,ab n),(9,rv),(10,qv),(11,.ao 0 0 n),(12,ab i)],[(0,.cells true true false 1 (cr (jB R pv n i)))],1,0⟩/\i+d=pv.length/\n∉pv.take i)->
   ∃ex s',D P L (.loop [7,9,10,11,12] EZ) st=some (ex,s')/\∃tm hp ct,s'=⟨tm,hp,ct,0⟩/\((ex= .ret/\ai tm 4= .aa/\ai tm 5= .bool false/\n∈pv)\/(ex= .exit 2/\n∉pv/\hp=[(0,.cells true true false 1 (cr (jB R pv n pv.length)))]/\ai tm 11= .ao 0 0 n)):=by
 intro dq sq;generalize bk:aI [7,9,10,11,12] sq=s0;revert bk s0 sq dq;apply du;rintro d st ⟨i,rfl,hid,Gt⟩;have lqv:∀hp:Hp,gI hp 1 qv=some (ab pv.length):=fun hp=>by
  have:=hq.len (hp:=hp);rwa [yr] at this
 by_cases hi:i<pv.length
 ·have QF:i<R.length:=by omega
  have ev:=hq.aY (i:=i) (by rw [yr];exact hi)
  rw [xx] at ev;have rB:(i:Int)<pv.length:=by omega
  by_cases nI:pv[i]=n
  ·right
   have hd:decide ((pv[i]:Int)=(n:Int))=true:=by rw [nI];simp
   simp only [go_sem,ya,EZ,lqv,rB,yq,ev,hd];exact ⟨_,_,rfl,by simp,_,_,_,rfl,.inl ⟨rfl,by simp only [go_sem,ya],by simp only [go_sem],by rw [<-nI];exact yS hi⟩⟩
  ·left
   have hd:decide ((pv[i]:Int)=(n:Int))=false:=y8 (by omega);have al0:pv[i]<n:=by
    have:=aW _ (yS hi);omega
   obtain ⟨r0,rest,fa,e0⟩:=hr.aY (i:=i) (by rw [yr];exact QF)
   rw [xx] at fa;have wr:=hw i QF;rw [eQ QF] at wr;have e1:=fa.aY (i:=n) (by rw [yr];omega);rw [xx] at e1;have hkv:jB R pv n (i+1)=(jB R pv n i).set pv[i] (R[i][n]'(by omega)):=by
    rw [jB,show pv.getD i 0=pv[i] by simp [y9,xM hi],eQ QF,jw (show n<R[i].length by omega)]
   have aO:=fun (hp:Hp) (ct id:Nat)=>Df (hp:=hp) (ct:=ct) (id:=id) (ex:=false) (at_:=pv[i]) (r:= .str (RT (R[i][n]'(by omega)))) (rows:=cr (jB R pv n i)) (by rw [zE,ML];exact al0) rfl rfl
   simp only [Tk,<-hkv] at aO;have w12:IntKind.wrap .i64 ((i:Int)+1)=((i+1:Nat):Int):=wrap64 (by omega) (by omega);simp only [go_sem,ya,yf,EZ,lqv,rB,yq,ev,hd,e0,e1,rE,bN _ _ al0,ye,aO];refine ⟨_,d-1,rfl,by omega,i+1,?_,by omega,?_⟩
   ·rw [w12];simp only [go_sem,ya,yb,ax,aD hr.pu,aE _ hr.pu,aD hq.pu,aE _ hq.pu]<;>rfl
   ·rw [xb hi,xZ];simp only [xC,not_or];exact ⟨Gt,fun e=>nI e.symm⟩
 ·right
  have:i=pv.length:=by omega
  subst this;rw [xD] at Gt;simp only [go_sem,ya,EZ,lqv,show ¬(pv.length:Int)<pv.length by omega,yt];exact ⟨_,_,rfl,by simp,_,_,_,rfl,.inr ⟨rfl,Gt,rfl,by simp only [go_sem,ya]⟩⟩
end
end
section
section
variable {m:Mx} {w:Nat}
def Co (pv:List Nat) (c:Nat):Nat:=(pv.filter (fun p=>decide (p<c))).length
def atp {pv:List Nat} (hn:pv.Nodup) (c:Nat):Co pv (c+1)=Co pv c+if pv.contains c=true then 1 else 0:=by
 unfold Co
 induction pv with
 | nil=>rfl
 | cons p r ih=>
  have iA:=List.nodup_cons.1 hn;have ih:=ih iA.2;simp only [List.filter_cons,List.contains_cons];by_cases h1:p=c
  ·subst h1
   have:r.contains p=false:=by simpa using iA.1
   rw [this] at ih;simp at ih ⊢;omega
  ·have e:(c==p)=false:=by simpa using fun q=>h1 q.symm
   rw [e,Bool.false_or];by_cases h2:p<c
   ·rw [yM (by simp;omega),yM (by simp;omega),yz,yz,ih];omega
   ·rw [yx (by simp;omega),yx (by simp;omega)];exact ih
def avK {pv:List Nat} {w:Nat} (h:∀p,p∈pv->p<w):Co pv w=pv.length:=by
 unfold Co;rw [List.filter_eq_self.2 (fun p hp=>by simpa using h p hp)]
def aep {R:Mx} {pv:List Nat} (hn:pv.Nodup) (n:Nat):∀c,(Kv R pv n c).length+Co pv c=c
 | 0=>by
  have:Co pv 0=0:=by simp [Co]
  rw [this];rfl
 | c+1=>by
  have ih:=aep (R:=R) hn n c;rw [atp hn,Kv]
  split
  ·omega
  ·rw [yG];simp only [yz,yK];omega
def Gb.nodup {c:Nat} {s:Mx×List Nat} (h:Gb m w c s):s.2.Nodup:=by
 unfold List.Nodup;rw [List.pairwise_iff_getElem];intro i j hi hj BV e
 have:=h.inc i j hi hj BV;omega
def avL (hw:wid w m):(aA6 m w).length+(aq m w).2.length=w:=by
 have h:=Nf hw w (yu w)
 have:=aep (R:=(aq m w).1) h.nodup w w
 rwa [avK h.pv.lt] at this
end
end
section
open Go (IntKind)
def avM {hp:Hp} {ct sz by' id n m:Nat} {rw' pu:Bool} {cs new:List AV} (hg:au hp id=some (.cells rw' pu true sz cs)) (hl:cs.length=n*sz) (hm:0<m) (h1:n+m<=1099511627776) (h2:(n+m)*by'<=1099511627776) (hs:0<sz):
  mU hp ct sz by' (.ao id 0 n) (some (m,new))=some (.ao ct 0 (n+m),.cells true (pu&&aG new) false sz (cs++new)):=by
 have e2:yQ 0 sz=true:=ym hs;have e3:yQ 0 m=true:=ym hm;simp only [mU,hg];simp [e2,e3,ym (show n+m<=room from h1),ym (show (n+m)*by'<=room from h2),<-hl,slice]
def azH (a b:List Rat):cr (a++b)=cr a++cr b:=xi
def azI (r:List Rat):cp (cr r)=true/\aG (cr r)=true:=by
 unfold cr
 induction r with
 | nil=>exact ⟨rfl,rfl⟩
 | cons x l ih=>exact ⟨by simp [cp,ih.1,Sp],by simp [aG,ih.2,S4]⟩
def aBg {r:AV} {l:List Rat} (h:bS r (l.map RT)) (h0:0<l.length) (hp:Hp):ik hp 1 r=some (l.length,cr l):=by
 rcases h with ⟨_,h2⟩ | ⟨e,h2⟩
 ·have:=congrArg List.length h2
  rw [yr,yr,yK] at this;omega
 ·have lc:((l.map RT).map AV.str).length=l.length:=by simp
  have e2:(l.map RT).map AV.str=cr l:=by simp [cr]
  rw [h2,lc];rw [e2] at lc ⊢;rw [abV];simp only [iE,yf,lc,Nat.beq_refl,yA]
section
variable {P:aK} {L:Lib}
def azJ {v bv:AV} {R:Mx} {b:List Rat} {w:Nat} (hv:cL bS v (R.map (wb RT))) (hb:bS bv (b.map RT)) (hw:wid w R) (iQ:0<w) (kZ:w<=1000) (lb:b.length=R.length) (hn:R.length<=1000) (h0:0<R.length):
  ∀(d:Nat) (st:St),(∃i:Nat,i+d=R.length/\((i=0/\aI [0,1,6,7,8] st=⟨[(0,v),(1,bv),(6,.aa),(7,ab w),(8,ab i)],[],0,0⟩)\/(0<i/\∃hp,aI [0,1,6,7,8] st=⟨[(0,v),(1,bv),(6,.ao 0 0 i),(7,ab w),(8,ab i)],hp,1+i,0⟩/\ma hp false false 1 (yj i (w+1)) (((cm R b).take i).map cr) 0)))->
   ∃ex s',D P L (.loop [0,1,6,7,8] EY) st=some (ex,s')/\∃tm hp ct,s'=⟨tm,hp,ct,0⟩/\ex= .exit 0/\ai tm 6= .ao 0 0 R.length/\ai tm 7=ab w/\ma hp false false 1 (yj R.length (w+1)) ((cm R b).map cr) 0:=by
 intro dq sq;generalize bk:aI [0,1,6,7,8] sq=s0;revert bk s0 sq dq;apply du;rintro d st ⟨i,hid,aO⟩;have lW:=pw (R:=R) lb;have lv:∀hp:Hp,gI hp 1 v=some (ab R.length):=fun hp=>by
  have:=hv.len (hp:=hp);rwa [yr] at this
 by_cases hi:i<R.length
 ·left
  obtain ⟨r,rest,iK,e0⟩:=hv.aY (i:=i) (by rw [yr];exact hi)
  rw [xx] at iK;have wr:=hw i hi;rw [eQ hi] at wr;have ko:=aBg iK (by omega);rw [wr] at ko;have e1:=hb.aY (i:=i) (by rw [yr];omega);rw [xx] at e1;have w8:IntKind.wrap .i64 ((i:Int)+1)=((i+1:Nat):Int):=wrap64 (by omega) (by omega);have rB:(i:Int)<R.length:=by omega
  have lcr:(cr R[i]).length=w:=by rw [zE,wr]
  have oC:=azI R[i];have Ap:∀(hp:Hp) (ct id:Nat),au hp id=some (.cells true true true 1 [])->mU hp ct 1 16 (.ao id 0 0) (some (w,cr R[i]))=some (.ao ct 0 (0+w),.cells true true false 1 ([]++cr R[i])):=fun hp ct id hg=>by
   rw [avM hg rfl (by omega) (by omega) (by omega) (by decide),oC.2];rfl
  have ajN:cr R[i]++[AV.str (RT (b[i]'(by omega)))]=cr (cm R b)[i]:=by rw [Iz hi (by omega),azH];rfl
  have hT:((cm R b).take (i+1)).map cr=((cm R b).take i).map cr++[cr (cm R b)[i]]:=by
   rw [xb (by omega),xi];rfl
  rcases aO with ⟨lX,rfl⟩ | ⟨lX,hp,rfl,hM⟩
  ·subst lX;simp only [go_sem,ya,yb,yk,yf,EY,lv,rB,e0,e1,aiR,aiS,Iv,ko,Ap,ye,xB]
   rw [fS (sz:=1) (ex:=false) (pu:=true) (cs:=cr R[0]) (by simp only [go_sem,ya]) (by rw [lcr,yf]) (by omega) (by omega) (by decide) (by simp only [go_sem])];simp only [go_sem,ya,yb,xt,yD,yk,yf,ij,w8];refine ⟨_,d-1,rfl,by omega,1,by omega,.inr ⟨by omega,?_⟩⟩;rw [hT,ajN.symm];refine ⟨[(1,.cells true true false 1 (cr R[0]++[.str (RT (b[0]'(by omega)))])),(0,.cells true false false 1 [.ao 1 0 (w+1)])],by simp only [go_sem,ya,yb,ax,aD hv.pu,aE _ hv.pu,aD hb.pu,aE _ hb.pu]<;>rfl,⟨rfl,rfl,fun k hk=>?_⟩⟩
   have:k=0:=by simp at hk;omega
   subst this;rfl
  ·have lT:(((cm R b).take i).map cr).length=i:=by rw [yr,yE];omega
   have g0:=hM.m;rw [lT] at g0;simp only [go_sem,ya,yk,yf,EY,lv,rB,e0,e1,aiR,aiS,Iv,ko,Ap,ye,xB]
   rw [fS (sz:=1) (ex:=false) (pu:=true) (cs:=cr R[i]) (by rw [dn _ _ (by omega),fR]) (by rw [lcr,yf]) (by omega) (by omega) (by decide) (by simp only [go_sem])];simp only [go_sem,ya,yb,yk,yf]
   rw [fS (sz:=1) (ex:=false) (pu:=false) (cs:=iT (iM i) (yj i (w+1)) 0) (by rw [dn _ _ (by omega),dn _ _ (by omega),rF,yx (by omega),dn _ _ (by omega),dn _ _ (by omega),dn _ _ (by omega)];exact g0) (by simp [iT,rC,rL]) (by omega) (by omega) (by decide) (by simp only [go_sem])]
   simp only [go_sem,ya,w8];refine ⟨_,d-1,rfl,by omega,i+1,by omega,.inr ⟨by omega,?_⟩⟩;rw [hT,yal,<-ajN]
   refine ahD (x:=false) (r:=0) hM lT (a:=1+i+1+1+1+1+1) (b:=1+i+1+1+1) (by simp only [go_sem,ya,aD hv.pu,aD hb.pu]<;>rfl) (by omega) (by omega) (by omega) (by rw [fR];simp [iT]) (fun j hj=>?_) ?_ (by omega) (fun S q=>by simp only [go_sem,ya,q,aE _ hv.pu,aE _ hb.pu]<;>rfl)
   ·rw [dn _ _ (by omega),dn _ _ (by omega),dn _ _ (by omega),rF,yx (by omega),rF,yx (by omega),dn _ _ (by omega),dn _ _ (by omega),dn _ _ (by omega)]
   ·rw [dn _ _ (by omega),dn _ _ (by omega),fR]
 ·right
  have:i=R.length:=by omega
  subst this;rcases aO with ⟨lX,rfl⟩ | ⟨lX,hp,rfl,hM⟩
  ·omega
  ·rw [yN (by omega)] at hM;simp only [go_sem,ya,EY,lv,show ¬(R.length:Int)<R.length by omega];exact ⟨_,_,rfl,by simp,_,_,_,rfl,rfl,by simp only [go_sem,ya],by simp only [go_sem,ya],hM⟩
def adf {k:Nat} (y:Bool):∀{W:Mx},(∀r,r∈W->r.length=k)->cK bS (wQ (fun w r=>AV.aw y w r) (yj W.length k) (W.map cr)) (W.map (wb RT))
 | [],_=>trivial
 | r::W,hw=>by
  rw [yz,wo,xa,xa,yaa]
  have:=Tl y r
  rw [hw r wF] at this;exact ⟨this,adf y (fun q hq=>hw q (we _ hq))⟩
def aDx (h:Rxi P L) (DC:Has P L 332 Fz) (KA:Has P L 350 sn) (ku:Has P L 351 nh) (oD:Has P L 353 qR) (nm:Has P L 354 qS) (jf:Has P L 355 pL) {v bv:AV} {R:Mx} {b:List Rat} {w:Nat} (hv:cL bS v (R.map (wb RT))) (hb:bS bv (b.map RT)) (hw:wid w R) (iQ:0<w) (kZ:w<=900) (lb:b.length=R.length) (hn:R.length<=900) (h0:0<R.length) {K:Nat} (hk:eJ K (cm R b)) (jX:1<=K) (hK:4^R.length*(K+1)<=400000000):
  (w∈(aq (cm R b) (w+1)).2->ak P L 350 [v,bv] (.ae [.aa,.bool false]))/\
  (w∉(aq (cm R b) (w+1)).2->∃r,ak P L 350 [v,bv] (.ae [r,.bool true])/\bS (bK r) ((jB (aq (cm R b) (w+1)).1 (aq (cm R b) (w+1)).2 w (aq (cm R b) (w+1)).2.length).map RT)):=by
 have lW:=pw (R:=R) lb;have hW:=Nh hw lb;have QC:∀r,r∈cm R b->r.length=w+1:=fun r hr=>zq hW hr
 have f0:=azJ (P:=P) (L:=L) hv hb hw iQ (by omega) lb (by omega) h0 R.length;have e1:=alV (P:=P) (L:=L) ku hv (by rw [yr];exact h0)
 have hwd:wd (R.map (wb RT))=w:=by
  unfold wd;rw [Fg (by rw [yr];exact h0),xx,yr]
  exact zq hw (yS h0)
 rw [hwd] at e1;unfold ak at e1;have Ju:∃hp ct,D P L (nj 3 sn.body) ⟨dX 0 [v,bv],[],0,0⟩=some (.normal,⟨[(6,.ao 0 0 R.length),(7,ab w)],hp,ct,0⟩)/\ma hp false false 1 (yj R.length (w+1)) ((cm R b).map cr) 0:=by
  simp only [go_sem,ya,sn,nj,bw,az,hv.ap,e1];generalize hq:D P L (.loop [0,1,6,7,8] EY) _=q;obtain ⟨ex,st,rfl,tm,hp,ct,rfl,rfl,t6,t7,hG⟩:=bJ hq f0 ⟨0,by omega,.inl ⟨rfl,by simp only [go_sem,ya,ax,aD hv.pu,aE _ hv.pu,aD hb.pu,aE _ hb.pu]<;>rfl⟩⟩
  obtain ⟨aj,e,hG'⟩:=hG.comp (ct:=ct) (live:=[6,7]) (tm:=tm) (tm':=[(6,.ao 0 0 R.length),(7,ab w)]) (by simp only [go_sem,t6,t7]<;>rfl) (by rw [yr];omega) (fun S q=>by simp only [go_sem,t6,t7,q]<;>rfl)
  simp only [go_sem,e];exact ⟨_,_,rfl,hG'⟩
 obtain ⟨hp,ct,hS,hG⟩:=Ju;have hD:D P L sn.body ⟨dX 0 [v,bv],[],0,0⟩=D P L (lI 3 sn.body) ⟨[(6,.ao 0 0 R.length),(7,ab w)],hp,ct,0⟩:=by
  rw [M7 3 (c:=sn.body) (by refine ⟨rfl,rfl,rfl,?_⟩;show _=_;rfl),hS,fB]
 have lT:((cm R b).map cr).length=R.length:=by rw [yr,lW]
 have hvR:cL bS (.aw false R.length (wQ (fun w r=>AV.aw false w r) (yj R.length (w+1)) ((cm R b).map cr))) ((cm R b).map (wb RT)):=by
  have h1:=adf (k:=w+1) false QC;rw [lW] at h1
  have:=zj false h1
  rwa [yr,lW] at this
 have Bp:∀hp:Hp,jN 0 R.length (some (false,1,wQ (fun w r=>AV.aw false w r) (yj R.length (w+1)) ((cm R b).map cr),hp))=some (.aw false R.length (wQ (fun w r=>AV.aw false w r) (yj R.length (w+1)) ((cm R b).map cr)),hp):=fun hp=>nP false (by rw [adb (by simp [lW]),lT,yf]) (by decide)
 obtain ⟨fX,ez⟩:=hG.z7 (n:=997) (by decide) (fun i h1 h2=>by
  rw [yab,xx,zE,QC _ (yS _)];omega) (by omega)
 have g0:=hG.m;obtain ⟨r3,q3,e3,qt,sX⟩:=alY h ku oD nm jf hvR hW (by omega) (by omega) (by omega) (by omega) hk jX (by rw [lW];exact hK)
 have hP:=n7 hW (w+1);have fH:=hP.pv;have ez2:=aDn (P:=P) (L:=L) DC (n:=w) iQ (by omega);rw [atm] at ez2;have f1:=azG (P:=P) (L:=L) qt sX (n:=w) (by omega) (aed hP.wid _) (by rw [yE,pq];omega) (by rw [yE,pq];omega) hP.lt (aq (cm R b) (w+1)).2.length;rw [ade (yu _) (by rw [pq];exact fH) _ (yu _)] at f1
 unfold ak at e3 ez2;have fin:(w∈(aq (cm R b) (w+1)).2/\ak P L 350 [v,bv] (.ae [.aa,.bool false]))\/(w∉(aq (cm R b) (w+1)).2/\ak P L 350 [v,bv] (.ae [.bn false 1 w (cr (jB (aq (cm R b) (w+1)).1 (aq (cm R b) (w+1)).2 w (aq (cm R b) (w+1)).2.length)),.bool true])):=by
  unfold ak;rw [aH KA,hD];simp only [go_sem,ya,sn,lI,az,g0,ez,Bp,e3,me,mb,mc,ez2,ajq];generalize hq:D P L (.loop [7,9,10,11,12] EZ) _=q;obtain ⟨ex,st,rfl,tm,hp,ct,rfl,h2⟩:=bJ hq f1 ⟨0,by simp only [go_sem,ya,yb,ax,aD qt.pu,aE _ qt.pu,aD sX.pu,aE _ sX.pu]<;>rfl,by omega,by simp⟩
  rcases h2 with ⟨rfl,t4,t5,hm⟩ | ⟨rfl,hm,rfl,t11⟩
  ·exact .inl ⟨hm,by simp only [go_sem,t4,t5]⟩
  ·right
   refine ⟨hm,?_⟩;simp only [go_sem,ya,yb,ax,t11];exact an9 (fR _ _ _) (by rw [zE,ML,yf]) (by decide)
 have hI:=Tl false (jB (aq (cm R b) (w+1)).1 (aq (cm R b) (w+1)).2 w (aq (cm R b) (w+1)).2.length);rw [ML] at hI;rcases fin with ⟨h1,h2⟩ | ⟨h1,h2⟩
 ·exact ⟨fun _=>h2,fun q=>absurd h1 q⟩
 ·exact ⟨fun q=>absurd q h1,fun _=>⟨_,h2,hI⟩⟩
def aDy (h:Rxi P L) (DC:Has P L 332 Fz) (KA:Has P L 350 sn) (ku:Has P L 351 nh) (oD:Has P L 353 qR) (nm:Has P L 354 qS) (jf:Has P L 355 pL) (Kx:Has P L 412 JS) (DD:Has P L 413 FB) (KB:Has P L 416 FC) {v bv:AV} {R:Mx} {b:List Rat} {w:Nat} (hv:cL bS v (R.map (wb RT))) (hb:bS bv (b.map RT)) (hw:wid w R) (iQ:0<w) (kZ:w<=900) (lb:b.length=R.length) (hn:R.length<=900) (h0:0<R.length) {K:Nat} (hkR:eJ K R) (hk:eJ K (cm R b)) (jX:1<=K) (hK:4^R.length*(K+1)<=400000000):
  (¬Bb (cm R b) w->ak P L 416 [v,bv] (.ae [.aa,.bool false]))/\(Bb (cm R b) w->∃r,ak P L 416 [v,bv] (.ae [r,.bool true])/\bK r=r/\bS r ((kv (cm R b) w).map RT)):=by
 obtain ⟨g1,g2⟩:=aDx h DC KA ku oD nm jf hv hb hw iQ kZ lb hn h0 hk jX hK;have hW:=Nh hw lb;have jO:=avJ hw lb;have e1:=aDv h ku oD nm jf DD Kx hv hw iQ (by omega) h0 hn hkR jX hK;have e2:=alV (P:=P) (L:=L) ku hv (by rw [yr];exact h0)
 have hwd:wd (R.map (wb RT))=w:=by
  unfold wd;rw [Fg (by rw [yr];exact h0),xx,yr]
  exact zq hw (yS h0)
 rw [hwd] at e2;have hs:=avH hW iQ;rw [jO] at hs;have hP:=n7 hW (w+1);have fH:=hP.pv;unfold ak at e1 e2;by_cases hm:w∈(aq (cm R b) (w+1)).2
 ·have g:=g1 hm;unfold ak at g;refine ⟨fun _=>?_,fun q=>absurd (hs.2 q).1 (fun k=>k hm)⟩;unfold ak;rw [aH KB];simp only [go_sem,ya,FC,hv.ap,hb.ap,g,me,mb,mc,yO]
 ·obtain ⟨r,g,hr⟩:=g2 hm;have aJe:=(n7 hw w).pv;unfold ak at g;by_cases hf:(aq R w).2.length=w
  ·have eh:Bb (cm R b) w:=hs.1 ⟨hm,hf⟩;refine ⟨fun q=>absurd eh q,fun _=>⟨bK r,?_,hr.bK,?_⟩⟩
   ·unfold ak;rw [aH KB];simp only [go_sem,ya,FC,hv.ap,hb.ap,g,me,mb,mc,yR,e1,e2,show ¬(((aq R w).2.length:Nat):Int)<w by omega,yt];rcases hr with ⟨h1,_⟩ | ⟨e,h1⟩
    ·rw [h1];rfl
    ·rw [h1];rfl
   ·obtain ⟨p1,p2⟩:=avI hW hm (by rw [jO];exact hf)
    have:=ato (R:=(aq (cm R b) (w+1)).1) p2 p1 (by rw [pq];omega)
    rw [p1,this] at hr;exact hr
  ·have aW:((aq R w).2.length:Int)<w:=by
    have:=avL hw
    omega
   refine ⟨fun _=>?_,fun q=>absurd (hs.2 q).2 hf⟩;unfold ak;rw [aH KB];simp only [go_sem,ya,FC,hv.ap,hb.ap,g,me,mb,mc,yR,e1,e2,aW,yq]
end
end
section
open Go (IntKind)
structure QU (P:aK) (L:Lib):Prop where
 m:Mtr P L
 x:Rxi P L
 Lo:Has P L 29 DT
 DE:Has P L 201 oc
 Ga:Has P L 261 JG
 BK:Has P L 316 Fy
 DC:Has P L 332 Fz
 Kw:Has P L 343 FA
 KA:Has P L 350 sn
 ku:Has P L 351 nh
 oD:Has P L 353 qR
 nm:Has P L 354 qS
 jf:Has P L 355 pL
 PG:Has P L 409 Bu
 Kx:Has P L 412 JS
 DD:Has P L 413 FB
 BM:Has P L 414 lO
 aDz:Has P L 415 aj2
 KB:Has P L 416 FC
 qY:Has P L 417 Bv
 aBh:ak P L 179 [] (.bool true)
section
variable {P:aK} {L:Lib}
def Se (qY:Has P L 417 Bv) {e:Int} (he:e≠0):ak P L 417 [.aa,ab e,ab e,.aa] (.bool true):=by
 unfold ak;rw [aH qY];simp only [go_sem,ya,Bv,he,yt,yq,yO]
def atq (h:Rl P L) (BK:Has P L 316 Fy) (qY:Has P L 417 Bv) {v:AV} {l:List Rat} (hv:bS v (l.map RT)) (hl:l.length<=1000000) {K:Nat} (hs:∀r,r∈l->Hq K r) (hK:K<=4000000000) (hg:l.any LG=true):ak P L 417 [.aa,ab 4,ab 0,v] (.bool true):=by
 have e1:=ajF h BK hv hl hs hK;rw [yM hg] at e1;unfold ak at e1 ⊢;rw [aH qY];simp only [go_sem,ya,Bv,hv.ap,e1,yt,yq,yO,vV]
def avN (h:Rl P L) (Lo:Has P L 29 DT) (BK:Has P L 316 Fy) (qY:Has P L 417 Bv) {u v:AV} {l:List Rat} (hu:bS u (l.map RT)) (hv:bS v (l.map RT)) (hl:l.length<=1000000) {K:Nat} (hs:∀r,r∈l->Hq K r) (hK:K<=4000000000) (hg:l.any LG=false):ak P L 417 [u,ab 0,ab 0,v] (.bool true):=by
 have e1:=ajF h BK hv hl hs hK;rw [hg,yx (by decide)] at e1;have e2:=a29 Lo hu hv (by rw [yr];exact hl)
 unfold ak at e1 e2 ⊢;rw [aH qY];simp only [go_sem,ya,Bv,hu.ap,hv.ap,e1,e2,yq,yR]
def an0 (h:QU P L) {v bv:AV} {A:List (List (List Nat))} {l:List (List Nat)} (hv:cL bS v A) (hb:bS bv l) (ra:∀r,r∈A->∀s,s∈r->s.length<9223372036854775808) (rl:∀s,s∈l->s.length<9223372036854775808):ak P L 414 [v,bv] (.bool true):=by
 have ea:=h.aBh;have s1:ak P L 409 [v,.int .i64 5] (.bool (qj 5 A)):=alW h.PG hv 5 ra (by decide);have kW:cL bS (.aw true 1 [bv]) [l]:=zj true (rows:=[bv]) (s:=[l]) ⟨hb,trivial⟩;have s2:ak P L 409 [.aw true 1 [bv],.int .i64 8] (.bool (qj 8 [l])):=alW h.PG kW 8 (fun r hr=>by simp only [xC] at hr;rw [hr];exact rl) (by decide)
 unfold ak at ea s1 s2
 cases QG:qj 5 A with
 | false=>
  rw [QG] at s1;unfold ak;rw [aH h.BM];simp only [go_sem,ya,lO,hv.ap,hb.ap,ea,s1,yR,yO]
 | true=>
  rw [QG] at s1;by_cases h8:8<l.length
  ·unfold ak;rw [aH h.BM];simp only [go_sem,ya,lO,hv.ap,hb.len,hb.ap,ea,s1,yR,show (8:Int)<l.length by omega,yq]
  ·have n8:¬(8:Int)<l.length:=by omega
   by_cases hS:0<l.length/\qj 8 [l]=false
   ·have p0:(0:Int)<l.length:=by omega
    rw [hS.2] at s2;unfold ak;rw [aH h.BM];simp only [go_sem,ya,yb,yD,yk,yf,lO,hv.ap,hb.len,hb.pu,hb.ap,hb.one,hb.cells,ea,s1,s2,yR,yO,n8,p0,yq,yt]
   ·have ic:∀s,s∈l->s.length<=40:=fun s hs=>by
     have h0:0<l.length:=List.length_pos_of_mem hs
     have:qj 8 [l]=true:=by
      cases hq:qj 8 [l] with
      | true=>rfl
      | false=>exact absurd ⟨h0,hq⟩ hS
     exact ((aiT (by decide) this).2 l wF).2 s hs
    have Ju:∃tm hp ct,D P L (nj 1 lO.body) ⟨dX 0 [v,bv],[],0,0⟩=some (.normal,⟨tm,hp,ct,0⟩)/\ai tm 0=v/\ai tm 1=bv:=by
     by_cases p0:0<l.length
     ·have s3:qj 8 [l]=true:=by
       cases hq:qj 8 [l] with
       | true=>rfl
       | false=>exact absurd ⟨p0,hq⟩ hS
      rw [s3] at s2;simp only [go_sem,ya,yb,yD,yk,yf,lO,nj,bw,az,hv.ap,hb.len,hb.pu,hb.ap,hb.one,hb.cells,ea,s1,s2,yR,n8,show (0:Int)<l.length by omega,yq,yt];exact ⟨_,_,_,rfl,by simp only [go_sem,ya],by simp only [go_sem,ya]⟩
     ·simp only [go_sem,ya,lO,nj,bw,az,hv.ap,hb.len,hb.ap,ea,s1,yR,n8,show ¬(0:Int)<l.length by omega,yt];exact ⟨_,_,_,rfl,by simp only [go_sem,ya],by simp only [go_sem,ya]⟩
    obtain ⟨tm,hp,ct,aO,t0,t1⟩:=Ju;have hD:D P L lO.body ⟨dX 0 [v,bv],[],0,0⟩=D P L (lI 1 lO.body) ⟨tm,hp,ct,0⟩:=by
     rw [M7 1 (c:=lO.body) (by refine ⟨rfl,?_⟩;show _=_;rfl),aO,fB]
    obtain ⟨la,sa⟩:=aiT (by decide) QG;have ta:∀r,r∈A->r.length<=1000000/\∀s,s∈r->s.length<=1000000000:=fun r hr=>⟨by have:=(sa r hr).1;omega,fun s hs=>by have:=(sa r hr).2 s hs;omega⟩
    have c1:=aDo h.x.toRm h.Ga h.Kw hv ra;have c2:=ajE h.x.toRm h.Ga hb (by omega) rl;have c3:ak P L 415 [.aw true 2 [ab (jF A),ab (bD (l.map cf))]] (ab (bD [jF A,bD (l.map cf)])):=s42 (n:=415) (h:=(show Has P L 415 KX from h.aDz)) (lB true [jF A,bD (l.map cf)]) (by simp);obtain ⟨g1,g2⟩:=aDw h.m h.DE hv hb (by omega) (by omega) ta (fun s hs=>by have:=ic s hs;omega);unfold ak at c1 c2 c3;by_cases hE:bD [jF A,bD (l.map cf)]=0
    ·obtain ⟨hA,hE2⟩:=Ct.1 hE;obtain ⟨hL,_⟩:=Ct.1 hE2;rw [hA] at c1 c3;rw [hL] at c2 c3;have z0:bD [(0:Int),0]=0:=by decide
     rw [z0] at c3;by_cases jT:l.length=A.length
     ·have Fj:(l.length:Int)=A.length:=by omega
      have l5:=avA QG hA;obtain ⟨m0,m64,ho⟩:=Tj hA;have fZ:∀s,s∈l->cf s=0:=HW hL;have hk:eJ 160 (fW A):=azs (fun r hr s sZ=>⟨(ho r hr).2.2.2 s sZ,(sa r hr).2 s sZ⟩);have Ce:∀x,x∈l.map cV->Hq 160 x:=fun x hx=>by
       obtain ⟨s,hs,rfl⟩:=vO.1 hx;exact H40 (fZ s hs) (ic s hs)
      have hw:=aec (M:=A) (fun r hr=>(ho r hr).1);have At:0<wd A:=by
       have:=ho _ (yS m0)
       rw [<-this.1];exact this.2.1
      have hRT:=avz (A:=A) (fun r hr s sZ=>(ho r hr).2.2.2 s sZ);have hRl:(l.map cV).map RT=l:=by
       rw [List.map_map];refine (List.map_congr_left (fun s hs=>?_)).trans (List.map_id l);exact (Il (fZ s hs)).1.symm
      have hK:4^A.length*(160+1)<=400000000:=Nat.le_trans (yV _ (xh (by decide) l5.1)) (by decide:4^5*(160+1)<=400000000);have Cn:(l.map cV).length=(fW A).length:=by rw [yr,Ev];exact jT
      have LD:=ajM hk Ce Cn;have hW:=Nh hw Cn;have lW:=pw Cn;obtain ⟨q1,q2⟩:=aDy h.x h.DC h.KA h.ku h.oD h.nm h.jf h.Kx h.DD h.KB (R:=fW A) (b:=l.map cV) (w:=wd A) (by rw [hRT];exact hv) (by rw [hRl];exact hb) hw At (by omega) Cn (by rw [Ev];omega) (by rw [Ev];exact m0) hk LD (by omega) (by rw [Ev];exact hK)
      obtain ⟨k1,k2⟩:=g2 hA hL jT hk Ce (by omega) hK;by_cases eh:Bb (cm (fW A) (l.map cV)) (wd A)
      ·obtain ⟨k3,k4⟩:=k2 eh;obtain ⟨r,q3,cC,hr⟩:=q2 eh;obtain ⟨J,J0,J1,J2⟩:=Js hW LD (by omega) (wd A+1) (yu _);have hP:=n7 hW (wd A+1);have fH:=hP.pv;have hJ:J<=4000000000:=by
        have h1:4^(aq (cm (fW A) (l.map cV)) (wd A+1)).2.length<=4^A.length:=xh (by decide) (by rw [lW,Ev] at fH;exact fH)
        have:=yV (160+1) h1
        omega
       have QE:∀x,x∈kv (cm (fW A) (l.map cV)) (wd A)->Hq J x:=fun x rq=>by
        obtain ⟨r,bP,rfl⟩:=vO.1 rq;have LF:=yam bP;have hwr:=zq hP.wid LF;rw [jw (by omega)];exact ahw J2 LF _ (yS _)
       have Ao:(kv (cm (fW A) (l.map cV)) (wd A)).length<=1000000:=by
        unfold kv;rw [yr,yE];omega
       unfold ak at q3
       cases hg:(kv (cm (fW A) (l.map cV)) (wd A)).any LG with
       | true=>
        have z1:=k3 hg;have z2:=atq h.x.toRl h.BK h.qY hr Ao QE hJ hg;unfold ak at z1 z2 ⊢;rw [aH h.BM,hD];simp only [go_sem,ya,yb,yD,yk,yf,lO,lI,az,t0,t1,hv.len,hv.ap,hb.len,hb.ap,z1,me,mb,mc,En,AP,c1,c2,c3,Fj,yq,yR,q3,hr.ap,hr.bK,z2]
       | false=>
        obtain ⟨y,z1,hy⟩:=k4 hg;have z2:=avN h.x.toRl h.Lo h.BK h.qY hy hr Ao QE hJ hg;unfold ak at z1 z2 ⊢;rw [aH h.BM,hD];simp only [go_sem,ya,yb,yD,yk,yf,lO,lI,az,t0,t1,hv.len,hv.ap,hb.len,hb.ap,z1,me,mb,mc,hy.ap,AP,c1,c2,c3,Fj,yq,yR,q3,hr.ap,hr.bK,z2]
      ·have z1:=k1 eh;have q3:=q1 eh;have z2:=Se (P:=P) (L:=L) h.qY (show (14:Int)≠0 by decide);unfold ak at z1 z2 q3 ⊢;rw [aH h.BM,hD];simp only [go_sem,ya,yb,yD,yk,yf,lO,lI,az,t0,t1,hv.len,hv.ap,hb.len,hb.ap,z1,me,mb,mc,En,AP,c1,c2,c3,Fj,yq,yR,yO,q3,z2]
     ·have Fj:¬(l.length:Int)=A.length:=by omega
      have z1:=g1 (by rw [hA,hL,yx jT];decide)
      rw [hA,hL,yx jT,show bD [(0:Int),0,2]=2 by decide] at z1;have z2:=Se (P:=P) (L:=L) h.qY (show (2:Int)≠0 by decide);unfold ak at z1 z2 ⊢;rw [aH h.BM,hD];simp only [go_sem,ya,yb,yD,yk,yf,lO,lI,az,t0,t1,hv.len,hv.ap,hb.len,hb.ap,z1,me,mb,mc,En,AP,c1,c2,c3,Fj,yq,yt,yO,vV,z2]
    ·have e3:bD [jF A,bD (l.map cf),if l.length=A.length then 0 else 2]=bD [jF A,bD (l.map cf)]:=by
      generalize jF A=x at*
      generalize bD (l.map cf)=y at*
      simp only [bD] at hE ⊢;by_cases h1:x=0
      ·by_cases h2:y=0
       ·simp [h1,h2] at hE
       ·simp [h1,h2]
      ·simp [h1]
     have z1:=g1 (by rw [e3];exact hE)
     rw [e3] at z1;have z2:=Se (P:=P) (L:=L) h.qY hE;unfold ak at z1 z2 ⊢;generalize bD [jF A,bD (l.map cf)]=e at*
     rw [aH h.BM,hD];simp only [go_sem,ya,yb,yD,yk,yf,lO,lI,az,t0,t1,hv.ap,hb.ap,z1,me,mb,mc,En,AP,c1,c2,c3,hE,yt,z2]
end
end
section
open Go (IntKind)
abbrev HX:List Ty:=[.sl Jt,Jt]
def anS {P:aK} {L:Lib} (h:QU P L) {ls:List (List AV)} (hs:cK mK HX ls):ak P L 414 (Jo HX ls) (.bool true):=by
 obtain ⟨_,_,rfl,h1,h2⟩:=ay5 hs;obtain ⟨u,A,rfl,hu,ra⟩:=avC h1;obtain ⟨v,l,rfl,hv,rl⟩:=aek h2;exact an0 h hu hv ra rl
end
section
namespace J2
open Go Go.Proofs
def T:List (Tr an):=[.n 179 [.o 7 [] (.bool true)] .l .l]
def L0:VE.Lib:=Tf VE.aC 99 M6
def L1:VE.Lib:=Oq L0 T 1000
def nu:Nu VE.prog VE.aC:=by
 repeat' (first | rfl | constructor)
def lw:QU VE.prog L1:=by
 repeat' (first | rfl | constructor)
section
variable {W:World} {m:Int} (hm:W.cell? ⟨1,0,none⟩=some (.int .i64 m)) (ht:Go.Lib.TabIs Tryz.prog W "internal/strconv.uint64pow10" .u64 Go.Lib.pow10Tab)
include hm ht
def linked:eP ((J1.O W).zp L1):=by
 have hO:=J1.at4 hm ht;have hs:=aqZ hO nu rfl rfl rfl ⟨rfl,rfl,rfl⟩ (fn:=Tryz.f172) (c:=BH) Tryz.func172 rfl rfl trivial as8;have hT:eX (J1.O W) T:=eX.cons (Tr.jH (kS.one (p6.holds hO rfl rfl)) Tr.ja Tr.ja) eX.nil;exact aeL (aq0 hO hs) hT 1000
def law {ls:List (List AV)} (hs:cK mK HX ls):eD (J1.O W) 414 (Jo HX ls) (.bool true):=by
 obtain ⟨k,hk⟩:=aiz (anS lw hs);exact sound (linked hm ht) hk
end
end J2
end
end VE
