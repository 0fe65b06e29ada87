import Derived.Test.YtjemkccfpkgopaaGreatDoorWat
import Derived.Test.YtjemkccfpkgopaaGreatDoorWaq
import Derived.Test.YtjemkccfpkgopaaGreatDoorWah
import Derived.Test.YtjemkccfpkgopaaGreatDoorWas
set_option linter.all false
set_option maxRecDepth 100000
open Bool renaming and_eq_true_iff→vY,false_and→xN,false_eq_true→yI,false_or→vL,not_false→yO,not_true→yR,true_and→wA
open List renaming Nodup→yaB,all_eq_true→th,any_append→yaW,any_eq_true→tp,append_assoc→xy,append_nil→xY,cons_append→xk,drop→vD,drop_eq_getElem_cons→yP,drop_length→uQ,drop_zero→yL,eq_nil_of_length_eq_zero→yB,getD_eq_getElem?_getD→y9,getElem_append_left→xH,getElem_append_right→wz,getElem_cons_succ→wq,getElem_cons_zero→xv,getElem_map→xx,getElem_mem→yS,getElem_range→vG,getElem_set→yaT,getElem_take→uo,length→tG,length_append→yG,length_cons→yz,length_map→yr,length_nil→yK,length_set→vm,length_take→yE,map→wb,map_append→xi,map_congr_left→uU,map_cons→xa,map_id→ybI,map_map→wO,map_set→tI,mem_append→xZ,mem_cons→wP,mem_cons_of_mem→we,mem_cons_self→wF,mem_iff_getElem→wU,mem_map→vO,mem_singleton→xC,nil_append→xB,nodup_append→yaF,nodup_cons→wX,pairwise_iff_getElem→uj,range→xe,range'→xW,range'_eq_map_range→ux,range'_succ→vN,replicate→yj,replicate_succ→wo,take_length→xD,take_succ_eq_append_getElem→xb,zipWith→wQ
open Nat renaming add_comm→yaD,add_one_ne_zero→xj,add_zero→yY,beq_refl→wW,le_refl→yu,min_eq_left→xA,mul_le_mul_right→yV,mul_one→yf,pow_le_pow_right→xh,reduceAdd→yb,reduceEqDiff→ya,reduceLT→yD,reduceLeDiff→yk,reduceMul→xt,sub_self→yaK,zero_add→ye,zero_le→uf,zero_lt_one→tD
open Option.some renaming injEq→yd
open Rat renaming mul_inv_cancel→uZ
namespace VE
section
open Go (IntKind)
section
variable {P:aK} {L:Lib}
def azr (h:Fr' P L) (sD:Has P L 240 Dn) {o1 o2 o3 o4 z1 z2 z3 z4:AV} {M:Mx} {W:Nat} (hw:wid W M) (oS:W<=1000) (eV:M.length<=1000) {K:Nat} (hk:eJ K M) (jX:1<=K) (hK:4^M.length*(K+1)<=400000000) (ho:eN (.agg [o1,o2,o3,o4]) 1) (hz:eN (.agg [z1,z2,z3,z4]) 0):
  ∀(d:Nat) (st:St),(∃(c:Nat) (rows:List AV) (k:Nat) (pv:List AV),aI [4,5,6,7,8,24,25] st=⟨[(4,.ao 0 0 M.length),(5,.fn (.f 240) [] []),(6,.ptr 1 0),(7,.ptr 2 0),(8,oV 3 k),(24,ab W),(25,ab c)],oH 3 1 pv (b3 rows [o1,o2,o3,o4] [z1,z2,z3,z4]) k,oC 3 k,0⟩/\c+d=W/\(aq M c).2.length=k/\pv=(aq M c).2.map (fun p:Nat=>ab p)/\cK et rows (aq M c).1)->
   ∃ex s',D P L (.loop [4,5,6,7,8,24,25] ER) st=some (ex,s')/\∃tm ct rows k pv,s'=⟨tm,oH 3 1 pv (b3 rows [o1,o2,o3,o4] [z1,z2,z3,z4]) k,ct,0⟩/\ex= .exit 0/\ai tm 4= .ao 0 0 M.length/\ai tm 8=oV 3 k/\(aq M W).2.length=k/\pv=(aq M W).2.map (fun p:Nat=>ab p)/\cK et rows (aq M W).1:=by
 intro dq sq;generalize bk:aI [4,5,6,7,8,24,25] sq=s0;revert bk s0 sq dq;apply du;rintro d st ⟨c,rows,k,pv,rfl,hcd,dh,fH,hR⟩;have hP:=n7 hw c;have lm:=pq M c;have lr:=hR.len;by_cases hc:c<W
 ·left
  obtain ⟨J,J0,J1,J2⟩:=Js hw hk jX c (by omega);have hJ:J+1<=400000000:=by
   have h1:4^(aq M c).2.length<=4^M.length:=xh (by decide) hP.pv
   have:=yV (K+1) h1
   omega
  have f0:=azp h (o:=[o1,o2,o3,o4]) (z:=[z1,z2,z3,z4]) (pv:=pv) hR hP.wid hc lm eV (k:=k) (a:=k) (W:=W) (F:=aP (aq M c) c) ((aq M c).1.length-k);have hs:aq M (c+1)=fQ (aq M c) c:=rfl;have TJ:=hP.aP c;rw [dh] at TJ;have wc:IntKind.wrap .i64 ((c:Int)+1)=((c+1:Nat):Int):=wrap64 (by omega) (by omega);have qX:iD (aq M c).1 c ((aq M c).1.length-k) k=aP (aq M c) c:=by unfold aP;rw [dh]
  by_cases hp:aP (aq M c) c<(aq M c).1.length
  ·
   have AD:k<M.length:=by omega
   have Ge:k<rows.length:=by omega
   have Lx:aP (aq M c) c<M.length:=by omega
   have eU:aP (aq M c) c<rows.length:=by omega
   have mE:k<(aq M c).1.length:=by omega
   have rA:=hR.get Ge mE;have rP:=hR.get eU hp;have hR1:cK et ((rows.set k rows[aP (aq M c) c]).set (aP (aq M c) c) rows[k]) (bC (aq M c).1 k (aP (aq M c) c)):=by
    unfold bC;rw [eQ mE,eQ hp];exact (hR.set k rP).set _ rA
   have l1:((rows.set k rows[aP (aq M c) c]).set (aP (aq M c) c) rows[k]).length=rows.length:=by simp
   have l1':=rK (aq M c).1 k (aP (aq M c) c);have w1:=hP.wid.bC (i:=k) (j:=aP (aq M c) c) mE hp;have J3:=J2.bC (i:=k) (j:=aP (aq M c) c) mE hp;have Qy:k<(bC (aq M c).1 k (aP (aq M c) c)).length:=by omega
   have r1:=hR1.get (i:=k) (by omega) Qy;have wk:=w1 k Qy;have Jk:=J3 k Qy;have dd:b9 (gR (bC (aq M c).1 k (aP (aq M c) c)) k) c≠0:=by
    have:=Na (aq M c).1 c ((aq M c).1.length-k) k (by rw [qX];omega)
    rw [qX] at this;unfold bC;rw [kK]
    split
    ·rename_i q;rw [q.1] at this;exact this
    ·rw [kK,yM ⟨rfl,mE⟩];exact this
   obtain ⟨g1,g2⟩:=J2.db hP hc hp;have Ze:db (aq M c) c=(bC (aq M c).1 k (aP (aq M c) c)).set k (cU (gR (bC (aq M c).1 k (aP (aq M c) c)) k) (gR (bC (aq M c).1 k (aP (aq M c) c)) k) (b9 (gR (bC (aq M c).1 k (aP (aq M c) c)) k) c)⁻¹ 0):=by
    unfold db nJ;rw [dh]
   have Eb:(db (aq M c) c).length=M.length:=by rw [rQ,lm]
   rw [dh] at g1 g2;have kE:∀i,i<=(db (aq M c) c).length->eJ (4*J+1) (bT (db (aq M c) c) k c i):=fun i hi=>SF (hP.db hp) hc (by omega) g1 (fun j hj=>g2 j (by omega)) hi
   rw [eQ Qy] at wk Jk dd Ze;obtain ⟨x1,x2,x3,x4,xr,e1,hx⟩:=r1.aY (i:=c) (by omega);rw [jw (show c<(bC (aq M c).1 k (aP (aq M c) c))[k].length by omega)] at dd Ze;have kx:=Jk _ (yS (show c<(bC (aq M c).1 k (aP (aq M c) c))[k].length by omega));obtain ⟨iv,e2,hiv⟩:=m73 h hx dd kx (by omega);obtain ⟨y,e3,hy⟩:=alT h sD r1 r1 hiv hz rfl (by omega) (fun z hz=>(Jk z hz).mono (show J<=J+1 by omega)) (fun z hz=>(Jk z hz).mono (show J<=J+1 by omega)) (kx.inv.mono (by omega)) (aDc.mono (by omega)) (by omega);have gx:=hx.f4;have gz:=hz.f4;obtain ⟨v1,v2,v3,v4,rfl,gv⟩:=hiv.gen;have Ec:cK et (((rows.set k rows[aP (aq M c) c]).set (aP (aq M c) c) rows[k]).set k (shut y)) (db (aq M c) c):=by rw [Ze];exact hR1.set k hy
   have f1:=azq h sD (z:=[z1,z2,z3,z4]) (pv:=pv) (hP.db hp) hc oS Eb eV (a:=k) (by omega) kE (by omega) (by omega) ho (k:=k) (W:=W) (db (aq M c) c).length;have nl:fQ (aq M c) c=(bT (db (aq M c) c) k c M.length,(aq M c).2++[c]):=by
    unfold fQ;rw [yM hp,dh,lm]
   have d1:=Bm (rows:=rows) Ge;have d2:=Bm (rows:=rows) eU;have d3:=Bm (rows:=(rows.set k rows[aP (aq M c) c]).set (aP (aq M c) c) rows[k]) (p:=k) (by omega);have s1:=fun (aj:Hp) (ct id:Nat)=>Df (hp:=aj) (ct:=ct) (id:=id) (ex:=true) (rows:=rows) (at_:=k) Ge rP.one rP.pu
   have s2:=fun (aj:Hp) (ct id:Nat)=>Df (hp:=aj) (ct:=ct) (id:=id) (ex:=true) (rows:=rows.set k rows[aP (aq M c) c]) (at_:=aP (aq M c) c) (by simpa using eU) rA.one rA.pu
   have s3:=fun (aj:Hp) (ct id:Nat)=>Df (hp:=aj) (ct:=ct) (id:=id) (ex:=true) (rows:=(rows.set k rows[aP (aq M c) c]).set (aP (aq M c) c) rows[k]) (at_:=k) (by omega) hy.one hy.pu
   have Ku:pv.length=k:=by rw [fH,yr,dh]
   have PE:pv++[ab c]=((aq M c).2++[c]).map (fun p:Nat=>ab p):=by rw [fH,xi];rfl
   have rAc:=rA.cells;have rPc:=rP.cells;have yc:=hy.cells;have aDk:¬(M.length:Int)<=(aP (aq M c) c:Nat):=by omega
   unfold ak at e2 e3;rcases k with _ | k1
   all_goals
    simp only [oV,oH,oC,b3] at f0 f1 ⊢;simp only [go_sem,ya,yb,ER,show (c:Int)<W by omega];generalize hq:D P L (.loop [4,5,6,7,8,9,10,11,24,25] CQ) _=q;obtain ⟨ex,st,rfl,tm,ct,rfl,rfl,t4,t5,t6,t7,t8,t9,t10,t11,t24,t25⟩:=bJ hq f0 ⟨_,by simp only [go_sem,ya,yb,ax]<;>rfl,by omega,qX⟩
    simp only [go_sem,ya,yb,yf,ax,t4,t5,t6,t7,t8,t9,t10,t11,t24,t25,aDk,yt,bN 0 0 Lx,bN 0 0 AD,ye,d1,d2,Dd,rAc,rPc,s1,s2,d3,e1,pQ,jx,yL,gx.ap,e2,cd,r1.ap,gv.ap,gz.ap,e3,yc,s3];generalize GF:D P L (.loop [4,5,6,7,8,9,10,24,25,89,90] CR) _=q2;obtain ⟨ex,st,rfl,tm,ct,ajG,rfl,rfl,t4,t5,t6,t7,t8,t9,t24,t25,hR3⟩:=bJ GF f1 ⟨0,_,by simp only [go_sem,ya,yb,ax]<;>rfl,by omega,Ec⟩
    simp only [go_sem,ya,yb,yk,yf,ax,t4,t5,t6,t7,t8,t9,t24,t25]
   ·rw [ij (by decide) (by decide) (by decide) (by decide)];simp only [go_sem,ya,yb,wc];refine ⟨_,d-1,rfl,by omega,c+1,ajG,1,[ab c],?_,by omega,?_,?_,?_⟩
    ·simp only [go_sem,ya,yb,ax]<;>rfl
    ·rw [hs,nl,yG,dh];rfl
    ·rw [hs,nl,<-PE,yB Ku];rfl
    ·rw [hs,nl];exact hR3
   ·rw [fS (ex:=false) (pu:=true) (cs:=pv) (by simp only [go_sem,ya]) (by rw [Ku,yf]) (by omega) (by omega) (by decide) (by simp only [go_sem])];simp only [go_sem,ya,yb,wc];refine ⟨_,d-1,rfl,by omega,c+1,ajG,k1+1+1,pv++[ab c],?_,by omega,?_,?_,?_⟩
    ·simp only [go_sem,ya,yb,ax]<;>rfl
    ·rw [hs,nl,yG,dh];rfl
    ·rw [hs,nl,PE]
    ·rw [hs,nl];exact hR3
  ·
   have nl:aq M (c+1)=aq M c:=by rw [hs,MI hp]
   rw [<-nl] at dh fH hR;have hF:aP (aq M c) c=M.length:=by omega
   rw [hF] at f0 qX;cases k
   all_goals
    simp only [oV,oH,oC,b3] at f0 ⊢;simp only [go_sem,ya,yb,ER,show (c:Int)<W by omega];generalize hq:D P L (.loop [4,5,6,7,8,9,10,11,24,25] CQ) _=q;obtain ⟨ex,st,rfl,tm,ct,rfl,rfl,t4,t5,t6,t7,t8,t9,t10,t11,t24,t25⟩:=bJ hq f0 ⟨_,by simp only [go_sem,ya,yb,ax]<;>rfl,by omega,qX⟩
    simp only [go_sem,ya,yb,ax,t4,t5,t6,t7,t8,t9,t10,t11,t24,t25,Int.le_refl,yq,wc];refine ⟨_,d-1,rfl,by omega,c+1,rows,_,pv,?_,by omega,dh,fH,hR⟩;simp only [go_sem,ya,yb,ax]<;>rfl
 ·right
  have:c=W:=by omega
  subst this;cases k
  all_goals
   simp only [oV,oH,oC,b3];simp only [go_sem,ya,yb,ER,show ¬(c:Int)<c by omega,yt];exact ⟨_,_,rfl,by simp,_,_,rows,_,pv,rfl,rfl,by simp only [go_sem,ya],by simp only [go_sem,ya]<;>rfl,dh,fH,hR⟩
def aDl (h:Fr' P L) (sD:Has P L 240 Dn) (PF:Has P L 227 Dm) {v:AV} {M:Mx} {W:Nat} (hv:cL et v M) (hw:wid W M) (oS:W<=1000) (h0:0<M.length) (eV:M.length<=1000) {K:Nat} (hk:eJ K M) (jX:1<=K) (hK:4^M.length*(K+1)<=400000000):
  ∃r q,ak P L 227 [v] (.ae [r,q])/\cL et (bK r) ((aq M W).1.take (aq M W).2.length)/\bt (bK q) ((aq M W).2.map (fun p:Nat=>(p:Int))):=by
 obtain ⟨one,e1,ho⟩:=m69 h (z:=1) (by decide) (by decide);obtain ⟨zero,e2,hz⟩:=m69 h (z:=0) (by decide) (by decide);obtain ⟨o1,o2,o3,o4,rfl,go⟩:=ho.gen;obtain ⟨z1,z2,z3,z4,rfl,gz⟩:=hz.gen;obtain ⟨r0,rest,fa,e0⟩:=hv.aY h0;have w0:=hw 0 h0;rw [eQ h0] at w0;have key:=azr h sD hw oS eV hk jX hK (by simpa using ho) (by simpa using hz) W;have eG:=hv;obtain ⟨rows,hL,hR⟩:=hv;have lr:=hR.len;obtain ⟨p1,p2⟩:=arc hR;have zH:∀hp:Hp,iE hp 1 v=some (M.length,rows):=fun hp=>by
  rcases hL with ⟨rfl,rfl⟩ | ⟨e,rfl⟩
  ·simp at lr;omega
  ·simp only [iE,yf,wW,yA,lr]
 have hm:∀ct,qU ct 1 24 [.aa] (some M.length) (some M.length)=some (.ao ct 0 M.length,.cells true true true 1 (yj M.length [AV.aa]).flatten):=fun ct=>C2 (by omega) (by omega) rfl rfl
 have Gh:(yj M.length [AV.aa]).flatten.length=M.length:=by rw [adV];simp
 have hc:=fun (ct:Nat)=>avy (hp:=[(0,.cells true true true 1 (yj M.length [AV.aa]).flatten)]) (ct:=ct) (id:=0) (fR _ _ _) Gh lr p1 p2
 have e12:bL P L (D P L) 69 [.int .i64 1]=some (.agg [o1,o2,o3,o4]):=e1;have e22:bL P L (D P L) 69 [.int .i64 0]=some (.agg [z1,z2,z3,z4]):=e2;have hP:=n7 hw W;have lm:=pq M W;have body:∃tm hp ct rows k pv,D P L Dm.body ⟨dX 0 [v],[],0,0⟩=some (.ret,⟨tm,hp,ct,0⟩)/\ai tm 2= .ao 0 0 k/\((k=0/\ai tm 3= .aa/\hp=[(0,.cells true true true 1 rows)])\/(0<k/\ai tm 3= .ao 1 0 k/\hp=[(1,.cells true true false 1 pv),(0,.cells true true true 1 rows)]))/\(aq M W).2.length=k/\pv=(aq M W).2.map (fun p:Nat=>ab p)/\cK et rows (aq M W).1:=by
  simp only [go_sem,ya,yb,Dm,eG.len,rE,hm,azo,zH,hc,e12,e22,cd,bi,go.st,gz.st,ru,e0,fa.len,w0];generalize hq:D P L (.loop [4,5,6,7,8,24,25] ER) _=q;obtain ⟨ex,st,rfl,tm,ct,Fh,k,pv,rfl,rfl,t4,t8,dh,fH,Ec⟩:=bJ hq key ⟨0,rows,0,[],by simp only [go_sem,ya,yb,ax,oV,oH,oC,b3]<;>rfl,by omega,rfl,rfl,hR⟩
  have AD:k<=M.length:=by have:=hP.pv;omega
  rcases k with _ | k1
  all_goals
   simp only [oV,oH,b3] at t8 ⊢;simp only [go_sem,ya,yb,ax,t4,t8]
   rw [ac2 (rw':=true) (pu:=true) (ex:=true) (cs:=Fh) (by simp only [go_sem,ya]) (by simp only [go_sem,rE,SZ]) AD];simp only [go_sem,ya]
  ·exact ⟨_,_,_,Fh,_,pv,rfl,by simp only [go_sem,ya],.inl ⟨rfl,by simp only [go_sem],rfl⟩,dh,fH,Ec⟩
  ·exact ⟨_,_,_,Fh,_,pv,rfl,by simp only [go_sem,ya],.inr ⟨by omega,by simp only [go_sem],rfl⟩,dh,fH,Ec⟩
 obtain ⟨tm,hp,ct,Fh,k,pv,hb,t2,n9,dh,fH,Ec⟩:=body;have AD:k<=M.length:=by have:=hP.pv;omega
 have lr2:=Ec.len;have hA:∀e,cL et (.aw e k (Fh.take k)) ((aq M W).1.take k):=fun e=>by
  have:=zj e (Ec.take k)
  rwa [yE,xA (by omega)] at this
 rw [dh];rcases n9 with ⟨rfl,t3,rfl⟩ | ⟨KL,t3,rfl⟩
 ·refine ⟨.bn false 1 0 [],.aa,?_,?_,?_⟩
  ·unfold ak;rw [aH PF,hb];simp only [go_sem,Dm,t2,t3];exact aoH (by omega) h0
  ·have:=hA false
   rw [List.take_zero];exact this
  ·rw [yB dh];exact qF
 ·have dP:pv.length=k:=by rw [fH,yr,dh]
  refine ⟨.bn (Nat.beq k M.length) 1 k (Fh.take k),.bn false 1 k pv,?_,hA _,?_⟩
  ·unfold ak;rw [aH PF,hb];simp only [go_sem,Dm,t2,t3];exact apz (by omega) AD dP
  ·have:=EA false pv
   rw [dP] at this;show cQ _ _
   rw [wO];rw [fH] at this ⊢;exact this
end
end
section
open Go (IntKind)
def oT (M:Mx):Bool:=M.any fun r=>r.any LG
noncomputable def fW (M:List (List (List Nat))):Mx:=M.map (wb cV)
abbrev wd {β:Type} (M:List (List β)):Nat:=(M.getD 0 []).length
def Tj {M:List (List (List Nat))} (h:jF M=0):0<M.length/\M.length<=64/\∀r,r∈M->r.length=wd M/\0<r.length/\r.length<=64/\∀s,s∈r->cf s=0:=by
 unfold jF at h
 split at h
 ·grind
 ·split at h
  ·grind
  ·refine ⟨by omega,by omega,fun r hr=>?_⟩;have h1:=HW h r hr;obtain ⟨a1,h1⟩:=Ct.1 h1;obtain ⟨a2,h1⟩:=Ct.1 h1;obtain ⟨a3,h1⟩:=Ct.1 h1;obtain ⟨a4,_⟩:=Ct.1 h1;refine ⟨?_,?_,?_,HW a4⟩
   ·grind
   ·grind
   ·grind
def aec {M:List (List (List Nat))} (h:∀r,r∈M->r.length=wd M):wid (wd M) (fW M):=fun i hi=>by
 unfold fW at hi ⊢;rw [eQ hi,xx,yr]
 grind
def Ev (M:List (List (List Nat))):(fW M).length=M.length:=yr _
def ard (z:Int):(aB z.natAbs).length<=(aZ z).length:=by
 cases z with
 | ofNat n=>exact yu _
 | negSucc n=>show (aB (n+1)).length<=(45::aB (n+1)).length;simp
def H40 {s:List Nat} (h:cf s=0) (hl:s.length<=40):Hq 160 (cV s):=by
 obtain ⟨e,h1,h2⟩:=Il h;have hn:=ard (cV s).num;have hT:s.length=(aZ (cV s).num).length+(if (cV s).den=1 then [] else 47::aB (cV s).den).length:=by
  conv=>lhs;rw [e]
  unfold RT;rw [yG]
 refine ⟨Ml (k:=40) (by omega) (by decide),Ml (k:=40) ?_ (by decide)⟩
 split at hT
 ·rename_i hd;rw [hd];decide
 ·grind
def azs {M:List (List (List Nat))} (h:∀r,r∈M->∀s,s∈r->cf s=0/\s.length<=40):eJ 160 (fW M):=fun i hi x hx=>by
 unfold fW at hi hx;rw [eQ hi,xx] at hx;obtain ⟨s,hs,rfl⟩:=vO.1 hx;obtain ⟨c,l⟩:=h _ (yS _) s hs;exact H40 c l
def ahw {K:Nat} {M:Mx} (h:eJ K M) {r:List Rat} (hr:r∈M):∀x,x∈r->Hq K x:=by
 obtain ⟨i,hi,rfl⟩:=wU.1 hr
 have:=h i hi
 rwa [eQ hi] at this
section
variable {P:aK} {L:Lib}
def azt (h:Tx P L) {v rv:AV} {l:List Rat} (hv:bg v=true) (hr:et rv l) (hl:l.length<=1000000) {K:Nat} (hk:∀x,x∈l->Hq K x) (hK:K<=4000000000) {n i j:Nat} {out:List AV}:
  ∀(d:Nat) (st:St),(∃k:Nat,aI [4,6,9,10,11,15,16,17] st=⟨[(4,oV 0 j),(6,rv),(9,v),(10,ab n),(11,ab i),(15,rv),(16,ab l.length),(17,ab k)],oH 0 1 out [] j,oC 0 j,0⟩/\k+d=l.length/\(l.take k).any LG=false)->
   ∃ex s',D P L (.loop [4,6,9,10,11,15,16,17] CP) st=some (ex,s')/\∃tm hp ct,s'=⟨tm,hp,ct,0⟩/\((ex= .ret/\ai tm 2= .aa/\ai tm 3=ab 4/\l.any LG=true)\/(ex= .exit 2/\l.any LG=false/\hp=oH 0 1 out [] j/\ai tm 4=oV 0 j/\ai tm 6=rv/\ai tm 9=v/\ai tm 10=ab n/\ai tm 11=ab i)):=by
 intro dq sq;generalize bk:aI [4,6,9,10,11,15,16,17] sq=s0;revert bk s0 sq dq;apply du;rintro d st ⟨k,rfl,hkd,hL⟩;by_cases hi:k<l.length
 ·obtain ⟨a,b,c,e,r,e1,hx⟩:=hr.aY hi;have e2:=aCF h hx (hk _ (yS hi)) hK;have gx:=hx.f4;have wk:IntKind.wrap .i64 ((k:Int)+1)=((k+1:Nat):Int):=wrap64 (by omega) (by omega);unfold ak at e2
  cases hg:LG l[k] with
  | true=>
   right
   rw [hg] at e2;have hT:l.any LG=true:=tp.2 ⟨_,yS hi,hg⟩;cases j
   all_goals
    simp only [oV,oH,oC];simp only [go_sem,ya,yb,CP,show (k:Int)<l.length by omega,yq,e1,pQ,rY,yL,bi,gx.st,gx.ap,e2];exact ⟨_,_,rfl,by simp,_,_,_,rfl,.inl ⟨rfl,by simp only [go_sem,ya],by simp only [go_sem],hT⟩⟩
  | false=>
   left
   rw [hg] at e2;have hT:(l.take (k+1)).any LG=false:=by rw [xb hi,yaW,hL];simp [hg]
   cases j
   all_goals
    simp only [oV,oH,oC];simp only [go_sem,ya,yb,CP,show (k:Int)<l.length by omega,yq,e1,pQ,rY,yL,bi,gx.st,gx.ap,e2];refine ⟨_,d-1,rfl,by omega,k+1,?_,by omega,hT⟩;rw [wk];simp only [go_sem,ya,yb,ax,aD hv,aE _ hv,aD hr.pu,aE _ hr.pu]<;>rfl
 ·right
  rw [List.take_of_length_le (by omega)] at hL
  have:k=l.length:=by omega
  subst this;cases j
  all_goals
   simp only [oV,oH,oC];simp only [go_sem,ya,yb,CP,show ¬(l.length:Int)<l.length by omega,yt];exact ⟨_,_,rfl,by simp,_,_,_,rfl,.inr ⟨rfl,hL,rfl,by simp only [go_sem,ya],by simp only [go_sem,ya],by simp only [go_sem,ya],by simp only [go_sem,ya],by simp only [go_sem,ya]⟩⟩
def aDm (h:Tx P L) (Zf:Has P L 123 Jy) (Zg:Has P L 226 Og) {v:AV} {M:Mx} (hv:cL et v M) (hl:M.length<=1000000) (hr:∀r,r∈M->r.length<=1000000) {K:Nat} (hk:∀r,r∈M->∀x,x∈r->Hq K x) (hK:K<=4000000000):
  (oT M=true->ak P L 226 [v] (.ae [.aa,ab 4]))/\(oT M=false->∃r,ak P L 226 [v] (.ae [r,ab 0])/\cL bS (bK r) (M.map (wb RT))):=by
 have key:=gh (P:=P) (L:=L) (live:=[4,9,10,11]) (a:=EQ)
  (I:=fun d st=>∃(i:Nat) (out:List AV),i+d=M.length/\oT (M.take i)=false/\cK bS out ((M.take i).map (wb RT))/\st=⟨[(4,oV 0 i),(9,v),(10,ab M.length),(11,ab i)],oH 0 1 out [] i,oC 0 i,0⟩)
  (Q:=fun ex st=>∃tm hp ct,st=⟨tm,hp,ct,0⟩/\((ex= .ret/\ai tm 2= .aa/\ai tm 3=ab 4/\oT M=true)\/(ex= .exit 0/\oT M=false/\∃out,hp=oH 0 1 out [] M.length/\ai tm 4=oV 0 M.length/\cK bS out (M.map (wb RT))))) ?_
 ·have main:(oT M=true/\ak P L 226 [v] (.ae [.aa,ab 4]))\/(oT M=false/\∃r,ak P L 226 [v] (.ae [r,ab 0])/\cL bS (bK r) (M.map (wb RT))):=by
   unfold ak;rw [aH Zg];simp only [go_sem,ya,Og,hv.len];generalize hq:D P L (.loop [4,9,10,11] EQ) _=q;obtain ⟨ex,st,rfl,tm,hp,ct,rfl,h2⟩:=bJ hq (key M.length) ⟨0,[],by omega,rfl,trivial,by simp only [go_sem,ya,ax,aD hv.pu,aE _ hv.pu]<;>rfl⟩
   rcases h2 with ⟨rfl,t2,t3,h4⟩ | ⟨rfl,h3,out,rfl,t4,hO⟩
   ·exact .inl ⟨h4,by simp only [go_sem,t2,t3]⟩
   ·right
    refine ⟨h3,?_⟩;have hlen:=hO.len;rw [yr] at hlen
    cases hn:M.length with
    | zero=>
     rw [hn] at t4;refine ⟨.aa,by simp only [go_sem,ya,ax,t4,oV,oH],?_⟩;rw [yB hn];exact RE
    | succ n=>
     rw [hn] at t4 hlen;refine ⟨.bn false 1 (n+1) out,?_,?_⟩
     ·simp only [go_sem,ya,yb,ax,t4,oV,oH];exact aoa (fR _ _ _) (by rw [hlen,yf]) (by decide)
     ·have:=zj false hO
      rwa [yr,hn] at this
  rcases main with ⟨h1,h2⟩ | ⟨h1,h2⟩
  ·exact ⟨fun _=>h2,fun h3=>by rw [h1] at h3;cases h3⟩
  ·exact ⟨fun h3=>(by rw [h1] at h3;cases h3),fun _=>h2⟩
 ·rintro d st ⟨i,out,hid,hL,hO,rfl⟩;by_cases hi:i<M.length
  ·obtain ⟨rv,rest,nK,e0⟩:=hv.aY hi;have hm:=yS hi;have f0:=azt h hv.pu nK (hr _ hm) (hk _ hm) hK (n:=M.length) (i:=i) (j:=i) (out:=out) M[i].length;obtain ⟨y,e1,hy⟩:=aDh Zf h nK (hr _ hm) (hk _ hm) hK;have wi:IntKind.wrap .i64 ((i:Int)+1)=((i+1:Nat):Int):=wrap64 (by omega) (by omega);have aI9:oT M=true\/M[i].any LG=false:=by
    cases hx:M[i].any LG with
    | true=>exact .inl (tp.2 ⟨_,hm,hx⟩)
    | false=>exact .inr rfl
   have hO':cK bS (out++[shut y]) ((M.take (i+1)).map (wb RT)):=by
    rw [xb hi,xi];exact hO.snoc hy
   have hlen:=hO.len;rw [yr,yE,xA (by omega)] at hlen;have hT:M[i].any LG=false->oT (M.take (i+1))=false:=fun q=>by
    unfold oT at hL ⊢;rw [xb hi,yaW,hL];simp only [List.any_cons,List.any_nil,q,Bool.or_false]
   have ajH:M[i].any LG=true->oT M=true:=fun q=>tp.2 ⟨_,hm,q⟩
   have nC:∀st,aI [4,6,9,10,11,15,16,17] st=⟨[(4,oV 0 i),(6,rv),(9,v),(10,ab M.length),(11,ab i),(15,rv),(16,ab M[i].length),(17,ab (0:Nat))],oH 0 1 out [] i,oC 0 i,0⟩->_:=fun st aO=>f0 st ⟨0,aO,by omega,rfl⟩
   unfold ak at e1
   cases i with
   | zero=>
    have:out=[]:=yB hlen
    subst this;simp only [oV,oH,oC] at nC ⊢;simp only [go_sem,ya,yb,EQ,show ((0:Nat):Int)<M.length by omega,e0,nK.len];generalize hq:D P L (.loop [4,6,9,10,11,15,16,17] CP) _=q;obtain ⟨ex,st,rfl,tm,hp,ct,rfl,h2⟩:=bJ hq nC (by simp only [go_sem,ya,ax,aD hv.pu,aE _ hv.pu,aD nK.pu,aE _ nK.pu]<;>rfl)
    rcases h2 with ⟨rfl,t2,t3,h4⟩ | ⟨rfl,h3,rfl,t4,t6,t9,t10,t11⟩
    ·right
     simp only [go_sem];exact ⟨_,_,rfl,by simp,_,_,_,rfl,.inl ⟨rfl,t2,t3,ajH h4⟩⟩
    ·left
     simp only [go_sem,ya,yb,xt,yD,yk,yf,ax,t4,t6,t9,t10,t11,aD hv.pu,aE _ hv.pu,aD nK.pu,aE _ nK.pu,nK.ap,e1,hy.pu,hy.one,hy.cells,ij];refine ⟨_,d-1,rfl,by omega,1,_,by omega,hT h3,hO',?_⟩;rw [wi];simp only [go_sem,ya,yb,ax,aD hv.pu,aE _ hv.pu]<;>rfl
   | succ i=>
    simp only [oV,oH,oC] at nC ⊢;simp only [go_sem,ya,yb,EQ,show ((i+1:Nat):Int)<M.length by omega,e0,nK.len];generalize hq:D P L (.loop [4,6,9,10,11,15,16,17] CP) _=q;obtain ⟨ex,st,rfl,tm,hp,ct,rfl,h2⟩:=bJ hq nC (by simp only [go_sem,ya,yb,ax,aD hv.pu,aE _ hv.pu,aD nK.pu,aE _ nK.pu]<;>rfl)
    rcases h2 with ⟨rfl,t2,t3,h4⟩ | ⟨rfl,h3,rfl,t4,t6,t9,t10,t11⟩
    ·right
     exact ⟨_,_,rfl,by simp,_,_,_,rfl,.inl ⟨rfl,t2,t3,ajH h4⟩⟩
    ·left
     simp only [go_sem,ya,yb,yk,yf,ax,t4,t6,t9,t10,t11,aD hv.pu,aE _ hv.pu,aD nK.pu,aE _ nK.pu,nK.ap,e1,hy.pu,hy.one,hy.cells]
     rw [fS (ex:=false) (pu:=true) (cs:=out) (by simp only [go_sem,ya]) (by rw [hlen,yf]) (by omega) (by omega) (by decide) (by simp only [go_sem,hy.one])];simp only [go_sem,ya,yb,hy.pu];refine ⟨_,d-1,rfl,by omega,i+1+1,_,by omega,hT h3,hO',?_⟩;rw [wi];simp only [go_sem,ya,yb,ax,aD hv.pu,aE _ hv.pu]<;>rfl
  ·right
   have:i=M.length:=by omega
   subst this;rw [xD] at hL hO;simp only [go_sem,ya,EQ,show ¬(M.length:Int)<M.length by omega];exact ⟨_,_,rfl,by simp,_,_,_,rfl,.inr ⟨rfl,hL,out,rfl,by simp only [go_sem,ya],hO⟩⟩
structure Mtr (P:aK) (L:Lib):Prop extends Ck P L where
 h84:Has P L 84 pZ
 Lw:Has P L 88 jD
 Zf:Has P L 123 Jy
 Ks:Has P L 126 Jz
 Kt:Has P L 127 JA
 BL:Has P L 161 Fv
 Zd:Has P L 225 Of
 Zg:Has P L 226 Og
 PF:Has P L 227 Dm
 sD:Has P L 240 Dn
end
end
section
open Go (IntKind)
def kvi (R:Mx) (pv:List Nat) (n c:Nat):Nat->List Rat
 | 0=>(yj n 0).set c 1
 | i+1=>(kvi R pv n c i).set (pv.getD i 0) (-(b9 (gR R i) c))
def Kv (R:Mx) (pv:List Nat) (n:Nat):Nat->Mx
 | 0=>[]
 | c+1=>if pv.contains c=true then Kv R pv n c else Kv R pv n c++[kvi R pv n c pv.length]
def aA6 (M:Mx) (W:Nat):Mx:=Kv (aq M W).1 (aq M W).2 W W
abbrev z4:List AV:=[AV.int .i64 0,.aa,.int .i64 0,.aa]
end
section
open Go (IntKind)
section
variable {P:aK} {L:Lib}
def aed {w:Nat} {m:Mx} (h:wid w m) (k:Nat):wid w (m.take k):=fun i hi=>by
 rw [yE] at hi;rw [eQ (by rw [yE];exact hi),uo]
 have:=h i (by omega)
 rwa [eQ (by omega)] at this
def zq {w:Nat} {m:Mx} (h:wid w m) {r:List Rat} (hr:r∈m):r.length=w:=by
 obtain ⟨i,hi,rfl⟩:=wU.1 hr
 have:=h i hi
 rwa [eQ hi] at this
end
end
section
open Go (IntKind)
def aod {α:Type} {f:α->Int} {l:List α} {i:Nat} (h:i<l.length):bD ((l.drop i).map f)=if f l[i]=0 then bD ((l.drop (i+1)).map f) else f l[i]:=by
 rw [yP h,xa,bD]
end
section
open Go (IntKind)
section
variable {P:aK} {L:Lib}
def a29 (h:Has P L 29 DT) {v w:AV} {l:List (List Nat)} (hv:bS v l) (hw:bS w l) (hl:l.length<=1000000):ak P L 29 [v,w] (.bool true):=by
 have key:=gh (P:=P) (L:=L) (live:=[0,1,5]) (a:=Ji)
  (I:=fun k st=>∃i:Nat,st=⟨[(0,v),(1,w),(5,ab i)],[],0,0⟩/\i+k=l.length)
  (Q:=fun ex st=>∃tm hp ct,st=⟨tm,hp,ct,0⟩/\ex= .exit 0) ?_
 ·unfold ak;rw [aH h];simp only [go_sem,ya,DT,hv.len,hw.len,yq,yR];generalize hq:D P L (.loop [0,1,5] Ji) _=q;obtain ⟨ex,st,rfl,tm,hp,ct,rfl,rfl⟩:=bJ hq (key l.length) ⟨0,by simp only [go_sem,ya,ax,aD hv.pu,aE _ hv.pu,aD hw.pu,aE _ hw.pu]<;>rfl,by omega⟩
  simp only [go_sem,ax]
 ·rintro k st ⟨i,rfl,hk⟩;by_cases hi:i<l.length
  ·left
   simp only [go_sem,ya,Ji,hv.len,show (i:Int)<l.length by omega,hv.aY hi,hw.aY hi,A1,aq9,yR];refine ⟨_,k-1,rfl,by omega,i+1,?_,by omega⟩;rw [wrap64 (by omega) (by omega)];simp only [go_sem,ya,ax,aD hv.pu,aE _ hv.pu,aD hw.pu,aE _ hw.pu]<;>rfl
  ·right
   simp only [go_sem,ya,Ji,hv.len,show ¬(i:Int)<l.length by omega];exact ⟨_,_,rfl,by simp,_,_,_,rfl,rfl⟩
end
end
section
open Go (IntKind)
section
variable {P:aK} {L:Lib}
def aDn (DC:Has P L 332 Fz) {n:Nat} (h0:0<n) (hn:n<=1000000):ak P L 332 [ab n] (.bn false 1 n ((yj n [48]).map .str)):=by
 have key:=gh (P:=P) (L:=L) (live:=[0,3,4]) (a:=EX)
  (I:=fun k s=>∃i:Nat,i+k=n/\((i=0/\s=⟨[(0,ab n),(3,.aa),(4,ab i)],[],0,0⟩)\/(0<i/\s=⟨[(0,ab n),(3,.ao 0 0 i),(4,ab i)],[(0,.cells true true false 1 ((yj i [48]).map .str))],1,0⟩)))
  (Q:=fun ex s=>∃tm hp ct,s=⟨tm,hp,ct,0⟩/\ex= .exit 0/\ai tm 3= .ao 0 0 n/\au hp 0=some (.cells true true false 1 ((yj n [48]).map .str))) ?_
 ·unfold ak;rw [aH DC];simp only [go_sem,Fz];generalize hq:D P L (.loop [0,3,4] EX) _=q;obtain ⟨ex,s,rfl,tm,hp,ct,rfl,rfl,t3,g0⟩:=bJ hq (key n) ⟨0,by omega,.inl ⟨rfl,by simp only [go_sem,ya,ax]<;>rfl⟩⟩
  simp only [go_sem,yb,ax,t3,g0];exact Cw (fR _ _ _) (by simp) (by decide)
 ·rintro k s ⟨i,hk,aO⟩;by_cases hi:i<n
  ·left
   have dN:(yj (i+1) [48]).map AV.str=(yj i [48]).map AV.str++[.str [48]]:=by rw [List.replicate_succ',xi];rfl
   rcases aO with ⟨Qz,rfl⟩ | ⟨Qz,rfl⟩
   ·subst Qz;simp only [go_sem,ya,yb,xt,yD,yk,yf,EX,show ((0:Nat):Int)<n by omega,ij];refine ⟨_,k-1,rfl,by omega,1,by omega,.inr ⟨by omega,?_⟩⟩;rw [wrap64 (by omega) (by omega)];simp only [go_sem,ya,yb,ax]<;>rfl
   ·simp only [go_sem,ya,yb,yk,yf,EX,show (i:Int)<n by omega]
    rw [fS (ex:=false) (pu:=true) (cs:=(yj i [48]).map .str) (by simp only [go_sem,ya]) (by simp) (by omega) (by omega) (by decide) (by simp only [go_sem])];simp only [go_sem,ya,yb];refine ⟨_,k-1,rfl,by omega,i+1,by omega,.inr ⟨by omega,?_⟩⟩;rw [wrap64 (by omega) (by omega),dN];simp only [go_sem,ya,yb,ax]<;>rfl
  ·right
   have:i=n:=by omega
   subst this;rcases aO with ⟨Qz,rfl⟩ | ⟨Qz,rfl⟩
   ·omega
   ·simp only [go_sem,ya,EX,show ¬(i:Int)<i by omega];exact ⟨_,_,rfl,by simp,_,_,_,rfl,rfl,by simp only [go_sem,ya],by simp only [go_sem]⟩
end
end
section
open Go (IntKind)
section
variable {P:aK} {L:Lib}
def aDo (h:Rm P L) (Ga:Has P L 261 JG) (Kw:Has P L 343 FA) {v:AV} {M:List (List (List Nat))} (hv:cL bS v M) (hr:∀r,r∈M->∀s,s∈r->s.length<9223372036854775808):ak P L 343 [v] (ab (jF M)):=by
 unfold jF;by_cases h0:M.length=0
 ·rw [yM h0];unfold ak;rw [aH Kw];simp only [go_sem,ya,FA,hv.len,show (M.length:Int)=0 by omega,yq]
 rw [yx h0];by_cases D7:64<M.length
 ·rw [yM D7];unfold ak;rw [aH Kw];simp only [go_sem,ya,FA,hv.len,show ¬(M.length:Int)=0 by omega,show (64:Int)<M.length by omega,yq,yt]
 rw [yx D7];obtain ⟨r0,aA7,fa,e0⟩:=hv.aY (i:=0) (by omega);rw [Fg (by omega)];have key:=gh (P:=P) (L:=L) (live:=[0,3]) (a:=zC)
  (I:=fun k st=>∃i:Nat,st=⟨[(0,v),(3,ab i)],[],0,0⟩/\i+k=M.length/\bD ((M.drop i).map (mM M[0].length))=bD (M.map (mM M[0].length)))
  (Q:=fun ex st=>∃tm hp ct,st=⟨tm,hp,ct,0⟩/\((ex= .ret/\ai tm 2=ab (bD (M.map (mM M[0].length))))\/(ex= .exit 0/\bD (M.map (mM M[0].length))=0))) ?_
 ·unfold ak;rw [aH Kw];simp only [go_sem,ya,FA,hv.len,show ¬(M.length:Int)=0 by omega,show ¬(64:Int)<M.length by omega,yt];generalize hq:D P L (.loop [0,3] zC) _=q;obtain ⟨ex,st,rfl,tm,hp,ct,rfl,h2⟩:=bJ hq (key M.length) ⟨0,by simp only [go_sem,ya,ax,aD hv.pu,aE _ hv.pu]<;>rfl,by omega,by simp⟩
  rcases h2 with ⟨rfl,h2⟩ | ⟨rfl,h2⟩
  ·simp only [go_sem,h2]
  ·rw [h2];simp only [go_sem,ax]
 ·rintro k st ⟨i,rfl,hk,hf⟩;by_cases hi:i<M.length
  ·obtain ⟨r,rest,cC,e1⟩:=hv.aY hi;have hm:=hr _ (yS hi);rw [aod hi] at hf;have w3:IntKind.wrap .i64 ((i:Int)+1)=((i+1:Nat):Int):=wrap64 (by omega) (by omega);by_cases c1:M[i].length=0
   ·right
    have hE:mM M[0].length M[i]=12:=by unfold mM;rw [yM c1];rfl
    rw [hE,yx (by decide)] at hf;simp only [go_sem,ya,zC,hv.len,show (i:Int)<M.length by omega,e1,cC.len,show (M[i].length:Int)=0 by omega,yq];exact ⟨_,_,rfl,by simp,_,_,_,rfl,.inl ⟨rfl,by rw [<-hf];simp only [go_sem]⟩⟩
   by_cases c2:64<M[i].length
   ·right
    have hE:mM M[0].length M[i]=5:=by unfold mM;rw [yx c1,yM c2];rfl
    rw [hE,yx (by decide)] at hf;simp only [go_sem,ya,zC,hv.len,show (i:Int)<M.length by omega,e1,cC.len,show ¬(M[i].length:Int)=0 by omega,show (64:Int)<(M[i].length:Nat) by omega,yq,yt];exact ⟨_,_,rfl,by simp,_,_,_,rfl,.inl ⟨rfl,by rw [<-hf];simp only [go_sem]⟩⟩
   have e2:=ajE h Ga cC (by omega) hm;unfold ak at e2;by_cases c3:M[i].length=M[0].length
   ·have jh:decide ((M[i].length:Int)=(M[0].length:Nat))=true:=xn (by omega);have hE:mM M[0].length M[i]=bD (M[i].map cf):=by
     unfold mM;rw [yx c1,yx c2,yM c3];show bD [0,0,0,bD (M[i].map cf)]=_
     generalize bD (M[i].map cf)=q;by_cases h:q=0<;>simp [bD,h]
    rw [hE] at hf;by_cases c4:bD (M[i].map cf)=0
    ·left
     rw [yM c4] at hf;rw [c4] at e2;simp only [go_sem,ya,zC,hv.len,show (i:Int)<M.length by omega,e1,cC.len,cC.ap,show ¬(M[i].length:Int)=0 by omega,show ¬(64:Int)<(M[i].length:Nat) by omega,yq,yt,ru,e0,fa.len,jh,yR,e2];refine ⟨_,k-1,rfl,by omega,i+1,?_,by omega,hf⟩;rw [w3];simp only [go_sem,ya,ax,aD hv.pu,aE _ hv.pu]<;>rfl
    ·right
     rw [yx c4] at hf;simp only [go_sem,ya,zC,hv.len,show (i:Int)<M.length by omega,e1,cC.len,cC.ap,show ¬(M[i].length:Int)=0 by omega,show ¬(64:Int)<(M[i].length:Nat) by omega,yq,yt,ru,e0,fa.len,jh,yR,e2,c4,yO];exact ⟨_,_,rfl,by simp,_,_,_,rfl,.inl ⟨rfl,by rw [<-hf];simp only [go_sem]⟩⟩
   ·right
    have hE:mM M[0].length M[i]=2:=by unfold mM;rw [yx c1,yx c2,yx c3];rfl
    rw [hE,yx (by decide)] at hf;simp only [go_sem,ya,zC,hv.len,show (i:Int)<M.length by omega,e1,cC.len,show ¬(M[i].length:Int)=0 by omega,show ¬(64:Int)<(M[i].length:Nat) by omega,yq,yt,ru,e0,fa.len,show ¬(M[i].length:Int)=(M[0].length:Nat) by omega,yO];exact ⟨_,_,rfl,by simp,_,_,_,rfl,.inl ⟨rfl,by rw [<-hf];simp only [go_sem]⟩⟩
  ·right
   simp only [go_sem,ya,zC,hv.len,show ¬(i:Int)<M.length by omega];refine ⟨_,_,rfl,by simp,_,_,_,rfl,.inr ⟨rfl,?_⟩⟩;rw [<-hf,List.drop_eq_nil_of_le (by omega)];rfl
def alV (ku:Has P L 351 nh) {v:AV} {M:List (List (List Nat))} (hv:cL bS v M) (h0:0<M.length):ak P L 351 [v] (ab (wd M)):=by
 obtain ⟨r0,aA7,fa,e0⟩:=hv.aY (i:=0) h0;unfold wd;rw [Fg h0];unfold ak;rw [aH ku];simp only [go_sem,ya,nh,hv.len,show ¬(M.length:Int)=0 by omega,yt,ru,e0,fa.len]
end
end
section
open Go (IntKind)
section
variable {P:aK} {L:Lib}
def avz {A:List (List (List Nat))} (h:∀r,r∈A->∀s,s∈r->cf s=0):(fW A).map (wb RT)=A:=by
 unfold fW;rw [wO]
 have:∀r,r∈A->(wb RT∘wb cV) r=r:=fun r hr=>by
  simp only [Function.comp,wO]
  have:∀s,s∈r->(RT∘cV) s=s:=fun s hs=>(Il (h r hr s hs)).1.symm
  rw [uU this];exact ybI r
 rw [uU this];exact ybI A
end
end
section
open Go (IntKind)
def Ag (n l:Nat):Bool:= !((decide (n<l)&&decide (l<=64))||decide (66<l))
def zb (n:Nat) (r:List (List Nat)):Bool:=Ag n r.length&&r8 r
def qj (n:Nat) (M:List (List (List Nat))):Bool:=Ag n M.length&&M.all (zb n)
def EE {n l:Nat} (h:Ag n l=true):l<=n\/(64<l/\l<=66):=by
 unfold Ag at h
 grind
def aiT {n:Nat} {M:List (List (List Nat))} (hn:n<=64) (h:qj n M=true):M.length<=66/\∀r,r∈M->r.length<=66/\∀s,s∈r->s.length<=40:=by
 obtain ⟨h1,h2⟩:=vY.1 h;have h3:=EE h1;refine ⟨by omega,fun r hr=>?_⟩;have h4:=th.1 h2 r hr;obtain ⟨h5,h6⟩:=vY.1 h4;have h7:=EE h5;refine ⟨by omega,fun s hs=>?_⟩
 have:=th.1 h6 s hs
 grind
def avA {n:Nat} {M:List (List (List Nat))} (h:qj n M=true) (hE:jF M=0):M.length<=n/\wd M<=n:=by
 obtain ⟨m0,m64,ho⟩:=Tj hE;obtain ⟨h1,h2⟩:=vY.1 h;have h3:=EE h1;have hm:=yS m0;have h4:=th.1 h2 _ hm;obtain ⟨h5,_⟩:=vY.1 h4;have h6:=EE h5
 grind
section
variable {P:aK} {L:Lib}
def azu {v:AV} {M:List (List (List Nat))} (hv:cL bS v M) {n i:Nat} (hi:i<M.length) (hl:M.length<=1000000) (hr:M[i].length<=1000000) (hs:∀s,s∈M[i]->s.length<9223372036854775808):
  ∀(d:Nat) (st:St),(∃k:Nat,aI [0,1,5,22,23,53,54] st=⟨[(0,v),(1,ab n),(5,ab i),(22,ab M.length),(23,ab i),(53,ab M[i].length),(54,ab k)],[],0,0⟩/\k+d=M[i].length/\r8 (M[i].drop k)=r8 M[i])->
   ∃ex s',D P L (.loop [0,1,5,22,23,53,54] CY) st=some (ex,s')/\∃tm hp ct,s'=⟨tm,hp,ct,0⟩/\((ex= .ret/\ai tm 4= .bool false/\r8 M[i]=false)\/(ex= .exit 2/\r8 M[i]=true/\hp=[]/\ai tm 0=v/\ai tm 1=ab n/\ai tm 22=ab M.length/\ai tm 23=ab i)):=by
 intro dq sq;generalize bk:aI [0,1,5,22,23,53,54] sq=s0;revert bk s0 sq dq;apply du;rintro d st ⟨k,rfl,hk,hd⟩;obtain ⟨r,rest,cC,e0⟩:=hv.aY hi;by_cases nt:k<M[i].length
 ·rw [apx nt] at hd;have e1:=cC.aY nt;have wk:IntKind.wrap .i64 ((k:Int)+1)=((k+1:Nat):Int):=wrap64 (by omega) (by omega);have hb:=hs _ (yS nt);by_cases h1:M[i][k].length<=40
  ·left
   rw [xn h1,wA] at hd;simp only [go_sem,ya,CY,show (k:Int)<M[i].length by omega,e0,e1,show ¬(40:Int)<(M[i][k].length:Int) by omega,yt];refine ⟨_,d-1,rfl,by omega,k+1,?_,by omega,hd⟩;rw [wk];simp only [go_sem,ya,ax,aD hv.pu,aE _ hv.pu]<;>rfl
  ·right
   rw [y8 h1,xN] at hd;simp only [go_sem,ya,CY,show (k:Int)<M[i].length by omega,e0,e1,show (40:Int)<(M[i][k].length:Int) by omega,yq];exact ⟨_,_,rfl,by simp,_,_,_,rfl,.inl ⟨rfl,by simp only [go_sem],hd.symm⟩⟩
 ·right
  have:k=M[i].length:=by omega
  subst this;simp only [go_sem,ya,CY,show ¬(M[i].length:Int)<M[i].length by omega,yt];refine ⟨_,_,rfl,by simp,_,_,_,rfl,.inr ⟨rfl,?_,rfl,by simp only [go_sem,ya],by simp only [go_sem,ya],by simp only [go_sem,ya],by simp only [go_sem,ya]⟩⟩;rw [<-hd,uQ];rfl
def alW (PG:Has P L 409 Bu) {v:AV} {M:List (List (List Nat))} (hv:cL bS v M) (n:Nat) (hr:∀r,r∈M->∀s,s∈r->s.length<9223372036854775808) (hn:n<=64):ak P L 409 [v,ab n] (.bool (qj n M)):=by
 have few:∀l:Nat,(decide ((n:Int)<l)&&decide ((l:Int)<=64)||decide ((66:Int)<l))= !Ag n l:=fun l=>by
  unfold Ag;rw [Bool.not_not,show decide ((n:Int)<l)=decide (n<l) by rw [tZ];omega,show decide ((l:Int)<=64)=decide (l<=64) by rw [tZ];omega,show decide ((66:Int)<l)=decide (66<l) by rw [tZ];omega]
 have key:=fun hl:M.length<=66=>gh (P:=P) (L:=L) (live:=[0,1,22,23]) (a:=rV)
  (I:=fun k st=>∃i:Nat,st=⟨[(0,v),(1,ab n),(22,ab M.length),(23,ab i)],[],0,0⟩/\i+k=M.length/\(M.drop i).all (zb n)=M.all (zb n))
  (Q:=fun ex st=>∃tm hp ct,st=⟨tm,hp,ct,0⟩/\((ex= .ret/\ai tm 4= .bool false/\M.all (zb n)=false)\/(ex= .exit 0/\M.all (zb n)=true))) (?_:∀(k:Nat) (st:St),_->_)
 ·have f:=few M.length;unfold ak;rw [aH PG];unfold qj
  cases hf:Ag n M.length with
  | false=>
   rw [hf] at f;by_cases h1:n<M.length
   ·by_cases h2:M.length<=64
    ·simp only [go_sem,ya,Bu,hv.len,show (n:Int)<M.length by omega,show (M.length:Int)<=64 by omega,yq,xN]
    ·have h3:66<M.length:=by
      rw [xn (show (n:Int)<M.length by omega),y8 (show ¬(M.length:Int)<=64 by omega)] at f;simp only [wA,vL,yO,wh] at f;omega
     simp only [go_sem,ya,Bu,hv.len,show (n:Int)<M.length by omega,show ¬(M.length:Int)<=64 by omega,show (66:Int)<M.length by omega,yq,yt,xN]
   ·have h3:66<M.length:=by
     rw [y8 (show ¬(n:Int)<M.length by omega)] at f;simp only [xN,vL,yO,wh] at f;omega
    simp only [go_sem,ya,Bu,hv.len,show ¬(n:Int)<M.length by omega,show (66:Int)<M.length by omega,yq,yt,xN]
  | true=>
   have n9:=EE hf;rw [wA];rcases n9 with n9 | ⟨c1,c2⟩
   ·simp only [go_sem,ya,Bu,hv.len,show ¬(n:Int)<M.length by omega,show ¬(66:Int)<M.length by omega,yt];generalize hq:D P L (.loop [0,1,22,23] rV) _=q;obtain ⟨ex,st,rfl,tm,hp,ct,rfl,h2⟩:=bJ hq (key (by omega) M.length) ⟨0,by simp only [go_sem,ya,ax,aD hv.pu,aE _ hv.pu]<;>rfl,by omega,rfl⟩
    rcases h2 with ⟨rfl,t4,h3⟩ | ⟨rfl,h3⟩
    ·rw [h3];simp only [go_sem,t4]
    ·rw [h3];simp only [go_sem,ax]
   ·simp only [go_sem,ya,Bu,hv.len,show (n:Int)<M.length by omega,show ¬(M.length:Int)<=64 by omega,show ¬(66:Int)<M.length by omega,yq,yt];generalize hq:D P L (.loop [0,1,22,23] rV) _=q;obtain ⟨ex,st,rfl,tm,hp,ct,rfl,h2⟩:=bJ hq (key (by omega) M.length) ⟨0,by simp only [go_sem,ya,ax,aD hv.pu,aE _ hv.pu]<;>rfl,by omega,rfl⟩
    rcases h2 with ⟨rfl,t4,h3⟩ | ⟨rfl,h3⟩
    ·rw [h3];simp only [go_sem,t4]
    ·rw [h3];simp only [go_sem,ax]
 ·rintro k st ⟨i,rfl,hk,hd⟩;by_cases hi:i<M.length
  ·obtain ⟨r,rest,cC,e0⟩:=hv.aY hi;have hm:=hr _ (yS hi);have f:=few M[i].length;rw [yP hi,List.all_cons] at hd;have w23:IntKind.wrap .i64 ((i:Int)+1)=((i+1:Nat):Int):=wrap64 (by omega) (by omega);have nC:M[i].length<=66->∀st,aI [0,1,5,22,23,53,54] st=⟨[(0,v),(1,ab n),(5,ab i),(22,ab M.length),(23,ab i),(53,ab M[i].length),(54,ab (0:Nat))],[],0,0⟩->_:=fun h66 st aO=>azu (P:=P) (L:=L) hv (n:=n) hi (by omega) (by omega) hm M[i].length st ⟨0,aO,by omega,rfl⟩
   have ic:zb n M[i]=(Ag n M[i].length&&r8 M[i]):=rfl;rw [ic] at hd
   cases hf:Ag n M[i].length with
   | false=>
    right
    rw [hf] at f hd;simp only [xN] at hd;by_cases h1:n<M[i].length
    ·by_cases h2:M[i].length<=64
     ·simp only [go_sem,ya,rV,show (i:Int)<M.length by omega,e0,cC.len,show (n:Int)<M[i].length by omega,show (M[i].length:Int)<=64 by omega,yq];exact ⟨_,_,rfl,by simp,_,_,_,rfl,.inl ⟨rfl,by simp only [go_sem],hd.symm⟩⟩
     ·have h3:66<M[i].length:=by
       rw [xn (show (n:Int)<M[i].length by omega),y8 (show ¬(M[i].length:Int)<=64 by omega)] at f;simp only [wA,vL,yO,wh] at f;omega
      simp only [go_sem,ya,rV,show (i:Int)<M.length by omega,e0,cC.len,show (n:Int)<M[i].length by omega,show ¬(M[i].length:Int)<=64 by omega,show (66:Int)<M[i].length by omega,yq,yt];exact ⟨_,_,rfl,by simp,_,_,_,rfl,.inl ⟨rfl,by simp only [go_sem],hd.symm⟩⟩
    ·have h3:66<M[i].length:=by
      rw [y8 (show ¬(n:Int)<M[i].length by omega)] at f;simp only [xN,vL,yO,wh] at f;omega
     simp only [go_sem,ya,rV,show (i:Int)<M.length by omega,e0,cC.len,show ¬(n:Int)<M[i].length by omega,show (66:Int)<M[i].length by omega,yq,yt];exact ⟨_,_,rfl,by simp,_,_,_,rfl,.inl ⟨rfl,by simp only [go_sem],hd.symm⟩⟩
   | true=>
    have n9:=EE hf;rw [hf,wA] at hd;have main:∀q,(∃ex s',q=some (ex,s')/\∃tm hp ct,s'=⟨tm,hp,ct,0⟩/\((ex= .ret/\ai tm 4= .bool false/\r8 M[i]=false)\/(ex= .exit 2/\r8 M[i]=true/\hp=[]/\ai tm 0=v/\ai tm 1=ab n/\ai tm 22=ab M.length/\ai tm 23=ab i)))->
      (∃s' k',jK P L (mW 1 (jK P L (mW 2 q) (.kp [0,1,22,23]))) (.aJ [qa 67 23 1,qm 23 67])=some (.normal,s')/\k'<k/\∃i:Nat,aI [0,1,22,23] s'=⟨[(0,v),(1,ab n),(22,ab M.length),(23,ab i)],[],0,0⟩/\i+k'=M.length/\(M.drop i).all (zb n)=M.all (zb n))\/
      ∃ex s',jK P L (mW 1 (jK P L (mW 2 q) (.kp [0,1,22,23]))) (.aJ [qa 67 23 1,qm 23 67])=some (ex,s')/\ex≠.normal/\∃tm hp ct,s'=⟨tm,hp,ct,0⟩/\((ex= .ret/\ai tm 4= .bool false/\M.all (zb n)=false)\/(ex= .exit 0/\M.all (zb n)=true)):=by
     rintro q ⟨ex,s',rfl,tm,hp,ct,rfl,h2⟩;rcases h2 with ⟨rfl,t4,h3⟩ | ⟨rfl,h3,rfl,t0,t1,t22,t23⟩
     ·right
      rw [h3,xN] at hd;simp only [go_sem];exact ⟨_,_,rfl,by simp,_,_,_,rfl,.inl ⟨rfl,t4,hd.symm⟩⟩
     ·left
      rw [h3,wA] at hd;simp only [go_sem,ya,ax,t0,t1,t22,t23,aD hv.pu,aE _ hv.pu,w23];refine ⟨_,k-1,rfl,by omega,i+1,?_,by omega,hd⟩;simp only [go_sem,ya,ax,aD hv.pu,aE _ hv.pu]<;>rfl
    rcases n9 with n9 | ⟨c1,c2⟩
    ·simp only [go_sem,ya,rV,show (i:Int)<M.length by omega,e0,cC.len,show ¬(n:Int)<M[i].length by omega,show ¬(66:Int)<M[i].length by omega,yq,yt];generalize hq:D P L (.loop [0,1,5,22,23,53,54] CY) _=q;exact main q (by rw [<-hq];exact nC (by omega) _ (by simp only [go_sem,ya,ax,aD hv.pu,aE _ hv.pu]<;>rfl))
    ·simp only [go_sem,ya,rV,show (i:Int)<M.length by omega,e0,cC.len,show (n:Int)<M[i].length by omega,show ¬(M[i].length:Int)<=64 by omega,show ¬(66:Int)<M[i].length by omega,yq,yt];generalize hq:D P L (.loop [0,1,5,22,23,53,54] CY) _=q;exact main q (by rw [<-hq];exact nC (by omega) _ (by simp only [go_sem,ya,ax,aD hv.pu,aE _ hv.pu]<;>rfl))
  ·right
   have:i=M.length:=by omega
   subst this;simp only [go_sem,ya,rV,show ¬(M.length:Int)<M.length by omega,yt];refine ⟨_,_,rfl,by simp,_,_,_,rfl,.inr ⟨rfl,?_⟩⟩;rw [<-hd,uQ];rfl
end
end
section
open Go (IntKind)
def AL (id:Nat) (o:Obj) (j:Nat):∀hp:Hp,au (a7 hp id o) j=if j=id then (au hp id).map (fun _=>o) else au hp j
 | []=>by by_cases h:j=id<;>simp [a7,au,h]
 | (i,u)::r=>by
  have ih:=AL id o j r;by_cases h1:i=id
  ·subst h1;rw [adK];by_cases h2:j=i
   ·subst h2;rw [yM rfl,fR,fR];rfl
   ·rw [yx h2,dn _ _ (fun e=>h2 e.symm),dn _ _ (fun e=>h2 e.symm)]
  ·rw [acK _ _ _ h1];by_cases h2:j=i
   ·subst h2;rw [yx h1,fR,fR]
   ·rw [dn _ _ (fun e=>h2 e.symm),ih,dn _ _ h1,dn _ _ (fun e=>h2 e.symm)]
def MJ {hp:Hp} {id:Nat} {u:Obj} (h:au hp id=some u) (o:Obj) (j:Nat):au (a7 hp id o) j=if j=id then some o else au hp j:=by
 rw [AL,h];rfl
def rF (id j:Nat):∀hp:Hp,au (dJ hp id) j=if j=id then none else au hp j
 | []=>by split<;>rfl
 | (i,u)::r=>by
  have ih:=rF id j r;by_cases h1:i=id
  ·subst h1;rw [adL,ih];by_cases h2:j=i
   ·rw [yM h2,yM h2]
   ·rw [yx h2,yx h2,dn _ _ (fun e=>h2 e.symm)]
  ·rw [acL _ _ h1];by_cases h2:j=i
   ·subst h2;rw [yx h1,fR,fR]
   ·rw [dn _ _ (fun e=>h2 e.symm),ih,dn _ _ (fun e=>h2 e.symm)]
def aee (i:Nat):∀l:List Nat,jz i l=true↔i∈l
 | []=>by simp [jz]
 | j::r=>by
  by_cases h:j=i
  ·subst h;simp [adO]
  ·rw [acO _ h,aee i r];simp [show ¬i=j from fun e=>h e.symm]
def atj {i:Nat} {l:List Nat} (h:i∉l):jz i l=false:=by
 cases hq:jz i l with
 | false=>rfl
 | true=>exact absurd ((aee i l).1 hq) h
def SG (hp:Hp):∀(ids seen fL:List Nat) (n:Nat),ids.length<n->(∀i,i∈ids->∃o,au hp i=some o/\iX o=[])->ids.Nodup->(∀i,i∈ids->i∉seen)->lU hp n (ids++fL) seen=lU hp (n-ids.length) fL (seen++ids)
 | [],seen,fL,n,_,_,_,_=>by simp
 | i::ids,seen,fL,0,h,_,_,_=>by simp at h
 | i::ids,seen,fL,n+1,h,h1,h2,h3=>by
  obtain ⟨o,g,e⟩:=h1 i wF;have hn:=wX.1 h2
  rw [xk,MA,atj (h3 i wF),Np,g,Nq,e,xB,SG hp ids (seen++[i]) fL n (by simpa using h) (fun j hj=>h1 j (we _ hj)) hn.2 (fun j hj hm=>by
   rcases xZ.1 hm with hm | hm
   ·exact h3 j (we _ hj) hm
   ·simp only [xC] at hm
    subst hm;exact hn.1 hj)]
  simp only [yz,xy,xk,xB];rw [show n+1-(ids.length+1)=n-ids.length by omega]
def ahx (hp:Hp) {n:Nat} (h:0<n) (seen:List Nat):lU hp n [] seen=seen:=by
 obtain ⟨m,rfl⟩:∃m,n=m+1:=⟨n-1,by omega⟩;exact ahn hp m seen
def R9 (hp:Hp) (f:Nat->Option Nat):∀(seen:List Nat) (k:Nat) (acc:Hp) (j:Nat),j<k->au (gW hp f seen k acc) j=au acc j
 | [],k,acc,j,_=>rfl
 | id::r,k,acc,j,h=>by
  rw [gW]
  cases au hp id with
  | none=>exact R9 hp f r (k+1) acc j (by omega)
  | some o=>
   simp only;rw [R9 hp f r (k+1) _ j (by omega),dn _ _ (by omega)]
def ab7 (hp:Hp) (f:Nat->Option Nat):∀(seen:List Nat) (k:Nat) (acc:Hp) (j:Nat) (h:j<seen.length) (o:Obj),au hp seen[j]=some o->au (gW hp f seen k acc) (k+j)=some (iH f o)
 | id::r,k,acc,0,_,o,ho=>by
  simp only [xv] at ho;rw [gW];simp only [ho];show au (gW hp f r (k+1) ((k,iH f o)::acc)) k=_
  rw [R9 hp f r (k+1) _ k (by omega),fR]
 | id::r,k,acc,j+1,h,o,ho=>by
  simp only [wq] at ho
  have:=fun zS=>ab7 hp f r (k+1) zS j (by simpa using h) o ho
  rw [gW,show k+(j+1)=k+1+j by omega]
  cases au hp id with
  | none=>exact this _
  | some u=>exact this _
def CH:∀(seen:List Nat) (k j:Nat) (h:j<seen.length),seen.Nodup->ef seen[j] seen k=some (k+j)
 | s::r,k,0,_,_=>by simp only [xv,yY];exact aho s r k
 | s::r,k,j+1,h,hn=>by
  have hn:=wX.1 hn;have hj:j<r.length:=by simpa using h
  simp only [wq];rw [adP _ _ (fun e=>hn.1 (by rw [e];exact yS hj)),CH r (k+1) j hj hn.2]
  congr 1;omega
def aa8 {live:List Nat} {tm:Env} {hp:Hp} {ct:Nat} {seen:List Nat} (hr:lU hp 100000 (fc (cg tm live)) []=seen):
  ∃aj,aI live ⟨tm,hp,ct,0⟩=⟨fC (pos seen) (cg tm live),aj,seen.length,0⟩/\∀j (h:j<seen.length) o,au hp seen[j]=some o->au aj j=some (iH (pos seen) o):=by
 refine ⟨gW hp (pos seen) seen 0 [],by rw [ax,hr,ahp],fun j h o ho=>?_⟩
 have:=ab7 hp (pos seen) seen 0 [] j h o ho
 rwa [ye] at this
def ac3 {w:Nat}:∀(ids:List Nat) (T:List (List AV)) (hp:Hp) (n:Nat),ids.length+4<=n->ids.length=T.length->(∀i (h1:i<ids.length) (h2:i<T.length),T[i].length=w/\∃rw,au hp ids[i]=some (.cells rw true false 1 T[i]))->
  ∃aj,cB n hp (ids.map fun i=> .ao i 0 w)=some (T.map (fun r=> .aw false w r),aj)/\∀j,j∉ids->au aj j=au hp j
 | [],[],hp,n+1,_,_,_=>⟨hp,rfl,fun _ _=>rfl⟩
 | [],[],hp,0,h,_,_=>by simp at h
 | [],_::_,_,_,_,h,_=>by simp at h
 | _::_,[],_,_,_,h,_=>by simp at h
 | i::ids,r::T,hp,n+1,hn,hl,h=>by
  obtain ⟨l0,rw',g0⟩:=h 0 (by simp) (by simp);simp only [xv] at l0 g0;simp only [yz] at hn hl;obtain ⟨m,rfl⟩:∃m,n=m+1+1:=⟨n-2,by omega⟩;have hz:nN (m+1) hp i=some (false,1,r,if rw'=true then a7 hp i (.cells false true false 1 r) else hp):=by
   rw [MY,g0];cases rw'<;>rfl
  have TK:∃bc,(if rw'=true then a7 hp i (.cells false true false 1 r) else hp)=bc/\∀j,au bc j=if j=i then some (.cells (if rw'=true then false else rw') true false 1 r) else au hp j:=by
   refine ⟨_,rfl,fun j=>?_⟩
   cases rw' with
   | true=>simp only [xE];rw [MJ g0]
   | false=>
    simp only [yI,xg]
    split
    ·rename_i e;rw [e,g0]
    ·rfl
  obtain ⟨bc,e1,g1⟩:=TK;rw [e1] at hz;obtain ⟨aj,e2,g2⟩:=ac3 ids T bc (m+1+1) (by omega) (by omega) (fun k h1 h2=>by
   obtain ⟨a,Qv,b⟩:=h (k+1) (by simpa using h1) (by simpa using h2);simp only [wq] at a b;refine ⟨a,?_⟩;rw [g1]
   split
   ·rename_i e;rw [e,g0] at b;simp only [yd,Obj.cells.injEq] at b;exact ⟨_,by rw [b.2.2.2.2]⟩
   ·exact ⟨Qv,b⟩)
  refine ⟨aj,?_,fun j hj=>?_⟩
  ·rw [xa,Rz,MX,hz,nP false (by rw [l0,yf]) (by decide),SX,e2,SY];rfl
  ·simp only [wP,not_or] at hj;rw [g2 j hj.2,g1,yx hj.1]
end
section
open Go (IntKind)
def cr (r:List Rat):List AV:=r.map fun x=> .str (RT x)
def zE (r:List Rat):(cr r).length=r.length:=yr _
def EF {r:List Rat} {c:Nat} (h:c<r.length):vD c (cr r)= .str (RT (b9 r c))::vD (c+1) (cr r):=by
 rw [yP (by rw [zE];exact h),jw h];simp [cr]
def Tk (r:List Rat) (c:Nat) (x:Rat):(cr r).set c (.str (RT x))=cr (r.set c x):=by simp [cr,tI]
def Tl (e:Bool) (r:List Rat):bS (.aw e r.length (cr r)) (r.map RT):=by
 have:=SD e (r.map RT)
 rw [yr,wO] at this;exact this
structure bX (hp:Hp) (w:Nat) (M:Mx):Prop where
 m:au hp 0=some (.cells true false false 1 ((xe M.length).map fun i=> .ao (i+1) 0 w))
 r:∀i,i<M.length->au hp (i+1)=some (.cells true true false 1 (cr (gR M i)))
def ep (hp:Hp) (n k:Nat) (pvs:List AV):Prop:=k=0\/au hp (n+1)=some (.cells true true false 1 pvs)
def bX.drop {n p w:Nat} (h:p<n):∃r,vD p ((xe n).map fun i=>AV.ao (i+1) 0 w)= .ao (p+1) 0 w::r:=by
 rw [yP (by simpa using h)]
 simp
def bX.set {hp:Hp} {w:Nat} {M:Mx} (h:bX hp w M) {i:Nat} (hi:i<M.length) (r:List Rat):bX (a7 hp (i+1) (.cells true true false 1 (cr r))) w (M.set i r):=by
 refine ⟨?_,fun j hj=>?_⟩
 ·rw [MJ (h.r i hi),yx (by omega),vm];exact h.m
 ·rw [vm] at hj;rw [MJ (h.r i hi),kK];by_cases e:i=j
  ·grind
  ·rw [yx (by omega),yx (fun q=>e q.1)];exact h.r j hj
def ep.set {hp:Hp} {n k:Nat} {pvs:List AV} (h:ep hp n k pvs) {i:Nat} {o:Obj} (hi:i<=n):ep (a7 hp i o) n k pvs:=by
 rcases h with h | h
 ·exact .inl h
 ·refine .inr ?_;rw [AL,yx (by omega)];exact h
def cJ (a:Nat) (ids pl:List Nat):List Nat:=a::(ids++pl)
def ac4 (w:Nat):∀ids:List Nat,fT (ids.map fun i=>AV.ao i 0 w)=ids
 | []=>rfl
 | i::r=>by simp only [xa,fT,refs,ac4 w r];rfl
def azv {hp:Hp} {a w:Nat} {ids pl:List Nat} {rw' ex:Bool} (hm:au hp a=some (.cells rw' false ex 1 (ids.map fun i=> .ao i 0 w))) (hr:∀i,i∈ids->∃o,au hp i=some o/\iX o=[]) (bc:∀i,i∈pl->∃o,au hp i=some o/\iX o=[]) (hn:(cJ a ids pl).Nodup) (hl:ids.length+pl.length<90000):lU hp 100000 (a::pl) []=cJ a ids pl:=by
 have iA:=wX.1 hn;have dd:∀i,i∈ids++pl->i∉[a]:=fun i hi hm=>by
  grind
 rw [show (100000:Nat)=99999+1 from rfl,MA,R2,Np,hm,Nq,Sr,ac4,xB]
 have:ids++pl=(ids++pl)++[]:=by simp
 rw [this,SG hp (ids++pl) [a] [] 99999 (by rw [yG];omega) (fun i hi=>by
  rcases xZ.1 hi with h | h
  ·grind
  ·exact bc i h) iA.2 dd,ahx hp (by rw [yG];omega)]
 rfl
def aef {f:Nat->Option Nat} {w:Nat}:∀(ids:List Nat) (k:Nat),(∀i (h:i<ids.length),f ids[i]=some (k+i))->eE f (ids.map fun i=>AV.ao i 0 w)=(xW k ids.length).map fun i=> .ao i 0 w
 | [],_,_=>rfl
 | i::r,k,h=>by
  have h0:=h 0 (by simp);simp only [xv,yY] at h0;simp only [xa,eE,b7,h0,yz,vN]
  rw [aef r (k+1) (fun j hj=>by
   have:=h (j+1) (by simpa using hj)
   simp only [wq] at this
   rw [this];congr 1;omega)]
def Nb {live:List Nat} {tm:Env} {hp:Hp} {ct a w:Nat} {ids pl:List Nat} {M:Mx} (hE:fc (cg tm live)=a::pl) (hm:au hp a=some (.cells true false false 1 (ids.map fun i=> .ao i 0 w)))
  (hl:ids.length=M.length) (hr:∀i (h:i<ids.length),au hp ids[i]=some (.cells true true false 1 (cr (gR M i)))) (hM:M.length<=10000) (hn:(cJ a ids pl).Nodup) (bc:∀i,i∈pl->∃o,au hp i=some o/\iX o=[]) (dP:pl.length<=1000):
  ∃aj aM,aM=1+(M.length+pl.length)/\aI live ⟨tm,hp,ct,0⟩=⟨fC (pos (cJ a ids pl)) (cg tm live),aj,aM,0⟩/\bX aj w M/\(∀j (h:j<pl.length) o,au hp pl[j]=some o->au aj (M.length+1+j)=some (iH (pos (cJ a ids pl)) o))/\ef a (cJ a ids pl) 0=some 0/\∀j (h:j<pl.length),ef pl[j] (cJ a ids pl) 0=some (M.length+1+j):=by
 have oB:∀i,i∈ids->∃o,au hp i=some o/\iX o=[]:=fun i hi=>by
  obtain ⟨k,hk,rfl⟩:=wU.1 hi;exact ⟨_,hr k hk,rfl⟩
 have hR:=azv (pl:=pl) hm oB bc hn (by omega);rw [<-hE] at hR;obtain ⟨aj,e,g⟩:=aa8 (ct:=ct) hR;have ls:(cJ a ids pl).length=1+(ids.length+pl.length):=by simp [cJ];omega
 have s0:∀h:0<(cJ a ids pl).length,(cJ a ids pl)[0]=a:=fun _=>rfl
 have sI:∀i (h:i<ids.length) (h2:i+1<(cJ a ids pl).length),(cJ a ids pl)[i+1]=ids[i]:=fun i h h2=>by
  simp [cJ,xH h]
 have sP:∀j (h:j<pl.length) (h2:M.length+1+j<(cJ a ids pl).length),(cJ a ids pl)[M.length+1+j]=pl[j]:=fun j h h2=>by
  have:M.length+1+j=(ids.length+j)+1:=by omega
  simp only [cJ,this,wq]
  grind
 have pI:∀i (h:i<ids.length),pos (cJ a ids pl) ids[i]=some (1+i):=fun i h=>by
  have:=CH (cJ a ids pl) 0 (i+1) (by omega) hn
  rw [sI i h (by omega)] at this;rw [pos_eq,this];congr 1;omega
 refine ⟨aj,_,by rw [ls,hl],e,⟨?_,fun i hi=>?_⟩,fun j hj o ho=>?_,?_,fun j hj=>?_⟩
 ·have:=g 0 (by omega) _ (by rw [s0];exact hm)
  rw [this];have e2:iH (pos (cJ a ids pl)) (.cells true false false 1 (ids.map fun i=> .ao i 0 w))= .cells true false false 1 (eE (pos (cJ a ids pl)) (ids.map fun i=> .ao i 0 w)):=rfl;rw [e2,aef ids 1 pI,hl,ux,wO]
  congr 3
  funext i
  simp [yaD]
 ·have:=g (i+1) (by omega) _ (by rw [sI i (by omega)];exact hr i (by omega))
  rw [this];rfl
 ·exact g (M.length+1+j) (by omega) o (by rw [sP j hj (by omega)];exact ho)
 ·have:=CH (cJ a ids pl) 0 0 (by omega) hn
  rw [s0] at this;exact this
 ·have:=CH (cJ a ids pl) 0 (M.length+1+j) (by omega) hn
  rw [sP j hj (by omega),ye] at this;exact this
def di (n k:Nat):List Nat:=if k=0 then [] else [n+1]
def ac5 (n k:Nat):(cJ 0 ((xe n).map (·+1)) (di n k)).Nodup:=by
 unfold cJ di;have h1:((xe n).map (·+1)).Nodup:=by
  have e:(xe n).map (·+1)=xW 1 n:=by
   rw [ux]
   grind
  grind
 grind
def ac6 {live:List Nat} {tm:Env} {hp:Hp} {ct w k:Nat} {M:Mx} {pvs:List AV} (h:bX hp w M) (hv:ep hp M.length k pvs) (hM:M.length<=10000) (hE:fc (cg tm live)=0::di M.length k):
  ∃aj aM S,aM=1+(M.length+(di M.length k).length)/\aI live ⟨tm,hp,ct,0⟩=⟨fC (pos S) (cg tm live),aj,aM,0⟩/\bX aj w M/\ep aj M.length k pvs/\ef 0 S 0=some 0/\(k≠0->ef (M.length+1) S 0=some (M.length+1)):=by
 have hm:=h.m;rw [show ((xe M.length).map fun i=>AV.ao (i+1) 0 w)=((xe M.length).map (·+1)).map (fun i=> .ao i 0 w) by rw [wO];rfl] at hm
 obtain ⟨aj,aM,eM,e,g1,g2,g3,g4⟩:=Nb (ct:=ct) hE hm (by simp) (fun i hi=>by
  simp only [xx,vG];exact h.r i (by simpa using hi)) hM (ac5 M.length k) (fun i hi=>by
   unfold di at hi
   split at hi
   ·grind
   ·rename_i hk;simp only [xC] at hi;subst hi;rcases hv with hv | hv
    ·grind
    ·exact ⟨_,hv,rfl⟩) (by unfold di;split<;>simp)
 refine ⟨aj,aM,_,eM,e,g1,?_,g3,fun hk=>?_⟩
 ·by_cases hk:k=0
  ·exact .inl hk
  ·rcases hv with hv | hv
   ·grind
   ·refine .inr ?_;have dP:di M.length k=[M.length+1]:=yx hk
    have:=g2 0 (by rw [dP];exact tD) (.cells true true false 1 pvs) (by simp only [dP,xv];exact hv)
    exact this
 ·have dP:di M.length k=[M.length+1]:=yx hk
  have:=g4 0 (by rw [dP];exact tD)
  simp only [dP,xv] at this;simpa [dP] using this
def mR {live:List Nat} {tm tm':Env} {hp:Hp} {ct w k n:Nat} {M:Mx} {pvs:List AV} {R:Prop} (h:bX hp w M) (hv:ep hp n k pvs) (hn:M.length=n) (hM:n<=10000) (hE:fc (cg tm live)=0::di n k)
  (hT:∀S,ef 0 S 0=some 0->(k≠0->ef (n+1) S 0=some (n+1))->fC (pos S) (cg tm live)=tm') (hR:R):∃aj aM,aI live ⟨tm,hp,ct,0⟩=⟨tm',aj,aM,0⟩/\bX aj w M/\ep aj n k pvs/\R:=by
 subst hn;obtain ⟨aj,aM,S,eM,e,q1,q2,q3,q4⟩:=ac6 (ct:=ct) h hv hM hE
 grind
def Iy {live:List Nat} {tm tm':Env} {hp:Hp} {ct w k n:Nat} {M:Mx} {pvs:List AV} (h:bX hp w M) (hv:ep hp n k pvs) (hn:M.length=n) (hM:n<=10000) (hE:fc (cg tm live)=0::di n k)
  (hT:∀S,ef 0 S 0=some 0->(k≠0->ef (n+1) S 0=some (n+1))->fC (pos S) (cg tm live)=tm'):∃aj,aI live ⟨tm,hp,ct,0⟩=⟨tm',aj,1+(n+(di n k).length),0⟩/\bX aj w M/\ep aj n k pvs:=by
 subst hn;obtain ⟨aj,aM,S,rfl,e,q1,q2,q3,q4⟩:=ac6 (ct:=ct) h hv hM hE
 grind
section
variable {P:aK} {L:Lib}
def alX (jf:Has P L 355 pL) (a:Rat):ak P L 355 [.str (RT a)] (.bool (decide (a=0))):=by
 have:=azm a
 unfold ak;rw [aH jf];simp only [go_sem,ya,pL,lD,this]
def aA8 (ku:Has P L 351 nh) {hp:Hp} {ct n w:Nat} {M:Mx} (h:bX hp w M) (hn:M.length=n) (h0:0<n):eB P L (D P L) hp ct .heap (.fn (.f 351) [] []) [.ao 0 0 n]=some (ab w,hp,ct):=by
 show il P L (D P L) hp ct 351 [.ao 0 0 n]=_
 obtain ⟨r,d0⟩:=bX.drop (n:=M.length) (p:=0) (w:=w) (by omega);have hm:=h.m;rw [yL] at d0;rw [d0] at hm;have hb:∃tm,D P L nh.body ⟨dX 0 [.ao 0 0 n],hp,ct,ct⟩=some (.ret,⟨tm,hp,ct,ct⟩)/\ai tm 2=ab w:=by
  simp only [go_sem,ya,yb,yf,nh,show ¬(n:Int)=0 by omega,yt,ru,bN 0 0 h0,yY,hm,yL,Dd];exact ⟨_,rfl,by simp only [go_sem]⟩
 obtain ⟨tm,hb,t2⟩:=hb;exact M1 ku hb (.inr rfl) (by simp only [go_sem,nh,t2])
end
end
section
open Go (IntKind)
def fo (k:Nat) (new old:List Rat):List Rat:=new.take k++old.drop k
def Nc {k:Nat} {new old:List Rat} (h:new.length=old.length) (hk:k<=old.length):(fo k new old).length=old.length:=by
 simp [fo];omega
def aeg (new old:List Rat):fo 0 new old=old:=by simp [fo]
def ahy {k:Nat} {new old:List Rat} (h:new.length=old.length) (hk:k=old.length):fo k new old=new:=by
 simp only [fo,uQ,xY]
 grind
def ahz {k j:Nat} {new old:List Rat} (h:new.length=old.length) (hj:k<=j) (hk:k<=old.length):b9 (fo k new old) j=b9 old j:=by
 simp only [b9,fo,y9]
 grind
def ahA {k:Nat} {new old:List Rat} (h:new.length=old.length) (hk:k<old.length):(fo k new old).set k (b9 new k)=fo (k+1) new old:=by
 apply List.ext_getElem
 ·rw [vm,Nc h (by omega),Nc h (by omega)]
 ·intro i h1 h2;rw [yaT];simp only [fo];by_cases hi:k=i
  ·subst hi;rw [yM rfl,jw (by omega),xH (by simp;omega)]
   simp
  ·grind
def aoI {r:List Rat} {t:Rat} {k:Nat} (hk:k<r.length):b9 (cU r r t 0) k=b9 r k*t:=by
 rw [jw (by rw [rN rfl];exact hk),ED hk hk,jw hk];grind
def apA {r p:List Rat} {t:Rat} {k:Nat} (h:r.length=p.length) (hk:k<r.length):b9 (cU r p 1 (-t)) k=b9 r k-t*b9 p k:=by
 rw [jw (by rw [rN h];exact hk),ED hk (h▸hk),jw hk,jw (h▸hk)];grind
def aeh {m:Mx} {i:Nat} (h:i<m.length):m.set i (gR m i)=m:=by
 rw [eQ h];exact List.set_getElem_self h
def aei {m:Mx} {i:Nat} (a b:List Rat):(m.set i a).set i b=m.set i b:=by simp
section
variable {P:aK} {L:Lib}
def azw (jf:Has P L 355 pL) {M:Mx} {w c n k F:Nat} {pvs:List AV} (hw:wid w M) (hc:c<w) (kZ:w<=10000) (hn:M.length=n) (eV:n<=10000):
  ∀d st,(∃(p:Nat) (hp:Hp) (ct:Nat),aI [0,4,5,6] st=⟨[(0,.ao 0 0 n),(4,oV (n+1) k),(5,ab c),(6,ab p)],hp,ct,0⟩/\bX hp w M/\ep hp n k pvs/\p+d=n/\iD M c d p=F)->
   ∃ex s',D P L (.loop [0,4,5,6] CV) st=some (ex,s')/\∃tm hp ct,s'=⟨tm,hp,ct,0⟩/\ex= .exit 2/\bX hp w M/\ep hp n k pvs/\ai tm 0= .ao 0 0 n/\ai tm 4=oV (n+1) k/\ai tm 5=ab c/\ai tm 6=ab F:=by
 intro dq sq;generalize bk:aI [0,4,5,6] sq=s0;revert bk s0 sq dq;apply du;rintro d st ⟨p,hp,ct,rfl,hM,hV,hpd,hF⟩;by_cases nI:p<n
 ·have Lx:p<M.length:=by omega
  have wp:=hw p Lx;obtain ⟨r,d0⟩:=bX.drop (n:=M.length) (w:=w) Lx;have g0:=hM.m;have gp:=hM.r p Lx;have dp:=EF (r:=gR M p) (c:=c) (by omega);have e1:=alX jf (b9 (gR M p) c);obtain ⟨d,rfl⟩:∃d',d=d'+1:=⟨d-1,by omega⟩;simp only [iD] at hF;have wi:IntKind.wrap .i64 ((p:Int)+1)=((p+1:Nat):Int):=wrap64 (by omega) (by omega);unfold ak at e1;by_cases hz:b9 (gR M p) c=0
  ·left
   rw [yM hz] at hF;rw [xn hz] at e1;cases k
   all_goals
    simp only [oV];simp only [go_sem,ya,yf,CV,show (p:Int)<n by omega,yq,bN 0 0 nI,ye,g0,d0,gp,bN (p+1) 0 hc,dp,e1];refine ⟨_,d,rfl,by omega,p+1,?_⟩;rw [wi];exact mR hM hV hn (by omega) (by simp only [go_sem,ya,di]<;>rfl) (fun S q3 q4=>by simp only [go_sem,ya,q3,q4,ug,xj,xq]<;>rfl) ⟨by omega,hF⟩
  ·right
   rw [yx hz] at hF;subst hF;rw [y8 hz] at e1;cases k
   all_goals
    simp only [oV];simp only [go_sem,ya,yf,CV,show (p:Int)<n by omega,yq,bN 0 0 nI,ye,g0,d0,gp,bN (p+1) 0 hc,dp,e1];exact ⟨_,_,rfl,by simp,_,_,_,rfl,rfl,hM,hV,by simp only [go_sem,ya],by simp only [go_sem,ya],by simp only [go_sem,ya],by simp only [go_sem,ya]⟩
 ·right
  have:d=0:=by omega
  subst this;simp only [iD] at hF;subst hF;cases k
  all_goals
   simp only [oV];simp only [go_sem,ya,CV,show ¬(p:Int)<n by omega,yt];exact ⟨_,_,rfl,by simp,_,_,_,rfl,rfl,hM,hV,by simp only [go_sem,ya],by simp only [go_sem,ya],by simp only [go_sem,ya],by simp only [go_sem,ya]⟩
def azx (h:Rn P L) {M:Mx} {w c n k a:Nat} {pvs:List AV} (hw:wid w M) (kZ:w<=10000) (hn:M.length=n) (eV:n<=10000) (ha:a<n) {t:Rat} {K J:Nat} (kr:∀x,x∈gR M a->Hq K x) (kt:Hq J t) (hK:K+J<=8000000000):
  ∀d st,(∃(i:Nat) (hp:Hp) (ct:Nat),aI [0,4,5,7,8,9] st=⟨[(0,.ao 0 0 n),(4,oV (n+1) k),(5,ab c),(7,ab a),(8,.str (RT t)),(9,ab i)],hp,ct,0⟩/\bX hp w (M.set a (fo i (cU (gR M a) (gR M a) t 0) (gR M a)))/\ep hp n k pvs/\i+d=w)->
   ∃ex s',D P L (.loop [0,4,5,7,8,9] I0) st=some (ex,s')/\∃tm hp ct,s'=⟨tm,hp,ct,0⟩/\ex= .exit 4/\bX hp w (M.set a (cU (gR M a) (gR M a) t 0))/\ep hp n k pvs/\ai tm 0= .ao 0 0 n/\ai tm 4=oV (n+1) k/\ai tm 5=ab c/\ai tm 7=ab a:=by
 intro dq sq;generalize bk:aI [0,4,5,7,8,9] sq=s0;revert bk s0 sq dq;apply du;rintro d st ⟨i,hp,ct,rfl,hM,hV,hid⟩;have AE:a<M.length:=by omega
 have wa:=hw a AE;have lc:(cU (gR M a) (gR M a) t 0).length=(gR M a).length:=rN rfl;obtain ⟨r,d0⟩:=bX.drop (n:=(M.set a (fo i (cU (gR M a) (gR M a) t 0) (gR M a))).length) (p:=a) (w:=w) (by simpa using AE);have g0:=hM.m;have ga:=hM.r a (by simpa using AE);rw [kK,yM ⟨rfl,AE⟩] at ga;by_cases hi:i<w
 ·left
  have lp:=Nc (k:=i) lc (by omega);have dp:=EF (r:=fo i (cU (gR M a) (gR M a) t 0) (gR M a)) (c:=i) (by omega);rw [ahz lc (yu i) (by omega)] at dp;have e1:=ajD h (a:=b9 (gR M a) i) (b:=t) (kr _ (CG (by omega))) kt hK;rw [<-aoI (show i<(gR M a).length by omega)] at e1;have aO:=fun (ct:Nat)=>Df (hp:=hp) (ct:=ct) (id:=a+1) (ex:=false) (at_:=i) (r:= .str (RT (b9 (cU (gR M a) (gR M a) t 0) i))) (rows:=cr (fo i (cU (gR M a) (gR M a) t 0) (gR M a))) (by rw [zE];omega) rfl rfl
  simp only [Tk,ahA lc (show i<(gR M a).length by omega)] at aO;have rz:=hM.set (i:=a) (by simpa using AE) (fo (i+1) (cU (gR M a) (gR M a) t 0) (gR M a));rw [aei] at rz;have AF:=hV.set (i:=a+1) (o:= .cells true true false 1 (cr (fo (i+1) (cU (gR M a) (gR M a) t 0) (gR M a)))) (by omega);have wi:IntKind.wrap .i64 ((i:Int)+1)=((i+1:Nat):Int):=wrap64 (by omega) (by omega);have ln:(M.set a (fo (i+1) (cU (gR M a) (gR M a) t 0) (gR M a))).length=n:=by simp [hn]
  unfold ak at e1;cases k
  all_goals
   simp only [oV];simp only [go_sem,ya,yf,I0,bN 0 0 ha,ye,g0,d0,ga,bN (a+1) 0 hi,show (i:Int)<w by omega,dp,e1,aO];refine ⟨_,d-1,rfl,by omega,i+1,?_⟩;rw [wi];exact mR rz AF ln (by omega) (by simp only [go_sem,ya,di]<;>rfl) (fun S q3 q4=>by simp only [go_sem,ya,q3,q4,ug,xj,xq]<;>rfl) (by omega)
 ·right
  rw [ahy lc (by omega)] at hM;cases k
  all_goals
   simp only [oV];simp only [go_sem,ya,yf,I0,bN 0 0 ha,ye,g0,d0,show ¬(i:Int)<w by omega];exact ⟨_,_,rfl,by simp,_,_,_,rfl,rfl,hM,hV,by simp only [go_sem,ya],by simp only [go_sem,ya],by simp only [go_sem,ya],by simp only [go_sem,ya]⟩
def azy (h:Rn P L) {M:Mx} {w c n k a i:Nat} {pvs:List AV} (hw:wid w M) (kZ:w<=10000) (hn:M.length=n) (eV:n<=10000) (ha:a<n) (hi:i<n) (iS:i≠a) {t:Rat} {K J I:Nat} (kr:∀x,x∈gR M i->Hq K x) (kp:∀x,x∈gR M a->Hq I x) (kt:Hq J t) (hK:K+(J+I)+1<=8000000000):
  ∀d st,(∃(j:Nat) (hp:Hp) (ct:Nat),aI [0,4,5,7,10,11,12] st=⟨[(0,.ao 0 0 n),(4,oV (n+1) k),(5,ab c),(7,ab a),(10,ab i),(11,.str (RT t)),(12,ab j)],hp,ct,0⟩/\bX hp w (M.set i (fo j (cU (gR M i) (gR M a) 1 (-t)) (gR M i)))/\ep hp n k pvs/\j+d=w)->
   ∃ex s',D P L (.loop [0,4,5,7,10,11,12] I1) st=some (ex,s')/\∃tm hp ct,s'=⟨tm,hp,ct,0⟩/\ex= .exit 8/\bX hp w (M.set i (cU (gR M i) (gR M a) 1 (-t)))/\ep hp n k pvs/\ai tm 0= .ao 0 0 n/\ai tm 4=oV (n+1) k/\ai tm 5=ab c/\ai tm 7=ab a/\ai tm 10=ab i:=by
 intro dq sq;generalize bk:aI [0,4,5,7,10,11,12] sq=s0;revert bk s0 sq dq;apply du;rintro d st ⟨j,hp,ct,rfl,hM,hV,hjd⟩;have AE:a<M.length:=by omega
 have Ly:i<M.length:=by omega
 have wa:=hw a AE;have wi:=hw i Ly;have hl:(gR M i).length=(gR M a).length:=by omega
 have lc:(cU (gR M i) (gR M a) 1 (-t)).length=(gR M i).length:=rN hl;obtain ⟨r,d0⟩:=bX.drop (n:=(M.set i (fo j (cU (gR M i) (gR M a) 1 (-t)) (gR M i))).length) (p:=i) (w:=w) (by simpa using Ly);obtain ⟨ra,da⟩:=bX.drop (n:=(M.set i (fo j (cU (gR M i) (gR M a) 1 (-t)) (gR M i))).length) (p:=a) (w:=w) (by simpa using AE);have g0:=hM.m;have gi:=hM.r i (by simpa using Ly);have gA:=hM.r a (by simpa using AE);rw [kK,yM ⟨rfl,Ly⟩] at gi;rw [kK,yx (fun q=>iS q.1)] at gA;by_cases hj:j<w
 ·left
  have lp:=Nc (k:=j) lc (by omega);have dp:=EF (r:=fo j (cU (gR M i) (gR M a) 1 (-t)) (gR M i)) (c:=j) (by omega);rw [ahz lc (yu j) (by omega)] at dp;have dA:=EF (r:=gR M a) (c:=j) (by omega);have kA:=kp _ (CG (r:=gR M a) (c:=j) (by omega));have e1:=ajD h (a:=t) (b:=b9 (gR M a) j) kt kA (by omega);have e2:=aA2 h.toRp (a:=b9 (gR M i) j) (b:=t*b9 (gR M a) j) (kr _ (CG (by omega))) (kt.mul kA) hK;rw [<-apA hl (show j<(gR M i).length by omega)] at e2;have aO:=fun (ct:Nat)=>Df (hp:=hp) (ct:=ct) (id:=i+1) (ex:=false) (at_:=j) (r:= .str (RT (b9 (cU (gR M i) (gR M a) 1 (-t)) j))) (rows:=cr (fo j (cU (gR M i) (gR M a) 1 (-t)) (gR M i))) (by rw [zE];omega) rfl rfl
  simp only [Tk,ahA lc (show j<(gR M i).length by omega)] at aO;have rz:=hM.set (i:=i) (by simpa using Ly) (fo (j+1) (cU (gR M i) (gR M a) 1 (-t)) (gR M i));rw [aei] at rz;have AF:=hV.set (i:=i+1) (o:= .cells true true false 1 (cr (fo (j+1) (cU (gR M i) (gR M a) 1 (-t)) (gR M i)))) (by omega);have wj:IntKind.wrap .i64 ((j:Int)+1)=((j+1:Nat):Int):=wrap64 (by omega) (by omega);have ln:(M.set i (fo (j+1) (cU (gR M i) (gR M a) 1 (-t)) (gR M i))).length=n:=by simp [hn]
  unfold ak at e1 e2;cases k
  all_goals
   simp only [oV];simp only [go_sem,ya,yf,I1,bN 0 0 hi,bN 0 0 ha,ye,g0,d0,da,gi,gA,bN (i+1) 0 hj,bN (a+1) 0 hj,show (j:Int)<w by omega,dp,dA,e1,e2,aO];refine ⟨_,d-1,rfl,by omega,j+1,?_⟩;rw [wj];exact mR rz AF ln (by omega) (by simp only [go_sem,ya,di]<;>rfl) (fun S q3 q4=>by simp only [go_sem,ya,q3,q4,ug,xj,xq]<;>rfl) (by omega)
 ·right
  rw [ahy lc (by omega)] at hM;cases k
  all_goals
   simp only [oV];simp only [go_sem,ya,yf,I1,bN 0 0 hi,ye,g0,d0,show ¬(j:Int)<w by omega];exact ⟨_,_,rfl,by simp,_,_,_,rfl,rfl,hM,hV,by simp only [go_sem,ya],by simp only [go_sem,ya],by simp only [go_sem,ya],by simp only [go_sem,ya],by simp only [go_sem,ya]⟩
end
end
section
open Go (IntKind)
section
variable {P:aK} {L:Lib}
def azz (h:Rn P L) (jf:Has P L 355 pL) {m:Mx} {w c n k a:Nat} {pvs:List AV} (hw:wid w m) (kZ:w<=10000) (hc:c<w) (hn:m.length=n) (eV:n<=10000) (ha:a<n) {K:Nat} (hk:∀i,i<=n->eJ K (bT m a c i)) (hK:3*K+1<=8000000000):
  ∀d st,(∃(i:Nat) (hp:Hp) (ct:Nat),aI [0,4,5,7,10] st=⟨[(0,.ao 0 0 n),(4,oV (n+1) k),(5,ab c),(7,ab a),(10,ab i)],hp,ct,0⟩/\bX hp w (bT m a c i)/\ep hp n k pvs/\i+d=n)->
   ∃ex s',D P L (.loop [0,4,5,7,10] CW) st=some (ex,s')/\∃tm hp ct,s'=⟨tm,hp,ct,0⟩/\ex= .exit 6/\bX hp w (bT m a c n)/\ep hp n k pvs/\ai tm 0= .ao 0 0 n/\ai tm 4=oV (n+1) k/\ai tm 5=ab c:=by
 intro dq sq;generalize bk:aI [0,4,5,7,10] sq=s0;revert bk s0 sq dq;apply du;rintro d st ⟨i,hp,ct,rfl,hM,hV,hid⟩;have le:=rO m a c i;by_cases hi:i<n
 ·left
  have za:i<(bT m a c i).length:=by omega
  have HM:a<(bT m a c i).length:=by omega
  have hwE:=hw.bT (a:=a) (by omega) c i (by omega);have wi:=hwE i za;have ki:=hk i (by omega);have kJ:bT m a c (i+1)=mL (bT m a c i) a c i:=rfl;unfold mL at kJ;obtain ⟨r,d0⟩:=bX.drop (n:=(bT m a c i).length) (w:=w) za;have g0:=hM.m;have gp:=hM.r i za;have dp:=EF (r:=gR (bT m a c i) i) (c:=c) (by omega);have e1:=alX jf (b9 (gR (bT m a c i) i) c);have Qm:IntKind.wrap .i64 ((i:Int)+1)=((i+1:Nat):Int):=wrap64 (by omega) (by omega);have hlen:(bT m a c i).length=n:=by omega
  unfold ak at e1;by_cases iS:i=a
  ·subst iS;rw [yx (fun q=>q.1 rfl)] at kJ;cases k
   all_goals
    simp only [oV];simp only [go_sem,ya,yf,CW,show (i:Int)<n by omega,bN 0 0 hi,ye,g0,d0,gp,bN (i+1) 0 hc,dp,yq];refine ⟨_,d-1,rfl,by omega,i+1,?_⟩;rw [Qm,kJ];exact mR hM hV hlen (by omega) (by simp only [go_sem,ya,di]<;>rfl) (fun S q3 q4=>by simp only [go_sem,ya,q3,q4,ug,xj,xq]<;>rfl) (by omega)
  ·by_cases hz:b9 (gR (bT m a c i) i) c=0
   ·rw [yx (fun q=>q.2 hz)] at kJ;rw [xn hz] at e1;cases k
    all_goals
     simp only [oV];simp only [go_sem,ya,yf,CW,show (i:Int)<n by omega,bN 0 0 hi,ye,g0,d0,gp,bN (i+1) 0 hc,dp,show ¬(i:Int)=(a:Nat) by omega,yt,e1];refine ⟨_,d-1,rfl,by omega,i+1,?_⟩;rw [Qm,kJ];exact mR hM hV hlen (by omega) (by simp only [go_sem,ya,di]<;>rfl) (fun S q3 q4=>by simp only [go_sem,ya,q3,q4,ug,xj,xq]<;>rfl) (by omega)
   ·rw [yM ⟨iS,hz⟩] at kJ;rw [y8 hz] at e1;have kE:=ki i za;have kA:=ki a HM;have f0:=azy h (c:=c) (k:=k) (pvs:=pvs) hwE kZ hlen eV ha hi iS (t:=b9 (gR (bT m a c i) i) c) kE kA (kE _ (CG (by omega))) (by omega) w;have ajI:((bT m a c i).set i (cU (gR (bT m a c i) i) (gR (bT m a c i) a) 1 (-(b9 (gR (bT m a c i) i) c)))).length=n:=by rw [vm,hlen]
    have Qp:bX hp w ((bT m a c i).set i (fo 0 (cU (gR (bT m a c i) i) (gR (bT m a c i) a) 1 (-(b9 (gR (bT m a c i) i) c))) (gR (bT m a c i) i))):=by
     rw [aeg,aeh za];exact hM
    have aA9:((bT m a c i).set i (fo 0 (cU (gR (bT m a c i) i) (gR (bT m a c i) a) 1 (-(b9 (gR (bT m a c i) i) c))) (gR (bT m a c i) i))).length=n:=by rw [vm,hlen]
    generalize (bT m a c i).set i (cU (gR (bT m a c i) i) (gR (bT m a c i) a) 1 (-(b9 (gR (bT m a c i) i) c)))=M2 at*
    have hk3:∀(tm:Env) (hp:Hp) (ct:Nat),bX hp w M2->ep hp n k pvs->ai tm 0= .ao 0 0 n->ai tm 4=oV (n+1) k->ai tm 5=ab c->ai tm 7=ab a->ai tm 10=ab i->∃aj,aI [0,4,5,7,10] ⟨tm,hp,ct,0⟩=⟨[(0,.ao 0 0 n),(4,oV (n+1) k),(5,ab c),(7,ab a),(10,ab i)],aj,1+(n+(di n k).length),0⟩/\bX aj w M2/\ep aj n k pvs:=fun tm hp ct hM hV t0 t4 t5 t7 t10=>by
     cases k
     all_goals
      simp only [oV] at t4 ⊢;exact Iy hM hV ajI (by omega) (by simp only [go_sem,ya,t0,t4,t5,t7,t10,di]<;>rfl) (fun S q3 q4=>by simp only [go_sem,t0,t4,t5,t7,t10,q3,q4,ug,xj,xq]<;>rfl)
    cases k
    all_goals
     simp only [oV] at f0 hk3 ⊢;simp only [go_sem,ya,yf,CW,show (i:Int)<n by omega,bN 0 0 hi,ye,g0,d0,gp,bN (i+1) 0 hc,dp,show ¬(i:Int)=(a:Nat) by omega,yt,e1];generalize hq:D P L (.loop [0,4,5,7,10,11,12] I1) _=q;obtain ⟨ex,st,rfl,tm,fX,GC,rfl,rfl,rz,AF,t0,t4,t5,t7,t10⟩:=bJ hq f0 ⟨0,mR Qp hV aA9 (by omega) (by simp only [go_sem,ya,di]<;>rfl) (fun S q3 q4=>by simp only [go_sem,ya,q3,q4,ug,xj,xq]<;>rfl) (by omega)⟩
     obtain ⟨D4,e3,q1,q2⟩:=hk3 tm fX GC rz AF t0 t4 t5 t7 t10;simp only [go_sem,ya,e3];refine ⟨_,d-1,rfl,by omega,i+1,?_⟩;rw [Qm,kJ];exact mR q1 q2 ajI (by omega) (by simp only [go_sem,ya,di]<;>rfl) (fun S q3 q4=>by simp only [go_sem,ya,q3,q4,ug,xj,xq]<;>rfl) (by omega)
 ·right
  have:i=n:=by omega
  subst this;cases k
  all_goals
   simp only [oV];simp only [go_sem,ya,CW,show ¬(i:Int)<i by omega];exact ⟨_,_,rfl,by simp,_,_,_,rfl,rfl,hM,hV,by simp only [go_sem,ya],by simp only [go_sem,ya],by simp only [go_sem,ya]⟩
end
end
section
structure Rxi (P:aK) (L:Lib):Prop extends Rn P L,Rl P L where
 Za:Has P L 283 Ok
end
section
open Go (IntKind)
def lY (n a p:Nat):List Nat:=(((xe n).map (·+1)).set p (a+1)).set a (p+1)
def rR (n a p:Nat):(lY n a p).length=n:=by simp [lY]
def EG {n a p i:Nat} (h:i<n):(lY n a p)[i]'(by rw [rR];exact h)=if i=a then p+1 else if i=p then a+1 else i+1:=by
 simp only [lY,yaT,xx,vG]
 grind
def avB {n a p i j:Nat} (ha:a<n) (hp:p<n) (hi:i<n) (hj:j<n) (h:(lY n a p)[i]'(by rw [rR];exact hi)=(lY n a p)[j]'(by rw [rR];exact hj)):i=j:=by
 rw [EG hi,EG hj] at h
 grind
def are {n a p k:Nat} (ha:a<n) (hp:p<n):(cJ 0 (lY n a p) (di n k)).Nodup:=by
 have Fk:∀x,x∈lY n a p->1<=x/\x<=n:=fun x hx=>by
  obtain ⟨i,hi,rfl⟩:=wU.1 hx;rw [rR] at hi;rw [EG hi]
  grind
 have h1:(lY n a p).Nodup:=by
  unfold yaB;rw [uj];intro i j hi hj BV h
  have:=avB ha hp (by rwa [rR] at hi) (by rwa [rR] at hj) h
  omega
 unfold cJ di
 grind
def aej {m:Mx} {a p i:Nat} (ha:a<m.length) (hp:p<m.length) (hi:i<m.length):gR (bC m a p) i=if i=p then gR m a else if i=a then gR m p else gR m i:=by
 unfold bC;rw [kK,kK]
 grind
structure Ed (hp:Hp) (w:Nat) (M:Mx) (a p:Nat):Prop where
 m:au hp 0=some (.cells true false false 1 ((lY M.length a p).map fun i=> .ao i 0 w))
 r:∀i,i<M.length->au hp (i+1)=some (.cells true true false 1 (cr (gR M i)))
def Ed.at_ {hp:Hp} {w:Nat} {m:Mx} {a p i:Nat} (h:Ed hp w m a p) (ha:a<m.length) (aj:p<m.length) (hi:i<m.length):au hp ((lY m.length a p)[i]'(by rw [rR];exact hi))=some (.cells true true false 1 (cr (gR (bC m a p) i))):=by
 rw [EG hi,aej ha aj hi];by_cases h1:i=a
 ·subst h1;rw [yM rfl];by_cases h2:i=p
  ·subst h2;rw [yM rfl];exact h.r i ha
  ·rw [yx h2,yM rfl];exact h.r p aj
 ·rw [yx h1];by_cases h2:i=p
  ·subst h2;rw [yM rfl,yM rfl];exact h.r a ha
  ·rw [yx h2,yx h2,yx h1];exact h.r i hi
def Ed.comp {live:List Nat} {tm:Env} {hp:Hp} {ct w k a p:Nat} {m:Mx} {pvs:List AV} (h:Ed hp w m a p) (ha:a<m.length) (aj:p<m.length) (hv:ep hp m.length k pvs) (hM:m.length<=10000) (hE:fc (cg tm live)=0::di m.length k):
  ∃aj aM S,aM=1+(m.length+(di m.length k).length)/\aI live ⟨tm,hp,ct,0⟩=⟨fC (pos S) (cg tm live),aj,aM,0⟩/\bX aj w (bC m a p)/\ep aj m.length k pvs/\ef 0 S 0=some 0/\(k≠0->ef (m.length+1) S 0=some (m.length+1)):=by
 have Lz:=rK m a p;obtain ⟨fX,aM,eM,e,g1,g2,g3,g4⟩:=Nb (ct:=ct) (M:=bC m a p) hE h.m (by rw [rR,Lz]) (fun i hi=>h.at_ ha aj (by rwa [rR] at hi)) (by omega) (are ha aj) (fun i hi=>by
   unfold di at hi
   split at hi
   ·grind
   ·rename_i hk;simp only [xC] at hi;subst hi;rcases hv with hv | hv
    ·grind
    ·exact ⟨_,hv,rfl⟩) (by unfold di;split<;>simp)
 rw [Lz] at g2 g4 eM;refine ⟨fX,aM,_,eM,e,g1,?_,g3,fun hk=>?_⟩
 ·by_cases hk:k=0
  ·exact .inl hk
  ·rcases hv with hv | hv
   ·grind
   ·refine .inr ?_;have dP:di m.length k=[m.length+1]:=yx hk
    have:=g2 0 (by rw [dP];exact tD) (.cells true true false 1 pvs) (by simp only [dP,xv];exact hv)
    exact this
 ·have dP:di m.length k=[m.length+1]:=yx hk
  simp_all
def ajJ {hp:Hp} {ct at_ id w:Nat} {ids:List Nat} (h:at_<ids.length):iR hp ct 0 at_ 1 [.ao id 0 w] (some (.cells true false false 1 (ids.map fun i=> .ao i 0 w)))=some (.ae [],a7 hp 0 (.cells true false false 1 ((ids.set at_ id).map fun i=> .ao i 0 w)),ct):=by
 rw [zJ (by rfl) (by simp;omega) (by rfl)]
 have:over at_ [AV.ao id 0 w] (ids.map fun i=> .ao i 0 w)=(ids.set at_ id).map fun i=> .ao i 0 w:=by
  simp only [over,yz,yK,ye];rw [tI,List.set_eq_take_append_cons_drop,yM (by simpa using h)]
  simp
 grind
def SH {ids:List Nat} {w p:Nat} (h:p<ids.length):vD p (ids.map fun i=>AV.ao i 0 w)= .ao ids[p] 0 w::vD (p+1) (ids.map fun i=>AV.ao i 0 w):=by
 rw [yP (by simpa using h)];simp
def bX.cons {hp:Hp} {w:Nat} {M:Mx} (h:bX hp w M) {id:Nat} (o:Obj) (hi:M.length<id):bX ((id,o)::hp) w M:=⟨by rw [dn _ _ (by omega)];exact h.m,fun i df=>by rw [dn _ _ (by omega)];exact h.r i df⟩
def bX.del {hp:Hp} {w:Nat} {M:Mx} (h:bX hp w M) {id:Nat} (hi:M.length<id):bX (dJ hp id) w M:=⟨by rw [rF,yx (by omega)];exact h.m,fun i df=>by rw [rF,yx (by omega)];exact h.r i df⟩
def ahB {live:List Nat} {tm tm':Env} {hp:Hp} {ct w n k p:Nat} {M:Mx} {pvs:List AV} {R:Prop} (h:bX hp w M) (hg:au hp p=some (.cells true true false 1 pvs)) (hn:M.length=n) (hM:n<=10000) (hp0:n<p) (hE:fc (cg tm live)=[0,p])
  (hT:∀S,ef 0 S 0=some 0->ef p S 0=some (n+1)->fC (pos S) (cg tm live)=tm') (hR:R):∃aj aM,aI live ⟨tm,hp,ct,0⟩=⟨tm',aj,aM,0⟩/\bX aj w M/\ep aj n (k+1) pvs/\R:=by
 subst hn;have hm:=h.m;rw [show ((xe M.length).map fun i=>AV.ao (i+1) 0 w)=((xe M.length).map (·+1)).map (fun i=> .ao i 0 w) by rw [wO];rfl] at hm
 have kB:(cJ 0 ((xe M.length).map (·+1)) [p]).Nodup:=by
  have h1:=ac5 M.length 0;simp only [cJ,di,xE,xY] at h1;have h2:=wX.1 h1;refine wX.2 ⟨fun q=>?_,yaF.2 ⟨h2.2,by simp,fun a ha b hb e=>?_⟩⟩
  ·grind
  ·grind
 obtain ⟨aj,aM,eM,e,g1,g2,g3,g4⟩:=Nb (ct:=ct) (pl:=[p]) hE hm (by simp) (fun i hi=>by
  simp only [xx,vG];exact h.r i (by simpa using hi)) hM kB (fun i hi=>by
   simp only [xC] at hi;subst hi
   exact ⟨_,hg,rfl⟩) (by simp)
 have q:=g2 0 (by simp) (.cells true true false 1 pvs) (by simpa using hg);have q4:=g4 0 (by simp);exact ⟨aj,aM,by rw [e,hT _ g3 q4],g1,.inr q,hR⟩
section
variable {P:aK} {L:Lib}
def azA (h:Rxi P L) (jf:Has P L 355 pL) (aBa:Has P L 351 nh) {M:Mx} {W n:Nat} (hw:wid W M) (oS:W<=10000) (hn:M.length=n) (h0:0<n) (eV:n<=1000) {K:Nat} (hk:eJ K M) (jX:1<=K) (hK:4^n*(K+1)<=400000000):
  ∀d st,(∃(c k:Nat) (pvs:List AV) (hp:Hp) (ct:Nat),aI [0,4,5] st=⟨[(0,.ao 0 0 n),(4,oV (n+1) k),(5,ab c)],hp,ct,0⟩/\bX hp W (aq M c).1/\ep hp n k pvs/\(aq M c).2.length=k/\pvs=(aq M c).2.map (fun p:Nat=>ab p)/\c+d=W)->
   ∃ex s',D P L (.loop [0,4,5] CX) st=some (ex,s')/\∃tm hp ct k pvs,s'=⟨tm,hp,ct,0⟩/\ex= .exit 0/\bX hp W (aq M W).1/\ep hp n k pvs/\(aq M W).2.length=k/\pvs=(aq M W).2.map (fun p:Nat=>ab p)/\ai tm 0= .ao 0 0 n/\ai tm 4=oV (n+1) k:=by
 intro dq sq;generalize bk:aI [0,4,5] sq=s0;revert bk s0 sq dq;apply du;rintro d st ⟨c,k,pvs,hp,ct,rfl,hM,hV,dh,fH,hcd⟩;have hP:=n7 hw c;have lm:=pq M c;have lZ:(aq M c).1.length=n:=by omega
 have eW:=fun (ct:Nat)=>aA8 (P:=P) (L:=L) aBa (ct:=ct) hM lZ h0
 have qZ:k<=n:=by have:=hP.pv;omega
 by_cases LA:c<W
 ·by_cases LB:k<n
  ·left
   obtain ⟨J,J0,J1,J2⟩:=Js hw hk jX c (by omega);have hJ:J+1<=400000000:=by
    have h1:4^(aq M c).2.length<=4^n:=xh (by decide) (by omega)
    have:=yV (K+1) h1
    omega
   have f0:=azw (P:=P) (L:=L) jf (k:=k) (pvs:=pvs) hP.wid LA oS lZ (by omega) (F:=aP (aq M c) c) (n-k);have hs:aq M (c+1)=fQ (aq M c) c:=rfl;have TJ:=hP.aP c;rw [dh] at TJ;have wc:IntKind.wrap .i64 ((c:Int)+1)=((c+1:Nat):Int):=wrap64 (by omega) (by omega);have qX:iD (aq M c).1 c (n-k) k=aP (aq M c) c:=by unfold aP;rw [dh,lZ]
   have QA:∀(M2:Mx) (tm:Env) (hp:Hp) (ct:Nat) (x:Nat),bX hp W M2->M2.length=n->ep hp n k pvs->ai tm 0= .ao 0 0 n->ai tm 4=oV (n+1) k->ai tm 5=ab c->ai tm 6=ab x->∃aj,aI [0,4,5,6] ⟨tm,hp,ct,0⟩=⟨[(0,.ao 0 0 n),(4,oV (n+1) k),(5,ab c),(6,ab x)],aj,1+(n+(di n k).length),0⟩/\bX aj W M2/\ep aj n k pvs:=fun M2 tm hp ct x hM hl hV t0 t4 t5 t6=>by
    cases k
    all_goals
     simp only [oV] at t4 ⊢;exact Iy hM hV hl (by omega) (by simp only [go_sem,ya,t0,t4,t5,t6,di]<;>rfl) (fun S q3 q4=>by simp only [go_sem,t0,t4,t5,t6,q3,q4,ug,xj,xq]<;>rfl)
   have hkB:∀(M2:Mx) (tm:Env) (hp:Hp) (ct:Nat) (x:Nat),bX hp W M2->M2.length=n->ep hp n k pvs->ai tm 0= .ao 0 0 n->ai tm 4=oV (n+1) k->ai tm 5=ab c->ai tm 7=ab x->∃aj,aI [0,4,5,7] ⟨tm,hp,ct,0⟩=⟨[(0,.ao 0 0 n),(4,oV (n+1) k),(5,ab c),(7,ab x)],aj,1+(n+(di n k).length),0⟩/\bX aj W M2/\ep aj n k pvs:=fun M2 tm hp ct x hM hl hV t0 t4 t5 t7=>by
    cases k
    all_goals
     simp only [oV] at t4 ⊢;exact Iy hM hV hl (by omega) (by simp only [go_sem,ya,t0,t4,t5,t7,di]<;>rfl) (fun S q3 q4=>by simp only [go_sem,t0,t4,t5,t7,q3,q4,ug,xj,xq]<;>rfl)
   have hkC:∀(M2:Mx) (tm:Env) (hp:Hp) (ct:Nat),bX hp W M2->M2.length=n->ep hp n k pvs->ai tm 0= .ao 0 0 n->ai tm 4=oV (n+1) k->ai tm 5=ab c->∃aj aM,aI [0,4,5] ⟨tm,hp,ct,0⟩=⟨[(0,.ao 0 0 n),(4,oV (n+1) k),(5,ab c)],aj,aM,0⟩/\bX aj W M2/\ep aj n k pvs/\n<aM/\(k≠0->n+1<aM):=fun M2 tm hp ct hM hl hV t0 t4 t5=>by
    rcases k with _ | k1
    ·simp only [oV] at t4 ⊢;obtain ⟨aj,e,q1,q2⟩:=Iy (live:=[0,4,5]) (tm:=tm) (ct:=ct) (tm':=[(0,.ao 0 0 n),(4,.aa),(5,ab c)]) hM hV hl (by omega) (by simp only [go_sem,t0,t4,t5,di]<;>rfl) (fun S q3 q4=>by simp only [go_sem,t0,t4,t5,q3]<;>rfl)
     exact ⟨aj,_,e,q1,q2,by omega,fun h=>absurd rfl h⟩
    ·simp only [oV] at t4 ⊢;obtain ⟨aj,e,q1,q2⟩:=Iy (live:=[0,4,5]) (tm:=tm) (ct:=ct) (tm':=[(0,.ao 0 0 n),(4,.ao (n+1) 0 (k1+1)),(5,ab c)]) hM hV hl (by omega) (by simp only [go_sem,ya,t0,t4,t5,di]<;>rfl) (fun S q3 q4=>by simp only [go_sem,t0,t4,t5,q3,q4,ug,xj,xq]<;>rfl)
     have:(di n (k1+1)).length=1:=rfl
     exact ⟨aj,_,e,q1,q2,by omega,fun _=>by omega⟩
   by_cases eU:aP (aq M c) c<(aq M c).1.length
   ·
    have nI:aP (aq M c) c<n:=by omega
    have nl:fQ (aq M c) c=(bT (db (aq M c) c) k c n,(aq M c).2++[c]):=by
     unfold fQ;rw [yM eU,dh,lZ]
    have Lz:=rK (aq M c).1 k (aP (aq M c) c);have Eb:(db (aq M c) c).length=n:=by rw [rQ,lZ]
    have w1:=hP.wid.bC (i:=k) (j:=aP (aq M c) c) (by omega) eU;have J3:=J2.bC (i:=k) (j:=aP (aq M c) c) (by omega) eU;have wk:=w1 k (by omega);have Jk:=J3 k (by omega);have dd:b9 (gR (bC (aq M c).1 k (aP (aq M c) c)) k) c≠0:=by
     have:=Na (aq M c).1 c (n-k) k (by rw [qX];omega)
     rw [qX] at this;rw [aej (by omega) eU (by omega)]
     split
     ·rename_i q;rw [<-q] at this;exact this
     ·rw [yM rfl];exact this
    obtain ⟨g1,g2⟩:=J2.db hP LA eU;rw [dh] at g1 g2;have kE:∀i,i<=n->eJ (4*J+1) (bT (db (aq M c) c) k c i):=fun i hi=>SF (hP.db eU) LA (by omega) g1 (fun j hj=>g2 j (by omega)) (by omega)
    have kx:=Jk _ (CG (c:=c) (by omega));have e5:=aA3 h.toRn h.Za (a:=b9 (gR (bC (aq M c).1 k (aP (aq M c) c)) k) c) kx (by omega) dd;have f1:=azx (P:=P) (L:=L) h.toRn (n:=n) (M:=bC (aq M c).1 k (aP (aq M c) c)) (c:=c) (k:=k) (a:=k) (pvs:=pvs) w1 oS (by omega) (by omega) (by omega) (t:=(b9 (gR (bC (aq M c).1 k (aP (aq M c) c)) k) c)⁻¹) Jk kx.inv (by omega) W;have aDp:(bC (aq M c).1 k (aP (aq M c) c)).set k (cU (gR (bC (aq M c).1 k (aP (aq M c) c)) k) (gR (bC (aq M c).1 k (aP (aq M c) c)) k) (b9 (gR (bC (aq M c).1 k (aP (aq M c) c)) k) c)⁻¹ 0)=db (aq M c) c:=by
     unfold db nJ;rw [dh]
    rw [aDp] at f1;have f2:=azz (P:=P) (L:=L) h.toRn jf (k:=k) (pvs:=pvs) (hP.db eU) oS LA Eb (by omega) (a:=k) (by omega) kE (by omega) n;have QB:(bT (db (aq M c) c) k c n).length=n:=by rw [rO,Eb]
    have swap:∀hp:Hp,bX hp W (aq M c).1->Ed (a7 (a7 hp 0 (.cells true false false 1 ((((xe n).map (·+1)).set (aP (aq M c) c) (k+1)).map fun i=> .ao i 0 W))) 0 (.cells true false false 1 ((lY n k (aP (aq M c) c)).map fun i=> .ao i 0 W))) W (aq M c).1 k (aP (aq M c) c)/\au (a7 hp 0 (.cells true false false 1 ((((xe n).map (·+1)).set (aP (aq M c) c) (k+1)).map fun i=> .ao i 0 W))) 0=some (.cells true false false 1 ((((xe n).map (·+1)).set (aP (aq M c) c) (k+1)).map fun i=> .ao i 0 W))/\au (a7 (a7 hp 0 (.cells true false false 1 ((((xe n).map (·+1)).set (aP (aq M c) c) (k+1)).map fun i=> .ao i 0 W))) 0 (.cells true false false 1 ((lY n k (aP (aq M c) c)).map fun i=> .ao i 0 W))) 0=some (.cells true false false 1 ((lY n k (aP (aq M c) c)).map fun i=> .ao i 0 W)):=fun hp hM=>by
     have e0:=hM.m;have e1:∀o,au (a7 hp 0 o) 0=some o:=fun o=>by rw [AL,yM rfl,e0];rfl
     have e2:∀o u,au (a7 (a7 hp 0 o) 0 u) 0=some u:=fun o u=>by rw [AL,yM rfl,e1];rfl
     refine ⟨⟨?_,fun i hi=>?_⟩,e1 _,e2 _ _⟩
     ·rw [e2,lZ]
     ·rw [AL,yx (by omega),AL,yx (by omega)];exact hM.r i hi
    have st1:=fun (hp:Hp) (ct:Nat)=>ajJ (hp:=hp) (ct:=ct) (at_:=aP (aq M c) c) (id:=k+1) (w:=W) (ids:=(xe n).map (·+1)) (by simpa using nI)
    have st2:=fun (hp:Hp) (ct:Nat)=>ajJ (hp:=hp) (ct:=ct) (at_:=k) (id:=aP (aq M c) c+1) (w:=W) (ids:=((xe n).map (·+1)).set (aP (aq M c) c) (k+1)) (by simpa using LB)
    have d1:=SH (ids:=(xe n).map (·+1)) (w:=W) (p:=k) (by simpa using LB);have d2:=SH (ids:=(xe n).map (·+1)) (w:=W) (p:=aP (aq M c) c) (by simpa using nI);simp only [xx,vG] at d1 d2;have d3:=SH (ids:=lY n k (aP (aq M c) c)) (w:=W) (p:=k) (by rw [rR];exact LB)
    rw [EG LB,yM rfl] at d3;have hZ:∀hp:Hp,bX hp W (aq M c).1->au hp 0=some (.cells true false false 1 (((xe n).map (·+1)).map fun i=> .ao i 0 W)):=fun hp hM=>by
     have:=hM.m
     rw [lZ] at this;rw [this,wO];rfl
    have dp:=EF (r:=gR (bC (aq M c).1 k (aP (aq M c) c)) k) (c:=c) (by omega);have Ku:pvs.length=k:=by rw [fH,yr,dh]
    have PE:pvs++[ab c]=((aq M c).2++[c]).map (fun p:Nat=>ab p):=by rw [fH,xi];rfl
    have aDq:(((xe n).map (·+1)).set (aP (aq M c) c) (k+1)).set k (aP (aq M c) c+1)=lY n k (aP (aq M c) c):=rfl;have aDr:∀hp:Hp,Ed hp W (aq M c).1 k (aP (aq M c) c)->au hp (aP (aq M c) c+1)=some (.cells true true false 1 (cr (gR (bC (aq M c).1 k (aP (aq M c) c)) k))):=fun hp q=>by
     have:=q.at_ (i:=k) (by omega) eU (by omega)
     rw [EG (by omega),yM rfl] at this;exact this
    have aDs:∀{live:List Nat} {tm tm':Env} {ct:Nat} {hp:Hp} {R:Prop},Ed hp W (aq M c).1 k (aP (aq M c) c)->ep hp n k pvs->fc (cg tm live)=0::di n k->(∀S,ef 0 S 0=some 0->(k≠0->ef (n+1) S 0=some (n+1))->fC (pos S) (cg tm live)=tm')->R->∃aj aM,aI live ⟨tm,hp,ct,0⟩=⟨tm',aj,aM,0⟩/\bX aj W (bC (aq M c).1 k (aP (aq M c) c))/\ep aj n k pvs/\R:=fun {live tm tm' ct hp R} q hV hE hT hR=>by
     have:=q.comp (ct:=ct) (by omega) eU (by rw [lZ];exact hV) (by omega) (by rw [lZ];exact hE)
     rw [lZ] at this;obtain ⟨aj,aM,S,eM,e,q1,q2,q3,q4⟩:=this;exact ⟨aj,aM,by rw [e,hT S q3 q4],q1,q2,hR⟩
    have bk:(bC (aq M c).1 k (aP (aq M c) c)).set k (fo 0 (cU (gR (bC (aq M c).1 k (aP (aq M c) c)) k) (gR (bC (aq M c).1 k (aP (aq M c) c)) k) (b9 (gR (bC (aq M c).1 k (aP (aq M c) c)) k) c)⁻¹ 0) (gR (bC (aq M c).1 k (aP (aq M c) c)) k))=bC (aq M c).1 k (aP (aq M c) c):=by
     rw [aeg];exact aeh (by omega)
    rw [show bT (db (aq M c) c) k c n=(aq M (c+1)).1 by rw [hs,nl]] at QB f2;have ajK:(aq M (c+1)).2.length=k+1:=by rw [hs,nl,yG,dh];rfl
    have ajL:pvs++[ab c]=(aq M (c+1)).2.map (fun p:Nat=>ab p):=by rw [hs,nl,PE]
    have aJa:bT (db (aq M c) c) k c 0=db (aq M c) c:=rfl;have aJb:((bC (aq M c).1 k (aP (aq M c) c)).set k (fo 0 (cU (gR (bC (aq M c).1 k (aP (aq M c) c)) k) (gR (bC (aq M c).1 k (aP (aq M c) c)) k) (b9 (gR (bC (aq M c).1 k (aP (aq M c) c)) k) c)⁻¹ 0) (gR (bC (aq M c).1 k (aP (aq M c) c)) k))).length=n:=by simp [Lz,lZ]
    have hS0:∀(hp:Hp),bX hp W (bC (aq M c).1 k (aP (aq M c) c))->bX hp W ((bC (aq M c).1 k (aP (aq M c) c)).set k (fo 0 (cU (gR (bC (aq M c).1 k (aP (aq M c) c)) k) (gR (bC (aq M c).1 k (aP (aq M c) c)) k) (b9 (gR (bC (aq M c).1 k (aP (aq M c) c)) k) c)⁻¹ 0) (gR (bC (aq M c).1 k (aP (aq M c) c)) k))):=fun hp q=>by rw [bk];exact q
    have hE0:∀(hp:Hp),bX hp W (db (aq M c) c)->bX hp W (bT (db (aq M c) c) k c 0):=fun hp q=>q
    have hFn:¬((aP (aq M c) c:Nat):Int)=(n:Nat):=by omega
    generalize aP (aq M c) c=F at*
    generalize bC (aq M c).1 k F=S1 at*
    generalize hS2:db (aq M c) c=S2 at*
    generalize hS3:(aq M (c+1)).1=S3 at*
    unfold ak at e5;have hkz:((k:Nat):Int)<n:=by omega
    have fin:∀(tm:Env) (hp:Hp) (ct:Nat),bX hp W S3->ep hp n k pvs->ai tm 0= .ao 0 0 n->ai tm 4=oV (n+1) k->ai tm 5=ab c->∃s' k',jK P L (mW 1 (D P L (.aJ [qm 150 4,qm 151 5,Rq 152 (.cW 1 1 [.int .i64 0] [(0,1,(.t 151))]),Rq 153 (.aR 1 8 (.t 150) (.t 152)),qm 4 153]) (aI [0,4,5] ⟨tm,hp,ct,0⟩))) (.aJ [qm 26 5,qa 27 26 1,qm 5 27])=some (.normal,s')/\k'<d/\∃(c k:Nat) (pvs:List AV) (hp:Hp) (ct:Nat),aI [0,4,5] s'=⟨[(0,.ao 0 0 n),(4,oV (n+1) k),(5,ab c)],hp,ct,0⟩/\bX hp W (aq M c).1/\ep hp n k pvs/\(aq M c).2.length=k/\pvs=(aq M c).2.map (fun p:Nat=>ab p)/\c+k'=W:=fun tm hp ct hM hV t0 t4 t5=>by
     obtain ⟨Ql,ct4,e4,q1,q2,c1,c2⟩:=hkC S3 tm hp ct hM QB hV t0 t4 t5;rw [e4];rcases k with _ | k1
     ·have:pvs=[]:=yB Ku
      subst this;simp only [go_sem,ya,yb,xt,yD,yk,yf,oV,ij,wc];refine ⟨_,d-1,rfl,by omega,c+1,1,[ab c],?_⟩;rw [hS3]
      exact ahB (k:=0) ((q1.cons _ (by omega)).cons _ (by omega)) (fR _ _ _) QB (by omega) (by omega) (by simp only [go_sem,ya]<;>rfl) (fun S q3 q4=>by simp only [go_sem,ya,yb,q3,q4]<;>rfl) ⟨ajK,ajL,by omega⟩
     ·have hv4:au Ql (n+1)=some (.cells true true false 1 pvs):=by
       rcases q2 with q2 | q2
       ·cases q2
       ·exact q2
      have hn4:=c2 (Nat.succ_ne_zero k1);simp only [go_sem,ya,yb,yk,yf,oV]
      rw [fS (ex:=false) (pu:=true) (cs:=pvs) (by rw [dn _ _ (by omega)];exact hv4) (by rw [Ku,yf]) (by omega) (by omega) (by decide) (by simp only [go_sem])]
      simp only [go_sem,ya,wc];refine ⟨_,d-1,rfl,by omega,c+1,k1+1+1,pvs++[ab c],?_⟩;rw [hS3]
      exact ahB (k:=k1+1) ((bX.del (q1.cons _ (by omega)) (by omega)).cons _ (by omega)) (fR _ _ _) QB (by omega) (by omega) (by simp only [go_sem,ya]<;>rfl) (fun S q3 q4=>by simp only [go_sem,ya,q3,q4]<;>rfl) ⟨ajK,ajL,by omega⟩
    cases k
    all_goals
     simp only [oV] at f0 f1 f2 QA hkB fin ⊢;simp only [go_sem,ya,CX,eW,show (c:Int)<W by omega,yq,show (0:Int)<n by omega,hkz];generalize hq:D P L (.loop [0,4,5,6] CV) _=q;obtain ⟨ex,st,rfl,tm,fX,GC,rfl,rfl,rz,AF,t0,t4,t5,t6⟩:=bJ hq f0 ⟨_,mR hM hV lZ (by omega) (by simp only [go_sem,ya,di]<;>rfl) (fun S q3 q4=>by simp only [go_sem,ya,q3,q4,ug,xj,xq]<;>rfl) ⟨by omega,qX⟩⟩
     obtain ⟨D4,e3,q1,q2⟩:=QA (aq M c).1 tm fX GC F rz lZ AF t0 t4 t5 t6;obtain ⟨sw,sg1,sg2⟩:=swap D4 q1;have gat:=aDr _ sw;have m0:=hZ D4 q1;simp only [go_sem,ya,yf,e3,hFn,yt,bN 0 0 LB,bN 0 0 nI,ye,m0,d1,d2,st1,sg1,st2,aDq,sg2,d3,bN (F+1) 0 LA,gat,dp,e5];generalize fm:D P L (.loop [0,4,5,7,8,9] I0) _=q1';obtain ⟨ex,st,rfl,tm,hp5,ct5,rfl,rfl,hM5,hV5,t0,t4,t5,t7⟩:=bJ fm f1 ⟨0,by
      rw [bk]
      exact aDs sw ((q2.set (by omega)).set (by omega)) (by simp only [go_sem,ya,di]<;>rfl) (fun S q3 q4=>by simp only [go_sem,ya,q3,q4,ug,xj,xq]<;>rfl) (by omega)⟩
     obtain ⟨hp6,e6,y1,y2⟩:=hkB S2 tm hp5 ct5 _ hM5 Eb hV5 t0 t4 t5 t7;simp only [go_sem,e6];generalize sX:D P L (.loop [0,4,5,7,10] CW) _=q3';obtain ⟨ex,st,rfl,tm,hp7,ct7,rfl,rfl,hM7,hV7,t0,t4,t5⟩:=bJ sX f2 ⟨0,mR y1 y2 Eb (by omega) (by simp only [go_sem,ya,di]<;>rfl) (fun S q3 q4=>by simp only [go_sem,ya,q3,q4,ug,xj,xq]<;>rfl) (by omega)⟩
     have:=fin tm hp7 ct7 hM7 hV7 t0 t4 t5
     simp only [Yy,fB,Sn];exact this
   ·
    have nl:aq M (c+1)=aq M c:=by rw [hs,MI eU]
    have hF:aP (aq M c) c=n:=by omega
    rw [hF] at f0 qX;have hkz:((k:Nat):Int)<n:=by omega
    have fin:∀(tm:Env) (hp:Hp) (ct:Nat),bX hp W (aq M c).1->ep hp n k pvs->ai tm 0= .ao 0 0 n->ai tm 4=oV (n+1) k->ai tm 5=ab (c+1:Nat)->∃(c k:Nat) (pvs:List AV) (aj:Hp) (aM:Nat),aI [0,4,5] ⟨tm,hp,ct,0⟩=⟨[(0,.ao 0 0 n),(4,oV (n+1) k),(5,ab c)],aj,aM,0⟩/\bX aj W (aq M c).1/\ep aj n k pvs/\(aq M c).2.length=k/\pvs=(aq M c).2.map (fun p:Nat=>ab p)/\c+(d-1)=W:=fun tm hp ct hM hV t0 t4 t5=>by
     refine ⟨c+1,k,pvs,?_⟩;rw [nl];cases k
     all_goals
      simp only [oV] at t4 ⊢;exact mR hM hV lZ (by omega) (by simp only [go_sem,ya,t0,t4,t5,di]<;>rfl) (fun S q3 q4=>by simp only [go_sem,t0,t4,t5,q3,q4,ug,xj,xq]<;>rfl) ⟨dh,fH,by omega⟩
    cases k
    all_goals
     simp only [oV] at f0 QA fin ⊢;simp only [go_sem,ya,CX,eW,show (c:Int)<W by omega,yq,show (0:Int)<n by omega,hkz];generalize hq:D P L (.loop [0,4,5,6] CV) _=q;obtain ⟨ex,st,rfl,tm,fX,GC,rfl,rfl,rz,AF,t0,t4,t5,t6⟩:=bJ hq f0 ⟨_,mR hM hV lZ (by omega) (by simp only [go_sem,ya,di]<;>rfl) (fun S q3 q4=>by simp only [go_sem,ya,q3,q4,ug,xj,xq]<;>rfl) ⟨by omega,qX⟩⟩
     obtain ⟨D4,e3,q1,q2⟩:=QA (aq M c).1 tm fX GC n rz lZ AF t0 t4 t5 t6;simp only [go_sem,ya,e3,yq,wc];exact ⟨_,d-1,rfl,by omega,fin _ _ _ q1 q2 (by simp only [go_sem,ya]) (by simp only [go_sem,ya]) (by simp only [go_sem])⟩
  ·
   right
   have aJc:k=n:=by omega
   obtain ⟨d',hd'⟩:∃d',W=c+d':=⟨W-c,by omega⟩;have aBb:aq M W=aq M c:=by rw [hd'];exact aeb (by omega) d'
   rw [aBb];cases k
   ·omega
   ·rename_i k;simp only [oV];simp only [go_sem,ya,CX,eW,show (c:Int)<W by omega,yq,show ¬((k+1:Nat):Int)<n by omega,yt];exact ⟨_,_,rfl,by simp,_,_,_,_,pvs,rfl,rfl,hM,hV,dh,fH,by simp only [go_sem,ya],by simp only [go_sem,ya]<;>rfl⟩
 ·right
  have:c=W:=by omega
  subst this;cases k
  all_goals
   simp only [oV];simp only [go_sem,ya,CX,eW,show ¬(c:Int)<c by omega,yt];exact ⟨_,_,rfl,by simp,_,_,_,_,pvs,rfl,rfl,hM,hV,dh,fH,by simp only [go_sem,ya],by simp only [go_sem,ya]<;>rfl⟩
end
end
section
open Go (IntKind)
def nL (w:Nat) (M:Mx):List AV:=M.map fun r=> .aw false w (cr r)
def ahC {w:Nat}:∀{M:Mx},(∀r,r∈M->r.length=w)->cK bS (nL w M) (M.map (wb RT))
 | [],_=>trivial
 | r::M,h=>⟨by
   have:=Tl false r
   rwa [h r wF] at this,ahC (fun q hq=>h q (we _ hq))⟩
def atk (w:Nat) (M:Mx) (k:Nat):(nL w M).take k=nL w (M.take k):=by simp [nL,List.map_take]
def bX.ap {hp:Hp} {w k:Nat} {M:Mx} (h:bX hp w M) (hw:∀r,r∈M->r.length=w) (hn:M.length<=900) (hk:k<=M.length):∃aj,freeze deep hp (.ao 0 0 k)=some (.aw false k (nL w (M.take k)),aj)/\∀j,j≠0->(∀i,i<M.length->j≠i+1)->au aj j=au hp j:=by
 have hm:=h.m;rw [show ((xe M.length).map fun i=>AV.ao (i+1) 0 w)=((xe M.length).map (·+1)).map (fun i=> .ao i 0 w) by rw [wO];rfl] at hm
 obtain ⟨bc,e1,g1⟩:=ac3 (w:=w) ((xe M.length).map (·+1)) (M.map cr) hp 998 (by simp;omega) (by simp) (fun i h1 h2=>by
  simp only [yr,List.length_range] at h1;refine ⟨by rw [xx,zE];exact hw _ (yS h1),true,?_⟩
  simp only [xx,vG]
  have:=h.r i h1
  rwa [eQ h1] at this)
 have e2:(M.map cr).map (fun r=>AV.aw false w r)=nL w M:=by rw [wO];rfl
 rw [e2] at e1;have e3:nN 999 hp 0=some (false,1,nL w M,a7 bc 0 (.cells false false false 1 (((xe M.length).map (·+1)).map fun i=> .ao i 0 w))):=by
  rw [MY,hm];show (match cB 998 hp _ with | some (dG,aj)=>_ | none=>_)=_
  rw [e1]
 have lr:(nL w M).length=M.length:=by simp [nL]
 refine ⟨a7 bc 0 (.cells false false false 1 (((xe M.length).map (·+1)).map fun i=> .ao i 0 w)),?_,fun j hj BW=>?_⟩
 ·show freeze (999+1) hp (.ao 0 0 k)=_
  rw [MX,e3];show (bif Nat.ble (0+k*1) (nL w M).length then _ else _)=_
  rw [lr,ye,yf,Nat.ble_eq_true_of_le hk];simp only [yA,xN,slice,yL,atk]
 ·rw [AL,yx hj];refine g1 j (fun hm=>?_);obtain ⟨i,hi,e⟩:=vO.1 hm;exact BW i (List.mem_range.1 hi) e.symm
def arf {hp:Hp} {w k:Nat} {M:Mx} {pvs:List AV} (h:bX hp w M) (hw:∀r,r∈M->r.length=w) (hn:M.length<=900) (hk:k+1<=M.length) (hv:au hp (M.length+1)=some (.cells true true false 1 pvs)) (hl:pvs.length=k+1):
  result hp (.ae [.ao 0 0 (k+1),.ao (M.length+1) 0 (k+1)])=some (.ae [.aw false (k+1) (nL w (M.take (k+1))),.bn false 1 (k+1) pvs]):=by
 obtain ⟨aj,e1,g1⟩:=h.ap hw hn hk;have h1:zt [.ao 0 0 (k+1),.ao (M.length+1) 0 (k+1)]=some [0,M.length+1]:=rfl;have e0:j0 deep hp (.ao 0 0 (k+1))=freeze deep hp (.ao 0 0 (k+1)):=by
  simp only [j0,h.m]
 have e2:j0 deep aj (.ao (M.length+1) 0 (k+1))=some (.bn false 1 (k+1) pvs,dJ aj (M.length+1)):=RA (by rw [g1 _ (by omega) (fun i hi=>by omega)];exact hv) (by rw [hl,yf]) (by decide)
 simp only [result,h1,oZ,e0,e1,e2]
def apB {hp:Hp} {w:Nat} {M:Mx} (h:bX hp w M) (hw:∀r,r∈M->r.length=w) (hn:M.length<=900):result hp (.ae [.ao 0 0 0,.aa])=some (.ae [.aw false 0 [],.aa]):=by
 obtain ⟨aj,e1,g1⟩:=h.ap (k:=0) hw hn (uf _);have h1:zt [.ao 0 0 0,.aa]=some [0]:=rfl;have e0:j0 deep hp (.ao 0 0 0)=freeze deep hp (.ao 0 0 0):=by
  simp only [j0,h.m]
 have e2:j0 deep aj .aa=some (.aa,aj):=rfl;have e3:nL w (M.take 0)=[]:=rfl;rw [e3] at e1;simp only [result,h1,oZ,e0,e1,e2]
def atl {live:List Nat} {tm tm':Env} {hp:Hp} {ct a w n:Nat} {ids:List Nat} {M:Mx} (Gk:M.length=n) (hE:fc (cg tm live)=[a]) (hm:au hp a=some (.cells true false false 1 (ids.map fun i=> .ao i 0 w))) (hl:ids.length=M.length) (hr:∀i (h:i<ids.length),au hp ids[i]=some (.cells true true false 1 (cr (gR M i)))) (hM:M.length<=10000) (hn:(a::ids).Nodup)
  (hT:∀S,ef a S 0=some 0->fC (pos S) (cg tm live)=tm'):∃aj,aI live ⟨tm,hp,ct,0⟩=⟨tm',aj,1+n,0⟩/\bX aj w M:=by
 obtain ⟨aj,aM,eM,e,q1,_,q3,_⟩:=Nb (ct:=ct) (pl:=[]) hE hm hl hr hM (by simpa [cJ] using hn) (fun _ h=>by cases h) (by simp)
 grind
section
variable {P:aK} {L:Lib}
def aDt {v:AV} {M:Mx} {w:Nat} (hv:cL bS v (M.map (wb RT))) (hw:∀r,r∈M->r.length=w) (iQ:0<w) (kZ:w<=1000) (h0:0<M.length) (hl:M.length<=1000) (nm:Has P L 354 qS):∃hp ct,eB P L (D P L) [] 0 .heap (.fn (.f 354) [] []) [v]=some (.ao 0 0 M.length,hp,ct)/\bX hp w M:=by
 have lv:∀hp:Hp,gI hp 1 v=some (ab M.length):=fun hp=>by have:=hv.len (hp:=hp);rwa [yr] at this
 have key:=gh (P:=P) (L:=L) (live:=[0,3,4]) (a:=E0)
  (I:=fun d st=>∃(i:Nat),i+d=M.length/\((i=0/\st=⟨[(0,v),(3,.aa),(4,ab i)],[],0,0⟩)\/(0<i/\∃hp,st=⟨[(0,v),(3,.ao 0 0 i),(4,ab i)],hp,1+i,0⟩/\bX hp w (M.take i))))
  (Q:=fun ex st=>∃tm hp ct,st=⟨tm,hp,ct,0⟩/\ex= .exit 0/\ai tm 3= .ao 0 0 M.length/\bX hp w M) ?_
 ·have hb:∃tm hp ct,D P L qS.body ⟨dX 0 [v],[],0,0⟩=some (.ret,⟨tm,hp,ct,0⟩)/\ai tm 2= .ao 0 0 M.length/\bX hp w M:=by
   simp only [go_sem,qS];generalize hq:D P L (.loop [0,3,4] E0) _=q;obtain ⟨ex,st,rfl,tm,hp,ct,rfl,rfl,t3,hM⟩:=bJ hq (key M.length) ⟨0,by omega,.inl ⟨rfl,by simp only [go_sem,ya,ax,aD hv.pu,aE _ hv.pu]<;>rfl⟩⟩
   obtain ⟨aj,aM,e,q1,_⟩:=mR (live:=[3]) (tm:=tm) (tm':=[(3,.ao 0 0 M.length)]) (ct:=ct) (k:=0) (pvs:=[]) (R:=True) hM (.inl rfl) rfl (by omega) (by simp only [go_sem,t3,di]<;>rfl) (fun S q3 q4=>by simp only [go_sem,t3,q3]) trivial
   simp only [go_sem,e];exact ⟨_,_,_,rfl,by simp only [go_sem],q1⟩
  obtain ⟨tm,hp,ct,hb,t2,hM⟩:=hb;refine ⟨hp,ct,?_,hM⟩;show il P L (D P L) [] 0 354 [v]=_
  exact M1 nm hb (.inr rfl) (by simp only [go_sem,qS,t2])
 ·rintro d st ⟨i,hid,aO⟩;by_cases hi:i<M.length
  ·left
   obtain ⟨r,rest,hr,e0⟩:=hv.aY (i:=i) (by rw [yr];exact hi)
   rw [xx] at hr;have wr:=hw _ (yS hi);have hcr:∀hp:Hp,iE hp 1 r=some (w,cr M[i]):=fun hp=>by
    rcases hr with ⟨rfl,h2⟩ | ⟨e,h2⟩
    ·have:=congrArg tG h2
     rw [yr,yr,yK] at this;omega
    ·have lc:((M[i].map RT).map AV.str).length=w:=by rw [yr,yr,wr]
     rw [lc] at h2;rw [h2];have e2:(M[i].map RT).map AV.str=cr M[i]:=by simp [cr]
     rw [e2] at lc ⊢;simp only [iE,yf,lc,wW,yA]
   have ko:∀hp:Hp,ik hp 1 r=some (w,cr M[i]):=fun hp=>by
    rcases hr with ⟨rfl,h2⟩ | ⟨e,h2⟩
    ·have:=congrArg tG h2
     rw [yr,yr,yK] at this;omega
    ·have:=hcr hp
     rw [h2] at this ⊢;exact this
   have oC':cp (cr M[i])=true/\aG (cr M[i])=true:=by
    unfold cr
    induction M[i] with
    | nil=>exact ⟨rfl,rfl⟩
    | cons x l ih=>exact ⟨by simp [cp,ih.1,Sp],by simp [aG,ih.2,S4]⟩
   have lcr:(cr M[i]).length=w:=by rw [zE,wr]
   have rB:(i:Int)<M.length:=by omega
   have w4:IntKind.wrap .i64 ((i:Int)+1)=((i+1:Nat):Int):=wrap64 (by omega) (by omega);have lt:(M.take (i+1)).length=i+1:=by rw [yE];omega
   have Ap:∀(hp:Hp) (ct id:Nat),au hp id=some (.cells true true true 1 [])->sr hp ct 1 16 (.ao id 0 0) (some (w,cr M[i]))=some (.ao ct 0 (0+w),(ct,.cells true true false 1 ([]++cr M[i]))::dJ hp id,ct+1):=fun hp ct id hg=>by
    rw [fS (ex:=true) (pu:=true) (cs:=[]) hg rfl (by omega) (by omega) (by decide) oC'.1,oC'.2];rfl
   have gTi:gR (M.take (i+1)) i=M[i]:=by rw [eQ (by omega),uo]
   rcases aO with ⟨lX,rfl⟩ | ⟨lX,hp,rfl,hM⟩
   ·subst lX;simp only [go_sem,ya,yb,xt,yD,yk,yf,E0,lv,rB,e0,Iv,ko,Ap,ye,xB,ij,w4];refine ⟨_,d-1,rfl,by omega,1,by omega,.inr ⟨by omega,?_⟩⟩;refine ⟨[(1,.cells true true false 1 (cr M[0])),(0,.cells true false false 1 [.ao 1 0 w])],by simp only [go_sem,ya,yb,ax,aD hv.pu,aE _ hv.pu]<;>rfl,⟨?_,fun k hk=>?_⟩⟩
    ·rw [lt];rfl
    ·rw [lt] at hk
     have:k=0:=by omega
     subst this;rw [gTi];rfl
   ·have g0:=hM.m;have lti:(M.take i).length=i:=by rw [yE];omega
    rw [lti] at g0;have gr:=hM.r;rw [lti] at gr;simp only [go_sem,ya,yk,yf,E0,lv,rB,e0,Iv,ko,Ap,ye,xB]
    rw [fS (sz:=1) (ex:=false) (pu:=false) (cs:=(xe i).map fun j=> .ao (j+1) 0 w) (by rw [dn _ _ (by omega),dn _ _ (by omega),rF,yx (by omega)];exact g0) (by simp) (by omega) (by omega) (by decide) (by simp only [go_sem])]
    simp only [go_sem,ya,w4];refine ⟨_,d-1,rfl,by omega,i+1,by omega,.inr ⟨by omega,?_⟩⟩;have oB:∀j (h:j<((xe i).map (·+1)++[1+i+1]).length),((xe i).map (·+1)++[1+i+1])[j]=if j<i then j+1 else i+2:=fun j h=>by
     by_cases hj:j<i
     ·rw [yM hj,xH (by simpa using hj)];simp
     ·rw [yx hj,wz (by simp;omega)];simp;omega
    have li:((xe i).map (·+1)++[1+i+1]).length=i+1:=by simp
    refine atl (a:=1+i+1+1+1) (ids:=(xe i).map (·+1)++[1+i+1]) lt (by simp only [go_sem,ya,aD hv.pu]<;>rfl) (by rw [fR,xi,wO];rfl) (by rw [li,lt]) (fun j hj=>by
     rw [oB j hj];rw [li] at hj;by_cases BW:j<i
     ·rw [yM BW,dn _ _ (by omega),dn _ _ (by omega),dn _ _ (by omega),rF,yx (by omega),rF,yx (by omega),gr j BW,eQ (by omega),eQ (by omega),uo,uo]
     ·have Zh:j=i:=by omega
      subst Zh;rw [yx (by omega),dn _ _ (by omega),dn _ _ (by omega),show j+2=1+j+1 by omega,fR,gTi]) (by rw [lt];omega) (by
     unfold yaB;refine List.pairwise_cons.2 ⟨fun x hx=>?_,?_⟩
     ·obtain ⟨j,hj,rfl⟩:=wU.1 hx;rw [oB j hj];split<;>omega
     ·rw [uj];intro x y hx hy hxy;rw [oB x hx,oB y hy]
      split<;>split<;>omega) (fun S q=>by simp only [go_sem,ya,q,aE _ hv.pu]<;>rfl)
  ·right
   have:i=M.length:=by omega
   subst this;rcases aO with ⟨lX,rfl⟩ | ⟨lX,hp,rfl,hM⟩
   ·omega
   ·rw [xD] at hM;simp only [go_sem,ya,E0,lv,show ¬(M.length:Int)<M.length by omega];exact ⟨_,_,rfl,by simp,_,_,_,rfl,rfl,by simp only [go_sem,ya],hM⟩
def alY (h:Rxi P L) (ku:Has P L 351 nh) (oD:Has P L 353 qR) (nm:Has P L 354 qS) (jf:Has P L 355 pL) {v:AV} {M:Mx} {W:Nat} (hv:cL bS v (M.map (wb RT))) (hw:wid W M) (At:0<W) (oS:W<=1000) (h0:0<M.length) (eV:M.length<=900) {K:Nat} (hk:eJ K M) (jX:1<=K) (hK:4^M.length*(K+1)<=400000000):
  ∃r q,ak P L 353 [v] (.ae [r,q])/\cL bS (bK r) (((aq M W).1.take (aq M W).2.length).map (wb RT))/\bt (bK q) ((aq M W).2.map (fun p:Nat=>(p:Int))):=by
 have QC:∀r,r∈M->r.length=W:=fun r hr=>zq hw hr
 obtain ⟨hp0,KW,e1,Qp⟩:=aDt (P:=P) (L:=L) hv QC At oS h0 (by omega) nm;have key:=azA (P:=P) (L:=L) h jf ku hw (by omega) rfl h0 (by omega) hk jX hK W;have hP:=n7 hw W;have lm:=pq M W;have hRw:∀r,r∈(aq M W).1->r.length=W:=fun r hr=>zq hP.wid hr
 have body:∃tm hp ct k pvs,D P L qR.body ⟨dX 0 [v],[],0,0⟩=some (.ret,⟨tm,hp,ct,0⟩)/\ai tm 2= .ao 0 0 k/\ai tm 3=oV (M.length+1) k/\bX hp W (aq M W).1/\ep hp M.length k pvs/\(aq M W).2.length=k/\pvs=(aq M W).2.map (fun p:Nat=>ab p):=by
  have ec:∀tm,bf P L (D P L) tm [] 0 (.call .heap (.c (.fn (.f 354) [] [])) [.t 13])=eB P L (D P L) [] 0 .heap (.fn (.f 354) [] []) [ai tm 13]:=fun tm=>rfl
  simp only [go_sem,ya,qR,ec,e1];generalize hq:D P L (.loop [0,4,5] CX) _=q;obtain ⟨ex,st,rfl,tm,hp,ct,k,pvs,rfl,rfl,hM,hV,dh,fH,t0,t4⟩:=bJ hq key ⟨0,0,[],mR Qp (.inl rfl) rfl (by omega) (by simp only [go_sem,ya,di]<;>rfl) (fun S q3 q4=>by simp only [go_sem,ya,q3]<;>rfl) ⟨rfl,rfl,by omega⟩⟩
  have AD:k<=M.length:=by have:=hP.pv;omega
  have F0:∃aj aM,aI [0,4] ⟨tm,hp,ct,0⟩=⟨[(0,.ao 0 0 M.length),(4,oV (M.length+1) k)],aj,aM,0⟩/\bX aj W (aq M W).1/\ep aj M.length k pvs/\True:=by
   cases k
   all_goals
    simp only [oV] at t4 ⊢;exact mR hM hV lm (by omega) (by simp only [go_sem,ya,t0,t4,di]<;>rfl) (fun S q3 q4=>by simp only [go_sem,t0,t4,q3,q4,ug,xj,xq]<;>rfl) trivial
  obtain ⟨aj,aM,e2,q1,q2,_⟩:=F0;have g0:=q1.m;rcases k with _ | k1
  all_goals
   simp only [oV] at e2 ⊢;simp only [go_sem,ya,e2];rw [ac2 g0 (by simp only [go_sem,rE,SZ]) AD];simp only [go_sem,ya];exact ⟨_,_,_,_,pvs,rfl,by simp only [go_sem,ya],by simp only [go_sem],q1,q2,dh,fH⟩
 obtain ⟨tm,hp,ct,k,pvs,hb,t2,t3,hM,hV,dh,fH⟩:=body;have AD:k<=M.length:=by have:=hP.pv;omega
 rw [dh];have hA:∀k,k<=M.length->cL bS (.aw false k (nL W ((aq M W).1.take k))) (((aq M W).1.take k).map (wb RT)):=fun k hk=>by
  have:=zj false (ahC (w:=W) (M:=(aq M W).1.take k) (fun r hr=>hRw r (List.mem_of_mem_take hr)))
  rwa [yr,yE,xA (by omega)] at this
 rcases k with _ | k1
 ·simp only [oV] at t3;refine ⟨.aw false 0 [],.aa,?_,hA 0 (by omega),?_⟩
  ·unfold ak;rw [aH oD,hb];simp only [go_sem,qR,t2,t3];exact apB hM hRw (by omega)
  ·rw [yB dh];exact qF
 ·simp only [oV] at t3;have dP:pvs.length=k1+1:=by rw [fH,yr,dh]
  have hg:au hp ((aq M W).1.length+1)=some (.cells true true false 1 pvs):=by
   rcases hV with hV | hV
   ·cases hV
   ·rw [lm];exact hV
  refine ⟨.aw false (k1+1) (nL W ((aq M W).1.take (k1+1))),.bn false 1 (k1+1) pvs,?_,hA (k1+1) AD,?_⟩
  ·unfold ak;rw [aH oD,hb]
   have:=arf hM hRw (by omega) (by omega) hg dP
   rw [lm] at this;simp only [go_sem,qR,t2,t3];exact this
  ·have:=EA false pvs
   rw [dP] at this;show cQ _ _
   rw [wO];rw [fH] at this ⊢;exact this
def aDu (h:Rxi P L) (ku:Has P L 351 nh) (oD:Has P L 353 qR) (nm:Has P L 354 qS) (jf:Has P L 355 pL) (DD:Has P L 413 FB) {v:AV} {M:Mx} {W:Nat} (hv:cL bS v (M.map (wb RT))) (hw:wid W M) (At:0<W) (oS:W<=1000) (h0:0<M.length) (eV:M.length<=900) {K:Nat} (hk:eJ K M) (jX:1<=K) (hK:4^M.length*(K+1)<=400000000):
  ∃r,ak P L 413 [v] r/\shut r=r/\cL bS r (((aq M W).1.take (aq M W).2.length).map (wb RT)):=by
 obtain ⟨r,q,e1,hr,hq⟩:=alY h ku oD nm jf hv hw At oS h0 eV hk jX hK;refine ⟨bK r,?_,hr.shut,hr⟩;unfold ak at e1 ⊢;rw [aH DD];simp only [go_sem,ya,FB,hv.ap,e1,me,mb,mc,hr.fO]
def aDv (h:Rxi P L) (ku:Has P L 351 nh) (oD:Has P L 353 qR) (nm:Has P L 354 qS) (jf:Has P L 355 pL) (DD:Has P L 413 FB) (Kx:Has P L 412 JS) {v:AV} {M:Mx} {W:Nat} (hv:cL bS v (M.map (wb RT))) (hw:wid W M) (At:0<W) (oS:W<=1000) (h0:0<M.length) (eV:M.length<=900) {K:Nat} (hk:eJ K M) (jX:1<=K) (hK:4^M.length*(K+1)<=400000000):
  ak P L 412 [v] (ab ((aq M W).2.length:Nat)):=by
 obtain ⟨r,e1,e2,hr⟩:=aDu h ku oD nm jf DD hv hw At oS h0 eV hk jX hK;have hP:=n7 hw W;have lr:∀hp:Hp,gI hp 1 r=some (ab ((aq M W).2.length:Nat)):=fun hp=>by
  have:=hr.len (hp:=hp)
  rw [yr,yE,pq,xA hP.pv] at this;exact this
 unfold ak at e1 ⊢;rw [aH Kx];simp only [go_sem,ya,JS,hv.ap,e1,e2,lr]
end
end
section
open Go (IntKind)
def atm (n:Nat):(yj n [48]).map AV.str=cr (yj n 0):=by
 simp [cr,alP]
end
section
open Go (IntKind)
abbrev Jt:Ty:= .sl .str
def NQ (s:List Nat):Prop:=s.length<9223372036854775808
def ac7:∀{ps:List (List AV)},(∀p,p∈ps->mK .str p)->∃l:List (List Nat),l.length=ps.length/\ps.flatten=l.map AV.str/\∀s,s∈l->NQ s
 | [],_=>⟨[],rfl,rfl,fun _ h=>by cases h⟩
 | p::ps,h=>by
  obtain ⟨s,rfl,hs,_⟩:=h p wF;obtain ⟨l,h1,h2,h3⟩:=ac7 (ps:=ps) (fun q hq=>h q (we _ hq))
  exact ⟨s::l,by simp [h1],by simp [h2],fun q hq=>by
   rcases wP.1 hq with rfl | hq
   ·exact hs
   ·exact h3 q hq⟩
def aek {l:List AV} (h:mK Jt l):∃(v:AV) (m:List (List Nat)),l=[v]/\bS v m/\∀s,s∈m->NQ s:=by
 rcases h with rfl | ⟨x,ps,rfl,h⟩
 ·exact ⟨_,[],rfl,qF,fun _ h=>by cases h⟩
 ·obtain ⟨m,h1,h2,h3⟩:=ac7 h;refine ⟨_,m,rfl,?_,h3⟩;rw [h2,<-h1];exact SD x m
def ael:∀{ps:List (List AV)},(∀p,p∈ps->mK Jt p)->∃M:List (List (List Nat)),M.length=ps.length/\cK bS ps.flatten M/\∀r,r∈M->∀s,s∈r->NQ s
 | [],_=>⟨[],rfl,trivial,fun _ h=>by cases h⟩
 | p::ps,h=>by
  obtain ⟨v,m,rfl,hv,hm⟩:=aek (h p wF);obtain ⟨M,h1,h2,h3⟩:=ael (ps:=ps) (fun q hq=>h q (we _ hq))
  exact ⟨m::M,by simp [h1],⟨hv,h2⟩,fun q hq=>by
   rcases wP.1 hq with rfl | hq
   ·exact hm
   ·exact h3 q hq⟩
def avC {l:List AV} (h:mK (.sl Jt) l):∃(v:AV) (M:List (List (List Nat))),l=[v]/\cL bS v M/\∀r,r∈M->∀s,s∈r->NQ s:=by
 rcases h with rfl | ⟨x,ps,rfl,h⟩
 ·exact ⟨_,[],rfl,RE,fun _ h=>by cases h⟩
 ·obtain ⟨M,h1,h2,h3⟩:=ael h;refine ⟨_,M,rfl,?_,h3⟩;rw [<-h1];exact zj x h2
end
section
open Go (IntKind)
def rC (ids W:List Nat):List AV:=wQ (fun i w=>AV.ao i 0 w) ids W
def iT (ids W:List Nat) (r:Nat):List AV:=rC ids W++yj r .aa
def atn {ids W:List Nat} {i w:Nat} (h:ids.length=W.length):rC (ids++[i]) (W++[w])=rC ids W++[.ao i 0 w]:=by
 unfold rC;rw [List.zipWith_append h];rfl
def ab8:∀r:Nat,fT (yj r AV.aa)=[]
 | 0=>rfl
 | r+1=>by rw [wo,fT,ab8 r];rfl
def ac8 (r:Nat):∀{ids W:List Nat},ids.length=W.length->fT (iT ids W r)=ids
 | [],[],_=>ab8 r
 | i::ids,w::W,h=>by
  have ih:=ac8 r (ids:=ids) (W:=W) (by simpa using h);have e:iT (i::ids) (w::W) r= .ao i 0 w::iT ids W r:=rfl;rw [e,fT,ih];rfl
 | [],_::_,h=>by simp at h
 | _::_,[],h=>by simp at h
def ac9 (f:Nat->Option Nat):∀r:Nat,eE f (yj r AV.aa)=yj r .aa
 | 0=>rfl
 | r+1=>by rw [wo,eE,ac9 f r];rfl
def aem {f:Nat->Option Nat} (r:Nat):∀{ids W:List Nat} (k:Nat),ids.length=W.length->(∀i (h:i<ids.length),f ids[i]=some (k+i))->eE f (iT ids W r)=iT (xW k ids.length) W r
 | [],[],_,_,_=>ac9 f r
 | i::ids,w::W,k,h,hf=>by
  have h0:=hf 0 (by simp);simp only [xv,yY] at h0;have ih:=aem (f:=f) r (ids:=ids) (W:=W) (k+1) (by simpa using h) (fun j hj=>by
   have:=hf (j+1) (by simpa using hj)
   simp only [wq] at this
   rw [this];congr 1;omega)
  have e:iT (i::ids) (w::W) r= .ao i 0 w::iT ids W r:=rfl;rw [e,eE,ih,yz,vN];simp only [b7,h0];rfl
 | [],_::_,_,h,_=>by simp at h
 | _::_,[],_,h,_=>by simp at h
def ada {sz:Nat} {y:Bool} (hs:0<sz):∀(ids W:List Nat) (T:List (List AV)) (hp:Hp) (n:Nat),ids.length+4<=n->ids.length=T.length->W.length=T.length->(∀i (h1:i<ids.length) (h2:i<T.length) (h3:i<W.length),T[i].length=W[i]*sz/\∃rw,au hp ids[i]=some (.cells rw true y sz T[i]))->
  ∃aj,cB n hp (rC ids W)=some (wQ (fun w r=> .aw y w r) W T,aj)/\∀j,j∉ids->au aj j=au hp j
 | [],[],[],hp,n+1,_,_,_,_=>⟨hp,rfl,fun _ _=>rfl⟩
 | [],_,[],hp,0,h,_,_,_=>by simp at h
 | [],_,_::_,_,_,_,h,_,_=>by simp at h
 | [],_::_,[],_,_,_,_,h,_=>by simp at h
 | _::_,_,[],_,_,_,h,_,_=>by simp at h
 | _::_,[],_::_,_,_,_,_,h,_=>by simp at h
 | i::ids,w::W,r::T,hp,n+1,hn,hl,hW,h=>by
  obtain ⟨l0,rw',g0⟩:=h 0 (by simp) (by simp) (by simp);simp only [xv] at l0 g0;simp only [yz] at hn hl hW;obtain ⟨m,rfl⟩:∃m,n=m+1+1:=⟨n-2,by omega⟩;have hz:nN (m+1) hp i=some (y,sz,r,if rw'=true then a7 hp i (.cells false true y sz r) else hp):=by
   rw [MY,g0];cases rw'<;>rfl
  have TK:∃bc,(if rw'=true then a7 hp i (.cells false true y sz r) else hp)=bc/\∀j,au bc j=if j=i then some (.cells (if rw'=true then false else rw') true y sz r) else au hp j:=by
   refine ⟨_,rfl,fun j=>?_⟩
   cases rw' with
   | true=>simp only [xE];rw [MJ g0]
   | false=>
    simp only [yI,xg]
    split
    ·rename_i e;rw [e,g0]
    ·rfl
  obtain ⟨bc,e1,g1⟩:=TK;rw [e1] at hz;obtain ⟨aj,e2,g2⟩:=ada hs ids W T bc (m+1+1) (by omega) (by omega) (by omega) (fun k h1 h2 h3=>by
   obtain ⟨a,Qv,b⟩:=h (k+1) (by simpa using h1) (by simpa using h2) (by simpa using h3);simp only [wq] at a b;refine ⟨a,?_⟩;rw [g1]
   split
   ·rename_i e;rw [e,g0] at b;simp only [yd,Obj.cells.injEq] at b;exact ⟨_,by rw [b.2.2.2.2]⟩
   ·exact ⟨Qv,b⟩)
  refine ⟨aj,?_,fun j hj=>?_⟩
  ·have e:rC (i::ids) (w::W)= .ao i 0 w::rC ids W:=rfl;rw [e,Rz,MX,hz,nP y l0 hs,SX,e2,SY];rfl
  ·simp only [wP,not_or] at hj;rw [g2 j hj.2,g1,yx hj.1]
def gT (T:List (List AV)) (i:Nat):List AV:=T.getD i []
def NR {T:List (List AV)} {i:Nat} (h:i<T.length):gT T i=T[i]:=by
 simp [gT,y9,List.getElem?_eq_getElem h]
def iM (n:Nat):List Nat:=(xe n).map (·+1)
def rL (n:Nat):(iM n).length=n:=by simp [iM]
def Q8 (n:Nat):iM n=xW 1 n:=by
 unfold iM;rw [ux];exact uU (fun a _=>yaD a 1)
def Sa {n i:Nat} (h:i<(iM n).length):(iM n)[i]=i+1:=by simp [iM]
def Sb {n i:Nat}:i∈iM n↔0<i/\i<=n:=by
 rw [Q8,List.mem_range'_1];omega
structure ma (hp:Hp) (x y:Bool) (sz:Nat) (W:List Nat) (T:List (List AV)) (r:Nat):Prop where
 l:W.length=T.length
 m:au hp 0=some (.cells true false x 1 (iT (iM T.length) W r))
 r:∀i,i<T.length->au hp (i+1)=some (.cells true true y sz (gT T i))
section
variable {hp:Hp} {x y:Bool} {sz:Nat} {W:List Nat} {T:List (List AV)} {r:Nat}
def ma.ap (h:ma hp x y sz W T 0) (hs:0<sz) (hw:∀i (h1:i<T.length) (h2:i<W.length),T[i].length=W[i]*sz) {n:Nat} (hn:T.length+4<=n):
  ∃aj,cB n hp (iT (iM T.length) W 0)=some (wQ (fun w r=> .aw y w r) W T,aj)/\∀j,(∀i,i<T.length->j≠i+1)->au aj j=au hp j:=by
 have e0:iT (iM T.length) W 0=rC (iM T.length) W:=by unfold iT;simp
 rw [e0];obtain ⟨bc,e1,g1⟩:=ada hs (iM T.length) W T hp n (by rw [rL];exact hn) (rL _) h.l (fun i h1 h2 h3=>by
  refine ⟨hw i h2 h3,true,?_⟩;rw [Sa]
  have:=h.r i h2
  rwa [NR h2] at this)
 refine ⟨bc,e1,fun j hj=>g1 j fun hm=>?_⟩
 have:=Sb.1 hm
 exact hj (j-1) (by omega) (by omega)
def azB {hp aj:Hp} {n id s:Nat} {rw' ex:Bool} {cs dG:List AV} (h:cB n hp cs=some (dG,aj)):z7 n id hp (some (.cells rw' false ex s cs))=some (ex,s,dG,a7 aj id (.cells false false ex s cs)):=by
 simp [z7,h]
def ma.z7 (h:ma hp x y sz W T 0) (hs:0<sz) (hw:∀i (h1:i<T.length) (h2:i<W.length),T[i].length=W[i]*sz) {n:Nat} (hn:T.length+4<=n):
  ∃aj,VE.z7 n 0 hp (some (.cells true false x 1 (iT (iM T.length) W 0)))=some (x,1,wQ (fun w r=> .aw y w r) W T,aj):=by
 obtain ⟨bc,e,_⟩:=h.ap hs hw hn;exact ⟨_,azB e⟩
def adb (h:W.length=T.length):(wQ (fun w r=>AV.aw y w r) W T).length=T.length:=by rw [List.length_zipWith];omega
def aBc {a:Nat} {ids pl:List Nat} {rw' ex:Bool} {cells:List AV} (hm:au hp a=some (.cells rw' false ex 1 cells)) (hc:fT cells=ids) (hr:∀i,i∈ids->∃o,au hp i=some o/\iX o=[]) (bc:∀i,i∈pl->∃o,au hp i=some o/\iX o=[]) (hn:(cJ a ids pl).Nodup) (hl:ids.length+pl.length<90000):lU hp 100000 (a::pl) []=cJ a ids pl:=by
 have iA:=wX.1 hn;have dd:∀i,i∈ids++pl->i∉[a]:=fun i hi hm=>by
  simp only [xC] at hm;subst hm;exact iA.1 hi
 rw [show (100000:Nat)=99999+1 from rfl,MA,R2,Np,hm,Nq,Sr,hc,xB]
 have:ids++pl=(ids++pl)++[]:=by simp
 rw [this,SG hp (ids++pl) [a] [] 99999 (by rw [yG];omega) (fun i hi=>by
  rcases xZ.1 hi with h | h
  ·exact hr i h
  ·exact bc i h) iA.2 dd,ahx hp (by rw [yG];omega)]
 rfl
def aiU {live:List Nat} {tm tm':Env} {ct a:Nat} {ids pl:List Nat} (hE:fc (cg tm live)=a::pl) (hm:au hp a=some (.cells true false x 1 (iT ids W r))) (hl:ids.length=T.length) (hW:W.length=T.length) (hr:∀i (h:i<ids.length),au hp ids[i]=some (.cells true true y sz (gT T i))) (hM:T.length<=10000) (hn:(cJ a ids pl).Nodup)
  (bc:∀i,i∈pl->∃o,au hp i=some o/\iX o=[]) (dP:pl.length<=1000)
  (hT:∀S,ef a S 0=some 0->(∀j (h:j<pl.length),ef pl[j] S 0=some (T.length+1+j))->fC (pos S) (cg tm live)=tm'):
  ∃aj,aI live ⟨tm,hp,ct,0⟩=⟨tm',aj,1+(T.length+pl.length),0⟩/\ma aj x y sz W T r/\∀j (h:j<pl.length) rw ex z cs,au hp pl[j]=some (.cells rw true ex z cs)->au aj (T.length+1+j)=some (.cells rw true ex z cs):=by
 have oB:∀i,i∈ids->∃o,au hp i=some o/\iX o=[]:=fun i hi=>by
  obtain ⟨k,hk,rfl⟩:=wU.1 hi;exact ⟨_,hr k hk,rfl⟩
 have hR:=aBc (pl:=pl) hm (ac8 r (by omega)) oB bc hn (by omega);rw [<-hE] at hR;obtain ⟨aj,e,g⟩:=aa8 (ct:=ct) hR;have ls:(cJ a ids pl).length=1+(ids.length+pl.length):=by simp [cJ];omega
 have s0:∀h:0<(cJ a ids pl).length,(cJ a ids pl)[0]=a:=fun _=>rfl
 have sI:∀i (h:i<ids.length) (h2:i+1<(cJ a ids pl).length),(cJ a ids pl)[i+1]=ids[i]:=fun i h h2=>by
  simp [cJ,xH h]
 have sP:∀j (h:j<pl.length) (h2:T.length+1+j<(cJ a ids pl).length),(cJ a ids pl)[T.length+1+j]=pl[j]:=fun j h h2=>by
  have:T.length+1+j=(ids.length+j)+1:=by omega
  simp only [cJ,this,wq];rw [wz (by omega)]
  simp
 have pI:∀i (h:i<ids.length),pos (cJ a ids pl) ids[i]=some (1+i):=fun i h=>by
  have:=CH (cJ a ids pl) 0 (i+1) (by omega) hn
  rw [sI i h (by omega)] at this;rw [pos_eq,this];congr 1;omega
 have q3:ef a (cJ a ids pl) 0=some 0:=by
  have:=CH (cJ a ids pl) 0 0 (by omega) hn
  rw [s0] at this;exact this
 have q4:∀j (h:j<pl.length),ef pl[j] (cJ a ids pl) 0=some (T.length+1+j):=fun j hj=>by
  have:=CH (cJ a ids pl) 0 (T.length+1+j) (by omega) hn
  rw [sP j hj (by omega),ye] at this;exact this
 refine ⟨aj,by rw [e,hT _ q3 q4,ls,hl],⟨hW,?_,fun i hi=>?_⟩,fun j hj rw' ex z cs ho=>?_⟩
 ·have:=g 0 (by omega) _ (by rw [s0];exact hm)
  rw [this];have e2:iH (pos (cJ a ids pl)) (.cells true false x 1 (iT ids W r))= .cells true false x 1 (eE (pos (cJ a ids pl)) (iT ids W r)):=rfl;rw [e2,aem r 1 (by omega) pI,hl,<-Q8]
 ·have:=g (i+1) (by omega) _ (by rw [sI i (by omega)];exact hr i (by omega))
  rw [this];rfl
 ·have:=g (T.length+1+j) (by omega) _ (by rw [sP j hj (by omega)];exact ho)
  rw [this];rfl
def apC {n:Nat} {pl:List Nat} (hp:pl.Nodup) (h:∀i,i∈pl->n<i):(cJ 0 (iM n) pl).Nodup:=by
 unfold cJ;refine wX.2 ⟨fun q=>?_,?_⟩
 ·rcases xZ.1 q with q | q
  ·have:=Sb.1 q;omega
  ·have:=h 0 q;omega
 ·refine yaF.2 ⟨by rw [Q8];exact List.nodup_range',hp,fun a ha b hb e=>?_⟩
  have h1:=Sb.1 ha;have h2:=h b hb;omega
def ma.comp {live:List Nat} {tm tm':Env} {ct:Nat} (h:ma hp x y sz W T r) (hE:fc (cg tm live)=[0]) (hM:T.length<=10000)
  (hT:∀S,ef 0 S 0=some 0->fC (pos S) (cg tm live)=tm'):∃aj,aI live ⟨tm,hp,ct,0⟩=⟨tm',aj,1+T.length,0⟩/\ma aj x y sz W T r:=by
 obtain ⟨aj,e,g,_⟩:=aiU (ct:=ct) (pl:=[]) hE h.m (rL _) h.l (fun i hi=>by
  rw [Sa];rw [rL] at hi;exact h.r i hi) hM (apC List.nodup_nil (fun _ q=>by cases q)) (fun _ q=>by cases q) (by simp) (fun S q _=>hT S q)
 exact ⟨aj,e,g⟩
def ahD {live:List Nat} {tm tm':Env} {hp0:Hp} {x0:Bool} {ct a b w i r0:Nat} {cs:List AV} (h:ma hp0 x0 y sz W T r0) (hi:T.length=i) (hE:fc (cg tm live)=[a]) (hb:i<b) (Ch:a≠b) (ha:a=0\/i<a)
  (hm:au hp a=some (.cells true false x 1 (rC (iM i) W++ .ao b 0 w::yj r .aa))) (hr:∀j,j<i->au hp (j+1)=au hp0 (j+1)) (hc:au hp b=some (.cells true true y sz cs)) (hM:i<=1000)
  (hT:∀S,ef a S 0=some 0->fC (pos S) (cg tm live)=tm'):∃aj,aI live ⟨tm,hp,ct,0⟩=⟨tm',aj,1+(i+1),0⟩/\ma aj x y sz (W++[w]) (T++[cs]) r:=by
 have oB:∀j (h:j<(iM i++[b]).length),(iM i++[b])[j]=if j<i then j+1 else b:=fun j h=>by
  by_cases hj:j<i
  ·rw [yM hj,xH (by rw [rL];exact hj),Sa]
  ·rw [yx hj,wz (by rw [rL];omega)];simp
 have li:(iM i++[b]).length=i+1:=by simp [rL]
 have lW:W.length=i:=by rw [h.l,hi]
 obtain ⟨aj,e,g,_⟩:=aiU (hp:=hp) (x:=x) (y:=y) (sz:=sz) (r:=r) (T:=T++[cs]) (W:=W++[w]) (ct:=ct) (pl:=[]) (ids:=iM i++[b]) hE (by
  rw [hm];unfold iT;rw [atn (by rw [rL,lW]),xy];rfl) (by rw [li];simp [hi]) (by simp [lW,hi]) (fun j hj=>by
  rw [oB j hj];rw [li] at hj;by_cases BW:j<i
  ·rw [yM BW,hr j BW,h.r j (by omega),NR (by omega),NR (by simp;omega),xH]
  ·have Zh:j=i:=by omega
   subst Zh;rw [yx (by omega),hc,NR (by simp;omega),wz (by omega)];simp [hi]) (by simp;omega) (by
  unfold cJ;rw [xY];refine wX.2 ⟨fun hx=>?_,?_⟩
  ·obtain ⟨j,hj,e⟩:=wU.1 hx;rw [oB j hj] at e;rw [li] at hj;split at e<;>omega
  ·unfold yaB;rw [uj];intro u v hu hv huv;rw [oB u hu,oB v hv];rw [li] at hu hv
   split<;>split<;>omega) (fun _ q=>by cases q) (by simp) (fun S q _=>hT S q)
 exact ⟨aj,by rw [e];simp [hi],g⟩
end
end
section
def sm (f:Nat->Rat):Nat->Rat
 | 0=>0
 | n+1=>sm f n+f n
def Sc {f g:Nat->Rat}:∀{n:Nat},(∀i,i<n->f i=g i)->sm f n=sm g n
 | 0,_=>rfl
 | n+1,h=>by rw [sm,sm,Sc (n:=n) (fun i hi=>h i (by omega)),h n (by omega)]
def SI {f:Nat->Rat}:∀{n:Nat},(∀i,i<n->f i=0)->sm f n=0
 | 0,_=>rfl
 | n+1,h=>by rw [sm,SI (n:=n) (fun i hi=>h i (by omega)),h n (by omega)];grind
def aiV (f g:Nat->Rat):∀n,sm (fun i=>f i+g i) n=sm f n+sm g n
 | 0=>by simp only [sm];grind
 | n+1=>by simp only [sm];rw [aiV f g n];grind
def aiW (a:Rat) (f:Nat->Rat):∀n,sm (fun i=>a*f i) n=a*sm f n
 | 0=>by simp only [sm];grind
 | n+1=>by simp only [sm];rw [aiW a f n];grind
def azC {f:Nat->Rat} {n j:Nat} (hj:j<n) (h:∀i,i<n->i≠j->f i=0):sm f n=f j:=by
 induction n with
 | zero=>omega
 | succ n ih=>
  rw [sm];by_cases LC:j=n
  ·subst LC;rw [SI (fun i hi=>h i (by omega) (by omega))];grind
  ·rw [ih (by omega) (fun i hi=>h i (by omega)),h n (by omega) (fun e=>LC e.symm)];grind
def E (m:Mx) (i c:Nat):Rat:=b9 (gR m i) c
def fp (r:Nat) (g:Nat->Nat->Rat) (w:Nat) (v:Nat->Rat):Prop:=∃x:Nat->Rat,∀k,k<w->v k=sm (fun j=>x j*g j k) r
section
variable {r w:Nat} {g:Nat->Nat->Rat} {u v:Nat->Rat}
def fp.congr (h:fp r g w u) (e:∀k,k<w->v k=u k):fp r g w v:=by
 obtain ⟨x,hx⟩:=h;exact ⟨x,fun k hk=>by rw [e k hk,hx k hk]⟩
def fp.zero:fp r g w (fun _=>0):=⟨fun _=>0,fun k _=>by rw [SI (fun i _=>by grind)]⟩
def fp.add (h:fp r g w u) (h2:fp r g w v):fp r g w (fun k=>u k+v k):=by
 obtain ⟨x,hx⟩:=h;obtain ⟨y,hy⟩:=h2;refine ⟨fun j=>x j+y j,fun k hk=>?_⟩;show u k+v k=sm (fun j=>(x j+y j)*g j k) r
 rw [hx k hk,hy k hk,<-aiV];exact Sc (fun i _=>by grind)
def fp.mul (a:Rat) (h:fp r g w u):fp r g w (fun k=>a*u k):=by
 obtain ⟨x,hx⟩:=h;refine ⟨fun j=>a*x j,fun k hk=>?_⟩;show a*u k=sm (fun j=>(a*x j)*g j k) r
 rw [hx k hk,<-aiW];exact Sc (fun i _=>by grind)
def fp.row {j:Nat} (hj:j<r):fp r g w (g j):=by
 refine ⟨fun i=>if i=j then 1 else 0,fun k _=>?_⟩;show g j k=sm (fun i=>(if i=j then 1 else 0)*g i k) r
 rw [azC hj (fun i _ hi=>by rw [yx hi];grind),yM rfl];grind
def fp.sum {s:Nat} {h:Nat->Nat->Rat} {x:Nat->Rat} (hs:∀i,i<s->fp r g w (h i)):fp r g w (fun k=>sm (fun i=>x i*h i k) s):=by
 induction s with
 | zero=>exact fp.zero
 | succ s ih=>
  simp only [sm];exact (ih (fun i hi=>hs i (by omega))).add ((hs s (by omega)).mul (x s))
def fp.trans {s:Nat} {h:Nat->Nat->Rat} (hv:fp s h w v) (hs:∀i,i<s->fp r g w (h i)):fp r g w v:=by
 obtain ⟨x,hx⟩:=hv
 exact (fp.sum (x:=x) hs).congr hx
end
def avD {m:Mx} {w c:Nat} {s:Mx×List Nat} (h:Pv m w c s) (hc:c<w) (hp:aP s c<s.1.length) {i k:Nat} (hi:i<s.1.length) (hk:k<w):
  E (fQ s c).1 i k=if i=s.2.length then E (bC s.1 s.2.length (aP s c)) i k*(E (bC s.1 s.2.length (aP s c)) s.2.length c)⁻¹ else E (bC s.1 s.2.length (aP s c)) i k-E (bC s.1 s.2.length (aP s c)) i c*(E (bC s.1 s.2.length (aP s c)) s.2.length k*(E (bC s.1 s.2.length (aP s c)) s.2.length c)⁻¹):=by
 have h1:=(h.aP c).1;have kH:=h.wid.bC (i:=s.2.length) (j:=aP s c) (by omega) hp;have Lz:=rK s.1 s.2.length (aP s c);have ib:=h.db hp;have Eb:=rQ s c;have wi:=kH i (by omega);have wa:=kH s.2.length (by omega);have ea:∀k,k<w->E (db s c) s.2.length k=E (bC s.1 s.2.length (aP s c)) s.2.length k*(E (bC s.1 s.2.length (aP s c)) s.2.length c)⁻¹:=fun k hk=>by
  unfold E db nJ;rw [kK,yM ⟨rfl,by omega⟩,jw (by rw [rN rfl];omega),ED (by omega) (by omega),jw (show k<_ by omega)]
  grind
 have ei:i≠s.2.length->gR (db s c) i=gR (bC s.1 s.2.length (aP s c)) i:=fun dd=>by
  unfold db nJ;rw [kK,yx (fun q=>dd q.1.symm)]
 unfold fQ;rw [yM hp];show b9 (gR (bT (db s c) s.2.length c s.1.length) i) k=_
 rw [SE (by omega)];by_cases iS:i=s.2.length
 ·rw [yx (fun q=>q.2.1 iS),yM iS,iS];exact ea k hk
 ·rw [yx iS];have wsi:=ib i (by omega);have wsa:=ib s.2.length (by omega);by_cases hz:b9 (gR (db s c) i) c≠0
  ·rw [yM ⟨hi,iS,hz⟩,jw (by rw [rN (by omega)];omega),ED (by omega) (by omega) _];have e2:=ea k hk;unfold E at e2 ⊢;rw [jw (show k<(gR (db s c) s.2.length).length by omega)] at e2;rw [e2];have e3:=ei iS;simp only [e3];rw [jw (show k<(gR (bC s.1 s.2.length (aP s c)) i).length by omega)]
   grind
  ·rw [yx (fun q=>hz q.2.2)];have gC:b9 (gR (db s c) i) c=0:=by simpa using hz
   rw [ei iS] at gC ⊢;unfold E;rw [gC];grind
end
section
structure Gb (m:Mx) (w c:Nat) (s:Mx×List Nat):Prop where
 pv:Pv m w c s
 up:∀i,i<m.length->fp m.length (E m) w (E s.1 i)
 down:∀i,i<m.length->fp m.length (E s.1) w (E m i)
 one:∀i (h:i<s.2.length),∀j,j<m.length->E s.1 j (s.2[i])=if j=i then 1 else 0
 low:∀i,s.2.length<=i->i<m.length->∀k,k<c->E s.1 i k=0
 left:∀i (h:i<s.2.length),∀k,k<s.2[i]->E s.1 i k=0
 inc:∀i j (hi:i<s.2.length) (hj:j<s.2.length),i<j->s.2[i]<s.2[j]
def aBd {m:Mx} {a p i k:Nat} (ha:a<m.length) (hp:p<m.length) (hi:i<m.length):E (bC m a p) i k=if i=p then E m a k else if i=a then E m p k else E m i k:=by
 unfold E bC;rw [kK,kK];simp only [vm];by_cases h1:i=p
 ·subst h1;simp [hi]
 ·rw [yx (fun q=>h1 q.1.symm),yx h1];by_cases h2:i=a
  ·subst h2;simp [hi]
  ·rw [yx (fun q=>h2 q.1.symm),yx h2]
def Gb.step {m:Mx} {w c:Nat} {s:Mx×List Nat} (h:Gb m w c s) (hc:c<w):Gb m w (c+1) (fQ s c):=by
 have hl:=h.pv.len;have eU:=h.pv.aP c;by_cases hp:aP s c<s.1.length
 ·have dP:(fQ s c).2=s.2++[c]:=by unfold fQ;rw [yM hp]
  have ha:s.2.length<s.1.length:=by omega
  have hS:∀i k,i<m.length->E (bC s.1 s.2.length (aP s c)) i k=if i=aP s c then E s.1 s.2.length k else if i=s.2.length then E s.1 (aP s c) k else E s.1 i k:=fun i k hi=>aBd ha hp (by omega)
  have dd:E (bC s.1 s.2.length (aP s c)) s.2.length c≠0:=by
   have:=Na s.1 c (s.1.length-s.2.length) s.2.length (by unfold aP at hp;omega)
   rw [hS _ _ (by omega)];unfold aP
   split
   ·rename_i q;rw [<-q] at this;exact this
   ·rw [yM rfl];exact this
  have hg:=fun (i k:Nat) (hi:i<m.length) (hk:k<w)=>avD h.pv hc hp (i:=i) (k:=k) (by omega) hk
  have Ky:∀i,s.2.length<=i->i<m.length->∀k,k<c->E (bC s.1 s.2.length (aP s c)) i k=0:=fun i hi Ee k hk=>by
   rw [hS i k Ee]
   split
   ·exact h.low _ (yu _) (by omega) k hk
   ·split
    ·exact h.low _ eU.1 (by omega) k hk
    ·exact h.low i hi Ee k hk
  have aBe:∀i,i<s.2.length->∀k,E (bC s.1 s.2.length (aP s c)) i k=E s.1 i k:=fun i hi k=>by
   rw [hS i k (by omega),yx (by omega),yx (by omega)]
  have QD:∀i (hi:i<s.2.length),s.2[i]<c:=fun i hi=>h.pv.lt _ (yS hi)
  refine ⟨h.pv.step,fun i hi=>?_,fun i hi=>?_,fun i hi j hj=>?_,fun i hi Ee k hk=>?_,fun i hi k hk=>?_,fun i j hi hj BV=>?_⟩
  ·
   have iK:∀j,j<m.length->fp m.length (E m) w (E (bC s.1 s.2.length (aP s c)) j):=fun j hj=>by
    by_cases q1:j=aP s c
    ·exact (h.up _ (show s.2.length<m.length by omega)).congr (fun k _=>by rw [hS j k hj,yM q1])
    ·by_cases q2:j=s.2.length
     ·exact (h.up _ (show aP s c<m.length by omega)).congr (fun k _=>by rw [hS j k hj,yx q1,yM q2])
     ·exact (h.up j hj).congr (fun k _=>by rw [hS j k hj,yx q1,yx q2])
   by_cases iS:i=s.2.length
   ·refine ((iK i hi).mul (E (bC s.1 s.2.length (aP s c)) s.2.length c)⁻¹).congr (fun k hk=>?_);rw [hg i k hi hk,yM iS];grind
   ·refine ((iK i hi).add ((iK s.2.length (by omega)).mul (-(E (bC s.1 s.2.length (aP s c)) i c)*(E (bC s.1 s.2.length (aP s c)) s.2.length c)⁻¹))).congr (fun k hk=>?_);rw [hg i k hi hk,yx iS];grind
  ·
   have TL:∀j,j<m.length->fp m.length (E (fQ s c).1) w (E (bC s.1 s.2.length (aP s c)) j):=fun j hj=>by
    have ra:=fp.row (r:=m.length) (g:=E (fQ s c).1) (w:=w) (show s.2.length<m.length by omega);have rj:=fp.row (r:=m.length) (g:=E (fQ s c).1) (w:=w) hj;by_cases oU:j=s.2.length
    ·refine (ra.mul (E (bC s.1 s.2.length (aP s c)) s.2.length c)).congr (fun k hk=>?_);rw [hg _ k (by omega) hk,yM rfl,oU]
     have:=uZ _ dd
     grind
    ·refine (rj.add (ra.mul (E (bC s.1 s.2.length (aP s c)) j c))).congr (fun k hk=>?_);rw [hg j k hj hk,yx oU,hg _ k (by omega) hk,yM rfl];grind
   refine (h.down i hi).trans (fun j hj=>?_);by_cases q1:j=s.2.length
   ·refine (TL (aP s c) (by omega)).congr (fun k _=>?_);rw [hS _ k (by omega),yM rfl,q1]
   ·by_cases q2:j=aP s c
    ·refine (TL s.2.length (by omega)).congr (fun k _=>?_);rw [hS _ k (by omega),yx (fun e=>q1 (by omega)),yM rfl,q2]
    ·refine (TL j hj).congr (fun k _=>?_);rw [hS j k hj,yx q2,yx q1]
  ·
   have lf:=uZ _ dd;simp only [dP,yG,yz,yK] at hi ⊢;by_cases eF:i<s.2.length
   ·rw [xH eF];have hpw:s.2[i]<w:=by have:=QD i eF;omega
    have ha0:E (bC s.1 s.2.length (aP s c)) s.2.length (s.2[i])=0:=Ky _ (yu _) (by omega) _ (QD i eF);rw [hg j _ hj hpw];by_cases oU:j=s.2.length
    ·rw [yM oU,oU,ha0,yx (by omega)];grind
    ·rw [yx oU,ha0];have eh:=h.one i eF;rw [hS j _ hj];by_cases q1:j=aP s c
     ·rw [yM q1,eh _ (by omega),yx (by omega),yx (by omega)];grind
     ·rw [yx q1,yx oU,eh j hj];grind
   ·have:i=s.2.length:=by omega
    subst this;rw [wz (yu _)];simp only [yaK,xv];rw [hg j c hj hc];by_cases oU:j=s.2.length
    ·rw [yM oU,yM oU,oU];exact lf
    ·rw [yx oU,yx oU,lf];grind
  ·
   simp only [dP,yG,yz,yK] at hi;have lf:=uZ _ dd;rw [hg i k Ee (by omega),yx (by omega)];by_cases mH:k=c
   ·subst mH;rw [lf];grind
   ·rw [Ky i (by omega) Ee k (by omega),Ky s.2.length (yu _) (by omega) k (by omega)];grind
  ·
   simp only [dP,yG,yz,yK] at hi;simp only [dP] at hk;by_cases eF:i<s.2.length
   ·rw [xH eF] at hk;have mH:k<c:=by have:=QD i eF;omega
    rw [hg i k (by omega) (by omega),yx (by omega),Ky s.2.length (yu _) (by omega) k mH,aBe i eF k,h.left i eF k hk];grind
   ·have:i=s.2.length:=by omega
    subst this;rw [wz (yu _)] at hk;simp only [yaK,xv] at hk;rw [hg _ k (by omega) (by omega),yM rfl,Ky _ (yu _) (by omega) k hk];grind
  ·
   simp only [dP,yG,yz,yK] at hi hj ⊢;rw [xH (show i<s.2.length by omega)];by_cases LC:j<s.2.length
   ·rw [xH LC];exact h.inc i j (by omega) LC BV
   ·rw [wz (by omega)];simp only [show j-s.2.length=0 by omega,xv];exact QD i (by omega)
 ·rw [MI hp]
  refine ⟨⟨h.pv.len,h.pv.wid,h.pv.pv,fun p hp=>by have:=h.pv.lt p hp;omega⟩,h.up,h.down,h.one,fun i hi Ee k hk=>?_,h.left,h.inc⟩;by_cases mH:k=c
  ·subst mH
   have:∀d p,iD s.1 k d p=p+d->∀i,p<=i->i<p+d->b9 (gR s.1 i) k=0:=fun d=>by
    induction d with
    | zero=>intro p _ i h1 h2;omega
    | succ d ih=>
     intro p hf i h1 h2;simp only [iD] at hf
     split at hf
     ·rename_i h0;by_cases hip:i=p
      ·rw [hip];exact h0
      ·exact ih (p+1) (by omega) i (by omega) (by omega)
     ·omega
   have hf:=Ti s.1 k (s.1.length-s.2.length) s.2.length;unfold aP at hp;exact this (s.1.length-s.2.length) s.2.length (by omega) i hi (by omega)
  ·exact h.low i hi Ee k (by omega)
def Nf {m:Mx} {w:Nat} (hw:wid w m):∀c,c<=w->Gb m w c (aq m c)
 | 0,_=>⟨n7 hw 0,fun i hi=>fp.row hi,fun i hi=>fp.row hi,fun i hi=>by simp [aq] at hi,fun i _ _ k hk=>by omega,fun i hi=>by simp [aq] at hi,fun i j hi=>by simp [aq] at hi⟩
 | c+1,hc=>(Nf hw c (by omega)).step (by omega)
end
section
def gB (w:Nat) (m:Mx):Mx:=m.map (List.take w)
def MK (w:Nat) (m:Mx):(gB w m).length=m.length:=yr _
def Ba (w:Nat) (m:Mx) (i:Nat):gR (gB w m) i=(gR m i).take w:=by
 unfold gR gB;simp only [y9,List.getElem?_map];cases m[i]?<;>simp
def Sd {r:List Rat} {w c:Nat} (h:c<w):b9 (r.take w) c=b9 r c:=by
 unfold b9;simp only [y9,List.getElem?_take,h,xE]
def ahE {m:Mx} {w c:Nat} (h:c<w):∀d p,iD (gB w m) c d p=iD m c d p
 | 0,_=>rfl
 | d+1,p=>by
  simp only [iD,Ba,Sd h];rw [ahE h d (p+1)]
def Ng (w:Nat) (m:Mx) (i:Nat) (r:List Rat):gB w (m.set i r)=(gB w m).set i (r.take w):=by
 unfold gB;rw [tI]
def ahF (w:Nat) (a b:List Rat) (x y:Rat):(cU a b x y).take w=cU (a.take w) (b.take w) x y:=by
 unfold cU;rw [List.take_zipWith]
def avE (w:Nat) (m:Mx) (i j:Nat):gB w (bC m i j)=bC (gB w m) i j:=by
 unfold bC;rw [Ng,Ng,Ba,Ba]
def avF {w c:Nat} (h:c<w) (m:Mx) (a:Nat):gB w (nJ m a c)=nJ (gB w m) a c:=by
 unfold nJ;rw [Ng,ahF,Ba,Sd h]
def avG {w c:Nat} (h:c<w) (m:Mx) (a i:Nat):gB w (mL m a c i)=mL (gB w m) a c i:=by
 unfold mL;rw [Ba,Ba,Sd h]
 split
 ·rw [Ng,ahF]
 ·rfl
def ahG {w c:Nat} (h:c<w) (m:Mx) (a:Nat):∀i,gB w (bT m a c i)=bT (gB w m) a c i
 | 0=>rfl
 | i+1=>by rw [bT,bT,avG h,ahG h m a i]
def ahH (w:Nat) (m:Mx):∀c,c<=w->aq (gB w m) c=(gB w (aq m c).1,(aq m c).2)
 | 0,_=>rfl
 | c+1,hc=>by
  have ih:=ahH w m c (by omega);have Gl:c<w:=by omega
  have hp:aP (gB w (aq m c).1,(aq m c).2) c=aP (aq m c) c:=by
   unfold aP;simp only [MK,ahE Gl]
  rw [aq,aq,ih];unfold fQ;rw [hp];simp only [MK]
  split
  ·simp only [db,hp,ahG Gl,avF Gl,avE]
  ·rfl
def aen {m:Mx} {w:Nat}:(aq m (w+1)).2=(aq (gB w m) w).2\/(aq m (w+1)).2=(aq (gB w m) w).2++[w]:=by
 rw [ahH w m w (yu w),aq];unfold fQ
 split
 ·exact .inr rfl
 ·exact .inl rfl
def ahI {l:List Nat} {w:Nat} (hl:l.length=w) (hi:∀i j (hi:i<l.length) (hj:j<l.length),i<j->l[i]<l[j]) (hw:∀p,p∈l->p<w):∀i (h:i<l.length),l[i]=i:=fun i h=>by
 have lo:∀i (h:i<l.length),i<=l[i]:=fun i=>by
  induction i with
  | zero=>intro h;exact uf _
  | succ i ih=>
   intro h
   have:=ih (by omega)
   have:=hi i (i+1) (by omega) h (by omega)
   omega
 have up:∀d i (h:i<l.length),i+d+1=l.length->l[i]<=i:=fun d=>by
  induction d with
  | zero=>
   intro i h e
   have:=hw _ (yS h)
   omega
  | succ d ih=>
   intro i h e;have h1:=ih (i+1) (by omega) (by omega);have h2:=hi i (i+1) h (by omega) (by omega);omega
 have h1:=lo i h;have h2:=up (l.length-i-1) i h (by omega);omega
end
end VE
