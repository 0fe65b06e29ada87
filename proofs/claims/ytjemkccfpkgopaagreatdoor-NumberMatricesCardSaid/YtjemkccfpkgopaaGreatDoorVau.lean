import Derived.Test.YtjemkccfpkgopaaGreatDoorVat
import Derived.Test.YtjemkccfpkgopaaGreatDoorVaq
import Derived.Test.YtjemkccfpkgopaaGreatDoorVah
set_option linter.all false
set_option maxRecDepth 100000
open Bool renaming and_eq_true_iff→vV,and_self→wT,false_and→xP,false_or→vH,not_false→yM,not_true→yO,or_false→ybg,true_and→xY
open Function renaming comp→uG
open List renaming all_eq_true→tf,any_append→uU,any_cons→yay,any_eq_true→tk,any_nil→ybA,cons_append→xk,drop→vT,drop_eq_getElem_cons→yS,drop_length→uO,drop_zero→yK,eq_nil_of_length_eq_zero→yo,getD_eq_getElem?_getD→xf,getElem?_eq_getElem→xS,getElem_append_left→tS,getElem_cons_succ→wY,getElem_cons_zero→wI,getElem_map→xo,getElem_mem→yE,getElem_take→vU,length_append→yN,length_cons→yI,length_map→yj,length_set→ve,length_take→yy,map→xv,map_append→xg,map_congr_left→vz,map_cons→xc,map_id→ybG,map_map→wh,map_nil→vv,mem_append→wK,mem_cons_of_mem→wS,mem_cons_self→vD,mem_iff_getElem→ug,mem_map→wQ,mem_of_getElem?→yak,mem_or_eq_of_mem_set→tH,mem_singleton→wV,nil_append→xC,nodup_cons→uT,range→xe,range'→we,range'_eq_map_range→tT,replicate→yk,replicate_succ'→yaj,take_length→xB,take_of_length_le→yC,take_succ_eq_append_getElem→yW,take_zero→uK
open Nat renaming add_one_ne_zero→xu,add_zero→y5,le_refl→yv,min_eq_left→xm,mul_le_mul→wu,mul_le_mul_right→yQ,mul_one→yf,pow_le_pow_right→yY,reduceAdd→yb,reduceEqDiff→ya,reduceLT→yF,reduceLeDiff→yp,reduceMul→xn,zero_add→ye,zero_lt_one→yaU
open Option.some renaming injEq→yd
namespace VE
section
open Go (IntKind)
section
variable {P:aM} {L:Lib}
def azm (h:Fr' P L) (pR:Has P L 240 Dz) {o1 o2 o3 o4 z1 z2 z3 z4:AV} {M:Mx} {W:Nat} (hw:wid W M) (nG:W<=1000) (e9:M.length<=1000) {K:Nat} (hk:cx K M) (gX:1<=K) (hK:4^M.length*(K+1)<=400000000) (ho:dI (.agg [o1,o2,o3,o4]) 1) (hz:dI (.agg [z1,z2,z3,z4]) 0):
  ∀(d:Nat) (st:St),(∃(c:Nat) (rows:List AV) (k:Nat) (pv:List AV),aJ [4,5,6,7,8,24,25] st=⟨[(4,.aw 0 0 M.length),(5,.fn (.f 240) [] []),(6,.ptr 1 0),(7,.ptr 2 0),(8,oV 3 k),(24,ab W),(25,ab c)],oH 3 1 pv (b3 rows [o1,o2,o3,o4] [z1,z2,z3,z4]) k,oC 3 k,0⟩/\c+d=W/\(ax M c).2.length=k/\pv=(ax M c).2.map (fun p:Nat=>ab p)/\b7 cI rows (ax M c).1)->
   ∃ex s',D P L (.loop [4,5,6,7,8,24,25] Ff) st=some (ex,s')/\∃tm ct rows k pv,s'=⟨tm,oH 3 1 pv (b3 rows [o1,o2,o3,o4] [z1,z2,z3,z4]) k,ct,0⟩/\ex= .exit 0/\af tm 4= .aw 0 0 M.length/\af tm 8=oV 3 k/\(ax M W).2.length=k/\pv=(ax M W).2.map (fun p:Nat=>ab p)/\b7 cI rows (ax M W).1:=by
 intro dq sq;generalize a8:aJ [4,5,6,7,8,24,25] sq=s0;revert a8 s0 sq dq;apply cY;rintro d st ⟨c,rows,k,pv,rfl,QW,dj,ir,hR⟩;have hP:=pq hw c;have lm:=qP M c;have lr:=hR.len;by_cases hc:c<W
 ·left
  obtain ⟨J,J0,J1,J2⟩:=Bv hw hk gX c (by omega);have hJ:J+1<=400000000:=by
   have h1:4^(ax M c).2.length<=4^M.length:=yY (by decide) hP.pv
   have:=yQ (K+1) h1
   omega
  have f0:=azk h (o:=[o1,o2,o3,o4]) (z:=[z1,z2,z3,z4]) (pv:=pv) hR hP.wid hc lm e9 (k:=k) (a:=k) (W:=W) (F:=bg (ax M c) c) ((ax M c).1.length-k);have hs:ax M (c+1)=kG (ax M c) c:=rfl;have Ub:=hP.bg c;rw [dj] at Ub;have wc:IntKind.wrap .i64 ((c:Int)+1)=((c+1:Nat):Int):=wrap64 (by omega) (by omega);have rm:kF (ax M c).1 c ((ax M c).1.length-k) k=bg (ax M c) c:=by unfold bg;rw [dj]
  by_cases hp:bg (ax M c) c<(ax M c).1.length
  ·
   have AM:k<M.length:=by omega
   have GA:k<rows.length:=by omega
   have L2:bg (ax M c) c<M.length:=by omega
   have fk:bg (ax M c) c<rows.length:=by omega
   have eZ:k<(ax M c).1.length:=by omega
   have rA:=hR.get GA eZ;have rP:=hR.get fk hp;have hR1:b7 cI ((rows.set k rows[bg (ax M c) c]).set (bg (ax M c) c) rows[k]) (cz (ax M c).1 k (bg (ax M c) c)):=by
    unfold cz;rw [eS eZ,eS hp];exact (hR.set k rP).set _ rA
   have l1:((rows.set k rows[bg (ax M c) c]).set (bg (ax M c) c) rows[k]).length=rows.length:=by simp
   have l1':=zA (ax M c).1 k (bg (ax M c) c);have w1:=hP.wid.cz (i:=k) (j:=bg (ax M c) c) eZ hp;have J3:=J2.cz (i:=k) (j:=bg (ax M c) c) eZ hp;have QX:k<(cz (ax M c).1 k (bg (ax M c) c)).length:=by omega
   have r1:=hR1.get (i:=k) (by omega) QX;have wk:=w1 k QX;have Jk:=J3 k QX;have dH:cE (gR (cz (ax M c).1 k (bg (ax M c) c)) k) c≠0:=by
    have:=S4 (ax M c).1 c ((ax M c).1.length-k) k (by rw [rm];omega)
    rw [rm] at this;unfold cz;rw [nV]
    split
    ·rename_i q;rw [q.1] at this;exact this
    ·rw [nV,yT ⟨rfl,eZ⟩];exact this
   obtain ⟨g1,g2⟩:=J2.et hP hc hp;have Zt:et (ax M c) c=(cz (ax M c).1 k (bg (ax M c) c)).set k (de (gR (cz (ax M c).1 k (bg (ax M c) c)) k) (gR (cz (ax M c).1 k (bg (ax M c) c)) k) (cE (gR (cz (ax M c).1 k (bg (ax M c) c)) k) c)⁻¹ 0):=by
    unfold et AL;rw [dj]
   have H8:(et (ax M c) c).length=M.length:=by rw [zF,lm]
   rw [dj] at g1 g2;have kE:∀i,i<=(et (ax M c) c).length->cx (4*J+1) (b8 (et (ax M c) c) k c i):=fun i hi=>S5 (hP.et hp) hc (by omega) g1 (fun j hj=>g2 j (by omega)) hi
   rw [eS QX] at wk Jk dH Zt;obtain ⟨x1,x2,x3,x4,xr,e1,hx⟩:=r1.aU (i:=c) (by omega);rw [jH (show c<(cz (ax M c).1 k (bg (ax M c) c))[k].length by omega)] at dH Zt;have kx:=Jk _ (yE (show c<(cz (ax M c).1 k (bg (ax M c) c))[k].length by omega));obtain ⟨iv,e2,hiv⟩:=m73 h hx dH kx (by omega);obtain ⟨y,e3,hy⟩:=alX h pR r1 r1 hiv hz rfl (by omega) (fun z hz=>(Jk z hz).mono (show J<=J+1 by omega)) (fun z hz=>(Jk z hz).mono (show J<=J+1 by omega)) (kx.inv.mono (by omega)) (Gu.mono (by omega)) (by omega);have gx:=hx.f4;have gz:=hz.f4;obtain ⟨v1,v2,v3,v4,rfl,gv⟩:=hiv.gen;have Er:b7 cI (((rows.set k rows[bg (ax M c) c]).set (bg (ax M c) c) rows[k]).set k (shut y)) (et (ax M c) c):=by rw [Zt];exact hR1.set k hy
   have f1:=azl h pR (z:=[z1,z2,z3,z4]) (pv:=pv) (hP.et hp) hc nG H8 e9 (a:=k) (by omega) kE (by omega) (by omega) ho (k:=k) (W:=W) (et (ax M c) c).length;have nn:kG (ax M c) c=(b8 (et (ax M c) c) k c M.length,(ax M c).2++[c]):=by
    unfold kG;rw [yT hp,dj,lm]
   have d1:=Bw (rows:=rows) GA;have d2:=Bw (rows:=rows) fk;have d3:=Bw (rows:=(rows.set k rows[bg (ax M c) c]).set (bg (ax M c) c) rows[k]) (p:=k) (by omega);have s1:=fun (ak:Hp) (ct id:Nat)=>Bx (hp:=ak) (ct:=ct) (id:=id) (ex:=true) (rows:=rows) (at_:=k) GA rP.one rP.pu
   have s2:=fun (ak:Hp) (ct id:Nat)=>Bx (hp:=ak) (ct:=ct) (id:=id) (ex:=true) (rows:=rows.set k rows[bg (ax M c) c]) (at_:=bg (ax M c) c) (by simpa using fk) rA.one rA.pu
   have s3:=fun (ak:Hp) (ct id:Nat)=>Bx (hp:=ak) (ct:=ct) (id:=id) (ex:=true) (rows:=(rows.set k rows[bg (ax M c) c]).set (bg (ax M c) c) rows[k]) (at_:=k) (by omega) hy.one hy.pu
   have KZ:pv.length=k:=by rw [ir,yj,dj]
   have PX:pv++[ab c]=((ax M c).2++[c]).map (fun p:Nat=>ab p):=by rw [ir,xg];rfl
   have rAc:=rA.cells;have rPc:=rP.cells;have yc:=hy.cells;have aDi:¬(M.length:Int)<=(bg (ax M c) c:Nat):=by omega
   unfold aj at e2 e3;rcases k with _ | k1
   all_goals
    simp only [oV,oH,oC,b3] at f0 f1 ⊢;simp only [go_sem,ya,yb,Ff,show (c:Int)<W by omega];generalize hq:D P L (.loop [4,5,6,7,8,9,10,11,24,25] C3) _=q;obtain ⟨ex,st,rfl,tm,ct,rfl,rfl,t4,t5,t6,t7,t8,t9,t10,t11,t24,t25⟩:=bq hq f0 ⟨_,by simp only [go_sem,ya,yb,av]<;>rfl,by omega,rm⟩
    simp only [go_sem,ya,yb,yf,av,t4,t5,t6,t7,t8,t9,t10,t11,t24,t25,aDi,ym,bN 0 0 L2,bN 0 0 AM,ye,d1,d2,Dq,rAc,rPc,s1,s2,d3,e1,ol,iK,yK,gx.an,e2,bX,r1.an,gv.an,gz.an,e3,yc,s3];generalize qt:D P L (.loop [4,5,6,7,8,9,10,24,25,89,90] C4) _=q2;obtain ⟨ex,st,rfl,tm,ct,ajK,rfl,rfl,t4,t5,t6,t7,t8,t9,t24,t25,hR3⟩:=bq qt f1 ⟨0,_,by simp only [go_sem,ya,yb,av]<;>rfl,by omega,Er⟩
    simp only [go_sem,ya,yb,yp,yf,av,t4,t5,t6,t7,t8,t9,t24,t25]
   ·rw [fQ (by decide) (by decide) (by decide) (by decide)];simp only [go_sem,ya,yb,wc];refine ⟨_,d-1,rfl,by omega,c+1,ajK,1,[ab c],?_,by omega,?_,?_,?_⟩
    ·simp only [go_sem,ya,yb,av]<;>rfl
    ·rw [hs,nn,yN,dj];rfl
    ·rw [hs,nn,<-PX,yo KZ];rfl
    ·rw [hs,nn];exact hR3
   ·rw [fC (ex:=false) (pu:=true) (cs:=pv) (by simp only [go_sem,ya]) (by rw [KZ,yf]) (by omega) (by omega) (by decide) (by simp only [go_sem])];simp only [go_sem,ya,yb,wc];refine ⟨_,d-1,rfl,by omega,c+1,ajK,k1+1+1,pv++[ab c],?_,by omega,?_,?_,?_⟩
    ·simp only [go_sem,ya,yb,av]<;>rfl
    ·rw [hs,nn,yN,dj];rfl
    ·rw [hs,nn,PX]
    ·rw [hs,nn];exact hR3
  ·
   have nn:ax M (c+1)=ax M c:=by rw [hs,Sx hp]
   rw [<-nn] at dj ir hR;have hF:bg (ax M c) c=M.length:=by omega
   rw [hF] at f0 rm;cases k
   all_goals
    simp only [oV,oH,oC,b3] at f0 ⊢;simp only [go_sem,ya,yb,Ff,show (c:Int)<W by omega];generalize hq:D P L (.loop [4,5,6,7,8,9,10,11,24,25] C3) _=q;obtain ⟨ex,st,rfl,tm,ct,rfl,rfl,t4,t5,t6,t7,t8,t9,t10,t11,t24,t25⟩:=bq hq f0 ⟨_,by simp only [go_sem,ya,yb,av]<;>rfl,by omega,rm⟩
    simp only [go_sem,ya,yb,av,t4,t5,t6,t7,t8,t9,t10,t11,t24,t25,Int.le_refl,yr,wc];refine ⟨_,d-1,rfl,by omega,c+1,rows,_,pv,?_,by omega,dj,ir,hR⟩;simp only [go_sem,ya,yb,av]<;>rfl
 ·right
  have:c=W:=by omega
  subst this;cases k
  all_goals
   simp only [oV,oH,oC,b3];simp only [go_sem,ya,yb,Ff,show ¬(c:Int)<c by omega,ym];exact ⟨_,_,rfl,by simp,_,_,rows,_,pv,rfl,rfl,by simp only [go_sem,ya],by simp only [go_sem,ya]<;>rfl,dj,ir,hR⟩
def Zu (h:Fr' P L) (pR:Has P L 240 Dz) (Gv:Has P L 227 Dy) {v:AV} {M:Mx} {W:Nat} (hv:bB cI v M) (hw:wid W M) (nG:W<=1000) (h0:0<M.length) (e9:M.length<=1000) {K:Nat} (hk:cx K M) (gX:1<=K) (hK:4^M.length*(K+1)<=400000000):
  ∃r q,aj P L 227 [v] (.ae [r,q])/\bB cI (bQ r) ((ax M W).1.take (ax M W).2.length)/\bC (bQ q) ((ax M W).2.map (fun p:Nat=>(p:Int))):=by
 obtain ⟨one,e1,ho⟩:=LP h (z:=1) (by decide) (by decide);obtain ⟨zero,e2,hz⟩:=LP h (z:=0) (by decide) (by decide);obtain ⟨o1,o2,o3,o4,rfl,go⟩:=ho.gen;obtain ⟨z1,z2,z3,z4,rfl,gz⟩:=hz.gen;obtain ⟨r0,rest,eN,e0⟩:=hv.aU h0;have w0:=hw 0 h0;rw [eS h0] at w0;have key:=azm h pR hw nG e9 hk gX hK (by simpa using ho) (by simpa using hz) W;have eI:=hv;obtain ⟨rows,hL,hR⟩:=hv;have lr:=hR.len;obtain ⟨p1,p2⟩:=arl hR;have zR:∀hp:Hp,kJ hp 1 v=some (M.length,rows):=fun hp=>by
  rcases hL with ⟨rfl,rfl⟩ | ⟨e,rfl⟩
  ·simp at lr;omega
  ·simp only [kJ,yf,Nat.beq_refl,yA,lr]
 have hm:∀ct,pL ct 1 24 [.aa] (some M.length) (some M.length)=some (.aw ct 0 M.length,.cells true true true 1 (yk M.length [AV.aa]).flatten):=fun ct=>Bh (by omega) (by omega) rfl rfl
 have GD:(yk M.length [AV.aa]).flatten.length=M.length:=by rw [ad8];simp
 have hc:=fun (ct:Nat)=>avH (hp:=[(0,.cells true true true 1 (yk M.length [AV.aa]).flatten)]) (ct:=ct) (id:=0) (gZ _ _ _) GD lr p1 p2
 have e12:bP P L (D P L) 69 [.int .i64 1]=some (.agg [o1,o2,o3,o4]):=e1;have e22:bP P L (D P L) 69 [.int .i64 0]=some (.agg [z1,z2,z3,z4]):=e2;have hP:=pq hw W;have lm:=qP M W;have body:∃tm hp ct rows k pv,D P L Dy.body ⟨dM 0 [v],[],0,0⟩=some (.ret,⟨tm,hp,ct,0⟩)/\af tm 2= .aw 0 0 k/\((k=0/\af tm 3= .aa/\hp=[(0,.cells true true true 1 rows)])\/(0<k/\af tm 3= .aw 1 0 k/\hp=[(1,.cells true true false 1 pv),(0,.cells true true true 1 rows)]))/\(ax M W).2.length=k/\pv=(ax M W).2.map (fun p:Nat=>ab p)/\b7 cI rows (ax M W).1:=by
  simp only [go_sem,ya,yb,Dy,eI.len,rN,hm,azj,zR,hc,e12,e22,bX,bj,go.st,gz.st,nF,e0,eN.len,w0];generalize hq:D P L (.loop [4,5,6,7,8,24,25] Ff) _=q;obtain ⟨ex,st,rfl,tm,ct,FF,k,pv,rfl,rfl,t4,t8,dj,ir,Er⟩:=bq hq key ⟨0,rows,0,[],by simp only [go_sem,ya,yb,av,oV,oH,oC,b3]<;>rfl,by omega,rfl,rfl,hR⟩
  have AM:k<=M.length:=by have:=hP.pv;omega
  rcases k with _ | k1
  all_goals
   simp only [oV,oH,b3] at t8 ⊢;simp only [go_sem,ya,yb,av,t4,t8]
   rw [adj (rw':=true) (pu:=true) (ex:=true) (cs:=FF) (by simp only [go_sem,ya]) (by simp only [go_sem,rN,Tl]) AM];simp only [go_sem,ya]
  ·exact ⟨_,_,_,FF,_,pv,rfl,by simp only [go_sem,ya],.inl ⟨rfl,by simp only [go_sem],rfl⟩,dj,ir,Er⟩
  ·exact ⟨_,_,_,FF,_,pv,rfl,by simp only [go_sem,ya],.inr ⟨by omega,by simp only [go_sem],rfl⟩,dj,ir,Er⟩
 obtain ⟨tm,hp,ct,FF,k,pv,hb,t2,nX,dj,ir,Er⟩:=body;have AM:k<=M.length:=by have:=hP.pv;omega
 have lr2:=Er.len;have hA:∀e,bB cI (.aB e k (FF.take k)) ((ax M W).1.take k):=fun e=>by
  have:=rV e (Er.take k)
  rwa [yy,xm (by omega)] at this
 rw [dj];rcases nX with ⟨rfl,t3,rfl⟩ | ⟨sU,t3,rfl⟩
 ·refine ⟨.bw false 1 0 [],.aa,?_,?_,?_⟩
  ·unfold aj;rw [aI Gv,hb];simp only [go_sem,Dy,t2,t3];exact aoR (by omega) h0
  ·have:=hA false
   rw [uK];exact this
  ·rw [yo dj];exact oW
 ·have ep:pv.length=k:=by rw [ir,yj,dj]
  refine ⟨.bw (Nat.beq k M.length) 1 k (FF.take k),.bw false 1 k pv,?_,hA _,?_⟩
  ·unfold aj;rw [aI Gv,hb];simp only [go_sem,Dy,t2,t3];exact apH (by omega) AM ep
  ·have:=ET false pv
   rw [ep] at this;show cW _ _
   rw [wh];rw [ir] at this ⊢;exact this
end
end
section
open Go (IntKind)
def gY (M:Mx):Bool:=M.any fun r=>r.any LG
noncomputable def bn (M:List (List (List Nat))):Mx:=M.map (xv fZ)
abbrev wd {β:Type} (M:List (List β)):Nat:=(M.getD 0 []).length
def qV {M:List (List (List Nat))} (h:fe M=0):0<M.length/\M.length<=64/\∀r,r∈M->r.length=wd M/\0<r.length/\r.length<=64/\∀s,s∈r->dc s=0:=by
 unfold fe at h
 split at h
 ·grind
 ·split at h
  ·grind
  ·refine ⟨by omega,by omega,fun r hr=>?_⟩;have h1:=RJ h r hr;obtain ⟨a1,h1⟩:=Ii.1 h1;obtain ⟨a2,h1⟩:=Ii.1 h1;obtain ⟨a3,h1⟩:=Ii.1 h1;obtain ⟨a4,_⟩:=Ii.1 h1;refine ⟨?_,?_,?_,RJ a4⟩
   ·grind
   ·grind
   ·grind
def A3 {M:List (List (List Nat))} (h:∀r,r∈M->r.length=wd M):wid (wd M) (bn M):=fun i hi=>by
 unfold bn at hi ⊢;rw [eS hi,xo,yj]
 grind
def nL (M:List (List (List Nat))):(bn M).length=M.length:=yj _
def arm (z:Int):(aD z.natAbs).length<=(aX z).length:=by
 cases z with
 | ofNat n=>exact yv _
 | negSucc n=>show (aD (n+1)).length<=(45::aD (n+1)).length;simp
def H40 {s:List Nat} (h:dc s=0) (hl:s.length<=40):Hq 160 (fZ s):=by
 obtain ⟨e,h1,h2⟩:=IK h;have hn:=arm (fZ s).num;have hT:s.length=(aX (fZ s).num).length+(if (fZ s).den=1 then [] else 47::aD (fZ s).den).length:=by
  conv=>lhs;rw [e]
  unfold RT;rw [yN]
 refine ⟨MM (k:=40) (by omega) (by decide),MM (k:=40) ?_ (by decide)⟩
 split at hT
 ·rename_i hd;rw [hd];decide
 ·grind
def NO {M:List (List (List Nat))} (h:∀r,r∈M->∀s,s∈r->dc s=0/\s.length<=40):cx 160 (bn M):=fun i hi x hx=>by
 unfold bn at hi hx;rw [eS hi,xo] at hx;obtain ⟨s,hs,rfl⟩:=wQ.1 hx;obtain ⟨c,l⟩:=h _ (yE _) s hs;exact H40 c l
def EX {K:Nat} {M:Mx} (h:cx K M) {r:List Rat} (hr:r∈M):∀x,x∈r->Hq K x:=by
 obtain ⟨i,hi,rfl⟩:=ug.1 hr
 have:=h i hi
 rwa [eS hi] at this
section
variable {P:aM} {L:Lib}
def azn (h:Tx P L) {v rv:AV} {l:List Rat} (hv:a7 v=true) (hr:cI rv l) (hl:l.length<=1000000) {K:Nat} (hk:∀x,x∈l->Hq K x) (hK:K<=4000000000) {n i j:Nat} {out:List AV}:
  ∀(d:Nat) (st:St),(∃k:Nat,aJ [4,6,9,10,11,15,16,17] st=⟨[(4,oV 0 j),(6,rv),(9,v),(10,ab n),(11,ab i),(15,rv),(16,ab l.length),(17,ab k)],oH 0 1 out [] j,oC 0 j,0⟩/\k+d=l.length/\(l.take k).any LG=false)->
   ∃ex s',D P L (.loop [4,6,9,10,11,15,16,17] C2) st=some (ex,s')/\∃tm hp ct,s'=⟨tm,hp,ct,0⟩/\((ex= .ret/\af tm 2= .aa/\af tm 3=ab 4/\l.any LG=true)\/(ex= .exit 2/\l.any LG=false/\hp=oH 0 1 out [] j/\af tm 4=oV 0 j/\af tm 6=rv/\af tm 9=v/\af tm 10=ab n/\af tm 11=ab i)):=by
 intro dq sq;generalize a8:aJ [4,6,9,10,11,15,16,17] sq=s0;revert a8 s0 sq dq;apply cY;rintro d st ⟨k,rfl,hkd,hL⟩;by_cases hi:k<l.length
 ·obtain ⟨a,b,c,e,r,e1,hx⟩:=hr.aU hi;have e2:=aCC h hx (hk _ (yE hi)) hK;have gx:=hx.f4;have wk:IntKind.wrap .i64 ((k:Int)+1)=((k+1:Nat):Int):=wrap64 (by omega) (by omega);unfold aj at e2
  cases hg:LG l[k] with
  | true=>
   right
   rw [hg] at e2;have hT:l.any LG=true:=tk.2 ⟨_,yE hi,hg⟩;cases j
   all_goals
    simp only [oV,oH,oC];simp only [go_sem,ya,yb,C2,show (k:Int)<l.length by omega,yr,e1,ol,qU,yK,bj,gx.st,gx.an,e2];exact ⟨_,_,rfl,by simp,_,_,_,rfl,.inl ⟨rfl,by simp only [go_sem,ya],by simp only [go_sem],hT⟩⟩
  | false=>
   left
   rw [hg] at e2;have hT:(l.take (k+1)).any LG=false:=by rw [yW hi,uU,hL];simp [hg]
   cases j
   all_goals
    simp only [oV,oH,oC];simp only [go_sem,ya,yb,C2,show (k:Int)<l.length by omega,yr,e1,ol,qU,yK,bj,gx.st,gx.an,e2];refine ⟨_,d-1,rfl,by omega,k+1,?_,by omega,hT⟩;rw [wk];simp only [go_sem,ya,yb,av,aq hv,au _ hv,aq hr.pu,au _ hr.pu]<;>rfl
 ·right
  rw [yC (by omega)] at hL
  have:k=l.length:=by omega
  subst this;cases j
  all_goals
   simp only [oV,oH,oC];simp only [go_sem,ya,yb,C2,show ¬(l.length:Int)<l.length by omega,ym];exact ⟨_,_,rfl,by simp,_,_,_,rfl,.inr ⟨rfl,hL,rfl,by simp only [go_sem,ya],by simp only [go_sem,ya],by simp only [go_sem,ya],by simp only [go_sem,ya],by simp only [go_sem,ya]⟩⟩
def alZ (h:Tx P L) (PY:Has P L 123 J6) (PZ:Has P L 226 Oz) {v:AV} {M:Mx} (hv:bB cI v M) (hl:M.length<=1000000) (hr:∀r,r∈M->r.length<=1000000) {K:Nat} (hk:∀r,r∈M->∀x,x∈r->Hq K x) (hK:K<=4000000000):
  (gY M=true->aj P L 226 [v] (.ae [.aa,ab 4]))/\(gY M=false->∃r,aj P L 226 [v] (.ae [r,ab 0])/\bB bm (bQ r) (M.map (xv RT))):=by
 have key:=eP (P:=P) (L:=L) (live:=[4,9,10,11]) (a:=Fe)
  (I:=fun d st=>∃(i:Nat) (out:List AV),i+d=M.length/\gY (M.take i)=false/\b7 bm out ((M.take i).map (xv RT))/\st=⟨[(4,oV 0 i),(9,v),(10,ab M.length),(11,ab i)],oH 0 1 out [] i,oC 0 i,0⟩)
  (Q:=fun ex st=>∃tm hp ct,st=⟨tm,hp,ct,0⟩/\((ex= .ret/\af tm 2= .aa/\af tm 3=ab 4/\gY M=true)\/(ex= .exit 0/\gY M=false/\∃out,hp=oH 0 1 out [] M.length/\af tm 4=oV 0 M.length/\b7 bm out (M.map (xv RT))))) ?_
 ·have main:(gY M=true/\aj P L 226 [v] (.ae [.aa,ab 4]))\/(gY M=false/\∃r,aj P L 226 [v] (.ae [r,ab 0])/\bB bm (bQ r) (M.map (xv RT))):=by
   unfold aj;rw [aI PZ];simp only [go_sem,ya,Oz,hv.len];generalize hq:D P L (.loop [4,9,10,11] Fe) _=q;obtain ⟨ex,st,rfl,tm,hp,ct,rfl,h2⟩:=bq hq (key M.length) ⟨0,[],by omega,rfl,trivial,by simp only [go_sem,ya,av,aq hv.pu,au _ hv.pu]<;>rfl⟩
   rcases h2 with ⟨rfl,t2,t3,h4⟩ | ⟨rfl,h3,out,rfl,t4,hO⟩
   ·exact .inl ⟨h4,by simp only [go_sem,t2,t3]⟩
   ·right
    refine ⟨h3,?_⟩;have hlen:=hO.len;rw [yj] at hlen
    cases hn:M.length with
    | zero=>
     rw [hn] at t4;refine ⟨.aa,by simp only [go_sem,ya,av,t4,oV,oH],?_⟩;rw [yo hn];exact rT
    | succ n=>
     rw [hn] at t4 hlen;refine ⟨.bw false 1 (n+1) out,?_,?_⟩
     ·simp only [go_sem,ya,yb,av,t4,oV,oH];exact aoi (gZ _ _ _) (by rw [hlen,yf]) (by decide)
     ·have:=rV false hO
      rwa [yj,hn] at this
  rcases main with ⟨h1,h2⟩ | ⟨h1,h2⟩
  ·exact ⟨fun _=>h2,fun h3=>by rw [h1] at h3;cases h3⟩
  ·exact ⟨fun h3=>(by rw [h1] at h3;cases h3),fun _=>h2⟩
 ·rintro d st ⟨i,out,hid,hL,hO,rfl⟩;by_cases hi:i<M.length
  ·obtain ⟨rv,rest,nH,e0⟩:=hv.aU hi;have hm:=yE hi;have f0:=azn h hv.pu nH (hr _ hm) (hk _ hm) hK (n:=M.length) (i:=i) (j:=i) (out:=out) M[i].length;obtain ⟨y,e1,hy⟩:=aDf PY h nH (hr _ hm) (hk _ hm) hK;have wi:IntKind.wrap .i64 ((i:Int)+1)=((i+1:Nat):Int):=wrap64 (by omega) (by omega);have aI7:gY M=true\/M[i].any LG=false:=by
    cases hx:M[i].any LG with
    | true=>exact .inl (tk.2 ⟨_,hm,hx⟩)
    | false=>exact .inr rfl
   have rK:b7 bm (out++[shut y]) ((M.take (i+1)).map (xv RT)):=by
    rw [yW hi,xg];exact hO.snoc hy
   have hlen:=hO.len;rw [yj,yy,xm (by omega)] at hlen;have hT:M[i].any LG=false->gY (M.take (i+1))=false:=fun q=>by
    unfold gY at hL ⊢;rw [yW hi,uU,hL];simp only [yay,ybA,q,ybg]
   have ajL:M[i].any LG=true->gY M=true:=fun q=>tk.2 ⟨_,hm,q⟩
   have fH:∀st,aJ [4,6,9,10,11,15,16,17] st=⟨[(4,oV 0 i),(6,rv),(9,v),(10,ab M.length),(11,ab i),(15,rv),(16,ab M[i].length),(17,ab (0:Nat))],oH 0 1 out [] i,oC 0 i,0⟩->_:=fun st aO=>f0 st ⟨0,aO,by omega,rfl⟩
   unfold aj at e1
   cases i with
   | zero=>
    have:out=[]:=yo hlen
    subst this;simp only [oV,oH,oC] at fH ⊢;simp only [go_sem,ya,yb,Fe,show ((0:Nat):Int)<M.length by omega,e0,nH.len];generalize hq:D P L (.loop [4,6,9,10,11,15,16,17] C2) _=q;obtain ⟨ex,st,rfl,tm,hp,ct,rfl,h2⟩:=bq hq fH (by simp only [go_sem,ya,av,aq hv.pu,au _ hv.pu,aq nH.pu,au _ nH.pu]<;>rfl)
    rcases h2 with ⟨rfl,t2,t3,h4⟩ | ⟨rfl,h3,rfl,t4,t6,t9,t10,t11⟩
    ·right
     simp only [go_sem];exact ⟨_,_,rfl,by simp,_,_,_,rfl,.inl ⟨rfl,t2,t3,ajL h4⟩⟩
    ·left
     simp only [go_sem,ya,yb,xn,yF,yp,yf,av,t4,t6,t9,t10,t11,aq hv.pu,au _ hv.pu,aq nH.pu,au _ nH.pu,nH.an,e1,hy.pu,hy.one,hy.cells,fQ];refine ⟨_,d-1,rfl,by omega,1,_,by omega,hT h3,rK,?_⟩;rw [wi];simp only [go_sem,ya,yb,av,aq hv.pu,au _ hv.pu]<;>rfl
   | succ i=>
    simp only [oV,oH,oC] at fH ⊢;simp only [go_sem,ya,yb,Fe,show ((i+1:Nat):Int)<M.length by omega,e0,nH.len];generalize hq:D P L (.loop [4,6,9,10,11,15,16,17] C2) _=q;obtain ⟨ex,st,rfl,tm,hp,ct,rfl,h2⟩:=bq hq fH (by simp only [go_sem,ya,yb,av,aq hv.pu,au _ hv.pu,aq nH.pu,au _ nH.pu]<;>rfl)
    rcases h2 with ⟨rfl,t2,t3,h4⟩ | ⟨rfl,h3,rfl,t4,t6,t9,t10,t11⟩
    ·right
     exact ⟨_,_,rfl,by simp,_,_,_,rfl,.inl ⟨rfl,t2,t3,ajL h4⟩⟩
    ·left
     simp only [go_sem,ya,yb,yp,yf,av,t4,t6,t9,t10,t11,aq hv.pu,au _ hv.pu,aq nH.pu,au _ nH.pu,nH.an,e1,hy.pu,hy.one,hy.cells]
     rw [fC (ex:=false) (pu:=true) (cs:=out) (by simp only [go_sem,ya]) (by rw [hlen,yf]) (by omega) (by omega) (by decide) (by simp only [go_sem,hy.one])];simp only [go_sem,ya,yb,hy.pu];refine ⟨_,d-1,rfl,by omega,i+1+1,_,by omega,hT h3,rK,?_⟩;rw [wi];simp only [go_sem,ya,yb,av,aq hv.pu,au _ hv.pu]<;>rfl
  ·right
   have:i=M.length:=by omega
   subst this;rw [xB] at hL hO;simp only [go_sem,ya,Fe,show ¬(M.length:Int)<M.length by omega];exact ⟨_,_,rfl,by simp,_,_,_,rfl,.inr ⟨rfl,hL,out,rfl,by simp only [go_sem,ya],hO⟩⟩
structure QY (P:aM) (L:Lib):Prop extends Ck P L where
 Ep:Has P L 84 p6
 zj:Has P L 88 jf
 PY:Has P L 123 J6
 Am:Has P L 126 J7
 An:Has P L 127 J8
 rk:Has P L 161 FP
 BY:Has P L 225 Kf
 PZ:Has P L 226 Oz
 Gv:Has P L 227 Dy
 pR:Has P L 240 Dz
def al0 (h:QY P L) (K0:Has P L 205 Ke) {v:AV} {M:List (List (List Nat))} (hv:bB bm v M) (hl:M.length<=1000000) (hr:∀r,r∈M->r.length<=1000000/\∀s,s∈r->s.length<=1000000000):
  (fe M≠0->aj P L 205 [v] (.ae [ab 0,ab (fe M)]))/\(fe M=0->∀{K:Nat},cx K (bn M)->1<=K->4^M.length*(K+1)<=400000000->aj P L 205 [v] (.ae [ab ((ax (bn M) (wd M)).2.length:Nat),ab 0])):=by
 have e1:=LZ h.toCk h.rk h.Am h.An h.Ep hv hl hr;constructor
 ·intro hE;unfold aj;rw [aI K0];simp only [go_sem,ya,Ke,hv.an,e1,hE,ym,yM];rfl
 ·intro hE K hk gX hK;obtain ⟨m0,m64,cL⟩:=qV hE;obtain ⟨x,e2,hx⟩:=PV h.toCk h.zj h.BY hv hl (fun r bJ=>⟨(hr r bJ).1,(cL r bJ).2.2.2⟩);have hw:=A3 (M:=M) (fun r bJ=>(cL r bJ).1);have aI8:wd M<=64:=by
   have:=cL _ (yE m0)
   unfold wd;rw [JT m0];omega
  obtain ⟨r,q,e3,Cz,oK⟩:=Zu h.toFr' h.pR h.Gv hx hw (by omega) (by rw [yj];exact m0) (by rw [yj];omega) hk gX (by rw [yj];exact hK)
  rw [hE] at e1;unfold aj at e2 e3 ⊢;rw [aI K0];have lq:∀hp:Hp,fE hp 1 (bQ q)=some (ab ((ax (bn M) (wd M)).2.length:Nat)):=fun hp=>by
   have:=oK.len (hp:=hp)
   rwa [yj] at this
  simp only [go_sem,ya,Ke,hv.an,e1,yr,yO,e2,hx.an,e3,mO,mL,mN,lq];rfl
end
end
section
open Go (IntKind)
def eO (R:Mx) (pv:List Nat) (n c:Nat):Nat->List Rat
 | 0=>(yk n 0).set c 1
 | i+1=>(eO R pv n c i).set (pv.getD i 0) (-(cE (gR R i) c))
def dL (R:Mx) (pv:List Nat) (n:Nat):Nat->Mx
 | 0=>[]
 | c+1=>if pv.contains c=true then dL R pv n c else dL R pv n c++[eO R pv n c pv.length]
def gP (M:Mx) (W:Nat):Mx:=dL (ax M W).1 (ax M W).2 W W
def lL (M:Mx) (W:Nat):Mx:=(ax (gP M W) W).1.take (ax (gP M W) W).2.length
def zG (R:Mx) (pv:List Nat) (n c:Nat):∀i,(eO R pv n c i).length=n
 | 0=>by simp [eO]
 | i+1=>by rw [eO,ve,zG R pv n c i]
def EO (R:Mx) (pv:List Nat) (n:Nat):∀c,(dL R pv n c).length<=c
 | 0=>yv _
 | c+1=>by
  have:=EO R pv n c
  unfold dL;split
  ·omega
  ·grind
def M7 {R:Mx} {pv:List Nat} {n:Nat}:∀{c:Nat} {r:List Rat},r∈dL R pv n c->∃d,d<c/\pv.contains d=false/\r=eO R pv n d pv.length
 | 0,r,h=>by cases h
 | c+1,r,h=>by
  unfold dL at h
  split at h
  ·obtain ⟨d,h1,h2⟩:=M7 h;exact ⟨d,by omega,h2⟩
  ·rename_i hc;rcases wK.1 h with h | h
   ·obtain ⟨d,h1,h2⟩:=M7 h;exact ⟨d,by omega,h2⟩
   ·grind
def ajM {R:Mx} {pv:List Nat} {n c K:Nat} (hp:pv.length<=R.length) (hk:∀i,i<R.length->∀x,x∈gR R i->Hq K x) (hK:2<=K):∀i,i<=pv.length->∀x,x∈eO R pv n c i->Hq K x
 | 0,_,x,hx=>by
  rcases tH hx with h | h
  ·rw [List.eq_of_mem_replicate h];exact Gu.mono hK
  ·rw [h];exact alV.mono hK
 | i+1,hi,x,hx=>by
  rcases tH hx with h | h
  ·exact ajM hp hk hK i (by omega) x h
  ·rw [h];unfold cE;rw [xf]
   cases hq:(gR R i)[c]? with
   | none=>exact (Gu.mono hK).neg
   | some y=>exact (hk i (by omega) y (yak hq)).neg
def IL (R:Mx) (pv:List Nat) (n c:Nat):wid n (dL R pv n c):=fun i hi=>by
 rw [eS hi];obtain ⟨d,_,_,e⟩:=M7 (yE hi);rw [e,zG]
def azo {R:Mx} {pv:List Nat} {n K:Nat} (hp:pv.length<=R.length) (hk:cx K R) (hK:2<=K) (c:Nat):cx K (dL R pv n c):=fun i hi x hx=>by
 rw [eS hi] at hx;obtain ⟨d,_,_,e⟩:=M7 (yE hi);rw [e] at hx;exact ajM hp hk hK pv.length (yv _) x hx
abbrev z4:List AV:=[AV.int .i64 0,.aa,.int .i64 0,.aa]
def azp (n:Nat):(yk n z4).flatten.length=n*4:=by simp_all
def ato {hp:Hp} {ct id i m:Nat} {ex:Bool} {r1 r2 r3 r4:AV} {qs:List AV} (lq:qs.length=i*4) (gr:F4 r1 r2 r3 r4):
  im hp ct id (i*4) 4 [r1,r2,r3,r4] (some (.cells true true ex 4 (qs++(yk (m+1) z4).flatten)))=some (.ae [],a6 hp id (.cells true true ex 4 ((qs++[r1,r2,r3,r4])++(yk m z4).flatten)),ct):=by
 have pr:=gr.LY;rw [qW (by rfl) (by rw [yN,lq,azp];omega) (by simp [cu,gr.o1,gr.o2,gr.o3,gr.o4])];have hov:over (i*4) [r1,r2,r3,r4] (qs++(yk (m+1) z4).flatten)=(qs++[r1,r2,r3,r4])++(yk m z4).flatten:=by
  unfold over
  grind
 rw [hov];simp [aK,pr.1,pr.2.1,pr.2.2.1,pr.2.2.2]
def QL.over:∀{l:List Rat} {cs:List AV} {i:Nat} {a b c d:AV} {x:Rat},QL cs l->i<l.length->dI (.agg [a,b,c,d]) x->QL (VE.over (i*4) [a,b,c,d] cs) (l.set i x)
 | [],_,i,_,_,_,_,_,_,hi,_=>absurd hi (Nat.not_lt_zero i)
 | y::l,cs,0,a,b,c,d,x,h,_,hx=>by
  obtain ⟨a',b',c',d',r,rfl,_,h2⟩:=h.inv;exact ⟨hx,h2⟩
 | y::l,cs,i+1,a,b,c,d,x,h,hi,hx=>by
  obtain ⟨a',b',c',d',r,rfl,h1,h2⟩:=h.inv;have ih:=QL.over (i:=i) h2 (by simpa using hi) hx;have e:VE.over ((i+1)*4) [a,b,c,d] (a'::b'::c'::d'::r)=a'::b'::c'::d'::VE.over (i*4) [a,b,c,d] r:=by
   unfold VE.over
   grind
  rw [e];exact ⟨h1,ih⟩
def stQ {hp:Hp} {ct id i:Nat} {ex:Bool} {r1 r2 r3 r4:AV} {cs:List AV} {l:List Rat} (h:QL cs l) (hi:i<l.length) (gr:F4 r1 r2 r3 r4):
  im hp ct id (i*4) 4 [r1,r2,r3,r4] (some (.cells true true ex 4 cs))=some (.ae [],a6 hp id (.cells true true ex 4 (VE.over (i*4) [r1,r2,r3,r4] cs)),ct):=by
 have pr:=gr.LY
 have:=h.len
 rw [qW (by rfl) (by omega) (by simp [cu,gr.o1,gr.o2,gr.o3,gr.o4])];simp [aK,pr.1,pr.2.1,pr.2.2.1,pr.2.2.2]
section
variable {P:aM} {L:Lib}
def azq (h:Fr' P L) {rv qv:AV} (hr:a7 rv=true) (hq:a7 qv=true) {n c j:Nat} (hn:n<=1000) {bs:List AV}:
  ∀d st,(∃(i:Nat) (qs:List AV),aJ [5,6,7,8,9,10,32,33,39,40] st=⟨[(5,ab n),(6,rv),(7,qv),(8,oV 0 j),(9,ab c),(10,.aw (oC 0 j) 0 n),(32,ab n),(33,ab c),(39,ab n),(40,ab i)],(oC 0 j,.cells true true true 4 (qs++(yk (n-i) z4).flatten))::oH 0 1 bs [] j,oC 0 j+1,0⟩/\i+d=n/\QL qs (yk i 0))->
   ∃ex s',D P L (.loop [5,6,7,8,9,10,32,33,39,40] Fa) st=some (ex,s')/\∃tm ct qs,s'=⟨tm,(oC 0 j,.cells true true true 4 qs)::oH 0 1 bs [] j,ct,0⟩/\ex= .exit 2/\QL qs (yk n 0)/\af tm 5=ab n/\af tm 6=rv/\af tm 7=qv/\af tm 8=oV 0 j/\af tm 9=ab c/\af tm 10= .aw (oC 0 j) 0 n/\af tm 32=ab n/\af tm 33=ab c:=by
 intro dq sq;generalize a8:aJ [5,6,7,8,9,10,32,33,39,40] sq=s0;revert a8 s0 sq dq;apply cY;rintro d st ⟨i,qs,rfl,hid,hQ⟩;by_cases hi:i<n
 ·left
  obtain ⟨zero,e1,hz⟩:=LP h (z:=0) (by decide) (by decide);have fq:dI zero 0:=by simpa using hz
  obtain ⟨v1,v2,v3,v4,rfl,gz⟩:=fq.gen;have e2:bP P L (D P L) 69 [.int .i64 0]=some (.agg [v1,v2,v3,v4]):=e1;have lq:qs.length=i*4:=by rw [hQ.len,List.length_replicate]
  obtain ⟨m,hm⟩:∃m,n-i=m+1:=⟨n-i-1,by omega⟩;have aO:=fun (hp:Hp) (ct id:Nat)=>ato (hp:=hp) (ct:=ct) (id:=id) (i:=i) (m:=m) (ex:=true) (qs:=qs) lq gz
  have wi:IntKind.wrap .i64 ((i:Int)+1)=((i+1:Nat):Int):=wrap64 (by omega) (by omega);have rJ:QL (qs++[v1,v2,v3,v4]) (yk (i+1) 0):=by rw [yaj];exact hQ.snoc fq
  have gG:n-(i+1)=m:=by omega
  rw [hm];cases j
  all_goals
   simp only [oV,oH,oC];simp only [go_sem,ya,yb,Fa,show (i:Int)<n by omega,e2,bX,rN,bN _ _ hi,ye,aO];refine ⟨_,d-1,rfl,by omega,i+1,_,?_,by omega,rJ⟩;rw [wi,gG];simp only [go_sem,ya,yb,av,aq hr,au _ hr,aq hq,au _ hq]<;>rfl
 ·right
  have:i=n:=by omega
  subst this;rw [Nat.sub_self];cases j
  all_goals
   simp only [oV,oH,oC];simp only [go_sem,ya,yb,Fa,show ¬(i:Int)<i by omega,ym];exact ⟨_,_,rfl,by simp,_,_,_,rfl,rfl,by simpa using hQ,by simp only [go_sem,ya],by simp only [go_sem,ya],by simp only [go_sem,ya],by simp only [go_sem,ya],by simp only [go_sem,ya],by simp only [go_sem,ya],by simp only [go_sem,ya],by simp only [go_sem,ya]⟩
def azr (h:Fr' P L) {rv qv:AV} {R:Mx} {pv:List Nat} (hr:bB cI rv R) (hq:bC qv (pv.map (fun p:Nat=>(p:Int)))) {n c j:Nat} (hn:n<=1000) (hw:wid n R) (ep:pv.length<=R.length) (hl:R.length<=1000) (aZ:∀p,p∈pv->p<n) (hc:c<n) {K:Nat} (hk:cx K R) (hK:K<=4000000000) {bs:List AV}:
  ∀d st,(∃(i:Nat) (cs:List AV),aJ [5,6,7,8,9,10,12,32,33,52,53,54] st=⟨[(5,ab n),(6,rv),(7,qv),(8,oV 0 j),(9,ab c),(10,.aw (oC 0 j) 0 n),(12,.bool (!(pv.take i).contains c)),(32,ab n),(33,ab c),(52,qv),(53,ab pv.length),(54,ab i)],(oC 0 j,.cells true true true 4 cs)::oH 0 1 bs [] j,oC 0 j+1,0⟩/\i+d=pv.length/\QL cs (eO R pv n c i))->
   ∃ex s',D P L (.loop [5,6,7,8,9,10,12,32,33,52,53,54] C1) st=some (ex,s')/\∃tm ct cs,s'=⟨tm,(oC 0 j,.cells true true true 4 cs)::oH 0 1 bs [] j,ct,0⟩/\ex= .exit 4/\QL cs (eO R pv n c pv.length)/\af tm 5=ab n/\af tm 6=rv/\af tm 7=qv/\af tm 8=oV 0 j/\af tm 10= .aw (oC 0 j) 0 n/\af tm 12= .bool (!pv.contains c)/\af tm 32=ab n/\af tm 33=ab c:=by
 intro dq sq;generalize a8:aJ [5,6,7,8,9,10,12,32,33,52,53,54] sq=s0;revert a8 s0 sq dq;apply cY;rintro d st ⟨i,cs,rfl,hid,hQ⟩;by_cases hi:i<pv.length
 ·left
  have oQ:i<R.length:=by omega
  obtain ⟨r0,rest,eN,e0⟩:=hr.aU oQ;have wr:=hw i oQ;have kr:=hk i oQ;rw [eS oQ] at wr kr;obtain ⟨a1,a2,a3,a4,ar,e1,hx⟩:=eN.aU (i:=c) (by omega);obtain ⟨y,e2,hy⟩:=als h hx (kr _ (yE (by omega))) (by omega);have gx:=hx.f4;have En:=hy;obtain ⟨y1,y2,y3,y4,rfl,gy⟩:=hy.gen;have ev:=hq.aU (i:=i) (by rw [yj];exact hi)
  rw [xo] at ev;have kD:pv[i]<n:=aZ _ (yE hi);have rJ:QL (VE.over (pv[i]*4) [y1,y2,y3,y4] cs) (eO R pv n c (i+1)):=by
   rw [eO,show pv.getD i 0=pv[i] by simp [xf,xS hi],eS oQ,jH (show c<R[i].length by omega)];exact hQ.over (by rw [zG];exact kD) En
  have aO:=fun (hp:Hp) (ct id:Nat)=>stQ (hp:=hp) (ct:=ct) (id:=id) (ex:=true) hQ (by rw [zG];exact kD) gy
  have wi:IntKind.wrap .i64 ((i:Int)+1)=((i+1:Nat):Int):=wrap64 (by omega) (by omega);have hb:(!(pv.take (i+1)).contains c)=(!(pv.take i).contains c&& !decide ((pv[i]:Int)=(c:Int))):=by
   rw [yW hi]
   have:decide ((pv[i]:Int)=(c:Int))=(c==pv[i]):=by
    by_cases q:pv[i]=c
    ·rw [q];simp
    ·rw [xa (by omega)];symm;simpa using fun e=>q e.symm
   rw [this];simp only [List.contains_eq_any_beq,uU,yay,ybA,ybg,Bool.not_or]
  have zm:∀hp:Hp,fE hp 1 qv=some (ab pv.length):=fun hp=>by
   have:=hq.len (hp:=hp);rwa [yj] at this
  unfold aj at e2;cases hbf:(!(pv.take i).contains c)
  ·cases j
   all_goals
    simp only [oV,oH,oC];simp only [go_sem,ya,yb,C1,show (i:Int)<pv.length by omega,ev,e0,e1,ol,qU,gx.an,e2,bX,rN,bN _ _ kD,ye,aO];refine ⟨_,d-1,rfl,by omega,i+1,_,?_,by omega,rJ⟩;rw [wi,hb,hbf];simp only [go_sem,ya,yb,av,aq hr.pu,au _ hr.pu,aq hq.pu,au _ hq.pu]<;>rfl
  ·cases j
   all_goals
    simp only [oV,oH,oC];simp only [go_sem,ya,yb,C1,show (i:Int)<pv.length by omega,ev,e0,e1,ol,qU,gx.an,e2,bX,rN,bN _ _ kD,ye,aO];refine ⟨_,d-1,rfl,by omega,i+1,_,?_,by omega,rJ⟩;rw [wi,hb,hbf];simp only [go_sem,ya,yb,av,aq hr.pu,au _ hr.pu,aq hq.pu,au _ hq.pu]<;>rfl
 ·right
  have:i=pv.length:=by omega
  subst this;rw [xB];cases j
  all_goals
   simp only [oV,oH,oC];simp only [go_sem,ya,yb,C1,show ¬(pv.length:Int)<pv.length by omega,ym];exact ⟨_,_,rfl,by simp,_,_,cs,rfl,rfl,hQ,by simp only [go_sem,ya],by simp only [go_sem,ya],by simp only [go_sem,ya],by simp only [go_sem,ya],by simp only [go_sem,ya],by simp only [go_sem,ya],by simp only [go_sem,ya],by simp only [go_sem,ya]⟩
end
end
section
open Go (IntKind)
def bB.ae {β:Type} {p:AV->β->Prop} {v:AV} {s:List β} (h:bB p v s) (hp:Hp) (k:IntKind) (b:Int):result hp (.ae [v,.int k b])=some (.ae [v,.int k b]):=by
 obtain ⟨rows,h1,_⟩:=h;rcases h1 with ⟨rfl,_⟩ | ⟨e,rfl⟩<;>rfl
section
variable {P:aM} {L:Lib}
def azs (h:Fr' P L) {rv qv:AV} {R:Mx} {pv:List Nat} (hr:bB cI rv R) (hq:bC qv (pv.map (fun p:Nat=>(p:Int)))) {n:Nat} (hn:n<=1000) (hw:wid n R) (ep:pv.length<=R.length) (hl:R.length<=1000) (aZ:∀p,p∈pv->p<n) {K:Nat} (hk:cx K R) (hK:K<=4000000000):
  ∀d st,(∃(c j:Nat) (bs:List AV),aJ [5,6,7,8,32,33] st=⟨[(5,ab n),(6,rv),(7,qv),(8,oV 0 j),(32,ab n),(33,ab c)],oH 0 1 bs [] j,oC 0 j,0⟩/\c+d=n/\j=(dL R pv n c).length/\b7 cI bs (dL R pv n c))->
   ∃ex s',D P L (.loop [5,6,7,8,32,33] Fb) st=some (ex,s')/\∃tm ct j bs,s'=⟨tm,oH 0 1 bs [] j,ct,0⟩/\ex= .exit 0/\af tm 8=oV 0 j/\j=(dL R pv n n).length/\b7 cI bs (dL R pv n n):=by
 intro dq sq;generalize a8:aJ [5,6,7,8,32,33] sq=s0;revert a8 s0 sq dq;apply cY;rintro d st ⟨c,j,bs,rfl,QW,hj,hB⟩;by_cases hc:c<n
 ·left
  have hjc:j<=c:=by rw [hj];exact EO R pv n c
  have lb:=hB.len;rw [<-hj] at lb;have f0:=azq h hr.pu hq.pu (c:=c) (j:=j) hn (bs:=bs) n;have f1:=azr h hr hq (j:=j) hn hw ep hl aZ hc hk hK (bs:=bs) pv.length;obtain ⟨one,e1,ho⟩:=LP h (z:=1) (by decide) (by decide);have lP:dI one 1:=by simpa using ho
  obtain ⟨o1,o2,o3,o4,rfl,go⟩:=lP.gen;have e2:bP P L (D P L) 69 [.int .i64 1]=some (.agg [o1,o2,o3,o4]):=e1;have hm:∀ct,pL ct 4 64 [.int .i64 0,.aa,.int .i64 0,.aa] (some n) (some n)=some (.aw ct 0 n,.cells true true true 4 (yk n z4).flatten):=fun ct=>Bh (by omega) (by omega) rfl rfl
  have wc:IntKind.wrap .i64 ((c:Int)+1)=((c+1:Nat):Int):=wrap64 (by omega) (by omega);have zm:∀hp:Hp,fE hp 1 qv=some (ab pv.length):=fun hp=>by
   have:=hq.len (hp:=hp);rwa [yj] at this
  have sU:eO R pv n c 0=(yk n 0).set c 1:=rfl;cases Ao:pv.contains c
  ·
   have eZ:dL R pv n (c+1)=dL R pv n c++[eO R pv n c pv.length]:=by
    rw [dL,Ao,yD (by decide)]
   have BR:∀cs,QL cs (eO R pv n c pv.length)->cI (.aB true n cs) (eO R pv n c pv.length):=fun cs jQ=>by
    have:=M6 true jQ
    rwa [zG] at this
   rcases j with _ | j1
   all_goals
    simp only [oV,oH,oC] at f0 f1 ⊢;simp only [go_sem,ya,yb,Fb,show (c:Int)<n by omega,rN,hm];generalize bI:D P L (.loop [5,6,7,8,9,10,32,33,39,40] Fa) _=q;obtain ⟨ex,st,rfl,tm,ct,qs,rfl,rfl,L3,t5,t6,t7,t8,t9,t10,t32,t33⟩:=bq bI f0 ⟨0,[],by simp only [go_sem,ya,yb,av,aq hr.pu,au _ hr.pu,aq hq.pu,au _ hq.pu]<;>rfl,by omega,trivial⟩
    have sC:=fun (hp:Hp) (ct id:Nat)=>stQ (hp:=hp) (ct:=ct) (id:=id) (ex:=true) L3 (show c<(yk n (0:Rat)).length by simpa using hc) go
    have oJ:QL (VE.over (c*4) [o1,o2,o3,o4] qs) (eO R pv n c 0):=by rw [sU];exact L3.over (by simpa using hc) (by simpa using ho)
    simp only [go_sem,ya,yb,av,t5,t6,t7,t8,t9,t10,t32,t33,aq hr.pu,au _ hr.pu,aq hq.pu,au _ hq.pu,e2,bX,bN _ _ hc,ye,sC,zm];generalize qt:D P L (.loop [5,6,7,8,9,10,12,32,33,52,53,54] C1) _=q2;obtain ⟨ex,st,rfl,tm,ct,cs,rfl,rfl,hQ2,t5,t6,t7,t8,t10,t12,t32,t33⟩:=bq qt f1 ⟨0,_,by simp only [go_sem,ya,yb,av,aq hr.pu,au _ hr.pu,aq hq.pu,au _ hq.pu]<;>rfl,by omega,oJ⟩
    have lcs:cs.length=n*4:=by rw [hQ2.len,zG]
    have fm:=fun hp:Hp=>kI (hp:=hp) (k:=n) (sz:=4) (cs:=cs) true lcs (by decide)
    have hB':b7 cI (bs++[.aB true n cs]) (dL R pv n (c+1)):=by rw [eZ];exact hB.snoc (BR cs hQ2)
    rw [Ao] at t12;simp only [go_sem,ya,yb,yp,yf,av,t5,t6,t7,t8,t10,t12,t32,t33,aq hr.pu,au _ hr.pu,aq hq.pu,au _ hq.pu,yM,fm]
   ·rw [fQ (by decide) (by decide) (by decide) (by decide)];simp only [go_sem,ya,yb,wc];refine ⟨_,d-1,rfl,by omega,c+1,1,[.aB true n cs],?_,by omega,?_,?_⟩
    ·simp only [go_sem,ya,yb,av,aq hr.pu,au _ hr.pu,aq hq.pu,au _ hq.pu]<;>rfl
    ·rw [eZ,yN,<-hj];rfl
    ·have:bs=[]:=yo lb
     subst this;exact hB'
   ·rw [fC (ex:=false) (pu:=true) (cs:=bs) (by simp only [go_sem,ya]) (by rw [lb,yf]) (by omega) (by omega) (by decide) (by simp only [go_sem])];simp only [go_sem,ya,yb,wc];refine ⟨_,d-1,rfl,by omega,c+1,j1+1+1,bs++[.aB true n cs],?_,by omega,?_,hB'⟩
    ·simp only [go_sem,ya,yb,av,aq hr.pu,au _ hr.pu,aq hq.pu,au _ hq.pu]<;>rfl
    ·rw [eZ,yN,<-hj];rfl
  ·
   have eZ:dL R pv n (c+1)=dL R pv n c:=by
    rw [dL,Ao,yT rfl]
   rcases j with _ | j1
   all_goals
    simp only [oV,oH,oC] at f0 f1 ⊢;simp only [go_sem,ya,yb,Fb,show (c:Int)<n by omega,rN,hm];generalize bI:D P L (.loop [5,6,7,8,9,10,32,33,39,40] Fa) _=q;obtain ⟨ex,st,rfl,tm,ct,qs,rfl,rfl,L3,t5,t6,t7,t8,t9,t10,t32,t33⟩:=bq bI f0 ⟨0,[],by simp only [go_sem,ya,yb,av,aq hr.pu,au _ hr.pu,aq hq.pu,au _ hq.pu]<;>rfl,by omega,trivial⟩
    have sC:=fun (hp:Hp) (ct id:Nat)=>stQ (hp:=hp) (ct:=ct) (id:=id) (ex:=true) L3 (show c<(yk n (0:Rat)).length by simpa using hc) go
    have oJ:QL (VE.over (c*4) [o1,o2,o3,o4] qs) (eO R pv n c 0):=by rw [sU];exact L3.over (by simpa using hc) (by simpa using ho)
    simp only [go_sem,ya,yb,av,t5,t6,t7,t8,t9,t10,t32,t33,aq hr.pu,au _ hr.pu,aq hq.pu,au _ hq.pu,e2,bX,bN _ _ hc,ye,sC,zm];generalize qt:D P L (.loop [5,6,7,8,9,10,12,32,33,52,53,54] C1) _=q2;obtain ⟨ex,st,rfl,tm,ct,cs,rfl,rfl,hQ2,t5,t6,t7,t8,t10,t12,t32,t33⟩:=bq qt f1 ⟨0,_,by simp only [go_sem,ya,yb,av,aq hr.pu,au _ hr.pu,aq hq.pu,au _ hq.pu]<;>rfl,by omega,oJ⟩
    rw [Ao] at t12;simp only [go_sem,ya,yb,av,t5,t6,t7,t8,t10,t12,t32,t33,aq hr.pu,au _ hr.pu,aq hq.pu,au _ hq.pu,yO,wc]
   ·refine ⟨_,d-1,rfl,by omega,c+1,0,bs,?_,by omega,by rw [eZ];exact hj,by rw [eZ];exact hB⟩
    simp only [go_sem,ya,av,aq hr.pu,au _ hr.pu,aq hq.pu,au _ hq.pu]<;>rfl
   ·refine ⟨_,d-1,rfl,by omega,c+1,j1+1,bs,?_,by omega,by rw [eZ];exact hj,by rw [eZ];exact hB⟩
    simp only [go_sem,ya,yb,av,aq hr.pu,au _ hr.pu,aq hq.pu,au _ hq.pu]<;>rfl
 ·right
  have:c=n:=by omega
  subst this;cases j
  all_goals
   simp only [oV,oH,oC];simp only [go_sem,ya,yb,Fb,show ¬(c:Int)<c by omega,ym];exact ⟨_,_,rfl,by simp,_,_,_,bs,rfl,rfl,by simp only [go_sem,ya]<;>rfl,hj,hB⟩
def M8 {K:Nat} {m:Mx} (h:cx K m) (k:Nat):cx K (m.take k):=fun i hi x hx=>by
 rw [yy] at hi;rw [eS (by rw [yy];exact hi),vU] at hx
 have:=h i (by omega)
 rw [eS (by omega)] at this
 grind
def M9 {w:Nat} {m:Mx} (h:wid w m) (k:Nat):wid w (m.take k):=fun i hi=>by
 rw [yy] at hi;rw [eS (by rw [yy];exact hi),vU]
 have:=h i (by omega)
 rwa [eS (by omega)] at this
def CT {w:Nat} {m:Mx} (h:wid w m) {r:List Rat} (hr:r∈m):r.length=w:=by
 obtain ⟨i,hi,rfl⟩:=ug.1 hr
 have:=h i hi
 rwa [eS hi] at this
def adk (R:Mx) {pv:List Nat} {n c k:Nat} (hk:pv.length<=k) (hR:k<=R.length):∀i,i<=pv.length->eO (R.take k) pv n c i=eO R pv n c i
 | 0,_=>rfl
 | i+1,hi=>by
  rw [eO,eO,adk R hk hR i (by omega),eS (by rw [yy];omega),eS (by omega),vU]
def R6 (R:Mx) {pv:List Nat} {n k:Nat} (hk:pv.length<=k) (hR:k<=R.length):∀c,dL (R.take k) pv n c=dL R pv n c
 | 0=>rfl
 | c+1=>by rw [dL,dL,R6 R hk hR c,adk R hk hR _ (yv _)]
def TD {M:Mx} {W K:Nat} (hw:wid W M) (hk:cx K M) (gX:1<=K):∃k,2<=k/\k<=4^M.length*(K+1)/\cx k (gP M W):=by
 obtain ⟨J,J0,J1,J2⟩:=Bv hw hk gX W (yv W);have hP:=pq hw W;have h1:4^(ax M W).2.length<=4^M.length:=yY (by decide) hP.pv
 have:=yQ (K+1) h1
 exact ⟨J+1,by omega,by omega,azo (by rw [hP.len];exact hP.pv) (J2.mono (by omega)) (by omega) W⟩
def al1 (h:QY P L) (DP:Has P L 204 pG) {v:AV} {M:List (List (List Nat))} (hv:bB bm v M) (hl:M.length<=1000000) (hr:∀r,r∈M->r.length<=1000000/\∀s,s∈r->s.length<=1000000000):
  (fe M≠0->aj P L 204 [v] (.ae [.aa,ab (fe M)]))/\(fe M=0->∀{K:Nat},cx K (bn M)->1<=K->4^wd M*(4^M.length*(K+1)+1)<=400000000->
   (gY (lL (bn M) (wd M))=true->aj P L 204 [v] (.ae [.aa,ab 4]))/\(gY (lL (bn M) (wd M))=false->∃r,aj P L 204 [v] (.ae [r,ab 0])/\bB bm (bQ r) ((lL (bn M) (wd M)).map (xv RT)))):=by
 have e1:=LZ h.toCk h.rk h.Am h.An h.Ep hv hl hr;unfold aj at e1;constructor
 ·intro hE;unfold aj;rw [aI DP];simp only [go_sem,ya,pG,hv.an,e1,hE,ym,yM]
 ·intro hE K hk gX hK;obtain ⟨m0,m64,cL⟩:=qV hE;obtain ⟨x,e2,hx⟩:=PV h.toCk h.zj h.BY hv hl (fun r bJ=>⟨(hr r bJ).1,(cL r bJ).2.2.2⟩);have hx:bB cI (shut x) (bn M):=hx;have hw:=A3 (M:=M) (fun r bJ=>(cL r bJ).1);have hWM:=cL _ (yE m0);have jU:M[0].length=wd M:=hWM.1;have lM:=nL M;have hpw:1<=4^wd M:=Nat.pow_pos (by decide);have hK3:4^(bn M).length*(K+1)<=400000000:=by
   rw [lM]
   have:=yQ (4^M.length*(K+1)+1) hpw
   omega
  obtain ⟨r,q,e3,Cz,oK⟩:=Zu h.toFr' h.pR h.Gv hx hw (by omega) (by omega) (by omega) hk gX hK3;obtain ⟨J,J2,J3,J4⟩:=TD hw hk gX;rw [lM] at J3;have hP:=pq hw (wd M);have ir:=hP.pv;have ep:=hP.len;obtain ⟨r0,rest,h0,e0⟩:=hv.aU (i:=0) m0;have hwt:=M9 hP.wid (ax (bn M) (wd M)).2.length;obtain ⟨J',J0',J1',J2'⟩:=Bv hw hk gX (wd M) (yv _);have hJ':J'<=4000000000:=by
   have h1:4^(ax (bn M) (wd M)).2.length<=4^(bn M).length:=yY (by decide) hP.pv
   have:=yQ (K+1) h1
   omega
  have f0:=azs h.toFr' Cz oK (n:=wd M) (by omega) hwt (by rw [yy];omega) (by rw [yy];omega) hP.lt (M8 J2' _) hJ' (wd M);have qB:∀c,dL ((ax (bn M) (wd M)).1.take (ax (bn M) (wd M)).2.length) (ax (bn M) (wd M)).2 (wd M) c=dL (ax (bn M) (wd M)).1 (ax (bn M) (wd M)).2 (wd M) c:=R6 _ (yv _) (by omega);simp only [qB] at f0;have lk:(gP (bn M) (wd M)).length<=wd M:=EO _ _ _ _;have Es:dL (ax (bn M) (wd M)).1 (ax (bn M) (wd M)).2 (wd M) (wd M)=gP (bn M) (wd M):=rfl;rw [Es] at f0;rw [hE] at e1;unfold aj at e2 e3;have JU:∃tm ct j bs,D P L (oe 5 pG.body) ⟨dM 0 [v],[],0,0⟩=some (.normal,⟨tm,oH 0 1 bs [] j,ct,0⟩)/\af tm 8=oV 0 j/\j=(gP (bn M) (wd M)).length/\b7 cI bs (gP (bn M) (wd M)):=by
   simp only [go_sem,ya,pG,oe,bF,aC,hv.an,e1,yr,yO,nF,e0,h0.len,jU,e2,hx.an,e3,mO,mL,mN];generalize hq:D P L (.loop [5,6,7,8,32,33] Fb) _=q;obtain ⟨ex,st,rfl,tm,ct,j,bs,rfl,rfl,t8,hj,hB⟩:=bq hq f0 ⟨0,0,[],by simp only [go_sem,ya,av,aq Cz.pu,au _ Cz.pu,aq oK.pu,au _ oK.pu,oV,oH,oC]<;>rfl,by omega,rfl,trivial⟩
   refine ⟨[(8,oV 0 j)],oC 0 j,j,bs,?_,by simp only [go_sem],hj,hB⟩;cases j
   all_goals
    simp only [oV,oH,oC] at t8 ⊢;simp only [go_sem,yb,av,t8]
  obtain ⟨tm,ct,j,bs,hS,t8,hj,hB⟩:=JU;have hD:D P L pG.body ⟨dM 0 [v],[],0,0⟩=D P L (nW 5 pG.body) ⟨tm,oH 0 1 bs [] j,ct,0⟩:=by
   rw [Nv 5 (c:=pG.body) (by refine ⟨rfl,rfl,rfl,rfl,rfl,?_⟩;show _=_;rfl),hS,fK]
  have lb:=hB.len;rw [<-hj] at lb;have L4:4^(gP (bn M) (wd M)).length<=4^wd M:=yY (by decide) lk;have hKB:4^(gP (bn M) (wd M)).length*(J+1)<=400000000:=by
   have:=wu L4 (show J+1<=4^M.length*(K+1)+1 by omega)
   omega
  cases hn:j with
  | zero=>
   rw [hn] at hj t8 hD;have hV:gP (bn M) (wd M)=[]:=yo hj.symm;have hQ:lL (bn M) (wd M)=[]:=by
    unfold lL;rw [hV]
    have:(ax [] (wd M)).1=[]:=yo (qP [] (wd M))
    rw [this,List.take_nil]
   rw [hQ];refine ⟨fun q=>(by cases q),fun _=>⟨.aa,?_,rT⟩⟩;unfold aj;rw [aI DP,hD];simp only [oV,oH] at t8 ⊢;simp only [go_sem,ya,pG,nW,aC,t8]
  | succ m=>
   rw [hn] at hj t8 hD lb;have hvB:bB cI (.aB false (m+1) bs) (gP (bn M) (wd M)):=by
    have:=rV false hB
    rwa [<-hj] at this
   obtain ⟨r4,q4,e4,Et,hq4⟩:=Zu h.toFr' h.pR h.Gv hvB (IL _ _ _ _) (by omega) (by omega) (by omega) J4 (by omega) hKB;have L5:=pq (IL (ax (bn M) (wd M)).1 (ax (bn M) (wd M)).2 (wd M) (wd M)) (wd M);obtain ⟨I,I0,I1,I2⟩:=Bv (IL (ax (bn M) (wd M)).1 (ax (bn M) (wd M)).2 (wd M) (wd M)) J4 (by omega) (wd M) (yv _);have hI:I<=4000000000:=by
    have h1:4^(ax (gP (bn M) (wd M)) (wd M)).2.length<=4^(gP (bn M) (wd M)).length:=yY (by decide) L5.pv;have h2:=yQ (J+1) h1;have h3:I+1<=4^(ax (gP (bn M) (wd M)) (wd M)).2.length*(J+1):=I1;omega
   have aIQ:(lL (bn M) (wd M)).length<=1000:=by
    unfold lL;rw [yy,qP];omega
   obtain ⟨g1,g2⟩:=alZ h.toTx h.PY h.PZ (M:=lL (bn M) (wd M)) Et (by omega) (fun r bJ=>by
    have:=CT (M9 L5.wid _) bJ
    omega) (fun r bJ=>EX (M8 I2 _) bJ) hI
   have fm:∀hp:Hp,jO 0 (m+1) (some (false,1,bs,hp))=some (.aB false (m+1) bs,hp):=fun hp=>kI false (by rw [lb,yf]) (by decide)
   have dH:¬(((m+1:Nat):Int)=0):=by omega
   unfold aj at e4 g1 g2 ⊢;constructor
   ·intro Eu;have g:=g1 Eu;rw [aI DP,hD];simp only [oV,oH] at t8 ⊢;simp only [go_sem,ya,pG,nW,aC,t8,dH,ym,fm,e4,mO,mL,mN,Et.an,g,My,zq]
   ·intro Eu;obtain ⟨y,g,hy⟩:=g2 Eu;refine ⟨bQ y,?_,by rw [hy.bQ];exact hy⟩
    rw [aI DP,hD];simp only [oV,oH] at t8 ⊢;simp only [go_sem,ya,pG,nW,aC,t8,dH,ym,fm,e4,mO,mL,mN,Et.an,g,zq];exact hy.ae _ _ _
end
end
section
open Go (IntKind)
def oR (a:List Rat) (B:Mx) (c:Nat):Nat->Rat
 | 0=>0
 | k+1=>oR a B c k+cE a k*cE (gR B k) c
def mulR (a:List Rat) (B:Mx) (w:Nat):List Rat:=(xe w).map fun c=>oR a B c a.length
def gD (A B:Mx) (w:Nat):Mx:=A.map fun a=>mulR a B w
def CM (a:List Rat) (B:Mx) (w:Nat):(mulR a B w).length=w:=by simp [mulR]
def arn {a:List Rat} {B:Mx} {w c:Nat} (h:c<w):(mulR a B w).take (c+1)=(mulR a B w).take c++[oR a B c a.length]:=by
 rw [yW (by rw [CM];exact h)]
 simp [mulR]
def JV {r:List Rat} {c K:Nat} (h:∀x,x∈r->Hq K x) (hK:2<=K):Hq K (cE r c):=by
 unfold cE;rw [xf]
 cases hq:r[c]? with
 | none=>exact Gu.mono hK
 | some y=>exact h y (yak hq)
def aDj {m:Mx} {K:Nat} (h:cx K m) (i:Nat):∀x,x∈gR m i->Hq K x:=fun x hx=>by
 by_cases hi:i<m.length
 ·exact h i hi x hx
 ·simp [gR,xf,List.getElem?_eq_none (Nat.le_of_not_lt hi)] at hx
def Uc {a:List Rat} {B:Mx} {c K:Nat} (ha:∀x,x∈a->Hq K x) (hB:cx K B) (hK:2<=K):∀k,Hq (2+k*(2*K+1)) (oR a B c k)
 | 0=>Gu.mono (by omega)
 | k+1=>by
  have:=(Uc (c:=c) ha hB hK k).add ((JV (c:=k) ha hK).mul (JV (c:=c) (aDj hB k) hK))
  refine this.mono ?_
  grind
def aiY {a:List Rat} {B:Mx} {w K:Nat} (ha:∀x,x∈a->Hq K x) (hB:cx K B) (hK:2<=K):∀x,x∈mulR a B w->Hq (2+a.length*(2*K+1)) x:=fun x hx=>by
 obtain ⟨c,_,rfl⟩:=wQ.1 hx;exact Uc ha hB hK _
def pH (i c:Nat) (rows cs:List AV):Hp:=oH (oC 0 i) 4 cs (oH 0 1 rows [] i) c
section
variable {P:aM} {L:Lib}
def azt (h:Fr' P L) {x y ra:AV} {B:Mx} {a:List Rat} (hx:a7 x=true) (hy:bB cI y B) (ha:cI ra a) {w:Nat} (hw:wid w B) (zi:a.length=B.length) (hl:a.length<=1000) {c:Nat} (hc:c<w) {K:Nat} (ka:∀z,z∈a->Hq K z) (kb:cx K B) (jV:2<=K) (hK:K<=1000000) {i n:Nat} {rows cs:List AV}:
  ∀d st,(∃(k:Nat) (s1 s2 s3 s4:AV),aJ [8,9,11,12,13,14,37,38,39,46,47,51,52,53] st=⟨[(8,y),(9,oV 0 i),(11,ra),(12,oV (oC 0 i) c),(13,ab c),(14,.ptr (oC (oC 0 i) c) 0),(37,x),(38,ab n),(39,ab i),(46,ab w),(47,ab c),(51,ra),(52,ab a.length),(53,ab k)],(oC (oC 0 i) c,.cells true true true 4 [s1,s2,s3,s4])::pH i c rows cs,oC (oC 0 i) c+1,0⟩/\k+d=a.length/\dI (.agg [s1,s2,s3,s4]) (oR a B c k))->
   ∃ex s',D P L (.loop [8,9,11,12,13,14,37,38,39,46,47,51,52,53] E8) st=some (ex,s')/\∃tm ct s1 s2 s3 s4,s'=⟨tm,(oC (oC 0 i) c,.cells true true true 4 [s1,s2,s3,s4])::pH i c rows cs,ct,0⟩/\ex= .exit 4/\dI (.agg [s1,s2,s3,s4]) (oR a B c a.length)/\af tm 8=y/\af tm 9=oV 0 i/\af tm 11=ra/\af tm 12=oV (oC 0 i) c/\af tm 14= .ptr (oC (oC 0 i) c) 0/\af tm 37=x/\af tm 38=ab n/\af tm 39=ab i/\af tm 46=ab w/\af tm 47=ab c:=by
 intro dq sq;generalize a8:aJ [8,9,11,12,13,14,37,38,39,46,47,51,52,53] sq=s0;revert a8 s0 sq dq;apply cY;rintro d st ⟨k,s1,s2,s3,s4,rfl,hkd,hs⟩;by_cases hk:k<a.length
 ·left
  have qB:k<B.length:=by omega
  obtain ⟨a1,a2,a3,a4,ar,e1,L6⟩:=ha.aU hk;obtain ⟨r0,rest,eN,e0⟩:=hy.aU qB;have wr:=hw k qB;have kr:=kb k qB;rw [eS qB] at wr kr;obtain ⟨b1,b2,b3',b4,br,e2,hx2⟩:=eN.aU (i:=c) (by omega);have k1:=ka _ (yE hk);have k2:=kr _ (yE (show c<B[k].length by omega));obtain ⟨p,e3,hp⟩:=m49 h L6 hx2 k1 k2 (by omega);have kd:=Uc (c:=c) ka kb jV k;have ru:k*(2*K+1)<=1000*(2*1000000+1):=wu (by omega) (by omega);obtain ⟨z,e4,hz⟩:=m74 h hs hp (kd.mono (show 2+k*(2*K+1)<=3000000000 by omega)) ((k1.mul k2).mono (show K+K<=3000000000 by omega)) (by omega);have fq:dI z (oR a B c (k+1)):=by
   rw [oR,jH hk,eS qB,jH (show c<B[k].length by omega)];exact hz
  have gs:=hs.f4;have g1:=L6.f4;have g2:=hx2.f4;obtain ⟨p1,p2,p3,p4,rfl,gp⟩:=hp.gen;obtain ⟨q1,q2,q3,q4,rfl,gz⟩:=hz.gen;have wk:IntKind.wrap .i64 ((k:Int)+1)=((k+1:Nat):Int):=wrap64 (by omega) (by omega);unfold aj at e3 e4;cases i<;>cases c
  all_goals
   simp only [oV,oH,oC,pH];simp only [go_sem,ya,yb,E8,show (k:Int)<a.length by omega,e1,e0,e2,ol,qU,yK,bj,g1.st,gs.an,g1.an,g2.an,e3,bX,gp.an,e4,gz.st];refine ⟨_,d-1,rfl,by omega,k+1,q1,q2,q3,q4,?_,by omega,fq⟩;rw [wk];simp only [go_sem,ya,yb,av,aq hx,au _ hx,aq hy.pu,au _ hy.pu,aq ha.pu,au _ ha.pu]<;>rfl
 ·right
  have:k=a.length:=by omega
  subst this;cases i<;>cases c
  all_goals
   simp only [oV,oH,oC,pH];simp only [go_sem,ya,yb,E8,show ¬(a.length:Int)<a.length by omega,ym];exact ⟨_,_,rfl,by simp,_,_,s1,s2,s3,s4,rfl,rfl,hs,by simp only [go_sem,ya],by simp only [go_sem,ya],by simp only [go_sem,ya],by simp only [go_sem,ya],by simp only [go_sem,ya],by simp only [go_sem,ya],by simp only [go_sem,ya],by simp only [go_sem,ya],by simp only [go_sem,ya],by simp only [go_sem,ya]⟩
def azu (h:Fr' P L) {x y ra:AV} {B:Mx} {a:List Rat} (hx:a7 x=true) (hy:bB cI y B) (ha:cI ra a) {w:Nat} (hw:wid w B) (mF:w<=1000) (zi:a.length=B.length) (hl:a.length<=1000) {K:Nat} (ka:∀z,z∈a->Hq K z) (kb:cx K B) (jV:2<=K) (hK:K<=1000000) {i n:Nat} {rows:List AV}:
  ∀d st,(∃(c:Nat) (cs:List AV),aJ [8,9,11,12,37,38,39,46,47] st=⟨[(8,y),(9,oV 0 i),(11,ra),(12,oV (oC 0 i) c),(37,x),(38,ab n),(39,ab i),(46,ab w),(47,ab c)],pH i c rows cs,oC (oC 0 i) c,0⟩/\c+d=w/\QL cs ((mulR a B w).take c))->
   ∃ex s',D P L (.loop [8,9,11,12,37,38,39,46,47] C0) st=some (ex,s')/\∃tm ct cs,s'=⟨tm,pH i w rows cs,ct,0⟩/\ex= .exit 2/\QL cs (mulR a B w)/\af tm 8=y/\af tm 9=oV 0 i/\af tm 12=oV (oC 0 i) w/\af tm 37=x/\af tm 38=ab n/\af tm 39=ab i:=by
 intro dq sq;generalize a8:aJ [8,9,11,12,37,38,39,46,47] sq=s0;revert a8 s0 sq dq;apply cY;rintro d st ⟨c,cs,rfl,QW,hQ⟩;by_cases hc:c<w
 ·left
  have f0:=azt h hx hy ha hw zi hl hc ka kb jV hK (i:=i) (n:=n) (rows:=rows) (cs:=cs) a.length;obtain ⟨zero,e1,hz⟩:=LP h (z:=0) (by decide) (by decide);have fq:dI zero (oR a B c 0):=by rw [oR];simpa using hz
  have kB:=fq;obtain ⟨v1,v2,v3,v4,rfl,gz⟩:=fq.gen;have e2:bP P L (D P L) 69 [.int .i64 0]=some (.agg [v1,v2,v3,v4]):=e1;have wc:IntKind.wrap .i64 ((c:Int)+1)=((c+1:Nat):Int):=wrap64 (by omega) (by omega);have lq:=hQ.len;rw [yy,CM,xm (by omega)] at lq;have mK:(c:Int)<w:=by omega
  have end_:∀(s1 s2 s3 s4:AV),dI (.agg [s1,s2,s3,s4]) (oR a B c a.length)->F4 s1 s2 s3 s4/\QL (cs++[s1,s2,s3,s4]) ((mulR a B w).take (c+1))/\(∀q,qX q z4 0 4 [s1,s2,s3,s4] []=fill q [s1,s2,s3,s4] [])/\a7 s1=true/\a7 s2=true/\a7 s3=true/\a7 s4=true:=fun s1 s2 s3 s4 q=>by
   have g:=q.f4;obtain ⟨p1,p2,p3,p4⟩:=g.LY;exact ⟨g,by rw [arn hc];exact hQ.snoc q,fun _=>aiW g.o1 g.o2 g.o3 g.o4,p1,p2,p3,p4⟩
  have fH:∀st,aJ [8,9,11,12,13,14,37,38,39,46,47,51,52,53] st=⟨[(8,y),(9,oV 0 i),(11,ra),(12,oV (oC 0 i) c),(13,ab c),(14,.ptr (oC (oC 0 i) c) 0),(37,x),(38,ab n),(39,ab i),(46,ab w),(47,ab c),(51,ra),(52,ab a.length),(53,ab (0:Nat))],(oC (oC 0 i) c,.cells true true true 4 [v1,v2,v3,v4])::pH i c rows cs,oC (oC 0 i) c+1,0⟩->_:=fun st aO=>f0 st ⟨0,v1,v2,v3,v4,aO,by omega,kB⟩
  cases c with
  | zero=>
   cases i
   all_goals
    simp only [oV,oH,oC,pH] at fH ⊢;simp only [go_sem,ya,yb,C0,mK,e2,bX,bj,gz.st,ha.len];generalize bI:D P L (.loop [8,9,11,12,13,14,37,38,39,46,47,51,52,53] E8) _=q;obtain ⟨ex,st,rfl,tm,ct,s1,s2,s3,s4,rfl,rfl,hs,t8,t9,t11,t12,t14,t37,t38,t39,t46,t47⟩:=bq bI fH (by simp only [go_sem,ya,yb,av,aq hx,au _ hx,aq hy.pu,au _ hy.pu,aq ha.pu,au _ ha.pu]<;>rfl)
    obtain ⟨g,rJ,bz,p1,p2,p3,p4⟩:=end_ s1 s2 s3 s4 hs;simp only [go_sem,ya,yb,xn,yF,yp,av,t8,t9,t11,t12,t14,t37,t38,t39,t46,t47,aq hx,au _ hx,aq hy.pu,au _ hy.pu,aq ha.pu,au _ ha.pu,iK,yK,bz,p1,p2,p3,p4,wT,Oa,fQ,wc];refine ⟨_,d-1,rfl,by omega,1,[s1,s2,s3,s4],?_,by omega,?_⟩
    ·simp only [go_sem,ya,yb,av,aq hx,au _ hx,aq hy.pu,au _ hy.pu,aq ha.pu,au _ ha.pu]<;>rfl
    ·have:cs=[]:=yo (by omega)
     subst this;exact rJ
  | succ c=>
   cases i
   all_goals
    simp only [oV,oH,oC,pH] at fH ⊢;simp only [go_sem,ya,yb,C0,mK,e2,bX,bj,gz.st,ha.len];generalize bI:D P L (.loop [8,9,11,12,13,14,37,38,39,46,47,51,52,53] E8) _=q;obtain ⟨ex,st,rfl,tm,ct,s1,s2,s3,s4,rfl,rfl,hs,t8,t9,t11,t12,t14,t37,t38,t39,t46,t47⟩:=bq bI fH (by simp only [go_sem,ya,yb,av,aq hx,au _ hx,aq hy.pu,au _ hy.pu,aq ha.pu,au _ ha.pu]<;>rfl)
    obtain ⟨g,rJ,bz,p1,p2,p3,p4⟩:=end_ s1 s2 s3 s4 hs;simp only [go_sem,ya,yb,xn,av,t8,t9,t11,t12,t14,t37,t38,t39,t46,t47,aq hx,au _ hx,aq hy.pu,au _ hy.pu,aq ha.pu,au _ ha.pu,iK,yK,bz,p1,p2,p3,p4,wT,Oa]
    rw [fC (ex:=false) (pu:=true) (cs:=cs) (by simp only [go_sem,ya]) lq (by omega) (by omega) (by decide) (by simp only [go_sem,g.o1,g.o2,g.o3,g.o4])];simp only [go_sem,ya,yb,p1,p2,p3,p4,wc];refine ⟨_,d-1,rfl,by omega,c+1+1,_,?_,by omega,rJ⟩;simp only [go_sem,ya,yb,av,aq hx,au _ hx,aq hy.pu,au _ hy.pu,aq ha.pu,au _ ha.pu]<;>rfl
 ·right
  have:c=w:=by omega
  subst this;rw [yC (by rw [CM];exact yv _)] at hQ
  have mK:¬(c:Int)<c:=by omega
  cases i<;>cases c
  all_goals
   simp only [oV,oH,oC,pH];simp only [go_sem,ya,yb,C0,mK,ym];exact ⟨_,_,rfl,by simp,_,_,cs,rfl,rfl,hQ,by simp only [go_sem,ya],by simp only [go_sem,ya],by simp only [go_sem,ya]<;>rfl,by simp only [go_sem,ya],by simp only [go_sem,ya],by simp only [go_sem,ya]⟩
def azv (h:Fr' P L) {x y:AV} {A B:Mx} (hx:bB cI x A) (hy:bB cI y B) {w:Nat} (rE:0<w) (hw:wid w B) (mF:w<=1000) (Es:0<B.length) (hwa:wid B.length A) (hl:B.length<=1000) (hA:A.length<=1000) {K:Nat} (ka:cx K A) (kb:cx K B) (jV:2<=K) (hK:K<=1000000):
  ∀d st,(∃(i:Nat) (rows:List AV),aJ [8,9,37,38,39] st=⟨[(8,y),(9,oV 0 i),(37,x),(38,ab A.length),(39,ab i)],oH 0 1 rows [] i,oC 0 i,0⟩/\i+d=A.length/\b7 cI rows ((gD A B w).take i))->
   ∃ex s',D P L (.loop [8,9,37,38,39] E9) st=some (ex,s')/\∃tm ct rows,s'=⟨tm,oH 0 1 rows [] A.length,ct,0⟩/\ex= .exit 0/\b7 cI rows (gD A B w)/\af tm 9=oV 0 A.length:=by
 intro dq sq;generalize a8:aJ [8,9,37,38,39] sq=s0;revert a8 s0 sq dq;apply cY;rintro d st ⟨i,rows,rfl,hid,hR⟩;have lQ:(gD A B w).length=A.length:=by simp [gD]
 by_cases hi:i<A.length
 ·left
  obtain ⟨ra,rest,oz,e0⟩:=hx.aU hi;obtain ⟨y0,aA5,iS,e1⟩:=hy.aU (i:=0) Es;have wa:=hwa i hi;have kA:=ka i hi;have w0:=hw 0 Es;rw [eS hi] at wa kA;rw [eS Es] at w0;have f0:=azu h hx.pu hy oz hw mF wa (by omega) kA kb jV hK (i:=i) (n:=A.length) (rows:=rows) w;have wi:IntKind.wrap .i64 ((i:Int)+1)=((i+1:Nat):Int):=wrap64 (by omega) (by omega);have gj:(i:Int)<A.length:=by omega
  have hlen:=hR.len;rw [yy,lQ,xm (by omega)] at hlen;obtain ⟨w',rfl⟩:∃w',w=w'+1:=⟨w-1,by omega⟩;have fH:∀st,aJ [8,9,11,12,37,38,39,46,47] st=⟨[(8,y),(9,oV 0 i),(11,ra),(12,oV (oC 0 i) 0),(37,x),(38,ab A.length),(39,ab i),(46,ab (w'+1:Nat)),(47,ab (0:Nat))],pH i 0 rows [],oC (oC 0 i) 0,0⟩->_:=fun st aO=>f0 st ⟨0,[],aO,by omega,trivial⟩
  have end_:∀cs,QL cs (mulR A[i] B (w'+1))->b7 cI (rows++[.aB false (w'+1) cs]) ((gD A B (w'+1)).take (i+1))/\cs.length=(w'+1)*4:=fun cs jQ=>by
   have h1:=M6 false jQ;rw [CM] at h1;refine ⟨?_,by rw [jQ.len,CM]⟩;rw [yW (by omega)];exact hR.snoc (by simpa [gD] using h1)
  cases i with
  | zero=>
   have:rows=[]:=yo hlen
   subst this;simp only [oV,oH,oC,pH] at fH ⊢;simp only [go_sem,ya,yb,E9,gj,e0,e1,nF,iS.len,w0];generalize bI:D P L (.loop [8,9,11,12,37,38,39,46,47] C0) _=q;obtain ⟨ex,st,rfl,tm,ct,cs,rfl,rfl,jQ,t8,t9,t12,t37,t38,t39⟩:=bq bI fH (by simp only [go_sem,ya,av,aq hx.pu,au _ hx.pu,aq hy.pu,au _ hy.pu,aq oz.pu,au _ oz.pu]<;>rfl)
   obtain ⟨Cy,lc⟩:=end_ cs jQ;have fm:=fun hp:Hp=>kI (hp:=hp) (k:=w'+1) (sz:=4) (cs:=cs) false lc (by decide)
   simp only [go_sem,ya,yb,xn,yF,yp,yf,av,t8,t9,t12,t37,t38,t39,aq hx.pu,au _ hx.pu,aq hy.pu,au _ hy.pu,fm,fQ,wi];refine ⟨_,d-1,rfl,by omega,1,_,?_,by omega,Cy⟩;simp only [go_sem,ya,yb,av,aq hx.pu,au _ hx.pu,aq hy.pu,au _ hy.pu]<;>rfl
  | succ i=>
   simp only [oV,oH,oC,pH] at fH ⊢;simp only [go_sem,ya,yb,E9,gj,e0,e1,nF,iS.len,w0];generalize bI:D P L (.loop [8,9,11,12,37,38,39,46,47] C0) _=q;obtain ⟨ex,st,rfl,tm,ct,cs,rfl,rfl,jQ,t8,t9,t12,t37,t38,t39⟩:=bq bI fH (by simp only [go_sem,ya,yb,av,aq hx.pu,au _ hx.pu,aq hy.pu,au _ hy.pu,aq oz.pu,au _ oz.pu]<;>rfl)
   obtain ⟨Cy,lc⟩:=end_ cs jQ;have fm:=fun hp:Hp=>kI (hp:=hp) (k:=w'+1) (sz:=4) (cs:=cs) false lc (by decide)
   simp only [go_sem,ya,yb,yp,yf,av,t8,t9,t12,t37,t38,t39,aq hx.pu,au _ hx.pu,aq hy.pu,au _ hy.pu,fm]
   rw [fC (ex:=false) (pu:=true) (cs:=rows) (by simp only [go_sem,ya]) (by rw [hlen,yf]) (by omega) (by omega) (by decide) (by simp only [go_sem])];simp only [go_sem,ya,yb,wi];refine ⟨_,d-1,rfl,by omega,i+1+1,_,?_,by omega,Cy⟩;simp only [go_sem,ya,yb,av,aq hx.pu,au _ hx.pu,aq hy.pu,au _ hy.pu]<;>rfl
 ·right
  have:i=A.length:=by omega
  subst this;rw [yC (by omega)] at hR;have gj:¬(A.length:Int)<A.length:=by omega
  simp only [go_sem,ya,E9,gj,ym];exact ⟨_,_,rfl,by simp,_,_,rows,rfl,rfl,hR,by simp only [go_sem,ya]⟩
end
end
section
open Go (IntKind)
section
variable {P:aM} {L:Lib}
def al2 (h:QY P L) (DQ:Has P L 200 pE) {u v:AV} {A B:List (List (List Nat))} (hu:bB bm u A) (hv:bB bm v B) (la:A.length<=1000000) (lb:B.length<=1000000) (ra:∀r,r∈A->r.length<=1000000/\∀s,s∈r->s.length<=1000000000) (rb:∀r,r∈B->r.length<=1000000/\∀s,s∈r->s.length<=1000000000):
  (cf [fe A,fe B]≠0->aj P L 200 [u,v] (.ae [.aa,ab (cf [fe A,fe B])]))/\(fe A=0->fe B=0->
   (wd A≠B.length->aj P L 200 [u,v] (.ae [.aa,ab 2]))/\
   (wd A=B.length->∀{K:Nat},cx K (bn A)->cx K (bn B)->2<=K->K<=1000000->
    (gY (gD (bn A) (bn B) (wd B))=true->aj P L 200 [u,v] (.ae [.aa,ab 4]))/\(gY (gD (bn A) (bn B) (wd B))=false->∃r,aj P L 200 [u,v] (.ae [r,ab 0])/\bB bm (bQ r) ((gD (bn A) (bn B) (wd B)).map (xv RT))))):=by
 have e1:=LZ h.toCk h.rk h.Am h.An h.Ep hu la ra;have e2:=LZ h.toCk h.rk h.Am h.An h.Ep hv lb rb;have e3:aj P L 125 _ _:=Nd.PQ h.PR (ma true [fe A,fe B]) (by simp);simp only [yI,List.length_nil,xc,vv] at e3;unfold aj at e1 e2 e3;constructor
 ·intro hE;unfold aj;rw [aI DQ];simp only [go_sem,ya,yb,yF,yp,yf,pE,hu.an,hv.an,e1,e2,e3,hE,ym,yM]
 ·intro hA hB;obtain ⟨a0,a64,ao⟩:=qV hA;obtain ⟨b0,b64,bo⟩:=qV hB;obtain ⟨r0,rest,eN,e0⟩:=hu.aU (i:=0) a0;have jU:A[0].length=wd A:=(ao _ (yE a0)).1;rw [hA,hB] at e3;rw [hA] at e1;rw [hB] at e2;have f0:cf [(0:Int),0]=0:=rfl;rw [f0] at e3;constructor
  ·intro dH;unfold aj;rw [aI DQ];simp only [go_sem,ya,yb,yF,yp,yf,pE,hu.an,hv.len,hv.an,e1,e2,e3,yr,yO,nF,e0,eN.len,jU,show ¬(wd A:Int)=(B.length:Nat) by omega,ym,yM]
  ·intro mD K ka kb jV hK;obtain ⟨x,e4,hx⟩:=PV h.toCk h.zj h.BY hu la (fun r bJ=>⟨(ra r bJ).1,(ao r bJ).2.2.2⟩);obtain ⟨y,e5,hy⟩:=PV h.toCk h.zj h.BY hv lb (fun r bJ=>⟨(rb r bJ).1,(bo r bJ).2.2.2⟩);have wA:=A3 (M:=A) (fun r bJ=>(ao r bJ).1);have wB:=A3 (M:=B) (fun r bJ=>(bo r bJ).1);have lA:=nL A;have lB:=nL B;have QZ:=bo _ (yE b0);have aI9:B[0].length=wd B:=QZ.1;have key:=azv h.toFr' (A:=bn A) (B:=bn B) hx hy (w:=wd B) (by omega) wB (by omega) (by omega) (by rw [lB,<-mD];exact wA) (by omega) (by omega) ka kb jV hK (bn A).length
   have lQ:(gD (bn A) (bn B) (wd B)).length=A.length:=by simp [gD,lA]
   have hQH:∀r,r∈gD (bn A) (bn B) (wd B)->(r.length=wd B/\∀z,z∈r->Hq (2+64*(2*K+1)) z):=fun r bJ=>by
    obtain ⟨a,ha,rfl⟩:=wQ.1 bJ;have la':=CT wA ha;refine ⟨CM _ _ _,fun z hz=>(aiY (EX ka ha) kb jV z hz).mono ?_⟩
    have:a.length*(2*K+1)<=64*(2*K+1):=yQ _ (by omega)
    omega
   have JU:∃tm ct rows,D P L (oe 5 pE.body) ⟨dM 0 [u,v],[],0,0⟩=some (.normal,⟨tm,oH 0 1 rows [] A.length,ct,0⟩)/\af tm 9=oV 0 A.length/\b7 cI rows (gD (bn A) (bn B) (wd B)):=by
    simp only [go_sem,ya,yb,yF,yp,yf,pE,oe,bF,aC,hu.an,hv.len,hv.an,e1,e2,e3,yr,yO,nF,e0,eN.len,jU,show (wd A:Int)=(B.length:Nat) by omega,e4,e5,hx.len];generalize hq:D P L (.loop [8,9,37,38,39] E9) _=q;obtain ⟨ex,st,rfl,tm,ct,rows,rfl,rfl,hR,t9⟩:=bq hq key ⟨0,[],by simp only [go_sem,ya,av,aq hx.pu,au _ hx.pu,aq hy.pu,au _ hy.pu,oV,oH,oC]<;>rfl,by omega,trivial⟩
    rw [lA] at t9 ⊢;refine ⟨[(9,oV 0 A.length)],oC 0 A.length,rows,?_,by simp only [go_sem],hR⟩;cases hn:A.length
    all_goals
     rw [hn] at t9;simp only [oV,oH,oC] at t9 ⊢;simp only [go_sem,yb,av,t9]
   obtain ⟨tm,ct,rows,hS,t9,hR⟩:=JU;have lr:=hR.len;rw [lQ] at lr;obtain ⟨n,hn⟩:∃n,A.length=n+1:=⟨A.length-1,by omega⟩;rw [hn] at hS t9 lr;have hvR:bB cI (.aB false (n+1) rows) (gD (bn A) (bn B) (wd B)):=by
    have:=rV false hR
    rwa [lQ,hn] at this
   obtain ⟨g1,g2⟩:=alZ h.toTx h.PY h.PZ hvR (by omega) (fun r bJ=>by rw [(hQH r bJ).1];omega) (fun r bJ=>(hQH r bJ).2) (by omega);have fm:∀hp:Hp,jO 0 (n+1) (some (false,1,rows,hp))=some (.aB false (n+1) rows,hp):=fun hp=>kI false (by rw [lr,yf]) (by decide)
   have hD:D P L pE.body ⟨dM 0 [u,v],[],0,0⟩=D P L (nW 5 pE.body) ⟨tm,oH 0 1 rows [] (n+1),ct,0⟩:=by
    rw [Nv 5 (c:=pE.body) (by refine ⟨rfl,rfl,rfl,rfl,rfl,?_⟩;show _=_;rfl),hS,fK]
   unfold aj at g1 g2 ⊢;constructor
   ·intro Eu;have g:=g1 Eu;rw [aI DQ,hD];simp only [oV,oH] at t9 ⊢;simp only [go_sem,ya,pE,nW,aC,t9,fm,g,mO,mL,mN,My,zq]
   ·intro Eu;obtain ⟨z,g,hz⟩:=g2 Eu;refine ⟨bQ z,?_,by rw [hz.bQ];exact hz⟩
    rw [aI DQ,hD];simp only [oV,oH] at t9 ⊢;simp only [go_sem,ya,pE,nW,aC,t9,fm,g,mO,mL,mN,zq];exact hz.ae _ _ _
end
end
section
open Go (IntKind)
def aol {α:Type} {f:α->Int} {l:List α} {i:Nat} (h:i<l.length):cf ((l.drop i).map f)=if f l[i]=0 then cf ((l.drop (i+1)).map f) else f l[i]:=by
 rw [yS h,xc,cf]
end
section
open Go (IntKind)
section
variable {P:aM} {L:Lib}
def a29 (h:Has P L 29 Cb) {v w:AV} {l:List (List Nat)} (hv:bm v l) (hw:bm w l) (hl:l.length<=1000000):aj P L 29 [v,w] (.bool true):=by
 have key:=eP (P:=P) (L:=L) (live:=[0,1,5]) (a:=JK)
  (I:=fun k st=>∃i:Nat,st=⟨[(0,v),(1,w),(5,ab i)],[],0,0⟩/\i+k=l.length)
  (Q:=fun ex st=>∃tm hp ct,st=⟨tm,hp,ct,0⟩/\ex= .exit 0) ?_
 ·unfold aj;rw [aI h];simp only [go_sem,ya,Cb,hv.len,hw.len,yr,yO];generalize hq:D P L (.loop [0,1,5] JK) _=q;obtain ⟨ex,st,rfl,tm,hp,ct,rfl,rfl⟩:=bq hq (key l.length) ⟨0,by simp only [go_sem,ya,av,aq hv.pu,au _ hv.pu,aq hw.pu,au _ hw.pu]<;>rfl,by omega⟩
  simp only [go_sem,av]
 ·rintro k st ⟨i,rfl,hk⟩;by_cases hi:i<l.length
  ·left
   simp only [go_sem,ya,JK,hv.len,show (i:Int)<l.length by omega,hv.aU hi,hw.aU hi,A7,ari,yO];refine ⟨_,k-1,rfl,by omega,i+1,?_,by omega⟩;rw [wrap64 (by omega) (by omega)];simp only [go_sem,ya,av,aq hv.pu,au _ hv.pu,aq hw.pu,au _ hw.pu]<;>rfl
  ·right
   simp only [go_sem,ya,JK,hv.len,show ¬(i:Int)<l.length by omega];exact ⟨_,_,rfl,by simp,_,_,_,rfl,rfl⟩
end
end
section
open Go (IntKind)
section
variable {P:aM} {L:Lib}
def aDk (DR:Has P L 332 FU) {n:Nat} (h0:0<n) (hn:n<=1000000):aj P L 332 [ab n] (.bw false 1 n ((yk n [48]).map .str)):=by
 have key:=eP (P:=P) (L:=L) (live:=[0,3,4]) (a:=Fm)
  (I:=fun k s=>∃i:Nat,i+k=n/\((i=0/\s=⟨[(0,ab n),(3,.aa),(4,ab i)],[],0,0⟩)\/(0<i/\s=⟨[(0,ab n),(3,.aw 0 0 i),(4,ab i)],[(0,.cells true true false 1 ((yk i [48]).map .str))],1,0⟩)))
  (Q:=fun ex s=>∃tm hp ct,s=⟨tm,hp,ct,0⟩/\ex= .exit 0/\af tm 3= .aw 0 0 n/\ay hp 0=some (.cells true true false 1 ((yk n [48]).map .str))) ?_
 ·unfold aj;rw [aI DR];simp only [go_sem,FU];generalize hq:D P L (.loop [0,3,4] Fm) _=q;obtain ⟨ex,s,rfl,tm,hp,ct,rfl,rfl,t3,g0⟩:=bq hq (key n) ⟨0,by omega,.inl ⟨rfl,by simp only [go_sem,ya,av]<;>rfl⟩⟩
  simp only [go_sem,yb,av,t3,g0];exact rO (gZ _ _ _) (by simp) (by decide)
 ·rintro k s ⟨i,hk,aO⟩;by_cases hi:i<n
  ·left
   have dQ:(yk (i+1) [48]).map AV.str=(yk i [48]).map AV.str++[.str [48]]:=by rw [yaj,xg];rfl
   rcases aO with ⟨Q0,rfl⟩ | ⟨Q0,rfl⟩
   ·subst Q0;simp only [go_sem,ya,yb,xn,yF,yp,yf,Fm,show ((0:Nat):Int)<n by omega,fQ];refine ⟨_,k-1,rfl,by omega,1,by omega,.inr ⟨by omega,?_⟩⟩;rw [wrap64 (by omega) (by omega)];simp only [go_sem,ya,yb,av]<;>rfl
   ·simp only [go_sem,ya,yb,yp,yf,Fm,show (i:Int)<n by omega]
    rw [fC (ex:=false) (pu:=true) (cs:=(yk i [48]).map .str) (by simp only [go_sem,ya]) (by simp) (by omega) (by omega) (by decide) (by simp only [go_sem])];simp only [go_sem,ya,yb];refine ⟨_,k-1,rfl,by omega,i+1,by omega,.inr ⟨by omega,?_⟩⟩;rw [wrap64 (by omega) (by omega),dQ];simp only [go_sem,ya,yb,av]<;>rfl
  ·right
   have:i=n:=by omega
   subst this;rcases aO with ⟨Q0,rfl⟩ | ⟨Q0,rfl⟩
   ·omega
   ·simp only [go_sem,ya,Fm,show ¬(i:Int)<i by omega];exact ⟨_,_,rfl,by simp,_,_,_,rfl,rfl,by simp only [go_sem,ya],by simp only [go_sem]⟩
end
end
section
open Go (IntKind)
section
variable {P:aM} {L:Lib}
def al3 (h:Rm P L) (Gt:Has P L 261 Kg) (Gw:Has P L 343 FV) {v:AV} {M:List (List (List Nat))} (hv:bB bm v M) (hr:∀r,r∈M->∀s,s∈r->s.length<9223372036854775808):aj P L 343 [v] (ab (fe M)):=by
 unfold fe;by_cases h0:M.length=0
 ·rw [yT h0];unfold aj;rw [aI Gw];simp only [go_sem,ya,FV,hv.len,show (M.length:Int)=0 by omega,yr]
 rw [yD h0];by_cases Ej:64<M.length
 ·rw [yT Ej];unfold aj;rw [aI Gw];simp only [go_sem,ya,FV,hv.len,show ¬(M.length:Int)=0 by omega,show (64:Int)<M.length by omega,yr,ym]
 rw [yD Ej];obtain ⟨r0,aA6,eN,e0⟩:=hv.aU (i:=0) (by omega);rw [JT (by omega)];have key:=eP (P:=P) (L:=L) (live:=[0,3]) (a:=zM)
  (I:=fun k st=>∃i:Nat,st=⟨[(0,v),(3,ab i)],[],0,0⟩/\i+k=M.length/\cf ((M.drop i).map (mJ M[0].length))=cf (M.map (mJ M[0].length)))
  (Q:=fun ex st=>∃tm hp ct,st=⟨tm,hp,ct,0⟩/\((ex= .ret/\af tm 2=ab (cf (M.map (mJ M[0].length))))\/(ex= .exit 0/\cf (M.map (mJ M[0].length))=0))) ?_
 ·unfold aj;rw [aI Gw];simp only [go_sem,ya,FV,hv.len,show ¬(M.length:Int)=0 by omega,show ¬(64:Int)<M.length by omega,ym];generalize hq:D P L (.loop [0,3] zM) _=q;obtain ⟨ex,st,rfl,tm,hp,ct,rfl,h2⟩:=bq hq (key M.length) ⟨0,by simp only [go_sem,ya,av,aq hv.pu,au _ hv.pu]<;>rfl,by omega,by simp⟩
  rcases h2 with ⟨rfl,h2⟩ | ⟨rfl,h2⟩
  ·simp only [go_sem,h2]
  ·rw [h2];simp only [go_sem,av]
 ·rintro k st ⟨i,rfl,hk,hf⟩;by_cases hi:i<M.length
  ·obtain ⟨r,rest,cM,e1⟩:=hv.aU hi;have hm:=hr _ (yE hi);rw [aol hi] at hf;have w3:IntKind.wrap .i64 ((i:Int)+1)=((i+1:Nat):Int):=wrap64 (by omega) (by omega);by_cases c1:M[i].length=0
   ·right
    have hE:mJ M[0].length M[i]=12:=by unfold mJ;rw [yT c1];rfl
    rw [hE,yD (by decide)] at hf;simp only [go_sem,ya,zM,hv.len,show (i:Int)<M.length by omega,e1,cM.len,show (M[i].length:Int)=0 by omega,yr];exact ⟨_,_,rfl,by simp,_,_,_,rfl,.inl ⟨rfl,by rw [<-hf];simp only [go_sem]⟩⟩
   by_cases c2:64<M[i].length
   ·right
    have hE:mJ M[0].length M[i]=5:=by unfold mJ;rw [yD c1,yT c2];rfl
    rw [hE,yD (by decide)] at hf;simp only [go_sem,ya,zM,hv.len,show (i:Int)<M.length by omega,e1,cM.len,show ¬(M[i].length:Int)=0 by omega,show (64:Int)<(M[i].length:Nat) by omega,yr,ym];exact ⟨_,_,rfl,by simp,_,_,_,rfl,.inl ⟨rfl,by rw [<-hf];simp only [go_sem]⟩⟩
   have e2:=aA2 h Gt cM (by omega) hm;unfold aj at e2;by_cases c3:M[i].length=M[0].length
   ·have jd:decide ((M[i].length:Int)=(M[0].length:Nat))=true:=xx (by omega);have hE:mJ M[0].length M[i]=cf (M[i].map dc):=by
     unfold mJ;rw [yD c1,yD c2,yT c3];show cf [0,0,0,cf (M[i].map dc)]=_
     generalize cf (M[i].map dc)=q;by_cases h:q=0<;>simp [cf,h]
    rw [hE] at hf;by_cases c4:cf (M[i].map dc)=0
    ·left
     rw [yT c4] at hf;rw [c4] at e2;simp only [go_sem,ya,zM,hv.len,show (i:Int)<M.length by omega,e1,cM.len,cM.an,show ¬(M[i].length:Int)=0 by omega,show ¬(64:Int)<(M[i].length:Nat) by omega,yr,ym,nF,e0,eN.len,jd,yO,e2];refine ⟨_,k-1,rfl,by omega,i+1,?_,by omega,hf⟩;rw [w3];simp only [go_sem,ya,av,aq hv.pu,au _ hv.pu]<;>rfl
    ·right
     rw [yD c4] at hf;simp only [go_sem,ya,zM,hv.len,show (i:Int)<M.length by omega,e1,cM.len,cM.an,show ¬(M[i].length:Int)=0 by omega,show ¬(64:Int)<(M[i].length:Nat) by omega,yr,ym,nF,e0,eN.len,jd,yO,e2,c4,yM];exact ⟨_,_,rfl,by simp,_,_,_,rfl,.inl ⟨rfl,by rw [<-hf];simp only [go_sem]⟩⟩
   ·right
    have hE:mJ M[0].length M[i]=2:=by unfold mJ;rw [yD c1,yD c2,yD c3];rfl
    rw [hE,yD (by decide)] at hf;simp only [go_sem,ya,zM,hv.len,show (i:Int)<M.length by omega,e1,cM.len,show ¬(M[i].length:Int)=0 by omega,show ¬(64:Int)<(M[i].length:Nat) by omega,yr,ym,nF,e0,eN.len,show ¬(M[i].length:Int)=(M[0].length:Nat) by omega,yM];exact ⟨_,_,rfl,by simp,_,_,_,rfl,.inl ⟨rfl,by rw [<-hf];simp only [go_sem]⟩⟩
  ·right
   simp only [go_sem,ya,zM,hv.len,show ¬(i:Int)<M.length by omega];refine ⟨_,_,rfl,by simp,_,_,_,rfl,.inr ⟨rfl,?_⟩⟩;rw [<-hf,List.drop_eq_nil_of_le (by omega)];rfl
def al4 (fV:Has P L 351 iM) {v:AV} {M:List (List (List Nat))} (hv:bB bm v M) (h0:0<M.length):aj P L 351 [v] (ab (wd M)):=by
 obtain ⟨r0,aA6,eN,e0⟩:=hv.aU (i:=0) h0;unfold wd;rw [JT h0];unfold aj;rw [aI fV];simp only [go_sem,ya,iM,hv.len,show ¬(M.length:Int)=0 by omega,ym,nF,e0,eN.len]
def om (a b:List Rat):Nat->Rat
 | 0=>0
 | k+1=>om a b k+cE a k*cE b k
def aiZ {a b:List Rat} {K J:Nat} (ha:∀x,x∈a->Hq K x) (hb:∀x,x∈b->Hq J x) (hK:2<=K) (hJ:2<=J):∀k,Hq (2+k*(K+J+1)) (om a b k)
 | 0=>Gu.mono (by omega)
 | k+1=>by
  have:=(aiZ ha hb hK hJ k).add ((JV (c:=k) ha hK).mul (JV (c:=k) hb hJ))
  refine this.mono ?_
  grind
def aDl (h:Rn P L) (DS:Has P L 352 FW) {u v:AV} {a b:List Rat} (hu:bm u (a.map RT)) (hv:bm v (b.map RT)) (hl:a.length=b.length) (hn:a.length<=1000) {K J:Nat} (ka:∀x,x∈a->Hq K x) (kb:∀x,x∈b->Hq J x) (jV:2<=K) (hJ2:2<=J) (hK:K+J<=4000000):aj P L 352 [u,v] (.str (RT (om a b a.length))):=by
 have key:=eP (P:=P) (L:=L) (live:=[0,1,5,6]) (a:=Jq)
  (I:=fun k st=>∃i:Nat,st=⟨[(0,u),(1,v),(5,.str (RT (om a b i))),(6,ab i)],[],0,0⟩/\i+k=a.length)
  (Q:=fun ex st=>∃tm hp ct,st=⟨tm,hp,ct,0⟩/\ex= .exit 0/\af tm 5= .str (RT (om a b a.length))) ?_
 ·unfold aj;rw [aI DS];simp only [go_sem,FW];generalize hq:D P L (.loop [0,1,5,6] Jq) _=q;obtain ⟨ex,st,rfl,tm,hp,ct,rfl,rfl,t5⟩:=bq hq (key a.length) ⟨0,by rw [om,Zs];simp only [go_sem,ya,av,aq hu.pu,au _ hu.pu,aq hv.pu,au _ hv.pu]<;>rfl,by omega⟩
  simp only [go_sem,av,t5]
 ·rintro k st ⟨i,rfl,hk⟩;have lu:∀hp:Hp,fE hp 1 u=some (ab a.length):=fun hp=>by have:=hu.len (hp:=hp);rwa [yj] at this
  by_cases hi:i<a.length
  ·left
   have e1:=hu.aU (i:=i) (by rw [yj];exact hi)
   have e2:=hv.aU (i:=i) (by rw [yj];omega);rw [xo] at e1 e2;have k1:=ka _ (yE hi);have k2:=kb _ (yE (show i<b.length by omega));have e3:=Ua h k1 k2 (by omega);have kp:=aiZ ka kb jV hJ2 i;have hb:i*(K+J+1)<=1000*(4000000+1):=wu (by omega) (by omega);have e4:=ajJ h.toRp kp (k1.mul k2) (by omega);have hs:om a b (i+1)=om a b i+a[i]*b[i]'(by omega):=by rw [om,jH hi,jH (show i<b.length by omega)]
   rw [<-hs] at e4;have w3:IntKind.wrap .i64 ((i:Int)+1)=((i+1:Nat):Int):=wrap64 (by omega) (by omega);simp only [go_sem,ya,Jq,lu,show (i:Int)<a.length by omega,e1,e2,e3,e4];refine ⟨_,k-1,rfl,by omega,i+1,?_,by omega⟩;rw [w3];simp only [go_sem,ya,av,aq hu.pu,au _ hu.pu,aq hv.pu,au _ hv.pu]<;>rfl
  ·right
   have:i=a.length:=by omega
   subst this;simp only [go_sem,ya,Jq,lu,show ¬(a.length:Int)<a.length by omega];exact ⟨_,_,rfl,by simp,_,_,_,rfl,rfl,by simp only [go_sem,ya]⟩
def lO (M:List (List (List Nat))) (c:Nat):List (List Nat):=M.map fun r=>r.getD c []
def qC (M:List (List (List Nat))) (w:Nat):List (List (List Nat)):=(xe w).map (lO M)
def azw {v:AV} {M:List (List (List Nat))} (hv:bB bm v M) {w:Nat} (hw:∀r,r∈M->r.length=w) {c:Nat} (hc:c<w) (hl:M.length<=1000) {j:Nat} {out:List AV}:
  ∀d st,(∃(i:Nat),aJ [0,3,4,5,6] st=⟨[(0,v),(3,oV 0 j),(4,ab c),(5,oV (oC 0 j) i),(6,ab i)],oH (oC 0 j) 1 (((lO M c).take i).map .str) (oH 0 1 out [] j) i,oC (oC 0 j) i,0⟩/\i+d=M.length)->
   ∃ex s',D P L (.loop [0,3,4,5,6] C8) st=some (ex,s')/\∃tm ct,s'=⟨tm,oH (oC 0 j) 1 ((lO M c).map .str) (oH 0 1 out [] j) M.length,ct,0⟩/\ex= .exit 2/\af tm 0=v/\af tm 3=oV 0 j/\af tm 4=ab c/\af tm 5=oV (oC 0 j) M.length:=by
 intro dq sq;generalize a8:aJ [0,3,4,5,6] sq=s0;revert a8 s0 sq dq;apply cY;rintro d st ⟨i,rfl,hid⟩;have lc:(lO M c).length=M.length:=by simp [lO]
 by_cases hi:i<M.length
 ·left
  obtain ⟨r,rest,hr,e0⟩:=hv.aU hi;have wr:=hw _ (yE hi);have e1:=hr.aU (i:=c) (by omega);have gj:(i:Int)<M.length:=by omega
  have hs:((lO M c).take (i+1)).map AV.str=((lO M c).take i).map AV.str++[.str (M[i][c]'(by omega))]:=by
   rw [yW (by omega),xg];simp [lO,xf,xS (show c<M[i].length by omega)]
  have w6:IntKind.wrap .i64 ((i:Int)+1)=((i+1:Nat):Int):=wrap64 (by omega) (by omega)
  cases i with
  | zero=>
   cases j
   all_goals
    simp only [oV,oH,oC];simp only [go_sem,ya,yb,xn,yF,yp,yf,C8,hv.len,gj,e0,e1,fQ,w6];refine ⟨_,d-1,rfl,by omega,1,?_,by omega⟩;rw [hs];simp only [go_sem,ya,yb,av,aq hv.pu,au _ hv.pu,uK,vv,xC]<;>rfl
  | succ i=>
   cases j
   all_goals
    simp only [oV,oH,oC];simp only [go_sem,ya,yb,yp,yf,C8,hv.len,gj,e0,e1]
    rw [fC (ex:=false) (pu:=true) (cs:=((lO M c).take (i+1)).map .str) (by simp only [go_sem,ya]) (by rw [yj,yy,lc];omega) (by omega) (by omega) (by decide) (by simp only [go_sem])];simp only [go_sem,ya,yb,w6];refine ⟨_,d-1,rfl,by omega,i+1+1,?_,by omega⟩;rw [hs];simp only [go_sem,ya,yb,av,aq hv.pu,au _ hv.pu]<;>rfl
 ·right
  have:i=M.length:=by omega
  subst this;rw [yC (by omega)];have gj:¬(M.length:Int)<M.length:=by omega
  cases j
  all_goals
   simp only [go_sem,ya,yb,C8,hv.len,gj,oC];exact ⟨_,_,rfl,by simp,_,_,rfl,rfl,by simp only [go_sem,ya],by simp only [go_sem,ya],by simp only [go_sem,ya],by simp only [go_sem,ya]⟩
end
end
section
open Go (IntKind)
section
variable {P:aM} {L:Lib}
def aDm (JW:Has P L 351 iM) (K1:Has P L 347 Ks) {v:AV} {M:List (List (List Nat))} (hv:bB bm v M) (h0:0<M.length) (hl:M.length<=1000) (hw:∀r,r∈M->r.length=wd M) (mF:wd M<=1000):∃r,aj P L 347 [v] r/\bB bm (shut r) (qC M (wd M)):=by
 have ew:=al4 (P:=P) (L:=L) JW hv h0;unfold aj at ew;have lt:(qC M (wd M)).length=wd M:=by simp [qC]
 have lc:∀c,(lO M c).length=M.length:=fun c=>by simp [lO]
 have key:=eP (P:=P) (L:=L) (live:=[0,3,4]) (a:=Fo)
  (I:=fun k st=>∃(c:Nat) (out:List AV),st=⟨[(0,v),(3,oV 0 c),(4,ab c)],oH 0 1 out [] c,oC 0 c,0⟩/\c+k=wd M/\b7 bm out ((qC M (wd M)).take c))
  (Q:=fun ex st=>∃tm ct out,st=⟨tm,oH 0 1 out [] (wd M),ct,0⟩/\ex= .exit 0/\af tm 3=oV 0 (wd M)/\b7 bm out (qC M (wd M))) ?_
 ·unfold aj;rw [aI K1];simp only [go_sem,Ks];generalize hq:D P L (.loop [0,3,4] Fo) _=q;obtain ⟨ex,st,rfl,tm,ct,out,rfl,rfl,t3,hO⟩:=bq hq (key (wd M)) ⟨0,[],by simp only [go_sem,ya,av,oV,oH,oC,aq hv.pu,au _ hv.pu]<;>rfl,by omega,trivial⟩
  have lo:=hO.len;rw [lt] at lo
  cases hn:wd M with
  | zero=>
   rw [hn] at t3;refine ⟨.aa,by simp only [go_sem,av,t3,oV,oH],?_⟩
   have:qC M 0=[]:=rfl
   rw [this];exact rT
  | succ n=>
   rw [hn] at t3 lo hO;refine ⟨.bw false 1 (n+1) out,?_,?_⟩
   ·simp only [go_sem,yb,av,t3,oV,oH];exact rO (gZ _ _ _) (by rw [lo,yf]) (by decide)
   ·have:=rV false hO
    rwa [show (qC M (n+1)).length=n+1 by simp [qC]] at this
 ·rintro k st ⟨c,out,rfl,pX,hO⟩;have lo:=hO.len;rw [yy,lt,xm (by omega)] at lo;by_cases hc:c<wd M
  ·left
   have f0:=azw (P:=P) (L:=L) hv hw hc hl (j:=c) (out:=out) M.length;have mK:(c:Int)<wd M:=by omega
   have w4:IntKind.wrap .i64 ((c:Int)+1)=((c+1:Nat):Int):=wrap64 (by omega) (by omega);obtain ⟨n,hn⟩:∃n,M.length=n+1:=⟨M.length-1,by omega⟩;have rK:b7 bm (out++[.aB false (n+1) ((lO M c).map .str)]) ((qC M (wd M)).take (c+1)):=by
    rw [yW (by omega)];refine hO.snoc ?_
    have:=IX false (lO M c)
    rw [lc,hn] at this;simpa [qC] using this
   have fm:=fun hp:Hp=>kI (hp:=hp) (k:=n+1) (sz:=1) (cs:=(lO M c).map AV.str) false (by rw [yj,lc,hn,yf]) (by decide)
   have fH:∀st,aJ [0,3,4,5,6] st=⟨[(0,v),(3,oV 0 c),(4,ab c),(5,oV (oC 0 c) 0),(6,ab (0:Nat))],oH (oC 0 c) 1 (((lO M c).take 0).map .str) (oH 0 1 out [] c) 0,oC (oC 0 c) 0,0⟩->_:=fun st aO=>f0 st ⟨0,aO,by omega⟩
   rw [hn] at fH
   cases c with
   | zero=>
    have:out=[]:=yo lo
    subst this;simp only [oV,oH,oC] at fH ⊢;simp only [go_sem,ya,yb,Fo,ew,mK,hv.an];generalize hq:D P L (.loop [0,3,4,5,6] C8) _=q;obtain ⟨ex,st,rfl,tm,ct,rfl,rfl,t0,t3,t4,t5⟩:=bq hq fH (by simp only [go_sem,ya,av,aq hv.pu,au _ hv.pu]<;>rfl)
    simp only [go_sem,ya,yb,xn,yF,yp,yf,av,t0,t3,t4,t5,aq hv.pu,au _ hv.pu,fm,fQ,w4];refine ⟨_,k-1,rfl,by omega,1,_,?_,by omega,rK⟩;simp only [go_sem,ya,yb,av,aq hv.pu,au _ hv.pu]<;>rfl
   | succ c=>
    simp only [oV,oH,oC] at fH ⊢;simp only [go_sem,ya,yb,Fo,ew,mK,hv.an];generalize hq:D P L (.loop [0,3,4,5,6] C8) _=q;obtain ⟨ex,st,rfl,tm,ct,rfl,rfl,t0,t3,t4,t5⟩:=bq hq fH (by simp only [go_sem,ya,yb,av,aq hv.pu,au _ hv.pu]<;>rfl)
    simp only [go_sem,ya,yb,yp,yf,av,t0,t3,t4,t5,aq hv.pu,au _ hv.pu,fm]
    rw [fC (ex:=false) (pu:=true) (cs:=out) (by simp only [go_sem,ya]) (by rw [lo,yf]) (by omega) (by omega) (by decide) (by simp only [go_sem])];simp only [go_sem,ya,yb,w4];refine ⟨_,k-1,rfl,by omega,c+1+1,_,?_,by omega,rK⟩;simp only [go_sem,ya,yb,av,aq hv.pu,au _ hv.pu]<;>rfl
  ·right
   have:c=wd M:=by omega
   subst this;rw [yC (by omega)] at hO;have mK:¬(wd M:Int)<wd M:=by omega
   simp only [go_sem,ya,Fo,ew,mK,hv.an];exact ⟨_,_,rfl,by simp,_,_,out,rfl,rfl,by simp only [go_sem,ya],hO⟩
def ot (M:Mx) (x:List Rat):List Rat:=M.map fun r=>om r x r.length
def aDn (h:Rn P L) (DS:Has P L 352 FW) (K2:Has P L 349 Kt) {u v:AV} {M:Mx} {x:List Rat} (hu:bB bm u (M.map (xv RT))) (hv:bm v (x.map RT)) (hw:∀r,r∈M->r.length=x.length) (hn:x.length<=1000) (hl:M.length<=1000) {K J:Nat} (ka:∀r,r∈M->∀z,z∈r->Hq K z) (kb:∀z,z∈x->Hq J z) (jV:2<=K) (hJ2:2<=J) (hK:K+J<=4000000):
  ∃r,aj P L 349 [u,v] r/\bm (shut r) ((ot M x).map RT):=by
 have lA:(ot M x).length=M.length:=by simp [ot]
 have key:=eP (P:=P) (L:=L) (live:=[0,1,5,6]) (a:=Fq)
  (I:=fun k st=>∃(i:Nat),st=⟨[(0,u),(1,v),(5,oV 0 i),(6,ab i)],oH 0 1 ((((ot M x).take i).map RT).map .str) [] i,oC 0 i,0⟩/\i+k=M.length)
  (Q:=fun ex st=>∃tm ct,st=⟨tm,oH 0 1 (((ot M x).map RT).map .str) [] M.length,ct,0⟩/\ex= .exit 0/\af tm 5=oV 0 M.length) ?_
 ·unfold aj;rw [aI K2];simp only [go_sem,Kt];generalize hq:D P L (.loop [0,1,5,6] Fq) _=q;obtain ⟨ex,st,rfl,tm,ct,rfl,rfl,t5⟩:=bq hq (key M.length) ⟨0,by simp only [go_sem,ya,av,oV,oH,oC,aq hu.pu,au _ hu.pu,aq hv.pu,au _ hv.pu]<;>rfl,by omega⟩
  cases iE:M.length with
  | zero=>
   rw [iE] at t5;refine ⟨.aa,by simp only [go_sem,av,t5,oV,oH],?_⟩;rw [yo (lA.trans iE)];exact oW
  | succ n=>
   rw [iE] at t5;refine ⟨.bw false 1 (n+1) (((ot M x).map RT).map .str),?_,?_⟩
   ·simp only [go_sem,yb,av,t5,oV,oH];exact rO (gZ _ _ _) (by simp [lA,iE]) (by decide)
   ·have:=IX false ((ot M x).map RT)
    rwa [yj,lA,iE] at this
 ·rintro k st ⟨i,rfl,hik⟩;have lu:∀hp:Hp,fE hp 1 u=some (ab M.length):=fun hp=>by have:=hu.len (hp:=hp);rwa [yj] at this
  by_cases hi:i<M.length
  ·left
   obtain ⟨r,rest,hr,e0⟩:=hu.aU (i:=i) (by rw [yj];exact hi)
   rw [xo] at hr;have hm:=yE hi;have e1:=aDl h DS hr hv (hw _ hm) (by rw [hw _ hm];exact hn) (ka _ hm) kb jV hJ2 hK
   have gj:(i:Int)<M.length:=by omega
   have hs:(((ot M x).take (i+1)).map RT).map AV.str=(((ot M x).take i).map RT).map AV.str++[.str (RT (om M[i] x M[i].length))]:=by
    rw [yW (by omega),xg,xg];simp [ot]
   have w6:IntKind.wrap .i64 ((i:Int)+1)=((i+1:Nat):Int):=wrap64 (by omega) (by omega);unfold aj at e1
   cases i with
   | zero=>
    simp only [oV,oH,oC];simp only [go_sem,ya,yb,xn,yF,yp,yf,Fq,lu,gj,e0,hr.an,hv.an,e1,fQ,w6];refine ⟨_,k-1,rfl,by omega,1,?_,by omega⟩;rw [hs];simp only [go_sem,ya,yb,av,aq hu.pu,au _ hu.pu,aq hv.pu,au _ hv.pu,uK,vv,xC]<;>rfl
   | succ i=>
    simp only [oV,oH,oC];simp only [go_sem,ya,yb,yp,yf,Fq,lu,gj,e0,hr.an,hv.an,e1]
    rw [fC (ex:=false) (pu:=true) (cs:=(((ot M x).take (i+1)).map RT).map .str) (by simp only [go_sem,ya]) (by simp [lA];omega) (by omega) (by omega) (by decide) (by simp only [go_sem])];simp only [go_sem,ya,yb,w6];refine ⟨_,k-1,rfl,by omega,i+1+1,?_,by omega⟩;rw [hs];simp only [go_sem,ya,yb,av,aq hu.pu,au _ hu.pu,aq hv.pu,au _ hv.pu]<;>rfl
  ·right
   have:i=M.length:=by omega
   subst this;rw [yC (by omega)];have gj:¬(M.length:Int)<M.length:=by omega
   simp only [go_sem,ya,Fq,lu,gj];exact ⟨_,_,rfl,by simp,_,_,rfl,rfl,by simp only [go_sem,ya]⟩
def CA (B:Mx) (w:Nat):Mx:=(xe w).map fun c=>B.map fun r=>cE r c
def atp {B:List (List (List Nat))} {w:Nat} (hc:∀r,r∈B->r.length=w/\∀s,s∈r->dc s=0):qC B w=(CA (bn B) w).map (xv RT):=by
 unfold qC CA;rw [wh];refine vz fun c mK=>?_
 have mK:=List.mem_range.1 mK;simp only [uG,lO,bn,wh];refine vz fun r hr=>?_
 obtain ⟨h1,h2⟩:=hc r hr;simp only [uG];rw [jH (by rw [yj];omega),xo,xf,xS (show c<r.length by omega),Option.getD_some];exact (IK (h2 _ (yE _))).1
def ahG (a:List Rat) (B:Mx) (c:Nat) (hl:a.length=B.length):∀k,k<=B.length->om (B.map fun r=>cE r c) a k=oR a B c k
 | 0,_=>rfl
 | k+1,hk=>by
  rw [om,oR,ahG a B c hl k (by omega),jH (show k<(B.map fun r=>cE r c).length by rw [yj];omega),xo,eS (by omega)]
  grind
def atq {a:List Rat} {B:Mx} {w:Nat} (hl:a.length=B.length):ot (CA B w) a=mulR a B w:=by
 unfold ot CA mulR;rw [wh];refine vz fun c _=>?_
 simp only [uG];rw [yj,ahG a B c hl _ (yv _),hl]
end
end
section
open Go (IntKind)
section
variable {P:aM} {L:Lib}
def S6 {A:List (List (List Nat))} (h:∀r,r∈A->∀s,s∈r->dc s=0):(bn A).map (xv RT)=A:=by
 unfold bn;rw [wh]
 have:∀r,r∈A->(xv RT∘xv fZ) r=r:=fun r hr=>by
  simp only [uG,wh]
  have:∀s,s∈r->(RT∘fZ) s=s:=fun s hs=>(IK (h r hr s hs)).1.symm
  rw [vz this];exact ybG r
 rw [vz this];exact ybG A
def aDo (h:Rn P L) (K1:Has P L 347 Ks) (Zv:Has P L 348 OI) (K2:Has P L 349 Kt) (fV:Has P L 351 iM) (DS:Has P L 352 FW) {u v:AV} {A B:List (List (List Nat))} (hu:bB bm u A) (hv:bB bm v B) (ha:fe A=0) (hb:fe B=0) (qD:wd A=B.length) {K:Nat} (ka:cx K (bn A)) (kb:cx K (bn B)) (jV:2<=K) (hK:K<=1000000):
  ∃r,aj P L 348 [u,v] r/\bB bm (shut r) ((gD (bn A) (bn B) (wd B)).map (xv RT)):=by
 obtain ⟨a0,a64,ao⟩:=qV ha;obtain ⟨b0,b64,bo⟩:=qV hb;have lA:=nL A;have lB:=nL B;have QZ:=bo _ (yE b0);have wB:=A3 (M:=B) (fun r bJ=>(bo r bJ).1);have wA:=A3 (M:=A) (fun r bJ=>(ao r bJ).1);obtain ⟨t,e1,ht⟩:=aDm (P:=P) (L:=L) fV K1 hv b0 (by omega) (fun r hr=>(bo r hr).1) (by have h1:B[0].length=wd B:=QZ.1;omega);rw [atp (fun r hr=>⟨(bo r hr).1,(bo r hr).2.2.2⟩)] at ht;have al5:∀r,r∈CA (bn B) (wd B)->r.length=B.length/\∀z,z∈r->Hq K z:=fun r hr=>by
  obtain ⟨c,_,rfl⟩:=wQ.1 hr;refine ⟨by rw [yj,lB],fun z hz=>?_⟩;obtain ⟨q,hq,rfl⟩:=wQ.1 hz;exact JV (EX kb hq) jV
 have lT:(CA (bn B) (wd B)).length=wd B:=by simp [CA]
 have L7:=S6 (A:=A) (fun r hr=>(ao r hr).2.2.2);have iH:bB bm u ((bn A).map (xv RT)):=by rw [L7];exact hu
 have lQ:(gD (bn A) (bn B) (wd B)).length=A.length:=by simp [gD,lA]
 unfold aj at e1;have key:=eP (P:=P) (L:=L) (live:=[0,5,6,7]) (a:=Fp)
  (I:=fun k st=>∃(i:Nat) (out:List AV),i+k=A.length/\b7 bm out (((gD (bn A) (bn B) (wd B)).take i).map (xv RT))/\st=⟨[(0,u),(5,shut t),(6,oV 0 i),(7,ab i)],oH 0 1 out [] i,oC 0 i,0⟩)
  (Q:=fun ex st=>∃tm ct out,st=⟨tm,oH 0 1 out [] A.length,ct,0⟩/\ex= .exit 0/\af tm 6=oV 0 A.length/\b7 bm out ((gD (bn A) (bn B) (wd B)).map (xv RT))) ?_
 ·unfold aj;rw [aI Zv];simp only [go_sem,ya,OI,hv.an,e1];generalize hq:D P L (.loop [0,5,6,7] Fp) _=q;obtain ⟨ex,st,rfl,tm,ct,out,rfl,rfl,t6,hO⟩:=bq hq (key A.length) ⟨0,[],by omega,trivial,by simp only [go_sem,ya,av,oV,oH,oC,aq hu.pu,au _ hu.pu,aq ht.pu,au _ ht.pu]<;>rfl⟩
  have lo:=hO.len;rw [yj,lQ] at lo;obtain ⟨n,hn⟩:∃n,A.length=n+1:=⟨A.length-1,by omega⟩;rw [hn] at t6 lo ⊢;refine ⟨.bw false 1 (n+1) out,?_,?_⟩
  ·simp only [oV,oH] at t6 ⊢;simp only [go_sem,yb,av,t6];exact rO (gZ _ _ _) (by rw [lo,yf]) (by decide)
  ·have:=rV false hO
   rwa [yj,lQ,hn] at this
 ·rintro k st ⟨i,out,hk,hO,rfl⟩;by_cases hi:i<A.length
  ·left
   obtain ⟨r,rest,hr,e0⟩:=iH.aU (i:=i) (by rw [yj];omega);rw [xo] at hr;have oQ:i<(bn A).length:=by omega
   have hm:=yE oQ;have lr:=CT wA hm;obtain ⟨x,e2,hx⟩:=aDn h DS K2 (M:=CA (bn B) (wd B)) (x:=(bn A)[i]) ht hr (fun q hq=>by rw [(al5 q hq).1,lr,qD]) (by omega) (by
    have h1:B[0].length=wd B:=QZ.1
    omega) (fun q hq=>(al5 q hq).2) (EX ka hm) jV jV (by omega)
   rw [atq (by rw [lr,qD,lB])] at hx;have gj:(i:Int)<A.length:=by omega
   have w7:IntKind.wrap .i64 ((i:Int)+1)=((i+1:Nat):Int):=wrap64 (by omega) (by omega);have rK:b7 bm (out++[shut x]) (((gD (bn A) (bn B) (wd B)).take (i+1)).map (xv RT)):=by
    rw [yW (by omega),xg];refine hO.snoc ?_;simpa [gD] using hx
   have lo:=hO.len;rw [yj,yy,lQ,xm (by omega)] at lo;unfold aj at e2
   cases i with
   | zero=>
    have:out=[]:=yo lo
    subst this;simp only [go_sem,ya,yb,xn,yF,yp,yf,Fp,oV,oH,oC,hu.len,gj,e0,hr.an,ht.an,e2,hx.pu,hx.one,hx.cells,fQ,w7];refine ⟨_,k-1,rfl,by omega,1,_,by omega,rK,?_⟩;simp only [go_sem,ya,yb,av,aq hu.pu,au _ hu.pu,aq ht.pu,au _ ht.pu]<;>rfl
   | succ i=>
    simp only [go_sem,ya,yb,yp,yf,Fp,oV,oH,oC,hu.len,gj,e0,hr.an,ht.an,e2,hx.pu,hx.one,hx.cells]
    rw [fC (ex:=false) (pu:=true) (cs:=out) (by simp only [go_sem,ya]) (by rw [lo,yf]) (by omega) (by omega) (by decide) (by simp only [go_sem,hx.one])];simp only [go_sem,ya,yb,hx.pu,w7];refine ⟨_,k-1,rfl,by omega,i+1+1,_,by omega,rK,?_⟩;simp only [go_sem,ya,yb,av,aq hu.pu,au _ hu.pu,aq ht.pu,au _ ht.pu]<;>rfl
  ·right
   have:i=A.length:=by omega
   subst this;rw [yC (by omega)] at hO;have gj:¬(A.length:Int)<A.length:=by omega
   simp only [go_sem,ya,Fp,hu.len,gj];exact ⟨_,_,rfl,by simp,_,_,out,rfl,rfl,by simp only [go_sem,ya],hO⟩
end
end
section
open Go (IntKind)
def Ap (n l:Nat):Bool:= !((decide (n<l)&&decide (l<=64))||decide (66<l))
def zn (n:Nat) (r:List (List Nat)):Bool:=Ap n r.length&&su r
def CB (n:Nat) (M:List (List (List Nat))):Bool:=Ap n M.length&&M.all (zn n)
def EY {n l:Nat} (h:Ap n l=true):l<=n\/(64<l/\l<=66):=by
 unfold Ap at h
 grind
def ai0 {n:Nat} {M:List (List (List Nat))} (hn:n<=64) (h:CB n M=true):M.length<=66/\∀r,r∈M->r.length<=66/\∀s,s∈r->s.length<=40:=by
 obtain ⟨h1,h2⟩:=vV.1 h;have h3:=EY h1;refine ⟨by omega,fun r hr=>?_⟩;have h4:=tf.1 h2 r hr;obtain ⟨h5,h6⟩:=vV.1 h4;have h7:=EY h5;refine ⟨by omega,fun s hs=>?_⟩
 have:=tf.1 h6 s hs
 grind
def avI {n:Nat} {M:List (List (List Nat))} (h:CB n M=true) (hE:fe M=0):M.length<=n/\wd M<=n:=by
 obtain ⟨m0,m64,ho⟩:=qV hE;obtain ⟨h1,h2⟩:=vV.1 h;have h3:=EY h1;have hm:=yE m0;have h4:=tf.1 h2 _ hm;obtain ⟨h5,_⟩:=vV.1 h4;have h6:=EY h5
 grind
section
variable {P:aM} {L:Lib}
def azx {v:AV} {M:List (List (List Nat))} (hv:bB bm v M) {n i:Nat} (hi:i<M.length) (hl:M.length<=1000000) (hr:M[i].length<=1000000) (hs:∀s,s∈M[i]->s.length<9223372036854775808):
  ∀(d:Nat) (st:St),(∃k:Nat,aJ [0,1,5,22,23,53,54] st=⟨[(0,v),(1,ab n),(5,ab i),(22,ab M.length),(23,ab i),(53,ab M[i].length),(54,ab k)],[],0,0⟩/\k+d=M[i].length/\su (M[i].drop k)=su M[i])->
   ∃ex s',D P L (.loop [0,1,5,22,23,53,54] Db) st=some (ex,s')/\∃tm hp ct,s'=⟨tm,hp,ct,0⟩/\((ex= .ret/\af tm 4= .bool false/\su M[i]=false)\/(ex= .exit 2/\su M[i]=true/\hp=[]/\af tm 0=v/\af tm 1=ab n/\af tm 22=ab M.length/\af tm 23=ab i)):=by
 intro dq sq;generalize a8:aJ [0,1,5,22,23,53,54] sq=s0;revert a8 s0 sq dq;apply cY;rintro d st ⟨k,rfl,hk,hd⟩;obtain ⟨r,rest,cM,e0⟩:=hv.aU hi;by_cases nt:k<M[i].length
 ·rw [apF nt] at hd;have e1:=cM.aU nt;have wk:IntKind.wrap .i64 ((k:Int)+1)=((k+1:Nat):Int):=wrap64 (by omega) (by omega);have hb:=hs _ (yE nt);by_cases h1:M[i][k].length<=40
  ·left
   rw [xx h1,xY] at hd;simp only [go_sem,ya,Db,show (k:Int)<M[i].length by omega,e0,e1,show ¬(40:Int)<(M[i][k].length:Int) by omega,ym];refine ⟨_,d-1,rfl,by omega,k+1,?_,by omega,hd⟩;rw [wk];simp only [go_sem,ya,av,aq hv.pu,au _ hv.pu]<;>rfl
  ·right
   rw [xa h1,xP] at hd;simp only [go_sem,ya,Db,show (k:Int)<M[i].length by omega,e0,e1,show (40:Int)<(M[i][k].length:Int) by omega,yr];exact ⟨_,_,rfl,by simp,_,_,_,rfl,.inl ⟨rfl,by simp only [go_sem],hd.symm⟩⟩
 ·right
  have:k=M[i].length:=by omega
  subst this;simp only [go_sem,ya,Db,show ¬(M[i].length:Int)<M[i].length by omega,ym];refine ⟨_,_,rfl,by simp,_,_,_,rfl,.inr ⟨rfl,?_,rfl,by simp only [go_sem,ya],by simp only [go_sem,ya],by simp only [go_sem,ya],by simp only [go_sem,ya]⟩⟩;rw [<-hd,uO];rfl
def al6 (P0:Has P L 409 BF) {v:AV} {M:List (List (List Nat))} (hv:bB bm v M) (n:Nat) (hr:∀r,r∈M->∀s,s∈r->s.length<9223372036854775808) (hn:n<=64):aj P L 409 [v,ab n] (.bool (CB n M)):=by
 have few:∀l:Nat,(decide ((n:Int)<l)&&decide ((l:Int)<=64)||decide ((66:Int)<l))= !Ap n l:=fun l=>by
  unfold Ap;rw [Bool.not_not,show decide ((n:Int)<l)=decide (n<l) by rw [tZ];omega,show decide ((l:Int)<=64)=decide (l<=64) by rw [tZ];omega,show decide ((66:Int)<l)=decide (66<l) by rw [tZ];omega]
 have key:=fun hl:M.length<=66=>eP (P:=P) (L:=L) (live:=[0,1,22,23]) (a:=se)
  (I:=fun k st=>∃i:Nat,st=⟨[(0,v),(1,ab n),(22,ab M.length),(23,ab i)],[],0,0⟩/\i+k=M.length/\(M.drop i).all (zn n)=M.all (zn n))
  (Q:=fun ex st=>∃tm hp ct,st=⟨tm,hp,ct,0⟩/\((ex= .ret/\af tm 4= .bool false/\M.all (zn n)=false)\/(ex= .exit 0/\M.all (zn n)=true))) (?_:∀(k:Nat) (st:St),_->_)
 ·have f:=few M.length;unfold aj;rw [aI P0];unfold CB
  cases hf:Ap n M.length with
  | false=>
   rw [hf] at f;by_cases h1:n<M.length
   ·by_cases h2:M.length<=64
    ·simp only [go_sem,ya,BF,hv.len,show (n:Int)<M.length by omega,show (M.length:Int)<=64 by omega,yr,xP]
    ·have h3:66<M.length:=by
      rw [xx (show (n:Int)<M.length by omega),xa (show ¬(M.length:Int)<=64 by omega)] at f;simp only [xY,vH,yM,xW] at f;omega
     simp only [go_sem,ya,BF,hv.len,show (n:Int)<M.length by omega,show ¬(M.length:Int)<=64 by omega,show (66:Int)<M.length by omega,yr,ym,xP]
   ·have h3:66<M.length:=by
     rw [xa (show ¬(n:Int)<M.length by omega)] at f;simp only [xP,vH,yM,xW] at f;omega
    simp only [go_sem,ya,BF,hv.len,show ¬(n:Int)<M.length by omega,show (66:Int)<M.length by omega,yr,ym,xP]
  | true=>
   have nX:=EY hf;rw [xY];rcases nX with nX | ⟨c1,c2⟩
   ·simp only [go_sem,ya,BF,hv.len,show ¬(n:Int)<M.length by omega,show ¬(66:Int)<M.length by omega,ym];generalize hq:D P L (.loop [0,1,22,23] se) _=q;obtain ⟨ex,st,rfl,tm,hp,ct,rfl,h2⟩:=bq hq (key (by omega) M.length) ⟨0,by simp only [go_sem,ya,av,aq hv.pu,au _ hv.pu]<;>rfl,by omega,rfl⟩
    rcases h2 with ⟨rfl,t4,h3⟩ | ⟨rfl,h3⟩
    ·rw [h3];simp only [go_sem,t4]
    ·rw [h3];simp only [go_sem,av]
   ·simp only [go_sem,ya,BF,hv.len,show (n:Int)<M.length by omega,show ¬(M.length:Int)<=64 by omega,show ¬(66:Int)<M.length by omega,yr,ym];generalize hq:D P L (.loop [0,1,22,23] se) _=q;obtain ⟨ex,st,rfl,tm,hp,ct,rfl,h2⟩:=bq hq (key (by omega) M.length) ⟨0,by simp only [go_sem,ya,av,aq hv.pu,au _ hv.pu]<;>rfl,by omega,rfl⟩
    rcases h2 with ⟨rfl,t4,h3⟩ | ⟨rfl,h3⟩
    ·rw [h3];simp only [go_sem,t4]
    ·rw [h3];simp only [go_sem,av]
 ·rintro k st ⟨i,rfl,hk,hd⟩;by_cases hi:i<M.length
  ·obtain ⟨r,rest,cM,e0⟩:=hv.aU hi;have hm:=hr _ (yE hi);have f:=few M[i].length;rw [yS hi,List.all_cons] at hd;have w23:IntKind.wrap .i64 ((i:Int)+1)=((i+1:Nat):Int):=wrap64 (by omega) (by omega);have fH:M[i].length<=66->∀st,aJ [0,1,5,22,23,53,54] st=⟨[(0,v),(1,ab n),(5,ab i),(22,ab M.length),(23,ab i),(53,ab M[i].length),(54,ab (0:Nat))],[],0,0⟩->_:=fun h66 st aO=>azx (P:=P) (L:=L) hv (n:=n) hi (by omega) (by omega) hm M[i].length st ⟨0,aO,by omega,rfl⟩
   have jm:zn n M[i]=(Ap n M[i].length&&su M[i]):=rfl;rw [jm] at hd
   cases hf:Ap n M[i].length with
   | false=>
    right
    rw [hf] at f hd;simp only [xP] at hd;by_cases h1:n<M[i].length
    ·by_cases h2:M[i].length<=64
     ·simp only [go_sem,ya,se,show (i:Int)<M.length by omega,e0,cM.len,show (n:Int)<M[i].length by omega,show (M[i].length:Int)<=64 by omega,yr];exact ⟨_,_,rfl,by simp,_,_,_,rfl,.inl ⟨rfl,by simp only [go_sem],hd.symm⟩⟩
     ·have h3:66<M[i].length:=by
       rw [xx (show (n:Int)<M[i].length by omega),xa (show ¬(M[i].length:Int)<=64 by omega)] at f;simp only [xY,vH,yM,xW] at f;omega
      simp only [go_sem,ya,se,show (i:Int)<M.length by omega,e0,cM.len,show (n:Int)<M[i].length by omega,show ¬(M[i].length:Int)<=64 by omega,show (66:Int)<M[i].length by omega,yr,ym];exact ⟨_,_,rfl,by simp,_,_,_,rfl,.inl ⟨rfl,by simp only [go_sem],hd.symm⟩⟩
    ·have h3:66<M[i].length:=by
      rw [xa (show ¬(n:Int)<M[i].length by omega)] at f;simp only [xP,vH,yM,xW] at f;omega
     simp only [go_sem,ya,se,show (i:Int)<M.length by omega,e0,cM.len,show ¬(n:Int)<M[i].length by omega,show (66:Int)<M[i].length by omega,yr,ym];exact ⟨_,_,rfl,by simp,_,_,_,rfl,.inl ⟨rfl,by simp only [go_sem],hd.symm⟩⟩
   | true=>
    have nX:=EY hf;rw [hf,xY] at hd;have main:∀q,(∃ex s',q=some (ex,s')/\∃tm hp ct,s'=⟨tm,hp,ct,0⟩/\((ex= .ret/\af tm 4= .bool false/\su M[i]=false)\/(ex= .exit 2/\su M[i]=true/\hp=[]/\af tm 0=v/\af tm 1=ab n/\af tm 22=ab M.length/\af tm 23=ab i)))->
      (∃s' k',jL P L (mX 1 (jL P L (mX 2 q) (.kp [0,1,22,23]))) (.aH [qa 67 23 1,qm 23 67])=some (.normal,s')/\k'<k/\∃i:Nat,aJ [0,1,22,23] s'=⟨[(0,v),(1,ab n),(22,ab M.length),(23,ab i)],[],0,0⟩/\i+k'=M.length/\(M.drop i).all (zn n)=M.all (zn n))\/
      ∃ex s',jL P L (mX 1 (jL P L (mX 2 q) (.kp [0,1,22,23]))) (.aH [qa 67 23 1,qm 23 67])=some (ex,s')/\ex≠.normal/\∃tm hp ct,s'=⟨tm,hp,ct,0⟩/\((ex= .ret/\af tm 4= .bool false/\M.all (zn n)=false)\/(ex= .exit 0/\M.all (zn n)=true)):=by
     rintro q ⟨ex,s',rfl,tm,hp,ct,rfl,h2⟩;rcases h2 with ⟨rfl,t4,h3⟩ | ⟨rfl,h3,rfl,t0,t1,t22,t23⟩
     ·right
      rw [h3,xP] at hd;simp only [go_sem];exact ⟨_,_,rfl,by simp,_,_,_,rfl,.inl ⟨rfl,t4,hd.symm⟩⟩
     ·left
      rw [h3,xY] at hd;simp only [go_sem,ya,av,t0,t1,t22,t23,aq hv.pu,au _ hv.pu,w23];refine ⟨_,k-1,rfl,by omega,i+1,?_,by omega,hd⟩;simp only [go_sem,ya,av,aq hv.pu,au _ hv.pu]<;>rfl
    rcases nX with nX | ⟨c1,c2⟩
    ·simp only [go_sem,ya,se,show (i:Int)<M.length by omega,e0,cM.len,show ¬(n:Int)<M[i].length by omega,show ¬(66:Int)<M[i].length by omega,yr,ym];generalize hq:D P L (.loop [0,1,5,22,23,53,54] Db) _=q;exact main q (by rw [<-hq];exact fH (by omega) _ (by simp only [go_sem,ya,av,aq hv.pu,au _ hv.pu]<;>rfl))
    ·simp only [go_sem,ya,se,show (i:Int)<M.length by omega,e0,cM.len,show (n:Int)<M[i].length by omega,show ¬(M[i].length:Int)<=64 by omega,show ¬(66:Int)<M[i].length by omega,yr,ym];generalize hq:D P L (.loop [0,1,5,22,23,53,54] Db) _=q;exact main q (by rw [<-hq];exact fH (by omega) _ (by simp only [go_sem,ya,av,aq hv.pu,au _ hv.pu]<;>rfl))
  ·right
   have:i=M.length:=by omega
   subst this;simp only [go_sem,ya,se,show ¬(M.length:Int)<M.length by omega,ym];refine ⟨_,_,rfl,by simp,_,_,_,rfl,.inr ⟨rfl,?_⟩⟩;rw [<-hd,uO];rfl
end
end
section
open Go (IntKind)
def AT (id:Nat) (o:Obj) (j:Nat):∀hp:Hp,ay (a6 hp id o) j=if j=id then (ay hp id).map (fun _=>o) else ay hp j
 | []=>by by_cases h:j=id<;>simp [a6,ay,h]
 | (i,u)::r=>by
  have ih:=AT id o j r;by_cases h1:i=id
  ·subst h1;rw [adU];by_cases h2:j=i
   ·subst h2;rw [yT rfl,gZ,gZ];rfl
   ·rw [yD h2,jo _ _ (fun e=>h2 e.symm),jo _ _ (fun e=>h2 e.symm)]
  ·rw [acX _ _ _ h1];by_cases h2:j=i
   ·subst h2;rw [yD h1,gZ,gZ]
   ·rw [jo _ _ (fun e=>h2 e.symm),ih,jo _ _ h1,jo _ _ (fun e=>h2 e.symm)]
def Sy {hp:Hp} {id:Nat} {u:Obj} (h:ay hp id=some u) (o:Obj) (j:Nat):ay (a6 hp id o) j=if j=id then some o else ay hp j:=by
 rw [AT,h];rfl
def EH (id j:Nat):∀hp:Hp,ay (dK hp id) j=if j=id then none else ay hp j
 | []=>by split<;>rfl
 | (i,u)::r=>by
  have ih:=EH id j r;by_cases h1:i=id
  ·subst h1;rw [adV,ih];by_cases h2:j=i
   ·rw [yT h2,yT h2]
   ·rw [yD h2,yD h2,jo _ _ (fun e=>h2 e.symm)]
  ·rw [acY _ _ h1];by_cases h2:j=i
   ·subst h2;rw [yD h1,gZ,gZ]
   ·rw [jo _ _ (fun e=>h2 e.symm),ih,jo _ _ (fun e=>h2 e.symm)]
def aep (i:Nat):∀l:List Nat,jx i l=true↔i∈l
 | []=>by simp [jx]
 | j::r=>by
  by_cases h:j=i
  ·subst h;simp [ad0]
  ·rw [ac3 _ h,aep i r];simp [show ¬i=j from fun e=>h e.symm]
def atr {i:Nat} {l:List Nat} (h:i∉l):jx i l=false:=by
 cases hq:jx i l with
 | false=>rfl
 | true=>exact absurd ((aep i l).1 hq) h
def ahH (hp:Hp):∀(ids seen fS:List Nat) (n:Nat),ids.length<n->(∀i,i∈ids->∃o,ay hp i=some o/\kM o=[])->ids.Nodup->(∀i,i∈ids->i∉seen)->mE hp n (ids++fS) seen=mE hp (n-ids.length) fS (seen++ids)
 | [],seen,fS,n,_,_,_,_=>by simp
 | i::ids,seen,fS,0,h,_,_,_=>by simp at h
 | i::ids,seen,fS,n+1,h,h1,h2,h3=>by
  obtain ⟨o,g,e⟩:=h1 i vD;have hn:=uT.1 h2
  rw [xk,Sp,atr (h3 i vD),Tm,g,Tn,e,xC,ahH hp ids (seen++[i]) fS n (by simpa using h) (fun j hj=>h1 j (wS _ hj)) hn.2 (fun j hj hm=>by
   rcases wK.1 hm with hm | hm
   ·exact h3 j (wS _ hj) hm
   ·simp only [wV] at hm
    subst hm;exact hn.1 hj)]
  simp only [yI,List.append_assoc,xk,xC];rw [show n+1-(ids.length+1)=n-ids.length by omega]
def avJ (hp:Hp) {n:Nat} (h:0<n) (seen:List Nat):mE hp n [] seen=seen:=by
 obtain ⟨m,rfl⟩:∃m,n=m+1:=⟨n-1,by omega⟩;exact ahv hp m seen
def Sz (hp:Hp) (f:Nat->Option Nat):∀(seen:List Nat) (k:Nat) (acc:Hp) (j:Nat),j<k->ay (ib hp f seen k acc) j=ay acc j
 | [],k,acc,j,_=>rfl
 | id::r,k,acc,j,h=>by
  rw [ib]
  cases ay hp id with
  | none=>exact Sz hp f r (k+1) acc j (by omega)
  | some o=>
   simp only;rw [Sz hp f r (k+1) _ j (by omega),jo _ _ (by omega)]
def acq (hp:Hp) (f:Nat->Option Nat):∀(seen:List Nat) (k:Nat) (acc:Hp) (j:Nat) (h:j<seen.length) (o:Obj),ay hp seen[j]=some o->ay (ib hp f seen k acc) (k+j)=some (ja f o)
 | id::r,k,acc,0,_,o,ho=>by
  simp only [wI] at ho;rw [ib];simp only [ho];show ay (ib hp f r (k+1) ((k,ja f o)::acc)) k=_
  rw [Sz hp f r (k+1) _ k (by omega),gZ]
 | id::r,k,acc,j+1,h,o,ho=>by
  simp only [wY] at ho
  have:=fun z6=>acq hp f r (k+1) z6 j (by simpa using h) o ho
  rw [ib,show k+(j+1)=k+1+j by omega]
  cases ay hp id with
  | none=>exact this _
  | some u=>exact this _
def Nz:∀(seen:List Nat) (k j:Nat) (h:j<seen.length),seen.Nodup->fh seen[j] seen k=some (k+j)
 | s::r,k,0,_,_=>by simp only [wI,y5];exact ahx s r k
 | s::r,k,j+1,h,hn=>by
  have hn:=uT.1 hn;have hj:j<r.length:=by simpa using h
  simp only [wY];rw [ad1 _ _ (fun e=>hn.1 (by rw [e];exact yE hj)),Nz r (k+1) j hj hn.2]
  congr 1;omega
def aom {live:List Nat} {tm:Env} {hp:Hp} {ct:Nat} {seen:List Nat} (hr:mE hp 100000 (fL (cC tm live)) []=seen):
  ∃ak,aJ live ⟨tm,hp,ct,0⟩=⟨gm (pos seen) (cC tm live),ak,seen.length,0⟩/\∀j (h:j<seen.length) o,ay hp seen[j]=some o->ay ak j=some (ja (pos seen) o):=by
 refine ⟨ib hp (pos seen) seen 0 [],by rw [av,hr,ahy],fun j h o ho=>?_⟩
 have:=acq hp (pos seen) seen 0 [] j h o ho
 rwa [ye] at this
def adl {w:Nat}:∀(ids:List Nat) (T:List (List AV)) (hp:Hp) (n:Nat),ids.length+4<=n->ids.length=T.length->(∀i (h1:i<ids.length) (h2:i<T.length),T[i].length=w/\∃rw,ay hp ids[i]=some (.cells rw true false 1 T[i]))->
  ∃ak,cO n hp (ids.map fun i=> .aw i 0 w)=some (T.map (fun r=> .aB false w r),ak)/\∀j,j∉ids->ay ak j=ay hp j
 | [],[],hp,n+1,_,_,_=>⟨hp,rfl,fun _ _=>rfl⟩
 | [],[],hp,0,h,_,_=>by simp at h
 | [],_::_,_,_,_,h,_=>by simp at h
 | _::_,[],_,_,_,h,_=>by simp at h
 | i::ids,r::T,hp,n+1,hn,hl,h=>by
  obtain ⟨l0,rw',g0⟩:=h 0 (by simp) (by simp);simp only [wI] at l0 g0;simp only [yI] at hn hl;obtain ⟨m,rfl⟩:∃m,n=m+1+1:=⟨n-2,by omega⟩;have hz:oT (m+1) hp i=some (false,1,r,if rw'=true then a6 hp i (.cells false true false 1 r) else hp):=by
   rw [SO,g0];cases rw'<;>rfl
  have aA7:∃bl,(if rw'=true then a6 hp i (.cells false true false 1 r) else hp)=bl/\∀j,ay bl j=if j=i then some (.cells (if rw'=true then false else rw') true false 1 r) else ay hp j:=by
   refine ⟨_,rfl,fun j=>?_⟩
   cases rw' with
   | true=>simp only [xD];rw [Sy g0]
   | false=>
    simp only [Bool.false_eq_true,xi]
    split
    ·rename_i e;rw [e,g0]
    ·rfl
  obtain ⟨bl,e1,g1⟩:=aA7;rw [e1] at hz;obtain ⟨ak,e2,g2⟩:=adl ids T bl (m+1+1) (by omega) (by omega) (fun k h1 h2=>by
   obtain ⟨a,rw2,b⟩:=h (k+1) (by simpa using h1) (by simpa using h2);simp only [wY] at a b;refine ⟨a,?_⟩;rw [g1]
   split
   ·rename_i e;rw [e,g0] at b;simp only [yd,Obj.cells.injEq] at b;exact ⟨_,by rw [b.2.2.2.2]⟩
   ·exact ⟨rw2,b⟩)
  refine ⟨ak,?_,fun j hj=>?_⟩
  ·rw [xc,acZ,SN,hz,kI false (by rw [l0,yf]) (by decide),aiC,e2,aiD];rfl
  ·simp only [List.mem_cons,not_or] at hj;rw [g2 j hj.2,g1,yD hj.1]
end
section
open Go (IntKind)
def cr (r:List Rat):List AV:=r.map fun x=> .str (RT x)
def Bk (r:List Rat):(cr r).length=r.length:=yj _
def EZ {r:List Rat} {c:Nat} (h:c<r.length):vT c (cr r)= .str (RT (cE r c))::vT (c+1) (cr r):=by
 rw [yS (by rw [Bk];exact h),jH h];simp [cr]
def NP (r:List Rat) (c:Nat) (x:Rat):(cr r).set c (.str (RT x))=cr (r.set c x):=by simp [cr,List.map_set]
def ai1 (e:Bool) (r:List Rat):bm (.aB e r.length (cr r)) (r.map RT):=by
 have:=IX e (r.map RT)
 rw [yj,wh] at this;exact this
structure bZ (hp:Hp) (w:Nat) (M:Mx):Prop where
 m:ay hp 0=some (.cells true false false 1 ((xe M.length).map fun i=> .aw (i+1) 0 w))
 r:∀i,i<M.length->ay hp (i+1)=some (.cells true true false 1 (cr (gR M i)))
def eA (hp:Hp) (n k:Nat) (pvs:List AV):Prop:=k=0\/ay hp (n+1)=some (.cells true true false 1 pvs)
def bZ.drop {n p w:Nat} (h:p<n):∃r,vT p ((xe n).map fun i=>AV.aw (i+1) 0 w)= .aw (p+1) 0 w::r:=by
 rw [yS (by simpa using h)]
 simp
def bZ.set {hp:Hp} {w:Nat} {M:Mx} (h:bZ hp w M) {i:Nat} (hi:i<M.length) (r:List Rat):bZ (a6 hp (i+1) (.cells true true false 1 (cr r))) w (M.set i r):=by
 refine ⟨?_,fun j hj=>?_⟩
 ·rw [Sy (h.r i hi),yD (by omega),ve];exact h.m
 ·rw [ve] at hj;rw [Sy (h.r i hi),nV];by_cases e:i=j
  ·grind
  ·rw [yD (by omega),yD (fun q=>e q.1)];exact h.r j hj
def eA.set {hp:Hp} {n k:Nat} {pvs:List AV} (h:eA hp n k pvs) {i:Nat} {o:Obj} (hi:i<=n):eA (a6 hp i o) n k pvs:=by
 rcases h with h | h
 ·exact .inl h
 ·refine .inr ?_;rw [AT,yD (by omega)];exact h
def fF (a:Nat) (ids pl:List Nat):List Nat:=a::(ids++pl)
def adm (w:Nat):∀ids:List Nat,iI (ids.map fun i=>AV.aw i 0 w)=ids
 | []=>rfl
 | i::r=>by simp only [xc,iI,refs,adm w r];rfl
def azy {hp:Hp} {a w:Nat} {ids pl:List Nat} {rw' ex:Bool} (hm:ay hp a=some (.cells rw' false ex 1 (ids.map fun i=> .aw i 0 w))) (hr:∀i,i∈ids->∃o,ay hp i=some o/\kM o=[]) (bl:∀i,i∈pl->∃o,ay hp i=some o/\kM o=[]) (hn:(fF a ids pl).Nodup) (hl:ids.length+pl.length<90000):mE hp 100000 (a::pl) []=fF a ids pl:=by
 have iE:=uT.1 hn;have dH:∀i,i∈ids++pl->i∉[a]:=fun i hi hm=>by
  grind
 rw [show (100000:Nat)=99999+1 from rfl,Sp,adZ,Tm,hm,Tn,ahw,adm,xC]
 have:ids++pl=(ids++pl)++[]:=by simp
 rw [this,ahH hp (ids++pl) [a] [] 99999 (by rw [yN];omega) (fun i hi=>by
  rcases wK.1 hi with h | h
  ·grind
  ·exact bl i h) iE.2 dH,avJ hp (by rw [yN];omega)]
 rfl
def aeq {f:Nat->Option Nat} {w:Nat}:∀(ids:List Nat) (k:Nat),(∀i (h:i<ids.length),f ids[i]=some (k+i))->fo f (ids.map fun i=>AV.aw i 0 w)=(we k ids.length).map fun i=> .aw i 0 w
 | [],_,_=>rfl
 | i::r,k,h=>by
  have h0:=h 0 (by simp);simp only [wI,y5] at h0;simp only [xc,fo,ck,h0,yI,List.range'_succ]
  rw [aeq r (k+1) (fun j hj=>by
   have:=h (j+1) (by simpa using hj)
   simp only [wY] at this
   rw [this];congr 1;omega)]
def NA {live:List Nat} {tm:Env} {hp:Hp} {ct a w:Nat} {ids pl:List Nat} {M:Mx} (hE:fL (cC tm live)=a::pl) (hm:ay hp a=some (.cells true false false 1 (ids.map fun i=> .aw i 0 w)))
  (hl:ids.length=M.length) (hr:∀i (h:i<ids.length),ay hp ids[i]=some (.cells true true false 1 (cr (gR M i)))) (hM:M.length<=10000) (hn:(fF a ids pl).Nodup) (bl:∀i,i∈pl->∃o,ay hp i=some o/\kM o=[]) (ep:pl.length<=1000):
  ∃ak aP,aP=1+(M.length+pl.length)/\aJ live ⟨tm,hp,ct,0⟩=⟨gm (pos (fF a ids pl)) (cC tm live),ak,aP,0⟩/\bZ ak w M/\(∀j (h:j<pl.length) o,ay hp pl[j]=some o->ay ak (M.length+1+j)=some (ja (pos (fF a ids pl)) o))/\fh a (fF a ids pl) 0=some 0/\∀j (h:j<pl.length),fh pl[j] (fF a ids pl) 0=some (M.length+1+j):=by
 have Gx:∀i,i∈ids->∃o,ay hp i=some o/\kM o=[]:=fun i hi=>by
  obtain ⟨k,hk,rfl⟩:=ug.1 hi;exact ⟨_,hr k hk,rfl⟩
 have hR:=azy (pl:=pl) hm Gx bl hn (by omega);rw [<-hE] at hR;obtain ⟨ak,e,g⟩:=aom (ct:=ct) hR;have ls:(fF a ids pl).length=1+(ids.length+pl.length):=by simp [fF];omega
 have s0:∀h:0<(fF a ids pl).length,(fF a ids pl)[0]=a:=fun _=>rfl
 have sI:∀i (h:i<ids.length) (h2:i+1<(fF a ids pl).length),(fF a ids pl)[i+1]=ids[i]:=fun i h h2=>by
  simp [fF,tS h]
 have sP:∀j (h:j<pl.length) (h2:M.length+1+j<(fF a ids pl).length),(fF a ids pl)[M.length+1+j]=pl[j]:=fun j h h2=>by
  have:M.length+1+j=(ids.length+j)+1:=by omega
  simp only [fF,this,wY]
  grind
 have pI:∀i (h:i<ids.length),pos (fF a ids pl) ids[i]=some (1+i):=fun i h=>by
  have:=Nz (fF a ids pl) 0 (i+1) (by omega) hn
  rw [sI i h (by omega)] at this;rw [pos_eq,this];congr 1;omega
 refine ⟨ak,_,by rw [ls,hl],e,⟨?_,fun i hi=>?_⟩,fun j hj o ho=>?_,?_,fun j hj=>?_⟩
 ·have:=g 0 (by omega) _ (by rw [s0];exact hm)
  rw [this];have e2:ja (pos (fF a ids pl)) (.cells true false false 1 (ids.map fun i=> .aw i 0 w))= .cells true false false 1 (fo (pos (fF a ids pl)) (ids.map fun i=> .aw i 0 w)):=rfl;rw [e2,aeq ids 1 pI,hl,tT,wh]
  congr 3
  funext i
  simp [Nat.add_comm]
 ·have:=g (i+1) (by omega) _ (by rw [sI i (by omega)];exact hr i (by omega))
  rw [this];rfl
 ·exact g (M.length+1+j) (by omega) o (by rw [sP j hj (by omega)];exact ho)
 ·have:=Nz (fF a ids pl) 0 0 (by omega) hn
  rw [s0] at this;exact this
 ·have:=Nz (fF a ids pl) 0 (M.length+1+j) (by omega) hn
  rw [sP j hj (by omega),ye] at this;exact this
def dl (n k:Nat):List Nat:=if k=0 then [] else [n+1]
def adn (n k:Nat):(fF 0 ((xe n).map (·+1)) (dl n k)).Nodup:=by
 unfold fF dl;have h1:((xe n).map (·+1)).Nodup:=by
  have e:(xe n).map (·+1)=we 1 n:=by
   rw [tT]
   grind
  grind
 grind
def ado {live:List Nat} {tm:Env} {hp:Hp} {ct w k:Nat} {M:Mx} {pvs:List AV} (h:bZ hp w M) (hv:eA hp M.length k pvs) (hM:M.length<=10000) (hE:fL (cC tm live)=0::dl M.length k):
  ∃ak aP S,aP=1+(M.length+(dl M.length k).length)/\aJ live ⟨tm,hp,ct,0⟩=⟨gm (pos S) (cC tm live),ak,aP,0⟩/\bZ ak w M/\eA ak M.length k pvs/\fh 0 S 0=some 0/\(k≠0->fh (M.length+1) S 0=some (M.length+1)):=by
 have hm:=h.m;rw [show ((xe M.length).map fun i=>AV.aw (i+1) 0 w)=((xe M.length).map (·+1)).map (fun i=> .aw i 0 w) by rw [wh];rfl] at hm
 obtain ⟨ak,aP,eX,e,g1,g2,g3,g4⟩:=NA (ct:=ct) hE hm (by simp) (fun i hi=>by
  simp only [xo,List.getElem_range];exact h.r i (by simpa using hi)) hM (adn M.length k) (fun i hi=>by
   unfold dl at hi
   split at hi
   ·grind
   ·rename_i hk;simp only [wV] at hi;subst hi;rcases hv with hv | hv
    ·grind
    ·exact ⟨_,hv,rfl⟩) (by unfold dl;split<;>simp)
 refine ⟨ak,aP,_,eX,e,g1,?_,g3,fun hk=>?_⟩
 ·by_cases hk:k=0
  ·exact .inl hk
  ·rcases hv with hv | hv
   ·grind
   ·refine .inr ?_;have ep:dl M.length k=[M.length+1]:=yD hk
    have:=g2 0 (by rw [ep];exact yaU) (.cells true true false 1 pvs) (by simp only [ep,wI];exact hv)
    exact this
 ·have ep:dl M.length k=[M.length+1]:=yD hk
  have:=g4 0 (by rw [ep];exact yaU)
  simp only [ep,wI] at this;simpa [ep] using this
def mS {live:List Nat} {tm tm':Env} {hp:Hp} {ct w k n:Nat} {M:Mx} {pvs:List AV} {R:Prop} (h:bZ hp w M) (hv:eA hp n k pvs) (hn:M.length=n) (hM:n<=10000) (hE:fL (cC tm live)=0::dl n k)
  (hT:∀S,fh 0 S 0=some 0->(k≠0->fh (n+1) S 0=some (n+1))->gm (pos S) (cC tm live)=tm') (hR:R):∃ak aP,aJ live ⟨tm,hp,ct,0⟩=⟨tm',ak,aP,0⟩/\bZ ak w M/\eA ak n k pvs/\R:=by
 subst hn;obtain ⟨ak,aP,S,eX,e,q1,q2,q3,q4⟩:=ado (ct:=ct) h hv hM hE
 grind
def IY {live:List Nat} {tm tm':Env} {hp:Hp} {ct w k n:Nat} {M:Mx} {pvs:List AV} (h:bZ hp w M) (hv:eA hp n k pvs) (hn:M.length=n) (hM:n<=10000) (hE:fL (cC tm live)=0::dl n k)
  (hT:∀S,fh 0 S 0=some 0->(k≠0->fh (n+1) S 0=some (n+1))->gm (pos S) (cC tm live)=tm'):∃ak,aJ live ⟨tm,hp,ct,0⟩=⟨tm',ak,1+(n+(dl n k).length),0⟩/\bZ ak w M/\eA ak n k pvs:=by
 subst hn;obtain ⟨ak,aP,S,rfl,e,q1,q2,q3,q4⟩:=ado (ct:=ct) h hv hM hE
 grind
section
variable {P:aM} {L:Lib}
def al7 (jz:Has P L 355 re) (a:Rat):aj P L 355 [.str (RT a)] (.bool (decide (a=0))):=by
 have:=azh a
 unfold aj;rw [aI jz];simp only [go_sem,ya,re,lC,this]
def fV (fV:Has P L 351 iM) {hp:Hp} {ct n w:Nat} {M:Mx} (h:bZ hp w M) (hn:M.length=n) (h0:0<n):dO P L (D P L) hp ct .heap (.fn (.f 351) [] []) [.aw 0 0 n]=some (ab w,hp,ct):=by
 obtain ⟨r,d0⟩:=bZ.drop (n:=M.length) (p:=0) (w:=w) (by omega);have hm:=h.m;rw [yK] at d0;rw [d0] at hm;have hb:∃tm,D P L iM.body ⟨dM 0 [.aw 0 0 n],hp,ct,ct⟩=some (.ret,⟨tm,hp,ct,ct⟩)/\af tm 2=ab w:=by
  simp only [go_sem,ya,yb,yf,iM,show ¬(n:Int)=0 by omega,ym,nF,bN 0 0 h0,y5,hm,yK,Dq];exact ⟨_,rfl,by simp only [go_sem]⟩
 obtain ⟨tm,hb,t2⟩:=hb;exact EU fV hb (.inr rfl) (by simp only [go_sem,iM,t2])
end
end
section
open Go (IntKind)
def fA (k:Nat) (new old:List Rat):List Rat:=new.take k++old.drop k
def NB {k:Nat} {new old:List Rat} (h:new.length=old.length) (hk:k<=old.length):(fA k new old).length=old.length:=by
 simp [fA];omega
def aer (new old:List Rat):fA 0 new old=old:=by simp [fA]
def ahI {k:Nat} {new old:List Rat} (h:new.length=old.length) (hk:k=old.length):fA k new old=new:=by
 simp only [fA,uO,List.append_nil]
 grind
def ahJ {k j:Nat} {new old:List Rat} (h:new.length=old.length) (hj:k<=j) (hk:k<=old.length):cE (fA k new old) j=cE old j:=by
 simp only [cE,fA,xf]
 grind
def ahK {k:Nat} {new old:List Rat} (h:new.length=old.length) (hk:k<old.length):(fA k new old).set k (cE new k)=fA (k+1) new old:=by
 apply List.ext_getElem
 ·rw [ve,NB h (by omega),NB h (by omega)]
 ·intro i h1 h2;rw [List.getElem_set];simp only [fA];by_cases hi:k=i
  ·subst hi;rw [yT rfl,jH (by omega),tS (by simp;omega)]
   simp
  ·grind
def aoS {r:List Rat} {t:Rat} {k:Nat} (hk:k<r.length):cE (de r r t 0) k=cE r k*t:=by
 rw [jH (by rw [A8 rfl];exact hk),Ny hk hk,jH hk];grind
def apI {r p:List Rat} {t:Rat} {k:Nat} (h:r.length=p.length) (hk:k<r.length):cE (de r p 1 (-t)) k=cE r k-t*cE p k:=by
 rw [jH (by rw [A8 h];exact hk),Ny hk (h▸hk),jH hk,jH (h▸hk)];grind
def aes {m:Mx} {i:Nat} (h:i<m.length):m.set i (gR m i)=m:=by
 rw [eS h];exact List.set_getElem_self h
def aet {m:Mx} {i:Nat} (a b:List Rat):(m.set i a).set i b=m.set i b:=by simp
section
variable {P:aM} {L:Lib}
def azz (jz:Has P L 355 re) {M:Mx} {w c n k F:Nat} {pvs:List AV} (hw:wid w M) (hc:c<w) (mF:w<=10000) (hn:M.length=n) (e9:n<=10000):
  ∀d st,(∃(p:Nat) (hp:Hp) (ct:Nat),aJ [0,4,5,6] st=⟨[(0,.aw 0 0 n),(4,oV (n+1) k),(5,ab c),(6,ab p)],hp,ct,0⟩/\bZ hp w M/\eA hp n k pvs/\p+d=n/\kF M c d p=F)->
   ∃ex s',D P L (.loop [0,4,5,6] C9) st=some (ex,s')/\∃tm hp ct,s'=⟨tm,hp,ct,0⟩/\ex= .exit 2/\bZ hp w M/\eA hp n k pvs/\af tm 0= .aw 0 0 n/\af tm 4=oV (n+1) k/\af tm 5=ab c/\af tm 6=ab F:=by
 intro dq sq;generalize a8:aJ [0,4,5,6] sq=s0;revert a8 s0 sq dq;apply cY;rintro d st ⟨p,hp,ct,rfl,hM,hV,hpd,hF⟩;by_cases kD:p<n
 ·have L2:p<M.length:=by omega
  have wp:=hw p L2;obtain ⟨r,d0⟩:=bZ.drop (n:=M.length) (w:=w) L2;have g0:=hM.m;have gp:=hM.r p L2;have dp:=EZ (r:=gR M p) (c:=c) (by omega);have e1:=al7 jz (cE (gR M p) c);obtain ⟨d,rfl⟩:∃d',d=d'+1:=⟨d-1,by omega⟩;simp only [kF] at hF;have wi:IntKind.wrap .i64 ((p:Int)+1)=((p+1:Nat):Int):=wrap64 (by omega) (by omega);unfold aj at e1;by_cases hz:cE (gR M p) c=0
  ·left
   rw [yT hz] at hF;rw [xx hz] at e1;cases k
   all_goals
    simp only [oV];simp only [go_sem,ya,yf,C9,show (p:Int)<n by omega,yr,bN 0 0 kD,ye,g0,d0,gp,bN (p+1) 0 hc,dp,e1];refine ⟨_,d,rfl,by omega,p+1,?_⟩;rw [wi];exact mS hM hV hn (by omega) (by simp only [go_sem,ya,dl]<;>rfl) (fun S q3 q4=>by simp only [go_sem,ya,q3,q4,ub,xu,xt]<;>rfl) ⟨by omega,hF⟩
  ·right
   rw [yD hz] at hF;subst hF;rw [xa hz] at e1;cases k
   all_goals
    simp only [oV];simp only [go_sem,ya,yf,C9,show (p:Int)<n by omega,yr,bN 0 0 kD,ye,g0,d0,gp,bN (p+1) 0 hc,dp,e1];exact ⟨_,_,rfl,by simp,_,_,_,rfl,rfl,hM,hV,by simp only [go_sem,ya],by simp only [go_sem,ya],by simp only [go_sem,ya],by simp only [go_sem,ya]⟩
 ·right
  have:d=0:=by omega
  subst this;simp only [kF] at hF;subst hF;cases k
  all_goals
   simp only [oV];simp only [go_sem,ya,C9,show ¬(p:Int)<n by omega,ym];exact ⟨_,_,rfl,by simp,_,_,_,rfl,rfl,hM,hV,by simp only [go_sem,ya],by simp only [go_sem,ya],by simp only [go_sem,ya],by simp only [go_sem,ya]⟩
def azA (h:Rn P L) {M:Mx} {w c n k a:Nat} {pvs:List AV} (hw:wid w M) (mF:w<=10000) (hn:M.length=n) (e9:n<=10000) (ha:a<n) {t:Rat} {K J:Nat} (kr:∀x,x∈gR M a->Hq K x) (kt:Hq J t) (hK:K+J<=8000000000):
  ∀d st,(∃(i:Nat) (hp:Hp) (ct:Nat),aJ [0,4,5,7,8,9] st=⟨[(0,.aw 0 0 n),(4,oV (n+1) k),(5,ab c),(7,ab a),(8,.str (RT t)),(9,ab i)],hp,ct,0⟩/\bZ hp w (M.set a (fA i (de (gR M a) (gR M a) t 0) (gR M a)))/\eA hp n k pvs/\i+d=w)->
   ∃ex s',D P L (.loop [0,4,5,7,8,9] Jr) st=some (ex,s')/\∃tm hp ct,s'=⟨tm,hp,ct,0⟩/\ex= .exit 4/\bZ hp w (M.set a (de (gR M a) (gR M a) t 0))/\eA hp n k pvs/\af tm 0= .aw 0 0 n/\af tm 4=oV (n+1) k/\af tm 5=ab c/\af tm 7=ab a:=by
 intro dq sq;generalize a8:aJ [0,4,5,7,8,9] sq=s0;revert a8 s0 sq dq;apply cY;rintro d st ⟨i,hp,ct,rfl,hM,hV,hid⟩;have AN:a<M.length:=by omega
 have wa:=hw a AN;have lc:(de (gR M a) (gR M a) t 0).length=(gR M a).length:=A8 rfl;obtain ⟨r,d0⟩:=bZ.drop (n:=(M.set a (fA i (de (gR M a) (gR M a) t 0) (gR M a))).length) (p:=a) (w:=w) (by simpa using AN);have g0:=hM.m;have ga:=hM.r a (by simpa using AN);rw [nV,yT ⟨rfl,AN⟩] at ga;by_cases hi:i<w
 ·left
  have lp:=NB (k:=i) lc (by omega);have dp:=EZ (r:=fA i (de (gR M a) (gR M a) t 0) (gR M a)) (c:=i) (by omega);rw [ahJ lc (yv i) (by omega)] at dp;have e1:=Ua h (a:=cE (gR M a) i) (b:=t) (kr _ (CS (by omega))) kt hK;rw [<-aoS (show i<(gR M a).length by omega)] at e1;have aO:=fun (ct:Nat)=>Bx (hp:=hp) (ct:=ct) (id:=a+1) (ex:=false) (at_:=i) (r:= .str (RT (cE (de (gR M a) (gR M a) t 0) i))) (rows:=cr (fA i (de (gR M a) (gR M a) t 0) (gR M a))) (by rw [Bk];omega) rfl rfl
  simp only [NP,ahK lc (show i<(gR M a).length by omega)] at aO;have rL:=hM.set (i:=a) (by simpa using AN) (fA (i+1) (de (gR M a) (gR M a) t 0) (gR M a));rw [aet] at rL;have AO:=hV.set (i:=a+1) (o:= .cells true true false 1 (cr (fA (i+1) (de (gR M a) (gR M a) t 0) (gR M a)))) (by omega);have wi:IntKind.wrap .i64 ((i:Int)+1)=((i+1:Nat):Int):=wrap64 (by omega) (by omega);have ln:(M.set a (fA (i+1) (de (gR M a) (gR M a) t 0) (gR M a))).length=n:=by simp [hn]
  unfold aj at e1;cases k
  all_goals
   simp only [oV];simp only [go_sem,ya,yf,Jr,bN 0 0 ha,ye,g0,d0,ga,bN (a+1) 0 hi,show (i:Int)<w by omega,dp,e1,aO];refine ⟨_,d-1,rfl,by omega,i+1,?_⟩;rw [wi];exact mS rL AO ln (by omega) (by simp only [go_sem,ya,dl]<;>rfl) (fun S q3 q4=>by simp only [go_sem,ya,q3,q4,ub,xu,xt]<;>rfl) (by omega)
 ·right
  rw [ahI lc (by omega)] at hM;cases k
  all_goals
   simp only [oV];simp only [go_sem,ya,yf,Jr,bN 0 0 ha,ye,g0,d0,show ¬(i:Int)<w by omega];exact ⟨_,_,rfl,by simp,_,_,_,rfl,rfl,hM,hV,by simp only [go_sem,ya],by simp only [go_sem,ya],by simp only [go_sem,ya],by simp only [go_sem,ya]⟩
def azB (h:Rn P L) {M:Mx} {w c n k a i:Nat} {pvs:List AV} (hw:wid w M) (mF:w<=10000) (hn:M.length=n) (e9:n<=10000) (ha:a<n) (hi:i<n) (rI:i≠a) {t:Rat} {K J I:Nat} (kr:∀x,x∈gR M i->Hq K x) (kp:∀x,x∈gR M a->Hq I x) (kt:Hq J t) (hK:K+(J+I)+1<=8000000000):
  ∀d st,(∃(j:Nat) (hp:Hp) (ct:Nat),aJ [0,4,5,7,10,11,12] st=⟨[(0,.aw 0 0 n),(4,oV (n+1) k),(5,ab c),(7,ab a),(10,ab i),(11,.str (RT t)),(12,ab j)],hp,ct,0⟩/\bZ hp w (M.set i (fA j (de (gR M i) (gR M a) 1 (-t)) (gR M i)))/\eA hp n k pvs/\j+d=w)->
   ∃ex s',D P L (.loop [0,4,5,7,10,11,12] Js) st=some (ex,s')/\∃tm hp ct,s'=⟨tm,hp,ct,0⟩/\ex= .exit 8/\bZ hp w (M.set i (de (gR M i) (gR M a) 1 (-t)))/\eA hp n k pvs/\af tm 0= .aw 0 0 n/\af tm 4=oV (n+1) k/\af tm 5=ab c/\af tm 7=ab a/\af tm 10=ab i:=by
 intro dq sq;generalize a8:aJ [0,4,5,7,10,11,12] sq=s0;revert a8 s0 sq dq;apply cY;rintro d st ⟨j,hp,ct,rfl,hM,hV,hjd⟩;have AN:a<M.length:=by omega
 have L8:i<M.length:=by omega
 have wa:=hw a AN;have wi:=hw i L8;have hl:(gR M i).length=(gR M a).length:=by omega
 have lc:(de (gR M i) (gR M a) 1 (-t)).length=(gR M i).length:=A8 hl;obtain ⟨r,d0⟩:=bZ.drop (n:=(M.set i (fA j (de (gR M i) (gR M a) 1 (-t)) (gR M i))).length) (p:=i) (w:=w) (by simpa using L8);obtain ⟨ra,da⟩:=bZ.drop (n:=(M.set i (fA j (de (gR M i) (gR M a) 1 (-t)) (gR M i))).length) (p:=a) (w:=w) (by simpa using AN);have g0:=hM.m;have gi:=hM.r i (by simpa using L8);have gA:=hM.r a (by simpa using AN);rw [nV,yT ⟨rfl,L8⟩] at gi;rw [nV,yD (fun q=>rI q.1)] at gA;by_cases hj:j<w
 ·left
  have lp:=NB (k:=j) lc (by omega);have dp:=EZ (r:=fA j (de (gR M i) (gR M a) 1 (-t)) (gR M i)) (c:=j) (by omega);rw [ahJ lc (yv j) (by omega)] at dp;have dA:=EZ (r:=gR M a) (c:=j) (by omega);have kA:=kp _ (CS (r:=gR M a) (c:=j) (by omega));have e1:=Ua h (a:=t) (b:=cE (gR M a) j) kt kA (by omega);have e2:=aAZ h.toRp (a:=cE (gR M i) j) (b:=t*cE (gR M a) j) (kr _ (CS (by omega))) (kt.mul kA) hK;rw [<-apI hl (show j<(gR M i).length by omega)] at e2;have aO:=fun (ct:Nat)=>Bx (hp:=hp) (ct:=ct) (id:=i+1) (ex:=false) (at_:=j) (r:= .str (RT (cE (de (gR M i) (gR M a) 1 (-t)) j))) (rows:=cr (fA j (de (gR M i) (gR M a) 1 (-t)) (gR M i))) (by rw [Bk];omega) rfl rfl
  simp only [NP,ahK lc (show j<(gR M i).length by omega)] at aO;have rL:=hM.set (i:=i) (by simpa using L8) (fA (j+1) (de (gR M i) (gR M a) 1 (-t)) (gR M i));rw [aet] at rL;have AO:=hV.set (i:=i+1) (o:= .cells true true false 1 (cr (fA (j+1) (de (gR M i) (gR M a) 1 (-t)) (gR M i)))) (by omega);have wj:IntKind.wrap .i64 ((j:Int)+1)=((j+1:Nat):Int):=wrap64 (by omega) (by omega);have ln:(M.set i (fA (j+1) (de (gR M i) (gR M a) 1 (-t)) (gR M i))).length=n:=by simp [hn]
  unfold aj at e1 e2;cases k
  all_goals
   simp only [oV];simp only [go_sem,ya,yf,Js,bN 0 0 hi,bN 0 0 ha,ye,g0,d0,da,gi,gA,bN (i+1) 0 hj,bN (a+1) 0 hj,show (j:Int)<w by omega,dp,dA,e1,e2,aO];refine ⟨_,d-1,rfl,by omega,j+1,?_⟩;rw [wj];exact mS rL AO ln (by omega) (by simp only [go_sem,ya,dl]<;>rfl) (fun S q3 q4=>by simp only [go_sem,ya,q3,q4,ub,xu,xt]<;>rfl) (by omega)
 ·right
  rw [ahI lc (by omega)] at hM;cases k
  all_goals
   simp only [oV];simp only [go_sem,ya,yf,Js,bN 0 0 hi,ye,g0,d0,show ¬(j:Int)<w by omega];exact ⟨_,_,rfl,by simp,_,_,_,rfl,rfl,hM,hV,by simp only [go_sem,ya],by simp only [go_sem,ya],by simp only [go_sem,ya],by simp only [go_sem,ya],by simp only [go_sem,ya]⟩
end
end
section
open Go (IntKind)
section
variable {P:aM} {L:Lib}
def azC (h:Rn P L) (jz:Has P L 355 re) {m:Mx} {w c n k a:Nat} {pvs:List AV} (hw:wid w m) (mF:w<=10000) (hc:c<w) (hn:m.length=n) (e9:n<=10000) (ha:a<n) {K:Nat} (hk:∀i,i<=n->cx K (b8 m a c i)) (hK:3*K+1<=8000000000):
  ∀d st,(∃(i:Nat) (hp:Hp) (ct:Nat),aJ [0,4,5,7,10] st=⟨[(0,.aw 0 0 n),(4,oV (n+1) k),(5,ab c),(7,ab a),(10,ab i)],hp,ct,0⟩/\bZ hp w (b8 m a c i)/\eA hp n k pvs/\i+d=n)->
   ∃ex s',D P L (.loop [0,4,5,7,10] Da) st=some (ex,s')/\∃tm hp ct,s'=⟨tm,hp,ct,0⟩/\ex= .exit 6/\bZ hp w (b8 m a c n)/\eA hp n k pvs/\af tm 0= .aw 0 0 n/\af tm 4=oV (n+1) k/\af tm 5=ab c:=by
 intro dq sq;generalize a8:aJ [0,4,5,7,10] sq=s0;revert a8 s0 sq dq;apply cY;rintro d st ⟨i,hp,ct,rfl,hM,hV,hid⟩;have le:=rY m a c i;by_cases hi:i<n
 ·left
  have zk:i<(b8 m a c i).length:=by omega
  have H7:a<(b8 m a c i).length:=by omega
  have hwE:=hw.b8 (a:=a) (by omega) c i (by omega);have wi:=hwE i zk;have ki:=hk i (by omega);have kH:b8 m a c (i+1)=qw (b8 m a c i) a c i:=rfl;unfold qw at kH;obtain ⟨r,d0⟩:=bZ.drop (n:=(b8 m a c i).length) (w:=w) zk;have g0:=hM.m;have gp:=hM.r i zk;have dp:=EZ (r:=gR (b8 m a c i) i) (c:=c) (by omega);have e1:=al7 jz (cE (gR (b8 m a c i) i) c);have G2:IntKind.wrap .i64 ((i:Int)+1)=((i+1:Nat):Int):=wrap64 (by omega) (by omega);have hlen:(b8 m a c i).length=n:=by omega
  unfold aj at e1;by_cases rI:i=a
  ·subst rI;rw [yD (fun q=>q.1 rfl)] at kH;cases k
   all_goals
    simp only [oV];simp only [go_sem,ya,yf,Da,show (i:Int)<n by omega,bN 0 0 hi,ye,g0,d0,gp,bN (i+1) 0 hc,dp,yr];refine ⟨_,d-1,rfl,by omega,i+1,?_⟩;rw [G2,kH];exact mS hM hV hlen (by omega) (by simp only [go_sem,ya,dl]<;>rfl) (fun S q3 q4=>by simp only [go_sem,ya,q3,q4,ub,xu,xt]<;>rfl) (by omega)
  ·by_cases hz:cE (gR (b8 m a c i) i) c=0
   ·rw [yD (fun q=>q.2 hz)] at kH;rw [xx hz] at e1;cases k
    all_goals
     simp only [oV];simp only [go_sem,ya,yf,Da,show (i:Int)<n by omega,bN 0 0 hi,ye,g0,d0,gp,bN (i+1) 0 hc,dp,show ¬(i:Int)=(a:Nat) by omega,ym,e1];refine ⟨_,d-1,rfl,by omega,i+1,?_⟩;rw [G2,kH];exact mS hM hV hlen (by omega) (by simp only [go_sem,ya,dl]<;>rfl) (fun S q3 q4=>by simp only [go_sem,ya,q3,q4,ub,xu,xt]<;>rfl) (by omega)
   ·rw [yT ⟨rI,hz⟩] at kH;rw [xa hz] at e1;have kE:=ki i zk;have kA:=ki a H7;have f0:=azB h (c:=c) (k:=k) (pvs:=pvs) hwE mF hlen e9 ha hi rI (t:=cE (gR (b8 m a c i) i) c) kE kA (kE _ (CS (by omega))) (by omega) w;have ajN:((b8 m a c i).set i (de (gR (b8 m a c i) i) (gR (b8 m a c i) a) 1 (-(cE (gR (b8 m a c i) i) c)))).length=n:=by rw [ve,hlen]
    have QO:bZ hp w ((b8 m a c i).set i (fA 0 (de (gR (b8 m a c i) i) (gR (b8 m a c i) a) 1 (-(cE (gR (b8 m a c i) i) c))) (gR (b8 m a c i) i))):=by
     rw [aer,aes zk];exact hM
    have aA8:((b8 m a c i).set i (fA 0 (de (gR (b8 m a c i) i) (gR (b8 m a c i) a) 1 (-(cE (gR (b8 m a c i) i) c))) (gR (b8 m a c i) i))).length=n:=by rw [ve,hlen]
    generalize (b8 m a c i).set i (de (gR (b8 m a c i) i) (gR (b8 m a c i) a) 1 (-(cE (gR (b8 m a c i) i) c)))=M2 at*
    have hk3:∀(tm:Env) (hp:Hp) (ct:Nat),bZ hp w M2->eA hp n k pvs->af tm 0= .aw 0 0 n->af tm 4=oV (n+1) k->af tm 5=ab c->af tm 7=ab a->af tm 10=ab i->∃ak,aJ [0,4,5,7,10] ⟨tm,hp,ct,0⟩=⟨[(0,.aw 0 0 n),(4,oV (n+1) k),(5,ab c),(7,ab a),(10,ab i)],ak,1+(n+(dl n k).length),0⟩/\bZ ak w M2/\eA ak n k pvs:=fun tm hp ct hM hV t0 t4 t5 t7 t10=>by
     cases k
     all_goals
      simp only [oV] at t4 ⊢;exact IY hM hV ajN (by omega) (by simp only [go_sem,ya,t0,t4,t5,t7,t10,dl]<;>rfl) (fun S q3 q4=>by simp only [go_sem,t0,t4,t5,t7,t10,q3,q4,ub,xu,xt]<;>rfl)
    cases k
    all_goals
     simp only [oV] at f0 hk3 ⊢;simp only [go_sem,ya,yf,Da,show (i:Int)<n by omega,bN 0 0 hi,ye,g0,d0,gp,bN (i+1) 0 hc,dp,show ¬(i:Int)=(a:Nat) by omega,ym,e1];generalize hq:D P L (.loop [0,4,5,7,10,11,12] Js) _=q;obtain ⟨ex,st,rfl,tm,gU,GW,rfl,rfl,rL,AO,t0,t4,t5,t7,t10⟩:=bq hq f0 ⟨0,mS QO hV aA8 (by omega) (by simp only [go_sem,ya,dl]<;>rfl) (fun S q3 q4=>by simp only [go_sem,ya,q3,q4,ub,xu,xt]<;>rfl) (by omega)⟩
     obtain ⟨Eg,e3,q1,q2⟩:=hk3 tm gU GW rL AO t0 t4 t5 t7 t10;simp only [go_sem,ya,e3];refine ⟨_,d-1,rfl,by omega,i+1,?_⟩;rw [G2,kH];exact mS q1 q2 ajN (by omega) (by simp only [go_sem,ya,dl]<;>rfl) (fun S q3 q4=>by simp only [go_sem,ya,q3,q4,ub,xu,xt]<;>rfl) (by omega)
 ·right
  have:i=n:=by omega
  subst this;cases k
  all_goals
   simp only [oV];simp only [go_sem,ya,Da,show ¬(i:Int)<i by omega];exact ⟨_,_,rfl,by simp,_,_,_,rfl,rfl,hM,hV,by simp only [go_sem,ya],by simp only [go_sem,ya],by simp only [go_sem,ya]⟩
end
end
section
structure Rxi (P:aM) (L:Lib):Prop extends Rn P L,Rl P L where
 Zq:Has P L 283 OD
end
end VE
