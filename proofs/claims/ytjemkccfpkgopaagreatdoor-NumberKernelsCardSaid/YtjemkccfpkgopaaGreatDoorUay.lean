import Derived.Test.YtjemkccfpkgopaaGreatDoorUax
import Derived.Test.YtjemkccfpkgopaaGreatDoorUat
import Derived.Test.YtjemkccfpkgopaaGreatDoorUai
import Derived.Test.YtjemkccfpkgopaaGreatDoorUav
set_option linter.all false
set_option maxRecDepth 100000
open Bool renaming not_false→yR,not_true→yQ,or_false→ybc
open List renaming any_append→th,any_cons→ybb,any_eq_true→uY,any_nil→ybx,drop_zero→yH,eq_nil_of_length_eq_zero→yC,getD_eq_getElem?_getD→yz,getElem?_eq_getElem→yK,getElem_append_left→vc,getElem_append_right→vW,getElem_cons_zero→vI,getElem_map→xg,getElem_mem→yp,getElem_set→yay,getElem_take→uO,length_append→yL,length_cons→yG,length_map→yk,length_nil→yO,length_set→tF,length_take→yI,map→wE,map_append→xy,map_congr_left→vX,map_id→ybF,map_map→vT,mem_cons→wM,mem_cons_of_mem→wS,mem_cons_self→vV,mem_iff_getElem→xL,mem_of_getElem?→tS,mem_or_eq_of_mem_set→tq,pairwise_iff_getElem→wv,range→xC,replicate→yq,take_length→xx,take_of_length_le→yN,take_succ_eq_append_getElem→xa,take_zero→tO
open Nat renaming le_refl→yo,min_eq_left→xE,mul_le_mul→xP,mul_le_mul_right→yT,mul_one→yi,pow_le_pow_right→xb,reduceAdd→yb,reduceEqDiff→ya,reduceLT→yM,reduceLeDiff→yy,reduceMul→xM,sub_self→tN,zero_add→yg
open Rat renaming mul_inv_cancel→vA
namespace VE
section
open Go (IntKind)
section
variable {P:aH} {L:Lib}
def axJ (h:Fr' P L) (oO:Has P L 240 Cp) {o1 o2 o3 o4 z1 z2 z3 z4:AV} {M:Mx} {W:Nat} (hw:wid W M) (Zw:W<=1000) (ja:M.length<=1000) {K:Nat} (hk:ep K M) (lz:1<=K) (hK:4^M.length*(K+1)<=400000000) (ho:dX (.agg [o1,o2,o3,o4]) 1) (hz:dX (.agg [z1,z2,z3,z4]) 0):
  ∀(d:Nat) (st:St),(∃(c:Nat) (rows:List AV) (k:Nat) (pv:List AV),aQ [4,5,6,7,8,24,25] st=⟨[(4,.aC 0 0 M.length),(5,.fn (.f 240) [] []),(6,.ptr 1 0),(7,.ptr 2 0),(8,oV 3 k),(24,ab W),(25,ab c)],oH 3 1 pv (b3 rows [o1,o2,o3,o4] [z1,z2,z3,z4]) k,oC 3 k,0⟩/\c+d=W/\(ay M c).2.length=k/\pv=(ay M c).2.map (fun p:Nat=>ab p)/\cz da rows (ay M c).1)->
   ∃ex s',D P L (.loop [4,5,6,7,8,24,25] DW) st=some (ex,s')/\∃tm ct rows k pv,s'=⟨tm,oH 3 1 pv (b3 rows [o1,o2,o3,o4] [z1,z2,z3,z4]) k,ct,0⟩/\ex= .exit 0/\aj tm 4= .aC 0 0 M.length/\aj tm 8=oV 3 k/\(ay M W).2.length=k/\pv=(ay M W).2.map (fun p:Nat=>ab p)/\cz da rows (ay M W).1:=by
 intro dq sq;generalize bk:aQ [4,5,6,7,8,24,25] sq=s0;revert bk s0 sq dq;apply di;rintro d st ⟨c,rows,k,pv,rfl,hcd,fw,jr,hR⟩;have hP:=pM hw c;have lm:=BJ M c;have lr:=hR.len;by_cases hc:c<W
 ·left
  obtain ⟨J,J0,J1,J2⟩:=Eh hw hk lz c (by omega);have hJ:J+1<=400000000:=by
   have h1:4^(ay M c).2.length<=4^M.length:=xb (by decide) hP.pv
   have:=yT (K+1) h1
   omega
  have f0:=axH h (o:=[o1,o2,o3,o4]) (z:=[z1,z2,z3,z4]) (pv:=pv) hR hP.wid hc lm ja (k:=k) (a:=k) (W:=W) (F:=bm (ay M c) c) ((ay M c).1.length-k);have hs:ay M (c+1)=gW (ay M c) c:=rfl;have azp:=hP.bm c;rw [fw] at azp;have wc:IntKind.wrap .i64 ((c:Int)+1)=((c+1:Nat):Int):=wrap64 (by omega) (by omega);have Jz:mo (ay M c).1 c ((ay M c).1.length-k) k=bm (ay M c) c:=by unfold bm;rw [fw]
  by_cases hp:bm (ay M c) c<(ay M c).1.length
  ·
   have Kx:k<M.length:=by omega
   have rD:k<rows.length:=by omega
   have hpM:bm (ay M c) c<M.length:=by omega
   have gF:bm (ay M c) c<rows.length:=by omega
   have gG:k<(ay M c).1.length:=by omega
   have rA:=hR.get rD gG;have rP:=hR.get gF hp;have hR1:cz da ((rows.set k rows[bm (ay M c) c]).set (bm (ay M c) c) rows[k]) (cP (ay M c).1 k (bm (ay M c) c)):=by
    unfold cP;rw [dS gG,dS hp];exact (hR.set k rP).set _ rA
   have l1:((rows.set k rows[bm (ay M c) c]).set (bm (ay M c) c) rows[k]).length=rows.length:=by simp
   have l1':=zX (ay M c).1 k (bm (ay M c) c);have w1:=hP.wid.cP (i:=k) (j:=bm (ay M c) c) gG hp;have J3:=J2.cP (i:=k) (j:=bm (ay M c) c) gG hp;have Pm:k<(cP (ay M c).1 k (bm (ay M c) c)).length:=by omega
   have r1:=hR1.get (i:=k) (by omega) Pm;have wk:=w1 k Pm;have Jk:=J3 k Pm;have bN:cF (gR (cP (ay M c).1 k (bm (ay M c) c)) k) c≠0:=by
    have:=LY (ay M c).1 c ((ay M c).1.length-k) k (by rw [Jz];omega)
    rw [Jz] at this;unfold cP;rw [pL]
    split
    ·rename_i q;rw [q.1] at this;exact this
    ·rw [pL,yE ⟨rfl,gG⟩];exact this
   obtain ⟨g1,g2⟩:=J2.eS hP hc hp;have XO:eS (ay M c) c=(cP (ay M c).1 k (bm (ay M c) c)).set k (lj (gR (cP (ay M c).1 k (bm (ay M c) c)) k) (gR (cP (ay M c).1 k (bm (ay M c) c)) k) (cF (gR (cP (ay M c).1 k (bm (ay M c) c)) k) c)⁻¹ 0):=by
    unfold eS rT;rw [fw]
   have lsp:(eS (ay M c) c).length=M.length:=by rw [sn,lm]
   rw [fw] at g1 g2;have kE:∀i,i<=(eS (ay M c) c).length->ep (4*J+1) (fg (eS (ay M c) c) k c i):=fun i hi=>afO (hP.eS hp) hc (by omega) g1 (fun j hj=>g2 j (by omega)) hi
   rw [dS Pm] at wk Jk bN XO;obtain ⟨x1,x2,x3,x4,xr,e1,hx⟩:=r1.aM (i:=c) (by omega);rw [fE (show c<(cP (ay M c).1 k (bm (ay M c) c))[k].length by omega)] at bN XO;have kx:=Jk _ (yp (show c<(cP (ay M c).1 k (bm (ay M c) c))[k].length by omega));obtain ⟨iv,e2,hiv⟩:=m73 h hx bN kx (by omega);obtain ⟨y,e3,hy⟩:=aj7 h oO r1 r1 hiv hz rfl (by omega) (fun z hz=>(Jk z hz).mono (show J<=J+1 by omega)) (fun z hz=>(Jk z hz).mono (show J<=J+1 by omega)) (kx.inv.mono (by omega)) (E4.mono (by omega)) (by omega);have gx:=hx.f4;have gz:=hz.f4;obtain ⟨v1,v2,v3,v4,rfl,gv⟩:=hiv.gen;have Dd:cz da (((rows.set k rows[bm (ay M c) c]).set (bm (ay M c) c) rows[k]).set k (shut y)) (eS (ay M c) c):=by rw [XO];exact hR1.set k hy
   have f1:=axI h oO (z:=[z1,z2,z3,z4]) (pv:=pv) (hP.eS hp) hc Zw lsp ja (a:=k) (by omega) kE (by omega) (by omega) ho (k:=k) (W:=W) (eS (ay M c) c).length;have AQ:gW (ay M c) c=(fg (eS (ay M c) c) k c M.length,(ay M c).2++[c]):=by
    unfold gW;rw [yE hp,fw,lm]
   have d1:=At (rows:=rows) rD;have d2:=At (rows:=rows) gF;have d3:=At (rows:=(rows.set k rows[bm (ay M c) c]).set (bm (ay M c) c) rows[k]) (p:=k) (by omega);have s1:=fun (ap:Hp) (ct id:Nat)=>MD (hp:=ap) (ct:=ct) (id:=id) (ex:=true) (rows:=rows) (at_:=k) rD rP.one rP.pu
   have s2:=fun (ap:Hp) (ct id:Nat)=>MD (hp:=ap) (ct:=ct) (id:=id) (ex:=true) (rows:=rows.set k rows[bm (ay M c) c]) (at_:=bm (ay M c) c) (by simpa using gF) rA.one rA.pu
   have s3:=fun (ap:Hp) (ct id:Nat)=>MD (hp:=ap) (ct:=ct) (id:=id) (ex:=true) (rows:=(rows.set k rows[bm (ay M c) c]).set (bm (ay M c) c) rows[k]) (at_:=k) (by omega) hy.one hy.pu
   have aj9:pv.length=k:=by rw [jr,yk,fw]
   have aka:pv++[ab c]=((ay M c).2++[c]).map (fun p:Nat=>ab p):=by rw [jr,xy];rfl
   have rAc:=rA.cells;have rPc:=rP.cells;have yc:=hy.cells;have aBx:¬(M.length:Int)<=(bm (ay M c) c:Nat):=by omega
   unfold ak at e2 e3;rcases k with _ | k1
   all_goals
    simp only [oV,oH,oC,b3] at f0 f1 ⊢;simp only [go_sem,ya,yb,DW,show (c:Int)<W by omega];generalize hq:D P L (.loop [4,5,6,7,8,9,10,11,24,25] BS) _=q;obtain ⟨ex,st,rfl,tm,ct,rfl,rfl,t4,t5,t6,t7,t8,t9,t10,t11,t24,t25⟩:=bI hq f0 ⟨_,by simp only [go_sem,ya,yb,av]<;>rfl,by omega,Jz⟩
    simp only [go_sem,ya,yb,yi,av,t4,t5,t6,t7,t8,t9,t10,t11,t24,t25,aBx,yv,cp 0 0 hpM,cp 0 0 Kx,yg,d1,d2,Cb,rAc,rPc,s1,s2,d3,e1,oN,iT,yH,gx.ao,e2,bW,r1.ao,gv.ao,gz.ao,e3,yc,s3];generalize px:D P L (.loop [4,5,6,7,8,9,10,24,25,89,90] BT) _=q2;obtain ⟨ex,st,rfl,tm,ct,ahQ,rfl,rfl,t4,t5,t6,t7,t8,t9,t24,t25,hR3⟩:=bI px f1 ⟨0,_,by simp only [go_sem,ya,yb,av]<;>rfl,by omega,Dd⟩
    simp only [go_sem,ya,yb,yy,yi,av,t4,t5,t6,t7,t8,t9,t24,t25]
   ·rw [im (by decide) (by decide) (by decide) (by decide)];simp only [go_sem,ya,yb,wc];refine ⟨_,d-1,rfl,by omega,c+1,ahQ,1,[ab c],?_,by omega,?_,?_,?_⟩
    ·simp only [go_sem,ya,yb,av]<;>rfl
    ·rw [hs,AQ,yL,fw];rfl
    ·rw [hs,AQ,<-aka,yC aj9];rfl
    ·rw [hs,AQ];exact hR3
   ·rw [gY (ex:=false) (pu:=true) (cs:=pv) (by simp only [go_sem,ya]) (by rw [aj9,yi]) (by omega) (by omega) (by decide) (by simp only [go_sem])];simp only [go_sem,ya,yb,wc];refine ⟨_,d-1,rfl,by omega,c+1,ahQ,k1+1+1,pv++[ab c],?_,by omega,?_,?_,?_⟩
    ·simp only [go_sem,ya,yb,av]<;>rfl
    ·rw [hs,AQ,yL,fw];rfl
    ·rw [hs,AQ,aka]
    ·rw [hs,AQ];exact hR3
  ·
   have AQ:ay M (c+1)=ay M c:=by rw [hs,Lv hp]
   rw [<-AQ] at fw jr hR;have hF:bm (ay M c) c=M.length:=by omega
   rw [hF] at f0 Jz;cases k
   all_goals
    simp only [oV,oH,oC,b3] at f0 ⊢;simp only [go_sem,ya,yb,DW,show (c:Int)<W by omega];generalize hq:D P L (.loop [4,5,6,7,8,9,10,11,24,25] BS) _=q;obtain ⟨ex,st,rfl,tm,ct,rfl,rfl,t4,t5,t6,t7,t8,t9,t10,t11,t24,t25⟩:=bI hq f0 ⟨_,by simp only [go_sem,ya,yb,av]<;>rfl,by omega,Jz⟩
    simp only [go_sem,ya,yb,av,t4,t5,t6,t7,t8,t9,t10,t11,t24,t25,Int.le_refl,yu,wc];refine ⟨_,d-1,rfl,by omega,c+1,rows,_,pv,?_,by omega,fw,jr,hR⟩;simp only [go_sem,ya,yb,av]<;>rfl
 ·right
  have:c=W:=by omega
  subst this;cases k
  all_goals
   simp only [oV,oH,oC,b3];simp only [go_sem,ya,yb,DW,show ¬(c:Int)<c by omega,yv];exact ⟨_,_,rfl,by simp,_,_,rows,_,pv,rfl,rfl,by simp only [go_sem,ya],by simp only [go_sem,ya]<;>rfl,fw,jr,hR⟩
def XP (h:Fr' P L) (oO:Has P L 240 Cp) (E8:Has P L 227 Co) {v:AV} {M:Mx} {W:Nat} (hv:cx da v M) (hw:wid W M) (Zw:W<=1000) (h0:0<M.length) (ja:M.length<=1000) {K:Nat} (hk:ep K M) (lz:1<=K) (hK:4^M.length*(K+1)<=400000000):
  ∃r q,ak P L 227 [v] (.ae [r,q])/\cx da (bT r) ((ay M W).1.take (ay M W).2.length)/\br (bT q) ((ay M W).2.map (fun p:Nat=>(p:Int))):=by
 obtain ⟨one,e1,ho⟩:=O6 h (z:=1) (by decide) (by decide);obtain ⟨zero,e2,hz⟩:=O6 h (z:=0) (by decide) (by decide);obtain ⟨o1,o2,o3,o4,rfl,go⟩:=ho.gen;obtain ⟨z1,z2,z3,z4,rfl,gz⟩:=hz.gen;obtain ⟨r0,rest,eN,e0⟩:=hv.aM h0;have w0:=hw 0 h0;rw [dS h0] at w0;have key:=axJ h oO hw Zw ja hk lz hK (by simpa using ho) (by simpa using hz) W;have ek:=hv;obtain ⟨rows,hL,hR⟩:=hv;have lr:=hR.len;obtain ⟨p1,p2⟩:=apl hR;have sG:∀hp:Hp,lE hp 1 v=some (M.length,rows):=fun hp=>by
  rcases hL with ⟨rfl,rfl⟩ | ⟨e,rfl⟩
  ·simp at lr;omega
  ·simp only [lE,yi,Nat.beq_refl,yB,lr]
 have hm:∀ct,oI ct 1 24 [.aa] (some M.length) (some M.length)=some (.aC ct 0 M.length,.cells true true true 1 (yq M.length [AV.aa]).flatten):=fun ct=>Ag (by omega) (by omega) rfl rfl
 have oT:(yq M.length [AV.aa]).flatten.length=M.length:=by rw [acm];simp
 have hc:=fun (ct:Nat)=>atK (hp:=[(0,.cells true true true 1 (yq M.length [AV.aa]).flatten)]) (ct:=ct) (id:=0) (qt _ _ _) oT lr p1 p2
 have e12:bH P L (D P L) 69 [.int .i64 1]=some (.agg [o1,o2,o3,o4]):=e1;have e22:bH P L (D P L) 69 [.int .i64 0]=some (.agg [z1,z2,z3,z4]):=e2;have hP:=pM hw W;have lm:=BJ M W;have body:∃tm hp ct rows k pv,D P L Co.body ⟨eO 0 [v],[],0,0⟩=some (.ret,⟨tm,hp,ct,0⟩)/\aj tm 2= .aC 0 0 k/\((k=0/\aj tm 3= .aa/\hp=[(0,.cells true true true 1 rows)])\/(0<k/\aj tm 3= .aC 1 0 k/\hp=[(1,.cells true true false 1 pv),(0,.cells true true true 1 rows)]))/\(ay M W).2.length=k/\pv=(ay M W).2.map (fun p:Nat=>ab p)/\cz da rows (ay M W).1:=by
  simp only [go_sem,ya,yb,Co,ek.len,zN,hm,axG,sG,hc,e12,e22,bW,bg,go.st,gz.st,mU,e0,eN.len,w0];generalize hq:D P L (.loop [4,5,6,7,8,24,25] DW) _=q;obtain ⟨ex,st,rfl,tm,ct,Ei,k,pv,rfl,rfl,t4,t8,fw,jr,Dd⟩:=bI hq key ⟨0,rows,0,[],by simp only [go_sem,ya,yb,av,oV,oH,oC,b3]<;>rfl,by omega,rfl,rfl,hR⟩
  have Kx:k<=M.length:=by have:=hP.pv;omega
  rcases k with _ | k1
  all_goals
   simp only [oV,oH,b3] at t8 ⊢;simp only [go_sem,ya,yb,av,t4,t8]
   rw [apk (rw':=true) (pu:=true) (ex:=true) (cs:=Ei) (by simp only [go_sem,ya]) (by simp only [go_sem,zN,agI]) Kx];simp only [go_sem,ya]
  ·exact ⟨_,_,_,Ei,_,pv,rfl,by simp only [go_sem,ya],.inl ⟨rfl,by simp only [go_sem],rfl⟩,fw,jr,Dd⟩
  ·exact ⟨_,_,_,Ei,_,pv,rfl,by simp only [go_sem,ya],.inr ⟨by omega,by simp only [go_sem],rfl⟩,fw,jr,Dd⟩
 obtain ⟨tm,hp,ct,Ei,k,pv,hb,t2,Ce,fw,jr,Dd⟩:=body;have Kx:k<=M.length:=by have:=hP.pv;omega
 have lr2:=Dd.len;have hA:∀e,cx da (.ai e k (Ei.take k)) ((ay M W).1.take k):=fun e=>by
  have:=DB e (Dd.take k)
  rwa [yI,xE (by omega)] at this
 rw [fw];rcases Ce with ⟨rfl,t3,rfl⟩ | ⟨AY,t3,rfl⟩
 ·refine ⟨.bt false 1 0 [],.aa,?_,?_,?_⟩
  ·unfold ak;rw [aI E8,hb];simp only [go_sem,Co,t2,t3];exact amT (by omega) h0
  ·have:=hA false
   rw [tO];exact this
  ·rw [yC fw];exact qu
 ·have fe:pv.length=k:=by rw [jr,yk,fw]
  refine ⟨.bt (Nat.beq k M.length) 1 k (Ei.take k),.bt false 1 k pv,?_,hA _,?_⟩
  ·unfold ak;rw [aI E8,hb];simp only [go_sem,Co,t2,t3];exact anE (by omega) Kx fe
  ·have:=Hx false pv
   rw [fe] at this;show cT _ _
   rw [vT];rw [jr] at this ⊢;exact this
end
end
section
open Go (IntKind)
def mq (M:Mx):Bool:=M.any fun r=>r.any LG
noncomputable def bQ (M:List (List (List Nat))):Mx:=M.map (wE dB)
abbrev wd {β:Type} (M:List (List β)):Nat:=(M.getD 0 []).length
def Ie {M:List (List (List Nat))} (h:jK M=0):0<M.length/\M.length<=64/\∀r,r∈M->r.length=wd M/\0<r.length/\r.length<=64/\∀s,s∈r->cu s=0:=by
 unfold jK at h
 split at h
 ·grind
 ·split at h
  ·grind
  ·refine ⟨by omega,by omega,fun r hr=>?_⟩;have h1:=PV h r hr;obtain ⟨a1,h1⟩:=GS.1 h1;obtain ⟨a2,h1⟩:=GS.1 h1;obtain ⟨a3,h1⟩:=GS.1 h1;obtain ⟨a4,_⟩:=GS.1 h1;refine ⟨?_,?_,?_,PV a4⟩
   ·grind
   ·grind
   ·grind
def Lw {M:List (List (List Nat))} (h:∀r,r∈M->r.length=wd M):wid (wd M) (bQ M):=fun i hi=>by
 unfold bQ at hi ⊢;rw [dS hi,xg,yk]
 grind
def QG (M:List (List (List Nat))):(bQ M).length=M.length:=yk _
def apm (z:Int):(aw z.natAbs).length<=(aU z).length:=by
 cases z with
 | ofNat n=>exact yo _
 | negSucc n=>show (aw (n+1)).length<=(45::aw (n+1)).length;simp
def H40 {s:List Nat} (h:cu s=0) (hl:s.length<=40):Hq 160 (dB s):=by
 obtain ⟨e,h1,h2⟩:=DA h;have hn:=apm (dB s).num;have hT:s.length=(aU (dB s).num).length+(if (dB s).den=1 then [] else 47::aw (dB s).den).length:=by
  conv=>lhs;rw [e]
  unfold RT;rw [yL]
 refine ⟨Dw (k:=40) (by omega) (by decide),Dw (k:=40) ?_ (by decide)⟩
 split at hT
 ·rename_i hd;rw [hd];decide
 ·grind
def axK {M:List (List (List Nat))} (h:∀r,r∈M->∀s,s∈r->cu s=0/\s.length<=40):ep 160 (bQ M):=fun i hi x hx=>by
 unfold bQ at hi hx;rw [dS hi,xg] at hx;obtain ⟨s,hs,rfl⟩:=List.mem_map.1 hx;obtain ⟨c,l⟩:=h _ (yp _) s hs;exact H40 c l
def Q8 {K:Nat} {M:Mx} (h:ep K M) {r:List Rat} (hr:r∈M):∀x,x∈r->Hq K x:=by
 obtain ⟨i,hi,rfl⟩:=xL.1 hr
 have:=h i hi
 rwa [dS hi] at this
section
variable {P:aH} {L:Lib}
def axL (h:Tx P L) {v rv:AV} {l:List Rat} (hv:aZ v=true) (hr:da rv l) (hl:l.length<=1000000) {K:Nat} (hk:∀x,x∈l->Hq K x) (hK:K<=4000000000) {n i j:Nat} {out:List AV}:
  ∀(d:Nat) (st:St),(∃k:Nat,aQ [4,6,9,10,11,15,16,17] st=⟨[(4,oV 0 j),(6,rv),(9,v),(10,ab n),(11,ab i),(15,rv),(16,ab l.length),(17,ab k)],oH 0 1 out [] j,oC 0 j,0⟩/\k+d=l.length/\(l.take k).any LG=false)->
   ∃ex s',D P L (.loop [4,6,9,10,11,15,16,17] BR) st=some (ex,s')/\∃tm hp ct,s'=⟨tm,hp,ct,0⟩/\((ex= .ret/\aj tm 2= .aa/\aj tm 3=ab 4/\l.any LG=true)\/(ex= .exit 2/\l.any LG=false/\hp=oH 0 1 out [] j/\aj tm 4=oV 0 j/\aj tm 6=rv/\aj tm 9=v/\aj tm 10=ab n/\aj tm 11=ab i)):=by
 intro dq sq;generalize bk:aQ [4,6,9,10,11,15,16,17] sq=s0;revert bk s0 sq dq;apply di;rintro d st ⟨k,rfl,hkd,hL⟩;by_cases hi:k<l.length
 ·obtain ⟨a,b,c,e,r,e1,hx⟩:=hr.aM hi;have e2:=aAV h hx (hk _ (yp hi)) hK;have gx:=hx.f4;have wk:IntKind.wrap .i64 ((k:Int)+1)=((k+1:Nat):Int):=wrap64 (by omega) (by omega);unfold ak at e2
  cases hg:LG l[k] with
  | true=>
   right
   rw [hg] at e2;have hT:l.any LG=true:=uY.2 ⟨_,yp hi,hg⟩;cases j
   all_goals
    simp only [oV,oH,oC];simp only [go_sem,ya,yb,BR,show (k:Int)<l.length by omega,yu,e1,oN,qM,yH,bg,gx.st,gx.ao,e2];exact ⟨_,_,rfl,by simp,_,_,_,rfl,.inl ⟨rfl,by simp only [go_sem,ya],by simp only [go_sem],hT⟩⟩
  | false=>
   left
   rw [hg] at e2;have hT:(l.take (k+1)).any LG=false:=by rw [xa hi,th,hL];simp [hg]
   cases j
   all_goals
    simp only [oV,oH,oC];simp only [go_sem,ya,yb,BR,show (k:Int)<l.length by omega,yu,e1,oN,qM,yH,bg,gx.st,gx.ao,e2];refine ⟨_,d-1,rfl,by omega,k+1,?_,by omega,hT⟩;rw [wk];simp only [go_sem,ya,yb,av,au hv,ax _ hv,au hr.pu,ax _ hr.pu]<;>rfl
 ·right
  rw [yN (by omega)] at hL
  have:k=l.length:=by omega
  subst this;cases j
  all_goals
   simp only [oV,oH,oC];simp only [go_sem,ya,yb,BR,show ¬(l.length:Int)<l.length by omega,yv];exact ⟨_,_,rfl,by simp,_,_,_,rfl,.inr ⟨rfl,hL,rfl,by simp only [go_sem,ya],by simp only [go_sem,ya],by simp only [go_sem,ya],by simp only [go_sem,ya],by simp only [go_sem,ya]⟩⟩
def aBy (h:Tx P L) (XQ:Has P L 123 IE) (XR:Has P L 226 MZ) {v:AV} {M:Mx} (hv:cx da v M) (hl:M.length<=1000000) (hr:∀r,r∈M->r.length<=1000000) {K:Nat} (hk:∀r,r∈M->∀x,x∈r->Hq K x) (hK:K<=4000000000):
  (mq M=true->ak P L 226 [v] (.ae [.aa,ab 4]))/\(mq M=false->∃r,ak P L 226 [v] (.ae [r,ab 0])/\cx b6 (bT r) (M.map (wE RT))):=by
 have key:=fN (P:=P) (L:=L) (live:=[4,9,10,11]) (a:=DV)
  (I:=fun d st=>∃(i:Nat) (out:List AV),i+d=M.length/\mq (M.take i)=false/\cz b6 out ((M.take i).map (wE RT))/\st=⟨[(4,oV 0 i),(9,v),(10,ab M.length),(11,ab i)],oH 0 1 out [] i,oC 0 i,0⟩)
  (Q:=fun ex st=>∃tm hp ct,st=⟨tm,hp,ct,0⟩/\((ex= .ret/\aj tm 2= .aa/\aj tm 3=ab 4/\mq M=true)\/(ex= .exit 0/\mq M=false/\∃out,hp=oH 0 1 out [] M.length/\aj tm 4=oV 0 M.length/\cz b6 out (M.map (wE RT))))) ?_
 ·have main:(mq M=true/\ak P L 226 [v] (.ae [.aa,ab 4]))\/(mq M=false/\∃r,ak P L 226 [v] (.ae [r,ab 0])/\cx b6 (bT r) (M.map (wE RT))):=by
   unfold ak;rw [aI XR];simp only [go_sem,ya,MZ,hv.len];generalize hq:D P L (.loop [4,9,10,11] DV) _=q;obtain ⟨ex,st,rfl,tm,hp,ct,rfl,h2⟩:=bI hq (key M.length) ⟨0,[],by omega,rfl,trivial,by simp only [go_sem,ya,av,au hv.pu,ax _ hv.pu]<;>rfl⟩
   rcases h2 with ⟨rfl,t2,t3,h4⟩ | ⟨rfl,h3,out,rfl,t4,hO⟩
   ·exact .inl ⟨h4,by simp only [go_sem,t2,t3]⟩
   ·right
    refine ⟨h3,?_⟩;have hlen:=hO.len;rw [yk] at hlen
    cases hn:M.length with
    | zero=>
     rw [hn] at t4;refine ⟨.aa,by simp only [go_sem,ya,av,t4,oV,oH],?_⟩;rw [yC hn];exact Hb
    | succ n=>
     rw [hn] at t4 hlen;refine ⟨.bt false 1 (n+1) out,?_,?_⟩
     ·simp only [go_sem,ya,yb,av,t4,oV,oH];exact amm (qt _ _ _) (by rw [hlen,yi]) (by decide)
     ·have:=DB false hO
      rwa [yk,hn] at this
  rcases main with ⟨h1,h2⟩ | ⟨h1,h2⟩
  ·exact ⟨fun _=>h2,fun h3=>by rw [h1] at h3;cases h3⟩
  ·exact ⟨fun h3=>(by rw [h1] at h3;cases h3),fun _=>h2⟩
 ·rintro d st ⟨i,out,hid,hL,hO,rfl⟩;by_cases hi:i<M.length
  ·obtain ⟨rv,rest,mV,e0⟩:=hv.aM hi;have hm:=yp hi;have f0:=axL h hv.pu mV (hr _ hm) (hk _ hm) hK (n:=M.length) (i:=i) (j:=i) (out:=out) M[i].length;obtain ⟨y,e1,hy⟩:=aBu XQ h mV (hr _ hm) (hk _ hm) hK;have wi:IntKind.wrap .i64 ((i:Int)+1)=((i+1:Nat):Int):=wrap64 (by omega) (by omega);have aHr:mq M=true\/M[i].any LG=false:=by
    cases hx:M[i].any LG with
    | true=>exact .inl (uY.2 ⟨_,hm,hx⟩)
    | false=>exact .inr rfl
   have Ky:cz b6 (out++[shut y]) ((M.take (i+1)).map (wE RT)):=by
    rw [xa hi,xy];exact hO.snoc hy
   have hlen:=hO.len;rw [yk,yI,xE (by omega)] at hlen;have hT:M[i].any LG=false->mq (M.take (i+1))=false:=fun q=>by
    unfold mq at hL ⊢;rw [xa hi,th,hL];simp only [ybb,ybx,q,ybc]
   have ahR:M[i].any LG=true->mq M=true:=fun q=>uY.2 ⟨_,hm,q⟩
   have kz:∀st,aQ [4,6,9,10,11,15,16,17] st=⟨[(4,oV 0 i),(6,rv),(9,v),(10,ab M.length),(11,ab i),(15,rv),(16,ab M[i].length),(17,ab (0:Nat))],oH 0 1 out [] i,oC 0 i,0⟩->_:=fun st aP=>f0 st ⟨0,aP,by omega,rfl⟩
   unfold ak at e1
   cases i with
   | zero=>
    have:out=[]:=yC hlen
    subst this;simp only [oV,oH,oC] at kz ⊢;simp only [go_sem,ya,yb,DV,show ((0:Nat):Int)<M.length by omega,e0,mV.len];generalize hq:D P L (.loop [4,6,9,10,11,15,16,17] BR) _=q;obtain ⟨ex,st,rfl,tm,hp,ct,rfl,h2⟩:=bI hq kz (by simp only [go_sem,ya,av,au hv.pu,ax _ hv.pu,au mV.pu,ax _ mV.pu]<;>rfl)
    rcases h2 with ⟨rfl,t2,t3,h4⟩ | ⟨rfl,h3,rfl,t4,t6,t9,t10,t11⟩
    ·right
     simp only [go_sem];exact ⟨_,_,rfl,by simp,_,_,_,rfl,.inl ⟨rfl,t2,t3,ahR h4⟩⟩
    ·left
     simp only [go_sem,ya,yb,xM,yM,yy,yi,av,t4,t6,t9,t10,t11,au hv.pu,ax _ hv.pu,au mV.pu,ax _ mV.pu,mV.ao,e1,hy.pu,hy.one,hy.cells,im];refine ⟨_,d-1,rfl,by omega,1,_,by omega,hT h3,Ky,?_⟩;rw [wi];simp only [go_sem,ya,yb,av,au hv.pu,ax _ hv.pu]<;>rfl
   | succ i=>
    simp only [oV,oH,oC] at kz ⊢;simp only [go_sem,ya,yb,DV,show ((i+1:Nat):Int)<M.length by omega,e0,mV.len];generalize hq:D P L (.loop [4,6,9,10,11,15,16,17] BR) _=q;obtain ⟨ex,st,rfl,tm,hp,ct,rfl,h2⟩:=bI hq kz (by simp only [go_sem,ya,yb,av,au hv.pu,ax _ hv.pu,au mV.pu,ax _ mV.pu]<;>rfl)
    rcases h2 with ⟨rfl,t2,t3,h4⟩ | ⟨rfl,h3,rfl,t4,t6,t9,t10,t11⟩
    ·right
     exact ⟨_,_,rfl,by simp,_,_,_,rfl,.inl ⟨rfl,t2,t3,ahR h4⟩⟩
    ·left
     simp only [go_sem,ya,yb,yy,yi,av,t4,t6,t9,t10,t11,au hv.pu,ax _ hv.pu,au mV.pu,ax _ mV.pu,mV.ao,e1,hy.pu,hy.one,hy.cells]
     rw [gY (ex:=false) (pu:=true) (cs:=out) (by simp only [go_sem,ya]) (by rw [hlen,yi]) (by omega) (by omega) (by decide) (by simp only [go_sem,hy.one])];simp only [go_sem,ya,yb,hy.pu];refine ⟨_,d-1,rfl,by omega,i+1+1,_,by omega,hT h3,Ky,?_⟩;rw [wi];simp only [go_sem,ya,yb,av,au hv.pu,ax _ hv.pu]<;>rfl
  ·right
   have:i=M.length:=by omega
   subst this;rw [xx] at hL hO;simp only [go_sem,ya,DV,show ¬(M.length:Int)<M.length by omega];exact ⟨_,_,rfl,by simp,_,_,_,rfl,.inr ⟨rfl,hL,out,rfl,by simp only [go_sem,ya],hO⟩⟩
structure Zx (P:aH) (L:Lib):Prop extends Ck P L where
 Pf:Has P L 84 oZ
 Bp:Has P L 88 iE
 XQ:Has P L 123 IE
 E5:Has P L 126 IF
 E6:Has P L 127 IG
 AP:Has P L 161 Es
 E7:Has P L 225 IP
 XR:Has P L 226 MZ
 E8:Has P L 227 Co
 oO:Has P L 240 Cp
def akb (h:Zx P L) (JA:Has P L 205 IN) {v:AV} {M:List (List (List Nat))} (hv:cx b6 v M) (hl:M.length<=1000000) (hr:∀r,r∈M->r.length<=1000000/\∀s,s∈r->s.length<=1000000000):
  (jK M≠0->ak P L 205 [v] (.ae [ab 0,ab (jK M)]))/\(jK M=0->∀{K:Nat},ep K (bQ M)->1<=K->4^M.length*(K+1)<=400000000->ak P L 205 [v] (.ae [ab ((ay (bQ M) (wd M)).2.length:Nat),ab 0])):=by
 have e1:=m84 h.toCk h.AP h.E5 h.E6 h.Pf hv hl hr;constructor
 ·intro hE;unfold ak;rw [aI JA];simp only [go_sem,ya,IN,hv.ao,e1,hE,yv,yR];rfl
 ·intro hE K hk lz hK;obtain ⟨m0,m64,cD⟩:=Ie hE;obtain ⟨x,e2,hx⟩:=aj6 h.toCk h.Bp h.E7 hv hl (fun r bR=>⟨(hr r bR).1,(cD r bR).2.2.2⟩);have hw:=Lw (M:=M) (fun r bR=>(cD r bR).1);have aHs:wd M<=64:=by
   have:=cD _ (yp m0)
   unfold wd;rw [Ix m0];omega
  obtain ⟨r,q,e3,Pn,zG⟩:=XP h.toFr' h.oO h.E8 hx hw (by omega) (by rw [yk];exact m0) (by rw [yk];omega) hk lz (by rw [yk];exact hK)
  rw [hE] at e1;unfold ak at e2 e3 ⊢;rw [aI JA];have lq:∀hp:Hp,fp hp 1 (bT q)=some (ab ((ay (bQ M) (wd M)).2.length:Nat)):=fun hp=>by
   have:=zG.len (hp:=hp)
   rwa [yk] at this
  simp only [go_sem,ya,IN,hv.ao,e1,yu,yQ,e2,hx.ao,e3,Dy,Dq,Dt,lq];rfl
end
end
section
open Go (IntKind)
def eT (R:Mx) (pv:List Nat) (n c:Nat):Nat->List Rat
 | 0=>(yq n 0).set c 1
 | i+1=>(eT R pv n c i).set (pv.getD i 0) (-(cF (gR R i) c))
def eX (R:Mx) (pv:List Nat) (n:Nat):Nat->Mx
 | 0=>[]
 | c+1=>if pv.contains c=true then eX R pv n c else eX R pv n c++[eT R pv n c pv.length]
def b4 (M:Mx) (W:Nat):Mx:=eX (ay M W).1 (ay M W).2 W W
def gD (M:Mx) (W:Nat):Mx:=(ay (b4 M W) W).1.take (ay (b4 M W) W).2.length
def z8 (R:Mx) (pv:List Nat) (n c:Nat):∀i,(eT R pv n c i).length=n
 | 0=>by simp [eT]
 | i+1=>by rw [eT,tF,z8 R pv n c i]
def Lx (R:Mx) (pv:List Nat) (n:Nat):∀c,(eX R pv n c).length<=c
 | 0=>yo _
 | c+1=>by
  have:=Lx R pv n c
  unfold eX;split
  ·omega
  ·grind
def Hl {R:Mx} {pv:List Nat} {n:Nat}:∀{c:Nat} {r:List Rat},r∈eX R pv n c->∃d,d<c/\pv.contains d=false/\r=eT R pv n d pv.length
 | 0,r,h=>by cases h
 | c+1,r,h=>by
  unfold eX at h
  split at h
  ·obtain ⟨d,h1,h2⟩:=Hl h;exact ⟨d,by omega,h2⟩
  ·rename_i hc;rcases List.mem_append.1 h with h | h
   ·obtain ⟨d,h1,h2⟩:=Hl h;exact ⟨d,by omega,h2⟩
   ·grind
def ahS {R:Mx} {pv:List Nat} {n c K:Nat} (hp:pv.length<=R.length) (hk:∀i,i<R.length->∀x,x∈gR R i->Hq K x) (hK:2<=K):∀i,i<=pv.length->∀x,x∈eT R pv n c i->Hq K x
 | 0,_,x,hx=>by
  rcases tq hx with h | h
  ·rw [List.eq_of_mem_replicate h];exact E4.mono hK
  ·rw [h];exact XN.mono hK
 | i+1,hi,x,hx=>by
  rcases tq hx with h | h
  ·exact ahS hp hk hK i (by omega) x h
  ·rw [h];unfold cF;rw [yz]
   cases hq:(gR R i)[c]? with
   | none=>exact (E4.mono hK).neg
   | some y=>exact (hk i (by omega) y (tS hq)).neg
def DC (R:Mx) (pv:List Nat) (n c:Nat):wid n (eX R pv n c):=fun i hi=>by
 rw [dS hi];obtain ⟨d,_,_,e⟩:=Hl (yp hi);rw [e,z8]
def axM {R:Mx} {pv:List Nat} {n K:Nat} (hp:pv.length<=R.length) (hk:ep K R) (hK:2<=K) (c:Nat):ep K (eX R pv n c):=fun i hi x hx=>by
 rw [dS hi] at hx;obtain ⟨d,_,_,e⟩:=Hl (yp hi);rw [e] at hx;exact ahS hp hk hK pv.length (yo _) x hx
abbrev z4:List AV:=[AV.int .i64 0,.aa,.int .i64 0,.aa]
def axN (n:Nat):(yq n z4).flatten.length=n*4:=by simp_all
def arq {hp:Hp} {ct id i m:Nat} {ex:Bool} {r1 r2 r3 r4:AV} {qs:List AV} (lq:qs.length=i*4) (gr:F4 r1 r2 r3 r4):
  gU hp ct id (i*4) 4 [r1,r2,r3,r4] (some (.cells true true ex 4 (qs++(yq (m+1) z4).flatten)))=some (.ae [],bc hp id (.cells true true ex 4 ((qs++[r1,r2,r3,r4])++(yq m z4).flatten)),ct):=by
 have pr:=gr.Pe;rw [qQ (by rfl) (by rw [yL,lq,axN];omega) (by simp [cm,gr.o1,gr.o2,gr.o3,gr.o4])];have Zq:over (i*4) [r1,r2,r3,r4] (qs++(yq (m+1) z4).flatten)=(qs++[r1,r2,r3,r4])++(yq m z4).flatten:=by
  unfold over
  grind
 rw [Zq];simp [aG,pr.1,pr.2.1,pr.2.2.1,pr.2.2.2]
def QL.over:∀{l:List Rat} {cs:List AV} {i:Nat} {a b c d:AV} {x:Rat},QL cs l->i<l.length->dX (.agg [a,b,c,d]) x->QL (VE.over (i*4) [a,b,c,d] cs) (l.set i x)
 | [],_,i,_,_,_,_,_,_,hi,_=>absurd hi (Nat.not_lt_zero i)
 | y::l,cs,0,a,b,c,d,x,h,_,hx=>by
  obtain ⟨a',b',c',d',r,rfl,_,h2⟩:=h.inv;exact ⟨hx,h2⟩
 | y::l,cs,i+1,a,b,c,d,x,h,hi,hx=>by
  obtain ⟨a',b',c',d',r,rfl,h1,h2⟩:=h.inv;have ih:=QL.over (i:=i) h2 (by simpa using hi) hx;have e:VE.over ((i+1)*4) [a,b,c,d] (a'::b'::c'::d'::r)=a'::b'::c'::d'::VE.over (i*4) [a,b,c,d] r:=by
   unfold VE.over
   grind
  rw [e];exact ⟨h1,ih⟩
def Zy {hp:Hp} {ct id i:Nat} {ex:Bool} {r1 r2 r3 r4:AV} {cs:List AV} {l:List Rat} (h:QL cs l) (hi:i<l.length) (gr:F4 r1 r2 r3 r4):
  gU hp ct id (i*4) 4 [r1,r2,r3,r4] (some (.cells true true ex 4 cs))=some (.ae [],bc hp id (.cells true true ex 4 (VE.over (i*4) [r1,r2,r3,r4] cs)),ct):=by
 have pr:=gr.Pe
 have:=h.len
 rw [qQ (by rfl) (by omega) (by simp [cm,gr.o1,gr.o2,gr.o3,gr.o4])];simp [aG,pr.1,pr.2.1,pr.2.2.1,pr.2.2.2]
section
variable {P:aH} {L:Lib}
def axO (h:Fr' P L) {rv qv:AV} (hr:aZ rv=true) (hq:aZ qv=true) {n c j:Nat} (hn:n<=1000) {bs:List AV}:
  ∀d st,(∃(i:Nat) (qs:List AV),aQ [5,6,7,8,9,10,32,33,39,40] st=⟨[(5,ab n),(6,rv),(7,qv),(8,oV 0 j),(9,ab c),(10,.aC (oC 0 j) 0 n),(32,ab n),(33,ab c),(39,ab n),(40,ab i)],(oC 0 j,.cells true true true 4 (qs++(yq (n-i) z4).flatten))::oH 0 1 bs [] j,oC 0 j+1,0⟩/\i+d=n/\QL qs (yq i 0))->
   ∃ex s',D P L (.loop [5,6,7,8,9,10,32,33,39,40] DS) st=some (ex,s')/\∃tm ct qs,s'=⟨tm,(oC 0 j,.cells true true true 4 qs)::oH 0 1 bs [] j,ct,0⟩/\ex= .exit 2/\QL qs (yq n 0)/\aj tm 5=ab n/\aj tm 6=rv/\aj tm 7=qv/\aj tm 8=oV 0 j/\aj tm 9=ab c/\aj tm 10= .aC (oC 0 j) 0 n/\aj tm 32=ab n/\aj tm 33=ab c:=by
 intro dq sq;generalize bk:aQ [5,6,7,8,9,10,32,33,39,40] sq=s0;revert bk s0 sq dq;apply di;rintro d st ⟨i,qs,rfl,hid,hQ⟩;by_cases hi:i<n
 ·left
  obtain ⟨zero,e1,hz⟩:=O6 h (z:=0) (by decide) (by decide);have fk:dX zero 0:=by simpa using hz
  obtain ⟨v1,v2,v3,v4,rfl,gz⟩:=fk.gen;have e2:bH P L (D P L) 69 [.int .i64 0]=some (.agg [v1,v2,v3,v4]):=e1;have lq:qs.length=i*4:=by rw [hQ.len,List.length_replicate]
  obtain ⟨m,hm⟩:∃m,n-i=m+1:=⟨n-i-1,by omega⟩;have aP:=fun (hp:Hp) (ct id:Nat)=>arq (hp:=hp) (ct:=ct) (id:=id) (i:=i) (m:=m) (ex:=true) (qs:=qs) lq gz
  have wi:IntKind.wrap .i64 ((i:Int)+1)=((i+1:Nat):Int):=wrap64 (by omega) (by omega);have Dc:QL (qs++[v1,v2,v3,v4]) (yq (i+1) 0):=by rw [List.replicate_succ'];exact hQ.snoc fk
  have gE:n-(i+1)=m:=by omega
  rw [hm];cases j
  all_goals
   simp only [oV,oH,oC];simp only [go_sem,ya,yb,DS,show (i:Int)<n by omega,e2,bW,zN,cp _ _ hi,yg,aP];refine ⟨_,d-1,rfl,by omega,i+1,_,?_,by omega,Dc⟩;rw [wi,gE];simp only [go_sem,ya,yb,av,au hr,ax _ hr,au hq,ax _ hq]<;>rfl
 ·right
  have:i=n:=by omega
  subst this;rw [tN];cases j
  all_goals
   simp only [oV,oH,oC];simp only [go_sem,ya,yb,DS,show ¬(i:Int)<i by omega,yv];exact ⟨_,_,rfl,by simp,_,_,_,rfl,rfl,by simpa using hQ,by simp only [go_sem,ya],by simp only [go_sem,ya],by simp only [go_sem,ya],by simp only [go_sem,ya],by simp only [go_sem,ya],by simp only [go_sem,ya],by simp only [go_sem,ya],by simp only [go_sem,ya]⟩
def axP (h:Fr' P L) {rv qv:AV} {R:Mx} {pv:List Nat} (hr:cx da rv R) (hq:br qv (pv.map (fun p:Nat=>(p:Int)))) {n c j:Nat} (hn:n<=1000) (hw:wid n R) (fe:pv.length<=R.length) (hl:R.length<=1000) (aW:∀p,p∈pv->p<n) (hc:c<n) {K:Nat} (hk:ep K R) (hK:K<=4000000000) {bs:List AV}:
  ∀d st,(∃(i:Nat) (cs:List AV),aQ [5,6,7,8,9,10,12,32,33,52,53,54] st=⟨[(5,ab n),(6,rv),(7,qv),(8,oV 0 j),(9,ab c),(10,.aC (oC 0 j) 0 n),(12,.bool (!(pv.take i).contains c)),(32,ab n),(33,ab c),(52,qv),(53,ab pv.length),(54,ab i)],(oC 0 j,.cells true true true 4 cs)::oH 0 1 bs [] j,oC 0 j+1,0⟩/\i+d=pv.length/\QL cs (eT R pv n c i))->
   ∃ex s',D P L (.loop [5,6,7,8,9,10,12,32,33,52,53,54] BQ) st=some (ex,s')/\∃tm ct cs,s'=⟨tm,(oC 0 j,.cells true true true 4 cs)::oH 0 1 bs [] j,ct,0⟩/\ex= .exit 4/\QL cs (eT R pv n c pv.length)/\aj tm 5=ab n/\aj tm 6=rv/\aj tm 7=qv/\aj tm 8=oV 0 j/\aj tm 10= .aC (oC 0 j) 0 n/\aj tm 12= .bool (!pv.contains c)/\aj tm 32=ab n/\aj tm 33=ab c:=by
 intro dq sq;generalize bk:aQ [5,6,7,8,9,10,12,32,33,52,53,54] sq=s0;revert bk s0 sq dq;apply di;rintro d st ⟨i,cs,rfl,hid,hQ⟩;by_cases hi:i<pv.length
 ·left
  have Kz:i<R.length:=by omega
  obtain ⟨r0,rest,eN,e0⟩:=hr.aM Kz;have wr:=hw i Kz;have kr:=hk i Kz;rw [dS Kz] at wr kr;obtain ⟨a1,a2,a3,a4,ar,e1,hx⟩:=eN.aM (i:=c) (by omega);obtain ⟨y,e2,hy⟩:=ajB h hx (kr _ (yp (by omega))) (by omega);have gx:=hx.f4;have C9:=hy;obtain ⟨y1,y2,y3,y4,rfl,gy⟩:=hy.gen;have ev:=hq.aM (i:=i) (by rw [yk];exact hi)
  rw [xg] at ev;have rS:pv[i]<n:=aW _ (yp hi);have Dc:QL (VE.over (pv[i]*4) [y1,y2,y3,y4] cs) (eT R pv n c (i+1)):=by
   rw [eT,show pv.getD i 0=pv[i] by simp [yz,yK hi],dS Kz,fE (show c<R[i].length by omega)];exact hQ.over (by rw [z8];exact rS) C9
  have aP:=fun (hp:Hp) (ct id:Nat)=>Zy (hp:=hp) (ct:=ct) (id:=id) (ex:=true) hQ (by rw [z8];exact rS) gy
  have wi:IntKind.wrap .i64 ((i:Int)+1)=((i+1:Nat):Int):=wrap64 (by omega) (by omega);have hb:(!(pv.take (i+1)).contains c)=(!(pv.take i).contains c&& !decide ((pv[i]:Int)=(c:Int))):=by
   rw [xa hi]
   have:decide ((pv[i]:Int)=(c:Int))=(c==pv[i]):=by
    by_cases q:pv[i]=c
    ·rw [q];simp
    ·rw [y7 (by omega)];symm;simpa using fun e=>q e.symm
   rw [this];simp only [List.contains_eq_any_beq,th,ybb,ybx,ybc,Bool.not_or]
  have Zz:∀hp:Hp,fp hp 1 qv=some (ab pv.length):=fun hp=>by
   have:=hq.len (hp:=hp);rwa [yk] at this
  unfold ak at e2;cases hbf:(!(pv.take i).contains c)
  ·cases j
   all_goals
    simp only [oV,oH,oC];simp only [go_sem,ya,yb,BQ,show (i:Int)<pv.length by omega,ev,e0,e1,oN,qM,gx.ao,e2,bW,zN,cp _ _ rS,yg,aP];refine ⟨_,d-1,rfl,by omega,i+1,_,?_,by omega,Dc⟩;rw [wi,hb,hbf];simp only [go_sem,ya,yb,av,au hr.pu,ax _ hr.pu,au hq.pu,ax _ hq.pu]<;>rfl
  ·cases j
   all_goals
    simp only [oV,oH,oC];simp only [go_sem,ya,yb,BQ,show (i:Int)<pv.length by omega,ev,e0,e1,oN,qM,gx.ao,e2,bW,zN,cp _ _ rS,yg,aP];refine ⟨_,d-1,rfl,by omega,i+1,_,?_,by omega,Dc⟩;rw [wi,hb,hbf];simp only [go_sem,ya,yb,av,au hr.pu,ax _ hr.pu,au hq.pu,ax _ hq.pu]<;>rfl
 ·right
  have:i=pv.length:=by omega
  subst this;rw [xx];cases j
  all_goals
   simp only [oV,oH,oC];simp only [go_sem,ya,yb,BQ,show ¬(pv.length:Int)<pv.length by omega,yv];exact ⟨_,_,rfl,by simp,_,_,cs,rfl,rfl,hQ,by simp only [go_sem,ya],by simp only [go_sem,ya],by simp only [go_sem,ya],by simp only [go_sem,ya],by simp only [go_sem,ya],by simp only [go_sem,ya],by simp only [go_sem,ya],by simp only [go_sem,ya]⟩
end
end
section
open Go (IntKind)
def cx.ae {β:Type} {p:AV->β->Prop} {v:AV} {s:List β} (h:cx p v s) (hp:Hp) (k:IntKind) (b:Int):result hp (.ae [v,.int k b])=some (.ae [v,.int k b]):=by
 obtain ⟨rows,h1,_⟩:=h;rcases h1 with ⟨rfl,_⟩ | ⟨e,rfl⟩<;>rfl
section
variable {P:aH} {L:Lib}
def axQ (h:Fr' P L) {rv qv:AV} {R:Mx} {pv:List Nat} (hr:cx da rv R) (hq:br qv (pv.map (fun p:Nat=>(p:Int)))) {n:Nat} (hn:n<=1000) (hw:wid n R) (fe:pv.length<=R.length) (hl:R.length<=1000) (aW:∀p,p∈pv->p<n) {K:Nat} (hk:ep K R) (hK:K<=4000000000):
  ∀d st,(∃(c j:Nat) (bs:List AV),aQ [5,6,7,8,32,33] st=⟨[(5,ab n),(6,rv),(7,qv),(8,oV 0 j),(32,ab n),(33,ab c)],oH 0 1 bs [] j,oC 0 j,0⟩/\c+d=n/\j=(eX R pv n c).length/\cz da bs (eX R pv n c))->
   ∃ex s',D P L (.loop [5,6,7,8,32,33] DT) st=some (ex,s')/\∃tm ct j bs,s'=⟨tm,oH 0 1 bs [] j,ct,0⟩/\ex= .exit 0/\aj tm 8=oV 0 j/\j=(eX R pv n n).length/\cz da bs (eX R pv n n):=by
 intro dq sq;generalize bk:aQ [5,6,7,8,32,33] sq=s0;revert bk s0 sq dq;apply di;rintro d st ⟨c,j,bs,rfl,hcd,hj,hB⟩;by_cases hc:c<n
 ·left
  have hjc:j<=c:=by rw [hj];exact Lx R pv n c
  have lb:=hB.len;rw [<-hj] at lb;have f0:=axO h hr.pu hq.pu (c:=c) (j:=j) hn (bs:=bs) n;have f1:=axP h hr hq (j:=j) hn hw fe hl aW hc hk hK (bs:=bs) pv.length;obtain ⟨one,e1,ho⟩:=O6 h (z:=1) (by decide) (by decide);have kX:dX one 1:=by simpa using ho
  obtain ⟨o1,o2,o3,o4,rfl,go⟩:=kX.gen;have e2:bH P L (D P L) 69 [.int .i64 1]=some (.agg [o1,o2,o3,o4]):=e1;have hm:∀ct,oI ct 4 64 [.int .i64 0,.aa,.int .i64 0,.aa] (some n) (some n)=some (.aC ct 0 n,.cells true true true 4 (yq n z4).flatten):=fun ct=>Ag (by omega) (by omega) rfl rfl
  have wc:IntKind.wrap .i64 ((c:Int)+1)=((c+1:Nat):Int):=wrap64 (by omega) (by omega);have Zz:∀hp:Hp,fp hp 1 qv=some (ab pv.length):=fun hp=>by
   have:=hq.len (hp:=hp);rwa [yk] at this
  have AY:eT R pv n c 0=(yq n 0).set c 1:=rfl;cases E9:pv.contains c
  ·
   have gG:eX R pv n (c+1)=eX R pv n c++[eT R pv n c pv.length]:=by
    rw [eX,E9,yr (by decide)]
   have EV:∀cs,QL cs (eT R pv n c pv.length)->da (.ai true n cs) (eT R pv n c pv.length):=fun cs rC=>by
    have:=QE true rC
    rwa [z8] at this
   rcases j with _ | j1
   all_goals
    simp only [oV,oH,oC] at f0 f1 ⊢;simp only [go_sem,ya,yb,DT,show (c:Int)<n by omega,zN,hm];generalize bK:D P L (.loop [5,6,7,8,9,10,32,33,39,40] DS) _=q;obtain ⟨ex,st,rfl,tm,ct,qs,rfl,rfl,KA,t5,t6,t7,t8,t9,t10,t32,t33⟩:=bI bK f0 ⟨0,[],by simp only [go_sem,ya,yb,av,au hr.pu,ax _ hr.pu,au hq.pu,ax _ hq.pu]<;>rfl,by omega,trivial⟩
    have qV:=fun (hp:Hp) (ct id:Nat)=>Zy (hp:=hp) (ct:=ct) (id:=id) (ex:=true) KA (show c<(yq n (0:Rat)).length by simpa using hc) go
    have nO:QL (VE.over (c*4) [o1,o2,o3,o4] qs) (eT R pv n c 0):=by rw [AY];exact KA.over (by simpa using hc) (by simpa using ho)
    simp only [go_sem,ya,yb,av,t5,t6,t7,t8,t9,t10,t32,t33,au hr.pu,ax _ hr.pu,au hq.pu,ax _ hq.pu,e2,bW,cp _ _ hc,yg,qV,Zz];generalize px:D P L (.loop [5,6,7,8,9,10,12,32,33,52,53,54] BQ) _=q2;obtain ⟨ex,st,rfl,tm,ct,cs,rfl,rfl,ZA,t5,t6,t7,t8,t10,t12,t32,t33⟩:=bI px f1 ⟨0,_,by simp only [go_sem,ya,yb,av,au hr.pu,ax _ hr.pu,au hq.pu,ax _ hq.pu]<;>rfl,by omega,nO⟩
    have lcs:cs.length=n*4:=by rw [ZA.len,z8]
    have gS:=fun hp:Hp=>nW (hp:=hp) (k:=n) (sz:=4) (cs:=cs) true lcs (by decide)
    have hB':cz da (bs++[.ai true n cs]) (eX R pv n (c+1)):=by rw [gG];exact hB.snoc (EV cs ZA)
    rw [E9] at t12;simp only [go_sem,ya,yb,yy,yi,av,t5,t6,t7,t8,t10,t12,t32,t33,au hr.pu,ax _ hr.pu,au hq.pu,ax _ hq.pu,yR,gS]
   ·rw [im (by decide) (by decide) (by decide) (by decide)];simp only [go_sem,ya,yb,wc];refine ⟨_,d-1,rfl,by omega,c+1,1,[.ai true n cs],?_,by omega,?_,?_⟩
    ·simp only [go_sem,ya,yb,av,au hr.pu,ax _ hr.pu,au hq.pu,ax _ hq.pu]<;>rfl
    ·rw [gG,yL,<-hj];rfl
    ·have:bs=[]:=yC lb
     subst this;exact hB'
   ·rw [gY (ex:=false) (pu:=true) (cs:=bs) (by simp only [go_sem,ya]) (by rw [lb,yi]) (by omega) (by omega) (by decide) (by simp only [go_sem])];simp only [go_sem,ya,yb,wc];refine ⟨_,d-1,rfl,by omega,c+1,j1+1+1,bs++[.ai true n cs],?_,by omega,?_,hB'⟩
    ·simp only [go_sem,ya,yb,av,au hr.pu,ax _ hr.pu,au hq.pu,ax _ hq.pu]<;>rfl
    ·rw [gG,yL,<-hj];rfl
  ·
   have gG:eX R pv n (c+1)=eX R pv n c:=by
    rw [eX,E9,yE rfl]
   rcases j with _ | j1
   all_goals
    simp only [oV,oH,oC] at f0 f1 ⊢;simp only [go_sem,ya,yb,DT,show (c:Int)<n by omega,zN,hm];generalize bK:D P L (.loop [5,6,7,8,9,10,32,33,39,40] DS) _=q;obtain ⟨ex,st,rfl,tm,ct,qs,rfl,rfl,KA,t5,t6,t7,t8,t9,t10,t32,t33⟩:=bI bK f0 ⟨0,[],by simp only [go_sem,ya,yb,av,au hr.pu,ax _ hr.pu,au hq.pu,ax _ hq.pu]<;>rfl,by omega,trivial⟩
    have qV:=fun (hp:Hp) (ct id:Nat)=>Zy (hp:=hp) (ct:=ct) (id:=id) (ex:=true) KA (show c<(yq n (0:Rat)).length by simpa using hc) go
    have nO:QL (VE.over (c*4) [o1,o2,o3,o4] qs) (eT R pv n c 0):=by rw [AY];exact KA.over (by simpa using hc) (by simpa using ho)
    simp only [go_sem,ya,yb,av,t5,t6,t7,t8,t9,t10,t32,t33,au hr.pu,ax _ hr.pu,au hq.pu,ax _ hq.pu,e2,bW,cp _ _ hc,yg,qV,Zz];generalize px:D P L (.loop [5,6,7,8,9,10,12,32,33,52,53,54] BQ) _=q2;obtain ⟨ex,st,rfl,tm,ct,cs,rfl,rfl,ZA,t5,t6,t7,t8,t10,t12,t32,t33⟩:=bI px f1 ⟨0,_,by simp only [go_sem,ya,yb,av,au hr.pu,ax _ hr.pu,au hq.pu,ax _ hq.pu]<;>rfl,by omega,nO⟩
    rw [E9] at t12;simp only [go_sem,ya,yb,av,t5,t6,t7,t8,t10,t12,t32,t33,au hr.pu,ax _ hr.pu,au hq.pu,ax _ hq.pu,yQ,wc]
   ·refine ⟨_,d-1,rfl,by omega,c+1,0,bs,?_,by omega,by rw [gG];exact hj,by rw [gG];exact hB⟩
    simp only [go_sem,ya,av,au hr.pu,ax _ hr.pu,au hq.pu,ax _ hq.pu]<;>rfl
   ·refine ⟨_,d-1,rfl,by omega,c+1,j1+1,bs,?_,by omega,by rw [gG];exact hj,by rw [gG];exact hB⟩
    simp only [go_sem,ya,yb,av,au hr.pu,ax _ hr.pu,au hq.pu,ax _ hq.pu]<;>rfl
 ·right
  have:c=n:=by omega
  subst this;cases j
  all_goals
   simp only [oV,oH,oC];simp only [go_sem,ya,yb,DT,show ¬(c:Int)<c by omega,yv];exact ⟨_,_,rfl,by simp,_,_,_,bs,rfl,rfl,by simp only [go_sem,ya]<;>rfl,hj,hB⟩
def QH {K:Nat} {m:Mx} (h:ep K m) (k:Nat):ep K (m.take k):=fun i hi x hx=>by
 rw [yI] at hi;rw [dS (by rw [yI];exact hi),uO] at hx
 have:=h i (by omega)
 rw [dS (by omega)] at this
 grind
def Ly {w:Nat} {m:Mx} (h:wid w m) (k:Nat):wid w (m.take k):=fun i hi=>by
 rw [yI] at hi;rw [dS (by rw [yI];exact hi),uO]
 have:=h i (by omega)
 rwa [dS (by omega)] at this
def HA {w:Nat} {m:Mx} (h:wid w m) {r:List Rat} (hr:r∈m):r.length=w:=by
 obtain ⟨i,hi,rfl⟩:=xL.1 hr
 have:=h i hi
 rwa [dS hi] at this
def abE (R:Mx) {pv:List Nat} {n c k:Nat} (hk:pv.length<=k) (hR:k<=R.length):∀i,i<=pv.length->eT (R.take k) pv n c i=eT R pv n c i
 | 0,_=>rfl
 | i+1,hi=>by
  rw [eT,eT,abE R hk hR i (by omega),dS (by rw [yI];omega),dS (by omega),uO]
def abF (R:Mx) {pv:List Nat} {n k:Nat} (hk:pv.length<=k) (hR:k<=R.length):∀c,eX (R.take k) pv n c=eX R pv n c
 | 0=>rfl
 | c+1=>by rw [eX,eX,abF R hk hR c,abE R hk hR _ (yo _)]
def ag1 {M:Mx} {W K:Nat} (hw:wid W M) (hk:ep K M) (lz:1<=K):∃k,2<=k/\k<=4^M.length*(K+1)/\ep k (b4 M W):=by
 obtain ⟨J,J0,J1,J2⟩:=Eh hw hk lz W (yo W);have hP:=pM hw W;have h1:4^(ay M W).2.length<=4^M.length:=xb (by decide) hP.pv
 have:=yT (K+1) h1
 exact ⟨J+1,by omega,by omega,axM (by rw [hP.len];exact hP.pv) (J2.mono (by omega)) (by omega) W⟩
def aBz (h:Zx P L) (Fa:Has P L 204 oE) {v:AV} {M:List (List (List Nat))} (hv:cx b6 v M) (hl:M.length<=1000000) (hr:∀r,r∈M->r.length<=1000000/\∀s,s∈r->s.length<=1000000000):
  (jK M≠0->ak P L 204 [v] (.ae [.aa,ab (jK M)]))/\(jK M=0->∀{K:Nat},ep K (bQ M)->1<=K->4^wd M*(4^M.length*(K+1)+1)<=400000000->
   (mq (gD (bQ M) (wd M))=true->ak P L 204 [v] (.ae [.aa,ab 4]))/\(mq (gD (bQ M) (wd M))=false->∃r,ak P L 204 [v] (.ae [r,ab 0])/\cx b6 (bT r) ((gD (bQ M) (wd M)).map (wE RT)))):=by
 have e1:=m84 h.toCk h.AP h.E5 h.E6 h.Pf hv hl hr;unfold ak at e1;constructor
 ·intro hE;unfold ak;rw [aI Fa];simp only [go_sem,ya,oE,hv.ao,e1,hE,yv,yR]
 ·intro hE K hk lz hK;obtain ⟨m0,m64,cD⟩:=Ie hE;obtain ⟨x,e2,hx⟩:=aj6 h.toCk h.Bp h.E7 hv hl (fun r bR=>⟨(hr r bR).1,(cD r bR).2.2.2⟩);have hx:cx da (shut x) (bQ M):=hx;have hw:=Lw (M:=M) (fun r bR=>(cD r bR).1);have hWM:=cD _ (yp m0);have J9:M[0].length=wd M:=hWM.1;have lM:=QG M;have KB:1<=4^wd M:=Nat.pow_pos (by decide);have hK3:4^(bQ M).length*(K+1)<=400000000:=by
   rw [lM]
   have:=yT (4^M.length*(K+1)+1) KB
   omega
  obtain ⟨r,q,e3,Pn,zG⟩:=XP h.toFr' h.oO h.E8 hx hw (by omega) (by omega) (by omega) hk lz hK3;obtain ⟨J,J2,J3,J4⟩:=ag1 hw hk lz;rw [lM] at J3;have hP:=pM hw (wd M);have jr:=hP.pv;have fe:=hP.len;obtain ⟨r0,rest,h0,e0⟩:=hv.aM (i:=0) m0;have hwt:=Ly hP.wid (ay (bQ M) (wd M)).2.length;obtain ⟨J',J0',J1',J2'⟩:=Eh hw hk lz (wd M) (yo _);have hJ':J'<=4000000000:=by
   have h1:4^(ay (bQ M) (wd M)).2.length<=4^(bQ M).length:=xb (by decide) hP.pv
   have:=yT (K+1) h1
   omega
  have f0:=axQ h.toFr' Pn zG (n:=wd M) (by omega) hwt (by rw [yI];omega) (by rw [yI];omega) hP.lt (QH J2' _) hJ' (wd M);have hkB:∀c,eX ((ay (bQ M) (wd M)).1.take (ay (bQ M) (wd M)).2.length) (ay (bQ M) (wd M)).2 (wd M) c=eX (ay (bQ M) (wd M)).1 (ay (bQ M) (wd M)).2 (wd M) c:=abF _ (yo _) (by omega);simp only [hkB] at f0;have lk:(b4 (bQ M) (wd M)).length<=wd M:=Lx _ _ _ _;have hB0:eX (ay (bQ M) (wd M)).1 (ay (bQ M) (wd M)).2 (wd M) (wd M)=b4 (bQ M) (wd M):=rfl;rw [hB0] at f0;rw [hE] at e1;unfold ak at e2 e3;have azq:∃tm ct j bs,D P L (zg 5 oE.body) ⟨eO 0 [v],[],0,0⟩=some (.normal,⟨tm,oH 0 1 bs [] j,ct,0⟩)/\aj tm 8=oV 0 j/\j=(b4 (bQ M) (wd M)).length/\cz da bs (b4 (bQ M) (wd M)):=by
   simp only [go_sem,ya,oE,zg,bB,aA,hv.ao,e1,yu,yQ,mU,e0,h0.len,J9,e2,hx.ao,e3,Dy,Dq,Dt];generalize hq:D P L (.loop [5,6,7,8,32,33] DT) _=q;obtain ⟨ex,st,rfl,tm,ct,j,bs,rfl,rfl,t8,hj,hB⟩:=bI hq f0 ⟨0,0,[],by simp only [go_sem,ya,av,au Pn.pu,ax _ Pn.pu,au zG.pu,ax _ zG.pu,oV,oH,oC]<;>rfl,by omega,rfl,trivial⟩
   refine ⟨[(8,oV 0 j)],oC 0 j,j,bs,?_,by simp only [go_sem],hj,hB⟩;cases j
   all_goals
    simp only [oV,oH,oC] at t8 ⊢;simp only [go_sem,yb,av,t8]
  obtain ⟨tm,ct,j,bs,hS,t8,hj,hB⟩:=azq;have hD:D P L oE.body ⟨eO 0 [v],[],0,0⟩=D P L (Cd 5 oE.body) ⟨tm,oH 0 1 bs [] j,ct,0⟩:=by
   rw [afH 5 (c:=oE.body) (by refine ⟨rfl,rfl,rfl,rfl,rfl,?_⟩;show _=_;rfl),hS,fD]
  have lb:=hB.len;rw [<-hj] at lb;have ZB:4^(b4 (bQ M) (wd M)).length<=4^wd M:=xb (by decide) lk;have hKB:4^(b4 (bQ M) (wd M)).length*(J+1)<=400000000:=by
   have:=xP ZB (show J+1<=4^M.length*(K+1)+1 by omega)
   omega
  cases hn:j with
  | zero=>
   rw [hn] at hj t8 hD;have hV:b4 (bQ M) (wd M)=[]:=yC hj.symm;have hQ:gD (bQ M) (wd M)=[]:=by
    unfold gD;rw [hV]
    have:(ay [] (wd M)).1=[]:=yC (BJ [] (wd M))
    rw [this,List.take_nil]
   rw [hQ];refine ⟨fun q=>(by cases q),fun _=>⟨.aa,?_,Hb⟩⟩;unfold ak;rw [aI Fa,hD];simp only [oV,oH] at t8 ⊢;simp only [go_sem,ya,oE,Cd,aA,t8]
  | succ m=>
   rw [hn] at hj t8 hD lb;have hvB:cx da (.ai false (m+1) bs) (b4 (bQ M) (wd M)):=by
    have:=DB false hB
    rwa [<-hj] at this
   obtain ⟨r4,q4,e4,ZC,hq4⟩:=XP h.toFr' h.oO h.E8 hvB (DC _ _ _ _) (by omega) (by omega) (by omega) J4 (by omega) hKB;have KC:=pM (DC (ay (bQ M) (wd M)).1 (ay (bQ M) (wd M)).2 (wd M) (wd M)) (wd M);obtain ⟨I,I0,I1,I2⟩:=Eh (DC (ay (bQ M) (wd M)).1 (ay (bQ M) (wd M)).2 (wd M) (wd M)) J4 (by omega) (wd M) (yo _);have hI:I<=4000000000:=by
    have h1:4^(ay (b4 (bQ M) (wd M)) (wd M)).2.length<=4^(b4 (bQ M) (wd M)).length:=xb (by decide) KC.pv;have h2:=yT (J+1) h1;have h3:I+1<=4^(ay (b4 (bQ M) (wd M)) (wd M)).2.length*(J+1):=I1;omega
   have aG7:(gD (bQ M) (wd M)).length<=1000:=by
    unfold gD;rw [yI,BJ];omega
   obtain ⟨g1,g2⟩:=aBy h.toTx h.XQ h.XR (M:=gD (bQ M) (wd M)) ZC (by omega) (fun r bR=>by
    have:=HA (Ly KC.wid _) bR
    omega) (fun r bR=>Q8 (QH I2 _) bR) hI
   have gS:∀hp:Hp,jY 0 (m+1) (some (false,1,bs,hp))=some (.ai false (m+1) bs,hp):=fun hp=>nW false (by rw [lb,yi]) (by decide)
   have bN:¬(((m+1:Nat):Int)=0):=by omega
   unfold ak at e4 g1 g2 ⊢;constructor
   ·intro ZD;have g:=g1 ZD;rw [aI Fa,hD];simp only [oV,oH] at t8 ⊢;simp only [go_sem,ya,oE,Cd,aA,t8,bN,yv,gS,e4,Dy,Dq,Dt,ZC.ao,g,aaE,La]
   ·intro ZD;obtain ⟨y,g,hy⟩:=g2 ZD;refine ⟨bT y,?_,by rw [hy.bT];exact hy⟩
    rw [aI Fa,hD];simp only [oV,oH] at t8 ⊢;simp only [go_sem,ya,oE,Cd,aA,t8,bN,yv,gS,e4,Dy,Dq,Dt,ZC.ao,g,La];exact hy.ae _ _ _
end
end
section
open Go (IntKind)
def ahT {r:List Rat} {c K:Nat} (h:∀x,x∈r->Hq K x) (hK:2<=K):Hq K (cF r c):=by
 unfold cF;rw [yz]
 cases hq:r[c]? with
 | none=>exact E4.mono hK
 | some y=>exact h y (tS hq)
end
section
open Go (IntKind)
def amo {α:Type} {f:α->Int} {l:List α} {i:Nat} (h:i<l.length):b9 ((l.drop i).map f)=if f l[i]=0 then b9 ((l.drop (i+1)).map f) else f l[i]:=by
 rw [List.drop_eq_getElem_cons h,List.map_cons,b9]
end
section
open Go (IntKind)
section
variable {P:aH} {L:Lib}
def aBA (h:Rm P L) (rq:Has P L 261 Cq) (JB:Has P L 343 Ev) {v:AV} {M:List (List (List Nat))} (hv:cx b6 v M) (hr:∀r,r∈M->∀s,s∈r->s.length<9223372036854775808):ak P L 343 [v] (ab (jK M)):=by
 unfold jK;by_cases h0:M.length=0
 ·rw [yE h0];unfold ak;rw [aI JB];simp only [go_sem,ya,Ev,hv.len,show (M.length:Int)=0 by omega,yu]
 rw [yr h0];by_cases C5:64<M.length
 ·rw [yE C5];unfold ak;rw [aI JB];simp only [go_sem,ya,Ev,hv.len,show ¬(M.length:Int)=0 by omega,show (64:Int)<M.length by omega,yu,yv]
 rw [yr C5];obtain ⟨r0,R9,eN,e0⟩:=hv.aM (i:=0) (by omega);rw [Ix (by omega)];have key:=fN (P:=P) (L:=L) (live:=[0,3]) (a:=sC)
  (I:=fun k st=>∃i:Nat,st=⟨[(0,v),(3,ab i)],[],0,0⟩/\i+k=M.length/\b9 ((M.drop i).map (ll M[0].length))=b9 (M.map (ll M[0].length)))
  (Q:=fun ex st=>∃tm hp ct,st=⟨tm,hp,ct,0⟩/\((ex= .ret/\aj tm 2=ab (b9 (M.map (ll M[0].length))))\/(ex= .exit 0/\b9 (M.map (ll M[0].length))=0))) ?_
 ·unfold ak;rw [aI JB];simp only [go_sem,ya,Ev,hv.len,show ¬(M.length:Int)=0 by omega,show ¬(64:Int)<M.length by omega,yv];generalize hq:D P L (.loop [0,3] sC) _=q;obtain ⟨ex,st,rfl,tm,hp,ct,rfl,h2⟩:=bI hq (key M.length) ⟨0,by simp only [go_sem,ya,av,au hv.pu,ax _ hv.pu]<;>rfl,by omega,by simp⟩
  rcases h2 with ⟨rfl,h2⟩ | ⟨rfl,h2⟩
  ·simp only [go_sem,h2]
  ·rw [h2];simp only [go_sem,av]
 ·rintro k st ⟨i,rfl,hk,hf⟩;by_cases hi:i<M.length
  ·obtain ⟨r,rest,cV,e1⟩:=hv.aM hi;have hm:=hr _ (yp hi);rw [amo hi] at hf;have w3:IntKind.wrap .i64 ((i:Int)+1)=((i+1:Nat):Int):=wrap64 (by omega) (by omega);by_cases c1:M[i].length=0
   ·right
    have hE:ll M[0].length M[i]=12:=by unfold ll;rw [yE c1];rfl
    rw [hE,yr (by decide)] at hf;simp only [go_sem,ya,sC,hv.len,show (i:Int)<M.length by omega,e1,cV.len,show (M[i].length:Int)=0 by omega,yu];exact ⟨_,_,rfl,by simp,_,_,_,rfl,.inl ⟨rfl,by rw [<-hf];simp only [go_sem]⟩⟩
   by_cases c2:64<M[i].length
   ·right
    have hE:ll M[0].length M[i]=5:=by unfold ll;rw [yr c1,yE c2];rfl
    rw [hE,yr (by decide)] at hf;simp only [go_sem,ya,sC,hv.len,show (i:Int)<M.length by omega,e1,cV.len,show ¬(M[i].length:Int)=0 by omega,show (64:Int)<(M[i].length:Nat) by omega,yu,yv];exact ⟨_,_,rfl,by simp,_,_,_,rfl,.inl ⟨rfl,by rw [<-hf];simp only [go_sem]⟩⟩
   have e2:=ahO h rq cV (by omega) hm;unfold ak at e2;by_cases c3:M[i].length=M[0].length
   ·have iC:decide ((M[i].length:Int)=(M[0].length:Nat))=true:=xi (by omega);have hE:ll M[0].length M[i]=b9 (M[i].map cu):=by
     unfold ll;rw [yr c1,yr c2,yE c3];show b9 [0,0,0,b9 (M[i].map cu)]=_
     generalize b9 (M[i].map cu)=q;by_cases h:q=0<;>simp [b9,h]
    rw [hE] at hf;by_cases c4:b9 (M[i].map cu)=0
    ·left
     rw [yE c4] at hf;rw [c4] at e2;simp only [go_sem,ya,sC,hv.len,show (i:Int)<M.length by omega,e1,cV.len,cV.ao,show ¬(M[i].length:Int)=0 by omega,show ¬(64:Int)<(M[i].length:Nat) by omega,yu,yv,mU,e0,eN.len,iC,yQ,e2];refine ⟨_,k-1,rfl,by omega,i+1,?_,by omega,hf⟩;rw [w3];simp only [go_sem,ya,av,au hv.pu,ax _ hv.pu]<;>rfl
    ·right
     rw [yr c4] at hf;simp only [go_sem,ya,sC,hv.len,show (i:Int)<M.length by omega,e1,cV.len,cV.ao,show ¬(M[i].length:Int)=0 by omega,show ¬(64:Int)<(M[i].length:Nat) by omega,yu,yv,mU,e0,eN.len,iC,yQ,e2,c4,yR];exact ⟨_,_,rfl,by simp,_,_,_,rfl,.inl ⟨rfl,by rw [<-hf];simp only [go_sem]⟩⟩
   ·right
    have hE:ll M[0].length M[i]=2:=by unfold ll;rw [yr c1,yr c2,yr c3];rfl
    rw [hE,yr (by decide)] at hf;simp only [go_sem,ya,sC,hv.len,show (i:Int)<M.length by omega,e1,cV.len,show ¬(M[i].length:Int)=0 by omega,show ¬(64:Int)<(M[i].length:Nat) by omega,yu,yv,mU,e0,eN.len,show ¬(M[i].length:Int)=(M[0].length:Nat) by omega,yR];exact ⟨_,_,rfl,by simp,_,_,_,rfl,.inl ⟨rfl,by rw [<-hf];simp only [go_sem]⟩⟩
  ·right
   simp only [go_sem,ya,sC,hv.len,show ¬(i:Int)<M.length by omega];refine ⟨_,_,rfl,by simp,_,_,_,rfl,.inr ⟨rfl,?_⟩⟩;rw [<-hf,List.drop_eq_nil_of_le (by omega)];rfl
def aBB (Fb:Has P L 351 sS) {v:AV} {M:List (List (List Nat))} (hv:cx b6 v M) (h0:0<M.length):ak P L 351 [v] (ab (wd M)):=by
 obtain ⟨r0,R9,eN,e0⟩:=hv.aM (i:=0) h0;unfold wd;rw [Ix h0];unfold ak;rw [aI Fb];simp only [go_sem,ya,sS,hv.len,show ¬(M.length:Int)=0 by omega,yv,mU,e0,eN.len]
def jz (a b:List Rat):Nat->Rat
 | 0=>0
 | k+1=>jz a b k+cF a k*cF b k
def ag2 {a b:List Rat} {K J:Nat} (ha:∀x,x∈a->Hq K x) (hb:∀x,x∈b->Hq J x) (hK:2<=K) (hJ:2<=J):∀k,Hq (2+k*(K+J+1)) (jz a b k)
 | 0=>E4.mono (by omega)
 | k+1=>by
  have:=(ag2 ha hb hK hJ k).add ((ahT (c:=k) ha hK).mul (ahT (c:=k) hb hJ))
  refine this.mono ?_;rw [Nat.add_mul];omega
def XS (h:Rn P L) (zh:Has P L 352 Ew) {u v:AV} {a b:List Rat} (hu:b6 u (a.map RT)) (hv:b6 v (b.map RT)) (hl:a.length=b.length) (hn:a.length<=1000) {K J:Nat} (ka:∀x,x∈a->Hq K x) (kb:∀x,x∈b->Hq J x) (rV:2<=K) (hJ2:2<=J) (hK:K+J<=4000000):ak P L 352 [u,v] (.str (RT (jz a b a.length))):=by
 have key:=fN (P:=P) (L:=L) (live:=[0,1,5,6]) (a:=H4)
  (I:=fun k st=>∃i:Nat,st=⟨[(0,u),(1,v),(5,.str (RT (jz a b i))),(6,ab i)],[],0,0⟩/\i+k=a.length)
  (Q:=fun ex st=>∃tm hp ct,st=⟨tm,hp,ct,0⟩/\ex= .exit 0/\aj tm 5= .str (RT (jz a b a.length))) ?_
 ·unfold ak;rw [aI zh];simp only [go_sem,Ew];generalize hq:D P L (.loop [0,1,5,6] H4) _=q;obtain ⟨ex,st,rfl,tm,hp,ct,rfl,rfl,t5⟩:=bI hq (key a.length) ⟨0,by rw [jz,XM];simp only [go_sem,ya,av,au hu.pu,ax _ hu.pu,au hv.pu,ax _ hv.pu]<;>rfl,by omega⟩
  simp only [go_sem,av,t5]
 ·rintro k st ⟨i,rfl,hk⟩;have lu:∀hp:Hp,fp hp 1 u=some (ab a.length):=fun hp=>by have:=hu.len (hp:=hp);rwa [yk] at this
  by_cases hi:i<a.length
  ·left
   have e1:=hu.aM (i:=i) (by rw [yk];exact hi)
   have e2:=hv.aM (i:=i) (by rw [yk];omega);rw [xg] at e1 e2;have k1:=ka _ (yp hi);have k2:=kb _ (yp (show i<b.length by omega));have e3:=ahM h k1 k2 (by omega);have kp:=ag2 ka kb rV hJ2 i;have hb:i*(K+J+1)<=1000*(4000000+1):=xP (by omega) (by omega);have e4:=ahN h.toRp kp (k1.mul k2) (by omega);have hs:jz a b (i+1)=jz a b i+a[i]*b[i]'(by omega):=by rw [jz,fE hi,fE (show i<b.length by omega)]
   rw [<-hs] at e4;have w3:IntKind.wrap .i64 ((i:Int)+1)=((i+1:Nat):Int):=wrap64 (by omega) (by omega);unfold ak at e3 e4;simp only [go_sem,ya,H4,lu,show (i:Int)<a.length by omega,e1,e2,e3,e4];refine ⟨_,k-1,rfl,by omega,i+1,?_,by omega⟩;rw [w3];simp only [go_sem,ya,av,au hu.pu,ax _ hu.pu,au hv.pu,ax _ hv.pu]<;>rfl
  ·right
   have:i=a.length:=by omega
   subst this;simp only [go_sem,ya,H4,lu,show ¬(a.length:Int)<a.length by omega];exact ⟨_,_,rfl,by simp,_,_,_,rfl,rfl,by simp only [go_sem,ya]⟩
def j0 (M:List (List (List Nat))) (c:Nat):List (List Nat):=M.map fun r=>r.getD c []
def fM (M:List (List (List Nat))) (w:Nat):List (List (List Nat)):=(xC w).map (j0 M)
def axR {v:AV} {M:List (List (List Nat))} (hv:cx b6 v M) {w:Nat} (hw:∀r,r∈M->r.length=w) {c:Nat} (hc:c<w) (hl:M.length<=1000) {j:Nat} {out:List AV}:
  ∀d st,(∃(i:Nat),aQ [0,3,4,5,6] st=⟨[(0,v),(3,oV 0 j),(4,ab c),(5,oV (oC 0 j) i),(6,ab i)],oH (oC 0 j) 1 (((j0 M c).take i).map .str) (oH 0 1 out [] j) i,oC (oC 0 j) i,0⟩/\i+d=M.length)->
   ∃ex s',D P L (.loop [0,3,4,5,6] BX) st=some (ex,s')/\∃tm ct,s'=⟨tm,oH (oC 0 j) 1 ((j0 M c).map .str) (oH 0 1 out [] j) M.length,ct,0⟩/\ex= .exit 2/\aj tm 0=v/\aj tm 3=oV 0 j/\aj tm 4=ab c/\aj tm 5=oV (oC 0 j) M.length:=by
 intro dq sq;generalize bk:aQ [0,3,4,5,6] sq=s0;revert bk s0 sq dq;apply di;rintro d st ⟨i,rfl,hid⟩;have lc:(j0 M c).length=M.length:=by simp [j0]
 by_cases hi:i<M.length
 ·left
  obtain ⟨r,rest,hr,e0⟩:=hv.aM hi;have wr:=hw _ (yp hi);have e1:=hr.aM (i:=c) (by omega);have Po:(i:Int)<M.length:=by omega
  have hs:((j0 M c).take (i+1)).map AV.str=((j0 M c).take i).map AV.str++[.str (M[i][c]'(by omega))]:=by
   rw [xa (by omega),xy];simp [j0,yz,yK (show c<M[i].length by omega)]
  have w6:IntKind.wrap .i64 ((i:Int)+1)=((i+1:Nat):Int):=wrap64 (by omega) (by omega)
  cases i with
  | zero=>
   cases j
   all_goals
    simp only [oV,oH,oC];simp only [go_sem,ya,yb,xM,yM,yy,yi,BX,hv.len,Po,e0,e1,im,w6];refine ⟨_,d-1,rfl,by omega,1,?_,by omega⟩;rw [hs];simp only [go_sem,ya,yb,av,au hv.pu,ax _ hv.pu,tO,List.map_nil,List.nil_append]<;>rfl
  | succ i=>
   cases j
   all_goals
    simp only [oV,oH,oC];simp only [go_sem,ya,yb,yy,yi,BX,hv.len,Po,e0,e1]
    rw [gY (ex:=false) (pu:=true) (cs:=((j0 M c).take (i+1)).map .str) (by simp only [go_sem,ya]) (by rw [yk,yI,lc];omega) (by omega) (by omega) (by decide) (by simp only [go_sem])];simp only [go_sem,ya,yb,w6];refine ⟨_,d-1,rfl,by omega,i+1+1,?_,by omega⟩;rw [hs];simp only [go_sem,ya,yb,av,au hv.pu,ax _ hv.pu]<;>rfl
 ·right
  have:i=M.length:=by omega
  subst this;rw [yN (by omega)];have Po:¬(M.length:Int)<M.length:=by omega
  cases j
  all_goals
   simp only [go_sem,ya,yb,BX,hv.len,Po,oC];exact ⟨_,_,rfl,by simp,_,_,rfl,rfl,by simp only [go_sem,ya],by simp only [go_sem,ya],by simp only [go_sem,ya],by simp only [go_sem,ya]⟩
end
end
section
open Go (IntKind)
section
variable {P:aH} {L:Lib}
def aBC (azr:Has P L 351 sS) (XT:Has P L 347 M7) {v:AV} {M:List (List (List Nat))} (hv:cx b6 v M) (h0:0<M.length) (hl:M.length<=1000) (hw:∀r,r∈M->r.length=wd M) (CV:wd M<=1000):∃r,ak P L 347 [v] r/\cx b6 (shut r) (fM M (wd M)):=by
 have ew:=aBB (P:=P) (L:=L) azr hv h0;unfold ak at ew;have lt:(fM M (wd M)).length=wd M:=by simp [fM]
 have lc:∀c,(j0 M c).length=M.length:=fun c=>by simp [j0]
 have key:=fN (P:=P) (L:=L) (live:=[0,3,4]) (a:=D1)
  (I:=fun k st=>∃(c:Nat) (out:List AV),st=⟨[(0,v),(3,oV 0 c),(4,ab c)],oH 0 1 out [] c,oC 0 c,0⟩/\c+k=wd M/\cz b6 out ((fM M (wd M)).take c))
  (Q:=fun ex st=>∃tm ct out,st=⟨tm,oH 0 1 out [] (wd M),ct,0⟩/\ex= .exit 0/\aj tm 3=oV 0 (wd M)/\cz b6 out (fM M (wd M))) ?_
 ·unfold ak;rw [aI XT];simp only [go_sem,M7];generalize hq:D P L (.loop [0,3,4] D1) _=q;obtain ⟨ex,st,rfl,tm,ct,out,rfl,rfl,t3,hO⟩:=bI hq (key (wd M)) ⟨0,[],by simp only [go_sem,ya,av,oV,oH,oC,au hv.pu,ax _ hv.pu]<;>rfl,by omega,trivial⟩
  have lo:=hO.len;rw [lt] at lo
  cases hn:wd M with
  | zero=>
   rw [hn] at t3;refine ⟨.aa,by simp only [go_sem,av,t3,oV,oH],?_⟩
   have:fM M 0=[]:=rfl
   rw [this];exact Hb
  | succ n=>
   rw [hn] at t3 lo hO;refine ⟨.bt false 1 (n+1) out,?_,?_⟩
   ·simp only [go_sem,yb,av,t3,oV,oH];exact By (qt _ _ _) (by rw [lo,yi]) (by decide)
   ·have:=DB false hO
    rwa [show (fM M (n+1)).length=n+1 by simp [fM]] at this
 ·rintro k st ⟨c,out,rfl,oU,hO⟩;have lo:=hO.len;rw [yI,lt,xE (by omega)] at lo;by_cases hc:c<wd M
  ·left
   have f0:=axR (P:=P) (L:=L) hv hw hc hl (j:=c) (out:=out) M.length;have De:(c:Int)<wd M:=by omega
   have w4:IntKind.wrap .i64 ((c:Int)+1)=((c+1:Nat):Int):=wrap64 (by omega) (by omega);obtain ⟨n,hn⟩:∃n,M.length=n+1:=⟨M.length-1,by omega⟩;have Ky:cz b6 (out++[.ai false (n+1) ((j0 M c).map .str)]) ((fM M (wd M)).take (c+1)):=by
    rw [xa (by omega)];refine hO.snoc ?_
    have:=LW false (j0 M c)
    rw [lc,hn] at this;simpa [fM] using this
   have gS:=fun hp:Hp=>nW (hp:=hp) (k:=n+1) (sz:=1) (cs:=(j0 M c).map AV.str) false (by rw [yk,lc,hn,yi]) (by decide)
   have kz:∀st,aQ [0,3,4,5,6] st=⟨[(0,v),(3,oV 0 c),(4,ab c),(5,oV (oC 0 c) 0),(6,ab (0:Nat))],oH (oC 0 c) 1 (((j0 M c).take 0).map .str) (oH 0 1 out [] c) 0,oC (oC 0 c) 0,0⟩->_:=fun st aP=>f0 st ⟨0,aP,by omega⟩
   rw [hn] at kz
   cases c with
   | zero=>
    have:out=[]:=yC lo
    subst this;simp only [oV,oH,oC] at kz ⊢;simp only [go_sem,ya,yb,D1,ew,De,hv.ao];generalize hq:D P L (.loop [0,3,4,5,6] BX) _=q;obtain ⟨ex,st,rfl,tm,ct,rfl,rfl,t0,t3,t4,t5⟩:=bI hq kz (by simp only [go_sem,ya,av,au hv.pu,ax _ hv.pu]<;>rfl)
    simp only [go_sem,ya,yb,xM,yM,yy,yi,av,t0,t3,t4,t5,au hv.pu,ax _ hv.pu,gS,im,w4];refine ⟨_,k-1,rfl,by omega,1,_,?_,by omega,Ky⟩;simp only [go_sem,ya,yb,av,au hv.pu,ax _ hv.pu]<;>rfl
   | succ c=>
    simp only [oV,oH,oC] at kz ⊢;simp only [go_sem,ya,yb,D1,ew,De,hv.ao];generalize hq:D P L (.loop [0,3,4,5,6] BX) _=q;obtain ⟨ex,st,rfl,tm,ct,rfl,rfl,t0,t3,t4,t5⟩:=bI hq kz (by simp only [go_sem,ya,yb,av,au hv.pu,ax _ hv.pu]<;>rfl)
    simp only [go_sem,ya,yb,yy,yi,av,t0,t3,t4,t5,au hv.pu,ax _ hv.pu,gS]
    rw [gY (ex:=false) (pu:=true) (cs:=out) (by simp only [go_sem,ya]) (by rw [lo,yi]) (by omega) (by omega) (by decide) (by simp only [go_sem])];simp only [go_sem,ya,yb,w4];refine ⟨_,k-1,rfl,by omega,c+1+1,_,?_,by omega,Ky⟩;simp only [go_sem,ya,yb,av,au hv.pu,ax _ hv.pu]<;>rfl
  ·right
   have:c=wd M:=by omega
   subst this;rw [yN (by omega)] at hO;have De:¬(wd M:Int)<wd M:=by omega
   simp only [go_sem,ya,D1,ew,De,hv.ao];exact ⟨_,_,rfl,by simp,_,_,out,rfl,rfl,by simp only [go_sem,ya],hO⟩
def Pp (B:Mx) (w:Nat):Mx:=(xC w).map fun c=>B.map fun r=>cF r c
end
end
section
open Go (IntKind)
section
variable {P:aH} {L:Lib}
def atL {A:List (List (List Nat))} (h:∀r,r∈A->∀s,s∈r->cu s=0):(bQ A).map (wE RT)=A:=by
 unfold bQ;rw [vT]
 have:∀r,r∈A->(wE RT∘wE dB) r=r:=fun r hr=>by
  simp only [Function.comp,vT]
  have:∀s,s∈r->(RT∘dB) s=s:=fun s hs=>(DA (h r hr s hs)).1.symm
  rw [vX this];exact ybF r
 rw [vX this];exact ybF A
end
end
section
open Go (IntKind)
def cr (r:List Rat):List AV:=r.map fun x=> .str (RT x)
def ag3 (r:List Rat):(cr r).length=r.length:=yk _
def axS (e:Bool) (r:List Rat):b6 (.ai e r.length (cr r)) (r.map RT):=by
 have:=LW e (r.map RT)
 rw [yk,vT] at this;exact this
structure MtH (hp:Hp) (w:Nat) (M:Mx):Prop where
 m:aB hp 0=some (.cells true false false 1 ((xC M.length).map fun i=> .aC (i+1) 0 w))
 r:∀i,i<M.length->aB hp (i+1)=some (.cells true true false 1 (cr (gR M i)))
end
section
structure Rxi (P:aH) (L:Lib):Prop extends Rn P L,Rl P L where
 aHt:Has P L 283 aif
end
section
open Go (IntKind)
def axT {M:Mx} {W K:Nat} (hw:wid W M) (hW:W<=1000) (hk:ep K M) (lz:1<=K) (hK:4^W*(4^M.length*(K+1)+1)<=400000000):(gD M W).length<=1000/\∀r,r∈gD M W->r.length=W/\∀x,x∈r->Hq 4000000000 x:=by
 obtain ⟨J,J2,J3,J4⟩:=ag1 hw hk lz;have lk:(b4 M W).length<=W:=Lx _ _ _ _;have hwV:wid W (b4 M W):=DC _ _ _ _;have KC:=pM hwV W;obtain ⟨I,I0,I1,I2⟩:=Eh hwV J4 (by omega) W (yo _);have ZB:4^(ay (b4 M W) W).2.length<=4^W:=xb (by decide) (Nat.le_trans KC.pv lk);have hI:I<=4000000000:=by
  have h2:=xP ZB (show J+1<=4^M.length*(K+1)+1 by omega);omega
 unfold gD;refine ⟨by rw [yI,BJ];omega,fun r hr=>⟨HA (Ly KC.wid _) hr,fun x hx=>(Q8 (QH I2 _) hr x hx).mono hI⟩⟩
end
section
open Go (IntKind)
abbrev Iy:Ty:= .sl .str
def ME (s:List Nat):Prop:=s.length<9223372036854775808
def abG:∀{ps:List (List AV)},(∀p,p∈ps->ml .str p)->∃l:List (List Nat),l.length=ps.length/\ps.flatten=l.map AV.str/\∀s,s∈l->ME s
 | [],_=>⟨[],rfl,rfl,fun _ h=>by cases h⟩
 | p::ps,h=>by
  obtain ⟨s,rfl,hs,_⟩:=h p vV;obtain ⟨l,h1,h2,h3⟩:=abG (ps:=ps) (fun q hq=>h q (wS _ hq))
  exact ⟨s::l,by simp [h1],by simp [h2],fun q hq=>by
   rcases wM.1 hq with rfl | hq
   ·exact hs
   ·exact h3 q hq⟩
def acE {l:List AV} (h:ml Iy l):∃(v:AV) (m:List (List Nat)),l=[v]/\b6 v m/\∀s,s∈m->ME s:=by
 rcases h with rfl | ⟨x,ps,rfl,h⟩
 ·exact ⟨_,[],rfl,qu,fun _ h=>by cases h⟩
 ·obtain ⟨m,h1,h2,h3⟩:=abG h;refine ⟨_,m,rfl,?_,h3⟩;rw [h2,<-h1];exact LW x m
def acF:∀{ps:List (List AV)},(∀p,p∈ps->ml Iy p)->∃M:List (List (List Nat)),M.length=ps.length/\cz b6 ps.flatten M/\∀r,r∈M->∀s,s∈r->ME s
 | [],_=>⟨[],rfl,trivial,fun _ h=>by cases h⟩
 | p::ps,h=>by
  obtain ⟨v,m,rfl,hv,hm⟩:=acE (h p vV);obtain ⟨M,h1,h2,h3⟩:=acF (ps:=ps) (fun q hq=>h q (wS _ hq))
  exact ⟨m::M,by simp [h1],⟨hv,h2⟩,fun q hq=>by
   rcases wM.1 hq with rfl | hq
   ·exact hm
   ·exact h3 q hq⟩
def atM {l:List AV} (h:ml (.sl Iy) l):∃(v:AV) (M:List (List (List Nat))),l=[v]/\cx b6 v M/\∀r,r∈M->∀s,s∈r->ME s:=by
 rcases h with rfl | ⟨x,ps,rfl,h⟩
 ·exact ⟨_,[],rfl,Hb,fun _ h=>by cases h⟩
 ·obtain ⟨M,h1,h2,h3⟩:=acF h;refine ⟨_,M,rfl,?_,h3⟩;rw [<-h1];exact DB x h2
end
section
def sm (f:Nat->Rat):Nat->Rat
 | 0=>0
 | n+1=>sm f n+f n
def gX {f g:Nat->Rat}:∀{n:Nat},(∀i,i<n->f i=g i)->sm f n=sm g n
 | 0,_=>rfl
 | n+1,h=>by rw [sm,sm,gX (n:=n) (fun i hi=>h i (by omega)),h n (by omega)]
def lH {f:Nat->Rat}:∀{n:Nat},(∀i,i<n->f i=0)->sm f n=0
 | 0,_=>rfl
 | n+1,h=>by rw [sm,lH (n:=n) (fun i hi=>h i (by omega)),h n (by omega)];grind
def B4 (f g:Nat->Rat):∀n,sm (fun i=>f i+g i) n=sm f n+sm g n
 | 0=>by simp only [sm];grind
 | n+1=>by simp only [sm];rw [B4 f g n];grind
def pN (a:Rat) (f:Nat->Rat):∀n,sm (fun i=>a*f i) n=a*sm f n
 | 0=>by simp only [sm];grind
 | n+1=>by simp only [sm];rw [pN a f n];grind
def HB (f:Nat->Nat->Rat) (m:Nat):∀n,sm (fun i=>sm (fun j=>f i j) m) n=sm (fun j=>sm (fun i=>f i j) n) m
 | 0=>(lH (f:=fun j=>sm (fun i=>f i j) 0) (n:=m) (fun i _=>rfl)).symm
 | n+1=>by
  simp only [sm];rw [HB f m n,<-B4]
def ol {f:Nat->Rat} {n j:Nat} (hj:j<n) (h:∀i,i<n->i≠j->f i=0):sm f n=f j:=by
 induction n with
 | zero=>omega
 | succ n ih=>
  rw [sm];by_cases KD:j=n
  ·subst KD;rw [lH (fun i hi=>h i (by omega) (by omega))];grind
  ·rw [ih (by omega) (fun i hi=>h i (by omega)),h n (by omega) (fun e=>KD e.symm)];grind
def E (m:Mx) (i c:Nat):Rat:=cF (gR m i) c
def dI (r:Nat) (g:Nat->Nat->Rat) (w:Nat) (v:Nat->Rat):Prop:=∃x:Nat->Rat,∀k,k<w->v k=sm (fun j=>x j*g j k) r
section
variable {r w:Nat} {g:Nat->Nat->Rat} {u v:Nat->Rat}
def dI.congr (h:dI r g w u) (e:∀k,k<w->v k=u k):dI r g w v:=by
 obtain ⟨x,hx⟩:=h;exact ⟨x,fun k hk=>by rw [e k hk,hx k hk]⟩
def dI.zero:dI r g w (fun _=>0):=⟨fun _=>0,fun k _=>by rw [lH (fun i _=>by grind)]⟩
def dI.add (h:dI r g w u) (h2:dI r g w v):dI r g w (fun k=>u k+v k):=by
 obtain ⟨x,hx⟩:=h;obtain ⟨y,hy⟩:=h2;refine ⟨fun j=>x j+y j,fun k hk=>?_⟩;show u k+v k=sm (fun j=>(x j+y j)*g j k) r
 rw [hx k hk,hy k hk,<-B4];exact gX (fun i _=>by grind)
def dI.mul (a:Rat) (h:dI r g w u):dI r g w (fun k=>a*u k):=by
 obtain ⟨x,hx⟩:=h;refine ⟨fun j=>a*x j,fun k hk=>?_⟩;show a*u k=sm (fun j=>(a*x j)*g j k) r
 rw [hx k hk,<-pN];exact gX (fun i _=>by grind)
def dI.row {j:Nat} (hj:j<r):dI r g w (g j):=by
 refine ⟨fun i=>if i=j then 1 else 0,fun k _=>?_⟩;show g j k=sm (fun i=>(if i=j then 1 else 0)*g i k) r
 rw [ol hj (fun i _ hi=>by rw [yr hi];grind),yE rfl];grind
def dI.sum {s:Nat} {h:Nat->Nat->Rat} {x:Nat->Rat} (hs:∀i,i<s->dI r g w (h i)):dI r g w (fun k=>sm (fun i=>x i*h i k) s):=by
 induction s with
 | zero=>exact dI.zero
 | succ s ih=>
  simp only [sm];exact (ih (fun i hi=>hs i (by omega))).add ((hs s (by omega)).mul (x s))
def dI.trans {s:Nat} {h:Nat->Nat->Rat} (hv:dI s h w v) (hs:∀i,i<s->dI r g w (h i)):dI r g w v:=by
 obtain ⟨x,hx⟩:=hv
 exact (dI.sum (x:=x) hs).congr hx
def dI.dot (h:dI r g w v) {z:Nat->Rat} (hz:∀j,j<r->sm (fun k=>g j k*z k) w=0):sm (fun k=>v k*z k) w=0:=by
 obtain ⟨x,hx⟩:=h;have e:sm (fun k=>v k*z k) w=sm (fun k=>sm (fun j=>x j*(g j k*z k)) r) w:=gX (fun k hk=>by
  rw [hx k hk]
  have:=pN (z k) (fun j=>x j*g j k) r
  rw [show sm (fun j=>x j*g j k) r*z k=z k*sm (fun j=>x j*g j k) r by grind,<-this]
  exact gX (fun i _=>by grind))
 rw [e,HB];refine lH (fun j hj=>?_);rw [pN,hz j hj];grind
end
def Q9 {m:Mx} {w c:Nat} {s:Mx×List Nat} (h:Pv m w c s) (hc:c<w) (hp:bm s c<s.1.length) {i k:Nat} (hi:i<s.1.length) (hk:k<w):
  E (gW s c).1 i k=if i=s.2.length then E (cP s.1 s.2.length (bm s c)) i k*(E (cP s.1 s.2.length (bm s c)) s.2.length c)⁻¹ else E (cP s.1 s.2.length (bm s c)) i k-E (cP s.1 s.2.length (bm s c)) i c*(E (cP s.1 s.2.length (bm s c)) s.2.length k*(E (cP s.1 s.2.length (bm s c)) s.2.length c)⁻¹):=by
 have h1:=(h.bm c).1;have jI:=h.wid.cP (i:=s.2.length) (j:=bm s c) (by omega) hp;have lsw:=zX s.1 s.2.length (bm s c);have gI:=h.eS hp;have lsp:=sn s c;have wi:=jI i (by omega);have wa:=jI s.2.length (by omega);have ea:∀k,k<w->E (eS s c) s.2.length k=E (cP s.1 s.2.length (bm s c)) s.2.length k*(E (cP s.1 s.2.length (bm s c)) s.2.length c)⁻¹:=fun k hk=>by
  unfold E eS rT;rw [pL,yE ⟨rfl,by omega⟩,fE (by rw [DJ rfl];omega),LX (by omega) (by omega),fE (show k<_ by omega)]
  grind
 have ei:i≠s.2.length->gR (eS s c) i=gR (cP s.1 s.2.length (bm s c)) i:=fun bN=>by
  unfold eS rT;rw [pL,yr (fun q=>bN q.1.symm)]
 unfold gW;rw [yE hp];show cF (gR (fg (eS s c) s.2.length c s.1.length) i) k=_
 rw [Q7 (by omega)];by_cases jc:i=s.2.length
 ·rw [yr (fun q=>q.2.1 jc),yE jc,jc];exact ea k hk
 ·rw [yr jc];have wsi:=gI i (by omega);have wsa:=gI s.2.length (by omega);by_cases hz:cF (gR (eS s c) i) c≠0
  ·rw [yE ⟨hi,jc,hz⟩,fE (by rw [DJ (by omega)];omega),LX (by omega) (by omega) _];have e2:=ea k hk;unfold E at e2 ⊢;rw [fE (show k<(gR (eS s c) s.2.length).length by omega)] at e2;rw [e2];have e3:=ei jc;simp only [e3];rw [fE (show k<(gR (cP s.1 s.2.length (bm s c)) i).length by omega)]
   grind
  ·rw [yr (fun q=>hz q.2.2)];have fk:cF (gR (eS s c) i) c=0:=by simpa using hz
   rw [ei jc] at fk ⊢;unfold E;rw [fk];grind
end
section
structure j8 (m:Mx) (w c:Nat) (s:Mx×List Nat):Prop where
 pv:Pv m w c s
 up:∀i,i<m.length->dI m.length (E m) w (E s.1 i)
 down:∀i,i<m.length->dI m.length (E s.1) w (E m i)
 one:∀i (h:i<s.2.length),∀j,j<m.length->E s.1 j (s.2[i])=if j=i then 1 else 0
 low:∀i,s.2.length<=i->i<m.length->∀k,k<c->E s.1 i k=0
 left:∀i (h:i<s.2.length),∀k,k<s.2[i]->E s.1 i k=0
 inc:∀i j (hi:i<s.2.length) (hj:j<s.2.length),i<j->s.2[i]<s.2[j]
def Iz {m:Mx} {a p i k:Nat} (ha:a<m.length) (hp:p<m.length) (hi:i<m.length):E (cP m a p) i k=if i=p then E m a k else if i=a then E m p k else E m i k:=by
 unfold E cP;rw [pL,pL];simp only [tF];by_cases h1:i=p
 ·subst h1;simp [hi]
 ·rw [yr (fun q=>h1 q.1.symm),yr h1];by_cases h2:i=a
  ·subst h2;simp [hi]
  ·rw [yr (fun q=>h2 q.1.symm),yr h2]
def j8.step {m:Mx} {w c:Nat} {s:Mx×List Nat} (h:j8 m w c s) (hc:c<w):j8 m w (c+1) (gW s c):=by
 have hl:=h.pv.len;have gF:=h.pv.bm c;by_cases hp:bm s c<s.1.length
 ·have fe:(gW s c).2=s.2++[c]:=by unfold gW;rw [yE hp]
  have ha:s.2.length<s.1.length:=by omega
  have hS:∀i k,i<m.length->E (cP s.1 s.2.length (bm s c)) i k=if i=bm s c then E s.1 s.2.length k else if i=s.2.length then E s.1 (bm s c) k else E s.1 i k:=fun i k hi=>Iz ha hp (by omega)
  have bN:E (cP s.1 s.2.length (bm s c)) s.2.length c≠0:=by
   have:=LY s.1 c (s.1.length-s.2.length) s.2.length (by unfold bm at hp;omega)
   rw [hS _ _ (by omega)];unfold bm
   split
   ·rename_i q;rw [<-q] at this;exact this
   ·rw [yE rfl];exact this
  have hg:=fun (i k:Nat) (hi:i<m.length) (hk:k<w)=>Q9 h.pv hc hp (i:=i) (k:=k) (by omega) hk
  have JC:∀i,s.2.length<=i->i<m.length->∀k,k<c->E (cP s.1 s.2.length (bm s c)) i k=0:=fun i hi kI k hk=>by
   rw [hS i k kI]
   split
   ·exact h.low _ (yo _) (by omega) k hk
   ·split
    ·exact h.low _ gF.1 (by omega) k hk
    ·exact h.low i hi kI k hk
  have azs:∀i,i<s.2.length->∀k,E (cP s.1 s.2.length (bm s c)) i k=E s.1 i k:=fun i hi k=>by
   rw [hS i k (by omega),yr (by omega),yr (by omega)]
  have Pq:∀i (hi:i<s.2.length),s.2[i]<c:=fun i hi=>h.pv.lt _ (yp hi)
  refine ⟨h.pv.step,fun i hi=>?_,fun i hi=>?_,fun i hi j hj=>?_,fun i hi kI k hk=>?_,fun i hi k hk=>?_,fun i j hi hj zx=>?_⟩
  ·
   have mL:∀j,j<m.length->dI m.length (E m) w (E (cP s.1 s.2.length (bm s c)) j):=fun j hj=>by
    by_cases q1:j=bm s c
    ·exact (h.up _ (show s.2.length<m.length by omega)).congr (fun k _=>by rw [hS j k hj,yE q1])
    ·by_cases q2:j=s.2.length
     ·exact (h.up _ (show bm s c<m.length by omega)).congr (fun k _=>by rw [hS j k hj,yr q1,yE q2])
     ·exact (h.up j hj).congr (fun k _=>by rw [hS j k hj,yr q1,yr q2])
   by_cases jc:i=s.2.length
   ·refine ((mL i hi).mul (E (cP s.1 s.2.length (bm s c)) s.2.length c)⁻¹).congr (fun k hk=>?_);rw [hg i k hi hk,yE jc];grind
   ·refine ((mL i hi).add ((mL s.2.length (by omega)).mul (-(E (cP s.1 s.2.length (bm s c)) i c)*(E (cP s.1 s.2.length (bm s c)) s.2.length c)⁻¹))).congr (fun k hk=>?_);rw [hg i k hi hk,yr jc];grind
  ·
   have Sa:∀j,j<m.length->dI m.length (E (gW s c).1) w (E (cP s.1 s.2.length (bm s c)) j):=fun j hj=>by
    have ra:=dI.row (r:=m.length) (g:=E (gW s c).1) (w:=w) (show s.2.length<m.length by omega);have rj:=dI.row (r:=m.length) (g:=E (gW s c).1) (w:=w) hj;by_cases nT:j=s.2.length
    ·refine (ra.mul (E (cP s.1 s.2.length (bm s c)) s.2.length c)).congr (fun k hk=>?_);rw [hg _ k (by omega) hk,yE rfl,nT]
     have:=vA _ bN
     grind
    ·refine (rj.add (ra.mul (E (cP s.1 s.2.length (bm s c)) j c))).congr (fun k hk=>?_);rw [hg j k hj hk,yr nT,hg _ k (by omega) hk,yE rfl];grind
   refine (h.down i hi).trans (fun j hj=>?_);by_cases q1:j=s.2.length
   ·refine (Sa (bm s c) (by omega)).congr (fun k _=>?_);rw [hS _ k (by omega),yE rfl,q1]
   ·by_cases q2:j=bm s c
    ·refine (Sa s.2.length (by omega)).congr (fun k _=>?_);rw [hS _ k (by omega),yr (fun e=>q1 (by omega)),yE rfl,q2]
    ·refine (Sa j hj).congr (fun k _=>?_);rw [hS j k hj,yr q2,yr q1]
  ·
   have kD:=vA _ bN;simp only [fe,yL,yG,yO] at hi ⊢;by_cases ej:i<s.2.length
   ·rw [vc ej];have KB:s.2[i]<w:=by have:=Pq i ej;omega
    have ha0:E (cP s.1 s.2.length (bm s c)) s.2.length (s.2[i])=0:=JC _ (yo _) (by omega) _ (Pq i ej);rw [hg j _ hj KB];by_cases nT:j=s.2.length
    ·rw [yE nT,nT,ha0,yr (by omega)];grind
    ·rw [yr nT,ha0];have eB:=h.one i ej;rw [hS j _ hj];by_cases q1:j=bm s c
     ·rw [yE q1,eB _ (by omega),yr (by omega),yr (by omega)];grind
     ·rw [yr q1,yr nT,eB j hj];grind
   ·have:i=s.2.length:=by omega
    subst this;rw [vW (yo _)];simp only [tN,vI];rw [hg j c hj hc];by_cases nT:j=s.2.length
    ·rw [yE nT,yE nT,nT];exact kD
    ·rw [yr nT,yr nT,kD];grind
  ·
   simp only [fe,yL,yG,yO] at hi;have kD:=vA _ bN;rw [hg i k kI (by omega),yr (by omega)];by_cases ku:k=c
   ·subst ku;rw [kD];grind
   ·rw [JC i (by omega) kI k (by omega),JC s.2.length (yo _) (by omega) k (by omega)];grind
  ·
   simp only [fe,yL,yG,yO] at hi;simp only [fe] at hk;by_cases ej:i<s.2.length
   ·rw [vc ej] at hk;have ku:k<c:=by have:=Pq i ej;omega
    rw [hg i k (by omega) (by omega),yr (by omega),JC s.2.length (yo _) (by omega) k ku,azs i ej k,h.left i ej k hk];grind
   ·have:i=s.2.length:=by omega
    subst this;rw [vW (yo _)] at hk;simp only [tN,vI] at hk;rw [hg _ k (by omega) (by omega),yE rfl,JC _ (yo _) (by omega) k hk];grind
  ·
   simp only [fe,yL,yG,yO] at hi hj ⊢;rw [vc (show i<s.2.length by omega)];by_cases KD:j<s.2.length
   ·rw [vc KD];exact h.inc i j (by omega) KD zx
   ·rw [vW (by omega)];simp only [show j-s.2.length=0 by omega,vI];exact Pq i (by omega)
 ·rw [Lv hp]
  refine ⟨⟨h.pv.len,h.pv.wid,h.pv.pv,fun p hp=>by have:=h.pv.lt p hp;omega⟩,h.up,h.down,h.one,fun i hi kI k hk=>?_,h.left,h.inc⟩;by_cases ku:k=c
  ·subst ku
   have:∀d p,mo s.1 k d p=p+d->∀i,p<=i->i<p+d->cF (gR s.1 i) k=0:=fun d=>by
    induction d with
    | zero=>intro p _ i h1 h2;omega
    | succ d ih=>
     intro p hf i h1 h2;simp only [mo] at hf
     split at hf
     ·rename_i h0;by_cases nU:i=p
      ·rw [nU];exact h0
      ·exact ih (p+1) (by omega) i (by omega) (by omega)
     ·omega
   have hf:=RJ s.1 k (s.1.length-s.2.length) s.2.length;unfold bm at hp;exact this (s.1.length-s.2.length) s.2.length (by omega) i hi (by omega)
  ·exact h.low i hi kI k (by omega)
def oc {m:Mx} {w:Nat} (hw:wid w m):∀c,c<=w->j8 m w c (ay m c)
 | 0,_=>⟨pM hw 0,fun i hi=>dI.row hi,fun i hi=>dI.row hi,fun i hi=>by simp [ay] at hi,fun i _ _ k hk=>by omega,fun i hi=>by simp [ay] at hi,fun i j hi=>by simp [ay] at hi⟩
 | c+1,hc=>(oc hw c (by omega)).step (by omega)
end
section
section
variable {m:Mx} {w:Nat}
def j8.akc {s:Mx×List Nat} (h:j8 m w w s) {v:Nat->Rat} (hv:dI m.length (E s.1) w v):∀k,k<w->v k=sm (fun i=>v (s.2.getD i 0)*E s.1 i k) s.2.length:=by
 obtain ⟨x,hx⟩:=hv;have jr:=h.pv.pv;have cut:∀k,k<w->v k=sm (fun j=>x j*E s.1 j k) s.2.length:=fun k hk=>by
  rw [hx k hk]
  have:∀d,s.2.length+d<=m.length->sm (fun j=>x j*E s.1 j k) (s.2.length+d)=sm (fun j=>x j*E s.1 j k) s.2.length:=fun d=>by
   induction d with
   | zero=>intro _;rfl
   | succ d ih=>
    intro hd;rw [<-Nat.add_assoc,sm,ih (by omega),h.low _ (by omega) (by omega) k hk];grind
  have e:=this (m.length-s.2.length) (by omega)
  rwa [show s.2.length+(m.length-s.2.length)=m.length by omega] at e
 have hxi:∀i,i<s.2.length->v (s.2.getD i 0)=x i:=fun i hi=>by
  have hg:s.2.getD i 0=s.2[i]:=by simp [yz,yK hi]
  rw [hg,cut _ (h.pv.lt _ (yp hi)),ol hi (fun j hj bN=>?_),h.one i hi i (by omega),yE rfl]
  ·grind
  ·rw [h.one i hi j (by omega),yr bN];grind
 intro k hk;rw [cut k hk];exact gX (fun i hi=>by rw [hxi i hi])
def rX (pv:List Nat) (c:Nat):Nat:=(pv.filter (fun p=>decide (p<c))).length
def QI {pv:List Nat} (hn:pv.Nodup) (c:Nat):rX pv (c+1)=rX pv c+if pv.contains c=true then 1 else 0:=by
 unfold rX
 induction pv with
 | nil=>rfl
 | cons p r ih=>
  have jC:=List.nodup_cons.1 hn;have ih:=ih jC.2;simp only [List.filter_cons,List.contains_cons];by_cases h1:p=c
  ·subst h1
   have:r.contains p=false:=by simpa using jC.1
   rw [this] at ih;simp at ih ⊢;omega
  ·have e:(c==p)=false:=by simpa using fun q=>h1 q.symm
   rw [e,Bool.false_or];by_cases h2:p<c
   ·rw [yE (by simp;omega),yE (by simp;omega),yG,yG,ih];omega
   ·rw [yr (by simp;omega),yr (by simp;omega)];exact ih
def afQ {pv:List Nat} {w:Nat} (h:∀p,p∈pv->p<w):rX pv w=pv.length:=by
 unfold rX;rw [List.filter_eq_self.2 (fun p hp=>by simpa using h p hp)]
def QJ {R:Mx} {pv:List Nat} (hn:pv.Nodup) (n:Nat):∀c,(eX R pv n c).length+rX pv c=c
 | 0=>by
  have:rX pv 0=0:=by simp [rX]
  rw [this];rfl
 | c+1=>by
  have ih:=QJ (R:=R) hn n c;rw [QI hn,eX]
  split
  ·omega
  ·rw [yL];simp only [yG,yO];omega
def j8.nodup {c:Nat} {s:Mx×List Nat} (h:j8 m w c s):s.2.Nodup:=by
 unfold List.Nodup;rw [wv];intro i j hi hj zx e
 have:=h.inc i j hi hj zx;omega
def afR (hw:wid w m):(b4 m w).length+(ay m w).2.length=w:=by
 have h:=oc hw w (yo w)
 have:=QJ (R:=(ay m w).1) h.nodup w w
 rwa [afQ h.pv.lt] at this
def HC {R:Mx} {pv:List Nat} {n c:Nat} (hn:pv.Nodup) (aW:∀p,p∈pv->p<n) (hc:c<n) (Bq:c∉pv):∀i,i<=pv.length->∀k,k<n->cF (eT R pv n c i) k=(if k=c then 1 else 0)+sm (fun j=>if k=pv.getD j 0 then -(E R j c) else 0) i
 | 0,_,k,hk=>by
  rw [fE (by rw [z8];exact hk)]
  simp only [eT,yay,List.getElem_replicate,sm];by_cases h:c=k
  ·rw [yE h,yE h.symm];grind
  ·rw [yr h,yr (fun e=>h e.symm)];grind
 | i+1,hi,k,hk=>by
  have ih:=HC (R:=R) hn aW hc Bq i (by omega) k hk;have hg:pv.getD i 0=pv[i]:=by simp [yz,yK (show i<pv.length by omega)]
  rw [fE (by rw [z8];exact hk)] at ih ⊢
  simp only [eT,yay,sm];by_cases h:pv.getD i 0=k
  ·rw [yE h,yE h.symm];have ku:k≠c:=fun e=>Bq (by rw [<-e,<-h,hg];exact yp _)
   have hz:sm (fun j=>if k=pv.getD j 0 then -(E R j c) else 0) i=0:=lH (fun j hj=>by
    rw [yr];intro e;have CZ:pv.getD j 0=pv[j]:=by simp [yz,yK (show j<pv.length by omega)]
    rw [<-h,hg,CZ] at e
    exact (wv.1 hn) j i (by omega) (by omega) hj e.symm)
   rw [yr ku,hz];show -(cF (gR R i) c)=_
   unfold E;grind
  ·rw [yr h,yr (show ¬k=pv.getD i 0 from fun e=>h e.symm),ih];grind
def j8.GK {s:Mx×List Nat} (h:j8 m w w s) {c:Nat} (hc:c<w) (Bq:c∉s.2):∀i,i<m.length->sm (fun k=>E m i k*cF (eT s.1 s.2 w c s.2.length) k) w=0:=by
 have hg:=fun k (hk:k<w)=>HC (R:=s.1) h.nodup h.pv.lt hc Bq s.2.length (yo _) k hk
 have rows:∀j,j<m.length->sm (fun k=>E s.1 j k*cF (eT s.1 s.2 w c s.2.length) k) w=0:=fun j hj=>by
  have e:sm (fun k=>E s.1 j k*cF (eT s.1 s.2 w c s.2.length) k) w=sm (fun k=>E s.1 j k*(if k=c then 1 else 0)) w+sm (fun i=>E s.1 j (s.2.getD i 0)* -(E s.1 i c)) s.2.length:=by
   rw [gX (g:=fun k=>E s.1 j k*(if k=c then 1 else 0)+sm (fun i=>E s.1 j k*(if k=s.2.getD i 0 then -(E s.1 i c) else 0)) s.2.length) (fun k hk=>by
    rw [hg k hk,pN];grind),B4,HB]
   congr 1
   refine gX (fun i hi=>?_);have p8:s.2.getD i 0=s.2[i]:=by simp [yz,yK hi]
   rw [ol (j:=s.2.getD i 0) (by rw [p8];exact h.pv.lt _ (yp hi)) (fun k _ bN=>by rw [yr bN];grind),yE rfl]
  rw [e,ol hc (fun k _ bN=>by rw [yr bN];grind),yE rfl]
  by_cases Br:j<s.2.length
  ·rw [ol Br (fun i hi bN=>by
    have p8:s.2.getD i 0=s.2[i]:=by simp [yz,yK hi]
    rw [p8,h.one i hi j hj,yr (fun e=>bN e.symm)];grind)]
   have CZ:s.2.getD j 0=s.2[j]:=by simp [yz,yK Br]
   rw [CZ,h.one j Br j hj,yE rfl];grind
  ·rw [h.low j (by omega) hj c hc,lH (fun i hi=>by
    have p8:s.2.getD i 0=s.2[i]:=by simp [yz,yK hi]
    rw [p8,h.one i hi j hj,yr (by omega)];grind)];grind
 intro i hi;exact (h.down i hi).dot rows
end
def under {r s:Nat} (hrs:r<s) (A:Nat->Nat->Rat):∃u:Nat->Rat,(∃i,i<s/\u i≠0)/\∀j,j<r->sm (fun i=>A j i*u i) s=0:=by
 let m:Mx:=(xC r).map fun j=>(xC s).map fun i=>A j i
 have lm:m.length=r:=by simp [m]
 have hw:wid s m:=fun i hi=>by rw [dS hi];simp [m]
 have hE:∀j i,j<r->i<s->E m j i=A j i:=fun j i hj hi=>by
  unfold E;rw [dS (by omega),fE (by simp [m];omega)];simp [m]
 have h:=oc hw s (yo s);have hk:=afR hw;have jr:=h.pv.pv;have rn:0<(b4 m s).length:=by omega
 obtain ⟨c,hc,E9,_⟩:=Hl (yp rn);have Bq:c∉(ay m s).2:=by simpa using E9
 refine ⟨fun k=>cF (eT (ay m s).1 (ay m s).2 s c (ay m s).2.length) k,⟨c,hc,?_⟩,fun j hj=>?_⟩
 ·have:=HC (R:=(ay m s).1) h.nodup h.pv.lt hc Bq (ay m s).2.length (yo _) c hc
  simp only [this]
  rw [lH (fun i hi=>by
   rw [yr];intro e;have p8:(ay m s).2.getD i 0=(ay m s).2[i]:=by simp [yz,yK hi]
   exact Bq (by rw [e,p8];exact yp _))]
  simp only [xA];intro e
  have:(1:Rat)+0=1:=by grind
  rw [this] at e;exact absurd e (by decide)
 ·have:=h.GK hc Bq j (by omega)
  rw [gX (g:=fun k=>A j k*cF (eT (ay m s).1 (ay m s).2 s c (ay m s).2.length) k) (fun k hk=>by rw [hE j k hj hk])] at this;exact this
def acG {f r w:Nat} {b g:Nat->Nat->Rat} {col:Nat->Nat} (aBD:∀i,i<f->col i<w) (eB:∀i j,i<f->j<f->b j (col i)=if j=i then 1 else 0) (hb:∀i,i<f->dI r g w (b i)):f<=r:=by
 refine Nat.le_of_not_lt fun hrf=>?_
 have hx:∃X:Nat->Nat->Rat,∀i,i<f->∀k,k<w->b i k=sm (fun j=>X i j*g j k) r:=by
  refine ⟨fun i=>if h:i<f then Classical.choose (hb i h) else fun _=>0,fun i hi k hk=>?_⟩
  have:=Classical.choose_spec (hb i hi) k hk
  simp only [hi,dif_pos];exact this
 obtain ⟨X,hX⟩:=hx;obtain ⟨u,⟨i0,kG,bN⟩,hu⟩:=under hrf (fun j i=>X i j);apply bN;have e1:sm (fun i=>u i*b i (col i0)) f=u i0:=by
  rw [ol kG (fun i hi hn=>by rw [eB i0 i kG hi,yr hn];grind),eB i0 i0 kG kG,yE rfl];grind
 rw [<-e1,gX (g:=fun i=>sm (fun j=>u i*(X i j*g j (col i0))) r) (fun i hi=>by rw [hX i hi _ (aBD i0 kG),pN]),HB];refine lH (fun j hj=>?_)
 have:=hu j hj
 rw [gX (g:=fun i=>g j (col i0)*(X i j*u i)) (fun i _=>by grind),pN,this];grind
def atO {m:Mx} {w r:Nat} (hw:wid w m) {g:Nat->Nat->Rat} (hg:∀i,i<m.length->dI r g w (E m i)):(ay m w).2.length<=r:=by
 have h:=oc hw w (yo w);have jr:=h.pv.pv;have gi:∀i (hi:i<(ay m w).2.length),(ay m w).2.getD i 0=(ay m w).2[i]:=fun i hi=>by simp [yz,yK hi]
 refine acG (w:=w) (g:=g) (b:=E (ay m w).1) (col:=fun i=>(ay m w).2.getD i 0) (fun i hi=>?_) (fun i j hi hj=>?_) (fun i hi=>?_)
 ·rw [gi i hi];exact h.pv.lt _ (yp hi)
 ·rw [gi i hi,h.one i hi j (by omega)]
 ·exact (h.up i (by omega)).trans hg
end
end VE
