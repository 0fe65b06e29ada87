import Derived.Test.YtjemkccfpkgopaaGreatDoorXat
import Derived.Test.YtjemkccfpkgopaaGreatDoorXaq
import Derived.Test.YtjemkccfpkgopaaGreatDoorXah
import Derived.Test.YtjemkccfpkgopaaGreatDoorXas
set_option linter.all false
set_option maxRecDepth 100000
open Bool renaming and_eq_true→ye,and_self→xM,false_and→xX,not_eq_true→yaJ,not_false→yP,not_true→yM,true_and→xQ
open List renaming Nodup→ybM,all_cons→yap,any_append→yaN,any_eq_false→yaA,any_eq_true→tj,append_assoc→xq,cons_append→xm,drop_eq_getElem_cons→yU,drop_eq_nil_of_le→xe,drop_zero→yK,eq_nil_of_length_eq_zero→yx,ext_getElem→uo,getD_eq_getElem?_getD→y7,getElem?_eq_getElem→xU,getElem?_map→yat,getElem_append_left→xT,getElem_append_right→wm,getElem_cons_succ→vd,getElem_cons_zero→xS,getElem_map→wu,getElem_mem→yF,length_append→yL,length_cons→yz,length_map→yt,length_nil→yO,length_take→yI,length_zipWith→uR,map→xH,map_append→xu,map_congr_left→wW,map_cons→xc,map_id→uY,map_map→vE,map_nil→vD,mem_append→wj,mem_append_right→vv,mem_cons→wE,mem_cons_of_mem→xW,mem_cons_self→wN,mem_iff_getElem→vn,mem_map→xZ,mem_singleton→xF,nil_append→xG,nodup_cons→vH,pairwise_iff_getElem→tH,range→vh,range'→wv,replicate→ym,replicate_succ→wC,replicate_succ'→yad,take_length→xx,take_of_length_le→yG,take_succ_eq_append_getElem→yY,zipWith→wT
open Nat renaming add_zero→y8,ble_eq_true_of_le→yo,le_refl→yr,min_eq_left→xn,mul_le_mul→wZ,mul_le_mul_right→yV,mul_one→yh,pow_le_pow_right→xh,reduceAdd→yb,reduceEqDiff→ya,reduceLT→yD,reduceLeDiff→yp,reduceMul→xg,sub_self→ybA,zero_add→yf
open Option renaming getD_some→ua
open Option.some renaming injEq→yd
open Rat renaming mul_inv_cancel→uX
namespace VE
section
open Go (IntKind)
section
variable {P:aI} {L:Lib}
def ayS (h:Fr' P L) (qM:Has P L 240 C5) {o1 o2 o3 o4 z1 z2 z3 z4:AV} {M:Mx} {W:Nat} (hw:wid W M) (Z8:W<=1000) (ij:M.length<=1000) {K:Nat} (hk:cX K M) (Ca:1<=K) (hK:4^M.length*(K+1)<=400000000) (ho:dM (.agg [o1,o2,o3,o4]) 1) (hz:dM (.agg [z1,z2,z3,z4]) 0):
  ∀(d:Nat) (st:St),(∃(c:Nat) (rows:List AV) (k:Nat) (pv:List AV),aS [4,5,6,7,8,24,25] st=⟨[(4,.aB 0 0 M.length),(5,.fn (.f 240) [] []),(6,.ptr 1 0),(7,.ptr 2 0),(8,oV 3 k),(24,ab W),(25,ab c)],oH 3 1 pv (b3 rows [o1,o2,o3,o4] [z1,z2,z3,z4]) k,oC 3 k,0⟩/\c+d=W/\(aJ M c).2.length=k/\pv=(aJ M c).2.map (fun p:Nat=>ab p)/\cf cT rows (aJ M c).1)->
   ∃ex s',D P L (.loop [4,5,6,7,8,24,25] EB) st=some (ex,s')/\∃tm ct rows k pv,s'=⟨tm,oH 3 1 pv (b3 rows [o1,o2,o3,o4] [z1,z2,z3,z4]) k,ct,0⟩/\ex= .exit 0/\ai tm 4= .aB 0 0 M.length/\ai tm 8=oV 3 k/\(aJ M W).2.length=k/\pv=(aJ M W).2.map (fun p:Nat=>ab p)/\cf cT rows (aJ M W).1:=by
 intro dq sq;generalize bB:aS [4,5,6,7,8,24,25] sq=s0;revert bB s0 sq dq;apply dI;rintro d st ⟨c,rows,k,pv,rfl,hcd,fD,oL,hR⟩;have hP:=AY hw c;have lm:=Cs M c;have lr:=hR.len;by_cases hc:c<W
 ·left
  obtain ⟨J,J0,J1,J2⟩:=SX hw hk Ca c (by omega);have hJ:J+1<=400000000:=by
   have h1:4^(aJ M c).2.length<=4^M.length:=xh (by decide) hP.pv
   have:=yV (K+1) h1
   omega
  have f0:=ayQ h (o:=[o1,o2,o3,o4]) (z:=[z1,z2,z3,z4]) (pv:=pv) hR hP.wid hc lm ij (k:=k) (a:=k) (W:=W) (F:=bC (aJ M c) c) ((aJ M c).1.length-k);have hs:aJ M (c+1)=il (aJ M c) c:=rfl;have aAs:=hP.bC c;rw [fD] at aAs;have wc:IntKind.wrap .i64 ((c:Int)+1)=((c+1:Nat):Int):=wrap64 (by omega) (by omega);have Kh:kC (aJ M c).1 c ((aJ M c).1.length-k) k=bC (aJ M c) c:=by unfold bC;rw [fD]
  by_cases hp:bC (aJ M c) c<(aJ M c).1.length
  ·
   have Lh:k<M.length:=by omega
   have FT:k<rows.length:=by omega
   have hpM:bC (aJ M c) c<M.length:=by omega
   have ic:bC (aJ M c) c<rows.length:=by omega
   have mK:k<(aJ M c).1.length:=by omega
   have rA:=hR.get FT mK;have rP:=hR.get ic hp;have hR1:cf cT ((rows.set k rows[bC (aJ M c) c]).set (bC (aJ M c) c) rows[k]) (cO (aJ M c).1 k (bC (aJ M c) c)):=by
    unfold cO;rw [di mK,di hp];exact (hR.set k rP).set _ rA
   have l1:((rows.set k rows[bC (aJ M c) c]).set (bC (aJ M c) c) rows[k]).length=rows.length:=by simp
   have l1':=AI (aJ M c).1 k (bC (aJ M c) c);have w1:=hP.wid.cO (i:=k) (j:=bC (aJ M c) c) mK hp;have J3:=J2.cO (i:=k) (j:=bC (aJ M c) c) mK hp;have P8:k<(cO (aJ M c).1 k (bC (aJ M c) c)).length:=by omega
   have r1:=hR1.get (i:=k) (by omega) P8;have wk:=w1 k P8;have Jk:=J3 k P8;have dc:cC (gR (cO (aJ M c).1 k (bC (aJ M c) c)) k) c≠0:=by
    have:=R6 (aJ M c).1 c ((aJ M c).1.length-k) k (by rw [Kh];omega)
    rw [Kh] at this;unfold cO;rw [qB]
    split
    ·rename_i q;rw [q.1] at this;exact this
    ·rw [qB,yQ ⟨rfl,mK⟩];exact this
   obtain ⟨g1,g2⟩:=J2.eP hP hc hp;have Yy:eP (aJ M c) c=(cO (aJ M c).1 k (bC (aJ M c) c)).set k (jS (gR (cO (aJ M c).1 k (bC (aJ M c) c)) k) (gR (cO (aJ M c).1 k (bC (aJ M c) c)) k) (cC (gR (cO (aJ M c).1 k (bC (aJ M c) c)) k) c)⁻¹ 0):=by
    unfold eP oJ;rw [fD]
   have lsp:(eP (aJ M c) c).length=M.length:=by rw [ze,lm]
   rw [fD] at g1 g2;have kE:∀i,i<=(eP (aJ M c) c).length->cX (4*J+1) (eH (eP (aJ M c) c) k c i):=fun i hi=>agQ (hP.eP hp) hc (by omega) g1 (fun j hj=>g2 j (by omega)) hi
   rw [di P8] at wk Jk dc Yy;obtain ⟨x1,x2,x3,x4,xr,e1,hx⟩:=r1.aQ (i:=c) (by omega);rw [ir (show c<(cO (aJ M c).1 k (bC (aJ M c) c))[k].length by omega)] at dc Yy;have kx:=Jk _ (yF (show c<(cO (aJ M c).1 k (bC (aJ M c) c))[k].length by omega));obtain ⟨iv,e2,hiv⟩:=m73 h hx dc kx (by omega);obtain ⟨y,e3,hy⟩:=aln h qM r1 r1 hiv hz rfl (by omega) (fun z hz=>(Jk z hz).mono (show J<=J+1 by omega)) (fun z hz=>(Jk z hz).mono (show J<=J+1 by omega)) (kx.inv.mono (by omega)) (O9.mono (by omega)) (by omega);have gx:=hx.f4;have gz:=hz.f4;obtain ⟨v1,v2,v3,v4,rfl,gv⟩:=hiv.gen;have DT:cf cT (((rows.set k rows[bC (aJ M c) c]).set (bC (aJ M c) c) rows[k]).set k (shut y)) (eP (aJ M c) c):=by rw [Yy];exact hR1.set k hy
   have f1:=ayR h qM (z:=[z1,z2,z3,z4]) (pv:=pv) (hP.eP hp) hc Z8 lsp ij (a:=k) (by omega) kE (by omega) (by omega) ho (k:=k) (W:=W) (eP (aJ M c) c).length;have BC:il (aJ M c) c=(eH (eP (aJ M c) c) k c M.length,(aJ M c).2++[c]):=by
    unfold il;rw [yQ hp,fD,lm]
   have d1:=Bc (rows:=rows) FT;have d2:=Bc (rows:=rows) ic;have d3:=Bc (rows:=(rows.set k rows[bC (aJ M c) c]).set (bC (aJ M c) c) rows[k]) (p:=k) (by omega);have s1:=fun (ap:Hp) (ct id:Nat)=>No (hp:=ap) (ct:=ct) (id:=id) (ex:=true) (rows:=rows) (at_:=k) FT rP.one rP.pu
   have s2:=fun (ap:Hp) (ct id:Nat)=>No (hp:=ap) (ct:=ct) (id:=id) (ex:=true) (rows:=rows.set k rows[bC (aJ M c) c]) (at_:=bC (aJ M c) c) (by simpa using ic) rA.one rA.pu
   have s3:=fun (ap:Hp) (ct id:Nat)=>No (hp:=ap) (ct:=ct) (id:=id) (ex:=true) (rows:=(rows.set k rows[bC (aJ M c) c]).set (bC (aJ M c) c) rows[k]) (at_:=k) (by omega) hy.one hy.pu
   have alp:pv.length=k:=by rw [oL,yt,fD]
   have alq:pv++[ab c]=((aJ M c).2++[c]).map (fun p:Nat=>ab p):=by rw [oL,xu];rfl
   have rAc:=rA.cells;have rPc:=rP.cells;have yc:=hy.cells;have aCA:¬(M.length:Int)<=(bC (aJ M c) c:Nat):=by omega
   unfold aj at e2 e3;rcases k with _ | k1
   all_goals
    simp only [oV,oH,oC,b3] at f0 f1 ⊢;simp only [go_sem,ya,yb,EB,show (c:Int)<W by omega];generalize hq:D P L (.loop [4,5,6,7,8,9,10,11,24,25] CD) _=q;obtain ⟨ex,st,rfl,tm,ct,rfl,rfl,t4,t5,t6,t7,t8,t9,t10,t11,t24,t25⟩:=bQ hq f0 ⟨_,by simp only [go_sem,ya,yb,ax]<;>rfl,by omega,Kh⟩
    simp only [go_sem,ya,yb,yh,ax,t4,t5,t6,t7,t8,t9,t10,t11,t24,t25,aCA,yy,cM 0 0 hpM,cM 0 0 Lh,yf,d1,d2,EW,rAc,rPc,s1,s2,d3,e1,oe,ix,yK,gx.ak,e2,b6,r1.ak,gv.ak,gz.ak,e3,yc,s3];generalize Gh:D P L (.loop [4,5,6,7,8,9,10,24,25,89,90] CE) _=q2;obtain ⟨ex,st,rfl,tm,ct,aja,rfl,rfl,t4,t5,t6,t7,t8,t9,t24,t25,hR3⟩:=bQ Gh f1 ⟨0,_,by simp only [go_sem,ya,yb,ax]<;>rfl,by omega,DT⟩
    simp only [go_sem,ya,yb,yp,yh,ax,t4,t5,t6,t7,t8,t9,t24,t25]
   ·rw [gX (by decide) (by decide) (by decide) (by decide)];simp only [go_sem,ya,yb,wc];refine ⟨_,d-1,rfl,by omega,c+1,aja,1,[ab c],?_,by omega,?_,?_,?_⟩
    ·simp only [go_sem,ya,yb,ax]<;>rfl
    ·rw [hs,BC,yL,fD];rfl
    ·rw [hs,BC,<-alq,yx alp];rfl
    ·rw [hs,BC];exact hR3
   ·rw [fY (ex:=false) (pu:=true) (cs:=pv) (by simp only [go_sem,ya]) (by rw [alp,yh]) (by omega) (by omega) (by decide) (by simp only [go_sem])];simp only [go_sem,ya,yb,wc];refine ⟨_,d-1,rfl,by omega,c+1,aja,k1+1+1,pv++[ab c],?_,by omega,?_,?_,?_⟩
    ·simp only [go_sem,ya,yb,ax]<;>rfl
    ·rw [hs,BC,yL,fD];rfl
    ·rw [hs,BC,alq]
    ·rw [hs,BC];exact hR3
  ·
   have BC:aJ M (c+1)=aJ M c:=by rw [hs,RC hp]
   rw [<-BC] at fD oL hR;have hF:bC (aJ M c) c=M.length:=by omega
   rw [hF] at f0 Kh;cases k
   all_goals
    simp only [oV,oH,oC,b3] at f0 ⊢;simp only [go_sem,ya,yb,EB,show (c:Int)<W by omega];generalize hq:D P L (.loop [4,5,6,7,8,9,10,11,24,25] CD) _=q;obtain ⟨ex,st,rfl,tm,ct,rfl,rfl,t4,t5,t6,t7,t8,t9,t10,t11,t24,t25⟩:=bQ hq f0 ⟨_,by simp only [go_sem,ya,yb,ax]<;>rfl,by omega,Kh⟩
    simp only [go_sem,ya,yb,ax,t4,t5,t6,t7,t8,t9,t10,t11,t24,t25,Int.le_refl,yq,wc];refine ⟨_,d-1,rfl,by omega,c+1,rows,_,pv,?_,by omega,fD,oL,hR⟩;simp only [go_sem,ya,yb,ax]<;>rfl
 ·right
  have:c=W:=by omega
  subst this;cases k
  all_goals
   simp only [oV,oH,oC,b3];simp only [go_sem,ya,yb,EB,show ¬(c:Int)<c by omega,yy];exact ⟨_,_,rfl,by simp,_,_,rows,_,pv,rfl,rfl,by simp only [go_sem,ya],by simp only [go_sem,ya]<;>rfl,fD,oL,hR⟩
def alr (h:Fr' P L) (qM:Has P L 240 C5) (Ki:Has P L 227 C4) {v:AV} {M:Mx} {W:Nat} (hv:cg cT v M) (hw:wid W M) (Z8:W<=1000) (h0:0<M.length) (ij:M.length<=1000) {K:Nat} (hk:cX K M) (Ca:1<=K) (hK:4^M.length*(K+1)<=400000000):
  ∃r q,aj P L 227 [v] (.ae [r,q])/\cg cT (bH r) ((aJ M W).1.take (aJ M W).2.length)/\bE (bH q) ((aJ M W).2.map (fun p:Nat=>(p:Int))):=by
 obtain ⟨one,e1,ho⟩:=ZK h (z:=1) (by decide) (by decide);obtain ⟨zero,e2,hz⟩:=ZK h (z:=0) (by decide) (by decide);obtain ⟨o1,o2,o3,o4,rfl,go⟩:=ho.gen;obtain ⟨z1,z2,z3,z4,rfl,gz⟩:=hz.gen;obtain ⟨r0,rest,ew,e0⟩:=hv.aQ h0;have w0:=hw 0 h0;rw [di h0] at w0;have key:=ayS h qM hw Z8 ij hk Ca hK (by simpa using ho) (by simpa using hz) W;have eA:=hv;obtain ⟨rows,hL,hR⟩:=hv;have lr:=hR.len;obtain ⟨p1,p2⟩:=aqE hR;have zt:∀hp:Hp,jD hp 1 v=some (M.length,rows):=fun hp=>by
  rcases hL with ⟨rfl,rfl⟩ | ⟨e,rfl⟩
  ·simp at lr;omega
  ·simp only [jD,yh,Nat.beq_refl,yA,lr]
 have hm:∀ct,qH ct 1 24 [.aa] (some M.length) (some M.length)=some (.aB ct 0 M.length,.cells true true true 1 (ym M.length [AV.aa]).flatten):=fun ct=>CL (by omega) (by omega) rfl rfl
 have FW:(ym M.length [AV.aa]).flatten.length=M.length:=by rw [ac9];simp
 have hc:=fun (ct:Nat)=>auZ (hp:=[(0,.cells true true true 1 (ym M.length [AV.aa]).flatten)]) (ct:=ct) (id:=0) (jn _ _ _) FW lr p1 p2
 have e12:bO P L (D P L) 69 [.int .i64 1]=some (.agg [o1,o2,o3,o4]):=e1;have e22:bO P L (D P L) 69 [.int .i64 0]=some (.agg [z1,z2,z3,z4]):=e2;have hP:=AY hw W;have lm:=Cs M W;have body:∃tm hp ct rows k pv,D P L C4.body ⟨eh 0 [v],[],0,0⟩=some (.ret,⟨tm,hp,ct,0⟩)/\ai tm 2= .aB 0 0 k/\((k=0/\ai tm 3= .aa/\hp=[(0,.cells true true true 1 rows)])\/(0<k/\ai tm 3= .aB 1 0 k/\hp=[(1,.cells true true false 1 pv),(0,.cells true true true 1 rows)]))/\(aJ M W).2.length=k/\pv=(aJ M W).2.map (fun p:Nat=>ab p)/\cf cT rows (aJ M W).1:=by
  simp only [go_sem,ya,yb,C4,eA.len,Aw,hm,ayP,zt,hc,e12,e22,b6,bh,go.st,gz.st,im,e0,ew.len,w0];generalize hq:D P L (.loop [4,5,6,7,8,24,25] EB) _=q;obtain ⟨ex,st,rfl,tm,ct,EZ,k,pv,rfl,rfl,t4,t8,fD,oL,DT⟩:=bQ hq key ⟨0,rows,0,[],by simp only [go_sem,ya,yb,ax,oV,oH,oC,b3]<;>rfl,by omega,rfl,rfl,hR⟩
  have Lh:k<=M.length:=by have:=hP.pv;omega
  rcases k with _ | k1
  all_goals
   simp only [oV,oH,b3] at t8 ⊢;simp only [go_sem,ya,yb,ax,t4,t8]
   rw [aqD (rw':=true) (pu:=true) (ex:=true) (cs:=EZ) (by simp only [go_sem,ya]) (by simp only [go_sem,Aw,ahY]) Lh];simp only [go_sem,ya]
  ·exact ⟨_,_,_,EZ,_,pv,rfl,by simp only [go_sem,ya],.inl ⟨rfl,by simp only [go_sem],rfl⟩,fD,oL,DT⟩
  ·exact ⟨_,_,_,EZ,_,pv,rfl,by simp only [go_sem,ya],.inr ⟨by omega,by simp only [go_sem],rfl⟩,fD,oL,DT⟩
 obtain ⟨tm,hp,ct,EZ,k,pv,hb,t2,CX,fD,oL,DT⟩:=body;have Lh:k<=M.length:=by have:=hP.pv;omega
 have lr2:=DT.len;have hA:∀e,cg cT (.aA e k (EZ.take k)) ((aJ M W).1.take k):=fun e=>by
  have:=AJ e (DT.take k)
  rwa [yI,xn (by omega)] at this
 rw [fD];rcases CX with ⟨rfl,t3,rfl⟩ | ⟨Kx,t3,rfl⟩
 ·refine ⟨.bD false 1 0 [],.aa,?_,?_,?_⟩
  ·unfold aj;rw [aH Ki,hb];simp only [go_sem,C4,t2,t3];exact aoe (by omega) h0
  ·have:=hA false
   rw [List.take_zero];exact this
  ·rw [yx fD];exact rq
 ·have gQ:pv.length=k:=by rw [oL,yt,fD]
  refine ⟨.bD (Nat.beq k M.length) 1 k (EZ.take k),.bD false 1 k pv,?_,hA _,?_⟩
  ·unfold aj;rw [aH Ki,hb];simp only [go_sem,C4,t2,t3];exact aoZ (by omega) Lh gQ
  ·have:=Ih false pv
   rw [gQ] at this;show cR _ _
   rw [vE];rw [oL] at this ⊢;exact this
end
end
section
open Go (IntKind)
def lh (M:Mx):Bool:=M.any fun r=>r.any LG
noncomputable def bF (M:List (List (List Nat))):Mx:=M.map (xH bK)
abbrev wd {β:Type} (M:List (List β)):Nat:=(M.getD 0 []).length
def AZ {M:List (List (List Nat))} (h:fj M=0):0<M.length/\M.length<=64/\∀r,r∈M->r.length=wd M/\0<r.length/\r.length<=64/\∀s,s∈r->cm s=0:=by
 unfold fj at h
 split at h
 ·grind
 ·split at h
  ·grind
  ·refine ⟨by omega,by omega,fun r hr=>?_⟩;have h1:=LJ h r hr;obtain ⟨a1,h1⟩:=HA.1 h1;obtain ⟨a2,h1⟩:=HA.1 h1;obtain ⟨a3,h1⟩:=HA.1 h1;obtain ⟨a4,_⟩:=HA.1 h1;refine ⟨?_,?_,?_,LJ a4⟩
   ·grind
   ·grind
   ·grind
def Ec {M:List (List (List Nat))} (h:∀r,r∈M->r.length=wd M):wid (wd M) (bF M):=fun i hi=>by
 unfold bF at hi ⊢;rw [di hi,wu,yt]
 grind
def H4 (M:List (List (List Nat))):(bF M).length=M.length:=yt _
def Ct {K:Nat} {M:Mx} (h:cX K M) {r:List Rat} (hr:r∈M):∀x,x∈r->Hq K x:=by
 obtain ⟨i,hi,rfl⟩:=vn.1 hr
 have:=h i hi
 rwa [di hi] at this
section
variable {P:aI} {L:Lib}
def ayT (h:Tx P L) {v rv:AV} {l:List Rat} (hv:a6 v=true) (hr:cT rv l) (hl:l.length<=1000000) {K:Nat} (hk:∀x,x∈l->Hq K x) (hK:K<=4000000000) {n i j:Nat} {out:List AV}:
  ∀(d:Nat) (st:St),(∃k:Nat,aS [4,6,9,10,11,15,16,17] st=⟨[(4,oV 0 j),(6,rv),(9,v),(10,ab n),(11,ab i),(15,rv),(16,ab l.length),(17,ab k)],oH 0 1 out [] j,oC 0 j,0⟩/\k+d=l.length/\(l.take k).any LG=false)->
   ∃ex s',D P L (.loop [4,6,9,10,11,15,16,17] CC) st=some (ex,s')/\∃tm hp ct,s'=⟨tm,hp,ct,0⟩/\((ex= .ret/\ai tm 2= .aa/\ai tm 3=ab 4/\l.any LG=true)\/(ex= .exit 2/\l.any LG=false/\hp=oH 0 1 out [] j/\ai tm 4=oV 0 j/\ai tm 6=rv/\ai tm 9=v/\ai tm 10=ab n/\ai tm 11=ab i)):=by
 intro dq sq;generalize bB:aS [4,6,9,10,11,15,16,17] sq=s0;revert bB s0 sq dq;apply dI;rintro d st ⟨k,rfl,hkd,hL⟩;by_cases hi:k<l.length
 ·obtain ⟨a,b,c,e,r,e1,hx⟩:=hr.aQ hi;have e2:=aBZ h hx (hk _ (yF hi)) hK;have gx:=hx.f4;have wk:IntKind.wrap .i64 ((k:Int)+1)=((k+1:Nat):Int):=wrap64 (by omega) (by omega);unfold aj at e2
  cases hg:LG l[k] with
  | true=>
   right
   rw [hg] at e2;have hT:l.any LG=true:=tj.2 ⟨_,yF hi,hg⟩;cases j
   all_goals
    simp only [oV,oH,oC];simp only [go_sem,ya,yb,CC,show (k:Int)<l.length by omega,yq,e1,oe,qw,yK,bh,gx.st,gx.ak,e2];exact ⟨_,_,rfl,by simp,_,_,_,rfl,.inl ⟨rfl,by simp only [go_sem,ya],by simp only [go_sem],hT⟩⟩
  | false=>
   left
   rw [hg] at e2;have hT:(l.take (k+1)).any LG=false:=by rw [yY hi,yaN,hL];simp [hg]
   cases j
   all_goals
    simp only [oV,oH,oC];simp only [go_sem,ya,yb,CC,show (k:Int)<l.length by omega,yq,e1,oe,qw,yK,bh,gx.st,gx.ak,e2];refine ⟨_,d-1,rfl,by omega,k+1,?_,by omega,hT⟩;rw [wk];simp only [go_sem,ya,yb,ax,au hv,ay _ hv,au hr.pu,ay _ hr.pu]<;>rfl
 ·right
  rw [yG (by omega)] at hL
  have:k=l.length:=by omega
  subst this;cases j
  all_goals
   simp only [oV,oH,oC];simp only [go_sem,ya,yb,CC,show ¬(l.length:Int)<l.length by omega,yy];exact ⟨_,_,rfl,by simp,_,_,_,rfl,.inr ⟨rfl,hL,rfl,by simp only [go_sem,ya],by simp only [go_sem,ya],by simp only [go_sem,ya],by simp only [go_sem,ya],by simp only [go_sem,ya]⟩⟩
def als (h:Tx P L) (Pb:Has P L 123 Jj) (Pc:Has P L 226 NQ) {v:AV} {M:Mx} (hv:cg cT v M) (hl:M.length<=1000000) (hr:∀r,r∈M->r.length<=1000000) {K:Nat} (hk:∀r,r∈M->∀x,x∈r->Hq K x) (hK:K<=4000000000):
  (lh M=true->aj P L 226 [v] (.ae [.aa,ab 4]))/\(lh M=false->∃r,aj P L 226 [v] (.ae [r,ab 0])/\cg bZ (bH r) (M.map (xH RT))):=by
 have key:=fM (P:=P) (L:=L) (live:=[4,9,10,11]) (a:=EA)
  (I:=fun d st=>∃(i:Nat) (out:List AV),i+d=M.length/\lh (M.take i)=false/\cf bZ out ((M.take i).map (xH RT))/\st=⟨[(4,oV 0 i),(9,v),(10,ab M.length),(11,ab i)],oH 0 1 out [] i,oC 0 i,0⟩)
  (Q:=fun ex st=>∃tm hp ct,st=⟨tm,hp,ct,0⟩/\((ex= .ret/\ai tm 2= .aa/\ai tm 3=ab 4/\lh M=true)\/(ex= .exit 0/\lh M=false/\∃out,hp=oH 0 1 out [] M.length/\ai tm 4=oV 0 M.length/\cf bZ out (M.map (xH RT))))) ?_
 ·have main:(lh M=true/\aj P L 226 [v] (.ae [.aa,ab 4]))\/(lh M=false/\∃r,aj P L 226 [v] (.ae [r,ab 0])/\cg bZ (bH r) (M.map (xH RT))):=by
   unfold aj;rw [aH Pc];simp only [go_sem,ya,NQ,hv.len];generalize hq:D P L (.loop [4,9,10,11] EA) _=q;obtain ⟨ex,st,rfl,tm,hp,ct,rfl,h2⟩:=bQ hq (key M.length) ⟨0,[],by omega,rfl,trivial,by simp only [go_sem,ya,ax,au hv.pu,ay _ hv.pu]<;>rfl⟩
   rcases h2 with ⟨rfl,t2,t3,h4⟩ | ⟨rfl,h3,out,rfl,t4,hO⟩
   ·exact .inl ⟨h4,by simp only [go_sem,t2,t3]⟩
   ·right
    refine ⟨h3,?_⟩;have hlen:=hO.len;rw [yt] at hlen
    cases hn:M.length with
    | zero=>
     rw [hn] at t4;refine ⟨.aa,by simp only [go_sem,ya,ax,t4,oV,oH],?_⟩;rw [yx hn];exact Q0
    | succ n=>
     rw [hn] at t4 hlen;refine ⟨.bD false 1 (n+1) out,?_,?_⟩
     ·simp only [go_sem,ya,yb,ax,t4,oV,oH];exact anG (jn _ _ _) (by rw [hlen,yh]) (by decide)
     ·have:=AJ false hO
      rwa [yt,hn] at this
  rcases main with ⟨h1,h2⟩ | ⟨h1,h2⟩
  ·exact ⟨fun _=>h2,fun h3=>by rw [h1] at h3;cases h3⟩
  ·exact ⟨fun h3=>(by rw [h1] at h3;cases h3),fun _=>h2⟩
 ·rintro d st ⟨i,out,hid,hL,hO,rfl⟩;by_cases hi:i<M.length
  ·obtain ⟨rv,rest,nF,e0⟩:=hv.aQ hi;have hm:=yF hi;have f0:=ayT h hv.pu nF (hr _ hm) (hk _ hm) hK (n:=M.length) (i:=i) (j:=i) (out:=out) M[i].length;obtain ⟨y,e1,hy⟩:=aCx Pb h nF (hr _ hm) (hk _ hm) hK;have wi:IntKind.wrap .i64 ((i:Int)+1)=((i+1:Nat):Int):=wrap64 (by omega) (by omega);have aH6:lh M=true\/M[i].any LG=false:=by
    cases hx:M[i].any LG with
    | true=>exact .inl (tj.2 ⟨_,hm,hx⟩)
    | false=>exact .inr rfl
   have hO':cf bZ (out++[shut y]) ((M.take (i+1)).map (xH RT)):=by
    rw [yY hi,xu];exact hO.snoc hy
   have hlen:=hO.len;rw [yt,yI,xn (by omega)] at hlen;have hT:M[i].any LG=false->lh (M.take (i+1))=false:=fun q=>by
    unfold lh at hL ⊢;rw [yY hi,yaN,hL];simp only [List.any_cons,List.any_nil,q,Bool.or_false]
   have ajb:M[i].any LG=true->lh M=true:=fun q=>tj.2 ⟨_,hm,q⟩
   have je:∀st,aS [4,6,9,10,11,15,16,17] st=⟨[(4,oV 0 i),(6,rv),(9,v),(10,ab M.length),(11,ab i),(15,rv),(16,ab M[i].length),(17,ab (0:Nat))],oH 0 1 out [] i,oC 0 i,0⟩->_:=fun st aR=>f0 st ⟨0,aR,by omega,rfl⟩
   unfold aj at e1
   cases i with
   | zero=>
    have:out=[]:=yx hlen
    subst this;simp only [oV,oH,oC] at je ⊢;simp only [go_sem,ya,yb,EA,show ((0:Nat):Int)<M.length by omega,e0,nF.len];generalize hq:D P L (.loop [4,6,9,10,11,15,16,17] CC) _=q;obtain ⟨ex,st,rfl,tm,hp,ct,rfl,h2⟩:=bQ hq je (by simp only [go_sem,ya,ax,au hv.pu,ay _ hv.pu,au nF.pu,ay _ nF.pu]<;>rfl)
    rcases h2 with ⟨rfl,t2,t3,h4⟩ | ⟨rfl,h3,rfl,t4,t6,t9,t10,t11⟩
    ·right
     simp only [go_sem];exact ⟨_,_,rfl,by simp,_,_,_,rfl,.inl ⟨rfl,t2,t3,ajb h4⟩⟩
    ·left
     simp only [go_sem,ya,yb,xg,yD,yp,yh,ax,t4,t6,t9,t10,t11,au hv.pu,ay _ hv.pu,au nF.pu,ay _ nF.pu,nF.ak,e1,hy.pu,hy.one,hy.cells,gX];refine ⟨_,d-1,rfl,by omega,1,_,by omega,hT h3,hO',?_⟩;rw [wi];simp only [go_sem,ya,yb,ax,au hv.pu,ay _ hv.pu]<;>rfl
   | succ i=>
    simp only [oV,oH,oC] at je ⊢;simp only [go_sem,ya,yb,EA,show ((i+1:Nat):Int)<M.length by omega,e0,nF.len];generalize hq:D P L (.loop [4,6,9,10,11,15,16,17] CC) _=q;obtain ⟨ex,st,rfl,tm,hp,ct,rfl,h2⟩:=bQ hq je (by simp only [go_sem,ya,yb,ax,au hv.pu,ay _ hv.pu,au nF.pu,ay _ nF.pu]<;>rfl)
    rcases h2 with ⟨rfl,t2,t3,h4⟩ | ⟨rfl,h3,rfl,t4,t6,t9,t10,t11⟩
    ·right
     exact ⟨_,_,rfl,by simp,_,_,_,rfl,.inl ⟨rfl,t2,t3,ajb h4⟩⟩
    ·left
     simp only [go_sem,ya,yb,yp,yh,ax,t4,t6,t9,t10,t11,au hv.pu,ay _ hv.pu,au nF.pu,ay _ nF.pu,nF.ak,e1,hy.pu,hy.one,hy.cells]
     rw [fY (ex:=false) (pu:=true) (cs:=out) (by simp only [go_sem,ya]) (by rw [hlen,yh]) (by omega) (by omega) (by decide) (by simp only [go_sem,hy.one])];simp only [go_sem,ya,yb,hy.pu];refine ⟨_,d-1,rfl,by omega,i+1+1,_,by omega,hT h3,hO',?_⟩;rw [wi];simp only [go_sem,ya,yb,ax,au hv.pu,ay _ hv.pu]<;>rfl
  ·right
   have:i=M.length:=by omega
   subst this;rw [xx] at hL hO;simp only [go_sem,ya,EA,show ¬(M.length:Int)<M.length by omega];exact ⟨_,_,rfl,by simp,_,_,_,rfl,.inr ⟨rfl,hL,out,rfl,by simp only [go_sem,ya],hO⟩⟩
structure Li (P:aI) (L:Lib):Prop extends Ck P L where
 Hs:Has P L 84 pQ
 sK:Has P L 88 jf
 Pb:Has P L 123 Jj
 Bz:Has P L 126 Jl
 BA:Has P L 127 Jm
 qK:Has P L 161 Fb
 BB:Has P L 225 Jt
 Pc:Has P L 226 NQ
 Ki:Has P L 227 C4
 qM:Has P L 240 C5
def aCB (h:Li P L) (Pd:Has P L 205 Js) {v:AV} {M:List (List (List Nat))} (hv:cg bZ v M) (hl:M.length<=1000000) (hr:∀r,r∈M->r.length<=1000000/\∀s,s∈r->s.length<=1000000000):
  (fj M≠0->aj P L 205 [v] (.ae [ab 0,ab (fj M)]))/\(fj M=0->∀{K:Nat},cX K (bF M)->1<=K->4^M.length*(K+1)<=400000000->aj P L 205 [v] (.ae [ab ((aJ (bF M) (wd M)).2.length:Nat),ab 0])):=by
 have e1:=P4 h.toCk h.qK h.Bz h.BA h.Hs hv hl hr;constructor
 ·intro hE;unfold aj;rw [aH Pd];simp only [go_sem,ya,Js,hv.ak,e1,hE,yy,yP];rfl
 ·intro hE K hk Ca hK;obtain ⟨m0,m64,cB⟩:=AZ hE;obtain ⟨x,e2,hx⟩:=Yx h.toCk h.sK h.BB hv hl (fun r bn=>⟨(hr r bn).1,(cB r bn).2.2.2⟩);have hw:=Ec (M:=M) (fun r bn=>(cB r bn).1);have aCC:wd M<=64:=by
   have:=cB _ (yF m0)
   unfold wd;rw [Je m0];omega
  obtain ⟨r,q,e3,Aq,Gi⟩:=alr h.toFr' h.qM h.Ki hx hw (by omega) (by rw [yt];exact m0) (by rw [yt];omega) hk Ca (by rw [yt];exact hK)
  rw [hE] at e1;unfold aj at e2 e3 ⊢;rw [aH Pd];have lq:∀hp:Hp,fP hp 1 (bH q)=some (ab ((aJ (bF M) (wd M)).2.length:Nat)):=fun hp=>by
   have:=Gi.len (hp:=hp)
   rwa [yt] at this
  simp only [go_sem,ya,Js,hv.ak,e1,yq,yM,e2,hx.ak,e3,oQ,oN,oO,lq];rfl
end
end
section
open Go (IntKind)
def kvi (R:Mx) (pv:List Nat) (n c:Nat):Nat->List Rat
 | 0=>(ym n 0).set c 1
 | i+1=>(kvi R pv n c i).set (pv.getD i 0) (-(cC (gR R i) c))
def Kj (R:Mx) (pv:List Nat) (n:Nat):Nat->Mx
 | 0=>[]
 | c+1=>if pv.contains c=true then Kj R pv n c else Kj R pv n c++[kvi R pv n c pv.length]
def aAt (M:Mx) (W:Nat):Mx:=Kj (aJ M W).1 (aJ M W).2 W W
abbrev z4:List AV:=[AV.int .i64 0,.aa,.int .i64 0,.aa]
end
section
open Go (IntKind)
def cg.ae {β:Type} {p:AV->β->Prop} {v:AV} {s:List β} (h:cg p v s) (hp:Hp) (k:IntKind) (b:Int):result hp (.ae [v,.int k b])=some (.ae [v,.int k b]):=by
 obtain ⟨rows,h1,_⟩:=h;rcases h1 with ⟨rfl,_⟩ | ⟨e,rfl⟩<;>rfl
section
variable {P:aI} {L:Lib}
def asI {w:Nat} {m:Mx} (h:wid w m) (k:Nat):wid w (m.take k):=fun i hi=>by
 rw [yI] at hi;rw [di (by rw [yI];exact hi),List.getElem_take]
 have:=h i (by omega)
 rwa [di (by omega)] at this
def zg {w:Nat} {m:Mx} (h:wid w m) {r:List Rat} (hr:r∈m):r.length=w:=by
 obtain ⟨i,hi,rfl⟩:=vn.1 hr
 have:=h i hi
 rwa [di hi] at this
end
end
section
open Go (IntKind)
def mc (a:List Rat) (B:Mx) (c:Nat):Nat->Rat
 | 0=>0
 | k+1=>mc a B c k+cC a k*cC (gR B k) c
def mulR (a:List Rat) (B:Mx) (w:Nat):List Rat:=(vh w).map fun c=>mc a B c a.length
def dt (A B:Mx) (w:Nat):Mx:=A.map fun a=>mulR a B w
def AK (a:List Rat) (B:Mx) (w:Nat):(mulR a B w).length=w:=by simp [mulR]
def aqF {a:List Rat} {B:Mx} {w c:Nat} (h:c<w):(mulR a B w).take (c+1)=(mulR a B w).take c++[mc a B c a.length]:=by
 rw [yY (by rw [AK];exact h)]
 simp [mulR]
def Np {r:List Rat} {c K:Nat} (h:∀x,x∈r->Hq K x) (hK:2<=K):Hq K (cC r c):=by
 unfold cC;rw [y7]
 cases hq:r[c]? with
 | none=>exact O9.mono hK
 | some y=>exact h y (List.mem_of_getElem? hq)
def aCD {m:Mx} {K:Nat} (h:cX K m) (i:Nat):∀x,x∈gR m i->Hq K x:=fun x hx=>by
 by_cases hi:i<m.length
 ·exact h i hi x hx
 ·simp [gR,y7,List.getElem?_eq_none (Nat.le_of_not_lt hi)] at hx
def SY {a:List Rat} {B:Mx} {c K:Nat} (ha:∀x,x∈a->Hq K x) (hB:cX K B) (hK:2<=K):∀k,Hq (2+k*(2*K+1)) (mc a B c k)
 | 0=>O9.mono (by omega)
 | k+1=>by
  have:=(SY (c:=c) ha hB hK k).add ((Np (c:=k) ha hK).mul (Np (c:=c) (aCD hB k) hK))
  refine this.mono ?_
  grind
def ail {a:List Rat} {B:Mx} {w K:Nat} (ha:∀x,x∈a->Hq K x) (hB:cX K B) (hK:2<=K):∀x,x∈mulR a B w->Hq (2+a.length*(2*K+1)) x:=fun x hx=>by
 obtain ⟨c,_,rfl⟩:=xZ.1 hx;exact SY ha hB hK _
def pH (i c:Nat) (rows cs:List AV):Hp:=oH (oC 0 i) 4 cs (oH 0 1 rows [] i) c
section
variable {P:aI} {L:Lib}
def ayU (h:Fr' P L) {x y ra:AV} {B:Mx} {a:List Rat} (hx:a6 x=true) (hy:cg cT y B) (ha:cT ra a) {w:Nat} (hw:wid w B) (oG:a.length=B.length) (hl:a.length<=1000) {c:Nat} (hc:c<w) {K:Nat} (ka:∀z,z∈a->Hq K z) (kb:cX K B) (jT:2<=K) (hK:K<=1000000) {i n:Nat} {rows cs:List AV}:
  ∀d st,(∃(k:Nat) (s1 s2 s3 s4:AV),aS [8,9,11,12,13,14,37,38,39,46,47,51,52,53] st=⟨[(8,y),(9,oV 0 i),(11,ra),(12,oV (oC 0 i) c),(13,ab c),(14,.ptr (oC (oC 0 i) c) 0),(37,x),(38,ab n),(39,ab i),(46,ab w),(47,ab c),(51,ra),(52,ab a.length),(53,ab k)],(oC (oC 0 i) c,.cells true true true 4 [s1,s2,s3,s4])::pH i c rows cs,oC (oC 0 i) c+1,0⟩/\k+d=a.length/\dM (.agg [s1,s2,s3,s4]) (mc a B c k))->
   ∃ex s',D P L (.loop [8,9,11,12,13,14,37,38,39,46,47,51,52,53] Ev) st=some (ex,s')/\∃tm ct s1 s2 s3 s4,s'=⟨tm,(oC (oC 0 i) c,.cells true true true 4 [s1,s2,s3,s4])::pH i c rows cs,ct,0⟩/\ex= .exit 4/\dM (.agg [s1,s2,s3,s4]) (mc a B c a.length)/\ai tm 8=y/\ai tm 9=oV 0 i/\ai tm 11=ra/\ai tm 12=oV (oC 0 i) c/\ai tm 14= .ptr (oC (oC 0 i) c) 0/\ai tm 37=x/\ai tm 38=ab n/\ai tm 39=ab i/\ai tm 46=ab w/\ai tm 47=ab c:=by
 intro dq sq;generalize bB:aS [8,9,11,12,13,14,37,38,39,46,47,51,52,53] sq=s0;revert bB s0 sq dq;apply dI;rintro d st ⟨k,s1,s2,s3,s4,rfl,hkd,hs⟩;by_cases hk:k<a.length
 ·left
  have Lj:k<B.length:=by omega
  obtain ⟨a1,a2,a3,a4,ar,e1,Lk⟩:=ha.aQ hk;obtain ⟨r0,rest,ew,e0⟩:=hy.aQ Lj;have wr:=hw k Lj;have kr:=kb k Lj;rw [di Lj] at wr kr;obtain ⟨b1,b2,b3',b4,br,e2,hx2⟩:=ew.aQ (i:=c) (by omega);have k1:=ka _ (yF hk);have k2:=kr _ (yF (show c<B[k].length by omega));obtain ⟨p,e3,hp⟩:=ZM h Lk hx2 k1 k2 (by omega);have kd:=SY (c:=c) ka kb jT k;have qP:k*(2*K+1)<=1000*(2*1000000+1):=wZ (by omega) (by omega);obtain ⟨z,e4,hz⟩:=m74 h hs hp (kd.mono (show 2+k*(2*K+1)<=3000000000 by omega)) ((k1.mul k2).mono (show K+K<=3000000000 by omega)) (by omega);have eY:dM z (mc a B c (k+1)):=by
   rw [mc,ir hk,di Lj,ir (show c<B[k].length by omega)];exact hz
  have gs:=hs.f4;have g1:=Lk.f4;have g2:=hx2.f4;obtain ⟨p1,p2,p3,p4,rfl,gp⟩:=hp.gen;obtain ⟨q1,q2,q3,q4,rfl,gz⟩:=hz.gen;have wk:IntKind.wrap .i64 ((k:Int)+1)=((k+1:Nat):Int):=wrap64 (by omega) (by omega);unfold aj at e3 e4;cases i<;>cases c
  all_goals
   simp only [oV,oH,oC,pH];simp only [go_sem,ya,yb,Ev,show (k:Int)<a.length by omega,e1,e0,e2,oe,qw,yK,bh,g1.st,gs.ak,g1.ak,g2.ak,e3,b6,gp.ak,e4,gz.st];refine ⟨_,d-1,rfl,by omega,k+1,q1,q2,q3,q4,?_,by omega,eY⟩;rw [wk];simp only [go_sem,ya,yb,ax,au hx,ay _ hx,au hy.pu,ay _ hy.pu,au ha.pu,ay _ ha.pu]<;>rfl
 ·right
  have:k=a.length:=by omega
  subst this;cases i<;>cases c
  all_goals
   simp only [oV,oH,oC,pH];simp only [go_sem,ya,yb,Ev,show ¬(a.length:Int)<a.length by omega,yy];exact ⟨_,_,rfl,by simp,_,_,s1,s2,s3,s4,rfl,rfl,hs,by simp only [go_sem,ya],by simp only [go_sem,ya],by simp only [go_sem,ya],by simp only [go_sem,ya],by simp only [go_sem,ya],by simp only [go_sem,ya],by simp only [go_sem,ya],by simp only [go_sem,ya],by simp only [go_sem,ya],by simp only [go_sem,ya]⟩
def ayV (h:Fr' P L) {x y ra:AV} {B:Mx} {a:List Rat} (hx:a6 x=true) (hy:cg cT y B) (ha:cT ra a) {w:Nat} (hw:wid w B) (qX:w<=1000) (oG:a.length=B.length) (hl:a.length<=1000) {K:Nat} (ka:∀z,z∈a->Hq K z) (kb:cX K B) (jT:2<=K) (hK:K<=1000000) {i n:Nat} {rows:List AV}:
  ∀d st,(∃(c:Nat) (cs:List AV),aS [8,9,11,12,37,38,39,46,47] st=⟨[(8,y),(9,oV 0 i),(11,ra),(12,oV (oC 0 i) c),(37,x),(38,ab n),(39,ab i),(46,ab w),(47,ab c)],pH i c rows cs,oC (oC 0 i) c,0⟩/\c+d=w/\QL cs ((mulR a B w).take c))->
   ∃ex s',D P L (.loop [8,9,11,12,37,38,39,46,47] CA) st=some (ex,s')/\∃tm ct cs,s'=⟨tm,pH i w rows cs,ct,0⟩/\ex= .exit 2/\QL cs (mulR a B w)/\ai tm 8=y/\ai tm 9=oV 0 i/\ai tm 12=oV (oC 0 i) w/\ai tm 37=x/\ai tm 38=ab n/\ai tm 39=ab i:=by
 intro dq sq;generalize bB:aS [8,9,11,12,37,38,39,46,47] sq=s0;revert bB s0 sq dq;apply dI;rintro d st ⟨c,cs,rfl,hcd,hQ⟩;by_cases hc:c<w
 ·left
  have f0:=ayU h hx hy ha hw oG hl hc ka kb jT hK (i:=i) (n:=n) (rows:=rows) (cs:=cs) a.length;obtain ⟨zero,e1,hz⟩:=ZK h (z:=0) (by decide) (by decide);have eY:dM zero (mc a B c 0):=by rw [mc];simpa using hz
  have kv:=eY;obtain ⟨v1,v2,v3,v4,rfl,gz⟩:=eY.gen;have e2:bO P L (D P L) 69 [.int .i64 0]=some (.agg [v1,v2,v3,v4]):=e1;have wc:IntKind.wrap .i64 ((c:Int)+1)=((c+1:Nat):Int):=wrap64 (by omega) (by omega);have lq:=hQ.len;rw [yI,AK,xn (by omega)] at lq;have qS:(c:Int)<w:=by omega
  have end_:∀(s1 s2 s3 s4:AV),dM (.agg [s1,s2,s3,s4]) (mc a B c a.length)->F4 s1 s2 s3 s4/\QL (cs++[s1,s2,s3,s4]) ((mulR a B w).take (c+1))/\(∀q,nT q z4 0 4 [s1,s2,s3,s4] []=fill q [s1,s2,s3,s4] [])/\a6 s1=true/\a6 s2=true/\a6 s3=true/\a6 s4=true:=fun s1 s2 s3 s4 q=>by
   have g:=q.f4;obtain ⟨p1,p2,p3,p4⟩:=g.Hr;exact ⟨g,by rw [aqF hc];exact hQ.snoc q,fun _=>MZ g.o1 g.o2 g.o3 g.o4,p1,p2,p3,p4⟩
  have je:∀st,aS [8,9,11,12,13,14,37,38,39,46,47,51,52,53] st=⟨[(8,y),(9,oV 0 i),(11,ra),(12,oV (oC 0 i) c),(13,ab c),(14,.ptr (oC (oC 0 i) c) 0),(37,x),(38,ab n),(39,ab i),(46,ab w),(47,ab c),(51,ra),(52,ab a.length),(53,ab (0:Nat))],(oC (oC 0 i) c,.cells true true true 4 [v1,v2,v3,v4])::pH i c rows cs,oC (oC 0 i) c+1,0⟩->_:=fun st aR=>f0 st ⟨0,v1,v2,v3,v4,aR,by omega,kv⟩
  cases c with
  | zero=>
   cases i
   all_goals
    simp only [oV,oH,oC,pH] at je ⊢;simp only [go_sem,ya,yb,CA,qS,e2,b6,bh,gz.st,ha.len];generalize bL:D P L (.loop [8,9,11,12,13,14,37,38,39,46,47,51,52,53] Ev) _=q;obtain ⟨ex,st,rfl,tm,ct,s1,s2,s3,s4,rfl,rfl,hs,t8,t9,t11,t12,t14,t37,t38,t39,t46,t47⟩:=bQ bL je (by simp only [go_sem,ya,yb,ax,au hx,ay _ hx,au hy.pu,ay _ hy.pu,au ha.pu,ay _ ha.pu]<;>rfl)
    obtain ⟨g,p6,bz,p1,p2,p3,p4⟩:=end_ s1 s2 s3 s4 hs;simp only [go_sem,ya,yb,xg,yD,yp,ax,t8,t9,t11,t12,t14,t37,t38,t39,t46,t47,au hx,ay _ hx,au hy.pu,ay _ hy.pu,au ha.pu,ay _ ha.pu,ix,yK,bz,p1,p2,p3,p4,xM,Bb,gX,wc];refine ⟨_,d-1,rfl,by omega,1,[s1,s2,s3,s4],?_,by omega,?_⟩
    ·simp only [go_sem,ya,yb,ax,au hx,ay _ hx,au hy.pu,ay _ hy.pu,au ha.pu,ay _ ha.pu]<;>rfl
    ·have:cs=[]:=yx (by omega)
     subst this;exact p6
  | succ c=>
   cases i
   all_goals
    simp only [oV,oH,oC,pH] at je ⊢;simp only [go_sem,ya,yb,CA,qS,e2,b6,bh,gz.st,ha.len];generalize bL:D P L (.loop [8,9,11,12,13,14,37,38,39,46,47,51,52,53] Ev) _=q;obtain ⟨ex,st,rfl,tm,ct,s1,s2,s3,s4,rfl,rfl,hs,t8,t9,t11,t12,t14,t37,t38,t39,t46,t47⟩:=bQ bL je (by simp only [go_sem,ya,yb,ax,au hx,ay _ hx,au hy.pu,ay _ hy.pu,au ha.pu,ay _ ha.pu]<;>rfl)
    obtain ⟨g,p6,bz,p1,p2,p3,p4⟩:=end_ s1 s2 s3 s4 hs;simp only [go_sem,ya,yb,xg,ax,t8,t9,t11,t12,t14,t37,t38,t39,t46,t47,au hx,ay _ hx,au hy.pu,ay _ hy.pu,au ha.pu,ay _ ha.pu,ix,yK,bz,p1,p2,p3,p4,xM,Bb]
    rw [fY (ex:=false) (pu:=true) (cs:=cs) (by simp only [go_sem,ya]) lq (by omega) (by omega) (by decide) (by simp only [go_sem,g.o1,g.o2,g.o3,g.o4])];simp only [go_sem,ya,yb,p1,p2,p3,p4,wc];refine ⟨_,d-1,rfl,by omega,c+1+1,_,?_,by omega,p6⟩;simp only [go_sem,ya,yb,ax,au hx,ay _ hx,au hy.pu,ay _ hy.pu,au ha.pu,ay _ ha.pu]<;>rfl
 ·right
  have:c=w:=by omega
  subst this;rw [yG (by rw [AK];exact yr _)] at hQ
  have qS:¬(c:Int)<c:=by omega
  cases i<;>cases c
  all_goals
   simp only [oV,oH,oC,pH];simp only [go_sem,ya,yb,CA,qS,yy];exact ⟨_,_,rfl,by simp,_,_,cs,rfl,rfl,hQ,by simp only [go_sem,ya],by simp only [go_sem,ya],by simp only [go_sem,ya]<;>rfl,by simp only [go_sem,ya],by simp only [go_sem,ya],by simp only [go_sem,ya]⟩
def ayW (h:Fr' P L) {x y:AV} {A B:Mx} (hx:cg cT x A) (hy:cg cT y B) {w:Nat} (iG:0<w) (hw:wid w B) (qX:w<=1000) (Z9:0<B.length) (hwa:wid B.length A) (hl:B.length<=1000) (hA:A.length<=1000) {K:Nat} (ka:cX K A) (kb:cX K B) (jT:2<=K) (hK:K<=1000000):
  ∀d st,(∃(i:Nat) (rows:List AV),aS [8,9,37,38,39] st=⟨[(8,y),(9,oV 0 i),(37,x),(38,ab A.length),(39,ab i)],oH 0 1 rows [] i,oC 0 i,0⟩/\i+d=A.length/\cf cT rows ((dt A B w).take i))->
   ∃ex s',D P L (.loop [8,9,37,38,39] Ew) st=some (ex,s')/\∃tm ct rows,s'=⟨tm,oH 0 1 rows [] A.length,ct,0⟩/\ex= .exit 0/\cf cT rows (dt A B w)/\ai tm 9=oV 0 A.length:=by
 intro dq sq;generalize bB:aS [8,9,37,38,39] sq=s0;revert bB s0 sq dq;apply dI;rintro d st ⟨i,rows,rfl,hid,hR⟩;have lQ:(dt A B w).length=A.length:=by simp [dt]
 by_cases hi:i<A.length
 ·left
  obtain ⟨ra,rest,og,e0⟩:=hx.aQ hi;obtain ⟨y0,Nq,iH,e1⟩:=hy.aQ (i:=0) Z9;have wa:=hwa i hi;have kA:=ka i hi;have w0:=hw 0 Z9;rw [di hi] at wa kA;rw [di Z9] at w0;have f0:=ayV h hx.pu hy og hw qX wa (by omega) kA kb jT hK (i:=i) (n:=A.length) (rows:=rows) w;have wi:IntKind.wrap .i64 ((i:Int)+1)=((i+1:Nat):Int):=wrap64 (by omega) (by omega);have sM:(i:Int)<A.length:=by omega
  have hlen:=hR.len;rw [yI,lQ,xn (by omega)] at hlen;obtain ⟨w',rfl⟩:∃w',w=w'+1:=⟨w-1,by omega⟩;have je:∀st,aS [8,9,11,12,37,38,39,46,47] st=⟨[(8,y),(9,oV 0 i),(11,ra),(12,oV (oC 0 i) 0),(37,x),(38,ab A.length),(39,ab i),(46,ab (w'+1:Nat)),(47,ab (0:Nat))],pH i 0 rows [],oC (oC 0 i) 0,0⟩->_:=fun st aR=>f0 st ⟨0,[],aR,by omega,trivial⟩
  have end_:∀cs,QL cs (mulR A[i] B (w'+1))->cf cT (rows++[.aA false (w'+1) cs]) ((dt A B (w'+1)).take (i+1))/\cs.length=(w'+1)*4:=fun cs jM=>by
   have h1:=H0 false jM;rw [AK] at h1;refine ⟨?_,by rw [jM.len,AK]⟩;rw [yY (by omega)];exact hR.snoc (by simpa [dt] using h1)
  cases i with
  | zero=>
   have:rows=[]:=yx hlen
   subst this;simp only [oV,oH,oC,pH] at je ⊢;simp only [go_sem,ya,yb,Ew,sM,e0,e1,im,iH.len,w0];generalize bL:D P L (.loop [8,9,11,12,37,38,39,46,47] CA) _=q;obtain ⟨ex,st,rfl,tm,ct,cs,rfl,rfl,jM,t8,t9,t12,t37,t38,t39⟩:=bQ bL je (by simp only [go_sem,ya,ax,au hx.pu,ay _ hx.pu,au hy.pu,ay _ hy.pu,au og.pu,ay _ og.pu]<;>rfl)
   obtain ⟨B9,lc⟩:=end_ cs jM;have fI:=fun hp:Hp=>lC (hp:=hp) (k:=w'+1) (sz:=4) (cs:=cs) false lc (by decide)
   simp only [go_sem,ya,yb,xg,yD,yp,yh,ax,t8,t9,t12,t37,t38,t39,au hx.pu,ay _ hx.pu,au hy.pu,ay _ hy.pu,fI,gX,wi];refine ⟨_,d-1,rfl,by omega,1,_,?_,by omega,B9⟩;simp only [go_sem,ya,yb,ax,au hx.pu,ay _ hx.pu,au hy.pu,ay _ hy.pu]<;>rfl
  | succ i=>
   simp only [oV,oH,oC,pH] at je ⊢;simp only [go_sem,ya,yb,Ew,sM,e0,e1,im,iH.len,w0];generalize bL:D P L (.loop [8,9,11,12,37,38,39,46,47] CA) _=q;obtain ⟨ex,st,rfl,tm,ct,cs,rfl,rfl,jM,t8,t9,t12,t37,t38,t39⟩:=bQ bL je (by simp only [go_sem,ya,yb,ax,au hx.pu,ay _ hx.pu,au hy.pu,ay _ hy.pu,au og.pu,ay _ og.pu]<;>rfl)
   obtain ⟨B9,lc⟩:=end_ cs jM;have fI:=fun hp:Hp=>lC (hp:=hp) (k:=w'+1) (sz:=4) (cs:=cs) false lc (by decide)
   simp only [go_sem,ya,yb,yp,yh,ax,t8,t9,t12,t37,t38,t39,au hx.pu,ay _ hx.pu,au hy.pu,ay _ hy.pu,fI]
   rw [fY (ex:=false) (pu:=true) (cs:=rows) (by simp only [go_sem,ya]) (by rw [hlen,yh]) (by omega) (by omega) (by decide) (by simp only [go_sem])];simp only [go_sem,ya,yb,wi];refine ⟨_,d-1,rfl,by omega,i+1+1,_,?_,by omega,B9⟩;simp only [go_sem,ya,yb,ax,au hx.pu,ay _ hx.pu,au hy.pu,ay _ hy.pu]<;>rfl
 ·right
  have:i=A.length:=by omega
  subst this;rw [yG (by omega)] at hR;have sM:¬(A.length:Int)<A.length:=by omega
  simp only [go_sem,ya,Ew,sM,yy];exact ⟨_,_,rfl,by simp,_,_,rows,rfl,rfl,hR,by simp only [go_sem,ya]⟩
end
end
section
open Go (IntKind)
section
variable {P:aI} {L:Lib}
def aCE (h:Li P L) (qO:Has P L 200 nU) {u v:AV} {A B:List (List (List Nat))} (hu:cg bZ u A) (hv:cg bZ v B) (la:A.length<=1000000) (lb:B.length<=1000000) (ra:∀r,r∈A->r.length<=1000000/\∀s,s∈r->s.length<=1000000000) (rb:∀r,r∈B->r.length<=1000000/\∀s,s∈r->s.length<=1000000000):
  (bW [fj A,fj B]≠0->aj P L 200 [u,v] (.ae [.aa,ab (bW [fj A,fj B])]))/\(fj A=0->fj B=0->
   (wd A≠B.length->aj P L 200 [u,v] (.ae [.aa,ab 2]))/\
   (wd A=B.length->∀{K:Nat},cX K (bF A)->cX K (bF B)->2<=K->K<=1000000->
    (lh (dt (bF A) (bF B) (wd B))=true->aj P L 200 [u,v] (.ae [.aa,ab 4]))/\(lh (dt (bF A) (bF B) (wd B))=false->∃r,aj P L 200 [u,v] (.ae [r,ab 0])/\cg bZ (bH r) ((dt (bF A) (bF B) (wd B)).map (xH RT))))):=by
 have e1:=P4 h.toCk h.qK h.Bz h.BA h.Hs hu la ra;have e2:=P4 h.toCk h.qK h.Bz h.BA h.Hs hv lb rb;have e3:aj P L 125 _ _:=Nd.Kb h.Kc (lE true [fj A,fj B]) (by simp);simp only [yz,yO,xc,vD] at e3;unfold aj at e1 e2 e3;constructor
 ·intro hE;unfold aj;rw [aH qO];simp only [go_sem,ya,yb,yD,yp,yh,nU,hu.ak,hv.ak,e1,e2,e3,hE,yy,yP]
 ·intro hA hB;obtain ⟨a0,a64,ao⟩:=AZ hA;obtain ⟨b0,b64,bo⟩:=AZ hB;obtain ⟨r0,rest,ew,e0⟩:=hu.aQ (i:=0) a0;have sE:A[0].length=wd A:=(ao _ (yF a0)).1;rw [hA,hB] at e3;rw [hA] at e1;rw [hB] at e2;have f0:bW [(0:Int),0]=0:=rfl;rw [f0] at e3;constructor
  ·intro dc;unfold aj;rw [aH qO];simp only [go_sem,ya,yb,yD,yp,yh,nU,hu.ak,hv.len,hv.ak,e1,e2,e3,yq,yM,im,e0,ew.len,sE,show ¬(wd A:Int)=(B.length:Nat) by omega,yy,yP]
  ·intro mP K ka kb jT hK;obtain ⟨x,e4,hx⟩:=Yx h.toCk h.sK h.BB hu la (fun r bn=>⟨(ra r bn).1,(ao r bn).2.2.2⟩);obtain ⟨y,e5,hy⟩:=Yx h.toCk h.sK h.BB hv lb (fun r bn=>⟨(rb r bn).1,(bo r bn).2.2.2⟩);have wA:=Ec (M:=A) (fun r bn=>(ao r bn).1);have wB:=Ec (M:=B) (fun r bn=>(bo r bn).1);have lA:=H4 A;have lB:=H4 B;have hWB:=bo _ (yF b0);have aH7:B[0].length=wd B:=hWB.1;have key:=ayW h.toFr' (A:=bF A) (B:=bF B) hx hy (w:=wd B) (by omega) wB (by omega) (by omega) (by rw [lB,<-mP];exact wA) (by omega) (by omega) ka kb jT hK (bF A).length
   have lQ:(dt (bF A) (bF B) (wd B)).length=A.length:=by simp [dt,lA]
   have hQH:∀r,r∈dt (bF A) (bF B) (wd B)->(r.length=wd B/\∀z,z∈r->Hq (2+64*(2*K+1)) z):=fun r bn=>by
    obtain ⟨a,ha,rfl⟩:=xZ.1 bn;have la':=zg wA ha;refine ⟨AK _ _ _,fun z hz=>(ail (Ct ka ha) kb jT z hz).mono ?_⟩
    have:a.length*(2*K+1)<=64*(2*K+1):=yV _ (by omega)
    omega
   have SZ:∃tm ct rows,D P L (mF 5 nU.body) ⟨eh 0 [u,v],[],0,0⟩=some (.normal,⟨tm,oH 0 1 rows [] A.length,ct,0⟩)/\ai tm 9=oV 0 A.length/\cf cT rows (dt (bF A) (bF B) (wd B)):=by
    simp only [go_sem,ya,yb,yD,yp,yh,nU,mF,bt,aC,hu.ak,hv.len,hv.ak,e1,e2,e3,yq,yM,im,e0,ew.len,sE,show (wd A:Int)=(B.length:Nat) by omega,e4,e5,hx.len];generalize hq:D P L (.loop [8,9,37,38,39] Ew) _=q;obtain ⟨ex,st,rfl,tm,ct,rows,rfl,rfl,hR,t9⟩:=bQ hq key ⟨0,[],by simp only [go_sem,ya,ax,au hx.pu,ay _ hx.pu,au hy.pu,ay _ hy.pu,oV,oH,oC]<;>rfl,by omega,trivial⟩
    rw [lA] at t9 ⊢;refine ⟨[(9,oV 0 A.length)],oC 0 A.length,rows,?_,by simp only [go_sem],hR⟩;cases hn:A.length
    all_goals
     rw [hn] at t9;simp only [oV,oH,oC] at t9 ⊢;simp only [go_sem,yb,ax,t9]
   obtain ⟨tm,ct,rows,hS,t9,hR⟩:=SZ;have lr:=hR.len;rw [lQ] at lr;obtain ⟨n,hn⟩:∃n,A.length=n+1:=⟨A.length-1,by omega⟩;rw [hn] at hS t9 lr;have hvR:cg cT (.aA false (n+1) rows) (dt (bF A) (bF B) (wd B)):=by
    have:=AJ false hR
    rwa [lQ,hn] at this
   obtain ⟨g1,g2⟩:=als h.toTx h.Pb h.Pc hvR (by omega) (fun r bn=>by rw [(hQH r bn).1];omega) (fun r bn=>(hQH r bn).2) (by omega);have fI:∀hp:Hp,iX 0 (n+1) (some (false,1,rows,hp))=some (.aA false (n+1) rows,hp):=fun hp=>lC false (by rw [lr,yh]) (by decide)
   have hD:D P L nU.body ⟨eh 0 [u,v],[],0,0⟩=D P L (jv 5 nU.body) ⟨tm,oH 0 1 rows [] (n+1),ct,0⟩:=by
    rw [Ij 5 (c:=nU.body) (by refine ⟨rfl,rfl,rfl,rfl,rfl,?_⟩;show _=_;rfl),hS,fm]
   unfold aj at g1 g2 ⊢;constructor
   ·intro DU;have g:=g1 DU;rw [aH qO,hD];simp only [oV,oH] at t9 ⊢;simp only [go_sem,ya,nU,jv,aC,t9,fI,g,oQ,oN,oO,HG,sR]
   ·intro DU;obtain ⟨z,g,hz⟩:=g2 DU;refine ⟨bH z,?_,by rw [hz.bH];exact hz⟩
    rw [aH qO,hD];simp only [oV,oH] at t9 ⊢;simp only [go_sem,ya,nU,jv,aC,t9,fI,g,oQ,oN,oO,sR];exact hz.ae _ _ _
end
end
section
open Go (IntKind)
def anI {α:Type} {f:α->Int} {l:List α} {i:Nat} (h:i<l.length):bW ((l.drop i).map f)=if f l[i]=0 then bW ((l.drop (i+1)).map f) else f l[i]:=by
 rw [yU h,xc,bW]
end
section
open Go (IntKind)
section
variable {P:aI} {L:Lib}
def a29 (h:Has P L 29 DC) {v w:AV} {l:List (List Nat)} (hv:bZ v l) (hw:bZ w l) (hl:l.length<=1000000):aj P L 29 [v,w] (.bool true):=by
 have key:=fM (P:=P) (L:=L) (live:=[0,1,5]) (a:=I7)
  (I:=fun k st=>∃i:Nat,st=⟨[(0,v),(1,w),(5,ab i)],[],0,0⟩/\i+k=l.length)
  (Q:=fun ex st=>∃tm hp ct,st=⟨tm,hp,ct,0⟩/\ex= .exit 0) ?_
 ·unfold aj;rw [aH h];simp only [go_sem,ya,DC,hv.len,hw.len,yq,yM];generalize hq:D P L (.loop [0,1,5] I7) _=q;obtain ⟨ex,st,rfl,tm,hp,ct,rfl,rfl⟩:=bQ hq (key l.length) ⟨0,by simp only [go_sem,ya,ax,au hv.pu,ay _ hv.pu,au hw.pu,ay _ hw.pu]<;>rfl,by omega⟩
  simp only [go_sem,ax]
 ·rintro k st ⟨i,rfl,hk⟩;by_cases hi:i<l.length
  ·left
   simp only [go_sem,ya,I7,hv.len,show (i:Int)<l.length by omega,hv.aQ hi,hw.aQ hi,rD,QZ,yM];refine ⟨_,k-1,rfl,by omega,i+1,?_,by omega⟩;rw [wrap64 (by omega) (by omega)];simp only [go_sem,ya,ax,au hv.pu,ay _ hv.pu,au hw.pu,ay _ hw.pu]<;>rfl
  ·right
   simp only [go_sem,ya,I7,hv.len,show ¬(i:Int)<l.length by omega];exact ⟨_,_,rfl,by simp,_,_,_,rfl,rfl⟩
end
end
section
open Go (IntKind)
section
variable {P:aI} {L:Lib}
def alt (h:Rm P L) (FN:Has P L 261 Ju) (FO:Has P L 343 Ff) {v:AV} {M:List (List (List Nat))} (hv:cg bZ v M) (hr:∀r,r∈M->∀s,s∈r->s.length<9223372036854775808):aj P L 343 [v] (ab (fj M)):=by
 unfold fj;by_cases h0:M.length=0
 ·rw [yQ h0];unfold aj;rw [aH FO];simp only [go_sem,ya,Ff,hv.len,show (M.length:Int)=0 by omega,yq]
 rw [yB h0];by_cases DP:64<M.length
 ·rw [yQ DP];unfold aj;rw [aH FO];simp only [go_sem,ya,Ff,hv.len,show ¬(M.length:Int)=0 by omega,show (64:Int)<M.length by omega,yq,yy]
 rw [yB DP];obtain ⟨r0,aAu,ew,e0⟩:=hv.aQ (i:=0) (by omega);rw [Je (by omega)];have key:=fM (P:=P) (L:=L) (live:=[0,3]) (a:=zn)
  (I:=fun k st=>∃i:Nat,st=⟨[(0,v),(3,ab i)],[],0,0⟩/\i+k=M.length/\bW ((M.drop i).map (mT M[0].length))=bW (M.map (mT M[0].length)))
  (Q:=fun ex st=>∃tm hp ct,st=⟨tm,hp,ct,0⟩/\((ex= .ret/\ai tm 2=ab (bW (M.map (mT M[0].length))))\/(ex= .exit 0/\bW (M.map (mT M[0].length))=0))) ?_
 ·unfold aj;rw [aH FO];simp only [go_sem,ya,Ff,hv.len,show ¬(M.length:Int)=0 by omega,show ¬(64:Int)<M.length by omega,yy];generalize hq:D P L (.loop [0,3] zn) _=q;obtain ⟨ex,st,rfl,tm,hp,ct,rfl,h2⟩:=bQ hq (key M.length) ⟨0,by simp only [go_sem,ya,ax,au hv.pu,ay _ hv.pu]<;>rfl,by omega,by simp⟩
  rcases h2 with ⟨rfl,h2⟩ | ⟨rfl,h2⟩
  ·simp only [go_sem,h2]
  ·rw [h2];simp only [go_sem,ax]
 ·rintro k st ⟨i,rfl,hk,hf⟩;by_cases hi:i<M.length
  ·obtain ⟨r,rest,cW,e1⟩:=hv.aQ hi;have hm:=hr _ (yF hi);rw [anI hi] at hf;have w3:IntKind.wrap .i64 ((i:Int)+1)=((i+1:Nat):Int):=wrap64 (by omega) (by omega);by_cases c1:M[i].length=0
   ·right
    have hE:mT M[0].length M[i]=12:=by unfold mT;rw [yQ c1];rfl
    rw [hE,yB (by decide)] at hf;simp only [go_sem,ya,zn,hv.len,show (i:Int)<M.length by omega,e1,cW.len,show (M[i].length:Int)=0 by omega,yq];exact ⟨_,_,rfl,by simp,_,_,_,rfl,.inl ⟨rfl,by rw [<-hf];simp only [go_sem]⟩⟩
   by_cases c2:64<M[i].length
   ·right
    have hE:mT M[0].length M[i]=5:=by unfold mT;rw [yB c1,yQ c2];rfl
    rw [hE,yB (by decide)] at hf;simp only [go_sem,ya,zn,hv.len,show (i:Int)<M.length by omega,e1,cW.len,show ¬(M[i].length:Int)=0 by omega,show (64:Int)<(M[i].length:Nat) by omega,yq,yy];exact ⟨_,_,rfl,by simp,_,_,_,rfl,.inl ⟨rfl,by rw [<-hf];simp only [go_sem]⟩⟩
   have e2:=aAq h FN cW (by omega) hm;unfold aj at e2;by_cases c3:M[i].length=M[0].length
   ·have jb:decide ((M[i].length:Int)=(M[0].length:Nat))=true:=xo (by omega);have hE:mT M[0].length M[i]=bW (M[i].map cm):=by
     unfold mT;rw [yB c1,yB c2,yQ c3];show bW [0,0,0,bW (M[i].map cm)]=_
     generalize bW (M[i].map cm)=q;by_cases h:q=0<;>simp [bW,h]
    rw [hE] at hf;by_cases c4:bW (M[i].map cm)=0
    ·left
     rw [yQ c4] at hf;rw [c4] at e2;simp only [go_sem,ya,zn,hv.len,show (i:Int)<M.length by omega,e1,cW.len,cW.ak,show ¬(M[i].length:Int)=0 by omega,show ¬(64:Int)<(M[i].length:Nat) by omega,yq,yy,im,e0,ew.len,jb,yM,e2];refine ⟨_,k-1,rfl,by omega,i+1,?_,by omega,hf⟩;rw [w3];simp only [go_sem,ya,ax,au hv.pu,ay _ hv.pu]<;>rfl
    ·right
     rw [yB c4] at hf;simp only [go_sem,ya,zn,hv.len,show (i:Int)<M.length by omega,e1,cW.len,cW.ak,show ¬(M[i].length:Int)=0 by omega,show ¬(64:Int)<(M[i].length:Nat) by omega,yq,yy,im,e0,ew.len,jb,yM,e2,c4,yP];exact ⟨_,_,rfl,by simp,_,_,_,rfl,.inl ⟨rfl,by rw [<-hf];simp only [go_sem]⟩⟩
   ·right
    have hE:mT M[0].length M[i]=2:=by unfold mT;rw [yB c1,yB c2,yB c3];rfl
    rw [hE,yB (by decide)] at hf;simp only [go_sem,ya,zn,hv.len,show (i:Int)<M.length by omega,e1,cW.len,show ¬(M[i].length:Int)=0 by omega,show ¬(64:Int)<(M[i].length:Nat) by omega,yq,yy,im,e0,ew.len,show ¬(M[i].length:Int)=(M[0].length:Nat) by omega,yP];exact ⟨_,_,rfl,by simp,_,_,_,rfl,.inl ⟨rfl,by rw [<-hf];simp only [go_sem]⟩⟩
  ·right
   simp only [go_sem,ya,zn,hv.len,show ¬(i:Int)<M.length by omega];refine ⟨_,_,rfl,by simp,_,_,_,rfl,.inr ⟨rfl,?_⟩⟩;rw [<-hf,xe (by omega)];rfl
def iZ (a b:List Rat):Nat->Rat
 | 0=>0
 | k+1=>iZ a b k+cC a k*cC b k
def aim {a b:List Rat} {K J:Nat} (ha:∀x,x∈a->Hq K x) (hb:∀x,x∈b->Hq J x) (hK:2<=K) (hJ:2<=J):∀k,Hq (2+k*(K+J+1)) (iZ a b k)
 | 0=>O9.mono (by omega)
 | k+1=>by
  have:=(aim ha hb hK hJ k).add ((Np (c:=k) ha hK).mul (Np (c:=k) hb hJ))
  refine this.mono ?_
  grind
def aCF (h:Rn P L) (Kk:Has P L 352 JE) {u v:AV} {a b:List Rat} (hu:bZ u (a.map RT)) (hv:bZ v (b.map RT)) (hl:a.length=b.length) (hn:a.length<=1000) {K J:Nat} (ka:∀x,x∈a->Hq K x) (kb:∀x,x∈b->Hq J x) (jT:2<=K) (hJ2:2<=J) (hK:K+J<=4000000):aj P L 352 [u,v] (.str (RT (iZ a b a.length))):=by
 have key:=fM (P:=P) (L:=L) (live:=[0,1,5,6]) (a:=IM)
  (I:=fun k st=>∃i:Nat,st=⟨[(0,u),(1,v),(5,.str (RT (iZ a b i))),(6,ab i)],[],0,0⟩/\i+k=a.length)
  (Q:=fun ex st=>∃tm hp ct,st=⟨tm,hp,ct,0⟩/\ex= .exit 0/\ai tm 5= .str (RT (iZ a b a.length))) ?_
 ·unfold aj;rw [aH Kk];simp only [go_sem,JE];generalize hq:D P L (.loop [0,1,5,6] IM) _=q;obtain ⟨ex,st,rfl,tm,hp,ct,rfl,rfl,t5⟩:=bQ hq (key a.length) ⟨0,by rw [iZ,aCs];simp only [go_sem,ya,ax,au hu.pu,ay _ hu.pu,au hv.pu,ay _ hv.pu]<;>rfl,by omega⟩
  simp only [go_sem,ax,t5]
 ·rintro k st ⟨i,rfl,hk⟩;have lu:∀hp:Hp,fP hp 1 u=some (ab a.length):=fun hp=>by have:=hu.len (hp:=hp);rwa [yt] at this
  by_cases hi:i<a.length
  ·left
   have e1:=hu.aQ (i:=i) (by rw [yt];exact hi)
   have e2:=hv.aQ (i:=i) (by rw [yt];omega);rw [wu] at e1 e2;have k1:=ka _ (yF hi);have k2:=kb _ (yF (show i<b.length by omega));have e3:=aAo h k1 k2 (by omega);have kp:=aim ka kb jT hJ2 i;have hb:i*(K+J+1)<=1000*(4000000+1):=wZ (by omega) (by omega);have e4:=aAp h.toRp kp (k1.mul k2) (by omega);have hs:iZ a b (i+1)=iZ a b i+a[i]*b[i]'(by omega):=by rw [iZ,ir hi,ir (show i<b.length by omega)]
   rw [<-hs] at e4;have w3:IntKind.wrap .i64 ((i:Int)+1)=((i+1:Nat):Int):=wrap64 (by omega) (by omega);simp only [go_sem,ya,IM,lu,show (i:Int)<a.length by omega,e1,e2,e3,e4];refine ⟨_,k-1,rfl,by omega,i+1,?_,by omega⟩;rw [w3];simp only [go_sem,ya,ax,au hu.pu,ay _ hu.pu,au hv.pu,ay _ hv.pu]<;>rfl
  ·right
   have:i=a.length:=by omega
   subst this;simp only [go_sem,ya,IM,lu,show ¬(a.length:Int)<a.length by omega];exact ⟨_,_,rfl,by simp,_,_,_,rfl,rfl,by simp only [go_sem,ya]⟩
end
end
section
open Go (IntKind)
section
variable {P:aI} {L:Lib}
def agS {A:List (List (List Nat))} (h:∀r,r∈A->∀s,s∈r->cm s=0):(bF A).map (xH RT)=A:=by
 unfold bF;rw [vE]
 have:∀r,r∈A->(xH RT∘xH bK) r=r:=fun r hr=>by
  simp only [Function.comp,vE]
  have:∀s,s∈r->(RT∘bK) s=s:=fun s hs=>(Ea (h r hr s hs)).1.symm
  rw [wW this];exact uY r
 rw [wW this];exact uY A
end
end
section
open Go (IntKind)
def abo (id:Nat) (o:Obj) (j:Nat):∀hp:Hp,aq (bc hp id o) j=if j=id then (aq hp id).map (fun _=>o) else aq hp j
 | []=>by by_cases h:j=id<;>simp [bc,aq,h]
 | (i,u)::r=>by
  have ih:=abo id o j r;by_cases h1:i=id
  ·subst h1;rw [acW];by_cases h2:j=i
   ·subst h2;rw [yQ rfl,jn,jn];rfl
   ·rw [yB h2,fL _ _ (fun e=>h2 e.symm),fL _ _ (fun e=>h2 e.symm)]
  ·rw [ab0 _ _ _ h1];by_cases h2:j=i
   ·subst h2;rw [yB h1,jn,jn]
   ·rw [fL _ _ (fun e=>h2 e.symm),ih,fL _ _ h1,fL _ _ (fun e=>h2 e.symm)]
def asJ {hp:Hp} {id:Nat} {u:Obj} (h:aq hp id=some u) (o:Obj) (j:Nat):aq (bc hp id o) j=if j=id then some o else aq hp j:=by
 rw [abo,h];rfl
def LK (id j:Nat):∀hp:Hp,aq (dP hp id) j=if j=id then none else aq hp j
 | []=>by split<;>rfl
 | (i,u)::r=>by
  have ih:=LK id j r;by_cases h1:i=id
  ·subst h1;rw [acX,ih];by_cases h2:j=i
   ·rw [yQ h2,yQ h2]
   ·rw [yB h2,yB h2,fL _ _ (fun e=>h2 e.symm)]
  ·rw [ab1 _ _ h1];by_cases h2:j=i
   ·subst h2;rw [yB h1,jn,jn]
   ·rw [fL _ _ (fun e=>h2 e.symm),ih,fL _ _ (fun e=>h2 e.symm)]
def adv (i:Nat):∀l:List Nat,jy i l=true↔i∈l
 | []=>by simp [jy]
 | j::r=>by
  by_cases h:j=i
  ·subst h;simp [ac2]
  ·rw [ab5 _ h,adv i r];simp [show ¬i=j from fun e=>h e.symm]
def asK {i:Nat} {l:List Nat} (h:i∉l):jy i l=false:=by
 cases hq:jy i l with
 | false=>rfl
 | true=>exact absurd ((adv i l).1 hq) h
def agT (hp:Hp):∀(ids seen fB:List Nat) (n:Nat),ids.length<n->(∀i,i∈ids->∃o,aq hp i=some o/\kF o=[])->ids.Nodup->(∀i,i∈ids->i∉seen)->mQ hp n (ids++fB) seen=mQ hp (n-ids.length) fB (seen++ids)
 | [],seen,fB,n,_,_,_,_=>by simp
 | i::ids,seen,fB,0,h,_,_,_=>by simp at h
 | i::ids,seen,fB,n+1,h,h1,h2,h3=>by
  obtain ⟨o,g,e⟩:=h1 i wN;have hn:=vH.1 h2
  rw [xm,Rv,asK (h3 i wN),So,g,Sp,e,xG,agT hp ids (seen++[i]) fB n (by simpa using h) (fun j hj=>h1 j (xW _ hj)) hn.2 (fun j hj hm=>by
   rcases wj.1 hm with hm | hm
   ·exact h3 j (xW _ hj) hm
   ·simp only [xF] at hm
    subst hm;exact hn.1 hj)]
  simp only [yz,xq,xm,xG];rw [show n+1-(ids.length+1)=n-ids.length by omega]
def au0 (hp:Hp) {n:Nat} (h:0<n) (seen:List Nat):mQ hp n [] seen=seen:=by
 obtain ⟨m,rfl⟩:∃m,n=m+1:=⟨n-1,by omega⟩;exact agE hp m seen
def RD (hp:Hp) (f:Nat->Option Nat):∀(seen:List Nat) (k:Nat) (acc:Hp) (j:Nat),j<k->aq (gG hp f seen k acc) j=aq acc j
 | [],k,acc,j,_=>rfl
 | id::r,k,acc,j,h=>by
  rw [gG]
  cases aq hp id with
  | none=>exact RD hp f r (k+1) acc j (by omega)
  | some o=>
   simp only;rw [RD hp f r (k+1) _ j (by omega),fL _ _ (by omega)]
def abp (hp:Hp) (f:Nat->Option Nat):∀(seen:List Nat) (k:Nat) (acc:Hp) (j:Nat) (h:j<seen.length) (o:Obj),aq hp seen[j]=some o->aq (gG hp f seen k acc) (k+j)=some (jx f o)
 | id::r,k,acc,0,_,o,ho=>by
  simp only [xS] at ho;rw [gG];simp only [ho];show aq (gG hp f r (k+1) ((k,jx f o)::acc)) k=_
  rw [RD hp f r (k+1) _ k (by omega),jn]
 | id::r,k,acc,j+1,h,o,ho=>by
  simp only [vd] at ho
  have:=fun zG=>abp hp f r (k+1) zG j (by simpa using h) o ho
  rw [gG,show k+(j+1)=k+1+j by omega]
  cases aq hp id with
  | none=>exact this _
  | some u=>exact this _
def MM:∀(seen:List Nat) (k j:Nat) (h:j<seen.length),seen.Nodup->hX seen[j] seen k=some (k+j)
 | s::r,k,0,_,_=>by simp only [xS,y8];exact agG s r k
 | s::r,k,j+1,h,hn=>by
  have hn:=vH.1 hn;have hj:j<r.length:=by simpa using h
  simp only [vd];rw [ac3 _ _ (fun e=>hn.1 (by rw [e];exact yF hj)),MM r (k+1) j hj hn.2]
  congr 1;omega
def anJ {live:List Nat} {tm:Env} {hp:Hp} {ct:Nat} {seen:List Nat} (hr:mQ hp 100000 (gF (da tm live)) []=seen):
  ∃ap,aS live ⟨tm,hp,ct,0⟩=⟨iT (pos seen) (da tm live),ap,seen.length,0⟩/\∀j (h:j<seen.length) o,aq hp seen[j]=some o->aq ap j=some (jx (pos seen) o):=by
 refine ⟨gG hp (pos seen) seen 0 [],by rw [ax,hr,agH],fun j h o ho=>?_⟩
 have:=abp hp (pos seen) seen 0 [] j h o ho
 rwa [yf] at this
end
section
open Go (IntKind)
def cr (r:List Rat):List AV:=r.map fun x=> .str (RT x)
def ain (r:List Rat):(cr r).length=r.length:=yt _
def ayX (e:Bool) (r:List Rat):bZ (.aA e r.length (cr r)) (r.map RT):=by
 have:=MK e (r.map RT)
 rw [yt,vE] at this;exact this
def gK (a:Nat) (ids pl:List Nat):List Nat:=a::(ids++pl)
end
section
structure Rxi (P:aI) (L:Lib):Prop extends Rn P L,Rl P L where
 aH8:Has P L 283 ajw
end
section
open Go (IntKind)
section
variable {P:aI} {L:Lib}
def aCG (K8:Has P L 28 F8) (Ho:Has P L 29 DC) {u w:AV} {M:List (List (List Nat))} (hu:cg bZ u M) (hw:cg bZ w M) (hl:M.length<=1000000) (hm:∀r,r∈M->r.length<=1000000):aj P L 28 [u,w] (.bool true):=by
 have key:=fM (P:=P) (L:=L) (live:=[0,1,5]) (a:=I6)
  (I:=fun k st=>∃i:Nat,i+k=M.length/\st=⟨[(0,u),(1,w),(5,ab i)],[],0,0⟩)
  (Q:=fun ex st=>∃tm hp ct,st=⟨tm,hp,ct,0⟩/\ex= .exit 0) ?_
 ·unfold aj;rw [aH K8];simp only [go_sem,ya,F8,hu.len,hw.len,yq,yM];generalize bL:D P L (.loop [0,1,5] I6) _=q;obtain ⟨ex,st,rfl,tm,hp,ct,rfl,rfl⟩:=bQ bL (key M.length) ⟨0,by omega,by simp only [go_sem,ya,ax,au hu.pu,ay _ hu.pu,au hw.pu,ay _ hw.pu]<;>rfl⟩
  simp only [go_sem,ax]
 ·rintro k st ⟨i,hk,rfl⟩;by_cases hi:i<M.length
  ·left
   obtain ⟨r,rest,r1,v1⟩:=hu.aQ hi;obtain ⟨r',Nq,r2,v2⟩:=hw.aQ hi;have e1:=a29 Ho r1 r2 (hm _ (yF hi));unfold aj at e1;simp only [go_sem,ya,I6,hu.len,show (i:Int)<M.length by omega,v1,v2,r1.ak,r2.ak,e1,yM];refine ⟨_,k-1,rfl,by omega,i+1,by omega,?_⟩;rw [wrap64 (by omega) (by omega)];simp only [go_sem,ya,ax,au hu.pu,ay _ hu.pu,au hw.pu,ay _ hw.pu]<;>rfl
  ·right
   simp only [go_sem,ya,I6,hu.len,show ¬(i:Int)<M.length by omega];exact ⟨_,_,rfl,by simp,_,_,_,rfl,rfl⟩
end
end
section
open Go (IntKind)
abbrev E0:Ty:= .sl .str
def Nr (s:List Nat):Prop:=s.length<9223372036854775808
def ack:∀{ps:List (List AV)},(∀p,p∈ps->mS .str p)->∃l:List (List Nat),l.length=ps.length/\ps.flatten=l.map AV.str/\∀s,s∈l->Nr s
 | [],_=>⟨[],rfl,rfl,fun _ h=>by cases h⟩
 | p::ps,h=>by
  obtain ⟨s,rfl,hs,_⟩:=h p wN;obtain ⟨l,h1,h2,h3⟩:=ack (ps:=ps) (fun q hq=>h q (xW _ hq))
  exact ⟨s::l,by simp [h1],by simp [h2],fun q hq=>by
   rcases wE.1 hq with rfl | hq
   ·exact hs
   ·exact h3 q hq⟩
def adw {l:List AV} (h:mS E0 l):∃(v:AV) (m:List (List Nat)),l=[v]/\bZ v m/\∀s,s∈m->Nr s:=by
 rcases h with rfl | ⟨x,ps,rfl,h⟩
 ·exact ⟨_,[],rfl,rq,fun _ h=>by cases h⟩
 ·obtain ⟨m,h1,h2,h3⟩:=ack h;refine ⟨_,m,rfl,?_,h3⟩;rw [h2,<-h1];exact MK x m
def adx:∀{ps:List (List AV)},(∀p,p∈ps->mS E0 p)->∃M:List (List (List Nat)),M.length=ps.length/\cf bZ ps.flatten M/\∀r,r∈M->∀s,s∈r->Nr s
 | [],_=>⟨[],rfl,trivial,fun _ h=>by cases h⟩
 | p::ps,h=>by
  obtain ⟨v,m,rfl,hv,hm⟩:=adw (h p wN);obtain ⟨M,h1,h2,h3⟩:=adx (ps:=ps) (fun q hq=>h q (xW _ hq))
  exact ⟨m::M,by simp [h1],⟨hv,h2⟩,fun q hq=>by
   rcases wE.1 hq with rfl | hq
   ·exact hm
   ·exact h3 q hq⟩
def agU {l:List AV} (h:mS (.sl E0) l):∃(v:AV) (M:List (List (List Nat))),l=[v]/\cg bZ v M/\∀r,r∈M->∀s,s∈r->Nr s:=by
 rcases h with rfl | ⟨x,ps,rfl,h⟩
 ·exact ⟨_,[],rfl,Q0,fun _ h=>by cases h⟩
 ·obtain ⟨M,h1,h2,h3⟩:=adx h;refine ⟨_,M,rfl,?_,h3⟩;rw [<-h1];exact AJ x h2
end
section
def sm (f:Nat->Rat):Nat->Rat
 | 0=>0
 | n+1=>sm f n+f n
def qj {f g:Nat->Rat}:∀{n:Nat},(∀i,i<n->f i=g i)->sm f n=sm g n
 | 0,_=>rfl
 | n+1,h=>by rw [sm,sm,qj (n:=n) (fun i hi=>h i (by omega)),h n (by omega)]
def Ek {f:Nat->Rat}:∀{n:Nat},(∀i,i<n->f i=0)->sm f n=0
 | 0,_=>rfl
 | n+1,h=>by rw [sm,Ek (n:=n) (fun i hi=>h i (by omega)),h n (by omega)];grind
def SC (f g:Nat->Rat):∀n,sm (fun i=>f i+g i) n=sm f n+sm g n
 | 0=>by simp only [sm];grind
 | n+1=>by simp only [sm];rw [SC f g n];grind
def EO (a:Rat) (f:Nat->Rat):∀n,sm (fun i=>a*f i) n=a*sm f n
 | 0=>by simp only [sm];grind
 | n+1=>by simp only [sm];rw [EO a f n];grind
def R8 (f:Nat->Nat->Rat) (m:Nat):∀n,sm (fun i=>sm (fun j=>f i j) m) n=sm (fun j=>sm (fun i=>f i j) n) m
 | 0=>(Ek (f:=fun j=>sm (fun i=>f i j) 0) (n:=m) (fun i _=>rfl)).symm
 | n+1=>by
  simp only [sm];rw [R8 f m n,<-SC]
def aio {f:Nat->Rat} {n j:Nat} (hj:j<n) (h:∀i,i<n->i≠j->f i=0):sm f n=f j:=by
 induction n with
 | zero=>omega
 | succ n ih=>
  rw [sm];by_cases Ll:j=n
  ·subst Ll;rw [Ek (fun i hi=>h i (by omega) (by omega))];grind
  ·rw [ih (by omega) (fun i hi=>h i (by omega)),h n (by omega) (fun e=>Ll e.symm)];grind
def E (m:Mx) (i c:Nat):Rat:=cC (gR m i) c
def eQ (r:Nat) (g:Nat->Nat->Rat) (w:Nat) (v:Nat->Rat):Prop:=∃x:Nat->Rat,∀k,k<w->v k=sm (fun j=>x j*g j k) r
section
variable {r w:Nat} {g:Nat->Nat->Rat} {u v:Nat->Rat}
def eQ.congr (h:eQ r g w u) (e:∀k,k<w->v k=u k):eQ r g w v:=by
 obtain ⟨x,hx⟩:=h;exact ⟨x,fun k hk=>by rw [e k hk,hx k hk]⟩
def eQ.zero:eQ r g w (fun _=>0):=⟨fun _=>0,fun k _=>by rw [Ek (fun i _=>by grind)]⟩
def eQ.add (h:eQ r g w u) (h2:eQ r g w v):eQ r g w (fun k=>u k+v k):=by
 obtain ⟨x,hx⟩:=h;obtain ⟨y,hy⟩:=h2;refine ⟨fun j=>x j+y j,fun k hk=>?_⟩;show u k+v k=sm (fun j=>(x j+y j)*g j k) r
 rw [hx k hk,hy k hk,<-SC];exact qj (fun i _=>by grind)
def eQ.mul (a:Rat) (h:eQ r g w u):eQ r g w (fun k=>a*u k):=by
 obtain ⟨x,hx⟩:=h;refine ⟨fun j=>a*x j,fun k hk=>?_⟩;show a*u k=sm (fun j=>(a*x j)*g j k) r
 rw [hx k hk,<-EO];exact qj (fun i _=>by grind)
def eQ.row {j:Nat} (hj:j<r):eQ r g w (g j):=by
 refine ⟨fun i=>if i=j then 1 else 0,fun k _=>?_⟩;show g j k=sm (fun i=>(if i=j then 1 else 0)*g i k) r
 rw [aio hj (fun i _ hi=>by rw [yB hi];grind),yQ rfl];grind
def eQ.sum {s:Nat} {h:Nat->Nat->Rat} {x:Nat->Rat} (hs:∀i,i<s->eQ r g w (h i)):eQ r g w (fun k=>sm (fun i=>x i*h i k) s):=by
 induction s with
 | zero=>exact eQ.zero
 | succ s ih=>
  simp only [sm];exact (ih (fun i hi=>hs i (by omega))).add ((hs s (by omega)).mul (x s))
def eQ.trans {s:Nat} {h:Nat->Nat->Rat} (hv:eQ s h w v) (hs:∀i,i<s->eQ r g w (h i)):eQ r g w v:=by
 obtain ⟨x,hx⟩:=hv
 exact (eQ.sum (x:=x) hs).congr hx
def eQ.dot (h:eQ r g w v) {z:Nat->Rat} (hz:∀j,j<r->sm (fun k=>g j k*z k) w=0):sm (fun k=>v k*z k) w=0:=by
 obtain ⟨x,hx⟩:=h;have e:sm (fun k=>v k*z k) w=sm (fun k=>sm (fun j=>x j*(g j k*z k)) r) w:=qj (fun k hk=>by
  rw [hx k hk]
  have:=EO (z k) (fun j=>x j*g j k) r
  rw [show sm (fun j=>x j*g j k) r*z k=z k*sm (fun j=>x j*g j k) r by grind,<-this]
  exact qj (fun i _=>by grind))
 rw [e,R8];refine Ek (fun j hj=>?_);rw [EO,hz j hj];grind
end
def au1 {m:Mx} {w c:Nat} {s:Mx×List Nat} (h:Pv m w c s) (hc:c<w) (hp:bC s c<s.1.length) {i k:Nat} (hi:i<s.1.length) (hk:k<w):
  E (il s c).1 i k=if i=s.2.length then E (cO s.1 s.2.length (bC s c)) i k*(E (cO s.1 s.2.length (bC s c)) s.2.length c)⁻¹ else E (cO s.1 s.2.length (bC s c)) i k-E (cO s.1 s.2.length (bC s c)) i c*(E (cO s.1 s.2.length (bC s c)) s.2.length k*(E (cO s.1 s.2.length (bC s c)) s.2.length c)⁻¹):=by
 have h1:=(h.bC c).1;have kw:=h.wid.cO (i:=s.2.length) (j:=bC s c) (by omega) hp;have lsw:=AI s.1 s.2.length (bC s c);have gU:=h.eP hp;have lsp:=ze s c;have wi:=kw i (by omega);have wa:=kw s.2.length (by omega);have ea:∀k,k<w->E (eP s c) s.2.length k=E (cO s.1 s.2.length (bC s c)) s.2.length k*(E (cO s.1 s.2.length (bC s c)) s.2.length c)⁻¹:=fun k hk=>by
  unfold E eP oJ;rw [qB,yQ ⟨rfl,by omega⟩,ir (by rw [Ej rfl];omega),ML (by omega) (by omega),ir (show k<_ by omega)]
  grind
 have ei:i≠s.2.length->gR (eP s c) i=gR (cO s.1 s.2.length (bC s c)) i:=fun dc=>by
  unfold eP oJ;rw [qB,yB (fun q=>dc q.1.symm)]
 unfold il;rw [yQ hp];show cC (gR (eH (eP s c) s.2.length c s.1.length) i) k=_
 rw [R7 (by omega)];by_cases mb:i=s.2.length
 ·rw [yB (fun q=>q.2.1 mb),yQ mb,mb];exact ea k hk
 ·rw [yB mb];have wsi:=gU i (by omega);have wsa:=gU s.2.length (by omega);by_cases hz:cC (gR (eP s c) i) c≠0
  ·rw [yQ ⟨hi,mb,hz⟩,ir (by rw [Ej (by omega)];omega),ML (by omega) (by omega) _];have e2:=ea k hk;unfold E at e2 ⊢;rw [ir (show k<(gR (eP s c) s.2.length).length by omega)] at e2;rw [e2];have e3:=ei mb;simp only [e3];rw [ir (show k<(gR (cO s.1 s.2.length (bC s c)) i).length by omega)]
   grind
  ·rw [yB (fun q=>hz q.2.2)];have eY:cC (gR (eP s c) i) c=0:=by simpa using hz
   rw [ei mb] at eY ⊢;unfold E;rw [eY];grind
end
section
structure BD (m:Mx) (w c:Nat) (s:Mx×List Nat):Prop where
 pv:Pv m w c s
 up:∀i,i<m.length->eQ m.length (E m) w (E s.1 i)
 down:∀i,i<m.length->eQ m.length (E s.1) w (E m i)
 one:∀i (h:i<s.2.length),∀j,j<m.length->E s.1 j (s.2[i])=if j=i then 1 else 0
 low:∀i,s.2.length<=i->i<m.length->∀k,k<c->E s.1 i k=0
 left:∀i (h:i<s.2.length),∀k,k<s.2[i]->E s.1 i k=0
 inc:∀i j (hi:i<s.2.length) (hj:j<s.2.length),i<j->s.2[i]<s.2[j]
def aAv {m:Mx} {a p i k:Nat} (ha:a<m.length) (hp:p<m.length) (hi:i<m.length):E (cO m a p) i k=if i=p then E m a k else if i=a then E m p k else E m i k:=by
 unfold E cO;rw [qB,qB];simp only [List.length_set];by_cases h1:i=p
 ·subst h1;simp [hi]
 ·rw [yB (fun q=>h1 q.1.symm),yB h1];by_cases h2:i=a
  ·subst h2;simp [hi]
  ·rw [yB (fun q=>h2 q.1.symm),yB h2]
def BD.step {m:Mx} {w c:Nat} {s:Mx×List Nat} (h:BD m w c s) (hc:c<w):BD m w (c+1) (il s c):=by
 have hl:=h.pv.len;have ic:=h.pv.bC c;by_cases hp:bC s c<s.1.length
 ·have gQ:(il s c).2=s.2++[c]:=by unfold il;rw [yQ hp]
  have ha:s.2.length<s.1.length:=by omega
  have hS:∀i k,i<m.length->E (cO s.1 s.2.length (bC s c)) i k=if i=bC s c then E s.1 s.2.length k else if i=s.2.length then E s.1 (bC s c) k else E s.1 i k:=fun i k hi=>aAv ha hp (by omega)
  have dc:E (cO s.1 s.2.length (bC s c)) s.2.length c≠0:=by
   have:=R6 s.1 c (s.1.length-s.2.length) s.2.length (by unfold bC at hp;omega)
   rw [hS _ _ (by omega)];unfold bC
   split
   ·rename_i q;rw [<-q] at this;exact this
   ·rw [yQ rfl];exact this
  have hg:=fun (i k:Nat) (hi:i<m.length) (hk:k<w)=>au1 h.pv hc hp (i:=i) (k:=k) (by omega) hk
  have Kl:∀i,s.2.length<=i->i<m.length->∀k,k<c->E (cO s.1 s.2.length (bC s c)) i k=0:=fun i hi sN k hk=>by
   rw [hS i k sN]
   split
   ·exact h.low _ (yr _) (by omega) k hk
   ·split
    ·exact h.low _ ic.1 (by omega) k hk
    ·exact h.low i hi sN k hk
  have aAw:∀i,i<s.2.length->∀k,E (cO s.1 s.2.length (bC s c)) i k=E s.1 i k:=fun i hi k=>by
   rw [hS i k (by omega),yB (by omega),yB (by omega)]
  have P9:∀i (hi:i<s.2.length),s.2[i]<c:=fun i hi=>h.pv.lt _ (yF hi)
  refine ⟨h.pv.step,fun i hi=>?_,fun i hi=>?_,fun i hi j hj=>?_,fun i hi sN k hk=>?_,fun i hi k hk=>?_,fun i j hi hj Dt=>?_⟩
  ·
   have ff:∀j,j<m.length->eQ m.length (E m) w (E (cO s.1 s.2.length (bC s c)) j):=fun j hj=>by
    by_cases q1:j=bC s c
    ·exact (h.up _ (show s.2.length<m.length by omega)).congr (fun k _=>by rw [hS j k hj,yQ q1])
    ·by_cases q2:j=s.2.length
     ·exact (h.up _ (show bC s c<m.length by omega)).congr (fun k _=>by rw [hS j k hj,yB q1,yQ q2])
     ·exact (h.up j hj).congr (fun k _=>by rw [hS j k hj,yB q1,yB q2])
   by_cases mb:i=s.2.length
   ·refine ((ff i hi).mul (E (cO s.1 s.2.length (bC s c)) s.2.length c)⁻¹).congr (fun k hk=>?_);rw [hg i k hi hk,yQ mb];grind
   ·refine ((ff i hi).add ((ff s.2.length (by omega)).mul (-(E (cO s.1 s.2.length (bC s c)) i c)*(E (cO s.1 s.2.length (bC s c)) s.2.length c)⁻¹))).congr (fun k hk=>?_);rw [hg i k hi hk,yB mb];grind
  ·
   have S3:∀j,j<m.length->eQ m.length (E (il s c).1) w (E (cO s.1 s.2.length (bC s c)) j):=fun j hj=>by
    have ra:=eQ.row (r:=m.length) (g:=E (il s c).1) (w:=w) (show s.2.length<m.length by omega);have rj:=eQ.row (r:=m.length) (g:=E (il s c).1) (w:=w) hj;by_cases oM:j=s.2.length
    ·refine (ra.mul (E (cO s.1 s.2.length (bC s c)) s.2.length c)).congr (fun k hk=>?_);rw [hg _ k (by omega) hk,yQ rfl,oM]
     have:=uX _ dc
     grind
    ·refine (rj.add (ra.mul (E (cO s.1 s.2.length (bC s c)) j c))).congr (fun k hk=>?_);rw [hg j k hj hk,yB oM,hg _ k (by omega) hk,yQ rfl];grind
   refine (h.down i hi).trans (fun j hj=>?_);by_cases q1:j=s.2.length
   ·refine (S3 (bC s c) (by omega)).congr (fun k _=>?_);rw [hS _ k (by omega),yQ rfl,q1]
   ·by_cases q2:j=bC s c
    ·refine (S3 s.2.length (by omega)).congr (fun k _=>?_);rw [hS _ k (by omega),yB (fun e=>q1 (by omega)),yQ rfl,q2]
    ·refine (S3 j hj).congr (fun k _=>?_);rw [hS j k hj,yB q2,yB q1]
  ·
   have kY:=uX _ dc;simp only [gQ,yL,yz,yO] at hi ⊢;by_cases et:i<s.2.length
   ·rw [xT et];have hpw:s.2[i]<w:=by have:=P9 i et;omega
    have ha0:E (cO s.1 s.2.length (bC s c)) s.2.length (s.2[i])=0:=Kl _ (yr _) (by omega) _ (P9 i et);rw [hg j _ hj hpw];by_cases oM:j=s.2.length
    ·rw [yQ oM,oM,ha0,yB (by omega)];grind
    ·rw [yB oM,ha0];have er:=h.one i et;rw [hS j _ hj];by_cases q1:j=bC s c
     ·rw [yQ q1,er _ (by omega),yB (by omega),yB (by omega)];grind
     ·rw [yB q1,yB oM,er j hj];grind
   ·have:i=s.2.length:=by omega
    subst this;rw [wm (yr _)];simp only [ybA,xS];rw [hg j c hj hc];by_cases oM:j=s.2.length
    ·rw [yQ oM,yQ oM,oM];exact kY
    ·rw [yB oM,yB oM,kY];grind
  ·
   simp only [gQ,yL,yz,yO] at hi;have kY:=uX _ dc;rw [hg i k sN (by omega),yB (by omega)];by_cases mN:k=c
   ·subst mN;rw [kY];grind
   ·rw [Kl i (by omega) sN k (by omega),Kl s.2.length (yr _) (by omega) k (by omega)];grind
  ·
   simp only [gQ,yL,yz,yO] at hi;simp only [gQ] at hk;by_cases et:i<s.2.length
   ·rw [xT et] at hk;have mN:k<c:=by have:=P9 i et;omega
    rw [hg i k (by omega) (by omega),yB (by omega),Kl s.2.length (yr _) (by omega) k mN,aAw i et k,h.left i et k hk];grind
   ·have:i=s.2.length:=by omega
    subst this;rw [wm (yr _)] at hk;simp only [ybA,xS] at hk;rw [hg _ k (by omega) (by omega),yQ rfl,Kl _ (yr _) (by omega) k hk];grind
  ·
   simp only [gQ,yL,yz,yO] at hi hj ⊢;rw [xT (show i<s.2.length by omega)];by_cases Ll:j<s.2.length
   ·rw [xT Ll];exact h.inc i j (by omega) Ll Dt
   ·rw [wm (by omega)];simp only [show j-s.2.length=0 by omega,xS];exact P9 i (by omega)
 ·rw [RC hp]
  refine ⟨⟨h.pv.len,h.pv.wid,h.pv.pv,fun p hp=>by have:=h.pv.lt p hp;omega⟩,h.up,h.down,h.one,fun i hi sN k hk=>?_,h.left,h.inc⟩;by_cases mN:k=c
  ·subst mN
   have:∀d p,kC s.1 k d p=p+d->∀i,p<=i->i<p+d->cC (gR s.1 i) k=0:=fun d=>by
    induction d with
    | zero=>intro p _ i h1 h2;omega
    | succ d ih=>
     intro p hf i h1 h2;simp only [kC] at hf
     split at hf
     ·rename_i h0;by_cases hip:i=p
      ·rw [hip];exact h0
      ·exact ih (p+1) (by omega) i (by omega) (by omega)
     ·omega
   have hf:=SB s.1 k (s.1.length-s.2.length) s.2.length;unfold bC at hp;exact this (s.1.length-s.2.length) s.2.length (by omega) i hi (by omega)
  ·exact h.low i hi sN k (by omega)
def El {m:Mx} {w:Nat} (hw:wid w m):∀c,c<=w->BD m w c (aJ m c)
 | 0,_=>⟨AY hw 0,fun i hi=>eQ.row hi,fun i hi=>eQ.row hi,fun i hi=>by simp [aJ] at hi,fun i _ _ k hk=>by omega,fun i hi=>by simp [aJ] at hi,fun i j hi=>by simp [aJ] at hi⟩
 | c+1,hc=>(El hw c (by omega)).step (by omega)
end
section
section
variable {m:Mx} {w:Nat}
def Cb (pv:List Nat) (c:Nat):Nat:=(pv.filter (fun p=>decide (p<c))).length
def asL {pv:List Nat} (hn:pv.Nodup) (c:Nat):Cb pv (c+1)=Cb pv c+if pv.contains c=true then 1 else 0:=by
 unfold Cb
 induction pv with
 | nil=>rfl
 | cons p r ih=>
  have jd:=vH.1 hn;have ih:=ih jd.2;simp only [List.filter_cons,List.contains_cons];by_cases h1:p=c
  ·subst h1
   have:r.contains p=false:=by simpa using jd.1
   rw [this] at ih;simp at ih ⊢;omega
  ·have e:(c==p)=false:=by simpa using fun q=>h1 q.symm
   rw [e,Bool.false_or];by_cases h2:p<c
   ·rw [yQ (by simp;omega),yQ (by simp;omega),yz,yz,ih];omega
   ·rw [yB (by simp;omega),yB (by simp;omega)];exact ih
def au2 {pv:List Nat} {w:Nat} (h:∀p,p∈pv->p<w):Cb pv w=pv.length:=by
 unfold Cb;rw [List.filter_eq_self.2 (fun p hp=>by simpa using h p hp)]
def ady {R:Mx} {pv:List Nat} (hn:pv.Nodup) (n:Nat):∀c,(Kj R pv n c).length+Cb pv c=c
 | 0=>by
  have:Cb pv 0=0:=by simp [Cb]
  rw [this];rfl
 | c+1=>by
  have ih:=ady (R:=R) hn n c;rw [asL hn,Kj]
  split
  ·omega
  ·rw [yL];simp only [yz,yO];omega
def BD.nodup {c:Nat} {s:Mx×List Nat} (h:BD m w c s):s.2.Nodup:=by
 unfold ybM;rw [tH];intro i j hi hj Dt e
 have:=h.inc i j hi hj Dt;omega
def au3 (hw:wid w m):(aAt m w).length+(aJ m w).2.length=w:=by
 have h:=El hw w (yr w)
 have:=ady (R:=(aJ m w).1) h.nodup w w
 rwa [au2 h.pv.lt] at this
end
end
section
section
variable {m:Mx} {w:Nat}
def BD.pvm {s:Mx×List Nat} (h:BD m w w s) {k:Nat} (hk:k∈s.2):∃i,∃hi:i<s.2.length,s.2[i]=k/\i<m.length:=by
 obtain ⟨i,hi,e⟩:=vn.1 hk
 exact ⟨i,hi,e,by have:=h.pv.pv;omega⟩
end
end
section
open Go (IntKind)
noncomputable def kM (n k:Nat) (l:List (List Nat)):Bool:=decide (l.length<=n)&&l.all (kR k)
noncomputable def pJ (n c k:Nat) (M:List (List (List Nat))):Bool:=decide (M.length<=n)&&M.all (kM c k)
def SD {k:Nat} {s:List Nat} (hk:k<=100) (h:kR k s=true):s.length<=1000/\cm s=0/\Hq (4*k) (bK s):=by
 unfold kR at h;simp only [ye,xI] at h;obtain ⟨h1,h2,h3,h4⟩:=h
 exact ⟨by omega,h2,LZ (k:=k) (by omega) (by omega),LZ (z:=((bK s).den:Int)) (k:=k) (by rw [Int.natAbs_natCast];omega) (by omega)⟩
section
variable {P:aI} {L:Lib}
def ajc (h:Rm P L) (zV:Has P L 359 rW) (Dj:Has P L 364 Fg) {v:AV} {l:List (List Nat)} (hv:bZ v l) {n k:Nat} (hn:n<=1000) (kh:k<=1000) (hs:∀s,s∈l->s.length<9223372036854775808):aj P L 364 [v,ab n,ab k] (.bool (kM n k l)):=by
 have key:=fun hl:l.length<=1000=>fM (P:=P) (L:=L) (live:=[0,2,7]) (a:=EG)
  (I:=fun d st=>∃i:Nat,i+d=l.length/\(l.drop i).all (kR k)=l.all (kR k)/\st=⟨[(0,v),(2,ab k),(7,ab i)],[],0,0⟩)
  (Q:=fun ex st=>∃tm hp ct,st=⟨tm,hp,ct,0⟩/\((ex= .ret/\ai tm 6= .bool false/\l.all (kR k)=false)\/(ex= .exit 0/\l.all (kR k)=true))) (?_:∀(d:Nat) (st:St),_->_)
 ·unfold aj;rw [aH Dj];unfold kM;by_cases hl:l.length<=n
  ·simp only [go_sem,ya,Fg,hv.len,show ¬(n:Int)<l.length by omega,yy];generalize hq:D P L (.loop [0,2,7] EG) _=q;obtain ⟨ex,st,rfl,tm,hp,ct,rfl,h2⟩:=bQ hq (key (by omega) l.length) ⟨0,by omega,rfl,by simp only [go_sem,ya,ax,au hv.pu,ay _ hv.pu]<;>rfl⟩
   rw [xo hl,xQ];rcases h2 with ⟨rfl,h3,h4⟩ | ⟨rfl,h4⟩
   ·rw [h4];simp only [go_sem,h3]
   ·rw [h4];simp only [go_sem,ax]
  ·simp only [go_sem,ya,Fg,hv.len,show (n:Int)<l.length by omega,yq,xa hl,xX]
 ·rintro d st ⟨i,hk,hf,rfl⟩;by_cases hi:i<l.length
  ·have e2:=aAr h zV kh (hs _ (yF hi));have hd:(l.drop i).all (kR k)=(kR k l[i]&&(l.drop (i+1)).all (kR k)):=by rw [yU hi,yap]
   rw [hd] at hf
   cases hb:kR k l[i] with
   | false=>
    right
    rw [hb] at e2;simp only [go_sem,ya,EG,hv.len,show (i:Int)<l.length by omega,hv.aQ hi,e2];refine ⟨_,_,rfl,by simp,_,_,_,rfl,.inl ⟨rfl,by simp only [go_sem],?_⟩⟩;rw [<-hf,hb,xX]
   | true=>
    left
    rw [hb] at e2;simp only [go_sem,ya,EG,hv.len,show (i:Int)<l.length by omega,hv.aQ hi,e2];rw [hb,xQ] at hf;refine ⟨_,d-1,rfl,by omega,i+1,by omega,hf,?_⟩;rw [wrap64 (by omega) (by omega)];simp only [go_sem,ya,ax,au hv.pu,ay _ hv.pu]<;>rfl
  ·right
   simp only [go_sem,ya,EG,hv.len,show ¬(i:Int)<l.length by omega];refine ⟨_,_,rfl,by simp,_,_,_,rfl,.inr ⟨rfl,?_⟩⟩;rw [<-hf,xe (by omega)];rfl
def alu (h:Rm P L) (zV:Has P L 359 rW) (Dj:Has P L 364 Fg) (Pe:Has P L 432 JF) {v:AV} {M:List (List (List Nat))} (hv:cg bZ v M) (hE:fj M=0) {n c k:Nat} (hn:n<=1000) (hc:c<=1000) (kh:k<=1000) (hs:∀r,r∈M->∀s,s∈r->s.length<9223372036854775808):aj P L 432 [v,ab n,ab c,ab k] (.bool (pJ n c k M)):=by
 obtain ⟨m0,m64,ho⟩:=AZ hE;obtain ⟨r0,aAu,ew,e0⟩:=hv.aQ (i:=0) m0;have iG:M[0].length=wd M:=(ho _ (yF m0)).1;have key:=fM (P:=P) (L:=L) (live:=[0,2,3,9]) (a:=EH)
  (I:=fun d st=>∃i:Nat,i+d=M.length/\(M.drop i).all (kM c k)=M.all (kM c k)/\st=⟨[(0,v),(2,ab c),(3,ab k),(9,ab i)],[],0,0⟩)
  (Q:=fun ex st=>∃tm hp ct,st=⟨tm,hp,ct,0⟩/\((ex= .ret/\ai tm 8= .bool false/\M.all (kM c k)=false)\/(ex= .exit 0/\M.all (kM c k)=true))) ?_
 ·unfold aj;rw [aH Pe];unfold pJ;by_cases hl:M.length<=n
  ·simp only [go_sem,ya,JF,hv.len,show ¬(n:Int)<M.length by omega,yy];generalize hq:D P L (.loop [0,2,3,9] EH) _=q;obtain ⟨ex,st,rfl,tm,hp,ct,rfl,h2⟩:=bQ hq (key M.length) ⟨0,by omega,rfl,by simp only [go_sem,ya,ax,au hv.pu,ay _ hv.pu]<;>rfl⟩
   rw [xo hl,xQ];rcases h2 with ⟨rfl,h3,h4⟩ | ⟨rfl,h4⟩
   ·rw [h4];simp only [go_sem,h3]
   ·rw [h4];simp only [go_sem,ax]
  ·simp only [go_sem,ya,JF,hv.len,show (n:Int)<M.length by omega,yq,xa hl,xX]
 ·rintro d st ⟨i,hk,hf,rfl⟩;by_cases hi:i<M.length
  ·obtain ⟨r,rest,hr,e1⟩:=hv.aQ hi;have hwi:M[i].length=wd M:=(ho _ (yF hi)).1;have e2:=ajc h zV Dj hr (n:=c) (k:=k) hc kh (hs _ (yF hi));have hd:(M.drop i).all (kM c k)=(kM c k M[i]&&(M.drop (i+1)).all (kM c k)):=by rw [yU hi,yap]
   rw [hd] at hf;have ma:(M[i].length:Int)=M[0].length:=by omega
   cases hb:kM c k M[i] with
   | false=>
    right
    rw [hb] at e2;simp only [go_sem,ya,EH,hv.len,show (i:Int)<M.length by omega,e1,hr.len,hr.ak,im,e0,ew.len,ma,yq,yM,e2];refine ⟨_,_,rfl,by simp,_,_,_,rfl,.inl ⟨rfl,by simp only [go_sem],?_⟩⟩;rw [<-hf,hb,xX]
   | true=>
    left
    rw [hb] at e2;simp only [go_sem,ya,EH,hv.len,show (i:Int)<M.length by omega,e1,hr.len,hr.ak,im,e0,ew.len,ma,yq,yM,e2];rw [hb,xQ] at hf;refine ⟨_,d-1,rfl,by omega,i+1,by omega,hf,?_⟩;rw [wrap64 (by omega) (by omega)];simp only [go_sem,ya,ax,au hv.pu,ay _ hv.pu]<;>rfl
  ·right
   simp only [go_sem,ya,EH,hv.len,show ¬(i:Int)<M.length by omega];refine ⟨_,_,rfl,by simp,_,_,_,rfl,.inr ⟨rfl,?_⟩⟩;rw [<-hf,xe (by omega)];rfl
end
end
section
open Go (IntKind)
def H5:∀{l:List Int},(∀x,x∈l->x=0)->bW l=0
 | [],_=>rfl
 | x::l,h=>by
  unfold bW;rw [yQ (h x wN)];exact H5 (fun y hy=>h y (xW _ hy))
end
section
open Go (IntKind)
def ayY {M:List (List (List Nat))} (m0:0<M.length) (m64:M.length<=64) (ho:∀r,r∈M->r.length=wd M/\0<r.length/\r.length<=64/\∀s,s∈r->cm s=0):fj M=0:=by
 unfold fj;rw [yB (by omega),yB (by omega)];refine H5 (fun z hz=>?_);obtain ⟨r,hr,rfl⟩:=xZ.1 hz;refine H5 (fun y hy=>?_);simp only [wE,List.not_mem_nil,or_false] at hy;rcases hy with rfl | rfl | rfl | rfl
 ·grind
 ·grind
 ·grind
 ·refine H5 (fun y hy=>?_)
  grind
def au4 {A:List (List (List Nat))} (hA:fj A=0) (hf:pJ 5 5 4 A=true):A.length<=5/\wd A<=5/\(∀r,r∈A->∀s,s∈r->s.length<=10)/\cX 16 (bF A):=by
 unfold pJ at hf;simp only [ye,xI,List.all_eq_true] at hf;obtain ⟨h1,h2⟩:=hf;have h3:∀r,r∈A->r.length<=5/\∀s,s∈r->kR 4 s=true:=fun r hr=>by
  have:=h2 r hr
  unfold kM at this
  grind
 refine ⟨h1,?_,fun r hr s hs=>?_,fun i hi x hx=>?_⟩
 ·grind
 ·have:=(h3 r hr).2 s hs
  unfold kR at this
  grind
 ·unfold bF at hi hx;rw [di hi,wu] at hx;obtain ⟨s,hs,rfl⟩:=xZ.1 hx
  exact (SD (k:=4) (by decide) ((h3 _ (yF _)).2 s hs)).2.2
end
section
open Go (IntKind)
def re (ids W:List Nat):List AV:=wT (fun i w=>AV.aB i 0 w) ids W
def iI (ids W:List Nat) (r:Nat):List AV:=re ids W++ym r .aa
def asM {ids W:List Nat} {i w:Nat} (h:ids.length=W.length):re (ids++[i]) (W++[w])=re ids W++[.aB i 0 w]:=by
 unfold re;rw [List.zipWith_append h];rfl
def abq:∀r:Nat,fZ (ym r AV.aa)=[]
 | 0=>rfl
 | r+1=>by rw [wC,fZ,abq r];rfl
def acm (r:Nat):∀{ids W:List Nat},ids.length=W.length->fZ (iI ids W r)=ids
 | [],[],_=>abq r
 | i::ids,w::W,h=>by
  have ih:=acm r (ids:=ids) (W:=W) (by simpa using h);have e:iI (i::ids) (w::W) r= .aB i 0 w::iI ids W r:=rfl;rw [e,fZ,ih];rfl
 | [],_::_,h=>by simp at h
 | _::_,[],h=>by simp at h
def acn (f:Nat->Option Nat):∀r:Nat,eK f (ym r AV.aa)=ym r .aa
 | 0=>rfl
 | r+1=>by rw [wC,eK,acn f r];rfl
def adz {f:Nat->Option Nat} (r:Nat):∀{ids W:List Nat} (k:Nat),ids.length=W.length->(∀i (h:i<ids.length),f ids[i]=some (k+i))->eK f (iI ids W r)=iI (wv k ids.length) W r
 | [],[],_,_,_=>acn f r
 | i::ids,w::W,k,h,hf=>by
  have h0:=hf 0 (by simp);simp only [xS,y8] at h0;have ih:=adz (f:=f) r (ids:=ids) (W:=W) (k+1) (by simpa using h) (fun j hj=>by
   have:=hf (j+1) (by simpa using hj)
   simp only [vd] at this
   rw [this];congr 1;omega)
  have e:iI (i::ids) (w::W) r= .aB i 0 w::iI ids W r:=rfl;rw [e,eK,ih,yz,List.range'_succ];simp only [cd,h0];rfl
 | [],_::_,_,h,_=>by simp at h
 | _::_,[],_,h,_=>by simp at h
def aco {sz:Nat} {y:Bool} (hs:0<sz):∀(ids W:List Nat) (T:List (List AV)) (hp:Hp) (n:Nat),ids.length+4<=n->ids.length=T.length->W.length=T.length->(∀i (h1:i<ids.length) (h2:i<T.length) (h3:i<W.length),T[i].length=W[i]*sz/\∃rw,aq hp ids[i]=some (.cells rw true y sz T[i]))->
  ∃ap,cI n hp (re ids W)=some (wT (fun w r=> .aA y w r) W T,ap)/\∀j,j∉ids->aq ap j=aq hp j
 | [],[],[],hp,n+1,_,_,_,_=>⟨hp,rfl,fun _ _=>rfl⟩
 | [],_,[],hp,0,h,_,_,_=>by simp at h
 | [],_,_::_,_,_,_,h,_,_=>by simp at h
 | [],_::_,[],_,_,_,_,h,_=>by simp at h
 | _::_,_,[],_,_,_,h,_,_=>by simp at h
 | _::_,[],_::_,_,_,_,_,h,_=>by simp at h
 | i::ids,w::W,r::T,hp,n+1,hn,hl,hW,h=>by
  obtain ⟨l0,rw',g0⟩:=h 0 (by simp) (by simp) (by simp);simp only [xS] at l0 g0;simp only [yz] at hn hl hW;obtain ⟨m,rfl⟩:∃m,n=m+1+1:=⟨n-2,by omega⟩;have hz:qc (m+1) hp i=some (y,sz,r,if rw'=true then bc hp i (.cells false true y sz r) else hp):=by
   rw [agD,g0];cases rw'<;>rfl
  have aAx:∃bj,(if rw'=true then bc hp i (.cells false true y sz r) else hp)=bj/\∀j,aq bj j=if j=i then some (.cells (if rw'=true then false else rw') true y sz r) else aq hp j:=by
   refine ⟨_,rfl,fun j=>?_⟩
   cases rw' with
   | true=>simp only [xC];rw [asJ g0]
   | false=>
    simp only [Bool.false_eq_true,xf]
    split
    ·rename_i e;rw [e,g0]
    ·rfl
  obtain ⟨bj,e1,g1⟩:=aAx;rw [e1] at hz;obtain ⟨ap,e2,g2⟩:=aco hs ids W T bj (m+1+1) (by omega) (by omega) (by omega) (fun k h1 h2 h3=>by
   obtain ⟨a,rw2,b⟩:=h (k+1) (by simpa using h1) (by simpa using h2) (by simpa using h3);simp only [vd] at a b;refine ⟨a,?_⟩;rw [g1]
   split
   ·rename_i e;rw [e,g0] at b;simp only [yd,Obj.cells.injEq] at b;exact ⟨_,by rw [b.2.2.2.2]⟩
   ·exact ⟨rw2,b⟩)
  refine ⟨ap,?_,fun j hj=>?_⟩
  ·have e:re (i::ids) (w::W)= .aB i 0 w::re ids W:=rfl;rw [e,ab2,agC,hz,lC y l0 hs,ahW,e2,ahX];rfl
  ·simp only [wE,not_or] at hj;rw [g2 j hj.2,g1,yB hj.1]
def gT (T:List (List AV)) (i:Nat):List AV:=T.getD i []
def Ns {T:List (List AV)} {i:Nat} (h:i<T.length):gT T i=T[i]:=by
 simp [gT,y7,xU h]
def iB (n:Nat):List Nat:=(vh n).map (·+1)
def rB (n:Nat):(iB n).length=n:=by simp [iB]
def QE (n:Nat):iB n=wv 1 n:=by
 unfold iB;rw [List.range'_eq_map_range];exact wW (fun a _=>Nat.add_comm a 1)
def RE {n i:Nat} (h:i<(iB n).length):(iB n)[i]=i+1:=by simp [iB]
def RF {n i:Nat}:i∈iB n↔0<i/\i<=n:=by
 rw [QE,List.mem_range'_1];omega
structure me (hp:Hp) (x y:Bool) (sz:Nat) (W:List Nat) (T:List (List AV)) (r:Nat):Prop where
 l:W.length=T.length
 m:aq hp 0=some (.cells true false x 1 (iI (iB T.length) W r))
 r:∀i,i<T.length->aq hp (i+1)=some (.cells true true y sz (gT T i))
section
variable {hp:Hp} {x y:Bool} {sz:Nat} {W:List Nat} {T:List (List AV)} {r:Nat}
def me.ak (h:me hp x y sz W T 0) (hs:0<sz) (hw:∀i (h1:i<T.length) (h2:i<W.length),T[i].length=W[i]*sz) {n:Nat} (hn:T.length+4<=n):
  ∃ap,cI n hp (iI (iB T.length) W 0)=some (wT (fun w r=> .aA y w r) W T,ap)/\∀j,(∀i,i<T.length->j≠i+1)->aq ap j=aq hp j:=by
 have e0:iI (iB T.length) W 0=re (iB T.length) W:=by unfold iI;simp
 rw [e0];obtain ⟨bj,e1,g1⟩:=aco hs (iB T.length) W T hp n (by rw [rB];exact hn) (rB _) h.l (fun i h1 h2 h3=>by
  refine ⟨hw i h2 h3,true,?_⟩;rw [RE]
  have:=h.r i h2
  rwa [Ns h2] at this)
 refine ⟨bj,e1,fun j hj=>g1 j fun hm=>?_⟩
 have:=RF.1 hm
 exact hj (j-1) (by omega) (by omega)
def ayZ {hp ap:Hp} {n id s:Nat} {rw' ex:Bool} {cs dF:List AV} (h:cI n hp cs=some (dF,ap)):zP n id hp (some (.cells rw' false ex s cs))=some (ex,s,dF,bc ap id (.cells false false ex s cs)):=by
 simp [zP,h]
def me.zP (h:me hp x y sz W T 0) (hs:0<sz) (hw:∀i (h1:i<T.length) (h2:i<W.length),T[i].length=W[i]*sz) {n:Nat} (hn:T.length+4<=n):
  ∃ap,VE.zP n 0 hp (some (.cells true false x 1 (iI (iB T.length) W 0)))=some (x,1,wT (fun w r=> .aA y w r) W T,ap):=by
 obtain ⟨bj,e,_⟩:=h.ak hs hw hn;exact ⟨_,ayZ e⟩
def acp (h:W.length=T.length):(wT (fun w r=>AV.aA y w r) W T).length=T.length:=by rw [uR];omega
def aAy {a:Nat} {ids pl:List Nat} {rw' ex:Bool} {cells:List AV} (hm:aq hp a=some (.cells rw' false ex 1 cells)) (hc:fZ cells=ids) (hr:∀i,i∈ids->∃o,aq hp i=some o/\kF o=[]) (bj:∀i,i∈pl->∃o,aq hp i=some o/\kF o=[]) (hn:(gK a ids pl).Nodup) (hl:ids.length+pl.length<90000):mQ hp 100000 (a::pl) []=gK a ids pl:=by
 have jd:=vH.1 hn;have dc:∀i,i∈ids++pl->i∉[a]:=fun i hi hm=>by
  simp only [xF] at hm;subst hm;exact jd.1 hi
 rw [show (100000:Nat)=99999+1 from rfl,Rv,ac1,So,hm,Sp,agF,hc,xG]
 have:ids++pl=(ids++pl)++[]:=by simp
 rw [this,agT hp (ids++pl) [a] [] 99999 (by rw [yL];omega) (fun i hi=>by
  rcases wj.1 hi with h | h
  ·exact hr i h
  ·exact bj i h) jd.2 dc,au0 hp (by rw [yL];omega)]
 rfl
def aip {live:List Nat} {tm tm':Env} {ct a:Nat} {ids pl:List Nat} (hE:gF (da tm live)=a::pl) (hm:aq hp a=some (.cells true false x 1 (iI ids W r))) (hl:ids.length=T.length) (hW:W.length=T.length) (hr:∀i (h:i<ids.length),aq hp ids[i]=some (.cells true true y sz (gT T i))) (hM:T.length<=10000) (hn:(gK a ids pl).Nodup)
  (bj:∀i,i∈pl->∃o,aq hp i=some o/\kF o=[]) (gQ:pl.length<=1000)
  (hT:∀S,hX a S 0=some 0->(∀j (h:j<pl.length),hX pl[j] S 0=some (T.length+1+j))->iT (pos S) (da tm live)=tm'):
  ∃ap,aS live ⟨tm,hp,ct,0⟩=⟨tm',ap,1+(T.length+pl.length),0⟩/\me ap x y sz W T r/\∀j (h:j<pl.length) rw ex z cs,aq hp pl[j]=some (.cells rw true ex z cs)->aq ap (T.length+1+j)=some (.cells rw true ex z cs):=by
 have FP:∀i,i∈ids->∃o,aq hp i=some o/\kF o=[]:=fun i hi=>by
  obtain ⟨k,hk,rfl⟩:=vn.1 hi;exact ⟨_,hr k hk,rfl⟩
 have hR:=aAy (pl:=pl) hm (acm r (by omega)) FP bj hn (by omega);rw [<-hE] at hR;obtain ⟨ap,e,g⟩:=anJ (ct:=ct) hR;have ls:(gK a ids pl).length=1+(ids.length+pl.length):=by simp [gK];omega
 have s0:∀h:0<(gK a ids pl).length,(gK a ids pl)[0]=a:=fun _=>rfl
 have sI:∀i (h:i<ids.length) (h2:i+1<(gK a ids pl).length),(gK a ids pl)[i+1]=ids[i]:=fun i h h2=>by
  simp [gK,xT h]
 have sP:∀j (h:j<pl.length) (h2:T.length+1+j<(gK a ids pl).length),(gK a ids pl)[T.length+1+j]=pl[j]:=fun j h h2=>by
  have:T.length+1+j=(ids.length+j)+1:=by omega
  simp only [gK,this,vd];rw [wm (by omega)]
  simp
 have pI:∀i (h:i<ids.length),pos (gK a ids pl) ids[i]=some (1+i):=fun i h=>by
  have:=MM (gK a ids pl) 0 (i+1) (by omega) hn
  rw [sI i h (by omega)] at this;rw [pos_eq,this];congr 1;omega
 have q3:hX a (gK a ids pl) 0=some 0:=by
  have:=MM (gK a ids pl) 0 0 (by omega) hn
  rw [s0] at this;exact this
 have q4:∀j (h:j<pl.length),hX pl[j] (gK a ids pl) 0=some (T.length+1+j):=fun j hj=>by
  have:=MM (gK a ids pl) 0 (T.length+1+j) (by omega) hn
  rw [sP j hj (by omega),yf] at this;exact this
 refine ⟨ap,by rw [e,hT _ q3 q4,ls,hl],⟨hW,?_,fun i hi=>?_⟩,fun j hj rw' ex z cs ho=>?_⟩
 ·have:=g 0 (by omega) _ (by rw [s0];exact hm)
  rw [this];have e2:jx (pos (gK a ids pl)) (.cells true false x 1 (iI ids W r))= .cells true false x 1 (eK (pos (gK a ids pl)) (iI ids W r)):=rfl;rw [e2,adz r 1 (by omega) pI,hl,<-QE]
 ·have:=g (i+1) (by omega) _ (by rw [sI i (by omega)];exact hr i (by omega))
  rw [this];rfl
 ·have:=g (T.length+1+j) (by omega) _ (by rw [sP j hj (by omega)];exact ho)
  rw [this];rfl
def ao0 {n:Nat} {pl:List Nat} (hp:pl.Nodup) (h:∀i,i∈pl->n<i):(gK 0 (iB n) pl).Nodup:=by
 unfold gK;refine vH.2 ⟨fun q=>?_,?_⟩
 ·rcases wj.1 q with q | q
  ·have:=RF.1 q;omega
  ·have:=h 0 q;omega
 ·refine List.nodup_append.2 ⟨by rw [QE];exact List.nodup_range',hp,fun a ha b hb e=>?_⟩
  have h1:=RF.1 ha;have h2:=h b hb;omega
def me.comp {live:List Nat} {tm tm':Env} {ct:Nat} (h:me hp x y sz W T r) (hE:gF (da tm live)=[0]) (hM:T.length<=10000)
  (hT:∀S,hX 0 S 0=some 0->iT (pos S) (da tm live)=tm'):∃ap,aS live ⟨tm,hp,ct,0⟩=⟨tm',ap,1+T.length,0⟩/\me ap x y sz W T r:=by
 obtain ⟨ap,e,g,_⟩:=aip (ct:=ct) (pl:=[]) hE h.m (rB _) h.l (fun i hi=>by
  rw [RE];rw [rB] at hi;exact h.r i hi) hM (ao0 List.nodup_nil (fun _ q=>by cases q)) (fun _ q=>by cases q) (by simp) (fun S q _=>hT S q)
 exact ⟨ap,e,g⟩
def agV {live:List Nat} {tm tm':Env} {hp0:Hp} {x0:Bool} {ct a b w i r0:Nat} {cs:List AV} (h:me hp0 x0 y sz W T r0) (hi:T.length=i) (hE:gF (da tm live)=[a]) (hb:i<b) (oG:a≠b) (ha:a=0\/i<a)
  (hm:aq hp a=some (.cells true false x 1 (re (iB i) W++ .aB b 0 w::ym r .aa))) (hr:∀j,j<i->aq hp (j+1)=aq hp0 (j+1)) (hc:aq hp b=some (.cells true true y sz cs)) (hM:i<=1000)
  (hT:∀S,hX a S 0=some 0->iT (pos S) (da tm live)=tm'):∃ap,aS live ⟨tm,hp,ct,0⟩=⟨tm',ap,1+(i+1),0⟩/\me ap x y sz (W++[w]) (T++[cs]) r:=by
 have FP:∀j (h:j<(iB i++[b]).length),(iB i++[b])[j]=if j<i then j+1 else b:=fun j h=>by
  by_cases hj:j<i
  ·rw [yQ hj,xT (by rw [rB];exact hj),RE]
  ·rw [yB hj,wm (by rw [rB];omega)];simp
 have li:(iB i++[b]).length=i+1:=by simp [rB]
 have lW:W.length=i:=by rw [h.l,hi]
 obtain ⟨ap,e,g,_⟩:=aip (hp:=hp) (x:=x) (y:=y) (sz:=sz) (r:=r) (T:=T++[cs]) (W:=W++[w]) (ct:=ct) (pl:=[]) (ids:=iB i++[b]) hE (by
  rw [hm];unfold iI;rw [asM (by rw [rB,lW]),xq];rfl) (by rw [li];simp [hi]) (by simp [lW,hi]) (fun j hj=>by
  rw [FP j hj];rw [li] at hj;by_cases YQ:j<i
  ·rw [yQ YQ,hr j YQ,h.r j (by omega),Ns (by omega),Ns (by simp;omega),xT]
  ·have aCH:j=i:=by omega
   subst aCH;rw [yB (by omega),hc,Ns (by simp;omega),wm (by omega)];simp [hi]) (by simp;omega) (by
  unfold gK;rw [List.append_nil];refine vH.2 ⟨fun hx=>?_,?_⟩
  ·obtain ⟨j,hj,e⟩:=vn.1 hx;rw [FP j hj] at e;rw [li] at hj;split at e<;>omega
  ·unfold ybM;rw [tH];intro u v hu hv huv;rw [FP u hu,FP v hv];rw [li] at hu hv
   split<;>split<;>omega) (fun _ q=>by cases q) (by simp) (fun S q _=>hT S q)
 exact ⟨ap,by rw [e];simp [hi],g⟩
end
end
section
def fH (w:Nat) (m:Mx):Mx:=m.map (List.take w)
def Mm (w:Nat) (m:Mx):(fH w m).length=m.length:=yt _
def A0 (w:Nat) (m:Mx) (i:Nat):gR (fH w m) i=(gR m i).take w:=by
 unfold gR fH;simp only [y7,yat];cases m[i]?<;>simp
def RG {r:List Rat} {w c:Nat} (h:c<w):cC (r.take w) c=cC r c:=by
 unfold cC;simp only [y7,List.getElem?_take,h,xC]
def agW {m:Mx} {w c:Nat} (h:c<w):∀d p,kC (fH w m) c d p=kC m c d p
 | 0,_=>rfl
 | d+1,p=>by
  simp only [kC,A0,RG h];rw [agW h d (p+1)]
def MN (w:Nat) (m:Mx) (i:Nat) (r:List Rat):fH w (m.set i r)=(fH w m).set i (r.take w):=by
 unfold fH;rw [List.map_set]
def agX (w:Nat) (a b:List Rat) (x y:Rat):(jS a b x y).take w=jS (a.take w) (b.take w) x y:=by
 unfold jS;rw [List.take_zipWith]
def au5 (w:Nat) (m:Mx) (i j:Nat):fH w (cO m i j)=cO (fH w m) i j:=by
 unfold cO;rw [MN,MN,A0,A0]
def au6 {w c:Nat} (h:c<w) (m:Mx) (a:Nat):fH w (oJ m a c)=oJ (fH w m) a c:=by
 unfold oJ;rw [MN,agX,A0,RG h]
def au7 {w c:Nat} (h:c<w) (m:Mx) (a i:Nat):fH w (oK m a c i)=oK (fH w m) a c i:=by
 unfold oK;rw [A0,A0,RG h]
 split
 ·rw [MN,agX]
 ·rfl
def agY {w c:Nat} (h:c<w) (m:Mx) (a:Nat):∀i,fH w (eH m a c i)=eH (fH w m) a c i
 | 0=>rfl
 | i+1=>by rw [eH,eH,au7 h,agY h m a i]
def agZ (w:Nat) (m:Mx):∀c,c<=w->aJ (fH w m) c=(fH w (aJ m c).1,(aJ m c).2)
 | 0,_=>rfl
 | c+1,hc=>by
  have ih:=agZ w m c (by omega);have qS:c<w:=by omega
  have hp:bC (fH w (aJ m c).1,(aJ m c).2) c=bC (aJ m c) c:=by
   unfold bC;simp only [Mm,agW qS]
  rw [aJ,aJ,ih];unfold il;rw [hp];simp only [Mm]
  split
  ·simp only [eP,hp,agY qS,au6 qS,au5]
  ·rfl
def adA {m:Mx} {w:Nat}:(aJ m (w+1)).2=(aJ (fH w m) w).2\/(aJ m (w+1)).2=(aJ (fH w m) w).2++[w]:=by
 rw [agZ w m w (yr w),aJ];unfold il
 split
 ·exact .inr rfl
 ·exact .inl rfl
def ag0 {l:List Nat} {w:Nat} (hl:l.length=w) (hi:∀i j (hi:i<l.length) (hj:j<l.length),i<j->l[i]<l[j]) (hw:∀p,p∈l->p<w):∀i (h:i<l.length),l[i]=i:=fun i h=>by
 have lo:∀i (h:i<l.length),i<=l[i]:=fun i=>by
  induction i with
  | zero=>intro h;exact Nat.zero_le _
  | succ i ih=>
   intro h
   have:=ih (by omega)
   have:=hi i (i+1) (by omega) h (by omega)
   omega
 have up:∀d i (h:i<l.length),i+d+1=l.length->l[i]<=i:=fun d=>by
  induction d with
  | zero=>
   intro i h e
   have:=hw _ (yF h)
   omega
  | succ d ih=>
   intro i h e;have h1:=ih (i+1) (by omega) (by omega);have h2:=hi i (i+1) h (by omega) (by omega);omega
 have h1:=lo i h;have h2:=up (l.length-i-1) i h (by omega);omega
end
section
def ag1 {w:Nat} {m:Mx} (h:wid (w+1) m):wid w (fH w m):=fun i hi=>by
 rw [Mm] at hi;rw [A0,yI,h i hi];omega
def ag2 {m:Mx} {w:Nat} (hw:wid (w+1) m) (h0:0<w):(w∉(aJ m (w+1)).2/\(aJ (fH w m) w).2.length=w)↔((aJ m (w+1)).2.length=w/\(aJ m (w+1)).2.getD (w-1) 0=w-1):=by
 have h:=El (ag1 hw) w (yr w);have aX:=h.pv.lt
 rcases adA (m:=m) (w:=w) with e | e
 ·rw [e];constructor
  ·rintro ⟨_,hl⟩;refine ⟨hl,?_⟩;rw [y7,xU (by omega),ua];exact ag0 hl h.inc aX (w-1) (by omega)
  ·rintro ⟨hl,_⟩;exact ⟨fun hm=>absurd (aX _ hm) (by omega),hl⟩
 ·rw [e];constructor
  ·rintro ⟨hm,_⟩;exact absurd (vv _ (xF.2 rfl)) hm
  ·rintro ⟨hl,hg⟩;rw [yL,List.length_singleton] at hl;rw [y7,List.getElem?_append_right (by omega),show w-1-(aJ (fH w m) w).2.length=0 by omega] at hg;simp only [List.getElem?_cons_zero,ua] at hg;omega
def au8 {m:Mx} {w:Nat} (hw:wid (w+1) m) (hm:w∉(aJ m (w+1)).2) (hl:(aJ (fH w m) w).2.length=w):(aJ m (w+1)).2.length=w/\∀i (hi:i<(aJ m (w+1)).2.length),(aJ m (w+1)).2[i]=i:=by
 have h:=El (ag1 hw) w (yr w)
 rcases adA (m:=m) (w:=w) with e | e
 ·simp only [e];exact ⟨hl,fun i hi=>ag0 hl h.inc h.pv.lt i hi⟩
 ·exact absurd (by rw [e];exact vv _ (xF.2 rfl)) hm
end
section
open Go (IntKind)
def fk (R:Mx) (b:List Rat):Mx:=wT (fun r x=>r++[x]) R b
def rE {R:Mx} {b:List Rat} (h:b.length=R.length):(fk R b).length=R.length:=by unfold fk;rw [uR];omega
def Il {R:Mx} {b:List Rat} {i:Nat} (h:i<R.length) (hb:i<b.length):(fk R b)[i]'(by unfold fk;rw [uR];omega)=R[i]++[b[i]]:=by simp [fk]
def R9 {R:Mx} {b:List Rat} {w:Nat} (hw:wid w R) (h:b.length=R.length):wid (w+1) (fk R b):=fun i hi=>by
 rw [rE h] at hi
 have:=hw i hi
 rw [di hi] at this;rw [di (by rw [rE h];exact hi),Il hi (by omega),yL,this];rfl
def ag3 {R:Mx} {b:List Rat} {w:Nat} (hw:wid w R) (h:b.length=R.length):fH w (fk R b)=R:=by
 have lc:(fH w (fk R b)).length=R.length:=by rw [Mm,rE h]
 refine uo lc (fun i h1 h2=>?_)
 have:=hw i h2
 rw [di h2] at this;have e:=A0 w (fk R b) i;rw [di h1,di (by rw [rE h];exact h2),Il h2 (by omega),List.take_left' this] at e
 exact e
def aAz {R:Mx} {b:List Rat} {K:Nat} (hk:cX K R) (hb:∀x,x∈b->Hq K x) (h:b.length=R.length):cX K (fk R b):=fun i hi x hx=>by
 rw [rE h] at hi;rw [di (by rw [rE h];exact hi),Il hi (by omega)] at hx
 rcases wj.1 hx with hx | hx
 ·have:=hk i hi
  rw [di hi] at this;exact this x hx
 ·simp only [xF] at hx;rw [hx];exact hb _ (yF _)
def EP (W:Mx) (w:Nat):Prop:=(aJ W (w+1)).2.length=w/\(aJ W (w+1)).2.getD (w-1) 0=w-1
instance (W:Mx) (w:Nat):Decidable (EP W w):=inferInstanceAs (Decidable (_/\_))
def kS (W:Mx) (w:Nat):List Rat:=((aJ W (w+1)).1.take w).map fun r=>cC r w
def aAA {hp:Hp} {ct sz by' n m:Nat} {cs new:List AV} (hm:0<m) (h1:n+m<=1099511627776) (h2:(n+m)*by'<=1099511627776) (hl:cs.length=n*sz) (hs:0<sz):
  rY hp ct sz by' (.aA true n cs) (some (m,new))=some (.aB ct 0 (n+m),(ct,.cells true (aG cs&&aG new) false sz (cs++new))::hp,ct+1):=by
 have e1:Nat.beq m 0=false:=fW (by omega);have e2:Nat.blt 0 sz=true:=yo hs;simp [rY,e1,e2,hl,yo (show n+m<=room from h1),yo (show (n+m)*by'<=room from h2)]
def abr {k:Nat} (y:Bool):∀{T:List (List AV)} {W:Mx},cf QL T W->(∀r,r∈W->r.length=k)->cf cT (wT (fun w r=>AV.aA y w r) (ym T.length k) T) W
 | [],[],_,_=>trivial
 | c::T,r::W,h,hw=>by
  rw [yz,wC,List.zipWith_cons_cons]
  have:=H0 y h.1
  rw [hw r wN] at this;exact ⟨this,abr y h.2 (fun q hq=>hw q (xW _ hq))⟩
def ag4 {k:Nat}:∀{T:List (List AV)} {W:Mx},cf QL T W->(∀r,r∈W->r.length=k)->∀c,c∈T->c.length=k*4
 | [],[],_,_,c,hc=>by cases hc
 | c::T,r::W,h,hw,x,hx=>by
  rcases wE.1 hx with rfl | hx
  ·rw [QL.len h.1,hw r wN]
  ·exact ag4 h.2 (fun q hq=>hw q (xW _ hq)) x hx
section
variable {P:aI} {L:Lib}
def ay0 (h:Ck P L) {v bv rv:AV} (pv:a6 v=true) {R:Mx} {l:List (List Nat)} {w:Nat} (hr:cg zW rv R) (hw:wid w R) (qX:w<=1000) (hb:bZ bv l) (hl:l.length=R.length) (hn:R.length<=1000) (h0:0<R.length) (hc:∀s,s∈l->cm s=0):
  ∀(d:Nat) (st:St),(∃(i:Nat) (T:List (List AV)),i+d=R.length/\T.length=i/\cf QL T ((fk R (l.map bK)).take i)/\((i=0/\aS [0,1,7,34,35,36] st=⟨[(0,v),(1,bv),(7,.aa),(34,rv),(35,ab R.length),(36,ab i)],[],0,0⟩)\/(0<i/\∃hp,aS [0,1,7,34,35,36] st=⟨[(0,v),(1,bv),(7,.aB 0 0 i),(34,rv),(35,ab R.length),(36,ab i)],hp,1+i,0⟩/\me hp false false 4 (ym T.length (w+1)) T 0)))->
   ∃ex s',D P L (.loop [0,1,7,34,35,36] Ey) st=some (ex,s')/\∃tm hp ct T,s'=⟨tm,hp,ct,0⟩/\ex= .exit 0/\ai tm 0=v/\ai tm 7= .aB 0 0 R.length/\T.length=R.length/\cf QL T (fk R (l.map bK))/\me hp false false 4 (ym T.length (w+1)) T 0:=by
 have lb:(l.map bK).length=R.length:=by rw [yt];exact hl
 intro dq sq;generalize bB:aS [0,1,7,34,35,36] sq=s0;revert bB s0 sq dq;apply dI;rintro d st ⟨i,T,hid,hT,hQ,aR⟩;by_cases hi:i<R.length
 ·left
  obtain ⟨r,rest,ff,e0⟩:=hr.aQ hi;obtain ⟨cs,rfl,jM⟩:=ff;have wr:=hw i hi;rw [di hi] at wr;have lcs:=jM.len;have e1:=hb.aQ (i:=i) (by omega);obtain ⟨q,e2,hq⟩:=alk h (hc _ (yF (show i<l.length by omega)));have bL:=hq;obtain ⟨q1,q2,q3,q4,rfl,gq⟩:=hq.gen;have bz:∀tm,nT tm [AV.int .i64 0,.aa,.int .i64 0,.aa] 0 4 [q1,q2,q3,q4] []=fill tm [q1,q2,q3,q4] []:=fun tm=>MZ gq.o1 gq.o2 gq.o3 gq.o4
  obtain ⟨p1,p2,p3,p4⟩:=gq.Hr;have p6:cf QL (T++[cs++[q1,q2,q3,q4]]) ((fk R (l.map bK)).take (i+1)):=by
   rw [yY (by rw [rE lb];exact hi),Il hi (by omega),wu]
   exact hQ.snoc (jM.snoc bL)
  have hax:=fun (hp:Hp) (ct:Nat)=>aAA (hp:=hp) (ct:=ct) (sz:=4) (by':=64) (n:=R[i].length) (m:=1) (cs:=cs) (new:=[q1,q2,q3,q4]) (by omega) (by omega) (by omega) lcs (by decide)
  simp only [jM.pu,aG,p1,p2,p3,p4,xM,wr] at hax;have w4:IntKind.wrap .i64 ((i:Int)+1)=((i+1:Nat):Int):=wrap64 (by omega) (by omega);have sM:(i:Int)<R.length:=by omega
  unfold aj at e2;rcases aR with ⟨q9,rfl⟩ | ⟨q9,hp,rfl,hM⟩
  ·subst q9;have hT0:T=[]:=yx hT;subst hT0;simp only [go_sem,ya,yb,xg,yD,yp,yh,Ey,sM,e0,e1,wr,e2,b6,bz,p1,p2,p3,p4,xM,Bb,hax,gX,w4];refine ⟨_,d-1,rfl,by omega,1,[cs++[q1,q2,q3,q4]],by omega,rfl,p6,.inr ⟨by omega,?_⟩⟩;refine ⟨[(1,.cells true true false 4 (cs++[q1,q2,q3,q4])),(0,.cells true false false 1 [.aB 1 0 (w+1)])],by simp only [go_sem,ya,yb,ax,au pv,ay _ pv,au hb.pu,ay _ hb.pu,au hr.pu,ay _ hr.pu]<;>rfl,⟨rfl,rfl,fun k hk=>?_⟩⟩
   have:k=0:=by simp at hk;omega
   subst this;rfl
  ·have g0:=hM.m;rw [hT] at g0;have gr:=hM.r;rw [hT] at gr;simp only [go_sem,ya,yb,xg,yp,yh,Ey,sM,e0,e1,wr,e2,b6,bz,p1,p2,p3,p4,xM,Bb,hax]
   rw [fY (sz:=1) (ex:=false) (pu:=false) (cs:=iI (iB i) (ym i (w+1)) 0) (by rw [fL _ _ (by omega),fL _ _ (by omega),fL _ _ (by omega)];exact g0) (by simp [iI,re,rB]) (by omega) (by omega) (by decide) (by simp only [go_sem])]
   simp only [go_sem,ya,w4];refine ⟨_,d-1,rfl,by omega,i+1,T++[cs++[q1,q2,q3,q4]],by omega,by simp [hT],p6,.inr ⟨by omega,?_⟩⟩;rw [show (T++[cs++[q1,q2,q3,q4]]).length=i+1 by simp [hT],yad];rw [hT] at hM
   refine agV (x:=false) (r:=0) hM hT (a:=1+i+1+1+1) (b:=1+i+1) (by simp only [go_sem,ya,au pv,au hb.pu,au hr.pu]<;>rfl) (by omega) (by omega) (by omega) (by rw [jn];simp [iI]) (fun j hj=>?_) ?_ (by omega) (fun S q=>by simp only [go_sem,ya,q,ay _ pv,ay _ hb.pu,ay _ hr.pu]<;>rfl)
   ·rw [fL _ _ (by omega),fL _ _ (by omega),fL _ _ (by omega),LK,yB (by omega),fL _ _ (by omega)]
   ·rw [fL _ _ (by omega),fL _ _ (by omega),jn]
 ·right
  have:i=R.length:=by omega
  subst this;rcases aR with ⟨q9,rfl⟩ | ⟨q9,hp,rfl,hM⟩
  ·omega
  ·rw [yG (by rw [rE lb];exact yr _)] at hQ
   simp only [go_sem,ya,Ey,show ¬(R.length:Int)<R.length by omega];exact ⟨_,_,rfl,by simp,_,_,_,T,rfl,rfl,by simp only [go_sem,ya],by simp only [go_sem,ya],hT,hQ,hM⟩
def ay1 {rv:AV} {R:Mx} {w:Nat} (hr:cg cT rv R) (hw:wid (w+1) R) (qX:w<=1000) (hn:R.length<=1000):
  ∀(d:Nat) (st:St),(∃(i:Nat) (out:List AV),i+d=R.length/\QL out ((R.take i).map fun r=>cC r w)/\aS [10,13,76,77,78] st=⟨[(10,ab w),(13,oV 0 i),(76,rv),(77,ab R.length),(78,ab i)],oH 0 4 out [] i,oC 0 i,0⟩)->
   ∃ex s',D P L (.loop [10,13,76,77,78] CB) st=some (ex,s')/\∃tm ct out,s'=⟨tm,oH 0 4 out [] R.length,ct,0⟩/\ex= .exit 2/\ai tm 13=oV 0 R.length/\QL out (R.map fun r=>cC r w):=by
 intro dq sq;generalize bB:aS [10,13,76,77,78] sq=s0;revert bB s0 sq dq;apply dI;rintro d st ⟨i,out,hid,hQ,rfl⟩;by_cases hi:i<R.length
 ·left
  obtain ⟨r,rest,ff,e0⟩:=hr.aQ hi;have wr:=hw i hi;rw [di hi] at wr;obtain ⟨q1,q2,q3,q4,pr,e1,hq⟩:=ff.aQ (i:=w) (by omega);have gq:=hq.f4;have bz:∀tm,nT tm [AV.int .i64 0,.aa,.int .i64 0,.aa] 0 4 [q1,q2,q3,q4] []=fill tm [q1,q2,q3,q4] []:=fun tm=>MZ gq.o1 gq.o2 gq.o3 gq.o4
  obtain ⟨p1,p2,p3,p4⟩:=gq.Hr;have pY:aG [q1,q2,q3,q4]=true:=by simp only [aG,p1,p2,p3,p4,xM]
  have p6:QL (out++[q1,q2,q3,q4]) ((R.take (i+1)).map fun r=>cC r w):=by
   rw [yY hi,xu];refine hQ.snoc ?_;show dM _ (cC R[i] w)
   rw [ir (show w<R[i].length by omega)];exact hq
  have lo:=hQ.len;rw [yt,yI,xn (by omega)] at lo;have w4:IntKind.wrap .i64 ((i:Int)+1)=((i+1:Nat):Int):=wrap64 (by omega) (by omega)
  cases i with
  | zero=>
   have:out=[]:=yx (by omega)
   subst this;simp only [go_sem,ya,yb,xg,yD,yp,CB,oV,oH,oC,show ((0:Nat):Int)<R.length by omega,e0,e1,Aw,oe,qw,bz,p1,p2,p3,p4,xM,Bb,gX];refine ⟨_,d-1,rfl,by omega,1,_,by omega,p6,?_⟩;rw [w4];simp only [go_sem,ya,yb,ax,au hr.pu,ay _ hr.pu]<;>rfl
  | succ i=>
   simp only [go_sem,ya,yb,xg,CB,oV,oH,oC,show ((i+1:Nat):Int)<R.length by omega,e0,e1,Aw,oe,qw,bz,p1,p2,p3,p4,xM,Bb]
   rw [fY (ex:=false) (pu:=true) (cs:=out) (by simp only [go_sem,ya]) lo (by omega) (by omega) (by decide) (by simp only [go_sem,gq.o1,gq.o2,gq.o3,gq.o4])];simp only [go_sem,ya,yb,pY];refine ⟨_,d-1,rfl,by omega,i+1+1,_,by omega,p6,?_⟩;rw [w4];simp only [go_sem,ya,yb,ax,au hr.pu,ay _ hr.pu]<;>rfl
 ·right
  have:i=R.length:=by omega
  subst this;rw [xx] at hQ;simp only [go_sem,ya,CB,show ¬(R.length:Int)<R.length by omega];exact ⟨_,_,rfl,by simp,_,_,out,rfl,rfl,by simp only [go_sem,ya],hQ⟩
def aCI (h:Li P L) (Dk:Has P L 201 nV) {v bv:AV} {M:List (List (List Nat))} {l:List (List Nat)} (hv:cg bZ v M) (hb:bZ bv l) (hl:M.length<=1000000) (ll:l.length<=1000000) (hr:∀r,r∈M->r.length<=1000000/\∀s,s∈r->s.length<=1000000000) (hs:∀s,s∈l->s.length<=1000000000):
  (bW [fj M,bW (l.map cm),if l.length=M.length then 0 else 2]≠0->aj P L 201 [v,bv] (.ae [.aa,ab (bW [fj M,bW (l.map cm),if l.length=M.length then 0 else 2])]))/\
  (fj M=0->bW (l.map cm)=0->l.length=M.length->∀{K:Nat},cX K (bF M)->(∀x,x∈l.map bK->Hq K x)->1<=K->4^M.length*(K+1)<=400000000->
   (¬EP (fk (bF M) (l.map bK)) (wd M)->aj P L 201 [v,bv] (.ae [.aa,ab 14]))/\
   (EP (fk (bF M) (l.map bK)) (wd M)->((kS (fk (bF M) (l.map bK)) (wd M)).any LG=true->aj P L 201 [v,bv] (.ae [.aa,ab 4]))/\
    ((kS (fk (bF M) (l.map bK)) (wd M)).any LG=false->∃r,aj P L 201 [v,bv] (.ae [r,ab 0])/\bZ (bH r) ((kS (fk (bF M) (l.map bK)) (wd M)).map RT)))):=by
 have e1:=P4 h.toCk h.qK h.Bz h.BA h.Hs hv hl hr;have e2:=alm h.toCk h.qK hb ll hs;have e3:=mH h.oc (!decide ((l.length:Int)=(M.length:Nat))) 2;have q3:(if (!decide ((l.length:Int)=(M.length:Nat)))=true then (2:Int) else 0)=if l.length=M.length then 0 else 2:=by
  simp only [Bool.not_eq_true',vm];split<;>split<;>omega
 rw [q3] at e3;have e5:aj P L 125 _ _:=Nd.Kb h.Kc (lE true [fj M,bW (l.map cm),if l.length=M.length then 0 else 2]) (by simp);simp only [yz,yO,xc,vD] at e5;unfold aj at e1 e2 e3 e5;constructor
 ·intro hE;generalize (if l.length=M.length then (0:Int) else 2)=x3 at*
  generalize fj M=x1 at*
  generalize bW (l.map cm)=x2 at*
  unfold aj;rw [aH Dk];simp only [go_sem,ya,yb,yD,yp,yh,nV,hv.len,hv.ak,hb.len,hb.ak,e1,e2,e3,e5,hE,yy,yP]
 ·intro hM hc lV K hk La Ca hK;obtain ⟨m0,m64,cB⟩:=AZ hM;have hw:=Ec (M:=M) (fun r bn=>(cB r bn).1);have lM:=H4 M;have gP:∀s,s∈l->cm s=0:=LJ hc;have lbl:(l.map bK).length=(bF M).length:=by rw [yt,lM];exact lV
  have hW:=R9 hw lbl;have lW:=rE lbl;have hkW:=aAz hk La lbl;have aCC:wd M<=64/\0<wd M:=by
   have:=cB _ (yF m0)
   unfold wd;rw [Je m0];omega
  obtain ⟨x,x1,hx⟩:=ai9 h.toCk h.sK h.BB hv hl (fun r bn=>⟨(hr r bn).1,(cB r bn).2.2.2⟩);have hx:cg zW (shut x) (bF M):=hx;have f0:=ay0 (P:=P) (L:=L) h.toCk hv.pu hx hw (by omega) hb (by omega) (by omega) (by omega) gP (bF M).length;rw [lM] at f0;rw [hM,hc,yQ lV] at e5;rw [hM] at e1;rw [hc] at e2;rw [yQ lV] at e3;obtain ⟨r0,rest,ew,a0⟩:=hv.aQ (i:=0) m0;have iG:M[0].length=wd M:=(cB _ (yF m0)).1;unfold aj at x1;have SZ:∃hp ct T,D P L (mF 3 nV.body) ⟨eh 0 [v,bv],[],0,0⟩=some (.normal,⟨[(0,v),(7,.aB 0 0 M.length)],hp,ct,0⟩)/\T.length=M.length/\cf QL T (fk (bF M) (l.map bK))/\me hp false false 4 (ym T.length (wd M+1)) T 0:=by
   have z0:bW [0,0,0]=0:=by decide
   rw [z0] at e5;simp only [go_sem,ya,yb,yD,yp,yh,nV,mF,bt,aC,hv.len,hv.ak,hb.len,hb.ak,e1,e2,e3,e5,yq,yM,x1,hx.len,lM];generalize hq:D P L (.loop [0,1,7,34,35,36] Ey) _=q;obtain ⟨ex,st,rfl,tm,hp,ct,T,rfl,rfl,t0,t7,lT,hQ,hG⟩:=bQ hq f0 ⟨0,[],by omega,rfl,by simp [cf],.inl ⟨rfl,by simp only [go_sem,ya,ax,au hv.pu,ay _ hv.pu,au hb.pu,ay _ hb.pu,au hx.pu,ay _ hx.pu]<;>rfl⟩⟩
   obtain ⟨ap,e,hG'⟩:=hG.comp (ct:=ct) (live:=[0,7]) (tm:=tm) (tm':=[(0,v),(7,.aB 0 0 M.length)]) (by simp only [go_sem,t0,t7,au hv.pu]<;>rfl) (by omega) (fun S q=>by simp only [go_sem,t0,t7,q,ay _ hv.pu]<;>rfl)
   simp only [go_sem,e];exact ⟨_,_,T,rfl,lT,hQ,hG'⟩
  obtain ⟨hp,ct,T,hS,lT,hQ,hG⟩:=SZ;have hD:D P L nV.body ⟨eh 0 [v,bv],[],0,0⟩=D P L (jv 3 nV.body) ⟨[(0,v),(7,.aB 0 0 M.length)],hp,ct,0⟩:=by
   rw [Ij 3 (c:=nV.body) (by refine ⟨rfl,rfl,rfl,?_⟩;show _=_;rfl),hS,fm]
  have hvR:cg cT (.aA false M.length (wT (fun w r=>AV.aA false w r) (ym T.length (wd M+1)) T)) (fk (bF M) (l.map bK)):=by
   have:=AJ false (abr (k:=wd M+1) false hQ (fun r bn=>zg hW bn))
   rwa [lW,lM] at this
  have BX:=fun n (hn:T.length+4<=n)=>hG.zP (n:=n) (by decide) (fun i h1 h2=>by
   rw [ag4 hQ (fun r bn=>zg hW bn) _ (yF h1),List.getElem_replicate])  hn
  have Bg:∀hp:Hp,iX 0 M.length (some (false,1,wT (fun w r=>AV.aA false w r) (ym T.length (wd M+1)) T,hp))=some (.aA false M.length (wT (fun w r=>AV.aA false w r) (ym T.length (wd M+1)) T),hp):=fun hp=>lC false (by rw [acp (by simp),lT,yh]) (by decide)
  obtain ⟨jJ,ez⟩:=BX 997 (by omega);have g0:=hG.m;clear BX hG hS;generalize hWe:fk (bF M) (l.map bK)=W at*
  have lWM:W.length=M.length:=by rw [lW,lM]
  obtain ⟨r3,q3,e6,Aq,Gi⟩:=alr h.toFr' h.qM h.Ki hvR hW (by omega) (by omega) (by omega) hkW Ca (by rw [lWM];exact hK)
  have hP:=AY hW (wd M+1);have oL:=hP.pv;have wr1:IntKind.wrap .i64 (((wd M:Nat):Int)-1)=((wd M-1:Nat):Int):=by
   rw [show (((wd M:Nat):Int)-1)=((wd M-1:Nat):Int) by omega];exact wrap64 (by omega) (by omega)
  have lq:∀hp:Hp,fP hp 1 (bH q3)=some (ab ((aJ W (wd M+1)).2.length:Nat)):=fun hp=>by
   have:=Gi.len (hp:=hp);rwa [yt] at this
  unfold aj at e6;by_cases hlen:(aJ W (wd M+1)).2.length=wd M
  ·have ev:=Gi.aQ (i:=wd M-1) (by rw [yt];omega);rw [wu] at ev;have zC:decide (((aJ W (wd M+1)).2.length:Int)=(wd M:Nat))=true:=xo (by omega);have hgd:(aJ W (wd M+1)).2.getD (wd M-1) 0=(aJ W (wd M+1)).2[wd M-1]'(by omega):=by simp [y7,xU (show wd M-1<(aJ W (wd M+1)).2.length by omega)]
   by_cases qC:(aJ W (wd M+1)).2[wd M-1]'(by omega)=wd M-1
   ·have fq:decide ((((aJ W (wd M+1)).2[wd M-1]'(by omega):Nat):Int)=((wd M-1:Nat):Int))=true:=xo (by omega);have er:EP W (wd M):=⟨hlen,by rw [hgd];exact qC⟩
    refine ⟨fun q=>absurd er q,fun _=>?_⟩;rw [hlen] at Aq;have lR:((aJ W (wd M+1)).1.take (wd M)).length=wd M:=by rw [yI,Cs];omega
    have f1:=ay1 (P:=P) (L:=L) Aq (asI hP.wid (wd M)) (by omega) (by omega) (wd M);rw [lR] at f1;have Km:((aJ W (wd M+1)).1.take (wd M)).map (fun r=>cC r (wd M))=kS W (wd M):=rfl;rw [Km] at f1;obtain ⟨J,J0,J1,J2⟩:=SX hW hkW Ca (wd M+1) (yr _);have hJ:J<=4000000000:=by
     have h1:4^(aJ W (wd M+1)).2.length<=4^M.length:=xh (by decide) (by omega)
     have:=yV (K+1) h1
     omega
    have hsH:∀x,x∈kS W (wd M)->Hq J x:=fun x Ap=>by
     obtain ⟨r,bn,rfl⟩:=xZ.1 Ap;have hrm:=List.mem_of_mem_take bn;have hwr:=zg hP.wid hrm;rw [ir (by omega)];exact Ct J2 hrm _ (yF _)
    have ls:(kS W (wd M)).length=wd M:=by rw [<-Km,yt,lR]
    obtain ⟨w',Gn⟩:∃w',wd M=w'+1:=⟨wd M-1,by omega⟩;have hG:∀out,QL out (kS W (wd M))->_:=fun out hO=>als h.toTx h.Pb h.Pc (v:= .aA true 1 [.aA false (wd M) out]) (M:=[kS W (wd M)]) (by
     have h1:=H0 false hO;rw [ls] at h1
     exact AJ true (rows:=[.aA false (wd M) out]) (s:=[kS W (wd M)]) ⟨h1,trivial⟩) (by simp) (fun r bn=>by simp only [xF] at bn;rw [bn,ls];omega) (K:=J) (fun r bn=>by simp only [xF] at bn;rw [bn];exact hsH) hJ
    have z7:lh [kS W (wd M)]=(kS W (wd M)).any LG:=by simp [lh]
    rw [z7] at hG;have fI:∀(out:List AV) (hp:Hp),QL out (kS W (wd M))->iX 0 (wd M) (some (false,4,out,hp))=some (.aA false (wd M) out,hp):=fun out hp hO=>lC false (by rw [hO.len,ls]) (by decide)
    constructor
    ·intro DU;unfold aj;rw [aH Dk,hD];simp only [go_sem,ya,nV,jv,aC,im,a0,ew.len,iG,g0,ez,Bg,e6,oQ,oN,oO,lq,zC,yM,wr1,Aw,ev,fq,Aq.len,lR];generalize hq:D P L (.loop [10,13,76,77,78] CB) _=q;obtain ⟨ex,st,rfl,tm,ct,out,rfl,rfl,t13,hO⟩:=bQ hq f1 ⟨0,[],by omega,trivial,by simp only [go_sem,ya,ax,oV,oH,oC,au Aq.pu,ay _ Aq.pu]<;>rfl⟩
     have g:=(hG out hO).1 DU;have Kn:=fun hp=>fI out hp hO
     unfold aj at g;rw [Gn] at t13 g Kn ⊢;simp only [oV,oH] at t13 ⊢;simp only [go_sem,ya,yb,yD,yp,yh,ax,t13,Kn,g,HG,sR,Int.reduceEq,yy,yP]
    ·intro DU;have ay2:∃out,QL out (kS W (wd M))/\∀y row rest,(aj P L 226 [.aA true 1 [.aA false (wd M) out]] (.ae [y,ab 0]))->iN 1 0 (bH y)=some (.b5 (row::rest))->a6 (bH y)=true->(∀hp:Hp,result hp (.ae [row,ab 0])=some (.ae [row,ab 0]))->aj P L 201 [v,bv] (.ae [row,ab 0]):=by
      unfold aj;rw [aH Dk,hD];simp only [go_sem,ya,nV,jv,aC,im,a0,ew.len,iG,g0,ez,Bg,e6,oQ,oN,oO,lq,zC,yM,wr1,Aw,ev,fq,Aq.len,lR];generalize hq:D P L (.loop [10,13,76,77,78] CB) _=q;obtain ⟨ex,st,rfl,tm,ct,out,rfl,rfl,t13,hO⟩:=bQ hq f1 ⟨0,[],by omega,trivial,by simp only [go_sem,ya,ax,oV,oH,oC,au Aq.pu,ay _ Aq.pu]<;>rfl⟩
      refine ⟨out,hO,fun y row rest g g2 g3 g4=>?_⟩;have Kn:=fun hp=>fI out hp hO
      rw [Gn] at t13 g Kn ⊢;simp only [oV,oH] at t13 ⊢;simp only [go_sem,ya,yb,yD,yp,yh,ax,t13,Kn,g,sR,yq,yM,g2,g4]
     obtain ⟨out,hO,aR⟩:=ay2;obtain ⟨y,g,hy⟩:=(hG out hO).2 DU;obtain ⟨row,rest,ff,e8⟩:=hy.aQ (i:=0) (by simp);simp only [xc,vD,xS] at ff;refine ⟨row,aR y row rest g e8 hy.pu (fun hp=>?_),by rw [ff.bH];exact ff⟩
     rcases ff with ⟨rfl,_⟩ | ⟨e,h2⟩
     ·rfl
     ·rw [h2];rfl
   ·have fq:decide ((((aJ W (wd M+1)).2[wd M-1]'(by omega):Nat):Int)=((wd M-1:Nat):Int))=false:=xa (by omega);refine ⟨fun _=>?_,fun q=>absurd q.2 (by rw [hgd];exact qC)⟩
    unfold aj;rw [aH Dk,hD];simp only [go_sem,ya,nV,jv,aC,im,a0,ew.len,iG,g0,ez,Bg,e6,oQ,oN,oO,lq,zC,yM,yP,wr1,Aw,ev,fq]
  ·have zC:decide (((aJ W (wd M+1)).2.length:Int)=(wd M:Nat))=false:=xa (by omega);refine ⟨fun _=>?_,fun q=>absurd q.1 hlen⟩;unfold aj;rw [aH Dk,hD];simp only [go_sem,ya,nV,jv,aC,im,a0,ew.len,iG,g0,ez,Bg,e6,oQ,oN,oO,lq,zC,yP]
end
end
section
section
variable {W:Mx} {w:Nat} {x:Nat->Rat}
def ag5 (hx:∀i,i<W.length->sm (fun k=>E W i k*x k) w=E W i w):∀i,i<W.length->sm (fun k=>E W i k*(if k=w then -1 else x k)) (w+1)=0:=fun i hi=>by
 rw [sm,qj (g:=fun k=>E W i k*x k) (fun k hk=>by rw [yB (by omega)]),hx i hi,yQ rfl];grind
def adB (hw:wid (w+1) W) (hx:∀i,i<W.length->sm (fun k=>E W i k*x k) w=E W i w):w∉(aJ W (w+1)).2:=fun hm=>by
 have h:=El hw (w+1) (yr _);obtain ⟨i,hi,e,sN⟩:=h.pvm hm;have e1:=(h.up i sN).dot (ag5 hx);rw [sm,Ek (fun k hk=>by rw [h.left i hi k (by omega)];grind),yQ rfl] at e1
 have e2:=h.one i hi i sN;rw [e,yQ rfl] at e2;rw [e2,show (0:Rat)+1* -1= -1 by grind] at e1;exact absurd e1 (by decide)
def au9 (hw:wid (w+1) W) (hx:∀i,i<W.length->sm (fun k=>E W i k*x k) w=E W i w) (hl:(aJ (fH w W) w).2.length=w):∀i,i<w->E (aJ W (w+1)).1 i w=x i:=fun i hi=>by
 have h:=El hw (w+1) (yr _);obtain ⟨p1,p2⟩:=au8 hw (adB hw hx) hl;have oL:=h.pv.pv;have e1:=(h.up i (by omega)).dot (ag5 hx)
 rw [sm,aio hi (fun k hk dc=>by
  have:=h.one k (by omega) i (by omega)
  rw [p2 k (by omega),yB (fun q=>dc q.symm)] at this
  rw [this];grind),yB (by omega),yQ rfl] at e1
 have e2:=h.one i (by omega) i (by omega);rw [p2 i (by omega),yQ rfl] at e2;rw [e2] at e1
 grind
end
end
section
def aiq (a:List Rat) (B:Mx) (c:Nat):∀k,mc a B c k=sm (fun j=>cC a j*E B j c) k
 | 0=>rfl
 | k+1=>by rw [mc,sm,aiq a B c k];rfl
def M0 {A B:Mx} {w i c:Nat} (hi:i<A.length) (hc:c<w):E (dt A B w) i c=sm (fun j=>E A i j*E B j c) (gR A i).length:=by
 unfold E;rw [di (by simp [dt,hi]),di hi];simp only [dt,wu];rw [ir (by rw [AK];exact hc)]
 simp only [mulR,wu,List.getElem_range];rw [aiq];rfl
def H6 (A B:Mx) (w:Nat):wid w (dt A B w):=fun i hi=>by
 rw [di hi];simp [dt,AK]
def Mn (A B:Mx) (w:Nat):(dt A B w).length=A.length:=by simp [dt]
def ao1 {A B C:Mx} {a b c:Nat} (hA:wid a A) (hB:wid b B) (la:B.length=a):dt (dt A B b) C c=dt A (dt B C c) c:=by
 refine uo (by simp [dt]) (fun i h1 h2=>?_);have hi:i<A.length:=by simpa [dt] using h1
 have wl:=H6 (dt A B b) C c i h1;have wr:=H6 A (dt B C c) c i h2;rw [di h1] at wl;rw [di h2] at wr;refine uo (by omega) (fun k k1 k2=>?_);have hk:k<c:=by omega
 have e1:=M0 (A:=dt A B b) (B:=C) (w:=c) (i:=i) (c:=k) (by rw [Mn];exact hi) hk
 have e2:=M0 (A:=A) (B:=dt B C c) (w:=c) (i:=i) (c:=k) hi hk;unfold E at e1 e2;rw [di h1,ir k1] at e1;rw [di h2,ir k2] at e2;rw [e1,e2];have w1:=H6 A B b i (by rw [Mn];exact hi)
 rw [w1,hA i hi];have f1:∀j,j<b->cC (gR (dt A B b) i) j*cC (gR C j) k=sm (fun t=>E A i t*(E B t j*E C j k)) a:=fun j hj=>by
  have:=M0 (A:=A) (B:=B) (w:=b) (i:=i) (c:=j) hi hj
  unfold E at this;rw [hA i hi] at this;rw [this,show sm (fun t=>cC (gR A i) t*cC (gR B t) j) a*cC (gR C j) k=cC (gR C j) k*sm (fun t=>cC (gR A i) t*cC (gR B t) j) a by grind,<-EO];exact qj (fun t _=>by unfold E;grind)
 have f2:∀t,t<a->cC (gR A i) t*cC (gR (dt B C c) t) k=sm (fun j=>E A i t*(E B t j*E C j k)) b:=fun t ht=>by
  have:=M0 (A:=B) (B:=C) (w:=c) (i:=t) (c:=k) (by omega) hk
  unfold E at this;rw [hB t (by omega)] at this;rw [this,<-EO];exact qj (fun j _=>by unfold E;rfl)
 rw [qj f1,qj f2,R8]
end
section
open Go (IntKind)
def dE (X:List Rat):Mx:=X.map fun x=>[x]
def dJ (A:Mx) (X:List Rat):List Rat:=A.map fun r=>iZ r X r.length
def RH (X:List Rat):wid 1 (dE X):=fun i hi=>by rw [di hi];simp [dE]
def asN (X:List Rat) (k:Nat):cC (gR (dE X) k) 0=cC X k:=by
 unfold gR cC dE;simp only [y7,yat];cases X[k]?<;>rfl
def ag6 (r X:List Rat):∀k,mc r (dE X) 0 k=iZ r X k
 | 0=>rfl
 | k+1=>by rw [mc,iZ,ag6 r X k,asN]
def RI (A:Mx) (X:List Rat):dt A (dE X) 1=dE (dJ A X):=by
 show xH (fun a=>mulR a (dE X) 1) A=xH (fun x=>[x]) (xH (fun r=>iZ r X r.length) A)
 rw [vE];refine wW fun r _=>?_
 show mulR r (dE X) 1=[_]
 unfold mulR;show [mc r (dE X) 0 r.length]=[iZ r X r.length]
 rw [ag6]
def air (a b:List Rat):∀k,iZ a b k=sm (fun j=>cC a j*cC b j) k
 | 0=>rfl
 | k+1=>by rw [iZ,sm,air a b k]
def aqG {r:List Rat} {x:Rat} {k:Nat} (h:k<r.length):cC (r++[x]) k=cC r k:=by
 rw [ir (by simp;omega),ir h,xT]
def aqH {r:List Rat} {x:Rat}:cC (r++[x]) r.length=x:=by
 rw [ir (by simp),wm (yr _)];simp
def Ed (A:Mx) (X:List Rat):(dJ A X).length=A.length:=yt _
section
variable {A:Mx} {X:List Rat} {w:Nat} (hw:wid w A)
include hw
def ag7:∀i,i<(fk A (dJ A X)).length->sm (fun k=>E (fk A (dJ A X)) i k*cC X k) w=E (fk A (dJ A X)) i w:=fun i hi=>by
 have hl:=Ed A X;have hiA:i<A.length:=by rw [rE hl] at hi;exact hi
 have wi:=hw i hiA;rw [di hiA] at wi;have hg:gR (fk A (dJ A X)) i=A[i]++[iZ A[i] X A[i].length]:=by
  rw [di hi,Il hiA (by omega)];simp [dJ]
 unfold E;rw [hg,show cC (A[i]++[iZ A[i] X A[i].length]) w=iZ A[i] X A[i].length by rw [<-wi];exact aqH,air,wi]
 exact qj (fun k hk=>by rw [aqG (by omega)])
def ava (lX:X.length=w) (h0:0<w) (hr:(aJ A w).2.length=w):EP (fk A (dJ A X)) w/\kS (fk A (dJ A X)) w=X:=by
 have hl:=Ed A X;have hW:=R9 hw hl;have hc:=ag3 hw hl;have hn:=adB hW (ag7 hw);have er:=(ag2 hW h0).1 ⟨hn,by rw [hc];exact hr⟩
 refine ⟨er,?_⟩;have aCJ:=au9 hW (ag7 (X:=X) hw) (by rw [hc];exact hr)
 have hP:=(AY hW (w+1)).pv;have h1:=er.1;refine uo (by unfold kS;rw [yt,yI,lX,Cs];omega) (fun i h1 h2=>?_)
 have:=aCJ i (by omega)
 rw [ir h2] at this;rw [<-this];have hs:(kS (fk A (dJ A X)) w)[i]=cC ((aJ (fk A (dJ A X)) (w+1)).1[i]'(by rw [Cs];omega)) w:=by simp [kS]
 rw [hs];unfold E;rw [di (by rw [Cs];omega)]
def avb (h0:0<w) (hr:(aJ A w).2.length≠w):¬EP (fk A (dJ A X)) w:=fun q=>by
 have hl:=Ed A X
 have:=(ag2 (R9 hw hl) h0).2 q
 rw [ag3 hw hl] at this;exact hr this.2
end
def ajd {M:Mx} {w K:Nat} (hw:wid w M) (m0:0<M.length) (m64:M.length<=64) (w0:0<w) (w64:w<=64) (hk:cX K M) (hK:K<=1800):fj (M.map (xH RT))=0/\bF (M.map (xH RT))=M/\wd (M.map (xH RT))=w/\∀r,r∈M.map (xH RT)->r.length<=1000000/\∀s,s∈r->s.length<=1000000000:=by
 have hwd:wd (M.map (xH RT))=w:=by
  unfold wd;rw [Je (by rw [yt];exact m0),wu,yt]
  exact zg hw (yF m0)
 have ff:∀r,r∈M->∀x,x∈r->Hq K x:=fun r hr=>Ct hk hr
 refine ⟨ayY (by rw [yt];exact m0) (by rw [yt];exact m64) (fun r hr=>?_),?_,hwd,fun r hr=>?_⟩
 ·obtain ⟨q,hq,rfl⟩:=xZ.1 hr
  have:=zg hw hq
  rw [hwd,yt];refine ⟨this,by omega,by omega,fun s hs=>?_⟩;obtain ⟨x,hx,rfl⟩:=xZ.1 hs;exact aik (ff q hq x hx) hK
 ·unfold bF;rw [vE];refine (wW (fun r hr=>?_)).trans (uY M);show (r.map RT).map bK=r
  rw [vE];refine (wW (fun x hx=>?_)).trans (uY r);obtain ⟨h1,h2⟩:=IU (ff r hr x hx) hK;exact adu h1 h2
 ·obtain ⟨q,hq,rfl⟩:=xZ.1 hr
  have:=zg hw hq
  refine ⟨by rw [yt];omega,fun s hs=>?_⟩;obtain ⟨x,hx,rfl⟩:=xZ.1 hs
  have:=IT (ff q hq x hx)
  omega
def Sa {A B:Mx} {w a K:Nat} (hA:wid a A) (ka:cX K A) (kb:cX K B) (jT:2<=K):cX (2+a*(2*K+1)) (dt A B w):=fun i hi x hx=>by
 rw [di hi] at hx;have dT:i<A.length:=by simpa [dt] using hi
 have h2:(dt A B w)[i]=mulR A[i] B w:=by simp [dt]
 rw [h2] at hx
 have:=ail (Ct ka (yF dT)) kb jT x hx
 rwa [zg hA (yF dT)] at this
def aqI {M:Mx} {K:Nat} (hk:cX K M) (hK:K<=1800):lh M=false:=by
 unfold lh;rw [yaA];intro r hr;rw [yaJ,yaA];intro x hx;rw [yaJ];exact ai8 (Ct hk hr x hx) hK
section
variable {P:aI} {L:Lib}
def MO (h:Li P L) (qO:Has P L 200 nU) {u v:AV} {A B:Mx} {a b K:Nat} (hu:cg bZ u (A.map (xH RT))) (hv:cg bZ v (B.map (xH RT))) (hA:wid a A) (hB:wid b B) (a0:0<A.length) (a64:A.length<=64) (b0:0<B.length) (b64:B.length<=64) (wa:0<a) (aCK:a<=64) (wb:0<b) (aCL:b<=64) (ka:cX K A) (kb:cX K B) (jT:2<=K) (hK:2+a*(2*K+1)<=1800):
  (a≠B.length->aj P L 200 [u,v] (.ae [.aa,ab 2]))/\(a=B.length->∃r,aj P L 200 [u,v] (.ae [r,ab 0])/\cg bZ (bH r) ((dt A B b).map (xH RT))):=by
 have alv:K<=1800:=by
  have:=yV (2*K+1) wa
  omega
 obtain ⟨x1,x2,x3,x4⟩:=ajd hA a0 a64 wa aCK ka alv;obtain ⟨y1,y2,y3,y4⟩:=ajd hB b0 b64 wb aCL kb alv;obtain ⟨_,g2⟩:=aCE h qO hu hv (by rw [yt];omega) (by rw [yt];omega) x4 y4;obtain ⟨g3,g4⟩:=g2 x1 y1;rw [x2,y2,x3,y3,yt] at g4;rw [x3,yt] at g3;refine ⟨g3,fun oG=>?_⟩;exact (g4 oG ka kb jT (by omega)).2 (aqI (Sa hA ka kb jT) hK)
end
end
section
open Go (IntKind)
section
variable {P:aI} {L:Lib}
def ay3 {u ov xv:AV} {l:List (List Nat)} (hu:a6 u=true) (ho:a6 ov=true) (hx:bZ xv l) (hn:l.length<=1000) (h0:0<l.length):
  ∀(d:Nat) (st:St),(∃i:Nat,i+d=l.length/\((i=0/\aS [0,1,2,7,61,62] st=⟨[(0,u),(1,ov),(2,xv),(7,.aa),(61,ab l.length),(62,ab i)],[],0,0⟩)\/(0<i/\∃hp,aS [0,1,2,7,61,62] st=⟨[(0,u),(1,ov),(2,xv),(7,.aB 0 0 i),(61,ab l.length),(62,ab i)],hp,1+i,0⟩/\me hp false true 1 (ym i 1) ((l.take i).map fun s=>[.str s]) 0)))->
   ∃ex s',D P L (.loop [0,1,2,7,61,62] EI) st=some (ex,s')/\∃tm hp ct,s'=⟨tm,hp,ct,0⟩/\ex= .exit 0/\ai tm 0=u/\ai tm 1=ov/\ai tm 2=xv/\ai tm 7= .aB 0 0 l.length/\me hp false true 1 (ym l.length 1) (l.map fun s=>[.str s]) 0:=by
 intro dq sq;generalize bB:aS [0,1,2,7,61,62] sq=s0;revert bB s0 sq dq;apply dI;rintro d st ⟨i,hid,aR⟩;by_cases hi:i<l.length
 ·left
  have e1:=hx.aQ hi;have w4:IntKind.wrap .i64 ((i:Int)+1)=((i+1:Nat):Int):=wrap64 (by omega) (by omega);have sM:(i:Int)<l.length:=by omega
  have hT:(l.take (i+1)).map (fun s=>[AV.str s])=(l.take i).map (fun s=>[.str s])++[[.str l[i]]]:=by
   rw [yY hi,xu];rfl
  have lT:((l.take i).map fun s=>[AV.str s]).length=i:=by rw [yt,yI];omega
  rcases aR with ⟨q9,rfl⟩ | ⟨q9,hp,rfl,hM⟩
  ·subst q9;simp only [go_sem,ya,yb,xg,yD,yp,yh,EI,sM,e1,gX,w4];refine ⟨_,d-1,rfl,by omega,1,by omega,.inr ⟨by omega,?_⟩⟩;rw [hT];refine ⟨[(1,.cells true true true 1 [.str l[0]]),(0,.cells true false false 1 [.aB 1 0 1])],by simp only [go_sem,ya,yb,ax,au hu,ay _ hu,au ho,ay _ ho,au hx.pu,ay _ hx.pu]<;>rfl,⟨rfl,rfl,fun k hk=>?_⟩⟩
   have:k=0:=by simp at hk;omega
   subst this;rfl
  ·have g0:=hM.m;rw [lT] at g0;simp only [go_sem,ya,yb,yp,yh,EI,sM,e1]
   rw [fY (sz:=1) (ex:=false) (pu:=false) (cs:=iI (iB i) (ym i 1) 0) (by rw [fL _ _ (by omega),fL _ _ (by omega)];exact g0) (by simp [iI,re,rB]) (by omega) (by omega) (by decide) (by simp only [go_sem])]
   simp only [go_sem,ya,w4];refine ⟨_,d-1,rfl,by omega,i+1,by omega,.inr ⟨by omega,?_⟩⟩;rw [hT,yad]
   refine agV (x:=false) (r:=0) hM lT (a:=1+i+1+1) (b:=1+i) (by simp only [go_sem,ya,au hu,au ho,au hx.pu]<;>rfl) (by omega) (by omega) (by omega) (by rw [jn];simp [iI]) (fun j hj=>?_) ?_ (by omega) (fun S q=>by simp only [go_sem,ya,q,ay _ hu,ay _ ho,ay _ hx.pu]<;>rfl)
   ·rw [fL _ _ (by omega),fL _ _ (by omega),LK,yB (by omega),fL _ _ (by omega)]
   ·rw [fL _ _ (by omega),fL _ _ (by omega),LK,yB (by omega),jn]
 ·right
  have:i=l.length:=by omega
  subst this;rcases aR with ⟨q9,rfl⟩ | ⟨q9,hp,rfl,hM⟩
  ·omega
  ·rw [xx] at hM;simp only [go_sem,ya,EI,show ¬(l.length:Int)<l.length by omega];exact ⟨_,_,rfl,by simp,_,_,_,rfl,rfl,by simp only [go_sem,ya],by simp only [go_sem,ya],by simp only [go_sem,ya],by simp only [go_sem,ya],hM⟩
def asP {pv:AV} {b:List Rat} (hp:cg bZ pv ((dE b).map (xH RT))) {i:Nat} (hi:i<b.length):∃r rest Nq,iN 1 i pv=some (.b5 (r::rest))/\bZ r [RT b[i]]/\iN 1 0 r=some (.b5 (.str (RT b[i])::Nq)):=by
 have hl:((dE b).map (xH RT)).length=b.length:=by simp [dE]
 obtain ⟨r,rest,hr,e⟩:=hp.aQ (i:=i) (by rw [hl];exact hi)
 have:((dE b).map (xH RT))[i]'(by rw [hl];exact hi)=[RT b[i]]:=by simp [dE]
 rw [this] at hr;have e2:=hr.aQ (i:=0) (by simp);exact ⟨r,rest,_,e,hr,e2⟩
def ay4 (h:Rxi P L) (Kk:Has P L 352 JE) {u ov xv cv pv:AV} {A:Mx} {X:List Rat} {w:Nat} (hu:cg bZ u (A.map (xH RT))) (ho:a6 ov=true) (hx:bZ xv (X.map RT)) (hc:a6 cv=true) (hp:cg bZ pv ((dE (dJ A X)).map (xH RT))) (hw:wid w A) (lX:X.length=w) (qX:w<=1000) (hn:A.length<=1000) {K:Nat} (ka:cX K A) (kx:∀x,x∈X->Hq K x) (jT:2<=K) (hK:K<=1800) {rk:Nat}:
  ∀(d:Nat) (st:St),(∃i:Nat,i+d=A.length/\aS [0,1,2,7,9,11,13,97,98] st=⟨[(0,u),(1,ov),(2,xv),(7,cv),(9,pv),(11,ab rk),(13,oV 0 i),(97,ab A.length),(98,ab i)],oH 0 1 (cr ((dJ A X).take i)) [] i,oC 0 i,0⟩)->
   ∃ex s',D P L (.loop [0,1,2,7,9,11,13,97,98] EJ) st=some (ex,s')/\∃tm ct,s'=⟨tm,oH 0 1 (cr (dJ A X)) [] A.length,ct,0⟩/\ex= .exit 2/\ai tm 0=u/\ai tm 1=ov/\ai tm 2=xv/\ai tm 7=cv/\ai tm 9=pv/\ai tm 11=ab rk/\ai tm 13=oV 0 A.length:=by
 intro dq sq;generalize bB:aS [0,1,2,7,9,11,13,97,98] sq=s0;revert bB s0 sq dq;apply dI;rintro d st ⟨i,hid,rfl⟩;have lt:=Ed A X;by_cases hi:i<A.length
 ·left
  obtain ⟨r,rest,Nq,e0,hr,e1⟩:=asP hp (i:=i) (by omega);obtain ⟨a,aHM,ha,e2⟩:=hu.aQ (i:=i) (by rw [yt];exact hi)
  rw [wu] at ha;have wi:=hw i hi;rw [di hi] at wi;have e3:=aCF h.toRn Kk ha hx (by omega) (by omega) (K:=K) (J:=K) (Ct ka (yF hi)) kx jT jT (by omega);have nt:(dJ A X)[i]'(by omega)=iZ A[i] X A[i].length:=by simp [dJ]
  rw [nt] at e1 hr;have lr:∀hp:Hp,fP hp 1 r=some (ab 1):=fun hp=>hr.len
  have hcr:cr ((dJ A X).take (i+1))=cr ((dJ A X).take i)++[.str (RT (iZ A[i] X A[i].length))]:=by
   rw [yY (by omega),nt];simp [cr]
  have Qa:(cr ((dJ A X).take i)).length=i:=by rw [ain,yI];omega
  have w4:IntKind.wrap .i64 ((i:Int)+1)=((i+1:Nat):Int):=wrap64 (by omega) (by omega);unfold aj at e3
  cases i with
  | zero=>
   simp only [oV,oH,oC];simp only [go_sem,ya,yb,xg,yD,yp,yh,EJ,show ((0:Nat):Int)<A.length by omega,e0,lr,yq,yM,im,e1,e2,ha.ak,hx.ak,e3,rD,QZ,gX];refine ⟨_,d-1,rfl,by omega,1,by omega,?_⟩;rw [w4,hcr];simp only [go_sem,ya,yb,ax,au hu.pu,ay _ hu.pu,au ho,ay _ ho,au hx.pu,ay _ hx.pu,au hc,ay _ hc,au hp.pu,ay _ hp.pu]<;>rfl
  | succ i=>
   simp only [oV,oH,oC];simp only [go_sem,ya,yb,yp,yh,EJ,show ((i+1:Nat):Int)<A.length by omega,e0,lr,yq,yM,im,e1,e2,ha.ak,hx.ak,e3,rD,QZ]
   rw [fY (ex:=false) (pu:=true) (cs:=cr ((dJ A X).take (i+1))) (by simp only [go_sem,ya]) (by rw [Qa,yh]) (by omega) (by omega) (by decide) (by simp only [go_sem])];simp only [go_sem,ya,yb];refine ⟨_,d-1,rfl,by omega,i+1+1,by omega,?_⟩;rw [w4,hcr];simp only [go_sem,ya,yb,ax,au hu.pu,ay _ hu.pu,au ho,ay _ ho,au hx.pu,ay _ hx.pu,au hc,ay _ hc,au hp.pu,ay _ hp.pu]<;>rfl
 ·right
  have:i=A.length:=by omega
  subst this;rw [yG (by omega)];simp only [go_sem,ya,EJ,show ¬(A.length:Int)<A.length by omega];exact ⟨_,_,rfl,by simp,_,_,rfl,rfl,by simp only [go_sem,ya],by simp only [go_sem,ya],by simp only [go_sem,ya],by simp only [go_sem,ya],by simp only [go_sem,ya],by simp only [go_sem,ya],by simp only [go_sem,ya]⟩
end
end
end VE
