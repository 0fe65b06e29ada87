import Derived.Test.YtmacbdacedfedaaGreatDoorTas
import Derived.Test.YtmacbdacedfedaaGreatDoorTar
set_option linter.all false
set_option maxRecDepth 100000
open Bool renaming and_eq_true->ye,and_self->vm,and_true->uz,false_and->uP,not_eq_true->ybH,not_false->wH,not_true->xO
open Go.FloatKind renaming f32->tH
open Int renaming mul_add->ycz,mul_le_mul_of_nonneg_left->wQ,mul_zero->ycI,natCast_add->th,natCast_mul->xZ,natCast_zero->ybM,ofNat_tmod->yaD,toNat_of_nonneg->wZ,zero_add->ycH,zero_mul->ycL
open List renaming any_eq_false->uf,any_eq_true->yai,append_assoc->xx,append_nil->wq,cons_append->yx,drop_eq_getElem_cons->yR,drop_eq_nil_of_le->xf,drop_succ_cons->yV,drop_zero->yh,getD_eq_getElem?_getD->yD,getElem?_eq_getElem->yN,getElem_append_left->wP,getElem_append_right->wo,getElem_cons_succ->wY,getElem_cons_zero->wz,getElem_drop->ybu,getElem_map->yah,getElem_mem->xk,getElem_set->yak,getElem_set_ne->ybk,getElem_set_self->tG,length->wu,length_append->yJ,length_cons->yy,length_drop->wD,length_eq_zero_iff->wR,length_map->yL,length_nil->yH,length_set->xE,length_take->yQ,map_append->xA,map_congr_left->vT,map_cons->yZ,map_map->uA,map_nil->vj,map_set->yaB,mem_append->xH,mem_cons->xI,mem_cons_of_mem->xL,mem_cons_self->wI,mem_iff_getElem->xS,mem_map->xM,mem_or_eq_of_mem_set->yaC,mem_range->wL,mem_range'_1->tc,mem_singleton->we,nil_append->yM,nodup_append->uX,nodup_cons->vl,nodup_range'->td,not_mem_nil->yaj,range->wF,range'->xJ,range_succ->ybO,replicate->yp,replicate_succ->wO,set_set->ycA,take_length->xN,take_of_length_le->yG,take_succ_eq_append_getElem->xa,zipWith->vR
open Nat renaming add_eq_zero_iff->ybp,add_mod->yav,add_mul->xP,add_sub_cancel->vN,add_zero->yW,beq->ym,ble->yA,ble_eq_true_of_le->yt,div_add_mod->xz,div_lt_of_lt_mul->ybj,eq_of_mul_eq_mul_left->yaK,le_refl->yu,le_trans->xo,min_eq_left->xj,mod_eq_of_lt->yF,mod_lt->xu,mul_comm->xp,mul_eq_zero->ybU,mul_le_mul->yS,mul_one->yk,mul_pos->vv,one_mul->ybx,pos_of_ne_zero->vW,reduceAdd->yc,reduceEqDiff->ya,reduceLT->yB,reduceLeDiff->yo,reduceMul->xn,succ_mul->ybS,zero_add->yd,zero_div->yaW,zero_mod->yad,zero_mul->vh
open Option renaming getD_some->xF
open Option.some renaming injEq->yb
open Rat renaming intCast_add->yay,intCast_eq_zero_iff->ua,intCast_mul->vn,not_lt->ydg
open Option renaming some->Ft
open Bool renaming true->ydh,false->ydi
namespace VE
open Go (IntKind)
variable {P:aF}{L:Lib}
section
variable {v:AV}{F:List (List Nat)}{l r:List Nat}
def fC(v:AV)(r:List Nat):Prop:=cp v (bY r)
def SG{i:Nat}(h:i<l.length):(bY l)[i]'(by simpa using h)=.ao .f32 l[i]:=by simp[bY]
def Bl(r:List Nat):Bool:=r.any fun b=> !gG b
def Fp(n:Nat)(r:List Nat):Int:=cD [if r.length=n then 0 else 2,if Bl r=ydh then 1 else 0]
def EP(n m:Nat)(F:List (List Nat)):Int:=if F.length=n then cD (F.map (Fp m)) else 2
def nG(z lo hi:Int):Int:=if z<lo\/hi<z then 3 else 0
def ot(C R S:Int):Int:=cD [nG C 1 8,nG R 1 8,nG S 2 8]
def ab4{C R S:Int}(h:ot C R S=0):(1<=C/\C<=8)/\(1<=R/\R<=8)/\2<=S/\S<=8:=by
 obtain⟨h1,h2,h3⟩:=aqO.1 h;unfold nG at h1 h2 h3;refine⟨?_,?_,?_⟩
 .by_cases c:C<1\/8<C
  .rw [yP c] at h1;exact absurd h1 (by decide)
  .omega
 .by_cases c:R<1\/8<R
  .rw [yP c] at h2;exact absurd h2 (by decide)
  .omega
 .by_cases c:S<2\/8<S
  .rw [yP c] at h3;exact absurd h3 (by decide)
  .omega
def p7(C R S:Int)(F:List (List Nat)):Int:=if ot C R S=0 then EP (R.toNat*S.toNat) (C.toNat*S.toNat) F else ot C R S
structure Frc(P:aF)(L:Lib):Prop where
 azo:L.pure 753=Ft GU
 azp:Has P L 641 U7
 azq:Has P L 643 Pb
 azr:Has P L 670 Pe
 V1:Has P L 676 GG
 agh:Has P L 677 Ph
 Bk:Has P L 692 GH
 azs:Has P L 716 U9
 V2:Has P L 717 Pm
 azt:Has P L 741 Vb
 azu:Has P L 742 Vc
 azv:Has P L 752 Po
def azw(h:L.pure 753=Ft GU)(b:Nat):ah P L 753 [.ao .f32 b] (.bool (gG b)):=by
 unfold ah;simp only[bT,h,GU]
def azx(h:Frc P L)(b:Nat):ah P L 742 [.ao .f32 b] (.bool (!gG b)):=by
 have e:=azw (P:=P) h.azo b;unfold ah at e;unfold ah;rw[aJ h.azu];simp only[go_sem,ya,Vc,zx,e]
def azy(h:Has P L 752 Po)(hv:cp v (bY l))(hl:l.length<=1000000){g:Nat}{p:Nat->Bool}(hg:∀x,ah P L g [.ao .f32 x] (.bool (p x))):∃n:Int,ah P L 752 [v,.fn (.f g) [] []] (aa n)/\decide (0<=n)=l.any p:=by
 have hlen:(bY l).length=l.length:=by simp
 have key:=ji P L [0,1,7,8] Gc
  (fun k s=>∃i:Nat,i+k=l.length/\(l.drop i).any p=l.any p/\s=⟨[(0,v),(1,.fn (.f g) [] []),(7,aa l.length),(8,aa i)],[],0,0⟩)
  (fun ex s=>∃tm hp ct,s=⟨tm,hp,ct,0⟩/\((∃n:Int,ex=.ret/\ak tm 4=aa n/\0<=n/\l.any p=ydh)\/(ex=.exit 0/\l.any p=ydi))) ?_
 .unfold ah;rw[aJ h];simp only[go_sem,ya,Po,hv.len,hlen];generalize hq:D P L (.loop _ Gc) _=q;obtain⟨ex,s,rfl,tm,hp,ct,rfl,h2⟩:=bN hq (key l.length) ⟨0,by omega,rfl,by simp only[go_sem,ya,aA,aE hv.pu]<;>rfl⟩
  rcases h2 with ⟨n,rfl,h2,h3,h4⟩ | ⟨rfl,h2⟩
  .exact ⟨n,by simp only[go_sem,h2]<;>rfl,by rw[h4];simpa using h3⟩
  .exact ⟨-1,by simp only[go_sem,aA]<;>rfl,by rw[h2];decide⟩
 .rintro k s ⟨i,hk,hf,rfl⟩;by_cases hi:i<l.length
  .have eD:(i:Int)<l.length:=by omega
   have e1:=hv.bh (i:=i) (by simpa using hi);rw[SG hi] at e1;have e2:=hg l[i];unfold ah at e2;rw[aaG hi] at hf
   cases eK:p l[i] with
   | false=>
    left
    rw[eK] at e2;simp only[go_sem,ya,Gc,eD,e1,zx,e2];rw[eK,Bool.false_or] at hf;refine⟨_,k-1,rfl,by omega,i+1,by omega,hf,?_⟩;rw[wrap64 (by omega) (by omega)];simp only[go_sem,ya,aA,aE hv.pu]<;>rfl
   | true=>
    right
    rw[eK] at e2;simp only[go_sem,ya,Gc,eD,e1,zx,e2];refine⟨_,_,rfl,by simp,_,_,_,rfl,.inl ⟨i,rfl,?_,by omega,?_⟩⟩
    .simp only [go_sem]
    .rw [<-hf,eK,Bool.true_or]
  .right
   simp only[go_sem,ya,Gc,show ¬(i:Int)<l.length by omega];refine⟨_,_,rfl,by simp,_,_,_,rfl,.inr ⟨rfl,?_⟩⟩;rw[<-hf,xf (by omega)];rfl
def azz(V2:Has P L 717 Pm){M:List (List Nat)}(hv:eP fC v M)(hl:M.length<=1000000){g:Nat}{cap:List AV}(hc:aD cap=ydh)(hz:∀(n:Nat) (hp:Hp),cu (n+900) hp cap=Ft (cap,hp)){f:List Nat->Int}(hg:∀w a,a∈M->fC w a->ah P L g (w::cap) (aa (f a))):ah P L 717 [v,.fn (.f g) [] cap] (aa (cD (M.map f))):=by
 have pf:aW (.fn (.f g) [] cap)=ydh:=by simp[aW,aD,hc]
 have key:=ji P L [1,8,9,10] NY
  (fun k s=>∃i:Nat,s=⟨[(1,.fn (.f g) [] cap),(8,v),(9,aa M.length),(10,aa i)],[],0,0⟩/\i+k=M.length/\cD ((M.drop i).map f)=cD (M.map f))
  (fun ex s=>∃tm ct,s=⟨tm,[],ct,0⟩/\((ex=.ret/\ak tm 4=aa (cD (M.map f)))\/(ex=.exit 0/\cD (M.map f)=0))) ?_
 .unfold ah;rw[aJ V2];simp only[go_sem,ya,Pm,hv.len];generalize hq:D P L (.loop _ NY) _=q;obtain⟨ex,s,rfl,tm,ct,rfl,h2⟩:=bN hq (key M.length) ⟨0,by simp only[go_sem,ya,aA,aE hv.pu,aE pf]<;>rfl,by omega,by simp⟩
  rcases h2 with ⟨rfl,h2⟩ | ⟨rfl,h2⟩
  .simp only [go_sem,h2]
  .rw [h2];simp only[go_sem,aA]
 .rintro k s ⟨i,rfl,hk,hf⟩;simp only[go_sem,ya,NY];by_cases hi:i<M.length
  .have eD:(i:Int)<M.length:=by omega
   obtain⟨r,rest,hr,e0⟩:=hv.bh hi;have e1:=hg r _ (xk hi) hr;unfold ah at e1;rw[yR hi,yZ] at hf;simp only[cD] at hf;by_cases eK:f M[i]=0
   .left
    rw[eK] at e1;simp only[go_sem,ya,eD,e0,hr.aj,hz,e1];refine⟨_,k-1,rfl,by omega,i+1,?_,by omega,by rw[yP eK] at hf;exact hf⟩
    rw[wrap64 (by omega) (by omega)];simp only[go_sem,ya,aA,aE hv.pu,aE pf]<;>rfl
   .right
    simp only[go_sem,ya,eD,e0,hr.aj,hz,e1,eK];rw[yz eK] at hf;refine⟨_,_,rfl,by simp,_,_,rfl,.inl ⟨rfl,?_⟩⟩;simp only[go_sem,hf]
  .right
   have eD:¬(i:Int)<M.length:=by omega
   simp only[go_sem,eD];refine⟨_,_,rfl,by simp,_,_,rfl,.inr ⟨rfl,?_⟩⟩;rw[<-hf,xf (by omega)];rfl
def azA(h:Frc P L)(hv:fC v r)(hl:r.length<=1000000):ah P L 741 [v,.fn (.f 742) [] []] (.bool (Bl r)):=by
 obtain⟨n,e1,e2⟩:=azy h.azv hv hl (g:=742) (p:=fun b=> !gG b) (fun x=>azx h x);have e2:decide (0<=n)=Bl r:=e2;have hv:cp v (bY r):=hv;unfold ah at e1 ⊢;rw[aJ h.azt];simp only[go_sem,ya,Vb,hv.aj,e1,e2]
def pJ(a b c:Int)(ct:Nat):Bb ct 3 [aa a,aa b,aa c]=Ft (.ptr ct 0,.cells ydh ydh ydh 3 [aa a,aa b,aa c]):=rfl
def jE(a b c:Int):gI 3 ydh [aa a,aa b,aa c]=Ft (.agg [aa a,aa b,aa c]):=rfl
def azB(h:Frc P L){w:AV}{C R S:Nat}(hC:C<=8)(hS:S<=8)(hw:fC w r)(hl:r.length<=1000000):ah P L 716 [w,cS C R S] (aa (Fp (C*S) r)):=by
 have e1:=azA h hw hl;have hw:cp w (bY r):=hw;have hlen:(bY r).length=r.length:=by simp
 have b1:C*S<=64:=yS hC hS;have m1:(C:Int)*(S:Int)=((C*S:Nat):Int):=by rw[xZ]
 have e2:=K8 h.Bk (!decide ((r.length:Int)=((C*S:Nat):Int))) 2;have q:decide ((r.length:Int)=((C*S:Nat):Int))=decide (r.length=C*S):=decide_eq_decide.2 (by omega);rw[q] at e2;rw[show (if (!decide (r.length=C*S))=ydh then (2:Int) else 0)=(if r.length=C*S then 0 else 2) by by_cases e:r.length=C*S<;>simp[e]] at e2
 have e3:=K8 h.Bk (Bl r) 1;have e4:=agd h.agh (mN ydh [if r.length=C*S then 0 else 2,if Bl r=ydh then 1 else 0]) (by simp);simp only[yy,yH,yd,yc,yZ,vj] at e4;unfold ah at e1 e2 e3 e4 ⊢;rw[aJ h.azs];unfold Fp
 simp only[go_sem,ya,yc,yB,yo,yk,U9,cS,JX,Oa,hw.len,hw.aj,hlen,m1,wrap64 (n:=((C*S:Nat):Int)) (by omega) (by omega),q,e1,e2,e3,e4]
def azC(h:Frc P L){C R S:Nat}(hC:C<=8)(hR:R<=8)(hS:S<=8)(hv:eP fC v F)(hl:F.length<=1000000)(hr:∀r,r∈F->r.length<=1000000):ah P L 670 [.agg [aa C,aa R,aa S],v] (aa (EP (R*S) (C*S) F)):=by
 have e1:=azz h.V2 hv hl (g:=716) (cap:=[cS C R S]) rfl (fun n hp=>rfl) (f:=Fp (C*S)) (fun w r bA hw=>azB h hC hS hw (hr r bA));have b1:R*S<=64:=yS hR hS;have m1:(R:Int)*(S:Int)=((R*S:Nat):Int):=by rw[xZ]
 unfold ah at e1 ⊢;rw[aJ h.azr];unfold cS at e1;unfold EP;by_cases hn:F.length=R*S
 .rw [yP hn]
  simp only[go_sem,ya,Pe,pJ,bj,yd,yh,yV,hv.len,hv.aj,m1,wrap64 (n:=((R*S:Nat):Int)) (by omega) (by omega),hn,yX,e1]
 .rw [yz hn]
  simp only[go_sem,ya,Pe,pJ,bj,yd,yh,yV,hv.len,m1,wrap64 (n:=((R*S:Nat):Int)) (by omega) (by omega),show ¬(F.length:Int)=((R*S:Nat):Int) by omega,xb]
def azD(h:Frc P L)(C R S:Int):ah P L 641 [.agg [aa C,aa R,aa S]] (aa (ot C R S)):=by
 have e1:=VX h.V1 h.Bk C 1 8;have e2:=VX h.V1 h.Bk R 1 8;have e3:=VX h.V1 h.Bk S 2 8;have e4:=agd h.agh (mN ydh [nG C 1 8,nG R 1 8,nG S 2 8]) (by simp);simp only[yy,yH,yd,yc,yZ,vj] at e4;unfold ah at e1 e2 e3 e4 ⊢;rw[aJ h.azp];unfold nG at e4;unfold ot nG;simp only[go_sem,ya,yc,yB,yo,yk,U7,pJ,bj,yd,yh,yV,e1,e2,e3,e4]
def agi(h:Frc P L){C R S:Int}(hv:eP fC v F)(hl:F.length<=1000000)(hr:∀r,r∈F->r.length<=1000000):ah P L 643 [.agg [aa C,aa R,aa S],v] (aa (p7 C R S F)):=by
 have e1:=azD h C R S;have fz:∀(n:Nat) (hp:Hp),freeze (n+20) hp (.agg [aa C,aa R,aa S])=Ft (.agg [aa C,aa R,aa S],hp):=fun n hp=>cr _ _ (by simp only[go_sem])
 unfold ah;rw[aJ h.azq];unfold p7;by_cases h0:ot C R S=0
 .rw [yP h0];obtain⟨⟨a1,a2⟩,⟨b1,b2⟩,c1,c2⟩:=ab4 h0;have e2:=azC h (C:=C.toNat) (R:=R.toNat) (S:=S.toNat) (by omega) (by omega) (by omega) hv hl hr;rw[wZ (by omega),wZ (by omega),wZ (by omega)] at e2;rw[h0] at e1;unfold ah at e1 e2;simp only[go_sem,ya,yc,Pb,pJ,yh,jE,fz,e1,hv.aj,e2]
 .rw [yz h0];unfold ah at e1;simp only[go_sem,ya,yc,Pb,pJ,yh,jE,fz,e1,h0]
end
section
open Go (IntKind)
open Ieee
def avd{b:Nat}{s:Bool}{M:Nat}(h:Fl b s M):Hq 429 (nF s M):=by
 have hM:=h.lt;have k1:Hq 278 (((bX s M:Int)):Rat):=aa1 278 (aem 278 277 hM (by decide)) (by decide);exact (k1.mul (aen (-149))).mono (by decide)
end
section
variable {F:List (List Nat)}{b c m n r:Nat}
noncomputable def fq(b:Nat):Rat:=match Ieee.single.read b with
 | .number s m e=>nF s (eV m e)
 | _=>0
def aer{M:Nat}{s:Bool}(h:Fl b s M):fq b=nF s M:=by
 obtain⟨m,e,h1,h2⟩:=h.ex;unfold fq;rw[h1.read,h2]
def aes(hb:b<4294967296)(hf:gG b=ydh):∃s M,Fl b s M/\fq b=nF s M:=by
 rcases auR hb with ⟨s,M,h⟩ | h
 .exact ⟨s,M,h,aer h⟩
 .rw [hf] at h;cases h
def azE(hb:b<4294967296)(hf:gG b=ydh):Hq 429 (fq b):=by
 obtain⟨s,M,h,e⟩:=aes hb hf;rw[e];exact avd h
structure oL(F:List (List Nat))(n m:Nat):Prop where
 len:F.length=n
 row:∀r,r∈F->r.length=m
 fin:∀r,r∈F->∀b,b∈r->gG b=ydh/\b<4294967296
noncomputable def lF(F:List (List Nat))(c r:Nat):Rat:=fq ((F.getD r []).getD c 0)
def acX{r:List Nat}(h:Fp n r=0):r.length=n/\∀b,b∈r->gG b=ydh:=by
 unfold Fp at h;obtain⟨h1,h2⟩:=aqN.1 h;have h3:r.length=n:=by
  by_cases c:r.length=n
  .exact c
  .rw [yz c] at h1;exact absurd h1 (by decide)
 refine⟨h3,fun b hb=>?_⟩
 cases hf:gG b with
 | true=>rfl
 | false=>
  have:Bl r=ydh:=by
   unfold Bl;rw[yai];exact⟨b,hb,by rw[hf];rfl⟩
  rw[yP this] at h2;exact absurd h2 (by decide)
def arb(h:EP n m F=0)(hb:∀r,r∈F->∀b,b∈r->b<4294967296):oL F n m:=by
 unfold EP at h;by_cases c:F.length=n
 .rw [yP c] at h
  have:=Y4 h
  exact⟨c,fun r hr=>(acX (this r hr)).1,fun r hr b bH=>⟨(acX (this r hr)).2 b bH,hb r hr b bH⟩⟩
 .rw [yz c] at h;exact absurd h (by decide)
def oL.at(h:oL F n m)(hr:r<n)(hc:c<m):∃(h1:r<F.length) (h2:c<F[r].length),lF F c r=fq (F[r][c])/\gG (F[r][c])=ydh/\F[r][c]<4294967296:=by
 have h1:r<F.length:=by rw[h.len];exact hr
 have h2:c<F[r].length:=by rw[h.row _ (xk h1)];exact hc
 refine⟨h1,h2,?_,h.fin _ (xk h1) _ (xk h2)⟩;unfold lF;simp only[yD,yN h1,yN h2,xF]
def oL.H(h:oL F n m)(hr:r<n)(hc:c<m):Hq 429 (lF F c r):=by
 obtain⟨_,_,e,f1,f2⟩:=h.at hr hc;rw[e];exact azE f2 f1
def CK(S i:Nat):Rat:=((2*(i:Int)+1-(S:Int):Int):Rat)/((2:Int):Rat)
def Ob{S i:Nat}(hS:S<=8)(hi:i<=8):Hq 80 (CK S i):=(fO (z:=2*(i:Int)+1-(S:Int)) (by omega)).div (fO (z:=2) (by decide))
def pK(ct:Nat)(a b:Int):Bb ct 2 [aa a,aa b]=Ft (.ptr ct 0,.cells ydh ydh ydh 2 [aa a,aa b]):=rfl
def aet(h:Exc P L)(hb:b<4294967296)(hf:gG b=ydh):∃r,ah P L 685 [.ao .f32 b] r/\cg r (fq b):=by
 obtain⟨s,M,bH,e⟩:=aes hb hf;rw[e];exact azl h.toTx h.VZ bH (aw1 h.toFx h.toTx h.La h.VY bH)
def azF(h:Exc P L)(V3:Has P L 687 Pk){v:AV}(hv:eP fC v F)(hF:oL F n m)(hc:c<m)(hr:r<n):∃x,ah P L 687 [.agg [aa c,aa r],.bq [v]] x/\cg x (lF F c r):=by
 obtain⟨bA,ki,e,f1,f2⟩:=hF.at hr hc;obtain⟨w,rest,hw,e0⟩:=hv.bh bA;have hw:cp w (bY F[r]):=hw;have e1:=hw.bh (i:=c) (by simpa using ki);rw[SG ki] at e1;obtain⟨x,e2,hx⟩:=aet h f2 f1;rw[e];have rF:=hx;obtain⟨x1,x2,x3,x4,rfl,gx⟩:=hx.gen;unfold ah at e2;refine⟨_,?_,rF⟩;unfold ah;rw[aJ V3];simp only[go_sem,ya,yc,Pk,aV,bj,yd,yh,yV,e0,e1,zx,e2,gx.st,bC,c9,db,kN,gx.eb]
def agj(h:Fr' P L)(PP:Has P L 725 Pn){C R S i:Nat}(hS:S<=8)(hi:i<=8):∃x,ah P L 725 [.agg [aa C,aa R,aa S],aa i] x/\cg x (CK S i):=by
 obtain⟨u,e1,hu⟩:=Hs h (z:=2*(i:Int)+1-(S:Int)) (by omega) (by omega);obtain⟨w,e2,hw⟩:=Hs h (z:=2) (by omega) (by omega);obtain⟨x,e3,hx⟩:=Xn h hu hw (by decide) (fO (by omega)) (fO (by decide)) (by decide);obtain⟨u1,u2,u3,u4,rfl,gu⟩:=hu.gen;obtain⟨w1,w2,w3,w4,rfl,gw⟩:=hw.gen;have rF:=hx;obtain⟨x1,x2,x3,x4,rfl,gx⟩:=hx.gen;unfold ah at e1 e2 e3;refine⟨_,?_,rF⟩;unfold ah;rw[aJ PP]
 simp only[go_sem,ya,yc,Pn,aV,bj,yd,yh,yV,wrap64 (n:=2*(i:Int)) (by omega) (by omega),wrap64 (n:=2*(i:Int)+1) (by omega) (by omega),wrap64 (n:=2*(i:Int)+1-(S:Int)) (by omega) (by omega),e1,e2,gu.aj,gw.aj,e3,gx.st,bC,c9,db,kN,gx.eb]
end
section
variable {TM:Env}{M cap:List AV}{C R S a b g i k:Nat}{f x y:Rat}
def dR(f:Nat->Rat):Nat->Rat
 | 0=>0
 | n+1=>dR f n+f n
def OF{f:Nat->Rat}{K N:Nat}(h:∀t,t<N->Hq K (f t)):∀{n:Nat},n<=N->Hq (2+n*(K+1)) (dR f n)
 | 0,_=>af8.mono (by omega)
 | n+1,hn=>((OF h (n:=n) (by omega)).add (h n (by omega))).mono (by rw[xP];omega)
def Mo(M:List AV)(f x y:Rat):Prop:=∃a1 a2 a3 a4 a5 a6 a7 a8 a9 dj dl a12,M=[a1,a2,a3,a4,a5,a6,a7,a8,a9,dj,dl,a12]/\cg (.agg [a1,a2,a3,a4]) f/\cg (.agg [a5,a6,a7,a8]) x/\cg (.agg [a9,dj,dl,a12]) y
section
variable {c1 c2 c3 c4:AV}(h:F4 c1 c2 c3 c4)(hp:Hp)(ct id:Nat)(a1 a2 a3 a4 a5 a6 a7 a8 a9 dj dl a12:AV)
include h
theorem F4.p:aD [c1,c2,c3,c4]=ydh:=by have:=h.pu;simpa[aW] using this
theorem F4.o:bS [c1,c2,c3,c4]=ydh:=by simp[bS,h.o1,h.o2,h.o3,h.o4]
theorem F4.C5:gm hp ct id 0 4 [c1,c2,c3,c4] (Ft (.cells ydh ydh ydh 12 [a1,a2,a3,a4,a5,a6,a7,a8,a9,dj,dl,a12]))=Ft (.ax [],aU hp id (.cells ydh ydh ydh 12 [c1,c2,c3,c4,a5,a6,a7,a8,a9,dj,dl,a12]),ct):=by
 rw[qM (sz:=4) (by rfl) (by simp) h.o,h.p];rfl
theorem F4.st4:gm hp ct id 4 4 [c1,c2,c3,c4] (Ft (.cells ydh ydh ydh 12 [a1,a2,a3,a4,a5,a6,a7,a8,a9,dj,dl,a12]))=Ft (.ax [],aU hp id (.cells ydh ydh ydh 12 [a1,a2,a3,a4,c1,c2,c3,c4,a9,dj,dl,a12]),ct):=by
 rw[qM (sz:=4) (by rfl) (by simp) h.o,h.p];rfl
theorem F4.st8:gm hp ct id 8 4 [c1,c2,c3,c4] (Ft (.cells ydh ydh ydh 12 [a1,a2,a3,a4,a5,a6,a7,a8,a9,dj,dl,a12]))=Ft (.ax [],aU hp id (.cells ydh ydh ydh 12 [a1,a2,a3,a4,a5,a6,a7,a8,c1,c2,c3,c4]),ct):=by
 rw[qM (sz:=4) (by rfl) (by simp) h.o,h.p];rfl
end
def Lc(h:Mo M f x y)(hp:Hp)(ct id:Nat){N:List AV}(hN:N.length=12):gm hp ct id 0 12 M (Ft (.cells ydh ydh ydh 12 N))=Ft (.ax [],aU hp id (.cells ydh ydh ydh 12 M),ct):=by
 obtain⟨a1,a2,a3,a4,a5,a6,a7,a8,a9,dj,dl,a12,rfl,h1,h2,h3⟩:=h;have g1:=h1.f4;have g2:=h2.f4;have g3:=h3.f4;have p1:=g1.p;have p2:=g2.p;have p3:=g3.p;simp only[aD,ye,uz] at p1 p2 p3
 rw[qM (sz:=12) (by rfl) (by simp[hN]) (by simp[bS,g1.o1,g1.o2,g1.o3,g1.o4,g2.o1,g2.o2,g2.o3,g2.o4,g3.o1,g3.o2,g3.o3,g3.o4])];have e:over 0 [a1,a2,a3,a4,a5,a6,a7,a8,a9,dj,dl,a12] N=[a1,a2,a3,a4,a5,a6,a7,a8,a9,dj,dl,a12]:=by
  unfold over;rw[xf (by simp[hN])];rfl
 rw[e];have e2:aD [a1,a2,a3,a4,a5,a6,a7,a8,a9,dj,dl,a12]=ydh:=by simp[aD,p1,p2,p3]
 rw[e2];rfl
structure Mom(P:aF)(L:Lib):Prop extends Fr' P L where
 GW:Has P L 719 KL
 agk:Has P L 673 Pg
 azG:Has P L 724 Va
 PP:Has P L 725 Pn
def Ld:List AV:=[.int .i64 0,.af,.int .i64 0,.af,.int .i64 0,.af,.int .i64 0,.af,.int .i64 0,.af,.int .i64 0,.af]
def jz(A B:VC)(TM:Env)(C R S a b g:Nat)(cap M:List AV)(st:Nat):Hp:=[(5,.lp TM [18,19] A B st .none),(4,.cells ydh ydh ydh 12 M),(3,.cells ydh ydh ydh 12 Ld),(2,.cells ydh ydh ydh 1 [.fn (.f g) [] cap]),(1,.cells ydh ydh ydh 2 [aa a,aa b]),(0,.cells ydh ydh ydh 3 [aa C,aa R,aa S])]
def sD(hp:Hp)(ct id:Nat)(a b:Int)(x y:AV):gm hp ct id 0 2 [aa a,aa b] (Ft (.cells ydh ydh ydh 2 [x,y]))=Ft (.ax [],aU hp id (.cells ydh ydh ydh 2 [aa a,aa b]),ct):=rfl
def CL(n:Nat)(hp:Hp)(a b:Int):freeze (n+20) hp (.agg [aa a,aa b])=Ft (.agg [aa a,aa b],hp):=cr _ _ (by simp only[go_sem])
def ow(n:Nat)(hp:Hp)(a b c:Int):freeze (n+20) hp (.agg [aa a,aa b,aa c])=Ft (.agg [aa a,aa b,aa c],hp):=cr _ _ (by simp only[go_sem])
def XI(P:aF)(L:Lib)(g:Nat)(cap:List AV)(C R:Nat)(q:Nat->Nat->Rat):Prop:=∀c r,c<C->r<R->∃x,ah P L g (.agg [aa c,aa r]::cap) x/\cg x (q c r)
structure zM(cap:List AV):Prop where
 pu:aD cap=ydh
 z:∀(n:Nat) (hp:Hp),cu (n+900) hp cap=Ft (cap,hp)
def UE{A B:VC}(hb:kL 5 TM)(hc:zM cap)(M:List AV)(st:Nat):kM 6 6 (jz A B TM C R S a b g cap M st):=
 ⟨by omega,Yp (by omega) hb,by omega,.inl rfl,by omega,.inl rfl,by omega,.inl rfl,by omega,.inl rfl,by omega,.inl rfl,trivial⟩
def UF{A B:VC}(hn:(dL TM).length<=1000)(M:List AV)(st:Nat):(cI 6 (jz A B TM C R S a b g cap M st)).length<=90000:=by
 have:cI 6 (jz A B TM C R S a b g cap M st)=dL TM:=by
  simp only[jz,D8 _ _ (show 5<6 by omega),D8 _ _ (show 4<6 by omega),D8 _ _ (show 3<6 by omega),D8 _ _ (show 2<6 by omega),D8 _ _ (show 1<6 by omega),D8 _ _ (show 0<6 by omega),iW,yq,wq,aa6]
 rw[this];omega
def azH(h:Mom P L)(t3:ak TM 3=.ptr 0 0)(t5:ak TM 5=.ptr 2 0)(t7:ak TM 7=.ptr 4 0)(hc:zM cap)(hM:Mo M f x y)(kf:Hq 300000 f)(kx:Hq 300000 x)(ky:Hq 300000 y)(hS:S<=8)(hk:k<S)(hi:i<S){n:Rat}(kn:Hq 3000 n){u:AV}(e1:ah P L g (.agg [aa ((a*S+i:Nat):Int),aa ((b*S+k:Nat):Int)]::cap) u)(hu:cg u n):
  ∃M' J,Mo M' (f+n) (x+n*CK S i) (y+n*CK S k)/\(∀p:Nat×Obj,p∈J->6<=p.1)/\fV (D P L) (jz nW nX TM C R S a b g cap M 0) 6 5 (Mg S a b k i)=Ft (.bool ydh,J++jz nW nX TM C R S a b g cap M' 0,9):=by
 obtain⟨a1,a2,a3,a4,a5,a6,a7,a8,a9,dj,dl,a12,rfl,hf,hx,hy⟩:=hM;obtain⟨ci,e2,Hg⟩:=agj h.toFr' h.PP (C:=C) (R:=R) (S:=S) (i:=i) hS (by omega);obtain⟨ck,e3,fk⟩:=agj h.toFr' h.PP (C:=C) (R:=R) (S:=S) (i:=k) hS (by omega);have kci:=Ob hS (show i<=8 by omega);have kck:=Ob hS (show k<=8 by omega);obtain⟨s,e4,hs⟩:=Qz h.toFr' hf hu (K:=300000) kf (kn.mono (by omega)) (by decide);obtain⟨px,e5,BI⟩:=QB h.toFr' hu Hg (K:=3000) kn (kci.mono (by omega)) (by decide);obtain⟨py,e6,W0⟩:=QB h.toFr' hu fk (K:=3000) kn (kck.mono (by omega)) (by decide);obtain⟨sx,e7,hsx⟩:=Qz h.toFr' hx BI (K:=300000) kx ((kn.mul kci).mono (by omega)) (by decide);obtain⟨sy,e8,hsy⟩:=Qz h.toFr' hy W0 (K:=300000) ky ((kn.mul kck).mono (by omega)) (by decide);have gf:=hf.f4;have gx:=hx.f4;have gy:=hy.f4;obtain⟨u1,u2,u3,u4,rfl,gu⟩:=hu.gen;obtain⟨i1,i2,i3,i4,rfl,gi⟩:=Hg.gen
 obtain⟨k1,k2,k3,k4,rfl,gk⟩:=fk.gen;obtain⟨p1,p2,p3,p4,rfl,gp⟩:=BI.gen;obtain⟨q1,q2,q3,q4,rfl,gq⟩:=W0.gen;have Fg:=hs;have azI:=hsx;have azJ:=hsy;obtain⟨s1,s2,s3,s4,rfl,gs⟩:=hs.gen;obtain⟨v1,v2,v3,v4,rfl,gv⟩:=hsx.gen;obtain⟨w1,w2,w3,w4,rfl,gw⟩:=hsy.gen;refine⟨[s1,s2,s3,s4,v1,v2,v3,v4,w1,w2,w3,w4],[(8,.cells ydh ydh ydh 4 [u1,u2,u3,u4]),(7,.cells ydh ydh ydh 2 [aa ((a*S+i:Nat):Int),aa ((b*S+k:Nat):Int)]),(6,.cells ydh ydh ydh 2 [aa i,aa k])],⟨_,_,_,_,_,_,_,_,_,_,_,_,rfl,Fg,azI,azJ⟩,?_,?_⟩
 .intro p hp;simp only[xI,yaj,or_false] at hp;rcases hp with rfl | rfl | rfl<;>simp
 unfold ah at e1 e2 e3 e4 e5 e6 e7 e8;have z1:Nat->Nat->AV:=fun _ _=>.af
 generalize hA:((a*S+i:Nat):Int)=A at*
 generalize hB:((b*S+k:Nat):Int)=B at*
 have eE:∀Ac Bc,D P L nW ⟨(19,.agg [aa A,aa B])::(18,.agg [aa i,aa k])::TM,jz Ac Bc TM C R S a b g cap [a1,a2,a3,a4,a5,a6,a7,a8,a9,dj,dl,a12] 0,6,6⟩=Ft (.normal,⟨(9,.ptr 7 0)::(8,.ptr 6 0)::(19,.agg [aa A,aa B])::(18,.agg [aa i,aa k])::TM,(7,.cells ydh ydh ydh 2 [aa A,aa B])::(6,.cells ydh ydh ydh 2 [aa i,aa k])::jz Ac Bc TM C R S a b g cap [a1,a2,a3,a4,a5,a6,a7,a8,a9,dj,dl,a12] 0,8,6⟩):=by
  intro Ac Bc;unfold jz;simp only[go_sem,ya,yc,nW,pK,sD]
 have cT:∀Ac Bc,∃tm,D P L nX ⟨(9,.ptr 7 0)::(8,.ptr 6 0)::(19,.agg [aa A,aa B])::(18,.agg [aa i,aa k])::TM,(7,.cells ydh ydh ydh 2 [aa A,aa B])::(6,.cells ydh ydh ydh 2 [aa i,aa k])::jz Ac Bc TM C R S a b g cap [a1,a2,a3,a4,a5,a6,a7,a8,a9,dj,dl,a12] 1,8,8⟩=Ft (.normal,⟨tm,(8,.cells ydh ydh ydh 4 [u1,u2,u3,u4])::(7,.cells ydh ydh ydh 2 [aa A,aa B])::(6,.cells ydh ydh ydh 2 [aa i,aa k])::jz Ac Bc TM C R S a b g cap [s1,s2,s3,s4,v1,v2,v3,v4,w1,w2,w3,w4] 1,9,8⟩):=by
  intro Ac Bc;unfold jz;simp only[go_sem,ya,yc,nX,CL,ow,bR,t3,t5,t7,bj,yd,yh,yV,jE,kN,hc.z,e1,aV,gu.st,bC,gf.aj,gu.aj,e4,gs.C5,e2,gi.aj,e5,gx.aj,gp.aj,e7,gv.st4,e3,gk.aj,e6,gy.aj,gq.aj,e8,gw.st8];exact⟨_,rfl⟩
 obtain⟨tm,cT⟩:=cT nW nX
 have:=AG (P:=P) (L:=L) (hp:=jz nW nX TM C R S a b g cap [a1,a2,a3,a4,a5,a6,a7,a8,a9,dj,dl,a12] 0) (ct:=6) (l:=5) (xs:=[.agg [aa i,aa k],.agg [aa A,aa B]]) rfl rfl (eE _ _) rfl cT rfl
 unfold Mg;rw[hA,hB];exact this
def jA(q:Nat->Nat->Rat)(a b S t:Nat):Rat:=q (a*S+t%S) (b*S+t/S)
def Ao(q:Nat->Nat->Rat)(a b S t:Nat):Rat:=jA q a b S t*CK S (t%S)
def Ap(q:Nat->Nat->Rat)(a b S t:Nat):Rat:=jA q a b S t*CK S (t/S)
def D9(hi:i<S):(k*S+i)%S=i:=by rw[xp,Nat.mul_add_mod,yF hi]
def T8(hi:i<S):(k*S+i)/S=k:=by rw[xp,Nat.mul_add_div (by omega),Nat.div_eq_of_lt hi,yW]
def gD(ha:a<C)(hi:i<S):a*S+i<C*S:=by
 have:=Nat.mul_le_mul_right S (show a+1<=C by omega)
 rw[xP,ybx] at this;omega
def acY{q:Nat->Nat->Rat}(hi:i<S):jA q a b S (k*S+i)=q (a*S+i) (b*S+k):=by unfold jA;rw[D9 hi,T8 hi]
def n9{t:Nat}(h:t<S*S):t%S<S/\t/S<S:=by
 have h0:0<S:=vW (fun e=>by subst e;simp at h);exact⟨xu _ h0,ybj h⟩
section
variable {q:Nat->Nat->Rat}{a b C R S:Nat}(kq:∀c r,c<C*S->r<R*S->Hq 3000 (q c r))(ha:a<C)(hb:b<R)(hS:S<=8)
include kq ha hb
theorem UG{t:Nat}(h:t<S*S):Hq 3000 (jA q a b S t):=kq _ _ (gD ha (n9 h).1) (gD hb (n9 h).2)
include hS
theorem aw2{t:Nat}(h:t<S*S):Hq 3080 (Ao q a b S t):=(UG kq ha hb h).mul (Ob hS (by have:=(n9 h).1;omega))
theorem aw3{t:Nat}(h:t<S*S):Hq 3080 (Ap q a b S t):=(UG kq ha hb h).mul (Ob hS (by have:=(n9 h).2;omega))
theorem UH{n:Nat}(hn:n<=S*S):Hq 300000 (dR (jA q a b S) n)/\Hq 300000 (dR (Ao q a b S) n)/\Hq 300000 (dR (Ap q a b S) n):=by
 have h64:S*S<=64:=yS hS hS
 exact⟨(OF (N:=S*S) (fun t ht=>UG kq ha hb ht) hn).mono (by omega),(OF (N:=S*S) (fun t ht=>aw2 kq ha hb hS ht) hn).mono (by omega),(OF (N:=S*S) (fun t ht=>aw3 kq ha hb hS ht) hn).mono (by omega)⟩
end
def azK(h:Mom P L){q:Nat->Nat->Rat}(t3:ak TM 3=.ptr 0 0)(t5:ak TM 5=.ptr 2 0)(t7:ak TM 7=.ptr 4 0)(t17:ak TM 17=.fn (.f 719) [] [cS C R S,iO a b])(iN:kL 5 TM)(hn:(dL TM).length<=1000)(hc:zM cap)(hC:C<=8)(hR:R<=8)(hS:S<=8)(ha:a<C)(hb:b<R)(hq:XI P L g cap (C*S) (R*S) q)(kq:∀c r,c<C*S->r<R*S->Hq 3000 (q c r))(hM:Mo M 0 0 0){Q:Option (Ex×St)}(hQ:D P L (.rf (.t 17) [18,19] nW nX) ⟨TM,[(4,.cells ydh ydh ydh 12 M),(3,.cells ydh ydh ydh 12 Ld),(2,.cells ydh ydh ydh 1 [.fn (.f g) [] cap]),(1,.cells ydh ydh ydh 2 [aa a,aa b]),(0,.cells ydh ydh ydh 3 [aa C,aa R,aa S])],5,0⟩=Q):
  ∃M',Mo M' (dR (jA q a b S) (S*S)) (dR (Ao q a b S) (S*S)) (dR (Ap q a b S) (S*S))/\Q=Ft (.normal,⟨TM,[(4,.cells ydh ydh ydh 12 M'),(3,.cells ydh ydh ydh 12 Ld),(2,.cells ydh ydh ydh 1 [.fn (.f g) [] cap]),(1,.cells ydh ydh ydh 2 [aa a,aa b]),(0,.cells ydh ydh ydh 3 [aa C,aa R,aa S])],6,0⟩):=by
 have lC:∀M,iH 6 5 (jz nW nX TM C R S a b g cap M 0)=(jz nW nX TM C R S a b g cap M 0,6):=fun M=>aa7 (J:=[]) (by simp) (UE iN hc M 0) (by omega) (UF hn M 0)
 obtain⟨H,c,⟨M',rfl,rfl,IA⟩,e⟩:=UB (P:=P) (L:=L) h.GW (f:=.t 17) (ps:=[18,19]) (as_:=nW) (body:=nX) (s:=⟨TM,[(4,.cells ydh ydh ydh 12 M),(3,.cells ydh ydh ydh 12 Ld),(2,.cells ydh ydh ydh 1 [.fn (.f g) [] cap]),(1,.cells ydh ydh ydh 2 [aa a,aa b]),(0,.cells ydh ydh ydh 3 [aa C,aa R,aa S])],5,0⟩) (C:=C) (R:=R) (a:=a) (b:=b) hS (by omega) (by omega) t17
  (Inv:=fun j H c=>∃M,H=jz nW nX TM C R S a b g cap M 0/\c=6/\Mo M (dR (jA q a b S) j) (dR (Ao q a b S) j) (dR (Ap q a b S) j))
  ⟨by rintro j H c ⟨M,rfl,rfl,_⟩;exact lC M,by
   rintro j H c ⟨M,rfl,rfl,_⟩ tm ct
   exact Mw (live:=[]) trivial (UE iN hc M 0) (by have:=UF hn (A:=nW) (B:=nX) (C:=C) (R:=R) (S:=S) (a:=a) (b:=b) (g:=g) (cap:=cap) M 0;show 0+(cI 6 (jz nW nX TM C R S a b g cap M 0)).length<100000;omega),by rintro j H c ⟨M,rfl,rfl,_⟩;exact⟨_,_,_,_,rfl⟩⟩
  ⟨_,_,lC M,M,rfl,rfl,hM⟩ (by
   rintro k i H c hk hi ⟨M,rfl,rfl,hM⟩;obtain⟨u,e1,hu⟩:=hq (a*S+i) (b*S+k) (gD ha hi) (gD hb hk);have kn:=kq (a*S+i) (b*S+k) (gD ha hi) (gD hb hk);have hj:k*S+i<=S*S:=by
    have:=gD (S:=S) hk hi
    omega
   obtain⟨kf,kx,ky⟩:=UH kq ha hb hS hj;obtain⟨M',J,h1,h2,h3⟩:=azH h t3 t5 t7 hc hM kf kx ky hS hk hi kn e1 hu;refine⟨_,_,_,_,h3,aa7 h2 (UE iN hc M' 0) (by omega) (UF hn M' 0),M',rfl,rfl,?_⟩;simp only[dR,Ao,Ap,acY hi,D9 hi,T8 hi]
   exact h1)
 exact⟨M',IA,by rw[<-hQ,e];rfl⟩
def Mo.aj(h:Mo M f x y)(n:Nat)(hp:Hp):freeze (n+30) hp (.agg M)=Ft (.agg M,hp):=by
 obtain⟨a1,a2,a3,a4,a5,a6,a7,a8,a9,dj,dl,a12,rfl,h1,h2,h3⟩:=h;have g1:=h1.f4;have g2:=h2.f4;have g3:=h3.f4;exact cr _ _ (by simp only[go_sem,g1.z1,g1.z2,g1.z3,g1.z4,g2.z1,g2.z2,g2.z3,g2.z4,g3.z1,g3.z2,g3.z3,g3.z4])
def Mo.eb(h:Mo M f x y)(hp:Hp):result hp (.agg M)=Ft (.agg M):=by
 have e:=h.aj 970 hp;simp only[yc] at e;simp only[result,qB,deep,e]
def Mo.ld(h:Mo M f x y):gI 12 ydh M=Ft (.agg M):=by
 obtain⟨a1,a2,a3,a4,a5,a6,a7,a8,a9,dj,dl,a12,rfl,h1,h2,h3⟩:=h;rfl
def azL(h:Mom P L){q:Nat->Nat->Rat}(hc:zM cap)(hC:C<=8)(hR:R<=8)(hS:S<=8)(ha:a<C)(hb:b<R)(hq:XI P L g cap (C*S) (R*S) q)(kq:∀c r,c<C*S->r<R*S->Hq 3000 (q c r)):
  ∃M,ah P L 724 [.agg [aa C,aa R,aa S],.agg [aa a,aa b],.fn (.f g) [] cap] (.agg M)/\Mo M (dR (jA q a b S) (S*S)) (dR (Ao q a b S) (S*S)) (dR (Ap q a b S) (S*S)):=by
 obtain⟨z,e1,hz⟩:=Hs h.toFr' (z:=0) (by omega) (by omega);have eK:=hz;obtain⟨z1,z2,z3,z4,rfl,gz⟩:=hz.gen;have e2:ah P L 673 [.agg [aa C,aa R,aa S],.agg [aa a,aa b]] (.fn (.f 719) [] [cS C R S,iO a b]):=by
  unfold ah;rw[aJ h.agk];simp only[go_sem,ya,yc,Pg,pJ,pK]
  first | done | rfl
 have L5:Mo [z1,z2,z3,z4,z1,z2,z3,z4,z1,z2,z3,z4] 0 0 0:=⟨_,_,_,_,_,_,_,_,_,_,_,_,rfl,eK,eK,eK⟩;unfold ah at e1 e2;have GY:=fun hp ct id (N:List AV) (hN:N.length=12)=>Lc L5 hp ct id hN
 have pf:cL (.fn (.f g) [] cap)=ydh:=rfl;have hbx:∀ct,Bb ct 1 [.fn (.f g) [] cap]=Ft (.ptr ct 0,.cells ydh ydh ydh 1 [.fn (.f g) [] cap]):=fun ct=>by
  rw[aV (n:=1) rfl (by simp[bS,pf])];simp[aD,aW,hc.pu]
 have aY:bS [z1,z2,z3,z4]=ydh:=gz.o;unfold ah;rw[aJ h.azG];simp only[go_sem,ya,yc,yo,Va,aV,hc.pu,aY,List.take_zero,yM,List.take_succ_cons,yx,yh,yV,e1,bC,B3,over,GY,bR,jE,CL,ow,e2];have pz:=gz.p;simp only[aD,ye,uz] at pz;obtain⟨pz1,pz2,pz3,pz4⟩:=pz;generalize hQ:D P L (.rf _ _ _ _) _=Q;obtain⟨M',IA,rfl⟩:=azK h rfl rfl rfl rfl (by
  have b1:=mj (n:=5) pz1;have b2:=mj (n:=5) pz2;have b3:=mj (n:=5) pz3;have b4:=mj (n:=5) pz4;have b5:=Fv (n:=5) hc.pu
  simp[kL,below,mu,cS,iO,b1,b2,b3,b4,b5]) (by simp[dL,refs,fH,cS,iO,ik pz1,ik pz2,ik pz3,ik pz4,zj hc.pu]) hc hC hR hS ha hb hq kq L5 hQ
 refine⟨M',?_,IA⟩;have hl:=IA.ld;have hs:=fun hp ct id (N:List AV) (hN:N.length=12)=>Lc IA hp ct id hN
 simp only[go_sem,ya,yc,yh,hl,Ld,hs,c9,db,IA.eb]
end
def aeu(a b:AV)(r:List AV):Cj 2 1 0 (.bq (a::b::r))=Ft (.bq (a::b::r)):=rfl
def aev(a b:AV)(r:List AV):Cj 2 1 1 (.bq (a::b::r))=Ft (.bq (b::r)):=rfl
noncomputable def QI(l:List lE):Int:=if 64<l.length then 5 else cD (l.map Fo)
def V4(p q:lE):jo (.ag [2,2]) (.agg (mc p)) (.agg (mc q))=Ft (dh p.1 q.1&&dh p.2 q.2):=by
 show cU [2,2] [.str p.1,.str p.2] [.str q.1,.str q.2]=_
 simp only[cU];cases dh p.1 q.1<;>cases dh p.2 q.2<;>rfl
section
variable {M T cap:List AV}{f x y:Rat}
structure Cen(P:aF)(L:Lib):Prop extends Mom P L,Tx P L where
 agl:Has P L 672 Pf
 K9:Has P L 686 KK
 azM:Has P L 688 U8
 EN:Has P L 718 GI
 PN:Has P L 122 Kp
 PO:Has P L 123 Kq
 GX:Has P L 160 GB
def agm(h:Has P L 672 Pf)(C R S:Nat):ah P L 672 [.agg [aa C,aa R,aa S]] (.fn (.f 718) [] [cS C R S]):=by
 unfold ah;rw[aJ h];simp only[go_sem,ya,yc,Pf,pJ]
 first | done | rfl
def Z1{hp:Hp}{ct l:Nat}{xs:List AV}{tm tm' gh kU:Env}{ps pM rh:List Nat}{a b a1 b1 a2 b2:VC}{pe nm P4:sf}{s1 s2:St}(h1:ai hp l=Ft (.lp tm ps a b 0 pe))(h2:qC tm ps xs=Ft tm')(h3:D P L a ⟨tm',hp,ct,ct⟩=Ft (.normal,s1))(h4:ai s1.hp l=Ft (.lp gh pM a1 b1 0 nm))(h5:D P L b ⟨s1.tm,aU s1.hp l (.lp gh pM a1 b1 1 nm),s1.ct,s1.ct⟩=Ft (.ret,s2))(h6:ai s2.hp l=Ft (.lp kU rh a2 b2 1 P4)):
  fV (D P L) hp ct l xs=Ft (.bool ydi,aU s2.hp l (.lp kU rh a2 b2 2 .ret),s2.ct):=by
 simp only[fV,h1,h2,h3,h4,h5,h6,NU]
def fU(C R S g:Nat)(cap:List AV):Env:=[(16,.fn (.f 718) [] [cS C R S]),(15,.agg [aa C,aa R,aa S]),(6,.ptr 4 0),(5,.ptr 3 0),(4,.ptr 2 0),(3,.ptr 1 0),(2,.ptr 0 0),(0,.agg [aa C,aa R,aa S]),(1,.fn (.f g) [] cap)]
def dW(A B:VC)(C R S g:Nat)(cap:List AV):Nat->List AV->Nat->Hp
 | 0,_,st=>[(5,.lp (fU C R S g cap) [17,18] A B st .none),(4,.cells ydh ydh ydh 1 [.af]),(3,.cells ydh ydh ydh 1 [aa 0]),(2,.cells ydh ydh ydh 1 [.af]),(1,.cells ydh ydh ydh 1 [.fn (.f g) [] cap]),(0,.cells ydh ydh ydh 3 [aa C,aa R,aa S])]
 | n+1,T,st=>[(6,.cells ydh ydh ydi 12 T),(5,.lp (fU C R S g cap) [17,18] A B st .none),(4,.cells ydh ydi ydh 1 [.ap 6 0 (n+1)]),(3,.cells ydh ydh ydh 1 [aa 0]),(2,.cells ydh ydh ydh 1 [.af]),(1,.cells ydh ydh ydh 1 [.fn (.f g) [] cap]),(0,.cells ydh ydh ydh 3 [aa C,aa R,aa S])]
def Du:Nat->Nat
 | 0=>6
 | _+1=>7
def Mo.cells(h:Mo M f x y):M.length=12/\bS M=ydh/\aD M=ydh:=by
 obtain⟨a1,a2,a3,a4,a5,a6,a7,a8,a9,dj,dl,a12,rfl,h1,h2,h3⟩:=h;have g1:=h1.f4;have g2:=h2.f4;have g3:=h3.f4;have p1:=g1.p;have p2:=g2.p;have p3:=g3.p;simp only[aD,ye,uz] at p1 p2 p3;exact⟨rfl,by simp[bS,g1.o1,g1.o2,g1.o3,g1.o4,g2.o1,g2.o2,g2.o3,g2.o4,g3.o1,g3.o2,g3.o3,g3.o4],by simp[aD,p1,p2,p3]⟩
def aoB(h:0<f):¬eF f.num<=0:=by
 have:=(akF f).2 h
 omega
def ave{tm:Env}{x1 x2 x3 x4 x5 x6 x7 x8 x9 x10 x11 x12 a1 a2 a3 a4 a5 a6 a7 a8 a9 dj dl a12:AV}(h:bS [a1,a2,a3,a4,a5,a6,a7,a8,a9,dj,dl,a12]=ydh):kP tm [x1,x2,x3,x4,x5,x6,x7,x8,x9,x10,x11,x12] 0 12 [a1,a2,a3,a4,a5,a6,a7,a8,a9,dj,dl,a12] []=Ft [a1,a2,a3,a4,a5,a6,a7,a8,a9,dj,dl,a12]:=by
 simp only[kP,h];rfl
def acZ(cx pu ex:Bool)(a1 a2 a3 a4 a5 a6 a7 a8 a9 dj dl a12:AV):E8 0 1 12 (Ft (.cells cx pu ex 12 [a1,a2,a3,a4,a5,a6,a7,a8,a9,dj,dl,a12]))=Ft (1,[a1,a2,a3,a4,a5,a6,a7,a8,a9,dj,dl,a12]):=rfl
def azN(h:Cen P L){C R S g k a b n:Nat}(hc:zM cap)(hT:T.length=n*12)(hn:n<=64)(hM:Mo M f x y)(hf:0<f)(e1:ah P L 724 [.agg [aa C,aa R,aa S],.agg [aa a,aa b],.fn (.f g) [] cap] (.agg M)):
  ∃hp aH,fV (D P L) (dW iT iU C R S g cap n T 0) (Du n) 5 [aa k,.agg [aa a,aa b]]=Ft (.bool ydh,hp,aH)/\iH 6 5 hp=(dW iT iU C R S g cap (n+1) (T++M) 0,7):=by
 have hl:=hM.ld;have hs:=fun hp ct id (N:List AV) (hN:N.length=12)=>Lc hM hp ct id hN
 obtain⟨m1,m2,m3⟩:=hM.cells;obtain⟨a1,a2,a3,a4,a5,a6,a7,a8,a9,dj,dl,a12,rfl,kG,QJ,hy1⟩:=hM;have e2:=afH h.toFr' kG;have g1:=kG.f4;have kE:=hc.z;have zN:decide (eF f.num<=0)=ydi:=xv (aoB hf);unfold ah at e1 e2;have se:=fun tm (y1 y2 y3 y4 y5 y6 y7 y8 y9 y10 y11 y12:AV)=>ave (tm:=tm) (x1:=y1) (x2:=y2) (x3:=y3) (x4:=y4) (x5:=y5) (x6:=y6) (x7:=y7) (x8:=y8) (x9:=y9) (x10:=y10) (x11:=y11) (x12:=y12) m2
 match n,hT with
 | 0,hT=>
  have hT:T=[]:=wR.1 (by simpa using hT);subst hT;have eE:∀Ac Bc,D P L iT ⟨(18,.agg [aa a,aa b])::(17,aa k)::fU C R S g cap,dW Ac Bc C R S g cap 0 [] 0,6,6⟩=Ft (.normal,⟨(8,.ptr 6 0)::(18,.agg [aa a,aa b])::(17,aa k)::fU C R S g cap,(6,.cells ydh ydh ydh 2 [aa a,aa b])::dW Ac Bc C R S g cap 0 [] 0,7,6⟩):=by
   intro Ac Bc;unfold dW;simp only[go_sem,ya,yc,iT,pK,sD]
  have cT:∀Ac Bc,∃tm,D P L iU ⟨(8,.ptr 6 0)::(18,.agg [aa a,aa b])::(17,aa k)::fU C R S g cap,(6,.cells ydh ydh ydh 2 [aa a,aa b])::dW Ac Bc C R S g cap 0 [] 1,7,7⟩=Ft (.normal,⟨tm,[(9,.cells ydh ydh ydi 12 [a1,a2,a3,a4,a5,a6,a7,a8,a9,dj,dl,a12]),(8,.cells ydh ydh ydh 12 [a1,a2,a3,a4,a5,a6,a7,a8,a9,dj,dl,a12]),(7,.cells ydh ydh ydh 12 [a1,a2,a3,a4,a5,a6,a7,a8,a9,dj,dl,a12]),(6,.cells ydh ydh ydh 2 [aa a,aa b]),(5,.lp (fU C R S g cap) [17,18] Ac Bc 1 .none),(4,.cells ydh ydi ydh 1 [.ap 9 0 1]),(3,.cells ydh ydh ydh 1 [aa 0]),(2,.cells ydh ydh ydh 1 [.af]),(1,.cells ydh ydh ydh 1 [.fn (.f g) [] cap]),(0,.cells ydh ydh ydh 3 [aa C,aa R,aa S])],10,7⟩):=by
   intro Ac Bc;unfold dW;simp only[go_sem,ya,yc,xn,yB,yo,iU,fU,bj,yd,jE,bR,kN,ow,CL,kE,JR,JS,JT,e1,bC,aV,yh,hs,hl,g1.aj,e2,zN,se,ko,m1,m3,Ax,Au,acZ,jC,og];exact⟨_,rfl⟩
  obtain⟨tm,cT⟩:=cT iT iU
  refine⟨_,_,AG (P:=P) (L:=L) (hp:=dW iT iU C R S g cap 0 [] 0) (ct:=6) (l:=5) (xs:=[aa k,.agg [aa a,aa b]]) rfl rfl (eE _ _) rfl cT rfl,?_⟩;simp only[go_sem,ya,yc,yB,yo,rW,dW,fU,cS,zj hc.pu,Az _ hc.pu]
 | n+1,hT=>
  have Bm:=fun (hp:Hp) (ct:Nat) (hg:ai hp 6=Ft (.cells ydh ydh ydi 12 T))=>gA (ct:=ct) (by':=192) (new:=[a1,a2,a3,a4,a5,a6,a7,a8,a9,dj,dl,a12]) (m:=1) (n:=n+1) hg hT (by omega) (by omega) (by decide) m2
  have eE:∀Ac Bc,D P L iT ⟨(18,.agg [aa a,aa b])::(17,aa k)::fU C R S g cap,dW Ac Bc C R S g cap (n+1) T 0,7,7⟩=Ft (.normal,⟨(8,.ptr 7 0)::(18,.agg [aa a,aa b])::(17,aa k)::fU C R S g cap,(7,.cells ydh ydh ydh 2 [aa a,aa b])::dW Ac Bc C R S g cap (n+1) T 0,8,7⟩):=by
   intro Ac Bc;unfold dW;simp only[go_sem,ya,yc,iT,pK,sD]
  have cT:∀Ac Bc,∃tm,D P L iU ⟨(8,.ptr 7 0)::(18,.agg [aa a,aa b])::(17,aa k)::fU C R S g cap,(7,.cells ydh ydh ydh 2 [aa a,aa b])::dW Ac Bc C R S g cap (n+1) T 1,8,8⟩=Ft (.normal,⟨tm,[(10,.cells ydh ydh ydi 12 (T++[a1,a2,a3,a4,a5,a6,a7,a8,a9,dj,dl,a12])),(9,.cells ydh ydh ydh 12 [a1,a2,a3,a4,a5,a6,a7,a8,a9,dj,dl,a12]),(8,.cells ydh ydh ydh 12 [a1,a2,a3,a4,a5,a6,a7,a8,a9,dj,dl,a12]),(7,.cells ydh ydh ydh 2 [aa a,aa b]),(5,.lp (fU C R S g cap) [17,18] Ac Bc 1 .none),(4,.cells ydh ydi ydh 1 [.ap 10 0 (n+1+1)]),(3,.cells ydh ydh ydh 1 [aa 0]),(2,.cells ydh ydh ydh 1 [.af]),(1,.cells ydh ydh ydh 1 [.fn (.f g) [] cap]),(0,.cells ydh ydh ydh 3 [aa C,aa R,aa S])],11,8⟩):=by
   intro Ac Bc;unfold dW;simp only[go_sem,ya,yc,xn,iU,fU,bj,yd,jE,bR,kN,ow,CL,kE,JR,JS,JT,e1,bC,aV,yh,hs,hl,g1.aj,e2,zN,se,ko,m1,m3,Ax,Au,acZ,Bm,og,vm];exact⟨_,rfl⟩
  obtain⟨tm,cT⟩:=cT iT iU
  refine⟨_,_,AG (P:=P) (L:=L) (hp:=dW iT iU C R S g cap (n+1) T 0) (ct:=7) (l:=5) (xs:=[aa k,.agg [aa a,aa b]]) rfl rfl (eE _ _) rfl cT rfl,?_⟩;simp only[go_sem,ya,yc,yB,yo,rW,dW,fU,cS,zj hc.pu,Az _ hc.pu]
def aew(hp:Hp)(_:Nat):Prop:=ai (cC hp 5) 2=Ft (.cells ydh ydh ydh 1 [.af])/\ai (cC hp 5) 3=Ft (.cells ydh ydh ydh 1 [aa 6])
def aw4(h:Cen P L){C R S g k a b n:Nat}(hc:zM cap)(hM:Mo M f x y)(hf:¬0<f)(e1:ah P L 724 [.agg [aa C,aa R,aa S],.agg [aa a,aa b],.fn (.f g) [] cap] (.agg M)):
  ∃hp aH tm p A B,fV (D P L) (dW iT iU C R S g cap n T 0) (Du n) 5 [aa k,.agg [aa a,aa b]]=Ft (.bool ydi,hp,aH)/\ai hp 5=Ft (.lp tm p A B 2 .ret)/\aew hp aH:=by
 have hl:=hM.ld;have hs:=fun hp ct id (N:List AV) (hN:N.length=12)=>Lc hM hp ct id hN
 obtain⟨m1,m2,m3⟩:=hM.cells;obtain⟨a1,a2,a3,a4,a5,a6,a7,a8,a9,dj,dl,a12,rfl,kG,QJ,hy1⟩:=hM;have e2:=afH h.toFr' kG;have g1:=kG.f4;have kE:=hc.z;have zN:decide (eF f.num<=0)=ydh:=by rw[aqR];exact xT (ydg.1 hf)
 unfold ah at e1 e2
 cases n with
 | zero=>
  have eE:∀Ac Bc,D P L iT ⟨(18,.agg [aa a,aa b])::(17,aa k)::fU C R S g cap,dW Ac Bc C R S g cap 0 T 0,6,6⟩=Ft (.normal,⟨(8,.ptr 6 0)::(18,.agg [aa a,aa b])::(17,aa k)::fU C R S g cap,(6,.cells ydh ydh ydh 2 [aa a,aa b])::dW Ac Bc C R S g cap 0 T 0,7,6⟩):=by
   intro Ac Bc;unfold dW;simp only[go_sem,ya,yc,iT,pK,sD]
  have cT:∀Ac Bc,∃tm,D P L iU ⟨(8,.ptr 6 0)::(18,.agg [aa a,aa b])::(17,aa k)::fU C R S g cap,(6,.cells ydh ydh ydh 2 [aa a,aa b])::dW Ac Bc C R S g cap 0 T 1,7,7⟩=Ft (.ret,⟨tm,[(7,.cells ydh ydh ydh 12 [a1,a2,a3,a4,a5,a6,a7,a8,a9,dj,dl,a12]),(6,.cells ydh ydh ydh 2 [aa a,aa b]),(5,.lp (fU C R S g cap) [17,18] Ac Bc 1 .none),(4,.cells ydh ydh ydh 1 [.af]),(3,.cells ydh ydh ydh 1 [aa 6]),(2,.cells ydh ydh ydh 1 [.af]),(1,.cells ydh ydh ydh 1 [.fn (.f g) [] cap]),(0,.cells ydh ydh ydh 3 [aa C,aa R,aa S])],8,7⟩):=by
   intro Ac Bc;unfold dW;simp only[go_sem,ya,yc,iU,fU,bj,yd,jE,bR,kN,ow,CL,kE,JR,JS,JT,e1,bC,aV,yh,hs,g1.aj,e2,zN,og];exact⟨_,rfl⟩
  obtain⟨tm,cT⟩:=cT iT iU
  exact⟨_,_,_,_,_,_,Z1 (P:=P) (L:=L) (hp:=dW iT iU C R S g cap 0 T 0) (ct:=6) (l:=5) (xs:=[aa k,.agg [aa a,aa b]]) rfl rfl (eE _ _) rfl cT rfl,rfl,rfl,rfl⟩
 | succ n=>
  have eE:∀Ac Bc,D P L iT ⟨(18,.agg [aa a,aa b])::(17,aa k)::fU C R S g cap,dW Ac Bc C R S g cap (n+1) T 0,7,7⟩=Ft (.normal,⟨(8,.ptr 7 0)::(18,.agg [aa a,aa b])::(17,aa k)::fU C R S g cap,(7,.cells ydh ydh ydh 2 [aa a,aa b])::dW Ac Bc C R S g cap (n+1) T 0,8,7⟩):=by
   intro Ac Bc;unfold dW;simp only[go_sem,ya,yc,iT,pK,sD]
  have cT:∀Ac Bc,∃tm,D P L iU ⟨(8,.ptr 7 0)::(18,.agg [aa a,aa b])::(17,aa k)::fU C R S g cap,(7,.cells ydh ydh ydh 2 [aa a,aa b])::dW Ac Bc C R S g cap (n+1) T 1,8,8⟩=Ft (.ret,⟨tm,[(8,.cells ydh ydh ydh 12 [a1,a2,a3,a4,a5,a6,a7,a8,a9,dj,dl,a12]),(7,.cells ydh ydh ydh 2 [aa a,aa b]),(6,.cells ydh ydh ydi 12 T),(5,.lp (fU C R S g cap) [17,18] Ac Bc 1 .none),(4,.cells ydh ydi ydh 1 [.ap 6 0 (n+1)]),(3,.cells ydh ydh ydh 1 [aa 6]),(2,.cells ydh ydh ydh 1 [.af]),(1,.cells ydh ydh ydh 1 [.fn (.f g) [] cap]),(0,.cells ydh ydh ydh 3 [aa C,aa R,aa S])],9,8⟩):=by
   intro Ac Bc;unfold dW;simp only[go_sem,ya,yc,iU,fU,bj,yd,jE,bR,kN,ow,CL,kE,JR,JS,JT,e1,bC,aV,yh,hs,g1.aj,e2,zN,og];exact⟨_,rfl⟩
  obtain⟨tm,cT⟩:=cT iT iU
  exact⟨_,_,_,_,_,_,Z1 (P:=P) (L:=L) (hp:=dW iT iU C R S g cap (n+1) T 0) (ct:=7) (l:=5) (xs:=[aa k,.agg [aa a,aa b]]) rfl rfl (eE _ _) rfl cT rfl,rfl,rfl,rfl⟩
end
section
variable {cap:List AV}{C R S g:Nat}
abbrev MT:=Rat×Rat×Rat
def nH(t:MT):Rat×Rat:=(t.2.1/t.1,t.2.2/t.1)
def rI(t:MT):Bool:=LG (nH t).1||LG (nH t).2
noncomputable def IB(t:MT):lE:=(RT (nH t).1,RT (nH t).2)
def MoS(Ms:List (List AV))(ts:List MT):Prop:=jL (fun M t=>Mo M t.1 t.2.1 t.2.2) Ms ts
noncomputable def lG(ts:List MT):List AV:=(ts.map fun t=>mc (IB t)).flatten
def ab5(ts:List MT):(lG ts).length=ts.length*2:=by
 unfold lG
 rw[IX (k:=2) (fun p hp=>by obtain⟨t,_,rfl⟩:=xM.1 hp;rfl),yL]
def aoC(ts:List MT)(t:MT):lG (ts++[t])=lG ts++mc (IB t):=by unfold lG;simp
def qW(n i:Nat)(T O:List AV):St:=match i with
 | 0=>⟨[(4,.ptr 0 0),(5,.ptr 1 0),(10,.af),(31,.ap 2 0 n),(32,aa n),(33,aa 0)],[(2,.cells ydh ydh ydi 12 T),(1,.cells ydh ydh ydh 1 [aa 0]),(0,.cells ydh ydh ydh 1 [.af])],3,0⟩
 | i+1=>⟨[(4,.ptr 0 0),(5,.ptr 1 0),(10,.ap 2 0 (i+1)),(31,.ap 3 0 n),(32,aa n),(33,aa ((i+1:Nat):Int))],[(3,.cells ydh ydh ydi 12 T),(2,.cells ydh ydh ydi 2 O),(1,.cells ydh ydh ydh 1 [aa 0]),(0,.cells ydh ydh ydh 1 [.af])],4,0⟩
def avf(h:Cen P L){Ms:List (List AV)}{ts:List MT}{n:Nat}(hn:ts.length=n)(aEf:n<=64)(hM:MoS Ms ts)(hp:∀t,t∈ts->0<t.1)(hk:∀t,t∈ts->Hq 300000 t.1/\Hq 300000 t.2.1/\Hq 300000 t.2.2):
  ∀d st,(∃i,i+d=n/\(ts.take i).any rI=ydi/\br [4,5,10,31,32,33] st=qW n i Ms.flatten (lG (ts.take i)))->∃ex s',D P L (.loop [4,5,10,31,32,33] AP) st=Ft (ex,s')/\
   ((ex=.ret/\ts.any rI=ydh/\∃tm hp ct,s'=⟨tm,hp,ct,0⟩/\ak tm 4=.ptr 0 0/\ak tm 5=.ptr 1 0/\ai hp 0=Ft (.cells ydh ydh ydh 1 [.af])/\ai hp 1=Ft (.cells ydh ydh ydh 1 [aa 4]))\/
    (ex=.exit 2/\ts.any rI=ydi/\∃tm ct,s'=⟨tm,(qW n n Ms.flatten (lG ts)).hp,ct,0⟩/\bE tm [4,5,10]=bE (qW n n Ms.flatten (lG ts)).tm [4,5,10])):=by
 have QK:Ms.length=n:=by rw[<-hn];exact hM.len
 have Iw:∀p,p∈Ms->p.length=12:=fun p hp=>by
  obtain⟨i,hi,rfl⟩:=xS.1 hp;exact (hM.get hi (by rw[hn,<-QK];exact hi)).cells.1
 intro dq sq;generalize zc:br [4,5,10,31,32,33] sq=s0;revert zc s0 sq dq;apply atD;rintro d st ⟨i,hid,hB,rfl⟩;have hT:Ms.flatten.length=n*12:=by rw[IX Iw,QK]
 by_cases hi:i<n
 .have Ah:i<Ms.length:=by omega
  have IC:i<ts.length:=by omega
  have jz:=hM.get Ah IC;have ht:=hp _ (xk IC);obtain⟨k1,k2,k3⟩:=hk _ (xk IC);obtain⟨rest,OG⟩:=R7 Iw Ah;have Lz:(ts.take (i+1)).any rI=rI ts[i]:=by
   rw[xa IC,List.any_append,hB];simp
  have XJ:lG (ts.take (i+1))=lG (ts.take i)++mc (IB ts[i]):=by
   rw[xa IC,aoC]
  have hOl:(lG (ts.take i)).length=i*2:=by rw[ab5,yQ,xj (by omega)]
  have Hd:=jz.ld;have GY:=fun hp ct id (N:List AV) (hN:N.length=12)=>Lc jz hp ct id hN
  obtain⟨m1,m2,m3⟩:=jz.cells;generalize sU:ts[i]=t at*
  generalize Ms[i]=M at*
  obtain⟨a1,a2,a3,a4,a5,a6,a7,a8,a9,dj,dl,a12,rfl,h1,h2,h3⟩:=jz;have PQ:∀(r:List AV),gI 12 ydh (a1::a2::a3::a4::a5::a6::a7::a8::a9::dj::dl::a12::r)=Ft (.agg [a1,a2,a3,a4,a5,a6,a7,a8,a9,dj,dl,a12]):=fun _=>rfl
  have h0:t.1≠0:=fun e=>by rw[e] at ht;exact absurd ht (by decide)
  obtain⟨vx,e1,hx⟩:=Xn h.toFr' h2 h1 h0 k2 k1 (by decide);obtain⟨vy,e2,hy⟩:=Xn h.toFr' h3 h1 h0 k3 k1 (by decide);have kx:Hq 600000 (t.2.1/t.1):=(k2.div k1).mono (by decide);have ky:Hq 600000 (t.2.2/t.1):=(k3.div k1).mono (by decide);have g1:=h1.f4;have g2:=h2.f4;have g3:=h3.f4;obtain⟨x1,x2,x3,x4,rfl,gx⟩:=hx.gen;obtain⟨y1,y2,y3,y4,rfl,gy⟩:=hy.gen;obtain⟨px1,px2,px3,px4⟩:=gx.XE;obtain⟨py1,py2,py3,py4⟩:=gy.XE;have hL:mG (.au ydh 2 [x1,x2,x3,x4,y1,y2,y3,y4]) [(nH t).1,(nH t).2]:=SD (l:=[(nH t).1,(nH t).2]) ydh (QL.cons hx (QL.cons hy QL.nil));have e9:=agf h.K9 h.PN h.PO h.GX h.toTx hL (show 2<=1000000 by decide) (K:=600000) (fun z hz=>by
   rcases xI.1 hz with rfl | hz
   .exact kx
   .rcases xI.1 hz with rfl | hz
    .exact ky
    .exact absurd hz yaj) (by decide)
  have pl:aD [x1,x2,x3,x4,y1,y2,y3,y4]=ydh:=by simp only[aD,px1,px2,px3,px4,py1,py2,py3,py4,vm]
  have V5:[(nH t).1,(nH t).2].any LG=rI t:=by simp[rI]
  rw[V5] at e9;unfold ah at e1 e2;have lm:∀id,gS 12 i (.ap id 0 n)=Ft (.ptr id (0+i*12)):=fun id=>cA id 0 hi
  have aM:(i:Int)<n:=by omega
  have asn:cy (aa i)=Ft i:=rfl
  cases QM:rI t with
  | true=>
   right
   have e9:=e9.1 QM;have jZ:ts.any rI=ydh:=by
    rw[yai];exact⟨_,xk IC,by rw[sU,QM]⟩
   unfold ah at e9
   cases i with
   | zero=>
    have rk:Ms.flatten=[a1,a2,a3,a4,a5,a6,a7,a8,a9,dj,dl,a12]++rest:=by simpa using OG
    have me:(0:Int)<n:=by omega
    have V6:∀id,gS 12 0 (.ap id 0 n)=Ft (.ptr id 0):=lm;simp only[go_sem,ya,yc,xn,yB,AP,qW,me,V6,rk,bj,yd,PQ,GY,yh,yV,yx,yM,kN,g2.aj,g1.aj,g3.aj,e1,e2,bC,NP gx.o1 gx.o2 gx.o3 gx.o4,NQ gy.o1 gy.o2 gy.o3 gy.o4,ko,pl,e9,og,aV,show ¬(4:Int)=0 by decide,xb];exact⟨_,_,rfl,by simp,.inl ⟨rfl,jZ,_,_,_,rfl,by simp only[go_sem,ya],by simp only[go_sem,ya],by simp only[go_sem,ya],by simp only[go_sem,ya]⟩⟩
   | succ i=>
    simp only[go_sem,ya,yc,xn,yB,AP,qW,aM,lm,asn,OG,bj,yd,PQ,GY,yh,yV,yx,yM,kN,g2.aj,g1.aj,g3.aj,e1,e2,bC,NP gx.o1 gx.o2 gx.o3 gx.o4,NQ gy.o1 gy.o2 gy.o3 gy.o4,ko,pl,e9,og,aV,show ¬(4:Int)=0 by decide,xb];exact⟨_,_,rfl,by simp,.inl ⟨rfl,jZ,_,_,_,rfl,by simp only[go_sem,ya],by simp only[go_sem,ya],by simp only[go_sem,ya],by simp only[go_sem,ya]⟩⟩
  | false=>
   left
   obtain⟨rs,ru,e9⟩:=e9.2 QM;have ru:kj rs [RT (nH t).1,RT (nH t).2]:=ru;have i0:=ru.bh (i:=0) (show 0<2 by decide);have i1:=ru.bh (i:=1) (show 1<2 by decide);simp only[wz,wY] at i0 i1;unfold ah at e9;have dH:∀a b:List Nat,cellsOf (.agg [AV.str a,.str b])=[.str a,.str b]:=fun _ _=>rfl
   have agn:∀(tm:Env) (a b:List Nat),kP tm [AV.str [],.str []] 0 2 [.str a,.str b] []=Ft [.str a,.str b]:=fun _ _ _=>rfl
   have oD:∀(cx pu ex:Bool) (a b:AV),E8 0 1 2 (Ft (.cells cx pu ex 2 [a,b]))=Ft (1,[a,b]):=fun _ _ _ _ _=>rfl
   rw[QM] at Lz;unfold IB mc at XJ;generalize RT (nH t).1=tx at*
   generalize RT (nH t).2=ty at*
   cases i with
   | zero=>
    have rk:Ms.flatten=[a1,a2,a3,a4,a5,a6,a7,a8,a9,dj,dl,a12]++rest:=by simpa using OG
    have me:(0:Int)<n:=by omega
    have V6:∀id,gS 12 0 (.ap id 0 n)=Ft (.ptr id 0):=lm;simp only[go_sem,ya,yc,xn,yB,yo,AP,qW,me,V6,rk,bj,yd,PQ,GY,yh,yV,yx,yM,kN,g2.aj,g1.aj,g3.aj,e1,e2,bC,NP gx.o1 gx.o2 gx.o3 gx.o4,NQ gy.o1 gy.o2 gy.o3 gy.o4,ko,pl,e9,aV,yX,ru.bF,i0,i1,dH,agn,oD,jC];refine⟨_,d-1,rfl,by omega,1,by omega,Lz,?_⟩;rw[XJ];have hz:lG (ts.take 0)=[]:=rfl;simp only[go_sem,ya,yc,aA,hz,yM]
    try rfl
   | succ i=>
    have Bm:=fun (hp:Hp) (ct:Nat) (hg:ai hp 2=Ft (.cells ydh ydh ydi 2 (lG (ts.take (i+1)))))=>gA (ct:=ct) (by':=32) (new:=[AV.str tx,.str ty]) (m:=1) (n:=i+1) hg hOl (by omega) (by omega) (by decide) rfl
    simp only[go_sem,ya,yc,xn,yB,yo,AP,qW,aM,lm,asn,OG,bj,yd,PQ,GY,yh,yV,yx,yM,kN,g2.aj,g1.aj,g3.aj,e1,e2,bC,NP gx.o1 gx.o2 gx.o3 gx.o4,NQ gy.o1 gy.o2 gy.o3 gy.o4,ko,pl,e9,aV,yX,ru.bF,i0,i1,dH,agn,oD,Bm];refine⟨_,d-1,rfl,by omega,i+2,by omega,Lz,?_⟩;rw[wrap64 (by omega) (by omega),XJ];simp only[go_sem,ya,yc,aA]
    try rfl
 .right
  have cN:i=n:=by omega
  subst cN;rw[yG (by omega)] at hB ⊢
  cases i with
  | zero=>
   simp only[go_sem,ya,AP,qW,show ¬(0:Int)<((0:Nat):Int) by decide];exact⟨_,_,rfl,by simp,.inr ⟨rfl,hB,_,_,rfl,by simp only[go_sem,ya]⟩⟩
  | succ i=>
   simp only[go_sem,ya,AP,qW,show ¬((i+1:Nat):Int)<((i+1:Nat):Int) by omega];exact⟨_,_,rfl,by simp,.inr ⟨rfl,hB,_,_,rfl,by simp only[go_sem,ya]⟩⟩
def zB(B:Nat)(p:Hp×Nat):St:=⟨[],p.1,p.2,B⟩
def UI(B:Nat)(a:Hp)(b:Nat):zB B (a,b)=⟨[],a,b,B⟩:=rfl
def SH(tm:Env)(hp:Hp)(ct B:Nat):br [] ⟨tm,hp,ct,B⟩=zB B (XH B hp (lD B hp 100000 (cI B hp) [])):=rfl
def aex(hc:zM cap)(A B:VC)(n:Nat)(T:List AV):iH 6 5 (dW A B C R S g cap n T 0)=(dW A B C R S g cap n T 0,Du n):=by
 cases n<;>simp only[go_sem,yc,yB,yo,rW,dW,Du,fU,cS,zj hc.pu,Az _ hc.pu]
def aw5(hc:zM cap)(A B:VC)(n:Nat)(T:List AV)(tm:Env)(ct:Nat):br [] ⟨tm,dW A B C R S g cap n T 0,ct,6⟩=⟨[],dW A B C R S g cap n T 0,Du n,6⟩:=by
 cases n<;>simp only[go_sem,yc,yB,yo,SH,UI,dW,Du,fU,cS,zj hc.pu,Az _ hc.pu]
def aw6(A B:VC)(n:Nat)(T:List AV):∃tm p a b,ai (dW A B C R S g cap n T 0) 5=Ft (.lp tm p a b 0 .none):=by
 cases n<;>exact⟨_,_,_,_,rfl⟩
def nI(q:Nat->Nat->Rat)(C R S:Nat):List MT:=(wF (C*R)).map fun k=>(dR (jA q (k%C) (k/C) S) (S*S),dR (Ao q (k%C) (k/C) S) (S*S),dR (Ap q (k%C) (k/C) S) (S*S))
def rJ(ts:List MT):Int:=if (ts.any fun t=>decide (t.1<=0))=ydh then 6 else if ts.any rI=ydh then 4 else 0
noncomputable def Fq(ts:List MT):List lE:=if rJ ts=0 then ts.map IB else []
def arc{q:Nat->Nat->Rat}:(nI q C R S).length=C*R:=by simp[nI]
def ard{q:Nat->Nat->Rat}{k:Nat}(hk:k<(nI q C R S).length):(nI q C R S)[k]=(dR (jA q (k%C) (k/C) S) (S*S),dR (Ao q (k%C) (k/C) S) (S*S),dR (Ap q (k%C) (k/C) S) (S*S)):=by simp[nI]
def mQ{k:Nat}(h:k<C*R):k%C<C/\k/C<R:=by
 have h0:0<C:=vW (fun e=>by rw[e,vh] at h;omega);exact⟨xu _ h0,ybj h⟩
def avg{hp:Hp}{id n sz:Nat}{cs:List AV}{e:Int}(hg:ai hp id=Ft (.cells ydh ydh ydi sz cs))(hl:cs.length=n*sz):result hp (.ax [.ap id 0 n,aa e])=Ft (.ax [.cF ydi sz n cs,aa e]):=by
 have h1:qB deep hp (.ap id 0 n)=Ft (.cF ydi sz n cs,cC hp id):=by
  simp only[qB,hg,yd,<-hl,yt (yu cs.length),yq,uP,slice,yh,xN]
 simp only[result,NS,DL,h1];rfl
def azO(h:Cen P L){q:Nat->Nat->Rat}(hc:zM cap)(hC:C<=8)(hR:R<=8)(hS:S<=8)(Fm:0<C*R)(hq:XI P L g cap (C*S) (R*S) q)(kq:∀c r,c<C*S->r<R*S->Hq 3000 (q c r)):
  ∃v,ah P L 688 [.agg [aa C,aa R,aa S],.fn (.f g) [] cap] (.ax [v,aa (rJ (nI q C R S))])/\jk (bF v) (Fq (nI q C R S)):=by
 have e2:=agm h.agl C R S;have aw7:C*R<=64:=yS hC hR;have hlen:=arc (q:=q) (C:=C) (R:=R) (S:=S);have ai:=fun k (hk:k<(nI q C R S).length)=>ard (q:=q) (C:=C) (R:=R) (S:=S) hk
 have hk:∀t,t∈nI q C R S->Hq 300000 t.1/\Hq 300000 t.2.1/\Hq 300000 t.2.2:=fun t ht=>by
  obtain⟨k,hk,rfl⟩:=xS.1 ht;rw[ai k hk];obtain⟨l1,l2⟩:=mQ (hlen▸hk);exact UH kq l1 l2 hS (yu _)
 generalize mJ:nI q C R S=ts at*
 have h1:=acW (P:=P) (L:=L) h.EN (f:=.t 16) (ps:=[17,18]) (as_:=iT) (body:=iU) (s:=⟨fU C R S g cap,[(4,.cells ydh ydh ydh 1 [.af]),(3,.cells ydh ydh ydh 1 [aa 0]),(2,.cells ydh ydh ydh 1 [.af]),(1,.cells ydh ydh ydh 1 [.fn (.f g) [] cap]),(0,.cells ydh ydh ydh 3 [aa C,aa R,aa S])],5,0⟩) (S:=S) hC hR rfl
  (Inv:=fun k H c=>∃Ms,H=dW iT iU C R S g cap k Ms.flatten 0/\c=Du k/\MoS Ms (ts.take k)/\∀t,t∈ts.take k->0<t.1) (Bad:=fun hp ct=>aew hp ct/\(ts.any fun t=>decide (t.1<=0))=ydh)
  ⟨by rintro j H c ⟨Ms,rfl,rfl,_⟩;exact aex hc _ _ _ _,by rintro j H c ⟨Ms,rfl,rfl,_⟩ tm ct;exact aw5 hc _ _ _ _ _ _,by rintro j H c ⟨Ms,rfl,rfl,_⟩;exact aw6 _ _ _ _⟩
  ⟨_,_,aex hc iT iU 0 [],[],rfl,rfl,trivial,fun t ht=>by simp at ht⟩ (by
   rintro k H c sM ⟨Ms,rfl,rfl,Fs,iZ⟩;obtain⟨l1,l2⟩:=mQ sM;have gL:k<ts.length:=by rw[hlen];exact sM
   obtain⟨M,e1,hM⟩:=azL h.toMom hc hC hR hS l1 l2 hq kq;have QK:Ms.length=k:=by rw[Fs.len,yQ,xj (by omega)]
   have hMf:Ms.flatten.length=k*12:=by
    rw[IX (k:=12) (fun p hp=>by
     obtain⟨i,hi,rfl⟩:=xS.1 hp
     exact (Fs.get hi (by rw[<-Fs.len];exact hi)).cells.1),QK]
   have hg:=ai k gL;by_cases hf:0<dR (jA q (k%C) (k/C) S) (S*S)
   .left
    obtain⟨hp,aH,e3,e4⟩:=azN h (k:=k) hc hMf (by omega) hM hf e1;refine⟨hp,aH,_,_,e3,e4,Ms++[M],by simp,rfl,?_,?_⟩
    .rw [xa gL];exact jL.snoc Fs (by rw[hg];exact hM)
    .rw [xa gL];intro t ht;rcases xH.1 ht with ht | ht
     .exact iZ t ht
     .rw [we.1 ht,hg];exact hf
   .right
    obtain⟨hp,aH,tm,p,A,B,e3,e4,e5⟩:=aw4 h (k:=k) (n:=k) (T:=Ms.flatten) hc hM hf e1;refine⟨hp,aH,tm,p,A,B,e3,e4,e5,?_⟩;rw[yai]
    exact⟨_,xk gL,by rw[hg];exact xT (ydg.1 hf)⟩)
 unfold ah at e2;unfold ah;rw[aJ h.azM];unfold fU at h1;simp only[go_sem,ya,yc,U8,aV,hc.pu,jE,ow,e2];rcases h1 with ⟨H,c,⟨Ms,rfl,rfl,Fs,iZ⟩,hD⟩ | ⟨hp,aH,⟨⟨b1,b2⟩,V5⟩,hD⟩
 .rw [yG (by omega)] at Fs iZ;have hz:(ts.any fun t=>decide (t.1<=0))=ydi:=by
   rw[uf];intro t ht;simpa using Rat.not_le.2 (iZ t ht)
  obtain⟨m,hm⟩:∃m,C*R=m+1:=⟨C*R-1,by omega⟩;rw[hm] at hD hlen;have key:=avf h (n:=m+1) hlen (by omega) Fs iZ hk;unfold dW Du at hD;simp only[go_sem,ya,hD];generalize bG:D P L (.loop [4,5,10,31,32,33] AP) _=Q;obtain⟨ex,st,rfl,hh⟩:=bN bG (key (m+1)) ⟨0,by omega,rfl,by
   have h0:lG (ts.take 0)=[]:=rfl
   simp only[go_sem,ya,yc,aA,qW]<;>rfl⟩
  rcases hh with ⟨rfl,hB,tm,hp,ct,rfl,g1,g2,g3,g4⟩ | ⟨rfl,hB,tm,ct,rfl,sT⟩
  .have hE:rJ ts=4:=by unfold rJ;rw[hz,hB];rfl
   refine⟨.af,?_,by unfold Fq;rw[hE];exact SE⟩
   rw[hE];simp only[go_sem,c9,db,g1,g2,g3,g4,yh]
  .have hE:rJ ts=0:=by unfold rJ;rw[hz,hB];rfl
   have Wr:=ab5 ts;rw[hlen] at Wr
   refine⟨.cF ydi 2 (m+1) (lG ts),?_,by
    unfold Fq;rw[hE,yP rfl];unfold lG;have e:=ab3 (k:=2) (ps:=ts.map fun t=>mc (IB t)) ydi (fun p hp=>by obtain⟨t,_,rfl⟩:=xM.1 hp;rfl)
    rw[yL,hlen] at e;unfold jk;rw[uA]
    exact e⟩
   rw[hE];have fk:∀ct,br [4,5,10] ⟨tm,(qW (m+1) (m+1) Ms.flatten (lG ts)).hp,ct,0⟩=⟨[(4,.ptr 0 0),(5,.ptr 1 0),(10,.ap 2 0 (m+1))],[(2,.cells ydh ydh ydi 2 (lG ts)),(1,.cells ydh ydh ydh 1 [aa 0]),(0,.cells ydh ydh ydh 1 [.af])],3,0⟩:=fun ct=>by
    rw[IG (c':=ct) sT];simp only[go_sem,ya,yc,aA,qW]<;>rfl
   simp only[go_sem,ya,fk,og,c9,db,yh];exact avg rfl Wr
 .have hE:rJ ts=6:=by unfold rJ;rw[V5];rfl
  refine⟨.af,?_,by unfold Fq;rw[hE];exact SE⟩
  rw[hE];simp only[go_sem,ya,hD,c9,db,b1,b2,yh]
end
section
variable {C R S:Int}{F:List (List Nat)}
def XK(a:Rat):Rat:=if a<0 then 0 else a
def aw8{a:Rat}{K:Nat}(h:Hq K a):Hq (K+2) (XK a):=by
 unfold XK;split
 .exact af8.mono (by omega)
 .exact h.mono (by omega)
structure ago(C R S:Int)(c r s:Nat):Prop where
 hC:C=c
 hR:R=r
 hS:S=s
 c1:1<=c
 c8:c<=8
 r1:1<=r
 r8:r<=8
 s2:2<=s
 s8:s<=8
def agp(h:ot C R S=0):ago C R S C.toNat R.toNat S.toNat:=by
 obtain⟨⟨a1,a2⟩,⟨b1,b2⟩,d1,d2⟩:=ab4 h;exact⟨by omega,by omega,by omega,by omega,by omega,by omega,by omega,by omega,by omega⟩
def ac0(h:p7 C R S F=0)(hb:∀r,r∈F->∀b,b∈r->b<4294967296):ago C R S C.toNat R.toNat S.toNat/\oL F (R.toNat*S.toNat) (C.toNat*S.toNat):=by
 unfold p7 at h;by_cases c:ot C R S=0
 .rw [yP c] at h;exact⟨agp c,arb h hb⟩
 .rw [yz c] at h;exact absurd h c
noncomputable def XL(F:List (List Nat))(o:Option Rat)(c r:Nat):Rat:=match o with
 | none=>lF F c r
 | some l=>XK (lF F c r-l)
noncomputable def XM(C R S:Int)(F:List (List Nat))(o:Option Rat):List MT:=nI (XL F o) C.toNat R.toNat S.toNat
noncomputable def QN(C R S:Int)(F:List (List Nat)):Int:=if p7 C R S F=0 then rJ (XM C R S F none) else p7 C R S F
noncomputable def QO(C R S:Int)(F:List (List Nat)):List lE:=if p7 C R S F=0 then Fq (XM C R S F none) else []
def oL.Ha{n m c r:Nat}(h:oL F n m)(hr:r<n)(hc:c<m){o:Option Rat}(ho:∀l,o=Ft l->Hq 2400 l):Hq 3000 (XL F o c r):=by
 cases o with
 | none=>exact (h.H hr hc).mono (by omega)
 | some l=>exact (aw8 ((h.H hr hc).sub (ho l rfl))).mono (by omega)
structure Ctd(P:aF)(L:Lib):Prop extends Cen P L,Frc P L,Exc P L,Ck P L where
 agq:Has P L 654 Pc
 aEg:Has P L 655 ae7
 V3:Has P L 687 Pk
 aEh:Has P L 689 ae8
 aEi:Has P L 690 ae9
 aEj:Has P L 691 afa
def avh{k:Nat}{v:AV}{ps:List (List AV)}{hp:Hp}{e:Int}(h:kJ k v ps):result hp (.ax [v,aa e])=Ft (.ax [v,aa e]):=by
 rcases h.1 with ⟨rfl,rfl⟩ | ⟨b,rfl⟩<;>rfl
def azP(h:Ctd P L){v:AV}(hv:eP fC v F)(hl:F.length<=1000000)(hr:∀r,r∈F->r.length<=1000000)(hb:∀r,r∈F->∀b,b∈r->b<4294967296):
  ∃w,ah P L 654 [.agg [aa C,aa R,aa S],v] (.ax [w,aa (QN C R S F)])/\jk w (QO C R S F):=by
 have e1:=agi h.toFrc hv hl hr (C:=C) (R:=R) (S:=S);have fz:=ow;unfold QN QO;by_cases c:p7 C R S F=0
 .rw [yP c,yP c];obtain⟨g,hF⟩:=ac0 c hb;unfold XM;generalize C.toNat=cn at*
  generalize R.toNat=rn at*
  generalize S.toNat=sn at*
  obtain⟨rfl,rfl,rfl,c1,c8,r1,r8,s2,s8⟩:=g;have KO:zM [.bq [v]]:=⟨rfl,fun n hp=>rfl⟩;obtain⟨w,e2,hw⟩:=azO h.toCen (g:=687) (cap:=[.bq [v]]) (q:=XL F none) KO c8 r8 s8 (vv (by omega) (by omega)) (fun c r hc hr=>azF h.toExc h.V3 hv hF hc hr) (fun c r hc hr=>hF.Ha hr hc (fun l e=>by cases e));rw[c] at e1;unfold ah at e1 e2;refine⟨_,?_,hw⟩;unfold ah;rw[aJ h.agq];simp only[go_sem,ya,yc,Pc,aV,yh,jE,fz,hv.pu,hv.aj,hv.one,hv.cells,e1,e2];exact avh hw
 .rw [yz c,yz c];refine⟨.af,?_,SE⟩;unfold ah at e1;unfold ah;rw[aJ h.agq];simp only[go_sem,ya,yc,Pc,aV,yh,jE,fz,hv.pu,hv.aj,hv.one,hv.cells,e1,c]
end
section
variable {v:AV}{C R S a b k:Nat}{A B:VC}
def bd(C R S:Nat)(v:AV):Env:=[(20,.fn (.f 718) [] [cS C R S]),(19,.agg [aa C,aa R,aa S]),(7,.ptr 2 0),(17,.bool ydi),(16,.int .i64 0),(6,.int .i64 0),(15,.int .i64 0),(14,v),(13,.agg [aa C,aa R,aa S]),(5,.int .i64 0),(4,.af),(3,.ptr 1 0),(2,.ptr 0 0),(0,.agg [aa C,aa R,aa S]),(1,v)]
def dn(A B:VC)(C R S:Nat)(v:AV):Nat->List AV->Nat->Hp
 | 0,_,st=>[(3,.lp (bd C R S v) [21,22] A B st .none),(2,.cells ydh ydh ydh 1 [.af]),(1,.cells ydh ydh ydh 1 [v]),(0,.cells ydh ydh ydh 3 [aa C,aa R,aa S])]
 | n+1,Q,st=>[(4,.cells ydh ydh ydi 4 Q),(3,.lp (bd C R S v) [21,22] A B st .none),(2,.cells ydh ydi ydh 1 [.ap 4 0 (n+1)]),(1,.cells ydh ydh ydh 1 [v]),(0,.cells ydh ydh ydh 3 [aa C,aa R,aa S])]
def nJ:Nat->Nat
 | 0=>4
 | _+1=>5
def dX(c C R S a b k:Nat)(v:AV):Env:=(25,.fn (.f 719) [] [cS C R S,iO a b])::(24,.agg [aa a,aa b])::(23,.agg [aa C,aa R,aa S])::(10,.ptr (c+1) 0)::(9,.ptr c 0)::(22,.agg [aa a,aa b])::(21,aa k)::bd C R S v
def dt(A B Ai Bi:VC)(C R S a b k:Nat)(v:AV):Nat->Nat->List AV->List AV->Nat->Hp
 | 0,0,Q,_,st=>[(6,.lp (dX 4 C R S a b k v) [26,27] Ai Bi st .none),(5,.cells ydh ydh ydh 1 [.af]),(4,.cells ydh ydh ydh 2 [aa a,aa b])]++dn A B C R S v 0 Q 1
 | 0,m+1,Q,T,st=>[(7,.cells ydh ydh ydi 4 T),(6,.lp (dX 4 C R S a b k v) [26,27] Ai Bi st .none),(5,.cells ydh ydi ydh 1 [.ap 7 0 (m+1)]),(4,.cells ydh ydh ydh 2 [aa a,aa b])]++dn A B C R S v 0 Q 1
 | n+1,0,Q,_,st=>[(7,.lp (dX 5 C R S a b k v) [26,27] Ai Bi st .none),(6,.cells ydh ydh ydh 1 [.af]),(5,.cells ydh ydh ydh 2 [aa a,aa b])]++dn A B C R S v (n+1) Q 1
 | n+1,m+1,Q,T,st=>[(8,.cells ydh ydh ydi 4 T),(7,.lp (dX 5 C R S a b k v) [26,27] Ai Bi st .none),(6,.cells ydh ydi ydh 1 [.ap 8 0 (m+1)]),(5,.cells ydh ydh ydh 2 [aa a,aa b])]++dn A B C R S v (n+1) Q 1
def rK:Nat->Nat
 | 0=>7
 | _+1=>8
def p8:Nat->Nat->Nat
 | 0,0=>7
 | 0,_+1=>8
 | _+1,0=>8
 | _+1,_+1=>9
def aey(pv:aW v=ydh)(n:Nat)(Q:List AV):iH 4 3 (dn A B C R S v n Q 0)=(dn A B C R S v n Q 0,nJ n):=by
 cases n<;>simp only[go_sem,yc,yB,yo,rW,dn,nJ,bd,cS,aE pv]
def aw9(pv:aW v=ydh)(n:Nat)(Q:List AV)(tm:Env)(ct:Nat):br [] ⟨tm,dn A B C R S v n Q 0,ct,4⟩=⟨[],dn A B C R S v n Q 0,nJ n,4⟩:=by
 cases n<;>simp only[go_sem,yc,yB,yo,SH,UI,dn,nJ,bd,cS,aE pv]
def OH{Ai Bi:VC}(pv:aW v=ydh)(n m:Nat)(Q T:List AV):iH (rK n) (rK n-1) (dt A B Ai Bi C R S a b k v n m Q T 0)=(dt A B Ai Bi C R S a b k v n m Q T 0,p8 n m):=by
 cases n<;>cases m<;>simp only[go_sem,yc,yB,yo,rW,dt,dn,rK,p8,bd,dX,cS,iO,Nat.reduceSub,yx,yM,aE pv]
def aez{Ai Bi:VC}(pv:aW v=ydh)(n m:Nat)(Q T:List AV)(tm:Env)(ct:Nat):br [] ⟨tm,dt A B Ai Bi C R S a b k v n m Q T 0,ct,rK n⟩=⟨[],dt A B Ai Bi C R S a b k v n m Q T 0,p8 n m,rK n⟩:=by
 cases n<;>cases m<;>simp only[go_sem,yc,yB,yo,SH,UI,dt,dn,rK,p8,bd,dX,cS,iO,yx,yM,aE pv]
def azQ(h:Ctd P L){n m i j c r:Nat}{x1 x2 x3 x4:AV}{Q T:List AV}{F:List (List Nat)}{x:Rat}(hv:eP fC v F)(hT:T.length=m*4)(hm:m<=64){w:AV}{rest:List AV}{f:Nat}{axa:List AV}(e0:gS 1 r v=Ft (.bq (w::rest)))(e1:gS 1 c w=Ft (.bq (.ao .f32 f::axa)))(e2:ah P L 685 [.ao .f32 f] (.agg [x1,x2,x3,x4]))(hx:cg (.agg [x1,x2,x3,x4]) x):
  ∃hp aH,fV (D P L) (dt A B fF fG C R S a b k v n m Q T 0) (p8 n m) (rK n-1) [.agg [aa i,aa j],.agg [aa c,aa r]]=Ft (.bool ydh,hp,aH)/\iH (rK n) (rK n-1) hp=(dt A B fF fG C R S a b k v n (m+1) Q (T++[x1,x2,x3,x4]) 0,p8 n (m+1)):=by
 have g:=hx.f4;have pq:=g.p;obtain⟨p1,p2,p3,p4⟩:=g.XE;have pv:=hv.pu;unfold ah at e2;have QP:cy (aa c)=Ft c:=rfl;have QQ:cy (aa r)=Ft r:=rfl;have se:∀(tm:Env) (y1 y2 y3 y4:AV),kP tm [y1,y2,y3,y4] 0 4 [x1,x2,x3,x4] []=Ft [x1,x2,x3,x4]:=fun tm y1 y2 y3 y4=>by
  rw[B3 (by rfl) (by simp) g.o];rfl
 have Dv:∀(cx pu ex:Bool),E8 0 1 4 (Ft (.cells cx pu ex 4 [x1,x2,x3,x4]))=Ft (1,[x1,x2,x3,x4]):=fun _ _ _=>rfl
 match n,m,hT with
 | 0,0,hT=>
  have hT:T=[]:=wR.1 (by simpa using hT);subst hT;have eE:∀Ac Bc,D P L fF ⟨(27,.agg [aa c,aa r])::(26,.agg [aa i,aa j])::dX 4 C R S a b k v,dt A B Ac Bc C R S a b k v 0 0 Q [] 0,7,7⟩=Ft (.normal,⟨(12,.ptr 7 0)::(27,.agg [aa c,aa r])::(26,.agg [aa i,aa j])::dX 4 C R S a b k v,(7,.cells ydh ydh ydh 2 [aa c,aa r])::dt A B Ac Bc C R S a b k v 0 0 Q [] 0,8,7⟩):=by
   intro Ac Bc;unfold dt dn;simp only[go_sem,ya,yc,fF,pK,sD,yx,yM]
  have cT:∀Ac Bc,∃tm hp,D P L fG ⟨(12,.ptr 7 0)::(27,.agg [aa c,aa r])::(26,.agg [aa i,aa j])::dX 4 C R S a b k v,(7,.cells ydh ydh ydh 2 [aa c,aa r])::dt A B Ac Bc C R S a b k v 0 0 Q [] 1,8,8⟩=Ft (.normal,⟨tm,hp,10,8⟩)/\ai hp 6=Ft (.lp (dX 4 C R S a b k v) [26,27] Ac Bc 1 .none)/\iH 7 6 (aU hp 6 (.lp (dX 4 C R S a b k v) [26,27] Ac Bc 0 .none))=(dt A B Ac Bc C R S a b k v 0 (0+1) Q ([]++[x1,x2,x3,x4]) 0,8):=by
   intro Ac Bc;unfold dt dn;simp only[dX,bd];simp only[go_sem,ya,yc,xn,yB,yo,fG,yx,yM,bj,yd,yh,yV,QQ,QP,e0,e1,zx,e2,bC,se,ko,pq,Ax,Au,Dv,jC,og];refine⟨_,_,rfl,?_,?_⟩
   .simp only [go_sem,ya]
   .simp only [go_sem,ya,yc,yB,yo,rW,cS,iO,aE pv]
  obtain⟨tm,hp,cT,hg,lC⟩:=cT fF fG
  exact⟨_,_,AG (P:=P) (L:=L) (hp:=dt A B fF fG C R S a b k v 0 0 Q [] 0) (ct:=7) (l:=6) (xs:=[.agg [aa i,aa j],.agg [aa c,aa r]]) rfl rfl (eE _ _) rfl cT hg,lC⟩
 | 0,m+1,hT=>
  have Bm:=fun (hp:Hp) (ct:Nat) (hg:ai hp 7=Ft (.cells ydh ydh ydi 4 T))=>gA (ct:=ct) (by':=64) (new:=[x1,x2,x3,x4]) (m:=1) (n:=m+1) hg hT (by omega) (by omega) (by decide) g.o
  have eE:∀Ac Bc,D P L fF ⟨(27,.agg [aa c,aa r])::(26,.agg [aa i,aa j])::dX 4 C R S a b k v,dt A B Ac Bc C R S a b k v 0 (m+1) Q T 0,8,8⟩=Ft (.normal,⟨(12,.ptr 8 0)::(27,.agg [aa c,aa r])::(26,.agg [aa i,aa j])::dX 4 C R S a b k v,(8,.cells ydh ydh ydh 2 [aa c,aa r])::dt A B Ac Bc C R S a b k v 0 (m+1) Q T 0,9,8⟩):=by
   intro Ac Bc;unfold dt dn;simp only[go_sem,ya,yc,fF,pK,sD,yx,yM]
  have cT:∀Ac Bc,∃tm hp,D P L fG ⟨(12,.ptr 8 0)::(27,.agg [aa c,aa r])::(26,.agg [aa i,aa j])::dX 4 C R S a b k v,(8,.cells ydh ydh ydh 2 [aa c,aa r])::dt A B Ac Bc C R S a b k v 0 (m+1) Q T 1,9,9⟩=Ft (.normal,⟨tm,hp,11,9⟩)/\ai hp 6=Ft (.lp (dX 4 C R S a b k v) [26,27] Ac Bc 1 .none)/\iH 7 6 (aU hp 6 (.lp (dX 4 C R S a b k v) [26,27] Ac Bc 0 .none))=(dt A B Ac Bc C R S a b k v 0 (m+1+1) Q (T++[x1,x2,x3,x4]) 0,8):=by
   intro Ac Bc;unfold dt dn;simp only[dX,bd];simp only[go_sem,ya,yc,xn,fG,yx,yM,bj,yd,yh,yV,QQ,QP,e0,e1,zx,e2,bC,se,ko,pq,Ax,Au,Dv,Bm,og,vm];refine⟨_,_,rfl,?_,?_⟩
   .simp only [go_sem,ya]
   .simp only [go_sem,ya,yc,yB,yo,rW,cS,iO,aE pv]
  obtain⟨tm,hp,cT,hg,lC⟩:=cT fF fG
  exact⟨_,_,AG (P:=P) (L:=L) (hp:=dt A B fF fG C R S a b k v 0 (m+1) Q T 0) (ct:=8) (l:=6) (xs:=[.agg [aa i,aa j],.agg [aa c,aa r]]) rfl rfl (eE _ _) rfl cT hg,lC⟩
 | n+1,0,hT=>
  have hT:T=[]:=wR.1 (by simpa using hT);subst hT;have eE:∀Ac Bc,D P L fF ⟨(27,.agg [aa c,aa r])::(26,.agg [aa i,aa j])::dX 5 C R S a b k v,dt A B Ac Bc C R S a b k v (n+1) 0 Q [] 0,8,8⟩=Ft (.normal,⟨(12,.ptr 8 0)::(27,.agg [aa c,aa r])::(26,.agg [aa i,aa j])::dX 5 C R S a b k v,(8,.cells ydh ydh ydh 2 [aa c,aa r])::dt A B Ac Bc C R S a b k v (n+1) 0 Q [] 0,9,8⟩):=by
   intro Ac Bc;unfold dt dn;simp only[go_sem,ya,yc,fF,pK,sD,yx,yM]
  have cT:∀Ac Bc,∃tm hp,D P L fG ⟨(12,.ptr 8 0)::(27,.agg [aa c,aa r])::(26,.agg [aa i,aa j])::dX 5 C R S a b k v,(8,.cells ydh ydh ydh 2 [aa c,aa r])::dt A B Ac Bc C R S a b k v (n+1) 0 Q [] 1,9,9⟩=Ft (.normal,⟨tm,hp,11,9⟩)/\ai hp 7=Ft (.lp (dX 5 C R S a b k v) [26,27] Ac Bc 1 .none)/\iH 8 7 (aU hp 7 (.lp (dX 5 C R S a b k v) [26,27] Ac Bc 0 .none))=(dt A B Ac Bc C R S a b k v (n+1) (0+1) Q ([]++[x1,x2,x3,x4]) 0,9):=by
   intro Ac Bc;unfold dt dn;simp only[dX,bd];simp only[go_sem,ya,yc,xn,yB,yo,fG,yx,yM,bj,yd,yh,yV,QQ,QP,e0,e1,zx,e2,bC,se,ko,pq,Ax,Au,Dv,jC,og];refine⟨_,_,rfl,?_,?_⟩
   .simp only [go_sem,ya]
   .simp only [go_sem,ya,yc,yB,yo,rW,cS,iO,aE pv]
  obtain⟨tm,hp,cT,hg,lC⟩:=cT fF fG
  exact⟨_,_,AG (P:=P) (L:=L) (hp:=dt A B fF fG C R S a b k v (n+1) 0 Q [] 0) (ct:=8) (l:=7) (xs:=[.agg [aa i,aa j],.agg [aa c,aa r]]) rfl rfl (eE _ _) rfl cT hg,lC⟩
 | n+1,m+1,hT=>
  have Bm:=fun (hp:Hp) (ct:Nat) (hg:ai hp 8=Ft (.cells ydh ydh ydi 4 T))=>gA (ct:=ct) (by':=64) (new:=[x1,x2,x3,x4]) (m:=1) (n:=m+1) hg hT (by omega) (by omega) (by decide) g.o
  have eE:∀Ac Bc,D P L fF ⟨(27,.agg [aa c,aa r])::(26,.agg [aa i,aa j])::dX 5 C R S a b k v,dt A B Ac Bc C R S a b k v (n+1) (m+1) Q T 0,9,9⟩=Ft (.normal,⟨(12,.ptr 9 0)::(27,.agg [aa c,aa r])::(26,.agg [aa i,aa j])::dX 5 C R S a b k v,(9,.cells ydh ydh ydh 2 [aa c,aa r])::dt A B Ac Bc C R S a b k v (n+1) (m+1) Q T 0,10,9⟩):=by
   intro Ac Bc;unfold dt dn;simp only[go_sem,ya,yc,fF,pK,sD,yx,yM]
  have cT:∀Ac Bc,∃tm hp,D P L fG ⟨(12,.ptr 9 0)::(27,.agg [aa c,aa r])::(26,.agg [aa i,aa j])::dX 5 C R S a b k v,(9,.cells ydh ydh ydh 2 [aa c,aa r])::dt A B Ac Bc C R S a b k v (n+1) (m+1) Q T 1,10,10⟩=Ft (.normal,⟨tm,hp,12,10⟩)/\ai hp 7=Ft (.lp (dX 5 C R S a b k v) [26,27] Ac Bc 1 .none)/\iH 8 7 (aU hp 7 (.lp (dX 5 C R S a b k v) [26,27] Ac Bc 0 .none))=(dt A B Ac Bc C R S a b k v (n+1) (m+1+1) Q (T++[x1,x2,x3,x4]) 0,9):=by
   intro Ac Bc;unfold dt dn;simp only[dX,bd];simp only[go_sem,ya,yc,xn,fG,yx,yM,bj,yd,yh,yV,QQ,QP,e0,e1,zx,e2,bC,se,ko,pq,Ax,Au,Dv,Bm,og,vm];refine⟨_,_,rfl,?_,?_⟩
   .simp only [go_sem,ya]
   .simp only [go_sem,ya,yc,yB,yo,rW,cS,iO,aE pv]
  obtain⟨tm,hp,cT,hg,lC⟩:=cT fF fG
  exact⟨_,_,AG (P:=P) (L:=L) (hp:=dt A B fF fG C R S a b k v (n+1) (m+1) Q T 0) (ct:=9) (l:=7) (xs:=[.agg [aa i,aa j],.agg [aa c,aa r]]) rfl rfl (eE _ _) rfl cT hg,lC⟩
end
section
variable {v:AV}{F:List (List Nat)}{Q:List AV}{C R S a b k:Nat}
noncomputable def zf(F:List (List Nat))(a b S j:Nat):List Rat:=(wF j).map (jA (lF F) a b S)
def aoD{j:Nat}:zf F a b S (j+1)=zf F a b S j++[jA (lF F) a b S j]:=by simp[zf,ybO]
def FV{j:Nat}:(zf F a b S j).length=j:=by simp[zf]
def ab6{f:Nat->Rat}:∀n,pH 0 ((wF n).map f)=dR f n
 | 0=>rfl
 | n+1=>by
  have h:=ab6 (f:=f) n;rw[ybO,xA,dR,<-h];simp[pH,List.foldl_append]
def axb(h:Ctd P L){A B:VC}{n bs:Nat}(hv:eP fC v F)(hF:oL F (R*S) (C*S))(hC:C<=8)(hR:R<=8)(hS:S<=8)(ha:a<C)(hb:b<R){Z:Option (Ex×St)}(hQ:D P L (.rf (.t 25) [26,27] fF fG) ⟨dX (nJ n) C R S a b k v,(nJ n+1,.cells ydh ydh ydh 1 [.af])::(nJ n,.cells ydh ydh ydh 2 [aa a,aa b])::dn A B C R S v n Q 1,nJ n+2,bs⟩=Z):
  ∃T,QL T (zf F a b S (S*S))/\Z=Ft (.normal,⟨dX (nJ n) C R S a b k v,cC (dt A B fF fG C R S a b k v n (S*S) Q T 0) (nJ n+2),p8 n (S*S),bs⟩):=by
 have hSS:S*S<=64:=yS hS hS;have key:∀j i H c,j<S->i<S->(∃T,H=dt A B fF fG C R S a b k v n (j*S+i) Q T 0/\c=p8 n (j*S+i)/\QL T (zf F a b S (j*S+i)))->
   ∃hp aH H' c',fV (D P L) H c (rK n-1) (Mg S a b j i)=Ft (.bool ydh,hp,aH)/\iH (rK n) (rK n-1) hp=(H',c')/\∃T,H'=dt A B fF fG C R S a b k v n (j*S+i+1) Q T 0/\c'=p8 n (j*S+i+1)/\QL T (zf F a b S (j*S+i+1)):=by
  rintro j i H c hj hi ⟨T,rfl,rfl,hT⟩;obtain⟨bA,ki,e,f1,f2⟩:=hF.at (gD hb hj) (gD ha hi);obtain⟨w,rest,hw,e0⟩:=hv.bh bA;have hw:cp w (bY F[b*S+j]):=hw;have e1:=hw.bh (i:=a*S+i) (by simpa using ki);rw[SG ki] at e1;obtain⟨x,e2,hx⟩:=aet h.toExc f2 f1;rw[<-e] at hx;have rF:=hx;obtain⟨x1,x2,x3,x4,rfl,_⟩:=hx.gen;have Dw:=hT.len;rw[FV] at Dw;have hjs:=gD (S:=S) hj hi;obtain⟨hp,aH,e3,e4⟩:=azQ h (A:=A) (B:=B) (C:=C) (R:=R) (S:=S) (a:=a) (b:=b) (k:=k) (n:=n) (i:=i) (j:=j) (Q:=Q) hv Dw (by omega) e0 e1 e2 rF;refine⟨hp,aH,_,_,e3,e4,_,rfl,rfl,?_⟩;rw[aoD,acY hi];exact hT.snoc rF
 match n,hQ,key with
 | 0,hQ,key=>
  obtain⟨H,c,⟨T,rfl,rfl,hT⟩,e⟩:=UB (P:=P) (L:=L) h.GW (f:=.t 25) (ps:=[26,27]) (as_:=fF) (body:=fG) (s:=⟨dX 4 C R S a b k v,(5,.cells ydh ydh ydh 1 [.af])::(4,.cells ydh ydh ydh 2 [aa a,aa b])::dn A B C R S v 0 Q 1,6,bs⟩) (C:=C) (R:=R) (a:=a) (b:=b) hS (by omega) (by omega) rfl
   (Inv:=fun j H c=>∃T,H=dt A B fF fG C R S a b k v 0 j Q T 0/\c=p8 0 j/\QL T (zf F a b S j))
   ⟨by rintro j H c ⟨T,rfl,rfl,_⟩;exact OH hv.pu 0 j Q T,by rintro j H c ⟨T,rfl,rfl,_⟩ tm ct;exact aez hv.pu 0 j Q T tm ct,by rintro j H c ⟨T,rfl,rfl,_⟩;cases j<;>exact⟨_,_,_,_,rfl⟩⟩
   ⟨_,_,OH hv.pu (A:=A) (B:=B) (Ai:=fF) (Bi:=fG) (C:=C) (R:=R) (S:=S) (a:=a) (b:=b) (k:=k) 0 0 Q [],[],rfl,rfl,trivial⟩ key
  exact⟨T,hT,by rw[<-hQ];exact e⟩
 | n+1,hQ,key=>
  obtain⟨H,c,⟨T,rfl,rfl,hT⟩,e⟩:=UB (P:=P) (L:=L) h.GW (f:=.t 25) (ps:=[26,27]) (as_:=fF) (body:=fG) (s:=⟨dX 5 C R S a b k v,(6,.cells ydh ydh ydh 1 [.af])::(5,.cells ydh ydh ydh 2 [aa a,aa b])::dn A B C R S v (n+1) Q 1,7,bs⟩) (C:=C) (R:=R) (a:=a) (b:=b) hS (by omega) (by omega) rfl
   (Inv:=fun j H c=>∃T,H=dt A B fF fG C R S a b k v (n+1) j Q T 0/\c=p8 (n+1) j/\QL T (zf F a b S j))
   ⟨by rintro j H c ⟨T,rfl,rfl,_⟩;exact OH hv.pu (n+1) j Q T,by rintro j H c ⟨T,rfl,rfl,_⟩ tm ct;exact aez hv.pu (n+1) j Q T tm ct,by rintro j H c ⟨T,rfl,rfl,_⟩;cases j<;>exact⟨_,_,_,_,rfl⟩⟩
   ⟨_,_,OH hv.pu (A:=A) (B:=B) (Ai:=fF) (Bi:=fG) (C:=C) (R:=R) (S:=S) (a:=a) (b:=b) (k:=k) (n+1) 0 Q [],[],rfl,rfl,trivial⟩ key
  exact⟨T,hT,by rw[<-hQ];exact e⟩
def azR(h:Ctd P L)(Lb:Has P L 674 KI)(EO:Has P L 720 GJ){n:Nat}(hv:eP fC v F)(hF:oL F (R*S) (C*S))(hC:C<=8)(hR:R<=8)(hS2:2<=S)(hS:S<=8)(ha:a<C)(hb:b<R)(oM:Q.length=n*4)(hn:n<=64):
  ∃x1 x2 x3 x4 hp aH,cg (.agg [x1,x2,x3,x4]) (dR (jA (lF F) a b S) (S*S))/\fV (D P L) (dn nU nV C R S v n Q 0) (nJ n) 3 [aa k,.agg [aa a,aa b]]=Ft (.bool ydh,hp,aH)/\iH 4 3 hp=(dn nU nV C R S v (n+1) (Q++[x1,x2,x3,x4]) 0,5):=by
 have hSS:S*S<=64:=yS hS hS;have aEk:2*2<=S*S:=yS hS2 hS2;have pv:=hv.pu;have V7:ah P L 673 [.agg [aa C,aa R,aa S],.agg [aa a,aa b]] (.fn (.f 719) [] [cS C R S,iO a b]):=by
  unfold ah;rw[aJ h.agk];simp only[go_sem,ya,yc,Pg,pJ,pK]
  first | done | rfl
 have key:=fun (A B:VC) (bs:Nat) (Z:Option (Ex×St))=>axb h (A:=A) (B:=B) (k:=k) (n:=n) (bs:=bs) (Q:=Q) (Z:=Z) hv hF hC hR hS ha hb
 have qU:∀T,QL T (zf F a b S (S*S))->∃r,ah P L 674 [.au ydi (S*S) T] r/\cg r (dR (jA (lF F) a b S) (S*S)):=fun T hT=>by
  have hw:=SD ydi hT;rw[FV] at hw;obtain⟨r,e,hr⟩:=azn h.toTx.toFr' EO Lb hw (K:=429) (fun x hx=>by
   obtain⟨t,ht,rfl⟩:=xM.1 hx;have ht:=n9 (wL.1 ht)
   exact hF.H (gD hb ht.2) (gD ha ht.1)) (by rw[FV];omega) (by rw[FV];omega)
  rw[<-ab6];exact⟨r,e,hr⟩
 obtain⟨m,hm⟩:∃m,S*S=m+1:=⟨S*S-1,by omega⟩;rw[hm] at key qU;unfold ah at V7
 match n,oM,key with
 | 0,oM,key=>
  have oM:Q=[]:=wR.1 (by simpa using oM);subst oM;have eE:∀Ac Bc,D P L nU ⟨(22,.agg [aa a,aa b])::(21,aa k)::bd C R S v,dn Ac Bc C R S v 0 [] 0,4,4⟩=Ft (.normal,⟨(9,.ptr 4 0)::(22,.agg [aa a,aa b])::(21,aa k)::bd C R S v,(4,.cells ydh ydh ydh 2 [aa a,aa b])::dn Ac Bc C R S v 0 [] 0,5,4⟩):=by
   intro Ac Bc;unfold dn;simp only[go_sem,ya,yc,nU,pK,sD]
  have cT:∀Ac Bc,∃x1 x2 x3 x4 tm hp ct,cg (.agg [x1,x2,x3,x4]) (dR (jA (lF F) a b S) (m+1))/\D P L nV ⟨(9,.ptr 4 0)::(22,.agg [aa a,aa b])::(21,aa k)::bd C R S v,(4,.cells ydh ydh ydh 2 [aa a,aa b])::dn Ac Bc C R S v 0 [] 1,5,5⟩=Ft (.normal,⟨tm,hp,ct,5⟩)/\ai hp 3=Ft (.lp (bd C R S v) [21,22] Ac Bc 1 .none)/\iH 4 3 (aU hp 3 (.lp (bd C R S v) [21,22] Ac Bc 0 .none))=(dn Ac Bc C R S v (0+1) ([]++[x1,x2,x3,x4]) 0,5):=by
   intro Ac Bc;have key:=key Ac Bc 5;unfold dn at key ⊢;simp only[dX,bd,nJ] at key;simp only[bd];simp only[go_sem,ya,yc,nV,aV,yh,jE,bR,CL,ow,V7];generalize hZ:D P L (.rf _ _ _ _) _=Z;obtain⟨T,hT,rfl⟩:=key Z hZ;obtain⟨r,e2,hr⟩:=qU T hT;have bA:=hr;obtain⟨x1,x2,x3,x4,rfl,g⟩:=hr.gen;have pq:=g.p;have Dw:=hT.len;rw[FV] at Dw;have se:∀(tm:Env) (y1 y2 y3 y4:AV),kP tm [y1,y2,y3,y4] 0 4 [x1,x2,x3,x4] []=Ft [x1,x2,x3,x4]:=fun tm y1 y2 y3 y4=>by
    rw[B3 (by rfl) (by simp) g.o];rfl
   have Dv:∀(cx pu ex:Bool),E8 0 1 4 (Ft (.cells cx pu ex 4 [x1,x2,x3,x4]))=Ft (1,[x1,x2,x3,x4]):=fun _ _ _=>rfl
   unfold ah at e2;refine⟨x1,x2,x3,x4,?_⟩;simp only[dt,dn,p8,dX,bd,yx,yM];simp only[go_sem,ya,yc,xn,yB,yo,yh,il ydi Dw (show 0<4 by decide),e2,bC,se,ko,pq,Ax,Au,Dv,jC,og];refine⟨_,_,_,bA,rfl,?_,?_⟩
   .simp only [go_sem,ya]
   .simp only [go_sem,ya,yc,yB,yo,rW,cS,aE pv]
  obtain⟨x1,x2,x3,x4,tm,hp,ct,hx,cT,hg,lC⟩:=cT nU nV
  exact⟨x1,x2,x3,x4,_,_,by rw[hm];exact hx,AG (P:=P) (L:=L) (hp:=dn nU nV C R S v 0 [] 0) (ct:=4) (l:=3) (xs:=[aa k,.agg [aa a,aa b]]) rfl rfl (eE _ _) rfl cT hg,lC⟩
 | n+1,oM,key=>
  have eE:∀Ac Bc,D P L nU ⟨(22,.agg [aa a,aa b])::(21,aa k)::bd C R S v,dn Ac Bc C R S v (n+1) Q 0,5,5⟩=Ft (.normal,⟨(9,.ptr 5 0)::(22,.agg [aa a,aa b])::(21,aa k)::bd C R S v,(5,.cells ydh ydh ydh 2 [aa a,aa b])::dn Ac Bc C R S v (n+1) Q 0,6,5⟩):=by
   intro Ac Bc;unfold dn;simp only[go_sem,ya,yc,nU,pK,sD]
  have cT:∀Ac Bc,∃x1 x2 x3 x4 tm hp ct,cg (.agg [x1,x2,x3,x4]) (dR (jA (lF F) a b S) (m+1))/\D P L nV ⟨(9,.ptr 5 0)::(22,.agg [aa a,aa b])::(21,aa k)::bd C R S v,(5,.cells ydh ydh ydh 2 [aa a,aa b])::dn Ac Bc C R S v (n+1) Q 1,6,6⟩=Ft (.normal,⟨tm,hp,ct,6⟩)/\ai hp 3=Ft (.lp (bd C R S v) [21,22] Ac Bc 1 .none)/\iH 4 3 (aU hp 3 (.lp (bd C R S v) [21,22] Ac Bc 0 .none))=(dn Ac Bc C R S v (n+1+1) (Q++[x1,x2,x3,x4]) 0,5):=by
   intro Ac Bc;have key:=key Ac Bc 6;unfold dn at key ⊢;simp only[dX,bd,nJ] at key;simp only[bd];simp only[go_sem,ya,yc,nV,aV,yh,jE,bR,CL,ow,V7];generalize hZ:D P L (.rf _ _ _ _) _=Z;obtain⟨T,hT,rfl⟩:=key Z hZ;obtain⟨r,e2,hr⟩:=qU T hT;have bA:=hr;obtain⟨x1,x2,x3,x4,rfl,g⟩:=hr.gen;have pq:=g.p;have Dw:=hT.len;rw[FV] at Dw;have se:∀(tm:Env) (y1 y2 y3 y4:AV),kP tm [y1,y2,y3,y4] 0 4 [x1,x2,x3,x4] []=Ft [x1,x2,x3,x4]:=fun tm y1 y2 y3 y4=>by
    rw[B3 (by rfl) (by simp) g.o];rfl
   have Dv:∀(cx pu ex:Bool),E8 0 1 4 (Ft (.cells cx pu ex 4 [x1,x2,x3,x4]))=Ft (1,[x1,x2,x3,x4]):=fun _ _ _=>rfl
   have Bm:=fun (hp:Hp) (ct:Nat) (hg:ai hp 4=Ft (.cells ydh ydh ydi 4 Q))=>gA (ct:=ct) (by':=64) (new:=[x1,x2,x3,x4]) (m:=1) (n:=n+1) hg oM (by omega) (by omega) (by decide) g.o
   unfold ah at e2;refine⟨x1,x2,x3,x4,?_⟩;simp only[dt,dn,p8,dX,bd,yx,yM];simp only[go_sem,ya,yc,xn,yh,il ydi Dw (show 0<4 by decide),e2,bC,se,ko,pq,Ax,Au,Dv,Bm,og,vm];refine⟨_,_,_,bA,rfl,?_,?_⟩
   .simp only [go_sem,ya]
   .simp only [go_sem,ya,yc,yB,yo,rW,cS,aE pv]
  obtain⟨x1,x2,x3,x4,tm,hp,ct,hx,cT,hg,lC⟩:=cT nU nV
  exact⟨x1,x2,x3,x4,_,_,by rw[hm];exact hx,AG (P:=P) (L:=L) (hp:=dn nU nV C R S v (n+1) Q 0) (ct:=5) (l:=3) (xs:=[aa k,.agg [aa a,aa b]]) rfl rfl (eE _ _) rfl cT hg,lC⟩
noncomputable def nK(F:List (List Nat))(C R S:Nat):List Rat:=(wF (C*R)).map fun k=>dR (jA (lF F) (k%C) (k/C) S) (S*S)
def Ji:(nK F C R S).length=C*R:=by simp[nK]
def are(hk:k<(nK F C R S).length):(nK F C R S)[k]=dR (jA (lF F) (k%C) (k/C) S) (S*S):=by simp[nK]
noncomputable def ID(C R S:Int)(F:List (List Nat)):Int:=if p7 C R S F=0 then (if (nK F C.toNat R.toNat S.toNat).any LG=ydh then 4 else 0) else p7 C R S F
noncomputable def QR(C R S:Int)(F:List (List Nat)):List (List Nat):=if ID C R S F=0 then (nK F C.toNat R.toNat S.toNat).map RT else []
structure XN(P:aF)(L:Lib):Prop extends Ctd P L where
 V8:Has P L 653 KH
 Lb:Has P L 674 KI
 EO:Has P L 720 GJ
def azS(h:XN P L){C R S:Int}(hv:eP fC v F)(hl:F.length<=1000000)(hr:∀r,r∈F->r.length<=1000000)(hb:∀r,r∈F->∀b,b∈r->b<4294967296):
  ∃w,ah P L 653 [.agg [aa C,aa R,aa S],v] (.ax [w,aa (ID C R S F)])/\kj w (QR C R S F):=by
 have e1:=agi h.toFrc hv hl hr (C:=C) (R:=R) (S:=S);have fz:=ow;unfold ID QR ID;by_cases c:p7 C R S F=0
 .rw [yP c];obtain⟨g,hF⟩:=ac0 c hb;rw[c] at e1;generalize C.toNat=cn at*
  generalize R.toNat=rn at*
  generalize S.toNat=sn at*
  obtain⟨rfl,rfl,rfl,c1,c8,r1,r8,s2,s8⟩:=g;have e2:=agm h.agl cn rn sn;have Fm:0<cn*rn:=vv (by omega) (by omega);have aw7:cn*rn<=64:=yS c8 r8;have hk:∀x,x∈nK F cn rn sn->Hq 300000 x:=fun x hx=>by
   obtain⟨k,hk,rfl⟩:=xM.1 hx;obtain⟨l1,l2⟩:=mQ (wL.1 hk)
   exact (UH (C:=cn) (R:=rn) (fun c r hc hr=>(hF.H hr hc).mono (by omega)) l1 l2 s8 (yu _)).1
  have h1:=acW (P:=P) (L:=L) h.EN (f:=.t 20) (ps:=[21,22]) (as_:=nU) (body:=nV) (s:=⟨bd cn rn sn v,[(2,.cells ydh ydh ydh 1 [.af]),(1,.cells ydh ydh ydh 1 [v]),(0,.cells ydh ydh ydh 3 [aa cn,aa rn,aa sn])],3,0⟩) (S:=sn) c8 r8 rfl
   (Inv:=fun k H c=>∃Q,H=dn nU nV cn rn sn v k Q 0/\c=nJ k/\QL Q ((nK F cn rn sn).take k)) (Bad:=fun _ _=>False)
   ⟨by rintro j H c ⟨Q,rfl,rfl,_⟩;exact aey hv.pu j Q,by rintro j H c ⟨Q,rfl,rfl,_⟩ tm ct;exact aw9 hv.pu j Q tm ct,by rintro j H c ⟨Q,rfl,rfl,_⟩;cases j<;>exact⟨_,_,_,_,rfl⟩⟩
   ⟨_,_,aey hv.pu (A:=nU) (B:=nV) (C:=cn) (R:=rn) (S:=sn) 0 [],[],rfl,rfl,trivial⟩ (by
    rintro k H c sM ⟨Q,rfl,rfl,hQ⟩;obtain⟨l1,l2⟩:=mQ sM;have gL:k<(nK F cn rn sn).length:=by rw[Ji];exact sM
    have oM:=hQ.len;rw[yQ,xj (by omega)] at oM;obtain⟨x1,x2,x3,x4,hp,aH,hx,e3,e4⟩:=azR h.toCtd h.Lb h.EO (k:=k) hv hF c8 r8 s2 s8 l1 l2 oM (by omega);refine .inl ⟨hp,aH,_,_,e3,e4,_,rfl,rfl,?_⟩;rw[xa gL,are gL]
    exact hQ.snoc hx)
  rcases h1 with ⟨H,c',⟨Q,rfl,rfl,hQ⟩,hD⟩ | ⟨_,_,hf,_⟩
  case inr=>exact hf.elim
  rw[yG (by rw[Ji];omega)] at hQ;obtain⟨m,hm⟩:∃m,cn*rn=m+1:=⟨cn*rn-1,by omega⟩;have oM:=hQ.len;rw[Ji,hm] at oM;rw[hm] at hD;have hw:=SD ydi hQ;rw[Ji,hm] at hw;have e9:=agf h.K9 h.PN h.PO h.GX h.toTx hw (by rw[Ji];omega) hk (by decide);unfold dn nJ at hD;unfold bd at hD;unfold ah at e1 e2
  cases hB:(nK F cn rn sn).any LG with
  | true=>
   have e9:=e9.1 hB;unfold ah at e9;rw[yP rfl,yz (by decide)];refine⟨.af,?_,rT⟩;unfold ah;rw[aJ h.V8];simp only[go_sem,ya,yc,KH,aV,yh,jE,fz,hv.pu,hv.aj,hv.one,hv.cells,e1,e2,hD,il ydi oM (show 0<4 by decide),e9]
  | false=>
   obtain⟨r,bA,e9⟩:=e9.2 hB;unfold ah at e9;rw[yz (by decide),yP rfl];refine⟨r,?_,bA⟩;unfold ah;rw[aJ h.V8];simp only[go_sem,ya,yc,KH,aV,yh,jE,fz,hv.pu,hv.aj,hv.one,hv.cells,e1,e2,hD,il ydi oM (show 0<4 by decide),e9,bA.bF];rcases bA with ⟨bA,_⟩ | ⟨e,bA⟩<;>rw[bA]<;>rfl
 .rw [yz c,yz c];refine⟨.af,?_,rT⟩;unfold ah at e1;unfold ah;rw[aJ h.V8];simp only[go_sem,ya,yc,KH,aV,yh,jE,fz,hv.pu,hv.aj,hv.one,hv.cells,e1,c]
end
def MQ(id:Nat)(o:Obj)(j:Nat):∀hp:Hp,ai (aU hp id o) j=if j=id then (ai hp id).map (fun _=>o) else ai hp j
 | []=>by by_cases h:j=id<;>simp[aU,ai,h]
 | (i,u)::r=>by
  have ih:=MQ id o j r;by_cases h1:i=id
  .subst h1;rw[aaz];by_cases h2:j=i
   .subst h2;rw[yP rfl,jB,jB];rfl
   .rw [yz h2,eW _ _ (fun e=>h2 e.symm),eW _ _ (fun e=>h2 e.symm)]
  .rw [ZH _ _ _ h1];by_cases h2:j=i
   .subst h2;rw[yz h1,jB,jB]
   .rw [eW _ _ (fun e=>h2 e.symm),ih,eW _ _ h1,eW _ _ (fun e=>h2 e.symm)]
def SI{hp:Hp}{id:Nat}{u:Obj}(h:ai hp id=Ft u)(o:Obj)(j:Nat):ai (aU hp id o) j=if j=id then Ft o else ai hp j:=by
 rw[MQ,h];rfl
def DG(id j:Nat):∀hp:Hp,ai (cC hp id) j=if j=id then none else ai hp j
 | []=>by split<;>rfl
 | (i,u)::r=>by
  have ih:=DG id j r;by_cases h1:i=id
  .subst h1;rw[I3,ih];by_cases h2:j=i
   .grind
   .rw [yz h2,yz h2,eW _ _ (fun e=>h2 e.symm)]
  .rw [BS _ _ h1];by_cases h2:j=i
   .subst h2;rw[yz h1,jB,jB]
   .rw [eW _ _ (fun e=>h2 e.symm),ih,eW _ _ (fun e=>h2 e.symm)]
def aa8(i:Nat):∀l:List Nat,jn i l=ydh↔i∈l
 | []=>by simp[jn]
 | j::r=>by
  by_cases h:j=i
  .subst h;simp[aaE]
  .rw [ZM _ h,aa8 i r]
   grind
def SJ{i:Nat}{l:List Nat}(h:i∉l):jn i l=ydi:=by
 cases hq:jn i l with
 | false=>rfl
 | true=>exact absurd ((aa8 i l).1 hq) h
def ab7(hp:Hp):∀(ids seen cm:List Nat) (n:Nat),ids.length<n->(∀i,i∈ids->∃o,ai hp i=Ft o/\iW o=[])->ids.Nodup->(∀i,i∈ids->i∉seen)->nC hp n (ids++cm) seen=nC hp (n-ids.length) cm (seen++ids)
 | [],seen,cm,n,_,_,_,_=>by simp
 | i::ids,seen,cm,0,h,_,_,_=>by simp at h
 | i::ids,seen,cm,n+1,h,h1,h2,h3=>by
  obtain⟨o,g,e⟩:=h1 i wI;have hn:=vl.1 h2
  rw[yx,Sx,SJ (h3 i wI),TH,g,TI,e,yM,ab7 hp ids (seen++[i]) cm n (by simpa using h) (fun j hj=>h1 j (xL _ hj)) hn.2 (fun j hj hm=>by
   rcases xH.1 hm with hm | hm
   .grind
   .simp only [we] at hm
    subst hm;exact hn.1 hj)]
  grind
def arf(hp:Hp){n:Nat}(h:0<n)(seen:List Nat):nC hp n [] seen=seen:=by
 obtain⟨m,rfl⟩:∃m,n=m+1:=⟨n-1,by lia⟩;exact abR hp m seen
def SK(hp:Hp)(f:Nat->Option Nat):∀(seen:List Nat) (k:Nat) (acc:Hp) (j:Nat),j<k->ai (ew hp f seen k acc) j=ai acc j
 | [],k,acc,j,_=>rfl
 | id::r,k,acc,j,h=>by
  rw[ew]
  cases ai hp id with
  | none=>exact SK hp f r (k+1) acc j (by omega)
  | some o=>
   rw[SK hp f r (k+1) _ j (by omega),eW _ _ (by omega)]
def RC(hp:Hp)(f:Nat->Option Nat):∀(seen:List Nat) (k:Nat) (acc:Hp) (j:Nat) (h:j<seen.length) (o:Obj),ai hp seen[j]=Ft o->ai (ew hp f seen k acc) (k+j)=Ft (gE f o)
 | id::r,k,acc,0,_,o,ho=>by
  simp only[wz] at ho;rw[ew];simp only[ho];show ai (ew hp f r (k+1) ((k,gE f o)::acc)) k=_
  rw[SK hp f r (k+1) _ k (by omega),jB]
 | id::r,k,acc,j+1,h,o,ho=>by
  have:=fun A5=>RC hp f r (k+1) A5 j (by simpa using h) o ho
  rw[ew,show k+(j+1)=k+1+j by omega]
  cases ai hp id with
  | none=>exact this _
  | some u=>exact this _
def Jj:∀(seen:List Nat) (k j:Nat) (h:j<seen.length),seen.Nodup->gV seen[j] seen k=Ft (k+j)
 | s::r,k,0,_,_=>by simp only[wz,yW];exact abS s r k
 | s::r,k,j+1,h,hn=>by
  have hn:=vl.1 hn;have hj:j<r.length:=by simp_all
  simp only[wY];rw[aaF _ _ (fun e=>hn.1 (by rw[e];exact xk hj)),Jj r (k+1) j hj hn.2]
  grind
def ajn{live:List Nat}{tm:Env}{hp:Hp}{ct:Nat}{seen:List Nat}(hr:nC hp 100000 (dL (bE tm live)) []=seen):
  ∃an,br live ⟨tm,hp,ct,0⟩=⟨eO (pos seen) (bE tm live),an,seen.length,0⟩/\∀j (h:j<seen.length) o,ai hp seen[j]=Ft o->ai an j=Ft (gE (pos seen) o):=by
 refine⟨ew hp (pos seen) seen 0 [],by rw[aA,hr,abT],fun j h o ho=>?_⟩
 have:=RC hp (pos seen) seen 0 [] j h o ho
 grind
def iA(a:Nat)(ids pl:List Nat):List Nat:=a::(ids++pl)
abbrev wd{β:Type}(M:List (List β)):Nat:=(M.getD 0 []).length
abbrev z4:List AV:=[AV.int .i64 0,.af,.int .i64 0,.af]
section
variable {tm tm':Env}{cs:List AV}{W ids live pl:List Nat}{a ct i n:Nat}
def iP(ids W:List Nat):List AV:=vR (fun i w=>AV.ap i 0 w) ids W
def jT(ids W:List Nat)(r:Nat):List AV:=iP ids W++yp r .af
def arh(h:ids.length=W.length):(iP ids W).length=W.length:=by simp[iP,h]
def aa9{w:Nat}(h:ids.length=W.length):iP (ids++[i]) (W++[w])=iP ids W++[.ap i 0 w]:=by
 unfold iP;rw[List.zipWith_append h];rfl
def Y5:∀r:Nat,fH (yp r AV.af)=[]
 | 0=>rfl
 | r+1=>by rw[wO,fH,Y5 r];rfl
def R8(r:Nat):∀{ids W:List Nat},ids.length=W.length->fH (jT ids W r)=ids
 | [],[],_=>Y5 r
 | i::ids,w::W,h=>by
  have ih:=R8 r (ids:=ids) (W:=W) (by simpa using h);have e:jT (i::ids) (w::W) r=.ap i 0 w::jT ids W r:=rfl;rw[e,fH,ih];rfl
 | [],_::_,h=>by simp at h
 | _::_,[],h=>by simp at h
def Z2(f:Nat->Option Nat):∀r:Nat,dB f (yp r AV.af)=yp r .af
 | 0=>rfl
 | r+1=>by rw[wO,dB,Z2 f r];rfl
def SL{f:Nat->Option Nat}(r:Nat):∀{ids W:List Nat} (k:Nat),ids.length=W.length->(∀i (h:i<ids.length),f ids[i]=Ft (k+i))->dB f (jT ids W r)=jT (xJ k ids.length) W r
 | [],[],_,_,_=>Z2 f r
 | i::ids,w::W,k,h,hf=>by
  have h0:=hf 0 (by simp);simp only[wz,yW] at h0;have ih:=SL (f:=f) r (ids:=ids) (W:=W) (k+1) (by simpa using h) (fun j hj=>by
   have:=hf (j+1) (by simpa using hj)
   simp only[wY] at this
   rw[this];congr 1;lia)
  have e:jT (i::ids) (w::W) r=.ap i 0 w::jT ids W r:=rfl;rw[e,dB,ih,yy,List.range'_succ];simp only[bm,h0];rfl
 | [],_::_,_,h,_=>by simp at h
 | _::_,[],_,h,_=>by simp at h
def R9{sz:Nat}{y:Bool}(hs:0<sz):∀(ids W:List Nat) (T:List (List AV)) (hp:Hp) (n:Nat),ids.length+4<=n->ids.length=T.length->W.length=T.length->(∀i (h1:i<ids.length) (h2:i<T.length) (h3:i<W.length),T[i].length=W[i]*sz/\∃rw,ai hp ids[i]=Ft (.cells rw ydh y sz T[i]))->
  ∃an,cu n hp (iP ids W)=Ft (vR (fun w r=>.au y w r) W T,an)/\∀j,j∉ids->ai an j=ai hp j
 | [],[],[],hp,n+1,_,_,_,_=>⟨hp,rfl,fun _ _=>rfl⟩
 | [],_,[],hp,0,h,_,_,_=>by simp at h
 | [],_,_::_,_,_,_,h,_,_=>by simp at h
 | [],_::_,[],_,_,_,_,h,_=>by simp at h
 | _::_,_,[],_,_,_,h,_,_=>by simp at h
 | _::_,[],_::_,_,_,_,_,h,_=>by simp at h
 | i::ids,w::W,r::T,hp,n+1,hn,hl,hW,h=>by
  obtain⟨l0,cx,g0⟩:=h 0 (by simp) (by simp) (by simp);simp only[wz] at l0 g0;simp only[yy] at hn hl hW;obtain⟨m,rfl⟩:∃m,n=m+1+1:=⟨n-2,by omega⟩;have hz:rP (m+1) hp i=Ft (y,sz,r,if cx=ydh then aU hp i (.cells ydi ydh y sz r) else hp):=by
   rw[NH,g0];cases cx<;>rfl
  have axc:∃aY,(if cx=ydh then aU hp i (.cells ydi ydh y sz r) else hp)=aY/\∀j,ai aY j=if j=i then Ft (.cells (if cx=ydh then ydi else cx) ydh y sz r) else ai hp j:=by
   refine⟨_,rfl,fun j=>?_⟩
   cases cx with
   | true=>simp only[xQ];rw[SI g0]
   | false=>
    simp only[Bool.false_eq_true,xy]
    split
    .rename_i e;rw[e,g0]
    .rfl
  obtain⟨aY,e1,g1⟩:=axc;rw[e1] at hz;obtain⟨an,e2,g2⟩:=R9 hs ids W T aY (m+1+1) (by omega) (by omega) (by omega) (fun k h1 h2 h3=>by
   obtain⟨a,rw2,b⟩:=h (k+1) (by simpa using h1) (by simpa using h2) (by simpa using h3);simp only[wY] at a b;refine⟨a,?_⟩;rw[g1]
   split
   .rename_i e;rw[e,g0] at b;simp only[yb,Obj.cells.injEq] at b;exact⟨_,by rw[b.2.2.2.2]⟩
   .exact ⟨rw2,b⟩)
  refine⟨an,?_,fun j hj=>?_⟩
  .have e:iP (i::ids) (w::W)=.ap i 0 w::iP ids W:=rfl;rw[e,ZJ,NG,hz,il y l0 hs,acw,e2,acx];rfl
  .simp only [xI,not_or] at hj;rw[g2 j hj.2,g1,yz hj.1]
def gT(T:List (List AV))(i:Nat):List AV:=T.getD i []
def Cv{T:List (List AV)}(h:i<T.length):gT T i=T[i]:=by
 simp[gT,yD,yN h]
def avi(T:List (List AV))(i j:Nat)(c:List AV):gT (T.set i c) j=if i=j/\j<T.length then c else gT T j:=by
 simp only[gT,yD,List.getElem?_set]
 grind
def jN(n:Nat):List Nat:=(wF n).map (·+1)
def AH(n:Nat):(jN n).length=n:=by simp[jN]
def RD(n:Nat):jN n=xJ 1 n:=by
 unfold jN;rw[List.range'_eq_map_range]
 grind
def SM(h:i<(jN n).length):(jN n)[i]=i+1:=by simp[jN]
def SN:i∈jN n↔0<i/\i<=n:=by
 rw[RD,tc];lia
structure rL(hp:Hp)(x y:Bool)(sz:Nat)(W:List Nat)(T:List (List AV))(r:Nat):Prop where
 l:W.length=T.length
 m:ai hp 0=Ft (.cells ydh ydi x 1 (jT (jN T.length) W r))
 r:∀i,i<T.length->ai hp (i+1)=Ft (.cells ydh ydh y sz (gT T i))
section
variable {hp:Hp}{x y:Bool}{sz:Nat}{W:List Nat}{T:List (List AV)}{r:Nat}
def rL.aj(h:rL hp x y sz W T 0)(hs:0<sz)(hw:∀i (h1:i<T.length) (h2:i<W.length),T[i].length=W[i]*sz)(hn:T.length+4<=n):
  ∃an,cu n hp (jT (jN T.length) W 0)=Ft (vR (fun w r=>.au y w r) W T,an)/\∀j,(∀i,i<T.length->j≠i+1)->ai an j=ai hp j:=by
 have e0:jT (jN T.length) W 0=iP (jN T.length) W:=by unfold jT;simp
 rw[e0];obtain⟨aY,e1,g1⟩:=R9 hs (jN T.length) W T hp n (by rw[AH];exact hn) (AH _) h.l (fun i h1 h2 h3=>by
  refine⟨hw i h2 h3,ydh,?_⟩;rw[SM]
  have:=h.r i h2
  rwa[Cv h2] at this)
 refine⟨aY,e1,fun j hj=>g1 j fun hm=>?_⟩
 have:=SN.1 hm
 exact hj (j-1) (by omega) (by omega)
def ac1{hp an:Hp}{id s:Nat}{cx ex:Bool}{df:List AV}(h:cu n hp cs=Ft (df,an)):CC n id hp (Ft (.cells cx ydi ex s cs))=Ft (ex,s,df,aU an id (.cells ydi ydi ex s cs)):=by
 simp[CC,h]
def rL.CC(h:rL hp x y sz W T 0)(hs:0<sz)(hw:∀i (h1:i<T.length) (h2:i<W.length),T[i].length=W[i]*sz)(hn:T.length+4<=n):
  ∃an,VE.CC n 0 hp (Ft (.cells ydh ydi x 1 (jT (jN T.length) W 0)))=Ft (x,1,vR (fun w r=>.au y w r) W T,an):=by
 obtain⟨aY,e,_⟩:=h.aj hs hw hn;exact⟨_,ac1 e⟩
def axd{cx ex:Bool}{cells:List AV}(hm:ai hp a=Ft (.cells cx ydi ex 1 cells))(hc:fH cells=ids)(hr:∀i,i∈ids->∃o,ai hp i=Ft o/\iW o=[])(aY:∀i,i∈pl->∃o,ai hp i=Ft o/\iW o=[])(hn:(iA a ids pl).Nodup)(hl:ids.length+pl.length<90000):nC hp 100000 (a::pl) []=iA a ids pl:=by
 have kX:=vl.1 hn;have ek:∀i,i∈ids++pl->i∉[a]:=fun i hi hm=>by
  simp only[we] at hm;subst hm;exact kX.1 hi
 rw[show (100000:Nat)=99999+1 from rfl,Sx,aaD,TH,hm,TI,S8,hc,yM]
 have:ids++pl=(ids++pl)++[]:=by simp
 rw[this,ab7 hp (ids++pl) [a] [] 99999 (by rw[yJ];lia) (fun i hi=>by
  rcases xH.1 hi with h | h
  .exact hr i h
  .exact aY i h) kX.2 ek,arf hp (by rw[yJ];lia)]
 rfl
def ac2(hE:dL (bE tm live)=a::pl)(hm:ai hp a=Ft (.cells ydh ydi x 1 (jT ids W r)))(hl:ids.length=T.length)(hW:W.length=T.length)(hr:∀i (h:i<ids.length),ai hp ids[i]=Ft (.cells ydh ydh y sz (gT T i)))(hM:T.length<=10000)(hn:(iA a ids pl).Nodup)(aY:∀i,i∈pl->∃o,ai hp i=Ft o/\iW o=[])(ns:pl.length<=1000)(hT:∀S,gV a S 0=Ft 0->(∀j (h:j<pl.length),gV pl[j] S 0=Ft (T.length+1+j))->eO (pos S) (bE tm live)=tm'):
  ∃an,br live ⟨tm,hp,ct,0⟩=⟨tm',an,1+(T.length+pl.length),0⟩/\rL an x y sz W T r/\∀j (h:j<pl.length) rw ex z cs,ai hp pl[j]=Ft (.cells rw ydh ex z cs)->ai an (T.length+1+j)=Ft (.cells rw ydh ex z cs):=by
 have CM:∀i,i∈ids->∃o,ai hp i=Ft o/\iW o=[]:=fun i hi=>by
  obtain⟨k,hk,rfl⟩:=xS.1 hi;exact⟨_,hr k hk,rfl⟩
 have hR:=axd (pl:=pl) hm (R8 r (by lia)) CM aY hn (by lia);rw[<-hE] at hR;have⟨an,e,g⟩:=ajn (ct:=ct) hR;have ls:(iA a ids pl).length=1+(ids.length+pl.length):=by simp[iA];lia
 have s0:∀h:0<(iA a ids pl).length,(iA a ids pl)[0]=a:=fun _=>rfl
 have sI:∀i (h:i<ids.length) (h2:i+1<(iA a ids pl).length),(iA a ids pl)[i+1]=ids[i]:=fun i h h2=>by
  simp[iA,wP h]
 have sP:∀j (h:j<pl.length) (h2:T.length+1+j<(iA a ids pl).length),(iA a ids pl)[T.length+1+j]=pl[j]:=fun j h h2=>by
  have:T.length+1+j=(ids.length+j)+1:=by lia
  simp only[iA,this,wY];rw[wo (by lia)]
  simp
 have pI:∀i (h:i<ids.length),pos (iA a ids pl) ids[i]=Ft (1+i):=fun i h=>by
  have:=Jj (iA a ids pl) 0 (i+1) (by lia) hn
  rw[sI i h (by lia)] at this;rw[pos_eq,this];congr 1;lia
 have q3:gV a (iA a ids pl) 0=Ft 0:=by
  have:=Jj (iA a ids pl) 0 0 (by lia) hn
  rw[s0] at this;exact this
 have q4:∀j (h:j<pl.length),gV pl[j] (iA a ids pl) 0=Ft (T.length+1+j):=fun j hj=>by
  have:=Jj (iA a ids pl) 0 (T.length+1+j) (by lia) hn
  rw[sP j hj (by lia),yd] at this;exact this
 refine⟨an,by rw[e,hT _ q3 q4,ls,hl],⟨hW,?_,fun i hi=>?_⟩,fun j hj cx ex z cs ho=>?_⟩
 .have:=g 0 (by lia) _ (by rw[s0];exact hm)
  rw[this];have e2:gE (pos (iA a ids pl)) (.cells ydh ydi x 1 (jT ids W r))=.cells ydh ydi x 1 (dB (pos (iA a ids pl)) (jT ids W r)):=rfl;rw[e2,SL r 1 (by lia) pI,hl,<-RD]
 .have:=g (i+1) (by lia) _ (by rw[sI i (by lia)];exact hr i (by lia))
  rw[this];rfl
 .have:=g (T.length+1+j) (by lia) _ (by rw[sP j hj (by lia)];exact ho)
  rw[this];rfl
def akG(hp:pl.Nodup)(h:∀i,i∈pl->n<i):(iA 0 (jN n) pl).Nodup:=by
 unfold iA;refine vl.2 ⟨fun q=>?_,?_⟩
 .rcases xH.1 q with q | q
  .have:=SN.1 q;lia
  .have:=h 0 q;lia
 .refine uX.2 ⟨by rw[RD];exact td,hp,fun a ha b hb e=>?_⟩
  have h1:=SN.1 ha;have h2:=h b hb
  lia
def rL.comp(h:rL hp x y sz W T r)(hE:dL (bE tm live)=[0])(hM:T.length<=10000)(hT:∀S,gV 0 S 0=Ft 0->eO (pos S) (bE tm live)=tm'):∃an,br live ⟨tm,hp,ct,0⟩=⟨tm',an,1+T.length,0⟩/\rL an x y sz W T r:=by
 obtain⟨an,e,g,_⟩:=ac2 (ct:=ct) (pl:=[]) hE h.m (AH _) h.l (fun i hi=>by
  rw[SM];rw[AH] at hi;exact h.r i hi) hM (akG List.nodup_nil (fun _ q=>by cases q)) (fun _ q=>by cases q) (by simp) (fun S q _=>hT S q)
 exact⟨an,e,g⟩
def ari{hp0:Hp}{x0:Bool}{b w r0:Nat}(h:rL hp0 x0 y sz W T r0)(hi:T.length=i)(hE:dL (bE tm live)=[a])(hb:i<b)(rG:a≠b)(ha:a=0\/i<a)(hm:ai hp a=Ft (.cells ydh ydi x 1 (iP (jN i) W++ .ap b 0 w::yp r .af)))(hr:∀j,j<i->ai hp (j+1)=ai hp0 (j+1))(hc:ai hp b=Ft (.cells ydh ydh y sz cs))(hM:i<=1000)(hT:∀S,gV a S 0=Ft 0->eO (pos S) (bE tm live)=tm'):∃an,br live ⟨tm,hp,ct,0⟩=⟨tm',an,1+(i+1),0⟩/\rL an x y sz (W++[w]) (T++[cs]) r:=by
 have CM:∀j (h:j<(jN i++[b]).length),(jN i++[b])[j]=if j<i then j+1 else b:=fun j h=>by
  by_cases hj:j<i
  .rw [yP hj,wP (by rw[AH];exact hj),SM]
  .rw [yz hj,wo (by rw[AH];omega)];simp
 have li:(jN i++[b]).length=i+1:=by simp[AH]
 have lW:W.length=i:=by rw[h.l,hi]
 obtain⟨an,e,g,_⟩:=ac2 (hp:=hp) (x:=x) (y:=y) (sz:=sz) (r:=r) (T:=T++[cs]) (W:=W++[w]) (ct:=ct) (pl:=[]) (ids:=jN i++[b]) hE (by
  rw[hm];unfold jT;rw[aa9 (by rw[AH,lW]),xx];rfl) (by rw[li];simp[hi]) (by simp[lW,hi]) (fun j hj=>by
  rw[CM j hj];rw[li] at hj;by_cases C2:j<i
  .rw [yP C2,hr j C2,h.r j (by omega),Cv (by omega),Cv (by simp;omega),wP]
  .have V9:j=i:=by omega
   subst V9;rw[yz (by omega),hc,Cv (by simp;omega),wo (by omega)];simp[hi]) (by simp;omega) (by
  unfold iA;rw[wq];refine vl.2 ⟨fun hx=>?_,?_⟩
  .obtain ⟨j,hj,e⟩:=xS.1 hx;rw[CM j hj] at e;rw[li] at hj;split at e<;>omega
  .unfold List.Nodup;rw[List.pairwise_iff_getElem];intro u v hu hv huv;rw[CM u hu,CM v hv];rw[li] at hu hv
   split<;>split<;>omega) (fun _ q=>by cases q) (by simp) (fun S q _=>hT S q)
 exact⟨an,by rw[e];simp[hi],g⟩
end
end
def Tl:∀r:List Nat,aD (bY r)=ydh
 | []=>rfl
 | b::r=>by
  have:=Tl r
  simpa[bY,aD,aW] using this
def SO:∀r:List Nat,bS (bY r)=ydh
 | []=>rfl
 | b::r=>by
  have:=SO r
  simpa[bY,bS,cL] using this
def fC.src{w:AV}{r:List Nat}(h:fC w r)(hp:Hp):jh hp 1 w=Ft (r.length,bY r):=by
 have hl:(bY r).length=r.length:=by simp
 rcases h with ⟨rfl,h⟩ | ⟨e,rfl⟩
 .rw [h] at hl;simp only[yH] at hl;rw[h,<-hl];rfl
 .show (bif ym (bY r).length ((bY r).length*1) then Ft ((bY r).length,bY r) else none)=_
  rw[yk,Nat.beq_refl,yq,hl]
def zg(F:List (List Nat)):List AV:=F.map fun r=>.au ydi r.length (bY r)
def Tm:∀F:List (List Nat),jL fC (zg F) F
 | []=>trivial
 | r::F=>⟨.inr ⟨ydi,by
   have hl:(bY r).length=r.length:=by simp
   rw[hl]⟩,Tm F⟩
def Tn:∀F:List (List Nat),vR (fun w r=>AV.au ydi w r) (F.map wu) (F.map bY)=zg F
 | []=>rfl
 | a::F=>by
  have:=Tn F
  rw[yZ,yZ,List.zipWith_cons_cons,this];rfl
def agr(EQ:Has P L 639 ED){v:AV}{F:List (List Nat)}(hv:eP fC v F)(hl:F.length<=900)(hr:∀r,r∈F->r.length<=1000000):∃w,ah P L 639 [v] w/\eP fC w F/\shut w=w:=by
 have key:en P L [3,6,7,8] qF (fun d st=>∃i:Nat,i+d=F.length/\((i=0/\st=⟨[(3,.af),(6,v),(7,aa F.length),(8,aa i)],[],0,0⟩)\/(0<i/\∃hp,st=⟨[(3,.ap 0 0 i),(6,v),(7,aa F.length),(8,aa i)],hp,1+i,0⟩/\rL hp ydi ydi 1 ((F.take i).map wu) ((F.take i).map bY) 0))) (fun ex s'=>∃tm hp ct,s'=⟨tm,hp,ct,0⟩/\ex=.exit 0/\((F=[]/\ak tm 3=.af/\hp=[])\/(0<F.length/\ak tm 3=.ap 0 0 F.length/\rL hp ydi ydi 1 (F.map wu) (F.map bY) 0))):=by
  apply eB;rintro d st ⟨i,hid,aT⟩;by_cases hi:i<F.length
  .left
   obtain⟨w,rest,lR,e0⟩:=hv.bh hi;have lP:=fC.src lR;have lR:cp w (bY F[i]):=lR;have hrl:=hr _ (xk hi);have w4:IntKind.wrap .i64 ((i:Int)+1)=((i+1:Nat):Int):=wrap64 (by omega) (by omega);have Mh:(i:Int)<F.length:=by omega
   have oD:=fun (hp:Hp) (ct id:Nat) (hg:ai hp id=Ft (.cells ydh ydh ydh 1 []))=>gA (ct:=ct) (by':=4) (new:=bY F[i]) (m:=F[i].length) (n:=0) hg rfl (by omega) (by omega) (by decide) (SO _)
   simp only[Tl,vm,yd,yM] at oD;rcases aT with ⟨me,rfl⟩ | ⟨me,hp,rfl,hM⟩
   .subst me;simp only[go_sem,ya,yc,xn,yB,yo,yk,qF,Mh,e0,lP,ko,oD,jC,w4];refine⟨_,d-1,rfl,by omega,1,by omega,.inr ⟨by omega,?_⟩⟩;have e1:F.take 1=[F[0]]:=by
     rw[show (1:Nat)=0+1 from rfl,xa hi];rfl
    rw[e1];refine⟨[(1,.cells ydh ydh ydi 1 (bY F[0])),(0,.cells ydh ydi ydi 1 [.ap 1 0 F[0].length])],by simp only[go_sem,ya,yc,aA,aE hv.pu]<;>rfl,⟨rfl,rfl,fun k hk=>?_⟩⟩
    have:k=0:=by simpa using hk
    subst this;rfl
   .have lT:((F.take i).map bY).length=i:=by rw[yL,yQ,xj (by omega)]
    have lW:((F.take i).map wu).length=i:=by rw[yL,yQ,xj (by omega)]
    have g0:=hM.m;rw[lT] at g0;have gr:=hM.r;rw[lT] at gr;simp only[go_sem,ya,yc,yo,yk,qF,Mh,e0,lP,ko,oD]
    rw[gA (sz:=1) (ex:=ydi) (pu:=ydi) (cs:=jT (jN i) ((F.take i).map wu) 0) (by rw[eW _ _ (by omega),eW _ _ (by omega),DG,yz (by omega)];exact g0) (by simp[jT,iP,AH];omega) (by omega) (by omega) (by decide) (by simp only[go_sem])]
    simp only[go_sem,ya,w4];refine⟨_,d-1,rfl,by omega,i+1,by omega,.inr ⟨by omega,?_⟩⟩;rw[xa hi,xA,xA]
    refine ari (x:=ydi) (r:=0) hM lT (a:=1+i+1+1+1) (b:=1+i+1) (by simp only[go_sem,ya,ik hv.pu]<;>rfl) (by omega) (by omega) (by omega) (by rw[jB];simp[jT]) (fun j hj=>?_) ?_ (by omega) (fun S q=>by simp only[go_sem,ya,q,DJ _ hv.pu]<;>rfl)
    .rw [eW _ _ (by omega),eW _ _ (by omega),eW _ _ (by omega),DG,yz (by omega),DG,yz (by omega)]
    .rw [eW _ _ (by omega),eW _ _ (by omega),jB]
  .right
   have:i=F.length:=by omega
   subst this;rcases aT with ⟨me,rfl⟩ | ⟨me,hp,rfl,hM⟩
   .simp only [go_sem,ya,qF,show ¬(F.length:Int)<F.length by omega];exact⟨_,_,rfl,by simp,_,_,_,rfl,rfl,.inl ⟨wR.1 me,by simp only[go_sem,ya],rfl⟩⟩
   .simp only [go_sem,ya,qF,show ¬(F.length:Int)<F.length by omega];rw[xN] at hM;exact⟨_,_,rfl,by simp,_,_,_,rfl,rfl,.inr ⟨me,by simp only[go_sem,ya],hM⟩⟩
 unfold ah;rw[aJ EQ];simp only[go_sem,ya,ED,hv.len];generalize hq:D P L (.loop _ qF) _=q;obtain⟨ex,st,rfl,tm,hp,ct,rfl,rfl,hh⟩:=bN hq (key F.length) ⟨0,by omega,.inl ⟨rfl,by simp only[go_sem,ya,aA,aE hv.pu]<;>rfl⟩⟩
 rcases hh with ⟨rfl,t3,rfl⟩ | ⟨h0,t3,hM⟩
 .refine ⟨.af,?_,amn,rfl⟩;simp only[go_sem,aA,t3]
 .obtain ⟨aY,e1,hM1⟩:=hM.comp (live:=[3]) (tm:=tm) (tm':=[(3,.ap 0 0 F.length)]) (ct:=ct) (by simp only[go_sem,t3]) (by rw[yL];omega) (fun S q=>by simp only[go_sem,t3,q]);obtain⟨kD,ez⟩:=hM1.CC (n:=998) (by decide) (fun i h1 h2=>by simp) (by rw[yL];omega);have eT:=Tn F;have hm:=hM1.m;rw[yL] at hm ez;rw[eT] at ez;have hlen:(zg F).length=F.length:=by simp[zg]
  have so:result aY (.ap 0 0 F.length)=Ft (.au ydi F.length (zg F)):=by
   have e2:qB deep aY (.ap 0 0 F.length)=freeze deep aY (.ap 0 0 F.length):=by simp only[qB,hm]
   have e3:freeze (999+1) aY (.ap 0 0 F.length)=Ft (.au ydi F.length (zg F),kD):=by
    rw[NG,NH,hm,ez];exact il ydi (by rw[hlen,yk]) (by decide)
   simp only[result,e2];show (match freeze (999+1) aY (.ap 0 0 F.length) with | some (v',_)=>Ft v' | none=>none)=_
   rw[e3]
  refine⟨.au ydi F.length (zg F),?_,SF ydi (Tm F),rfl⟩;simp only[go_sem,e1,so]
def ags(h:Rm P L)(CN:Has P L 647 GF)(Lf:Has P L 766 KN){v:AV}{l:List lE}(hv:jk v l)(hl:l.length<=1000000)(hf:∀p,p∈l->p.1.length<=1000000000/\p.2.length<=1000000000):ah P L 766 [v] (aa (QI l)):=by
 unfold QI;by_cases hc:64<l.length
 .rw [yP hc];unfold ah;rw[aJ Lf];simp only[go_sem,ya,KN,hv.len,show (64:Int)<l.length by omega,yX]
 .rw [yz hc];have key:=ji P L [0,3] Gd
   (fun k st=>∃i:Nat,i+k=l.length/\cD ((l.drop i).map Fo)=cD (l.map Fo)/\st=⟨[(0,v),(3,aa i)],[],0,0⟩)
   (fun ex st=>∃tm hp ct,st=⟨tm,hp,ct,0⟩/\((ex=.ret/\ak tm 2=aa (cD (l.map Fo)))\/(ex=.exit 0/\cD (l.map Fo)=0))) ?_
  .unfold ah;rw[aJ Lf];simp only[go_sem,ya,KN,hv.len,show ¬(64:Int)<l.length by omega,xb];generalize hq:D P L (.loop _ Gd) _=q;obtain⟨ex,st,rfl,tm,hp,ct,rfl,h2⟩:=bN hq (key l.length) ⟨0,by omega,rfl,by simp only[go_sem,ya,aA,aE hv.pu]<;>rfl⟩
   rcases h2 with ⟨rfl,h3⟩ | ⟨rfl,h4⟩
   .simp only [go_sem,h3]
   .rw [h4];simp only[go_sem,aA]
  .rintro k st ⟨i,hk,nt,rfl⟩;by_cases hi:i<l.length
   .obtain ⟨rest,e1⟩:=hv.bh hi;have ft:=hf _ (xk hi);have e2:=VT h (s:=l[i].1) (by omega);have e3:=VT h (s:=l[i].2) (by omega);have e4:=age CN (mN ydh [fT l[i].1,fT l[i].2]) (by simp);simp only[yy,yH,yd,yc,yZ,vj] at e4;rw[show cD [fT l[i].1,fT l[i].2]=Fo l[i] from rfl] at e4;unfold ah at e2 e3 e4;rw[ajm hi] at nt;by_cases hb:Fo l[i]=0
    .left
     rw[yP hb] at nt;rw[hb] at e4;simp only[go_sem,ya,yc,yB,yo,yk,Gd,hv.len,show (i:Int)<l.length by omega,e1,aeu,aev,e2,e3,e4];refine⟨_,k-1,rfl,by omega,i+1,by omega,nt,?_⟩;rw[wrap64 (by omega) (by omega)];simp only[go_sem,ya,aA,aE hv.pu]<;>rfl
    .right
     rw[yz hb] at nt;simp only[go_sem,ya,yc,yB,yo,yk,Gd,hv.len,show (i:Int)<l.length by omega,e1,aeu,aev,e2,e3,e4,hb,xb,wH];exact⟨_,_,rfl,by simp,_,_,_,rfl,.inl ⟨rfl,by rw[<-nt];simp only[go_sem]⟩⟩
   .right
    simp only[go_sem,ya,Gd,hv.len,show ¬(i:Int)<l.length by omega];refine⟨_,_,rfl,by simp,_,_,_,rfl,.inr ⟨rfl,?_⟩⟩;rw[<-nt,xf (by omega)];rfl
def agt(PR:Has P L 659 Pd){v w:AV}{l:List lE}(hv:jk v l)(hw:jk w l)(hl:l.length<=1000000):ah P L 659 [v,w] (.bool ydh):=by
 have key:=ji P L [0,1,5] JM
  (fun k st=>∃i:Nat,st=⟨[(0,v),(1,w),(5,aa i)],[],0,0⟩/\i+k=l.length)
  (fun ex st=>∃tm hp ct,st=⟨tm,hp,ct,0⟩/\ex=.exit 0) ?_
 .unfold ah;rw[aJ PR];simp only[go_sem,ya,Pd,hv.len,hw.len,yX];generalize hq:D P L (.loop _ JM) _=q;obtain⟨ex,st,rfl,tm,hp,ct,rfl,rfl⟩:=bN hq (key l.length) ⟨0,by simp only[go_sem,ya,aA,aE hv.pu,aE hw.pu]<;>rfl,by omega⟩
  simp only[go_sem,aA]
 .rintro k st ⟨i,rfl,hk⟩;by_cases hi:i<l.length
  .left
   obtain⟨r1,e1⟩:=hv.bh hi;obtain⟨r2,e2⟩:=hw.bh hi;have lh:jo (.ag [2,2]) (.agg [.str l[i].1,.str l[i].2]) (.agg [.str l[i].1,.str l[i].2])=Ft ydh:=by
    have:=V4 l[i] l[i]
    rw[Jh rfl,Jh rfl] at this;exact this
   have Mi:∀(hp:Hp) (a b:AV) (r:List AV),fL hp 2 ydh (.bq (a::b::r))=Ft (.agg [a,b]):=fun _ _ _ _=>rfl
   simp only[go_sem,ya,JM,hv.len,show (i:Int)<l.length by omega,e1,e2,Mi,lh,show Ba ydh (Ft ydh)=Ft (AV.bool ydi) from rfl];refine⟨_,k-1,rfl,by omega,i+1,?_,by omega⟩;rw[wrap64 (by omega) (by omega)];simp only[go_sem,ya,aA,aE hv.pu,aE hw.pu]<;>rfl
  .right
   simp only[go_sem,ya,JM,hv.len,show ¬(i:Int)<l.length by omega];exact⟨_,_,rfl,by simp,_,_,_,rfl,rfl⟩
def QS(C R S:Int):Bool:=decide (C<=3\/8<C)&&(decide (R<=3\/8<R)&&decide (S<=4\/8<S))
def agu(h:Has P L 634 O9)(C R S:Int):ah P L 634 [.agg [aa C,aa R,aa S]] (.bool (QS C R S)):=by
 unfold ah;rw[aJ h];unfold QS;by_cases c1:C<=3<;>by_cases c2:8<C<;>by_cases r1:R<=3<;>by_cases r2:8<R<;>by_cases s1:S<=4<;>by_cases s2:8<S<;>simp only[go_sem,ya,O9,pJ,bj,yd,yh,yV,c1,c2,r1,r2,s1,s2,yX,xb,Bool.true_and,uP,or_true,true_or,or_self]
def Wa(h:Has P L 678 KJ)(n lo hi:Int):ah P L 678 [aa n,aa lo,aa hi] (aa (nG n lo hi)):=by
 unfold ah;rw[aJ h];unfold nG;by_cases c1:n<lo<;>by_cases c2:hi<n<;>simp only[go_sem,ya,KJ,c1,c2,yX,xb,or_self,or_true,true_or,xQ,xy]
def aeA(PS:Has P L 642 Pa)(CN:Has P L 647 GF)(GZ:Has P L 678 KJ)(C R S:Int):ah P L 642 [.agg [aa C,aa R,aa S]] (aa (ot C R S)):=by
 have e1:=Wa GZ C 1 8;have e2:=Wa GZ R 1 8;have e3:=Wa GZ S 2 8;have e4:=age CN (mN ydh [nG C 1 8,nG R 1 8,nG S 2 8]) (by simp);simp only[yy,yH,yd,yc,yZ,vj] at e4;unfold ah at e1 e2 e3 e4 ⊢;rw[aJ PS];unfold ot;simp only[go_sem,ya,yc,yB,yo,yk,Pa,pJ,bj,yd,yh,yV,e1,e2,e3,e4]
section
variable {W ids:List Nat}
def kR(k n:Nat):List Nat:=xJ (k+1) n
def qd(k n:Nat):(kR k n).length=n:=by simp[kR]
def DK{k n i:Nat}(h:i<(kR k n).length):(kR k n)[i]=k+1+i:=by simp[kR]
structure nL(hp:Hp)(k:Nat)(W:List Nat)(T:List (List AV)):Prop where
 l:W.length=T.length
 m:ai hp k=Ft (.cells ydh ydi ydi 1 (iP (kR k T.length) W))
 r:∀i,i<T.length->ai hp (k+1+i)=Ft (.cells ydh ydh ydi 1 (gT T i))
def UJ(ids W:List Nat):jT ids W 0=iP ids W:=by unfold jT;simp
def amo(h:ids.length=W.length):fH (iP ids W)=ids:=by rw[<-UJ];exact R8 0 h
def aoE{f:Nat->Option Nat}(k:Nat)(h:ids.length=W.length)(hf:∀i (h:i<ids.length),f ids[i]=Ft (k+i)):dB f (iP ids W)=iP (xJ k ids.length) W:=by
 rw[<-UJ,SL 0 k h hf,UJ]
def nL.aj{hp:Hp}{k:Nat}{T:List (List AV)}(h:nL hp k W T)(hw:∀i (h1:i<T.length) (h2:i<W.length),T[i].length=W[i])(hM:T.length<=900){n:Nat}(hn:910<=n):
  ∃an,freeze (n+3) hp (.ap k 0 T.length)=Ft (.au ydi T.length (vR (fun w r=>.au ydi w r) W T),an)/\(∀j,j≠k->(∀i,i<T.length->j≠k+1+i)->ai an j=ai hp j):=by
 obtain⟨aY,e1,g1⟩:=R9 (sz:=1) (y:=ydi) (by decide) (kR k T.length) W T hp (n+1) (by rw[qd];omega) (qd _ _) h.l (fun i h1 h2 h3=>by
  refine⟨by rw[yk];exact hw i h2 h3,ydh,?_⟩
  rw[DK]
  have:=h.r i h2
  rwa[Cv h2] at this)
 refine⟨aU aY k (.cells ydi ydi ydi 1 (iP (kR k T.length) W)),?_,fun j hj C2=>?_⟩
 .rw [NG,NH,h.m,ac1 e1];exact il ydi (by rw[List.length_zipWith,h.l,Nat.min_self,yk]) (by decide)
 .rw [MQ,yz hj];refine g1 j (fun hm=>?_);obtain⟨i,hi,e⟩:=xS.1 hm;rw[DK] at e;rw[qd] at hi;exact C2 i hi e.symm
end
section
variable {tm tm':Env}{H J:Hp}{T:List (List AV)}{cs:List AV}{W live:List Nat}{B a ct i:Nat}
def IY{o:Obj}:ai J i=Ft o->ai (J++H) i=Ft o:=by
 induction J with
 | nil=>intro h;cases h
 | cons p r ih=>
  obtain⟨j,u⟩:=p;intro h;by_cases e:j=i
  .subst e;rw[yx,jB];rw[jB] at h;exact h
  .rw [yx,eW _ _ e];rw[eW _ _ e] at h;exact ih h
def Y6(hJ:∀p,p∈J->B<=p.1)(hi:i<B):ai (J++H) i=ai H i:=by
 induction J with
 | nil=>rfl
 | cons p r ih=>
  obtain⟨j,u⟩:=p
  have:=hJ (j,u) (by simp)
  rw[yx,eW _ _ (by simp only at this;omega)];exact ih fun q hq=>hJ q (by simp[hq])
def Sa(hp:Hp)(f:Nat->Option Nat)(B:Nat)(H:Hp):∀(seen:List Nat) (k:Nat) (J:Hp),B<=k->(∀p,p∈J->B<=p.1)->∃J',ew hp f seen k (J++H)=J'++H/\∀p,p∈J'->B<=p.1
 | [],k,J,_,hJ=>⟨J,rfl,hJ⟩
 | id::r,k,J,hk,hJ=>by
  rw[ew]
  cases ai hp id with
  | none=>exact Sa hp f B H r (k+1) J (by omega) hJ
  | some o=>
   simp only;rw[<-yx]
   exact Sa hp f B H r (k+1) ((k,gE f o)::J) (by omega) (fun p an=>by
    rcases xI.1 an with rfl | h
    .exact hk
    .exact hJ p h)
def amp(hp:Hp)(f:Nat->Option Nat)(H:Hp):∀(seen:List Nat) (k j:Nat) (h:j<seen.length) (o:Obj),ai hp seen[j]=Ft o->ai (ew hp f seen k H) (k+j)=Ft (gE f o):=fun seen k j h o ho=>RC hp f seen k H j h o ho
def To(B:Nat)(hp:Hp):∀(ids seen cm:List Nat) (n:Nat),ids.length<n->(∀i,i∈ids->B<=i/\∃o,ai hp i=Ft o/\iW o=[])->ids.Nodup->(∀i,i∈ids->i∉seen)->lD B hp n (ids++cm) seen=lD B hp (n-ids.length) cm (seen++ids)
 | [],seen,cm,n,_,_,_,_=>by simp
 | i::ids,seen,cm,0,h,_,_,_=>by simp at h
 | i::ids,seen,cm,n+1,h,h1,h2,h3=>by
  obtain⟨hb,o,g,e⟩:=h1 i wI;have hn:=vl.1 h2
  rw[yx,UC _ _ _ _ hb,SJ (h3 i wI),TY,g,TZ,e,yM,To B hp ids (seen++[i]) cm n (by simpa using h) (fun j hj=>h1 j (xL _ hj)) hn.2 (fun j hj hm=>by
   rcases xH.1 hm with hm | hm
   .exact h3 j (xL _ hj) hm
   .simp only [we] at hm
    subst hm;exact hn.1 hj)]
  simp only[yy,xx,yx,yM];rw[show n+1-(ids.length+1)=n-ids.length by omega]
def aba(B:Nat)(hp:Hp):∀(l:List Nat) (n:Nat) (seen:List Nat),l.length<n->(∀i,i∈l->i<B)->lD B hp n l seen=seen
 | [],n,seen,h,_=>by
  obtain⟨m,rfl⟩:∃m,n=m+1:=⟨n-1,by simp at h;omega⟩;rfl
 | i::l,n,seen,h,h1=>by
  obtain⟨m,rfl⟩:∃m,n=m+1:=⟨n-1,by simp at h;omega⟩;rw[aep _ _ _ _ (h1 i (by simp))];exact aba B hp l m seen (by simpa using h) (fun j hj=>h1 j (by simp[hj]))
def akH{seen:List Nat}(hJ:∀p,p∈J->B<=p.1)(ho:kM B B H)(hr:lD B (J++H) 100000 (dL (bE tm live)++cI B H) []=seen):
  ∃J',br live ⟨tm,J++H,ct,B⟩=⟨eO (bJ B seen) (bE tm live),J'++H,B+seen.length,B⟩/\(∀p,p∈J'->B<=p.1)/\∀j (h:j<seen.length) o,ai J seen[j]=Ft o->ai (J'++H) (B+j)=Ft (gE (bJ B seen) o):=by
 have e1:fI B (bJ B seen) (J++H)=H:=by
  rw[R6 hJ,Mv (fun x hx=>UD _ hx) ho]
 obtain⟨J',h1,h2⟩:=Sa (J++H) (bJ B seen) B H seen B [] (yu B) (fun p h=>by cases h);rw[yM] at h1;have e2:reach (J++H) B 100000 (dL (bE tm live)++cI B (J++H)) []=seen:=by rw[Mx hJ];exact hr
 refine⟨J',?_,h2,fun j h o hg=>?_⟩
 .have e3:gB B seen=bJ B seen:=rfl;simp only[br,e2,e3,e1,h1]
 .rw [<-h1];exact amp (J++H) (bJ B seen) H seen B j h o (IY hg)
def ab8{k:Nat}{ids pre post:List Nat}(hJ:∀p,p∈J->B<=p.1)(ho:kM B B H)(h0:(cI B H).length<=50000)(hE:dL (bE tm live)=pre++a::post)(hk:pre.length=k)(hp0:∀i,i∈pre++post->B<=i/\∃rw ex z cs,ai J i=Ft (.cells rw ydh ex z cs))(hBa:B<=a)(hm:ai J a=Ft (.cells ydh ydi ydi 1 (iP ids W)))(hl:ids.length=T.length)(hW:W.length=T.length)(hr:∀i (h:i<ids.length),B<=ids[i]/\ai J ids[i]=Ft (.cells ydh ydh ydi 1 (gT T i)))(hM:k+T.length+post.length<=1000)(hn:(pre++a::(ids++post)).Nodup)(hT:∀S,(∀j,j<B->bJ B S j=Ft j)->(∀i (h:i<pre.length),bJ B S pre[i]=Ft (B+i))->bJ B S a=Ft (B+k)->(∀i (h:i<post.length),bJ B S post[i]=Ft (B+k+1+T.length+i))->eO (bJ B S) (bE tm live)=tm'):
  ∃J',br live ⟨tm,J++H,ct,B⟩=⟨tm',J'++H,B+(k+1+T.length+post.length),B⟩/\(∀p,p∈J'->B<=p.1)/\nL (J'++H) (B+k) W T/\(∀i (h:i<pre.length) rw ex z cs,ai J pre[i]=Ft (.cells rw ydh ex z cs)->ai (J'++H) (B+i)=Ft (.cells rw ydh ex z cs))/\
   ∀i (h:i<post.length) rw ex z cs,ai J post[i]=Ft (.cells rw ydh ex z cs)->ai (J'++H) (B+k+1+T.length+i)=Ft (.cells rw ydh ex z cs):=by
 obtain⟨n1,n2,n3⟩:=uX.1 hn;obtain⟨n4,n5⟩:=vl.1 n2;have hR:lD B (J++H) 100000 (dL (bE tm live)++cI B H) []=pre++a::(ids++post):=by
  rw[hE,xx,To B (J++H) pre [] _ 100000 (by omega) (fun i hi=>by obtain⟨hb,_,_,_,_,h⟩:=hp0 i (by simp[hi]);exact⟨hb,_,IY h,rfl⟩) n1 (by simp),yM]
  obtain⟨m,iI⟩:∃m,100000-pre.length=m+1:=⟨100000-pre.length-1,by omega⟩;have ek:∀i,i∈ids++post->i∉pre++[a]:=fun i hi Cx=>by
   rcases xH.1 Cx with h | h
   .exact n3 i h i (xL _ hi) rfl
   .rw [we.1 h] at hi;exact n4 hi
  rw[iI,yx,UC _ _ _ _ hBa,SJ (fun h=>n3 a h a wI rfl),TY,IY hm,TZ,S8,amo (by omega),<-xx,To B (J++H) (ids++post) (pre++[a]) _ m (by rw[yJ];omega) (fun i hi=>by
   rcases xH.1 hi with h | h
   .obtain ⟨j,hj,rfl⟩:=xS.1 h;exact⟨(hr j hj).1,_,IY (hr j hj).2,rfl⟩
   .obtain ⟨hb,_,_,_,_,h⟩:=hp0 i (by simp[h])
    exact⟨hb,_,IY h,rfl⟩) n5 ek,aba B _ _ _ _ (by rw[yJ];omega) (MP (yu B) ho)]
  simp
 obtain⟨J',e,g1,g2⟩:=akH (ct:=ct) hJ ho hR;have ls:(pre++a::(ids++post)).length=k+1+T.length+post.length:=by simp;omega
 have pp:∀j (h:j<(pre++a::(ids++post)).length),B<=(pre++a::(ids++post))[j]->bJ B (pre++a::(ids++post)) (pre++a::(ids++post))[j]=Ft (B+j):=fun j h hb=>by
  rw[aeq _ hb,Jj _ B j h hn]
 have sP:∀i (h:i<pre.length),(pre++a::(ids++post))[i]'(by simp;omega)=pre[i]:=fun i h=>wP h
 have sA:(pre++a::(ids++post))[k]'(by simp;omega)=a:=by
  rw[wo (by omega)];simp[hk]
 have sI:∀i (h:i<ids.length),(pre++a::(ids++post))[k+1+i]'(by simp;omega)=ids[i]:=fun i h=>by
  rw[wo (by omega)];simp only[hk,show k+1+i-k=i+1 by omega,wY];exact wP h
 have sQ:∀i (h:i<post.length),(pre++a::(ids++post))[k+1+T.length+i]'(by simp;omega)=post[i]:=fun i h=>by
  rw[wo (by omega)];simp only[hk,show k+1+T.length+i-k=(T.length+i)+1 by omega,wY];rw[wo (by omega)];simp[hl]
 have qI:∀i (h:i<ids.length),bJ B (pre++a::(ids++post)) ids[i]=Ft (B+k+1+i):=fun i h=>by
  have:=pp (k+1+i) (by simp;omega)
  rw[sI i h] at this;rw[this (hr i h).1];congr 1;omega
 refine⟨J',?_,g1,⟨hW,?_,fun i hi=>?_⟩,fun i hi cx ex z cs hg=>?_,fun i hi cx ex z cs hg=>?_⟩
 .rw [e,ls,hT _ (fun j hj=>UD _ hj) (fun i h=>by
   have:=pp i (by simp;omega)
   rw[sP i h] at this;exact this (hp0 _ (by simp)).1) (by
   have:=pp k (by simp;omega)
   rw[sA] at this;exact this hBa) (fun i h=>by
   have:=pp (k+1+T.length+i) (by simp;omega)
   rw[sQ i h] at this
   rw[this (hp0 _ (by simp)).1];congr 1;omega)]
 .have:=g2 k (by simp;omega) _ (by rw[sA];exact hm)
  rw[this,acA,aoE (B+k+1) (by omega) (fun i h=>qI i h),hl];rfl
 .have:=g2 (k+1+i) (by simp;omega) _ (by rw[sI i (by omega)];exact (hr i (by omega)).2)
  rw[show B+k+1+i=B+(k+1+i) by omega,this,N4]
 .have:=g2 i (by simp;omega) _ (by rw[sP i hi];exact hg)
  rw[this,N4]
 .have:=g2 (k+1+T.length+i) (by simp;omega) _ (by rw[sQ i hi];exact hg)
  rw[show B+k+1+T.length+i=B+(k+1+T.length+i) by omega,this,N4]
def aoF{b k w:Nat}(hJ:∀p,p∈J->B<=p.1)(ho:kM B B H)(h0:(cI B H).length<=50000)(hE:dL (bE tm live)=xJ B k++[a])(hp0:∀j,j<k->∃rw ex z cs,ai J (B+j)=Ft (.cells rw ydh ex z cs))(hi:T.length=i)(hW:W.length=i)(ha:B+k+1+i<=a)(hb:B+k+1+i<=b)(rG:a≠b)(hm:ai J a=Ft (.cells ydh ydi ydi 1 (iP (kR (B+k) i) W++[.ap b 0 w])))(hr:∀j,j<i->ai J (B+k+1+j)=Ft (.cells ydh ydh ydi 1 (gT T j)))(hc:ai J b=Ft (.cells ydh ydh ydi 1 cs))(hM:k+i<=900)(hT:∀S,(∀j,j<B->bJ B S j=Ft j)->(∀j,j<k->bJ B S (B+j)=Ft (B+j))->bJ B S a=Ft (B+k)->eO (bJ B S) (bE tm live)=tm'):
  ∃J',br live ⟨tm,J++H,ct,B⟩=⟨tm',J'++H,B+(k+1+(i+1)),B⟩/\(∀p,p∈J'->B<=p.1)/\nL (J'++H) (B+k) (W++[w]) (T++[cs])/\∀j,j<k->∀rw ex z cs,ai J (B+j)=Ft (.cells rw ydh ex z cs)->ai (J'++H) (B+j)=Ft (.cells rw ydh ex z cs):=by
 have CM:∀j (h:j<(kR (B+k) i++[b]).length),(kR (B+k) i++[b])[j]=if j<i then B+k+1+j else b:=fun j h=>by
  by_cases hj:j<i
  .rw [yP hj,wP (by rw[qd];exact hj),DK]
  .rw [yz hj,wo (by rw[qd];omega)];simp
 have li:(kR (B+k) i++[b]).length=i+1:=by simp[qd]
 have gp:∀j (h:j<(xJ B k).length),(xJ B k)[j]=B+j:=fun j h=>by simp
 obtain⟨J',e,g1,g2,g3,_⟩:=ab8 (H:=H) (B:=B) (J:=J) (ct:=ct) (tm:=tm) (tm':=tm') (live:=live) (a:=a) (k:=k) (ids:=kR (B+k) i++[b]) (pre:=xJ B k) (post:=[]) (W:=W++[w]) (T:=T++[cs]) hJ ho h0 hE List.length_range' (fun j hj=>by
  rw[wq,tc] at hj;obtain⟨cx,ex,z,c,q⟩:=hp0 (j-B) (by omega);rw[show B+(j-B)=j by omega] at q;exact⟨hj.1,_,_,_,_,q⟩) (by omega) (by rw[aa9 (by rw[qd,hW])];exact hm) (by rw[li,yJ,hi];rfl) (by rw[yJ,yJ,hi,hW];rfl) (fun j hj=>by
  rw[CM j hj];rw[li] at hj;by_cases C2:j<i
  .rw [yP C2,hr j C2,Cv (show j<T.length by omega),Cv (by simp;omega),wP (show j<T.length by omega)];exact⟨by omega,rfl⟩
  .have V9:j=i:=by omega
   subst V9;rw[yz (by omega),hc,Cv (by simp;omega),wo (by omega)];simp[hi];omega) (by simp;omega) (by
  refine uX.2 ⟨td,vl.2 ⟨fun hm=>?_,?_⟩,fun x hx y hy e=>?_⟩
  .rw [wq] at hm;rcases xH.1 hm with h | h
   .obtain ⟨j,hj,e⟩:=xS.1 h;rw[DK] at e;rw[qd] at hj;omega
   .exact rG (we.1 h)
  .rw [wq];refine uX.2 ⟨td,by simp,fun x hx y hy e=>?_⟩;rw[we.1 hy] at e;obtain⟨j,hj,e2⟩:=xS.1 hx;rw[DK] at e2;rw[qd] at hj;omega
  .have hx:=tc.1 hx;rw[wq] at hy;rcases xI.1 hy with h | h
   .omega
   .rcases xH.1 h with h | h
    .obtain ⟨j,hj,e2⟩:=xS.1 h;rw[DK] at e2;omega
    .rw [we.1 h] at e;omega) (fun S h1 h2 h3 _=>hT S h1 (fun j hj=>by have:=h2 j (by simpa using hj);simpa using this) h3)
 refine⟨J',?_,g1,g2,fun j hj cx ex z c hg=>g3 j (by simpa using hj) cx ex z c (by simpa using hg)⟩;rw[e];simp[hi]
def Z3{b w:Nat}(hJ:∀p,p∈J->B<=p.1)(ho:kM B B H)(h0:(cI B H).length<=50000)(hE:dL (bE tm live)=[a])(hi:T.length=i)(hW:W.length=i)(ha:B+1+i<=a)(hb:B+1+i<=b)(rG:a≠b)(hm:ai J a=Ft (.cells ydh ydi ydi 1 (iP (kR B i) W++[.ap b 0 w])))(hr:∀j,j<i->ai J (B+1+j)=Ft (.cells ydh ydh ydi 1 (gT T j)))(hc:ai J b=Ft (.cells ydh ydh ydi 1 cs))(hM:i<=900)(hT:∀S,bJ B S a=Ft B->eO (bJ B S) (bE tm live)=tm'):
  ∃J',br live ⟨tm,J++H,ct,B⟩=⟨tm',J'++H,B+1+(i+1),B⟩/\(∀p,p∈J'->B<=p.1)/\nL (J'++H) B (W++[w]) (T++[cs]):=by
 obtain⟨J',e,g1,g2,_⟩:=aoF (k:=0) (tm':=tm') (ct:=ct) hJ ho h0 hE (fun j hj=>by omega) hi hW ha hb rG hm hr hc (by omega) (fun S _ _ h=>hT S h);refine⟨J',?_,g1,g2⟩;rw[e];simp;omega
def nL.axe{n:Nat}(h:nL (J++H) B W T)(hn:T.length=n)(hJ:∀p,p∈J->B<=p.1)(ho:kM B B H)(h0:(cI B H).length<=50000)(iD:∀j,B<=j->ai (J++H) j=ai J j)(hE:dL (bE tm live)=[B])(hM:n<=900)(hT:∀S,bJ B S B=Ft B->eO (bJ B S) (bE tm live)=tm'):
  ∃J',br live ⟨tm,J++H,ct,B⟩=⟨tm',J'++H,B+1+n,B⟩/\(∀p,p∈J'->B<=p.1)/\nL (J'++H) B W T:=by
 obtain⟨J',e,g1,g2,_⟩:=ab8 (k:=0) (pre:=[]) (post:=[]) (a:=B) (ids:=kR B n) (W:=W) (T:=T) (tm':=tm') (ct:=ct) hJ ho h0 hE rfl (by simp) (yu B) (by rw[<-iD B (yu B),h.m,hn]) (by rw[qd,hn]) h.l (fun i hi=>by
  rw[DK];rw[qd] at hi;refine⟨by omega,?_⟩;rw[<-iD _ (by omega)];exact h.r i (by omega)) (by simp;omega) (by
  rw[yM,wq];refine vl.2 ⟨fun hm=>?_,td⟩
  have:=tc.1 hm
  omega) (fun S _ _ h3 _=>hT S h3)
 refine⟨J',?_,g1,g2⟩;rw[e];simp[hn];omega
end
section
variable {H J:Hp}{B j:Nat}
def amq{b n:Nat}(h:kM b n H)(hj:b<=j):ai H j=none:=by
 induction H with
 | nil=>rfl
 | cons p r ih=>
  obtain⟨i,o⟩:=p
  have:=h.1
  rw[eW _ _ (by omega)];exact ih h.2.2
def abb(h:kM B B H)(hj:B<=j):ai (J++H) j=ai J j:=by
 induction J with
 | nil=>rw[yM,amq h hj];rfl
 | cons p r ih=>
  obtain⟨i,o⟩:=p;by_cases e:i=j
  .subst e;rw[yx,jB,jB]
  .rw [yx,eW _ _ e,eW _ _ e,ih]
def abc{b n:Nat}(h:kM b n H)(hj:b<=j):cC H j=H:=by
 induction H with
 | nil=>rfl
 | cons p r ih=>
  obtain⟨i,o⟩:=p
  have:=h.1
  rw[BS _ _ (by omega),ih h.2.2]
def abd(h:kM B B H)(hj:B<=j):cC (J++H) j=cC J j++H:=by
 induction J with
 | nil=>rw[yM,abc h hj];rfl
 | cons p r ih=>
  obtain⟨i,o⟩:=p;by_cases e:i=j
  .subst e;rw[yx,I3,I3,ih]
  .rw [yx,BS _ _ e,BS _ _ e,ih];rfl
def abe{p:Nat×Obj}(h:p∈cC J j):p∈J:=by
 induction J with
 | nil=>exact h
 | cons q r ih=>
  obtain⟨i,o⟩:=q;by_cases e:i=j
  .subst e;rw[I3] at h;exact xL _ (ih h)
  .rw [BS _ _ e] at h;rcases xI.1 h with rfl | h
   .simp
   .exact xL _ (ih h)
def axf(EQ:Has P L 639 ED){v:AV}{F:List (List Nat)}(hv:eP fC v F)(hl:F.length<=900)(hr:∀r,r∈F->r.length<=1000000)(hF0:0<F.length)(ho:kM B B H)(h0:(cI B H).length<=50000):
  ∃J,iv P L (D P L) H B 639 [v]=Ft (.ap B 0 F.length,J++H,B+1+F.length)/\(∀p,p∈J->B<=p.1)/\nL (J++H) B (F.map wu) (F.map bY):=by
 have key:en P L [3,6,7,8] qF (fun d st=>∃i:Nat,i+d=F.length/\((i=0/\st=⟨[(3,.af),(6,v),(7,aa F.length),(8,aa i)],H,B,B⟩)\/(0<i/\∃J,st=⟨[(3,.ap B 0 i),(6,v),(7,aa F.length),(8,aa i)],J++H,B+1+i,B⟩/\(∀p,p∈J->B<=p.1)/\nL (J++H) B ((F.take i).map wu) ((F.take i).map bY)))) (fun ex s'=>∃tm J ct,s'=⟨tm,J++H,ct,B⟩/\ex=.exit 0/\ak tm 3=.ap B 0 F.length/\(∀p,p∈J->B<=p.1)/\nL (J++H) B (F.map wu) (F.map bY)):=by
  apply eB;rintro d st ⟨i,hid,aT⟩;by_cases hi:i<F.length
  .left
   obtain⟨w,rest,lR,e0⟩:=hv.bh hi;have lP:=fC.src lR;have lR:cp w (bY F[i]):=lR;have hrl:=hr _ (xk hi);have w4:IntKind.wrap .i64 ((i:Int)+1)=((i+1:Nat):Int):=wrap64 (by omega) (by omega);have Mh:(i:Int)<F.length:=by omega
   have oD:=fun (hp:Hp) (ct id:Nat) (hg:ai hp id=Ft (.cells ydh ydh ydh 1 []))=>gA (ct:=ct) (by':=4) (new:=bY F[i]) (m:=F[i].length) (n:=0) hg rfl (by omega) (by omega) (by decide) (SO _)
   simp only[Tl,vm,yd,yM] at oD;have e1:(F.take (i+1)).map wu=(F.take i).map wu++[F[i].length]:=by
    rw[xa hi,xA];rfl
   have e2:(F.take (i+1)).map bY=(F.take i).map bY++[bY F[i]]:=by
    rw[xa hi,xA];rfl
   rcases aT with ⟨me,rfl⟩ | ⟨me,J,rfl,hJ,hM⟩
   .subst me;simp only[go_sem,ya,yc,xn,yB,yo,yk,qF,Mh,e0,lP,ko,oD,jC,w4,abc ho (yu B)];refine⟨_,d-1,rfl,by omega,1,by omega,.inr ⟨by omega,?_⟩⟩;rw[e1,e2]
    exact Z3 (H:=H) (B:=B) (a:=B+3) (b:=B+1) (i:=0) (W:=[]) (T:=[]) (J:=[(B+3,.cells ydh ydi ydi 1 [.ap (B+1) 0 F[0].length]),(B+2,.cells ydh ydi ydh 1 [.ap (B+1) 0 F[0].length]),(B+1,.cells ydh ydh ydi 1 (bY F[0]))]) (by simp) ho h0 (by simp only[go_sem,ya,ik hv.pu]<;>rfl) rfl rfl (by omega) (by omega) (by omega) (by rw[jB];rfl) (fun j hj=>by omega) (by rw[eW _ _ (by omega),eW _ _ (by omega),jB]) (by omega) (fun S h3=>by simp only[go_sem,ya,h3,DJ _ hv.pu]<;>rfl)
   .have lT:((F.take i).map bY).length=i:=by rw[yL,yQ,xj (by omega)]
    have lW:((F.take i).map wu).length=i:=by rw[yL,yQ,xj (by omega)]
    have g0:=hM.m;rw[lT] at g0;have gr:=hM.r;rw[lT] at gr;simp only[go_sem,ya,yc,yo,yk,qF,Mh,e0,lP,ko,oD]
    rw[gA (sz:=1) (ex:=ydi) (pu:=ydi) (cs:=iP (kR B i) ((F.take i).map wu)) (by rw[eW _ _ (by omega),eW _ _ (by omega),DG,yz (by omega)];exact g0) (by rw[arh (by rw[qd,lW]),lW];omega) (by omega) (by omega) (by decide) (by simp only[go_sem])]
    simp only[go_sem,ya,w4];refine⟨_,d-1,rfl,by omega,i+1,by omega,.inr ⟨by omega,?_⟩⟩;rw[e1,e2];rw[BS _ _ (by omega),BS _ _ (by omega),abd ho (by omega),abd ho (by omega),<-yx,<-yx,<-yx]
    refine Z3 (H:=H) (B:=B) (a:=B+1+i+1+1+1) (b:=B+1+i+1) (i:=i) (J:=(B+1+i+1+1+1,.cells ydh ydi ydi 1 (iP (kR B i) ((F.take i).map wu)++[.ap (B+1+i+1) 0 F[i].length]))::(B+1+i+1+1,.cells ydh ydi ydh 1 [.ap (B+1+i+1) 0 F[i].length])::(B+1+i+1,.cells ydh ydh ydi 1 (bY F[i]))::cC (cC J (B+1+i)) B) (fun p hp=>by
     rcases xI.1 hp with rfl | hp
     .show B<=B+1+i+1+1+1;omega
     rcases xI.1 hp with rfl | hp
     .show B<=B+1+i+1+1;omega
     rcases xI.1 hp with rfl | hp
     .show B<=B+1+i+1;omega
     exact hJ p (abe (abe hp))) ho h0 ?_ lT lW (by omega) (by omega) (by omega) (by rw[jB]) (fun j hj=>by
     rw[eW _ _ (by omega),eW _ _ (by omega),eW _ _ (by omega),DG,yz (by omega),DG,yz (by omega),<-abb ho (by omega)]
     exact gr j hj) (by rw[eW _ _ (by omega),eW _ _ (by omega),jB]) (by omega) (fun S h3=>?_)
    .simp only [go_sem,ya,ik hv.pu]<;>rfl
    .simp only [go_sem,ya,h3,DJ _ hv.pu]<;>rfl
  .right
   have:i=F.length:=by omega
   subst this;rcases aT with ⟨me,rfl⟩ | ⟨me,J,rfl,hJ,hM⟩
   .omega
   .simp only [go_sem,ya,qF,show ¬(F.length:Int)<F.length by omega];rw[xN] at hM;exact⟨_,_,rfl,by simp,_,_,_,rfl,rfl,by simp only[go_sem,ya],hJ,hM⟩
 have hb:∃J,D P L ED.body ⟨fg 0 [v],H,B,B⟩=Ft (.ret,⟨[(2,.ap B 0 F.length),(19,.ap B 0 F.length),(3,.ap B 0 F.length)],J++H,B+1+F.length,B⟩)/\(∀p,p∈J->B<=p.1)/\nL (J++H) B (F.map wu) (F.map bY):=by
  simp only[go_sem,ya,ED,hv.len];generalize hq:D P L (.loop _ qF) _=q;obtain⟨ex,st,rfl,tm,J,ct,rfl,rfl,t3,hJ,hM⟩:=bN hq (key F.length) ⟨0,by omega,.inl ⟨rfl,by
   rw[Mw (by simp only[go_sem,ya]<;>exact⟨trivial,mj hv.pu,trivial,trivial,trivial⟩) ho (by simp only[go_sem,ya,ik hv.pu,yM]<;>omega)]
   simp only[go_sem,ya]<;>rfl⟩⟩
  have hlen:(F.map bY).length=F.length:=yL _;obtain⟨J',q1,q2,q3⟩:=hM.axe (live:=[3]) (tm:=tm) (ct:=ct) (tm':=[(3,.ap B 0 F.length)]) hlen hJ ho h0 (fun j hj=>abb ho hj) (by simp only[go_sem,t3]) hl (fun S h3=>by simp only[go_sem,t3,h3]);refine⟨J',?_,q2,q3⟩;simp only[go_sem,q1]
 obtain⟨J,hb,hJ,hM⟩:=hb;exact⟨J,FQ EQ hb (.inr rfl) rfl,hJ,hM⟩
end
section
variable {c z:Int}{a:List Int}{k:Nat}
def T9:(∀c:Fin 256,tH.format.add (fb (c.val:Int)) 1065353216=Ft (fb ((c.val:Int)+1)))/\(∀c:Fin 257,tH.format.mul 1073741824 (fb (c.val:Int))=Ft (fb (2*(c.val:Int))))/\∀c:Fin 257,tH.format.add (fb (c.val:Int)) 1088421888=Ft (fb ((c.val:Int)+7)):=by decide+kernel
def arj(h:0<=c/\c<256):binOp .add (.ao .f32 (fb c)) (.ao .f32 1065353216)=Ft (.ao .f32 (fb (c+1))):=by
 have e:=T9.1 ⟨c.toNat,by omega⟩;rw[show ((⟨c.toNat,by omega⟩:Fin 256).val:Int)=c from wZ h.1] at e;simp[binOp,Ec,e]
def avj(h:0<=c/\c<=256):binOp .mul (.ao .f32 1073741824) (.ao .f32 (fb c))=Ft (.ao .f32 (fb (2*c))):=by
 have e:=T9.2.1 ⟨c.toNat,by omega⟩;rw[show ((⟨c.toNat,by omega⟩:Fin 257).val:Int)=c from wZ h.1] at e;simp[binOp,Ec,e]
def ark(h:0<=c/\c<=256):binOp .add (.ao .f32 (fb c)) (.ao .f32 1088421888)=Ft (.ao .f32 (fb (c+7))):=by
 have e:=T9.2.2 ⟨c.toNat,by omega⟩;rw[show ((⟨c.toNat,by omega⟩:Fin 257).val:Int)=c from wZ h.1] at e;simp[binOp,Ec,e]
structure ER(φ:Int->Nat):Prop where
 one:φ 1=1065353216
 azT:∀{c:Int},0<=c/\c<256->binOp .add (.ao .f32 (φ c)) (.ao .f32 1065353216)=Ft (.ao .f32 (φ (c+1)))
 two:∀{c:Int},0<=c/\c<=256->binOp .mul (.ao .f32 1073741824) (.ao .f32 (φ c))=Ft (.ao .f32 (φ (2*c)))
 cv:∀c:Int,kC (.toFlt .f32) (.int .u8 c)=Ft (.ao .f32 (φ c))
 z:φ 0=0
def azU:ER fb:=⟨azj,arj,avj,fun _=>rfl,azi⟩
def b6(φ:Int->Nat)(a:List Int):List AV:=a.map fun z=>.ao .f32 (φ z)
def B4{φ:Int->Nat}:(b6 φ a).length=a.length:=by simp[b6]
def aoG(φ:Int->Nat)(a:List Int):b6 φ a=bY (a.map φ):=by simp[b6,uA]
def SP{φ:Int->Nat}(h:k<a.length):(b6 φ a).drop k=.ao .f32 (φ a[k])::(b6 φ a).drop (k+1):=by
 rw[yR (by rw[B4];exact h)]
 simp[b6]
def A1{φ:Int->Nat}{hp:Hp}{ct id:Nat}{ex:Bool}(h:k<a.length):gm hp ct id k 1 [.ao .f32 (φ z)] (Ft (.cells ydh ydh ex 1 (b6 φ a)))=Ft (.ax [],aU hp id (.cells ydh ydh ex 1 (b6 φ (a.set k z))),ct):=by
 rw[qM (sz:=1) (by rfl) (by rw[B4];omega) (by rfl)]
 have:over k [AV.ao .f32 (φ z)] (b6 φ a)=b6 φ (a.set k z):=by
  simp only[over,yy,yH,yd,b6];rw[yaB,List.set_eq_take_append_cons_drop,yP (by simpa using h)]
  simp
 rw[this];rfl
def c7(a:List Int):List Int:=a.map (2*·)
def dF(a:List Int):List Int:=(0::a).take a.length
def B5:(c7 a).length=a.length:=by simp[c7]
def B6:(dF a).length=a.length:=by simp[dF]
def ab9:c7 (a.set k z)=(c7 a).set k (2*z):=by simp[c7,yaB]
def aca:dF (a.set k z)=(dF a).set (k+1) z:=by
 unfold dF;rw[xE,show (0::a.set k z:List Int)=(0::a).set (k+1) z from rfl,List.take_set]
structure j9(S m k:Nat)(a:List Int):Prop where
 len:a.length=m
 on:∀j (h:j<a.length),j<k->j%S<S-1->1<=a[j]/\a[j]<=256
 off:∀j (h:j<a.length),k<=j\/S-1<=j%S->a[j]=0
def j9.zero(S m:Nat):j9 S m 0 (yp m 0):=⟨by simp,fun j h hk=>by omega,fun j h _=>by simp⟩
def j9.put{S m:Nat}(h:j9 S m k a)(hk:k<m)(hS:k%S<S-1)(hz:1<=z/\z<=256):j9 S m (k+1) (a.set k z):=by
 refine⟨by rw[xE,h.len],fun j hj hjk QT=>?_,fun j hj hd=>?_⟩
 .rw [xE] at hj;rw[yak]
  split
  .exact hz
  .exact h.on j hj (by omega) QT
 .rw [xE] at hj;rw[yak,yz (by intro e;subst e;omega)];exact h.off j hj (by omega)
def j9.skip{S m:Nat}(h:j9 S m k a)(hS:¬k%S<S-1):j9 S m (k+1) a:=
 ⟨h.len,fun j hj hjk QT=>h.on j hj (by
  by_cases e:j=k
  .subst e;exact absurd QT hS
  .omega) QT,fun j hj hd=>h.off j hj (by
  by_cases e:j=k
  .subst e;exact .inr (by omega)
  .omega)⟩
end
section
variable {cv:AV}{l1 l2 l3:List AV}{a:List Int}{cl:List Nat}{C N R RS S k m r:Nat}
def oN(l:List Nat):List AV:=l.map fun c:Nat=>AV.int .u8 (c:Int)
def Bn(v:AV)(l:List Nat):Prop:=cp v (oN l)/\∀c,c∈l->c<256
def eG(C R S:Nat):Obj:=.cells ydh ydh ydh 3 [aa C,aa R,aa S]
def iQ(C R S:Nat):List AV->List AV->List AV->List AV->List AV->List AV->Hp
 | [],_,_,a,b,c=>[(3,.cells ydh ydh ydh 1 c),(2,.cells ydh ydh ydh 1 b),(1,.cells ydh ydh ydh 1 a),(0,eG C R S)]
 | x::l,m,n,a,b,c=>[(6,.cells ydh ydh ydh 1 c),(5,.cells ydh ydh ydh 1 b),(4,.cells ydh ydh ydh 1 a),(3,.cells ydh ydh ydi 1 n),(2,.cells ydh ydh ydi 1 m),(1,.cells ydh ydh ydi 1 (x::l)),(0,eG C R S)]
def lK(cv:AV)(RS r m N k:Nat):List AV->Env
 | []=>[(1,cv),(2,.ptr 0 0),(5,.af),(6,.af),(7,.af),(8,aa N),(9,.ap 1 0 m),(10,.ap 2 0 m),(11,.ap 3 0 m),(41,aa RS),(42,aa r),(63,aa m),(64,aa k)]
 | _::l=>[(1,cv),(2,.ptr 0 0),(5,.ap 1 0 (l.length+1)),(6,.ap 2 0 (l.length+1)),(7,.ap 3 0 (l.length+1)),(8,aa N),(9,.ap 4 0 m),(10,.ap 5 0 m),(11,.ap 6 0 m),(41,aa RS),(42,aa r),(63,aa m),(64,aa k)]
def rX(cv:AV)(RS r m N:Nat):List AV->Env
 | []=>[(1,cv),(2,.ptr 0 0),(5,.af),(6,.af),(7,.af),(8,aa N),(9,.ap 1 0 m),(10,.ap 2 0 m),(11,.ap 3 0 m),(41,aa RS),(42,aa r)]
 | _::l=>[(1,cv),(2,.ptr 0 0),(5,.ap 1 0 (l.length+1)),(6,.ap 2 0 (l.length+1)),(7,.ap 3 0 (l.length+1)),(8,aa N),(9,.ap 4 0 m),(10,.ap 5 0 m),(11,.ap 6 0 m),(41,aa RS),(42,aa r)]
def mZ:List AV->Nat
 | []=>4
 | _::_=>7
def ac3(hm:m=C*S)(hk:k<m)(hS:2<=S)(fK:k%S<S-1):k+1<m:=by
 rw[hm] at hk ⊢;apply Nat.lt_of_le_of_ne (by omega);intro e;have e3:(k+1)%S=0:=by rw[e,Nat.mul_mod_left]
 have e4:(k+1)%S=k%S+1:=by
  rw[yav,yF (show 1<S by omega),yF (by omega)]
 omega
def avk{φ:Int->Nat}(hφ:ER φ)(gM:Bn cv cl)(hS:2<=S)(lH:S<=8)(hC:C<=8)(hm:m=C*S)(hN:N<=200000)(hA:j9 S m k a)(hk:k<m)(fK:k%S<S-1)(Dx:N<cl.length):∃s',D P L mS ⟨lK cv RS r m N k l1,iQ C R S l1 l2 l3 (b6 φ a) (b6 φ (c7 a)) (b6 φ (dF a)),mZ l1,0⟩=Ft (.normal,s')/\br [1,2,5,6,7,8,9,10,11,41,42,63,64] s'=⟨lK cv RS r m (N+1) (k+1) l1,iQ C R S l1 l2 l3 (b6 φ (a.set k (((cl[N]:Nat):Int)+1))) (b6 φ ((c7 a).set k (2*(((cl[N]:Nat):Int)+1)))) (b6 φ ((dF a).set (k+1) (((cl[N]:Nat):Int)+1))),mZ l1,0⟩:=by
 have G0:m<=64:=by rw[hm];exact yS hC lH
 have mf:=gM.1.pu;have Aq:∀b,cellsOf (.ao .f32 b)=[.ao .f32 b]:=fun _=>rfl
 have sZ:=hA.len;have P5:(c7 a).length=m:=by rw[B5,sZ]
 have P2:(dF a).length=m:=by rw[B6,sZ]
 have Dy:(k:Int)<m:=by omega
 have h1:(k:Int).tmod (S:Int)=((k%S:Nat):Int):=(yaD k S).symm;have h2:k%S<S:=xu _ (by omega);have Dz:(S:Int)≠0:=by omega
 have w4:IntKind.wrap .i64 ((k:Int)+1)=((k+1:Nat):Int):=wrap64 (by omega) (by omega);have wN:IntKind.wrap .i64 ((N:Int)+1)=((N+1:Nat):Int):=wrap64 (by omega) (by omega);have wS:IntKind.wrap .i64 ((S:Int)-1)=(S:Int)-1:=wrap64 (by omega) (by omega);have wr:IntKind.wrap .i64 ((k%S:Nat):Int)=((k%S:Nat):Int):=wrap64 (by omega) (by omega);have ask:cy (aa k)=Ft k:=rfl;have G1:cy (aa ((k+1:Nat):Int))=Ft (k+1):=rfl;have QU:cy (aa N)=Ft N:=rfl;have ix:=fun id=>cA (sz:=1) id 0 hk
 simp only[yd,yk] at ix;have Ar:k<a.length:=by omega
 have dH:(oN cl).length=cl.length:=by simp[oN]
 have G2:=gM.1;have Cf:((k%S:Nat):Int)<(S:Int)-1:=by omega
 have gL:k+1<m:=ac3 hm hk (by omega) fK;have zh:=fun id=>cA (sz:=1) id 0 gL
 simp only[yd,yk] at zh;have s1:=fun (hp:Hp) (ct id:Nat) (z:Int)=>A1 (φ:=φ) (hp:=hp) (ct:=ct) (id:=id) (z:=z) (ex:=ydh) Ar
 have XO:=fun (hp:Hp) (ct id:Nat) (x z:Int)=>A1 (φ:=φ) (hp:=hp) (ct:=ct) (id:=id) (z:=z) (ex:=ydh) (a:=a.set k x) (k:=k) (by rw[xE];exact Ar)
 have s2:=fun (hp:Hp) (ct id:Nat) (z:Int)=>A1 (φ:=φ) (hp:=hp) (ct:=ct) (id:=id) (z:=z) (ex:=ydh) (a:=c7 a) (k:=k) (by omega)
 have s3:=fun (hp:Hp) (ct id:Nat) (z:Int)=>A1 (φ:=φ) (hp:=hp) (ct:=ct) (id:=id) (z:=z) (ex:=ydh) (a:=dF a) (k:=k+1) (by omega)
 have g1:=fun (x:Int)=>SP (φ:=φ) (a:=a.set k x) (k:=k) (by rw[xE];exact Ar)
 simp only[tG] at g1;have kG:(.ao .f32 1065353216:AV)=.ao .f32 (φ 1):=by rw[hφ.one]
 have ss:∀x z:Int,(a.set k x).set k z=a.set k z:=fun x z=>ycA _
 have hcN:=gM.2 _ (xk Dx);have XP:=gM.1.bh (i:=N) (by rw[dH];exact Dx)
 have eg:(oN cl)[N]'(by rw[dH];exact Dx)=.int .u8 ((cl[N]:Nat):Int):=by simp[oN]
 rw[eg] at XP;have ecv:kC (.toFlt .f32) (.int .u8 ((cl[N]:Nat):Int))=Ft (.ao .f32 (φ ((cl[N]:Nat):Int))):=hφ.cv _;have ea:=hφ.azT (c:=((cl[N]:Nat):Int)) (by omega);rw[kG] at ea;have et:=hφ.two (c:=((cl[N]:Nat):Int)+1) (by omega);have Mj:(N:Int)<cl.length:=by omega
 generalize hcc:((cl[N]:Nat):Int)=cc at*
 cases l1 with
 | nil=>
  simp only[lK,iQ,mZ];simp only[go_sem,ya,mS,Dy,Aq,eG,bj,yd,yh,yV,fE _ _ _ Dz,h1,wS,Cf,ix,ask,kG,s1,XO,ss,G2.len,dH,QU,wN,w4,G1,zh,D5,Eo,g1,s3,et,s2,Mj,XP,ecv,ea];refine⟨_,rfl,?_⟩;simp only[go_sem,ya,yc,aA,aE mf]
 | cons x l=>
  simp only[lK,iQ,mZ];simp only[go_sem,ya,mS,Dy,Aq,eG,bj,yd,yh,yV,fE _ _ _ Dz,h1,wS,Cf,ix,ask,kG,s1,XO,ss,G2.len,dH,QU,wN,w4,G1,zh,D5,Eo,g1,s3,et,s2,Mj,XP,ecv,ea];refine⟨_,rfl,?_⟩;simp only[go_sem,ya,yc,aA,aE mf]
def avl{φ:Int->Nat}(hφ:ER φ)(gM:Bn cv cl)(hS:2<=S)(lH:S<=8)(hC:C<=8)(hm:m=C*S)(hN:N<=200000)(hA:j9 S m k a)(hk:k<m)(fK:k%S<S-1)(Dx:¬N<cl.length):∃s',D P L mS ⟨lK cv RS r m N k l1,iQ C R S l1 l2 l3 (b6 φ a) (b6 φ (c7 a)) (b6 φ (dF a)),mZ l1,0⟩=Ft (.normal,s')/\br [1,2,5,6,7,8,9,10,11,41,42,63,64] s'=⟨lK cv RS r m (N+1) (k+1) l1,iQ C R S l1 l2 l3 (b6 φ (a.set k 1)) (b6 φ ((c7 a).set k (2*1))) (b6 φ ((dF a).set (k+1) 1)),mZ l1,0⟩:=by
 have G0:m<=64:=by rw[hm];exact yS hC lH
 have mf:=gM.1.pu;have Aq:∀b,cellsOf (.ao .f32 b)=[.ao .f32 b]:=fun _=>rfl
 have sZ:=hA.len;have P5:(c7 a).length=m:=by rw[B5,sZ]
 have P2:(dF a).length=m:=by rw[B6,sZ]
 have Dy:(k:Int)<m:=by omega
 have h1:(k:Int).tmod (S:Int)=((k%S:Nat):Int):=(yaD k S).symm;have h2:k%S<S:=xu _ (by omega);have Dz:(S:Int)≠0:=by omega
 have w4:IntKind.wrap .i64 ((k:Int)+1)=((k+1:Nat):Int):=wrap64 (by omega) (by omega);have wN:IntKind.wrap .i64 ((N:Int)+1)=((N+1:Nat):Int):=wrap64 (by omega) (by omega);have wS:IntKind.wrap .i64 ((S:Int)-1)=(S:Int)-1:=wrap64 (by omega) (by omega);have wr:IntKind.wrap .i64 ((k%S:Nat):Int)=((k%S:Nat):Int):=wrap64 (by omega) (by omega);have ask:cy (aa k)=Ft k:=rfl;have G1:cy (aa ((k+1:Nat):Int))=Ft (k+1):=rfl;have QU:cy (aa N)=Ft N:=rfl;have ix:=fun id=>cA (sz:=1) id 0 hk
 simp only[yd,yk] at ix;have Ar:k<a.length:=by omega
 have dH:(oN cl).length=cl.length:=by simp[oN]
 have G2:=gM.1;have Cf:((k%S:Nat):Int)<(S:Int)-1:=by omega
 have gL:k+1<m:=ac3 hm hk (by omega) fK;have zh:=fun id=>cA (sz:=1) id 0 gL
 simp only[yd,yk] at zh;have s1:=fun (hp:Hp) (ct id:Nat) (z:Int)=>A1 (φ:=φ) (hp:=hp) (ct:=ct) (id:=id) (z:=z) (ex:=ydh) Ar
 have XO:=fun (hp:Hp) (ct id:Nat) (x z:Int)=>A1 (φ:=φ) (hp:=hp) (ct:=ct) (id:=id) (z:=z) (ex:=ydh) (a:=a.set k x) (k:=k) (by rw[xE];exact Ar)
 have s2:=fun (hp:Hp) (ct id:Nat) (z:Int)=>A1 (φ:=φ) (hp:=hp) (ct:=ct) (id:=id) (z:=z) (ex:=ydh) (a:=c7 a) (k:=k) (by omega)
 have s3:=fun (hp:Hp) (ct id:Nat) (z:Int)=>A1 (φ:=φ) (hp:=hp) (ct:=ct) (id:=id) (z:=z) (ex:=ydh) (a:=dF a) (k:=k+1) (by omega)
 have g1:=fun (x:Int)=>SP (φ:=φ) (a:=a.set k x) (k:=k) (by rw[xE];exact Ar)
 simp only[tG] at g1;have kG:(.ao .f32 1065353216:AV)=.ao .f32 (φ 1):=by rw[hφ.one]
 have ss:∀x z:Int,(a.set k x).set k z=a.set k z:=fun x z=>ycA _
 have et:=hφ.two (c:=1) (by decide);have Mj:¬(N:Int)<cl.length:=by omega
 cases l1 with
 | nil=>
  simp only[lK,iQ,mZ];simp only[go_sem,ya,mS,Dy,Aq,eG,bj,yd,yh,yV,fE _ _ _ Dz,h1,wS,Cf,ix,ask,kG,s1,G2.len,dH,wN,w4,G1,zh,D5,Eo,g1,s3,et,s2,Mj];refine⟨_,rfl,?_⟩;simp only[go_sem,ya,yc,aA,aE mf]
 | cons x l=>
  simp only[lK,iQ,mZ];simp only[go_sem,ya,mS,Dy,Aq,eG,bj,yd,yh,yV,fE _ _ _ Dz,h1,wS,Cf,ix,ask,kG,s1,G2.len,dH,wN,w4,G1,zh,D5,Eo,g1,s3,et,s2,Mj];refine⟨_,rfl,?_⟩;simp only[go_sem,ya,yc,aA,aE mf]
def avm{φ:Int->Nat}(hφ:ER φ)(gM:Bn cv cl)(hS:2<=S)(lH:S<=8)(hC:C<=8)(hm:m=C*S)(hN:N<=200000)(hA:j9 S m k a)(hk:k<m)(fK:¬k%S<S-1):∃s',D P L mS ⟨lK cv RS r m N k l1,iQ C R S l1 l2 l3 (b6 φ a) (b6 φ (c7 a)) (b6 φ (dF a)),mZ l1,0⟩=Ft (.normal,s')/\br [1,2,5,6,7,8,9,10,11,41,42,63,64] s'=⟨lK cv RS r m (N) (k+1) l1,iQ C R S l1 l2 l3 (b6 φ a) (b6 φ (c7 a)) (b6 φ (dF a)),mZ l1,0⟩:=by
 have G0:m<=64:=by rw[hm];exact yS hC lH
 have mf:=gM.1.pu;have Aq:∀b,cellsOf (.ao .f32 b)=[.ao .f32 b]:=fun _=>rfl
 have sZ:=hA.len;have P5:(c7 a).length=m:=by rw[B5,sZ]
 have P2:(dF a).length=m:=by rw[B6,sZ]
 have Dy:(k:Int)<m:=by omega
 have h1:(k:Int).tmod (S:Int)=((k%S:Nat):Int):=(yaD k S).symm;have h2:k%S<S:=xu _ (by omega);have Dz:(S:Int)≠0:=by omega
 have w4:IntKind.wrap .i64 ((k:Int)+1)=((k+1:Nat):Int):=wrap64 (by omega) (by omega);have wN:IntKind.wrap .i64 ((N:Int)+1)=((N+1:Nat):Int):=wrap64 (by omega) (by omega);have wS:IntKind.wrap .i64 ((S:Int)-1)=(S:Int)-1:=wrap64 (by omega) (by omega);have wr:IntKind.wrap .i64 ((k%S:Nat):Int)=((k%S:Nat):Int):=wrap64 (by omega) (by omega);have ask:cy (aa k)=Ft k:=rfl;have G1:cy (aa ((k+1:Nat):Int))=Ft (k+1):=rfl;have QU:cy (aa N)=Ft N:=rfl;have ix:=fun id=>cA (sz:=1) id 0 hk
 simp only[yd,yk] at ix;have Ar:k<a.length:=by omega
 have dH:(oN cl).length=cl.length:=by simp[oN]
 have G2:=gM.1;have Cf:¬((k%S:Nat):Int)<(S:Int)-1:=by omega
 have hz:=hA.off k Ar (.inl (yu k));have g1:=SP (φ:=φ) Ar;rw[hz] at g1;have et:binOp .mul (.ao .f32 1073741824) (.ao .f32 (φ 0))=Ft (.ao .f32 (φ 0)):=hφ.two (c:=0) (by decide);have s2:=fun (hp:Hp) (ct id:Nat) (z:Int)=>A1 (φ:=φ) (hp:=hp) (ct:=ct) (id:=id) (z:=z) (ex:=ydh) (a:=c7 a) (k:=k) (by omega)
 have sd:(c7 a).set k 0=c7 a:=by
  have:(c7 a)[k]'(by omega)=0:=by simp[c7,hz]
  rw[<-this];exact List.set_getElem_self _
 cases l1 with
 | nil=>
  simp only[lK,iQ,mZ];simp only[go_sem,ya,mS,Dy,Aq,eG,bj,yd,yh,yV,fE _ _ _ Dz,h1,wS,Cf,ix,ask,w4,D5,Eo,g1,et,s2,sd];refine⟨_,rfl,?_⟩;simp only[go_sem,ya,yc,aA,aE mf]
 | cons x l=>
  simp only[lK,iQ,mZ];simp only[go_sem,ya,mS,Dy,Aq,eG,bj,yd,yh,yV,fE _ _ _ Dz,h1,wS,Cf,ix,ask,w4,D5,Eo,g1,et,s2,sd];refine⟨_,rfl,?_⟩;simp only[go_sem,ya,yc,aA,aE mf]
def avn{φ:Int->Nat}(hφ:ER φ)(gM:Bn cv cl)(hS:2<=S)(lH:S<=8)(hC:C<=8)(hm:m=C*S)(hr:r<=100){N0:Nat}(hN0:N0<=100000):
  en P L [1,2,5,6,7,8,9,10,11,41,42,63,64] mS (fun d st=>∃k N a,k+d=m/\N<=N0+k/\j9 S m k a/\st=⟨lK cv RS r m N k l1,iQ C R S l1 l2 l3 (b6 φ a) (b6 φ (c7 a)) (b6 φ (dF a)),mZ l1,0⟩) (fun ex s'=>∃tm ct N a,s'=⟨tm,iQ C R S l1 l2 l3 (b6 φ a) (b6 φ (c7 a)) (b6 φ (dF a)),ct,0⟩/\ex=.exit 2/\N<=N0+m/\j9 S m m a/\bE tm [1,2,5,6,7,8,9,10,11,41,42]=rX cv RS r m N l1):=by
 apply eB;rintro d st ⟨k,N,a,hkd,hN,hA,rfl⟩;have G0:m<=64:=by rw[hm];exact yS hC lH
 by_cases hk:k<m
 .left
  by_cases fK:k%S<S-1
  .by_cases Dx:N<cl.length
   .have hcN:=gM.2 _ (xk Dx);obtain⟨s',q1,q2⟩:=avk (P:=P) (L:=L) (R:=R) (RS:=RS) (r:=r) (l1:=l1) (l2:=l2) (l3:=l3) hφ gM hS lH hC hm (N:=N) (by omega) hA hk fK Dx;rw[<-aca,<-ab9] at q2;exact⟨s',d-1,q1,by omega,k+1,N+1,_,by omega,by omega,hA.put hk fK (by omega),q2⟩
   .obtain ⟨s',q1,q2⟩:=avl (P:=P) (L:=L) (R:=R) (RS:=RS) (r:=r) (l1:=l1) (l2:=l2) (l3:=l3) hφ gM hS lH hC hm (N:=N) (by omega) hA hk fK Dx;rw[<-aca,<-ab9] at q2;exact⟨s',d-1,q1,by omega,k+1,N+1,_,by omega,by omega,hA.put hk fK (by omega),q2⟩
  .obtain ⟨s',q1,q2⟩:=avm (P:=P) (L:=L) (R:=R) (RS:=RS) (r:=r) (l1:=l1) (l2:=l2) (l3:=l3) hφ gM hS lH hC hm (N:=N) (by omega) hA hk fK;exact⟨s',d-1,q1,by omega,k+1,N,_,by omega,by omega,hA.skip fK,q2⟩
 .right
  have hkm:k=m:=by omega
  subst hkm
  cases l1 with
  | nil=>
   simp only[go_sem,ya,mS,lK,show ¬(k:Int)<k by omega];exact⟨_,_,rfl,by simp,_,_,N,a,rfl,rfl,hN,hA,by simp only[go_sem,ya,rX]<;>rfl⟩
  | cons x l=>
   simp only[go_sem,ya,mS,lK,show ¬(k:Int)<k by omega];exact⟨_,_,rfl,by simp,_,_,N,a,rfl,rfl,hN,hA,by simp only[go_sem,ya,rX]<;>rfl⟩
end
def mg(φ:Int->Nat)(a:List Int):AV:=.au ydh a.length (b6 φ a)
def Ea(cv:AV)(RS r N:Nat):List AV->Env
 | []=>[(1,cv),(2,.ptr 0 0),(5,.af),(6,.af),(7,.af),(8,aa N),(41,aa RS),(42,aa r)]
 | _::l=>[(1,cv),(2,.ptr 0 0),(5,.ap 1 0 (l.length+1)),(6,.ap 2 0 (l.length+1)),(7,.ap 3 0 (l.length+1)),(8,aa N),(41,aa RS),(42,aa r)]
def Gj(C R S:Nat):List AV->List AV->List AV->Hp
 | [],_,_=>[(0,eG C R S)]
 | x::l,m,n=>[(3,.cells ydh ydh ydi 1 n),(2,.cells ydh ydh ydi 1 m),(1,.cells ydh ydh ydi 1 (x::l)),(0,eG C R S)]
def Gr:List AV->Nat
 | []=>1
 | _::_=>4
def aoH{φ:Int->Nat}(h:φ 0=0)(m:Nat):(yp m [AV.ao .f32 0]).flatten=b6 φ (yp m 0):=by
 rw[aaM];simp[b6,h]
def avo{φ:Int->Nat}(hφ:ER φ){cv:AV}{cl:List Nat}{C R S r N m:Nat}{l1 l2 l3:List AV}(gM:Bn cv cl)(hS:2<=S)(lH:S<=8)(hC:C<=8)(Dt:1<=C)(hR:R<=8)(hm:m=C*S)(hN:N<=100000)(hr:r<R*S)(q1:l1.length=r)(q2:l2.length=r)(q3:l3.length=r):
  ∃s' N' a,N'<=N+m/\j9 S m m a/\D P L D3 ⟨Ea cv (R*S) r N l1,Gj C R S l1 l2 l3,Gr l1,0⟩=Ft (.normal,s')/\br [1,2,5,6,7,8,41,42] s'=⟨Ea cv (R*S) (r+1) N' (l1++[mg φ a]),Gj C R S (l1++[mg φ a]) (l2++[mg φ (c7 a)]) (l3++[mg φ (dF a)]),Gr (l1++[mg φ a]),0⟩:=by
 have G0:m<=64:=by rw[hm];exact yS hC lH
 have C8:2<=m:=by
  have:=yS Dt hS
  rw[hm];omega
 have hRS:R*S<=64:=yS hR lH;have mf:=gM.1.pu;have m1:(C:Int)*(S:Int)=(m:Int):=by rw[hm,xZ]
 have w1:IntKind.wrap .i64 (m:Int)=(m:Int):=wrap64 (by omega) (by omega);have w4:IntKind.wrap .i64 ((r:Int)+1)=((r+1:Nat):Int):=wrap64 (by omega) (by omega);have oC:(r:Int)<((R*S:Nat):Int):=by omega
 have asm:cy (aa m)=Ft m:=rfl;have fz0:=aoH (φ:=φ) hφ.z m;have zR:=j9.zero S m;have dz:c7 (yp m 0)=yp m 0:=by simp[c7]
 have mz:dF (yp m 0)=yp m 0:=by
  unfold dF;rw[List.length_replicate,show (0::yp m 0:List Int)=yp (m+1) 0 from rfl,List.take_replicate,xj (by omega)]
 have key:=avn (P:=P) (L:=L) (R:=R) (RS:=R*S) (r:=r) (l1:=l1) (l2:=l2) (l3:=l3) hφ gM hS lH hC hm (by omega) hN;have bV:∀ct,zU ct 1 4 [AV.ao .f32 0] (Ft m) (Ft m)=Ft (.ap ct 0 m,.cells ydh ydh ydh 1 (b6 φ (yp m 0))):=fun ct=>by
  rw[Gh (sz:=1) (by omega) (by omega) (by rfl) (by rfl),fz0];rfl
 have G3:∀a:List Int,a.length=m->(AV.au ydh m (b6 φ a))=mg φ a:=fun a h=>by rw[<-h];rfl
 have fM:∀a:List Int,cL (mg φ a)=ydh:=fun _=>rfl
 have gj:∀a:List Int,aW (mg φ a)=ydh:=fun _=>rfl
 have dH:∀a:List Int,cellsOf (mg φ a)=[mg φ a]:=fun _=>rfl
 cases l1 with
 | nil=>
  simp only[yH] at q1;subst q1;have q2:=wR.1 q2;have q3:=wR.1 q3;subst q2;subst q3;simp only[Ea,Gj,Gr,eG];simp only[go_sem,ya,yc,D3,oC,bj,yd,yh,yV,m1,w1,asm,bV];generalize hq:D P L (.loop _ mS) _=q;obtain⟨ex,st,rfl,tm,ct,N',a,rfl,rfl,XQ,hA,sT⟩:=bN hq (key m) ⟨0,N,_,by omega,by omega,zR,by
   rw[dz,mz]
   simp only[go_sem,ya,yc,aA,lK,iQ,mZ,eG,aE mf]<;>rfl⟩
  have fk:∀ct,br [1,2,5,6,7,8,9,10,11,41,42] ⟨tm,iQ C R S [] [] [] (b6 φ a) (b6 φ (c7 a)) (b6 φ (dF a)),ct,0⟩=⟨rX cv (R*S) 0 m N' [],iQ C R S [] [] [] (b6 φ a) (b6 φ (c7 a)) (b6 φ (dF a)),4,0⟩:=fun ct=>by
   rw[IG (c':=ct) (tm':=rX cv (R*S) 0 m N' []) (by rw[sT];rfl)]
   simp only[go_sem,ya,yc,aA,rX,iQ,eG,aE mf]
  have z1:=fun (hp:Hp)=>il (hp:=hp) (sz:=1) (k:=m) (cs:=b6 φ a) ydh (by rw[B4,hA.len,yk]) (by decide)
  have z2:=fun (hp:Hp)=>il (hp:=hp) (sz:=1) (k:=m) (cs:=b6 φ (c7 a)) ydh (by rw[B4,B5,hA.len,yk]) (by decide)
  have z3:=fun (hp:Hp)=>il (hp:=hp) (sz:=1) (k:=m) (cs:=b6 φ (dF a)) ydh (by rw[B4,B6,hA.len,yk]) (by decide)
  rw[G3 a hA.len] at z1;rw[G3 (c7 a) (by rw[B5,hA.len])] at z2;rw[G3 (dF a) (by rw[B6,hA.len])] at z3
  suffices hh:∃s',_=Ft (Ex.normal,s')/\br [1,2,5,6,7,8,41,42] s'=_ from by
   obtain⟨s',h1,h2⟩:=hh;exact⟨s',N',a,XQ,hA,h1,h2⟩
  simp only[go_sem,fk];simp only[rX,iQ,eG];simp only[go_sem,ya,yc,xn,yB,yo,yk,z1,z2,z3,fM,gj,dH,FP,ko,jC,w4];refine⟨_,rfl,?_⟩;simp only[go_sem,ya,yc,aA,yM,aE mf]<;>rfl
 | cons x l=>
  simp only[yy] at q1;simp only[Ea,Gj,Gr,eG];simp only[go_sem,ya,yc,D3,oC,bj,yd,yh,yV,m1,w1,asm,bV];generalize hq:D P L (.loop _ mS) _=q;obtain⟨ex,st,rfl,tm,ct,N',a,rfl,rfl,XQ,hA,sT⟩:=bN hq (key m) ⟨0,N,_,by omega,by omega,zR,by
   rw[dz,mz]
   simp only[go_sem,ya,yc,aA,lK,iQ,mZ,eG,aE mf]<;>rfl⟩
  have fk:∀ct,br [1,2,5,6,7,8,9,10,11,41,42] ⟨tm,iQ C R S (x::l) l2 l3 (b6 φ a) (b6 φ (c7 a)) (b6 φ (dF a)),ct,0⟩=⟨rX cv (R*S) r m N' (x::l),iQ C R S (x::l) l2 l3 (b6 φ a) (b6 φ (c7 a)) (b6 φ (dF a)),7,0⟩:=fun ct=>by
   rw[IG (c':=ct) (tm':=rX cv (R*S) r m N' (x::l)) (by rw[sT];rfl)]
   simp only[go_sem,ya,yc,aA,rX,iQ,eG,aE mf]
  have z1:=fun (hp:Hp)=>il (hp:=hp) (sz:=1) (k:=m) (cs:=b6 φ a) ydh (by rw[B4,hA.len,yk]) (by decide)
  have z2:=fun (hp:Hp)=>il (hp:=hp) (sz:=1) (k:=m) (cs:=b6 φ (c7 a)) ydh (by rw[B4,B5,hA.len,yk]) (by decide)
  have z3:=fun (hp:Hp)=>il (hp:=hp) (sz:=1) (k:=m) (cs:=b6 φ (dF a)) ydh (by rw[B4,B6,hA.len,yk]) (by decide)
  rw[G3 a hA.len] at z1;rw[G3 (c7 a) (by rw[B5,hA.len])] at z2;rw[G3 (dF a) (by rw[B6,hA.len])] at z3;have o1:=fun (hp:Hp) (ct:Nat) (v:AV) (hv:cL v=ydh) (hg:ai hp 1=Ft (.cells ydh ydh ydi 1 (x::l)))=>gA (ct:=ct) (by':=24) (new:=[v]) (m:=1) (n:=l.length+1) hg (by simp) (by omega) (by omega) (by decide) (by simp[bS,hv])
  have o2:=fun (hp:Hp) (ct:Nat) (v:AV) (hv:cL v=ydh) (hg:ai hp 2=Ft (.cells ydh ydh ydi 1 l2))=>gA (ct:=ct) (by':=24) (new:=[v]) (m:=1) (n:=l.length+1) hg (by omega) (by omega) (by omega) (by decide) (by simp[bS,hv])
  have o3:=fun (hp:Hp) (ct:Nat) (v:AV) (hv:cL v=ydh) (hg:ai hp 3=Ft (.cells ydh ydh ydi 1 l3))=>gA (ct:=ct) (by':=24) (new:=[v]) (m:=1) (n:=l.length+1) hg (by omega) (by omega) (by omega) (by decide) (by simp[bS,hv])
  suffices hh:∃s',_=Ft (Ex.normal,s')/\br [1,2,5,6,7,8,41,42] s'=_ from by
   obtain⟨s',h1,h2⟩:=hh;exact⟨s',N',a,XQ,hA,h1,h2⟩
  simp only[go_sem,fk];simp only[rX,iQ,eG];simp only[go_sem,ya,yc,yo,yk,z1,z2,z3,fM,gj,dH,FP,ko,o1,o2,o3,w4];refine⟨_,rfl,?_⟩;simp only[go_sem,ya,yc,aA,yx,yJ,aE mf]<;>rfl
def kg(φ:Int->Nat)(A:List (List Int)):List AV:=A.map (mg φ)
def sE(φ:Int->Nat)(A:List (List Int)):List AV:=A.map fun a=>mg φ (c7 a)
def sG(φ:Int->Nat)(A:List (List Int)):List AV:=A.map fun a=>mg φ (dF a)
def avp{φ:Int->Nat}(hφ:ER φ){cv:AV}{cl:List Nat}{C R S m:Nat}(gM:Bn cv cl)(hS:2<=S)(lH:S<=8)(hC:C<=8)(Dt:1<=C)(hR:R<=8)(hR0:1<=R)(hm:m=C*S):
  en P L [1,2,5,6,7,8,41,42] D3 (fun d st=>∃r N A,r+d=R*S/\N<=r*m/\A.length=r/\(∀a,a∈A->j9 S m m a)/\st=⟨Ea cv (R*S) r N (kg φ A),Gj C R S (kg φ A) (sE φ A) (sG φ A),Gr (kg φ A),0⟩) (fun ex s'=>∃tm ct A,s'=⟨tm,[(3,.cells ydh ydh ydi 1 (sG φ A)),(2,.cells ydh ydh ydi 1 (sE φ A)),(1,.cells ydh ydh ydi 1 (kg φ A)),(0,eG C R S)],ct,0⟩/\ex=.exit 0/\A.length=R*S/\(∀a,a∈A->j9 S m m a)/\bE tm [2,5,6,7]=[(2,.ptr 0 0),(5,.ap 1 0 (R*S)),(6,.ap 2 0 (R*S)),(7,.ap 3 0 (R*S))]):=by
 apply eB;rintro d st ⟨r,N,A,fS,hN,hA,ff,rfl⟩;have hRS:R*S<=64:=yS hR lH;have G0:m<=64:=by rw[hm];exact yS hC lH
 have hrm:r*m<=64*64:=yS (by omega) G0;by_cases hr:r<R*S
 .left
  obtain⟨s',N',a,h1,h2,h3,h4⟩:=avo (P:=P) (L:=L) hφ gM hS lH hC Dt hR hm (N:=N) (l1:=kg φ A) (l2:=sE φ A) (l3:=sG φ A) (by omega) hr (by simp[kg,hA]) (by simp[sE,hA]) (by simp[sG,hA]);refine⟨s',d-1,h3,by omega,r+1,N',A++[a],by omega,by rw[xP];omega,by simp[hA],fun b hb=>?_,?_⟩
  .rcases xH.1 hb with hb | hb
   .exact ff b hb
   .rw [we.1 hb];exact h2
  .rw [h4];simp only[kg,sE,sG,xA,yZ,vj]
 .right
  have EZ:r=R*S:=by omega
  have h2:1*2<=R*S:=yS hR0 hS;have hx:¬(r:Int)<((R*S:Nat):Int):=by omega
  cases A with
  | nil=>simp at hA;omega
  | cons a A'=>
   have hl:(kg φ A').length+1=R*S:=by
    simp only[yy] at hA;simp[kg];omega
   simp only[go_sem,ya,D3,Ea,kg,yZ,hx];refine⟨_,_,rfl,by simp,_,_,a::A',rfl,rfl,by omega,ff,?_⟩;rw[<-hl];simp only[go_sem,ya,kg]<;>rfl
def nM{f g:Nat->Int}:∀{n:Nat},(∀t,t<n->f t=g t)->dC f n=dC g n
 | 0,_=>rfl
 | n+1,h=>by simp only[dC];rw[nM (fun t ht=>h t (by omega)),h n (by omega)]
def SQ{f g:Nat->Int}:∀n,dC (fun t=>f t+g t) n=dC f n+dC g n
 | 0=>rfl
 | n+1=>by simp only[dC];rw[SQ n];omega
def FJ{f:Nat->Int}{c:Int}:∀n,dC (fun t=>c*f t) n=c*dC f n
 | 0=>by simp[dC]
 | n+1=>by simp only[dC];rw[FJ n,ycz]
def BO{f:Nat->Int}:∀n,dC f (n+1)=f 0+dC (fun t=>f (t+1)) n
 | 0=>by simp[dC]
 | n+1=>by
  have:=BO (f:=f) n
  simp only[dC] at this ⊢;omega
def RE{f g:Nat->Int}{n:Nat}(h0:g 0=0)(hs:∀t,t+1<n->g (t+1)=f t)(hl:∀m,n=m+1->f m=0):dC g n=dC f n:=by
 cases n with
 | zero=>rfl
 | succ m=>
  rw[BO,h0,nM (g:=f) (fun t ht=>hs t (by omega))];simp only[dC,hl m rfl];omega
def acb{f:Nat->Int}:∀{n:Nat},(∀t,t<n->0<=f t)->0<=dC f n
 | 0,_=>Int.le_refl _
 | n+1,h=>by
  have:=acb (f:=f) (n:=n) (fun t ht=>h t (by omega))
  have:=h n (by omega)
  simp only[dC];omega
def Tp{f:Nat->Int}:∀{n j:Nat},(∀t,t<n->0<=f t)->j<n->f j<=dC f n
 | n+1,j,h,hj=>by
  have h1:=acb (f:=f) (n:=n) (fun t ht=>h t (by omega));have h2:=h n (by omega);by_cases e:j=n
  .subst e;simp only[dC];omega
  .have:=Tp (f:=f) (n:=n) (j:=j) (fun t ht=>h t (by omega)) (by omega)
   simp only[dC];omega
def Np{f:Nat->Int}{B:Int}:∀{n:Nat},(∀t,t<n-> -B<=f t/\f t<=B)-> -(B*n)<=dC f n/\dC f n<=B*n
 | 0,_=>by simp[dC]
 | n+1,h=>by
  have h1:=Np (f:=f) (B:=B) (n:=n) (fun t ht=>h t (by omega));have h2:=h n (by omega);have h3:B*((n+1:Nat):Int)=B*n+B:=by rw[th,ycz];simp
  simp only[dC];omega
def acd{f:Nat->Rat}{g:Nat->Int}:∀{n:Nat},(∀t,t<n->f t=(g t:Rat))->dR f n=((dC g n:Int):Rat)
 | 0,_=>by simp[dR,dC]
 | n+1,h=>by
  simp only[dR,dC];rw[acd (fun t ht=>h t (by omega)),h n (by omega),yay]
def SR{f:Nat->Rat}{g:Nat->Int}:∀{n:Nat},(∀t,t<n->f t=(g t:Rat)/2)->dR f n=((dC g n:Int):Rat)/2
 | 0,_=>by simp only[dR,dC,Rat.intCast_zero];grind
 | n+1,h=>by
  simp only[dR,dC];rw[SR (fun t ht=>h t (by omega)),h n (by omega),yay];grind
def pI(v:Nat->Nat->Int)(a b S t:Nat):Int:=v (a*S+t%S) (b*S+t/S)
def sF(v:Nat->Nat->Int)(a b S:Nat):Int:=dC (pI v a b S) (S*S)
def sX(v:Nat->Nat->Int)(a b S:Nat):Int:=dC (fun t=>pI v a b S t*(2*((t%S:Nat):Int)+1-S)) (S*S)
def sY(v:Nat->Nat->Int)(a b S:Nat):Int:=dC (fun t=>pI v a b S t*(2*((t/S:Nat):Int)+1-S)) (S*S)
def ES(q:Nat->Nat->Rat)(v:Nat->Nat->Int)(C R S:Nat):Prop:=∀c r,c<C*S->r<R*S->q c r=(v c r:Rat)/\0<=v c r/\v c r<=1024
section
variable {q:Nat->Nat->Rat}{v:Nat->Nat->Int}{C R S a b:Nat}(h:ES q v C R S)(hS:S<=8)(ha:a<C)(hb:b<R)
include h ha hb
theorem Gs{t:Nat}(ht:t<S*S):jA q a b S t=(pI v a b S t:Rat)/\0<=pI v a b S t/\pI v a b S t<=1024:=h _ _ (gD ha (n9 ht).1) (gD hb (n9 ht).2)
theorem aeB:dR (jA q a b S) (S*S)=(sF v a b S:Rat):=acd fun t ht=>(Gs h ha hb ht).1
theorem axg:dR (Ao q a b S) (S*S)=(sX v a b S:Rat)/2:=SR fun t ht=>by
 unfold Ao CK;rw[(Gs h ha hb ht).1,vn];show _*(_/((2:Int):Rat))=_
 grind
theorem axh:dR (Ap q a b S) (S*S)=(sY v a b S:Rat)/2:=SR fun t ht=>by
 unfold Ap CK;rw[(Gs h ha hb ht).1,vn];show _*(_/((2:Int):Rat))=_
 grind
include hS
theorem FK:(sF v a b S).natAbs<2^40/\(sX v a b S).natAbs<2^40/\(sY v a b S).natAbs<2^40:=by
 have hSS:S*S<=64:=yS hS hS;have b1:=Np (f:=pI v a b S) (B:=1024) (n:=S*S) (fun t ht=>by have:=Gs h ha hb ht;omega);have b2:=Np (f:=fun t=>pI v a b S t*(2*((t%S:Nat):Int)+1-S)) (B:=1024*20) (n:=S*S) (fun t ht=>by
  obtain⟨_,p1,p2⟩:=Gs h ha hb ht;have l1:=(n9 ht).1;have e1:pI v a b S t*(2*((t%S:Nat):Int)+1-S)<=pI v a b S t*20:=wQ (by omega) p1;have e2:pI v a b S t*(-20)<=pI v a b S t*(2*((t%S:Nat):Int)+1-S):=wQ (by omega) p1
  omega)
 have b3:=Np (f:=fun t=>pI v a b S t*(2*((t/S:Nat):Int)+1-S)) (B:=1024*20) (n:=S*S) (fun t ht=>by
  obtain⟨_,p1,p2⟩:=Gs h ha hb ht;have l1:=(n9 ht).2;generalize t/S=u at*
  have e1:pI v a b S t*(2*((u:Nat):Int)+1-S)<=pI v a b S t*20:=wQ (by omega) p1;have e2:pI v a b S t*(-20)<=pI v a b S t*(2*((u:Nat):Int)+1-S):=wQ (by omega) p1
  omega)
 unfold sF sX sY;omega
theorem aeC(h0:0<sF v a b S):rI ((sF v a b S:Rat),(sX v a b S:Rat)/2,(sY v a b S:Rat)/2)=ydi/\¬((sF v a b S:Int):Rat)<=0:=by
 obtain⟨k1,k2,k3⟩:=FK h hS ha hb;have k4:Hq 40 (2:Rat):=fO (z:=2) (by decide);have e1:=((fO k2).div k4).div (fO k1);have e2:=((fO k3).div k4).div (fO k1);refine⟨?_,?_⟩
 .unfold rI nH;simp only;rw[UA e1 (by decide),UA e2 (by decide)];rfl
 .intro hle
  have:(sF v a b S:Int)<=0:=by
   have:=Rat.intCast_le_intCast.1 (show ((sF v a b S:Int):Rat)<=((0:Int):Rat) from hle)
   exact this
  omega
end
noncomputable def gg(v:Nat->Nat->Int)(C R S:Nat):List lE:=(wF (C*R)).map fun k=>(RT ((sX v (k%C) (k/C) S:Rat)/2/(sF v (k%C) (k/C) S:Rat)),RT ((sY v (k%C) (k/C) S:Rat)/2/(sF v (k%C) (k/C) S:Rat)))
def arl{q:Nat->Nat->Rat}{v:Nat->Nat->Int}{C R S:Nat}(h:ES q v C R S):nI q C R S=(wF (C*R)).map fun k=>((sF v (k%C) (k/C) S:Rat),(sX v (k%C) (k/C) S:Rat)/2,(sY v (k%C) (k/C) S:Rat)/2):=by
 unfold nI;refine vT fun k hk=>?_
 obtain⟨l1,l2⟩:=mQ (wL.1 hk);rw[aeB h l1 l2,axg h l1 l2,axh h l1 l2]
def arm{q:Nat->Nat->Rat}{v:Nat->Nat->Int}{C R S:Nat}(h:ES q v C R S)(hS:S<=8)(h0:∀a b,a<C->b<R->0<sF v a b S):rJ (nI q C R S)=0/\Fq (nI q C R S)=gg v C R S:=by
 rw[arl h];have hE:rJ ((wF (C*R)).map fun k=>((sF v (k%C) (k/C) S:Rat),(sX v (k%C) (k/C) S:Rat)/2,(sY v (k%C) (k/C) S:Rat)/2))=0:=by
  unfold rJ;rw[yz,yz]
  .rw [ybH,uf];intro t ht;obtain⟨k,hk,rfl⟩:=xM.1 ht;obtain⟨l1,l2⟩:=mQ (wL.1 hk);rw[(aeC h hS l1 l2 (h0 _ _ l1 l2)).1];simp
  .rw [ybH,uf];intro t ht;obtain⟨k,hk,rfl⟩:=xM.1 ht;obtain⟨l1,l2⟩:=mQ (wL.1 hk)
   have:=(aeC h hS l1 l2 (h0 _ _ l1 l2)).2
   simpa using this
 refine⟨hE,?_⟩;unfold Fq;rw[yP hE,uA];rfl
def Gv(v:Nat->Nat->Int)(C R S:Nat):Prop:=∀c r,c<C*S->r<R*S->(c%S<S-1->1<=v c r/\v c r<=256)/\(¬c%S<S-1->v c r=0)
def v2(v:Nat->Nat->Int)(c r:Nat):Int:=2*v c r
def v3(v:Nat->Nat->Int)(c r:Nat):Int:=if c=0 then 0 else v (c-1) r
def v4(v:Nat->Nat->Int)(c r:Nat):Int:=if c=0/\r=0 then v 0 0+7 else v c r
def arn{S n:Nat}(hS:2<=S)(hn:S*S=n+1):n%S=S-1/\n/S=S-1:=by
 have e:n=(S-1)*S+(S-1):=by
  have:S*S=(S-1)*S+S:=by
   conv=>lhs;rw[show S=S-1+1 by omega]
   rw[xP,ybx,show S-1+1=S by omega]
  omega
 rw[e,D9 (by omega),T8 (by omega)];exact⟨rfl,rfl⟩
section
variable {v:Nat->Nat->Int}{C R S a b:Nat}(h:Gv v C R S)(hS:2<=S)
include h
theorem Gv.nn{c r:Nat}(hc:c<C*S)(hr:r<R*S):0<=v c r/\v c r<=256:=by
 obtain⟨h1,h2⟩:=h c r hc hr;by_cases e:c%S<S-1
 .have:=h1 e;omega
 .have:=h2 e;omega
theorem Gv.px(ha:a<C)(hb:b<R){t:Nat}(ht:t<S*S):(t%S<S-1->1<=pI v a b S t)/\(¬t%S<S-1->pI v a b S t=0)/\0<=pI v a b S t:=by
 obtain⟨l1,l2⟩:=n9 ht;have k:=h _ _ (gD ha l1) (gD hb l2);have k2:=h.nn (gD ha l1) (gD hb l2);rw[D9 l1] at k;exact⟨fun e=>(k.1 e).1,k.2,k2.1⟩
include hS
theorem Gv.pos(ha:a<C)(hb:b<R):0<sF v a b S:=by
 have hN:0<S*S:=vv (by omega) (by omega);have h0:=(h.px ha hb hN).1 (by rw[yad];omega)
 have:=Tp (f:=pI v a b S) (n:=S*S) (fun t ht=>(h.px ha hb ht).2.2) hN
 unfold sF;omega
theorem axi(ha:a<C)(hb:b<R){t:Nat}:(t+1<S*S->pI (v3 v) a b S (t+1)=pI v a b S t)/\pI (v3 v) a b S 0=0:=by
 constructor
 .intro ht;obtain⟨l1,l2⟩:=n9 ht;obtain⟨k1,k2⟩:=n9 (show t<S*S by omega);unfold pI v3;by_cases e:t%S<S-1
  .have e1:(t+1)%S=t%S+1:=by rw[yav,yF (show 1<S by omega),yF (by omega)]
   have e2:(t+1)/S=t/S:=by
    have a1:=xz t S;have a2:=xz (t+1) S;rw[e1] at a2
    have:S*((t+1)/S)=S*(t/S):=by omega
    exact yaK (by omega) this
   rw[e1,e2,yz (by omega),show a*S+(t%S+1)-1=a*S+t%S by omega]
  .have e1:(t+1)%S=0:=by
    have h1:t%S=S-1:=by omega
    rw[yav,h1,yF (show 1<S by omega),show S-1+1=S by omega,Nat.mod_self]
   have z1:=(h _ _ (gD ha k1) (gD hb k2)).2 (by rw[D9 k1];exact e)
   rw[e1,z1]
   split
   .rfl
   .rename_i ek;have a1:0<a:=vW (fun q=>ek (by rw[q];simp))
    have hc:a*S+0-1=(a-1)*S+(S-1):=by
     have:a*S=(a-1)*S+S:=by
      rw[<-ybS];congr 1;omega
     omega
    rw[hc];exact (h _ _ (gD (by omega) (by omega)) (gD hb l2)).2 (by rw[D9 (by omega)];omega)
 .unfold pI v3;rw[yad,yaW]
  split
  .rfl
  .rename_i ek;have a1:0<a:=vW (fun q=>ek (by rw[q];simp))
   have hc:a*S+0-1=(a-1)*S+(S-1):=by
    have:a*S=(a-1)*S+S:=by
     rw[<-ybS];congr 1;omega
    omega
   rw[hc];exact (h _ _ (gD (by omega) (by omega)) (gD hb (by omega))).2 (by rw[D9 (by omega)];omega)
theorem ace(ha:a<C)(hb:b<R):sF (v3 v) a b S=sF v a b S/\sX (v3 v) a b S=sX v a b S+2*sF v a b S/\sY (v3 v) a b S=sY v a b S:=by
 have BI:=fun t=>axi h hS ha hb (t:=t)
 have fK:∀n,S*S=n+1->pI v a b S n=0:=fun n hn=>(h.px ha hb (by omega)).2.1 (by rw[(arn hS hn).1];omega)
 have step:∀t,t+1<S*S->t%S<S-1->(t+1)%S=t%S+1/\(t+1)/S=t/S:=fun t ht e=>by
  have e1:(t+1)%S=t%S+1:=by rw[yav,yF (show 1<S by omega),yF (by omega)]
  refine⟨e1,?_⟩;have a1:=xz t S;have a2:=xz (t+1) S;rw[e1] at a2
  have:S*((t+1)/S)=S*(t/S):=by omega
  exact yaK (by omega) this
 refine⟨RE (BI 0).2 (fun t ht=>(BI t).1 ht) fK,?_,?_⟩
 .have e:sX v a b S+2*sF v a b S=dC (fun t=>pI v a b S t*(2*((t%S:Nat):Int)+1-S)+2*pI v a b S t) (S*S):=by
   rw[SQ,FJ];rfl
  rw[e];refine RE (by rw[(BI 0).2,ycL]) (fun t ht=>?_) (fun n hn=>by rw[fK n hn];simp)
  rw[(BI t).1 ht];by_cases e:t%S<S-1
  .rw [(step t ht e).1,th]
   grind
  .rw [(h.px ha hb (by omega)).2.1 e];simp
 .refine RE (by rw[(BI 0).2,ycL]) (fun t ht=>?_) (fun n hn=>by rw[fK n hn];simp)
  rw[(BI t).1 ht];by_cases e:t%S<S-1
  .rw [(step t ht e).2]
  .rw [(h.px ha hb (by omega)).2.1 e];simp
end
def Tq(v:Nat->Nat->Int)(a b S:Nat):sF (v2 v) a b S=2*sF v a b S/\sX (v2 v) a b S=2*sX v a b S/\sY (v2 v) a b S=2*sY v a b S:=by
 refine⟨FJ _,?_,?_⟩
 .unfold sX;rw[<-FJ];exact nM fun t _=>by unfold pI v2;grind
 .unfold sY;rw[<-FJ];exact nM fun t _=>by unfold pI v2;grind
def ac4{v:Nat->Nat->Int}{a b S:Nat}(hS:0<S)(h:¬(a=0/\b=0)):sF (v4 v) a b S=sF v a b S/\sX (v4 v) a b S=sX v a b S/\sY (v4 v) a b S=sY v a b S:=by
 have e:∀t,pI (v4 v) a b S t=pI v a b S t:=fun t=>by
  unfold pI v4;rw[yz];rintro⟨h1,h2⟩;refine h ⟨?_,?_⟩
  .have:a*S=0:=(ybp.1 h1).1
   rcases ybU.1 this with q | q
   .exact q
   .omega
  .have:b*S=0:=(ybp.1 h2).1
   rcases ybU.1 this with q | q
   .exact q
   .omega
 exact⟨nM fun t _=>e t,nM fun t _=>by rw[e t],nM fun t _=>by rw[e t]⟩
def acf{v:Nat->Nat->Int}{S:Nat}(hS:2<=S):sF (v4 v) 0 0 S=sF v 0 0 S+7/\sX (v4 v) 0 0 S=sX v 0 0 S+7*(1-S)/\sY (v4 v) 0 0 S=sY v 0 0 S+7*(1-S):=by
 obtain⟨n,hn⟩:∃n,S*S=n+1:=⟨S*S-1,by have:=vv (show 0<S by omega) (show 0<S by omega);omega⟩;have e0:pI (v4 v) 0 0 S 0=pI v 0 0 S 0+7:=by
  unfold pI v4;simp
 have e:∀t,t<n->pI (v4 v) 0 0 S (t+1)=pI v 0 0 S (t+1):=fun t ht=>by
  unfold pI v4;rw[yz];rintro⟨h1,h2⟩
  have:=xz (t+1) S
  rw[vh,yd] at h1 h2;rw[h1,h2] at this;simp at this
 have z1:(0:Nat)%S=0:=yad S;have z2:(0:Nat)/S=0:=yaW S;refine⟨?_,?_,?_⟩
 .unfold sF
  rw[hn,BO,BO,e0,nM (g:=fun t=>pI v 0 0 S (t+1)) (fun t ht=>e t ht)];omega
 .unfold sX
  rw[hn,BO,BO,e0,nM (g:=fun t=>pI v 0 0 S (t+1)*(2*(((t+1)%S:Nat):Int)+1-S)) (fun t ht=>by rw[e t ht]),z1];simp only[ybM,ycI,ycH]
  grind
 .unfold sY
  rw[hn,BO,BO,e0,nM (g:=fun t=>pI v 0 0 S (t+1)*(2*(((t+1)/S:Nat):Int)+1-S)) (fun t ht=>by rw[e t ht]),z2];simp only[ybM,ycI,ycH]
  grind
def axj{v:Nat->Nat->Int}{C R S:Nat}(h:Gv v C R S)(hS:3<=S)(hC:0<C)(hR:0<R):(1-(S:Int))*sF v 0 0 S<sX v 0 0 S:=by
 have e:sX v 0 0 S-(1-(S:Int))*sF v 0 0 S=dC (fun t=>pI v 0 0 S t*(2*((t%S:Nat):Int))) (S*S):=by
  unfold sX sF;rw[<-FJ]
  have:=SQ (f:=fun t=>pI v 0 0 S t*(2*((t%S:Nat):Int))) (g:=fun t=>(1-(S:Int))*pI v 0 0 S t) (S*S)
  rw[nM (g:=fun t=>pI v 0 0 S t*(2*((t%S:Nat):Int))+(1-(S:Int))*pI v 0 0 S t) (fun t _=>by grind),this];omega
 have hN:1<S*S:=by
  have:=yS hS hS
  omega
 have rm:∀t,t<S*S->0<=pI v 0 0 S t*(2*((t%S:Nat):Int)):=fun t ht=>Int.mul_nonneg (h.px hC hR ht).2.2 (by omega)
 have h1:=Tp rm hN;have m1:1%S=1:=yF (by omega);have h2:=(h.px hC hR hN).1 (by rw[m1];omega);simp only[m1] at h1;omega
section
variable {F:List (List Nat)}{C R S:Nat}
def avq:∀c:Fin 1025,gG (fb (c.val:Int))=ydh/\fb (c.val:Int)<4294967296:=by decide+kernel
def aro{z:Int}(h:0<=z/\z<=1024):gG (fb z)=ydh/\fb z<4294967296:=by
 have e:=avq ⟨z.toNat,by omega⟩
 rwa[show ((⟨z.toNat,by omega⟩:Fin 1025).val:Int)=z from wZ h.1] at e
def axk{z:Int}(h:0<=z/\z<=1024):fq (fb z)=(z:Rat):=by rw[aer (awZ (by omega))];exact ara z
def av(B:List (List Int))(c r:Nat):Int:=(B.getD r []).getD c 0
structure pk(B:List (List Int))(n m:Nat):Prop where
 len:B.length=n
 row:∀b,b∈B->b.length=m/\∀z,z∈b->0<=z/\z<=1024
def cZ(B:List (List Int)):List (List Nat):=B.map fun b=>b.map fb
section
variable {B:List (List Int)}{n m:Nat}(h:pk B n m)
include h
theorem pk.ok:oL (cZ B) n m:=by
 refine⟨by simp[cZ,h.len],fun r hr=>?_,fun r hr b hb=>?_⟩
 .obtain ⟨b,hb,rfl⟩:=xM.1 hr;rw[yL];exact (h.row b hb).1
 .obtain ⟨a,ha,rfl⟩:=xM.1 hr;obtain⟨z,hz,rfl⟩:=xM.1 hb;exact aro ((h.row a ha).2 z hz)
theorem pk.at{c r:Nat}(hc:c<m)(hr:r<n):∃(h1:r<B.length) (h2:c<B[r].length),av B c r=B[r][c]/\0<=av B c r/\av B c r<=1024:=by
 have h1:r<B.length:=by rw[h.len];exact hr
 obtain⟨e,k⟩:=h.row _ (xk h1);have h2:c<B[r].length:=by rw[e];exact hc
 have ea:av B c r=B[r][c]:=by
  unfold av;simp only[yD,yN h1,yN h2,xF]
 refine⟨h1,h2,ea,?_⟩;rw[ea];exact k _ (xk h2)
theorem pk.lF{c r:Nat}(hc:c<m)(hr:r<n):lF (cZ B) c r=(av B c r:Rat):=by
 obtain⟨h1,h2,e,k⟩:=h.at hc hr;obtain⟨q1,q2,q3,_⟩:=h.ok.at hr hc;rw[q3]
 have:(cZ B)[r][c]=fb B[r][c]:=by simp[cZ]
 rw[this,e];rw[e] at k;exact axk k
end
def pk.ints{B:List (List Int)}(h:pk B (R*S) (C*S)):ES (VE.lF (cZ B)) (av B) C R S:=fun c r hc hr=>by
 obtain⟨_,_,_,k⟩:=h.at hc hr;exact⟨h.lF hc hr,k⟩
def arp(a:List Int):fC (mg fb a) (a.map fb):=.inr ⟨ydh,by
 unfold mg;rw[aoG]
 have:(bY (a.map fb)).length=a.length:=by simp
 rw[this]⟩
def acg:∀B:List (List Int),jL fC (B.map (mg fb)) (cZ B)
 | []=>trivial
 | b::B=>⟨arp b,acg B⟩
def SS(e:Bool)(B:List (List Int)):eP fC (.au e B.length (B.map (mg fb))) (cZ B):=by
 have h:=SF (p:=fC) e (acg B)
 rwa[show (cZ B).length=B.length by simp[cZ]] at h
def Nq:∀{l:List Int},(∀x,x∈l->x=0)->cD l=0
 | [],_=>rfl
 | x::l,h=>by
  simp only[cD];rw[yP (h x (by simp)),Nq fun y hy=>h y (by simp[hy])]
def ac5(c1:1<=C)(c8:C<=8)(r1:1<=R)(r8:R<=8)(s2:2<=S)(s8:S<=8):ot C R S=0:=by
 unfold ot nG;rw[yz (by omega),yz (by omega),yz (by omega)];rfl
def avr{n m:Nat}(h:oL F n m):EP n m F=0:=by
 unfold EP;rw[yP h.len];refine Nq fun x hx=>?_
 obtain⟨r,hr,rfl⟩:=xM.1 hx;have hb:Bl r=ydi:=by
  unfold Bl;rw[uf];intro b hb;rw[(h.fin r hr b hb).1];simp
 unfold Fp;rw[yP (h.row r hr),hb];rfl
def aeD(c1:1<=C)(c8:C<=8)(r1:1<=R)(r8:R<=8)(s2:2<=S)(s8:S<=8)(h:oL F (R*S) (C*S)):p7 C R S F=0:=by
 unfold p7;rw[ac5 c1 c8 r1 r8 s2 s8,yP rfl];exact avr h
noncomputable def nl(v:Nat->Nat->Int)(C R S:Nat):List Rat:=(wF (C*R)).map fun k=>((sF v (k%C) (k/C) S:Int):Rat)
section
variable {P:aF}{L:Lib}{v:AV}{B:List (List Int)}{C R S:Nat}
def Nr(hB:pk B (R*S) (C*S))(c8:C<=8)(r8:R<=8)(s8:S<=8):(cZ B).length<=1000000/\(∀r,r∈cZ B->r.length<=1000000)/\∀r,r∈cZ B->∀b,b∈r->b<4294967296:=by
 have b1:R*S<=64:=yS r8 s8;have b2:C*S<=64:=yS c8 s8;exact⟨by rw[hB.ok.len];omega,fun r hr=>by rw[hB.ok.row r hr];omega,fun r hr b hb=>(hB.ok.fin r hr b hb).2⟩
def Oc(h:Ctd P L)(hv:eP fC v (cZ B))(hB:pk B (R*S) (C*S))(c1:1<=C)(c8:C<=8)(r1:1<=R)(r8:R<=8)(s2:2<=S)(s8:S<=8)(h0:∀a b,a<C->b<R->0<sF (av B) a b S):∃w,ah P L 654 [.agg [aa C,aa R,aa S],v] (.ax [w,aa 0])/\jk w (gg (av B) C R S):=by
 obtain⟨l1,l2,l3⟩:=Nr hB c8 r8 s8;obtain⟨w,e,hw⟩:=azP h (C:=C) (R:=R) (S:=S) hv l1 l2 l3;have hc:=aeD c1 c8 r1 r8 s2 s8 hB.ok;obtain⟨k1,k2⟩:=arm hB.ints s8 h0;have e1:QN C R S (cZ B)=0:=by
  unfold QN;rw[yP hc];exact k1
 have e2:QO C R S (cZ B)=gg (av B) C R S:=by
  unfold QO;rw[yP hc];exact k2
 rw[e1] at e;rw[e2] at hw;exact⟨w,e,hw⟩
def ac6(h:XN P L)(hv:eP fC v (cZ B))(hB:pk B (R*S) (C*S))(c1:1<=C)(c8:C<=8)(r1:1<=R)(r8:R<=8)(s2:2<=S)(s8:S<=8):∃w,ah P L 653 [.agg [aa C,aa R,aa S],v] (.ax [w,aa 0])/\kj w ((nl (av B) C R S).map RT):=by
 obtain⟨l1,l2,l3⟩:=Nr hB c8 r8 s8;obtain⟨w,e,hw⟩:=azS h (C:=C) (R:=R) (S:=S) hv l1 l2 l3;have hc:=aeD c1 c8 r1 r8 s2 s8 hB.ok;have hq:nK (cZ B) C R S=nl (av B) C R S:=by
  unfold nK nl;refine vT fun k hk=>?_
  obtain⟨l1,l2⟩:=mQ (wL.1 hk);rw[<-aeB hB.ints l1 l2]
 have hb:(nl (av B) C R S).any LG=ydi:=by
  rw[uf];intro x hx;obtain⟨k,hk,rfl⟩:=xM.1 hx;obtain⟨l1,l2⟩:=mQ (wL.1 hk);rw[UA (fO (FK hB.ints s8 l1 l2).1) (by decide)];simp
 have e1:ID C R S (cZ B)=0:=by
  unfold ID;rw[yP hc];show (if (nK (cZ B) C R S).any LG=ydh then (4:Int) else 0)=0
  rw[hq,hb];rfl
 have e2:QR C R S (cZ B)=(nl (av B) C R S).map RT:=by
  unfold QR;rw[yP e1];show (nK (cZ B) C R S).map RT=_
  rw[hq]
 rw[e1] at e;rw[e2] at hw;exact⟨w,e,hw⟩
end
end
section
variable {C R S:Nat}
def mh(v:Nat->Nat->Int)(C S k:Nat):Rat:=(sX v (k%C) (k/C) S:Rat)/2/(sF v (k%C) (k/C) S:Rat)
def As(v:Nat->Nat->Int)(C S k:Nat):Rat:=(sY v (k%C) (k/C) S:Rat)/2/(sF v (k%C) (k/C) S:Rat)
def iq{v:Nat->Nat->Int}:(gg v C R S).length=C*R:=by simp[gg]
def FL{v:Nat->Nat->Int}{k:Nat}(hk:k<(gg v C R S).length):(gg v C R S)[k]=(RT (mh v C S k),RT (As v C S k)):=by simp[gg,mh,As]
def I8{v:Nat->Nat->Int}:((nl v C R S).map RT).length=C*R:=by simp[nl]
def aoI{v:Nat->Nat->Int}{k:Nat}(hk:k<((nl v C R S).map RT).length):((nl v C R S).map RT)[k]=RT ((sF v (k%C) (k/C) S:Int):Rat):=by simp[nl]
def Od(fv wa wc wf wd:AV)(N i:Nat):Env:=[(2,.ptr 0 0),(5,fv),(13,.ptr 1 0),(14,wa),(18,wc),(20,wf),(22,wd),(218,aa N),(219,aa i)]
def pc(C R S:Nat):Hp:=[(1,eG C R S),(0,eG C R S)]
def avt(h:Rn P L){fv wa wc wf wd:AV}{v:Nat->Nat->Int}(hG:Gv v C R S)(c1:1<=C)(c8:C<=8)(r8:R<=8)(hS:2<=S)(s8:S<=8){q:Nat->Nat->Rat}(hI:ES q v C R S)(pf:aW fv=ydh)(ha:jk wa (gg v C R S))(hc:jk wc (gg (v3 v) C R S))(hf:kj wf ((nl v C R S).map RT))(hd:kj wd ((nl (v2 v) C R S).map RT)):
  en P L [2,5,13,14,18,20,22,218,219] JQ (fun d st=>∃i,i+d=C*R/\st=⟨Od fv wa wc wf wd (C*R) i,pc C R S,2,0⟩) (fun ex s'=>∃tm ct,s'=⟨tm,pc C R S,ct,0⟩/\ex=.exit 4/\bE tm [2,5,13,14]=[(2,.ptr 0 0),(5,fv),(13,.ptr 1 0),(14,wa)]):=by
 apply eB;rintro d st ⟨i,hid,rfl⟩;have Fm:C*R<=64:=yS c8 r8;by_cases hi:i<C*R
 .left
  obtain⟨l1,l2⟩:=mQ hi;have iZ:=hG.pos hS l1 l2;obtain⟨t1,t2,t3⟩:=ace hG hS l1 l2;obtain⟨u1,_,_⟩:=Tq v (i%C) (i/C) S;obtain⟨k1,k2,k3⟩:=FK hI s8 l1 l2;have kx:Hq 120 (mh v C S i):=((fO k2).div (fO (z:=2) (by decide))).div (fO k1);have ek:((sF v (i%C) (i/C) S:Int):Rat)≠0:=fun e=>by
   have:=ua.1 e
   omega
  have ex3:mh (v3 v) C S i=mh v C S i+1:=by
   unfold mh;rw[t1,t2,yay,vn]
   grind
  have ey3:As (v3 v) C S i=As v C S i:=by
   unfold As;rw[t1,t3]
  obtain⟨ra,ea⟩:=ha.bh (i:=i) (by rw[iq];exact hi)
  obtain⟨rc,ec⟩:=hc.bh (i:=i) (by rw[iq];exact hi)
  have ef:=hf.bh (i:=i) (by rw[I8];exact hi)
  have ed:=hd.bh (i:=i) (by rw[I8];exact hi)
  have ga:=FL (v:=v) (C:=C) (R:=R) (S:=S) (k:=i) (by rw[iq];exact hi)
  have gc:=FL (v:=v3 v) (C:=C) (R:=R) (S:=S) (k:=i) (by rw[iq];exact hi)
  rw[ex3,ey3] at gc;rw[ga] at ea;rw[gc] at ec;rw[aoI] at ef ed;have e1:=awU h.toRp kx (fO (z:=1) (by decide)) (by decide);have e2:=awT h (fO (z:=2) (by decide)) (fO k1) (by decide);have sS:((2:Int):Rat)*((sF v (i%C) (i/C) S:Int):Rat)=((sF (v2 v) (i%C) (i/C) S:Int):Rat):=by rw[u1,vn]
  rw[sS] at e2;rw[show RT ((1:Int):Rat)=[49] from ay7,show mh v C S i+((1:Int):Rat)=mh v C S i+1 from rfl] at e1;rw[show RT ((2:Int):Rat)=[50] from auQ] at e2;unfold ah at e1 e2;have Mi:∀(hp:Hp) (a b:AV) (r:List AV),fL hp 2 ydh (.bq (a::b::r))=Ft (.agg [a,b]):=fun _ _ _ _=>rfl
  have lh:∀a b:List Nat,jo (.ag [2,2]) (.agg [.str a,.str b]) (.agg [.str a,.str b])=Ft ydh:=fun a b=>by
   have:=V4 (a,b) (a,b)
   rw[Jh rfl,Jh rfl] at this;exact this
  generalize RT (mh v C S i+1)=w1 at*
  generalize RT (mh v C S i)=w2 at*
  generalize RT (As v C S i)=w3 at*
  generalize RT ((sF (v2 v) (i%C) (i/C) S:Int):Rat)=w4 at*
  generalize RT ((sF v (i%C) (i/C) S:Int):Rat)=w5 at*
  have An:∀(a:AV) (r:List AV),Cj 2 1 0 (.bq (a::r))=Ft (.bq (a::r)):=fun _ _=>rfl
  have Ah:∀(a b:AV) (r:List AV),Cj 2 1 1 (.bq (a::b::r))=Ft (.bq (b::r)):=fun _ _ _=>rfl
  have azV:∀a:List Nat,binOp .neq (.str a) (.str a)=Ft (.bool ydi):=fun a=>by
   show Ft (AV.bool (!dh a a))=_
   rw[Jh rfl];rfl
  have bV:∀(tm:Env) (a:List Nat) (r:List (Nat×Nat×X)),kP tm [.str [],.str []] 0 1 [.str a] r=fill tm [.str a,.str []] r:=fun tm a r=>by
   rw[FP (by simp) rfl];rfl
  have azW:∀(tm:Env) (a b:List Nat) (r:List (Nat×Nat×X)),kP tm [.str a,.str []] 1 1 [.str b] r=fill tm [.str a,.str b] r:=fun tm a b r=>by
   rw[FP (by simp) rfl];rfl
  simp only[go_sem,ya,JQ,Od,show (i:Int)<((C*R:Nat):Int) by omega,ea,ec,ef,ed,Mi,An,Ah,yx,yM,e1,e2,bV,azW,lh,show Ba ydh (Ft ydh)=Ft (AV.bool ydi) from rfl,azV];refine⟨_,d-1,rfl,by omega,i+1,by omega,?_⟩;rw[wrap64 (by omega) (by omega)];simp only[go_sem,ya,yc,aA,pc,eG,aE pf,aE ha.pu,aE hc.pu,aE hf.pu,aE hd.pu]<;>rfl
 .right
  have cN:i=C*R:=by omega
  subst cN;simp only[go_sem,ya,JQ,Od,show ¬((C*R:Nat):Int)<((C*R:Nat):Int) by omega];exact⟨_,_,rfl,by simp,_,_,rfl,rfl,by simp only[go_sem,ya]<;>rfl⟩
def Y7{v w:Nat->Nat->Int}(h:∀a b,a<C->b<R->sF v a b S=sF w a b S/\sX v a b S=sX w a b S/\sY v a b S=sY w a b S):gg v C R S=gg w C R S:=by
 unfold gg;refine vT fun k hk=>?_
 obtain⟨l1,l2⟩:=mQ (wL.1 hk);obtain⟨e1,e2,e3⟩:=h _ _ l1 l2;rw[e1,e2,e3]
def ach{v w:Nat->Nat->Int}{a b:Nat}(h:∀c r,c<C*S->r<R*S->v c r=w c r)(ha:a<C)(hb:b<R):sF v a b S=sF w a b S/\sX v a b S=sX w a b S/\sY v a b S=sY w a b S:=by
 have e:∀t,t<S*S->pI v a b S t=pI w a b S t:=fun t ht=>h _ _ (gD ha (n9 ht).1) (gD hb (n9 ht).2)
 exact⟨nM e,nM fun t ht=>by rw[e t ht],nM fun t ht=>by rw[e t ht]⟩
def avu{v:Nat->Nat->Int}(h0:∀a b,a<C->b<R->0<sF v a b S):gg (v2 v) C R S=gg v C R S:=by
 unfold gg;refine vT fun k hk=>?_
 obtain⟨l1,l2⟩:=mQ (wL.1 hk);obtain⟨e1,e2,e3⟩:=Tq v (k%C) (k/C) S;have ek:((sF v (k%C) (k/C) S:Int):Rat)≠0:=fun e=>by
  have:=ua.1 e
  have:=h0 _ _ l1 l2
  omega
 rw[e1,e2,e3,vn,vn,vn];have g:∀x:Rat,((2:Int):Rat)*x/2/(((2:Int):Rat)*((sF v (k%C) (k/C) S:Int):Rat))=x/2/((sF v (k%C) (k/C) S:Int):Rat):=fun x=>by
  have:((2:Int):Rat)=2:=rfl
  rw[this]
  grind
 rw[g,g]
def avv{v:Nat->Nat->Int}(hS:0<S)(hC:0<C):(gg (v4 v) C R S).drop 1=(gg v C R S).drop 1:=by
 apply List.ext_getElem
 .simp [iq]
 .intro i h1 h2;simp only[wD,iq] at h1;rw[ybu,ybu,FL,FL];have ek:¬((1+i)%C=0/\(1+i)/C=0):=by
   rintro⟨q1,q2⟩
   have:=xz (1+i) C
   rw[q1,q2] at this;simp at this;omega
  obtain⟨e1,e2,e3⟩:=ac4 (v:=v) hS ek;unfold mh As;rw[e1,e2,e3]
def arq{v:Nat->Nat->Int}(h:Gv v C R S)(hS:3<=S)(hC:0<C)(hR:0<R):RT (mh (v4 v) C S 0)≠RT (mh v C S 0):=by
 intro e;have e:=auP e;unfold mh at e;rw[yad,yaW] at e;obtain⟨e1,e2,_⟩:=acf (v:=v) (show 2<=S by omega);have hp:=h.pos (show 2<=S by omega) hC hR;have ho:=axj h hS hC hR;rw[e1,e2] at e;have n1:((sF v 0 0 S:Int):Rat)≠0:=fun q=>by
  have:=ua.1 q;omega
 have n2:((sF v 0 0 S+7:Int):Rat)≠0:=fun q=>by
  have:=ua.1 q;omega
 have e4:((sX v 0 0 S+7*(1-S):Int):Rat)*((sF v 0 0 S:Int):Rat)=((sX v 0 0 S:Int):Rat)*((sF v 0 0 S+7:Int):Rat):=by
  generalize ((sX v 0 0 S+7*(1-S):Int):Rat)=a at*
  generalize ((sF v 0 0 S:Int):Rat)=b at*
  generalize ((sX v 0 0 S:Int):Rat)=c at*
  generalize ((sF v 0 0 S+7:Int):Rat)=d at*
  grind
 rw[<-vn,<-vn] at e4;have e5:=Rat.intCast_inj.1 e4;have e6:(1-(S:Int))*sF v 0 0 S=sX v 0 0 S:=by grind
 omega
def getD_map{α β:Type}{f:α->β}{l:List α}{i:Nat}{d:α}{e:β}(h:f d=e):(l.map f).getD i e=f (l.getD i d):=by
 simp only[yD,List.getElem?_map];cases l[i]?<;>simp[h]
def avw(A:List (List Int))(c r:Nat):av (A.map c7) c r=v2 (av A) c r:=by
 show ((A.map c7).getD r []).getD c 0=2*(A.getD r []).getD c 0
 rw[getD_map (f:=c7) (d:=[]) (e:=[]) rfl];unfold c7
 rw[getD_map (f:=(2*·)) (d:=(0:Int)) (e:=(0:Int)) rfl]
section
variable {A:List (List Int)}{C R S:Nat}(hA:A.length=R*S)(ff:∀a,a∈A->j9 S (C*S) (C*S) a)
include hA ff
theorem Er{c r:Nat}(hc:c<C*S)(hr:r<R*S):∃(h1:r<A.length) (h2:c<A[r].length),av A c r=A[r][c]/\j9 S (C*S) (C*S) A[r]:=by
 have h1:r<A.length:=by omega
 have k:=ff _ (xk h1);have h2:c<A[r].length:=by rw[k.len];exact hc
 refine⟨h1,h2,?_,k⟩;unfold av;simp only[yD,yN h1,yN h2,xF]
theorem axl:Gv (av A) C R S:=fun c r hc hr=>by
 obtain⟨h1,h2,e,k⟩:=Er hA ff hc hr;rw[e];exact⟨fun q=>k.on c h2 hc q,fun q=>k.off c h2 (.inr (by omega))⟩
theorem avx{c r:Nat}(hc:c<C*S)(hr:r<R*S):av (A.map dF) c r=v3 (av A) c r:=by
 obtain⟨h1,h2,_,k⟩:=Er hA ff hc hr;have e:av (A.map dF) c r=(dF A[r]).getD c 0:=by
  unfold av
  rw[getD_map (f:=dF) (d:=[]) (e:=[]) rfl]
  congr 2
  simp only[yD,yN h1,xF]
 rw[e];unfold v3 dF;simp only[yD,List.getElem?_take,h2,xQ]
 cases c with
 | zero=>simp
 | succ c=>
  obtain⟨_,h4,e2,_⟩:=Er hA ff (show c<C*S by omega) hr;rw[yz (by omega),vN,e2,List.getElem?_cons_succ,yN h4,xF]
theorem aci:pk A (R*S) (C*S):=⟨hA,fun b hb=>by
 have k:=ff b hb;refine⟨k.len,fun z hz=>?_⟩;obtain⟨j,hj,rfl⟩:=xS.1 hz;by_cases e:j%S<S-1
 .have:=k.on j hj (by rw[k.len] at hj;exact hj) e;omega
 .rw [k.off j hj (.inr (by omega))];omega⟩
theorem My{b:List Int}(hb:b∈A):∀z,z∈b->0<=z/\z<=256:=fun z hz=>by
 have k:=ff b hb;obtain⟨j,hj,rfl⟩:=xS.1 hz;by_cases e:j%S<S-1
 .have:=k.on j hj (by rw[k.len] at hj;exact hj) e;omega
 .rw [k.off j hj (.inr (by omega))];omega
theorem ars:pk (A.map c7) (R*S) (C*S):=⟨by rw[yL,hA],fun b hb=>by
 obtain⟨a,ha,rfl⟩:=xM.1 hb;refine⟨by rw[B5];exact (ff a ha).len,fun z hz=>?_⟩
 obtain⟨y,hy,rfl⟩:=xM.1 hz
 have:=My hA ff ha y hy
 omega⟩
theorem art:pk (A.map dF) (R*S) (C*S):=⟨by rw[yL,hA],fun b hb=>by
 obtain⟨a,ha,rfl⟩:=xM.1 hb;refine⟨by rw[B6];exact (ff a ha).len,fun z hz=>?_⟩
 have:=List.mem_of_mem_take hz
 rcases xI.1 this with rfl | h
 .omega
 .have:=My hA ff ha z h;omega⟩
end
end
def nL.set{hp:Hp}{k:Nat}{W:List Nat}{T:List (List AV)}(h:nL hp k W T){i:Nat}(hi:i<T.length)(c:List AV):nL (aU hp (k+1+i) (.cells ydh ydh ydi 1 c)) k W (T.set i c):=by
 refine⟨by rw[xE];exact h.l,?_,fun j hj=>?_⟩
 .rw [SI (h.r i hi),yz (by omega),xE];exact h.m
 .rw [xE] at hj;rw[SI (h.r i hi),avi];by_cases e:j=i
  .subst e;rw[yP rfl,yP ⟨rfl,hi⟩]
  .rw [yz (by omega),yz (fun q=>e q.1.symm)];exact h.r j hj
def Y8{B:Nat}{J H:Hp}{i j:Nat}{o:Obj}(hJ:∀p,p∈J->B<=p.1)(hi:i<B)(hj:B<=j):ai (aU (J++H) j o) i=ai H i:=by
 rw[MQ,yz (by omega),Y6 hJ hi]
def iR(A:List (List Int)):List (List Int):=A.set 0 ((A.getD 0 []).set 0 (av A 0 0+7))
def aru(φ:Int->Nat)(y:Int)(a:List Int)(A:List (List Int)):vR (fun w r=>AV.au ydi w r) ((((y::a)::A).map fun b=>b.map φ).map wu) (((((y::a)::A).map fun b=>b.map φ).map bY).set 0 (bY (φ (y+7)::a.map φ)))=zg ((((y+7)::a)::A).map fun b=>b.map φ):=by
 rw[<-Tn];rfl
section
variable {A:List (List Int)}{C R S:Nat}(hA:A.length=R*S)(ff:∀a,a∈A->j9 S (C*S) (C*S) a)(hm:0<C*S)(hn:0<R*S)
include hA ff hm hn
theorem avy{c r:Nat}(hc:c<C*S)(hr:r<R*S):av (iR A) c r=v4 (av A) c r:=by
 obtain⟨h1,h2,e,k⟩:=Er hA ff hc hr;obtain⟨g1,g2,e0,k0⟩:=Er hA ff hm hn;have ed:A.getD 0 []=A[0]:=by simp only[yD,yN g1,xF]
 have hl:r<(iR A).length:=by unfold iR;rw[xE];exact h1
 have e2:av (iR A) c r=((iR A)[r]).getD c 0:=by
  unfold av
  congr 1
  simp only[yD,yN hl,xF]
 rw[e2];unfold v4;by_cases lY:r=0
 .subst lY;have e3:(iR A)[0]'hl=(A[0]).set 0 (av A 0 0+7):=by
   simp only[iR,tG,ed]
  rw[e3];have h3:c<((A[0]).set 0 (av A 0 0+7)).length:=by rw[xE];exact h2
  simp only[yD,yN h3,xF];by_cases jO:c=0
  .subst jO
   simp
  .rw [yz (fun q=>jO q.1),ybk (fun q=>jO q.symm),e]
 .rw [yz (fun q=>lY q.2)];have e3:(iR A)[r]'hl=A[r]:=by
   simp only[iR,ybk (fun q=>lY q.symm)]
  rw[e3,e];simp only[yD,yN h2,xF]
theorem arv:pk (iR A) (R*S) (C*S):=⟨by unfold iR;rw[xE,hA],fun b hb=>by
 obtain⟨g1,g2,e0,k0⟩:=Er hA ff hm hn;have ed:A.getD 0 []=A[0]:=by simp only[yD,yN g1,xF]
 unfold iR at hb;rw[ed] at hb;rcases yaC hb with hb | rfl
 .exact (aci hA ff).row b hb
 .refine ⟨by rw[xE];exact k0.len,fun z hz=>?_⟩
  have:=My hA ff (xk g1)
  rcases yaC hz with hz | rfl
  .have:=this z hz;omega
  .rw [e0]
   have:=this _ (xk g2)
   omega⟩
theorem aoJ:∃r0 z,(cZ A).getD 0 []=fb z::r0/\z=av A 0 0/\(0<=z/\z<=256)/\vR (fun w r=>AV.au ydi w r) ((cZ A).map wu) (((cZ A).map bY).set 0 (bY (fb (z+7)::r0)))=zg (cZ (iR A))/\(cZ (iR A)).length=(cZ A).length:=by
 obtain⟨g1,g2,e0,k0⟩:=Er hA ff hm hn;have hs:=My hA ff (xk g1) _ (xk g2);obtain⟨a,A',rfl⟩:∃a A',A=a::A':=by
  cases A with
  | nil=>simp at g1
  | cons a A'=>exact⟨a,A',rfl⟩
 simp only[wz] at g2 e0 hs;obtain⟨y,a',rfl⟩:∃y a',a=y::a':=by
  cases a with
  | nil=>simp at g2
  | cons y a'=>exact⟨y,a',rfl⟩
 simp only[wz] at e0 hs;have hav:av ((y::a')::A') 0 0=y:=e0;have hch:iR ((y::a')::A')=((y+7)::a')::A':=by
  unfold iR;rw[hav];rfl
 have iN:∀B,(cZ B).length=B.length:=fun B=>yL _
 refine⟨a'.map fb,y,rfl,e0.symm,hs,?_,by rw[hch,iN,iN];rfl⟩
 rw[hch];exact aru fb y a' A'
end
def acj{w:AV}{l:List lE}(h:jk w l)(hl:1<=l.length):∃w',(∀(hp:Hp) (tm:Env),fj hp (.sl 2) w tm (Ft (.c (.int .i64 1))) none=Ft w')/\jk w' (l.drop 1):=by
 rcases h with ⟨⟨rfl,h⟩ | ⟨e,rfl⟩,h2⟩
 .have:l=[]:=by simpa using h
  subst this;simp at hl
 .obtain ⟨n,hn⟩:∃n,l.length=n+1:=⟨l.length-1,by omega⟩;refine⟨.au (e&&ym (n+1) (n+1)) (n+1-1) (slice (1*2) ((n+1-1)*2) (l.map mc).flatten),fun hp tm=>?_,?_⟩
  .rw [yL,hn];have e1:yA 1 (n+1)=ydh:=yt (by omega);have e2:yA (n+1) (n+1)=ydh:=yt (yu _);show (bif yA 1 (n+1)&&yA (n+1) (n+1) then _ else none)=_
   rw[e1,e2];rfl
  .cases l with
   | nil=>simp at hn
   | cons p l=>
    have hk:∀q,q∈l.map mc->q.length=2:=fun q hq=>by
     obtain⟨t,_,rfl⟩:=xM.1 hq;rfl
    have rk:=IX hk;simp only[yy,Nat.add_right_cancel_iff] at hn;have CX:slice (1*2) ((n+1-1)*2) ((p::l).map mc).flatten=(l.map mc).flatten:=by
     unfold slice;rw[yZ,List.flatten_cons,vN,show List.drop (1*2) (mc p++(l.map mc).flatten)=(l.map mc).flatten from rfl];rw[yG];rw[rk,yL,hn];exact yu _
    rw[CX,vN,<-hn]
    have:=ab3 (k:=2) (ps:=l.map mc) (e&&ym (l.length+1) (l.length+1)) hk
    rw[yL] at this;exact this
structure NR(P:aF)(L:Lib):Prop where
 f:XN P L
 r:Rn P L
 m:Rm P L
 VU:Has P L 261 O3
 agv:Has P L 634 O9
 EQ:Has P L 639 ED
 PS:Has P L 642 Pa
 CN:Has P L 647 GF
 PR:Has P L 659 Pd
 GZ:Has P L 678 KJ
 Wb:Has P L 761 KM
 Lf:Has P L 766 KN
 aeE:ah P L 637 [] (.bool ydh)
def azX(hp:Hp)(ct id:Nat)(a b c x y z:Int):gm hp ct id 0 3 [aa a,aa b,aa c] (Ft (.cells ydh ydh ydh 3 [aa x,aa y,aa z]))=Ft (.ax [],aU hp id (.cells ydh ydh ydh 3 [aa a,aa b,aa c]),ct):=rfl
def ac7{q:Nat->Nat->Rat}{v:Nat->Nat->Int}{C R S k:Nat}(h:ES q v C R S)(hS:S<=8)(hk:k<C*R):fT (RT (mh v C S k))=0/\fT (RT (As v C S k))=0/\fT (RT ((sF v (k%C) (k/C) S:Int):Rat))=0:=by
 obtain⟨l1,l2⟩:=mQ hk;obtain⟨k1,k2,k3⟩:=FK h hS l1 l2;have h2:Hq 40 ((2:Int):Rat):=fO (z:=2) (by decide);exact⟨TW (((fO k2).div h2).div (fO k1)) (by decide),TW (((fO k3).div h2).div (fO k1)) (by decide),TW (fO k1) (by decide)⟩
def aeF{q:Nat->Nat->Rat}{v:Nat->Nat->Int}{C R S:Nat}(h:ES q v C R S)(hS:S<=8)(Fm:C*R<=64):QI (gg v C R S)=0/\∀p,p∈gg v C R S->p.1.length<=1000000000/\p.2.length<=1000000000:=by
 have hq:∀p,p∈gg v C R S->∃k,k<C*R/\p=(RT (mh v C S k),RT (As v C S k)):=fun p hp=>by
  obtain⟨k,hk,rfl⟩:=xM.1 hp;exact⟨k,wL.1 hk,rfl⟩
 constructor
 .unfold QI;rw[iq,yz (by omega)];refine Nq fun x hx=>?_
  obtain⟨p,hp,rfl⟩:=xM.1 hx;obtain⟨k,hk,rfl⟩:=hq p hp;obtain⟨c1,c2,_⟩:=ac7 h hS hk;show cD [fT (RT (mh v C S k)),fT (RT (As v C S k))]=0
  rw[c1,c2];rfl
 .intro p hp;obtain⟨k,hk,rfl⟩:=hq p hp;obtain⟨l1,l2⟩:=mQ hk;obtain⟨k1,k2,k3⟩:=FK h hS l1 l2;have h2:Hq 40 ((2:Int):Rat):=fO (z:=2) (by decide);have q1:=JW (((fO k2).div h2).div (fO k1));have q2:=JW (((fO k3).div h2).div (fO k1));exact⟨xo q1 (by decide),xo q2 (by decide)⟩
def amr(n:Nat)(H:Hp)(ct:Nat)(xs:List AV):er P L (D P L) H ct .heap (.fn (.f n) [] []) xs=iv P L (D P L) H ct n xs:=by
 simp[er]
def akI(h:NR P L){C R S:Nat}{cv:AV}{cl:List Nat}(gM:Bn cv cl)(c1:1<=C)(c8:C<=8)(r1:1<=R)(r8:R<=8)(s2:2<=S)(s8:S<=8)(jb:QS C R S=ydh):ah P L 761 [.agg [aa C,aa R,aa S],cv] (.bool ydh):=by
 have ea:=h.aeE;have g1:=agu (P:=P) h.agv C R S;have g2:=aeA (P:=P) h.PS h.CN h.GZ C R S;rw[ac5 c1 c8 r1 r8 s2 s8] at g2;rw[jb] at g1;have hRS:R*S<=64:=yS r8 s8;have aEl:1*2<=R*S:=yS r1 s2;have aEm:1*2<=C*S:=yS c1 s2;have Fm:C*R<=64:=yS c8 r8;have aEn:1*1<=C*R:=yS c1 r1;have m1:(R:Int)*(S:Int)=((R*S:Nat):Int):=by rw[xZ]
 have m2:(C:Int)*(R:Int)=((C*R:Nat):Int):=by rw[xZ]
 have key:=avp (P:=P) (L:=L) azU gM s2 s8 c8 c1 r8 r1 (C:=C) (R:=R) rfl;have fz:=ow;have mf:=gM.1.pu;unfold ah at ea g1 g2;unfold ah;rw[aJ h.Wb]
 simp only[go_sem,ya,KM,pJ,yh,jE,fz,g1,g2,xO,bj,yd,yV,m1,wrap64 (n:=((R*S:Nat):Int)) (by omega) (by omega)];generalize hq:D P L (.loop _ D3) _=q;obtain⟨ex,st,rfl,tm,ct,A,rfl,rfl,hA,ff,sT⟩:=bN hq (key (R*S)) ⟨0,0,[],by omega,by omega,rfl,fun a ha=>absurd ha yaj,by
  simp only[go_sem,ya,yc,aA,Ea,Gj,kg,sE,sG,Gr,eG,vj,aE mf]<;>rfl⟩
 have fk:∀ct,br [2,5,6,7] ⟨tm,[(3,.cells ydh ydh ydi 1 (sG fb A)),(2,.cells ydh ydh ydi 1 (sE fb A)),(1,.cells ydh ydh ydi 1 (kg fb A)),(0,eG C R S)],ct,0⟩=⟨[(2,.ptr 0 0),(5,.ap 1 0 (R*S)),(6,.ap 2 0 (R*S)),(7,.ap 3 0 (R*S))],[(3,.cells ydh ydh ydi 1 (sG fb A)),(2,.cells ydh ydh ydi 1 (sE fb A)),(1,.cells ydh ydh ydi 1 (kg fb A)),(0,eG C R S)],4,0⟩:=fun ct=>by
  rw[IG (c':=ct) (tm':=[(2,.ptr 0 0),(5,.ap 1 0 (R*S)),(6,.ap 2 0 (R*S)),(7,.ap 3 0 (R*S))]) (by rw[sT];rfl)]
  simp only[go_sem,ya,yc,aA,eG]
 have z1:=fun (hp:Hp)=>il (hp:=hp) (sz:=1) (k:=R*S) (cs:=kg fb A) ydi (by simp[kg,hA]) (by decide)
 have z2:=fun (hp:Hp)=>il (hp:=hp) (sz:=1) (k:=R*S) (cs:=sE fb A) ydi (by simp[sE,hA]) (by decide)
 have z3:=fun (hp:Hp)=>il (hp:=hp) (sz:=1) (k:=R*S) (cs:=sG fb A) ydi (by simp[sG,hA]) (by decide)
 have i1:eP fC (.au ydi (R*S) (kg fb A)) (cZ A):=by have:=SS ydi A;rwa[hA] at this
 have i2:eP fC (.au ydi (R*S) (sE fb A)) (cZ (A.map c7)):=by
  have:=SS ydi (A.map c7)
  rwa[yL,hA,uA] at this
 have i3:eP fC (.au ydi (R*S) (sG fb A)) (cZ (A.map dF)):=by
  have:=SS ydi (A.map dF)
  rwa[yL,hA,uA] at this
 have hG:=axl hA ff;have rM:=aci hA ff;have QV:=ars hA ff;have hR3:=art hA ff;have iZ:∀a b,a<C->b<R->0<sF (av A) a b S:=fun a b ha hb=>hG.pos s2 ha hb
 have Wc:av (A.map c7)=v2 (av A):=by funext c r;exact avw A c r
 have axm:∀a b,a<C->b<R->0<sF (av (A.map c7)) a b S:=fun a b ha hb=>by
  rw[Wc,(Tq (av A) a b S).1]
  have:=iZ a b ha hb;omega
 have W9:∀a b,a<C->b<R->sF (av (A.map dF)) a b S=sF (v3 (av A)) a b S/\sX (av (A.map dF)) a b S=sX (v3 (av A)) a b S/\sY (av (A.map dF)) a b S=sY (v3 (av A)) a b S:=fun a b ha hb=>ach (fun c r hc hr=>avx hA ff hc hr) ha hb
 have axn:∀a b,a<C->b<R->0<sF (av (A.map dF)) a b S:=fun a b ha hb=>by
  rw[(W9 a b ha hb).1,(ace hG s2 ha hb).1];exact iZ a b ha hb
 obtain⟨bl1,bl2,bl3⟩:=Nr rM c8 r8 s8;obtain⟨dl1,dl2,dl3⟩:=Nr QV c8 r8 s8;obtain⟨x1,ex1,zh,sx1⟩:=agr (P:=P) (L:=L) h.EQ i1 (by rw[rM.ok.len];omega) bl2;obtain⟨x2,XR,ix2,sx2⟩:=agr (P:=P) (L:=L) h.EQ i2 (by rw[QV.ok.len];omega) dl2;obtain⟨wa,e1,ia⟩:=Oc h.f.toCtd zh rM c1 c8 r1 r8 s2 s8 iZ;obtain⟨wb,e2,ib⟩:=Oc h.f.toCtd i2 QV c1 c8 r1 r8 s2 s8 axm;obtain⟨wc,e3,ic⟩:=Oc h.f.toCtd i3 hR3 c1 c8 r1 r8 s2 s8 axn;obtain⟨wf,e4,jf⟩:=ac6 h.f zh rM c1 c8 r1 r8 s2 s8;obtain⟨wd,e5,jd⟩:=ac6 h.f ix2 QV c1 c8 r1 r8 s2 s8;obtain⟨ck1,ck2⟩:=aeF rM.ints s8 Fm;obtain⟨ck3,ck4⟩:=aeF hR3.ints s8 Fm;have e7:=ags h.m h.CN h.Lf ia (by rw[iq];omega) ck2;have e8:=ags h.m h.CN h.Lf ic (by rw[iq];omega) ck4;rw[ck1] at e7;rw[ck3] at e8;have cf:((nl (av A) C R S).map RT).map fT=(nl (av A) C R S).map fun _=>0:=by
  rw[uA];refine vT fun x hx=>?_
  obtain⟨k,hk,rfl⟩:=xM.1 hx;exact (ac7 rM.ints s8 (wL.1 hk)).2.2
 have e9:=awV h.m h.VU jf (by rw[I8];omega) (fun s hs=>by
  obtain⟨x,hx,rfl⟩:=xM.1 hs;obtain⟨k,hk,rfl⟩:=xM.1 hx;obtain⟨l1,l2⟩:=mQ (wL.1 hk)
  have:=JW (fO (FK rM.ints s8 l1 l2).1)
  omega)
 rw[cf,Nq (l:=(nl (av A) C R S).map fun _=>0) (fun x hx=>by obtain⟨_,_,rfl⟩:=xM.1 hx;rfl)] at e9
 rw[Wc,avu iZ] at ib;rw[Y7 W9] at ic;rw[Wc] at jd;have e6:=agt (P:=P) (L:=L) h.PR ia ib (by rw[iq];omega);unfold ah at ex1 XR e1 e2 e3 e4 e5 e6 e7 e8 e9;have la:∀hp,fX hp 1 wa=Ft (.int .i64 (C*R:Nat)):=fun hp=>by have:=ia.len (hp:=hp);rwa[iq] at this
 have lc:∀hp,fX hp 1 wc=Ft (.int .i64 (C*R:Nat)):=fun hp=>by have:=ic.len (hp:=hp);rwa[iq] at this
 have lf:∀hp,fX hp 1 wf=Ft (.int .i64 (C*R:Nat)):=fun hp=>by have:=jf.len (hp:=hp);rwa[I8] at this
 have ld:∀hp,fX hp 1 wd=Ft (.int .i64 (C*R:Nat)):=fun hp=>by have:=jd.len (hp:=hp);rwa[I8] at this
 have hP:∀{w:AV} {l:List lE},jk w l->bF w=w/\∀hp n,freeze (n+1) hp w=Ft (w,hp):=fun hw=>⟨hw.bF,fun hp n=>hw.aj n⟩
 simp only[go_sem,ya,fk];simp only[eG]
 simp only[go_sem,ya,yc,yh,yV,bj,yd,jE,aV,azX,fz,z1,z2,z3,ex1,XR,sx1,sx2,i1.aj,i2.aj,i3.aj,zh.aj,ix2.aj,e1,e2,e3,e4,e5,(hP ia).1,(hP ib).1,(hP ic).1,jf.bF,jd.bF,(hP ia).2,(hP ib).2,(hP ic).2,jf.aj,e6,e7,e8,e9,la,lc,lf,ld,m2,wrap64 (n:=((C*R:Nat):Int)) (by omega) (by omega),yX,xO,show IntKind.wrap .i64 ((0:Int)+0)=0 from rfl];generalize Df:D P L (.loop _ JQ) _=q2;obtain⟨XR,st2,rfl,kU,ct2,rfl,rfl,azY⟩:=bN Df (avt h.r hG c1 c8 r8 s2 s8 rM.ints (fv:=.au ydi (R*S) (kg fb A)) i1.pu ia ic jf jd (C*R)) ⟨0,by omega,by
  simp only[go_sem,ya,yc,aA,Od,pc,eG,aE i1.pu,aE ia.pu,aE ic.pu,aE jf.pu,aE jd.pu]<;>rfl⟩
 have Kn:∀ct,br [2,5,13,14] ⟨kU,pc C R S,ct,0⟩=⟨[(2,.ptr 0 0),(5,.au ydi (R*S) (kg fb A)),(13,.ptr 1 0),(14,wa)],pc C R S,2,0⟩:=fun ct=>by
  refine Eq.trans (IG (c':=ct) (tm':=[(2,.ptr 0 0),(5,.au ydi (R*S) (kg fb A)),(13,.ptr 1 0),(14,wa)]) (by rw[azY];rfl)) ?_
  simp only[go_sem,ya,yc,aA,eG,pc,aE i1.pu,aE ia.pu]
 obtain⟨J,eh,hJ,hM⟩:=axf (P:=P) (L:=L) h.EQ i1 (by rw[rM.ok.len];omega) bl2 (by rw[rM.ok.len];omega) (H:=pc C R S) (B:=2) ⟨by decide,by simp[AR,eG,mu],by decide,by simp[AR,eG,mu],trivial⟩ (by simp[cI,pc,eG,iW,fH]);rw[rM.ok.len] at eh;have ze:0<C*S:=by omega
 have pQ:0<R*S:=by omega
 obtain⟨r0,z,kW,kh,hz3,hz4,hz5⟩:=aoJ hA ff ze pQ;have iN:(cZ A).length=R*S:=rM.ok.len;have azZ:=ark hz3;have hR4:=arv hA ff ze pQ;have i4:eP fC (.au ydi (R*S) (zg (cZ (iR A)))) (cZ (iR A)):=by
  have:=SF ydi (Tm (cZ (iR A)))
  rwa[hz5,iN] at this
 have hc4:∀a b,a<C->b<R->sF (av (iR A)) a b S=sF (v4 (av A)) a b S/\sX (av (iR A)) a b S=sX (v4 (av A)) a b S/\sY (av (iR A)) a b S=sY (v4 (av A)) a b S:=fun a b ha hb=>ach (fun c r hc hr=>avy hA ff ze pQ hc hr) ha hb
 have axo:∀a b,a<C->b<R->0<sF (av (iR A)) a b S:=fun a b ha hb=>by
  rw[(hc4 a b ha hb).1]
  have:=iZ a b ha hb
  by_cases e:a=0/\b=0
  .obtain ⟨rfl,rfl⟩:=e
   rw[(acf (v:=av A) s2).1];omega
  .rw [(ac4 (v:=av A) (by omega) e).1];omega
 obtain⟨wg,Ix,ig⟩:=Oc h.f.toCtd i4 hR4 c1 c8 r1 r8 s2 s8 axo;rw[Y7 hc4] at ig;obtain⟨F0,hF⟩:∃F0,cZ A=(fb z::r0)::F0:=by
  cases hb:cZ A with
  | nil=>rw[hb] at iN;simp at iN;omega
  | cons x F0=>rw[hb] at kW;exact⟨F0,by rw[<-kW];rfl⟩
 have hw:∀i (h1:i<((cZ A).map bY).length) (h2:i<((cZ A).map wu).length),((cZ A).map bY)[i].length=((cZ A).map wu)[i]:=fun i h1 h2=>by
  rw[yah,yah];simp
 have hM4:=hM.set (i:=0) (by rw[yL,iN];omega) (bY (fb (z+7)::r0));obtain⟨L3,Mk,XS⟩:=hM4.aj (n:=995) (fun i h1 h2=>by
  rw[yak]
  split
  .rename_i e;subst e;rw[yah]
   have:(cZ A)[0]'(by rw[iN];omega)=fb z::r0:=by simp only[hF,wz]
   rw[this];simp
  .exact hw i (by rw[xE] at h1;exact h1) h2) (by rw[xE,yL,iN];omega) (by decide)
 rw[xE,yL,iN,hz4] at Mk;rw[xE,yL,iN] at XS;have QW:=hM.r 0 (by rw[yL,iN];omega);have C8:=hM.m;rw[hF] at QW C8;obtain⟨rs,ru⟩:∃rs,iP (kR 2 (((fb z::r0)::F0).map bY).length) (((fb z::r0)::F0).map wu)=.ap 3 0 (r0.length+1)::rs:=⟨_,rfl⟩;rw[ru] at C8;have QW:ai (J++pc C R S) 3=Ft (.cells ydh ydh ydi 1 (.ao .f32 (fb z)::bY r0)):=QW;have rk:∀x,bY (x::r0)=.ao .f32 x::bY r0:=fun _=>rfl
 rw[rk] at Mk XS;have me:ai (J++pc C R S) 0=Ft (eG C R S):=by rw[Y6 hJ (by decide)];rfl
 have Iz:∀o,ai (aU (J++pc C R S) 3 o) 1=Ft (eG C R S):=fun o=>by rw[Y8 hJ (by decide) (by decide)];rfl
 have q0:ai L3 0=Ft (eG C R S):=by
  rw[XS 0 (by decide) (fun i hi=>by omega)];rw[Y8 hJ (by decide) (by decide)];rfl
 have jx1:=fun id (h:0<R*S)=>cA (sz:=1) id 0 h
 have jx2:=fun id=>cA (sz:=1) (n:=r0.length+1) id 0 (Nat.zero_lt_succ _)
 simp only[vh,yW] at jx1 jx2;have asz:cy (.int .i64 0)=Ft 0:=rfl;have Aq:∀b,cellsOf (.ao .f32 b)=[.ao .f32 b]:=fun _=>rfl
 have lg:∀hp,fX hp 1 wg=Ft (.int .i64 (C*R:Nat)):=fun hp=>by have:=ig.len (hp:=hp);rwa[iq] at this
 obtain⟨rg,eg⟩:=ig.bh (i:=0) (by rw[iq];omega);obtain⟨ra,ea0⟩:=ia.bh (i:=0) (by rw[iq];omega);have ne3:3<=S->dh ((gg (v4 (av A)) C R S)[0]'(by rw[iq];omega)).1 ((gg (av A) C R S)[0]'(by rw[iq];omega)).1=ydi:=fun h3=>by
  rw[FL,FL];exact aqs (arq hG h3 (by omega) (by omega))
 have lh:=V4 ((gg (v4 (av A)) C R S)[0]'(by rw[iq];omega)) ((gg (av A) C R S)[0]'(by rw[iq];omega));have Mi:∀(hp:Hp) (a b:AV) (r:List AV),fL hp 2 ydh (.bq (a::b::r))=Ft (.agg [a,b]):=fun _ _ _ _=>rfl
 obtain⟨w1,cu1,XT⟩:=acj ig (by rw[iq];omega);obtain⟨w2,cu2,is2⟩:=acj ia (by rw[iq];omega);rw[avv (by omega) (by omega)] at XT;have QG:=agt (P:=P) (L:=L) h.PR XT is2 (by rw[wD,iq];omega);unfold ah at Ix QG;have Mk:freeze 998 (aU (J++pc C R S) 3 (.cells ydh ydh ydi 1 (.ao .f32 (fb (z+7))::bY r0))) (.ap 2 0 (R*S))=Ft (.au ydi (R*S) (zg (cZ (iR A))),L3):=Mk;generalize (gg (v4 (av A)) C R S)[0]'(by rw[iq];omega)=p1 at*
 generalize (gg (av A) C R S)[0]'(by rw[iq];omega)=p2 at*
 obtain⟨p11,p12⟩:=p1;obtain⟨p21,p22⟩:=p2;simp only[mc] at lh;generalize dh p11 p21=b1 at*
 generalize dh p12 p22=b2 at*
 generalize fb z=bz at*
 generalize fb (z+7)=b7 at*
 have az0:∀(hp:Hp) (ct id:Nat),gm hp ct id 0 1 [.ao .f32 b7] (Ft (.cells ydh ydh ydi 1 (.ao .f32 bz::bY r0)))=Ft (.ax [],aU hp id (.cells ydh ydh ydi 1 (.ao .f32 b7::bY r0)),ct):=fun hp ct id=>by
  have:=qM (hp:=hp) (ct:=ct) (id:=id) (pu:=ydh) (ex:=ydi) (z:=1) (new:=[.ao .f32 b7]) (cs:=.ao .f32 bz::bY r0) (o:=0) (sz:=1) rfl (by simp) rfl
  exact this
 have lA:(0:Nat)<R*S:=pQ;simp only[eG] at q0 me Iz;simp only[go_sem,ya,yc,Kn,amr,eh,C8,QW,az0,azZ,asz,Aq,jx1,jx2,lA,yh,Iz,Mk,Ix,fz,(hP ig).1,jE];have hd:b1=ydh->¬((S:Int)>2):=fun e hh=>by
  have:=ne3 (by omega)
  rw[e] at this;cases this
 cases b1<;>cases b2<;>simp only[go_sem,ya,lg,la,eg,ea0,Mi,lh,show Ba ydi (Ft ydi)=Ft (AV.bool ydi) from rfl,show Ba ydi (Ft ydh)=Ft (AV.bool ydh) from rfl,q0,hd,bj,yd,yh,yV,cu1,cu2,(hP XT).2,(hP is2).2,QG,ea,yX,xO]
def ams(h:NR P L){C R S:Int}{cv:AV}{cl:List Nat}(gM:Bn cv cl):ah P L 761 [.agg [aa C,aa R,aa S],cv] (.bool ydh):=by
 have ea:=h.aeE;have g1:=agu (P:=P) h.agv C R S;have g2:=aeA (P:=P) h.PS h.CN h.GZ C R S
 cases hs:QS C R S with
 | true=>
  by_cases hg:ot C R S=0
  .obtain ⟨hC,hR,hS,c1,c8,r1,r8,s2,s8⟩:=agp hg;generalize C.toNat=c at*
   generalize R.toNat=r at*
   generalize S.toNat=s at*
   subst hC hR hS;exact akI h gM c1 c8 r1 r8 s2 s8 hs
  .rw [hs] at g1;generalize ot C R S=e at*
   unfold ah at ea g1 g2;unfold ah;rw[aJ h.Wb];have fz:=ow;simp only[go_sem,ya,KM,pJ,yh,jE,fz,g1,g2,xO,yd,ea,hg]
 | false=>
  rw[hs] at g1;unfold ah at ea g1;unfold ah;rw[aJ h.Wb];have fz:=ow;simp only[go_sem,ya,KM,pJ,yh,jE,fz,g1,wH,yd,ea]
abbrev agw:Ty:=.cat (.int .i64) (.cat (.int .i64) (.cat (.int .i64) .nil))
abbrev agx:Ty:=.sl (.int .u8)
abbrev JZ:List Ty:=[agw,agx]
def arw{l:List AV}(h:oK agw l):∃c r s:Int,l=[aa c,aa r,aa s]:=by
 obtain⟨_,_,rfl,⟨c,rfl,_⟩,_,_,rfl,⟨r,rfl,_⟩,_,_,rfl,⟨s,rfl,_⟩,rfl⟩:=h;exact⟨c,r,s,rfl⟩
def avz{p:Int}(hp:(Go.Lit.int IntKind.u8 p).wf=ydh):∃n:Nat,p=n/\n<256:=by
 simp only[Go.Lit.wf,ye,tI] at hp;have h1:IntKind.u8.min=0:=rfl;have h2:IntKind.u8.max=255:=rfl;rw[h1,h2] at hp;exact⟨p.toNat,by omega,by omega⟩
def abf:∀{ps:List (List AV)},(∀p,p∈ps->oK (.int .u8) p)->∃l:List Nat,l.length=ps.length/\ps.flatten=oN l/\∀c,c∈l->c<256
 | [],_=>⟨[],rfl,rfl,fun _ h=>by cases h⟩
 | p::ps,h=>by
  obtain⟨z,rfl,hz⟩:=h p wI;obtain⟨n,rfl,hn⟩:=avz hz;obtain⟨l,h1,h2,h3⟩:=abf (ps:=ps) (fun q hq=>h q (xL _ hq));refine⟨n::l,by simp[h1],by simp[h2,oN],fun q hq=>?_⟩;rcases xI.1 hq with rfl | hq
  .exact hn
  .exact h3 q hq
def arx{l:List AV}(h:oK agx l):∃(v:AV) (m:List Nat),l=[v]/\Bn v m:=by
 rcases h with rfl | ⟨x,ps,rfl,h⟩
 .exact ⟨_,[],rfl,rT,fun _ h=>by cases h⟩
 .obtain ⟨m,h1,h2,h3⟩:=abf h;refine⟨_,m,rfl,?_,h3⟩;rw[h2,<-h1]
  have:=Jg x (oN m)
  rwa[show (oN m).length=m.length by simp[oN]] at this
def akJ{P:aF}{L:Lib}(h:NR P L){ls:List (List AV)}(hs:jL oK JZ ls):ah P L 761 (Kj JZ ls) (.bool ydh):=by
 obtain⟨_,_,rfl,h1,h2⟩:=auW hs;obtain⟨c,r,s,rfl⟩:=arw h1;obtain⟨v,m,rfl,hv⟩:=arx h2;exact ams h hv
namespace J2
open Go Go.Proofs
def T:List (Tr bk):=[.n 637 [.o 7 [] (.bool ydh)] .l .l]
def L0:VE.Lib:=N8 (N8 VE.aI 99 NN) 753 GU
def L1:VE.Lib:=OR L0 T 1000
def nu:Nu VE.prog VE.aI:=by
 repeat' (first | rfl | constructor)
def lw:NR VE.prog L1:=by
 repeat' (first | rfl | constructor)
section
variable {W:World}{m:Int}(hm:W.cell? ⟨4,0,none⟩=Ft (.int .i64 m))(ht:Go.Lib.TabIs Tryz.prog W "internal/strconv.uint64pow10" .u64 Go.Lib.pow10Tab)
include hm ht
theorem linked:iw ((J1.O W).zt L1):=by
 have hO:=J1.apo hm ht;have hs:=al8 hO nu rfl rfl rfl ⟨rfl,rfl,rfl⟩ (fn:=Tryz.f174) (c:=CI) Tryz.func174 rfl rfl trivial aoi;have hT:gW (J1.O W) T:=gW.cons (Tr.kw (mD.one (lj.holds hO rfl rfl)) Tr.jJ Tr.jJ) gW.nil;have h1:=ZU hO hs;have h2:=ZU h1 (aqV (O:=(J1.O W).zt _) (n:=753) (fun _ _=>I1 Tryz.func152 rfl (by decide)) Tryz.azb);exact abF h2 hT 1000
theorem law{ls:List (List AV)}(hs:jL oK JZ ls):dZ (J1.O W) 761 (Kj JZ ls) (.bool ydh):=by
 obtain⟨k,hk⟩:=acv (akJ lw hs);exact sound (linked hm ht) hk
end
end J2
end VE
