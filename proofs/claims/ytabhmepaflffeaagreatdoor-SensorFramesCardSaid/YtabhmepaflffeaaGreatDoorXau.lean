import Derived.Test.YtabhmepaflffeaaGreatDoorXat
import Derived.Test.YtabhmepaflffeaaGreatDoorXar
set_option linter.all false
set_option maxRecDepth 100000
open Bool renaming and_eq_true->yf,and_self->vh,eq_iff_iff->yai,not_false->yM,not_true->yL
open Int renaming eq_ofNat_of_zero_le->tJ,natCast_mul->xD,ofNat_tdiv->yab,toNat_natCast->wA
open List renaming append_assoc->xt,cons_append->yI,drop->vP,drop_succ_cons->yk,drop_zero->ye,ext_getElem->ybO,getElem?_eq_some_iff->xM,getElem_map->vm,getElem_replicate->tK,length_append->yO,length_cons->yH,length_eq_zero_iff->ybb,length_map->y5,length_nil->yR,length_replicate->wB,length_singleton->vZ,length_take->yU,map_append->xu,map_cons->xb,map_nil->wO,mem_append->wD,mem_cons->we,mem_cons_of_mem->xr,mem_cons_self->xJ,mem_map->wW,mem_range->tE,nil_append->yN,not_mem_nil->ua,range->wq,range_succ->ycj,replicate->yj,sum_cons->ybB,take_succ_eq_append_getElem->xm,zipWith->uI
open Nat renaming add_comm->yay,add_eq_left->wF,add_le_add_iff_left->wR,add_left_cancel_iff->wC,div_add_mod->xE,div_le_self->wU,le_add_right->ue,le_refl->yz,le_trans->y7,left_eq_add->yaO,mod_lt->xq,mul_comm->xd,mul_le_mul->y8,mul_one->yg,mul_pos->vd,reduceAdd->yb,reduceEqDiff->ya,reduceLT->yv,reduceLeDiff->yh,reduceMul->xy,zero_add->yd
open Option renaming some->GR
open Bool renaming true->ydB,false->ydC
section
set_option maxHeartbeats 4000000
namespace VE
open Go (IntKind)
variable{d v:AV}{dx:Int}{B:List (Int×Int)}{x:Nat}
section
variable {Dk F V:List (List Nat)}{C R S c k r:Nat}
def Uk:List (Int×Int):=[(-1,0),(1,0),(0,-1),(0,1)]
def BI:List AV:=[aa (-1),aa 0,aa 1,aa 0,aa 0,aa (-1),aa 0,aa 1]
def mf(S c r:Nat)(o:Int×Int):Bool:=(decide (0<=((c%S:Nat):Int)+o.1)&&decide (((c%S:Nat):Int)+o.1<S))&&(decide (0<=((r%S:Nat):Int)+o.2)&&decide (((r%S:Nat):Int)+o.2<S))
def GO(S:Nat)(B:List (Int×Int))(c r:Nat)(o:Int×Int):Bool:=mf S c r o&& !du B ((c:Int)+o.1,(r:Int)+o.2)
def cu(S:Nat)(B:List (Int×Int))(c r k:Nat):List (Nat×Nat):=((Uk.take k).filter (GO S B c r)).map fun o=>(((c:Int)+o.1).toNat,((r:Int)+o.2).toNat)
noncomputable def fp(V Dk F:List (List Nat))(S:Nat)(B:List (Int×Int))(c r k:Nat):List Rat:=(cu S B c r k).map fun p=>nP V Dk F p.1 p.2
noncomputable def BJ(V Dk F:List (List Nat))(S:Nat)(B:List (Int×Int))(c r:Nat):Rat:=if (cu S B c r 4).length=0 then 0 else je 0 (fp V Dk F S B c r 4)/(((cu S B c r 4).length:Int):Rat)
noncomputable def jT(V Dk F:List (List Nat))(S:Nat)(B:List (Int×Int))(c r:Nat):Rat:=if du B ((c:Int),(r:Int))=ydB then BJ V Dk F S B c r else nP V Dk F c r
def ais:∀{k:Nat},k<4->∃o:Int×Int,Uk[k]? =GR o/\(∃l,vP (k*2) BI=aa o.1::l)/\(∃l,vP (k*2+1) BI=aa o.2::l)/\(-1<=o.1/\o.1<=1)/\(-1<=o.2/\o.2<=1)
 | 0,_=>⟨_,rfl,⟨_,rfl⟩,⟨_,rfl⟩,by decide,by decide⟩
 | 1,_=>⟨_,rfl,⟨_,rfl⟩,⟨_,rfl⟩,by decide,by decide⟩
 | 2,_=>⟨_,rfl,⟨_,rfl⟩,⟨_,rfl⟩,by decide,by decide⟩
 | 3,_=>⟨_,rfl,⟨_,rfl⟩,⟨_,rfl⟩,by decide,by decide⟩
 | n+4,h=>absurd h (by omega)
def aBw(S:Nat)(B:List (Int×Int))(c r:Nat):cu S B c r 0=[]:=rfl
def ait{o:Int×Int}(h:Uk[k]? =GR o):cu S B c r (k+1)=if GO S B c r o=ydB then cu S B c r k++[(((c:Int)+o.1).toNat,((r:Int)+o.2).toNat)] else cu S B c r k:=by
 obtain⟨hk,rfl⟩:=xM.1 h;unfold cu;rw[xm hk,List.filter_append,xu]
 cases hz:GO S B c r Uk[k] with
 | true=>rw[List.filter_cons_of_pos hz];simp
 | false=>rw[List.filter_cons_of_neg (by simp[hz])];simp
def Hf(S:Nat)(B:List (Int×Int))(c r k:Nat):(cu S B c r k).length<=4:=by
 unfold cu;rw[y5];refine y7 (List.length_filter_le _ _) ?_;rw[yU];exact Nat.min_le_right _ _
def Ta{n:Nat}(h:n<=1000):IntKind.wrap .i64 (n:Int)=(n:Int):=wrap64 (by omega) (by omega)
def akB(hS:0<S)(hc:c<C*S)(h0:0<=((c%S:Nat):Int)+dx)(h1:((c%S:Nat):Int)+dx<S):∃x:Nat,(c:Int)+dx=x/\x<C*S/\x/S=c/S/\((c%S:Nat):Int)+dx=(x%S:Nat):=by
 obtain⟨y,hy⟩:=tJ h0;have e:=xE c S;have hq:c/S<C:=Nat.div_lt_of_lt_mul (by rw[xd];exact hc)
 have Ul:y<S:=by omega
 refine⟨c/S*S+y,?_,HT hq Ul,QA Ul,?_⟩
 .rw [xd] at e;omega
 .rw [Qz Ul];exact hy
def aiu(hS:0<S)(h:(c:Int)+dx=x)(hq:x/S=c/S):0<=((c%S:Nat):Int)+dx/\((c%S:Nat):Int)+dx<S:=by
 have e:=xE c S;have e2:=xE x S;rw[hq] at e2
 have:=xq x hS
 generalize S*(c/S)=q at*
 omega
def Xk{o:Int×Int}(hS:0<S)(hc:c<C*S)(hr:r<R*S)(h:mf S c r o=ydB):∃x y:Nat,(c:Int)+o.1=x/\(r:Int)+o.2=y/\x<C*S/\y<R*S/\x/S=c/S/\y/S=r/S:=by
 unfold mf at h;simp only[yf,xj] at h;obtain⟨x,h1,h2,h3,_⟩:=akB (C:=C) hS hc h.1.1 h.1.2;obtain⟨y,h4,h5,h6,_⟩:=akB (C:=R) hS hr h.2.1 h.2.2;exact⟨x,y,h1,h4,h2,h5,h3,h6⟩
def agT{y:Nat}{o:Int×Int}(hS:0<S)(h1:(c:Int)+o.1=x)(h2:(r:Int)+o.2=y)(h3:x/S=c/S)(h4:y/S=r/S):mf S c r o=ydB:=by
 unfold mf;obtain⟨a1,a2⟩:=aiu hS h1 h3;obtain⟨b1,b2⟩:=aiu hS h2 h4;simp only[yf,xj];exact⟨⟨a1,a2⟩,b1,b2⟩
def agU(hS:0<S)(hc:c<C*S)(hr:r<R*S){p:Nat×Nat}(hp:p∈cu S B c r k):p.1<C*S/\p.2<R*S:=by
 unfold cu at hp;obtain⟨o,ho,rfl⟩:=wW.1 hp;have h2:=(List.mem_filter.1 ho).2;unfold GO at h2;rw[yf] at h2;obtain⟨x,y,e1,e2,l1,l2,_,_⟩:=Xk hS hc hr h2.1;rw[e1,e2];exact⟨l1,l2⟩
def af5{K:Nat}:∀{l:List Rat} {s:Rat} {M:Nat},(∀x,x∈l->Hq K x)->Hq M s->Hq (M+l.length*(K+1)) (je s l)
 | [],s,M,_,hs=>hs.mono (by simp)
 | a::l,s,M,h,hs=>by
  have:=af5 (l:=l) (fun x hx=>h x (xr _ hx)) (hs.add (h a xJ))
  refine Hq.mono (r:=je s (a::l)) this ?_;rw[yH,Nat.add_mul];omega
structure mC(V Dk F:List (List Nat))(C R S:Nat):Prop where
 hV:jI V (R*S) (C*S)
 hD:jI Dk (R*S) (C*S)
 hF:jI F (R*S) (C*S)
 hd:lz F=ydC
def mC.t(h:mC V Dk F C R S)(hc:c<C*S)(hr:r<R*S):Hq 300 (nP V Dk F c r):=(Xj h.hV h.hD h.hF h.hd hr hc).1
def mC.s(h:mC V Dk F C R S)(hS:0<S)(hc:c<C*S)(hr:r<R*S):Hq 1300 (je 0 (fp V Dk F S B c r k)):=by
 have hl:=Hf S B c r k
 refine (af5 (K:=300) (M:=2) (fun x hx=>?_) (aj6.mono (by decide))).mono ?_
 .unfold fp at hx;obtain⟨p,hp,rfl⟩:=wW.1 hx;obtain⟨l1,l2⟩:=agU hS hc hr hp;exact h.t l1 l2
 .unfold fp;rw[y5];omega
def mC.q(h:mC V Dk F C R S)(hS:0<S)(hc:c<C*S)(hr:r<R*S):Hq 1400 (jT V Dk F S B c r):=by
 unfold jT
 split
 .unfold BJ
  split
  .exact aj6.mono (by decide)
  .rename_i hn;have hl:=Hf S B c r 4;exact ((h.s hS hc hr).div (V5 hl)).mono (by decide)
 .exact (h.t hc hr).mono (by decide)
section
variable (tm:Env)(r:List (Nat×Nat×X))(a b:Int)(c0 c1 c2 c3 c4 c5 c6 c7:AV)
def agV:lL tm [c0,c1,c2,c3,c4,c5,c6,c7] 0 2 [aa a,aa b] r=fill tm [aa a,aa b,c2,c3,c4,c5,c6,c7] r:=rfl
def agW:lL tm [c0,c1,c2,c3,c4,c5,c6,c7] 2 2 [aa a,aa b] r=fill tm [c0,c1,aa a,aa b,c4,c5,c6,c7] r:=rfl
def agX:lL tm [c0,c1,c2,c3,c4,c5,c6,c7] 4 2 [aa a,aa b] r=fill tm [c0,c1,c2,c3,aa a,aa b,c6,c7] r:=rfl
def agY:lL tm [c0,c1,c2,c3,c4,c5,c6,c7] 6 2 [aa a,aa b] r=fill tm [c0,c1,c2,c3,c4,c5,aa a,aa b] r:=rfl
end
def rq(C R S:Int)(d f bv:AV):Hp:=[(2,.cells ydB ydB ydB 2 BI),(1,bg d f bv),(0,bG C R S)]
def Ad(v:AV)(c r:Nat)(s:List Nat)(n k:Nat):Env:=[(2,v),(3,aa c),(4,aa r),(5,.ptr 0 0),(6,.ptr 1 0),(11,.str s),(12,aa n),(13,.ay 2 0 4),(14,aa k)]
section
variable {P:aE}{L:Lib}
def azF(h:GL P L){f bv:AV}(hc:j9 d f bv Dk F B)(hv:bi bQ v V)(ok:mC V Dk F C R S)(hC:C<=8)(hR:R<=8)(hS:S<=8)(fe:0<S)(gF:c<C*S)(Ov:r<R*S):
  cG P L [2,3,4,5,6,11,12,13,14] sA (fun n st=>∃k,k+n=4/\st=⟨Ad v c r (RT (je 0 (fp V Dk F S B c r k))) (cu S B c r k).length k,rq C R S d f bv,3,0⟩) (fun ex s'=>∃tm hp ct,s'=⟨tm,hp,ct,0⟩/\ex=.exit 0/\bF tm [11,12]=[(11,.str (RT (je 0 (fp V Dk F S B c r 4)))),(12,aa (cu S B c r 4).length)]):=by
 apply cI;rintro n st ⟨k,p8,rfl⟩;have At:C*S<=64:=y8 hC hS;have rV:R*S<=64:=y8 hR hS;have m0:(C:Int)*(S:Int)=((C*S:Nat):Int):=by rw[xD]
 have m1:(R:Int)*(S:Int)=((R*S:Nat):Int):=by rw[xD]
 have w0:IntKind.wrap .i64 ((C*S:Nat):Int)=((C*S:Nat):Int):=wrap64 (by omega) (by omega);have w1:IntKind.wrap .i64 ((R*S:Nat):Int)=((R*S:Nat):Int):=wrap64 (by omega) (by omega);by_cases hk:k<4
 .left
  obtain⟨o,ho,⟨l0,fm⟩,⟨l1,mL⟩,⟨o1,o2⟩,o3,o4⟩:=ais hk;have hs:=ait (S:=S) (B:=B) (c:=c) (r:=r) ho;have cA:=fun q=>agT (S:=S) (c:=c) (r:=r) (x:=0) (y:=0) (o:=o) fe q
  have Bh:GO S B c r o=(mf S c r o&& !du B ((c:Int)+o.1,(r:Int)+o.2)):=rfl;have hiO:=fun (x y:Nat) h1 h2 h3 h4=>agT (S:=S) (c:=c) (r:=r) (x:=x) (y:=y) (o:=o) fe h1 h2 h3 h4
  have Ow:=fun q=>Xk (C:=C) (R:=R) (o:=o) fe gF Ov q
  clear cA;obtain⟨dx,dy⟩:=o;simp only at*
  have qv:(k:Int)<((4:Nat):Int):=by omega
  have ask:bY (aa k)=GR k:=rfl;have gD:=dd (sz:=2) (n:=4) 2 0 hk;have jk:∀(id p:Nat),sF 2 1 0 (.ptr id p)=GR (.ptr id p):=fun _ _=>rfl
  have mN:∀(id p:Nat),sF 2 1 1 (.ptr id p)=GR (.ptr id (p+1)):=fun _ _=>rfl
  have pY:∀(a:Int) (l:List AV),gY 1 ydC (aa a::l)=GR (aa a):=fun _ _=>rfl
  have wk:IntKind.wrap .i64 ((k:Int)+1)=((k+1:Nat):Int):=wrap64 (by omega) (by omega);have wX:IntKind.wrap .i64 ((c:Int)+dx)=(c:Int)+dx:=wrap64 (by omega) (by omega);have wY:IntKind.wrap .i64 ((r:Int)+dy)=(r:Int)+dy:=wrap64 (by omega) (by omega);have n0:(S:Int)≠0:=by omega
  have wn:IntKind.wrap .i64 (((cu S B c r k).length:Int)+1)=(((cu S B c r k).length+1:Nat):Int):=by
   have:=Hf S B c r k
   exact wrap64 (by omega) (by omega)
  have dc:(c:Int).tdiv (S:Int)=((c/S:Nat):Int):=(yab _ _).symm;have dr:(r:Int).tdiv (S:Int)=((r/S:Nat):Int):=(yab _ _).symm;have hcS:c/S<=64:=y7 (wU _ _) (by omega);have hrS:r/S<=64:=y7 (wU _ _) (by omega);have Um:IntKind.wrap .i64 ((c/S:Nat):Int)=((c/S:Nat):Int):=Ta (by omega);have wdr:IntKind.wrap .i64 ((r/S:Nat):Int)=((r/S:Nat):Int):=Ta (by omega);have skip:mf S c r (dx,dy)=ydC->cu S B c r (k+1)=cu S B c r k/\fp V Dk F S B c r (k+1)=fp V Dk F S B c r k:=fun q=>by
   have e:cu S B c r (k+1)=cu S B c r k:=by rw[hs,Bh,q];rfl
   exact⟨e,by unfold fp;rw[e]⟩
  have Un:∀{a b:Nat},((c:Int)+dx=a->(r:Int)+dy=b->a<C*S->b<R*S->a/S=c/S->b/S=r/S->False)->(c:Int)+dx=a->(r:Int)+dy=b->mf S c r (dx,dy)=ydC:=fun {a b} q e1 e2=>by
   cases hz:mf S c r (dx,dy) with
   | false=>rfl
   | true=>
    obtain⟨x,y,f1,f2,f3,f4,f5,f6⟩:=Ow hz;have ea:x=a:=by omega
    have eb:y=b:=by omega
    subst ea eb;exact absurd (q f1 f2 f3 f4 f5 f6) id
  have ng:((c:Int)+dx<0\/(r:Int)+dy<0)->mf S c r (dx,dy)=ydC:=fun q=>by
   cases hz:mf S c r (dx,dy) with
   | false=>rfl
   | true=>
    obtain⟨x,y,f1,f2,_⟩:=Ow hz;omega
  generalize hX:(c:Int)+dx=X at*
  generalize hY:(r:Int)+dy=Y at*
  by_cases cX:X<0
  .obtain ⟨q1,q2⟩:=skip (ng (.inl cX));simp only[go_sem,ya,sA,Ad,rq,bg,bG,yd,qv,ask,gD,jk,mN,fm,mL,pY,hX,hY,wX,wY,wk,yp,cX];refine⟨_,n-1,rfl,by omega,k+1,by omega,?_⟩;rw[q1,q2];simp only[go_sem,ya,yb,aq,aD hv.pu]<;>rfl
  .obtain ⟨x,rfl⟩:=tJ (show 0<=X by omega);by_cases cY:Y<0
   .obtain ⟨q1,q2⟩:=skip (ng (.inr cY));simp only[go_sem,ya,sA,Ad,rq,bg,bG,yd,qv,ask,gD,jk,mN,fm,mL,pY,hX,hY,wX,wY,wk,yp,yt,cX,cY];refine⟨_,n-1,rfl,by omega,k+1,by omega,?_⟩;rw[q1,q2];simp only[go_sem,ya,yb,aq,aD hv.pu]<;>rfl
   .obtain ⟨y,rfl⟩:=tJ (show 0<=Y by omega);have Uo:(x:Int).tdiv (S:Int)=((x/S:Nat):Int):=(yab _ _).symm;have dy':(y:Int).tdiv (S:Int)=((y/S:Nat):Int):=(yab _ _).symm;have hxS:x/S<=100:=y7 (wU _ _) (by omega);have Ul:y/S<=100:=y7 (wU _ _) (by omega);have wdx:IntKind.wrap .i64 ((x/S:Nat):Int)=((x/S:Nat):Int):=Ta (by omega);have wdy:IntKind.wrap .i64 ((y/S:Nat):Int)=((y/S:Nat):Int):=Ta (by omega);by_cases c1:x<C*S
    .have Gi:¬(x:Int)>=((C*S:Nat):Int):=by omega
     by_cases c2:y<R*S
     .have IK:¬(y:Int)>=((R*S:Nat):Int):=by omega
      by_cases c3:x/S=c/S
      .by_cases c4:y/S=r/S
       .have hI:mf S c r (dx,dy)=ydB:=hiO x y rfl rfl c3 c4;have e1:=akv (P:=P) (L:=L) h.S3 hc (x:Int) (y:Int);have jJ:=hc.fz
        cases hb:du B ((x:Int),(y:Int)) with
        | true=>
         have q1:cu S B c r (k+1)=cu S B c r k:=by rw[hs,Bh,hI,hb];rfl
         have q2:fp V Dk F S B c r (k+1)=fp V Dk F S B c r k:=by unfold fp;rw[q1]
         rw[hb] at e1;unfold ab at e1;simp only[go_sem,ya,sA,Ad,rq,bg,bG,aP,yd,ye,yk,qv,ask,gD,jk,mN,fm,mL,pY,hX,hY,wX,wY,m0,m1,w0,w1,wk,yp,yt,yL,cX,cY,Gi,IK,eP _ _ _ n0,dc,dr,Uo,dy',Um,wdr,c3,c4,lk,jJ,e1];refine⟨_,n-1,rfl,by omega,k+1,by omega,?_⟩;rw[q1,q2];simp only[go_sem,ya,yb,aq,aD hv.pu]<;>rfl
        | false=>
         have q1:cu S B c r (k+1)=cu S B c r k++[(x,y)]:=by rw[hs,Bh,hI,hb];rfl
         have q2:fp V Dk F S B c r (k+1)=fp V Dk F S B c r k++[nP V Dk F x y]:=by unfold fp;rw[q1,xu];rfl
         rw[hb] at e1;have e2:=akw h hc hv ok.hV ok.hD ok.hF ok.hd c2 c1;have e3:=aih h.toRp (ok.s (B:=B) (k:=k) fe gF Ov) (ok.t c1 c2) (by decide);rw[<-aqu,<-q2] at e3;unfold ab at e1 e2 e3;generalize RT (nP V Dk F x y)=u1 at*
         generalize RT (je 0 (fp V Dk F S B c r k))=u2 at*
         simp only[go_sem,ya,sA,Ad,rq,bg,bG,aP,yd,ye,yk,qv,ask,gD,jk,mN,fm,mL,pY,hX,hY,wX,wY,m0,m1,w0,w1,wk,yp,yt,yL,cX,cY,Gi,IK,eP _ _ _ n0,dc,dr,Uo,dy',Um,wdr,c3,c4,lk,jJ,e1,hv.ai,e2,e3,wn];refine⟨_,n-1,rfl,by omega,k+1,by omega,?_⟩;rw[q1,yO,vZ];simp only[go_sem,ya,yb,aq,aD hv.pu]<;>rfl
       .obtain ⟨q1,q2⟩:=skip (Un (a:=x) (b:=y) (fun _ _ _ _ _ z=>c4 z) rfl rfl);simp only[go_sem,ya,sA,Ad,rq,bg,bG,aP,yd,ye,yk,qv,ask,gD,jk,mN,fm,mL,pY,hX,hY,wX,wY,m0,m1,w0,w1,wk,yp,yt,yL,yM,cX,cY,Gi,IK,eP _ _ _ n0,dc,dr,Uo,dy',Um,wdr,wdy,c3,show ¬((y/S:Nat):Int)=((r/S:Nat):Int) by omega];refine⟨_,n-1,rfl,by omega,k+1,by omega,?_⟩;rw[q1,q2];simp only[go_sem,ya,yb,aq,aD hv.pu]<;>rfl
      .obtain ⟨q1,q2⟩:=skip (Un (a:=x) (b:=y) (fun _ _ _ _ z _=>c3 z) rfl rfl);simp only[go_sem,ya,sA,Ad,rq,bg,bG,aP,yd,ye,yk,qv,ask,gD,jk,mN,fm,mL,pY,hX,hY,wX,wY,m0,m1,w0,w1,wk,yp,yt,yM,cX,cY,Gi,IK,eP _ _ _ n0,dc,Uo,Um,wdx,show ¬((x/S:Nat):Int)=((c/S:Nat):Int) by omega];refine⟨_,n-1,rfl,by omega,k+1,by omega,?_⟩;rw[q1,q2];simp only[go_sem,ya,yb,aq,aD hv.pu]<;>rfl
     .obtain ⟨q1,q2⟩:=skip (Un (a:=x) (b:=y) (fun _ _ _ z _ _=>c2 z) rfl rfl);simp only[go_sem,ya,sA,Ad,rq,bg,bG,aP,yd,ye,yk,qv,ask,gD,jk,mN,fm,mL,pY,hX,hY,wX,wY,m0,m1,w0,w1,wk,yp,yt,cX,cY,Gi,show (y:Int)>=((R*S:Nat):Int) by omega];refine⟨_,n-1,rfl,by omega,k+1,by omega,?_⟩;rw[q1,q2];simp only[go_sem,ya,yb,aq,aD hv.pu]<;>rfl
    .obtain ⟨q1,q2⟩:=skip (Un (a:=x) (b:=y) (fun _ _ z _ _ _=>c1 z) rfl rfl);simp only[go_sem,ya,sA,Ad,rq,bg,bG,aP,yd,ye,yk,qv,ask,gD,jk,mN,fm,mL,pY,hX,hY,wX,wY,m0,w0,wk,yp,yt,cX,cY,show (x:Int)>=((C*S:Nat):Int) by omega];refine⟨_,n-1,rfl,by omega,k+1,by omega,?_⟩;rw[q1,q2];simp only[go_sem,ya,yb,aq,aD hv.pu]<;>rfl
 .right
  have hk4:k=4:=by omega
  subst hk4;generalize RT (je 0 (fp V Dk F S B c r 4))=u at*
  simp only[go_sem,ya,sA,Ad,rq,show ¬((4:Nat):Int)<((4:Nat):Int) by omega];exact⟨_,_,rfl,by simp,_,_,_,rfl,rfl,by simp only[go_sem,ya]⟩
def aER(h:GL P L){f bv:AV}(hc:j9 d f bv Dk F B)(hv:bi bQ v V)(ok:mC V Dk F C R S)(hC:C<=8)(hR:R<=8)(hS:S<=8)(fe:0<S)(gF:c<C*S)(Ov:r<R*S):ab P L 682 [.agg [aa C,aa R,aa S],.agg [d,f,bv],v,aa c,aa r] (.str (RT (BJ V Dk F S B c r))):=by
 have eh:=hc.bx;have key:=azF h hc hv ok hC hR hS fe gF Ov;have hl:=Hf S B c r 4;have hz:RT (je 0 (fp V Dk F S B c r 0))=[48]:=by
  rw[show fp V Dk F S B c r 0=[] from rfl];decide
 unfold ab;rw[aB h.rq];simp only[go_sem,ya,yb,xy,yh,YD,fN,eh,agV,agW,agX,agY,cM];generalize hQ:D P L (.loop _ sA) _=Q;obtain⟨ex,st,rfl,tm,hp,ct,rfl,rfl,ew⟩:=bt hQ (key 4) ⟨0,rfl,by rw[hz];simp only[go_sem,ya,yb,aq,Ad,rq,BI,aBw,bg,bG,aD hv.pu]<;>rfl⟩
 have cL:bH [11,12] ⟨tm,hp,ct,0⟩=⟨[(11,.str (RT (je 0 (fp V Dk F S B c r 4)))),(12,aa (cu S B c r 4).length)],[],0,0⟩:=by
  rw[nA (c':=ct) (tm':=[(11,.str (RT (je 0 (fp V Dk F S B c r 4)))),(12,aa (cu S B c r 4).length)]) (by rw[ew];rfl)]
  simp only[go_sem,ya,aq]<;>rfl
 unfold BJ;by_cases h0:(cu S B c r 4).length=0
 .rw [yC h0];rw[h0] at cL;have gE:RT (0:Rat)=[48]:=by decide
  rw[gE];simp only[go_sem,ya,cL,show ((0:Nat):Int)=0 from rfl,yp]
 .rw [yq h0];have e1:=XY h.toRm h.toFy.M6 (n:=((cu S B c r 4).length:Int)) (by omega);have bL:(((cu S B c r 4).length:Int):Rat)≠0:=by exact_mod_cast (show ((cu S B c r 4).length:Int)≠0 by omega)
  have e2:=aij h.toRx0 (ok.s (B:=B) (k:=4) fe gF Ov) (V5 hl) (by decide) bL;unfold ab at e1 e2;simp only[go_sem,ya,cL,show ¬((cu S B c r 4).length:Int)=0 by omega,e1,e2]
end
end
end VE
end
section
set_option maxHeartbeats 4000000
namespace VE
open Go (IntKind)
section
variable {TM:Env}{H:Hp}{N i la lb r wc wr:Nat}{A B:VC}
def Qh{B:Nat}{hp:Hp}{L seen:List Nat}(n:Nat)(h:∀x,x∈L->x<B)(hl:L.length<=90000):qu B hp (n+90001) L seen=seen:=by
 rw[show n+90001=L.length+1+(n+90000-L.length) by omega];exact aeX h
def KS{B:Nat}{s:List Nat}:∀{G:Hp},iY B B G->fZ B (cQ B s) G=G
 | [],_=>rfl
 | (i,o)::r,hb=>by
  rw[agL _ _ _ hb.1,UW (fun x hx=>aio s hx) hb.2.1,KS hb.2.2]
def cO(N wc wr i r:Nat)(G:Hp):Hp:=(N+12,.cells ydB ydB ydB 2 [aa wc,aa wr])::(N+11,.cells ydB ydB ydB 2 [aa i,aa r])::G
def zU(hb:gS (N+10) TM)(bl:iY (N+9) (N+9) H)(st:Nat):iY (N+11) (N+11) (bW A B TM N la lb st H):=
 ⟨by omega,C1 (by omega) hb,by omega,.inl rfl,OU (by omega) (fun _=>UH (by omega)) bl⟩
def FJ(hn:(dw TM).length<=1000)(bl:iY (N+9) (N+9) H)(rl:(cE (N+9) H).length<=1000)(st:Nat):(cE (N+11) (bW A B TM N la lb st H)).length<=2000:=by
 have e:=Qg (show N+9<=N+11 by omega) bl;unfold bW;rw[qR _ _ (show N+10<N+11 by omega),qR _ _ (show N+9<N+11 by omega),e];have h1:dz (.lp TM [79,80] A B st .none)=dw TM:=rfl;have h3:dz (.cells ydB ydB ydB 2 [aa la,aa lb])=[]:=rfl;rw[h1,h3];simp only[yO,yR];omega
def Ri{G:Hp}(h:iY (N+11) (N+11) G):iY (N+13) (N+13) (cO N wc wr i r G):=
 ⟨by omega,.inl rfl,by omega,.inl rfl,OU (by omega) (fun _=>UH (by omega)) h⟩
def Rj{G:Hp}(hb:iY (N+11) (N+11) G)(h:(cE (N+11) G).length<=2000):(cE (N+13) (cO N wc wr i r G)).length<=2000:=by
 unfold cO;rw[qR _ _ (show N+12<N+13 by omega),qR _ _ (show N+11<N+13 by omega),Qg (show N+11<=N+13 by omega) hb];exact h
def Ax(N n:Nat)(jz:List AV)(G:Hp):Hp:=(oC (N+13) n,.cells ydB ydB ydB 2 BI)::oH (N+13) 4 jz G n
def EG(N n k:Nat):Env:=[(3,.ptr 0 0),(10,.ptr 1 0),(13,.ptr 3 0),(14,.ptr 6 0),(18,.ptr (N+11) 0),(19,.ptr (N+12) 0),(20,oV (N+13) n),(100,.ay (oC (N+13) n) 0 4),(101,aa (4:Nat)),(102,aa k)]
section
variable {P:aE}{L:Lib}
def azG(h:Av P L){C R S:Nat}{v d f bv:AV}{V Dk F:List (List Nat)}{Bd E:List (Int×Int)}{M:List (List (Option Rat))}{w0:Bool}(lo0:eA C R S v d f bv E (R*S) (C*S) M w0 (R*S+9) H)(hE:∀q,du E q=du Bd q)(hv:bi bQ v V)(hd:bi bQ d Dk)(hf:bi bQ f F)(ok:mC V Dk F C R S)(hC:C<=8)(hR:R<=8)(hS:S<=8)(fe:0<S)(eW:gS (R*S+10) TM)(hn:(dw TM).length<=1000)(hx:wc<C*S)(hy:wr<R*S)(hi:wc%S=i)(hr:wr%S=r):
  cG P L [3,10,13,14,18,19,20,100,101,102] BZ (fun n st=>∃k w H' jz,k+n=4/\eA C R S v d f bv E (R*S) (C*S) M w (R*S+9) H'/\(∀j,6<=j->ah H' j=ah H j)/\QL jz (fp V Dk F S Bd wc wr k)/\st=⟨EG (R*S) (cu S Bd wc wr k).length k,Ax (R*S) (cu S Bd wc wr k).length jz (cO (R*S) wc wr i r (bW A B TM (R*S) la lb 1 H')),oC (R*S+13) (cu S Bd wc wr k).length+1,R*S+13⟩) (fun ex s'=>∃tm ct w H' jz,s'=⟨tm,Ax (R*S) (cu S Bd wc wr 4).length jz (cO (R*S) wc wr i r (bW A B TM (R*S) la lb 1 H')),ct,R*S+13⟩/\ex=.exit 8/\eA C R S v d f bv E (R*S) (C*S) M w (R*S+9) H'/\(∀j,6<=j->ah H' j=ah H j)/\QL jz (fp V Dk F S Bd wc wr 4)/\bF tm [14,19,20]=[(14,.ptr 6 0),(19,.ptr (R*S+12) 0),(20,oV (R*S+13) (cu S Bd wc wr 4).length)]):=by
 have At:C*S<=64:=y8 hC hS;have rV:R*S<=64:=y8 hR hS;generalize hN:R*S=N at*
 generalize hm:C*S=m at*
 apply cI;rintro n st ⟨k,w,H',jz,p8,lo,hh,zV,rfl⟩;by_cases hk:k<4
 .left
  obtain⟨o,ho,⟨l0,fm⟩,⟨l1,mL⟩,o3,o4⟩:=ais hk;have hs:=ait (S:=S) (B:=Bd) (c:=wc) (r:=wr) ho;have hlen:=Hf S Bd wc wr k;have Bh:GO S Bd wc wr o=(mf S wc wr o&& !du Bd ((wc:Int)+o.1,(wr:Int)+o.2)):=rfl;have Ow:=fun q=>Xk (C:=C) (R:=R) (o:=o) fe (by rw[hm];exact hx) (by rw[hN];exact hy) q
  have hiD:mf S wc wr o=((decide (0<=(i:Int)+o.1)&&decide ((i:Int)+o.1<S))&&(decide (0<=(r:Int)+o.2)&&decide ((r:Int)+o.2<S))):=by unfold mf;rw[hi,hr]
  have IG:jz.length=(cu S Bd wc wr k).length*4:=by rw[zV.len];unfold fp;rw[y5]
  have gM:vP (k*2) BI=aa o.1::aa o.2::vP (k*2+2) BI:=by
   match k,hk,ho with
   | 0,_,e=>cases e;rfl
   | 1,_,e=>cases e;rfl
   | 2,_,e=>cases e;rfl
   | 3,_,e=>cases e;rfl
   | n+4,h,_=>omega
  obtain⟨dx,dy⟩:=o;simp only at o3 o4 gM hs Bh Ow hiD;have gD:=fun id=>dd (sz:=2) (n:=4) id 0 hk
  have pY:∀(a b:Int) (l:List AV),gY 2 ydB (aa a::aa b::l)=GR (.agg [aa a,aa b]):=fun _ _ _=>rfl
  have qv:(k:Int)<((4:Nat):Int):=by omega
  have ask:bY (aa k)=GR k:=rfl;have wk:IntKind.wrap .i64 ((k:Int)+1)=((k+1:Nat):Int):=wrap64 (by omega) (by omega);have hi8:i<S:=by rw[<-hi];exact xq _ fe
  have hr8:r<S:=by rw[<-hr];exact xq _ fe
  have wa:IntKind.wrap .i64 ((i:Int)+dx)=(i:Int)+dx:=wrap64 (by omega) (by omega);have wb:IntKind.wrap .i64 ((r:Int)+dy)=(r:Int)+dy:=wrap64 (by omega) (by omega);have wX:IntKind.wrap .i64 ((wc:Int)+dx)=(wc:Int)+dx:=wrap64 (by omega) (by omega);have wY:IntKind.wrap .i64 ((wr:Int)+dy)=(wr:Int)+dy:=wrap64 (by omega) (by omega);have hb:=Ri (wc:=wc) (wr:=wr) (i:=i) (r:=r) (zU (A:=A) (B:=B) (la:=la) (lb:=lb) eW lo.bl 1);have rJ:=Rj (wc:=wc) (wr:=wr) (i:=i) (r:=r) (zU (A:=A) (B:=B) (la:=la) (lb:=lb) eW lo.bl 1) (FJ (A:=A) (B:=B) (la:=la) (lb:=lb) hn lo.bl lo.rl 1);have oR:=fun x hx=>EP (yz (N+13)) hb x hx
  have o2:=fun s=>KS (s:=s) hb
  have Ox:=fun (hp:Hp) (seen:List Nat) (n:Nat)=>Qh (hp:=hp) (seen:=seen) n oR (y7 rJ (by decide))
  have gG:∀j,j<8->ah (cO N wc wr i r (bW A B TM N la lb 1 H')) j=ah H' j:=fun j hj=>by
   unfold cO bW;rw[eK _ _ (by omega),eK _ _ (by omega),eK _ _ (by omega),eK _ _ (by omega)]
  have Up:ah (cO N wc wr i r (bW A B TM N la lb 1 H')) 0=GR (bG C R S):=by rw[gG 0 (by omega)];exact lo.g0
  have Oy:ah (cO N wc wr i r (bW A B TM N la lb 1 H')) 1=GR (.cells ydB ydC ydB 1 [.map 2]):=by rw[gG 1 (by omega)];exact lo.g1
  have Oz:ah (cO N wc wr i r (bW A B TM N la lb 1 H')) 2=GR (.mp ydB (jK E) (jL E)):=by rw[gG 2 (by omega)];exact lo.g2
  have gG3:ah (cO N wc wr i r (bW A B TM N la lb 1 H')) 3=GR (.cells ydB ydC ydB 1 [GN]):=by rw[gG 3 (by omega)];exact lo.g3
  have Nq:ah (cO N wc wr i r (bW A B TM N la lb 1 H')) (N+11)=GR (.cells ydB ydB ydB 2 [aa i,aa r]):=by
   unfold cO;rw[eK _ _ (by omega),jW]
  have DZ:ah (cO N wc wr i r (bW A B TM N la lb 1 H')) (N+12)=GR (.cells ydB ydB ydB 2 [aa wc,aa wr]):=by
   unfold cO;rw[jW]
  have p0:0<N+13:=by omega
  have p1:1<N+13:=by omega
  have p3:3<N+13:=by omega
  have p6:6<N+13:=by omega
  have GP:N+11<N+13:=by omega
  have EH:N+12<N+13:=by omega
  have EF:=fun (x y:Int)=>X6 ydB x y E
  have skip:GO S Bd wc wr (dx,dy)=ydC->cu S Bd wc wr (k+1)=cu S Bd wc wr k/\fp V Dk F S Bd wc wr (k+1)=fp V Dk F S Bd wc wr k:=fun q=>by
   have e:cu S Bd wc wr (k+1)=cu S Bd wc wr k:=by rw[hs,q];rfl
   exact⟨e,by unfold fp;rw[e]⟩
  have fr:=lo.ai;obtain⟨H4,H1,ph,gC,fa,ZJ⟩:=fr;have hJJ:∀{J:Hp},(∀p:Nat×Obj,p∈J->6<=p.1)->∀p:Nat×Obj,p∈J++[(N+12,.cells ydB ydB ydB 2 [aa wc,aa wr]),(N+11,.cells ydB ydB ydB 2 [aa i,aa r]),(N+10,.lp TM [79,80] A B 1 .none),(N+9,.cells ydB ydB ydB 2 [aa la,aa lb])]->6<=p.1:=fun {J} hJ p hp=>by
   rcases wD.1 hp with hp | hp
   .exact hJ p hp
   .simp only [we,ua,yaA] at hp;rcases hp with rfl | rfl | rfl | rfl<;>simp
  have akC:∀(J:Hp) (n:Nat),(∀p:Nat×Obj,p∈J->6<=p.1)->freeze (n+20) (J++cO N wc wr i r (bW A B TM N la lb 1 H')) (.ptr 4 0)=GR (.bC [v],J++cO N wc wr i r (bW A B TM N la lb 1 H4)):=fun J n hJ=>by
   have:=fa _ n (hJJ hJ)
   rw[xt,xt] at this;exact this
  have aiv:∀(J:Hp) (n:Nat),(∀p:Nat×Obj,p∈J->6<=p.1)->freeze (n+20) (J++cO N wc wr i r (bW A B TM N la lb 1 H4)) (.ptr 5 0)=GR (.bC [d,f,bv],J++cO N wc wr i r (bW A B TM N la lb 1 H1)):=fun J n hJ=>by
   have:=ZJ _ n (hJJ hJ)
   rw[xt,xt] at this;exact this
  generalize hG:cO N wc wr i r (bW A B TM N la lb 1 H')=G at*
  generalize J4:(if (r:Int)+dy<(i:Int)+dx then (r:Int)+dy else (i:Int)+dx)=mn at*
  generalize jS:(if (r:Int)+dy>(i:Int)+dx then (r:Int)+dy else (i:Int)+dx)=mx at*
  have aJs:(if (i:Int)+dx<(r:Int)+dy then (r:Int)+dy else (i:Int)+dx)=mx:=jS;have cA:mf S wc wr (dx,dy)=(decide (mn>=0)&&decide (mx<S)):=by
   rw[hiD,<-J4,<-jS];by_cases q:(r:Int)+dy<(i:Int)+dx
   .rw [yC q,yq (by omega),yai];simp only[yf,xj];omega
   .rw [yq q,yai];by_cases q2:(r:Int)+dy>(i:Int)+dx
    .rw [yC q2];simp only[yf,xj];omega
    .rw [yq q2];simp only[yf,xj];omega
  by_cases c1:mn>=0
  .by_cases c2:mx<S
   .have hI:mf S wc wr (dx,dy)=ydB:=by rw[cA,yZ c1,yZ c2];rfl
    obtain⟨x,y,e1,e2,l1,l2,_,_⟩:=Ow hI;rw[hm] at l1;rw[hN] at l2;rw[e1,e2] at hs Bh;rw[e1] at wX;rw[e2] at wY
    cases ns:du Bd ((x:Int),(y:Int)) with
    | true=>
     have IA:=EF (x:Int) (y:Int);rw[hE,ns] at IA;obtain⟨q1,q2⟩:=skip (by rw[Bh,hI,ns];rfl)
     generalize po:(cu S Bd wc wr k).length=cn at*
     cases cn
     all_goals
      simp only[EG,Ax,oV,oH,oC];simp only[go_sem,ya,yb,yh,BZ,aP,yd,ye,yk,qv,ask,gD,gM,pY,jf,jy,wa,wb,wX,wY,Up,Oy,Oz,Nq,DZ,bG,Fo,fB,EV,fL,J4,jS,KR,Mf,wk,yL,uO,xG,wF,wC,c1,c2,yp,e1,e2,IA];refine⟨_,n-1,rfl,by omega,k+1,w,H',jz,by omega,lo,hh,by rw[q2];exact zV,?_⟩
      rw[q1,po,hG];simp only[go_sem,ya,yb,yh,EW,DY,yI,yN,p0,p1,p3,p6,GP,EH,o2,Ox,ue,wR,uO,xG,wF,yaO]
    | false=>
     have IA:=EF (x:Int) (y:Int);rw[hE,ns] at IA;have q1:cu S Bd wc wr (k+1)=cu S Bd wc wr k++[(x,y)]:=by rw[hs,Bh,hI,ns];rfl
     have q2:fp V Dk F S Bd wc wr (k+1)=fp V Dk F S Bd wc wr k++[nP V Dk F x y]:=by unfold fp;rw[q1,xu];rfl
     obtain⟨z,e3,hz⟩:=akx (bv:=bv) h.toAvg.toCtd.toExc h.S4 hv hd hf (by rw[<-hN,<-hm];exact ok.hV) (by rw[<-hN,<-hm];exact ok.hD) (by rw[<-hN,<-hm];exact ok.hF) ok.hd l2 l1
     have gE:=hz;obtain⟨x1,x2,x3,x4,rfl,g⟩:=hz.gen;have pq:=g.p;have kh:∀(tm:Env) (y1 y2 y3 y4:AV),lL tm [y1,y2,y3,y4] 0 4 [x1,x2,x3,x4] []=GR [x1,x2,x3,x4]:=fun tm y1 y2 y3 y4=>by
      rw[Wl (by rfl) (by simp) g.o];rfl
     have kF:∀(cP pu ex:Bool),Ap 0 1 4 (GR (.cells cP pu ex 4 [x1,x2,x3,x4]))=GR (1,[x1,x2,x3,x4]):=fun _ _ _=>rfl
     have lV:=fun (hp:Hp) (ct id n:Nat) (CH:jz.length=n*4) (hn5:n<=4) (hg:ah hp id=GR (.cells ydB ydB ydC 4 jz))=>gR (ct:=ct) (by':=64) (new:=[x1,x2,x3,x4]) (m:=1) (n:=n) hg CH (by omega) (by omega) (by decide) g.o
     have jh:=Ri (wc:=wc) (wr:=wr) (i:=i) (r:=r) (zU (A:=A) (B:=B) (la:=la) (lb:=lb) eW ph.bl 1);have aES:=Rj (wc:=wc) (wr:=wr) (i:=i) (r:=r) (zU (A:=A) (B:=B) (la:=la) (lb:=lb) eW ph.bl 1) (FJ (A:=A) (B:=B) (la:=la) (lb:=lb) hn ph.bl ph.rl 1);have oR1:=fun x hx=>EP (yz (N+13)) jh x hx
     have o21:=fun s=>KS (s:=s) jh
     have o31:=fun (hp:Hp) (seen:List Nat) (n:Nat)=>Qh (hp:=hp) (seen:=seen) n oR1 (y7 aES (by decide))
     have hdG:=aeV (H:=cO N wc wr i r (bW A B TM N la lb 1 H1)) jh (yz (N+13));generalize hG1:cO N wc wr i r (bW A B TM N la lb 1 H1)=G1 at*
     have J3:=ZD;generalize cO N wc wr i r (bW A B TM N la lb 1 H4)=G4 at*
     have hJ0:∀p:Nat×Obj,p∈[(N+15,Obj.cells ydB ydB ydB 2 [aa x,aa y]),(N+14,.cells ydB ydB ydB 2 [aa dx,aa dy]),(N+13,.cells ydB ydB ydB 2 BI)]->6<=p.1:=fun p hp=>by
      simp only[we,ua,yaA] at hp;rcases hp with rfl | rfl | rfl<;>simp
     have hJ1:∀p:Nat×Obj,p∈[(N+16,Obj.cells ydB ydB ydB 2 [aa x,aa y]),(N+15,.cells ydB ydB ydB 2 [aa dx,aa dy]),(N+14,.cells ydB ydB ydB 2 BI),(N+13,.cells ydB ydB ydC 4 jz)]->6<=p.1:=fun p hp=>by
      simp only[we,ua,yaA] at hp;rcases hp with rfl | rfl | rfl | rfl<;>simp
     have akD:=fun n=>akC _ n hJ0
     have aiw:=fun n=>aiv _ n hJ0
     have Np:=fun n=>akC _ n hJ1
     have aix:=fun n=>aiv _ n hJ1
     simp only[yI,yN] at akD aiw Np aix;unfold GN at gG3;unfold ab at e3;generalize po:(cu S Bd wc wr k).length=cn at*
     cases cn with
     | zero=>
      have zg:jz=[]:=ybb.1 (by simpa using IG);subst zg;simp only[EG,Ax,oV,oH,oC];simp only[go_sem,ya,yb,xy,yv,yh,BZ,aP,yd,ye,yk,qv,ask,gD,gM,pY,jf,jy,wa,wb,wX,wY,Up,Oy,Oz,gG3,Nq,DZ,bG,Fo,fB,EV,fL,J4,jS,KR,Mf,wk,yM,uO,xG,wF,wC,c1,c2,yp,e1,e2,IA,akD,aiw,J3,e3,kh,cM,pq,mP,mO,kF,jm];refine⟨_,n-1,rfl,by omega,k+1,ydC,H1,[]++[x1,x2,x3,x4],by omega,ph,fun j hj=>by rw[gC j hj,hh j hj],by rw[q2];exact zV.snoc gE,?_⟩
      rw[q1,yO,vZ,po,hG1];simp only[go_sem,ya,yb,yh,EW,DY,yI,yN,p0,p1,p3,p6,GP,EH,o21,o31,ue,wR,uO,xG,wF,wC]
     | succ cn=>
      simp only[EG,Ax,oV,oH,oC];have aBx:=fun (hp:Hp) (ct id:Nat) (hg:ah hp id=GR (.cells ydB ydB ydC 4 jz))=>lV hp ct id (cn+1) IG (by omega) hg
      simp only[go_sem,ya,yb,xy,yh,BZ,aP,yd,ye,yk,qv,ask,gD,gM,pY,jf,jy,wa,wb,wX,wY,Up,Oy,Oz,gG3,Nq,DZ,bG,Fo,fB,EV,fL,J4,jS,KR,Mf,wk,yM,uO,xG,wF,wC,c1,c2,yp,e1,e2,IA,Np,aix,J3,e3,kh,cM,pq,mP,mO,kF,aBx,vh];refine⟨_,n-1,rfl,by omega,k+1,ydC,H1,jz++[x1,x2,x3,x4],by omega,ph,fun j hj=>by rw[gC j hj,hh j hj],by rw[q2];exact zV.snoc gE,?_⟩
      rw[q1,yO,vZ,po,hG1];simp only[go_sem,ya,yb,yh,EW,DY,yI,yN,p0,p1,p3,p6,GP,EH,o21,o31,hdG,ue,wR,uO,xG,wF]
   .have hI:mf S wc wr (dx,dy)=ydC:=by rw[cA,yJ c2,Bool.and_false]
    obtain⟨q1,q2⟩:=skip (by rw[Bh,hI];rfl)
    generalize po:(cu S Bd wc wr k).length=cn at*
    cases cn
    all_goals
     simp only[EG,Ax,oV,oH,oC];simp only[go_sem,ya,yb,yh,BZ,aP,yd,ye,yk,qv,ask,gD,gM,pY,jf,jy,wa,wb,wX,wY,Up,Nq,DZ,bG,Fo,fB,EV,fL,J4,jS,wk,uO,xG,wF,wC,c1,c2,yp,yt];refine⟨_,n-1,rfl,by omega,k+1,w,H',jz,by omega,lo,hh,by rw[q2];exact zV,?_⟩
     rw[q1,po,hG];simp only[go_sem,ya,yb,yh,EW,DY,yI,yN,p0,p1,p3,p6,GP,EH,o2,Ox,ue,wR,uO,xG,wF,yaO]
  .have hI:mf S wc wr (dx,dy)=ydC:=by rw[cA,yJ c1,Bool.false_and]
   obtain⟨q1,q2⟩:=skip (by rw[Bh,hI];rfl)
   generalize po:(cu S Bd wc wr k).length=cn at*
   cases cn
   all_goals
    simp only[EG,Ax,oV,oH,oC];simp only[go_sem,ya,yb,yh,BZ,aP,yd,ye,yk,qv,ask,gD,gM,pY,jf,jy,wa,wb,wX,wY,Nq,DZ,Fo,EV,J4,wk,uO,xG,wF,wC,c1,yt];refine⟨_,n-1,rfl,by omega,k+1,w,H',jz,by omega,lo,hh,by rw[q2];exact zV,?_⟩
    rw[q1,po,hG];simp only[go_sem,ya,yb,yh,EW,DY,yI,yN,p0,p1,p3,p6,GP,EH,o2,Ox,ue,wR,uO,xG,wF,yaO]
 .right
  have hk4:k=4:=by omega
  subst hk4;generalize (cu S Bd wc wr 4).length=cn at*
  cases cn
  all_goals
   simp only[EG,Ax,oV,oH,oC];simp only[go_sem,ya,BZ,show ¬((4:Nat):Int)<((4:Nat):Int) by omega];exact⟨_,_,rfl,by simp,_,_,w,H',jz,rfl,rfl,lo,hh,zV,by simp only[go_sem,ya]<;>rfl⟩
end
end
end VE
end
section
set_option maxHeartbeats 4000000
namespace VE
open Go (IntKind)
section
variable {P:aE}{L:Lib}
def azH(h:Av P L){A B:VC}{TM:Env}{C R S la lb i r wc wr:Nat}{v d f bv:AV}{V Dk F:List (List Nat)}{Bd E:List (Int×Int)}{M:List (List (Option Rat))}{w:Bool}{H:Hp}(lo:eA C R S v d f bv E (R*S) (C*S) M w (R*S+9) H)(hE:∀q,du E q=du Bd q)(hv:bi bQ v V)(hd:bi bQ d Dk)(hf:bi bQ f F)(ok:mC V Dk F C R S)(hC:C<=8)(hR:R<=8)(hS:S<=8)(fe:0<S)(eW:gS (R*S+10) TM)(hn:(dw TM).length<=1000)(t3:ak TM 3=.ptr 0 0)(t10:ak TM 10=.ptr 1 0)(t13:ak TM 13=.ptr 3 0)(t14:ak TM 14=.ptr 6 0)(hx:wc<C*S)(hy:wr<R*S)(hi:wc%S=i)(hr:wr%S=r)(oE:du Bd ((wc:Int),(wr:Int))=ydB):
  ∃w' H',eA C R S v d f bv E (R*S) (C*S) (M.set wr ((M.getD wr []).set wc (GR (BJ V Dk F S Bd wc wr)))) w' (R*S+9) H'/\(∀j,ah H (R*S+8)=GR j->ah H' (R*S+8)=GR j)/\∃tm J ct,(∀p:Nat×Obj,p∈J->R*S+13<=p.1)/\D P L fX ⟨(19,.ptr (R*S+12) 0)::(18,.ptr (R*S+11) 0)::(80,.agg [aa wc,aa wr])::(79,.agg [aa i,aa r])::TM,cO (R*S) wc wr i r (bW A B TM (R*S) la lb 1 H),R*S+13,R*S+13⟩=GR (.normal,⟨tm,J++cO (R*S) wc wr i r (bW A B TM (R*S) la lb 1 H'),ct,R*S+13⟩):=by
 have At:C*S<=64:=y8 hC hS;have rV:R*S<=64:=y8 hR hS;have key:=azG h (A:=A) (B:=B) (TM:=TM) (la:=la) (lb:=lb) lo hE hv hd hf ok hC hR hS fe eW hn hx hy hi hr;have hlen:=Hf S Bd wc wr 4;have ks:=ok.s (B:=Bd) (k:=4) fe hx hy;have aET:∀x,x∈fp V Dk F S Bd wc wr 4->Hq 300 x:=fun x hxx=>by
  unfold fp at hxx;obtain⟨p,hp,rfl⟩:=wW.1 hxx;obtain⟨l1,l2⟩:=agU fe hx hy hp;exact ok.t l1 l2
 have Tb:(fp V Dk F S Bd wc wr 4).length=(cu S Bd wc wr 4).length:=by unfold fp;rw[y5]
 have IS:BJ V Dk F S Bd wc wr=if (cu S Bd wc wr 4).length=0 then 0 else je 0 (fp V Dk F S Bd wc wr 4)/(((cu S Bd wc wr 4).length:Int):Rat):=rfl
 generalize hN:R*S=N at*
 generalize hm:C*S=m at*
 have Bo:(cu S Bd wc wr 0).length=0:=rfl;have hb:=Ri (wc:=wc) (wr:=wr) (i:=i) (r:=r) (zU (A:=A) (B:=B) (la:=la) (lb:=lb) eW lo.bl 1);have rJ:=Rj (wc:=wc) (wr:=wr) (i:=i) (r:=r) (zU (A:=A) (B:=B) (la:=la) (lb:=lb) eW lo.bl 1) (FJ (A:=A) (B:=B) (la:=la) (lb:=lb) hn lo.bl lo.rl 1);have oR:=fun x hx=>EP (yz (N+13)) hb x hx
 have o2:=fun s=>KS (s:=s) hb
 have Ox:=fun (hp:Hp) (seen:List Nat) (n:Nat)=>Qh (hp:=hp) (seen:=seen) n oR (y7 rJ (by decide))
 have p0:0<N+13:=by omega
 have p1:1<N+13:=by omega
 have p3:3<N+13:=by omega
 have p6:6<N+13:=by omega
 have GP:N+11<N+13:=by omega
 have EH:N+12<N+13:=by omega
 have EF:=X6 ydB (wc:Int) (wr:Int) E;rw[hE,oE] at EF;have gG:∀{H:Hp} (j:Nat),j<N+9->ah (cO N wc wr i r (bW A B TM N la lb 1 H)) j=ah H j:=fun {H} j hj=>by
  unfold cO bW;rw[eK _ _ (by omega),eK _ _ (by omega),eK _ _ (by omega),eK _ _ (by omega)]
 have Oy:ah (cO N wc wr i r (bW A B TM N la lb 1 H)) 1=GR (.cells ydB ydC ydB 1 [.map 2]):=by rw[gG 1 (by omega)];exact lo.g1
 have Oz:ah (cO N wc wr i r (bW A B TM N la lb 1 H)) 2=GR (.mp ydB (jK E) (jL E)):=by rw[gG 2 (by omega)];exact lo.g2
 have DZ:∀{H:Hp},ah (cO N wc wr i r (bW A B TM N la lb 1 H)) (N+12)=GR (.cells ydB ydB ydB 2 [aa wc,aa wr]):=fun {H}=>by
  unfold cO;rw[jW]
 obtain⟨z,e1,hz⟩:=Ob h.toAvg.toCtd.toCen.toMom.toFr' (z:=0) (by omega) (by omega);obtain⟨z1,z2,z3,z4,rfl,gz⟩:=hz.gen;have Uj:∀ct,mY ct 4 [AV.int .i64 0,.aj,.int .i64 0,.aj]=GR (.ptr ct 0,.cells ydB ydB ydB 4 [AV.int .i64 0,.aj,.int .i64 0,.aj]):=fun _=>rfl
 have S6:bY (aa wc)=GR wc:=rfl;have S7:bY (aa wr)=GR wr:=rfl;have S8:=dd (sz:=1) (n:=N) 7 0 hy;have S9:=fun id=>dd (sz:=4) (n:=m) id 0 hx
 have my:=akz (N:=N) (m:=m) hy;have d9:wr+8<N+9:=by omega
 simp only[go_sem,ya,yb,xy,yh,fX,t10,Oy,Oz,DZ,yd,ye,cd,KR,Mf,EF,yL,agV,agW,agX,agY,cM];generalize hQ:D P L (.loop _ BZ) _=Q;obtain⟨ex,st,rfl,tm,ct,w',H',jz,rfl,rfl,cN,hh,zV,ew⟩:=bt hQ (key 4) ⟨0,w,H,[],rfl,lo,fun j _=>rfl,trivial,by
  rw[Bo];generalize cO N wc wr i r (bW A B TM N la lb 1 H)=G at*
  simp only[go_sem,ya,yb,yh,t3,t10,t13,t14,EW,DY,yI,yN,oV,oH,oC,EG,Ax,BI,p0,p1,p3,p6,GP,EH,o2,Ox,wR,uO,xG]<;>rfl⟩
 have aS:=Ri (wc:=wc) (wr:=wr) (i:=i) (r:=r) (zU (A:=A) (B:=B) (la:=la) (lb:=lb) eW cN.bl 1);have aEU:=Rj (wc:=wc) (wr:=wr) (i:=i) (r:=r) (zU (A:=A) (B:=B) (la:=la) (lb:=lb) eW cN.bl 1) (FJ (A:=A) (B:=B) (la:=la) (lb:=lb) hn cN.bl cN.rl 1);have oR':=fun x hx=>EP (yz (N+13)) aS x hx
 have Od:=fun s=>KS (s:=s) aS
 have aEV:=fun (hp:Hp) (seen:List Nat) (n:Nat)=>Qh (hp:=hp) (seen:=seen) n oR' (y7 aEU (by decide))
 obtain⟨cs,hg,hQ'⟩:=cN.gr wr hy;have aR:=fun (hp:Hp) (ct:Nat) {q1 q2 q3 q4:AV} (gq:F4 q1 q2 q3 q4)=>stO (hp:=hp) (ct:=ct) (id:=wr+8) (ex:=ydB) hQ' (show wc<(M.getD wr []).length by rw[cN.rM wr hy];exact hx) gq
 have hsG:∀o,aJ (cO N wc wr i r (bW A B TM N la lb 1 H')) (wr+8) o=cO N wc wr i r (bW A B TM N la lb 1 (aJ H' (wr+8) o)):=fun o=>by
  unfold cO bW;rw[qD _ _ _ (by omega),qD _ _ _ (by omega),qD _ _ _ (by omega),qD _ _ _ (by omega)]
 have k6:ah (cO N wc wr i r (bW A B TM N la lb 1 H')) 6=GR (.cells ydB ydC ydB 1 [.ay 7 0 N]):=by rw[gG 6 (by omega)];exact cN.gb
 have k7:ah (cO N wc wr i r (bW A B TM N la lb 1 H')) 7=GR (.cells ydB ydC ydB 1 (gP (cK 6 N) (yj N m))):=by rw[gG 7 (by omega)];exact cN.gm
 have kw:ah (cO N wc wr i r (bW A B TM N la lb 1 H')) (wr+8)=GR (.cells ydB ydB ydB 4 cs):=by rw[gG (wr+8) d9,yay];exact hg
 have NS:=DZ (H:=H');have CH:jz.length=(cu S Bd wc wr 4).length*4:=by rw[zV.len,Tb]
 have hup:=fun {q1 q2 q3 q4:AV} (hq:b8 (.agg [q1,q2,q3,q4]) (BJ V Dk F S Bd wc wr))=>cN.upd hx hy hq hg hQ'
 have h8:∀o j,ah H (N+8)=GR j->ah (aJ H' (8+wr) o) (N+8)=GR j:=fun o j hj=>by rw[n5,yq (by omega),hh _ (by omega)];exact hj
 rw[yay 8 wr] at hup h8;have d1:¬N+1=wr:=by omega
 have d2:¬N+2=wr:=by omega
 have d3:¬N+3=wr:=by omega
 have d4:¬N+4=wr:=by omega
 have d5:¬N+5=wr:=by omega
 have d6:¬N+6=wr:=by omega
 have aEW:bH [14,19,20] ⟨tm,Ax N (cu S Bd wc wr 4).length jz (cO N wc wr i r (bW A B TM N la lb 1 H')),ct,N+13⟩=⟨[(14,.ptr 6 0),(19,.ptr (N+12) 0),(20,oV (N+13) (cu S Bd wc wr 4).length)],oH (N+13) 4 jz (cO N wc wr i r (bW A B TM N la lb 1 H')) (cu S Bd wc wr 4).length,oC (N+13) (cu S Bd wc wr 4).length,N+13⟩:=by
  rw[nA (c':=ct) (tm':=[(14,.ptr 6 0),(19,.ptr (N+12) 0),(20,oV (N+13) (cu S Bd wc wr 4).length)]) (by rw[ew];cases (cu S Bd wc wr 4).length<;>rfl)]
  generalize cO N wc wr i r (bW A B TM N la lb 1 H')=G at*
  have pn:aF jz=ydB:=zV.pu;cases (cu S Bd wc wr 4).length
  all_goals
   simp only[go_sem,ya,yb,yh,EW,DY,yI,yN,oV,oH,oC,Ax,p6,EH,Od,aEV,ue,wR,uO,xG,wF]
 simp only[go_sem,aEW]
 cases po:(cu S Bd wc wr 4).length with
 | zero=>
  rw[po,yC rfl] at IS;have gE:b8 (.agg [z1,z2,z3,z4]) (BJ V Dk F S Bd wc wr):=by rw[IS];exact hz
  refine⟨w',_,hup gE,h8 _,?_⟩;have ZK:=fun hp ct=>aR hp ct gz
  unfold ab at e1;simp only[oV,oH,oC];generalize cO N wc wr i r (bW A B TM N la lb 1 H')=G at*
  simp only[go_sem,ya,yg,e1,bz,Uj,gz.st,show ¬(0:Int)>0 by decide,k6,k7,kw,NS,ye,yk,aP,yd,S7,S6,S8,my,S9,sC,ZK,hsG,d5,uO,xG,wC];exact⟨_,[(_,_)],_,by simp,rfl⟩
 | succ cn=>
  rw[po,yq (by omega)] at IS;rw[po] at CH;have hw:=aeK ydC zV;rw[Tb,po] at hw;obtain⟨s,e2,hs⟩:=aD9 h.toAvg.toCtd.toCen.toMom.toFr' h.Ng h.ZA hw (K:=300) aET (by rw[Tb];omega) (by rw[Tb];omega);obtain⟨u,e3,hu⟩:=Ob h.toAvg.toCtd.toCen.toMom.toFr' (z:=((cn+1:Nat):Int)) (by omega) (by omega);have Bv:(((cn+1:Nat):Int):Rat)≠0:=by exact_mod_cast (show ((cn+1:Nat):Int)≠0 by omega)
  obtain⟨q,e4,hq⟩:=m70 h.toAvg.toCtd.toCen.toMom.toFr' hs hu Bv (K:=1300) ks ((V5 (n:=cn+1) (by omega)).mono (by decide)) (by decide);rw[<-IS] at hq;obtain⟨s1,s2,s3,s4,rfl,gs⟩:=hs.gen;obtain⟨u1,u2,u3,u4,rfl,gu⟩:=hu.gen;have oU:=hq;obtain⟨q1,q2,q3,q4,rfl,gq⟩:=hq.gen;refine⟨w',_,hup oU,h8 _,?_⟩;have ZK:=fun hp ct=>aR hp ct gq
  unfold ab at e1 e2 e3 e4;simp only[oV,oH,oC];generalize cO N wc wr i r (bW A B TM N la lb 1 H')=G at*
  simp only[go_sem,ya,yg,e1,bz,Uj,gz.st,show ((cn+1:Nat):Int)>0 by omega,yp,jX ydC CH (show 0<4 by decide),e2,e3,gs.ai,gu.ai,e4,gq.st,k6,k7,kw,NS,ye,yk,aP,yd,S7,S6,S8,my,S9,sC,ZK,hsG,d5,d6,uO,xG,wF,wC];exact⟨_,[(_,_),(_,_)],_,by simp,rfl⟩
end
end VE
end
section
set_option maxHeartbeats 4000000
namespace VE
open Go (IntKind)
section
variable {bv d f v:AV}{Dk F V:List (List Nat)}{rows:List AV}
noncomputable def iv(V Dk F:List (List Nat))(S:Nat)(B:List (Int×Int))(W y:Nat):List Rat:=(wq W).map fun x=>jT V Dk F S B x y
noncomputable def iT(V Dk F:List (List Nat))(S:Nat)(B:List (Int×Int))(W H:Nat):List (List Rat):=(wq H).map fun y=>iv V Dk F S B W y
section
variable (V Dk F:List (List Nat))(S:Nat)(B:List (Int×Int))
def so(W y:Nat):(iv V Dk F S B W y).length=W:=by simp[iv]
def Qi(W H:Nat):(iT V Dk F S B W H).length=H:=by simp[iT]
def asW{W y x:Nat}(h:x<W):(iv V Dk F S B W y).take (x+1)=(iv V Dk F S B W y).take x++[jT V Dk F S B x y]:=by
 rw[xm (by rw[so];exact h)];simp[iv]
noncomputable def nY(m i:Nat):List AV:=(wq i).map fun y=>AV.au ydC m (me (iv V Dk F S B m y))
def ae3(m i:Nat):nY V Dk F S B m (i+1)=nY V Dk F S B m i++[.au ydC m (me (iv V Dk F S B m i))]:=by unfold nY;rw[ycj,xu];rfl
def af6(m i:Nat):(nY V Dk F S B m i).length=i:=by simp[nY]
def af7(m:Nat):∀n,eN BC (nY V Dk F S B m n) ((iT V Dk F S B m n).map fun r=>r.map RT)
 | 0=>trivial
 | n+1=>by
  rw[ae3,show iT V Dk F S B m (n+1)=iT V Dk F S B m n++[iv V Dk F S B m n] by unfold iT;rw[ycj,xu];rfl,xu]
  refine (af7 m n).snoc ?_
  have:=azz ydC (iv V Dk F S B m n)
  rwa[so] at this
end
def zC(C R S:Int)(d f bv:AV)(i c:Nat)(rows cs:List AV):Hp:=oH (oC 2 i) 1 cs (oH 2 1 rows [(1,bg d f bv),(0,bG C R S)] i) c
section
variable {P:aE}{L:Lib}
def avv(pv:aX v=ydB){C R S:Int}{i c:Nat}{cs:List AV}{tm:Env}{ct:Nat}(hk:bF tm [2,3,4,8,9,10]=[(2,v),(3,.ptr 0 0),(4,.ptr 1 0),(8,oV 2 i),(9,aa i),(10,oV (oC 2 i) c)]):bH [2,3,4,8,9,10] ⟨tm,zC C R S d f bv i c rows cs,ct,0⟩=⟨[(2,v),(3,.ptr 0 0),(4,.ptr 1 0),(8,oV 2 i),(9,aa i),(10,oV (oC 2 i) c)],zC C R S d f bv i c rows cs,oC (oC 2 i) c,0⟩:=by
 rw[nA (c':=ct) (tm':=[(2,v),(3,.ptr 0 0),(4,.ptr 1 0),(8,oV 2 i),(9,aa i),(10,oV (oC 2 i) c)]) (by rw[hk];rfl)]
 cases i<;>cases c<;>simp only[go_sem,ya,yb,aq,oV,oH,oC,zC,bG,bg,aD pv]<;>rfl
def azI(h:GL P L){B:List (Int×Int)}(Ae:j9 d f bv Dk F B)(hv:bi bQ v V){C R S:Nat}(ok:mC V Dk F C R S)(hC:C<=8)(hR:R<=8)(hS:S<=8)(fe:0<S){y:Nat}(hy:y<R*S):
  cG P L [2,3,4,8,9,10,11] B0 (fun n st=>∃x,x+n=C*S/\st=⟨[(2,v),(3,.ptr 0 0),(4,.ptr 1 0),(8,oV 2 y),(9,aa y),(10,oV (oC 2 y) x),(11,aa x)],zC C R S d f bv y x rows (me ((iv V Dk F S B (C*S) y).take x)),oC (oC 2 y) x,0⟩) (fun ex s'=>∃tm ct,s'=⟨tm,zC C R S d f bv y (C*S) rows (me (iv V Dk F S B (C*S) y)),ct,0⟩/\ex=.exit 2/\bF tm [2,3,4,8,9,10]=[(2,v),(3,.ptr 0 0),(4,.ptr 1 0),(8,oV 2 y),(9,aa y),(10,oV (oC 2 y) (C*S))]):=by
 apply cI;rintro n st ⟨x,hxn,rfl⟩;have At:C*S<=64:=y8 hC hS;have rV:R*S<=64:=y8 hR hS;have m1:(C:Int)*(S:Int)=((C*S:Nat):Int):=by rw[xD]
 have w0:IntKind.wrap .i64 ((C*S:Nat):Int)=((C*S:Nat):Int):=wrap64 (by omega) (by omega);by_cases hx:x<C*S
 .left
  have e1:=akv (P:=P) (L:=L) h.S3 Ae (x:Int) (y:Int);have e2:=aER h Ae hv ok hC hR hS fe hx hy;have e3:=akw h Ae hv ok.hV ok.hD ok.hF ok.hd hy hx;have JY:me ((iv V Dk F S B (C*S) y).take (x+1))=me ((iv V Dk F S B (C*S) y).take x)++[.str (RT (jT V Dk F S B x y))]:=by rw[asW V Dk F S B hx];simp[me]
  have lc:(me ((iv V Dk F S B (C*S) y).take x)).length=x:=by rw[af2,yU,so,Nat.min_eq_left (by omega)]
  have wx:IntKind.wrap .i64 ((x:Int)+1)=((x+1:Nat):Int):=wrap64 (by omega) (by omega);have fb:(x:Int)<((C*S:Nat):Int):=by omega
  have fz:=Aa;have jJ:=Ae.fz;have kh:∀(tm:Env) (s:List Nat),lL tm [AV.str []] 0 1 [.str s] []=GR [.str s]:=fun _ _=>rfl
  have kF:∀(cP pu ex:Bool) (a:AV),Ap 0 1 1 (GR (.cells cP pu ex 1 [a]))=GR (1,[a]):=fun _ _ _ _=>rfl
  have eF:∀s:List Nat,cellsOf (.str s)=[.str s]:=fun _=>rfl
  have CV:jT V Dk F S B x y=if du B ((x:Int),(y:Int))=ydB then BJ V Dk F S B x y else nP V Dk F x y:=rfl
  cases hb:du B ((x:Int),(y:Int)) with
  | true=>
   rw[hb] at e1 CV;rw[yC rfl] at CV;rw[<-CV] at e2;unfold ab at e1 e2;generalize RT (jT V Dk F S B x y)=z at*
   cases x with
   | zero=>
    have iH:me ((iv V Dk F S B (C*S) y).take 1)=[.str z]:=JY;cases y
    all_goals
     simp only[oV,oH,oC,zC];simp only[go_sem,ya,yb,xy,yv,yh,yg,B0,bG,bg,aP,yd,ye,yk,m1,w0,fb,lk,fz,jJ,hv.ai,e1,e2,eF,kh,cM,mP,mO,kF,jm,wx];refine⟨_,n-1,rfl,by omega,1,by omega,?_⟩;rw[iH];simp only[go_sem,ya,yb,aq,aD hv.pu]<;>rfl
   | succ x=>
    have lV:=fun (hp:Hp) (ct id:Nat) (z:List Nat) (hg:ah hp id=GR (.cells ydB ydB ydC 1 (me ((iv V Dk F S B (C*S) y).take (x+1)))))=>gR (ct:=ct) (by':=16) (new:=[AV.str z]) (m:=1) (n:=x+1) hg (by rw[lc,yg]) (by omega) (by omega) (by decide) rfl
    cases y
    all_goals
     simp only[oV,oH,oC,zC];simp only[go_sem,ya,yb,yg,B0,bG,bg,aP,yd,ye,yk,m1,w0,fb,lk,fz,jJ,hv.ai,e1,e2,eF,kh,cM,mP,mO,kF,lV,wx,vh];refine⟨_,n-1,rfl,by omega,x+1+1,by omega,?_⟩;rw[JY];simp only[go_sem,ya,yb,aq,aD hv.pu]<;>rfl
  | false=>
   rw[hb] at e1 CV;rw[yq (by decide)] at CV;rw[<-CV] at e3;unfold ab at e1 e3;generalize RT (jT V Dk F S B x y)=z at*
   cases x with
   | zero=>
    have iH:me ((iv V Dk F S B (C*S) y).take 1)=[.str z]:=JY;cases y
    all_goals
     simp only[oV,oH,oC,zC];simp only[go_sem,ya,yb,xy,yv,yh,yg,B0,bG,bg,aP,yd,ye,yk,m1,w0,fb,lk,jJ,hv.ai,e1,e3,eF,kh,cM,mP,mO,kF,jm,wx];refine⟨_,n-1,rfl,by omega,1,by omega,?_⟩;rw[iH];simp only[go_sem,ya,yb,aq,aD hv.pu]<;>rfl
   | succ x=>
    have lV:=fun (hp:Hp) (ct id:Nat) (z:List Nat) (hg:ah hp id=GR (.cells ydB ydB ydC 1 (me ((iv V Dk F S B (C*S) y).take (x+1)))))=>gR (ct:=ct) (by':=16) (new:=[AV.str z]) (m:=1) (n:=x+1) hg (by rw[lc,yg]) (by omega) (by omega) (by decide) rfl
    cases y
    all_goals
     simp only[oV,oH,oC,zC];simp only[go_sem,ya,yb,yg,B0,bG,bg,aP,yd,ye,yk,m1,w0,fb,lk,jJ,hv.ai,e1,e3,eF,kh,cM,mP,mO,kF,lV,wx,vh];refine⟨_,n-1,rfl,by omega,x+1+1,by omega,?_⟩;rw[JY];simp only[go_sem,ya,yb,aq,aD hv.pu]<;>rfl
 .right
  have hxm:x=C*S:=by omega
  subst hxm;rw[List.take_of_length_le (by rw[so];exact yz _)]
  have fb:¬((C*S:Nat):Int)<((C*S:Nat):Int):=by omega
  generalize C*S=m at*
  cases y<;>cases m
  all_goals
   simp only[oV,oH,oC,zC];simp only[go_sem,ya,yb,B0,bG,bg,aP,yd,ye,yk,m1,w0,fb];exact⟨_,_,rfl,by simp,_,_,rfl,rfl,by simp only[go_sem,ya]<;>rfl⟩
def aEX(h:GL P L){B:List (Int×Int)}(Ae:j9 d f bv Dk F B)(hv:bi bQ v V){C R S:Nat}(ok:mC V Dk F C R S)(hC:C<=8)(hR:R<=8)(hS:S<=8)(fe:0<S)(Tc:0<C*S)(aEY:0<R*S):
  (((iT V Dk F S B (C*S) (R*S)).any fun r=>r.any ej)=ydB->ab P L 649 [.agg [aa C,aa R,aa S],.agg [d,f,bv],v] (.av [.aj,aa 4]))/\(((iT V Dk F S B (C*S) (R*S)).any fun r=>r.any ej)=ydC->∃rows,ab P L 649 [.agg [aa C,aa R,aa S],.agg [d,f,bv],v] (.av [.au ydC (R*S) rows,aa 0])/\bi (bi iS) (.au ydC (R*S) rows) (iT V Dk F S B (C*S) (R*S))):=by
 have At:C*S<=64:=y8 hC hS;have rV:R*S<=64:=y8 hR hS;have m1:(R:Int)*(S:Int)=((R*S:Nat):Int):=by rw[xD]
 have w0:IntKind.wrap .i64 ((R*S:Nat):Int)=((R*S:Nat):Int):=wrap64 (by omega) (by omega);have EE:=Qi V Dk F S B (C*S) (R*S);have eh:=Ae.bx;have e1:=aEO h.toFz h.ZI (v:=.au ydC (R*S) (nY V Dk F S B (C*S) (R*S))) (M:=iT V Dk F S B (C*S) (R*S)) (by
  have:=Df ydC (af7 V Dk F S B (C*S) (R*S))
  rwa[y5,EE] at this) (by omega) (by omega) (fun r hr=>by
  obtain⟨k,hk,rfl⟩:=wW.1 hr;have hk:=tE.1 hk;refine⟨by rw[so];exact Tc,by rw[so];omega,fun x hx=>?_⟩
  obtain⟨c,hc,rfl⟩:=wW.1 hx
  exact (ok.q fe (tE.1 hc) hk).mono (by decide))
 rw[EE] at e1;have key:=iX P L [2,3,4,8,9] Hx
  (fun n st=>∃i,i+n=R*S/\st=⟨[(2,v),(3,.ptr 0 0),(4,.ptr 1 0),(8,oV 2 i),(9,aa i)],oH 2 1 (nY V Dk F S B (C*S) i) [(1,bg d f bv),(0,bG C R S)] i,oC 2 i,0⟩)
  (fun ex st=>∃tm ct,st=⟨tm,oH 2 1 (nY V Dk F S B (C*S) (R*S)) [(1,bg d f bv),(0,bG C R S)] (R*S),ct,0⟩/\ex=.exit 0/\bF tm [8]=[(8,oV 2 (R*S))]) (by
   rintro n st ⟨i,cA,rfl⟩;by_cases hi:i<R*S
   .left
    have key:=azI h Ae hv ok hC hR hS fe hi (rows:=nY V Dk F S B (C*S) i);have cL:=fun (tm:Env) (ct:Nat) hk=>avv (v:=v) (d:=d) (f:=f) (bv:=bv) hv.pu (C:=C) (R:=R) (S:=S) (i:=i) (c:=C*S) (rows:=nY V Dk F S B (C*S) i) (cs:=me (iv V Dk F S B (C*S) i)) (tm:=tm) (ct:=ct) hk
    have mM:(i:Int)<((R*S:Nat):Int):=by omega
    have wi:IntKind.wrap .i64 ((i:Int)+1)=((i+1:Nat):Int):=wrap64 (by omega) (by omega);have Gr:=ae3 V Dk F S B (C*S) i;have lR:=af6 V Dk F S B (C*S) i;have IG:(me (iv V Dk F S B (C*S) i)).length=C*S:=by rw[af2,so]
    obtain⟨m,hm⟩:∃m,C*S=m+1:=⟨C*S-1,by omega⟩;rw[hm] at key cL Gr lR IG ⊢;have fa:=fun hp:Hp=>jX (hp:=hp) (k:=m+1) (sz:=1) (cs:=me (iv V Dk F S B (m+1) i)) ydC (by rw[IG,yg]) (by decide)
    have kh:∀(tm:Env) (e:Bool) (k:Nat) (cs:List AV),lL tm [AV.aj] 0 1 [.au e k cs] []=GR [.au e k cs]:=fun _ _ _ _=>rfl
    have kF:∀(cP pu ex:Bool) (a:AV),Ap 0 1 1 (GR (.cells cP pu ex 1 [a]))=GR (1,[a]):=fun _ _ _ _=>rfl
    have lV:=fun (hp:Hp) (ct:Nat) (e:Bool) (k:Nat) (cs:List AV) (hg:ah hp 2=GR (.cells ydB ydB ydC 1 (nY V Dk F S B (m+1) i)))=>gR (ct:=ct) (by':=24) (new:=[.au e k cs]) (m:=1) (n:=i) hg (by rw[lR,yg]) (by omega) (by omega) (by decide) rfl
    cases i with
    | zero=>
     have fD:nY V Dk F S B (m+1) 1=[.au ydC (m+1) (me (iv V Dk F S B (m+1) 0))]:=Gr;simp only[oV,oH,oC,zC] at key cL ⊢;simp only[go_sem,ya,yb,Hx,bG,bg,aP,yd,ye,yk,m1,w0,mM];generalize hQ:D P L (.loop _ B0) _=Q;obtain⟨ex,st,rfl,tm,ct,rfl,rfl,ew⟩:=bt hQ (key (m+1)) ⟨0,by omega,by simp only[go_sem,ya,yb,aq,bG,bg,aD hv.pu]<;>rfl⟩
     simp only[go_sem,ya,yb,xy,yv,yh,yg,cL tm ct ew,fa,kh,cM,mP,mO,kF,jm,wi];refine⟨_,n-1,rfl,by omega,1,by omega,?_⟩;rw[fD];simp only[go_sem,ya,yb,aq,bG,bg,aD hv.pu]<;>rfl
    | succ i=>
     simp only[oV,oH,oC,zC] at key cL ⊢;simp only[go_sem,ya,yb,Hx,bG,bg,aP,yd,ye,yk,m1,w0,mM];generalize hQ:D P L (.loop _ B0) _=Q;obtain⟨ex,st,rfl,tm,ct,rfl,rfl,ew⟩:=bt hQ (key (m+1)) ⟨0,by omega,by simp only[go_sem,ya,yb,aq,bG,bg,aD hv.pu]<;>rfl⟩
     simp only[go_sem,ya,yb,yg,cL tm ct ew,fa,kh,cM,mP,mO,kF,lV,wi];refine⟨_,n-1,rfl,by omega,i+1+1,by omega,?_⟩;rw[Gr];simp only[go_sem,ya,yb,aq,bG,bg,aD hv.pu]<;>rfl
   .right
    have CU:i=R*S:=by omega
    subst CU;have mM:¬((R*S:Nat):Int)<((R*S:Nat):Int):=by omega
    obtain⟨n',hn⟩:∃n',R*S=n'+1:=⟨R*S-1,by omega⟩;rw[hn] at m1 w0 mM ⊢;simp only[oV,oH,oC];simp only[go_sem,ya,yb,Hx,bG,bg,aP,yd,ye,yk,m1,w0,mM]
    exact⟨_,_,rfl,by simp,_,_,rfl,rfl,by simp only[go_sem,ya]<;>rfl⟩) (R*S)
 unfold ab at e1 ⊢;rw[aB h.aEP];simp only[go_sem,ya,yb,YA,fN,eh];generalize hQ:D P L (.loop _ Hx) _=Q;obtain⟨ex,st,rfl,tm,ct,rfl,rfl,ew⟩:=bt hQ key ⟨0,by omega,by simp only[go_sem,ya,yb,aq,oV,oH,oC,bG,bg,aD hv.pu]<;>rfl⟩
 have lR:=af6 V Dk F S B (C*S) (R*S);obtain⟨n,hn⟩:∃n,R*S=n+1:=⟨R*S-1,by omega⟩;rw[hn] at ew lR e1 ⊢;have cL:bH [8] ⟨tm,oH 2 1 (nY V Dk F S B (C*S) (n+1)) [(1,bg d f bv),(0,bG C R S)] (n+1),ct,0⟩=⟨[(8,.ay 0 0 (n+1))],[(0,.cells ydB ydB ydC 1 (nY V Dk F S B (C*S) (n+1)))],1,0⟩:=by
  rw[nA (c':=ct) (tm':=[(8,.ay 2 0 (n+1))]) (by rw[ew];rfl)]
  simp only[go_sem,yb,aq,oH,bG,bg]<;>rfl
 have fa:=fun hp:Hp=>jX (hp:=hp) (k:=n+1) (sz:=1) (cs:=nY V Dk F S B (C*S) (n+1)) ydC (by rw[lR,yg]) (by decide)
 refine⟨fun q=>?_,fun q=>?_⟩
 .have e1:=e1.1 q;simp only[go_sem,ya,cL,fa,e1,iA,iw,iz,US,Ko]
 .obtain ⟨rows,e1,hR⟩:=e1.2 q;refine⟨rows,?_,hR⟩;simp only[go_sem,ya,cL,fa,e1,iA,iw,iz,Ko]
end
end
end VE
end
section
set_option maxHeartbeats 4000000
namespace VE
open Go (IntKind)
section
variable {bv d f v:AV}{w:Bool}{TM:Env}{H:Hp}{Dk F V:List (List Nat)}{C R S:Nat}
def Ay(N la lb:Nat)(H:Hp):Hp:=(N+9,.cells ydB ydB ydB 2 [aa la,aa lb])::H
def eA.push{C R S:Int}{E:List (Int×Int)}{N m:Nat}{M:List (List (Option Rat))}(lo:eA C R S v d f bv E N m M w (N+8) H)(Cq:(cE (N+8) H).length<=100){A B:VC}(eW:gS (N+8) TM)(hn:(dw TM).length<=900):eA C R S v d f bv E N m M w (N+9) ((N+8,.lp TM [74,75] A B 0 .none)::H):=by
 have bL:∀j,j≠N+8->ah ((N+8,Obj.lp TM [74,75] A B 0 .none)::H) j=ah H j:=fun j hj=>eK _ _ (fun q=>hj q.symm)
 have e:=Qg (show N+8<=N+9 by omega) lo.bl;have h1:dz (.lp TM [74,75] A B 0 .none)=dw TM:=rfl;refine⟨by rw[bL 0 (by omega)];exact lo.g0,by rw[bL 1 (by omega)];exact lo.g1,by rw[bL 2 (by omega)];exact lo.g2,by rw[bL 3 (by omega)];exact lo.g3,by rw[bL 4 (by omega)];exact lo.g4,by rw[bL 5 (by omega)];exact lo.g5,by rw[bL 6 (by omega)];exact lo.gb,by rw[bL 7 (by omega)];exact lo.gm,fun j hj=>by rw[bL (8+j) (by omega)];exact lo.gr j hj,lo.rM,lo.lM,⟨by omega,C1 (by omega) eW,OU (by omega) (fun _=>UH (by omega)) lo.bl⟩,?_,by omega⟩
 rw[qR _ _ (show N+8<N+9 by omega),e,h1,yO];omega
section
variable {P:aE}{L:Lib}
def aEZ(h:Av P L){la lb i r:Nat}{Bd E:List (Int×Int)}{M:List (List (Option Rat))}(lo:eA C R S v d f bv E (R*S) (C*S) M w (R*S+9) H)(hE:∀q,du E q=du Bd q)(hv:bi bQ v V)(hd:bi bQ d Dk)(hf:bi bQ f F)(ok:mC V Dk F C R S)(hC:C<=8)(hR:R<=8)(hS:S<=8)(fe:0<S)(eW:gS (R*S+10) TM)(hn:(dw TM).length<=1000)(t3:ak TM 3=.ptr 0 0)(t10:ak TM 10=.ptr 1 0)(t13:ak TM 13=.ptr 3 0)(t14:ak TM 14=.ptr 6 0)(rP:la<C)(Uq:lb<R)(hi:i<S)(hr:r<S):
  ∃w' H' J,eA C R S v d f bv E (R*S) (C*S) (M.set (lb*S+r) ((M.getD (lb*S+r) []).set (la*S+i) (GR (jT V Dk F S Bd (la*S+i) (lb*S+r))))) w' (R*S+9) H'/\(∀j,ah H (R*S+8)=GR j->ah H' (R*S+8)=GR j)/\(∀p:Nat×Obj,p∈J->R*S+11<=p.1)/\∃aQ,kG (D P L) (bW ie fX TM (R*S) la lb 0 H) (R*S+11) (R*S+10) (Uf S la lb r i)=GR (.bool ydB,J++bW ie fX TM (R*S) la lb 0 H',aQ):=by
 have At:C*S<=64:=y8 hC hS;have rV:R*S<=64:=y8 hR hS;have hx:=HT rP hi;have hy:=HT Uq hr;have mi:(la*S+i)%S=i:=Qz hi;have mr:(lb*S+r)%S=r:=Qz hr;have ns:∃w' H',eA C R S v d f bv E (R*S) (C*S) (M.set (lb*S+r) ((M.getD (lb*S+r) []).set (la*S+i) (GR (jT V Dk F S Bd (la*S+i) (lb*S+r))))) w' (R*S+9) H'/\(∀j,ah H (R*S+8)=GR j->ah H' (R*S+8)=GR j)/\∃tm J ct,(∀p:Nat×Obj,p∈J->R*S+13<=p.1)/\D P L fX ⟨(19,.ptr (R*S+12) 0)::(18,.ptr (R*S+11) 0)::(80,.agg [aa (la*S+i:Nat),aa (lb*S+r:Nat)])::(79,.agg [aa i,aa r])::TM,cO (R*S) (la*S+i) (lb*S+r) i r (bW ie fX TM (R*S) la lb 1 H),R*S+13,R*S+13⟩=GR (.normal,⟨tm,J++cO (R*S) (la*S+i) (lb*S+r) i r (bW ie fX TM (R*S) la lb 1 H'),ct,R*S+13⟩):=by
  have CV:jT V Dk F S Bd (la*S+i) (lb*S+r)=if du Bd (((la*S+i:Nat):Int),((lb*S+r:Nat):Int))=ydB then BJ V Dk F S Bd (la*S+i) (lb*S+r) else nP V Dk F (la*S+i) (lb*S+r):=rfl
  cases hb:du Bd (((la*S+i:Nat):Int),((lb*S+r:Nat):Int)) with
  | true=>
   rw[CV,hb,yC rfl];exact azH h lo hE hv hd hf ok hC hR hS fe eW hn t3 t10 t13 t14 hx hy mi mr hb
  | false=>
   rw[CV,hb,yq (by decide)];obtain⟨H',cN,hk,e⟩:=azE h (TM:=TM) (la:=la) (lb:=lb) (i:=i) (r:=r) lo hv hd hf ok.hV ok.hD ok.hF ok.hd t10 t13 t14 rV At hx hy (by rw[hE];exact hb)
   obtain⟨tm,e⟩:=e ie fX;exact⟨ydC,H',cN,hk,tm,[],_,by simp,e⟩
 obtain⟨w',H',cN,p9,tm,J,ct,hJ,ns⟩:=ns;unfold Uf;generalize la*S+i=wc at*
 generalize lb*S+r=wr at*
 generalize hN:R*S=N at*
 have jh:∀Ac Bc,D P L ie ⟨(80,.agg [aa wc,aa wr])::(79,.agg [aa i,aa r])::TM,bW Ac Bc TM N la lb 0 H,N+11,N+11⟩=GR (.normal,⟨(19,.ptr (N+12) 0)::(18,.ptr (N+11) 0)::(80,.agg [aa wc,aa wr])::(79,.agg [aa i,aa r])::TM,cO N wc wr i r (bW Ac Bc TM N la lb 0 H),N+13,N+11⟩):=by
  intro Ac Bc;unfold bW cO;simp only[go_sem,ya,ie,jf,jy]
 refine⟨w',H',J++[(N+12,.cells ydB ydB ydB 2 [aa wc,aa wr]),(N+11,.cells ydB ydB ydB 2 [aa i,aa r])],cN,p9,?_,?_⟩
 .intro p hp;rcases wD.1 hp with hp | hp
  .have:=hJ p hp;omega
  .simp only [we,ua,yaA] at hp;rcases hp with rfl | rfl<;>simp
 have LQ:=aet (P:=P) (L:=L) (hp:=bW ie fX TM N la lb 0 H) (ct:=N+11) (l:=N+10) (xs:=[.agg [aa i,aa r],.agg [aa wc,aa wr]]) (by unfold bW;rw[jW]) rfl (jh _ _) (by unfold cO bW;rw[eK _ _ (by omega),eK _ _ (by omega),jW]) (by
  have e:aJ (cO N wc wr i r (bW ie fX TM N la lb 0 H)) (N+10) (.lp TM [79,80] ie fX 1 .none)=cO N wc wr i r (bW ie fX TM N la lb 1 H):=by
   unfold cO bW;rw[qD _ _ _ (by omega),qD _ _ _ (by omega),PD]
  rw[e];exact ns) (by
  rw[KD (fun p hp=>by have:=hJ p hp;omega)];unfold cO bW
  rw[eK _ _ (by omega),eK _ _ (by omega),jW])
 have e9:aJ (J++cO N wc wr i r (bW ie fX TM N la lb 1 H')) (N+10) (.lp TM [79,80] ie fX 0 .none)=(J++[(N+12,.cells ydB ydB ydB 2 [aa wc,aa wr]),(N+11,.cells ydB ydB ydB 2 [aa i,aa r])])++bW ie fX TM N la lb 0 H':=by
  rw[V7 (fun p hp=>by have:=hJ p hp;omega),xt];unfold cO bW;rw[qD _ _ _ (by omega),qD _ _ _ (by omega),PD];rfl
 rw[e9] at LQ;exact⟨_,LQ⟩
def aBy(h:Av P L){la lb bs:Nat}{Bd E:List (Int×Int)}{M:List (List (Option Rat))}(lo:eA C R S v d f bv E (R*S) (C*S) M w (R*S+9) H)(hE:∀q,du E q=du Bd q)(hv:bi bQ v V)(hd:bi bQ d Dk)(hf:bi bQ f F)(ok:mC V Dk F C R S)(hC:C<=8)(hR:R<=8)(hS:S<=8)(fe:0<S)(eW:gS (R*S+10) TM)(hn:(dw TM).length<=1000)(t3:ak TM 3=.ptr 0 0)(t10:ak TM 10=.ptr 1 0)(t13:ak TM 13=.ptr 3 0)(t14:ak TM 14=.ptr 6 0)(t78:ak TM 78=.fn (.f 719) [] [fo C R S,nv la lb])(rP:la<C)(Uq:lb<R)(hw:nf (jT V Dk F S Bd) C R S (lb*C+la) 0 M):
  ∃M' w' H',eA C R S v d f bv E (R*S) (C*S) M' w' (R*S+9) H'/\(∀j,ah H (R*S+8)=GR j->ah H' (R*S+8)=GR j)/\nf (jT V Dk F S Bd) C R S (lb*C+la) (S*S) M'/\D P L (.rf (.t 78) [79,80] ie fX) ⟨TM,Ay (R*S) la lb H,R*S+10,bs⟩=GR (.normal,⟨TM,Ay (R*S) la lb H',R*S+11,bs⟩):=by
 have hN:R*S<=64:=y8 hR hS;have hm:C*S<=64:=y8 hC hS;have gF:∀{M w H},eA C R S v d f bv E (R*S) (C*S) M w (R*S+9) H->z8 (R*S+10+1) (R*S+10) (bW ie fX TM (R*S) la lb 0 H)=(bW ie fX TM (R*S) la lb 0 H,R*S+11):=fun lo=>PL (J:=[]) (by simp) (zU eW lo.bl 0) (by omega) (y7 (FJ hn lo.bl lo.rl 0) (by decide))
 have hz:∀{M w H},eA C R S v d f bv E (R*S) (C*S) M w (R*S+9) H->∀tm ct,bH [] ⟨tm,bW ie fX TM (R*S) la lb 0 H,ct,R*S+10+1⟩=⟨[],bW ie fX TM (R*S) la lb 0 H,R*S+11,R*S+10+1⟩:=fun {M w H} lo tm ct=>OT (live:=[]) trivial (zU eW lo.bl 0) (by
  have:=FJ (A:=ie) (B:=fX) (la:=la) (lb:=lb) hn lo.bl lo.rl 0
  show 0+(cE (R*S+11) (bW ie fX TM (R*S) la lb 0 H)).length<100000
  omega)
 obtain⟨G,c',⟨M',w',H',rfl,rfl,cN,p9,GA⟩,e⟩:=aBf (P:=P) (L:=L) h.toAvg.toCtd.SM (f:=.t 78) (ps:=[79,80]) (as_:=ie) (body:=fX) (s:=⟨TM,Ay (R*S) la lb H,R*S+10,bs⟩) (C:=C) (R:=R) (a:=la) (b:=lb) hS (by omega) (by omega) t78
  (Inv:=fun j G c'=>∃M' w' H',G=bW ie fX TM (R*S) la lb 0 H'/\c'=R*S+11/\eA C R S v d f bv E (R*S) (C*S) M' w' (R*S+9) H'/\(∀j,ah H (R*S+8)=GR j->ah H' (R*S+8)=GR j)/\nf (jT V Dk F S Bd) C R S (lb*C+la) j M')
  ⟨by rintro j G c' ⟨M',w',H',rfl,rfl,cN,_,_⟩;exact gF cN,by rintro j G c' ⟨M',w',H',rfl,rfl,cN,_,_⟩ tm ct;exact hz cN tm ct,by rintro j G c' ⟨M',w',H',rfl,rfl,_,_,_⟩;exact⟨_,_,_,_,by unfold bW;rw[jW]⟩⟩
  ⟨_,_,gF lo,M,w,H,rfl,rfl,lo,fun j hj=>hj,hw⟩ (by
   rintro r i G c' hr hi ⟨M',w',H',rfl,rfl,cN,p9,GA⟩;have hx:=HT rP hi;have hy:=HT Uq hr;obtain⟨w2,H2,J,EI,jG,hJ,aQ,e2⟩:=aEZ h cN hE hv hd hf ok hC hR hS fe eW hn t3 t10 t13 t14 rP Uq hi hr
   exact⟨_,_,_,_,e2,PL hJ (zU eW EI.bl 0) (by omega) (y7 (FJ hn EI.bl EI.rl 0) (by decide)),_,w2,H2,rfl,rfl,EI,fun j hj=>jG j (p9 j hj),nf.step (f:=jT V Dk F S Bd) (R:=R) fe rP hi hr GA (by rw[cN.lM];exact hy) (by rw[cN.rM _ hy];exact hx)⟩)
 refine⟨M',w',H',cN,p9,GA,e.trans ?_⟩;have hd:cS (bW ie fX TM (R*S) la lb 0 H') (R*S+10)=Ay (R*S) la lb H':=by
  unfold bW Ay
  rw[VR,Po _ _ (by omega),aeV (H:=H') cN.bl (show R*S+9<=R*S+10 by omega)]
 show GR (Ex.normal,(⟨TM,cS (bW ie fX TM (R*S) la lb 0 H') (R*S+10),R*S+11,bs⟩:St))=_
 rw[hd]
def aBz(h:Av P L){k:Nat}{Bd E:List (Int×Int)}{M:List (List (Option Rat))}(lo:eA C R S v d f bv E (R*S) (C*S) M w (R*S+9) H)(hg:ah H (R*S+8)=GR (.lp TM [74,75] oh ol 0 .none))(hE:∀q,du E q=du Bd q)(hv:bi bQ v V)(hd:bi bQ d Dk)(hf:bi bQ f F)(ok:mC V Dk F C R S)(hC:C<=8)(hR:R<=8)(hS:S<=8)(fe:0<S)(eW:gS (R*S+8) TM)(hn:(dw TM).length<=900)(t3:ak TM 3=.ptr 0 0)(t10:ak TM 10=.ptr 1 0)(t13:ak TM 13=.ptr 3 0)(t14:ak TM 14=.ptr 6 0)(hk:k<C*R)(hw:nf (jT V Dk F S Bd) C R S k 0 M):
  ∃M' w' H' J,eA C R S v d f bv E (R*S) (C*S) M' w' (R*S+9) H'/\ah H' (R*S+8)=GR (.lp TM [74,75] oh ol 0 .none)/\nf (jT V Dk F S Bd) C R S (k+1) 0 M'/\(∀p:Nat×Obj,p∈J->R*S+9<=p.1)/\∃aQ,kG (D P L) H (R*S+9) (R*S+8) [aa k,.agg [aa ((k%C:Nat):Int),aa ((k/C:Nat):Int)]]=GR (.bool ydB,J++H',aQ):=by
 obtain⟨l1,l2⟩:=avn hk;have qd:k/C*C+k%C=k:=by rw[xd];exact xE k C
 generalize k%C=la at*
 generalize k/C=lb at*
 subst qd;have akE:ab P L 673 [.agg [aa C,aa R,aa S],.agg [aa la,aa lb]] (.fn (.f 719) [] [fo C R S,nv la lb]):=by
  unfold ab;rw[aB h.toAvg.toCtd.aEn];simp only[go_sem,ya,yb,YB,fN,jf]
  first | done | rfl
 have fz:=Aa;have J3:=ZD;unfold ab at akE;generalize hNN:R*S=N at*
 obtain⟨ph,lY⟩:=lo.rcd (id:=N+8) (o:=.lp TM [74,75] oh ol 1 .none) (by omega) hg rfl (C1 (show N+8<=N+9 by omega) eW);have h0:=ph.g0;have jh:D P L oh ⟨(75,.agg [aa la,aa lb])::(74,aa (lb*C+la:Nat))::TM,H,N+9,N+9⟩=GR (.normal,⟨(17,.ptr (N+9) 0)::(75,.agg [aa la,aa lb])::(74,aa (lb*C+la:Nat))::TM,(N+9,.cells ydB ydB ydB 2 [aa la,aa lb])::H,N+10,N+9⟩):=by
  simp only[go_sem,ya,oh,jf,jy]
 generalize hH1:aJ H (N+8) (.lp TM [74,75] oh ol 1 .none)=H1 at*
 have key:∀{Az:Env} {Q},D P L (.rf (.t 78) [79,80] ie fX) ⟨Az,Ay N la lb H1,N+10,N+10⟩=Q->ak Az 3=.ptr 0 0->ak Az 10=.ptr 1 0->ak Az 13=.ptr 3 0->ak Az 14=.ptr 6 0->ak Az 78=.fn (.f 719) [] [fo C R S,nv la lb]->gS (N+10) Az->(dw Az).length<=1000->∃M' w' H',eA C R S v d f bv E N (C*S) M' w' (N+9) H'/\(∀j,ah H1 (N+8)=GR j->ah H' (N+8)=GR j)/\nf (jT V Dk F S Bd) C R S (lb*C+la) (S*S) M'/\Q=GR (.normal,⟨Az,Ay N la lb H',N+11,N+10⟩):=by
  intro Az Q hQ t3 t10 t13 t14 t78 eW hn
  have:=aBy h (TM:=Az) (bs:=N+10) (la:=la) (lb:=lb) (H:=H1) (M:=M) (w:=w) (by rw[hNN];exact ph) hE hv hd hf ok hC hR hS fe (by rw[hNN];exact eW) hn t3 t10 t13 t14 t78 l1 l2 hw
  rw[hNN] at this;obtain⟨M',w',H',q1,q2,q3,e⟩:=this;exact⟨M',w',H',q1,q2,q3,hQ.symm.trans e⟩
 have ns:∃M' w' H2,eA C R S v d f bv E N (C*S) M' w' (N+9) H2/\(∀j,ah H1 (N+8)=GR j->ah H2 (N+8)=GR j)/\nf (jT V Dk F S Bd) C R S (lb*C+la) (S*S) M'/\∃tm,D P L ol ⟨(17,.ptr (N+9) 0)::(75,.agg [aa la,aa lb])::(74,aa (lb*C+la:Nat))::TM,(N+9,.cells ydB ydB ydB 2 [aa la,aa lb])::H1,N+10,N+10⟩=GR (.normal,⟨tm,Ay N la lb H2,N+11,N+10⟩):=by
  unfold bG at h0;simp only[go_sem,ya,ol,t3,h0,sD,cd,fz,J3,akE,ye,uO,xG];generalize hQ:D P L (.rf _ _ _ _) _=Q;obtain⟨M',w',H2,q1,q2,q3,rfl⟩:=key hQ (by simp only[go_sem,ya,t3]) (by simp only[go_sem,ya,t10]) (by simp only[go_sem,ya,t13]) (by simp only[go_sem,ya,t14]) (by simp only[go_sem]) (by
   simp only[gS,below,lf,fo,nv]
   have:=C1 (show N+8<=N+10 by omega) eW
   simp[this]) (by simp[dw,refs,fY,fo,nv];omega)
  refine⟨M',w',H2,q1,q2,q3,?_⟩;simp only[go_sem];exact⟨_,rfl⟩
 obtain⟨M',w',H2,q1,q2,q3,tm,ns⟩:=ns;have Aj:=q2 _ lY;obtain⟨lo3,hg3⟩:=q1.rcd (id:=N+8) (o:=.lp TM [74,75] oh ol 0 .none) (by omega) Aj rfl (C1 (show N+8<=N+9 by omega) eW);refine⟨M',w',aJ H2 (N+8) (.lp TM [74,75] oh ol 0 .none),[(N+9,.cells ydB ydB ydB 2 [aa la,aa lb])],lo3,hg3,q3.next fe,?_,?_⟩
 .intro p hp;simp only[we,ua,yaA] at hp;rcases hp with rfl
  simp
 have LQ:=aet (P:=P) (L:=L) (hp:=H) (ct:=N+9) (l:=N+8) (xs:=[aa (lb*C+la:Nat),.agg [aa la,aa lb]]) hg rfl jh (by rw[eK _ _ (by omega)];exact hg) (by
  rw[qD _ _ _ (by omega),hH1];exact ns) (by unfold Ay;rw[eK _ _ (by omega)];exact Aj)
 have e9:aJ (Ay N la lb H2) (N+8) (.lp TM [74,75] oh ol 0 .none)=[(N+9,.cells ydB ydB ydB 2 [aa la,aa lb])]++aJ H2 (N+8) (.lp TM [74,75] oh ol 0 .none):=by
  unfold Ay;rw[qD _ _ _ (by omega)];rfl
 rw[e9] at LQ;exact⟨_,LQ⟩
def aBA(h:Av P L){Bd E:List (Int×Int)}{M:List (List (Option Rat))}(lo:eA C R S v d f bv E (R*S) (C*S) M w (R*S+8) H)(Cq:(cE (R*S+8) H).length<=100)(hE:∀q,du E q=du Bd q)(hv:bi bQ v V)(hd:bi bQ d Dk)(hf:bi bQ f F)(ok:mC V Dk F C R S)(hC:C<=8)(hR:R<=8)(hS:S<=8)(fe:0<S)(eW:gS (R*S+8) TM)(hn:(dw TM).length<=900)(t3:ak TM 3=.ptr 0 0)(t10:ak TM 10=.ptr 1 0)(t13:ak TM 13=.ptr 3 0)(t14:ak TM 14=.ptr 6 0)(t73:ak TM 73=.fn (.f 718) [] [fo C R S]):
  ∃M' w' H',eA C R S v d f bv E (R*S) (C*S) M' w' (R*S+9) H'/\nf (jT V Dk F S Bd) C R S (C*R) 0 M'/\D P L (.rf (.t 73) [74,75] oh ol) ⟨TM,H,R*S+8,0⟩=GR (.normal,⟨TM,cS H' (R*S+8),R*S+9,0⟩):=by
 have ph:=lo.push Cq (A:=oh) (B:=ol) eW hn;have gF:∀{M w H},eA C R S v d f bv E (R*S) (C*S) M w (R*S+9) H->z8 (R*S+8+1) (R*S+8) H=(H,R*S+9):=fun lo=>PL (J:=[]) (by simp) lo.bl (by omega) (y7 lo.rl (by decide))
 have hz:∀{M w H},eA C R S v d f bv E (R*S) (C*S) M w (R*S+9) H->∀tm ct,bH [] ⟨tm,H,ct,R*S+8+1⟩=⟨[],H,R*S+9,R*S+8+1⟩:=fun {M w H} lo tm ct=>OT (live:=[]) trivial lo.bl (by
  have:=lo.rl
  show 0+(cE (R*S+9) H).length<100000
  omega)
 have h1:=ay5 (P:=P) (L:=L) h.toAvg.toCtd.Ix (f:=.t 73) (ps:=[74,75]) (as_:=oh) (body:=ol) (s:=⟨TM,H,R*S+8,0⟩) (S:=S) hC hR t73
  (Inv:=fun k G c=>∃M' w',c=R*S+9/\eA C R S v d f bv E (R*S) (C*S) M' w' (R*S+9) G/\ah G (R*S+8)=GR (.lp TM [74,75] oh ol 0 .none)/\nf (jT V Dk F S Bd) C R S k 0 M') (Bad:=fun _ _=>False)
  ⟨by rintro j G c ⟨M',w',rfl,cN,_,_⟩;exact gF cN,by rintro j G c ⟨M',w',rfl,cN,_,_⟩ tm ct;exact hz cN tm ct,by rintro j G c ⟨M',w',rfl,cN,hg,_⟩;exact⟨_,_,_,_,hg⟩⟩
  ⟨_,_,gF ph,M,w,rfl,ph,jW _ _ _,fun x y _ _ hw=>by
   unfold J0 at hw
   simp at hw⟩ (by
   rintro k G c Bo ⟨M',w',rfl,cN,hg,hw⟩;obtain⟨M2,w2,H2,J,EI,Aj,iO,hJ,aQ,e2⟩:=aBz h cN hg hE hv hd hf ok hC hR hS fe eW hn t3 t10 t13 t14 Bo hw
   exact .inl ⟨_,_,_,_,e2,PL hJ EI.bl (by omega) (y7 EI.rl (by decide)),M2,w2,rfl,EI,Aj,iO⟩)
 rcases h1 with ⟨G,c,⟨M',w',rfl,cN,hg,hw⟩,hD⟩ | ⟨_,_,hf,_⟩
 .exact ⟨M',w',G,cN,hw,hD⟩
 .exact hf.elim
def azJ{Bd:List (Int×Int)}{M:List (List (Option Rat))}(hS:0<S)(hw:nf (jT V Dk F S Bd) C R S (C*R) 0 M)(hl:M.length=R*S)(hr:∀y,y<R*S->(M.getD y []).length=C*S):M=(iT V Dk F S Bd (C*S) (R*S)).map fun r=>r.map GR:=by
 refine ybO (by rw[hl,y5,Qi]) fun y h1 h2=>?_
 have hy:y<R*S:=by omega
 have hry:=hr y hy;rw[LP _ h1] at hry;have e:((iT V Dk F S Bd (C*S) (R*S)).map fun r=>r.map GR)[y]=(iv V Dk F S Bd (C*S) y).map GR:=by simp[iT]
 rw[e];refine ybO (by rw[hry,y5,so]) fun x h3 h4=>?_
 have hx:x<C*S:=by omega
 have e2:((iv V Dk F S Bd (C*S) y).map GR)[x]=GR (jT V Dk F S Bd x y):=by simp[iv]
 rw[e2];obtain⟨g1,_,_,_,_⟩:=aBt (R:=R) hS hx hy
 have:=hw x y hx hy (by unfold J0;rw[yZ g1];rfl)
 rw[LP _ h1,LP _ h3] at this;exact this
end
end
end VE
end
section
set_option maxHeartbeats 4000000
namespace VE
open Go (IntKind)
def avw{tm:Env}{hp:Hp}{ct N m:Nat}{C R S:Int}{v d f bv:AV}{E:List (Int×Int)}(h:Aw hp C R S v d f bv E)(mt:GM hp 6 N ydC ydB ydB 4 (yj N m) (yj N (rW m)) 0)(hN:N<=64)(hk:bF tm [3,10,13,14]=[(3,.ptr 0 0),(10,.ptr 2 0),(13,.ptr 4 0),(14,.ptr 6 0)]):
  ∃ap,bH [3,10,13,14] ⟨tm,hp,ct,0⟩=⟨[(3,.ptr 0 0),(10,.ptr 1 0),(13,.ptr 3 0),(14,.ptr 6 0)],ap,N+8,0⟩/\eA C R S v d f bv E N m (yj N (yj m none)) ydB (N+8) ap/\(cE (N+8) ap).length<=100:=by
 have lT:(yj N (rW m)).length=N:=wB;have hr:=(h.jR mt (by rw[lT];omega)).2;rw[lT] at hr;have hE:dw (bF tm [3,10,13,14])=[0,2,4,6]:=by rw[hk];rfl
 rw[<-hE] at hr;obtain⟨ap,e,g,gb,gr⟩:=abD (ct:=ct) hr;have hn:([0,2,3,4,1,5,6,7]++cK 6 N).Nodup:=by
  refine List.nodup_append.2 ⟨by decide,List.nodup_range',fun u hu w hw q=>?_⟩;have h1:=EX.1 hw;have h2:∀u,u∈[0,2,3,4,1,5,6,7]->u<8:=by decide
  have:=h2 u hu
  omega
 have ls:([0,2,3,4,1,5,6,7]++cK 6 N).length=N+8:=by rw[yO,pD];simp;omega
 have pp:=fun j (hj:j<([0,2,3,4,1,5,6,7]++cK 6 N).length)=>KQ ([0,2,3,4,1,5,6,7]++cK 6 N) 0 j hj hn
 simp only[yd] at pp;have q8:∀(j i:Nat) (_:[0,2,3,4,1,5,6,7][j]? =GR i),∃hj:j<([0,2,3,4,1,5,6,7]++cK 6 N).length,([0,2,3,4,1,5,6,7]++cK 6 N)[j]=i:=fun j i hj=>by
  obtain⟨h1,h2⟩:=xM.1 hj;exact⟨by rw[yO];omega,by rw[List.getElem_append_left h1];exact h2⟩
 have qI:∀i,i<N->∃hj:8+i<([0,2,3,4,1,5,6,7]++cK 6 N).length,([0,2,3,4,1,5,6,7]++cK 6 N)[8+i]=8+i:=fun i hi=>by
  refine⟨by rw[ls];omega,?_⟩;rw[List.getElem_append_right (by simp)];simp[cK]
 have D0:∀(j i:Nat) (_:[0,2,3,4,1,5,6,7][j]? =GR i),gV i ([0,2,3,4,1,5,6,7]++cK 6 N) 0=GR j:=fun j i hj=>by
  obtain⟨h1,h2⟩:=q8 j i hj
  have:=pp j h1
  rwa[h2] at this
 have aE0:∀i,i<N->gV (8+i) ([0,2,3,4,1,5,6,7]++cK 6 N) 0=GR (8+i):=fun i hi=>by
  obtain⟨h1,h2⟩:=qI i hi
  have:=pp (8+i) h1
  rwa[h2] at this
 have a0:=D0 0 0 rfl;have a1:=D0 4 1 rfl;have a2:=D0 1 2 rfl;have a3:=D0 2 3 rfl;have a4:=D0 3 4 rfl;have a5:=D0 5 5 rfl;have a6:=D0 6 6 rfl;have a7:=D0 7 7 rfl;have gt:∀(j i:Nat) (_:[0,2,3,4,1,5,6,7][j]? =GR i) (o:Obj),ah hp i=GR o->ah ap j=GR (dY (pos ([0,2,3,4,1,5,6,7]++cK 6 N)) o):=fun j i hj o ho=>by
  obtain⟨h1,h2⟩:=q8 j i hj;exact g j h1 o (by rw[h2];exact ho)
 have gI:∀i,i<N->∀o,ah hp (8+i)=GR o->ah ap (8+i)=GR (dY (pos ([0,2,3,4,1,5,6,7]++cK 6 N)) o):=fun i hi o ho=>by
  obtain⟨h1,h2⟩:=qI i hi;exact g (8+i) h1 o (by rw[h2];exact ho)
 generalize hSe:([0,2,3,4,1,5,6,7]++cK 6 N)=Se at*
 have rows:=mt.m;rw[lT,Me] at rows;have rR:dY (pos Se) (.cells ydB ydC ydB 1 (gP (cK 6 N) (yj N m)))=.cells ydB ydC ydB 1 (gP (cK 6 N) (yj N m)):=by
  have:=V2 (f:=pos Se) (ids:=cK 6 N) (W:=yj N m) 0 8 (by rw[pD,wB]) (fun i hi=>by
   rw[V6,pos_eq];rw[pD] at hi
   exact aE0 i hi)
  rw[Me,Me,pD] at this;rw[LH,this];rfl
 have rB:dY (pos Se) (.cells ydB ydC ydB 1 [.ay 7 0 N])=.cells ydB ydC ydB 1 [.ay 7 0 N]:=by rw[LH];simp[dA,bn,pos_eq,a7]
 have rC:dY (pos Se) (.cells ydB ydC ydB 1 [.fn (.f 671) [] [.ptr 1 0,.ptr 5 0]])=.cells ydB ydC ydB 1 [GN]:=by rw[LH];simp[dA,bn,pos_eq,a1,a5,GN]
 have rM:dY (pos Se) (.cells ydB ydC ydB 1 [.map 3])=.cells ydB ydC ydB 1 [.map 2]:=by rw[LH];simp[dA,bn,pos_eq,a3]
 have Ou:∀y,y<N->(yj N (yj m (none:Option Rat))).getD y []=yj m none:=fun y hy=>by
  rw[LP _ (by rw[wB];exact hy),tK]
 have h0:=gt 0 0 rfl _ h.g0;have h1:=gt 1 2 rfl _ h.g2;have h2:=gt 2 3 rfl _ h.g3;have h3:=gt 3 4 rfl _ h.g4;have h4:=gt 4 1 rfl _ h.g1;have h5:=gt 5 5 rfl _ h.g5;have h6:=gt 6 6 rfl _ mt.b;have h7:=gt 7 7 rfl _ rows;rw[rM] at h1;rw[He] at h2;rw[rC] at h3;rw[rB] at h6;rw[rR] at h7;have h8:∀y,y<N->ah ap (8+y)=GR (.cells ydB ydB ydB 4 (rW m)):=fun y hy=>by
  have:=mt.r y (by rw[lT];exact hy)
  rw[DH (by rw[lT];exact hy),tK] at this
  have:=gI y hy _ this
  rw[W0] at this;exact this
 have cnt:(cE (N+8) ap).length<=100:=by
  rw[<-ls];refine y7 gr ?_;rw[<-hSe,xu,List.sum_append];have c0:∀(i:Nat) (o:Obj),ah hp i=GR o->No hp (pos ([0,2,3,4,1,5,6,7]++cK 6 N)) i=(dz (dY (pos ([0,2,3,4,1,5,6,7]++cK 6 N)) o)).length:=fun i o ho=>by unfold No;rw[ho]
  have z:∀(l:List Nat) (f:Nat->Nat),(∀i,i∈l->f i=0)->(l.map f).sum=0:=fun l f h=>by
   induction l with
   | nil=>rfl
   | cons i l ih=>rw[xb,ybB,h i xJ,ih fun j hj=>h j (xr _ hj)]
  rw[hSe] at c0 ⊢
  rw[z (cK 6 N) _ (fun i hi=>by
   have b6:=EX.1 hi
   have:=mt.r (i-8) (by rw[lT];omega)
   rw[show 6+2+(i-8)=i by omega] at this
   rw[c0 i _ this,W0];rfl)]
  simp only[xb,wO,ybB,List.sum_nil];rw[c0 0 _ h.g0,c0 2 _ h.g2,c0 3 _ h.g3,c0 4 _ h.g4,c0 1 _ h.g1,c0 5 _ h.g5,c0 6 _ mt.b,c0 7 _ rows,rM,He,rC,rB,rR];have x7:(dz (.cells ydB ydC ydB 1 (gP (cK 6 N) (yj N m)))).length<=64:=by
   have:=Pq 0 (ids:=cK 6 N) (W:=yj N m) (by rw[pD,wB])
   rw[Me] at this;rw[P3,this,pD];exact hN
  have x0:(dz (dY (pos Se) (bG C R S))).length=0:=rfl;have x2:(dz (.cells ydB ydC ydB 1 [.map 2])).length=1:=rfl;have x3:(dz (.mp ydB (jK E) (jL E))).length=0:=by rw[G9];rfl
  have x4:(dz (.cells ydB ydC ydB 1 [GN])).length=2:=rfl;have x1:(dz (dY (pos Se) (.cells ydB ydB ydB 1 [v]))).length=0:=rfl;have x5:(dz (dY (pos Se) (bg d f bv))).length=0:=rfl;have x6:(dz (.cells ydB ydC ydB 1 [.ay 7 0 N])).length=1:=rfl;omega
 refine⟨ap,?_,⟨h0,h1,h2,h3,h4,h5,h6,h7,fun y hy=>⟨rW m,h8 y hy,by rw[Ou y hy];exact agR m⟩,fun y hy=>by rw[Ou y hy,wB],wB,?_,by omega,by omega⟩,cnt⟩
 .rw [e,ls,hk]
  congr 1
  simp only[go_sem,a0,a2,a4,a6]<;>rfl
 .rw [<-ls];refine gb fun i hi o ho=>?_
  rw[ls];rw[<-hSe] at hi;rcases wD.1 hi with hi | hi
  .have pu:∀{rw ex:Bool} {z:Nat} {cs:List AV},lH (N+8) (dY (pos Se) (.cells rw ydB ex z cs)):=.inl rfl;simp only[we,ua,yaA] at hi;rcases hi with rfl | rfl | rfl | rfl | rfl | rfl | rfl | rfl
   .rw [h.g0] at ho;cases ho;exact .inl rfl
   .rw [h.g2] at ho;cases ho;rw[rM];exact .inr ⟨by show 2<N+8;omega,trivial⟩
   .rw [h.g3] at ho;cases ho;rw[He];exact⟨C2 (BT E).1,C2 (BT E).2⟩
   .rw [h.g4] at ho;cases ho;rw[rC];exact .inr ⟨⟨trivial,⟨by show 4<N+8;omega,⟨by show 5<N+8;omega,trivial⟩⟩⟩,trivial⟩
   .rw [h.g1] at ho;cases ho;exact .inl rfl
   .rw [h.g5] at ho;cases ho;exact .inl rfl
   .rw [mt.b] at ho;cases ho;rw[rB];exact .inr ⟨by show 7<N+8;omega,trivial⟩
   .rw [rows] at ho;cases ho;rw[rR];refine .inr ?_
    have:=acR (n:=N+8) (r:=0) (ids:=cK 6 N) (W:=yj N m) (fun j hj=>by have:=EX.1 hj;omega)
    rw[Me] at this;exact this
  .have b6:=EX.1 hi
   have:=mt.r (i-8) (by rw[lT];omega)
   rw[show 6+2+(i-8)=i by omega] at this;rw[this] at ho;cases ho;exact .inl rfl
def aBB{hp:Hp}{N m:Nat}{M:List (List Rat)}(gr:∀y (h:y<M.length),∃cs,ah hp (8+y)=GR (.cells ydB ydB ydB 4 cs)/\QL cs M[y])(lM:M.length=N)(rM:∀y (h:y<M.length),M[y].length=m)(hN:N<=64):∃rows,(∀n,910<=n->∃ap,cD n hp (gP (cK 6 N) (yj N m))=GR (rows,ap))/\rows.length=N/\eN nO rows M:=by
 have hT:∃T:List (List AV),T.length=N/\∀y (h:y<T.length),ah hp (8+y)=GR (.cells ydB ydB ydB 4 T[y])/\∀(h':y<M.length),QL T[y] M[y]:=by
  refine⟨(wq N).map fun y=>if h:y<M.length then Classical.choose (gr y h) else [],by simp,fun y h=>?_⟩;have hy:y<M.length:=by rw[lM];simpa using h
  have hc:=Classical.choose_spec (gr y hy);simp only[vm,List.getElem_range,hy,dif_pos];exact⟨hc.1,fun _=>hc.2⟩
 obtain⟨T,lT,hT⟩:=hT;refine⟨uI (fun w r=>.au ydB w r) (yj N m) T,fun n hn=>?_,by simp[lT],?_⟩
 .obtain ⟨ap,e,_⟩:=Vx (sz:=4) (y:=ydB) (by decide) (cK 6 N) (yj N m) T hp n (by rw[pD];omega) (by rw[pD,lT]) (by simp[lT]) (fun i h1 h2 h3=>by
   obtain⟨q1,q2⟩:=hT i h2;have JZ:i<M.length:=by omega
   have:=(q2 JZ).len
   refine⟨by rw[this,rM i JZ,tK],ydB,?_⟩;rw[V6,show 6+2+i=8+i by omega]
   exact q1)
  exact⟨ap,e⟩
 .have key:∀(T:List (List AV)) (M:List (List Rat)) (N:Nat),T.length=N->M.length=N->(∀y (h:y<T.length) (h':y<M.length),QL T[y] M[y]/\M[y].length=m)->eN nO (uI (fun w r=>AV.au ydB w r) (yj N m) T) M:=by
   intro T
   induction T with
   | nil=>intro M N h1 h2 _;subst h1;rw[ybb.1 h2];trivial
   | cons t T ih=>
    intro M N h1 h2 h3
    cases M with
    | nil=>simp at h1 h2;omega
    | cons r M=>
     simp only[yH] at h1 h2;subst h1;rw[List.replicate_succ,List.zipWith_cons_cons];obtain⟨q1,q2⟩:=h3 0 (by simp) (by simp);refine⟨?_,ih M T.length rfl (by omega) fun y h h'=>h3 (y+1) (by simpa using h) (by simpa using h')⟩
     have:=aeK ydB q1
     rw[q2] at this;exact this
  exact key T M N lT lM fun y h h'=>⟨(hT y h).2 h',rM y h'⟩
end VE
end
section
set_option maxHeartbeats 4000000
namespace VE
open Go (IntKind)
section
variable {bv d f v:AV}{Dk F V:List (List Nat)}
section
variable {P:aE}{L:Lib}
def asX(h:Av P L){C R S:Int}{Bd:List (Int×Int)}(hc:j9 d f bv Dk F Bd)(hv:bi bQ v V)(oE:nd C R S Dk F Bd≠0):ab P L 640 [.agg [aa C,aa R,aa S],.agg [d,f,bv],v] (.av [.aj,aa (nd C R S Dk F Bd)]):=by
 have e1:=SW h.toCmr hc (C:=C) (R:=R) (S:=S);have fz:=Aa;have jJ:=hc.fz;have eh:=hc.bx;have OA:∀ct,mY ct 1 [v]=GR (.ptr ct 0,.cells ydB ydB ydB 1 [v]):=fun ct=>by
  rw[aT (n:=1) rfl (by simp only[cf,hv.one];rfl)];simp[aF,hv.pu]
 generalize nd C R S Dk F Bd=q at*
 unfold ab at e1;unfold ab;rw[aB h.sZ];simp only[go_sem,ya,yb,MH,fN,eh,OA,bg,ye,lk,fz,jJ,e1,hv.cells,oE]
def aqv(h:Av P L){C R S:Nat}{Bd:List (Int×Int)}(hc:j9 d f bv Dk F Bd)(hv:bi bQ v V)(hl:V.length<=1000000)(hr:∀r,r∈V->r.length<=1000000)(hC:C<=8)(hR:R<=8)(hS:S<=8)(Ae:nd C R S Dk F Bd=0)(oE:gL (R*S) (C*S) V≠0):ab P L 640 [.agg [aa C,aa R,aa S],.agg [d,f,bv],v] (.av [.aj,aa (gL (R*S) (C*S) V)]):=by
 have e1:=SW h.toCmr hc (C:=C) (R:=R) (S:=S);have e2:=Nj h.toCmr.toFrc hC hR hS hv hl hr;rw[Ae] at e1;have fz:=Aa;have jJ:=hc.fz;have eh:=hc.bx;have OA:∀ct,mY ct 1 [v]=GR (.ptr ct 0,.cells ydB ydB ydB 1 [v]):=fun ct=>by
  rw[aT (n:=1) rfl (by simp only[cf,hv.one];rfl)];simp[aF,hv.pu]
 generalize gL (R*S) (C*S) V=q at*
 unfold ab at e1 e2;unfold ab;rw[aB h.sZ];simp only[go_sem,ya,yb,MH,fN,eh,OA,bg,ye,lk,fz,jJ,e1,hv.ai,hv.cells,e2,oE]
def avx(h:Av P L){C R S:Nat}{Bd:List (Int×Int)}(hc:j9 d f bv Dk F Bd)(hv:bi bQ v V)(hl:V.length<=1000000)(hr:∀r,r∈V->r.length<=1000000)(ok:mC V Dk F C R S)(hC:C<=8)(hR:R<=8)(hS:S<=8)(fe:0<S)(GJ:0<C)(hR0:0<R)(Ae:nd C R S Dk F Bd=0)(iI:gL (R*S) (C*S) V=0):
  (((iT V Dk F S Bd (C*S) (R*S)).any fun r=>r.any ej)=ydB->ab P L 640 [.agg [aa C,aa R,aa S],.agg [d,f,bv],v] (.av [.aj,aa 4]))/\(((iT V Dk F S Bd (C*S) (R*S)).any fun r=>r.any ej)=ydC->∃rows,ab P L 640 [.agg [aa C,aa R,aa S],.agg [d,f,bv],v] (.av [.au ydC (R*S) rows,aa 0])/\bi (bi iS) (.au ydC (R*S) rows) (iT V Dk F S Bd (C*S) (R*S))):=by
 have rV:R*S<=64:=y8 hR hS;have At:C*S<=64:=y8 hC hS;have aEY:0<R*S:=vd hR0 fe;have Tc:0<C*S:=vd GJ fe;have e1:=SW h.toCmr hc (C:=C) (R:=R) (S:=S);have e2:=Nj h.toCmr.toFrc hC hR hS hv hl hr;have e3:=aEp (P:=P) (L:=L) h.toAvg.toCtd.aEo C R S;rw[Ae] at e1;rw[iI] at e2;have fz:=Aa;have jJ:=hc.fz;have eh:=hc.bx;have lb:=hc.len;have aS:iP 2 bv (Bd.map fun p=>[aa p.1,aa p.2]):=hc.b;have OA:∀ct,mY ct 1 [v]=GR (.ptr ct 0,.cells ydB ydB ydB 1 [v]):=fun ct=>by
  rw[aT (n:=1) rfl (by simp only[cf,hv.one];rfl)];simp[aF,hv.pu]
 have hbm:∀ct,mY ct 1 [.gU]=GR (.ptr ct 0,.cells ydB ydB ydB 1 [.gU]):=fun _=>rfl
 have hbf:∀ct,mY ct 1 [.fQ]=GR (.ptr ct 0,.cells ydB ydB ydB 1 [.fQ]):=fun _=>rfl
 have hbn:∀ct,mY ct 1 [.aj]=GR (.ptr ct 0,.cells ydB ydB ydB 1 [.aj]):=fun _=>rfl
 have hsm:∀(hp:Hp) (ct id j:Nat),iM hp ct id 0 1 [.map j] (GR (.cells ydB ydB ydB 1 [.gU]))=GR (.av [],aJ hp id (.cells ydB ydC ydB 1 [.map j]),ct):=fun _ _ _ _=>rfl
 have hsf:∀(hp:Hp) (ct id:Nat),iM hp ct id 0 1 [.fn (.f 671) [] [.ptr 2 0,.ptr 1 0]] (GR (.cells ydB ydB ydB 1 [.fQ]))=GR (.av [],aJ hp id (.cells ydB ydC ydB 1 [.fn (.f 671) [] [.ptr 2 0,.ptr 1 0]]),ct):=fun _ _ _=>rfl
 have hss:∀(hp:Hp) (ct id j o n:Nat),iM hp ct id 0 1 [.ay j o n] (GR (.cells ydB ydB ydB 1 [.aj]))=GR (.av [],aJ hp id (.cells ydB ydC ydB 1 [.ay j o n]),ct):=fun _ _ _ _ _ _=>rfl
 have gF:∀j,cellsOf (.map j)=[.map j]:=fun _=>rfl
 have po:cellsOf .gU=[.gU]:=rfl;have jH:cellsOf .fQ=[.fQ]:=rfl;have aE1:cellsOf (.fn (.f 671) [] [.ptr 2 0,.ptr 1 0])=[.fn (.f 671) [] [.ptr 2 0,.ptr 1 0]]:=rfl;have Na:=azB (P:=P) (L:=L) (C:=C) (R:=R) (S:=S) (d:=d) (f:=f) (v:=v) hc.b hc.bl;unfold ab at e1 e2 e3 ⊢;rw[aB h.sZ];simp only[go_sem,ya,yb,MH,fN,eh,OA,bg,ye,lk,fz,jJ,e1,hv.ai,hv.cells,e2,hbm,hsm,gF,po,aP,yd,yk,lb];generalize hQ:D P L (.loop _ Lv) _=Q;obtain⟨ex,st,rfl,tm,E,rfl,rfl,hE,ew⟩:=bt hQ (Na Bd.length) ⟨0,[],by omega,fun q=>rfl,by simp only[go_sem,ya,aq,S5,sZ,bg,bG,jK,jL,PM,wO,aD aS.pu]<;>rfl⟩
 have cL:bH [3,4,5,10] ⟨tm,sZ C R S v d f bv E,5,0⟩=⟨[(3,.ptr 0 0),(4,.ptr 1 0),(5,.ptr 2 0),(10,.ptr 3 0)],sZ C R S v d f bv E,5,0⟩:=by
  rw[nA (c':=5) (tm':=[(3,.ptr 0 0),(4,.ptr 1 0),(5,.ptr 2 0),(10,.ptr 3 0)]) (by rw[ew];rfl)]
  simp only[go_sem,ya,yb,aq,sZ,bg,bG,PM,G9,He,WA,WB]<;>rfl
 have hVl:=ok.hV.len;have asN:bY (aa (R*S:Nat))=GR (R*S):=rfl;have cy:∀ct,zY ct 1 24 [.aj] (GR (R*S)) (GR (R*S))=GR (.ay ct 0 (R*S),.cells ydB ydB ydB 1 (yj (R*S) [AV.aj]).flatten):=fun ct=>Fm (by omega) (by omega) rfl rfl
 simp only[go_sem,ya,cL];simp only[go_sem,ya,yb,sZ,bg,bG,hbf,jH,aE1,hsf,ye,hv.len,hVl,asN,cy,hbn,hss];have IJ:(yj (R*S) [AV.aj]).flatten=gQ [] [] (R*S):=by unfold gQ gP;simp
 have Zw:=azD (P:=P) (L:=L) (d:=d) (f:=f) (bv:=bv) (E:=E) (C:=C) (R:=R) (S:=S) hv ok.hV rV Tc At;generalize hN:R*S=N at*
 generalize hm:C*S=m at*
 generalize hQ:D P L (.loop _ Lw) _=Q;obtain⟨ex,st,rfl,tm,hp3,ct,rfl,rfl,hM,hB,ew⟩:=bt hQ (Zw N) ⟨0,[(7,.cells ydB ydB ydB 1 (yj N [AV.aj]).flatten),(6,.cells ydB ydC ydB 1 [.ay 7 0 N]),(5,bg d f bv),(4,.cells ydB ydC ydB 1 [.fn (.f 671) [] [.ptr 1 0,.ptr 5 0]]),(3,.mp ydB (jK E) (jL E)),(2,.cells ydB ydC ydB 1 [.map 3]),(1,.cells ydB ydB ydB 1 [v]),(0,bG C R S)],by omega,⟨rfl,rfl,by rw[IJ];rfl,fun q=>absurd q (by simp),fun i hi=>absurd hi (by simp)⟩,⟨rfl,rfl,rfl,rfl,rfl,rfl⟩,by
  simp only[go_sem,ya,yb,aq,AZ,bg,bG,PM,G9,He,WA,WB]<;>rfl⟩
 rw[yJ (show ¬N=0 by omega)] at hM;obtain⟨hp4,q1,lo,Cq⟩:=avw (ct:=ct) hB hM rV ew;have h0:=lo.g0;unfold bG at h0;subst hN hm;obtain⟨M',w',H',cN,hw,hD⟩:=aBA h (TM:=[(73,.fn (.f 718) [] [fo C R S]),(72,.agg [aa C,aa R,aa S]),(3,.ptr 0 0),(10,.ptr 1 0),(13,.ptr 3 0),(14,.ptr 6 0)]) lo Cq hE hv hc.d hc.f ok hC hR hS fe (by simp[gS,below,lf,fo]) (by simp[dw,refs,fY,fo]) (by simp only[go_sem,ya]) (by simp only[go_sem,ya]) (by simp only[go_sem,ya]) (by simp only[go_sem,ya]) (by simp only[go_sem]);have hMs:=azJ fe hw cN.lM cN.rM;simp only[go_sem,ya,q1,h0,sD,fz,e3,hD];have bL:∀j,j≠R*S+8->ah (cS H' (R*S+8)) j=ah H' j:=fun j hj=>by rw[Kh,yq hj]
 have gb4:ah (cS H' (R*S+8)) 6=GR (.cells ydB ydC ydB 1 [.ay 7 0 (R*S)]):=by rw[bL 6 (by omega)];exact cN.gb
 have gm4:ah (cS H' (R*S+8)) 7=GR (.cells ydB ydC ydB 1 (gP (cK 6 (R*S)) (yj (R*S) (C*S)))):=by rw[bL 7 (by omega)];exact cN.gm
 have lM:=Qi V Dk F S Bd (C*S) (R*S);have rM:∀y (h:y<(iT V Dk F S Bd (C*S) (R*S)).length),((iT V Dk F S Bd (C*S) (R*S))[y]).length=C*S:=fun y h=>by
  have:(iT V Dk F S Bd (C*S) (R*S))[y]=iv V Dk F S Bd (C*S) y:=by simp[iT]
  rw[this,so]
 have gr4:∀y (h:y<(iT V Dk F S Bd (C*S) (R*S)).length),∃cs,ah (cS H' (R*S+8)) (8+y)=GR (.cells ydB ydB ydB 4 cs)/\QL cs (iT V Dk F S Bd (C*S) (R*S))[y]:=fun y h=>by
  obtain⟨cs,g1,g2⟩:=cN.gr y (by omega);refine⟨cs,by rw[bL (8+y) (by omega)];exact g1,?_⟩
  rw[hMs,LP _ (by rw[y5];exact h),vm] at g2
  exact g2.ql
 obtain⟨rows,aE2,aBC,hR'⟩:=aBB gr4 lM rM rV;have e8:=aEN h.toAvg.toFto (v:=.au ydB (R*S) rows) (M:=iT V Dk F S Bd (C*S) (R*S)) (K:=1400) (by
  have:=Df ydB hR'
  rwa[lM] at this) (by omega) (by omega) (fun r hr=>by
  obtain⟨k,hk,rfl⟩:=wW.1 hr;have hk:=tE.1 hk;refine⟨by rw[so];exact Tc,by rw[so];omega,fun x hx=>?_⟩
  obtain⟨c,hc,rfl⟩:=wW.1 hx
  exact ok.q fe (tE.1 hc) hk) (by decide)
 rw[lM] at e8;unfold ab at e8;generalize cS H' (R*S+8)=H4 at*
 simp only[go_sem,gb4,ye];obtain⟨hp5,e9⟩:=aE2 997 (by decide);have zx:mZ 0 (R*S) (Cn 997 7 H4 (ah H4 7))=GR (.au ydB (R*S) rows,aJ hp5 7 (.cells ydC ydC ydB 1 (gP (cK 6 (R*S)) (yj (R*S) (C*S))))):=by
  rw[gm4,agO e9];exact jX ydB (by rw[aBC,yg]) (by decide)
 refine⟨fun q=>?_,fun q=>?_⟩
 .have e8:=e8.1 q;simp only[go_sem,ya,zx,e8,iA,iw,iz,US,Ko]
 .obtain ⟨aBD,e8,hR2⟩:=e8.2 q;refine⟨aBD,?_,hR2⟩;simp only[go_sem,ya,zx,e8,iA,iw,iz,Ko]
end
end
structure FrV(v:AV):Prop where
 ai:∀(n:Nat) {hp:Hp},freeze (n+1) hp v=GR (v,hp)
 shut:shut v=v
 bN:bN v=v
def bi.frV{β:Type}{p:AV->β->Prop}{v:AV}{M:List β}(h:bi p v M):FrV v:=⟨fun n=>h.ai n,h.shut,h.bN⟩
end VE
end
section
set_option maxHeartbeats 4000000
namespace VE
open Go (IntKind)
def Xl{a b c:AV}(h1:dN a=ydB)(h2:dN b=ydB)(h3:dN c=ydB)(p1:aX a=ydB)(p2:aX b=ydB)(hp:Hp)(ct id:Nat)(x y z:AV):iM hp ct id 0 3 [a,b,c] (GR (.cells ydB ydB ydB 3 [x,y,z]))=GR (.av [],aJ hp id (.cells ydB (aX c) ydB 3 [a,b,c]),ct):=by
 simp[iM,cf,aF,h1,h2,h3,p1,p2,over];rfl
def agZ{x y:AV}(hx:∀(n:Nat) {hp:Hp},freeze (n+1) hp x=GR (x,hp))(hy:∀(n:Nat) {hp:Hp},freeze (n+1) hp y=GR (y,hp)){hp:Hp}{id n:Nat}{cs:List AV}(hg:ah hp id=GR (.cells ydB ydB ydC 2 cs))(hl:cs.length=n*2):result hp (.agg [x,y,.ay id 0 n])=GR (.agg [x,y,.au ydC n cs]):=by
 have fa:=fun hp:Hp=>jX (hp:=hp) (sz:=2) (cs:=cs) (k:=n) ydC hl (by decide)
 have e:cD 999 hp [x,y,.ay id 0 n]=GR ([x,y,.au ydC n cs],aJ hp id (.cells ydC ydB ydC 2 cs)):=by simp only[go_sem,hx,hy,hg,fa]
 have e2:freeze 1000 hp (.agg [x,y,.ay id 0 n])=GR (.agg [x,y,.au ydC n cs],aJ hp id (.cells ydC ydB ydC 2 cs)):=by
  show (match cD 999 hp [x,y,.ay id 0 n] with | some (dJ,ap)=>GR (AV.agg dJ,ap) | none=>none)=_
  rw[e]
 show (match freeze 1000 hp (.agg [x,y,.ay id 0 n]) with | some (v',_)=>GR v' | none=>none)=_
 rw[e2]
section
variable {P:aE}{L:Lib}
def aE3(Td:Has P L 638 MF)(Ga:Has P L 639 MG){d f bv:AV}{Dk F:List (List Nat)}{Bd:List (Int×Int)}(hc:j9 d f bv Dk F Bd)(hl6:Bd.length<=900)(aE4:Dk.length<=900)(aE5:F.length<=900):∃d' f' b',ab P L 638 [.agg [d,f,bv]] (.agg [d',f',b'])/\j9 d' f' b' Dk F Bd:=by
 have eh:=hc.bx;have hd:=hc.d;have hf:=hc.f;have bxn:=Ui (d:=.aj) (f:=.aj) (b:=.aj) ⟨rfl,rfl⟩ ⟨rfl,rfl⟩ ⟨rfl,rfl⟩;obtain⟨x,e1,ix,sx⟩:=ZF (P:=P) (L:=L) Ga hc.d aE4 hc.dr;obtain⟨y,e2,iy,sy⟩:=ZF (P:=P) (L:=L) Ga hc.f aE5 hc.fr;have aS:iP 2 bv (Bd.map fun p=>[aa p.1,aa p.2]):=hc.b;have mk:∀{b':AV},Cy b' Bd->j9 x y b' Dk F Bd:=fun hb=>⟨ix,iy,hb,hc.dl,hc.dr,hc.fl,hc.fr,hc.bl⟩
 unfold ab at e1 e2;refine⟨x,y,?_⟩;rcases aS.1 with ⟨rfl,hz⟩ | ⟨e,rfl⟩
 .have eG:Bd=[]:=by simpa using hz
  subst eG;have lV:=fun (hp:Hp) (ct id:Nat) (hg:ah hp id=GR (.cells ydB ydB ydB 2 []))=>gR (ct:=ct) (by':=16) (new:=[]) (m:=0) (n:=0) hg rfl (by decide) (by decide) (by decide) rfl
  refine⟨.au ydC 0 [],?_,mk (Wz (k:=2) (ps:=[]) ydC (fun p hp=>by cases hp))⟩;unfold ab;rw[aB Td];simp only[go_sem,ya,yb,xy,yh,MF,eh,bxn,bg,aP,yd,ye,yk,hc.d.ai,hc.f.ai,ix.shut,ix.one,ix.cells,iy.shut,iy.one,iy.cells,e1,e2,cM,ab2,lV,aF,List.append_nil,vh];have aR:=Xl (c:=.ay 3 0 0) ix.one iy.one rfl ix.pu iy.pu;have fa:=fun hp:Hp=>jX (hp:=hp) (sz:=2) (cs:=[]) (k:=0) ydC rfl (by decide)
  have oK:=fun {hp:Hp} {id:Nat} hg=>agZ (fun n _=>ix.ai n) (fun n _=>iy.ai n) (hp:=hp) (id:=id) (n:=0) (cs:=[]) hg rfl
  simp only[go_sem,ya,aR,dL,dO,IU,lk,oK]
 .have rF:(Bd.map fun p=>[aa p.1,aa p.2]).flatten.length=Bd.length*2:=by
   rw[adJ (k:=2) (fun p hp=>by obtain⟨t,_,rfl⟩:=wW.1 hp;rfl),y5]
  have ho:∀B:List (Int×Int),cf (B.map fun p=>[aa p.1,aa p.2]).flatten=ydB/\aF (B.map fun p=>[aa p.1,aa p.2]).flatten=ydB:=fun B=>by
   induction B with
   | nil=>exact⟨rfl,rfl⟩
   | cons p ps ih=>
    rw[xb,List.flatten_cons];exact⟨by show cf (aa p.1::aa p.2::(ps.map fun p=>[aa p.1,aa p.2]).flatten)=ydB;simp only[cf,ih.1];rfl,by show aF (aa p.1::aa p.2::(ps.map fun p=>[aa p.1,aa p.2]).flatten)=ydB;simp only[aF,ih.2];rfl⟩
  obtain⟨o1,o2⟩:=ho Bd;have sM:∀hp,sq hp 2 (.au e (Bd.map fun p=>[aa p.1,aa p.2]).length (Bd.map fun p=>[aa p.1,aa p.2]).flatten)=GR (Bd.length,(Bd.map fun p=>[aa p.1,aa p.2]).flatten):=fun hp=>by
   rw[acz];simp only[pE,rF,Nat.beq_refl,yx,y5]
  have hm:=mk (b':=.au ydC Bd.length (Bd.map fun p=>[aa p.1,aa p.2]).flatten) (by
   have:=Wz (k:=2) (ps:=Bd.map fun p=>[aa p.1,aa p.2]) ydC (fun p hp=>by obtain⟨t,_,rfl⟩:=wW.1 hp;rfl)
   rw[y5] at this
   exact this)
  refine⟨_,?_,hm⟩;have lV:=fun (hp:Hp) (ct id:Nat) (hg:ah hp id=GR (.cells ydB ydB ydB 2 []))=>gR (ct:=ct) (by':=16) (new:=(Bd.map fun p=>[aa p.1,aa p.2]).flatten) (m:=Bd.length) (n:=0) hg rfl (by omega) (by omega) (by decide) o1
  have fa:=fun hp:Hp=>jX (hp:=hp) (sz:=2) (cs:=(Bd.map fun p=>[aa p.1,aa p.2]).flatten) ydC rF (by decide)
  have oK:=fun {hp:Hp} {id:Nat} hg=>agZ (fun n _=>ix.ai n) (fun n _=>iy.ai n) (hp:=hp) (id:=id) hg rF
  have aR:=fun n=>Xl (c:=.ay 3 0 n) ix.one iy.one rfl ix.pu iy.pu
  clear hm hc aS mk;unfold ab;rw[aB Td];generalize (Bd.map fun p=>[aa p.1,aa p.2]).flatten=pcs at*
  simp only[go_sem,ya,yb,xy,yh,MF,eh,bxn,bg,aP,yd,ye,yk,hd.ai,hf.ai,ix.shut,ix.one,ix.cells,iy.shut,iy.one,iy.cells,e1,e2,cM,sM,lV,o2,yN,vh,aR,dL,dO,IU,lk,oK]
end
end VE
end
section
set_option maxHeartbeats 4000000
namespace VE
open Go (IntKind)
section
variable {C R S:Int}{Dk F V:List (List Nat)}
structure PP(P:aE)(L:Lib):Prop where
 p:Av P L
 r:GL P L
 Nr:Has P L 633 Cm
 akF:Has P L 634 R1
 Td:Has P L 638 MF
 Ga:Has P L 639 MG
 akl:Has P L 644 MI
 aiy:ab P L 637 [] (.bool ydB)
def ae4{a b:Int}(h:bP [a,b]=0):a=0/\b=0:=by
 have k:=U3 (f:=id) (l:=[a,b]) (by rw[List.map_id];exact h)
 exact⟨k a xJ,k b (xr _ xJ)⟩
def QD(hp:Hp)(ct id:Nat)(a b c:Int)(x y z:AV):iM hp ct id 0 3 [aa a,aa b,aa c] (GR (.cells ydB ydB ydB 3 [x,y,z]))=GR (.av [],aJ hp id (.cells ydB ydB ydB 3 [aa a,aa b,aa c]),ct):=Xl rfl rfl rfl rfl rfl hp ct id x y z
def avy{C R S:Nat}{Bd:List (Int×Int)}(h:nd C R S Dk F Bd=0)(hv:gL (R*S) (C*S) V=0)(bd:∀r,r∈Dk->∀b,b∈r->b<4294967296)(bf:∀r,r∈F->∀b,b∈r->b<4294967296)(bv:∀r,r∈V->∀b,b∈r->b<4294967296):mC V Dk F C R S:=by
 unfold nd at h;by_cases h0:mz C R S=0
 .rw [yC h0,wA,wA,wA] at h;by_cases h1:As (C*S) (R*S) Dk F=0
  .by_cases h2:pc F Bd.length=0
   .have k:=ae4 h1;have k3:=(ae4 h2).1;refine⟨WC hv bv,WC k.1 bd,WC k.2 bf,?_⟩
    cases hd:lz F with
    | false=>rfl
    | true=>rw[hd,yC rfl] at k3;exact absurd k3 (by decide)
   .rw [Xi h1 h2] at h;exact absurd h h2
  .rw [Xh h1] at h;exact absurd h h1
 .rw [yq h0] at h;exact absurd h h0
def asY{Bd:List (Int×Int)}(h:nd C R S Dk F Bd=0):mz C R S=0:=by
 unfold nd at h;by_cases h0:mz C R S=0
 .exact h0
 .rw [yq h0] at h;exact absurd h h0
section
variable {P:aE}{L:Lib}
def aoM(h:GL P L):ab P L 650 [.aj,.aj] (.bool ydB)/\ab P L 651 [.aj] (.bool ydB):=
 ⟨akt (P:=P) (L:=L) h.SY (M:=[]) Kr Kr (by decide) (fun r hr=>by cases hr),aku (P:=P) (L:=L) h.SZ (M:=[]) Kr (by decide) (fun r hr=>by cases hr)⟩
def avz(h:PP P L){d f bv v:AV}{Bd:List (Int×Int)}(hd:bi bQ d Dk)(hf:bi bQ f F)(hb:Cy bv Bd)(hv:bi bQ v V)(hg:¬(Ol C R S=ydB/\HU Dk F Bd.length=ydB/\zB V=ydB)):ab P L 633 [.agg [aa C,aa R,aa S],.agg [d,f,bv],v] (.bool ydB):=by
 have aS:iP 2 bv (Bd.map fun p=>[aa p.1,aa p.2]):=hb;have ea:=h.aiy;have g1:=akm (P:=P) h.akF C R S;have g2:=akq h.r.toRcm hd hf hb;have g3:=SU (P:=P) (L:=L) h.r.SX hv;have fz:=Aa;have eh:=Ui (d:=d) (f:=f) (b:=bv) ⟨hd.pu,hd.one⟩ ⟨hf.pu,hf.one⟩ ⟨aS.pu,aS.one⟩;have jJ:=ako (fun n _=>hd.ai n) (fun n _=>hf.ai n) (fun n _=>aS.ai n);unfold ab at ea g1 g2 g3;unfold ab;rw[aB h.Nr]
 cases c1:Ol C R S with
 | false=>
  rw[c1] at g1;simp only[go_sem,ya,yb,Cm,fN,eh,bg,yd,ye,lk,fz,g1,yM,ea]
 | true=>
  rw[c1] at g1
  cases c2:HU Dk F Bd.length with
  | false=>
   rw[c2] at g2;simp only[go_sem,ya,yb,Cm,fN,eh,bg,yd,ye,lk,fz,jJ,g1,g2,yM,yL,ea]
  | true=>
   rw[c2] at g2;have c3:zB V=ydC:=by
    cases c3:zB V with
    | false=>rfl
    | true=>exact absurd ⟨c1,c2,c3⟩ hg
   rw[c3] at g3;simp only[go_sem,ya,yb,Cm,fN,eh,bg,yd,ye,lk,fz,jJ,g1,g2,g3,hv.ai,yM,yL,ea]
def aoN(h:PP P L){d f bv v:AV}{Bd:List (Int×Int)}(hd:bi bQ d Dk)(hf:bi bQ f F)(hb:Cy bv Bd)(hv:bi bQ v V)(bd:∀r,r∈Dk->∀b,b∈r->b<4294967296)(bf:∀r,r∈F->∀b,b∈r->b<4294967296)(bV:∀r,r∈V->∀b,b∈r->b<4294967296):ab P L 633 [.agg [aa C,aa R,aa S],.agg [d,f,bv],v] (.bool ydB):=by
 by_cases hg:Ol C R S=ydB/\HU Dk F Bd.length=ydB/\zB V=ydB
 .obtain ⟨c1,c2,c3⟩:=hg;have g1:=akm (P:=P) h.akF C R S;have g2:=akq h.r.toRcm hd hf hb;have g3:=SU (P:=P) (L:=L) h.r.SX hv;rw[c1] at g1;rw[c2] at g2;rw[c3] at g3;obtain⟨v1,v2⟩:=Xg c3;unfold HU at c2;rw[yf,yf,Bool.or_eq_true,xj,xj] at c2;obtain⟨k1,k2,k3⟩:=c2;obtain⟨d1,d2⟩:=Xg k1;obtain⟨f1,f2⟩:=Xg k2;have hc:j9 d f bv Dk F Bd:=⟨hd,hf,hb,by omega,fun r hr=>by have:=d2 r hr;omega,by omega,fun r hr=>by have:=f2 r hr;omega,by omega⟩;obtain⟨x,y,z,OB,iN⟩:=aE3 (P:=P) (L:=L) h.Td h.Ga hc (by omega) (by omega) (by omega);have zm:∀r,r∈V->r.length<=1000000:=fun r hr=>by have:=v2 r hr;omega
  obtain⟨w,OC,hw,sw⟩:=ZF (P:=P) (L:=L) h.Ga hv (by omega) zm;have OD:=ZC h.p.toCmr.toFrc C R S;have OE:=X5 (P:=P) (L:=L) h.r.toRcm.Nk h.r.toRcm.DX h.r.toRcm.Cx C R S;have OF:=aEl h.p.toCmr.toFrc hw (by omega) zm (C:=C) (R:=R) (S:=S);have OG:=aEy h.r.toRcm.toRfc hv (by omega) zm (C:=C) (R:=R) (S:=S);have OH:=SW h.p.toCmr iN (C:=C) (R:=R) (S:=S);have OI:=aEK h.r.toRcm hc (C:=C) (R:=R) (S:=S);have GQ:=SP (P:=P) (L:=L) h.r.toRcm.DX (jn ydB [nd C R S Dk F Bd]) (by simp);have aE6:bP [nd C R S Dk F Bd]=nd C R S Dk F Bd:=by
   simp only[bP]
   split<;>omega
  rw[aE6] at GQ;simp only[yH,yR,yd,xb,wO] at GQ;obtain⟨n1,n2⟩:=aoM h.r;have ea:=h.aiy;have fz:=Aa;have eh:=hc.bx;have jJ:=hc.fz;have Tf:=iN.fz;generalize hq:nd C R S Dk F Bd=q at*
  unfold ab at ea g1 g2 g3 OB OC OD OE OF OG OH OI GQ n1 n2;by_cases oU:q=0
  .subst oU;obtain⟨hC,hR,hS,j1,j8,r1,r8,s2,s8⟩:=aEr (asY hq);generalize C.toNat=c at*
   generalize R.toNat=r at*
   generalize S.toNat=t at*
   subst hC hR hS;have OJ:=SV h.r.toRcm.toRfc j8 r8 s8 hv (by omega) zm;unfold ab at OJ;by_cases nU:gL (r*t) (c*t) V=0
   .have ok:=avy hq nU bd bf bV;have rV:r*t<=64:=y8 r8 s8;have At:c*t<=64:=y8 j8 s8;have py:=avx h.p iN hw (by omega) zm ok j8 r8 s8 (by omega) (by omega) (by omega) hq nU;have EJ:=aEX h.r hc hv ok j8 r8 s8 (by omega) (vd (by omega) (by omega)) (vd (by omega) (by omega));rw[nU] at OJ
    cases oQ:(iT V Dk F t Bd (c*t) (r*t)).any fun r=>r.any ej with
    | true=>
     have py:=py.1 oQ;have EJ:=EJ.1 oQ;unfold ab at py EJ;unfold ab;rw[aB h.Nr];simp only[go_sem,ya,yb,yv,yh,yg,Cm,fN,eh,bg,yd,ye,lk,fz,jJ,Tf,g1,g2,g3,hv.ai,hw.ai,hw.shut,yL,OB,OC,py,OD,OE,OF,OG,OH,OI,GQ,OJ,EJ,n1,n2,ea,QD,cM]
    | false=>
     obtain⟨p1,py,i1⟩:=py.2 oQ;obtain⟨p2,EJ,i2⟩:=EJ.2 oQ;have lM:(iT V Dk F t Bd (c*t) (r*t)).length<=1000000:=by rw[Qi];omega
     have rM:∀x,x∈iT V Dk F t Bd (c*t) (r*t)->x.length<=1000000:=fun x hx=>by
      obtain⟨k,_,rfl⟩:=wW.1 hx;rw[so];omega
     have e50:=akt (P:=P) (L:=L) h.r.SY i1 i2 lM rM;have e51:=aku (P:=P) (L:=L) h.r.SZ i1 lM rM;have y1:=i1.frV;have y2:=i2.frV;generalize AV.au ydC (r*t) p1=pv at*
     generalize AV.au ydC (r*t) p2=rv at*
     unfold ab at py EJ e50 e51;unfold ab;rw[aB h.Nr];simp only[go_sem,ya,yb,yv,yh,yg,Cm,fN,eh,bg,yd,ye,lk,fz,jJ,Tf,g1,g2,g3,hv.ai,hw.ai,hw.shut,yL,OB,OC,py,OD,OE,OF,OG,OH,OI,GQ,OJ,EJ,e50,e51,y1.ai,y1.bN,y2.ai,y2.bN,ea,QD,cM]
   .have py:=aqv h.p iN hw (by omega) zm j8 r8 s8 hq nU;unfold ab at py;generalize gL (r*t) (c*t) V=q2 at*
    unfold ab;rw[aB h.Nr];simp only[go_sem,ya,yb,yv,yh,yg,Cm,fN,eh,bg,yd,ye,lk,fz,jJ,Tf,g1,g2,g3,hv.ai,hw.ai,hw.shut,yL,OB,OC,py,OD,OE,OF,OG,OH,OI,GQ,OJ,n1,n2,ea,nU,QD,cM]
  .have py:=asX h.p (C:=C) (R:=R) (S:=S) iN hw (by rw[hq];exact oU)
   rw[hq] at py;unfold ab at py;unfold ab;rw[aB h.Nr];simp only[go_sem,ya,yb,yv,yh,yg,Cm,fN,eh,bg,yd,ye,lk,fz,jJ,Tf,g1,g2,g3,hv.ai,hw.ai,hw.shut,yL,OB,OC,py,OD,OE,OF,OG,OH,OI,GQ,n1,n2,ea,oU,QD,cM]
 .exact avz h hd hf hb hv hg
end
end
abbrev Tg:Ty:=.ar 2 (.int .i64)
abbrev aE7:Ty:=.cat (.sl Iz) (.cat (.sl Iz) (.cat (.sl Tg) .nil))
abbrev KT:List Ty:=[akn,aE7,.sl Iz]
def avA{l:List AV}(h:mb Tg l):∃x y:Int,l=[aa x,aa y]:=by
 obtain⟨ps,h1,rfl,h2⟩:=h
 match ps,h1 with
 | [a,b],_=>
  obtain⟨x,rfl,hx⟩:=h2 a (by simp);obtain⟨y,rfl,hy⟩:=h2 b (by simp);exact⟨x,y,rfl⟩
def adO:∀{ps:List (List AV)},(∀p,p∈ps->mb Tg p)->∃l:List (Int×Int),ps=l.map fun p=>[aa p.1,aa p.2]
 | [],_=>⟨[],rfl⟩
 | p::ps,h=>by
  obtain⟨x,y,rfl⟩:=avA (h p xJ);obtain⟨l,h1⟩:=adO (ps:=ps) (fun q hq=>h q (xr _ hq));exact⟨(x,y)::l,by rw[h1];rfl⟩
def asZ{l:List AV}(h:mb (.sl Tg) l):∃(v:AV) (m:List (Int×Int)),l=[v]/\Cy v m:=by
 rcases h with rfl | ⟨x,ps,rfl,h⟩
 .exact ⟨_,[],rfl,asM⟩
 .obtain ⟨m,rfl⟩:=adO h
  exact⟨_,m,rfl,Wz x (fun p hp=>by obtain⟨a,_,rfl⟩:=wW.1 hp;rfl)⟩
def an2{P:aE}{L:Lib}(h:PP P L){ls:List (List AV)}(hs:eN mb KT ls):ab P L 633 (Mc KT ls) (.bool ydB):=by
 obtain⟨_,_,_,rfl,h1,h2,h3⟩:=ay4 hs;obtain⟨c,r,t,rfl⟩:=asR h1;obtain⟨_,_,rfl,h4,_,_,rfl,h5,_,_,rfl,h6,rfl⟩:=h2;obtain⟨d,Dk,rfl,hd,bd⟩:=WG h4;obtain⟨f,F,rfl,hf,bf⟩:=WG h5;obtain⟨b,Bd,rfl,hb⟩:=asZ h6;obtain⟨v,V,rfl,hv,bV⟩:=WG h3;exact aoN h hd hf hb hv bd bf bV
end VE
end
section
namespace VE
namespace J2
open Go Go.Proofs
def T:List (Tr bA):=[.n 637 [.o 7 [] (.bool ydB)] .l .l]
def L0:VE.Lib:=LJ (LJ (LJ VE.aK 99 Qa) 753 Bg) 427 Bg
def L1:VE.Lib:=Rx L0 T 1000
def nu:Nu VE.prog VE.aK:=by
 repeat' (first | rfl | constructor)
def lw:PP VE.prog L1:=by
 repeat' (first | rfl | constructor)
section
variable {W:World}{m:Int}(hm:W.cell? ⟨4,0,none⟩=GR (.int .i64 m))(ht:Go.Lib.TabIs Tryz.prog W "internal/strconv.uint64pow10" .u64 Go.Lib.pow10Tab)
include hm ht
theorem linked:jo ((J1.O W).sf L1):=by
 have hO:=J1.atG hm ht;have hs:=aqe hO nu rfl rfl rfl ⟨rfl,rfl,rfl⟩ (fn:=Tryz.f185) (c:=DS) Tryz.func185 rfl rfl trivial asp;have hT:jc (J1.O W) T:=jc.cons (Tr.lI (nK.one (mH.holds hO rfl rfl)) Tr.kL Tr.kL) jc.nil;have h1:=Vr hO hs;have h2:=Vr h1 (afV (O:=(J1.O W).sf _) (n:=753) (fun _ _=>G6 Tryz.func130 rfl (by decide)) Tryz.aD3);have h3:=Vr h2 (afV (O:=((J1.O W).sf _).sf _) (n:=427) (fun _ _=>G6 Tryz.func142 rfl (by decide)) Tryz.aD2);exact afr h3 hT 1000
theorem law{ls:List (List AV)}(hs:eN mb KT ls):eR (J1.O W) 633 (Mc KT ls) (.bool ydB):=by
 obtain⟨k,hk⟩:=age (an2 lw hs);exact sound (linked hm ht) hk
end
end J2
end VE
end
