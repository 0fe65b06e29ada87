import Ieee.Arith
import Derived.OwnWalk
import Derived.WalkKit
import Derived.Test.YtebpicijmcnecaaGreatDoorUaq
set_option linter.all false
set_option maxRecDepth 100000
open Bool renaming and_eq_true->ye,and_true->tP,false_eq_true->yA,false_or->yaU,not_false->xX,not_true->xF,toNat_false->ybi,true_or->ybZ,xor_false->ybx
open Go renaming Calls->wg,DataW->xM,Field->vI,FloatKind->xO,IntKind->yZ,MemPlace->wA,Program->xi,TypeId->yu,Value->yg,World->yi,binOp->xR
open Go.FloatKind renaming f32->yca
open Ieee renaming single->ycj
open Int renaming add_zero->yce,gcd->vj,le_of_lt->tc,le_refl->ycs,lt_trichotomy->tH,mul_add->ycu,mul_le_mul->ybI,mul_le_mul_of_nonneg_left->ua,mul_nonneg->tr,natAbs_ediv_of_dvd->uJ,natAbs_natCast->uD,natCast_add->tf,natCast_mul->xx,natCast_nonneg->yad,neg_neg->tY,ofNat_eq_natCast->yaP,ofNat_le->yci,ofNat_lt->ta,pow_pos->ycv,pow_succ->tI,sub_self->ycg,tdiv_eq_ediv_of_nonneg->xJ,tmod_eq_emod_of_nonneg->xI,toNat_natCast->wz,toNat_of_nonneg->wP
open Int.ofNat renaming inj->tT
open List renaming append_assoc->xr,append_nil->wj,cons_append->ym,drop->ui,drop_drop->wZ,drop_eq_getElem_cons->yQ,drop_eq_nil_of_le->xj,drop_left->tq,drop_succ_cons->yI,drop_zero->yh,eq_nil_of_length_eq_zero->yG,filter_eq_nil_iff->tA,flatMap_def->ybj,getD_eq_getElem?_getD->yY,getElem?_eq_getElem->xh,getElem_cons_zero->wO,getElem_mem->vv,length_append->yC,length_cons->yH,length_drop->wH,length_map->yX,length_nil->yM,length_pos_iff->tL,length_take->yT,mapM_cons->uo,map_append->xk,map_cons->yV,map_nil->wF,mem_append->xD,mem_cons->xn,mem_cons_of_mem->xG,mem_cons_self->wm,mem_map->yaf,nil_append->yD,nodup_cons->wi,range'->xS,replicate->yy,set_eq_of_length_le->yam,take_append_drop->xU,take_left->yae,take_length->xQ,take_of_length_le->yO,take_set->yao
open List.cons renaming injEq->uN
open Nat renaming add_assoc->uv,add_comm->ybr,add_mod_left->ybo,add_mul->xL,add_zero->yS,beq->yo,ble->yz,ble_eq_true_of_le->yt,blt->yF,div_add_mod->xK,div_eq_of_lt->xH,div_le_self->wU,div_lt_iff_lt_mul->xu,div_lt_of_lt_mul->tM,div_pos->yct,eq_of_beq_eq_true->yf,eq_zero_or_pos->xg,gcd->uQ,gcd_comm->tE,le_log2->ycr,le_mul_of_pos_left->vL,le_mul_of_pos_right->yaw,le_of_ble_eq_true->yv,le_of_lt_succ->vE,le_of_not_lt->ybm,le_refl->yq,le_trans->y9,log2->ybH,log2_lt->yaO,lt_log2_self->ybp,lt_of_le_of_lt->xY,lt_of_lt_of_le->yE,lt_or_ge->wQ,lt_trans->wW,min_eq_left->xt,mod_add_div->vP,mod_eq_of_lt->yK,mod_eq_zero_of_dvd->yaD,mod_lt->xp,mul_add->xz,mul_add_div->uL,mul_add_mod->uM,mul_assoc->y5,mul_comm->xb,mul_div_cancel->uB,mul_dvd_mul_left->yaQ,mul_le_mul->xd,mul_le_mul_left->yR,mul_le_mul_right->yL,mul_lt_mul''->tS,mul_lt_mul_of_pos_right->xP,mul_mod_left->uS,mul_one->yk,mul_pos->wN,mul_zero->xv,ne_of_gt->uZ,not_lt_zero->ybu,one_dvd->ycy,one_lt_two_pow->uC,one_mul->yag,one_shiftLeft->ybh,pos_of_ne_zero->uU,pow_add->xB,pow_le_pow_left->tX,pow_le_pow_right->xc,pow_lt_pow_iff_right->vM,pow_lt_pow_right->wV,pow_pos->ybv,pow_succ->y8,pow_zero->vz,reduceAdd->yc,reduceEqDiff->ya,reduceLT->yB,reduceLeDiff->yp,reduceMul->xA,shiftLeft_eq->vU,succ_mul->ycf,two_pow_pos->y7,zero_add->yd,zero_le->uV,zero_mul->wh
open Option renaming bind_eq_bind->vG,bind_some->wu,map_eq_some_iff->wD,pure_def->wM
open Option.some renaming injEq->yb
open Prod.mk renaming injEq->yj
open Rat renaming den_intCast->ug,den_pow->ycx,divInt->wy,intCast_neg->ue,lt_irrefl->yar,mul_assoc->wX,mul_comm->yaC,mul_lt_mul_right->vZ,mul_one->vl,natCast_mul->xE,num_eq_zero->ybw,num_intCast->uf,num_pow->ycw,one_mul->yaR,zpow_natCast->uT,zpow_neg->ych
open Option renaming some->D5,none->D6
open Bool renaming true->ycG,false->ycH
section
namespace VE
open Go (IntKind)
def ail:∀(cs:List AV) (l:List Nat),r5 cs=D5 l->cs=l.map uc/\lo 18446744073709551616 l:=by
 intro cs
 induction cs with
 | nil=>
  intro l h;simp only[r5,yb] at h;subst h;exact⟨rfl,fun _ h=>by cases h⟩
 | cons c cs ih=>
  intro l h;unfold r5 at h
  split at h
  .grind
  .rename_i d r ru;cases ru
   cases hb:yF d 18446744073709551616 with
   | false=>rw[hb] at h;cases h
   | true=>
    rw[hb] at h
    cases hw:r5 cs with
    | none=>rw[hw] at h;cases h
    | some l'=>
     rw[hw] at h;cases h;have⟨k1,k2⟩:=ih l' hw;refine⟨by rw[k1];rfl,fun x hx=>?_⟩
     rcases xn.1 hx with rfl | hx
     .simp_all
     .exact k2 x hx
  .cases h
def Yj:∀{l:List Nat},BA l=ycG->gj l
 | [],h=>by cases h
 | [a],h=>by
  have h0:a≠0:=fun e=>by subst e;cases h
  exact Ea h0 []
 | a::b::r,h=>by
  have h1:dG (b::r)=b::r:=Yj (l:=b::r) h;show dG (a::(b::r))=_
  simp only[dG] at h1 ⊢;rw[h1]
section
variable {P:aE}{L:Lib}
def an6(h:Has P L 99 DQ)(TN:L.pure 135=D5 ID){s:Int}(hs:Bw s=ycG):bQ P L (D P L) 99 [.agg [aa s,.ah]]=D5 (.str (bc s)):=by
 have e1:bQ P L (D P L) 135 [aa s]=D5 (.str (bc s)):=by
  rw[lX TN];show (bif Bw s then D5 (AV.str (bc s)) else D6)=_
  rw[hs];rfl
 rw[aH h];simp only[go_sem,ya,yc,DQ,aU,a6,yd,dc,gF,dO,e1]
end
section
open Go
variable {O:bk}
def ajM(hO:gC O)(hN:Nu O.prog O.aG)(TN:O.aG.pure 135=D5 ID)(Dx:O.aG.pure 138=D5 AQ)(Al:O.aG.pure 139=D5 Ba)(FO:Has O.prog O.aG 99 DQ){fn:Func}{c:Code}(kV:O.P.funcs[O.ab 99]? =D5 fn)(jh:fn.body=D5 c)(Oy:fn.ntmps=69)(TJ:N4 5 c)(ht:Rg O.P c):∀ap r,L4 ap=D5 r->dL O 99 ap r:=by
 intro ap r h;unfold L4 at h
 split at h
 .rename_i s
  cases hs:Bw s with
  | false=>rw[hs] at h;cases h
  | true=>
   rw[hs] at h;cases h;have⟨k,hk⟩:=aaJ (an6 (P:=O.prog) (L:=O.aG) FO TN hs);exact sound hO hk
 .rename_i s e n cs
  cases hw:r5 cs with
  | none=>rw[hw] at h;cases h
  | some l=>
   rw[hw] at h;simp only at h
   cases hb:(yo l.length n&&(yz n 4000000000&&(BA l&&yz 9223372036854775808 (sH l)))) with
   | false=>rw[hb] at h;cases h
   | true=>
    rw[hb] at h;simp only[ye] at hb;have⟨h1,h2,h3,h4⟩:=hb;obtain⟨rfl,aZ⟩:=ail cs l hw;have h1:=yf h1;subst h1;have h2:=yv h2;have h4:=yv h4;have h3:=Yj h3;rw[Rc] at h4 h;have aB:=mX aZ;have key:=fun (s z:Int) (hz:z.natAbs=bv 18446744073709551616 l) (hs:s=if z<0 then -1 else 1)=>
     alP hO hN Dx Al FO.code kV jh Oy TJ ht (s:=s) (z:=z) (e:=e) (l:=l) (.inr ⟨e,l,rfl,aZ,h3,hz.symm,hs,by lia⟩) (by lia) h2 (by lia)
    split at h
    .cases h
     have:=key 1 (bv 18446744073709551616 l:Nat) (by simp) (by rw[yx (by lia)])
     exact this
    .cases h
     have:=key (-1) (-(bv 18446744073709551616 l:Nat):Int) (by simp) (by rw[yN (by lia)])
     rw[rR (by lia)] at this
     grind
    .cases h
 .cases h
end
end VE
end
section
namespace VE
open Go
def Ip(L:Lib)(n:Nat)(sp:List AV->Option AV):Lib:=⟨fun i=>bif yo i n then D5 sp else L.pure i,L.heap⟩
def Qd{O:bk}(hO:gC O){n:Nat}{sp:List AV->Option AV}(h:∀ap r,sp ap=D5 r->dL O n ap r):gC (O.oZ (Ip O.aG n sp)) where
 hint:=hO.hint
 mixed:=hO.mixed
 prog:=hO.prog
 aG i OJ ap r hi hs:=by
  show dL O i ap r
  simp only[Ip] at hi
  cases hb:yo i n with
  | true=>
   simp_all
  | false=>
   rw[hb] at hi;exact hO.aG i OJ ap r hi hs
 E0 i OJ hp ct ap v an aK hi hs:=X3 (hO.E0 i OJ hp ct ap v an aK hi hs)
end VE
end
section
namespace VE
open Go (IntKind)
def Rh(n:Nat):10^n<=2^(4*n):=by
 rw[Nat.pow_mul];exact tX (by decide) n
def ajN{b:Nat}{r:List Nat}(h:lI (b::r)=ycG):48<=b/\b<=57:=by
 simp only[lI,ye] at h
 simp_all
section
variable {P:aE}{L:Lib}
def aaX(h:Tx P L){ds:List Nat}{N:Nat}(hD:cG ds 0=D5 N)(hl:ds.length<=4000000000){neg:Bool}{o1 o2:AV}:
  cP P L [0,2,3,4] EA (fun m st=>∃(pre rest:List Nat) (a:Nat) (s:Int) (w:AV),st=⟨[(0,.str rest),(2,.ptr 0 0),(3,.bool neg),(4,.ptr 1 0)],[(1,.cells ycG ycG ycG 2 [aa s,w]),(0,.cells ycG ycG ycG 2 [o1,o2])],2,0⟩/\ds=pre++rest/\cG pre 0=D5 a/\cZ s w a/\rest.length=m) (fun ex st'=>∃tm s w,st'=⟨tm,[(1,.cells ycG ycG ycG 2 [aa s,w]),(0,.cells ycG ycG ycG 2 [o1,o2])],2,0⟩/\ex=.exit 0/\aj tm 2=.ptr 0 0/\aj tm 3=.bool neg/\aj tm 4=.ptr 1 0/\cZ s w N):=by
 apply cT;rintro m st ⟨pre,rest,a,s,w,rfl,DY,dT,hn,rfl⟩;have⟨l1,u1⟩:=hn.aR;have kN:=hD;rw[DY,LF,dT] at kN;have kN:cG rest a=D5 N:=kN;have hlen:pre.length+rest.length<=4000000000:=by rw[DY,yC] at hl;exact hl
 by_cases h0:rest.length=0
 .right
  have hr:rest=[]:=yG h0;subst hr
  have:a=N:=by simpa[cG] using kN
  subst this;simp only[go_sem,EA,yM,show ¬(0:Int)<((0:Nat):Int) by lia];exact⟨_,_,rfl,by simp,_,s,w,rfl,rfl,rfl,rfl,rfl,hn⟩
 .left
  obtain⟨n,zb⟩:∃n,n=min 18 rest.length:=⟨_,rfl⟩;have acH:(if (rest.length:Int)<18 then (rest.length:Int) else 18)=(n:Int):=by split<;>lia
  have jf:rest.take n++rest.drop n=rest:=xU n rest;obtain⟨a',DJ⟩:∃a',cG (rest.take n) a=D5 a':=by
   rw[<-jf,LF] at kN
   cases hq:cG (rest.take n) a with
   | none=>rw[hq] at kN;cases kN
   | some a'=>exact⟨a',rfl⟩
  obtain⟨v,hv⟩:∃v,cG (rest.take n) 0=D5 v:=by
   have:∀(l:List Nat) (x y b:Nat),cG l x=D5 y->∃z,cG l b=D5 z:=by
    intro l
    induction l with
    | nil=>intro x y b _;exact⟨b,rfl⟩
    | cons c l ih=>
     intro x y b hh;simp only[cG] at hh ⊢
     cases hb:(yz 48 c&&yz c 57) with
     | false=>rw[hb] at hh;cases hh
     | true=>rw[hb] at hh;exact ih _ _ _ hh
   exact this _ _ _ 0 DJ
  have adX:=alN (a:=a) hv;have VD:(rest.take n).length=n:=by rw[yT];lia
  rw[VD,DJ,yb] at adX;have TO:=Re hv;rw[VD] at TO;have aAG:v<1000000000000000000:=yE TO (xc (n:=10) (by decide) (show n<=18 by lia));have e1:=an3 (P:=P) h.TG (f:=D P L) (s:=rest.take n) (by lia) (by lia) hv;have⟨t1,t2⟩:=Ff h.toNu (z:=10) (by decide) (by decide);have⟨t3,t4⟩:=Ff h.toNu (z:=(v:Int)) (by lia) (by lia);have⟨p,e2,hp⟩:=TH h.toNu h.qV t2 (K:=4) (k:=n) (by unfold Bd;decide) (by lia) (by lia)
  have halt:=Re dT;have ba:Bd (4*pre.length) (a:Int):=yE halt (Rh _);have bp:Bd (4*n+1) ((10:Int)^n):=Bd.pow (k:=4) (by unfold Bd;decide) n
  have⟨q,e3,hq⟩:=sF h.toNu (v:=.agg [aa s,w]) ⟨s,w,rfl,hn⟩ hp (K:=4*pre.length+4*n+1) (ba.mono (by lia)) (bp.mono (by lia)) (by lia);have bv':Bd (4*n) (v:Int):=yE TO (Rh _);have⟨r,e4,hr⟩:=Jw h.toNu hq t4 (K:=4*pre.length+4*n+1) ((ba.mul bp).mono (by lia)) (bv'.mono (by lia)) (by lia);have aJ:(a:Int)*10^n+(v:Int)=(a':Int):=by
   rw[adX]
   simp
  rw[aJ] at hr;obtain⟨s2,w2,rfl,h2⟩:=hp;obtain⟨s3,w3,rfl,h3⟩:=hq;obtain⟨s4,w4,rfl,h4⟩:=hr;have⟨l2,u2⟩:=h2.aR;have⟨l3,u3⟩:=h3.aR;have⟨l4,u4⟩:=h4.aR;have un:=rS;have c1:jL rest (D5 0) (D5 n)=D5 (.str (rest.take n)):=by rw[mO (by lia) (by lia),yh]
  have c2:jL rest (D5 n) (D5 rest.length)=D5 (.str (rest.drop n)):=by rw[mO (by lia) (by lia),xQ]
  simp only[go_sem,ya,EA,show (0:Int)<(rest.length:Nat) by lia,Im,Hs,acH,kK,ma,gX,c1,c2,e1,bS,t1,t3,cr,u1.ak,u2.ak,u3.ak,un.ak,e2,e3,e4,bM,bS,yh,dH u4];refine⟨_,(rest.drop n).length,rfl,by rw[wH];lia,pre++rest.take n,rest.drop n,a',s4,w4,by simp only[go_sem,ya,yc,aA],by rw[xr,jf];exact DY,by rw[LF,dT];exact DJ,h4,rfl⟩
def Yk{b:Nat}{r:List Nat}(h:48<=b):kj [45] (b::r)=ycH:=by
 show (yo 45 b&&ycG)=ycH
 rw[iR (by lia)];rfl
def TP(h:Tx P L){z:Int}(hz:(bc z).length<=4000000000):∃r,af P L 110 [.str (bc z)] r/\cp r z:=by
 have hN:=Ee z.natAbs;have un:=rS;have rh:(aC z.natAbs).length<=4000000000:=by
  by_cases h0:z<0
  .rw [rR h0] at hz;simp at hz;lia
  .rw [<-nJ,yx h0] at hz;simpa using hz
 have ba:Bd (4*(aC z.natAbs).length) (z.natAbs:Int):=yE (Re hN) (Rh _);by_cases h0:z<0
 .have hs:bc z=45::aC z.natAbs:=rR h0;have e1:bQ P L (D P L) 152 [.str (45::aC z.natAbs),.str [45]]=D5 (.bool ycG):=by rw[lX h.adR];rfl
  have e2:bQ P L (D P L) 153 [.str (45::aC z.natAbs),.str [45]]=D5 (.str (aC z.natAbs)):=by rw[lX h.adS];rfl
  have jc:∃s w r,af P L 110 [.str (bc z)] r/\cZ s w (z.natAbs:Int)/\af P L 147 [.agg [aa s,w]] r/\cp r (-(z.natAbs:Int)):=by
   rw[hs];unfold af;rw[aH h.adU];simp only[go_sem,ya,yc,Nj,aU,e1,e2,un.pu,un.one,dH un];generalize hq:D P L (.loop _ EA) _=q;obtain⟨ex,st,rfl,tm,s,w,rfl,rfl,t2,t3,t4,h5⟩:=bF hq (aaX (P:=P) (L:=L) h hN rh (neg:=ycG) (o1:=.int .i64 0) (o2:=.ah) (aC z.natAbs).length) ⟨[],aC z.natAbs,0,0,.ah,by simp only[go_sem,ya,yc,aA]<;>rfl,rfl,rfl,.inl ⟨rfl,rfl,by decide,by decide⟩,rfl⟩
   have⟨l5,u5⟩:=h5.aR;have⟨r,e3,hr⟩:=Jv h.toNu (v:=.agg [aa s,w]) ⟨s,w,rfl,h5⟩ (K:=4*(aC z.natAbs).length) ba (by lia);have bq:=hr;obtain⟨s6,w6,rfl,h6⟩:=hr;have⟨l6,u6⟩:=h6.aR;refine⟨s,w,_,?_,h5,e3,bq⟩;simp only[go_sem,ya,yc,aA,t2,t3,t4,bS,cr,u5.ak,e3,bM,dX,dZ,bS,yh,nc u6,dH u6]
  have⟨s,w,r,g1,_,_,g2⟩:=jc;rw[show -((z.natAbs:Nat):Int)=z by lia] at g2;exact⟨r,g1,g2⟩
 .have hs:bc z=aC z.natAbs:=by rw[<-nJ,yx h0];rfl
  have⟨b,r0,hb,gh,jg⟩:=Hk z.natAbs;have e1:bQ P L (D P L) 152 [.str (aC z.natAbs),.str [45]]=D5 (.bool ycH):=by
   rw[lX h.adR,hb];show D5 (AV.bool (kj [45] (b::r0)))=_
   rw[Yk gh]
  have e2:bQ P L (D P L) 153 [.str (aC z.natAbs),.str [45]]=D5 (.str (aC z.natAbs)):=by
   rw[lX h.adS,hb];show D5 (AV.str (bif kj [45] (b::r0) then _ else _))=_
   rw[Yk gh];rfl
  have jc:∃s w,af P L 110 [.str (bc z)] (.agg [aa s,w])/\cZ s w (z.natAbs:Int):=by
   rw[hs];unfold af;rw[aH h.adU];simp only[go_sem,ya,yc,Nj,aU,e1,e2,un.pu,un.one,dH un];generalize hq:D P L (.loop _ EA) _=q;obtain⟨ex,st,rfl,tm,s,w,rfl,rfl,t2,t3,t4,h5⟩:=bF hq (aaX (P:=P) (L:=L) h hN rh (neg:=ycH) (o1:=.int .i64 0) (o2:=.ah) (aC z.natAbs).length) ⟨[],aC z.natAbs,0,0,.ah,by simp only[go_sem,ya,yc,aA]<;>rfl,rfl,rfl,.inl ⟨rfl,rfl,by decide,by decide⟩,rfl⟩
   have⟨l5,u5⟩:=h5.aR;refine⟨s,w,?_,h5⟩;simp only[go_sem,ya,yc,aA,t2,t3,t4,bS,dX,dZ,bS,yh,nc u5,dH u5]
  have⟨s,w,g1,g2⟩:=jc;rw[show ((z.natAbs:Nat):Int)=z by lia] at g2;exact⟨_,g1,s,w,rfl,g2⟩
def Qe(b:Nat)(r:List Nat)(c:Nat):kj [c] (b::r)=yo c b:=by
 show (yo c b&&ycG)=_
 grind
def WT:∀(l r:List Nat) (k:Nat),(∀x,x∈l->x≠47)->qM [47] (l++47::r) k=D5 (k+l.length)
 | [],r,k,_=>by
  show (bif kj [47] (47::r) then D5 k else _)=_
  rw[Qe];rfl
 | b::l,r,k,h=>by
  show (bif kj [47] (b::(l++47::r)) then D5 k else qM [47] (l++47::r) (k+1))=_
  rw[Qe,iR (fun e=>h b (by simp) e.symm),yJ,WT l r (k+1) (fun x hx=>h x (by simp[hx])),yH]
  grind
def index_none:∀(l:List Nat) (k:Nat),(∀x,x∈l->x≠47)->qM [47] l k=D6
 | [],k,_=>rfl
 | b::l,k,h=>by
  show (bif kj [47] (b::l) then D5 k else qM [47] l (k+1))=_
  rw[Qe,iR (fun e=>h b (by simp) e.symm),yJ,index_none l (k+1) (fun x hx=>h x (by simp[hx]))]
def Zj:∀{l:List Nat},lI l=ycG->∀x,x∈l->48<=x/\x<=57
 | [],_,x,hx=>by simp at hx
 | b::l,h,x,hx=>by
  have h1:=ajN h;simp only[lI,ye] at h;rcases xn.1 hx with rfl | hx
  .grind
  .exact Zj h.2 x hx
def agP(z:Int):∀x,x∈bc z->x≠47:=fun x hx=>by
 rw[<-nJ] at hx;rcases xD.1 hx with h | h
 .grind
 .have:=Zj (Hj _) x h;lia
def m62(h:Tx P L){a:Rat}(hl:(RT a).length<4000000000):∃r,af P L 62 [.str (RT a)] r/\dJ r a:=by
 have Fv:=agP a.num;unfold RT at hl ⊢;by_cases hd:a.den=1
 .rw [yN hd,wj] at hl ⊢;have⟨p,e1,hp⟩:=TP h (z:=a.num) (by lia);have⟨r,e2,hr⟩:=TF h.toFr' hp;rw[<-Q9 a hd] at hr;have bq:=hr;obtain⟨s1,w1,rfl,h1⟩:=hp;obtain⟨s2,w2,s3,w3,rfl,h2,h3⟩:=hr;have⟨l1,u1⟩:=h1.aR;have⟨l2,u2⟩:=h2.aR;have⟨l3,u3⟩:=h3.aR;have e0:bQ P L (D P L) 109 [.str (bc a.num),.str [47]]=D5 (.ay [.str (bc a.num),.str [],.bool ycH]):=by
   rw[lX h.adT];show (bif yF (bc a.num).length 4294967281 then (match qM [47] (bc a.num) 0 with | some i=>_ | none=>D5 (AV.ay [.str (bc a.num),.str [],.bool ycH])) else D6)=_
   rw[mZ (by lia),index_none _ _ Fv];rfl
  refine⟨_,?_,bq⟩;unfold af;rw[aH h.O7];simp only[go_sem,ya,yc,OL,aU,e0,e1,bM,u1.ak,cr,e2,lz u2 u3,dX,dZ,yh,iX,lA u2 u3]
 .rw [yx hd] at hl ⊢;simp only[yC,yH] at hl;have⟨p,e1,hp⟩:=TP h (z:=a.num) (by lia);have⟨q,e2,hq⟩:=TP h (z:=(a.den:Int)) (by rw[A5];lia)
  rw[A5] at e2;obtain⟨s1,w1,rfl,h1⟩:=hp;obtain⟨s2,w2,rfl,h2⟩:=hq;have⟨l1,u1⟩:=h1.aR;have⟨l2,u2⟩:=h2.aR;have e0:bQ P L (D P L) 109 [.str (bc a.num++47::aC a.den),.str [47]]=D5 (.ay [.str (bc a.num),.str (aC a.den),.bool ycG]):=by
   rw[lX h.adT];show (bif yF (bc a.num++47::aC a.den).length 4294967281 then (match qM [47] (bc a.num++47::aC a.den) 0 with | some i=>D5 (AV.ay [.str ((bc a.num++47::aC a.den).take i),.str ((bc a.num++47::aC a.den).drop (i+1)),.bool ycG]) | none=>_) else D6)=_
   rw[mZ (by simp;lia),WT _ _ _ Fv]
   simp only[yd,yr,yae];rw[show (bc a.num).length+1=(bc a.num++[47]).length by simp,show bc a.num++47::aC a.den=(bc a.num++[47])++aC a.den by simp,tq]
  refine⟨.agg [aa s1,w1,aa s2,w2],?_,s1,w1,s2,w2,rfl,h1,h2⟩;unfold af;rw[aH h.O7];simp only[go_sem,ya,yc,OL,aU,e0,e1,e2,bM,u1.one,u2.one,Er,Es,lz u1 u2,dX,dZ,yh,iX,lA u1 u2]
end
end VE
end
section
namespace VE
namespace Nd
structure Ord(n:Nat)(l:List Int):Prop where
 len:l.length=n
 pX:∀a,a<n->0<=l.getD a 0/\l.getD a 0<n
 inj:∀a b,a<n->b<n->l.getD a 0=l.getD b 0->a=b
end Nd
end VE
end
section
namespace VE
namespace Nd
open Go (IntKind)
section
variable {P:aE}{L:Lib}
abbrev af(P:aE)(L:Lib)(f:Nat)(ap:List AV)(r:AV):Prop:=bQ P L (D P L) f ap=D5 r
end
end Nd
end VE
end
section
namespace VE
open Go (IntKind)
structure Ck(P:aE)(L:Lib):Prop extends Tx P L where
 aAH:L.pure 128=D5 K2
 aAI:L.pure 162=D5 trimS
 h86:Has P L 86 c86
 aAJ:Has P L 124 acV
 aAK:Has P L 125 acW
 aAL:Has P L 129 acX
end VE
end
section
namespace VE
section
variable {e:Int}{m:Nat}
def adY(a b:Nat)(h:a<b):2^a<2^b:=wV (by decide) h
def adZ(a b:Nat)(h:2^a<2^b):a<b:=(vM (by decide)).1 h
def arJ(m a b c:Nat)(h:m<2^a)(hc:a+b=c):m*2^b<2^c:=by
 subst hc;rw[xB];exact xP h (y7 _)
def arK(m a b c:Nat)(h:2^a<=m)(hc:c<=a+b):2^c<=m*2^b:=
 y9 (xc (by decide) hc) (by rw[xB];exact yL _ h)
open Ieee
def p2(e:Int):Rat:=(2:Rat)^e
def j9(a b:Int):p2 (a+b)=p2 a*p2 b:=Rat.zpow_add (by decide) a b
def RR(e:Int):0<p2 e:=Rat.zpow_pos (by decide)
def Ss(e:Int):p2 e≠0:=fun h=>by have:=RR e;rw[h] at this;exact absurd this (by decide)
def lj(n:Nat):p2 n=((2^n:Nat):Rat):=by
 unfold p2;rw[uT,Rat.natCast_pow];rfl
def Dy:p2 0=1:=by have:=lj 0;simpa using this
def Am:p2 1=2:=by have:=lj 1;simpa using this
def RS(e:Int):p2 (-e)*p2 e=1:=by rw[<-j9,show -e+e=0 by omega,Dy]
structure Can(f:Format)(m:Nat)(e:Int):Prop where
 lp:f.leastPlace<=e
 lt:m<2^(f.fractionBits+1)
 ge:2^f.fractionBits<=m\/e=f.leastPlace
def eU(f:Format)(m:Nat)(e:Int):Nat:=(e-f.leastPlace).toNat*2^f.fractionBits+m
def aaY(f:Format):f.infRung<f.signWeight:=by
 have h:0<2^f.exponentBits:=y7 _;have hb:0<2^f.fractionBits:=y7 _;unfold Format.infRung Format.signWeight Format.binade;rw[xB];exact xP (by omega) hb
def ajO{f:Format}(h:Can f m e)(s:Bool)(hr:eU f m e<f.infRung):f.read (f.word s (eU f m e))=.number s m e:=by
 have kW:=aaY f;have hb:0<2^f.fractionBits:=y7 _;have lp:=h.lp;have lt:=h.lt;have ge:=h.ge;rw[y8] at lt;have fV:(f.word s (eU f m e)/f.signWeight%2==1)=s:=by
  unfold Format.word
  cases s with
  | true=>rw[yN rfl,Nat.add_div_left _ (by omega),xH (by omega)];rfl
  | false=>rw[yx (by decide),xH (by omega)];rfl
 have kP:f.word s (eU f m e)%f.signWeight=eU f m e:=by
  unfold Format.word
  cases s with
  | true=>rw[yN rfl,ybo,yK (by omega)]
  | false=>rw[yx (by decide),yK (by omega)]
 unfold Format.read;simp only[fV,kP];obtain⟨d,hd⟩:∃d:Nat,e=f.leastPlace+d:=⟨(e-f.leastPlace).toNat,by omega⟩;have fb:eU f m e=d*2^f.fractionBits+m:=by unfold eU;rw[hd,show (f.leastPlace+(d:Int)-f.leastPlace).toNat=d by omega]
 unfold Format.binade;by_cases c:eU f m e<2^f.fractionBits
 .rw [yN c];have gU:d=0:=by
   rcases ge with ge | ge
   .exfalso
    have:=uV (d*2^f.fractionBits)
    omega
   .omega
  subst gU;rw[wh,yd] at fb;rw[fb,hd,Int.natCast_zero,yce]
 .rw [yx c,yN hr];have hm:2^f.fractionBits<=m:=by
   rcases ge with ge | ge
   .exact ge
   .have:d=0:=by omega
    subst this;rw[wh,yd] at fb;omega
  obtain⟨x,hx⟩:∃x,m=2^f.fractionBits+x:=⟨m-2^f.fractionBits,by omega⟩;have hdiv:eU f m e/2^f.fractionBits=d+1:=by
   rw[fb,hx,<-uv,<-ycf,xb,uL hb,xH (by omega)]
  have DE:eU f m e%2^f.fractionBits=x:=by
   rw[fb,hx,<-uv,<-ycf,xb,uM,yK (by omega)]
  rw[hdiv,DE,hx,hd,show d+1-1=d by omega]
def Yl{n d:Nat}{neg:Bool}:Toward.even.cut neg (n*2^d) d=n:=by
 unfold Toward.cut;by_cases h0:n=0
 .subst h0
  simp
 .have hl:d<=(n*2^d).log2:=(ycr (uZ (wN (by omega) (y7 _)))).2 (vL _ (by omega));have hp:0<2^d:=y7 _;rw[xt (by omega),ybh];simp only[uS,uB _ hp,xv];have h1:decide (2^d<0)=ycH:=by simp
  have h2:((2^d==0):Bool)=ycH:=by simpa using uZ hp
  simp[h2]
def Pt{n:Nat}(h:n≠0):∀d,(n*2^d).log2=n.log2+d
 | 0=>by simp
 | d+1=>by
  rw[y8,<-y5,xb (n*2^d) 2,Nat.log2_two_mul (uZ (wN (by omega) (y7 _))),Pt h d];omega
def Can.last{f:Format}(h:Can f m e)(h0:m≠0):max (e+m.log2-f.fractionBits) f.leastPlace=e:=by
 have lp:=h.lp;have h1:m.log2<f.fractionBits+1:=(yaO h0).2 h.lt;rcases h.ge with g | g
 .have:=(ycr h0).2 g
  omega
 .omega
def alT{f:Format}(h:Can f m e)(h0:m≠0){m0:Nat}{e0:Int}(s:Bool)(hv:(m0:Rat)*p2 e0=(m:Rat)*p2 e):f.nearest s m0 e0=f.word s (min (eU f m e) f.infRung):=by
 have hl:=h.last h0;have lp:=h.lp;by_cases c:e0<=e
 .obtain ⟨d,hd⟩:∃d:Nat,e=e0+d:=⟨(e-e0).toNat,by omega⟩;have hm:m0=m*2^d:=by
   rw[hd,j9,lj] at hv;have h1:(m0:Rat)=((m*2^d:Nat):Rat):=by
    rw[xE];have h2:p2 e0*p2 (-e0)=1:=by rw[yaC];exact RS e0
    have h3:(m0:Rat)*p2 e0*p2 (-e0)=(m:Rat)*(p2 e0*((2^d:Nat):Rat))*p2 (-e0):=congrArg (·*p2 (-e0)) hv;rw[wX,h2,vl] at h3;rw[h3]
    have:(m:Rat)*(p2 e0*((2^d:Nat):Rat))*p2 (-e0)=(m:Rat)*((2^d:Nat):Rat)*(p2 e0*p2 (-e0)):=by grind
    rw[this,h2,vl]
   exact_mod_cast h1
  have rF:m0≠0:=by rw[hm];exact uZ (wN (by omega) (y7 _))
  unfold Format.nearest;rw[yx rF];have sh:max (e0+m0.log2-f.fractionBits) f.leastPlace=e:=by
   rw[hm,Pt h0,<-hl];omega
  dsimp only
  rw[sh];rw[show (e0-e).toNat=0 by omega,Nat.shiftLeft_zero,show (e-e0).toNat=d by omega,hm,Yl];rfl
 .obtain ⟨d,hd⟩:∃d:Nat,e0=e+d:=⟨(e0-e).toNat,by omega⟩;have hm:m=m0*2^d:=by
   rw[hd,j9,lj] at hv;have h1:(m:Rat)=((m0*2^d:Nat):Rat):=by
    rw[xE];have h2:p2 e*p2 (-e)=1:=by rw[yaC];exact RS e
    have h3:(m0:Rat)*(p2 e*((2^d:Nat):Rat))*p2 (-e)=(m:Rat)*p2 e*p2 (-e):=congrArg (·*p2 (-e)) hv;have h4:(m:Rat)*p2 e*p2 (-e)=m:=by rw[wX,h2,vl]
    rw[h4] at h3;rw[<-h3]
    have:(m0:Rat)*(p2 e*((2^d:Nat):Rat))*p2 (-e)=(m0:Rat)*((2^d:Nat):Rat)*(p2 e*p2 (-e)):=by grind
    rw[this,h2,vl]
   exact_mod_cast h1
  have rF:m0≠0:=fun q=>by rw[q,wh] at hm;exact h0 hm
  unfold Format.nearest;rw[yx rF];have sh:max (e0+m0.log2-f.fractionBits) f.leastPlace=e:=by
   rw[hm,Pt rF] at hl;rw[<-hl];omega
  dsimp only
  rw[sh];rw[show (e0-e).toNat=d by omega,show (e-e0).toNat=0 by omega,vU,<-hm]
  have:=Yl (n:=m) (d:=0) (neg:=s)
  rw[vz,yk] at this;rw[this];rfl
end
end VE
end
section
namespace VE
open Ieee
structure GO(f:Format)(b:Nat)(s:Bool)(m:Nat)(e:Int):Prop where
 can:Can f m e
 lt:eU f m e<f.infRung
 eq:b=f.word s (eU f m e)
def GO.read{f:Format}{b:Nat}{s:Bool}{m:Nat}{e:Int}(h:GO f b s m e):f.read b=.number s m e:=by
 rw[h.eq];exact ajO h.can s h.lt
def sg(s:Bool):Rat:=if s then -1 else 1
def fv(s:Bool)(m:Nat)(e:Int):Rat:=sg s*((m:Rat)*p2 e)
def an7{f:Format}{m:Nat}{e:Int}(h:Can f m e)(he:(e-f.leastPlace).toNat+2<=2^f.exponentBits-1):eU f m e<f.infRung:=by
 have aB:=h.lt;rw[y8] at aB;unfold eU Format.infRung Format.binade
 have:=yL (2^f.fractionBits) he
 rw[xL] at this;omega
def arL{f:Format}{n:Nat}{k:Int}(h0:n≠0)(hn:n<2^(f.fractionBits+1))(hk:f.leastPlace<=k):∃m e,Can f m e/\m≠0/\e<=k/\(m:Rat)*p2 e=(n:Rat)*p2 k:=by
 have hl:=(yaO h0).2 hn;obtain⟨j,hj⟩:∃j:Nat,j=min (f.fractionBits-n.log2) (k-f.leastPlace).toNat:=⟨_,rfl⟩;have h1:2^n.log2<=n:=Nat.log2_self_le h0;have h2:n<2^(n.log2+1):=ybp;refine⟨n*2^j,k-j,⟨by omega,?_,?_⟩,uZ (wN (by omega) (y7 _)),by omega,?_⟩
 .have:n*2^j<2^(n.log2+1)*2^j:=xP h2 (y7 _)
  rw[<-xB] at this;exact yE this (xc (by decide) (by omega))
 .by_cases c:f.fractionBits-n.log2<=(k-f.leastPlace).toNat
  .left
   have:=yL (2^j) h1
   rw[<-xB,show n.log2+j=f.fractionBits by omega] at this;exact this
  .right;omega
 .rw [xE,<-lj,wX,<-j9,show (j:Int)+(k-j)=k by omega]
def wr{f:Format}{n:Nat}{k:Int}(h0:n≠0)(hn:n<2^(f.fractionBits+1))(hk:f.leastPlace<=k)(ri:(k-f.leastPlace).toNat+2<=2^f.exponentBits-1){m0:Nat}{e0:Int}(s:Bool)(hv:(m0:Rat)*p2 e0=(n:Rat)*p2 k):∃m e,GO f (f.write (.number s m0 e0)) s m e/\m≠0/\(m:Rat)*p2 e=(n:Rat)*p2 k:=by
 obtain⟨m,e,hc,hm,he,hq⟩:=arL h0 hn hk;have hr:=an7 hc (by have:=hc.lp;omega);refine⟨m,e,⟨hc,hr,?_⟩,hm,hq⟩;show f.nearest s m0 e0=_
 rw[alT hc hm s (hv.trans hq.symm),xt (by omega)]
def aca(f:Format):Can f 0 f.leastPlace:=⟨ycs _,y7 _,.inr rfl⟩
def wr0{f:Format}(s:Bool)(e0:Int)(hi:0<f.infRung):GO f (f.write (.number s 0 e0)) s 0 f.leastPlace:=by
 have hr:eU f 0 f.leastPlace=0:=by unfold eU;rw[ycg];simp
 refine⟨aca f,by rw[hr];exact hi,?_⟩
 rw[hr];show f.nearest s 0 e0=_
 unfold Format.nearest;rw[yN rfl]
def arM{f:Format}{b:Nat}(hb:b<2*f.signWeight)(rm:f.binade<=f.infRung):(∃s m e,GO f b s m e)\/(∀s m e,f.read b≠.number s m e):=by
 have kW:=aaY f;have hp:0<2^f.fractionBits:=y7 _;obtain⟨s,r,hr,rfl⟩:∃(s:Bool) (r:Nat),r<f.signWeight/\b=f.word s r:=by
  by_cases c:b<f.signWeight
  .exact ⟨ycH,b,c,by unfold Format.word;rw[yx (by decide)]⟩
  .exact ⟨ycG,b-f.signWeight,by omega,by unfold Format.word;rw[yN rfl];omega⟩
 by_cases c:r<f.infRung
 .left
  by_cases c1:r<2^f.fractionBits
  .have e:eU f r f.leastPlace=r:=by unfold eU;rw[ycg];simp
   exact⟨s,r,f.leastPlace,⟨ycs _,by rw[y8];omega,.inr rfl⟩,by rw[e];exact c,by rw[e]⟩
  .obtain ⟨d,hd⟩:∃d,r/2^f.fractionBits=d+1:=⟨r/2^f.fractionBits-1,by have:=yct (ybm c1) hp;omega⟩;have hm:=xp r hp;have hq:=xK r (2^f.fractionBits);rw[hd,xz,yk,xb] at hq;have e:eU f (2^f.fractionBits+r%2^f.fractionBits) (f.leastPlace+d)=r:=by
    unfold eU;rw[show (f.leastPlace+(d:Int)-f.leastPlace).toNat=d by omega];omega
   exact⟨s,2^f.fractionBits+r%2^f.fractionBits,f.leastPlace+d,⟨by omega,by rw[y8];omega,.inl (by omega)⟩,by rw[e];exact c,by rw[e]⟩
 .right
  intro s' m e h;unfold Format.read at h;have kP:f.word s r%f.signWeight=r:=by
   unfold Format.word
   cases s with
   | true=>rw[yN rfl,ybo,yK hr]
   | false=>rw[yx (by decide),yK hr]
  simp only[kP] at h;rw[yx (by omega),yx c] at h
  split at h<;>cases h
end VE
end
section
namespace VE
open Ieee
section
variable {s:Bool}{e:Int}{m:Nat}
abbrev nD(b:Nat)(s:Bool)(m:Nat)(e:Int):Prop:=GO single b s m e
def GP:single.leastPlace= -149:=by decide
def nD.b{b:Nat}(h:nD b s m e): -149<=e/\m<16777216/\(8388608<=m\/e= -149)/\e<=104:=by
 have h1:=h.can.lp;have h2:=h.can.lt;have h3:=h.can.ge;have h4:=h.lt;rw[GP] at h1 h3;have h4:(e-single.leastPlace).toNat*8388608+m<2139095040:=h4;rw[GP] at h4;have h2:m<16777216:=h2;have h3:8388608<=m\/e= -149:=h3;exact⟨h1,h2,h3,by omega⟩
def GQ{n:Nat}{k:Int}(h0:n≠0)(hn:n<16777216)(hk: -149<=k)(ri:k<=104){m0:Nat}{e0:Int}(s:Bool)(hv:(m0:Rat)*p2 e0=(n:Rat)*p2 k):∃m e,nD (single.write (.number s m0 e0)) s m e/\m≠0/\(m:Rat)*p2 e=(n:Rat)*p2 k:=
 wr (f:=single) h0 hn (by rw[GP];exact hk) (by rw[GP];show _<=255;omega) s hv
def TQ(s:Bool)(e0:Int):nD (single.write (.number s 0 e0)) s 0 (-149):=by
 have:=wr0 (f:=single) s e0 (by decide)
 rwa[GP] at this
def acb:single.read 1073741824=.number ycH 8388608 (-22):=by decide
def TR{b:Nat}(h:nD b s m e)(he:e<=103\/m=0):∃b' m' e',single.mul b 1073741824=D5 b'/\nD b' s m' e'/\(m':Rat)*p2 e'=2*((m:Rat)*p2 e):=by
 obtain⟨b1,b2,b3,b4⟩:=h.b;have hr:=h.read;unfold Format.mul;rw[hr,acb];show ∃b' m' e',D5 (single.write (.number (s^^ycH) (m*8388608) (e+ -22)))=D5 b'/\_
 rw[ybx];by_cases h0:m=0
 .subst h0;rw[wh];exact⟨_,_,_,rfl,TQ s _,by simp⟩
 .obtain ⟨m',e',k1,k2,k3⟩:=GQ (n:=m) (k:=e+1) h0 b2 (by omega) (by omega) (m0:=m*8388608) (e0:=e+ -22) s (by
   have:((8388608:Nat):Rat)=p2 23:=(lj 23).symm
   rw[xE,this,wX,<-j9,show (23:Int)+(e+ -22)=e+1 by omega])
  exact⟨_,m',e',rfl,k1,by rw[k3,j9,Am];grind⟩
def TS{b:Nat}(h:nD b s m e)(he: -148<=e\/m%2=0):∃b' m' e',single.div b 1073741824=D5 b'/\nD b' s m' e'/\2*((m':Rat)*p2 e')=(m:Rat)*p2 e:=by
 obtain⟨b1,b2,b3,b4⟩:=h.b;have hr:=h.read;unfold Format.div;rw[hr,acb];have hl:(8388608:Nat).log2=23:=by decide
 have e0:Datum.quotient (single.fractionBits+2) (.number s m e) (.number ycH 8388608 (-22))=D5 (.number (s^^ycH) (2*((m<<<(25+23-m.log2))/8388608)+((m<<<(25+23-m.log2))%8388608 !=0).toNat) (e - -22-(25+23-m.log2:Nat)-1)):=by
  show (if (8388608:Nat)=0 then (if m=0 then D6 else D5 (Datum.infinity (s^^ycH))) else D5 (Datum.number (s^^ycH) (2*((m<<<(25+ybH 8388608-m.log2))/8388608)+((m<<<(25+ybH 8388608-m.log2))%8388608 !=0).toNat) (e - -22-((25+ybH 8388608-m.log2:Nat):Int)-1)))=_
  rw[yx (by decide),hl]
 rw[e0,ybx];show ∃b' m' e',D5 (single.write (.number s _ _))=D5 b'/\_
 by_cases h0:m=0
 .subst h0;simp only[Nat.zero_shiftLeft,Nat.zero_div,Nat.zero_mod,xv];exact⟨_,_,_,rfl,TQ s _,by simp⟩
 .have Ov:m.log2<24:=(yaO h0).2 b2;obtain⟨t,ht⟩:∃t,25+23-m.log2=t+23:=⟨25-m.log2,by omega⟩;have fM:m<<<(t+23)=(m*2^t)*8388608:=by rw[vU,xB,<-y5]
  rw[ht,fM,uB _ (by decide),uS];simp only[bne_self_eq_false,ybi,yS];have aJ:((2*(m*2^t):Nat):Rat)*p2 (e - -22-(t+23:Nat)-1)=(m:Rat)*p2 (e-1):=by
   have:((2:Nat):Rat)=p2 1:=(lj 1).symm
   rw[xE,xE,<-lj,this];have h2:p2 1*((m:Rat)*p2 t)*p2 (e - -22-(t+23:Nat)-1)=(m:Rat)*(p2 1*p2 t*p2 (e - -22-(t+23:Nat)-1)):=by grind
   rw[h2,<-j9,<-j9,show (1:Int)+t+(e - -22-(t+23:Nat)-1)=e-1 by omega]
  have fin:∀{m':Nat} {e':Int},(m':Rat)*p2 e'=(m:Rat)*p2 (e-1)->2*((m':Rat)*p2 e')=(m:Rat)*p2 e:=fun {m' e'} q=>by
   rw[q]
   have:p2 e=p2 1*p2 (e-1):=by rw[<-j9,show 1+(e-1)=e by omega]
   rw[this,Am];grind
  by_cases c: -148<=e
  .obtain ⟨m',e',k1,k2,k3⟩:=GQ (n:=m) (k:=e-1) h0 b2 (by omega) (by omega) s aJ;exact⟨_,m',e',rfl,k1,fin k3⟩
  .have UJ:m%2=0:=by omega
   have hm:((m:Nat):Rat)=((m/2:Nat):Rat)*2:=by
    have:m=m/2*2:=by omega
    conv=>lhs;rw[this,xE]
    rfl
   have hq:(m:Rat)*p2 (e-1)=((m/2:Nat):Rat)*p2 e:=by
    have:p2 e=p2 1*p2 (e-1):=by rw[<-j9,show 1+(e-1)=e by omega]
    rw[hm,this,Am];grind
   obtain⟨m',e',k1,k2,k3⟩:=GQ (n:=m/2) (k:=e) (by omega) (by omega) (by omega) (by omega) s (aJ.trans hq);exact⟨_,m',e',rfl,k1,fin (k3.trans hq.symm)⟩
def ofInt{n:Int}(h:n.natAbs<=16777216):∃m e,nD (single.write (.number (n<0) n.natAbs 0)) (n<0) m e/\(m:Rat)*p2 e=(n.natAbs:Rat):=by
 by_cases h0:n.natAbs=0
 .rw [h0];exact⟨0,-149,TQ _ _,by simp⟩
 .by_cases h1:n.natAbs<16777216
  .obtain ⟨m,e,k1,k2,k3⟩:=GQ (n:=n.natAbs) (k:=0) h0 h1 (by omega) (by omega) (m0:=n.natAbs) (e0:=0) (n<0) rfl;exact⟨m,e,k1,by rw[k3,Dy,vl]⟩
  .have h2:n.natAbs=16777216:=by omega
   obtain⟨m,e,k1,k2,k3⟩:=GQ (n:=8388608) (k:=1) (by decide) (by decide) (by omega) (by omega) (m0:=n.natAbs) (e0:=0) (n<0) (by rw[h2,Dy,Am];decide+kernel)
   exact⟨m,e,k1,by rw[k3,h2,Am];decide+kernel⟩
def alU(n d:Nat)(s:Bool):Toward.zero.cut s n d=n/2^d:=by
 unfold Toward.cut;simp only[ybh,ybi,yS];by_cases c:d<=n.log2+2
 .rw [xt c]
 .have h1:n<2^(n.log2+1):=ybp;rw[Nat.min_eq_right (by omega),xH (wW h1 (wV (by decide) (by omega))),xH (wW h1 (wV (by decide) (by omega)))]
def nD.toInt{b:Nat}(h:nD b s m e):(single.read b).toInt .zero=D5 (if s=ycG then -((m*2^e.toNat/2^(-e).toNat:Nat):Int) else ((m*2^e.toNat/2^(-e).toNat:Nat):Int)):=by
 rw[h.read];unfold Datum.toInt Datum.integral;simp only[alU,vU,signed,vz,yk]
def aae{base:Int}(h:base<=e):((signed s m (e-base).toNat:Int):Rat)*p2 base=fv s m e:=by
 have:p2 e=p2 ((e-base).toNat:Nat)*p2 base:=by rw[<-j9,show ((e-base).toNat:Int)+base=e by omega]
 unfold signed fv sg;rw[this,vU,lj]
 cases s with
 | true=>
  rw[yN rfl,yN rfl,ue]
  have:(((m*2^(e-base).toNat:Nat):Int):Rat)=(m:Rat)*((2^(e-base).toNat:Nat):Rat):=by rw[<-xE];rfl
  rw[this];grind
 | false=>
  rw[yx (by decide),yx (by decide)]
  have:(((m*2^(e-base).toNat:Nat):Int):Rat)=(m:Rat)*((2^(e-base).toNat:Nat):Rat):=by rw[<-xE];rfl
  rw[this];grind
def an8{x y n:Nat}{t:Bool}{j:Int}(hx:nD x s m e)(hy:nD y t n j):single.order x y=D5 (if fv s m e<fv t n j then .lt else if fv s m e=fv t n j then .eq else .gt):=by
 unfold Format.order;rw[hx.read,hy.read];unfold Datum.order;have h1:=aae (m:=m) (s:=s) (show min e j<=e by omega);have h2:=aae (m:=n) (s:=t) (show min e j<=j by omega);have hp:=RR (min e j)
 dsimp only
 generalize signed s m (e-min e j).toNat=a at*
 generalize signed t n (j-min e j).toNat=b at*
 rw[<-h1,<-h2]
 congr 1
 have lt_iff:(a:Rat)*p2 (min e j)<(b:Rat)*p2 (min e j)↔a<b:=by
  constructor
  .intro q
   have:=(vZ hp).1 q
   exact_mod_cast this
  .intro q;exact (vZ hp).2 (by exact_mod_cast q)
 have eq_iff:(a:Rat)*p2 (min e j)=(b:Rat)*p2 (min e j)↔a=b:=by
  constructor
  .intro q;rcases tH a b with c | c | c
   .have:=lt_iff.2 c;rw[q] at this;exact absurd this (yar)
   .exact c
   .have:=(vZ hp).2 (show (b:Rat)<a by exact_mod_cast c);rw[q] at this;exact absurd this (yar)
  .intro q;rw[q]
 rcases tH a b with c | c | c
 .rw [yN (lt_iff.2 c)];exact Int.compare_eq_lt.2 c
 .rw [yx (fun q=>by have:=lt_iff.1 q;omega),yN (eq_iff.2 c)];exact Int.compare_eq_eq.2 c
 .rw [yx (fun q=>by have:=lt_iff.1 q;omega),yx (fun q=>by have:=eq_iff.1 q;omega)];exact Int.compare_eq_gt.2 c
end
end VE
end
section
namespace VE
open Ieee
section
variable {s:Bool}{e:Int}{M b m:Nat}
def dh(m:Nat)(e:Int):Nat:=m*2^(e+149).toNat
structure Fl(b:Nat)(s:Bool)(M:Nat):Prop where
 ex:∃m e,nD b s m e/\M=dh m e
def rU(h: -149<=e):((dh m e:Nat):Rat)=(m:Rat)*p2 e*p2 149:=by
 unfold dh;rw[xE,<-lj,wX,<-j9,show ((e+149).toNat:Int)=e+149 by omega]
def arN:p2 149≠0:=Ss 149
def an9{n:Nat}{j:Int}(h1: -149<=e)(h2: -149<=j)(h:(m:Rat)*p2 e=(n:Rat)*p2 j):dh m e=dh n j:=by
 have:((dh m e:Nat):Rat)=((dh n j:Nat):Rat):=by rw[rU h1,rU h2,h]
 exact_mod_cast this
def Fl.lt(h:Fl b s M):M<2^277:=by
 obtain⟨m,e,h1,rfl⟩:=h.ex;obtain⟨b1,b2,b3,b4⟩:=h1.b;unfold dh;have h3:2^(e+149).toNat<=2^253:=xc (by decide) (by omega);have h4:=xd (vE (show m<16777215+1 from b2)) h3;exact xY h4 (arJ 16777215 24 253 277 (by decide) rfl)
def Fl.TR(h:Fl b s M)(hM:M<2^276):∃b',single.mul b 1073741824=D5 b'/\Fl b' s (2*M):=by
 obtain⟨m,e,h1,rfl⟩:=h.ex;obtain⟨b1,b2,b3,b4⟩:=h1.b;have he:e<=103\/m=0:=by
  by_cases c:e<=103
  .exact .inl c
  .exfalso
   have hm:8388608<=m:=by omega
   unfold dh at hM;have h3:2^253<=2^(e+149).toNat:=xc (by decide) (by omega);have h4:=xd hm h3;have h5:(2:Nat)^275<=8388608*2^253:=arK 8388608 23 253 275 (by decide) (by decide);omega
 obtain⟨b',m',e',k1,k2,k3⟩:=VE.TR h1 he;have VF:=k2.b.1;refine⟨b',k1,m',e',k2,?_⟩
 have:((2*dh m e:Nat):Rat)=((dh m' e':Nat):Rat):=by
  rw[xE,rU b1,rU VF,k3];show (2:Rat)*_=_
  grind
 exact_mod_cast this
def Fl.TS(h:Fl b s M)(hM:M%2=0):∃b',single.div b 1073741824=D5 b'/\Fl b' s (M/2):=by
 obtain⟨m,e,h1,rfl⟩:=h.ex;obtain⟨b1,b2,b3,b4⟩:=h1.b;have he: -148<=e\/m%2=0:=by
  by_cases c: -148<=e
  .exact .inl c
  .have:e= -149:=by omega
   subst this;unfold dh at hM;right
   simpa using hM
 obtain⟨b',m',e',k1,k2,k3⟩:=VE.TS h1 he;have VF:=k2.b.1;refine⟨b',k1,m',e',k2,?_⟩
 have:((dh m e:Nat):Rat)=((2*dh m' e':Nat):Rat):=by
  rw[xE,rU b1,rU VF,<-k3];show _=(2:Rat)*_
  grind
 have:dh m e=2*dh m' e':=by exact_mod_cast this
 omega
def bz(s:Bool)(M:Nat):Int:=if s then -(M:Int) else M
def acd(h: -149<=e):fv s m e*p2 149=((bz s (dh m e):Int):Rat):=by
 unfold fv sg bz
 cases s with
 | true=>
  rw[yN rfl,yN rfl,ue]
  have:=rU (m:=m) h
  have h2:(((dh m e:Nat):Int):Rat)=((dh m e:Nat):Rat):=rfl;rw[h2,this];grind
 | false=>
  rw[yx (by decide),yx (by decide)]
  have:=rU (m:=m) h
  have h2:(((dh m e:Nat):Int):Rat)=((dh m e:Nat):Rat):=rfl;rw[h2,this];grind
def Fl.ord{x y:Nat}{t:Bool}{N:Nat}(hx:Fl x s M)(hy:Fl y t N):single.order x y=D5 (if bz s M<bz t N then .lt else if bz s M=bz t N then .eq else .gt):=by
 obtain⟨m,e,h1,rfl⟩:=hx.ex;obtain⟨n,j,h2,rfl⟩:=hy.ex;rw[an8 h1 h2];have q1:=acd (s:=s) (m:=m) h1.b.1;have q2:=acd (s:=t) (m:=n) h2.b.1;have hp:=RR 149;have lt_iff:fv s m e<fv t n j↔bz s (dh m e)<bz t (dh n j):=by
  rw[<-vZ hp,q1,q2];exact Rat.intCast_lt_intCast
 have eq_iff:fv s m e=fv t n j↔bz s (dh m e)=bz t (dh n j):=by
  constructor
  .intro q;rw[q,q2] at q1;exact (Rat.intCast_inj.1 q1).symm
  .intro q
   have:fv s m e*p2 149=fv t n j*p2 149:=by rw[q1,q2,q]
   have h3:=congrArg (·*(p2 149)⁻¹) this;simpa only[wX,Rat.mul_inv_cancel _ arN,vl] using h3
 congr 1
 by_cases c1:bz s (dh m e)<bz t (dh n j)
 .rw [yN c1,yN (lt_iff.2 c1)]
 .rw [yx c1,yx (fun q=>c1 (lt_iff.1 q))];by_cases c2:bz s (dh m e)=bz t (dh n j)
  .rw [yN c2,yN (eq_iff.2 c2)]
  .rw [yx c2,yx (fun q=>c2 (eq_iff.1 q))]
def Fl.ofInt{n:Int}(h:n.natAbs<=16777216):Fl (single.write (.number (n<0) n.natAbs 0)) (n<0) (n.natAbs*2^149):=by
 obtain⟨m,e,k1,k2⟩:=VE.ofInt h;refine⟨m,e,k1,?_⟩;have b1:=k1.b.1
 have:((n.natAbs*2^149:Nat):Rat)=((dh m e:Nat):Rat):=by
  rw[rU b1,k2,xE,<-lj];rfl
 exact_mod_cast this
def Fl.toInt(h:Fl b s M):(single.read b).toInt .zero=D5 (bz s (M/2^149)):=by
 obtain⟨m,e,h1,rfl⟩:=h.ex;have b1:=h1.b.1;rw[h1.toInt]
 have:m*2^e.toNat/2^(-e).toNat=dh m e/2^149:=by
  unfold dh;by_cases c:0<=e
  .rw [show (-e).toNat=0 by omega,vz,Nat.div_one,show (e+149).toNat=e.toNat+149 by omega,xB,<-y5,uB _ (y7 _)]
  .obtain ⟨d,hd⟩:∃d:Nat,e= -(d:Int):=⟨(-e).toNat,by omega⟩;have iM:(e+149).toNat+d=149:=by omega
   rw[show e.toNat=0 by omega,vz,yk,show (-e).toNat=d by omega];have hp:0<2^(e+149).toNat:=y7 _;rw[<-iM,xB,xb m,Nat.mul_div_mul_left _ _ hp]
 rw[this];unfold bz;cases s<;>rfl
def Fl.zero:Fl 0 ycH 0:=⟨0,-149,⟨by rw[<-GP];exact aca single,by decide,by decide⟩,by decide⟩
def Fl.neg(h:Fl b s M):Fl (b^^^2147483648) (!s) M:=by
 obtain⟨m,e,h1,rfl⟩:=h.ex;refine⟨m,e,⟨h1.can,h1.lt,?_⟩,rfl⟩;have hr:eU single m e<2^31:=wW h1.lt (by decide);have sw:single.signWeight=2^31:=by decide
 rw[h1.eq];unfold Format.word;rw[sw];have hx:eU single m e^^^2147483648=2^31+eU single m e:=by
  rw[show (2147483648:Nat)=2^31*1 by decide,Nat.xor_comm]
  have:=Nat.two_pow_add_eq_or_of_lt hr 1
  have h2:=Nat.xor_mod_two_pow (a:=eU single m e) (b:=2^31*1) (n:=31);refine Nat.eq_of_testBit_eq fun i=>?_
  rw[Nat.testBit_xor,show 2^31+eU single m e=2^31*1+eU single m e by omega,Nat.testBit_two_pow_mul_add _ hr,Nat.testBit_two_pow_mul];by_cases c:i<31
  .simp [c,show ¬31<=i by omega]
  .have:Nat.testBit (eU single m e) i=ycH:=Nat.testBit_lt_two_pow (yE hr (xc (by decide) (by omega)))
   simp[c,this,show 31<=i by omega]
 cases s with
 | false=>rw[yx (by decide),hx];rfl
 | true=>
  rw[yN rfl]
  have:(2^31+eU single m e)^^^2147483648=eU single m e:=by rw[<-hx,Nat.xor_assoc,Nat.xor_self,Nat.xor_zero]
  rw[this];rfl
end
end VE
end
section
namespace VE
open Go (IntKind)
open Ieee
section
variable {s:Bool}{M b:Nat}
def Fl.even(h:Fl b s M)(hM:2^173<=M):M%2=0:=by
 obtain⟨m,e,h1,rfl⟩:=h.ex;obtain⟨b1,b2,b3,b4⟩:=h1.b;by_cases c:e<=0
 .exfalso
  unfold dh at hM;have h3:2^(e+149).toNat<=2^149:=xc (by decide) (by omega);have h4:=xd (vE (show m<16777215+1 from b2)) h3;have h5:16777215*(2:Nat)^149<2^173:=by decide
  omega
 .obtain ⟨d,hd⟩:∃d,(e+149).toNat=d+1:=⟨(e+148).toNat,by omega⟩;unfold dh;rw[hd,y8,<-y5,uS]
def Fl.whole(h:Fl b s M)(hM:2^172<=M):M%2^149=0:=by
 obtain⟨m,e,h1,rfl⟩:=h.ex;obtain⟨b1,b2,b3,b4⟩:=h1.b;by_cases c:e<0
 .exfalso
  unfold dh at hM;have h3:2^(e+149).toNat<=2^148:=xc (by decide) (by omega);have h4:=xd (vE (show m<16777215+1 from b2)) h3;have h5:16777215*(2:Nat)^148<2^172:=by decide
  omega
 .obtain ⟨d,hd⟩:∃d,(e+149).toNat=d+149:=⟨e.toNat,by omega⟩;unfold dh;rw[hd,xB,<-y5,uS]
def aaZ(h:Fl b s M)(hM:M<2^276):∃b',binOp .mul (.au .f32 b) (.au .f32 1073741824)=D5 (.au .f32 b')/\Fl b' s (2*M):=by
 obtain⟨b',k1,k2⟩:=h.TR hM;refine⟨b',?_,k2⟩;show (match single.mul b 1073741824 with | some b=>D5 (AV.au .f32 b) | none=>D6)=_
 rw[k1]
def aa0(h:Fl b s M)(hM:M%2=0):∃b',binOp .quo (.au .f32 b) (.au .f32 1073741824)=D5 (.au .f32 b')/\Fl b' s (M/2):=by
 obtain⟨b',k1,k2⟩:=h.TS hM;refine⟨b',?_,k2⟩;show (match single.div b 1073741824 with | some b=>D5 (AV.au .f32 b) | none=>D6)=_
 rw[k1]
section
variable {x y M N:Nat}{s t:Bool}(hx:Fl x s M)(hy:Fl y t N)
include hx hy
theorem ace:binOp .lss (.au .f32 x) (.au .f32 y)=D5 (.bool (decide (bz s M<bz t N))):=by
 show D5 (AV.bool (single.order x y==D5 .lt))=_
 rw[hx.ord hy];by_cases c:bz s M<bz t N
 .rw [yN c,yU c];rfl
 .rw [yx c,yW c];split<;>rfl
theorem acf:binOp .geq (.au .f32 x) (.au .f32 y)=D5 (.bool (decide (bz t N<=bz s M))):=by
 show D5 (AV.bool (single.order x y==D5 .gt||single.order x y==D5 .eq))=_
 rw[hx.ord hy];by_cases c:bz s M<bz t N
 .rw [yN c,yW (by omega)];rfl
 .rw [yx c,yU (by omega)];split<;>rfl
theorem acg:binOp .neq (.au .f32 x) (.au .f32 y)=D5 (.bool (!decide (bz s M=bz t N))):=by
 show D5 (AV.bool (single.order x y !=D5 .eq))=_
 rw[hx.ord hy];by_cases c:bz s M<bz t N
 .rw [yN c,yW (by omega)];rfl
 .rw [yx c];by_cases d:bz s M=bz t N
  .rw [yN d,yU d];rfl
  .rw [yx d,yW d];rfl
end
def ach(b:Nat):unOp .neg (.au .f32 b)=D5 (.au .f32 (b^^^2147483648)):=rfl
def at7(h:Fl b s M):∃a,max2 (.au .f32 b) (.au .f32 (b^^^2147483648))=D5 (.au .f32 a)/\Fl a ycH M:=by
 have hn:=h.neg;have ho:=h.ord hn
 have e:max2 (.au .f32 b) (.au .f32 (b^^^2147483648))=(match single.order b (b^^^2147483648) with
  | none=>D6
  | some .lt=>D5 (.au .f32 (b^^^2147483648))
  | some .gt=>D5 (.au .f32 b)
  | some .eq=>D5 (.au .f32 (if (single.read b).neg then (b^^^2147483648) else b))):=rfl
 rw[e,ho];obtain⟨m,j,h1,hM⟩:=h.ex;have hr:(single.read b).neg=s:=by rw[h1.read];rfl
 cases s with
 | true=>
  by_cases c:bz ycG M<bz (!ycG) M
  .rw [yN c];exact⟨_,rfl,hn⟩
  .have:bz ycG M=bz (!ycG) M:=by
    unfold bz at c ⊢;simp at c ⊢;omega
   rw[yx c,yN this]
   dsimp only
   rw[hr,yN rfl];exact⟨_,rfl,hn⟩
 | false=>
  have c:¬bz ycH M<bz (!ycH) M:=by
   show ¬(M:Int)< -(M:Int)
   omega
  rw[yx c];by_cases d:bz ycH M=bz (!ycH) M
  .rw [yN d]
   dsimp only
   rw[hr,yx (by decide)];exact⟨_,rfl,h⟩
  .rw [yx d];exact⟨_,rfl,h⟩
def L5(h:Fl b s M)(hM:M<2^200):kM (.toInt .i64) (.au .f32 b)=D5 (.int .i64 (bz s (M/2^149))):=by
 have e:kM (.toInt .i64) (.au .f32 b)=(match (single.read b).toInt .zero with
  | some n=>if IntKind.min .i64<=n/\n<=IntKind.max .i64 then D5 (.int .i64 n) else D6
  | none=>D6):=rfl
 rw[e,h.toInt];have h1:M/2^149<2^51:=by rw[xu (y7 _),<-xB];exact hM
 generalize M/2^149=n at h1
 have:IntKind.min .i64<=bz s n/\bz s n<=IntKind.max .i64:=by
  rw[show IntKind.min .i64= -9223372036854775808 from rfl,show IntKind.max .i64=9223372036854775807 from rfl];unfold bz
  split<;>omega
 exact yN this
def aaf{n:Int}(h:n.natAbs<=16777216):∃b,kM (.toFlt .f32) (.int .i64 n)=D5 (.au .f32 b)/\Fl b (n<0) (n.natAbs*2^149):=
 ⟨_,rfl,Fl.ofInt h⟩
def aci:Fl 1266679808 ycH (2^173):=⟨8388608,1,⟨⟨by decide,by decide,.inl (by decide)⟩,by decide,by decide⟩,by decide⟩
end
end VE
end
section
namespace VE
open Go (IntKind)
def ajP(p s:Nat):p*(s%1000000000)+p*1000000000*(s/1000000000)=p*s:=by
 rw[y5,<-xz,vP]
def Hu{l:List Int}{i:Nat}(h:l.length<=i):l.getD i 0=0:=by simp_all
def alV{a b out:List Int}{i c:Nat}{x y:Int}(hx:x=a.getD i 0)(hy:y=b.getD i 0)(h1:0<=x)(h2:0<=y)(hl:out.length=i)(hv:dv out+1000000000^i*c=dv (a.take i)+dv (b.take i)):
  dv (out++[(((x.toNat+y.toNat+c)%1000000000:Nat):Int)])+1000000000^(i+1)*((x.toNat+y.toNat+c)/1000000000)=dv (a.take (i+1))+dv (b.take (i+1)):=by
 rw[pc,pc,lV,hl,<-hx,<-hy];simp only[dv,wz,xv,yS,y8]
 have:=ajP (1000000000^i) (x.toNat+y.toNat+c)
 grind
section
variable {P:aE}{L:Lib}
def arO(nk:Has P L 302 su){v w:AV}{a b:List Int}(hv:bn v a)(hw:bn w b)(ha:dg a)(hb:dg b){N:Nat}(la:a.length<=N)(lb:b.length<=N)(lN:N<=20000000000):
  cP P L [0,1,5,6,7] po (fun k s=>∃(i c:Nat) (out:List Int),2*(N-i)+c=k/\out.length=i/\c<=1/\dg out/\dv out+1000000000^i*c=dv (a.take i)+dv (b.take i)/\i<=N+1/\(i<=N\/c=0)/\
    ((i=0/\s=⟨[(0,v),(1,w),(5,.ah),(6,aa c),(7,aa i)],[],0,0⟩)\/
    (0<i/\s=⟨[(0,v),(1,w),(5,.av 0 0 i),(6,aa c),(7,aa i)],[(0,.cells ycG ycG ycH 1 (out.map aa))],1,0⟩))) (fun ex s'=>∃tm out,ex=.exit 0/\dg out/\dv out=dv a+dv b/\out.length<=N+1/\((out=[]/\aj tm 5=.ah/\s'=⟨tm,[],0,0⟩)\/(0<out.length/\aj tm 5=.av 0 0 out.length/\s'=⟨tm,[(0,.cells ycG ycG ycH 1 (out.map aa))],1,0⟩))):=by
 apply cT;rintro k s ⟨i,c,out,hk,hlen,hc,rE,aJ,hi,Fu,hs⟩;have e1:=Tn nk hv i;have e2:=Tn nk hw i;unfold af at e1 e2;have ga:=gY ha i;have gb:=gY hb i;by_cases iL:i<a.length\/i<b.length\/0<c
 .left
  obtain⟨x,hx⟩:∃x,x=a.getD i 0:=⟨_,rfl⟩;obtain⟨y,hy⟩:∃y,y=b.getD i 0:=⟨_,rfl⟩;rw[<-hx] at e1 ga;rw[<-hy] at e2 gb;have kL:=alV (c:=c) hx hy ga.1 gb.1 hlen aJ;obtain⟨s0,Ar⟩:∃s0,s0=x.toNat+y.toNat+c:=⟨_,rfl⟩;rw[<-Ar] at kL;have BO:x+y+(c:Int)=(s0:Int):=by lia
  have hs9:s0<2000000000:=by lia
  have hr:((s0:Nat):Int).tmod 1000000000=((s0%1000000000:Nat):Int):=by rw[xI (by lia)];rfl
  have hq:((s0:Nat):Int).tdiv 1000000000=((s0/1000000000:Nat):Int):=by rw[xJ (by lia)];rfl
  have jw:s0/1000000000<=1:=by lia
  have aua:2*(N-(i+1))+s0/1000000000<k:=by
   by_cases hm:i<N
   .lia
   .have:c=1:=by lia
    have AF:x=0:=by rw[hx];exact Hu (by lia)
    have jU:y=0:=by rw[hy];exact Hu (by lia)
    subst AF;subst jU
    have:s0=1:=by rw[Ar,this];rfl
    subst this
    lia
  have qW:dg (out++[((s0%1000000000:Nat):Int)]):=gB.2 ⟨rE,lh.2 (by lia)⟩;have Su:(out++[((s0%1000000000:Nat):Int)]).length=i+1:=by simp[hlen]
  have avX:i+1<=N\/s0/1000000000=0:=by
   by_cases hm:i<N
   .exact .inl hm
   .right
    have:c=1:=by lia
    have AF:x=0:=by rw[hx];exact Hu (by lia)
    have jU:y=0:=by rw[hy];exact Hu (by lia)
    subst AF;subst jU
    have:s0=1:=by rw[Ar,this];rfl
    subst this;rfl
  have fin:∃s',D P L po s=D5 (.normal,s')/\bg [0,1,5,6,7] s'=⟨[(0,v),(1,w),(5,.av 0 0 (i+1)),(6,aa (s0/1000000000:Nat)),(7,aa (i+1:Nat))],[(0,.cells ycG ycG ycH 1 ((out++[((s0%1000000000:Nat):Int)]).map aa))],1,0⟩:=by
   have three:((i:Int)<a.length)\/(¬(i:Int)<a.length/\(i:Int)<b.length)\/(¬(i:Int)<a.length/\¬(i:Int)<b.length/\(0:Int)<c):=by lia
   rcases three with t1 | ⟨t1,t2⟩ | ⟨t1,t2,t3⟩
   .rcases hs with ⟨h0,rfl⟩ | ⟨h0,rfl⟩
    .subst h0;have jd:out=[]:=yG hlen;subst jd
     simp only[go_sem,ya,yc,xA,yB,yp,yk,po,hv.len,hv.ak,hw.ak,t1,e1,e2,wrap64 (n:=x+y) (by lia) (by lia),BO,wrap64 (n:=(s0:Int)) (by lia) (by lia),dY _ _ _ (show (1000000000:Int)≠0 by decide),dE _ _ _ (show (1000000000:Int)≠0 by decide),hr,hq,wrap64 (n:=((s0/1000000000:Nat):Int)) (by lia) (by lia),jl];refine⟨_,rfl,?_⟩;rw[wrap64 (by lia) (by lia)];simp only[go_sem,ya,yc,aA,aF hv.pu,aF hw.pu]<;>rfl
    .simp only [go_sem,ya,yc,yp,yk,po,hv.len,hv.ak,hw.ak,t1,e1,e2,wrap64 (n:=x+y) (by lia) (by lia),BO,wrap64 (n:=(s0:Int)) (by lia) (by lia),dY _ _ _ (show (1000000000:Int)≠0 by decide),hr]
     rw[il (ex:=ycH) (pu:=ycG) (cs:=out.map aa) rfl (by rw[yX,hlen,yk]) (by lia) (by lia) (by decide) rfl]
     simp only[go_sem,ya,yc,dE _ _ _ (show (1000000000:Int)≠0 by decide),hq,wrap64 (n:=((s0/1000000000:Nat):Int)) (by lia) (by lia)];refine⟨_,rfl,?_⟩;rw[wrap64 (by lia) (by lia),xk];simp only[go_sem,ya,yc,aA,aF hv.pu,aF hw.pu]<;>rfl
   .rcases hs with ⟨h0,rfl⟩ | ⟨h0,rfl⟩
    .subst h0;have jd:out=[]:=yG hlen;subst jd
     simp only[go_sem,ya,yc,xA,yB,yp,yk,po,hv.len,hv.ak,hw.len,hw.ak,t1,t2,e1,e2,wrap64 (n:=x+y) (by lia) (by lia),BO,wrap64 (n:=(s0:Int)) (by lia) (by lia),dY _ _ _ (show (1000000000:Int)≠0 by decide),dE _ _ _ (show (1000000000:Int)≠0 by decide),hr,hq,wrap64 (n:=((s0/1000000000:Nat):Int)) (by lia) (by lia),jl];refine⟨_,rfl,?_⟩;rw[wrap64 (by lia) (by lia)];simp only[go_sem,ya,yc,aA,aF hv.pu,aF hw.pu]<;>rfl
    .simp only [go_sem,ya,yc,yp,yk,po,hv.len,hv.ak,hw.len,hw.ak,t1,t2,e1,e2,wrap64 (n:=x+y) (by lia) (by lia),BO,wrap64 (n:=(s0:Int)) (by lia) (by lia),dY _ _ _ (show (1000000000:Int)≠0 by decide),hr]
     rw[il (ex:=ycH) (pu:=ycG) (cs:=out.map aa) rfl (by rw[yX,hlen,yk]) (by lia) (by lia) (by decide) rfl]
     simp only[go_sem,ya,yc,dE _ _ _ (show (1000000000:Int)≠0 by decide),hq,wrap64 (n:=((s0/1000000000:Nat):Int)) (by lia) (by lia)];refine⟨_,rfl,?_⟩;rw[wrap64 (by lia) (by lia),xk];simp only[go_sem,ya,yc,aA,aF hv.pu,aF hw.pu]<;>rfl
   .rcases hs with ⟨h0,rfl⟩ | ⟨h0,rfl⟩
    .subst h0;have jd:out=[]:=yG hlen;subst jd
     simp only[go_sem,ya,yc,xA,yB,yp,yk,po,hv.len,hv.ak,hw.len,hw.ak,t1,t2,t3,e1,e2,wrap64 (n:=x+y) (by lia) (by lia),BO,wrap64 (n:=(s0:Int)) (by lia) (by lia),dY _ _ _ (show (1000000000:Int)≠0 by decide),dE _ _ _ (show (1000000000:Int)≠0 by decide),hr,hq,wrap64 (n:=((s0/1000000000:Nat):Int)) (by lia) (by lia),jl];refine⟨_,rfl,?_⟩;rw[wrap64 (by lia) (by lia)];simp only[go_sem,ya,yc,aA,aF hv.pu,aF hw.pu]<;>rfl
    .simp only [go_sem,ya,yc,yp,yk,po,hv.len,hv.ak,hw.len,hw.ak,t1,t2,t3,e1,e2,wrap64 (n:=x+y) (by lia) (by lia),BO,wrap64 (n:=(s0:Int)) (by lia) (by lia),dY _ _ _ (show (1000000000:Int)≠0 by decide),hr]
     rw[il (ex:=ycH) (pu:=ycG) (cs:=out.map aa) rfl (by rw[yX,hlen,yk]) (by lia) (by lia) (by decide) rfl]
     simp only[go_sem,ya,yc,dE _ _ _ (show (1000000000:Int)≠0 by decide),hq,wrap64 (n:=((s0/1000000000:Nat):Int)) (by lia) (by lia)];refine⟨_,rfl,?_⟩;rw[wrap64 (by lia) (by lia),xk];simp only[go_sem,ya,yc,aA,aF hv.pu,aF hw.pu]<;>rfl
  have⟨s',f1,f2⟩:=fin;exact⟨s',_,f1,aua,i+1,s0/1000000000,_,rfl,Su,jw,qW,kL,by lia,avX,.inr ⟨by lia,f2⟩⟩
 .right
  have kT:c=0:=by lia
  subst kT;rw[xv,yS,yO (by lia),yO (by lia)] at aJ;rcases hs with ⟨h0,rfl⟩ | ⟨h0,rfl⟩
  .simp only [go_sem,ya,po,hv.len,hw.len,show ¬(i:Int)<a.length by lia,show ¬(i:Int)<b.length by lia,show ¬(0:Int)<((0:Nat):Int) by lia];exact⟨_,_,rfl,by simp,_,out,rfl,rE,aJ,by lia,.inl ⟨yG (by lia),rfl,rfl⟩⟩
  .simp only [go_sem,ya,po,hv.len,hw.len,show ¬(i:Int)<a.length by lia,show ¬(i:Int)<b.length by lia,show ¬(0:Int)<((0:Nat):Int) by lia];exact⟨_,_,rfl,by simp,_,out,rfl,rE,aJ,by lia,.inr ⟨by lia,by rw[hlen];simp only[go_sem,ya],rfl⟩⟩
def avY(h:Has P L 295 Jc)(nk:Has P L 302 su){v w:AV}{a b:List Int}(hv:bn v a)(hw:bn w b)(ha:dg a)(hb:dg b)(la:a.length<=20000000000)(lb:b.length<=20000000000):
  ∃r out,af P L 295 [v,w] r/\bn (shut r) out/\dg out/\dv out=dv a+dv b/\out.length<=max a.length b.length+1:=by
 have jc:∃out,af P L 295 [v,w] (if out=[] then .ah else .cu ycH 1 out.length (out.map aa))/\dg out/\dv out=dv a+dv b/\out.length<=max a.length b.length+1:=by
  unfold af;rw[aH h];simp only[go_sem,Jc];generalize hq:D P L (.loop _ po) _=q;obtain⟨ex,s,rfl,tm,out,rfl,hd,aJ,hl,hs⟩:=bF hq (arO (P:=P) (L:=L) nk hv hw ha hb (N:=max a.length b.length) (by lia) (by lia) (by lia) (2*(max a.length b.length))) ⟨0,0,[],by lia,rfl,by lia,rfl,by simp[dv],by lia,.inr rfl,.inl ⟨rfl,by simp only[go_sem,ya,aA,aF hv.pu,aF hw.pu]<;>rfl⟩⟩
  refine⟨out,?_,hd,aJ,hl⟩;rcases hs with ⟨h0,h5,rfl⟩ | ⟨h0,h5,rfl⟩
  .rw [yN h0];simp only[go_sem,aA,h5]
  .rw [yx (by intro e;subst e;simp at h0)];simp only[go_sem,yc,aA,h5];exact PM (ff _ _ _) (by simp) (by decide)
 have⟨out,g1,g2,g3,g4⟩:=jc;refine⟨_,out,g1,?_,g2,g3,g4⟩
 split
 .rename_i e;subst e;exact rP
 .exact ik ycH out
end
end VE
end
section
namespace VE
open Go (IntKind)
section
variable {P:aE}{L:Lib}
def TU(h:Has P L 296 ss){v w:AV}{a b:List Int}(hv:bn v a)(hw:bn w b)(ha:dg a)(hb:dg b)(na:nz a)(nb:nz b)(la:a.length<=20000000000)(lb:b.length<=20000000000):
  af P L 296 [v,w] (aa (dw (dv a) (dv b))):=by
 unfold af;rw[aH h];by_cases hlen:a.length=b.length
 .have key:=jm P L [0,1,5] CT
   (fun k st=>∃j:Nat,st=⟨[(0,v),(1,w),(5,aa ((j:Int)-1))],[],0,0⟩/\j<=a.length/\j=k/\a.drop j=b.drop j)
   (fun ex st=>∃tm ct,st=⟨tm,[],ct,0⟩/\((ex=.ret/\aj tm 4=aa (dw (dv a) (dv b)))\/(ex=.exit 0/\a=b))) ?_
  .simp only [go_sem,ya,ss,hv.len,hw.len,show (a.length:Int)=b.length by lia];generalize hq:D P L (.loop _ CT) _=q;obtain⟨ex,st,rfl,tm,ct,rfl,h2⟩:=bF hq (key a.length) ⟨a.length,by
    rw[wrap64 (by lia) (by lia)];rw[hlen]
    simp only[go_sem,ya,aA,aF hv.pu,aF hw.pu]<;>rfl,yq _,rfl,by rw[xj (yq _),xj (by lia)]⟩
   rcases h2 with ⟨rfl,h2⟩ | ⟨rfl,h2⟩
   .simp only [go_sem,h2]
   .simp only [go_sem,aA];subst h2;simp[dw]
  .rintro k st ⟨j,rfl,hj,rfl,he⟩
   cases j with
   | zero=>
    right
    simp only[go_sem,ya,CT,show ¬(0:Int)<=((0:Nat):Int)-1 by lia];exact⟨_,_,rfl,by simp,_,_,rfl,.inr ⟨rfl,by simpa using he⟩⟩
   | succ i=>
    have h1:i<a.length:=by lia
    have h2:i<b.length:=by lia
    have qd:=Z1 ha hb h1 h2 he;have aB:=Z1 hb ha h2 h1 he.symm;by_cases c1:a[i]<b[i]
    .right
     simp only[go_sem,ya,CT,show ((i+1:Nat):Int)-1=(i:Int) by lia,show (0:Int)<=(i:Int) by lia,hv.bD h1,hw.bD h2,c1];refine⟨_,_,rfl,by simp,_,_,rfl,.inl ⟨rfl,?_⟩⟩;simp only[go_sem];unfold dw;rw[yN (qd c1)]
    .by_cases c2:b[i]<a[i]
     .right
      simp only[go_sem,ya,CT,show ((i+1:Nat):Int)-1=(i:Int) by lia,show (0:Int)<=(i:Int) by lia,hv.bD h1,hw.bD h2,c1,c2];refine⟨_,_,rfl,by simp,_,_,rfl,.inl ⟨rfl,?_⟩⟩;simp only[go_sem];unfold dw;rw[yx (by lia),yN (by lia)]
     .left
      simp only[go_sem,ya,CT,show ((i+1:Nat):Int)-1=(i:Int) by lia,show (0:Int)<=(i:Int) by lia,hv.bD h1,hw.bD h2,c1,c2];refine⟨_,i,rfl,by lia,i,?_,by lia,rfl,?_⟩
      .rw [wrap64 (by lia) (by lia)];simp only[go_sem,ya,aA,aF hv.pu,aF hw.pu]<;>rfl
      .rw [yQ h1,yQ h2,he,show a[i]=b[i] by lia]
 .by_cases c1:a.length<b.length
  .have:=RE ha nb hb c1
   simp only[go_sem,ya,ss,hv.len,hw.len,show ¬(a.length:Int)=b.length by lia,show (a.length:Int)<b.length by lia];unfold dw;rw[yN this]
  .have:=RE hb na ha (show b.length<a.length by lia)
   simp only[go_sem,ya,ss,hv.len,hw.len,show ¬(a.length:Int)=b.length by lia,show ¬(a.length:Int)<b.length by lia];unfold dw;rw[yx (by lia),yN this]
def alW{a b out:List Int}{i c:Nat}{x y z:Int}{c':Nat}(hx:x=a.getD i 0)(hy:y=b.getD i 0)(h1:0<=x)(h2:0<=y)(h3:0<=z)(hz:z=x-y-c+1000000000*c')(hl:out.length=i)(hv:dv out+dv (b.take i)=dv (a.take i)+1000000000^i*c):
  dv (out++[z])+dv (b.take (i+1))=dv (a.take (i+1))+1000000000^(i+1)*c':=by
 rw[pc,pc,lV,hl,<-hx,<-hy];simp only[dv,xv,yS,y8];have e:z.toNat+y.toNat+c=x.toNat+1000000000*c':=by lia
 grind
end
end VE
end
section
namespace VE
open Go (IntKind)
section
variable {P:aE}{L:Lib}
def arP(nk:Has P L 302 su){v w:AV}{a b:List Int}(hv:bn v a)(hw:bn w b)(ha:dg a)(hb:dg b)(la:a.length<=20000000000)(hle:dv b<=dv a)(oL:b.length<=a.length):
  cP P L [0,1,5,6,7] rY (fun k s=>∃(i c:Nat) (out:List Int),i+k=a.length/\out.length=i/\c<=1/\dg out/\dv out+dv (b.take i)=dv (a.take i)+1000000000^i*c/\
    ((i=0/\s=⟨[(0,v),(1,w),(5,.ah),(6,aa c),(7,aa i)],[],0,0⟩)\/
    (0<i/\s=⟨[(0,v),(1,w),(5,.av 0 0 i),(6,aa c),(7,aa i)],[(0,.cells ycG ycG ycH 1 (out.map aa))],1,0⟩))) (fun ex s'=>∃tm out,ex=.exit 0/\dg out/\dv out+dv b=dv a/\out.length<=20000000000/\((out=[]/\aj tm 5=.ah/\s'=⟨tm,[],0,0⟩)\/(0<out.length/\aj tm 5=.av 0 0 out.length/\s'=⟨tm,[(0,.cells ycG ycG ycH 1 (out.map aa))],1,0⟩))):=by
 apply cT;rintro k s ⟨i,c,out,hk,hlen,hc,rE,aJ,hs⟩;have e2:=Tn nk hw i;unfold af at e2;have ga:=gY ha i;have gb:=gY hb i;by_cases iL:i<a.length
 .left
  obtain⟨x,hx⟩:∃x,x=a.getD i 0:=⟨_,rfl⟩;obtain⟨y,hy⟩:∃y,y=b.getD i 0:=⟨_,rfl⟩;have Kx:a[i]=x:=by rw[hx];simp[yY,xh iL]
  have e1:=hv.bD iL;rw[Kx] at e1;rw[<-hx] at ga;rw[<-hy] at e2 gb;obtain⟨z,c',hz,jw,lR,lQ,De⟩:∃(z:Int) (c':Nat),z=x-y-c+1000000000*c'/\c'<=1/\0<=z/\z<1000000000/\((x-y-c<0/\c'=1)\/(¬x-y-c<0/\c'=0)):=by
   by_cases h:x-y-c<0
   .exact ⟨x-y-c+1000000000,1,by lia,by lia,by lia,by lia,.inl ⟨h,rfl⟩⟩
   .exact ⟨x-y-c,0,by lia,by lia,by lia,by lia,.inr ⟨h,rfl⟩⟩
  have kL:=alW hx hy ga.1 gb.1 lR hz hlen aJ;have qW:dg (out++[z]):=gB.2 ⟨rE,lh.2 ⟨lR,lQ⟩⟩;have Su:(out++[z]).length=i+1:=by simp[hlen]
  have fin:∃s',D P L rY s=D5 (.normal,s')/\bg [0,1,5,6,7] s'=⟨[(0,v),(1,w),(5,.av 0 0 (i+1)),(6,aa c'),(7,aa (i+1:Nat))],[(0,.cells ycG ycG ycH 1 ((out++[z]).map aa))],1,0⟩:=by
   rcases De with ⟨fV,rfl⟩ | ⟨fV,rfl⟩
   .have eI:x-y-c+1000000000=z:=by lia
    rcases hs with ⟨h0,rfl⟩ | ⟨h0,rfl⟩
    .subst h0;have jd:out=[]:=yG hlen;subst jd
     simp only[go_sem,ya,yc,xA,yB,yp,yk,rY,hv.len,hw.ak,show ((0:Nat):Int)<a.length by lia,e1,e2,wrap64 (n:=x-y) (by lia) (by lia),wrap64 (n:=x-y-(c:Int)) (by lia) (by lia),fV,eI,wrap64 (n:=z) (by lia) (by lia),jl];refine⟨_,rfl,?_⟩;rw[wrap64 (by lia) (by lia)];simp only[go_sem,ya,yc,aA,aF hv.pu,aF hw.pu]<;>rfl
    .simp only [go_sem,ya,yc,yp,yk,rY,hv.len,hw.ak,show (i:Int)<a.length by lia,e1,e2,wrap64 (n:=x-y) (by lia) (by lia),wrap64 (n:=x-y-(c:Int)) (by lia) (by lia),fV,eI,wrap64 (n:=z) (by lia) (by lia)]
     rw[il (ex:=ycH) (pu:=ycG) (cs:=out.map aa) rfl (by rw[yX,hlen,yk]) (by lia) (by lia) (by decide) rfl];simp only[go_sem,ya,yc];refine⟨_,rfl,?_⟩;rw[wrap64 (by lia) (by lia),xk];simp only[go_sem,ya,yc,aA,aF hv.pu,aF hw.pu]<;>rfl
   .have eI:x-y-c=z:=by lia
    have fV:¬z<0:=by lia
    rcases hs with ⟨h0,rfl⟩ | ⟨h0,rfl⟩
    .subst h0;have jd:out=[]:=yG hlen;subst jd
     simp only[go_sem,ya,yc,xA,yB,yp,yk,rY,hv.len,hw.ak,show ((0:Nat):Int)<a.length by lia,e1,e2,wrap64 (n:=x-y) (by lia) (by lia),eI,wrap64 (n:=z) (by lia) (by lia),fV,jl];refine⟨_,rfl,?_⟩;rw[wrap64 (by lia) (by lia)];simp only[go_sem,ya,yc,aA,aF hv.pu,aF hw.pu]<;>rfl
    .simp only [go_sem,ya,yc,yp,yk,rY,hv.len,hw.ak,show (i:Int)<a.length by lia,e1,e2,wrap64 (n:=x-y) (by lia) (by lia),eI,wrap64 (n:=z) (by lia) (by lia),fV]
     rw[il (ex:=ycH) (pu:=ycG) (cs:=out.map aa) rfl (by rw[yX,hlen,yk]) (by lia) (by lia) (by decide) rfl];simp only[go_sem,ya,yc];refine⟨_,rfl,?_⟩;rw[wrap64 (by lia) (by lia),xk];simp only[go_sem,ya,yc,aA,aF hv.pu,aF hw.pu]<;>rfl
  have⟨s',f1,f2⟩:=fin;exact⟨s',k-1,f1,by lia,i+1,c',_,by lia,Su,jw,qW,kL,.inr ⟨by lia,f2⟩⟩
 .right
  have acj:dv out+dv b=dv a:=by
   rw[yO (by lia),yO (by lia)] at aJ;have aB:=jJ rE;rw[hlen] at aB;rcases (show c=0\/c=1 by lia) with rfl | rfl
   .lia
   .lia
  rcases hs with ⟨h0,rfl⟩ | ⟨h0,rfl⟩
  .simp only [go_sem,ya,rY,hv.len,show ¬(i:Int)<a.length by lia];exact⟨_,_,rfl,by simp,_,out,rfl,rE,acj,by lia,.inl ⟨yG (by lia),rfl,rfl⟩⟩
  .simp only [go_sem,ya,rY,hv.len,show ¬(i:Int)<a.length by lia];exact⟨_,_,rfl,by simp,_,out,rfl,rE,acj,by lia,.inr ⟨by lia,by rw[hlen];simp only[go_sem,ya],rfl⟩⟩
def ad0(h:Has P L 297 Jd)(nk:Has P L 302 su)(cy:Has P L 300 lE){v w:AV}{a b:List Int}(hv:bn v a)(hw:bn w b)(ha:dg a)(hb:dg b)(na:nz a)(nb:nz b)(la:a.length<=20000000000)(hle:dv b<=dv a):
  ∃r out,af P L 297 [v,w] r/\bn r out/\shut r=r/\dg out/\nz out/\dv out+dv b=dv a:=by
 have oL:b.length<=a.length:=by
  by_cases h:a.length<b.length
  .have:=RE ha nb hb h;lia
  .lia
 unfold af;rw[aH h];simp only[go_sem,Jd];generalize hq:D P L (.loop _ rY) _=q;obtain⟨ex,s,rfl,tm,out,rfl,hd,aJ,hl,hs⟩:=bF hq (arP (P:=P) (L:=L) nk hv hw ha hb la hle oL a.length) ⟨0,0,[],by lia,rfl,by lia,rfl,by simp[dv],.inl ⟨rfl,by simp only[go_sem,ya,aA,aF hv.pu,aF hw.pu]<;>rfl⟩⟩
 have mD:=ik ycH out;rcases hs with ⟨h0,h5,rfl⟩ | ⟨h0,h5,rfl⟩
 .subst h0;have⟨r,e1,hr,fM⟩:=BJ cy (v:=.ah) (l:=[]) rP (by simp);refine⟨r,dF [],?_,hr,fM,rfl,rfl,by rw[zA];exact aJ⟩
  simp only[go_sem,aA,h5,e1,fM,hr.eA]
 .have ⟨r,e1,hr,fM⟩:=BJ cy mD hl;refine⟨r,dF out,?_,hr,fM,A1 hd,Eo out,by rw[zA];exact aJ⟩
  have gQ:∀hp:Hp,lH 0 out.length (D5 (ycH,1,out.map aa,hp))=D5 (.aq ycH out.length (out.map aa),hp):=fun hp=>oS ycH (by simp) (by decide)
  simp only[go_sem,yc,aA,h5,gQ,e1,fM,hr.eA]
end
end VE
end
section
namespace VE
open Go (IntKind)
def Cn{hp:Hp}{ct id o:Nat}{v:Int}{ex:Bool}{l:List Int}(h:o<l.length):kH hp ct id o 1 [.int .i64 v] (D5 (.cells ycG ycG ex 1 (l.map aa)))=D5 (.ay [],aV hp id (.cells ycG ycG ex 1 ((l.set o v).map aa)),ct):=by
 rw[MT (by rfl) (by simp;lia) (by rfl)]
 have:over o [AV.int .i64 v] (l.map aa)=(l.set o v).map aa:=by
  simp only[over,yH,yM,yd];rw[List.map_set,List.set_eq_take_append_cons_drop,yN (by simpa using h)]
  simp
 rw[this];rfl
def sj{l:List Int}{o:Nat}(h:o<l.length):ui o (l.map aa)=AV.int .i64 (l.getD o 0)::ui (o+1) (l.map aa):=by
 rw[yQ (by simpa using h)]
 grind
def qP{v:AV}{l:List Int}(hv:bn v l){i:Nat}(h:i<l.length):jn 1 i v=D5 (.bJ (.int .i64 (l.getD i 0)::(l.map aa).drop (i+1))):=by
 rw[hv.bD h]
 grind
def alX{o x y c:Int}(ho:0<=o/\o<1000000000)(hx:0<=x/\x<1000000000)(hy:0<=y/\y<1000000000)(hc:0<=c/\c<1000000000):
  (0<=x*y/\x*y<=999999998000000001)/\0<=o+x*y+c/\o+x*y+c<1000000000000000000:=by
 have h1:=tr hx.1 hy.1;have h2:=ybI (show x<=999999999 by lia) (show y<=999999999 by lia) hy.1 (by decide)
 lia
section
variable {P:aE}{L:Lib}
def arQ{v w:AV}{a b:List Int}(hv:bn v a)(hw:bn w b)(ha:dg a)(hb:dg b)(la:a.length<=20000000000)(lb:b.length<=20000000000){n i:Nat}(hn:n=a.length+b.length)(hi:i<a.length){out0:List Int}:
  cP P L [0,1,5,6,7,8] H9 (fun k s=>∃(j:Nat) (c:Int) (out:List Int),s=⟨[(0,v),(1,w),(5,.av 0 0 n),(6,aa i),(7,aa c),(8,aa j)],[(0,.cells ycG ycG ycG 1 (out.map aa))],1,0⟩/\j+k=b.length/\out.length=n/\dg out/\(0<=c/\c<1000000000)/\
    dv out+1000000000^i*1000000000^j*c.toNat=dv out0+1000000000^i*((a.getD i 0).toNat*dv (b.take j))/\(∀m,i+b.length<=m->out.getD m 0=out0.getD m 0)) (fun ex s'=>∃tm c out,s'=⟨tm,[(0,.cells ycG ycG ycG 1 (out.map aa))],1,0⟩/\ex=.exit 2/\aj tm 0=v/\aj tm 1=w/\aj tm 5=.av 0 0 n/\aj tm 6=aa i/\aj tm 7=aa c/\out.length=n/\dg out/\(0<=c/\c<1000000000)/\
    dv out+1000000000^i*1000000000^b.length*c.toNat=dv out0+1000000000^i*((a.getD i 0).toNat*dv b)/\(∀m,i+b.length<=m->out.getD m 0=out0.getD m 0)):=by
 apply cT;rintro k s ⟨j,c,out,rfl,hk,hlen,hd,hc,aJ,fL⟩;by_cases hj:j<b.length
 .left
  obtain⟨x,hx⟩:∃x,x=a.getD i 0:=⟨_,rfl⟩;obtain⟨y,hy⟩:∃y,y=b.getD j 0:=⟨_,rfl⟩;obtain⟨o,ho⟩:∃o,o=out.getD (i+j) 0:=⟨_,rfl⟩;have gx:=gY ha i;have gy:=gY hb j;have nB:=gY hd (i+j);rw[<-hx] at gx;rw[<-hy] at gy;rw[<-ho] at nB;have⟨p1,p2,p3⟩:=alX nB gx gy hc;obtain⟨t,ht⟩:∃t:Nat,o+x*y+c=t:=⟨(o+x*y+c).toNat,by lia⟩;have hr:((t:Nat):Int).tmod 1000000000=((t%1000000000:Nat):Int):=by rw[xI (by lia)];rfl
  have hq:((t:Nat):Int).tdiv 1000000000=((t/1000000000:Nat):Int):=by rw[xJ (by lia)];rfl
  have e1:=qP hv hi;have e2:=qP hw hj;rw[<-hx] at e1;rw[<-hy] at e2;have e3:=sj (l:=out) (o:=i+j) (by lia);rw[<-ho] at e3;have AA:t=o.toNat+x.toNat*y.toNat+c.toNat:=by
   have:((x.toNat*y.toNat:Nat):Int)=x*y:=by rw[xx,wP gx.1,wP gy.1]
   lia
  have aV:=RF (l:=out) (j:=i+j) (x:=((t%1000000000:Nat):Int)) (by lia);rw[<-ho,wz,xB] at aV;have kL:=akV (Y:=dv (b.take j)) AA aV (by rw[hx];exact aJ)
  simp only[go_sem,ya,yk,H9,hw.len,show (j:Int)<b.length by lia,wrapN (n:=i+j) (by lia),show (i:Int)+(j:Int)=((i+j:Nat):Int) from rfl,cS 0 0 (show i+j<n by lia),yd,e3,e1,e2,wrap64 (n:=x*y) (by lia) (by lia),wrap64 (n:=o+x*y) (by lia) (by lia),ht,wrapN (n:=t) (by lia),dY _ _ _ (show (1000000000:Int)≠0 by decide),dE _ _ _ (show (1000000000:Int)≠0 by decide),hr,hq,wrapN (n:=t/1000000000) (by lia),Cn (l:=out) (o:=i+j) (by lia)];refine⟨_,k-1,rfl,by lia,j+1,((t/1000000000:Nat):Int),out.set (i+j) ((t%1000000000:Nat):Int),?_,by lia,by simp[hlen],Mm hd (by lia),by lia,?_,fun m hm=>?_⟩
  .rw [wrap64 (by lia) (by lia)];simp only[go_sem,ya,yc,aA,aF hv.pu,aF hw.pu]<;>rfl
  .rw [wz,pc,y8,<-hx,<-hy];exact kL
  .rw [YW (by lia)];exact fL m hm
 .right
  have:j=b.length:=by lia
  subst this;rw[xQ] at aJ;simp only[go_sem,ya,H9,hw.len,show ¬(b.length:Int)<b.length by lia];exact⟨_,_,rfl,by simp,_,c,out,rfl,rfl,rfl,rfl,rfl,rfl,rfl,hlen,hd,hc,aJ,fL⟩
end
end VE
end
section
namespace VE
open Go (IntKind)
section
variable {v w:AV}{a b:List Int}
def PP(n:Nat):(yy n [AV.int .i64 0]).flatten=(yy n (0:Int)).map aa:=by simp_all
def aoa(b:Bool):Fa ycG (D5 b)=D5 (.bool (!b)):=by cases b<;>rfl
def Xv(n m:Nat):(yy n (0:Int)).getD m 0=0:=by grind
section
variable {P:aE}{L:Lib}
def arR(hv:bn v a)(hw:bn w b)(ha:dg a)(hb:dg b)(la:a.length<=20000000000)(lb:b.length<=20000000000){n:Nat}(hn:n=a.length+b.length):
  cP P L [0,1,5,6] Ia (fun k s=>∃(i:Nat) (out:List Int),s=⟨[(0,v),(1,w),(5,.av 0 0 n),(6,aa i)],[(0,.cells ycG ycG ycG 1 (out.map aa))],1,0⟩/\i+k=a.length/\out.length=n/\dg out/\dv out=dv (a.take i)*dv b/\(∀m,i+b.length<=m->out.getD m 0=0)) (fun ex s'=>∃tm out,s'=⟨tm,[(0,.cells ycG ycG ycG 1 (out.map aa))],1,0⟩/\ex=.exit 0/\aj tm 5=.av 0 0 n/\out.length=n/\dg out/\dv out=dv a*dv b):=by
 apply cT;rintro k s ⟨i,out,rfl,hk,hlen,hd,aJ,fL⟩;by_cases hi:i<a.length
 .left
  simp only[go_sem,ya,Ia,hv.len,show (i:Int)<a.length by lia];generalize hq:D P L (.loop _ H9) _=q;obtain⟨ex,s,rfl,tm,c,sE,rfl,rfl,t0,t1,t5,t6,t7,Sp,zg,hc,Sq,Jo⟩:=bF hq (arQ (P:=P) (L:=L) hv hw ha hb la lb hn hi (out0:=out) b.length) ⟨0,0,out,by simp only[go_sem,ya,yc,aA,aF hv.pu,aF hw.pu]<;>rfl,by lia,hlen,hd,by lia,by simp[dv],fun m _=>rfl⟩
  have hz:sE.getD (i+b.length) 0=0:=by rw[Jo _ (yq _),fL _ (yq _)]
  have e3:=sj (l:=sE) (o:=i+b.length) (by lia);rw[hz] at e3;have aV:=RF (l:=sE) (j:=i+b.length) (x:=c) (by lia);rw[hz,xB] at aV
  simp only[go_sem,ya,yk,aA,t0,t1,t5,t6,t7,hw.len,aF hv.pu,aF hw.pu,wrapN (n:=i+b.length) (by lia),show (i:Int)+(b.length:Int)=((i+b.length:Nat):Int) from rfl,cS 0 0 (show i+b.length<n by lia),yd,e3,Int.zero_add,wrap64 (n:=c) (by lia) (by lia),Cn (l:=sE) (o:=i+b.length) (by lia)];refine⟨_,k-1,rfl,by lia,i+1,sE.set (i+b.length) c,?_,by lia,by simp[Sp],Mm zg hc,?_,fun m hm=>?_⟩
  .rw [wrap64 (by lia) (by lia)];simp only[go_sem,ya,yc,aA,aF hv.pu,aF hw.pu]<;>rfl
  .rw [pc,xL,<-aJ,y5];simp only[Int.toNat_zero,xv,yS] at aV;rw[aV];exact Sq
  .rw [YW (by lia),Jo m (by lia),fL m (by lia)]
 .right
  have:i=a.length:=by lia
  subst this;rw[xQ] at aJ;simp only[go_sem,ya,Ia,hv.len,show ¬(a.length:Int)<a.length by lia];exact⟨_,_,rfl,by simp,_,out,rfl,rfl,rfl,hlen,hd,aJ⟩
def TV(h:Has P L 293 BE)(cy:Has P L 300 lE)(hv:bn v a)(hw:bn w b)(ha:dg a)(hb:dg b)(la:a.length<=8000000000)(lb:b.length<=8000000000):
  ∃r out,af P L 293 [v,w] r/\bn r out/\shut r=r/\dg out/\nz out/\dv out=dv a*dv b:=by
 obtain⟨n,hn⟩:∃n,n=a.length+b.length:=⟨_,rfl⟩;have cd:∀ct:Nat,BH ct 1 8 [.int .i64 0] (D5 n) (D5 n)=D5 (.av ct 0 n,.cells ycG ycG ycG 1 ((yy n (0:Int)).map aa)):=fun ct=>by
  rw[Mq (sz:=1) (by lia) (by lia) (by rfl) (by rfl),PP];rfl
 unfold af;rw[aH h]
 simp only[go_sem,ya,yc,BE,hv.len,hw.len,wrapN (n:=n) (by lia),show (a.length:Int)+(b.length:Int)=((a.length+b.length:Nat):Int) from rfl,<-hn,cd];generalize hq:D P L (.loop _ Ia) _=q;obtain⟨ex,s,rfl,tm,out,rfl,rfl,t5,hlen,hd,aJ⟩:=bF hq (arR (P:=P) (L:=L) hv hw ha hb (by lia) (by lia) hn a.length) ⟨0,yy n 0,by simp only[go_sem,ya,yc,aA,aF hv.pu,aF hw.pu]<;>rfl,by lia,by simp,YY n,by rw[YX];simp[dv],fun m _=>Xv n m⟩
 have mD:=ik ycG out;rw[hlen] at mD;have⟨r,e1,hr,fM⟩:=BJ cy mD (by lia);refine⟨r,dF out,?_,hr,fM,A1 hd,Eo out,by rw[zA];exact aJ⟩
 have gQ:∀hp:Hp,lH 0 n (D5 (ycG,1,out.map aa,hp))=D5 (.aq ycG n (out.map aa),hp):=fun hp=>oS ycG (by simp[hlen]) (by decide)
 simp only[go_sem,yc,aA,t5,gQ,e1,fM,hr.eA]
def Jz(h:Has P L 278 Nw)(lJ:Has P L 293 BE)(iF:Has P L 294 BF)(cy:Has P L 300 lE){n m:Int}{K:Nat}(hK:K<=8000000000)(hv:jW v n)(hw:jW w m)(hn:n.natAbs<1000000000^K)(hm:m.natAbs<1000000000^K):
  ∃r,af P L 278 [v,w] r/\jW r (n*m):=by
 obtain⟨x,a,rfl,hx,ha,na,va⟩:=hv;obtain⟨y,b,rfl,hy,hb,nb,vb⟩:=hw;have la:=y9 (j8 ha na (by rw[va];exact hn)) hK
 have lb:=y9 (j8 hb nb (by rw[vb];exact hm)) hK
 have⟨z,out,e1,hz,fM,hd,Cf,aJ⟩:=TV lJ cy hx hy ha hb la lb;have lo:out.length<=20000000000:=by
  refine j8 hd Cf ?_;rw[aJ];have h1:=jJ ha;have h2:=jJ hb;have h3:dv a*dv b<1000000000^a.length*1000000000^b.length:=tS h1 h2;rw[<-xB] at h3;have hk:∀K,a.length+b.length<=K->dv a*dv b<1000000000^K:=fun K h=>yE h3 (xc (by decide) h)
  exact hk 20000000000 (by lia)
 have⟨r,e2,hr⟩:=qU iF cy (!(decide (n<0)==decide (m<0))) hz hd lo;have e:bY (!(decide (n<0)==decide (m<0))) (dv out)=n*m:=by
  rw[aJ,va,vb];have hnm:((n.natAbs*m.natAbs:Nat):Int)=(n.natAbs:Int)*m.natAbs:=xx _ _;unfold bY;by_cases h0:n<0<;>by_cases h1:m<0<;>simp only[h0,h1,xa,xf,tz,xF,yA,xq,hnm]
  .rw [show (n.natAbs:Int)= -n by lia,show (m.natAbs:Int)= -m by lia,Int.neg_mul_neg]
  .rw [show (ycG==ycH)=ycH from rfl,xX,yN rfl,show (n.natAbs:Int)= -n by lia,show (m.natAbs:Int)=m by lia,Int.neg_mul,tY]
  .rw [show (ycH==ycG)=ycH from rfl,xX,yN rfl,show (n.natAbs:Int)=n by lia,show (m.natAbs:Int)= -m by lia,Int.mul_neg,tY]
  .rw [show (n.natAbs:Int)=n by lia,show (m.natAbs:Int)=m by lia]
 rw[e] at hr;obtain⟨w2,l2,rfl,fj,iM,jO,Ak⟩:=hr;refine⟨_,?_,w2,l2,rfl,fj,iM,jO,Ak⟩;unfold af at e1 e2 ⊢;rw[aH h];simp only[go_sem,ya,yc,Nw,aU,hx.pu,hx.ak,hx.one,hy.pu,hy.ak,hy.one,hz.ak,hz.shut,fj.pu,fj.one,a6,yd,dc,e1,pH,aoa,e2,gE,bM];rcases fj with ⟨rfl,_⟩ | ⟨e,rfl⟩<;>rfl
end
end
end VE
end
section
namespace VE
open Go (IntKind)
def aob(i:Nat)(q:List Int)(x:Int):(yy (i+1) (0:Int)++q).set i x=yy i 0++x::q:=by
 rw[List.replicate_succ',xr,List.set_append_right _ _ (by simp)]
 simp
section
variable {P:aE}{L:Lib}
def arS{v:AV}{a:List Int}(hv:bn v a)(ha:dg a)(la:a.length<=20000000000){d:Nat}(h0:0<d)(h1:d<1000000000):
  cP P L [0,1,6,7,8] Ib (fun k s=>∃(j r:Nat) (q:List Int),s=⟨[(0,v),(1,aa d),(6,.av 0 0 a.length),(7,aa r),(8,aa ((j:Int)-1))],[(0,.cells ycG ycG ycG 1 ((yy j (0:Int)++q).map aa))],1,0⟩/\j=k/\j+q.length=a.length/\r<d/\dg q/\dv (a.drop j)=d*dv q+r) (fun ex s'=>∃tm r q,s'=⟨tm,[(0,.cells ycG ycG ycG 1 (q.map aa))],1,0⟩/\ex=.exit 0/\aj tm 6=.av 0 0 a.length/\aj tm 7=aa (r:Nat)/\q.length=a.length/\r<d/\dg q/\dv a=d*dv q+r):=by
 apply cT;rintro k s ⟨j,r,q,rfl,rfl,hl,hr,hd,aJ⟩
 cases j with
 | zero=>
  right
  simp only[go_sem,ya,Ib,show ¬(0:Int)<=((0:Nat):Int)-1 by lia];exact⟨_,_,rfl,by simp,_,r,q,rfl,rfl,rfl,rfl,by lia,hr,hd,aJ⟩
 | succ i=>
  left
  have hi:i<a.length:=by lia
  obtain⟨x,hx⟩:∃x,x=a.getD i 0:=⟨_,rfl⟩;have e1:=qP hv hi;have gx:=gY ha i;rw[<-hx] at e1 gx;obtain⟨t,ht⟩:∃t:Nat,t=r*1000000000+x.toNat:=⟨_,rfl⟩;have AA:(r:Int)*1000000000+x=(t:Int):=by lia
  have kG:t<d*1000000000:=by
   lia
  have fc:t/d<1000000000:=(xu h0).2 (by rw[xb];exact kG)
  have eJ:t%d<d:=xp _ h0;have e2:((t:Nat):Int).tdiv d=((t/d:Nat):Int):=by rw[xJ (by lia)];rfl
  have e3:((t:Nat):Int).tmod d=((t%d:Nat):Int):=by rw[xI (by lia)];rfl
  have FH:(yy (i+1) (0:Int)++q).length=a.length:=by simp;lia
  have aQ:=fun (hp:Hp) (ct id:Nat) (ex:Bool)=>Cn (hp:=hp) (ct:=ct) (id:=id) (ex:=ex) (v:=((t/d:Nat):Int)) (l:=yy (i+1) (0:Int)++q) (o:=i) (by rw[FH];exact hi)
  simp only[aob] at aQ
  simp only[go_sem,ya,yk,Ib,show ((i+1:Nat):Int)-1=(i:Int) by lia,show (0:Int)<=(i:Int) by lia,wrap64 (n:=(r:Int)*1000000000) (by lia) (by lia),e1,AA,wrapN (n:=t) (by lia),dE _ _ _ (show (d:Int)≠0 by lia),dY _ _ _ (show (d:Int)≠0 by lia),e2,e3,wrapN (n:=t/d) (by lia),cS 0 0 (show i<a.length from hi),yd,aQ]
  refine⟨_,i,rfl,by lia,i,t%d,((t/d:Nat):Int)::q,?_,rfl,by simp;lia,eJ,(gB (a:=[((t/d:Nat):Int)]) (b:=q)).2 ⟨lh.2 ⟨yad _,ta.2 fc⟩,hd⟩,?_⟩
  .rw [wrap64 (by lia) (by lia)];simp only[go_sem,ya,yc,aA,aF hv.pu]<;>rfl
  .have jT:a.drop i=x::a.drop (i+1):=by
    rw[yQ hi,hx];simp[yY,xh hi]
   rw[jT];simp only[dv,aJ,wz];have e:=xK t d;rw[xz,xz d,Nat.mul_left_comm 1000000000 d]
   lia
def ad1(h:Has P L 299 BG)(cy:Has P L 300 lE){v:AV}{a:List Int}(hv:bn v a)(ha:dg a)(la:a.length<=20000000000){d:Nat}(h0:0<d)(h1:d<1000000000):
  ∃r q,af P L 299 [v,aa d] (.ay [r,aa (dv a%d:Nat)])/\bn r q/\shut r=r/\bX r=r/\dg q/\nz q/\dv q=dv a/d:=by
 obtain⟨n,hn⟩:∃n,n=a.length:=⟨_,rfl⟩;have cd:∀ct:Nat,BH ct 1 8 [.int .i64 0] (D5 n) (D5 n)=D5 (.av ct 0 n,.cells ycG ycG ycG 1 ((yy n (0:Int)).map aa)):=fun ct=>by
  rw[Mq (sz:=1) (by lia) (by lia) (by rfl) (by rfl),PP];rfl
 unfold af;rw[aH h];simp only[go_sem,ya,yc,BG,hv.len,<-hn,cd];generalize hq:D P L (.loop _ Ib) _=q;obtain⟨ex,s,rfl,tm,r,qs,rfl,rfl,t6,t7,hlen,hr,hd,aJ⟩:=bF hq (arS (P:=P) (L:=L) hv ha la h0 h1 a.length) ⟨a.length,0,[],by
  rw[wrap64 (by lia) (by lia),wj,<-hn]
  simp only[go_sem,ya,yc,aA,aF hv.pu]<;>rfl,rfl,by simp,h0,rfl,by rw[xj (yq _)];simp[dv]⟩
 have mD:=ik ycG qs;rw[hlen] at mD;have⟨w,e1,hw,fM⟩:=BJ cy mD (by lia);have ej:dv a/d=dv qs/\dv a%d=r:=(Nat.div_mod_unique h0).2 ⟨by lia,hr⟩;refine⟨w,dF qs,?_,hw,fM,hw.bX,A1 hd,Eo qs,by rw[zA,ej.1]⟩;have gQ:∀hp:Hp,lH 0 a.length (D5 (ycG,1,qs.map aa,hp))=D5 (.aq ycG a.length (qs.map aa),hp):=fun hp=>oS ycG (by simp[hlen]) (by decide)
 rw[ej.2];simp only[go_sem,ya,yc,aA,t6,t7,gQ,e1,fM];rcases hw with ⟨rfl,_⟩ | ⟨e,rfl⟩<;>rfl
def avZ(h:Has P L 279 E4)(TW:Has P L 295 Jc)(pQ:Has P L 296 ss)(N7:Has P L 297 Jd)(nk:Has P L 302 su)(iF:Has P L 294 BF)(cy:Has P L 300 lE){v w:AV}{n m:Int}{K:Nat}(hK:K<=8000000000)(hv:jW v n)(hw:jW w m)(hn:n.natAbs<1000000000^K)(hm:m.natAbs<1000000000^K):
  ∃r,af P L 279 [v,w] r/\jW r (n+m):=by
 obtain⟨x,a,rfl,hx,ha,na,va⟩:=hv;obtain⟨y,b,rfl,hy,hb,nb,vb⟩:=hw;have la:=y9 (j8 ha na (by rw[va];exact hn)) hK
 have lb:=y9 (j8 hb nb (by rw[vb];exact hm)) hK
 by_cases hs:(decide (n<0)==decide (m<0))=ycG
 .have ⟨z,out,e1,hz,hd,aJ,hl⟩:=avY TW nk hx hy ha hb (by lia) (by lia);have lo:out.length<=20000000000:=by lia
  have⟨r,e2,hr⟩:=qU iF cy (decide (n<0)) hz hd lo;have e:bY (decide (n<0)) (dv out)=n+m:=by
   have Co:(n<0)=(m<0):=by simpa using eq_of_beq hs
   rw[aJ,va,vb];unfold bY;by_cases h0:n<0
   .have h1:m<0:=Co▸h0;simp only[h0,xa,xN];lia
   .have h1:¬m<0:=Co▸h0;simp only[h0,xf,yA,xq];lia
  rw[e] at hr;obtain⟨w2,l2,rfl,fj,iM,jO,Ak⟩:=hr;refine⟨_,?_,w2,l2,rfl,fj,iM,jO,Ak⟩;unfold af at e1 e2 ⊢;rw[aH h];simp only[go_sem,ya,yc,E4,aU,hx.pu,hx.ak,hx.one,hy.pu,hy.ak,hy.one,hz.ak,fj.pu,fj.one,a6,yd,dc,e1,pH,dO,hs,e2,gE,bM];rcases fj with ⟨rfl,_⟩ | ⟨e,rfl⟩<;>rfl
 .have hs:(decide (n<0)==decide (m<0))=ycH:=by simpa using hs
  have Co:¬((n<0)=(m<0)):=fun e=>by simp[e] at hs
  have ec:=TU pQ hx hy ha hb na nb (by lia) (by lia);by_cases hc:dv a<dv b
  .have dW:dw (dv a) (dv b)= -1:=by unfold dw;rw[yN hc]
   rw[dW] at ec;have⟨z,out,e1,hz,fM,hd,Cf,aJ⟩:=ad0 N7 nk cy hy hx hb ha nb na (by lia) (by lia);have lo:out.length<=20000000000:=by
    refine j8 hd Cf ?_
    have:=jJ hb
    have hk:∀K,b.length<=K->dv out<1000000000^K:=fun K h=>yE (show dv out<1000000000^b.length by lia) (xc (by decide) h)
    exact hk 20000000000 (by lia)
   have⟨r,e2,hr⟩:=qU iF cy (decide (m<0)) hz hd lo;have e:bY (decide (m<0)) (dv out)=n+m:=by
    rw[va,vb] at aJ;unfold bY;by_cases h0:m<0
    .have h1:¬n<0:=fun h1=>Co (by simp[h0,h1])
     simp only[h0,xa,xN];lia
    .have h1:n<0:=by
      by_cases h1:n<0
      .exact h1
      .exact absurd (by simp[h0,h1]) Co
     simp only[h0,xf,yA,xq];lia
   rw[e] at hr;obtain⟨w2,l2,rfl,fj,iM,jO,Ak⟩:=hr;refine⟨_,?_,w2,l2,rfl,fj,iM,jO,Ak⟩;unfold af at e1 e2 ec ⊢;rw[aH h];simp only[go_sem,ya,yc,E4,aU,hx.pu,hx.ak,hx.one,hy.pu,hy.ak,hy.one,hz.ak,hz.shut,fj.pu,fj.one,a6,yd,dc,e1,pH,dO,hs,ec,show ¬(0:Int)<=-1 by decide,e2,gE,bM];rcases fj with ⟨rfl,_⟩ | ⟨e,rfl⟩<;>rfl
  .have dW:(0:Int)<=dw (dv a) (dv b):=by unfold dw;rw[yx hc];split<;>decide
   have⟨z,out,e1,hz,fM,hd,Cf,aJ⟩:=ad0 N7 nk cy hx hy ha hb na nb (by lia) (by lia);have lo:out.length<=20000000000:=by
    refine j8 hd Cf ?_
    have:=jJ ha
    have hk:∀K,a.length<=K->dv out<1000000000^K:=fun K h=>yE (show dv out<1000000000^a.length by lia) (xc (by decide) h)
    exact hk 20000000000 (by lia)
   have⟨r,e2,hr⟩:=qU iF cy (decide (n<0)) hz hd lo;have e:bY (decide (n<0)) (dv out)=n+m:=by
    rw[va,vb] at aJ;unfold bY;by_cases h0:n<0
    .have h1:¬m<0:=fun h1=>Co (by simp[h0,h1])
     simp only[h0,xa,xN];lia
    .have h1:m<0:=by
      by_cases h1:m<0
      .exact h1
      .exact absurd (by simp[h0,h1]) Co
     simp only[h0,xf,yA,xq];lia
   rw[e] at hr;obtain⟨w2,l2,rfl,fj,iM,jO,Ak⟩:=hr;refine⟨_,?_,w2,l2,rfl,fj,iM,jO,Ak⟩;unfold af at e1 e2 ec ⊢;rw[aH h];simp only[go_sem,ya,yc,E4,aU,hx.pu,hx.ak,hx.one,hy.pu,hy.ak,hy.one,hz.ak,hz.shut,fj.pu,fj.one,a6,yd,dc,e1,pH,dO,hs,ec,dW,e2,gE,bM];rcases fj with ⟨rfl,_⟩ | ⟨e,rfl⟩<;>rfl
end
end VE
end
section
namespace VE
open Go (IntKind)
section
variable {P:aE}{L:Lib}
def aoc{l:List Int}(hd:dg l)(hn:nz l)(h:dv l<1000000000):l.length<=1:=j8 hd hn (by simpa using h)
def av0(h:Has P L 289 sr)(pQ:Has P L 296 ss)(qX:Has P L 299 BG)(cy:Has P L 300 lE){v w:AV}{a b:List Int}(hv:bn v a)(hw:bn w b)(ha:dg a)(hb:dg b)(na:nz a)(nb:nz b)(la:a.length<=20000000000)(lb:b.length<=1)(h0:0<dv b):
  ∃q r lq lr,af P L 289 [v,w] (.ay [q,r])/\bn q lq/\bn r lr/\dg lq/\nz lq/\dg lr/\nz lr/\dv lq=dv a/dv b/\dv lr=dv a%dv b:=by
 have ec:=TU pQ hv hw ha hb na nb la (by lia);by_cases hc:dv a<dv b
 .have dW:dw (dv a) (dv b)= -1:=by unfold dw;rw[yN hc]
  rw[dW] at ec;refine⟨.ah,v,[],a,?_,rP,hv,rfl,rfl,ha,na,?_,?_⟩
  .unfold af;rw[aH h];simp only[go_sem,ya,sr,hv.ak,hw.ak,ec,show (-1:Int)<0 by decide];rcases hv with ⟨rfl,_⟩ | ⟨e,rfl⟩<;>rfl
  .rw [xH hc];rfl
  .rw [yK hc]
 .have dW:¬dw (dv a) (dv b)<0:=by unfold dw;rw[yx hc];split<;>decide
  have ox:b.length=1:=by
   rcases xg b.length with e | e
   .rw [yG e] at h0;simp[dv] at h0
   .lia
  obtain⟨x,rfl⟩:∃x,b=[x]:=by
   cases b with
   | nil=>simp at ox
   | cons x r=>cases r with
    | nil=>exact⟨x,rfl⟩
    | cons y r=>simp at ox
  have gx:=lh.1 hb;obtain⟨d,hd⟩:∃d:Nat,x=d:=⟨x.toNat,by lia⟩;subst hd;have VG:dv [((d:Nat):Int)]=d:=by simp[dv]
  rw[VG] at h0 hc dW ec ⊢;have⟨q,lq,e1,hq,hqs,av1,dq,nq,vq⟩:=ad1 qX cy hv ha la h0 (by lia);have ab8:dv a%d<d:=xp _ h0;generalize dv a%d=m at*
  have⟨r,e2,hr,UG⟩:=BJ cy (ik ycG [(m:Int)]) (by simp);refine⟨q,r,lq,dF [(m:Int)],?_,hq,hr,dq,nq,A1 (lh.2 (by lia)),Eo _,vq,by rw[zA];simp[dv]⟩;have e3:=hw.bD (i:=0) (by simp);simp only[yH,yM,yd,yV,wF,wO] at e2 e3;unfold af;rw[aH h];simp only[go_sem,ya,yc,yB,yp,yk,sr,hv.ak,hw.len,hw.ak,ec,dW,yH,yM,show ((1:Nat):Int)=(1:Int) from rfl,xa,e3,e1,av1,e2,UG];rcases hq with ⟨rfl,_⟩ | ⟨e,rfl⟩<;>rcases hr with ⟨rfl,_⟩ | ⟨e',rfl⟩<;>rfl
end
end VE
end
section
namespace VE
open Go (IntKind)
section
variable {l post pre qs vs:List Int}{r t:Nat}
def sv:List Int->Int
 | []=>0
 | a::r=>a+1000000000*sv r
def Ym:∀(a b:List Int),sv (a++b)=sv a+1000000000^a.length*sv b
 | [],b=>by simp[sv]
 | x::a,b=>by
  simp only[ym,sv,Ym a b,yH,tI,ycu]
  grind
def arT(x:Int):sv [x]=x:=by simp[sv]
def EQ:∀{l:List Int} {i:Nat} {x:Int},i<l.length->sv (l.set i x)=sv l+1000000000^i*(x-l.getD i 0)
 | [],i,x,h=>by simp at h
 | a::l,0,x,_=>by simp[sv];lia
 | a::l,i+1,x,h=>by
  have ih:=EQ (l:=l) (i:=i) (x:=x) (by simpa using h);simp only[List.set_cons_succ,sv,List.getD_cons_succ,ih,tI,ycu]
  grind
def L6(i:Nat):sv (l.take (i+1))=sv (l.take i)+1000000000^i*l.getD i 0:=by
 by_cases h:i<l.length
 .rw [List.take_succ_eq_append_getElem h,Ym,yT,xt (by lia),arT]
  grind
 .rw [yO (by lia),yO (by lia),Hu (by lia),Int.mul_zero,yce]
def z7:∀{l:List Int},dg l->sv l=dv l
 | [],_=>rfl
 | a::l,h=>by
  have⟨h1,h2⟩:=gB.1 (show dg ([a]++l) from h);have h1:=lh.1 h1;simp only[sv,dv,z7 h2,tf,xx]
  lia
section
variable {pre x post:List Int}{i:Nat}
def nW:(pre++x++post).length=pre.length+x.length+post.length:=by grind
def Bl(h:i<x.length):(pre++x++post).getD (pre.length+i) 0=x.getD i 0:=by grind
def Mu(a:Int)(h:i<x.length):(pre++x++post).set (pre.length+i) a=pre++x.set i a++post:=by simp_all
end
def aa1{i m:Nat}{x:Int}(h:i≠m):(l.set i x).getD m 0=l.getD m 0:=by simp_all
def ajQ{i:Nat}{x:Int}(h:i<l.length):(l.set i x).getD i 0=x:=by simp_all
abbrev H3(q u:List Int)(f:Int):Hp:=[(2,.cells ycG ycG ycG 1 (q.map aa)),(1,.cells ycG ycG ycH 1 (u.map aa)),(0,.cells ycH ycG ycG 1 [aa f])]
def LG{live:List Nat}{tm:Env}{ct:Nat}{a b c:List AV}(ht:hZ 3 (aY tm live))(hl:(ck (aY tm live)).length<100000):
  bg live ⟨tm,[(2,.cells ycG ycG ycG 1 a),(1,.cells ycG ycG ycH 1 b),(0,.cells ycH ycG ycG 1 c)],ct,3⟩=⟨aY tm live,[(2,.cells ycG ycG ycG 1 a),(1,.cells ycG ycG ycH 1 b),(0,.cells ycH ycG ycG 1 c)],3,3⟩:=
 Pz ht ⟨by lia,.inl rfl,by lia,.inl rfl,by lia,.inl rfl,trivial⟩ (by
  have:bH 3 [(2,Obj.cells ycG ycG ycG 1 a),(1,Obj.cells ycG ycG ycH 1 b),(0,Obj.cells ycH ycG ycG 1 c)]=[]:=rfl
  rw[this,yM,yS];exact hl)
structure fy(x vs:List Int)(n v1 v2 u0 u1 u2:Nat):Prop where
 n2:2<=n
 nb:n<=20000000000
 lx:x.length=n+1
 lv:vs.length=n
 gx:dg x
 gv:dg vs
 eC:vs.getD (n-1) 0=(v1:Int)
 cE:vs.getD (n-2) 0=(v2:Int)
 h0:x.getD n 0=(u0:Int)
 h1:x.getD (n-1) 0=(u1:Int)
 h2:x.getD (n-2) 0=(u2:Int)
 pos:0<v1
 lt:dv x<1000000000*dv vs
section
variable {x vs:List Int}{n v1 v2 u0 u1 u2:Nat}
def fy.Kl(h:fy x vs n v1 v2 u0 u1 u2):v1<1000000000:=by have:=gY h.gv (n-1);rw[h.eC] at this;lia
def fy.DT(h:fy x vs n v1 v2 u0 u1 u2):v2<1000000000:=by have:=gY h.gv (n-2);rw[h.cE] at this;lia
def fy.u0W(h:fy x vs n v1 v2 u0 u1 u2):u0<1000000000:=by have:=gY h.gx n;rw[h.h0] at this;lia
def fy.Km(h:fy x vs n v1 v2 u0 u1 u2):u1<1000000000:=by have:=gY h.gx (n-1);rw[h.h1] at this;lia
def fy.Kn(h:fy x vs n v1 v2 u0 u1 u2):u2<1000000000:=by have:=gY h.gx (n-2);rw[h.h2] at this;lia
def fy.parts(h:fy x vs n v1 v2 u0 u1 u2):∃p vr ur,dv vs=(v1*1000000000+v2)*p+vr/\vr<p/\dv x=((u0*1000000000+u1)*1000000000+u2)*p+ur/\ur<p:=by
 obtain⟨m,hm⟩:∃m,n=m+2:=⟨n-2,by have:=h.n2;lia⟩
 subst hm;have e1:=pc (l:=vs) (m+1);have e2:=pc (l:=vs) m;have f0:=pc (l:=x) (m+2);have f1:=pc (l:=x) (m+1);have f2:=pc (l:=x) m;have eC:vs.getD (m+1) 0=(v1:Int):=h.eC;have cE:vs.getD m 0=(v2:Int):=h.cE;have h0:x.getD (m+2) 0=(u0:Int):=h.h0;have h1:x.getD (m+1) 0=(u1:Int):=h.h1;have h2:x.getD m 0=(u2:Int):=h.h2
 rw[yO (by have:=h.lv;lia),eC,e2,cE] at e1
 rw[yO (by have:=h.lx;lia),h0,f1,h1,f2,h2] at f0
 simp only[wz] at e1 f0;have g1:=jJ (CH h.gv m)
 rw[yT,xt (by have:=h.lv;lia)] at g1
 have g2:=jJ (CH h.gx m)
 rw[yT,xt (by have:=h.lx;lia)] at g2
 refine⟨1000000000^m,_,_,?_,g1,?_,g2⟩
 .rw [e1,y8,at0]
 .rw [f0,show 1000000000^(m+2)=1000000000^m*1000000000*1000000000 by rw[y8,y8],y8,at1]
def fy.down(h:fy x vs n v1 v2 u0 u1 u2)(ht:t*v1+r=u0*1000000000+u1)(hr:r*1000000000+u2<t*v2):dv x/dv vs<=t-1:=by
 have⟨p,vr,ur,h1,h2,h3,h4⟩:=h.parts;exact Xk h1 h3 h4 ht hr
def fy.stop(h:fy x vs n v1 v2 u0 u1 u2)(kG:t<1000000000)(ht:t*v1+r=u0*1000000000+u1)(hr:1000000000<=r\/t*v2<=r*1000000000+u2):t<=dv x/dv vs+1:=by
 have⟨p,vr,ur,h1,h2,h3,h4⟩:=h.parts;exact X7 (by decide) h1 h2 h3 h.pos h.DT kG ht hr
def fy.first(h:fy x vs n v1 v2 u0 u1 u2):dv x/dv vs<=(u0*1000000000+u1)/v1:=by
 have⟨p,vr,ur,h1,h2,h3,h4⟩:=h.parts;exact Py h1 h3 h4 h.Kn h.pos
def fy.top(h:fy x vs n v1 v2 u0 u1 u2):u0<=v1:=by
 have⟨p,vr,ur,h1,h2,h3,h4⟩:=h.parts;exact X8 h1 h3 h2 h.DT h.lt
def fy.digit(h:fy x vs n v1 v2 u0 u1 u2):dv x/dv vs<1000000000:=by
 refine (xu ?_).2 h.lt;rcases xg (dv vs) with h0 | h0
 .have:=h.lt;rw[h0] at this;simp at this
 .exact h0
def fy.small(h:fy x vs n v1 v2 u0 u1 u2)(ht:t*v1+r=u0*1000000000+u1)(hb:1000000000<=t):r<1000000000:=by
 have h1:=h.top;have h2:=h.Km;have h3:=yL v1 hb
 grind
end
def av2{u:Nat}(hr:r<1000000000)(hu:u<1000000000):r*1000000000<9223372036854775808/\r*1000000000+u<9223372036854775808:=by lia
section
variable {P:aE}{L:Lib}
def aod{w:AV}{x:List Int}{f:Int}(hw:bn w vs){n v1 v2 u0 u1 u2 M:Nat}(hl:fy x vs n v1 v2 u0 u1 u2)(hM:M=pre.length+x.length+post.length)(Ky:M<=50000000000):
  cP P L [0,1,2,7,9,10] Bi (fun k s=>∃t r:Nat,s=⟨[(0,.av 1 0 M),(1,w),(2,aa pre.length),(7,aa n),(9,aa t),(10,aa r)],H3 qs (pre++x++post) f,3,3⟩/\t*v1+r=u0*1000000000+u1/\r<1000000000/\dv x/dv vs<=t/\t=k) (fun ex s'=>∃tm ct t,s'=⟨tm,H3 qs (pre++x++post) f,ct,3⟩/\((ex=.exit 0/\aj tm 9=aa (t:Nat))\/(ex=.ret/\aj tm 6=aa (t:Nat)))/\ct=3/\t<1000000000/\dv x/dv vs<=t/\t<=dv x/dv vs+1):=by
 apply cT;rintro k s ⟨t,r,rfl,ht,hr,hQ,rfl⟩;have dn:=hl.n2;have zd:=hl.nb;have hlx:=hl.lx;have Fe:=hl.Kl;have To:=hl.DT;have adA:=hl.Kn;have av3:=hl.u0W;have NW:=hl.Km;have og:=hl.pos;have qh:=qP hw (i:=n-2) (by have:=hl.lv;lia)
 have eD:=qP hw (i:=n-1) (by have:=hl.lv;lia)
 rw[hl.cE] at qh;rw[hl.eC] at eD;have zh:=sj (l:=pre++x++post) (o:=pre.length+(n-2)) (by rw[nW];lia)
 rw[Bl (by lia),hl.h2] at zh;have AG:(n:Int)-2=((n-2:Nat):Int):=by lia
 have qj:(n:Int)-1=((n-1:Nat):Int):=by lia
 have Kz:(pre.length:Int)+(n:Int)=((pre.length+n:Nat):Int):=rfl;have VH:((pre.length+n:Nat):Int)-2=((pre.length+(n-2):Nat):Int):=by lia
 have aAj:t<=1000000000000000000:=by
  have:=yR t og
  lia
 have aAk:t*1<=t*v1:=yR t og;have⟨VI,VJ⟩:=av2 hr adA;by_cases iL:1000000000<=t\/r*1000000000+u2<t*v2
 .have VK:0<t:=by
   rcases xg t with h0 | h0
   .subst h0;lia
   .exact h0
  have h1:(t-1)*v1+(r+v1)=u0*1000000000+u1:=by
   obtain⟨p,rfl⟩:∃p,t=p+1:=⟨t-1,by lia⟩;rw[xL,yag] at ht;rw[Nat.add_sub_cancel];lia
  have DU:dv x/dv vs<=t-1:=by
   rcases iL with h | h
   .have:=hl.digit;generalize dv x/dv vs=q at*;lia
   .exact hl.down ht h
  have Pd:((t:Nat):Int)-1=((t-1:Nat):Int):=by lia
  have stop:1000000000<=r+v1->t-1<1000000000/\t-1<=dv x/dv vs+1:=fun hb=>by
   have aB:t-1<1000000000:=by
    by_cases sX:1000000000<=t-1
    .have:=hl.small h1 sX;lia
    .lia
   exact⟨aB,hl.stop aB h1 (.inl hb)⟩
  by_cases hb:1000000000<=t
  .by_cases jP:1000000000<=r+v1
   .right
    have⟨s1,s2⟩:=stop jP
    simp only[go_sem,ya,Bi,H3,show (1000000000:Int)<=(t:Int) by lia,Pd,wrapN (n:=t-1) (by lia),qj,wrapN (n:=n-1) (by lia),eD,show (r:Int)+(v1:Int)=((r+v1:Nat):Int) from rfl,wrapN (n:=r+v1) (by lia),show (1000000000:Int)<=((r+v1:Nat):Int) by lia];exact⟨_,_,rfl,by simp,_,_,t-1,rfl,.inr ⟨rfl,rfl⟩,rfl,s1,DU,s2⟩
   .left
    simp only[go_sem,ya,Bi,H3,show (1000000000:Int)<=(t:Int) by lia,Pd,wrapN (n:=t-1) (by lia),qj,wrapN (n:=n-1) (by lia),eD,show (r:Int)+(v1:Int)=((r+v1:Nat):Int) from rfl,wrapN (n:=r+v1) (by lia),show ¬(1000000000:Int)<=((r+v1:Nat):Int) by lia];refine⟨_,t-1,rfl,by lia,t-1,r+v1,?_,h1,by lia,DU,rfl⟩;rw[LG (by simp only[go_sem,ya,yB,mg,mW,mb,lY,fO hw.pu,vC]) (by simp only[go_sem,ya,yc,yB,dj hw.pu])];simp only[go_sem,ya]
  .have B4:=xd (show t<=999999999 by lia) (show v2<=999999999 by lia);have pR:r*1000000000+u2<t*v2:=iL.resolve_left hb;obtain⟨m,hm⟩:∃m,t*v2=m:=⟨_,rfl⟩;have em:(t:Int)*(v2:Int)=(m:Int):=by rw[<-hm,xx]
   rw[hm] at pR B4;have FK:(r:Int)*1000000000=((r*1000000000:Nat):Int):=by lia
   have Cb:((r*1000000000:Nat):Int)+(u2:Int)=((r*1000000000+u2:Nat):Int):=rfl;by_cases jP:1000000000<=r+v1
   .right
    have⟨s1,s2⟩:=stop jP
    simp only[go_sem,ya,yk,Bi,H3,show ¬(1000000000:Int)<=(t:Int) by lia,AG,wrapN (n:=n-2) (by lia),qh,em,wrapN (n:=m) (by lia),FK,wrapN VI,Kz,wrapN (n:=pre.length+n) (by lia),VH,wrapN (n:=pre.length+(n-2)) (by lia),cS 1 0 (show pre.length+(n-2)<M by lia),yd,zh,Cb,wrapN VJ,show ((r*1000000000+u2:Nat):Int)<(m:Int) from ta.2 pR,Pd,wrapN (n:=t-1) (by lia),qj,wrapN (n:=n-1) (by lia),eD,show (r:Int)+(v1:Int)=((r+v1:Nat):Int) from rfl,wrapN (n:=r+v1) (by lia),show (1000000000:Int)<=((r+v1:Nat):Int) by lia];exact⟨_,_,rfl,by simp,_,_,t-1,rfl,.inr ⟨rfl,rfl⟩,rfl,s1,DU,s2⟩
   .left
    simp only[go_sem,ya,yk,Bi,H3,show ¬(1000000000:Int)<=(t:Int) by lia,AG,wrapN (n:=n-2) (by lia),qh,em,wrapN (n:=m) (by lia),FK,wrapN VI,Kz,wrapN (n:=pre.length+n) (by lia),VH,wrapN (n:=pre.length+(n-2)) (by lia),cS 1 0 (show pre.length+(n-2)<M by lia),yd,zh,Cb,wrapN VJ,show ((r*1000000000+u2:Nat):Int)<(m:Int) from ta.2 pR,Pd,wrapN (n:=t-1) (by lia),qj,wrapN (n:=n-1) (by lia),eD,show (r:Int)+(v1:Int)=((r+v1:Nat):Int) from rfl,wrapN (n:=r+v1) (by lia),show ¬(1000000000:Int)<=((r+v1:Nat):Int) by lia];refine⟨_,t-1,rfl,by lia,t-1,r+v1,?_,h1,by lia,DU,rfl⟩;rw[LG (by simp only[go_sem,ya,yB,mg,mW,mb,lY,fO hw.pu,vC]) (by simp only[go_sem,ya,yc,yB,dj hw.pu])];simp only[go_sem,ya]
 .right
  have kG:t<1000000000:=Nat.lt_of_not_le fun e=>iL (.inl e)
  have B4:=xd (show t<=999999999 from vE kG) (show v2<=999999999 from vE To);have TX:t*v2<=r*1000000000+u2:=ybm fun e=>iL (.inr e)
  have aub:=hl.stop kG ht (.inr TX);obtain⟨m,hm⟩:∃m,t*v2=m:=⟨_,rfl⟩;have em:(t:Int)*(v2:Int)=(m:Int):=by rw[<-hm,xx]
  rw[hm] at TX B4;have FK:(r:Int)*1000000000=((r*1000000000:Nat):Int):=by lia
  have Cb:((r*1000000000:Nat):Int)+(u2:Int)=((r*1000000000+u2:Nat):Int):=rfl
  simp only[go_sem,ya,yk,Bi,H3,show ¬(1000000000:Int)<=(t:Int) by lia,AG,wrapN (n:=n-2) (by lia),qh,em,wrapN (n:=m) (by lia),FK,wrapN VI,Kz,wrapN (n:=pre.length+n) (by lia),VH,wrapN (n:=pre.length+(n-2)) (by lia),cS 1 0 (show pre.length+(n-2)<M by lia),yd,zh,Cb,wrapN VJ,show ¬((r*1000000000+u2:Nat):Int)<(m:Int) from fun e=>Nat.not_lt_of_le TX (ta.1 e)];exact⟨_,_,rfl,by simp,_,_,t,rfl,.inl ⟨rfl,rfl⟩,rfl,kG,hQ,aub⟩
def auc(h:Has P L 301 Ai){w:AV}{x:List Int}{f:Int}(hw:bn w vs){n v1 v2 u0 u1 u2 M:Nat}(hl:fy x vs n v1 v2 u0 u1 u2)(hM:M=pre.length+x.length+post.length)(Ky:M<=50000000000):
  ∃t:Nat,ir P L (D P L) (H3 qs (pre++x++post) f) 3 301 [.av 1 0 M,w,aa pre.length]=D5 (aa t,H3 qs (pre++x++post) f,3)/\t<1000000000/\dv x/dv vs<=t/\t<=dv x/dv vs+1:=by
 have dn:=hl.n2;have zd:=hl.nb;have hlx:=hl.lx;have mI:below 3 w:=fO hw.pu;have Fe:=hl.Kl;have av3:=hl.u0W;have NW:=hl.Km;have og:=hl.pos;have eD:=qP hw (i:=n-1) (by have:=hl.lv;lia)
 rw[hl.eC] at eD;have Cd:=sj (l:=pre++x++post) (o:=pre.length+n) (by rw[nW];lia)
 rw[Bl (by lia),hl.h0] at Cd;have Ce:=sj (l:=pre++x++post) (o:=pre.length+(n-1)) (by rw[nW];lia)
 rw[Bl (by lia),hl.h1] at Ce;have qj:(n:Int)-1=((n-1:Nat):Int):=by lia
 have Kz:(pre.length:Int)+(n:Int)=((pre.length+n:Nat):Int):=rfl;have pn1:((pre.length+n:Nat):Int)-1=((pre.length+(n-1):Nat):Int):=by lia
 obtain⟨m,hm⟩:∃m,m=u0*1000000000+u1:=⟨_,rfl⟩;have em:(u0:Int)*1000000000=((u0*1000000000:Nat):Int):=by lia
 have em2:((u0*1000000000:Nat):Int)+(u1:Int)=(m:Int):=by lia
 have ej:=xK m v1;have kP:=xp m og;have Mt:=hl.first;rw[<-hm] at Mt;have aAM:m/v1<=m:=wU _ _;have oq:IntKind.wrap .i64 ((m:Int).tdiv (v1:Int))=((m/v1:Nat):Int):=by
  rw[xJ (by lia),<-Int.natCast_ediv,wrapN (by lia)]
 have or':(m:Int).tmod (v1:Int)=((m%v1:Nat):Int):=by rw[xI (by lia),<-Int.natCast_emod]
 rw[xb] at ej;generalize m/v1=q0 at*
 generalize m%v1=r0 at*
 have jc:∃ex tm t,D P L Ai.body ⟨eL 0 [.av 1 0 M,w,aa pre.length],H3 qs (pre++x++post) f,3,3⟩=D5 (ex,⟨tm,H3 qs (pre++x++post) f,3,3⟩)/\(ex=.normal\/ex=.ret)/\aj tm 6=aa (t:Nat)/\t<1000000000/\dv x/dv vs<=t/\t<=dv x/dv vs+1:=by
  simp only[go_sem,ya,yk,Ai,H3,hw.len,hl.lv,Kz,wrapN (n:=pre.length+n) (by lia),cS 1 0 (show pre.length+n<M by lia),yd,Cd,em,wrapN (n:=u0*1000000000) (by lia),pn1,wrapN (n:=pre.length+(n-1)) (by lia),cS 1 0 (show pre.length+(n-1)<M by lia),Ce,em2,wrapN (n:=m) (by lia),qj,wrapN (n:=n-1) (by lia),eD,dE _ _ _ (show (v1:Int)≠0 by lia),dY _ _ _ (show (v1:Int)≠0 by lia),oq,or'];generalize mH:D P L (.loop _ Bi) _=qq;obtain⟨ex,s,rfl,tm,ct,t,rfl,qS,rfl,g1,g2,g3⟩:=bF mH (aod (P:=P) (L:=L) (qs:=qs) (f:=f) hw hl hM Ky q0) ⟨q0,r0,by
   rw[LG (by simp only[go_sem,ya,yB,mg,mW,mb,lY,mI,vC]) (by simp only[go_sem,ya,yc,yB,dj hw.pu])]
   simp only[go_sem,ya],by lia,by lia,Mt,rfl⟩
  rcases qS with ⟨rfl,h9⟩ | ⟨rfl,h6⟩
  .simp only [go_sem,yB,H3,LG,mg,mb,lY,h9,and_self];exact⟨_,_,t,rfl,.inr rfl,rfl,g1,g2,g3⟩
  .simp only [go_sem];exact⟨_,_,t,rfl,.inr rfl,h6,g1,g2,g3⟩
 have⟨ex,tm,t,g1,g2,g3,g4,g5,g6⟩:=jc;exact⟨t,HG h g1 g2 (by show ig _ [RV.t 6]=_;rw[Tg,So,g3]),g4,g5,g6⟩
end
end
end VE
end
section
namespace VE
open Go (IntKind)
section
variable {p t v x z:Int}{post pre qs vs y:List Int}{n:Nat}
def av4{bo:Int}(ht:0<=t/\t<1000000000)(hv:0<=v/\v<1000000000)(hb:0<=bo/\bo<1000000000):0<=t*v/\t*v<=999999998000000001/\0<=t*v+bo/\t*v+bo<=999999999000000000:=by
 have h1:=tr ht.1 hv.1;have h2:=ybI (show t<=999999999 by lia) (show v<=999999999 by lia) hv.1 (by decide)
 lia
def av5(hx:0<=x/\x<1000000000)(hp:0<=p/\p<=999999999000000000):
  (x-p.tmod 1000000000<0->0<=x-p.tmod 1000000000+1000000000/\x-p.tmod 1000000000+1000000000<1000000000/\0<=p.tdiv 1000000000+1/\p.tdiv 1000000000+1<1000000000/\x-p.tmod 1000000000+1000000000+p=x+1000000000*(p.tdiv 1000000000+1))/\
  (¬x-p.tmod 1000000000<0->x-p.tmod 1000000000<1000000000/\0<=p.tdiv 1000000000/\p.tdiv 1000000000<1000000000/\x-p.tmod 1000000000+p=x+1000000000*p.tdiv 1000000000):=by grind
def Ri{l:List Int}(h:dg l){i:Nat}(hz:0<=z/\z<1000000000):dg (l.set i z):=Mm h hz
def aoe{b q bo AH X Y S:Int}(h2:z+(q*v+bo)=x+b*AH)(h3:Y+q*X=S+p*bo):(Y+p*(z-x))+q*(X+p*v)=S+p*b*AH:=by grind
section
variable {P:aE}{L:Lib}
def aof{w:AV}{x:List Int}{f:Int}(hw:bn w vs){M m:Nat}(lv:vs.length=n)(hM:M=pre.length+(n+1)+post.length)(Ky:M<=50000000000)(gv:dg vs)(ht:0<=t/\t<1000000000):
  cP P L [8,9,10,11,12,13,14,15,16] EF (fun k s=>∃(i:Nat) (bo:Int) (y:List Int),s=⟨[(8,.av 0 0 1),(9,w),(10,aa n),(11,.av 1 0 M),(12,.av 2 0 m),(13,aa pre.length),(14,aa t),(15,aa bo),(16,aa i)],H3 qs (pre++y++post) f,3,0⟩/\i+k=n/\y.length=n+1/\dg y/\(0<=bo/\bo<1000000000)/\
    sv y+t*sv (vs.take i)=sv x+1000000000^i*bo) (fun ex s'=>∃tm bo y,s'=⟨tm,H3 qs (pre++y++post) f,3,0⟩/\ex=.exit 4/\aj tm 8=.av 0 0 1/\aj tm 9=w/\aj tm 10=aa n/\aj tm 11=.av 1 0 M/\aj tm 12=.av 2 0 m/\aj tm 13=aa pre.length/\aj tm 14=aa t/\aj tm 15=aa bo/\y.length=n+1/\dg y/\(0<=bo/\bo<1000000000)/\
    sv y+t*sv vs=sv x+1000000000^n*bo):=by
 apply cT;rintro k s ⟨i,bo,y,rfl,hk,ly,gy,jh,aJ⟩;by_cases hi:i<n
 .left
  have rD:=gY gv i;have qt:=gY gy i;have ev:=qP hw (i:=i) (by lia);have ey:=sj (l:=pre++y++post) (o:=pre.length+i) (by rw[nW];lia)
  rw[Bl (by lia)] at ey;have eV:=L6 (l:=vs) i;obtain⟨a,ha⟩:∃a,a=vs.getD i 0:=⟨_,rfl⟩;obtain⟨d,hd⟩:∃d,d=y.getD i 0:=⟨_,rfl⟩;rw[<-ha] at rD ev eV;rw[<-hd] at qt ey;have⟨p1,p2,p3,p4⟩:=av4 ht rD jh;have⟨s1,s2⟩:=av5 qt ⟨p3,p4⟩;have dT:(i:Int)+(pre.length:Int)=((pre.length+i:Nat):Int):=by lia
  have aQ:=fun (hp:Hp) (ct:Nat) (z:Int)=>Cn (hp:=hp) (ct:=ct) (id:=1) (v:=z) (ex:=ycH) (l:=pre++y++post) (o:=pre.length+i) (by rw[nW];lia)
  have oc:=fun z=>Mu (pre:=pre) (x:=y) (post:=post) (i:=i) z (by lia)
  have aV:=fun z=>EQ (l:=y) (i:=i) (x:=z) (by lia)
  rw[<-hd] at aV;obtain⟨pr,ot⟩:∃pr,pr=t*a+bo:=⟨_,rfl⟩;obtain⟨dm,ej⟩:∃dm,pr.tmod 1000000000=dm:=⟨_,rfl⟩;obtain⟨dq,DX⟩:∃dq,pr.tdiv 1000000000=dq:=⟨_,rfl⟩;have aAN:0<=dm/\dm<1000000000:=by rw[<-ej,xI (by lia)];lia
  have aAO:0<=dq/\dq<1000000000:=by rw[<-DX,xJ (by lia)];lia
  rw[<-ot,ej,DX] at s1 s2;have key:∀z AH,z+(t*a+bo)=d+1000000000*AH->sv (y.set i z)+t*sv (vs.take (i+1))=sv x+1000000000^(i+1)*AH:=fun z AH h=>by
   rw[aV,eV,tI];exact aoe h aJ
  rw[<-ot] at key;by_cases fV:d-dm<0
  .have ⟨q1,q2,q3,q4,q5⟩:=s1 fV;have kk:=key _ _ q5;obtain⟨dr,jT⟩:∃dr,d-dm=dr:=⟨_,rfl⟩;rw[jT] at fV kk q1 q2
   simp only[go_sem,ya,yk,EF,H3,show (i:Int)<(n:Int) by lia,ev,wrap64 (n:=t*a) (by lia) (by lia),<-ot,wrap64 (n:=pr) (by lia) (by lia),dT,wrapN (n:=pre.length+i) (by lia),cS 1 0 (show pre.length+i<M by lia),yd,ey,dY _ _ _ (show (1000000000:Int)≠0 by decide),dE _ _ _ (show (1000000000:Int)≠0 by decide),ej,DX,jT,wrap64 (n:=dr) (by lia) (by lia),wrap64 (n:=dq) (by lia) (by lia),fV,wrap64 (n:=dr+1000000000) (by lia) (by lia),wrap64 (n:=dq+1) (by lia) (by lia),aQ,oc];refine⟨_,k-1,rfl,by lia,i+1,dq+1,y.set i (dr+1000000000),?_,by lia,by simp[ly],Ri gy ⟨q1,q2⟩,⟨q3,q4⟩,kk⟩;rw[wrap64 (by lia) (by lia)];simp only[go_sem,ya,yc,aA,aF hw.pu]<;>rfl
  .have ⟨q2,q3,q4,q5⟩:=s2 fV;have kk:=key _ _ q5;obtain⟨dr,jT⟩:∃dr,d-dm=dr:=⟨_,rfl⟩;rw[jT] at fV kk q2
   simp only[go_sem,ya,yk,EF,H3,show (i:Int)<(n:Int) by lia,ev,wrap64 (n:=t*a) (by lia) (by lia),<-ot,wrap64 (n:=pr) (by lia) (by lia),dT,wrapN (n:=pre.length+i) (by lia),cS 1 0 (show pre.length+i<M by lia),yd,ey,dY _ _ _ (show (1000000000:Int)≠0 by decide),dE _ _ _ (show (1000000000:Int)≠0 by decide),ej,DX,jT,wrap64 (n:=dr) (by lia) (by lia),wrap64 (n:=dq) (by lia) (by lia),fV,aQ,oc];refine⟨_,k-1,rfl,by lia,i+1,dq,y.set i dr,?_,by lia,by simp[ly],Ri gy ⟨by lia,q2⟩,⟨q3,q4⟩,kk⟩;rw[wrap64 (by lia) (by lia)];simp only[go_sem,ya,yc,aA,aF hw.pu]<;>rfl
 .right
  have:i=n:=by lia
  subst this;rw[yO (by lia)] at aJ;simp only[go_sem,ya,EF,H3,show ¬(i:Int)<(i:Int) by lia];exact⟨_,_,rfl,by simp,_,bo,y,rfl,rfl,rfl,rfl,rfl,rfl,rfl,rfl,rfl,rfl,ly,gy,jh,aJ⟩
def aog{b c c' X Y S:Int}(h2:z+b*c'=x+v+c)(h3:Y+p*c=S+X):(Y+p*(z-x))+p*b*c'=S+(X+p*v):=by grind
def aoh{w:AV}{y0:List Int}{f:Int}(hw:bn w vs){M m:Nat}(lv:vs.length=n)(hM:M=pre.length+(n+1)+post.length)(Ky:M<=50000000000)(gv:dg vs){top:Int}:
  cP P L [8,9,10,11,12,13,14,19,20] H5 (fun k s=>∃(i:Nat) (c:Int) (y:List Int),s=⟨[(8,.av 0 0 1),(9,w),(10,aa n),(11,.av 1 0 M),(12,.av 2 0 m),(13,aa pre.length),(14,aa t),(19,aa c),(20,aa i)],H3 qs (pre++y++post) f,3,0⟩/\i+k=n/\y.length=n+1/\dg (y.take n)/\y.getD n 0=top/\(0<=c/\c<=1)/\
    sv y+1000000000^i*c=sv y0+sv (vs.take i)) (fun ex s'=>∃tm c y,s'=⟨tm,H3 qs (pre++y++post) f,3,0⟩/\ex=.exit 6/\aj tm 8=.av 0 0 1/\aj tm 9=w/\aj tm 10=aa n/\aj tm 11=.av 1 0 M/\aj tm 12=.av 2 0 m/\aj tm 13=aa pre.length/\aj tm 14=aa t/\aj tm 19=aa c/\y.length=n+1/\dg (y.take n)/\y.getD n 0=top/\(0<=c/\c<=1)/\
    sv y+1000000000^n*c=sv y0+sv vs):=by
 apply cT;rintro k s ⟨i,c,y,rfl,hk,ly,gy,od,hc,aJ⟩;by_cases hi:i<n
 .left
  have rD:=gY gv i;have qt:=gY gy i;have e0:(y.take n).getD i 0=y.getD i 0:=by
   simp[yY,hi]
  rw[e0] at qt;have ev:=qP hw (i:=i) (by lia);have ey:=sj (l:=pre++y++post) (o:=pre.length+i) (by rw[nW];lia)
  rw[Bl (by lia)] at ey;have eV:=L6 (l:=vs) i;obtain⟨a,ha⟩:∃a,a=vs.getD i 0:=⟨_,rfl⟩;obtain⟨d,hd⟩:∃d,d=y.getD i 0:=⟨_,rfl⟩;rw[<-ha] at rD ev eV;rw[<-hd] at qt ey;have dT:(i:Int)+(pre.length:Int)=((pre.length+i:Nat):Int):=by lia
  have aV:=fun z=>EQ (l:=y) (i:=i) (x:=z) (by lia)
  rw[<-hd] at aV;have kP:(d+a+c).tmod 1000000000=(d+a+c)%1000000000:=xI (by lia);have hdiv:(d+a+c).tdiv 1000000000=(d+a+c)/1000000000:=xJ (by lia);obtain⟨z,hz⟩:∃z,z=(d+a+c)%1000000000:=⟨_,rfl⟩;obtain⟨c',jw⟩:∃z,z=(d+a+c)/1000000000:=⟨_,rfl⟩;have Ur:z+1000000000*c'=d+a+c:=by lia
  rw[<-hz] at kP;rw[<-jw] at hdiv;have aQ:=fun (hp:Hp) (ct:Nat)=>Cn (hp:=hp) (ct:=ct) (id:=1) (v:=z) (ex:=ycH) (l:=pre++y++post) (o:=pre.length+i) (by rw[nW];lia)
  have oc:=Mu (pre:=pre) (x:=y) (post:=post) (i:=i) z (by lia)
  simp only[go_sem,ya,yk,H5,H3,show (i:Int)<(n:Int) by lia,ev,dT,wrapN (n:=pre.length+i) (by lia),cS 1 0 (show pre.length+i<M by lia),yd,ey,wrap64 (n:=d+a) (by lia) (by lia),wrap64 (n:=d+a+c) (by lia) (by lia),dY _ _ _ (show (1000000000:Int)≠0 by decide),dE _ _ _ (show (1000000000:Int)≠0 by decide),kP,hdiv,wrap64 (n:=c') (by lia) (by lia),aQ,oc];refine⟨_,k-1,rfl,by lia,i+1,c',y.set i z,?_,by lia,by simp[ly],?_,by rw[aa1 (by lia)];exact od,⟨by lia,by lia⟩,?_⟩
  .rw [wrap64 (by lia) (by lia)];simp only[go_sem,ya,yc,aA,aF hw.pu]<;>rfl
  .rw [yao];exact Ri gy ⟨by lia,by lia⟩
  .rw [aV,eV,tI];exact aog Ur aJ
 .right
  have:i=n:=by lia
  subst this;rw[yO (show vs.length<=i by lia)] at aJ;simp only[go_sem,ya,H5,H3,show ¬(i:Int)<(i:Int) by lia];exact⟨_,_,rfl,by simp,_,c,y,rfl,rfl,rfl,rfl,rfl,rfl,rfl,rfl,rfl,rfl,ly,gy,od,hc,aJ⟩
def aoi{A V t:Nat}(hV:0<V)(ly:y.length=n+1)(gy:dg (y.take n))(h:sv y=(A:Int)-t*V)(h1:A/V<=t)(h2:t<=A/V+1):
  (¬y.getD n 0<0->t=A/V/\sv y=((A%V:Nat):Int))/\(y.getD n 0<0->t=A/V+1/\sv y+V=((A%V:Nat):Int)):=by
 have ej:=xK A V;have hm:=xp A hV;have eV:=L6 (l:=y) n;rw[yO (by lia),z7 gy] at eV;have ad2:=jJ gy;have hp:(0:Int)<1000000000^n:=ycv (by decide);generalize y.getD n 0=top at*
 generalize A/V=Q at*
 have hq:t=Q\/t=Q+1:=by lia
 constructor
 .intro h0;have h3:0<=(1000000000:Int)^n*top:=tr (tc hp) (by lia);rcases hq with rfl | rfl
  .grind
  .grind
 .intro h0;have h3:(1000000000:Int)^n*top<=-(1000000000^n):=by
   have:=ua (show top<=-1 by lia) (tc hp)
   grind
  rcases hq with rfl | rfl
  .grind
  .grind
def Zk(ly:y.length=n+1)(gy:dg (y.take n))(h0:0<=sv y)(h1:sv y<1000000000^n):y.getD n 0=0/\dg y/\sv y=dv y:=by
 have eV:=L6 (l:=y) n;rw[yO (by lia),z7 gy] at eV;have ad2:=jJ gy;rw[yT,xt (by lia)] at ad2;have hp:(0:Int)<1000000000^n:=ycv (by decide);have EX:((1000000000^n:Nat):Int)=(1000000000:Int)^n:=by simp
 have aAl:(dv (y.take n):Int)<1000000000^n:=by lia
 have ht:y.getD n 0=0:=by
  generalize y.getD n 0=top at*
  rcases tH top 0 with h | h | h
  .have:=ua (show top<=-1 by lia) (tc hp)
   grind
  .grind
  .have:=ua (show 1<=top by lia) (tc hp)
   grind
 have hg:dg y:=by
  have e:y=y.take n++[0]:=by
   have h1:y=y.take n++y.drop n:=(xU n y).symm;have h2:y.drop n=[0]:=by
    rw[yQ (by lia),xj (by lia)]
    grind
   grind
  rw[e];exact gB.2 ⟨gy,lh.2 ⟨by decide,by decide⟩⟩
 exact⟨ht,hg,z7 hg⟩
end
end
end VE
end
section
namespace VE
open Go (IntKind)
def aoj{l:List Int}{i:Nat}(h:i<l.length):dv (l.drop i)=(l.getD i 0).toNat+1000000000*dv (l.drop (i+1)):=by
 rw[yQ h]
 have:l[i]=l.getD i 0:=by simp_all
 rw[this];rfl
def QJ(l:List Int)(i:Nat)(h:i<=l.length):dv l=dv (l.take i)+1000000000^i*dv (l.drop i):=by
 conv=>lhs;rw[<-xU i l]
 rw[lV,yT,xt h]
def aok{sx sy sV:Int}{p:Int}{bo t:Int}{yn z:Int}{szy:Int}(h1:sy+t*sV=sx+p*bo)(h2:szy=sy+p*(z-yn))(h3:z=yn-bo):szy=sx-t*sV:=by grind
section
variable {P:aE}{L:Lib}
def aol(sJ:Has P L 301 Ai){w:AV}{vs:List Int}{f:Int}(hw:bn w vs)(gv:dg vs){n M m:Nat}(lv:vs.length=n)(dn:2<=n)(hnM:n<M)(Ky:M<=20000000000)(hm:m=M-n)(eC:0<vs.getD (n-1) 0){U0:Nat}:
  cP P L [8,9,10,11,12,13] H6 (fun k st=>∃(j:Nat) (us qs:List Int),st=⟨[(8,.av 0 0 1),(9,w),(10,aa n),(11,.av 1 0 M),(12,.av 2 0 m),(13,aa ((j:Int)-1))],H3 qs us f,3,0⟩/\j=k/\j<=m/\us.length=M/\qs.length=m/\dg us/\dg qs/\(∀i,i<j->qs.getD i 0=0)/\
    dv us+dv qs*dv vs=U0/\dv (us.drop j)<dv vs) (fun ex st'=>∃tm us qs,st'=⟨tm,H3 qs us f,3,0⟩/\ex=.exit 2/\aj tm 8=.av 0 0 1/\aj tm 10=aa n/\aj tm 11=.av 1 0 M/\aj tm 12=.av 2 0 m/\us.length=M/\qs.length=m/\dg us/\dg qs/\
    dv us+dv qs*dv vs=U0/\dv us<dv vs):=by
 apply cT;rintro k st ⟨j,us,qs,rfl,rfl,hj,lu,lq,gu,gq,hz,aJ,od⟩
 cases j with
 | zero=>
  right
  simp only[go_sem,ya,H6,H3,show ¬(0:Int)<=((0:Nat):Int)-1 by lia];exact⟨_,_,rfl,by simp,_,us,qs,rfl,rfl,rfl,rfl,rfl,rfl,lu,lq,gu,gq,aJ,by simpa using od⟩
 | succ j=>
  left
  obtain⟨pre,dT⟩:∃p,p=us.take j:=⟨_,rfl⟩;obtain⟨x,hx⟩:∃p,p=(us.drop j).take (n+1):=⟨_,rfl⟩;obtain⟨post,eY⟩:∃p,p=us.drop (j+(n+1)):=⟨_,rfl⟩;have lp:pre.length=j:=by rw[dT,yT];lia
  have lx:x.length=n+1:=by rw[hx,yT,wH];lia
  have lpo:M=pre.length+(n+1)+post.length:=by rw[lp,eY,wH];lia
  have pz:us=pre++x++post:=by
   rw[dT,hx,eY,<-wZ,xr,xU,xU]
  have gpo:dg post:=by
   have:=gu;rw[pz] at this;exact (gB.1 this).2
  have gpx:=by have:=gu;rw[pz] at this;exact (gB.1 this).1
  have gx:dg x:=(gB.1 gpx).2;have Tt:dg pre:=(gB.1 gpx).1;have hA:=aoj (l:=us) (i:=j) (by lia);have hgj:=gY gu j;have Vl:us.drop j=x++post:=by rw[eY,hx,<-wZ,xU]
  have AI:dv (us.drop j)=dv x+1000000000^(n+1)*dv post:=by rw[Vl,lV,lx]
  have Ko:=jJ gv;rw[lv] at Ko;have aB:dv (us.drop j)<1000000000*dv vs:=by lia
  have hp0:dv post=0:=by
   rcases xg (dv post) with e | e
   .exact e
   .have h1:=yR (1000000000^(n+1)) e;rw[yk,y8] at h1;rw[y8] at AI
    lia
  rw[hp0,xv,yS] at AI;have KA:=fun (l:List Int) (hl:dg l) (i:Nat)=>gY hl i
  obtain⟨v1,eD⟩:∃v:Nat,vs.getD (n-1) 0=v:=⟨(vs.getD (n-1) 0).toNat,by have:=KA vs gv (n-1);lia⟩
  obtain⟨v2,qh⟩:∃v:Nat,vs.getD (n-2) 0=v:=⟨(vs.getD (n-2) 0).toNat,by have:=KA vs gv (n-2);lia⟩
  obtain⟨u0,Cd⟩:∃v:Nat,x.getD n 0=v:=⟨(x.getD n 0).toNat,by have:=KA x gx n;lia⟩
  obtain⟨u1,Ce⟩:∃v:Nat,x.getD (n-1) 0=v:=⟨(x.getD (n-1) 0).toNat,by have:=KA x gx (n-1);lia⟩
  obtain⟨u2,zh⟩:∃v:Nat,x.getD (n-2) 0=v:=⟨(x.getD (n-2) 0).toNat,by have:=KA x gx (n-2);lia⟩
  have hl:fy x vs n v1 v2 u0 u1 u2:=⟨dn,by lia,lx,lv,gx,gv,eD,qh,Cd,Ce,zh,by lia,by rw[<-AI];exact aB⟩
  have NX:=hl.digit;have rC:0<dv vs:=by lia
  have kP:=xp (dv x) rC;have⟨t,e1,ht1,UI,ht3⟩:=auc (P:=P) (L:=L) sJ hw hl (pre:=pre) (post:=post) (qs:=qs) (f:=f) (M:=M) (by lia) (by lia);rw[<-pz,lp] at e1;have Vn:dv us=dv pre+1000000000^j*dv x:=by
   have:=QJ us j (by lia)
   rw[AI,<-dT] at this;exact this
  have Tu:∀y,dv (pre++y++post)=dv pre+1000000000^j*dv y:=fun y=>by
   rw[xr,lV,lV,hp0,xv,yS,lp]
  have iZ:=Yg (b:=0) Vn aJ;have mI:below 3 w:=fO hw.pu;have aV:=EQ (l:=qs) (i:=j) (x:=((dv x/dv vs:Nat):Int)) (by lia);have gq':dg (qs.set j ((dv x/dv vs:Nat):Int)):=Mm gq ⟨yad _,ta.2 NX⟩;rw[hz j (by lia),Int.sub_zero,z7 gq,z7 gq'] at aV;have aV:dv (qs.set j ((dv x/dv vs:Nat):Int))=dv qs+1000000000^j*(dv x/dv vs):=by
   have EX:((1000000000^j*(dv x/dv vs):Nat):Int)=(1000000000:Int)^j*((dv x/dv vs:Nat):Int):=by rw[xx];simp
   rw[<-EX] at aV;exact tT (by rw[yaP,yaP,aV,tf])
  have fin:∀(s':St) (x':List Int),bg [8,9,10,11,12,13] s'=⟨[(8,.av 0 0 1),(9,w),(10,aa n),(11,.av 1 0 M),(12,.av 2 0 m),(13,aa ((j:Int)-1))],H3 (qs.set j ((dv x/dv vs:Nat):Int)) (pre++x'++post) f,3,0⟩->x'.length=n+1->dg x'->sv x'=((dv x%dv vs:Nat):Int)->
    ∃(j':Nat) (us qs:List Int),bg [8,9,10,11,12,13] s'=⟨[(8,.av 0 0 1),(9,w),(10,aa n),(11,.av 1 0 M),(12,.av 2 0 m),(13,aa ((j':Int)-1))],H3 qs us f,3,0⟩/\j'=j/\j'<=m/\us.length=M/\qs.length=m/\dg us/\dg qs/\(∀i,i<j'->qs.getD i 0=0)/\dv us+dv qs*dv vs=U0/\dv (us.drop j')<dv vs:=fun s' x' hc Vm O0 Kq=>by
   have ad3:dv x'=dv x%dv vs:=by rw[z7 O0] at Kq;exact tT Kq
   refine⟨j,_,_,hc,rfl,by lia,by rw[nW,Vm];lia,by simp[lq],gB.2 ⟨gB.2 ⟨Tt,O0⟩,gpo⟩,gq',fun i hi=>by rw[aa1 (by lia)];exact hz i (by lia),?_,?_⟩
   .rw [Tu,ad3,aV];exact iZ
   .rw [xr,List.drop_left' lp,lV,hp0,xv,yS,ad3];exact kP
  have ad4:=fun (z:Int) (hp:Hp) (ct:Nat)=>Cn (hp:=hp) (ct:=ct) (id:=2) (v:=z) (ex:=ycG) (l:=qs) (o:=j) (by lia)
  have svx:=z7 gx;have svv:=z7 gv;simp only[H3] at e1;simp only[go_sem,ya,H6,H3,show ((j+1:Nat):Int)-1=(j:Int) by lia,show (0:Int)<=(j:Int) by lia,ab7,e1];generalize mH:D P L (.loop _ EF) _=qq;obtain⟨ex,s,rfl,tm,bo,y,rfl,rfl,t8,t9,t10,t11,t12,t13,t14,t15,ly,gy,jh,hv⟩:=bF mH (aof (P:=P) (L:=L) (x:=x) (pre:=pre) (post:=post) (qs:=qs) (f:=f) (m:=m) (M:=M) hw lv lpo (by lia) gv (t:=t) (by lia) n) ⟨0,0,x,by
   rw[pz,lp]
   simp only[go_sem,ya,yc,aA,aF hw.pu]<;>rfl,by lia,lx,gx,by lia,by simp[sv]⟩
  rw[lp] at t13;have hyn:=gY gy n;have VL:=sj (l:=pre++y++post) (o:=pre.length+n) (by rw[nW];lia)
  rw[Bl (by lia),lp] at VL;obtain⟨z,VM⟩:∃z,z=y.getD n 0-bo:=⟨_,rfl⟩;have E1:=fun (hp:Hp) (ct:Nat)=>Cn (hp:=hp) (ct:=ct) (id:=1) (v:=z) (ex:=ycH) (l:=pre++y++post) (o:=j+n) (by rw[nW];lia)
  have oc:=Mu (pre:=pre) (x:=y) (post:=post) (i:=n) z (by lia);rw[lp] at oc;rw[oc] at E1;have lP:=EQ (l:=y) (i:=n) (x:=z) (by lia);have Nf:=aok hv lP VM;have Cc:(y.set n z).length=n+1:=by simp[ly]
  have DV:dg ((y.set n z).take n):=by
   have:(y.set n z).take n=y.take n:=by rw[yao,yam (by simp;lia)]
   rw[this];exact CH gy n
  rw[svx,svv] at Nf;have⟨s0,s1⟩:=aoi rC Cc DV Nf UI ht3;have eg:(y.set n z).getD n 0=z:=ajQ (by lia);rw[eg] at s0 s1;have VN:=sj (l:=pre++y.set n z++post) (o:=pre.length+n) (by rw[nW];lia)
  rw[Bl (by lia),lp,eg] at VN;generalize y.set n z=y1 at*
  have hpn:((10^9:Int))=1000000000:=by decide
  by_cases fV:z<0
  .have ⟨f1,f2⟩:=s1 fV
   simp only[go_sem,ya,yc,yk,aA,aF hw.pu,t8,t9,t10,t11,t12,t13,t14,t15,show (j:Int)+(n:Int)=((j+n:Nat):Int) from rfl,wrapN (n:=j+n) (by lia),cS 1 0 (show j+n<M by lia),yd,VL,<-VM,wrap64 (n:=z) (by lia) (by lia),E1,VN,fV];generalize Dv:D P L (.loop _ H5) _=Vg;obtain⟨ex,s,rfl,om,c,y2,rfl,rfl,t8,t9,t10,t11,t12,t13,t14,t19,Vi,OY,ack,hc,cE⟩:=bF Dv (aoh (P:=P) (L:=L) (y0:=y1) (pre:=pre) (post:=post) (qs:=qs) (f:=f) (m:=m) (M:=M) (t:=(t:Int)-1) (top:=z) hw lv lpo (by lia) gv n) ⟨0,0,y1,by
    rw[lp,wrap64 (n:=(t:Int)-1) (by lia) (by lia)]
    simp only[go_sem,ya,yc,aA,aF hw.pu]<;>rfl,by lia,Cc,DV,eg,by lia,by simp[sv]⟩
   rw[lp] at t13;have ad5:=sj (l:=pre++y2++post) (o:=pre.length+n) (by rw[nW];lia)
   rw[Bl (by lia),lp,ack] at ad5;have NV:=fun (hp:Hp) (ct:Nat)=>Cn (hp:=hp) (ct:=ct) (id:=1) (v:=z+c) (ex:=ycH) (l:=pre++y2++post) (o:=j+n) (by rw[nW];lia)
   have MZ:=Mu (pre:=pre) (x:=y2) (post:=post) (i:=n) (z+c) (by lia);rw[lp] at MZ;rw[MZ] at NV;have Aw:=EQ (l:=y2) (i:=n) (x:=z+c) (by lia);rw[ack,show z+c-z=c by lia,cE,svv,f2] at Aw;have Kp:(y2.set n (z+c)).length=n+1:=by simp[Vi]
   have OZ:dg ((y2.set n (z+c)).take n):=by
    have:(y2.set n (z+c)).take n=y2.take n:=by rw[yao,yam (by simp;lia)]
    rw[this];exact OY
   have VO:((dv x%dv vs:Nat):Int)<1000000000^n:=by
    have EX:((1000000000^n:Nat):Int)=(1000000000:Int)^n:=by simp
    rw[<-EX];lia
   have⟨g1,g2,g3⟩:=Zk Kp OZ (by rw[Aw];lia) (by rw[Aw];exact VO)
   generalize y2.set n (z+c)=y3 at*
   have ft:(t:Int)-1=((dv x/dv vs:Nat):Int):=by rw[f1];lia
   simp only[go_sem,ya,yc,yk,aA,aF hw.pu,t8,t9,t10,t11,t12,t13,t14,t19,show (j:Int)+(n:Int)=((j+n:Nat):Int) from rfl,wrapN (n:=j+n) (by lia),cS 1 0 (show j+n<M by lia),yd,ad5,wrap64 (n:=z+c) (by lia) (by lia),NV,cS 2 0 (show j<m by lia),ad4];rw[ft];refine⟨_,j,rfl,by lia,fin _ y3 ?_ Kp g2 Aw⟩;rw[wrap64 (by lia) (by lia)];simp only[go_sem,ya,yc,aA,aF hw.pu]<;>rfl
  .have ⟨f1,f2⟩:=s0 fV;have VO:((dv x%dv vs:Nat):Int)<1000000000^n:=by
    have EX:((1000000000^n:Nat):Int)=(1000000000:Int)^n:=by simp
    rw[<-EX];lia
   have⟨g1,g2,g3⟩:=Zk Cc DV (by rw[f2];lia) (by rw[f2];exact VO)
   simp only[go_sem,ya,yc,yk,aA,aF hw.pu,t8,t9,t10,t11,t12,t13,t14,t15,show (j:Int)+(n:Int)=((j+n:Nat):Int) from rfl,wrapN (n:=j+n) (by lia),cS 1 0 (show j+n<M by lia),yd,VL,<-VM,wrap64 (n:=z) (by lia) (by lia),E1,VN,fV,cS 2 0 (show j<m by lia),ad4];rw[f1];refine⟨_,j,rfl,by lia,fin _ y1 ?_ Cc g2 f2⟩;rw[wrap64 (by lia) (by lia)];simp only[go_sem,ya,yc,aA,aF hw.pu]<;>rfl
end
end VE
end
section
namespace VE
open Go (IntKind)
section
variable {P:aE}{L:Lib}
def arU(h:Has P L 292 Ah){n:Nat}(hn:n<1000000000):af P L 292 [aa n,aa 9] (.str (iE 9 n)):=by
 have key:=jm P L [0,1,5] nR
  (fun k st=>∃(m:Nat) (s:List Nat),st=⟨[(0,aa m),(1,aa 9),(5,.str s)],[],0,0⟩/\s.length+k=9/\m<10^k/\iE 9 n=iE k m++s)
  (fun ex st=>∃tm ct,st=⟨tm,[],ct,0⟩/\ex=.exit 0/\aj tm 5=.str (iE 9 n)) ?_
 .unfold af;rw[aH h];simp only[go_sem,Ah];generalize hq:D P L (.loop _ nR) _=q;obtain⟨ex,st,rfl,tm,ct,rfl,rfl,h2⟩:=bF hq (key 9) ⟨n,[],by simp only[go_sem,ya,aA]<;>rfl,rfl,by lia,by simp⟩
  simp only[go_sem,aA,h2]
 .rintro k st ⟨m,s,rfl,hk,hm,hs⟩
  cases k with
  | zero=>
   right
   have rF:m=0:=by simpa using hm
   subst rF;simp only[go_sem,ya,nR,show ¬(0:Int)<((0:Nat):Int) by lia,show ¬((s.length:Nat):Int)<9 by lia];refine⟨_,_,rfl,by simp,_,_,rfl,rfl,?_⟩;rw[hs];rfl
  | succ k=>
   left
   have hr:((m:Int)).tmod 10=((m%10:Nat):Int):=by rw[xI (by lia)];rfl
   have hq:((m:Int)).tdiv 10=((m/10:Nat):Int):=by rw[xJ (by lia)];rfl
   have hd:=Xn (r:=m%10) (by lia);have JW:m<10000000000:=yE hm (by simpa using xc (show 0<10 by decide) (show k+1<=10 by lia));have fin:∃s',D P L nR ⟨[(0,aa m),(1,aa 9),(5,.str s)],[],0,0⟩=D5 (.normal,s')/\bg [0,1,5] s'=⟨[(0,aa (m/10:Nat)),(1,aa 9),(5,.str ([48+m%10]++s))],[],0,0⟩:=by
    by_cases hc:(0:Int)<m
    .simp only [go_sem,ya,yc,nR,hc,dY _ _ _ (show (10:Int)≠0 by decide),dE _ _ _ (show (10:Int)≠0 by decide),hr,hq,wrapN (n:=m%10+1) (by lia),wrap64 (n:=((m/10:Nat):Int)) (by lia) (by lia),kK,gX,show ((m%10:Nat):Int)+1=((m%10+1:Nat):Int) from rfl,hd,fQ (a:=[48+m%10]) (b:=s) (by simp;lia)]
     exact⟨_,rfl,by simp only[go_sem,ya,aA]⟩
    .simp only [go_sem,ya,yc,nR,hc,show ((s.length:Nat):Int)<9 by lia,dY _ _ _ (show (10:Int)≠0 by decide),dE _ _ _ (show (10:Int)≠0 by decide),hr,hq,wrapN (n:=m%10+1) (by lia),wrap64 (n:=((m/10:Nat):Int)) (by lia) (by lia),kK,gX,show ((m%10:Nat):Int)+1=((m%10+1:Nat):Int) from rfl,hd,fQ (a:=[48+m%10]) (b:=s) (by simp;lia)]
     exact⟨_,rfl,by simp only[go_sem,ya,aA]⟩
   have⟨s',f1,f2⟩:=fin;exact⟨s',k,f1,by lia,m/10,_,f2,by simp;lia,by rw[y8] at hm;lia,by rw[hs];simp[iE]⟩
end
end VE
end
section
namespace VE
open Go (IntKind)
def last_pos{l:List Int}(hd:dg l)(hn:nz l)(h:0<l.length):0<l.getD (l.length-1) 0:=by
 rcases snoc l with rfl | ⟨m,a,rfl⟩
 .grind
 .have e:(m++[a]).getD ((m++[a]).length-1) 0=a:=by simp_all
  have ha:=lh.1 (gB.1 hd).2;by_cases h0:a=0
  .subst h0
   have:=Ll m
   have e:=congrArg List.length hn;rw[Ha] at e
   grind
  .lia
section
variable {P:aE}{L:Lib}
def arV(pN:Has P L 292 Ah){neg:Bool}{w:AV}{l:List Int}(hw:bn w l)(hd:dg l)(hn:nz l)(hl:l.length<=20000000000):
  cP P L [1,3,4] HZ (fun k s=>∃(j:Nat) (t:List Nat),s=⟨[(1,.ptr 0 0),(3,.str t),(4,aa ((j:Int)-1))],[(0,.cells ycG ycG ycG 2 [.bool neg,w])],1,0⟩/\j=k/\j<l.length/\0<dv (l.drop j)/\t=aC (dv (l.drop j))/\t.length<=9*(l.length-j)) (fun ex s'=>∃tm,s'=⟨tm,[(0,.cells ycG ycG ycG 2 [.bool neg,w])],1,0⟩/\ex=.exit 0/\aj tm 1=.ptr 0 0/\aj tm 3=.str (aC (dv l))/\(aC (dv l)).length<=180000000000):=by
 apply cT;rintro k s ⟨j,t,rfl,rfl,hj,og,ht,VD⟩
 cases j with
 | zero=>
  right
  rw[yh] at ht;simp only[go_sem,ya,HZ,show ¬(0:Int)<=((0:Nat):Int)-1 by lia];exact⟨_,_,rfl,by simp,_,rfl,rfl,rfl,by rw[<-ht];simp only[go_sem,ya],by rw[<-ht];lia⟩
 | succ i=>
  left
  have hi:i<l.length:=by lia
  obtain⟨x,hx⟩:∃x,x=l.getD i 0:=⟨_,rfl⟩;have e1:=qP hw hi;have gx:=gY hd i;rw[<-hx] at e1 gx;obtain⟨m,rfl⟩:∃m:Nat,x=m:=⟨x.toNat,by lia⟩;have e2:=arU pN (n:=m) (by lia);unfold af at e2;have hlp:=QH 9 m;have jT:dv (l.drop i)=dv (l.drop (i+1))*10^9+m:=by
   have:l.drop i=(m:Int)::l.drop (i+1):=by
    rw[yQ hi,hx];simp[yY,xh hi]
   rw[this];simp only[dv,wz];lia
  have av6:aC (dv (l.drop i))=t++iE 9 m:=by
   rw[jT,Lz 9 _ m og (by lia),ht]
  simp only[go_sem,ya,HZ,show ((i+1:Nat):Int)-1=(i:Int) by lia,show (0:Int)<=(i:Int) by lia,a6,yd,dc,e1,e2,fQ (a:=t) (b:=iE 9 m) (by lia)];refine⟨_,i,rfl,by lia,i,t++iE 9 m,?_,rfl,by lia,by lia,av6.symm,by simp;lia⟩
  rw[wrap64 (by lia) (by lia)];simp only[go_sem,ya,yc,aA]<;>rfl
def TY(h:Has P L 282 I9)(pN:Has P L 292 Ah){v:AV}{n:Int}{K:Nat}(hK:K<=18000000000)(hv:jW v n)(hn:n.natAbs<1000000000^K):af P L 282 [v] (.str (bc n))/\(bc n).length<=180000000001:=by
 obtain⟨w,l,rfl,hw,hd,hz,qu⟩:=hv;have hl:=y9 (j8 hd hz (by rw[qu];exact hn)) hK
 by_cases h0:l=[]
 .subst h0;have Ax:n=0:=by simp[dv] at qu;lia
  subst Ax;refine⟨?_,by decide⟩;unfold af;rw[aH h];simp only[go_sem,ya,yc,I9,aU,hw.len,hw.pu,hw.one,a6,yd,dc,yM,show ((0:Nat):Int)=(0:Int) from rfl,xa];rfl
 .have og:0<l.length:=tL.2 h0;obtain⟨x,hx⟩:∃x,x=l.getD (l.length-1) 0:=⟨_,rfl⟩;have e1:=qP hw (show l.length-1<l.length by lia);have gx:=gY hd (l.length-1);have gp:=last_pos hd hz og;rw[<-hx] at e1 gx gp;obtain⟨m,rfl⟩:∃m:Nat,x=m:=⟨x.toNat,by lia⟩;have e2:=Tk pN (n:=m) (by lia);have jT:dv (l.drop (l.length-1))=m:=by
   rw[yQ (show l.length-1<l.length by lia),xj (by lia)]
   have:l[l.length-1]=(m:Int):=by rw[hx];simp[yY,xh (show l.length-1<l.length by lia)]
   simp[dv,this]
  have h9:(aC m).length<=9:=zC (k:=8) (by lia);have fin:∀neg:Bool,bQ P L (D P L) 282 [.agg [.bool neg,w]]=D5 (.str ((if neg=ycG then [45] else [])++aC (dv l)))/\(aC (dv l)).length<=180000000000:=fun neg=>by
   rw[aH h]
   simp only[go_sem,ya,yc,I9,aU,hw.len,hw.pu,hw.one,a6,yd,dc,show ¬(l.length:Int)=0 by lia,show (l.length:Int)-1=((l.length-1:Nat):Int) by lia,wrapN (n:=l.length-1) (by lia),e1,e2];generalize hq:D P L (.loop _ HZ) _=q;obtain⟨ex,s,rfl,tm,rfl,rfl,t1,t3,hlen⟩:=bF hq (arV (P:=P) (L:=L) pN (neg:=neg) hw hd hz (by lia) (l.length-1)) ⟨l.length-1,aC m,by
    rw[show (l.length:Int)-2=((l.length-1:Nat):Int)-1 by lia,wrap64 (by lia) (by lia)]
    simp only[go_sem,ya,yc,aA]<;>rfl,rfl,by lia,by rw[jT];lia,by rw[jT],by lia⟩
   refine⟨?_,hlen⟩
   cases neg with
   | true=>
    simp only[go_sem,ya,aA,t1,t3,a6,yd,fQ (a:=[45]) (b:=aC (dv l)) (by simp;lia),xN]
   | false=>
    simp only[go_sem,ya,aA,t1,t3,a6,yd];rfl
  have⟨f1,f2⟩:=fin (decide (n<0));rw[qu] at f1 f2;simp only[vh] at f1;rw[nJ] at f1;refine⟨f1,?_⟩;rw[<-nJ]
  split<;>simp<;>lia
structure Rb(P:aE)(L:Lib):Prop where
 av7:Has P L 262 I4
 Jn:Has P L 272 I8
 ad6:Has P L 274 Nt
 av8:Has P L 275 Nv
 av9:Has P L 277 Dq
 awa:Has P L 280 n7
 ad7:Has P L 281 Nx
 TZ:Has P L 282 I9
 ad8:Has P L 288 Ny
 N8:Has P L 289 sr
 Aj:Has P L 290 E5
 Tm:Has P L 291 Jb
 pN:Has P L 292 Ah
 lJ:Has P L 293 BE
 iF:Has P L 294 BF
 TW:Has P L 295 Jc
 pQ:Has P L 296 ss
 ad9:Has P L 298 Nz
 qX:Has P L 299 BG
 cy:Has P L 300 lE
 nk:Has P L 302 su
structure Ras(P:aE)(L:Lib):Prop extends Rb P L where
 aea:Has P L 264 I5
 awb:Has P L 268 I7
 awc:Has P L 271 SZ
 awd:Has P L 276 pK
 JA:Has P L 278 Nw
 awe:Has P L 279 E4
 N7:Has P L 297 Jd
structure Ra(P:aE)(L:Lib):Prop extends Ras P L where
 aeb:Has P L 267 I6
end
end VE
end
section
namespace VE
open Go (IntKind)
section
variable {v w:AV}{a b:List Int}
section
variable {P:aE}{L:Lib}
def aom{vs:List Int}{f:Int}(hv:bn v a)(hw:bn w vs){n:Nat}(la:a.length<=9000000000){A:Nat}:
  cP P L [0,8,9,10,11] H4 (fun k st=>∃us:List Int,st=⟨[(0,v),(8,.av 0 0 1),(9,w),(10,aa n),(11,.av 1 0 us.length)],[(1,.cells ycG ycG ycH 1 (us.map aa)),(0,.cells ycH ycG ycG 1 [aa f])],2,0⟩/\us.length+k=a.length+1/\dg us/\dv us=A) (fun ex st'=>∃tm us,st'=⟨tm,[(1,.cells ycG ycG ycH 1 (us.map aa)),(0,.cells ycH ycG ycG 1 [aa f])],2,0⟩/\ex=.exit 0/\aj tm 8=.av 0 0 1/\aj tm 9=w/\aj tm 10=aa n/\aj tm 11=.av 1 0 (a.length+1)/\us.length=a.length+1/\dg us/\dv us=A):=by
 apply cT;rintro k st ⟨us,rfl,hk,gu,aJ⟩;have ea:((a.length:Nat):Int)+1=((a.length+1:Nat):Int):=rfl;by_cases hi:us.length<a.length+1
 .left
  simp only[go_sem,ya,yc,yp,yk,H4,hv.len,ea,wrapN (n:=a.length+1) (by lia),show ((us.length:Nat):Int)<((a.length+1:Nat):Int) by lia]
  rw[il (ex:=ycH) (pu:=ycG) (cs:=us.map aa) rfl (by simp) (by lia) (by lia) (by decide) rfl];refine⟨_,k-1,rfl,by lia,us++[0],?_,by simp;lia,gB.2 ⟨gu,lh.2 (by decide)⟩,by rw[lV];simp[dv,aJ]⟩
  rw[xk,yC];simp only[go_sem,ya,yc,aA,aF hv.pu,aF hw.pu]<;>rfl
 .right
  have hl:us.length=a.length+1:=by lia
  rw[hl]
  simp only[go_sem,ya,H4,hv.len,ea,wrapN (n:=a.length+1) (by lia),show ¬((a.length+1:Nat):Int)<((a.length+1:Nat):Int) by lia];exact⟨_,_,rfl,by simp,_,us,rfl,rfl,rfl,rfl,rfl,rfl,hl,gu,aJ⟩
end
def aa2:∀l:List Int,b5 (l.map aa)=ycG
 | []=>rfl
 | a::r=>by rw[yV,Yc,aa2 r];rfl
def aa3:∀l:List Int,aD (l.map aa)=ycG
 | []=>rfl
 | a::r=>by rw[yV,aD,aa3 r];rfl
def aon{hp:Hp}{ct:Nat}{e:Bool}{us:List Int}{o:Obj}(h:us.length<=100000000000):
  Ds ((1,.cells ycG ycG ycG 1 [])::(0,o)::hp) ct 1 8 (.av 1 0 0) (lZ ((1,.cells ycG ycG ycG 1 [])::(0,o)::hp) 1 (.aq e us.length (us.map aa)))=D5 (.av ct 0 us.length,(ct,.cells ycG ycG ycH 1 (us.map aa))::cl ((1,.cells ycG ycG ycG 1 [])::(0,o)::hp) 1,ct+1):=by
 have h1:lZ ((1,.cells ycG ycG ycG 1 [])::(0,o)::hp) 1 (.aq e us.length (us.map aa))=D5 (us.length,us.map aa):=by
  simp[lZ]
 rw[h1,il (cs:=[]) (pu:=ycG) (ex:=ycG) rfl (by simp) (by lia) (by lia) (by decide) (aa2 us),aa3,yd];rfl
def arW{l:List Int}(hd:dg l)(hn:nz l)(h:0<l.length):1000000000^(l.length-1)<=dv l:=MQ hn hd (fun e=>by subst e;simp at h)
def alY{n top f V:Nat}(hf:f=1000000000/(top+1))(VK:0<top)(ht:top<1000000000)(h1:V<1000000000^(n-1)*(top+1))(hn:0<n):0<f/\f<1000000000/\V*f<1000000000^n:=by
 have h2:f*(top+1)<=1000000000:=by rw[hf];exact Nat.div_mul_le_self _ _
 have h3:0<f:=by rw[hf];exact yct (by lia) (by lia)
 refine⟨h3,?_,?_⟩
 .have:=yR f (show 2<=top+1 by lia)
  lia
 .have e1:=xP h1 h3;have e2:=yR (1000000000^(n-1)) h2;rw[<-y8,show (n-1).succ=n by lia] at e2
  grind
section
variable {P:aE}{L:Lib}
def arX(h:Has P L 289 sr)(lJ:Has P L 293 BE)(qX:Has P L 299 BG)(cy:Has P L 300 lE)(sJ:Has P L 301 Ai)(hv:bn v a)(hw:bn w b)(ha:dg a)(hb:dg b)(na:nz a)(nb:nz b)(la:a.length<=8000000000)(lb:2<=b.length)(ec:af P L 296 [v,w] (aa (dw (dv a) (dv b))))(hc:dv b<=dv a):
  ∃q r lq lr,af P L 289 [v,w] (.ay [q,r])/\bn q lq/\bn r lr/\dg lq/\nz lq/\dg lr/\nz lr/\dv lq=dv a/dv b/\dv lr=dv a%dv b:=by
 have dW:¬dw (dv a) (dv b)<0:=by unfold dw;rw[yx (by lia)];split<;>decide
 have aud:=arW hb nb (by lia);have hba:b.length<=a.length:=by
  have:=jJ ha
  have h1:1000000000^(b.length-1)<1000000000^a.length:=by lia
  have:=(vM (show 1<1000000000 by decide)).1 h1
  lia
 obtain⟨n,hn⟩:∃n,n=b.length:=⟨_,rfl⟩;have awf:=gY hb (n-1);have sh:=last_pos hb nb (by lia);rw[<-hn] at sh;obtain⟨top,od⟩:∃v:Nat,b.getD (n-1) 0=v:=⟨(b.getD (n-1) 0).toNat,by lia⟩;have aec:=qP hw (i:=n-1) (by lia);rw[od] at awf sh aec;have hbt:=pc (l:=b) (n-1);rw[show n-1+1=n by lia,yO (by lia),od,wz] at hbt;have aue:=jJ (CH hb (n-1));rw[yT,xt (by lia)] at aue;obtain⟨f,hf⟩:∃f,f=1000000000/(top+1):=⟨_,rfl⟩;have⟨D1,hfB,hfV⟩:=alY (n:=n) (V:=dv b) hf (by lia) (by lia) (by rw[xz,yk];lia) (by lia)
 have hIf:bn (.aq ycG 1 [aa f]) [(f:Int)]:=ik ycG [(f:Int)];have gf:dg [(f:Int)]:=lh.2 (by lia);have vf:dv [(f:Int)]=f:=by simp[dv]
 have⟨v',vs,e1,eX,hsv,DW,Kr,zi⟩:=TV lJ cy hw hIf hb gf (by lia) (by simp);have⟨u',Cp,e2,ji,zf,FL,nus,KB⟩:=TV lJ cy hv hIf ha gf (by lia) (by simp);rw[vf] at zi KB;have rC:0<dv b:=by have:=ybv (n:=b.length-1) (show 0<1000000000 by decide);lia
 have AJ:vs.length=n:=by
  have h1:vs.length<=n:=j8 DW Kr (by rw[zi];exact hfV)
  have h2:dv b<=dv vs:=by rw[zi];exact yaw _ D1
  have h3:=jJ DW;have h4:1000000000^(n-1)<1000000000^vs.length:=by rw[hn];lia
  have:=(vM (show 1<1000000000 by decide)).1 h4
  lia
 have O2:Cp.length<=a.length+1:=by
  refine j8 FL nus ?_;rw[KB,y8];exact tS (jJ ha) hfB
 have aed:0<Cp.length:=by
  rcases xg Cp.length with e | e
  .have h1:0<dv a*f:=wN (by lia) D1;rw[yG e] at KB;simp only[dv] at KB;lia
  .exact e
 have eC:0<vs.getD (n-1) 0:=by
  have:=last_pos DW Kr (by lia)
  rwa[AJ] at this
 obtain⟨m,hm⟩:∃m,m=a.length+1-n:=⟨_,rfl⟩;have cd:∀ct:Nat,BH ct 1 8 [.int .i64 0] (D5 m) (D5 m)=D5 (.av ct 0 m,.cells ycG ycG ycG 1 ((yy m (0:Int)).map aa)):=fun ct=>by
  rw[Mq (sz:=1) (by lia) (by lia) (by rfl) (by rfl),PP];rfl
 obtain⟨e,rfl⟩:∃e,u'=.aq e Cp.length (Cp.map aa):=by
  rcases ji with ⟨rfl,h0⟩ | ⟨e,rfl⟩
  .rw [List.map_eq_nil_iff] at h0;rw[h0] at aed;simp at aed
  .exact ⟨e,by rw[yX]⟩
 have Sr:∀us:List Int,us.length=a.length+1->dv us=dv a*f->dv (us.drop m)<dv vs:=fun us hl hd=>by
  have e1:=QJ us m (by lia);have e2:=jJ ha;have e3:=xP e2 D1;have e4:1000000000^a.length=1000000000^m*1000000000^(n-1):=by rw[<-xB];congr 1;lia
  rw[<-hd,e4,y5] at e3;have e5:1000000000^m*dv (us.drop m)<1000000000^m*(1000000000^(n-1)*f):=by lia
  refine yE (Nat.lt_of_mul_lt_mul_left e5) ?_;rw[zi,hn];exact yL _ aud
 have jc:∃us qs,(us.length=a.length+1/\qs.length=m/\dg us/\dg qs/\dv us+dv qs*dv vs=dv a*f/\dv us<dv vs)/\
   ∃q1 r1 lr,bn q1 (dF qs)/\bn r1 lr/\dg lr/\nz lr/\dv lr=dv (us.take n)/f/\af P L 289 [v,w] (.ay [q1,r1]):=by
  unfold af at ec e1 e2;unfold af;rw[aH h];have Js:IntKind.wrap .i64 ((1000000000:Int).tdiv ((top+1:Nat):Int))=(f:Int):=by
   rw[xJ (by decide),show (1000000000:Int)/((top+1:Nat):Int)=((1000000000/(top+1):Nat):Int) from rfl,<-hf,wrap64 (by lia) (by lia)]
  simp only[go_sem,ya,yc,yB,yp,yk,sr,hv.ak,hw.len,hw.ak,ec,dW,show ¬(n:Int)=1 by lia,<-hn,show (n:Int)-1=((n-1:Nat):Int) by lia,wrapN (n:=n-1) (by lia),aec,show ((top:Nat):Int)+1=((top+1:Nat):Int) from rfl,wrapN (n:=top+1) (by lia),dE _ _ _ (show ((top+1:Nat):Int)≠0 by lia),Js,e1,hsv,eX.len,AJ,e2,zf,aon (us:=Cp) (e:=e) (by lia)];generalize AD:D P L (.loop _ H4) _=q0;obtain⟨ex,st,rfl,tm,us,rfl,rfl,t8,t9,t10,t11,lu,gu,vu⟩:=bF AD (aom (P:=P) (L:=L) (f:=(f:Int)) (n:=n) (A:=dv a*f) hv eX (by lia) (a.length+1-Cp.length)) ⟨Cp,by
   simp only[go_sem,ya,yc,aA,aF hv.pu,aF eX.pu]<;>rfl,by lia,FL,KB⟩
  have em:((a.length+1:Nat):Int)-(n:Int)=(m:Int):=by lia
  have em1:(m:Int)-1=((m-1:Nat):Int):=by lia
  simp only[go_sem,ya,yc,aA,aF eX.pu,t8,t9,t10,t11,em,wrapN (n:=m) (by lia),cd,em1,wrapN (n:=m-1) (by lia)];generalize fc:D P L (.loop _ H6) _=q1;obtain⟨ex,st,rfl,om,Cq,qs,rfl,rfl,t8,t10,t11,t12,lu1,Kv,gu1,gq1,aJ,aB⟩:=bF fc (aol (P:=P) (L:=L) sJ (f:=(f:Int)) eX DW AJ (by lia) (show n<a.length+1 by lia) (by lia) (by lia) eC (U0:=dv a*f) m) ⟨m,us,yy m 0,by
   rw[show ((m-1:Nat):Int)=(m:Int)-1 by lia]
   simp only[go_sem,ya,yc,aA,aF eX.pu]<;>rfl,rfl,yq _,lu,by simp,gu,YY m,fun i _=>Xv m i,by rw[YX,wh,yS,vu],Sr us lu vu⟩
  have nj:∀(hp:Hp) tm (y:X),ai hp 1=D5 (.cells ycG ycG ycH 1 (Cq.map aa))->cC tm (a.length+1) (D5 y)=D5 n->eP hp (.sl 1) (.av 1 0 (a.length+1)) tm D6 (D5 y)=D5 (.av 1 0 n):=fun hp tm y h1 h2=>Zb h1 h2 (by lia) (by lia)
  obtain⟨e',Kt⟩:∃e',∀hp:Hp,lH 0 n (D5 (ycH,1,Cq.map aa,hp))=D5 (.aq e' n ((Cq.take n).map aa),hp):=by
   refine⟨ycH&&yF 0 1&&yo n (Cq.map aa).length,fun hp=>?_⟩;simp only[lH,yd,yk,slice,yh,<-List.map_take];rw[yt (by simp;lia)]
   rfl
  have ltk:(Cq.take n).length=n:=by rw[yT];lia
  have gQ:=ik e' (Cq.take n);rw[ltk] at gQ;have⟨r0,f1,jS,awg⟩:=BJ cy gQ (by lia);have⟨r1,lr,f2,eJ,aAP,auf,dr,nr,vr⟩:=ad1 qX cy jS (A1 (CH gu1 n)) (by have:=Ll (Cq.take n);lia) D1 hfB
  have Ks:=ik ycG qs;rw[Kv] at Ks;have⟨q1,f3,fc,awh⟩:=BJ cy Ks (by lia);rw[zA] at vr;unfold af at f1 f2 f3;refine⟨Cq,qs,⟨lu1,Kv,gu1,gq1,aJ,aB⟩,q1,r1,lr,fc,eJ,dr,nr,vr,?_⟩;have oH:jn 1 0 (AV.av 0 0 1)=D5 (.ptr 0 0):=cS 0 0 (show 0<1 by lia)
  simp only[go_sem,ya,yc,aA,t8,t10,t11,t12,nj,gX,Kt,f1,awg,jS.ak,oH,f2,auf,fun hp=>oS (hp:=hp) (k:=m) (sz:=1) (cs:=qs.map aa) ycG (by simp[Kv]) (by decide),f3,awh];rcases fc with ⟨rfl,_⟩ | ⟨_,rfl⟩<;>rcases eJ with ⟨rfl,_⟩ | ⟨_,rfl⟩<;>rfl
 have⟨us,qs,⟨lu,lq,gu,gq,aJ,aB⟩,q1,r1,lr,fc,eJ,dr,nr,vr,e⟩:=jc;rw[zi] at aJ aB;have Js:dv qs=dv a/dv b:=by
  rw[<-Nat.mul_div_mul_right _ _ D1,<-aJ,ybr,xb,uL (wN rC D1),xH aB,yS]
 have O4:dv us=(dv a%dv b)*f:=by
  rw[<-Nat.mul_mod_mul_right,<-aJ,ybr,xb (dv qs),uM,yK aB]
 have pz:=QJ us n (by lia);have gU:dv (us.drop n)=0:=by
  rcases xg (dv (us.drop n)) with h0 | h0
  .exact h0
  .have:=yR (1000000000^n) h0
   lia
 rw[gU,xv,yS] at pz;rw[<-pz,O4,uB _ D1] at vr;exact⟨q1,r1,_,lr,e,fc,eJ,A1 gq,Eo _,dr,nr,by rw[zA,Js],vr⟩
def acm(h:Has P L 289 sr)(lJ:Has P L 293 BE)(pQ:Has P L 296 ss)(qX:Has P L 299 BG)(cy:Has P L 300 lE)(sJ:Has P L 301 Ai)(hv:bn v a)(hw:bn w b)(ha:dg a)(hb:dg b)(na:nz a)(nb:nz b)(la:a.length<=8000000000)(lb:b.length<=8000000000)(h0:0<dv b):
  ∃q r lq lr,af P L 289 [v,w] (.ay [q,r])/\bn q lq/\bn r lr/\dg lq/\nz lq/\dg lr/\nz lr/\dv lq=dv a/dv b/\dv lr=dv a%dv b:=by
 by_cases hl:b.length<=1
 .exact av0 h pQ qX cy hv hw ha hb na nb (by lia) hl h0
 have ec:=TU pQ hv hw ha hb na nb (by lia) (by lia);by_cases hc:dv a<dv b
 .unfold af at ec;have dW:dw (dv a) (dv b)= -1:=by unfold dw;rw[yN hc]
  rw[dW] at ec;refine⟨.ah,v,[],a,?_,rP,hv,rfl,rfl,ha,na,?_,?_⟩
  .unfold af;rw[aH h];simp only[go_sem,ya,sr,hv.ak,hw.ak,ec,show (-1:Int)<0 by decide];rcases hv with ⟨rfl,_⟩ | ⟨e,rfl⟩<;>rfl
  .rw [xH hc];rfl
  .rw [yK hc]
 .exact arX h lJ qX cy sJ hv hw ha hb na nb la (by lia) ec (by lia)
def aug(h:Has P L 275 Nv)(N8:Has P L 289 sr)(lJ:Has P L 293 BE)(pQ:Has P L 296 ss)(qX:Has P L 299 BG)(cy:Has P L 300 lE)(sJ:Has P L 301 Ai)(hv:bn v a)(hw:bn w b)(ha:dg a)(hb:dg b)(na:nz a)(nb:nz b)(la:a.length<=8000000000)(lb:b.length<=8000000000):
  ∃r l,af P L 275 [v,w] r/\bn r l/\dg l/\nz l/\dv l=uQ (dv a) (dv b):=by
 have key:=jm P L [0,1] HY
  (fun k st=>∃x y lx ly,st=⟨[(0,x),(1,y)],[],0,0⟩/\bn x lx/\bn y ly/\dg lx/\nz lx/\dg ly/\nz ly/\lx.length<=8000000000/\ly.length<=8000000000/\dv ly=k/\uQ (dv lx) (dv ly)=uQ (dv a) (dv b))
  (fun ex st=>∃tm ct,st=⟨tm,[],ct,0⟩/\ex=.exit 0/\∃x lx,aj tm 0=x/\bn x lx/\dg lx/\nz lx/\dv lx=uQ (dv a) (dv b)) ?_
 .unfold af;rw[aH h];simp only[go_sem,Nv];generalize hq:D P L (.loop _ HY) _=q;obtain⟨ex,st,rfl,tm,ct,rfl,rfl,x,lx,h2,hx,dx,nx,vx⟩:=bF hq (key (dv b)) ⟨v,w,a,b,by simp only[go_sem,ya,aA,aF hv.pu,aF hw.pu]<;>rfl,hv,hw,ha,na,hb,nb,la,lb,rfl,rfl⟩
  refine⟨x,lx,?_,hx,dx,nx,vx⟩;simp only[go_sem,aA,h2,hx.eA,aF hx.pu]
 .rintro k st ⟨x,y,lx,ly,rfl,hx,hy,dx,nx,dy,ny,llx,lly,rfl,hg⟩;by_cases h0:ly=[]
  .right
   subst h0;simp only[go_sem,ya,HY,hy.len,yM,show ¬(0:Int)<((0:Nat):Int) by lia];refine⟨_,_,rfl,by simp,_,_,rfl,rfl,x,lx,rfl,hx,dx,nx,?_⟩;rw[<-hg];simp[dv]
  .left
   have hp:0<dv ly:=by
    rcases xg (dv ly) with e | e
    .exact absurd (Z0 ny dy e) h0
    .exact e
   have hl:0<ly.length:=tL.2 h0;have⟨q,r,lq,lr,e1,hq,hr,dq,nq,dr,nr,vq,vr⟩:=acm N8 lJ pQ qX cy sJ hx hy dx dy nx ny llx lly hp;have aB:dv lr<dv ly:=by rw[vr];exact xp _ hp
   have hB:=jJ dy;simp only[go_sem,ya,HY,hx.ak,hy.len,hy.ak,show (0:Int)<ly.length by lia,e1,hq.bX,hr.bX];refine⟨_,dv lr,rfl,aB,y,r,ly,lr,?_,hy,hr,dy,ny,dr,nr,by lia,y9 (j8 dr nr (wW aB hB)) lly,rfl,?_⟩
   .simp only [go_sem,ya,aA,aF hy.pu,aF hr.pu]<;>rfl
   .rw [<-hg,vr,tE (dv ly),<-Nat.gcd_rec,tE]
end
end
end VE
end
section
namespace VE
open Go (IntKind)
section
variable {P:aE}{L:Lib}
def arY(Aj:Has P L 290 E5){neg:Bool}{N:Nat}(hN:(aC N).length<=180000000000):
  cP P L [0,2,3,4] zL (fun k s=>∃(i m:Nat) (out:List Int),m=k/\out.length=i/\dg out/\dv out+1000000000^i*m=N/\(aC m).length+9*i<=180000000000/\
    ((i=0/\s=⟨[(0,.str (aC m)),(2,.ptr 0 0),(3,.bool neg),(4,.ah)],[(0,.cells ycG ycG ycG 2 [.bool ycH,.ah])],1,0⟩)\/
    (0<i/\s=⟨[(0,.str (aC m)),(2,.ptr 0 0),(3,.bool neg),(4,.av 1 0 i)],[(1,.cells ycG ycG ycH 1 (out.map aa)),(0,.cells ycG ycG ycG 2 [.bool ycH,.ah])],2,0⟩))) (fun ex s'=>∃tm i m out,ex=.exit 0/\m<1000000000/\out.length=i/\dg out/\dv out+1000000000^i*m=N/\i<20000000000/\aj tm 0=.str (aC m)/\aj tm 2=.ptr 0 0/\aj tm 3=.bool neg/\
    ((i=0/\aj tm 4=.ah/\s'=⟨tm,[(0,.cells ycG ycG ycG 2 [.bool ycH,.ah])],1,0⟩)\/(0<i/\aj tm 4=.av 1 0 i/\s'=⟨tm,[(1,.cells ycG ycG ycH 1 (out.map aa)),(0,.cells ycG ycG ycG 2 [.bool ycH,.ah])],2,0⟩))):=by
 apply cT;rintro k s ⟨i,m,out,rfl,hlen,hd,aJ,hl,hs⟩;by_cases hm:1000000000<=m
 .left
  obtain⟨q,hq⟩:∃q,q=m/1000000000:=⟨_,rfl⟩;obtain⟨r,hr⟩:∃r,r=m%1000000000:=⟨_,rfl⟩;have nj:=alE hm;rw[<-hq,<-hr] at nj;have mC:=QH 9 r;have hqp:=A6 q;have hlm:(aC m).length=(aC q).length+9:=by rw[nj,yC,mC]
  have c1:jL (aC m) (D5 (aC q).length) (D5 (aC m).length)=D5 (.str (iE 9 r)):=by
   rw[mO (by lia) (yq _),xQ,nj,tq]
  have c2:jL (aC m) (D5 0) (D5 (aC q).length)=D5 (.str (aC q)):=by
   rw[mO (by lia) (by lia),yh,nj,yae]
  have e1:=Jm Aj (s:=iE 9 r) (v:=r) (by lia) (by rw[Y8 9 r 0 (by lia)];simp)
  unfold af at e1;have qW:dg (out++[(r:Int)]):=gB.2 ⟨hd,lh.2 (by lia)⟩;have M0:dv (out++[(r:Int)])+1000000000^(i+1)*q=N:=by
   rw[lV,hlen,<-aJ,y8];have e:=vP m 1000000000;rw[<-hr,<-hq] at e;rw[<-e];simp only[dv,wz,xv,yS,xz,y5]
   lia
  have M8:((aC m).length:Int)-9=((aC q).length:Int):=by lia
  rcases hs with ⟨h0,rfl⟩ | ⟨h0,rfl⟩
  .subst h0;have jd:out=[]:=yG hlen;subst jd
   simp only[go_sem,ya,yc,xA,yB,yp,yk,zL,show (9:Int)<((aC m).length:Int) by lia,M8,wrapN (n:=(aC q).length) (by lia),kK,ma,gX,c1,c2,e1,jl];refine⟨_,q,rfl,by lia,1,q,[]++[(r:Int)],rfl,rfl,qW,M0,by lia,.inr ⟨by lia,?_⟩⟩;rfl
  .simp only [go_sem,ya,yc,yp,yk,zL,show (9:Int)<((aC m).length:Int) by lia,M8,wrapN (n:=(aC q).length) (by lia),kK,ma,gX,c1,e1]
   rw[il (ex:=ycH) (pu:=ycG) (cs:=out.map aa) rfl (by rw[yX,hlen,yk]) (by lia) (by lia) (by decide) rfl]
   simp only[go_sem,ya,yc,kK,ma,gX,M8,wrapN (n:=(aC q).length) (by lia),c2];refine⟨_,q,rfl,by lia,i+1,q,out++[(r:Int)],rfl,by simp[hlen],qW,M0,by lia,.inr ⟨by lia,?_⟩⟩;rw[xk];simp only[go_sem,ya,yc,aA]<;>rfl
 .right
  have h9:(aC m).length<=9:=zC (k:=8) (by lia);have hp0:=A6 m;rcases hs with ⟨h0,rfl⟩ | ⟨h0,rfl⟩
  .simp only [go_sem,zL,show ¬(9:Int)<((aC m).length:Int) by lia];exact⟨_,_,rfl,by simp,_,i,m,out,rfl,by lia,hlen,hd,aJ,by lia,rfl,rfl,rfl,.inl ⟨h0,rfl,rfl⟩⟩
  .simp only [go_sem,zL,show ¬(9:Int)<((aC m).length:Int) by lia];exact⟨_,_,rfl,by simp,_,i,m,out,rfl,by lia,hlen,hd,aJ,by lia,rfl,rfl,rfl,.inr ⟨h0,rfl,rfl⟩⟩
end
end VE
end
section
namespace VE
open Go (IntKind)
section
variable {P:aE}{L:Lib}
def aee(h:Rb P L){n:Int}(hn:(aC n.natAbs).length<=180000000000):∃r,af P L 288 [.str (bc n)] r/\jW r n:=by
 obtain⟨u,hu⟩:∃u,u=aC n.natAbs:=⟨_,rfl⟩;have⟨b,t,hb,gh,jg⟩:=Hk n.natAbs;have hs:bc n=(if n<0 then [45] else [])++u:=by rw[hu,nJ]
 have B9:0<u.length:=by rw[hu];exact A6 _
 have rz:u[0]=b:=by
  have:u=b::t:=by rw[hu,hb]
  simp[this]
 have key:∀(s:St),bg [0,2,3,4] s=⟨[(0,.str u),(2,.ptr 0 0),(3,.bool (decide (n<0))),(4,.ah)],[(0,.cells ycG ycG ycG 2 [.bool ycH,.ah])],1,0⟩->
   ∃ex s',D P L (.loop [0,2,3,4] zL) s=D5 (ex,s')/\∃tm i m out,ex=.exit 0/\m<1000000000/\out.length=i/\dg out/\dv out+1000000000^i*m=n.natAbs/\i<20000000000/\aj tm 0=.str (aC m)/\aj tm 2=.ptr 0 0/\aj tm 3=.bool (decide (n<0))/\
    ((i=0/\aj tm 4=.ah/\s'=⟨tm,[(0,.cells ycG ycG ycG 2 [.bool ycH,.ah])],1,0⟩)\/(0<i/\aj tm 4=.av 1 0 i/\s'=⟨tm,[(1,.cells ycG ycG ycH 1 (out.map aa)),(0,.cells ycG ycG ycG 2 [.bool ycH,.ah])],2,0⟩)):=fun s hc=>
  arY (P:=P) (L:=L) h.Aj (neg:=decide (n<0)) hn n.natAbs s ⟨0,n.natAbs,[],rfl,rfl,rfl,by simp[dv],by lia,.inl ⟨rfl,by rw[hc,hu]⟩⟩
 have fin:∀(i m:Nat) (out:List Int),m<1000000000->out.length=i->dg out->dv out+1000000000^i*m=n.natAbs->i<20000000000->∃w l,bQ P L (D P L) 294 [.bool (decide (n<0)),.aq ycH (i+1) ((out++[(m:Int)]).map aa)]=D5 (.agg [.bool (decide (n<0)),w])/\bn w l/\dg l/\nz l/\dv l=n.natAbs:=fun i m out h1 h2 h3 h4 h5=>by
  have hv:=ik ycH (out++[(m:Int)]);have hd:dg (out++[(m:Int)]):=gB.2 ⟨h3,lh.2 (by lia)⟩;have aJ:dv (out++[(m:Int)])=n.natAbs:=by rw[lV,h2];simp[dv];exact h4
  have⟨r,e,hr⟩:=qU h.iF h.cy (decide (n<0)) hv hd (by simp;lia)
  have Cg:bY (decide (n<0)) (dv (out++[(m:Int)]))=n:=by
   rw[aJ];unfold bY;by_cases h0:n<0
   .simp only [h0,xa,xN];lia
   .simp only [h0,xf,yA,xq];lia
  rw[Cg] at hr;obtain⟨w,l,rfl,hw,iM,jO,cE⟩:=hr;simp only[yC,List.length_singleton,h2] at e;exact⟨w,l,e,hw,iM,jO,cE⟩
 unfold af;rw[hs];by_cases h0:n<0
 .rw [yN h0,aH h.ad8];have kT:jL (45::u) (D5 1) (D5 (u.length+1))=D5 (.str u):=by rw[mO (s:=45::u) (l:=1) (h:=u.length+1) (by lia) (by simp)];simp
  simp only[h0,xa] at key fin ⊢;simp only[go_sem,ya,yc,Ny,aU,show (0:Int)<((u.length+1:Nat):Int) by lia,ym,yD,Fb,xa,kK,ma,gX,kT];generalize hq:D P L (.loop _ zL) _=q;obtain⟨ex,s,rfl,tm,i,m,out,rfl,hm,hlen,hd,aJ,hi,t0,t2,t3,De⟩:=bF hq key (by simp only[go_sem,ya,yc,aA]<;>rfl)
  have e1:=Jm h.Aj (s:=aC m) (v:=m) (by have:=zC (k:=8) (n:=m) (by lia);lia) (Ee m)
  have cX:i<20000000000:=hi;have⟨w,l,e2,hw,iM,jO,cE⟩:=fin i m out hm hlen hd aJ cX;refine⟨_,?_,w,l,rfl,hw,iM,jO,cE⟩;unfold af at e1;rcases De with ⟨rG,t4,rfl⟩ | ⟨rG,t4,rfl⟩
  .subst rG;have jd:out=[]:=yG hlen;subst jd;have gQ:∀hp:Hp,lH 0 1 (D5 (ycH,1,[AV.int .i64 (m:Int)],hp))=D5 (.aq ycH 1 [AV.int .i64 (m:Int)],hp):=fun hp=>rfl
   simp only[yD,yV,wF,yd] at e2;simp only[go_sem,ya,yc,xA,yB,yp,yk,aA,t0,t2,t3,t4,e1,jl,gQ,e2,bM,hw.pu,hw.one,gE];rcases hw with ⟨rfl,_⟩ | ⟨e,rfl⟩<;>simp only[h0,xa]<;>rfl
  .simp only [go_sem,ya,yc,yp,yk,aA,t0,t2,t3,t4,e1]
   rw[il (ex:=ycH) (pu:=ycG) (cs:=out.map aa) rfl (by rw[yX,hlen,yk]) (by lia) (by lia) (by decide) rfl];have gQ:∀hp:Hp,lH 0 (i+1) (D5 (ycH,1,out.map aa++[AV.int .i64 (m:Int)],hp))=D5 (.aq ycH (i+1) (out.map aa++[AV.int .i64 (m:Int)]),hp):=fun hp=>oS ycH (by simp[hlen]) (by decide)
   simp only[xk,yV,wF] at e2;simp only[go_sem,ya,yc,gQ,e2,bM,hw.pu,hw.one,gE,tP];rcases hw with ⟨rfl,_⟩ | ⟨e,rfl⟩<;>simp only[h0,xa]<;>rfl
 .rw [yx h0,aH h.ad8,yD];simp only[h0,xf] at key fin ⊢;simp only[go_sem,ya,yc,Ny,aU,show (0:Int)<(u.length:Int) by lia,Bb B9,rz,show ¬((b:Nat):Int)=45 by lia];generalize hq:D P L (.loop _ zL) _=q;obtain⟨ex,s,rfl,tm,i,m,out,rfl,hm,hlen,hd,aJ,hi,t0,t2,t3,De⟩:=bF hq key (by simp only[go_sem,ya,yc,aA]<;>rfl)
  have e1:=Jm h.Aj (s:=aC m) (v:=m) (by have:=zC (k:=8) (n:=m) (by lia);lia) (Ee m)
  have cX:i<20000000000:=hi;have⟨w,l,e2,hw,iM,jO,cE⟩:=fin i m out hm hlen hd aJ cX;refine⟨_,?_,w,l,rfl,hw,iM,jO,cE⟩;rcases De with ⟨rG,t4,rfl⟩ | ⟨rG,t4,rfl⟩
  .subst rG;have jd:out=[]:=yG hlen;subst jd;have gQ:∀hp:Hp,lH 0 1 (D5 (ycH,1,[AV.int .i64 (m:Int)],hp))=D5 (.aq ycH 1 [AV.int .i64 (m:Int)],hp):=fun hp=>rfl
   simp only[yD,yV,wF,yd] at e2;simp only[go_sem,ya,yc,xA,yB,yp,yk,aA,t0,t2,t3,t4,e1,jl,gQ,e2,bM,hw.pu,hw.one,gE];rcases hw with ⟨rfl,_⟩ | ⟨e,rfl⟩<;>simp only[h0,xf]<;>rfl
  .simp only [go_sem,ya,yc,yp,yk,aA,t0,t2,t3,t4,e1]
   rw[il (ex:=ycH) (pu:=ycG) (cs:=out.map aa) rfl (by rw[yX,hlen,yk]) (by lia) (by lia) (by decide) rfl];have gQ:∀hp:Hp,lH 0 (i+1) (D5 (ycH,1,out.map aa++[AV.int .i64 (m:Int)],hp))=D5 (.aq ycH (i+1) (out.map aa++[AV.int .i64 (m:Int)]),hp):=fun hp=>oS ycH (by simp[hlen]) (by decide)
   simp only[xk,yV,wF] at e2;simp only[go_sem,ya,yc,gQ,e2,bM,hw.pu,hw.one,gE,tP];rcases hw with ⟨rfl,_⟩ | ⟨e,rfl⟩<;>simp only[h0,xf]<;>rfl
end
end VE
end
section
namespace VE
open Go (IntKind)
def WU(n:Int)(r:List Nat):jF (bc n++r)=(bc n).length+jF r:=by
 rw[<-nJ]
 split
 .simp only [ym,yD,jF,yH];rw[yx (by decide),KQ r (Hj _)]
  lia
 .rw [yD];exact KQ r (Hj _)
def Zl:∀{a b:List Nat},fX a b=ycG->a=b
 | [],[],_=>rfl
 | [],_::_,h=>by simp[fX] at h
 | _::_,[],h=>by simp[fX] at h
 | x::a,y::b,h=>by
  simp only[fX,ye] at h;rw[yf h.1,Zl h.2]
def acn{n:Int}{d:Nat}(h:n≠0):fX (TT n d) [48]=ycH:=by
 cases hb:fX (TT n d) [48] with
 | false=>rfl
 | true=>
  have e:=Zl hb;unfold TT at e;by_cases h0:n<0
  .rw [rR h0] at e;simp at e
  .obtain ⟨m,rfl⟩:∃m:Nat,n=m:=⟨n.toNat,by lia⟩;rw[A5] at e;have⟨b,r,bm,_,_⟩:=Hk m;rw[bm] at e;simp only[ym,uN,List.append_eq_nil_iff] at e;have hv:=Ee m;rw[bm,e.1,e.2.1] at hv
   have:(D5 0:Option Nat)=D5 m:=hv
   grind
section
variable {P:aE}{L:Lib}
def arZ(h:Rb P L):∃r,af P L 281 [aa 1] r/\jW r 1:=by
 have⟨r,e,hr⟩:=qU h.iF h.cy ycH (ik ycH [(1:Int)]) (by decide) (by decide);obtain⟨w,l,rfl,hw,hd,hz,hv⟩:=hr;refine⟨_,?_,w,l,rfl,hw,hd,hz,hv⟩;simp only[yV,wF,yH,yM,yd] at e;have gQ:∀hp:Hp,lH 0 1 (D5 (ycH,1,[AV.int .i64 1],hp))=D5 (.aq ycH 1 [AV.int .i64 1],hp):=fun hp=>rfl
 unfold af at e ⊢;rw[aH h.ad7];simp only[go_sem,ya,yc,xA,yB,yp,yk,Nx,aU,Int.reduceLT,xf,Mo,aA,rX,Int.reduceEq,xX,xF,xa,dY _ _ _ (show (1000000000:Int)≠0 by decide),dE _ _ _ (show (1000000000:Int)≠0 by decide),show Int.tmod 1 1000000000=1 from rfl,show Int.tdiv 1 1000000000=0 from rfl,show IntKind.wrap .i64 0=0 from rfl,jl,gQ,e,hw.pu,hw.one,bM,gE];rcases hw with ⟨rfl,_⟩ | ⟨e,rfl⟩<;>rfl
def awi(h:Rb P L){n:Int}{d:Nat}(hn:(aC n.natAbs).length<=144000000000)(hd:(aC d).length<=144000000000):
  ∃x y,af P L 274 [.str (TT n d)] (.ay [x,y])/\jW x n/\jW y d:=by
 have⟨x,e1,hx⟩:=aee h (n:=n) (by lia);have hli:(bc n).length<=(aC n.natAbs).length+1:=by rw[<-nJ];split<;>simp
 by_cases h1:d=1
 .subst h1;have⟨y,e2,hy⟩:=arZ h;have hT:TT n 1=bc n:=by unfold TT;simp
  have hs:=WU n [];rw[wj] at hs;have e3:=Tl h.Jn (s:=bc n) (by lia);rw[hs] at e3;refine⟨x,y,?_,hx,hy⟩;obtain⟨xw,xl,rfl,gl,_,_,_⟩:=hx;obtain⟨yw,yl,rfl,gm,_,_,_⟩:=hy;rw[hT];unfold af at e1 e2 e3 ⊢;rw[aH h.ad6];simp only[go_sem,ya,yc,Nt,aU,e3,jF,yS,xa,e1,e2,bM,gl.pu,gl.one,gm.pu,gm.one,gE];rcases gl with ⟨rfl,_⟩ | ⟨e,rfl⟩<;>rcases gm with ⟨rfl,_⟩ | ⟨e',rfl⟩<;>rfl
 .have ⟨y,e2,hy⟩:=aee h (n:=(d:Int)) (by simp;lia)
  rw[A5] at e2;obtain⟨s,Ku⟩:∃s,s=TT n d:=⟨_,rfl⟩;have hT:s=bc n++47::aC d:=by rw[Ku];unfold TT;rw[yx h1]
  have hs:jF s=(bc n).length:=by rw[hT,WU];rfl
  have hlen:s.length=(bc n).length+(aC d).length+1:=by rw[hT];simp;lia
  have e3:=Tl h.Jn (s:=s) (by lia);rw[hs] at e3;have c1:jL s (D5 0) (D5 (bc n).length)=D5 (.str (bc n)):=by
   rw[mO (by lia) (by lia),yh,hT,yae]
  have c2:jL s (D5 ((bc n).length+1)) (D5 s.length)=D5 (.str (aC d)):=by
   rw[mO (by lia) (yq _),xQ,hT,show bc n++47::aC d=(bc n++[47])++aC d by simp,show (bc n).length+1=(bc n++[47]).length by simp,tq]
  refine⟨x,y,?_,hx,hy⟩;obtain⟨xw,xl,rfl,gl,_,_,_⟩:=hx;obtain⟨yw,yl,rfl,gm,_,_,_⟩:=hy;rw[<-Ku];unfold af at e1 e2 e3 ⊢;rw[aH h.ad6]
  simp only[go_sem,ya,yc,Nt,aU,e3,show ¬((bc n).length:Int)=(s.length:Int) by lia,kK,ma,gX,c1,wrapN (n:=(bc n).length+1) (by lia),show ((bc n).length:Int)+1=(((bc n).length+1:Nat):Int) from rfl,c2,e1,e2,bM,gl.pu,gl.one,gm.pu,gm.one,gE];rcases gl with ⟨rfl,_⟩ | ⟨e,rfl⟩<;>rcases gm with ⟨rfl,_⟩ | ⟨e',rfl⟩<;>rfl
end
end VE
end
section
namespace VE
open Go (IntKind)
section
variable {d n:Int}{a b:List Int}
def Mv{d:Nat}(h:n<0):TT n d=45::TT (-n) d:=by
 have e:bc (-n)=aC n.natAbs:=by
  rw[<-nJ,yx (show ¬-n<0 by lia),yD,show (-n).natAbs=n.natAbs by lia]
 unfold TT;rw[rR h,e];rfl
def aoo{d:Nat}(h:¬n<0):∃b u,TT n d=b::u/\48<=b:=by
 have⟨b,r,hb,h1,_⟩:=Hk n.natAbs;refine⟨b,r++(if d=1 then [] else 47::aC d),?_,h1⟩;unfold TT;rw[<-nJ,yx h,yD,hb];rfl
def ER(a b:AV)(r:List AV):gN 2 ycG (a::b::r)=D5 (.agg [a,b]):=rfl
def aop(k:Nat):2^k<=1000000000^k:=tX (by decide) k
def Bd.r{k:Nat}{z:Int}(h:Bd k z):z.natAbs<1000000000^k:=yE h (aop k)
def IK(r:Rat):RT r=TT r.num r.den:=rfl
def aag(hd:0<d):RT (wy n d)=pM n d:=by
 have⟨h1,h2⟩:=Ps (a:=n) hd;rw[anY hd,IK,h1]
 congr 1
 exact tT (show ((wy n d).den:Int)=((de n d).toNat:Int) by rw[h2];have:=Ht (a:=n) hd;unfold de at this ⊢;lia)
structure Rm(P:aE)(L:Lib):Prop extends Rb P L where
 aAQ:Has P L 263 ac2
 aAR:Has P L 273 ac3
 aAS:Has P L 284 ac4
 aAT:Has P L 285 ac5
 aAU:Has P L 286 ac6
 aAV:Has P L 287 ac7
 sJ:Has P L 301 Ai
structure Rp(P:aE)(L:Lib):Prop extends Ras P L,Rm P L
structure Rn(P:aE)(L:Lib):Prop extends Ra P L,Rp P L
section
variable {P:aE}{L:Lib}
def aco(h:Rm P L){v w:AV}(hv:bn v a)(hw:bn w b)(ha:dg a)(hb:dg b)(na:nz a)(nb:nz b)(la:a.length<=8000000000)(lb:b.length<=8000000000)(h0:0<dv b):
  ∃q r lq lr,af P L 289 [v,w] (.ay [q,r])/\bn q lq/\bn r lr/\dg lq/\nz lq/\dg lr/\nz lr/\dv lq=dv a/dv b/\dv lr=dv a%dv b:=
 acm h.N8 h.lJ h.pQ h.qX h.cy h.sJ hv hw ha hb na nb la lb h0
def ar0(h:Rm P L){x y:AV}{K:Nat}(hK:K<=8000000000)(hx:bn x a)(ha:dg a)(na:nz a)(va:dv a=n.natAbs)(hy:bn y b)(hb:dg b)(nb:nz b)(vb:dv b=d.natAbs)(kn:Bd K n)(kd:Bd K d)(hd:0<d){tm:Env}(t2:aj tm 2=.ptr 0 0)(t3:aj tm 3=.ptr 1 0):
  lF [.t 4] (D P L (a8 (a8 n7.body)) ⟨tm,[(1,.cells ycG ycG ycG 2 [.bool (decide (d<0)),y]),(0,.cells ycG ycG ycG 2 [.bool (decide (n<0)),x])],2,0⟩)=D5 (.str (RT (wy n d))):=by
 rw[aag hd];have la:=y9 (j8 ha na (by rw[va];exact kn.r)) hK
 have lb:=y9 (j8 hb nb (by rw[vb];exact kd.r)) hK
 have⟨g,lg,e1,hg,VP,ng,vg⟩:=aug h.av8 h.N8 h.lJ h.pQ h.qX h.cy h.sJ hx hy ha hb na nb la lb;rw[va,vb,show uQ n.natAbs d.natAbs=vj n d from rfl] at vg;have OC:=LX (a:=n) hd;have awj:vj n d<=d.natAbs:=Int.gcd_le_natAbs_right n (by lia);have lg1:lg.length<=8000000000:=y9 (j8 VP ng (by rw[vg];exact xY awj kd.r)) hK
 have⟨p,p',lp,lp',e2,hp,an,dp,np,dp',np',vp,vp'⟩:=aco h hx hg ha VP na ng la lg1 (by lia);have⟨q,q',lq,lq',e3,hq,bE,dq,nq,dq',nq',vq,vq'⟩:=aco h hy hg hb VP nb ng lb lg1 (by lia);rw[va,vg] at vp;rw[vb,vg] at vq;have hrn:(cV n d).natAbs=n.natAbs/vj n d:=by unfold cV;rw[uJ (Int.gcd_dvd_left n d)];rfl
 have fb:(de n d).natAbs=d.natAbs/vj n d:=by unfold de;rw[uJ (Int.gcd_dvd_right n d)];rfl
 have hdp:=Ht (a:=n) hd;rw[<-hrn] at vp;rw[<-fb] at vq;have aAW:=arh n d;have Cg:bY (decide (n<0)) (dv lp)=cV n d:=by
  rw[vp];unfold bY;by_cases h0:n<0
  .have:¬0<=cV n d:=fun h1=>by have:=tr (tc OC) h1;lia
   simp only[h0,xa,xN];lia
  .have:¬cV n d<0:=fun h1=>by have:=Int.mul_neg_of_pos_of_neg OC h1;lia
   simp only[h0,xf,yA,xq];lia
 have kn':Bd K (cV n d):=kn.le (Y6 n d);have Uo:Bd K (de n d):=kd.le (Y7 n d);have lp1:lp.length<=8000000000:=y9 (j8 dp np (by rw[vp];exact kn'.r)) hK
 have Kv:lq.length<=8000000000:=y9 (j8 dq nq (by rw[vq];exact Uo.r)) hK
 have⟨s,e4,hs⟩:=qU h.iF h.cy (decide (n<0)) hp dp (by lia);rw[Cg] at hs;have⟨e5,l5⟩:=TY (K:=K) h.TZ h.pN (by lia) hs kn'.r;have⟨u,e6,hu⟩:=qU h.iF h.cy ycH hq dq (by lia);have AB:bY ycH (dv lq)=de n d:=by rw[vq];unfold bY;simp only[yA,xq];lia
 rw[AB] at hu;have⟨e7,l7⟩:=TY (K:=K) h.TZ h.pN (by lia) hu Uo.r;obtain⟨sw,sl,rfl,kW,_,_,_⟩:=hs;obtain⟨uw,ul,rfl,huw,_,_,_⟩:=hu;have aAm:0<lq.length:=by
  rcases xg lq.length with e | e
  .rw [yG e] at vq;simp[dv] at vq;lia
  .exact e
 by_cases Pa:lq.length=1
 .obtain ⟨z,rfl⟩:∃z,lq=[z]:=by
   cases lq with
   | nil=>simp at Pa
   | cons z r=>cases r with
    | nil=>exact⟨z,rfl⟩
    | cons y r=>simp at Pa
  have hzd:z=de n d:=by simp[dv] at vq;lia
  have e8:=hq.bD (i:=0) (by simp);simp only[wO] at e8;by_cases h1:de n d=1
  .have hT:pM n d=bc (cV n d):=by unfold pM;rw[yN h1]
   rw[hT];simp only[go_sem,ya,n7,a8,t2,t3,hx.ak,hy.ak,a6,yd,dc,show ¬d<0 by lia,xf,e1,hg.ak,hg.shut,e2,hp.ak,hp.bX,an.bX,e3,hq.len,hq.bX,bE.bX,e4,kW.ak,cr,bM,e5,yH,yM,show ((1:Nat):Int)=(1:Int) from rfl,xa,e8,hzd,h1]
  .have hT:pM n d=(bc (cV n d)++[47])++bc (de n d):=by unfold pM;rw[yx h1]
   rw[hT]
   simp only[go_sem,ya,n7,a8,t2,t3,hx.ak,hy.ak,a6,yd,dc,show ¬d<0 by lia,xf,e1,hg.ak,hg.shut,e2,hp.ak,hp.bX,an.bX,e3,hq.len,hq.ak,hq.bX,bE.bX,e4,kW.ak,cr,bM,e5,yH,yM,show ((1:Nat):Int)=(1:Int) from rfl,xa,e8,hzd,h1,fQ (a:=bc (cV n d)) (b:=[47]) (by simp;lia),e6,huw.ak,e7,fQ (a:=bc (cV n d)++[47]) (b:=bc (de n d)) (by simp;lia)]
 .have h1:¬de n d=1:=fun h1=>Pa (by
   have h2:lq.length<=1:=aoc dq nq (by rw[vq,h1];decide)
   lia)
  have hT:pM n d=(bc (cV n d)++[47])++bc (de n d):=by unfold pM;rw[yx h1]
  rw[hT]
  simp only[go_sem,ya,n7,a8,t2,t3,hx.ak,hy.ak,a6,yd,dc,show ¬d<0 by lia,xf,e1,hg.ak,hg.shut,e2,hp.ak,hp.bX,an.bX,e3,hq.len,hq.ak,hq.bX,bE.bX,e4,kW.ak,cr,bM,e5,show ¬(lq.length:Int)=1 by lia,fQ (a:=bc (cV n d)) (b:=[47]) (by simp;lia),e6,huw.ak,e7,fQ (a:=bc (cV n d)++[47]) (b:=bc (de n d)) (by simp;lia)]
def ahx(n d:Int):wy (-n) (-d)=wy n d:=by rw[Rat.divInt_neg',tY]
def Sv(h:Rm P L){v w:AV}{K:Nat}(hK:K<=8000000000)(hv:jW v n)(hw:jW w d)(kn:Bd K n)(kd:Bd K d)(hd:d≠0):af P L 280 [v,w] (.str (RT (wy n d))):=by
 have fin:∀{x y:AV} {a b:List Int} {n' d':Int},bn x a->dg a->nz a->dv a=n'.natAbs->bn y b->dg b->nz b->dv b=d'.natAbs->Bd K n'->Bd K d'->0<d'->wy n' d'=wy n d->∀tm,aj tm 2=.ptr 0 0->aj tm 3=.ptr 1 0->
   D P L (.seq (cD n7.body) (cD (a8 n7.body))) ⟨[(0,v),(1,w)],[],0,0⟩=D5 (.normal,⟨tm,[(1,.cells ycG ycG ycG 2 [.bool (decide (d'<0)),y]),(0,.cells ycG ycG ycG 2 [.bool (decide (n'<0)),x])],2,0⟩)->af P L 280 [v,w] (.str (RT (wy n d))):=fun {x y a b n' d'} hx ha na va hy hb nb vb kn kd hd hq tm t2 t3 e=>by
  unfold af;rw[aH h.awa];show lF [.t 4] (D P L (.seq (cD n7.body) (.seq (cD (a8 n7.body)) (a8 (a8 n7.body)))) ⟨[(0,v),(1,w)],[],0,0⟩)=_
  rw[LD,e,ph,<-hq];exact ar0 h hK hx ha na va hy hb nb vb kn kd hd t2 t3
 have eX:=hv;have Vw:=hw;obtain⟨x,a,rfl,hx,ha,na,va⟩:=hv;obtain⟨y,b,rfl,hy,hb,nb,vb⟩:=hw;by_cases h0:d<0
 .have ⟨r,e1,hr⟩:=adI (K:=K) h.ad9 h.iF h.cy (by lia) eX kn.r;have⟨s,e2,hs⟩:=adI (K:=K) h.ad9 h.iF h.cy (by lia) Vw kd.r;obtain⟨x',a',rfl,Kx,DJ,na',va'⟩:=hr;obtain⟨y',b',rfl,VQ,bm,nb',vb'⟩:=hs;simp only[h0,xa] at e2
  refine fin Kx DJ na' va' VQ bm nb' vb' kn.neg kd.neg (by lia) (ahx n d) _ ?_ ?_ (by
   simp only[go_sem,ya,yc,n7,cD,a8,aU,hx.pu,hx.ak,hx.one,hy.pu,hy.ak,hy.one,Kx.pu,Kx.one,VQ.pu,VQ.one,a6,yd,h0,xa,ER,cr,e1,e2,bM,gE]<;>rfl)<;>simp only[go_sem,ya]
 .refine fin hx ha na va hy hb nb vb kn kd (by lia) rfl _ ?_ ?_ (by simp only[go_sem,ya,yc,n7,cD,a8,aU,hx.pu,hx.one,hy.pu,hy.one,a6,yd,h0,xf]<;>rfl)<;>simp only[go_sem,ya]
end
end
end VE
end
section
namespace VE
open Go (IntKind)
section
variable {n:Int}{K:Nat}{a:Rat}
def auh(z:Int)(m:Nat)(h:z.natAbs=m):(z.tdiv 1000000000).natAbs=m/1000000000/\(if z.tmod 1000000000<0 then 0-z.tmod 1000000000 else z.tmod 1000000000)=((m%1000000000:Nat):Int)/\(z<0->z.tdiv 1000000000<=0)/\(0<=z->0<=z.tdiv 1000000000):=by
 rcases Int.lt_or_le z 0 with h0 | h0
 .obtain ⟨n,rfl⟩:∃n:Nat,z= -(n:Int):=⟨z.natAbs,by lia⟩;rw[Int.neg_tdiv,Int.neg_tmod,xJ (by lia),xI (by lia)]
  grind
 .grind
section
variable {P:aE}{L:Lib}
def ar1{neg:Bool}{N:Nat}(hN:N<=9223372036854775808):
  cP P L [0,2,3,4] rX (fun k s=>∃(i:Nat) (z:Int) (out:List Int),z.natAbs=k/\out.length=i/\dg out/\dv out+1000000000^i*z.natAbs=N/\(neg=ycG->z<=0)/\(neg=ycH->0<=z)/\i<=3/\
    ((i=0/\s=⟨[(0,aa z),(2,.ptr 0 0),(3,.ah),(4,.bool neg)],[(0,.cells ycG ycG ycG 2 [.bool ycH,.ah])],1,0⟩)\/
    (0<i/\s=⟨[(0,aa z),(2,.ptr 0 0),(3,.av 1 0 i),(4,.bool neg)],[(1,.cells ycG ycG ycH 1 (out.map aa)),(0,.cells ycG ycG ycG 2 [.bool ycH,.ah])],2,0⟩))) (fun ex s'=>∃tm i out,ex=.exit 0/\out.length=i/\i<=3/\dg out/\dv out=N/\aj tm 2=.ptr 0 0/\aj tm 4=.bool neg/\
    ((i=0/\aj tm 3=.ah/\s'=⟨tm,[(0,.cells ycG ycG ycG 2 [.bool ycH,.ah])],1,0⟩)\/(0<i/\aj tm 3=.av 1 0 i/\s'=⟨tm,[(1,.cells ycG ycG ycH 1 (out.map aa)),(0,.cells ycG ycG ycG 2 [.bool ycH,.ah])],2,0⟩))):=by
 apply cT;rintro k s ⟨i,z,out,rfl,hlen,hd,aJ,kC,Ax,hi3,hs⟩;by_cases hz:z=0
 .right
  subst hz;have hv:dv out=N:=by simpa using aJ
  rcases hs with ⟨h0,rfl⟩ | ⟨h0,rfl⟩
  .simp only [go_sem,rX,xa,xF];exact⟨_,_,rfl,by simp,_,i,out,rfl,hlen,hi3,hd,hv,rfl,rfl,.inl ⟨h0,rfl,rfl⟩⟩
  .simp only [go_sem,rX,xa,xF];exact⟨_,_,rfl,by simp,_,i,out,rfl,hlen,hi3,hd,hv,rfl,rfl,.inr ⟨h0,rfl,rfl⟩⟩
 .left
  obtain⟨m,hm⟩:∃m,z.natAbs=m:=⟨_,rfl⟩;have rF:0<m:=by lia
  rw[hm] at aJ;have hi2:i<3:=by
   rcases wQ i 3 with h | h
   .exact h
   .have e3:i=3:=by lia
    subst e3
    have:=yR (1000000000^3) rF
    lia
  have hmN:m<=9223372036854775808:=by
   have:=vL m (ybv (n:=i) (show 0<1000000000 by decide))
   lia
  have⟨d1,d2,d3,d4⟩:=auh z m hm;have ej:=vP m 1000000000;have qW:dg (out++[((m%1000000000:Nat):Int)]):=gB.2 ⟨hd,lh.2 (by lia)⟩;have M0:dv (out++[((m%1000000000:Nat):Int)])+1000000000^(i+1)*(m/1000000000)=N:=by
   rw[lV,hlen,<-aJ,y8,y5];have e:1000000000^i*m=1000000000^i*(m%1000000000)+1000000000^i*(1000000000*(m/1000000000)):=by rw[<-xz,ej]
   rw[e];simp only[dv,wz,xv,yS]
   lia
  have nA:IntKind.wrap .i64 (z.tdiv 1000000000)=z.tdiv 1000000000:=wrap64 (by lia) (by lia);have lQ: -9223372036854775808<=z.tmod 1000000000/\z.tmod 1000000000<1000000000:=by
   have h1:(z.tmod 1000000000).natAbs<1000000000:=by
    split at d2<;>lia
   lia
  have z8:(neg=ycG->z.tdiv 1000000000<=0)/\(neg=ycH->0<=z.tdiv 1000000000):=⟨fun h=>d3 (by have:=kC h;lia),fun h=>d4 (Ax h)⟩
  have aB:(z.tdiv 1000000000).natAbs<m:=by rw[d1];lia
  obtain⟨z',eI⟩:∃z',z.tdiv 1000000000=z':=⟨_,rfl⟩;rw[eI] at d1 d3 d4 nA z8 aB;have cE:dv (out++[((m%1000000000:Nat):Int)])+1000000000^(i+1)*z'.natAbs=N:=by rw[d1];exact M0
  generalize m%1000000000=r at*
  by_cases fV:z.tmod 1000000000<0
  .rw [yN fV] at d2;rcases hs with ⟨h0,rfl⟩ | ⟨h0,rfl⟩
   .subst h0;have jd:out=[]:=yG hlen;subst jd
    simp only[go_sem,ya,yc,xA,yB,yp,yk,rX,xf,hz,xX,dY _ _ _ (show (1000000000:Int)≠0 by decide),dE _ _ _ (show (1000000000:Int)≠0 by decide),fV,d2,wrapN (n:=r) (by lia),jl,eI,nA];refine⟨_,z'.natAbs,rfl,by lia,1,z',[]++[(r:Int)],rfl,rfl,qW,cE,z8.1,z8.2,by lia,.inr ⟨by lia,?_⟩⟩;simp only[go_sem,ya,yc,aA]<;>rfl
   .simp only [go_sem,ya,yc,yp,yk,rX,xf,hz,xX,dY _ _ _ (show (1000000000:Int)≠0 by decide),fV,d2,wrapN (n:=r) (by lia)]
    rw[il (ex:=ycH) (pu:=ycG) (cs:=out.map aa) rfl (by rw[yX,hlen,yk]) (by lia) (by lia) (by decide) rfl];simp only[go_sem,ya,yc,dE _ _ _ (show (1000000000:Int)≠0 by decide),eI,nA];refine⟨_,z'.natAbs,rfl,by lia,i+1,z',out++[(r:Int)],rfl,by simp[hlen],qW,cE,z8.1,z8.2,by lia,.inr ⟨by lia,?_⟩⟩;rw[xk];simp only[go_sem,ya,yc,aA]<;>rfl
  .rw [yx fV] at d2;rcases hs with ⟨h0,rfl⟩ | ⟨h0,rfl⟩
   .subst h0;have jd:out=[]:=yG hlen;subst jd;simp only[go_sem,ya,yc,xA,yB,yp,yk,rX,xf,hz,xX,dY _ _ _ (show (1000000000:Int)≠0 by decide),dE _ _ _ (show (1000000000:Int)≠0 by decide),d2,show ¬((r:Nat):Int)<0 by lia,jl,eI,nA];refine⟨_,z'.natAbs,rfl,by lia,1,z',[]++[(r:Int)],rfl,rfl,qW,cE,z8.1,z8.2,by lia,.inr ⟨by lia,?_⟩⟩;simp only[go_sem,ya,yc,aA]<;>rfl
   .simp only [go_sem,ya,yc,yp,yk,rX,xf,hz,xX,dY _ _ _ (show (1000000000:Int)≠0 by decide),d2,show ¬((r:Nat):Int)<0 by lia]
    rw[il (ex:=ycH) (pu:=ycG) (cs:=out.map aa) rfl (by rw[yX,hlen,yk]) (by lia) (by lia) (by decide) rfl];simp only[go_sem,ya,yc,dE _ _ _ (show (1000000000:Int)≠0 by decide),eI,nA];refine⟨_,z'.natAbs,rfl,by lia,i+1,z',out++[(r:Int)],rfl,by simp[hlen],qW,cE,z8.1,z8.2,by lia,.inr ⟨by lia,?_⟩⟩;rw[xk];simp only[go_sem,ya,yc,aA]<;>rfl
def aah(h: -9223372036854775808<=n/\n<9223372036854775808):n.natAbs<=9223372036854775808:=by lia
def aai(n:Int):bY (decide (n<0)) n.natAbs=n:=by
 unfold bY
 grind
def aui(h:Rm P L)(hn: -9223372036854775808<=n/\n<9223372036854775808):∃r,af P L 281 [aa n] r/\jW r n:=by
 have key:=fun s=>ar1 (P:=P) (L:=L) (neg:=decide (n<0)) (aah hn) n.natAbs s
 unfold af;rw[aH h.ad7];simp only[go_sem,ya,yc,Nx,aU];generalize hq:D P L (.loop _ rX) _=q;obtain⟨ex,s,rfl,tm,i,out,rfl,hlen,hi,hd,aJ,t2,t4,De⟩:=bF hq key (by
  refine⟨0,n,[],rfl,rfl,rfl,by simp[dv],fun h=>by simp at h;lia,fun h=>by simp at h;lia,by lia,.inl ⟨rfl,?_⟩⟩
  simp only[go_sem,ya,yc,aA]<;>rfl)
 rcases De with ⟨rG,t3,rfl⟩ | ⟨rG,t3,rfl⟩
 .subst rG;have jd:out=[]:=yG hlen;subst jd;have⟨r,e,hr⟩:=qU h.iF h.cy (decide (n<0)) (show bn .ah [] from rP) hd (by simp);rw[aJ,aai] at hr;have bq:=hr;obtain⟨w,l,rfl,hw,_,_,_⟩:=bq;refine⟨_,?_,hr⟩;simp only[go_sem,ya,yc,aA,t2,t3,t4,e,hw.pu,hw.one,bM,gE];rcases hw with ⟨rfl,_⟩ | ⟨e,rfl⟩<;>rfl
 .have hI:=ik ycH out;rw[hlen] at hI;have⟨r,e,hr⟩:=qU h.iF h.cy (decide (n<0)) hI hd (by lia);rw[aJ,aai] at hr;have bq:=hr;obtain⟨w,l,rfl,hw,_,_,_⟩:=bq;refine⟨_,?_,hr⟩
  simp only[go_sem,ya,yc,aA,t2,t3,t4,fun hp=>oS (hp:=hp) (k:=i) (sz:=1) (cs:=out.map aa) ycH (by simp[hlen]) (by decide),e,hw.pu,hw.one,bM,gE];rcases hw with ⟨rfl,_⟩ | ⟨e,rfl⟩<;>rfl
def ar2(n:Int):RT (n:Rat)=bc n:=by unfold RT;simp
def auj(h:Rm P L)(T8:Has P L 265 Ns)(hn: -9223372036854775808<=n/\n<9223372036854775808):af P L 265 [aa n] (.str (RT (n:Rat))):=by
 have⟨r,e,hr⟩:=aui h hn;have⟨e2,_⟩:=TY (K:=8) h.TZ h.pN (by lia) hr (by have:=aah hn;lia)
 rw[ar2];obtain⟨w,l,rfl,hw,_,_,_⟩:=hr;unfold af at e e2 ⊢;rw[aH T8];simp only[go_sem,ya,Ns,e,hw.ak,bM,cr,e2]
def Mw(h:Hq K a):(RT a).length<=2*K+3:=by
 have h1:=Hl h.1;have h2:=Hl h.2;rw[A5] at h2;unfold RT
 grind
def aaj{z:Int}(h:Bd K z):(aC z.natAbs).length<=K+1:=by
 have:=Hl (z:=(z.natAbs:Int)) (k:=K) (by unfold Bd at h ⊢;lia)
 rwa[A5] at this
def IL(h:Rm P L)(ka:Hq K a)(hK:K<=8000000000):∃x y,af P L 274 [.str (RT a)] (.ay [x,y])/\jW x a.num/\jW y (a.den:Int):=by
 have h1:=aaj ka.1;have h2:=aaj ka.2
 exact awi h.toRb (n:=a.num) (d:=a.den) (by lia) (by simpa using (by lia:(aC ((a.den:Int)).natAbs).length<=144000000000))
def auk(h:Rm P L){d:Nat}(hl:(TT n d).length<=100000000000)(oM:n=0->d=1):af P L 262 [.str (TT n d)] (aa (cY n)):=by
 unfold af;rw[aH h.av7];by_cases h0:n<0
 .have dV:=acn (n:=n) (d:=d) (by lia);rw[Mv h0] at dV ⊢;simp only[go_sem,ya,I4,Q8,dV,show (0:Int)<(((TT (-n) d).length+1:Nat):Int) by lia,Fb,xa];unfold cY;rw[yN h0]
 .by_cases h1:n=0
  .subst h1
   have:=oM rfl
   subst this;rw[show TT 0 1=[48] by decide];simp only[go_sem,ya,I4,Q8,show fX [48] [48]=ycG from rfl];rfl
  .have dV:=acn (n:=n) (d:=d) h1;have⟨b,u,hb,gh⟩:=aoo (d:=d) h0;rw[hb] at dV ⊢;simp only[go_sem,ya,I4,Q8,dV,show (0:Int)<((u.length+1:Nat):Int) by lia,show Bp 0 (.str (b::u))=D5 (.int .u8 (b:Nat)) from rfl,show ¬((b:Nat):Int)=45 by lia];unfold cY;rw[yx h0,yx h1]
def ag1(h:a.num=0):a.den=1:=by simp_all
def acp(h:Rm P L)(ka:Hq K a)(hK:K<=8000000000):af P L 262 [.str (RT a)] (aa (cY a.num)):=
 auk h (by have:=Mw ka;rw[IK] at this;lia) ag1
def acq(h:Rp P L)(ka:Hq K a)(hK:K<=8000000000):af P L 268 [.str (RT a)] (.str (RT (-a))):=by
 have e:=acp h.toRm ka hK;have hl:=Mw ka;have en:(-a).num= -a.num:=rfl;have ed:(-a).den=a.den:=rfl;rw[IK] at hl e ⊢;rw[IK,en,ed];generalize a.num=n at*
 generalize a.den=d at*
 unfold af at e ⊢;rw[aH h.awb];by_cases h0:n<0
 .have es:cY n= -1:=by unfold cY;rw[yN h0]
  rw[es,Mv h0] at e;rw[Mv h0] at hl ⊢;have hc:jL (45::TT (-n) d) (D5 1) (D5 ((TT (-n) d).length+1))=D5 (.str (TT (-n) d)):=by rw[mO (s:=45::TT (-n) d) (l:=1) (h:=(TT (-n) d).length+1) (by lia) (by simp)];simp
  simp only[go_sem,ya,I7,e,show (-1:Int)<0 by decide,kK,ma,gX,hc]
 .by_cases h1:n=0
  .subst h1;have es:cY 0=0:=rfl;rw[es] at e;simp only[go_sem,ya,I7,e,show ¬(0:Int)<0 by decide,xa,Int.neg_zero]
  .have es:cY n=1:=by unfold cY;rw[yx h0,yx h1]
   rw[es] at e
   have:TT (-n) d=45::TT n d:=by rw[Mv (by lia),tY]
   rw[this]
   simp only[go_sem,ya,I7,e,show ¬(1:Int)<0 by decide,show ¬(1:Int)=0 by decide,fQ (a:=[45]) (b:=TT n d) (by simp;lia),ym,yD]
end
end
end VE
end
section
namespace VE
open Go (IntKind)
section
variable {K M:Nat}{a b:Rat}
def aak(n:Int)(d:Nat):RL ycG n d=.ay [aa n,aa d,.bool ycG]:=rfl
def IM{a b:Int}(ha:a.natAbs<1000000000)(hb:b.natAbs<1000000000):(a*b).natAbs<1000000000000000000:=by
 rw[Int.natAbs_mul];exact yE (tS ha hb) (by decide)
section
variable {P:aE}{L:Lib}
def acr(h:Rm P L){a b:Int}(ha: -4000000000000000000<=a/\a<=4000000000000000000)(hb:0<b/\b<=4000000000000000000):af P L 277 [aa a,aa b] (.str (RT (wy a b))):=by
 rw[aag hb.1];exact avo h.av9 h.Tm h.pN ha hb
def M1(h:Rp P L)(ka:Hq K a)(hK:K<=8000000000):∃q:Bool,af P L 276 [.str (RT a)] (RL q a.num a.den)/\(q=ycG->a.num.natAbs<1000000000/\a.den<1000000000):=
 avp h.awd h.Jn h.Aj (n:=a.num) (d:=a.den) (by have:=Mw ka;rw[IK] at this;lia)
def M2(h:Rn P L)(ka:Hq K a)(kb:Hq M b)(hK:K+M<=8000000000):af P L 267 [.str (RT a),.str (RT b)] (.str (RT (a*b))):=by
 have⟨q1,e1,b1⟩:=M1 h.toRp ka (by lia);have⟨q2,e2,b2⟩:=M1 h.toRp kb (by lia);have awk:=D7 a b;by_cases hq:(q1=ycG/\q2=ycG)
 .obtain ⟨rfl,rfl⟩:=hq;have⟨b11,b12⟩:=b1 rfl;have⟨b21,b22⟩:=b2 rfl;have p1:=IM b11 b21;have p2:=IM (a:=(a.den:Int)) (b:=(b.den:Int)) (by lia) (by lia);have e3:=acr h.toRm (a:=a.num*b.num) (b:=(a.den:Int)*b.den) (by lia) (by lia);rw[<-mul_eq] at e3;rw[aak] at e1 e2;unfold af at e1 e2 e3 ⊢;rw[aH h.aeb]
  simp only[go_sem,ya,I6,e1,e2,wrap64 (n:=a.num*b.num) (by lia) (by lia),wrap64 (n:=(a.den:Int)*(b.den:Int)) (by lia) (by lia),e3]
 .have bE:∃n1 d1 n2 d2,bQ P L (D P L) 276 [.str (RT a)]=D5 (.ay [aa n1,aa d1,.bool q1])/\bQ P L (D P L) 276 [.str (RT b)]=D5 (.ay [aa n2,aa d2,.bool q2]):=by
   cases q1<;>cases q2<;>exact⟨_,_,_,_,e1,e2⟩
  have⟨n1,d1,n2,d2,e1,e2⟩:=bE;have⟨x,y,e3,hx,hy⟩:=IL h.toRm ka (by lia);have⟨z,w,e4,hz,hw⟩:=IL h.toRm kb (by lia);have Fg:max K M<=8000000000:=by lia
  have⟨r,e5,hr⟩:=Jz (K:=max K M) h.JA h.lJ h.iF h.cy Fg hx hz (ka.1.mono (by lia)).r (kb.1.mono (by lia)).r;have⟨s,e6,hs⟩:=Jz (K:=max K M) h.JA h.lJ h.iF h.cy Fg hy hw (ka.2.mono (by lia)).r (kb.2.mono (by lia)).r;have e7:=Sv h.toRm hK hr hs (ka.1.mul kb.1) (ka.2.mul kb.2) (by lia);rw[<-mul_eq] at e7;obtain⟨xw,xl,rfl,gl,_,_,_⟩:=hx;obtain⟨yw,yl,rfl,gm,_,_,_⟩:=hy;obtain⟨zw,zl,rfl,oN,_,_,_⟩:=hz;obtain⟨ww,wl,rfl,oO,_,_,_⟩:=hw;obtain⟨cm,rl,rfl,oz,_,_,_⟩:=hr;obtain⟨sw,sl,rfl,kW,_,_,_⟩:=hs;have hb:¬(q1=ycG/\q2=ycG):=hq;unfold af at e3 e4 e5 e6 e7 ⊢;rw[aH h.aeb]
  cases q1 with
  | false=>
   simp only[go_sem,ya,yc,I6,aU,e1,e2,e3,e4,gl.pu,gl.ak,gl.one,gm.pu,gm.ak,gm.one,oN.pu,oN.ak,oN.one,oO.pu,oO.ak,oO.one,oz.ak,kW.ak,cr,bM,AZ,gE,ER,e5,e6,e7]
  | true=>
   cases q2 with
   | true=>exact absurd ⟨rfl,rfl⟩ hb
   | false=>
    simp only[go_sem,ya,yc,I6,aU,e1,e2,e3,e4,gl.pu,gl.ak,gl.one,gm.pu,gm.ak,gm.one,oN.pu,oN.ak,oN.one,oO.pu,oO.ak,oO.one,oz.ak,kW.ak,cr,bM,AZ,gE,ER,e5,e6,e7]
def acs(h:Rp P L)(ka:Hq K a)(kb:Hq M b)(hK:K+M+1<=8000000000):af P L 264 [.str (RT a),.str (RT b)] (.str (RT (a+b))):=by
 have⟨q1,e1,b1⟩:=M1 h ka (by lia);have⟨q2,e2,b2⟩:=M1 h kb (by lia);have awk:=D7 a b;by_cases hq:(q1=ycG/\q2=ycG)
 .obtain ⟨rfl,rfl⟩:=hq;have⟨b11,b12⟩:=b1 rfl;have⟨b21,b22⟩:=b2 rfl;have p1:=IM (a:=a.num) (b:=(b.den:Int)) (by lia) (by lia);have p2:=IM (a:=b.num) (b:=(a.den:Int)) (by lia) (by lia);have p3:=IM (a:=(a.den:Int)) (b:=(b.den:Int)) (by lia) (by lia);have e3:=acr h.toRm (a:=a.num*b.den+b.num*a.den) (b:=(a.den:Int)*b.den) (by lia) (by lia);rw[<-add_eq] at e3;rw[aak] at e1 e2;unfold af at e1 e2 e3 ⊢;rw[aH h.aea]
  simp only[go_sem,ya,I5,e1,e2,wrap64 (n:=a.num*(b.den:Int)) (by lia) (by lia),wrap64 (n:=b.num*(a.den:Int)) (by lia) (by lia),wrap64 (n:=a.num*(b.den:Int)+b.num*(a.den:Int)) (by lia) (by lia),wrap64 (n:=(a.den:Int)*(b.den:Int)) (by lia) (by lia),e3]
 .have bE:∃n1 d1 n2 d2,bQ P L (D P L) 276 [.str (RT a)]=D5 (.ay [aa n1,aa d1,.bool q1])/\bQ P L (D P L) 276 [.str (RT b)]=D5 (.ay [aa n2,aa d2,.bool q2]):=by
   cases q1<;>cases q2<;>exact⟨_,_,_,_,e1,e2⟩
  have⟨n1,d1,n2,d2,e1,e2⟩:=bE;have⟨x,y,e3,hx,hy⟩:=IL h.toRm ka (by lia);have⟨z,w,e4,hz,hw⟩:=IL h.toRm kb (by lia);have Fg:max K M<=8000000000:=by lia
  have⟨r,e5,hr⟩:=Jz (K:=max K M) h.JA h.lJ h.iF h.cy Fg hx hw (ka.1.mono (by lia)).r (kb.2.mono (by lia)).r;have⟨r2,VR,jP⟩:=Jz (K:=max K M) h.JA h.lJ h.iF h.cy Fg hz hy (kb.1.mono (by lia)).r (ka.2.mono (by lia)).r;have⟨s,e6,hs⟩:=Jz (K:=max K M) h.JA h.lJ h.iF h.cy Fg hy hw (ka.2.mono (by lia)).r (kb.2.mono (by lia)).r;have k1:Bd (K+M) (a.num*b.den):=ka.1.mul kb.2;have k2:Bd (K+M) (b.num*a.den):=(kb.1.mul ka.2).mono (by lia);have⟨t,e8,ht⟩:=avZ (K:=K+M) h.awe h.TW h.pQ h.N7 h.nk h.iF h.cy (by lia) hr jP k1.r k2.r;have e7:=Sv h.toRm hK ht hs (k1.TE k2) ((ka.2.mul kb.2).mono (by lia)) (by lia);rw[<-add_eq] at e7;obtain⟨xw,xl,rfl,gl,_,_,_⟩:=hx;obtain⟨yw,yl,rfl,gm,_,_,_⟩:=hy;obtain⟨zw,zl,rfl,oN,_,_,_⟩:=hz;obtain⟨ww,wl,rfl,oO,_,_,_⟩:=hw;obtain⟨cm,rl,rfl,oz,_,_,_⟩:=hr;obtain⟨rw2,rl2,rfl,aef,_,_,_⟩:=jP
  obtain⟨tw,tl,rfl,htw,_,_,_⟩:=ht;obtain⟨sw,sl,rfl,kW,_,_,_⟩:=hs;have hb:¬(q1=ycG/\q2=ycG):=hq;unfold af at e3 e4 e5 VR e6 e7 e8 ⊢;rw[aH h.aea]
  cases q1 with
  | false=>
   simp only[go_sem,ya,yc,I5,aU,e1,e2,e3,e4,gl.pu,gl.ak,gl.one,gm.pu,gm.ak,gm.one,oN.pu,oN.ak,oN.one,oO.pu,oO.ak,oO.one,oz.ak,aef.ak,htw.ak,kW.ak,cr,bM,AZ,gE,ER,e5,VR,e8,e6,e7]
  | true=>
   cases q2 with
   | true=>exact absurd ⟨rfl,rfl⟩ hb
   | false=>
    simp only[go_sem,ya,yc,I5,aU,e1,e2,e3,e4,gl.pu,gl.ak,gl.one,gm.pu,gm.ak,gm.one,oN.pu,oN.ak,oN.one,oO.pu,oO.ak,oO.one,oz.ak,aef.ak,htw.ak,kW.ak,cr,bM,AZ,gE,ER,e5,VR,e8,e6,e7]
def aul(h:Rp P L)(ka:Hq K a)(kb:Hq M b)(hK:K+M+1<=8000000000):af P L 271 [.str (RT a),.str (RT b)] (.str (RT (a-b))):=by
 have e1:=acq h kb (by lia);have e2:=acs h ka kb.neg hK;rw[<-Rat.sub_eq_add_neg] at e2;unfold af at e1 e2 ⊢;rw[aH h.awc];simp only[go_sem,ya,SZ,e1,e2]
def inv_divInt(a:Rat)(h:a≠0):a⁻¹=wy (a.den:Int) a.num:=by
 rw[Rat.inv_def]
def aum(h:Rn P L)(JB:Has P L 283 Ja)(ka:Hq K a)(hK:K<=8000000000)(h0:a≠0):af P L 283 [.str (RT a)] (.str (RT a⁻¹)):=by
 obtain⟨x,y,e3,hx,hy⟩:=IL h.toRm ka hK;have hn:a.num≠0:=fun e=>h0 (ybw.1 e)
 have e7:=Sv h.toRm hK hy hx ka.2 ka.1 hn;rw[<-inv_divInt a h0] at e7;obtain⟨xw,xl,rfl,gl,_,_,_⟩:=hx;obtain⟨yw,yl,rfl,gm,_,_,_⟩:=hy;unfold af at e3 e7 ⊢;rw[aH JB];simp only[go_sem,ya,yc,Ja,aU,e3,gl.pu,gl.ak,gl.one,gm.pu,gm.ak,gm.one,cr,AZ,gE,ER,e7]
end
end
end VE
end
section
namespace VE
open Go (IntKind)
def rH(v:AV)(l:List (List Nat)):Prop:=b7 v (l.map AV.str)
section
variable {v:AV}{l:List (List Nat)}
def rH.bD(h:rH v l){i:Nat}(hi:i<l.length):jn 1 i v=D5 (.bJ (.str l[i]::(l.map AV.str).drop (i+1))):=by
 have:=b7.bD h (i:=i) (by simpa using hi)
 grind
def aoq(e:Bool)(l:List (List Nat)):rH (.aq e l.length (l.map AV.str)) l:=by
 have:=HF e (l.map AV.str)
 rwa[yX] at this
end
end VE
end
section
namespace VE
open Go (IntKind)
instance (k:Nat) (z:Int):Decidable (Bd k z):=inferInstanceAs (Decidable (z.natAbs<2^k))
def awl:RT 1=[49]:=by decide
def aeg:Hq 2 0:=⟨by decide,by decide⟩
def awm:Hq 2 1:=⟨by decide,by decide⟩
section
variable {P:aE}{L:Lib}
def awn(h:Rp P L)(JC:Has P L 315 Je){a b:Rat}{K M:Nat}(ka:Hq K a)(kb:Hq M b)(hK:K+M+1<=8000000000):af P L 315 [.str (RT a),.str (RT b)] (aa (cY (a-b).num)):=by
 have e1:=aul h ka kb hK;have e2:=acp h.toRm (ka.sub kb) hK;unfold af at e1 e2 ⊢;rw[aH JC];simp only[go_sem,ya,Je,e1,e2]
end
end VE
end
section
namespace VE
open Go (IntKind)
def WV(q:Rat):q.num<0↔q<0:=by
 have h:=@Rat.num_nonneg q
 grind
def aor(a b:Rat):cY (a-b).num=sG a b:=by
 unfold cY sG;by_cases h1:a<b
 .rw [yN ((WV _).2 (by grind)),yN h1]
 .rw [yx (fun e=>h1 (by have:=(WV _).1 e;grind)),yx h1]
  by_cases h2:a=b
  .subst h2;rw[yN (by rw[Rat.sub_self];rfl),yN rfl]
  .rw [yx (fun e=>h2 (by have:=ybw.1 e;grind)),yx h2]
end VE
end
section
namespace VE
open Go (IntKind)
section
variable {s1 s2 s3 s4:Int}{w1 w2 w3 w4:AV}{l1 l2 l3 l4:List Nat}
def Iq(a b c d:AV)(r:List AV):gN 4 ycG (a::b::c::d::r)=D5 (.agg [a,b,c,d]):=rfl
end
end VE
end
section
namespace VE
open Go (IntKind)
structure F4(c1 c2 c3 c4:AV):Prop where
 ak:∀(n:Nat) (hp:Hp),freeze (n+20) hp (.agg [c1,c2,c3,c4])=D5 (.agg [c1,c2,c3,c4],hp)
 eA:∀hp:Hp,result hp (.agg [c1,c2,c3,c4])=D5 (.agg [c1,c2,c3,c4])
 st:∀(hp:Hp) (ct id:Nat) (a b c d:AV),kH hp ct id 0 4 [c1,c2,c3,c4] (D5 (.cells ycG ycG ycG 4 [a,b,c,d]))=D5 (.ay [],aV hp id (.cells ycG ycG ycG 4 [c1,c2,c3,c4]),ct)
 bx:∀ct:Nat,lG ct 4 [c1,c2,c3,c4]=D5 (.ptr ct 0,.cells ycG ycG ycG 4 [c1,c2,c3,c4])
 o1:dD c1=ycG
 o2:dD c2=ycG
 o3:dD c3=ycG
 o4:dD c4=ycG
 pu:aS (.agg [c1,c2,c3,c4])=ycG
 z1:∀(n:Nat) (hp:Hp),freeze (n+1) hp c1=D5 (c1,hp)
 z2:∀(n:Nat) (hp:Hp),freeze (n+1) hp c2=D5 (c2,hp)
 z3:∀(n:Nat) (hp:Hp),freeze (n+1) hp c3=D5 (c3,hp)
 z4:∀(n:Nat) (hp:Hp),freeze (n+1) hp c4=D5 (c4,hp)
def dJ.gen{v:AV}{a:Rat}(h:dJ v a):∃c1 c2 c3 c4,v=.agg [c1,c2,c3,c4]/\F4 c1 c2 c3 c4:=by
 obtain⟨s1,w1,s2,w2,rfl,h1,h2⟩:=h;have⟨l1,u1⟩:=h1.aR;have⟨l2,u2⟩:=h2.aR;refine⟨_,_,_,_,rfl,fun n hp=>?_,lA u1 u2,fun hp ct id a b c d=>lz u1 u2 hp ct id a b c d,fun ct=>by simp only[go_sem,yc,aU,u1.pu,u1.one,u2.pu,u2.one],rfl,u1.one,rfl,u2.one,by simp[aS,aD,u1.pu,u2.pu],fun _ _=>rfl,fun n _=>u1.ak n,fun _ _=>rfl,fun n _=>u2.ak n⟩;exact cr _ _ (by simp only[go_sem,u1.ak,u2.ak])
def Rj{a b:Int}:b8 [a,b]=0↔a=0/\b=0:=by
 simp only[b8]
 grind
def aos{a b c:Int}:b8 [a,b,c]=0↔a=0/\b=0/\c=0:=by
 simp only[b8];by_cases h:a=0<;>by_cases h2:b=0<;>by_cases h3:c=0<;>simp[h,h2,h3]
end VE
end
section
namespace VE
open Go (IntKind)
def aun(n k:Nat)(h:n<k)(h0:k≠0):Hq k ((2:Rat)^n):=by
 refine⟨?_,?_⟩
 .rw [ycw];unfold Bd;show ((2:Int)^n).natAbs<_
  rw[Int.natAbs_pow];exact wV (by decide) h
 .rw [ycx];unfold Bd;show (((1:Nat)^n:Nat):Int).natAbs<_
  rw[Nat.one_pow];exact uC h0
def Zm(k:Nat){z:Int}(h:Bd k z)(h0:k≠0):Hq k ((z:Int):Rat):=⟨by rw[uf];exact h,by rw[ug];exact uC h0⟩
def acu(k j:Nat){s:Bool}{M:Nat}(h:M<2^j)(hj:j<=k):Bd k (bz s M):=by
 unfold Bd bz
 have:(if s=ycG then -(M:Int) else (M:Int)).natAbs=M:=by split<;>omega
 rw[this];exact yE h (xc (by decide) hj)
def jx(s:Bool)(M:Nat):Rat:=((bz s M:Int):Rat)*p2 (-149)
section
variable {P:aE}{L:Lib}
def aeh(h:Fr' P L)(qV:Has P L 155 Dp)(Fh:Has P L 241 I3){v:AV}{a:Rat}{K k:Nat}(hv:dJ v a)(ka:Hq K a)(hK:K*k+1<=30000000000)(hk:k<9223372036854775808):∃r,af P L 241 [v,aa k] r/\dJ r (a^k):=by
 obtain⟨s1,w1,s2,w2,rfl,h1,h2⟩:=hv;obtain⟨l1,u1⟩:=h1.aR;obtain⟨l2,u2⟩:=h2.aR;obtain⟨n,e1,hn⟩:=TH h.toNu qV ⟨s1,w1,rfl,h1⟩ ka.1 hK hk;obtain⟨d,e2,hd⟩:=TH h.toNu qV ⟨s2,w2,rfl,h2⟩ ka.2 hK hk;obtain⟨s3,w3,rfl,h3⟩:=hn;obtain⟨s4,w4,rfl,h4⟩:=hd;obtain⟨l3,u3⟩:=h3.aR;obtain⟨l4,u4⟩:=h4.aR;refine⟨.agg [aa s3,w3,aa s4,w4],?_,s3,w3,s4,w4,rfl,by rw[ycw];exact h3,by rw[ycx,Int.natCast_pow];exact h4⟩
 unfold af at e1 e2;unfold af;rw[aH Fh];simp only[go_sem,ya,yc,I3,aU,u1.pu,u1.ak,u1.one,u2.pu,u2.ak,u2.one,u3.one,u4.one,a6,yd,zY,Dd,cr,e1,e2,bM,Er,Es,lz u3 u4,dX,dZ,yh,iX,lA u3 u4]
def Mx:Hq 2 (2:Rat):=⟨by unfold Bd;decide,by unfold Bd;decide⟩
def awo(h:Fr' P L)(qV:Has P L 155 Dp)(Fh:Has P L 241 I3)(N9:Has P L 228 I1){k:Int}(hk: -100000<=k/\k<=100000):∃r,af P L 228 [aa k] r/\dJ r (p2 k):=by
 obtain⟨t,e1,ht⟩:=Vx h (z:=2) (by decide) (by decide);have ht:dJ t (2:Rat):=ht;have un:=rS;obtain⟨t1,t2,t3,t4,rfl,ft⟩:=ht.gen;by_cases c:k<0
 .obtain ⟨n,hn⟩:∃n:Nat,k= -(n:Int):=⟨k.natAbs,by omega⟩;obtain⟨q,e2,hq⟩:=aeh h qV Fh ht Mx (k:=n) (by omega) (by omega);have kq:Hq 100001 ((2:Rat)^n):=aun n 100001 (by omega) (by decide);have h0:(2:Rat)^n≠0:=by
   have:=Ss n
   rwa[show p2 n=(2:Rat)^n from uT _ _] at this
  obtain⟨r,e3,hr⟩:=m73 h hq h0 kq (by decide);obtain⟨q1,q2,q3,q4,rfl,fq⟩:=hq.gen;have hp:((2:Rat)^n)⁻¹=p2 k:=by
   rw[hn];unfold p2;rw[ych,uT]
  rw[hp] at hr;have bq:=hr;obtain⟨s1,w1,s2,w2,rfl,k1,k2⟩:=hr;obtain⟨l1,u1⟩:=k1.aR;obtain⟨l2,u2⟩:=k2.aR;refine⟨_,?_,bq⟩;have wn:IntKind.wrap .i64 (0-k)=(n:Int):=by rw[wrap64 (by omega) (by omega)];omega
  unfold af at e1 e2 e3;unfold af;rw[aH N9];simp only[go_sem,ya,yc,I1,aU,c,xa,e1,ft.ak,wn,e2,fq.ak,e3,bM,lz u1 u2,dX,dZ,yh,iX,lA u1 u2]
 .obtain ⟨n,hn⟩:∃n:Nat,k=(n:Int):=⟨k.natAbs,by omega⟩;subst hn;obtain⟨r,e2,hr⟩:=aeh h qV Fh ht Mx (k:=n) (by omega) (by omega);have hp:(2:Rat)^n=p2 n:=(uT _ _).symm;rw[hp] at hr;have bq:=hr;obtain⟨s1,w1,s2,w2,rfl,k1,k2⟩:=hr;obtain⟨l1,u1⟩:=k1.aR;obtain⟨l2,u2⟩:=k2.aR;refine⟨_,?_,bq⟩;unfold af at e1 e2;unfold af;rw[aH N9];simp only[go_sem,ya,yc,I1,aU,c,xf,e1,ft.ak,e2,bM,lz u1 u2,dX,dZ,yh,iX,lA u1 u2]
end
end VE
end
section
namespace VE
open Go (IntKind)
section
variable {s:Bool}{M:Nat}
def oU(b:Nat):refs (.au .f32 b)=[]:=rfl
def pn(f:Nat->Option Nat)(b:Nat):bi f (.au .f32 b)=.au .f32 b:=rfl
def mQ(n:Nat)(hp:Hp)(b:Nat):freeze (n+1) hp (.au .f32 b)=D5 (.au .f32 b,hp):=rfl
structure Fx(P:aE)(L:Lib):Prop extends Fr' P L where
 qV:Has P L 155 Dp
 N9:Has P L 228 I1
 awp:Has P L 232 mu
 Fh:Has P L 241 I3
def qv:Hp:=[(0,.cells ycG ycG ycG 4 [.int .i64 0,.ah,.int .i64 0,.ah])]
section
variable {P:aE}{L:Lib}
def ar3(hM:M<2^277):
  cP P L [0,2,3] HW (fun d st=>∃(b:Nat) (N:Nat) (k:Nat),d=N/\Fl b s N/\N*2^k=M/\(M=0->k=0)/\st=⟨[(0,.au .f32 b),(2,.ptr 0 0),(3,aa k)],qv,1,0⟩) (fun ex s'=>∃tm ct b N,∃k:Nat,s'=⟨tm,qv,ct,0⟩/\ex=.exit 0/\Fl b s N/\N*2^k=M/\N<2^173/\k<277/\aj tm 0=.au .f32 b/\aj tm 2=.ptr 0 0/\aj tm 3=aa k):=by
 apply cT;rintro d st ⟨b,N,k,hd,hN,hq,hz,rfl⟩;have hk:k<277:=by
  by_cases h0:M=0
  .rw [hz h0];decide
  .have N0:0<N:=by
    rcases xg N with q | q
    .rw [q,wh] at hq;exact absurd hq.symm h0
    .exact q
   have h1:2^k<=N*2^k:=vL _ N0;exact adZ k 277 (xY (by rw[hq] at h1;exact h1) hM)
 obtain⟨a,e1,ha⟩:=at7 hN;have e2:=acf ha aci;have hc:(bz ycH (2^173)<=bz ycH N)↔2^173<=N:=yci;unfold qv;by_cases c:2^173<=N
 .left
  obtain⟨b',e3,bm⟩:=aa0 hN (hN.even c);have zc:=hN.even c;rw[yU (hc.2 c)] at e2;have wk:IntKind.wrap .i64 ((k:Int)+1)=((k+1:Nat):Int):=wrap64 (by omega) (by omega);simp only[go_sem,ya,HW,ach,zP,e1,e2,e3,wk];have og:0<2^k:=y7 _;have AK:M≠0:=fun q=>by
   rw[q] at hq
   have:=wN (show 0<N by omega) og
   omega
  refine⟨_,N/2,rfl,by omega,b',N/2,k+1,rfl,bm,by rw[y8,xb (2^k),<-y5,show N/2*2=N by omega,hq],fun q=>absurd q AK,?_⟩;simp only[go_sem,ya,yc,aA,oU,pn]<;>rfl
 .right
  rw[yW (fun q=>c (hc.1 q))] at e2;simp only[go_sem,ya,HW,ach,zP,e1,e2];exact⟨_,_,rfl,by simp,_,_,b,N,k,rfl,rfl,hN,hq,by omega,hk,by simp only[go_sem,ya],by simp only[go_sem,ya],by simp only[go_sem,ya]⟩
def ar4:
  cP P L [0,2,3] HX (fun d st=>∃(b:Nat) (N:Nat) (j:Nat) (k:Int),d+j=149/\Fl b s N/\2^j∣N/\N<2^173/\(N:Rat)*p2 k=(M:Rat)/\-149<=k+j/\k+j<=277/\st=⟨[(0,.au .f32 b),(2,.ptr 0 0),(3,aa k)],qv,1,0⟩) (fun ex s'=>∃tm ct b N,∃k:Int,s'=⟨tm,qv,ct,0⟩/\ex=.exit 2/\Fl b s N/\N%2^149=0/\N<2^173/\(N:Rat)*p2 k=(M:Rat)/\-298<=k/\k<=277/\aj tm 0=.au .f32 b/\aj tm 2=.ptr 0 0/\aj tm 3=aa k):=by
 apply cT;rintro d st ⟨b,N,j,k,hd,hN,hj,aB,hq,k1,k2,rfl⟩;have pR:N<2^200:=wW aB (by decide);have e1:=L5 hN pR;have hn:N/2^149<2^24:=by rw[xu (y7 _),<-xB];exact aB
 have ha:(bz s (N/2^149)).natAbs=N/2^149:=by unfold bz;split<;>omega
 obtain⟨c,e2,hc⟩:=aaf (n:=bz s (N/2^149)) (by omega);rw[ha] at hc;have e3:=acg hN hc;have ej:=xK N (2^149);have hw:(bz s N=bz (decide (bz s (N/2^149)<0)) (N/2^149*2^149))↔N%2^149=0:=by
  have VS:N/2^149=0->N/2^149*2^149=0:=fun h=>by rw[h,wh]
  generalize hQ:N/2^149=q at*
  generalize hR:N%2^149=r at*
  rw[xb] at ej;generalize q*2^149=X at*
  unfold bz
  cases s with
  | false=>
   have:decide ((if ycH=ycG then -(q:Int) else (q:Int))<0)=ycH:=yW (by simp)
   rw[this];simp;omega
  | true=>
   rw[yN rfl,yN rfl];by_cases q0:q=0
   .have hX:=VS q0
    have:decide (-(q:Int)<0)=ycH:=yW (by omega)
    rw[this,yx (by decide)];omega
   .have:decide (-(q:Int)<0)=ycG:=yU (by omega)
    rw[this,yN rfl];omega
 unfold qv;by_cases w:N%2^149=0
 .right
  rw[yU (hw.2 w)] at e3;simp only[go_sem,ya,HX,e1,e2,e3,xF];have aAn:j<=149:=by omega
  exact⟨_,_,rfl,by simp,_,_,b,N,k,rfl,rfl,hN,w,aB,hq,by omega,by omega,by simp only[go_sem,ya],by simp only[go_sem,ya],by simp only[go_sem,ya]⟩
 .left
  rw[yW (fun q=>w (hw.1 q))] at e3;have awq:N<2^172:=by
   by_cases q:N<2^172
   .exact q
   .exact absurd (hN.whole (by omega)) w
  obtain⟨b',e4,bm⟩:=aaZ hN (wW aB (adY 173 276 (by decide)));have JT:j<149:=by
   rcases wQ j 149 with q | q
   .exact q
   .have:j=149:=by omega
    subst this;exact absurd (yaD hj) w
  have wk:IntKind.wrap .i64 (k-1)=k-1:=wrap64 (by omega) (by omega);simp only[go_sem,ya,HX,e1,e2,e3,xX,e4,wk];refine⟨_,d-1,rfl,by omega,b',2*N,j+1,k-1,by omega,bm,by rw[y8,xb (2^j)];exact yaQ 2 hj,by omega,?_,by omega,by omega,?_⟩
  .rw [<-hq,xE]
   have:p2 k=p2 1*p2 (k-1):=by rw[<-j9,show 1+(k-1)=k by omega]
   rw[this,Am];show (2:Rat)*(N:Rat)*p2 (k-1)=(N:Rat)*(2*p2 (k-1))
   grind
  .simp only [go_sem,ya,yc,aA,oU,pn]<;>rfl
def aa4{N:Nat}{k:Int}(h:(N:Rat)*p2 k=(M:Rat))(hw:N%2^149=0):((bz s (N/2^149):Int):Rat)*p2 k=jx s M:=by
 have e:N=N/2^149*2^149:=by have:=xK N (2^149);omega
 have h1:((N/2^149:Nat):Rat)*p2 149=(N:Rat):=by
  conv=>rhs;rw[e,xE,<-lj]
  rfl
 generalize N/2^149=n at h1;have h2:((n:Nat):Rat)*p2 k=(M:Rat)*p2 (-149):=by
  rw[<-h,<-h1]
  have:p2 149*p2 (-149)=1:=by rw[<-j9];exact Dy
  have h3:(n:Rat)*p2 149*p2 k*p2 (-149)=(n:Rat)*p2 k*(p2 149*p2 (-149)):=by grind
  rw[h3,this,vl]
 unfold jx bz;have c1:(((n:Nat):Int):Rat)=(n:Rat):=rfl;have c2:(((M:Nat):Int):Rat)=(M:Rat):=rfl
 cases s with
 | true=>rw[yN rfl,yN rfl,ue,ue,c1,c2];grind
 | false=>rw[yx (by decide),yx (by decide),c1,c2];exact h2
def acv(k:Int):Hq (k.natAbs+2) (p2 k):=by
 by_cases c:0<=k
 .obtain ⟨n,rfl⟩:∃n:Nat,k=n:=⟨k.natAbs,by omega⟩;rw[show p2 (n:Int)=((2^n:Nat):Int) from lj n];exact⟨by rw[uf];unfold Bd;rw[uD];exact wV (by decide) (by omega),by rw[ug];unfold Bd;exact uC (by omega)⟩
 .obtain ⟨n,rfl⟩:∃n:Nat,k= -(n:Int):=⟨k.natAbs,by omega⟩
  have:p2 (-(n:Int))=(p2 n)⁻¹:=by unfold p2;rw[ych]
  rw[this];refine Hq.inv ?_;rw[show p2 (n:Int)=((2^n:Nat):Int) from lj n];exact⟨by rw[uf];unfold Bd;rw[uD];exact wV (by decide) (by omega),by rw[ug];unfold Bd;exact uC (by omega)⟩
def T9(k:Int)(hk:k.natAbs<=900):Hq 1001 (p2 k):=(acv k).mono (by omega)
def awr(h:Fx P L){b:Nat}(hb:Fl b s M):∃r,af P L 232 [.au .f32 b] r/\dJ r (jx s M):=by
 have key:∀(b' N:Nat) (k:Int) (tm:Env) (ct:Nat),Fl b' s N->N%2^149=0->N<2^173->(N:Rat)*p2 k=(M:Rat)-> -298<=k->k<=277->aj tm 0=.au .f32 b'->aj tm 2=.ptr 0 0->aj tm 3=aa k->∃r,lF mu.eA (D P L (zZ 3 mu.body) ⟨[(0,.au .f32 b'),(2,.ptr 0 0),(3,aa k)],qv,1,0⟩)=D5 r/\dJ r (jx s M):=by
  intro b' N k tm ct hN hw aB hq k1 k2 _ _ _;have e1:=L5 hN (wW aB (by decide));have hn:N/2^149<2^24:=by rw[xu (y7 _),<-xB];exact aB
  have ha:(bz s (N/2^149)).natAbs=N/2^149:=by unfold bz;split<;>omega
  have hx:=aa4 (s:=s) hq hw;generalize bz s (N/2^149)=z at*
  obtain⟨u,e2,hu⟩:=Vx h.toFr' (z:=z) (by omega) (by omega);obtain⟨v,e3,hv⟩:=awo h.toFr' h.qV h.Fh h.N9 (k:=k) (by omega);have ku:Hq 25 ((z:Int):Rat):=⟨by rw[uf];unfold Bd;omega,by rw[ug];unfold Bd;decide⟩
  obtain⟨r,e4,hr⟩:=m49 h.toFr' hu hv (ku.mono (show 25<=1001 by decide)) (T9 k (by omega)) (by decide);rw[hx] at hr;have bq:=hr;obtain⟨u1,u2,u3,u4,rfl,fu⟩:=hu.gen;obtain⟨v1,v2,v3,v4,rfl,fv'⟩:=hv.gen;obtain⟨r1,r2,r3,r4,rfl,fr⟩:=hr.gen;refine⟨_,?_,bq⟩;unfold af at e2 e3 e4;unfold qv;simp only[go_sem,ya,mu,zZ,a8,e1,e2,fu.ak,e3,fv'.ak,e4,fr.eA,fr.st,bM,dX,dZ,yh,iX]
 have l1:=ar3 (P:=P) (L:=L) (s:=s) hb.lt M;unfold af;rw[aH h.awp];have cut:mu.body=.seq (cD mu.body) (.seq (cD (zZ 0 mu.body)) (.seq (cD (zZ 1 mu.body)) (.seq (cD (zZ 2 mu.body)) (zZ 3 mu.body)))):=rfl;show ∃r,lF mu.eA (D P L mu.body _)=D5 r/\_
 rw[cut];generalize zZ 3 mu.body=T at key ⊢;simp only[go_sem,yc,mu,zZ,a8,cD,aU];generalize hq:D P L (.loop _ HW) _=q;obtain⟨ex,st,rfl,tm,ct,b',N,k,rfl,rfl,hN,VT,aB,hk,t0,t2,t3⟩:=bF hq l1 ⟨b,M,0,rfl,hb,by rw[vz,yk],fun _=>rfl,by unfold qv;simp only[go_sem,ya,yc,aA,oU,pn]<;>rfl⟩
 unfold qv;simp only[go_sem,yc,aA,t0,t2,t3,oU,pn];generalize hq:D P L (.loop _ HX) _=q;have l2:=ar4 (P:=P) (L:=L) (s:=s) (M:=M) 149;obtain⟨ex,st,rfl,tm,ct,b2,N2,k2,rfl,rfl,VU,hw,pR,oJ,k3,k4,u0,u2,u3⟩:=bF hq l2 ⟨b',N,0,k,rfl,hN,by rw[vz];exact ycy N,aB,by rw[<-VT,xE,lj],by omega,by omega,by unfold qv;simp only[go_sem,ya,yc,aA,oU,pn]<;>rfl⟩
 unfold qv;simp only[go_sem,yc,aA,u0,u2,u3,oU,pn];exact key b2 N2 k2 tm ct VU hw pR oJ k3 k4 u0 u2 u3
end
end
end VE
end
section
namespace VE
open Go (IntKind)
def F4.pus{c1 c2 c3 c4:AV}(g:F4 c1 c2 c3 c4):aS c1=ycG/\aS c2=ycG/\aS c3=ycG/\aS c4=ycG:=by
 have:=g.pu
 simpa only[aS,aD,tP,ye] using this
def dJ.f4{a b c d:AV}{x:Rat}(h:dJ (.agg [a,b,c,d]) x):F4 a b c d:=by
 have⟨_,_,_,_,e,g⟩:=h.gen
 grind
end VE
end
section
namespace VE
open Go (IntKind)
def aal(a b:Rat):decide (0<sG a b)=decide (b<a):=by
 unfold sG;by_cases h1:a<b
 .have:¬b<a:=by grind
  simp[h1,this]
 .by_cases h2:a=b
  .subst h2;simp[yar]
  .have:b<a:=by grind
   simp[h1,h2,this]
def BU:cF (.int .i64 1)=D5 1:=rfl
end VE
end
section
namespace VE
open Go (IntKind)
section
variable {P:aE}{L:Lib}
def auo(h:Rp P L)(JC:Has P L 315 Je){a b:Rat}{K M:Nat}(ka:Hq K a)(kb:Hq M b)(hK:K+M+1<=8000000000):af P L 315 [.str (RT a),.str (RT b)] (aa (sG a b)):=by
 have:=awn h JC ka kb hK
 rwa[aor] at this
end
end VE
end
section
namespace VE
open Go (IntKind)
def pw(b:Rat):Nat->Rat
 | 0=>1
 | n+1=>pw b n*b
def aa5(b:Rat)(m:Nat):∀n,pw b (m+n)=pw b m*pw b n
 | 0=>by rw[yS,pw,vl]
 | n+1=>by rw[<-uv,pw,pw,aa5 b m n,wX]
def IN{b:Rat}{K:Nat}(h:Hq K b):∀n,Hq (K*n+2) (pw b n)
 | 0=>awm.mono (by omega)
 | n+1=>((IN h n).mul h).mono (by rw[Nat.mul_succ];omega)
section
variable {P:aE}{L:Lib}
def ar5(h:Rn P L){b:Rat}{K k0:Nat}(hb:Hq K b)(hK:K*k0<=1000000000):
  cP P L [0,1,5] EG (fun m st=>∃i e o:Nat,st=⟨[(0,.str (RT (pw b i))),(1,aa e),(5,.str (RT (pw b o)))],[],0,0⟩/\o+i*e=k0/\e<9223372036854775808/\e=m) (fun ex st'=>∃tm ct,st'=⟨tm,[],ct,0⟩/\ex=.exit 0/\aj tm 5=.str (RT (pw b k0))):=by
 apply cT;rintro m st ⟨i,e,o,rfl,ho,he,rfl⟩;by_cases h0:0<e
 .left
  have hi:i<=k0:=by have:=yaw i h0;omega
  have ki:K*i<=1000000000:=y9 (yR K hi) hK;have ko:K*o<=1000000000:=y9 (yR K (show o<=k0 by omega)) hK;have e1:=M2 h (IN hb i) (IN hb i) (by omega);have e2:=M2 h (IN hb o) (IN hb i) (by omega);rw[<-aa5] at e1 e2;have r2:(e:Int).tmod 2=((e%2:Nat):Int):=rfl;have q2:(e:Int).tdiv 2=((e/2:Nat):Int):=rfl;have d0:(2:Int)≠0:=by decide
  have hs:e=2*(e/2)+e%2:=by omega
  have hm:e%2<2:=by omega
  unfold af at e1 e2;generalize e/2=f at*
  generalize e%2=g at*
  have w1:IntKind.wrap .i64 (g:Int)=g:=wrap64 (by omega) (by omega);have w2:IntKind.wrap .i64 (f:Int)=f:=wrap64 (by omega) (by omega);by_cases h1:g=1
  .have d1:decide ((g:Int)=1)=ycG:=yU (by omega);simp only[go_sem,ya,EG,show (0:Int)<(e:Int) by omega,xa,dY _ _ _ d0,dE _ _ _ d0,r2,q2,w2,d1,e1,e2];refine⟨_,f,rfl,by omega,i+i,f,o+i,by simp only[go_sem,ya,aA],?_,by omega,rfl⟩;rw[<-ho,hs,h1];grind
  .have d1:decide ((g:Int)=1)=ycH:=yW (by omega);simp only[go_sem,ya,EG,show (0:Int)<(e:Int) by omega,xa,dY _ _ _ d0,dE _ _ _ d0,r2,q2,w2,d1,e1];refine⟨_,f,rfl,by omega,i+i,f,o,by simp only[go_sem,ya,aA],?_,by omega,rfl⟩;have hg:g=0:=by omega
   rw[<-ho,hs,hg];grind
 .right
  obtain rfl:e=0:=by omega
  obtain rfl:o=k0:=by omega
  simp only[go_sem,ya,EG,show ¬(0:Int)<((0:Nat):Int) by omega,xf];exact⟨_,_,rfl,by simp,_,_,rfl,rfl,by simp only[go_sem,ya]⟩
def aei(h:Rn P L)(Dz:Has P L 389 E6){b:Rat}{K k:Nat}(hb:Hq K b)(hK:K*k<=1000000000)(hk:k<9223372036854775808):af P L 389 [.str (RT b),aa k] (.str (RT (pw b k))):=by
 unfold af;rw[aH Dz];simp only[go_sem,ya,E6,show ¬(k:Int)<0 by omega,xf];generalize hq:D P L (.loop _ EG) _=q;obtain⟨ex,st,rfl,tm,ct,rfl,rfl,t5⟩:=bF hq (ar5 h hb hK k) ⟨1,k,0,by simp only[go_sem,ya,aA,pw,yaR,awl],by omega,hk,rfl⟩;simp only[go_sem,aA,t5]
def aup(h:Rn P L)(JB:Has P L 283 Ja)(Dz:Has P L 389 E6){b:Rat}{K k:Nat}(hb:Hq K b)(hK:K*k<=1000000000)(hk:k<9223372036854775808)(k0:0<k)(b0:b≠0)(hK2:K<=1000000000):af P L 389 [.str (RT b),aa (-(k:Int))] (.str (RT (pw b⁻¹ k))):=by
 have e1:=aum h JB hb (by omega) b0;have e2:=aei h Dz (hb.inv) hK hk;unfold af at e1 e2 ⊢;rw[aH Dz];have w:IntKind.wrap .i64 (0 - -(k:Int))=k:=by rw[show (0:Int) - -(k:Int)=k by omega];exact wrap64 (by omega) (by omega)
 simp only[go_sem,ya,E6,show -(k:Int)<0 by omega,xa,e1,w,e2]
end
end VE
end
section
namespace VE
open Go (IntKind)
open Ieee
section
variable {s:Bool}{M:Nat}
structure Fy0(P:aE)(L:Lib):Prop extends Rn P L where
 T8:Has P L 265 Ns
 JB:Has P L 283 Ja
 Dz:Has P L 389 E6
structure Fy(P:aE)(L:Lib):Prop extends Fy0 P L where
 aej:Has P L 429 NA
 Ua:Has P L 430 NB
def ar6{b:Nat}(h:Fl b ycG M)(h0:M≠0):∃b',binOp .sub (.au .f32 0) (.au .f32 b)=D5 (.au .f32 b')/\Fl b' ycH M:=by
 obtain⟨m,e,h1,rfl⟩:=h.ex;obtain⟨b1,b2,b3,b4⟩:=h1.b;have m0:m≠0:=fun q=>h0 (by unfold dh;rw[q,wh])
 obtain⟨m',e',k1,k2,k3⟩:=GQ (n:=m) (k:=e) m0 b2 b1 b4 (m0:=dh m e) (e0:= -149) ycH (by
  rw[rU b1]
  have:p2 149*p2 (-149)=1:=by rw[<-j9];exact Dy
  rw[wX,this,vl])
 have e1:single.sub 0 b=D5 (single.write (.number ycH (dh m e) (-149))):=by
  unfold Format.sub;rw[h1.read,show single.read 0=.number ycH 0 (-149) by decide];show D5 (single.write (.number (if signed ycH 0 ((-149:Int)-min (-149) e).toNat+signed (!ycG) m (e-min (-149) e).toNat=0 then ycH&&(!ycG) else decide (signed ycH 0 ((-149:Int)-min (-149) e).toNat+signed (!ycG) m (e-min (-149) e).toNat<0)) (signed ycH 0 ((-149:Int)-min (-149) e).toNat+signed (!ycG) m (e-min (-149) e).toNat).natAbs (min (-149) e)))=_
  have hm:min (-149) e= -149:=by omega
  have hs:signed ycH 0 ((-149:Int)-min (-149) e).toNat+signed (!ycG) m (e-min (-149) e).toNat=(dh m e:Nat):=by
   rw[hm];unfold signed dh;simp only[xF,yA,xq,vU,wh];rw[show e - -149=e+149 by omega];simp
  rw[hs,hm,yx (by omega),uD,yW (by omega)]
 refine⟨_,?_,m',e',k1,(an9 k1.b.1 b1 k3).symm⟩;show (match single.sub 0 b with | some b=>D5 (AV.au .f32 b) | none=>D6)=_
 rw[e1]
def acw:∀k,pw 2 k=p2 k
 | 0=>by rw[show ((0:Nat):Int)=0 from rfl,Dy];rfl
 | k+1=>by
  have ih:=acw k;rw[show ((k+1:Nat):Int)=(k:Int)+1 from rfl,j9,Am,<-ih];show _=_
  simp only[pw]
def ar7(k:Nat):pw (2:Rat)⁻¹ k=p2 (-(k:Int)):=by
 have:∀k,pw (2:Rat)⁻¹ k*p2 k=1:=fun k=>by
  induction k with
  | zero=>rw[show ((0:Nat):Int)=0 from rfl,Dy];simp[pw]
  | succ k ih=>
   rw[show ((k+1:Nat):Int)=(k:Int)+1 from rfl,j9,Am];have h2:(2:Rat)⁻¹*2=1:=Rat.inv_mul_cancel _ (by decide);simp only[pw]
   have:pw (2:Rat)⁻¹ k*2⁻¹*(p2 k*2)=(pw (2:Rat)⁻¹ k*p2 k)*((2:Rat)⁻¹*2):=by grind
   rw[this,ih,h2,yaR]
 have h1:=this k;have h2:=RS (k:Int);have h3:pw (2:Rat)⁻¹ k*p2 k*p2 (-(k:Int))=p2 (-(k:Int)):=by rw[h1,yaR]
 rw[wX,yaC (p2 k),h2,vl] at h3;exact h3
section
variable {P:aE}{L:Lib}
def ar8(hs:s=ycG->M=0)(hM:M<2^277):
  cP P L [0,4] Ic (fun d st=>∃(b:Nat) (N:Nat) (k:Nat),d=N/\Fl b s N/\N*2^k=M/\(M=0->k=0)/\st=⟨[(0,.au .f32 b),(4,aa k)],[],0,0⟩) (fun ex s'=>∃tm ct b N,∃k:Nat,s'=⟨tm,[],ct,0⟩/\ex=.exit 0/\Fl b s N/\N*2^k=M/\N<2^173/\k<277/\aj tm 0=.au .f32 b/\aj tm 4=aa k):=by
 apply cT;rintro d st ⟨b,N,k,hd,hN,hq,hz,rfl⟩;have og:0<2^k:=y7 _;have hk:k<277:=by
  by_cases h0:M=0
  .rw [hz h0];decide
  .have N0:0<N:=by
    rcases xg N with q | q
    .rw [q,wh] at hq;exact absurd hq.symm h0
    .exact q
   have h1:2^k<=N*2^k:=vL _ N0;exact adZ k 277 (xY (by rw[hq] at h1;exact h1) hM)
 have e2:=acf hN aci;have hsN:bz s N=N:=by
  cases s with
  | false=>rfl
  | true=>
   have AK:=hs rfl
   have:N=0:=by
    rcases xg N with q | q
    .exact q
    .have:=wN q og;omega
   subst this;rfl
 have hc:(bz ycH (2^173)<=bz s N)↔2^173<=N:=by rw[hsN];exact yci
 by_cases c:2^173<=N
 .left
  have zc:=hN.even c;obtain⟨b',e3,bm⟩:=aa0 hN zc;rw[yU (hc.2 c)] at e2;have wk:IntKind.wrap .i64 ((k:Int)+1)=((k+1:Nat):Int):=wrap64 (by omega) (by omega);simp only[go_sem,ya,Ic,e2,e3,wk];have AK:M≠0:=fun q=>by
   have:=wN (show 0<N by omega) og
   omega
  refine⟨_,N/2,rfl,by omega,b',N/2,k+1,rfl,bm,by rw[y8,xb (2^k),<-y5,show N/2*2=N by omega,hq],fun q=>absurd q AK,?_⟩;simp only[go_sem,ya,aA,oU,pn]<;>rfl
 .right
  rw[yW (fun q=>c (hc.1 q))] at e2;simp only[go_sem,Ic,e2];exact⟨_,_,rfl,by simp,_,_,b,N,k,rfl,rfl,hN,hq,by omega,hk,by simp only[go_sem,ya],by simp only[go_sem,ya]⟩
def ajR{N:Nat}:(bz s N=bz (decide (bz s (N/2^149)<0)) (N/2^149*2^149))↔N%2^149=0:=by
 have ej:=xK N (2^149);have VS:N/2^149=0->N/2^149*2^149=0:=fun h=>by rw[h,wh]
 generalize hQ:N/2^149=q at*
 generalize hR:N%2^149=r at*
 rw[xb] at ej;generalize q*2^149=X at*
 unfold bz
 cases s with
 | false=>
  have:decide ((if ycH=ycG then -(q:Int) else (q:Int))<0)=ycH:=yW (by simp)
  rw[this];simp;omega
 | true=>
  rw[yN rfl,yN rfl];by_cases q0:q=0
  .have hX:=VS q0
   have:decide (-(q:Int)<0)=ycH:=yW (by omega)
   rw[this,yx (by decide)];omega
  .have:decide (-(q:Int)<0)=ycG:=yU (by omega)
   rw[this,yN rfl];omega
def ar9:
  cP P L [0,4] Ie (fun d st=>∃(b:Nat) (N:Nat) (j:Nat) (k:Int),d+j=149/\Fl b s N/\2^j∣N/\N<2^173/\(N:Rat)*p2 k=(M:Rat)/\-149<=k+j/\k+j<=277/\st=⟨[(0,.au .f32 b),(4,aa k)],[],0,0⟩) (fun ex s'=>∃tm ct b N,∃k:Int,s'=⟨tm,[],ct,0⟩/\ex=.exit 2/\Fl b s N/\N%2^149=0/\N<2^173/\(N:Rat)*p2 k=(M:Rat)/\-298<=k/\k<=277/\aj tm 0=.au .f32 b/\aj tm 4=aa k):=by
 apply cT;rintro d st ⟨b,N,j,k,hd,hN,hj,aB,hq,k1,k2,rfl⟩;have pR:N<2^200:=wW aB (by decide);have e1:=L5 hN pR;have hn:N/2^149<2^24:=by rw[xu (y7 _),<-xB];exact aB
 have ha:(bz s (N/2^149)).natAbs=N/2^149:=by unfold bz;split<;>omega
 obtain⟨c,e2,hc⟩:=aaf (n:=bz s (N/2^149)) (by omega);rw[ha] at hc;have e3:=acg hN hc;have hw:=ajR (s:=s) (N:=N);by_cases w:N%2^149=0
 .right
  rw[yU (hw.2 w)] at e3;simp only[go_sem,ya,Ie,e1,e2,e3,xF];exact⟨_,_,rfl,by simp,_,_,b,N,k,rfl,rfl,hN,w,aB,hq,by omega,by omega,by simp only[go_sem,ya],by simp only[go_sem,ya]⟩
 .left
  rw[yW (fun q=>w (hw.1 q))] at e3;have awq:N<2^172:=by
   by_cases q:N<2^172
   .exact q
   .exact absurd (hN.whole (by omega)) w
  obtain⟨b',e4,bm⟩:=aaZ hN (wW aB (adY 173 276 (by decide)));have JT:j<149:=by
   rcases wQ j 149 with q | q
   .exact q
   .have:j=149:=by omega
    subst this;exact absurd (yaD hj) w
  have wk:IntKind.wrap .i64 (k-1)=k-1:=wrap64 (by omega) (by omega);simp only[go_sem,ya,Ie,e1,e2,e3,xX,e4,wk];refine⟨_,d-1,rfl,by omega,b',2*N,j+1,k-1,by omega,bm,by rw[y8,xb (2^j)];exact yaQ 2 hj,by omega,?_,by omega,by omega,?_⟩
  .rw [<-hq,xE]
   have:p2 k=p2 1*p2 (k-1):=by rw[<-j9,show 1+(k-1)=k by omega]
   rw[this,Am];show (2:Rat)*(N:Rat)*p2 (k-1)=(N:Rat)*(2*p2 (k-1))
   grind
  .simp only [go_sem,ya,aA,oU,pn]<;>rfl
def aws(Ua:Has P L 430 NB){b:Nat}(hb:Fl b s M)(hs:s=ycG->M=0):∃(n:Nat) (k:Int),af P L 430 [.au .f32 b] (.ay [aa n,aa k])/\n<2^24/\-298<=k/\k<=277/\((n:Nat):Rat)*p2 k=jx s M:=by
 have l1:=ar8 (P:=P) (L:=L) hs hb.lt M;unfold af;rw[aH Ua];simp only[go_sem,NB];generalize hq:D P L (.loop _ Ic) _=q;obtain⟨ex,st,rfl,tm,ct,b',N,k,rfl,rfl,hN,VT,aB,hk,t0,t4⟩:=bF hq l1 ⟨b,M,0,rfl,hb,by rw[vz,yk],fun _=>rfl,by simp only[go_sem,ya,aA,oU,pn]<;>rfl⟩
 simp only[go_sem,aA,t0,t4,oU,pn];generalize hq:D P L (.loop _ Ie) _=q;have l2:=ar9 (P:=P) (L:=L) (s:=s) (M:=M) 149;obtain⟨ex,st,rfl,tm,ct,b2,N2,k2,rfl,rfl,VU,hw,pR,oJ,k3,k4,u0,u4⟩:=bF hq l2 ⟨b',N,0,k,rfl,hN,by rw[vz];exact ycy N,aB,by rw[<-VT,xE,lj],by omega,by omega,by simp only[go_sem,ya,aA,oU,pn]<;>rfl⟩
 have e1:=L5 VU (wW pR (by decide));have hn:N2/2^149<2^24:=by rw[xu (y7 _),<-xB];exact pR
 have hx:=aa4 (s:=s) oJ hw;have Cg:bz s (N2/2^149)=(N2/2^149:Nat):=by
  cases s with
  | false=>rfl
  | true=>
   have AK:=hs rfl
   have:N2=0:=by
    rw[AK] at oJ;have hp:=Ss k2;have h0:((N2:Nat):Rat)*p2 k2=0:=oJ;rcases Rat.mul_eq_zero.1 h0 with q | q
    .exact_mod_cast q
    .exact absurd q hp
   subst this;rfl
 rw[Cg] at hx e1;refine⟨N2/2^149,k2,?_,hn,k3,k4,hx⟩;simp only[go_sem,ya,aA,u0,u4,oU,pn,e1];rfl
end
end
end VE
end
section
namespace VE
open Go (IntKind)
section
variable {s:Bool}{M b:Nat}
def asa:RT (2:Rat)=[50]:=by decide
def Sw(h:Fl b s M):Hq 2500 (jx s M):=by
 have hM:=h.lt;have k1:Hq 278 (((bz s M:Int)):Rat):=Zm 278 (acu 278 277 hM (by decide)) (by decide);exact (k1.mul (T9 (-149) (by decide))).mono (by decide)
def aot(M:Nat):jx ycG M= -jx ycH M:=by
 unfold jx bz;rw[yN rfl,yx (by decide),ue];grind
section
variable {P:aE}{L:Lib}
def auq(h:Fy0 P L){k:Int}(h1: -300<=k)(h2:k<=300):af P L 389 [.str [50],aa k] (.str (RT (p2 k))):=by
 rw[<-asa];by_cases c:k<0
 .obtain ⟨n,rfl⟩:∃n:Nat,k= -(n:Int):=⟨k.natAbs,by omega⟩
  have:=aup h.toRn h.JB h.Dz Mx (k:=n) (by omega) (by omega) (by omega) (by decide) (by decide)
  rwa[ar7] at this
 .obtain ⟨n,rfl⟩:∃n:Nat,k=n:=⟨k.natAbs,by omega⟩
  have:=aei h.toRn h.Dz Mx (k:=n) (by omega) (by omega)
  rwa[acw] at this
def aa6(h:Fy P L)(hb:Fl b s M)(hs:s=ycG->M=0):af P L 429 [.au .f32 b] (.str (RT (jx s M))):=by
 obtain⟨n,k,e1,hn,k1,k2,hq⟩:=aws h.Ua hb hs;have e0:=ace hb Fl.zero;have aB:¬bz s M<bz ycH 0:=by
  cases s with
  | false=>show ¬(M:Int)<0;omega
  | true=>rw[hs rfl];decide
 rw[yW aB] at e0;have e2:=auj h.toRm h.T8 (n:=(n:Int)) (by omega);have e3:=auq h.toFy0 (k:=k) (by omega) (by omega);have kn:Hq 25 (((n:Int):Int):Rat):=⟨by rw[uf];unfold Bd;rw[uD];omega,by rw[ug];unfold Bd;decide⟩
 have e4:=M2 h.toRn kn (T9 k (by omega)) (by decide);have bE:(((n:Nat):Int):Rat)*p2 k=jx s M:=hq;rw[bE] at e4;unfold af at e1 e2 e3 e4;unfold af;rw[aH h.aej];simp only[go_sem,ya,NA,e0,mQ,e1,QD,PK,P9,e2,e3,e4]
def awt(h:Fy P L)(hb:Fl b s M):af P L 429 [.au .f32 b] (.str (RT (jx s M))):=by
 by_cases hs:s=ycG->M=0
 .exact aa6 h hb hs
 .have lP:s=ycG:=Classical.byContradiction fun q=>hs fun q'=>absurd q' q
  have hM:M≠0:=fun q=>hs fun _=>q
  subst lP;obtain⟨b',e1,bm⟩:=ar6 hb hM;have e2:=aa6 h bm (fun q=>by cases q);have e3:=acq h.toRp (Sw bm) (by decide);rw[<-aot] at e3;have e0:=ace hb Fl.zero;have aB:bz ycG M<bz ycH 0:=by show -(M:Int)<0;omega
  rw[yU aB] at e0;unfold af at e2 e3;unfold af;rw[aH h.aej];simp only[go_sem,ya,NA,e0,e1,mQ,e2,e3]
end
end
end VE
end
section
namespace VE
open Go (IntKind)
section
variable {P:aE}{L:Lib}
def Yn{b x:Nat}{H:Hp}(hx:x<b):∀{aek:Hp},(∀p,p∈aek->b<=p.1)->ai (aek++H) x=ai H x
 | [],_=>rfl
 | (id,o)::r,h=>by
  have:=h (id,o) (by simp)
  simp only[ym];rw[ai,iR (by simp only at this;omega),yJ,Yn hx (fun p hp=>h p (by simp[hp]))]
end
end VE
end
section
namespace VE
open Go (IntKind)
def ahy{a:Int}{l:List Int}:b8 (a::l)=0↔a=0/\b8 l=0:=by
 simp only[b8]
 grind
end VE
end
section
namespace VE
open Go (IntKind)
open Ieee
def eZ(b:Nat):Bool:=match single.read b with
 | .number .. =>ycG
 | _=>ycH
def sK:List AV->Option AV
 | [.au .f32 b]=>D5 (.bool (eZ b))
 | _=>D6
def Fl.fin{b M:Nat}{s:Bool}(h:Fl b s M):eZ b=ycG:=by
 obtain⟨m,e,h1,_⟩:=h.ex;unfold eZ;rw[h1.read]
def asb{b:Nat}(hb:b<4294967296):(∃s M,Fl b s M)\/eZ b=ycH:=by
 rcases arM (f:=single) (b:=b) hb (by decide) with ⟨s,m,e,h⟩ | h
 .exact .inl ⟨s,_,⟨m,e,h,rfl⟩⟩
 .right
  unfold eZ
  cases hr:single.read b with
  | number s m e=>exact absurd hr (h s m e)
  | _=>rfl
abbrev cN(l:List Nat):List AV:=l.map (.au .f32)
end VE
end
section
namespace VE
open Go
open Ieee
def aam{b m:Nat}{s:Bool}{e:Int}(h:single.read b=.number s m e):single.sub b b=D5 0:=by
 unfold Format.sub;rw[h];show D5 (single.write (.number (if signed s m (e-min e e).toNat+signed (!s) m (e-min e e).toNat=0 then s&& !s else decide (signed s m (e-min e e).toNat+signed (!s) m (e-min e e).toNat<0)) (signed s m (e-min e e).toNat+signed (!s) m (e-min e e).toNat).natAbs (min e e)))=D5 0
 have h0:signed s m (e-min e e).toNat+signed (!s) m (e-min e e).toNat=0:=by
  unfold signed;cases s<;>simp<;>omega
 rw[h0,yN rfl];have hs:(s&& !s)=ycH:=by cases s<;>rfl
 rw[hs];rfl
def aou{b:Nat}(h:∀s m e,single.read b≠.number s m e):single.sub b b=D6:=by
 unfold Format.sub
 cases hr:single.read b with
 | number s m e=>exact absurd hr (h s m e)
 | infinity s=>cases s<;>rfl
 | nan s t=>rfl
def aov{x:Nat}(hx:x<8388607)(t:Nat):single.order (t%2*2147483648+2139095040+1+x) 0=D6:=by
 have hm:(t%2*2147483648+2139095040+1+x)%2147483648=2139095041+x:=by omega
 have hr:∃s n,single.read (t%2*2147483648+2139095040+1+x)=.nan s n:=by
  unfold Format.read;simp only[show single.signWeight=2147483648 from rfl,show single.binade=8388608 from rfl,show single.infRung=2139095040 from rfl];rw[hm,yx (by omega),yx (by omega),yx (by omega)];exact⟨_,_,rfl⟩
 obtain⟨s,n,hr⟩:=hr;unfold Format.order;rw[hr];rfl
def aan(P:xi)(b:Nat)(w:yi):∃r w1,(∀t,(xR .sub t (.float .f32 b) (.float .f32 b)).run P w=.ok (.float .f32 r) w1)/\Calm w w1/\(∀t w',(xR .eql t (.float .f32 r) (.float .f32 0)).run P w'=.ok (.bool (eZ b)) w'):=by
 by_cases h:∃s m e,single.read b=.number s m e
 .obtain ⟨s,m,e,h⟩:=h;have h1:FloatKind.f32.format.sub b b=D5 0:=aam h;refine⟨0,w,fun t=>?_,Calm.refl,fun t w'=>?_⟩
  .simp [xR,Op.floatArith,h1]
  .have:eZ b=ycG:=by unfold eZ;rw[h]
   rw[this];rfl
 .have h':∀s m e,single.read b≠.number s m e:=fun s m e q=>h ⟨s,m,e,q⟩
  have h1:FloatKind.f32.format.sub b b=D6:=aou h';obtain⟨t0,VK⟩:∃t0,t0=w.tape w.drawn (.nanBits .f32 b b):=⟨_,rfl⟩;refine⟨(Question.nanBits .f32 b b).cut t0,w.drew,fun t=>?_,⟨rfl,rfl,rfl,yq _,fun _ _=>rfl⟩,fun t w'=>?_⟩
  .rw [VK];simp[xR,Op.floatArith,h1,Question.forced]
  .have:eZ b=ycH:=by
    unfold eZ
    cases hr:single.read b with
    | number s m e=>exact absurd hr (h' s m e)
    | _=>rfl
   rw[this];have hc:=aov (x:=t0/2%8388607) (xp _ (by decide)) t0;have jw:FloatKind.f32.format.order ((Question.nanBits .f32 b b).cut t0) 0=D6:=hc;simp[xR,Op.floatCmp,jw]
variable {O:bk}
def aao{n:Nat}(eS:∀args w,(callFunc (O.ab n) args).run O.P w=.ok (.enter (O.ab n) args) w)(hc:∀(b:Nat) (w:yi),wg O.P (O.ab n) #[.float .f32 b] w fun e w'=>e=.returned (.bool (eZ b))/\Calm w w'):∀ap r,sK ap=D5 r->dL O n ap r:=by
 intro ap r h;unfold sK at h
 split at h
 .rename_i b;simp only[yb] at h;subst h;refine nL YK eS ?_;intro w S args hg dl;obtain⟨u,rfl,h1⟩:=Db dl;simp only[ae] at h1;subst h1;refine (hc b w).mono ?_;rintro e w' ⟨rfl,h2⟩;exact⟨_,rfl,h2,fun S=>by simp only[ae]⟩
 .cases h
end VE
end
section
namespace Go.Proofs
open Go.RowKit
def Tryz.Oa(b:Nat)(w:yi):wg Tryz.prog 78 #[.float .f32 b] w fun e w'=>e=.returned (.bool (VE.eZ b))/\VE.Calm w w':=by
 obtain⟨r,w1,h1,h2,h3⟩:=VE.aan Tryz.prog b w
 go_enter Tryz.func78,Tryz.ntmps78
 go_wp2_with (simp only[h1,h3])
 go_ret
 exact⟨rfl,h2⟩
def Tryz.awu(b:Nat)(w:yi):wg Tryz.prog 148 #[.float .f32 b] w fun e w'=>e=.returned (.bool (VE.eZ b))/\VE.Calm w w':=by
 obtain⟨r,w1,h1,h2,h3⟩:=VE.aan Tryz.prog b w
 go_enter Tryz.func148,Tryz.ntmps148
 go_wp2_with (simp only[h1,h3])
 go_ret
 exact⟨rfl,h2⟩
end Go.Proofs
end
section
namespace VE
open Go
section
variable {H:Type}{enc:yu×yg->H}{P:xi}{w:yi}{base:Nat}{sp:Nat->Bool}{held:Bool}
def mapM_mem{α β:Type}{f:α->Option β}:∀{l:List α} {r:List β},l.mapM f=D5 r->∀y,y∈r->∃x,f x=D5 y
 | [],r,h,y,hy=>by simp only[List.mapM_nil,wM,yb] at h;subst h;cases hy
 | x::l,r,h,y,hy=>by
  rw[uo] at h
  cases h1:f x with
  | none=>simp[h1] at h
  | some z=>
   cases h2:l.mapM f with
   | none=>simp[h1,h2] at h
   | some zs=>
    simp only[h1,h2,wu,vG,wM,yb] at h;subst h;rcases xn.1 hy with rfl | hy
    .grind
    .exact mapM_mem h2 y hy
def Rd(enc:yu×yg->H)(P:xi)(w:yi)(base:Nat)(sp:Nat->Bool)(held:Bool)(t:yu)(d:xM H):Prop:=∃bh cs ps,DataW.trod enc P w base sp held bh t cs=D5 (d,ps)
def asd{t:yu}{k:yZ}{d:xM H}{n:Nat}(ht:P.underlying t=D5 (.int k))(h:Rd enc P w base sp held t d):∃z,cA P (n+1) t d=[.int k z]/\(Lit.int k z).wf=ycG:=by
 obtain⟨bh,cs,ps,h⟩:=h
 cases bh with
 | zero=>simp[DataW.trod] at h
 | succ bh=>
  unfold DataW.trod at h
  split at h
  all_goals first
   | (rename_i hu;rw[ht] at hu;cases hu;done)
   | skip
  .rename_i k1 k2 z hu;rw[ht] at hu;injection hu with hu
   injection hu with hu
   subst hu
   split at h
   .rename_i hk;obtain⟨rfl,rfl⟩:=h;exact⟨z,by simp only[cA,ht],hk.2⟩
   .cases h
  grind
def alZ{t e:yu}{d:xM H}{n:Nat}(ht:P.underlying t=D5 (.slice e))(h:Rd enc P w base sp held t d):
  cA P (n+1) t d=[.ah]\/∃(x:Bool) (jI:List (xM H)),cA P (n+1) t d=[.aq x jI.length (jI.flatMap fun y=>cA P n e y)]/\∀y,y∈jI->Rd enc P w base sp held e y:=by
 obtain⟨bh,cs,ps,h⟩:=h
 cases bh with
 | zero=>simp[DataW.trod] at h
 | succ bh=>
  unfold DataW.trod at h
  split at h
  all_goals first
   | (rename_i hu;rw[ht] at hu;cases hu;done)
   | skip
  .simp only [yb,yj] at h;obtain⟨rfl,rfl⟩:=h;exact .inl (by simp only[cA,ht])
  .rename_i e' a len cap hu;rw[ht] at hu;injection hu with hu
   injection hu with hu
   subst hu;simp only at h
   split at h
   case isFalse=>cases h
   cases h1:(List.range len).mapM fun i=>(w.cells? base (a.add (i*P.cellsOf e)) (P.cellsOf e)).bind (DataW.trod enc P w base sp held bh e) with
   | none=>rw[h1] at h;simp at h
   | some jI=>
    rw[h1] at h;obtain⟨rest,_,h⟩:=wD.1 h;obtain⟨rfl,rfl⟩:=h;refine .inr ⟨(rest.map (·.1)).isEmpty,jI.map (·.1),by simp only[cA,ht,yX],?_⟩;intro y hy;obtain⟨p,hp,rfl⟩:=yaf.1 hy;obtain⟨i,hi⟩:=mapM_mem h1 p hp;obtain⟨cW,_,As⟩:=Option.bind_eq_some_iff.1 hi;exact⟨bh,cW,p.2,As⟩
  grind
def ajS{t:yu}{fs:Array vI}{d:xM H}{n:Nat}(ht:P.underlying t=D5 (.struct fs))(h:Rd enc P w base sp held t d):
  ∃ds:List (xM H),ds.length=fs.toList.length/\cA P (n+1) t d=(fs.toList.zip ds).flatMap (fun x=>cA P n x.1.type x.2)/\∀i (h1:i<fs.toList.length) (h2:i<ds.length),Rd enc P w base sp held fs.toList[i].type ds[i]:=by
 obtain⟨bh,cs,ps,h⟩:=h
 cases bh with
 | zero=>simp[DataW.trod] at h
 | succ bh=>
  unfold DataW.trod at h
  split at h
  all_goals first
   | (rename_i hu;rw[ht] at hu;cases hu;done)
   | (cases h;done)
   | skip
  rename_i cs x1 Ki fs' hu;rw[ht] at hu;injection hu with hu
  injection hu with hu
  subst hu
  split at h
  case isFalse=>cases h
  obtain⟨xs,h1,h⟩:=wD.1 h;obtain⟨rfl,rfl⟩:=h;refine⟨xs.map (·.1),by simp[Lk h1],by simp only[cA,ht],?_⟩;have key:∀{r:List vI} {xs:List (xM H×List wA)},r.mapM (fun f=>DataW.trod enc P w base sp held bh f.type ((cs.drop f.offset).take (P.cellsOf f.type)))=D5 xs->
    ∀i (h1:i<r.length) (h2:i<(xs.map (·.1)).length),Rd enc P w base sp held r[i].type (xs.map (·.1))[i]:=by
   intro r
   induction r with
   | nil=>intro xs h i h1;exact absurd h1 (ybu i)
   | cons f r ih=>
    intro xs h i h1 h2;rw[uo] at h
    cases g1:DataW.trod enc P w base sp held bh f.type ((cs.drop f.offset).take (P.cellsOf f.type)) with
    | none=>simp[g1] at h
    | some x=>
     cases g2:r.mapM (fun f=>DataW.trod enc P w base sp held bh f.type ((cs.drop f.offset).take (P.cellsOf f.type))) with
     | none=>simp[g1,g2] at h
     | some ys=>
      simp only[g1,g2,wu,vG,wM,yb] at h;subst h
      cases i with
      | zero=>exact⟨bh,_,x.2,g1⟩
      | succ i=>exact ih g2 i (by simpa using h1) (by simpa using h2)
  exact key h1
def al0{t e:yu}{k:Nat}{d:xM H}{n:Nat}(ht:P.underlying t=D5 (.array k e))(h:Rd enc P w base sp held t d):
  ∃ds:List (xM H),ds.length=k/\cA P (n+1) t d=ds.flatMap (fun x=>cA P n e x)/\∀y,y∈ds->Rd enc P w base sp held e y:=by
 obtain⟨bh,cs,ps,h⟩:=h
 cases bh with
 | zero=>simp[DataW.trod] at h
 | succ bh=>
  unfold DataW.trod at h
  split at h
  all_goals first
   | (rename_i hu;rw[ht] at hu;cases hu;done)
   | (cases h;done)
   | skip
  rename_i cs x1 Ki k' e' hu;rw[ht] at hu;injection hu with hu
  injection hu with rz AB
  subst rz;subst AB
  split at h
  case isFalse=>cases h
  obtain⟨xs,h1,h⟩:=wD.1 h;obtain⟨rfl,rfl⟩:=h;refine⟨xs.map (·.1),by simp[Lk h1],by simp only[cA,ht],fun y hy=>?_⟩;obtain⟨p,hp,rfl⟩:=yaf.1 hy;obtain⟨i,hi⟩:=mapM_mem h1 p hp;exact⟨bh,_,p.2,hi⟩
end
end VE
end
section
namespace VE
open Go
inductive Ty
 | int (k:yZ)
 | au (k:xO)
 | bool
 | str
 | sl (e:Ty)
 | nil
 | cat (a b:Ty)
 | ar (n:Nat) (e:Ty)
def lS:Ty->List AV->Prop
 | .int k,l=>∃z,l=[.int k z]/\(Lit.int k z).wf=ycG
 | .au k,l=>∃b,l=[.au k b]/\(Lit.float k b).wf=ycG
 | .bool,l=>∃b,l=[.bool b]
 | .str,l=>∃s:List Nat,l=[.str s]/\s.length<9223372036854775808/\∀c,c∈s->c<256
 | .sl e,l=>l=[.ah]\/∃(x:Bool) (ps:List (List AV)),l=[.aq x ps.length ps.flatten]/\∀p,p∈ps->lS e p
 | .nil,l=>l=[]
 | .cat a b,l=>∃x y,l=x++y/\lS a x/\lS b y
 | .ar n e,l=>∃ps:List (List AV),ps.length=n/\l=ps.flatten/\∀p,p∈ps->lS e p
def nd:List (Option Ty)->Option Ty
 | []=>D5 .nil
 | some a::r=>match nd r with
  | some b=>D5 (.cat a b)
  | none=>D6
 | none::_=>D6
def fF(P:xi):Nat->yu->Option Ty
 | 0,_=>D6
 | n+1,t=>
  match P.underlying t with
  | some .bool=>D5 .bool
  | some (.int k)=>D5 (.int k)
  | some (.float k)=>D5 (.au k)
  | some .string=>D5 .str
  | some (.slice e)=>(fF P n e).map .sl
  | some (.struct fs)=>nd (fs.toList.map fun f=>fF P n f.type)
  | some (.array k e)=>(fF P n e).map (.ar k)
  | _=>D6
section
variable {H:Type}{enc:yu×yg->H}{P:xi}{w:yi}{base:Nat}{sp:Nat->Bool}{held:Bool}
def ase{t:yu}{k:xO}{d:xM H}{n:Nat}(ht:P.underlying t=D5 (.float k))(h:Rd enc P w base sp held t d):∃b,cA P (n+1) t d=[.au k b]/\(Lit.float k b).wf=ycG:=by
 obtain⟨bh,cs,ps,h⟩:=h
 cases bh with
 | zero=>simp[DataW.trod] at h
 | succ bh=>
  unfold DataW.trod at h
  split at h
  all_goals first
   | (rename_i hu;rw[ht] at hu;cases hu;done)
   | skip
  .rename_i k1 k2 z hu;rw[ht] at hu;injection hu with hu
   injection hu with hu
   subst hu
   split at h
   .rename_i hw;obtain⟨rfl,rfl⟩:=h;exact⟨z,by simp only[cA,ht],hw.2⟩
   .cases h
  grind
def aow{t:yu}{d:xM H}{n:Nat}(ht:P.underlying t=D5 .bool)(h:Rd enc P w base sp held t d):∃b,cA P (n+1) t d=[.bool b]:=by
 obtain⟨bh,cs,ps,h⟩:=h
 cases bh with
 | zero=>simp[DataW.trod] at h
 | succ bh=>
  unfold DataW.trod at h
  split at h
  all_goals first
   | (rename_i hu;rw[ht] at hu;cases hu;done)
   | skip
  .simp only [yb,yj] at h;obtain⟨rfl,rfl⟩:=h;rename_i b _;exact⟨b,by simp only[cA,ht]⟩
  grind
def asf{t:yu}{d:xM H}{n:Nat}(ht:P.underlying t=D5 .string)(h:Rd enc P w base sp held t d):
  ∃s:List Nat,cA P (n+1) t d=[.str s]/\s.length<9223372036854775808/\∀c,c∈s->c<256:=by
 obtain⟨bh,cs,ps,h⟩:=h
 cases bh with
 | zero=>simp[DataW.trod] at h
 | succ bh=>
  unfold DataW.trod at h
  split at h
  all_goals first
   | (rename_i hu;rw[ht] at hu;cases hu;done)
   | skip
  .rename_i s hu
   split at h
   .rename_i hs;obtain⟨rfl,rfl⟩:=h;refine⟨_,by simp only[cA,ht];rfl,?_,fun c hc=>?_⟩
    .simp only [yX,Array.length_toList];have h1:s.size<=9223372036854775807:=hs;have h2:s.data.size=s.size:=rfl;omega
    .obtain ⟨b,_,rfl⟩:=yaf.1 hc;exact b.toNat_lt
   .cases h
  grind
def Xw{n:Nat}(ih:∀{t:yu} {T:Ty} {d:xM H},fF P n t=D5 T->Rd enc P w base sp held t d->lS T (cA P n t d)):
  ∀(fs:List vI) (ds:List (xM H)) (T:Ty),nd (fs.map fun f=>fF P n f.type)=D5 T->ds.length=fs.length->(∀i (h1:i<fs.length) (h2:i<ds.length),Rd enc P w base sp held fs[i].type ds[i])->
   lS T ((fs.zip ds).flatMap fun x=>cA P n x.1.type x.2)
 | [],ds,T,hT,_,_=>by
  simp only[wF,nd,yb] at hT;subst hT;simp[lS]
 | f::fs,[],T,_,hl,_=>by simp at hl
 | f::fs,d::ds,T,hT,hl,hr=>by
  simp only[yV] at hT
  cases h1:fF P n f.type with
  | none=>simp[h1,nd] at hT
  | some a=>
   cases h2:nd (fs.map fun f=>fF P n f.type) with
   | none=>simp[h1,h2,nd] at hT
   | some b=>
    simp only[h1,h2,nd,yb] at hT;subst hT;exact⟨_,_,rfl,ih h1 (hr 0 (by simp) (by simp)),Xw ih fs ds b h2 (by simpa using hl) (fun i h1 h2=>hr (i+1) (by simpa using h1) (by simpa using h2))⟩
def aa7:∀(n:Nat) {t:yu} {T:Ty} {d:xM H},fF P n t=D5 T->Rd enc P w base sp held t d->lS T (cA P n t d)
 | 0,t,T,d,hT,_=>by simp[fF] at hT
 | n+1,t,T,d,hT,hr=>by
  have ih:=@aa7 n
  cases hu:P.underlying t with
  | none=>simp[fF,hu] at hT
  | some u=>
   cases u with
   | slice e=>
    simp only[fF,hu] at hT;obtain⟨E,hE,rfl⟩:=wD.1 hT
    rcases alZ (n:=n) hu hr with h | ⟨x,jI,h,hm⟩
    .exact .inl h
    .refine .inr ⟨x,jI.map (cA P n e),by rw[h,yX,ybj],fun p hp=>?_⟩
     grind
   | struct fs=>
    simp only[fF,hu] at hT;obtain⟨ds,e1,e2,e3⟩:=ajS (n:=n) hu hr;rw[e2];exact Xw ih fs.toList ds T hT e1 e3
   | array k e=>
    simp only[fF,hu] at hT;obtain⟨E,hE,rfl⟩:=wD.1 hT;obtain⟨ds,e1,e2,e3⟩:=al0 (n:=n) hu hr;refine⟨ds.map (cA P n e),by simp[e1],by rw[e2,ybj],fun p hp=>?_⟩
    grind
   | int k=>
    simp only[fF,hu,yb] at hT;subst hT;exact asd hu hr
   | float k=>
    simp only[fF,hu,yb] at hT;subst hT;exact ase hu hr
   | bool=>
    simp only[fF,hu,yb] at hT;subst hT;exact aow hu hr
   | string=>
    simp only[fF,hu,yb] at hT;subst hT;exact asf hu hr
   | _=>simp[fF,hu] at hT
def Fi:Ty->List AV->AV
 | .nil,l | .cat _ _,l | .ar _ _,l=>.agg l
 | _,l=>l.headD .undef
def ajT:∀{l:List (Option Ty)} {T:Ty},nd l=D5 T->∀x,Fi T x=.agg x
 | [],T,h=>by simp only[nd,yb] at h;subst h;exact fun _=>rfl
 | none::r,T,h=>by simp[nd] at h
 | some a::r,T,h=>by
  cases h1:nd r with
  | none=>simp[nd,h1] at h
  | some b=>
   simp only[nd,h1,yb] at h;subst h;exact fun _=>rfl
def aur{n:Nat}{t:yu}{T:Ty}{d:xM H}(hT:fF P n t=D5 T):lm P n t d=Fi T (cA P n t d):=by
 cases n with
 | zero=>simp[fF] at hT
 | succ n=>
  cases hu:P.underlying t with
  | none=>simp[fF,hu] at hT
  | some u=>
   cases u with
   | slice e=>
    simp only[fF,hu] at hT;obtain⟨E,hE,rfl⟩:=wD.1 hT;simp only[lm,hu,Fi]
   | struct fs=>
    simp only[fF,hu] at hT;rw[ajT hT];simp only[lm,hu]
   | array k e=>
    simp only[fF,hu] at hT;obtain⟨E,hE,rfl⟩:=wD.1 hT;simp only[lm,hu,Fi]
   | _=>
    simp only[fF,hu,yb,reduceCtorEq] at hT<;>
    (subst hT
     simp only[lm,hu,Fi])
def IP:List Ty->List (List AV)->List AV
 | T::Ts,l::ls=>Fi T l::IP Ts ls
 | _,_=>[]
def Zn{n:Nat}:∀{ts:List yu} {Ts:List Ty} {vs:List yg} {ds:List (xM H)} {ps:List wA},(ts.map (fF P n))=Ts.map D5->DataW.TrodAll enc P w base sp held ts vs ds ps->
  ∃ls,js lS Ts ls/\zO P n ts ds=IP Ts ls/\ds.length=ts.length
 | [],[],[],[],ps,_,_=>⟨[],trivial,rfl,rfl⟩
 | t::ts,T::Ts,v::vs,d::ds,ps,hT,⟨p,q,⟨bh,h1⟩,h2,_⟩=>by
  simp only[yV,uN] at hT;have⟨ls,k1,k2,k3⟩:=Zn hT.2 h2;exact⟨cA P n t d::ls,⟨aa7 n hT.1 ⟨bh,_,_,h1⟩,k1⟩,by simp only[zO,IP,k2,aur hT.1],by simp[k3]⟩
 | [],_::_,_,_,_,h,_=>by simp at h
 | _::_,[],_,_,_,h,_=>by simp at h
 | [],[],_::_,_,_,_,h=>by simp[DataW.TrodAll] at h
 | [],[],[],_::_,_,_,h=>by simp[DataW.TrodAll] at h
 | _::_,_,[],_,_,_,h=>by simp[DataW.TrodAll] at h
 | _::_,_,_::_,[],_,_,h=>by simp[DataW.TrodAll] at h
def asg{α β:Type}{p:α->β->Prop}{a:α}:∀{l:List β},js p [a] l->∃x,l=[x]/\p a x
 | [x],h=>⟨x,rfl,h.1⟩
 | [],h=>h.elim
 | _::_::_,h=>h.2.elim
def ash{α β:Type}{p:α->β->Prop}{a b:α}:∀{l:List β},js p [a,b] l->∃x y,l=[x,y]/\p a x/\p b y
 | x::l,h=>let ⟨y,h1,h2⟩:=asg h.2;⟨x,y,by rw[h1],h.1,h2⟩
 | [],h=>h.elim
end
end VE
end
section
namespace VE
open Go (IntKind)
def rJ{lv:List Nat}{tm tm':Env}{hp:Hp}{c c' b:Nat}(hk:aY tm lv=aY tm' lv):bg lv ⟨tm,hp,c,b⟩=bg lv ⟨tm',hp,c',b⟩:=by
 simp only[bg,hk]
def c6(C R S:Nat):AV:=.bJ [aa C,aa R,aa S]
def Ob(l C R S k:Nat):Env:=[(0,.fn (.y l) [] []),(1,c6 C R S),(8,aa ((C*R:Nat):Int)),(9,aa k)]
def Ir(cs:List AV):Bo 0 (.bJ cs)=D5 (.bJ cs):=rfl
def aa8(a:AV)(cs:List AV):Bo 1 (.bJ (a::cs))=D5 (.bJ cs):=by
 show (bif yz 1 (cs.length+1) then D5 (AV.bJ cs) else D6)=_
 rw[yt (by omega),yr]
def My(a b:AV)(cs:List AV):Bo 2 (.bJ (a::b::cs))=D5 (.bJ cs):=by
 show (bif yz 2 (cs.length+1+1) then D5 (AV.bJ cs) else D6)=_
 rw[yt (by omega),yr]
def Ub{P:aE}{L:Lib}{f:bZ}{hp:Hp}{ct l:Nat}{xs:List AV}:eb P L f hp ct .heap (.fn (.y l) [] []) xs=iP f hp ct l xs:=rfl
end VE
end
section
namespace VE
open Go (IntKind)
section
variable {lv ps:List Nat}
def Xx{f:Nat->Option Nat}:∀{E:Env},nY E=ycG->dt f E=E
 | [],_=>rfl
 | (i,v)::r,h=>by
  simp only[nY,ye] at h;simp only[dt,oR _ h.1]
  rw[Xx (E:=r) h.2]
def M3(B l:Nat)(hp:Hp):List Nat:=reach hp B 100000 (l::bH B hp) []
def my(B l:Nat)(hp:Hp):Hp×Nat:=(dP hp (fA B (M3 B l hp)) (M3 B l hp) B (eM B (fA B (M3 B l hp)) hp),B+(M3 B l hp).length)
def Yo{tm rest:Env}{hp:Hp}{ct B l:Nat}(hk:aY tm lv=(0,.fn (.y l) [] [])::rest)(hr:nY rest=ycG)(hl:l<B):
  bg lv ⟨tm,hp,ct,B⟩=⟨(0,.fn (.y l) [] [])::rest,(my B l hp).1,(my B l hp).2,B⟩:=by
 have e:ck ((0,AV.fn (.y l) [] [])::rest)=[l]:=by
  rw[Xm,PL hr];rfl
 have e2:∀f:Nat->Option Nat,f l=D5 l->dt f ((0,AV.fn (.y l) [] [])::rest)=(0,.fn (.y l) [] [])::rest:=fun f hf=>by
  simp only[dt,bi,hf,dd];rw[Xx hr]
 simp only[bg,hk,e,ym,yD];rw[e2 _ (by simp only[fA,mV hl,yr])];rfl
def Cz{tm rest:Env}{hp H:Hp}{ct B l c:Nat}(hk:aY tm lv=(0,.fn (.y l) [] [])::rest)(hr:nY rest=ycG)(hl:l<B)(h:my B l hp=(H,c)):
  bg lv ⟨tm,hp,ct,B⟩=⟨(0,.fn (.y l) [] [])::rest,H,c,B⟩:=by
 rw[Yo hk hr hl,h]
def jj(a b:Nat):AV:=.bJ [aa a,aa b]
def Is(l C R S a b k:Nat):Env:=[(0,.fn (.y l) [] []),(1,c6 C R S),(2,jj a b),(7,aa S),(8,aa k)]
def RU(l C R S a b k i:Nat):Env:=[(0,.fn (.y l) [] []),(1,c6 C R S),(2,jj a b),(4,aa k),(7,aa S),(8,aa k),(12,aa S),(13,aa i)]
def Pe(S a b k i:Nat):List AV:=[.agg [aa i,aa k],.agg [aa ((a*S+i:Nat):Int),aa ((b*S+k:Nat):Int)]]
structure Rnd(Inv:Nat->Hp->Nat->Prop)(B l:Nat):Prop where
 y:∀{j H c},Inv j H c->my B l H=(H,c)
 z:∀{j H c},Inv j H c->∀tm ct,bg [] ⟨tm,H,ct,B⟩=⟨[],H,c,B⟩
 l:∀{j H c},Inv j H c->∃tm p a b,ai H l=D5 (.lp tm p a b 0 .none)
section
variable {P:aE}{L:Lib}
def aus(Oc:Has P L 719 Jj){f:X}{as_ body:VC}{s:St}{C R S a b:Nat}(hS:S<=8)(ha:a<=8)(hb:b<=8)(hf:aw s.tm f=.fn (.f 719) [] [c6 C R S,jj a b]){Inv:Nat->Hp->Nat->Prop}(hI:Rnd Inv (s.ct+1) s.ct)(h0:∃H c,my (s.ct+1) s.ct ((s.ct,.lp s.tm ps as_ body 0 .none)::s.hp)=(H,c)/\Inv 0 H c)(hr:∀k i H c,k<S->i<S->Inv (k*S+i) H c->∃hp aK H' c',iP (D P L) H c s.ct (Pe S a b k i)=D5 (.bool ycG,hp,aK)/\my (s.ct+1) s.ct hp=(H',c')/\Inv (k*S+i+1) H' c'):
  ∃H c,Inv (S*S) H c/\D P L (.rf f ps as_ body) s=D5 (.normal,⟨s.tm,cl H s.ct,c,s.base⟩):=by
 have Uc:∀k,k<S->_:=fun k hk=>jm P L [0,1,2,4,7,8,12,13] Ih
  (fun d st=>∃i H c,i+d=S/\Inv (k*S+i) H c/\st=⟨RU s.ct C R S a b k i,H,c,s.ct+1⟩)
  (fun ex st=>ex=.exit 2/\∃tm ct H c,Inv (k*S+S) H c/\st=⟨tm,H,ct,s.ct+1⟩/\aY tm [0,1,2,7,8]=Is s.ct C R S a b k) (by
  rintro d st ⟨i,H,c,hid,b9,rfl⟩;by_cases hi:i<S
  .left
   obtain⟨hp,aK,H',c',e,zk,kv⟩:=hr k i H c hk hi b9;have b1:a*S<=64:=xd ha hS;have b2:b*S<=64:=xd hb hS;have m1:(a:Int)*(S:Int)=((a*S:Nat):Int):=by rw[xx]
   have m2:(b:Int)*(S:Int)=((b*S:Nat):Int):=by rw[xx]
   have a1:((a*S:Nat):Int)+(i:Int)=((a*S+i:Nat):Int):=by rw[tf]
   have a2:((b*S:Nat):Int)+(k:Int)=((b*S+k:Nat):Int):=by rw[tf]
   unfold Pe at e
   simp only[go_sem,ya,yc,yp,Ih,RU,c6,jj,Ir,aa8,My,show (i:Int)<S by omega,m1,m2,wrap64 (n:=((a*S:Nat):Int)) (by omega) (by omega),wrap64 (n:=((b*S:Nat):Int)) (by omega) (by omega),a1,a2,wrap64 (n:=((a*S+i:Nat):Int)) (by omega) (by omega),wrap64 (n:=((b*S+k:Nat):Int)) (by omega) (by omega),Ub,e];refine⟨_,d-1,rfl,by omega,i+1,H',c',by omega,kv,?_⟩;rw[wrap64 (by omega) (by omega)];exact Cz (by simp only[go_sem,ya]<;>rfl) rfl (by omega) zk
  .right
   have his:i=S:=by omega
   subst his;simp only[go_sem,ya,Ih,RU,c6,jj,show ¬(i:Int)<i by omega]
   exact⟨_,_,rfl,by simp,rfl,_,_,H,c,b9,rfl,by simp only[go_sem,ya,Is,c6,jj]<;>rfl⟩)
 have awv:=jm P L [0,1,2,7,8] Ii
  (fun d st=>∃k H c,k+d=S/\Inv (k*S) H c/\st=⟨Is s.ct C R S a b k,H,c,s.ct+1⟩)
  (fun ex st=>ex=.exit 0/\∃tm ct H c,Inv (S*S) H c/\st=⟨tm,H,ct,s.ct+1⟩) (by
  rintro d st ⟨k,H,c,VV,b9,rfl⟩;by_cases hk:k<S
  .left
   have hm:(k+1)*S=k*S+S:=by rw[xL,yag]
   simp only[go_sem,ya,Ii,Is,c6,jj,My,show (k:Int)<S by omega];generalize hq:D P L (.loop _ Ih) _=q;obtain⟨ex,st,rfl,rfl,tm,ct,H',c',kv,rfl,gi⟩:=bF hq (Uc k hk S) ⟨0,H,c,by omega,b9,Cz (by simp only[go_sem,ya]<;>rfl) rfl (by omega) (hI.y b9)⟩
   have hcp:=fun ct=>Cz (lv:=[0,1,2,7,8]) (ct:=ct) gi rfl (Nat.lt_succ_self _) (hI.y kv)
   simp only[go_sem,ya,hcp];refine⟨_,d-1,rfl,by omega,k+1,H',c',by omega,by rw[hm];exact kv,?_⟩
   rw[wrap64 (by omega) (by omega)];exact Cz (by simp only[go_sem,ya,c6,jj]<;>rfl) rfl (by omega) (hI.y kv)
  .right
   have ns:k=S:=by omega
   subst ns;simp only[go_sem,ya,Ii,Is,c6,jj,show ¬(k:Int)<k by omega]
   exact⟨_,_,rfl,by simp,rfl,_,_,H,c,b9,rfl⟩)
 obtain⟨H0,c0,VW,VX⟩:=h0;have hb:∃tm H c,Inv (S*S) H c/\D P L Jj.body ⟨eL 0 [.fn (.y s.ct) [] [],c6 C R S,jj a b],(s.ct,.lp s.tm ps as_ body 0 .none)::s.hp,s.ct+1,s.ct+1⟩=D5 (.normal,⟨tm,H,c,s.ct+1⟩):=by
  simp only[go_sem,ya,Jj,c6,jj,My];generalize hq:D P L (.loop _ Ii) _=q;obtain⟨ex,st,rfl,rfl,tm,ct,H,c,b9,rfl⟩:=bF hq (awv S) ⟨0,H0,c0,by omega,by rw[wh];exact VX,Cz (by simp only[go_sem,ya,c6,jj]<;>rfl) rfl (by omega) VW⟩
  refine⟨[],H,c,b9,?_⟩;simp only[go_sem];exact congrArg (fun x=>D5 (Ex.normal,x)) (hI.z b9 _ _)
 obtain⟨tm,H,c,b9,hD⟩:=hb;obtain⟨gO,p,a',b',hl⟩:=hI.l b9;exact⟨H,c,b9,ab6 hf Oc.heap (HG Oc hD (.inl rfl) rfl) hl (by decide)⟩
def asj(Fj:Has P L 718 E9){f:X}{as_ body:VC}{s:St}{C R S:Nat}(hC:C<=8)(hR:R<=8)(hf:aw s.tm f=.fn (.f 718) [] [c6 C R S]){Inv:Nat->Hp->Nat->Prop}{Bad:Hp->Nat->Prop}(hI:Rnd Inv (s.ct+1) s.ct)(h0:∃H c,my (s.ct+1) s.ct ((s.ct,.lp s.tm ps as_ body 0 .none)::s.hp)=(H,c)/\Inv 0 H c)(hr:∀k H c,k<C*R->Inv k H c->(∃hp aK H' c',iP (D P L) H c s.ct [aa k,.agg [aa ((k%C:Nat):Int),aa ((k/C:Nat):Int)]]=D5 (.bool ycG,hp,aK)/\my (s.ct+1) s.ct hp=(H',c')/\Inv (k+1) H' c')\/
   ∃hp aK tm p a b,iP (D P L) H c s.ct [aa k,.agg [aa ((k%C:Nat):Int),aa ((k/C:Nat):Int)]]=D5 (.bool ycH,hp,aK)/\ai hp s.ct=D5 (.lp tm p a b 2 .ret)/\Bad hp aK):
  (∃H c,Inv (C*R) H c/\D P L (.rf f ps as_ body) s=D5 (.normal,⟨s.tm,cl H s.ct,c,s.base⟩))\/∃hp aK,Bad hp aK/\D P L (.rf f ps as_ body) s=D5 (.ret,⟨s.tm,cl hp s.ct,aK,s.base⟩):=by
 have D2:C*R<=64:=xd hC hR;have key:=jm P L [0,1,8,9] EK
  (fun d st=>∃k H c,k+d=C*R/\Inv k H c/\st=⟨Ob s.ct C R S k,H,c,s.ct+1⟩)
  (fun ex st=>(ex=.exit 0/\∃tm ct H c,Inv (C*R) H c/\st=⟨tm,H,ct,s.ct+1⟩)\/(ex=.ret/\∃tm hp aK tm' p a b,st=⟨tm,hp,aK,s.ct+1⟩/\ai hp s.ct=D5 (.lp tm' p a b 2 .ret)/\Bad hp aK)) (by
  rintro d st ⟨k,H,c,VV,b9,rfl⟩;by_cases hk:k<C*R
  .have kT:0<C:=uU (fun h=>by rw[h,wh] at hk;omega);have h1:(k:Int).tmod (C:Int)=((k%C:Nat):Int):=(Int.ofNat_tmod k C).symm;have h2:(k:Int).tdiv (C:Int)=((k/C:Nat):Int):=(Int.ofNat_tdiv k C).symm;have h3:k%C<C:=xp _ kT;have h4:k/C<=k:=wU _ _;have hr:=hr k H c hk b9;generalize ha:k%C=a' at*
   generalize bm:k/C=b' at*
   have jy:(C:Int)≠0:=by omega
   rcases hr with ⟨hp,aK,H',c',e,zk,kv⟩ | ⟨hp,aK,tm',p,a,b,e,hg,hB⟩
   .left
    simp only[go_sem,ya,yc,yp,EK,Ob,c6,Ir,show (k:Int)<((C*R:Nat):Int) by omega,dY _ _ _ jy,dE _ _ _ jy,h1,h2,wrap64 (n:=(b':Int)) (by omega) (by omega),Ub,e];refine⟨_,d-1,rfl,by omega,k+1,H',c',by omega,kv,?_⟩;rw[wrap64 (by omega) (by omega)];exact Cz (by simp only[go_sem,ya]<;>rfl) rfl (by omega) zk
   .right
    simp only[go_sem,ya,yc,yp,EK,Ob,c6,Ir,show (k:Int)<((C*R:Nat):Int) by omega,dY _ _ _ jy,dE _ _ _ jy,h1,h2,wrap64 (n:=(b':Int)) (by omega) (by omega),Ub,e];exact⟨_,_,rfl,by simp,.inr ⟨rfl,_,hp,aK,tm',p,a,b,rfl,hg,hB⟩⟩
  .right
   have p8:k=C*R:=by omega
   subst p8;simp only[go_sem,ya,EK,Ob,c6,show ¬((C*R:Nat):Int)<((C*R:Nat):Int) by omega]
   exact⟨_,_,rfl,by simp,.inl ⟨rfl,_,_,H,c,b9,rfl⟩⟩)
 obtain⟨H0,c0,VW,VX⟩:=h0;have hb:∃ex st,D P L E9.body ⟨eL 0 [.fn (.y s.ct) [] [],c6 C R S],(s.ct,.lp s.tm ps as_ body 0 .none)::s.hp,s.ct+1,s.ct+1⟩=D5 (ex,st)/\((ex=.normal/\∃tm H c,Inv (C*R) H c/\st=⟨tm,H,c,s.ct+1⟩)\/(ex=.ret/\∃tm hp aK tm' p a b,st=⟨tm,hp,aK,s.ct+1⟩/\ai hp s.ct=D5 (.lp tm' p a b 2 .ret)/\Bad hp aK)):=by
  have hcr:(C:Int)*(R:Int)=((C*R:Nat):Int):=by rw[xx]
  simp only[go_sem,ya,E9,c6,Ir,aa8,hcr,wrap64 (n:=((C*R:Nat):Int)) (by omega) (by omega)];generalize hq:D P L (.loop _ EK) _=q;obtain⟨ex,st,rfl,hh⟩:=bF hq (key (C*R)) ⟨0,H0,c0,by omega,VX,Cz (by simp only[go_sem,ya,c6]<;>rfl) rfl (by omega) VW⟩
  rcases hh with ⟨rfl,tm,ct,H,c,b9,rfl⟩ | ⟨rfl,hh⟩
  .refine ⟨.normal,⟨[],H,c,s.ct+1⟩,?_,.inl ⟨rfl,_,H,c,b9,rfl⟩⟩;simp only[go_sem];exact congrArg (fun x=>D5 (Ex.normal,x)) (hI.z b9 _ _)
  .exact ⟨_,_,rfl,.inr ⟨rfl,hh⟩⟩
 obtain⟨ex,st,hD,hh⟩:=hb;have qS:∀s':St,ig s' E9.eA=D5 (.ay []):=fun _=>rfl
 rcases hh with ⟨rfl,tm,H,c,b9,rfl⟩ | ⟨rfl,tm,hp,aK,tm',p,a,b,rfl,hg,hB⟩
 .left
  obtain⟨gO,p,a,b,hl⟩:=hI.l b9;exact⟨H,c,b9,ab6 hf Fj.heap (HG Fj hD (.inl rfl) (qS _)) hl (by decide)⟩
 .right
  refine⟨hp,aK,hB,?_⟩;have h3:=HG Fj hD (.inr rfl) (qS _);rw[km];simp only[br,hf,Fj.heap,yD,h3,hg,iR (show (2:Nat)≠1 by decide),yJ]
end
end
end VE
end
section
namespace VE
open Go (IntKind)
def KU{B:Nat}{H:Hp}:∀{J:Hp},(∀p,p∈J->B<=p.1)->bH B (J++H)=bH B H
 | [],_=>rfl
 | (id,o)::r,h=>by
  have:=h (id,o) (by simp)
  rw[ym,bH,qO (by simpa using this),yJ,KU fun p hp=>h p (by simp[hp])]
def Qf{B:Nat}{f:Nat->Option Nat}{H:Hp}:∀{J:Hp},(∀p,p∈J->B<=p.1)->eM B f (J++H)=eM B f H
 | [],_=>rfl
 | (id,o)::r,h=>by
  have:=h (id,o) (by simp)
  rw[ym,eM,qO (by simpa using this),yJ,Qf fun p hp=>h p (by simp[hp])]
def agQ{live:List Nat}{tm:Env}{B ct:Nat}{J old:Hp}{rs:List (List AV)}(hJ:∀p,p∈J->B+rs.length<=p.1)(ht:hZ B (aY tm live))(ho:ef B (B+rs.length) old)(hl:(ck (aY tm live)).length+(bH B old).length<100000)(hr:(bH B old).filter (fun x=> !yF x B)=xS B rs.length):bg live ⟨tm,J++(fm B rs++old),ct,B⟩=⟨aY tm live,fm B rs++old,B+rs.length,B⟩:=by
 have VY:∀p,p∈J->B<=p.1:=fun p hp=>by have:=hJ p hp;omega
 have n9:∀i (h:i<rs.length),ai (J++(fm B rs++old)) (B+i)=D5 (.cells ycG ycG ycG 1 (rs.reverse[i]'(by simpa using h))):=fun i h=>by
  rw[Yn (b:=B+rs.length) (by omega) hJ];exact Qc h
 have MG:reach (J++(fm B rs++old)) B 100000 (ck (aY tm live)++bH B (J++(fm B rs++old))) []=xS B rs.length:=by
  have:=La (hp:=J++(fm B rs++old)) (B:=B) (R:=rs.length) (fun i hi=>⟨_,_,_,_,n9 i hi⟩) (ck (aY tm live)++bH B (J++(fm B rs++old))) 100000 0 (by rw[KU VY,G2,yC];exact hl) (uV _) (by
   rw[List.filter_append,KU VY,G2,hr,tA.2 (fun x hx=>by
    have:=KS ht x hx
    simp[mV this])]
   simp)
  simpa using this
 have hid:∀x,x<B+rs.length->fA B (xS B rs.length) x=D5 x:=fun x hx=>WR hx
 have hn:=PO (hp:=J++(fm B rs++old)) (f:=fA B (xS B rs.length)) rs.reverse B old (fun i hi=>n9 i (by simpa using hi));rw[List.length_reverse] at hn;simp only[bg,MG,Qf VY,PN,KT hid ho,hn,Qb,List.length_range']
 rw[K9 (n:=B) (fun x hx=>hid x (by omega)) ht]
end VE
end
section
namespace VE
open Go (IntKind)
def bd(B:Nat)(s:List Nat):Nat->Option Nat:=fA B s
def iN(B:Nat)(hp:Hp):Nat->List Nat->List Nat->List Nat:=reach hp B
def VZ(B:Nat)(hp:Hp)(s:List Nat):Hp×Nat:=(dP hp (bd B s) s B (eM B (bd B s) hp),B+s.length)
def Rk(B l:Nat)(hp:Hp):my B l hp=VZ B hp (iN B hp 100000 (l::bH B hp) []):=rfl
def asl(B:Nat)(hp:Hp)(s:List Nat):VZ B hp s=(dP hp (bd B s) s B (eM B (bd B s) hp),B+s.length):=rfl
def al1(B:Nat):bH B []=[]:=rfl
def r7{B id:Nat}(o:Obj)(r:Hp)(h:id<B):bH B ((id,o)::r)=gD o++bH B r:=by rw[bH,mV h,yr]
def asm{B id:Nat}(o:Obj)(r:Hp)(h:B<=id):bH B ((id,o)::r)=bH B r:=by rw[bH,qO h,yJ]
def Od(B:Nat)(hp:Hp)(n id:Nat)(b6 seen:List Nat)(q:Option Obj):List Nat:=match q with | some o=>iN B hp n (gD o++b6) (seen++[id]) | none=>iN B hp n b6 seen
def Oe(B:Nat)(hp:Hp)(n id:Nat)(b6 seen:List Nat)(b:Bool):List Nat:=bif b then iN B hp n b6 seen else Od B hp n id b6 seen (ai hp id)
def aap(B:Nat)(hp:Hp)(n:Nat)(seen:List Nat):iN B hp (n+1) [] seen=seen:=rfl
def Sx{B id:Nat}(hp:Hp)(n:Nat)(b6 seen:List Nat)(h:id<B):iN B hp (n+1) (id::b6) seen=iN B hp n b6 seen:=by
 simp only[iN,reach,mV h,ybZ,yr]
def Sy{B id:Nat}(hp:Hp)(n:Nat)(b6 seen:List Nat)(h:B<=id):iN B hp (n+1) (id::b6) seen=Oe B hp n id b6 seen (iA id seen):=by
 simp only[iN,reach,qO h,yaU,Oe,Od]
 cases iA id seen with
 | true=>rfl
 | false=>simp only[yJ];cases ai hp id<;>rfl
def asn(B:Nat)(hp:Hp)(n id:Nat)(b6 seen:List Nat):Oe B hp n id b6 seen ycG=iN B hp n b6 seen:=rfl
def RW(B:Nat)(hp:Hp)(n id:Nat)(b6 seen:List Nat):Oe B hp n id b6 seen ycH=Od B hp n id b6 seen (ai hp id):=rfl
def RX(B:Nat)(hp:Hp)(n id:Nat)(b6 seen:List Nat)(o:Obj):Od B hp n id b6 seen (D5 o)=iN B hp n (gD o++b6) (seen++[id]):=rfl
def IQ{B id:Nat}(s:List Nat)(h:id<B):bd B s id=D5 id:=by simp only[bd,fA,mV h,yr]
def Sz{B id:Nat}(s:List Nat)(h:B<=id):bd B s id=fS id s B:=by simp only[bd,fA,qO h,yJ]
def al2(B:Nat)(f:Nat->Option Nat):eM B f []=[]:=rfl
def aa9{B id:Nat}(f:Nat->Option Nat)(o:Obj)(r:Hp)(h:id<B):eM B f ((id,o)::r)=(id,fC f o)::eM B f r:=by rw[eM,mV h,yr]
def aso{B id:Nat}(f:Nat->Option Nat)(o:Obj)(r:Hp)(h:B<=id):eM B f ((id,o)::r)=eM B f r:=by rw[eM,qO h,yJ]
section
variable (B:Nat)(s:List Nat)
def aox:dt (bd B s) []=[]:=rfl
def al3(i:Nat)(v:AV)(r:Env):dt (bd B s) ((i,v)::r)=(i,bi (bd B s) v)::dt (bd B s) r:=rfl
def asp(k:yZ)(n:Int):bi (bd B s) (.int k n)=.int k n:=rfl
def aoy(b:Bool):bi (bd B s) (.bool b)=.bool b:=rfl
def asq(t:List Nat):bi (bd B s) (.str t)=.str t:=rfl
def ass(k:xO)(b:Nat):bi (bd B s) (.au k b)=.au k b:=rfl
def ast(k:xO)(a b:Nat):bi (bd B s) (.cK k a b)=.cK k a b:=rfl
def aoz:bi (bd B s) .ah=.ah:=rfl
def aoA:bi (bd B s) .fR=.fR:=rfl
def aoB:bi (bd B s) .iw=.iw:=rfl
def aoC:bi (bd B s) .jq=.jq:=rfl
def asu(e:Bool)(n:Nat)(cs:List AV):bi (bd B s) (.aq e n cs)=.aq e n cs:=rfl
def aoD(cs:List AV):bi (bd B s) (.bJ cs)=.bJ cs:=rfl
def aoE(a b:List AV):bi (bd B s) (.iz a b)=.iz a b:=rfl
def al4:bi (bd B s) .undef=.undef:=rfl
def asv(id o:Nat):bi (bd B s) (.ptr id o)=MV o (bd B s id):=by cases h:bd B s id<;>simp[bi,MV,h]
def asw(id o n:Nat):bi (bd B s) (.av id o n)=MW o n (bd B s id):=by cases h:bd B s id<;>simp[bi,MW,h]
def aut(g:Nat)(a b:List AV):bi (bd B s) (.fn (.f g) a b)=.fn (.f g) (dd (bd B s) a) (dd (bd B s) b):=rfl
def asx(cs:List AV):bi (bd B s) (.agg cs)=.agg (dd (bd B s) cs):=rfl
def asy(cs:List AV):bi (bd B s) (.ay cs)=.ay (dd (bd B s) cs):=rfl
def aoF:dd (bd B s) []=[]:=rfl
def al5(v:AV)(r:List AV):dd (bd B s) (v::r)=bi (bd B s) v::dd (bd B s) r:=rfl
def Ud(hp:Hp)(r:List Nat)(k:Nat)(acc:Hp)(q:Option Obj):Hp:=match q with | some o=>dP hp (bd B s) r (k+1) ((k,fC (bd B s) o)::acc) | none=>dP hp (bd B s) r (k+1) acc
def aoG(hp:Hp)(k:Nat)(acc:Hp):dP hp (bd B s) [] k acc=acc:=rfl
def al6(hp:Hp)(id:Nat)(r:List Nat)(k:Nat)(acc:Hp):dP hp (bd B s) (id::r) k acc=Ud B s hp r k acc (ai hp id):=by
 simp only[dP,Ud];cases ai hp id<;>rfl
def asz(hp:Hp)(r:List Nat)(k:Nat)(acc:Hp)(o:Obj):Ud B s hp r k acc (D5 o)=dP hp (bd B s) r (k+1) ((k,fC (bd B s) o)::acc):=rfl
end
def ajU:refs .fR=[]:=rfl
def ajV:refs .iw=[]:=rfl
def ajW:refs .jq=[]:=rfl
def ajX(a b:List AV):refs (.iz a b)=[]:=rfl
def al7(cs:List AV):refs (.ay cs)=eG cs:=rfl
def al8(k:xO)(a b:Nat):refs (.cK k a b)=[]:=rfl
def aoH(k:xO)(b:Nat):refs (.au k b)=[]:=rfl
attribute [go_sem] asl al1 r7 asm aap Sx Sy asn RW RX IQ Sz al2 aa9 aso aox al3 asp aoy asq ass ast aoz aoA aoB aoC asu aoD aoE al4 asv asw aut asx asy aoF al5 aoG al6 asz ajU ajV ajW ajX al7 al8 aoH
def Zo{B l:Nat}{J old:Hp}(hJ:∀p,p∈J->B<=p.1)(ho:ef B B old)(hl:l<B)(hn:(bH B old).length<=90000):my B l (J++old)=(old,B):=by
 have h:=agQ (live:=[0]) (tm:=[(0,.fn (.y l) [] [])]) (ct:=0) (rs:=[]) (by simpa using hJ) (show hZ B [(0,AV.fn (.y l) [] [])] from⟨⟨hl,rfl,rfl⟩,trivial⟩) (by simpa using ho) (show [l].length+_<100000 by simp only[yH,yM];omega) (by
  rw[tA.2 (fun x hx=>by have:=Eb (yq B) ho x hx;simp[mV this])]
  rfl)
 have h2:=Yo (lv:=[0]) (tm:=[(0,.fn (.y l) [] [])]) (hp:=J++old) (ct:=0) (B:=B) (l:=l) rfl rfl hl;simp only[fm,yD,yM,yS] at h;rw[h] at h2;injection h2 with _ h3 h4
 exact Prod.ext h3.symm h4.symm
end VE
end
section
namespace VE
open Go (IntKind)
def rI(k:Nat)(v:AV)(ps:List (List AV)):Prop:=((v=.ah/\ps=[])\/∃e,v=.aq e ps.length ps.flatten)/\∀p,p∈ps->p.length=k
section
variable {k:Nat}{v:AV}{ps:List (List AV)}{hp:Hp}
def rI.len(h:rI k v ps){hp:Hp}:iT hp 1 v=D5 (.int .i64 (ps.length:Nat)):=by
 rcases h.1 with ⟨rfl,rfl⟩ | ⟨e,rfl⟩<;>rfl
def rI.pu(h:rI k v ps):aS v=ycG:=by
 rcases h.1 with ⟨rfl,rfl⟩ | ⟨e,rfl⟩<;>rfl
def Yp:∀{ps:List (List AV)},(∀p,p∈ps->p.length=k)->ps.flatten.length=ps.length*k
 | [],_=>by simp
 | p::ps,h=>by
  have:=Yp (ps:=ps) (fun q hq=>h q (xG _ hq))
  grind
def Yq:∀{ps:List (List AV)} {i:Nat},(∀p,p∈ps->p.length=k)->∀(hi:i<ps.length),∃rest,ps.flatten.drop (i*k)=ps[i]++rest
 | [],i,_,hi=>absurd hi (ybu i)
 | p::ps,0,h,_=>⟨ps.flatten,by simp⟩
 | p::ps,i+1,h,hi=>by
  have⟨rest,e⟩:=Yq (ps:=ps) (i:=i) (fun q hq=>h q (xG _ hq)) (by simpa using hi);refine⟨rest,?_⟩;rw[show (i+1)*k=p.length+i*k by rw[h p wm,xL];lia,List.flatten_cons,<-wZ,tq,e]
  rfl
def rI.bD(h:rI k v ps){i:Nat}(hi:i<ps.length):∃rest,jn k i v=D5 (.bJ (ps[i]++rest)):=by
 obtain⟨rest,e⟩:=Yq h.2 hi;refine⟨rest,?_⟩;rcases h.1 with ⟨rfl,rfl⟩ | ⟨b,rfl⟩
 .grind
 .rw [Q4 b _ hi,e]
def al9:rI k .ah []:=⟨.inl ⟨rfl,rfl⟩,fun _ h=>by cases h⟩
def aoI(e:Bool)(h:∀p,p∈ps->p.length=k):rI k (.aq e ps.length ps.flatten) ps:=⟨.inr ⟨e,rfl⟩,h⟩
end
end VE
end
section
namespace VE
open Go (IntKind)
def Xy{α:Type}{f:α->Int}:∀{l:List α},b8 (l.map f)=0->∀a,a∈l->f a=0
 | [],_,_,h=>by cases h
 | x::l,h,a,ha=>by
  rw[yV,ahy] at h;rcases xn.1 ha with rfl | ha
  .grind
  .exact Xy h.2 a ha
end VE
end
section
namespace VE
open Go (IntKind)
section
variable {P:aE}{L:Lib}
def DA(h:Has P L 677 NK){v:AV}{l:List Int}(hv:bn v l)(hl:l.length<=1000000):af P L 677 [v] (aa (b8 l)):=by
 unfold af;rw[aH h];simp only[go_sem,ya,NK,hv.len];have key:=QE (P:=P) (L:=L) (live:=[5,6,7]) (a:=Mk)
  (I:=fun k s=>∃tm ct i,s=⟨tm,[],ct,0⟩/\aj tm 5=v/\aj tm 6=aa l.length/\aj tm 7=aa (i:Nat)/\i+k=l.length/\b8 (l.drop i)=b8 l)
  (Q:=fun ex s=>∃tm,s=⟨tm,[],0,0⟩/\((ex=.ret/\aj tm 2=aa (b8 l))\/(ex=.exit 0/\b8 l=0))) ?_ l.length
 .generalize hq:D P L (.loop _ Mk) _=q;obtain⟨ex,s,rfl,tm,rfl,h2⟩:=bF hq key ⟨_,_,0,rfl,rfl,rfl,rfl,by omega,rfl⟩;rcases h2 with ⟨rfl,h2⟩ | ⟨rfl,h2⟩
  .simp only [go_sem,h2]
  .rw [h2];simp only[go_sem]
 .rintro k s ⟨tm,ct,i,rfl,h5,h6,h7,hk,hf⟩;rw[Pr (by simp only[go_sem,h5,h6,h7,hv.pu])];simp only[go_sem,ya,h5,h6,h7,Mk];by_cases hi:i<l.length
  .have cX:(i:Int)<l.length:=by omega
   rw[WL hi] at hf;by_cases hz:l[i]=0
   .left
    simp only[go_sem,ya,cX,hv.bD hi,hz];refine⟨_,k-1,rfl,by omega,_,_,i+1,rfl,?_⟩;rw[wrap64 (by omega) (by omega)];rw[yN hz] at hf;simp only[go_sem,ya];exact⟨trivial,trivial,rfl,by omega,hf⟩
   .right
    simp only[go_sem,ya,cX,hv.bD hi,hz];rw[yx hz] at hf;refine⟨_,_,rfl,by simp,_,rfl,.inl ⟨rfl,?_⟩⟩;simp only[go_sem,hf]
  .right
   have cX:¬(i:Int)<l.length:=by omega
   simp only[go_sem,cX];refine⟨_,_,rfl,by simp,_,rfl,.inr ⟨rfl,?_⟩⟩;rw[<-hf,xj (by omega)];rfl
def An(h:Has P L 692 E8)(b:Bool)(n:Int):af P L 692 [.bool b,aa n] (aa (if b=ycG then n else 0)):=by
 unfold af;rw[aH h]
 cases b with
 | true=>simp only[go_sem,ya,E8,xN]
 | false=>simp only[go_sem,ya,E8];rfl
def JD(h:Has P L 676 E7)(mz:Has P L 692 E8)(n lo hi:Int):af P L 676 [aa n,aa lo,aa hi] (aa (if n<lo\/hi<n then 3 else 0)):=by
 unfold af;rw[aH h];by_cases h1:n<lo
 .simp only [go_sem,ya,E7,h1,true_or,xN,An mz]
 .by_cases h2:hi<n
  .simp only [go_sem,ya,E7,h1,h2,or_true,xN,An mz]
  .simp only [go_sem,ya,E7,h1,h2,or_self,xq,An mz];rfl
def aww(h:Has P L 647 Jg){v:AV}{l:List Int}(hv:bn v l)(hl:l.length<=1000000):af P L 647 [v] (aa (b8 l)):=by
 unfold af;rw[aH h];simp only[go_sem,Jg];have key:=QE (P:=P) (L:=L) (live:=[0,3]) (a:=Mj)
  (I:=fun k s=>∃tm ct i,s=⟨tm,[],ct,0⟩/\aj tm 0=v/\aj tm 3=aa (i:Nat)/\i+k=l.length/\b8 (l.drop i)=b8 l)
  (Q:=fun ex s=>∃tm,s=⟨tm,[],0,0⟩/\((ex=.ret/\aj tm 2=aa (b8 l))\/(ex=.exit 0/\b8 l=0))) ?_ l.length
 .generalize hq:D P L (.loop _ Mj) _=q;obtain⟨ex,s,rfl,tm,rfl,h2⟩:=bF hq key ⟨_,_,0,rfl,rfl,rfl,by omega,rfl⟩;rcases h2 with ⟨rfl,h2⟩ | ⟨rfl,h2⟩
  .simp only [go_sem,h2]
  .rw [h2];simp only[go_sem]
 .rintro k s ⟨tm,ct,i,rfl,h0,h3,hk,hf⟩;rw[Pr (by simp only[go_sem,h0,h3,hv.pu])];simp only[go_sem,ya,h0,h3,Mj,hv.len];by_cases hi:i<l.length
  .have cX:(i:Int)<l.length:=by omega
   rw[WL hi] at hf;by_cases hz:l[i]=0
   .left
    simp only[go_sem,ya,cX,hv.bD hi,hz];refine⟨_,k-1,rfl,by omega,_,_,i+1,rfl,?_⟩;rw[wrap64 (by omega) (by omega)];rw[yN hz] at hf;simp only[go_sem,ya];exact⟨trivial,rfl,by omega,hf⟩
   .right
    simp only[go_sem,ya,cX,hv.bD hi,hz];rw[yx hz] at hf;refine⟨_,_,rfl,by simp,_,rfl,.inl ⟨rfl,?_⟩⟩;simp only[go_sem,hf]
  .right
   have cX:¬(i:Int)<l.length:=by omega
   simp only[go_sem,cX];refine⟨_,_,rfl,by simp,_,rfl,.inr ⟨rfl,?_⟩⟩;rw[<-hf,xj (by omega)];rfl
end
end VE
end
section
namespace VE
open Go (IntKind)
section
variable {s:Bool}{M b:Nat}
def asA(hb:Fl b s M):binOp .sub (.au .f32 b) (.au .f32 b)=D5 (.au .f32 0):=by
 have hf:=hb.fin;unfold eZ at hf
 cases hr:ycj.read b with
 | number s m e=>
  have h1:yca.format.sub b b=D5 0:=aam hr;simp[binOp,MC,h1]
 | _=>rw[hr] at hf;cases hf
def awx:binOp .eql (.au .f32 0) (.au .f32 0)=D5 (.bool ycG):=by rfl
section
variable {P:aE}{L:Lib}
def auu(JE:Has P L 231 I2)(hb:Fl b s M):af P L 231 [.au .f32 b] (.bool ycG):=by
 unfold af;rw[aH JE];simp only[go_sem,ya,I2,asA hb,awx]
 first | done | rfl
def auv(hx:Fx P L)(ht:Tx P L)(JE:Has P L 231 I2)(Ue:Has P L 203 Nr)(hb:Fl b s M):af P L 203 [.au .f32 b] (.ay [.str (RT (jx s M)),aa 0]):=by
 have e1:=auu JE hb;obtain⟨r,e2,hr⟩:=awr hx hb;have e3:=m46 ht hr (Sw hb) (by decide);obtain⟨v1,v2,v3,v4,rfl,fv⟩:=hr.gen;unfold af at e1 e2 e3;unfold af;rw[aH Ue];simp only[go_sem,ya,Nr,mQ,e1,e2,e3,fv.ak,bM,xF];rfl
def awy(ht:Tx P L)(Uf:Has P L 685 NM)(hb:Fl b s M)(e1:af P L 203 [.au .f32 b] (.ay [.str (RT (jx s M)),aa 0])):∃r,af P L 685 [.au .f32 b] r/\dJ r (jx s M):=by
 have hl:=Mw (Sw hb);obtain⟨r,e2,hr⟩:=m62 ht (a:=jx s M) (by omega);have bq:=hr;obtain⟨v1,v2,v3,v4,rfl,fv⟩:=hr.gen;refine⟨_,?_,bq⟩;unfold af at e1 e2 ⊢;rw[aH Uf];simp only[go_sem,ya,yc,NM,aU,mQ,e1,QD,PK,P9,e2,bM,fv.st,dX,dZ,yh,Iq,fv.eA]
end
structure Exc(P:aE)(L:Lib):Prop extends Fx P L,Tx P L where
 Ue:Has P L 203 Nr
 JE:Has P L 231 I2
 Uf:Has P L 685 NM
end
end VE
end
section
namespace VE
open Go (IntKind)
def js.snoc{α β:Type}{p:α->β->Prop}:∀{l:List α} {m:List β} {a:α} {b:β},js p l m->p a b->js p (l++[a]) (m++[b])
 | [],[],_,_,_,h=>⟨h,trivial⟩
 | _::_,_::_,_,_,h,k=>⟨h.1,js.snoc h.2 k⟩
end VE
end
section
namespace VE
open Go (IntKind)
def bC{β:Type}(p:AV->β->Prop)(v:AV)(M:List β):Prop:=∃rows,b7 v rows/\js p rows M
section
variable {β:Type}{p:AV->β->Prop}{v:AV}{s:List β}
def bC.len(h:bC p v s){hp:Hp}:iT hp 1 v=D5 (.int .i64 (s.length:Nat)):=by
 have⟨rows,h1,h2⟩:=h;rw[<-h2.len];exact h1.len
def bC.pu(h:bC p v s):aS v=ycG:=by have⟨rows,h1,h2⟩:=h;exact h1.pu
def bC.ak(h:bC p v s)(n:Nat){hp:Hp}:freeze (n+1) hp v=D5 (v,hp):=by have⟨rows,h1,h2⟩:=h;exact h1.ak n
def bC.shut(h:bC p v s):VE.shut v=v:=by obtain⟨rows,h1,h2⟩:=h;exact h1.shut
def bC.one(h:bC p v s):dD v=ycG:=by have⟨rows,h1,h2⟩:=h;exact h1.one
def bC.cells(h:bC p v s):cellsOf v=[v]:=by have⟨rows,h1,h2⟩:=h;exact h1.cells
def bC.bD(h:bC p v s){i:Nat}(hi:i<s.length):∃r rest,p r s[i]/\jn 1 i v=D5 (.bJ (r::rest)):=by
 have⟨rows,h1,h2⟩:=h;have cX:i<rows.length:=by rw[h2.len];exact hi
 exact⟨_,_,h2.get cX hi,h1.bD cX⟩
def Yr:bC p .ah []:=⟨[],rP,trivial⟩
def QK(e:Bool){rows:List AV}(h:js p rows s):bC p (.aq e s.length rows) s:=by
 have:=HF e rows
 rw[h.len] at this;exact⟨rows,this,h⟩
end
end VE
end
section
namespace VE
open Go (IntKind)
def Ap(f:Nat->Nat->Int)(n A B:Nat):Int:=NU (fun a=>NU (fun b=>f a b) n) A+NU (fun b=>f A b) B
end VE
end
section
namespace VE
open Go (IntKind)
def ama{α:Type}{p:α->Bool}{l:List α}{i:Nat}(h:i<l.length):(l.drop i).all p=(p l[i]&&(l.drop (i+1)).all p):=by
 rw[yQ h,List.all_cons]
def ag2{α:Type}{f:α->Int}{l:List α}{i:Nat}(h:i<l.length):b8 ((l.drop i).map f)=if f l[i]=0 then b8 ((l.drop (i+1)).map f) else f l[i]:=by
 rw[yQ h,yV,b8]
end VE
end
section
namespace VE
open Go (IntKind)
def rc(f:Nat):List AV->Nat
 | []=>f
 | _::_=>f+1
end VE
end
section
namespace VE
open Go (IntKind)
section
variable {v:AV}{F:List (List Nat)}{l r:List Nat}
def bP(v:AV)(r:List Nat):Prop:=b7 v (cN r)
def Hv{i:Nat}(h:i<l.length):(cN l)[i]'(by simpa using h)=.au .f32 l[i]:=by simp[cN]
def lK(r:List Nat):Bool:=r.any fun b=> !eZ b
def gn(n:Nat)(r:List Nat):Int:=b8 [if r.length=n then 0 else 2,if lK r=ycG then 1 else 0]
def lL(n m:Nat)(F:List (List Nat)):Int:=if F.length=n then b8 (F.map (gn m)) else 2
def iO(z lo hi:Int):Int:=if z<lo\/hi<z then 3 else 0
def pT(C R S:Int):Int:=b8 [iO C 1 8,iO R 1 8,iO S 2 8]
def Rl{C R S:Int}(h:pT C R S=0):(1<=C/\C<=8)/\(1<=R/\R<=8)/\2<=S/\S<=8:=by
 obtain⟨h1,h2,h3⟩:=aos.1 h;unfold iO at h1 h2 h3;refine⟨?_,?_,?_⟩
 .by_cases c:C<1\/8<C
  .rw [yN c] at h1;exact absurd h1 (by decide)
  .omega
 .by_cases c:R<1\/8<R
  .rw [yN c] at h2;exact absurd h2 (by decide)
  .omega
 .by_cases c:S<2\/8<S
  .rw [yN c] at h3;exact absurd h3 (by decide)
  .omega
def gV(C R S:Int)(F:List (List Nat)):Int:=if pT C R S=0 then lL (R.toNat*S.toNat) (C.toNat*S.toNat) F else pT C R S
structure Frc(P:aE)(L:Lib):Prop where
 ael:L.pure 753=D5 sK
 awz:Has P L 641 S3
 awA:Has P L 643 NF
 awB:Has P L 670 NI
 JF:Has P L 676 E7
 DB:Has P L 677 NK
 mz:Has P L 692 E8
 awC:Has P L 716 S7
 Of:Has P L 717 NN
 aem:Has P L 741 NO
 awD:Has P L 742 S9
 aen:Has P L 752 NP
section
variable {P:aE}{L:Lib}
def aeo(h:L.pure 753=D5 sK)(b:Nat):af P L 753 [.au .f32 b] (.bool (eZ b)):=by
 unfold af;simp only[bQ,h,sK]
def awE(h:Frc P L)(b:Nat):af P L 742 [.au .f32 b] (.bool (!eZ b)):=by
 have e:=aeo (P:=P) h.ael b;unfold af at e;unfold af;rw[aH h.awD];simp only[go_sem,ya,S9,mQ,e]
def aep(h:Has P L 752 NP)(hv:b7 v (cN l))(hl:l.length<=1000000){g:Nat}{p:Nat->Bool}(hg:∀x,af P L g [.au .f32 x] (.bool (p x))):∃n:Int,af P L 752 [v,.fn (.f g) [] []] (aa n)/\decide (0<=n)=l.any p:=by
 have hlen:(cN l).length=l.length:=by simp
 have key:=jm P L [0,1,7,8] EL
  (fun k s=>∃i:Nat,i+k=l.length/\(l.drop i).any p=l.any p/\s=⟨[(0,v),(1,.fn (.f g) [] []),(7,aa l.length),(8,aa i)],[],0,0⟩)
  (fun ex s=>∃tm hp ct,s=⟨tm,hp,ct,0⟩/\((∃n:Int,ex=.ret/\aj tm 4=aa n/\0<=n/\l.any p=ycG)\/(ex=.exit 0/\l.any p=ycH))) ?_
 .unfold af;rw[aH h];simp only[go_sem,ya,NP,hv.len,hlen];generalize hq:D P L (.loop _ EL) _=q;obtain⟨ex,s,rfl,tm,hp,ct,rfl,h2⟩:=bF hq (key l.length) ⟨0,by omega,rfl,by simp only[go_sem,ya,aA,aF hv.pu]<;>rfl⟩
  rcases h2 with ⟨n,rfl,h2,h3,h4⟩ | ⟨rfl,h2⟩
  .exact ⟨n,by simp only[go_sem,h2]<;>rfl,by rw[h4];simpa using h3⟩
  .exact ⟨-1,by simp only[go_sem,aA]<;>rfl,by rw[h2];decide⟩
 .rintro k s ⟨i,hk,hf,rfl⟩;by_cases hi:i<l.length
  .have cX:(i:Int)<l.length:=by omega
   have e1:=hv.bD (i:=i) (by simpa using hi);rw[Hv hi] at e1;have e2:=hg l[i];unfold af at e2;rw[Y5 hi] at hf
   cases eI:p l[i] with
   | false=>
    left
    rw[eI] at e2;simp only[go_sem,ya,EL,cX,e1,mQ,e2];rw[eI,yaU] at hf;refine⟨_,k-1,rfl,by omega,i+1,by omega,hf,?_⟩;rw[wrap64 (by omega) (by omega)];simp only[go_sem,ya,aA,aF hv.pu]<;>rfl
   | true=>
    right
    rw[eI] at e2;simp only[go_sem,ya,EL,cX,e1,mQ,e2];refine⟨_,_,rfl,by simp,_,_,_,rfl,.inl ⟨i,rfl,?_,by omega,?_⟩⟩
    .simp only [go_sem]
    .rw [<-hf,eI,ybZ]
  .right
   simp only[go_sem,ya,EL,show ¬(i:Int)<l.length by omega];refine⟨_,_,rfl,by simp,_,_,_,rfl,.inr ⟨rfl,?_⟩⟩;rw[<-hf,xj (by omega)];rfl
def aeq(Of:Has P L 717 NN){M:List (List Nat)}(hv:bC bP v M)(hl:M.length<=1000000){g:Nat}{cap:List AV}(hc:aD cap=ycG)(hz:∀(n:Nat) (hp:Hp),cf (n+900) hp cap=D5 (cap,hp)){f:List Nat->Int}(hg:∀w a,a∈M->bP w a->af P L g (w::cap) (aa (f a))):af P L 717 [v,.fn (.f g) [] cap] (aa (b8 (M.map f))):=by
 have pf:aS (.fn (.f g) [] cap)=ycG:=by simp[aS,aD,hc]
 have key:=jm P L [1,8,9,10] Ml
  (fun k s=>∃i:Nat,s=⟨[(1,.fn (.f g) [] cap),(8,v),(9,aa M.length),(10,aa i)],[],0,0⟩/\i+k=M.length/\b8 ((M.drop i).map f)=b8 (M.map f))
  (fun ex s=>∃tm ct,s=⟨tm,[],ct,0⟩/\((ex=.ret/\aj tm 4=aa (b8 (M.map f)))\/(ex=.exit 0/\b8 (M.map f)=0))) ?_
 .unfold af;rw[aH Of];simp only[go_sem,ya,NN,hv.len];generalize hq:D P L (.loop _ Ml) _=q;obtain⟨ex,s,rfl,tm,ct,rfl,h2⟩:=bF hq (key M.length) ⟨0,by simp only[go_sem,ya,aA,aF hv.pu,aF pf]<;>rfl,by omega,by simp⟩
  rcases h2 with ⟨rfl,h2⟩ | ⟨rfl,h2⟩
  .simp only [go_sem,h2]
  .rw [h2];simp only[go_sem,aA]
 .rintro k s ⟨i,rfl,hk,hf⟩;simp only[go_sem,ya,Ml];by_cases hi:i<M.length
  .have cX:(i:Int)<M.length:=by omega
   obtain⟨r,rest,hr,e0⟩:=hv.bD hi;have e1:=hg r _ (vv hi) hr;unfold af at e1;rw[yQ hi,yV] at hf;simp only[b8] at hf;by_cases eI:f M[i]=0
   .left
    rw[eI] at e1;simp only[go_sem,ya,cX,e0,hr.ak,hz,e1];refine⟨_,k-1,rfl,by omega,i+1,?_,by omega,by rw[yN eI] at hf;exact hf⟩
    rw[wrap64 (by omega) (by omega)];simp only[go_sem,ya,aA,aF hv.pu,aF pf]<;>rfl
   .right
    simp only[go_sem,ya,cX,e0,hr.ak,hz,e1,eI];rw[yx eI] at hf;refine⟨_,_,rfl,by simp,_,_,rfl,.inl ⟨rfl,?_⟩⟩;simp only[go_sem,hf]
  .right
   have cX:¬(i:Int)<M.length:=by omega
   simp only[go_sem,cX];refine⟨_,_,rfl,by simp,_,_,rfl,.inr ⟨rfl,?_⟩⟩;rw[<-hf,xj (by omega)];rfl
def awF(h:Frc P L)(hv:bP v r)(hl:r.length<=1000000):af P L 741 [v,.fn (.f 742) [] []] (.bool (lK r)):=by
 obtain⟨n,e1,e2⟩:=aep h.aen hv hl (g:=742) (p:=fun b=> !eZ b) (fun x=>awE h x);have e2:decide (0<=n)=lK r:=e2;have hv:b7 v (cN r):=hv;unfold af at e1 ⊢;rw[aH h.aem];simp only[go_sem,ya,NO,hv.ak,e1,e2]
def iG(a b c:Int)(ct:Nat):lG ct 3 [aa a,aa b,aa c]=D5 (.ptr ct 0,.cells ycG ycG ycG 3 [aa a,aa b,aa c]):=rfl
def ia(a b c:Int):gN 3 ycG [aa a,aa b,aa c]=D5 (.agg [aa a,aa b,aa c]):=rfl
def awG(h:Frc P L){w:AV}{C R S:Nat}(hC:C<=8)(hS:S<=8)(hw:bP w r)(hl:r.length<=1000000):af P L 716 [w,c6 C R S] (aa (gn (C*S) r)):=by
 have e1:=awF h hw hl;have hw:b7 w (cN r):=hw;have hlen:(cN r).length=r.length:=by simp
 have b1:C*S<=64:=xd hC hS;have m1:(C:Int)*(S:Int)=((C*S:Nat):Int):=by rw[xx]
 have e2:=An h.mz (!decide ((r.length:Int)=((C*S:Nat):Int))) 2;have q:decide ((r.length:Int)=((C*S:Nat):Int))=decide (r.length=C*S):=yax.2 (by omega);rw[q] at e2;rw[show (if (!decide (r.length=C*S))=ycG then (2:Int) else 0)=(if r.length=C*S then 0 else 2) by by_cases e:r.length=C*S<;>simp[e]] at e2
 have e3:=An h.mz (lK r) 1;have e4:=DA h.DB (ik ycG [if r.length=C*S then 0 else 2,if lK r=ycG then 1 else 0]) (by simp);simp only[yH,yM,yd,yc,yV,wF] at e4;unfold af at e1 e2 e3 e4 ⊢;rw[aH h.awC];unfold gn
 simp only[go_sem,ya,yc,yB,yp,yk,S7,c6,Ir,My,hw.len,hw.ak,hlen,m1,wrap64 (n:=((C*S:Nat):Int)) (by omega) (by omega),q,e1,e2,e3,e4]
def awH(h:Frc P L){C R S:Nat}(hC:C<=8)(hR:R<=8)(hS:S<=8)(hv:bC bP v F)(hl:F.length<=1000000)(hr:∀r,r∈F->r.length<=1000000):af P L 670 [.agg [aa C,aa R,aa S],v] (aa (lL (R*S) (C*S) F)):=by
 have e1:=aeq h.Of hv hl (g:=716) (cap:=[c6 C R S]) rfl (fun n hp=>rfl) (f:=gn (C*S)) (fun w r bq hw=>awG h hC hS hw (hr r bq));have b1:R*S<=64:=xd hR hS;have m1:(R:Int)*(S:Int)=((R*S:Nat):Int):=by rw[xx]
 unfold af at e1 ⊢;rw[aH h.awB];unfold c6 at e1;unfold lL;by_cases hn:F.length=R*S
 .rw [yN hn]
  simp only[go_sem,ya,NI,iG,a6,yd,yh,yI,hv.len,hv.ak,m1,wrap64 (n:=((R*S:Nat):Int)) (by omega) (by omega),hn,xa,e1]
 .rw [yx hn]
  simp only[go_sem,ya,NI,iG,a6,yd,yh,yI,hv.len,m1,wrap64 (n:=((R*S:Nat):Int)) (by omega) (by omega),show ¬(F.length:Int)=((R*S:Nat):Int) by omega,xf]
def awI(h:Frc P L)(C R S:Int):af P L 641 [.agg [aa C,aa R,aa S]] (aa (pT C R S)):=by
 have e1:=JD h.JF h.mz C 1 8;have e2:=JD h.JF h.mz R 1 8;have e3:=JD h.JF h.mz S 2 8;have e4:=DA h.DB (ik ycG [iO C 1 8,iO R 1 8,iO S 2 8]) (by simp);simp only[yH,yM,yd,yc,yV,wF] at e4;unfold af at e1 e2 e3 e4 ⊢;rw[aH h.awz];unfold iO at e4;unfold pT iO;simp only[go_sem,ya,yc,yB,yp,yk,S3,iG,a6,yd,yh,yI,e1,e2,e3,e4]
def aer(h:Frc P L){C R S:Int}(hv:bC bP v F)(hl:F.length<=1000000)(hr:∀r,r∈F->r.length<=1000000):af P L 643 [.agg [aa C,aa R,aa S],v] (aa (gV C R S F)):=by
 have e1:=awI h C R S;have fz:∀(n:Nat) (hp:Hp),freeze (n+20) hp (.agg [aa C,aa R,aa S])=D5 (.agg [aa C,aa R,aa S],hp):=fun n hp=>cr _ _ (by simp only[go_sem])
 unfold af;rw[aH h.awA];unfold gV;by_cases h0:pT C R S=0
 .rw [yN h0];obtain⟨⟨a1,a2⟩,⟨b1,b2⟩,c1,c2⟩:=Rl h0;have e2:=awH h (C:=C.toNat) (R:=R.toNat) (S:=S.toNat) (by omega) (by omega) (by omega) hv hl hr;rw[wP (by omega),wP (by omega),wP (by omega)] at e2;rw[h0] at e1;unfold af at e1 e2;simp only[go_sem,ya,yc,NF,iG,yh,ia,fz,e1,hv.ak,e2]
 .rw [yx h0];unfold af at e1;simp only[go_sem,ya,yc,NF,iG,yh,ia,fz,e1,h0]
end
end
end VE
end
section
namespace VE
open Go (IntKind)
open Ieee
def asB{b:Nat}{s:Bool}{M:Nat}(h:Fl b s M):Hq 429 (jx s M):=by
 have hM:=h.lt;have k1:Hq 278 (((bz s M:Int)):Rat):=Zm 278 (acu 278 277 hM (by decide)) (by decide);exact (k1.mul (acv (-149))).mono (by decide)
end VE
end
section
namespace VE
open Go (IntKind)
section
variable {F:List (List Nat)}{b m n:Nat}
noncomputable def fq(b:Nat):Rat:=match ycj.read b with
 | .number s m e=>jx s (dh m e)
 | _=>0
def auw{M:Nat}{s:Bool}(h:Fl b s M):fq b=jx s M:=by
 obtain⟨m,e,h1,h2⟩:=h.ex;unfold fq;rw[h1.read,h2]
def SA(hb:b<4294967296)(hf:eZ b=ycG):∃s M,Fl b s M/\fq b=jx s M:=by
 rcases asb hb with ⟨s,M,h⟩ | h
 .exact ⟨s,M,h,auw h⟩
 .rw [hf] at h;cases h
def awJ(hb:b<4294967296)(hf:eZ b=ycG):Hq 429 (fq b):=by
 obtain⟨s,M,h,e⟩:=SA hb hf;rw[e];exact asB h
structure ek(F:List (List Nat))(n m:Nat):Prop where
 len:F.length=n
 row:∀r,r∈F->r.length=m
 fin:∀r,r∈F->∀b,b∈r->eZ b=ycG/\b<4294967296
noncomputable def aT(F:List (List Nat))(c r:Nat):Rat:=fq ((F.getD r []).getD c 0)
def aba{r:List Nat}(h:gn n r=0):r.length=n/\∀b,b∈r->eZ b=ycG:=by
 unfold gn at h;obtain⟨h1,h2⟩:=Rj.1 h;have h3:r.length=n:=by
  by_cases c:r.length=n
  .exact c
  .rw [yx c] at h1;exact absurd h1 (by decide)
 refine⟨h3,fun b hb=>?_⟩
 cases hf:eZ b with
 | true=>rfl
 | false=>
  have:lK r=ycG:=by
   unfold lK;rw[List.any_eq_true];exact⟨b,hb,by rw[hf];rfl⟩
  rw[yN this] at h2;exact absurd h2 (by decide)
def aaq(h:lL n m F=0)(hb:∀r,r∈F->∀b,b∈r->b<4294967296):ek F n m:=by
 unfold lL at h;by_cases c:F.length=n
 .rw [yN c] at h
  have:=Xy h
  exact⟨c,fun r hr=>(aba (this r hr)).1,fun r hr b bm=>⟨(aba (this r hr)).2 b bm,hb r hr b bm⟩⟩
 .rw [yx c] at h;exact absurd h (by decide)
def ek.at{c r:Nat}(h:ek F n m)(hr:r<n)(hc:c<m):∃(h1:r<F.length) (h2:c<F[r].length),aT F c r=fq (F[r][c])/\eZ (F[r][c])=ycG/\F[r][c]<4294967296:=by
 have h1:r<F.length:=by rw[h.len];exact hr
 have h2:c<F[r].length:=by rw[h.row _ (vv h1)];exact hc
 refine⟨h1,h2,?_,h.fin _ (vv h1) _ (vv h2)⟩;unfold aT;simp only[yY,xh h1,xh h2,Option.getD_some]
def ek.H{c r:Nat}(h:ek F n m)(hr:r<n)(hc:c<m):Hq 429 (aT F c r):=by
 obtain⟨_,_,e,f1,f2⟩:=h.at hr hc;rw[e];exact awJ f2 f1
def Og(ct:Nat)(a b:Int):lG ct 2 [aa a,aa b]=D5 (.ptr ct 0,.cells ycG ycG ycG 2 [aa a,aa b]):=rfl
section
variable {P:aE}{L:Lib}
def acx(h:Exc P L)(hb:b<4294967296)(hf:eZ b=ycG):∃r,af P L 685 [.au .f32 b] r/\dJ r (fq b):=by
 obtain⟨s,M,bm,e⟩:=SA hb hf;rw[e];exact awy h.toTx h.Uf bm (auv h.toFx h.toTx h.JE h.Ue bm)
end
end
end VE
end
section
namespace VE
open Go (IntKind)
def jz(f:Nat->Rat):Nat->Rat
 | 0=>0
 | n+1=>jz f n+f n
def acy{f:Nat->Rat}{K N:Nat}(h:∀t,t<N->Hq K (f t)):∀{n:Nat},n<=N->Hq (2+n*(K+1)) (jz f n)
 | 0,_=>aeg.mono (by omega)
 | n+1,hn=>((acy h (n:=n) (by omega)).add (h n (by omega))).mono (by rw[xL];omega)
structure Mom(P:aE)(L:Lib):Prop extends Fr' P L where
 Oc:Has P L 719 Jj
 awK:Has P L 673 S5
 aAX:Has P L 724 adi
 aAY:Has P L 725 adj
def DC(hp:Hp)(ct id:Nat)(a b:Int)(x y:AV):kH hp ct id 0 2 [aa a,aa b] (D5 (.cells ycG ycG ycG 2 [x,y]))=D5 (.ay [],aV hp id (.cells ycG ycG ycG 2 [aa a,aa b]),ct):=rfl
def awL(n:Nat)(hp:Hp)(a b:Int):freeze (n+20) hp (.agg [aa a,aa b])=D5 (.agg [aa a,aa b],hp):=cr _ _ (by simp only[go_sem])
def qY(n:Nat)(hp:Hp)(a b c:Int):freeze (n+20) hp (.agg [aa a,aa b,aa c])=D5 (.agg [aa a,aa b,aa c],hp):=cr _ _ (by simp only[go_sem])
section
variable {P:aE}{L:Lib}
def Mz{S k i:Nat}(hi:i<S):(k*S+i)%S=i:=by rw[xb,uM,yK hi]
def MA{S k i:Nat}(hi:i<S):(k*S+i)/S=k:=by rw[xb,uL (by omega),xH hi,yS]
def ml{C S a i:Nat}(ha:a<C)(hi:i<S):a*S+i<C*S:=by
 have:=yL S (show a+1<=C by omega)
 rw[xL,yag] at this;omega
def auy{S t:Nat}(h:t<S*S):t%S<S/\t/S<S:=by
 have h0:0<S:=uU (fun e=>by subst e;simp at h);exact⟨xp _ h0,tM h⟩
end
end VE
end
section
namespace VE
open Go (IntKind)
section
variable {P:aE}{L:Lib}
def hF(vs mc:List AV):Hp:=[(1,.cells ycG ycG ycG 4 mc),(0,.cells ycG ycG ycG 4 vs)]
end
end VE
end
section
namespace VE
open Go (IntKind)
structure Cen(P:aE)(L:Lib):Prop extends Mom P L,Tx P L where
 awM:Has P L 672 NJ
 aAZ:Has P L 686 ada
 aA0:Has P L 688 ade
 Fj:Has P L 718 E9
 aA1:Has P L 122 acT
 aA2:Has P L 123 acU
 aA3:Has P L 160 ac0
section
variable {P:aE}{L:Lib}
def awN(h:Has P L 672 NJ)(C R S:Nat):af P L 672 [.agg [aa C,aa R,aa S]] (.fn (.f 718) [] [c6 C R S]):=by
 unfold af;rw[aH h];simp only[go_sem,ya,yc,NJ,iG]
 first | done | rfl
end
end VE
end
section
namespace VE
open Go (IntKind)
section
variable {P:aE}{L:Lib}
def zB(B:Nat)(p:Hp×Nat):St:=⟨[],p.1,p.2,B⟩
def auz(B:Nat)(a:Hp)(b:Nat):zB B (a,b)=⟨[],a,b,B⟩:=rfl
def amb(tm:Env)(hp:Hp)(ct B:Nat):bg [] ⟨tm,hp,ct,B⟩=zB B (VZ B hp (iN B hp 100000 (bH B hp) [])):=rfl
def Ro{C R k:Nat}(h:k<C*R):k%C<C/\k/C<R:=by
 have h0:0<C:=uU (fun e=>by rw[e,wh] at h;omega);exact⟨xp _ h0,tM h⟩
def asC{hp:Hp}{id n sz:Nat}{cs:List AV}{e:Int}(hg:ai hp id=D5 (.cells ycG ycG ycH sz cs))(hl:cs.length=n*sz):result hp (.ay [.av id 0 n,aa e])=D5 (.ay [.cu ycH sz n cs,aa e]):=by
 have h1:nP deep hp (.av id 0 n)=D5 (.cu ycH sz n cs,cl hp id):=by
  simp only[nP,hg,yd,<-hl,yt (yq cs.length),yr,Bool.false_and,slice,yh,xQ]
 simp only[result,Mf,CE,h1];rfl
end
end VE
end
section
namespace VE
open Go (IntKind)
structure aes(C R S:Int)(c r s:Nat):Prop where
 hC:C=c
 hR:R=r
 hS:S=s
 c1:1<=c
 c8:c<=8
 r1:1<=r
 r8:r<=8
 s2:2<=s
 s8:s<=8
def awO{C R S:Int}(h:pT C R S=0):aes C R S C.toNat R.toNat S.toNat:=by
 obtain⟨⟨a1,a2⟩,⟨b1,b2⟩,d1,d2⟩:=Rl h;exact⟨by omega,by omega,by omega,by omega,by omega,by omega,by omega,by omega,by omega⟩
def asD{C R S:Int}{F:List (List Nat)}(h:gV C R S F=0)(hb:∀r,r∈F->∀b,b∈r->b<4294967296):aes C R S C.toNat R.toNat S.toNat/\ek F (R.toNat*S.toNat) (C.toNat*S.toNat):=by
 unfold gV at h;by_cases c:pT C R S=0
 .rw [yN c] at h;exact⟨awO c,aaq h hb⟩
 .rw [yx c] at h;exact absurd h c
structure Ctd(P:aE)(L:Lib):Prop extends Cen P L,Frc P L,Exc P L,Ck P L where
 aA4:Has P L 654 ac8
 aA5:Has P L 655 ac9
 aA6:Has P L 687 adb
 aA7:Has P L 689 adf
 aA8:Has P L 690 adg
 aA9:Has P L 691 adh
end VE
end
section
namespace VE
open Go (IntKind)
def PQ(id:Nat)(o:Obj)(j:Nat):∀hp:Hp,ai (aV hp id o) j=if j=id then (ai hp id).map (fun _=>o) else ai hp j
 | []=>by by_cases h:j=id<;>simp[aV,ai,h]
 | (i,u)::r=>by
  have ih:=PQ id o j r;by_cases h1:i=id
  .subst h1;rw[YZ];by_cases h2:j=i
   .subst h2;rw[yN rfl,ff,ff];rfl
   .rw [yx h2,di _ _ (fun e=>h2 e.symm),di _ _ (fun e=>h2 e.symm)]
  .rw [X9 _ _ _ h1];by_cases h2:j=i
   .subst h2;rw[yx h1,ff,ff]
   .rw [di _ _ (fun e=>h2 e.symm),ih,di _ _ h1,di _ _ (fun e=>h2 e.symm)]
def amc{hp:Hp}{id:Nat}{u:Obj}(h:ai hp id=D5 u)(o:Obj)(j:Nat):ai (aV hp id o) j=if j=id then D5 o else ai hp j:=by
 rw[PQ,h];rfl
def CA(id j:Nat):∀hp:Hp,ai (cl hp id) j=if j=id then D6 else ai hp j
 | []=>by split<;>rfl
 | (i,u)::r=>by
  have ih:=CA id j r;by_cases h1:i=id
  .subst h1;rw[Hr,ih];by_cases h2:j=i
   .grind
   .rw [yx h2,yx h2,di _ _ (fun e=>h2 e.symm)]
  .rw [AY _ _ h1];by_cases h2:j=i
   .subst h2;rw[yx h1,ff,ff]
   .rw [di _ _ (fun e=>h2 e.symm),ih,di _ _ (fun e=>h2 e.symm)]
def Zp(i:Nat):∀l:List Nat,iA i l=ycG↔i∈l
 | []=>by simp[iA]
 | j::r=>by
  by_cases h:j=i
  .subst h;simp[Y3]
  .rw [Yd _ h,Zp i r]
   grind
def QL{i:Nat}{l:List Nat}(h:i∉l):iA i l=ycH:=by
 cases hq:iA i l with
 | false=>rfl
 | true=>exact absurd ((Zp i l).1 hq) h
def aar(hp:Hp):∀(ids seen b6:List Nat) (n:Nat),ids.length<n->(∀i,i∈ids->∃o,ai hp i=D5 o/\gD o=[])->ids.Nodup->(∀i,i∈ids->i∉seen)->mG hp n (ids++b6) seen=mG hp (n-ids.length) b6 (seen++ids)
 | [],seen,b6,n,_,_,_,_=>by simp
 | i::ids,seen,b6,0,h,_,_,_=>by simp at h
 | i::ids,seen,b6,n+1,h,h1,h2,h3=>by
  obtain⟨o,g,e⟩:=h1 i wm;have hn:=wi.1 h2
  rw[ym,QG,QL (h3 i wm),RI,g,RJ,e,yD,aar hp ids (seen++[i]) b6 n (by simpa using h) (fun j hj=>h1 j (xG _ hj)) hn.2 (fun j hj hm=>by
   rcases xD.1 hm with hm | hm
   .grind
   .simp only [List.mem_singleton] at hm
    subst hm;exact hn.1 hj)]
  grind
def aoJ(hp:Hp){n:Nat}(h:0<n)(seen:List Nat):mG hp n [] seen=seen:=by
 obtain⟨m,rfl⟩:∃m,n=m+1:=⟨n-1,by lia⟩;exact aaa hp m seen
def QM(hp:Hp)(f:Nat->Option Nat):∀(seen:List Nat) (k:Nat) (acc:Hp) (j:Nat),j<k->ai (dP hp f seen k acc) j=ai acc j
 | [],k,acc,j,_=>rfl
 | id::r,k,acc,j,h=>by
  rw[dP]
  cases ai hp id with
  | none=>exact QM hp f r (k+1) acc j (by omega)
  | some o=>
   rw[QM hp f r (k+1) _ j (by omega),di _ _ (by omega)]
def PR(hp:Hp)(f:Nat->Option Nat):∀(seen:List Nat) (k:Nat) (acc:Hp) (j:Nat) (h:j<seen.length) (o:Obj),ai hp seen[j]=D5 o->ai (dP hp f seen k acc) (k+j)=D5 (fC f o)
 | id::r,k,acc,0,_,o,ho=>by
  simp only[wO] at ho;rw[dP];simp only[ho];show ai (dP hp f r (k+1) ((k,fC f o)::acc)) k=_
  rw[QM hp f r (k+1) _ k (by omega),ff]
 | id::r,k,acc,j+1,h,o,ho=>by
  have:=fun Ae=>PR hp f r (k+1) Ae j (by simpa using h) o ho
  rw[dP,show k+(j+1)=k+1+j by omega]
  cases ai hp id with
  | none=>exact this _
  | some u=>exact this _
def Et:∀(seen:List Nat) (k j:Nat) (h:j<seen.length),seen.Nodup->fS seen[j] seen k=D5 (k+j)
 | s::r,k,0,_,_=>by simp only[wO,yS];exact aab s r k
 | s::r,k,j+1,h,hn=>by
  have hn:=wi.1 hn;have hj:j<r.length:=by simp_all
  simp only[List.getElem_cons_succ];rw[Y4 _ _ (fun e=>hn.1 (by rw[e];exact vv hj)),Et r (k+1) j hj hn.2]
  grind
def ag3{live:List Nat}{tm:Env}{hp:Hp}{ct:Nat}{seen:List Nat}(hr:mG hp 100000 (ck (aY tm live)) []=seen):
  ∃an,bg live ⟨tm,hp,ct,0⟩=⟨dt (pos seen) (aY tm live),an,seen.length,0⟩/\∀j (h:j<seen.length) o,ai hp seen[j]=D5 o->ai an j=D5 (fC (pos seen) o):=by
 refine⟨dP hp (pos seen) seen 0 [],by rw[aA,hr,aac],fun j h o ho=>?_⟩
 have:=PR hp (pos seen) seen 0 [] j h o ho
 grind
end VE
end
section
namespace VE
open Go (IntKind)
def gG(a:Nat)(ids pl:List Nat):List Nat:=a::(ids++pl)
end VE
end
