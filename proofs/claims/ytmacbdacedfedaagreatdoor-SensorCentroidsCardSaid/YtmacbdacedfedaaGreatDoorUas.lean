import Ieee.Arith
import Derived.OwnWalk
import Derived.WalkKit
import Derived.Test.YtmacbdacedfedaaGreatDoorUaq
set_option linter.all false
set_option maxRecDepth 100000
open Bool renaming and_eq_true->ye,and_self->vn,and_true->vL,false_and->wK,false_eq_true->yD,false_or->vV,not_false->yZ,not_true->yY,toNat_false->ybA,true_and->wS,true_eq_false->ybk,true_or->tc,xor_false->ybQ
open Go renaming Calls->wB,World->yk,binOp->wh
open Int renaming add_zero->ycA,gcd->vv,le_of_lt->tv,le_refl->ycO,lt_trichotomy->yab,mul_add->ycQ,mul_le_mul->ycb,mul_le_mul_of_nonneg_left->uF,mul_nonneg->tK,natAbs_ediv_of_dvd->uY,natAbs_natCast->wz,natCast_add->yaV,natCast_mul->xS,natCast_nonneg->yau,neg_neg->yaq,ofNat_eq_natCast->ybd,ofNat_le->ycE,ofNat_lt->tu,pow_pos->ycR,pow_succ->yac,sub_self->ycC,tdiv_eq_ediv_of_nonneg->xW,tmod_eq_emod_of_nonneg->xV,toNat_natCast->xh,toNat_of_nonneg->vl
open Int.ofNat renaming inj->yal
open List renaming append_assoc->xD,append_nil->xU,cons_append->yj,drop->um,drop_drop->vM,drop_eq_getElem_cons->yR,drop_eq_nil_of_le->xd,drop_left->tJ,drop_zero->yf,eq_nil_of_length_eq_zero->yK,getD_eq_getElem?_getD->xc,getElem?_eq_getElem->xv,getElem_cons_zero->wI,length_append->yJ,length_cons->yF,length_drop->we,length_map->yS,length_nil->yN,length_pos_iff->uZ,length_take->yQ,map_append->xg,map_cons->xb,map_nil->vd,map_set->ycu,mem_cons->xy,nil_append->yy,replicate->yz,set_eq_of_length_le->yaA,set_eq_take_append_cons_drop->vI,take_append_drop->wj,take_left->tI,take_length->xL,take_of_length_le->yE,take_set->yaD,take_succ_eq_append_getElem->xi
open List.cons renaming injEq->tW
open Nat renaming add_assoc->uP,add_comm->ybL,add_mod_left->ybH,add_mul->xR,add_zero->yX,beq->yq,ble->yB,ble_eq_true_of_le->yv,blt->yL,div_add_mod->xX,div_eq_of_lt->wb,div_lt_iff_lt_mul->xE,div_pos->ycP,eq_of_beq_eq_true->yg,eq_zero_or_pos->xq,gcd->wM,gcd_comm->tU,le_log2->ycN,le_mul_of_pos_left->ug,le_mul_of_pos_right->yaL,le_of_ble_eq_true->yt,le_of_lt_succ->vT,le_of_not_lt->ybF,le_refl->yp,le_trans->xo,log2->yca,log2_lt->ybc,lt_log2_self->ybI,lt_of_le_of_lt->wo,lt_of_lt_of_le->yG,lt_or_ge->vm,lt_trans->vC,min_eq_left->xB,mod_add_div->uk,mod_eq_of_lt->yT,mod_eq_zero_of_dvd->yaQ,mod_lt->xJ,mul_add->xK,mul_add_div->tX,mul_add_mod->tY,mul_assoc->xj,mul_comm->xt,mul_div_cancel->uU,mul_dvd_mul_left->ybe,mul_le_mul->xf,mul_le_mul_left->yV,mul_le_mul_right->yO,mul_lt_mul''->yak,mul_lt_mul_of_pos_right->wg,mul_mod_left->tf,mul_one->ym,mul_pos->wU,mul_zero->xG,ne_of_gt->tr,one_dvd->ycU,one_lt_two_pow->vX,one_shiftLeft->ybz,pow_add->xH,pow_le_pow_left->ud,pow_le_pow_right->xa,pow_lt_pow_iff_right->uh,pow_lt_pow_right->vB,pow_mul->yap,pow_pos->ybO,pow_succ->xn,pow_zero->vN,reduceAdd->yb,reduceEqDiff->ya,reduceLT->yx,reduceLeDiff->yi,reduceMul->xp,shiftLeft_eq->uz,succ_mul->ycB,two_pow_pos->xm,zero_add->yd,zero_le->tk,zero_mul->wC
open Option.some renaming injEq->yc
open Rat renaming den_intCast->uK,den_pow->ycT,divInt->wL,intCast_neg->uI,lt_irrefl->tV,mul_assoc->vD,mul_comm->yaC,mul_lt_mul_right->uE,mul_one->vJ,natCast_mul->xQ,not_le->ybq,num_eq_zero->ybP,num_intCast->uJ,num_nonneg->ycc,num_pow->ycS,one_mul->ybf,sub_eq_add_neg->yav,zpow_natCast->tg,zpow_neg->ycD
open Option renaming some->Gp
open Bool renaming true->ydb,false->ydc
section
namespace VE
open Go (IntKind)
def amW:∀(cs:List AV) (l:List Nat),Ae cs=Gp l->cs=l.map uc/\lo 18446744073709551616 l:=by
 intro cs
 induction cs with
 | nil=>
  intro l h;simp only[Ae,yc] at h;subst h;exact⟨rfl,fun _ h=>by cases h⟩
 | cons c cs ih=>
  intro l h;unfold Ae at h
  split at h
  .grind
  .rename_i d r qB;cases qB
   cases hb:yL d 18446744073709551616 with
   | false=>rw[hb] at h;cases h
   | true=>
    rw[hb] at h
    cases hw:Ae cs with
    | none=>rw[hw] at h;cases h
    | some l'=>
     rw[hw] at h;cases h;have⟨k1,k2⟩:=ih l' hw;refine⟨by rw[k1];rfl,fun x hx=>?_⟩
     rcases xy.1 hx with rfl | hx
     .simp_all
     .exact k2 x hx
  .cases h
def acm:∀{l:List Nat},C8 l=ydb->iJ l
 | [],h=>by cases h
 | [a],h=>by
  have h0:a≠0:=fun e=>by subst e;cases h
  exact Gw h0 []
 | a::b::r,h=>by
  have h1:ew (b::r)=b::r:=acm (l:=b::r) h;show ew (a::(b::r))=_
  simp only[ew] at h1 ⊢;rw[h1]
section
variable {P:aE}{L:Lib}
def asZ(h:Has P L 99 F1)(XV:L.pure 135=Gp Lt){s:Int}(hs:C5 s=ydb):bO P L (D P L) 99 [.agg [aa s,.ah]]=Gp (.str (aV s)):=by
 have e1:bO P L (D P L) 135 [aa s]=Gp (.str (aV s)):=by
  rw[kJ XV];show (bif C5 s then Gp (AV.str (aV s)) else none)=_
  rw[hs];rfl
 rw[aD h];simp only[go_sem,ya,yb,F1,aQ,aY,yd,df,iU,eM,e1]
end
section
open Go
variable {O:bz}
def aov(hO:iR O)(hN:Nu O.prog O.aJ)(XV:O.aJ.pure 135=Gp Lt)(FF:O.aJ.pure 138=Gp Co)(BS:O.aJ.pure 139=Gp CG)(IB:Has O.prog O.aJ 99 F1){fn:Func}{c:Code}(mC:O.P.funcs[O.ae 99]? =Gp fn)(kE:fn.body=Gp c)(Sq:fn.ntmps=69)(XS:RY 5 c)(ht:Vp O.P c):∀au r,Pt au=Gp r->eG O 99 au r:=by
 intro au r h;unfold Pt at h
 split at h
 .rename_i s
  cases hs:C5 s with
  | false=>rw[hs] at h;cases h
  | true=>
   rw[hs] at h;cases h;have⟨k,hk⟩:=aeZ (asZ (P:=O.prog) (L:=O.aJ) IB XV hs);exact sound hO hk
 .rename_i s e n cs
  cases hw:Ae cs with
  | none=>rw[hw] at h;cases h
  | some l=>
   rw[hw] at h;simp only at h
   cases hb:(yq l.length n&&(yB n 4000000000&&(C8 l&&yB 9223372036854775808 (Az l)))) with
   | false=>rw[hb] at h;cases h
   | true=>
    rw[hb] at h;simp only[ye] at hb;have⟨h1,h2,h3,h4⟩:=hb;obtain⟨rfl,bh⟩:=amW cs l hw;have h1:=yg h1;subst h1;have h2:=yt h2;have h4:=yt h4;have h3:=acm h3;rw[Vn] at h4 h;have aH:=nH bh;have key:=fun (s z:Int) (hz:z.natAbs=bv 18446744073709551616 l) (hs:s=if z<0 then -1 else 1)=>
     aqC hO hN FF BS IB.code mC kE Sq XS ht (s:=s) (z:=z) (e:=e) (l:=l) (.inr ⟨e,l,rfl,bh,h3,hz.symm,hs,by lia⟩) (by lia) h2 (by lia)
    split at h
    .cases h
     have:=key 1 (bv 18446744073709551616 l:Nat) (by simp) (by rw[yr (by lia)])
     exact this
    .cases h
     have:=key (-1) (-(bv 18446744073709551616 l:Nat):Int) (by simp) (by rw[yC (by lia)])
     rw[pC (by lia)] at this
     grind
    .cases h
 .cases h
end
end VE
end
section
namespace VE
open Go
def Lj(L:Lib)(n:Nat)(sp:List AV->Option AV):Lib:=⟨fun i=>bif yq i n then Gp sp else L.pure i,L.heap⟩
def Um{O:bz}(hO:iR O){n:Nat}{sp:List AV->Option AV}(h:∀au r,sp au=Gp r->eG O n au r):iR (O.qZ (Lj O.aJ n sp)) where
 hint:=hO.hint
 mixed:=hO.mixed
 prog:=hO.prog
 aJ i SB au r hi hs:=by
  show eG O i au r
  simp only[Lj] at hi
  cases hb:yq i n with
  | true=>
   simp_all
  | false=>
   rw[hb] at hi;exact hO.aJ i SB au r hi hs
 Hu i SB hp ct au v an aI hi hs:=ab3 (hO.Hu i SB hp ct au v an aI hi hs)
end VE
end
section
namespace VE
open Go (IntKind)
def Kv(n:Nat):10^n<=2^(4*n):=by
 rw[yap];exact ud (by decide) n
def aow{b:Nat}{r:List Nat}(h:dn (b::r)=ydb):48<=b/\b<=57:=by
 simp only[dn,ye] at h
 simp_all
section
variable {P:aE}{L:Lib}
def afe(h:Tx P L){ds:List Nat}{N:Nat}(hD:cL ds 0=Gp N)(hl:ds.length<=4000000000){neg:Bool}{o1 o2:AV}:
  c6 P L [0,2,3,4] GY (fun m st=>∃(pre rest:List Nat) (a:Nat) (s:Int) (w:AV),st=⟨[(0,.str rest),(2,.ptr 0 0),(3,.bool neg),(4,.ptr 1 0)],[(1,.cells ydb ydb ydb 2 [aa s,w]),(0,.cells ydb ydb ydb 2 [o1,o2])],2,0⟩/\ds=pre++rest/\cL pre 0=Gp a/\dG s w a/\rest.length=m) (fun ex st'=>∃tm s w,st'=⟨tm,[(1,.cells ydb ydb ydb 2 [aa s,w]),(0,.cells ydb ydb ydb 2 [o1,o2])],2,0⟩/\ex=.exit 0/\ak tm 2=.ptr 0 0/\ak tm 3=.bool neg/\ak tm 4=.ptr 1 0/\dG s w N):=by
 apply c9;rintro m st ⟨pre,rest,a,s,w,rfl,Gd,eS,hn,rfl⟩;have⟨l1,u1⟩:=hn.aO;have iY:=hD;rw[Gd,Kf,eS] at iY;have iY:cL rest a=Gp N:=iY;have hlen:pre.length+rest.length<=4000000000:=by rw[Gd,yJ] at hl;exact hl
 by_cases h0:rest.length=0
 .right
  have hr:rest=[]:=yK h0;subst hr
  have:a=N:=by simpa[cL] using iY
  subst this;simp only[go_sem,GY,yN,show ¬(0:Int)<((0:Nat):Int) by lia];exact⟨_,_,rfl,by simp,_,s,w,rfl,rfl,rfl,rfl,rfl,hn⟩
 .left
  obtain⟨n,AQ⟩:∃n,n=min 18 rest.length:=⟨_,rfl⟩;have aho:(if (rest.length:Int)<18 then (rest.length:Int) else 18)=(n:Int):=by split<;>lia
  have kC:rest.take n++rest.drop n=rest:=wj n rest;obtain⟨a',FU⟩:∃a',cL (rest.take n) a=Gp a':=by
   rw[<-kC,Kf] at iY
   cases hq:cL (rest.take n) a with
   | none=>rw[hq] at iY;cases iY
   | some a'=>exact⟨a',rfl⟩
  obtain⟨v,hv⟩:∃v,cL (rest.take n) 0=Gp v:=by
   have:∀(l:List Nat) (x y b:Nat),cL l x=Gp y->∃z,cL l b=Gp z:=by
    intro l
    induction l with
    | nil=>intro x y b _;exact⟨b,rfl⟩
    | cons c l ih=>
     intro x y b hh;simp only[cL] at hh ⊢
     cases hb:(yB 48 c&&yB c 57) with
     | false=>rw[hb] at hh;cases hh
     | true=>rw[hb] at hh;exact ih _ _ _ hh
   exact this _ _ _ 0 FU
  have aia:=aqA (a:=a) hv;have ZR:(rest.take n).length=n:=by rw[yQ];lia
  rw[ZR,FU,yc] at aia;have XW:=Vo hv;rw[ZR] at XW;have aGj:v<1000000000000000000:=yG XW (xa (n:=10) (by decide) (show n<=18 by lia));have e1:=asW (P:=P) h.XO (f:=D P L) (s:=rest.take n) (by lia) (by lia) hv;have⟨t1,t2⟩:=FC h.toNu (z:=10) (by decide) (by decide);have⟨t3,t4⟩:=FC h.toNu (z:=(v:Int)) (by lia) (by lia);have⟨p,e2,hp⟩:=XQ h.toNu h.ze t2 (K:=4) (k:=n) (by unfold Bd;decide) (by lia) (by lia)
  have halt:=Vo eS;have ba:Bd (4*pre.length) (a:Int):=yG halt (Kv _);have bp:Bd (4*n+1) ((10:Int)^n):=Bd.pow (k:=4) (by unfold Bd;decide) n
  have⟨q,e3,hq⟩:=Dn h.toNu (v:=.agg [aa s,w]) ⟨s,w,rfl,hn⟩ hp (K:=4*pre.length+4*n+1) (ba.mono (by lia)) (bp.mono (by lia)) (by lia);have bv':Bd (4*n) (v:Int):=yG XW (Kv _);have⟨r,e4,hr⟩:=My h.toNu hq t4 (K:=4*pre.length+4*n+1) ((ba.mul bp).mono (by lia)) (bv'.mono (by lia)) (by lia);have aM:(a:Int)*10^n+(v:Int)=(a':Int):=by
   rw[aia]
   simp
  rw[aM] at hr;obtain⟨s2,w2,rfl,h2⟩:=hp;obtain⟨s3,w3,rfl,h3⟩:=hq;obtain⟨s4,w4,rfl,h4⟩:=hr;have⟨l2,u2⟩:=h2.aO;have⟨l3,u3⟩:=h3.aO;have⟨l4,u4⟩:=h4.aO;have un:=zV;have c1:js rest (Gp 0) (Gp n)=Gp (.str (rest.take n)):=by rw[mK (by lia) (by lia),yf]
  have c2:js rest (Gp n) (Gp rest.length)=Gp (.str (rest.drop n)):=by rw[mK (by lia) (by lia),xL]
  simp only[go_sem,ya,GY,show (0:Int)<(rest.length:Nat) by lia,ae5,adg,aho,eY,fm,dT,c1,c2,e1,bV,t1,t3,b6,u1.aj,u2.aj,u3.aj,un.aj,e2,e3,e4,bw,bV,yf,eA u4];refine⟨_,(rest.drop n).length,rfl,by rw[we];lia,pre++rest.take n,rest.drop n,a',s4,w4,by simp only[go_sem,ya,yb,ax],by rw[xD,kC];exact Gd,by rw[Kf,eS];exact FU,h4,rfl⟩
def Un{b:Nat}{r:List Nat}(h:48<=b):iD [45] (b::r)=ydc:=by
 show (yq 45 b&&ydb)=ydc
 rw[gU (by lia)];rfl
def MB(h:Tx P L){z:Int}(hz:(aV z).length<=4000000000):∃r,ab P L 110 [.str (aV z)] r/\cD r z:=by
 have hN:=GA z.natAbs;have un:=zV;have zp:(aB z.natAbs).length<=4000000000:=by
  by_cases h0:z<0
  .rw [pC h0] at hz;simp at hz;lia
  .rw [<-pk,yr h0] at hz;simpa using hz
 have ba:Bd (4*(aB z.natAbs).length) (z.natAbs:Int):=yG (Vo hN) (Kv _);by_cases h0:z<0
 .have hs:aV z=45::aB z.natAbs:=pC h0;have e1:bO P L (D P L) 152 [.str (45::aB z.natAbs),.str [45]]=Gp (.bool ydb):=by rw[kJ h.ah5];rfl
  have e2:bO P L (D P L) 153 [.str (45::aB z.natAbs),.str [45]]=Gp (.str (aB z.natAbs)):=by rw[kJ h.XN];rfl
  have kw:∃s w r,ab P L 110 [.str (aV z)] r/\dG s w (z.natAbs:Int)/\ab P L 147 [.agg [aa s,w]] r/\cD r (-(z.natAbs:Int)):=by
   rw[hs];unfold ab;rw[aD h.ah7];simp only[go_sem,ya,yb,QO,aQ,e1,e2,un.pu,un.one,eA un];generalize hq:D P L (.loop _ GY) _=q;obtain⟨ex,st,rfl,tm,s,w,rfl,rfl,t2,t3,t4,h5⟩:=bL hq (afe (P:=P) (L:=L) h hN zp (neg:=ydb) (o1:=.int .i64 0) (o2:=.ah) (aB z.natAbs).length) ⟨[],aB z.natAbs,0,0,.ah,by simp only[go_sem,ya,yb,ax]<;>rfl,rfl,rfl,.inl ⟨rfl,rfl,by decide,by decide⟩,rfl⟩
   have⟨l5,u5⟩:=h5.aO;have⟨r,e3,hr⟩:=HS h.toNu (v:=.agg [aa s,w]) ⟨s,w,rfl,h5⟩ (K:=4*(aB z.natAbs).length) ba (by lia);have bg:=hr;obtain⟨s6,w6,rfl,h6⟩:=hr;have⟨l6,u6⟩:=h6.aO;refine⟨s,w,_,?_,h5,e3,bg⟩;simp only[go_sem,ya,yb,ax,t2,t3,t4,bV,b6,u5.aj,e3,bw,cR,cS,bV,yf,oE u6,eA u6]
  have⟨s,w,r,g1,_,_,g2⟩:=kw;rw[show -((z.natAbs:Nat):Int)=z by lia] at g2;exact⟨r,g1,g2⟩
 .have hs:aV z=aB z.natAbs:=by rw[<-pk,yr h0];rfl
  have⟨b,r0,hb,ej,cQ⟩:=GB z.natAbs;have e1:bO P L (D P L) 152 [.str (aB z.natAbs),.str [45]]=Gp (.bool ydc):=by
   rw[kJ h.ah5,hb];show Gp (AV.bool (iD [45] (b::r0)))=_
   rw[Un ej]
  have e2:bO P L (D P L) 153 [.str (aB z.natAbs),.str [45]]=Gp (.str (aB z.natAbs)):=by
   rw[kJ h.XN,hb];show Gp (AV.str (bif iD [45] (b::r0) then _ else _))=_
   rw[Un ej];rfl
  have kw:∃s w,ab P L 110 [.str (aV z)] (.agg [aa s,w])/\dG s w (z.natAbs:Int):=by
   rw[hs];unfold ab;rw[aD h.ah7];simp only[go_sem,ya,yb,QO,aQ,e1,e2,un.pu,un.one,eA un];generalize hq:D P L (.loop _ GY) _=q;obtain⟨ex,st,rfl,tm,s,w,rfl,rfl,t2,t3,t4,h5⟩:=bL hq (afe (P:=P) (L:=L) h hN zp (neg:=ydc) (o1:=.int .i64 0) (o2:=.ah) (aB z.natAbs).length) ⟨[],aB z.natAbs,0,0,.ah,by simp only[go_sem,ya,yb,ax]<;>rfl,rfl,rfl,.inl ⟨rfl,rfl,by decide,by decide⟩,rfl⟩
   have⟨l5,u5⟩:=h5.aO;refine⟨s,w,?_,h5⟩;simp only[go_sem,ya,yb,ax,t2,t3,t4,bV,cR,cS,bV,yf,oE u5,eA u5]
  have⟨s,w,g1,g2⟩:=kw;rw[show ((z.natAbs:Nat):Int)=z by lia] at g2;exact⟨_,g1,s,w,rfl,g2⟩
def J8(b:Nat)(r:List Nat)(c:Nat):iD [c] (b::r)=yq c b:=by
 show (yq c b&&ydb)=_
 grind
def aaQ:∀(l r:List Nat) (k:Nat),(∀x,x∈l->x≠47)->nE [47] (l++47::r) k=Gp (k+l.length)
 | [],r,k,_=>by
  show (bif iD [47] (47::r) then Gp k else _)=_
  rw[J8];rfl
 | b::l,r,k,h=>by
  show (bif iD [47] (b::(l++47::r)) then Gp k else nE [47] (l++47::r) (k+1))=_
  rw[J8,gU (fun e=>h b (by simp) e.symm),yP,aaQ l r (k+1) (fun x hx=>h x (by simp[hx])),yF]
  grind
def index_none:∀(l:List Nat) (k:Nat),(∀x,x∈l->x≠47)->nE [47] l k=none
 | [],k,_=>rfl
 | b::l,k,h=>by
  show (bif iD [47] (b::l) then Gp k else nE [47] l (k+1))=_
  rw[J8,gU (fun e=>h b (by simp) e.symm),yP,index_none l (k+1) (fun x hx=>h x (by simp[hx]))]
def adt:∀{l:List Nat},dn l=ydb->∀x,x∈l->48<=x/\x<=57
 | [],_,x,hx=>by simp at hx
 | b::l,h,x,hx=>by
  have h1:=aow h;simp only[dn,ye] at h;rcases xy.1 hx with rfl | hx
  .grind
  .exact adt h.2 x hx
def alq(z:Int):∀x,x∈aV z->x≠47:=fun x hx=>by
 rw[<-pk] at hx;rcases List.mem_append.1 hx with h | h
 .grind
 .have:=adt (J6 _) x h;lia
def m62(h:Tx P L){a:Rat}(hl:(RT a).length<4000000000):∃r,ab P L 62 [.str (RT a)] r/\bS r a:=by
 have Ih:=alq a.num;unfold RT at hl ⊢;by_cases hd:a.den=1
 .rw [yC hd,xU] at hl ⊢;have⟨p,e1,hp⟩:=MB h (z:=a.num) (by lia);have⟨r,e2,hr⟩:=XM h.toFr' hp;rw[<-Vm a hd] at hr;have bg:=hr;obtain⟨s1,w1,rfl,h1⟩:=hp;obtain⟨s2,w2,s3,w3,rfl,h2,h3⟩:=hr;have⟨l1,u1⟩:=h1.aO;have⟨l2,u2⟩:=h2.aO;have⟨l3,u3⟩:=h3.aO;have e0:bO P L (D P L) 109 [.str (aV a.num),.str [47]]=Gp (.av [.str (aV a.num),.str [],.bool ydc]):=by
   rw[kJ h.XP];show (bif yL (aV a.num).length 4294967281 then (match nE [47] (aV a.num) 0 with | some i=>_ | none=>Gp (AV.av [.str (aV a.num),.str [],.bool ydc])) else none)=_
   rw[mr (by lia),index_none _ _ Ih];rfl
  refine⟨_,?_,bg⟩;unfold ab;rw[aD h.S5];simp only[go_sem,ya,yb,SE,aQ,e0,e1,bw,u1.aj,b6,e2,kZ u2 u3,cR,cS,yf,gY,lc u2 u3]
 .rw [yr hd] at hl ⊢;simp only[yJ,yF] at hl;have⟨p,e1,hp⟩:=MB h (z:=a.num) (by lia);have⟨q,e2,hq⟩:=MB h (z:=(a.den:Int)) (by rw[nt];lia)
  rw[nt] at e2;obtain⟨s1,w1,rfl,h1⟩:=hp;obtain⟨s2,w2,rfl,h2⟩:=hq;have⟨l1,u1⟩:=h1.aO;have⟨l2,u2⟩:=h2.aO;have e0:bO P L (D P L) 109 [.str (aV a.num++47::aB a.den),.str [47]]=Gp (.av [.str (aV a.num),.str (aB a.den),.bool ydb]):=by
   rw[kJ h.XP];show (bif yL (aV a.num++47::aB a.den).length 4294967281 then (match nE [47] (aV a.num++47::aB a.den) 0 with | some i=>Gp (AV.av [.str ((aV a.num++47::aB a.den).take i),.str ((aV a.num++47::aB a.den).drop (i+1)),.bool ydb]) | none=>_) else none)=_
   rw[mr (by simp;lia),aaQ _ _ _ Ih]
   simp only[yd,yu,tI];rw[show (aV a.num).length+1=(aV a.num++[47]).length by simp,show aV a.num++47::aB a.den=(aV a.num++[47])++aB a.den by simp,tJ]
  refine⟨.agg [aa s1,w1,aa s2,w2],?_,s1,w1,s2,w2,rfl,h1,h2⟩;unfold ab;rw[aD h.S5];simp only[go_sem,ya,yb,SE,aQ,e0,e1,e2,bw,u1.one,u2.one,Eu,Ev,kZ u1 u2,cR,cS,yf,gY,lc u1 u2]
end
end VE
end
section
namespace VE
open Go (IntKind)
def dZ(p:List Nat):Bool:=dn p&&(match p with | []=>ydc | b::r=> !(yq b 48)||r.isEmpty)
def gA(p:List Nat):Nat:=(cL p 0).getD 0
def BT(neg:Bool)(t:List Nat):Int:=
 if dZ (t.take (bT t))=ydc\/(neg=ydb/\t.take (bT t)=[48]) then 1
 else if bT t<t.length/\(dZ (t.drop (bT t+1))=ydc\/t.drop (bT t+1)=[48]\/t.drop (bT t+1)=[49]) then 1
 else if 600<bT t\/600<t.length-bT t-1 then 4
 else if bT t<t.length/\wM (gA (t.take (bT t))) (gA (t.drop (bT t+1)))≠1 then 1
 else 0
def iL:List Nat->Int
 | []=>BT ydc []
 | b::t=>if b=45 then BT ydb t else BT ydc (b::t)
def adu:∀{p:List Nat} (a:Nat),dn p=ydb->∃n,cL p a=Gp n
 | [],a,_=>⟨a,rfl⟩
 | b::r,a,h=>by
  have h':=h;simp only[dn,ye] at h';have⟨n,hn⟩:=adu (p:=r) (10*a+(b-48)) h'.2;exact⟨n,by simp only[cL,h'.1.1,h'.1.2,vn,yu];exact hn⟩
def GC:∀(k:Nat) {p:List Nat},p.length=k->dZ p=ydb->aB (gA p)=p:=by
 intro k
 induction k with
 | zero=>intro p hl h;rw[yK hl] at h;simp[dZ] at h
 | succ k ih=>
  intro p hl h;rcases snoc p with rfl | ⟨m,a,rfl⟩
  .grind
  .simp only [dZ,ye,NZ] at h;have⟨⟨h1,h2⟩,h3⟩:=h;simp only[dn,ye] at h2;have ha1:=yt h2.1.1;have ha2:=yt h2.1.2;have⟨n,hn⟩:=adu 0 h1;have hv:gA (m++[a])=10*n+(a-48):=by
    unfold gA;rw[Kf,hn];simp only[Option.bind_some,cL,h2.1.1,h2.1.2,vn,yu,Option.getD_some]
   cases m with
   | nil=>
    have:n=0:=by simpa[cL] using hn.symm
    rw[hv,qR (by lia)]
    simp;lia
   | cons b r=>
    have hd:dZ (b::r)=ydb:=by
     simp only[dZ,h1,wS]
     cases r with
     | nil=>simp
     | cons c r=>simp at h3 ⊢;exact h3
    have hm:=ih (p:=b::r) (by simpa using hl) hd;have hnv:gA (b::r)=n:=by unfold gA;rw[hn];rfl
    rw[hnv] at hm;have AN:n≠0:=fun e=>by
     rw[qR (by lia)] at hm
     simp_all
    rw[hv,sM (by lia),show (10*n+(a-48))/10=n by lia,show 48+(10*n+(a-48))%10=a by lia,hm]
def aao(t:List Nat):bT t<t.length->t=t.take (bT t)++47::t.drop (bT t+1):=by
 induction t with
 | nil=>simp
 | cons b r ih=>
  intro h;simp only[bT] at h ⊢
  grind
def acn{n:Int}{d:Nat}(hd:0<d)(hg:wM n.natAbs d=1):∃r:Rat,r.num=n/\r.den=d:=⟨⟨n,d,by lia,hg⟩,rfl,rfl⟩
def awC{s:List Nat}(h:iL s=0):∃r:Rat,s=RT r/\(aB r.num.natAbs).length<=600/\(aB r.den).length<=600:=by
 have key:∀(neg:Bool) (t:List Nat),BT neg t=0->∃r:Rat,(if neg=ydb then [45] else [])++t=RT r/\(aB r.num.natAbs).length<=600/\(aB r.den).length<=600:=by
  intro neg t h;unfold BT at h
  split at h
  .grind
  rename_i h1
  split at h
  .grind
  rename_i h2
  split at h
  .grind
  rename_i h3
  split at h
  .grind
  rename_i h4;have hle:=J5 t;have hp:dZ (t.take (bT t))=ydb:=by
   cases hb:dZ (t.take (bT t)) with
   | true=>rfl
   | false=>exact absurd (.inl hb) h1
  have zI:=GC _ rfl hp;generalize hn:gA (t.take (bT t))=n at*
  have ay4:neg=ydb->n≠0:=fun hh e=>by
   subst e;exact h1 (.inr ⟨hh,by rw[<-zI];rfl⟩)
  have hint:(if neg=ydb then [45] else [])++aB n=aV (if neg=ydb then -(n:Int) else n):=by
   cases neg with
   | true=>
    have:=ay4 rfl
    simp only[xP];rw[pC (by lia)]
    simp
   | false=>simp[nt]
  have XX:(if neg=ydb then -(n:Int) else n).natAbs=n:=by split<;>lia
  have sB:(aB n).length<=600:=by rw[zI,yQ];lia
  by_cases hs:bT t<t.length
  .have hq:dZ (t.drop (bT t+1))=ydb:=by
    cases hb:dZ (t.drop (bT t+1)) with
    | true=>rfl
    | false=>exact absurd ⟨hs,.inl hb⟩ h2
   have qK:=GC _ rfl hq;have hg:wM n (gA (t.drop (bT t+1)))=1:=by
    grind
   have lI:=aao t hs;have NG:(t.drop (bT t+1)).length<=600:=by rw[we];lia
   rw[<-qK] at lI NG;have iK:gA (t.drop (bT t+1))≠0:=fun e=>by
    rw[e] at qK;exact h2 ⟨hs,.inr (.inl (by rw[<-qK];rfl))⟩
   have se:gA (t.drop (bT t+1))≠1:=fun e=>by
    rw[e] at qK;exact h2 ⟨hs,.inr (.inr (by rw[<-qK];rfl))⟩
   generalize gA (t.drop (bT t+1))=d at*
   have⟨r,dV,nS⟩:=acn (n:=if neg=ydb then -(n:Int) else n) (d:=d) (by lia) (by rw[XX];exact hg)
   refine⟨r,?_,by rw[dV,XX];exact sB,by rw[nS];exact NG⟩
   unfold RT;rw[dV,nS,yr se,<-hint,xD]
   congr 1
   rw[zI];exact lI
  .have ht:t.take (bT t)=t:=yE (by lia);rw[ht] at zI;have⟨r,dV,nS⟩:=acn (n:=if neg=ydb then -(n:Int) else n) (d:=1) (by lia) (Nat.gcd_one_right _);refine⟨r,?_,by rw[dV,XX];exact sB,by rw[nS];decide⟩
   unfold RT;rw[dV,nS,yC rfl,<-hint,xU,zI]
 cases s with
 | nil=>exact absurd h (by decide)
 | cons b t=>
  simp only[iL] at h
  split at h
  .rename_i hb;subst hb;exact key ydb t h
  .exact key ydc (b::t) h
end VE
end
section
namespace VE
namespace Nd
structure Ord(n:Nat)(l:List Int):Prop where
 len:l.length=n
 rU:∀a,a<n->0<=l.getD a 0/\l.getD a 0<n
 inj:∀a b,a<n->b<n->l.getD a 0=l.getD b 0->a=b
end Nd
end VE
end
section
namespace VE
namespace Nd
open Go (IntKind)
section
variable {P:aE}{L:Lib}
abbrev ab(P:aE)(L:Lib)(f:Nat)(au:List AV)(r:AV):Prop:=bO P L (D P L) f au=Gp r
def stS{hp:Hp}{ct id o:Nat}{v:Int}{ex:Bool}{l:List Int}(h:o<l.length):gD hp ct id o 1 [.int .i64 v] (Gp (.cells ydb ydb ex 1 (l.map aa)))=Gp (.av [],aU hp id (.cells ydb ydb ex 1 ((l.set o v).map aa)),ct):=by
 rw[sT (by rfl) (by simp;lia) (by rfl)]
 have:over o [AV.int .i64 v] (l.map aa)=(l.set o v).map aa:=by
  simp only[over,yF,yN,yd];rw[ycu,vI,yC (by simpa using h)]
  simp
 rw[this];rfl
def BU(h:Has P L 124 Hy)(b:Bool)(n:Int):ab P L 124 [.bool b,aa n] (aa (if b=ydb then n else 0)):=by
 unfold ab;rw[aD h]
 cases b with
 | true=>simp only[go_sem,ya,Hy,xP]
 | false=>simp only[go_sem,ya,Hy];rfl
def aA4(h:Has P L 125 QQ){v:AV}{l:List Int}(hv:bA v l)(hl:l.length<=1000000):ab P L 125 [v] (aa (b9 l)):=by
 unfold ab;rw[aD h];simp only[go_sem,ya,QQ,hv.len];have key:=OU (P:=P) (L:=L) (live:=[5,6,7]) (a:=PH)
  (I:=fun k s=>∃tm ct i,s=⟨tm,[],ct,0⟩/\ak tm 5=v/\ak tm 6=aa l.length/\ak tm 7=aa (i:Nat)/\i+k=l.length/\b9 (l.drop i)=b9 l)
  (Q:=fun ex s=>∃tm,s=⟨tm,[],0,0⟩/\((ex=.ret/\ak tm 2=aa (b9 l))\/(ex=.exit 0/\b9 l=0))) ?_ l.length
 .generalize hq:D P L (.loop _ PH) _=q;obtain⟨ex,s,rfl,tm,rfl,h2⟩:=bL hq key ⟨_,_,0,rfl,rfl,rfl,rfl,by lia,rfl⟩;rcases h2 with ⟨rfl,h2⟩ | ⟨rfl,h2⟩
  .simp only [go_sem,h2]
  .rw [h2];simp only[go_sem]
 .rintro k s ⟨tm,ct,i,rfl,h5,h6,h7,hk,hf⟩;rw[NW (by simp only[go_sem,h5,h6,h7,hv.pu])];simp only[go_sem,ya,h5,h6,h7,PH];by_cases hi:i<l.length
  .have cZ:(i:Int)<l.length:=by lia
   rw[Tz hi] at hf;by_cases hz:l[i]=0
   .left
    simp only[go_sem,ya,cZ,hv.bk hi,hz];refine⟨_,k-1,rfl,by lia,_,_,i+1,rfl,?_⟩;rw[wrap64 (by lia) (by lia)];rw[yC hz] at hf;simp only[go_sem,ya];exact⟨trivial,trivial,rfl,by lia,hf⟩
   .right
    simp only[go_sem,ya,cZ,hv.bk hi,hz];rw[yr hz] at hf;refine⟨_,_,rfl,by simp,_,rfl,.inl ⟨rfl,?_⟩⟩;simp only[go_sem,hf]
  .right
   have cZ:¬(i:Int)<l.length:=by lia
   simp only[go_sem,cZ];refine⟨_,_,rfl,by simp,_,rfl,.inr ⟨rfl,?_⟩⟩;rw[<-hf,xd (by lia)];rfl
end
end Nd
end VE
end
section
namespace VE
open Go (IntKind)
section
variable {a b p:List Nat}
def adv(i:Nat):Hx i [48,49,50,51,52,53,54,55,56,57]=(yB 48 i&&yB i 57):=by
 by_cases h:48<=i/\i<=57
 .have ⟨h1,h2⟩:=h;obtain⟨k,rfl⟩:∃k,i=48+k:=⟨i-48,by lia⟩;rcases (show k=0\/k=1\/k=2\/k=3\/k=4\/k=5\/k=6\/k=7\/k=8\/k=9 by lia) with rfl | rfl | rfl | rfl | rfl | rfl | rfl | rfl | rfl | rfl<;>rfl
 .have e:(yB 48 i&&yB i 57)=ydc:=by
   cases h1:yB 48 i with
   | false=>rfl
   | true=>
    cases h2:yB i 57 with
    | false=>rfl
    | true=>exact absurd ⟨yt h1,yt h2⟩ h
  rw[e];have ne:∀c,48<=c->c<=57->yq c i=ydc:=fun c h1 h2=>gU (by lia)
  simp only[Hx,ne 48 (by decide) (by decide),ne 49 (by decide) (by decide),ne 50 (by decide) (by decide),ne 51 (by decide) (by decide),ne 52 (by decide) (by decide),ne 53 (by decide) (by decide),ne 54 (by decide) (by decide),ne 55 (by decide) (by decide),ne 56 (by decide) (by decide),ne 57 (by decide) (by decide),yP]
def Uo:∀l:List Nat,mq [48,49,50,51,52,53,54,55,56,57] l=[]↔dn l=ydb
 | []=>by simp[mq,dn]
 | b::r=>by
  simp only[mq,dn,adv]
  cases hb:(yB 48 b&&yB b 57) with
  | true=>simp only[yu,wS];exact Uo r
  | false=>simp
def O0:∀l:List Nat,dn l.reverse=dn l
 | []=>rfl
 | b::r=>by rw[List.reverse_cons,NZ,O0 r];simp[dn,Bool.and_comm]
def aar:∀l:List Nat,dn l=ydc->dn (mq [48,49,50,51,52,53,54,55,56,57] l)=ydc
 | [],h=>by simp[dn] at h
 | b::r,h=>by
  simp only[mq,adv]
  cases hb:(yB 48 b&&yB b 57) with
  | true=>
   simp only[dn,hb,wS] at h;exact aar r h
  | false=>simp only[yP];exact h
def aqG(p:List Nat):cK (mq [48,49,50,51,52,53,54,55,56,57] (mq [48,49,50,51,52,53,54,55,56,57] p.reverse).reverse) []=dn p:=by
 cases hd:dn p with
 | true=>
  have h1:=(Uo p.reverse).2 (by rw[O0];exact hd)
  rw[h1];rfl
 | false=>
  have h1:=aar p.reverse (by rw[O0];exact hd)
  have h2:dn (mq [48,49,50,51,52,53,54,55,56,57] p.reverse).reverse=ydc:=by rw[O0];exact h1
  cases hq:mq [48,49,50,51,52,53,54,55,56,57] (mq [48,49,50,51,52,53,54,55,56,57] p.reverse).reverse with
  | nil=>have:=(Uo _).1 hq;rw[h2] at this;exact absurd this (by decide)
  | cons b r=>rfl
def aas:∀(t:List Nat) (k:Nat),nE [47] t k=if bT t<t.length then Gp (k+bT t) else none
 | [],k=>by simp[nE,iD,bT]
 | b::r,k=>by
  by_cases hb:b=47
  .subst hb;have e:bT (47::r)=0:=by simp[bT]
   rw[e,yC (by simp)];rfl
  .have e:bT (b::r)=bT r+1:=by simp[bT,hb]
   have hp:iD [47] (b::r)=ydc:=by rw[J8];exact gU (fun e=>hb e.symm)
   rw[e,nE,hp,yP,aas r (k+1)]
   grind
def CJ(a b:List Nat):binOp .neq (.str a) (.str b)=Gp (.bool (!(cK a b))):=rfl
structure Ck(P:aE)(L:Lib):Prop extends Tx P L where
 aA5:L.pure 128=Gp Of
 aA6:L.pure 162=Gp trimS
 h86:Has P L 86 fE
 FG:Has P L 124 Hy
 aA7:Has P L 125 QQ
 aA8:Has P L 129 Hz
section
variable {P:aE}{L:Lib}
def BU(h:Has P L 124 Hy)(b:Bool)(n:Int):ab P L 124 [.bool b,aa n] (aa (if b=ydb then n else 0)):=Nd.BU h b n
def aib(h:Ck P L)(hl:p.length<=4000000000):ab P L 129 [.str p] (.bool (dZ p)):=by
 have e1:bO P L (D P L) 162 [.str p,.str [48,49,50,51,52,53,54,55,56,57]]=Gp (.str (mq [48,49,50,51,52,53,54,55,56,57] (mq [48,49,50,51,52,53,54,55,56,57] p.reverse).reverse)):=by
  rw[kJ h.aA6];show (bif GX [48,49,50,51,52,53,54,55,56,57]&&(yL p.length 4294967281&&yL 10 4294967281) then _ else none)=_
  rw[mr (by lia)];rfl
 have e2:=aqG p;unfold ab;rw[aD h.aA8]
 match p,e1,e2 with
 | [],_,_=>
  simp only[go_sem,ya,Hz,CJ,show cK [] []=ydb from rfl,yY];rfl
 | b::r,e1,e2=>
  have hI:oD 0 (.str (b::r))=Gp (.int .u8 (b:Nat)):=rfl;have h0:cK (b::r) []=ydc:=rfl;have hd:dZ (b::r)=(dn (b::r)&&(!(yq b 48)||r.isEmpty)):=rfl;rw[hd]
  cases oV:dn (b::r) with
  | false=>
   rw[oV] at e2;simp only[go_sem,ya,Hz,CJ,h0,yZ,e1,nB,e2,wK]
  | true=>
   rw[oV] at e2;by_cases hb:b=48
   .subst hb;have e3:cK (48::r) [48]=r.isEmpty:=by
     cases r with
     | nil=>rfl
     | cons c r=>rfl
    have YU:oD 0 (.str (48::r))=Gp (.int .u8 48):=rfl;simp only[go_sem,ya,Hz,CJ,h0,yZ,e1,nB,e2,YU,yI,yY,e3];rfl
   .have:yq b 48=ydc:=gU hb
    rw[this];simp only[go_sem,ya,Hz,CJ,h0,yZ,e1,nB,e2,hI,show ¬((b:Nat):Int)=48 by lia,yM,yZ];rfl
def aA9(h:Ck P L)(s:List Nat):bO P L (D P L) 128 [.str s,.str [45]]=Gp (if s.head? =Gp 45 then .av [.str s.tail,.bool ydb] else .av [.str s,.bool ydc]):=by
 rw[kJ h.aA5];show Gp (bif iD [45] s then AV.av [.str (s.drop 1),.bool ydb] else .av [.str s,.bool ydc])=_
 cases s with
 | nil=>rfl
 | cons b r=>
  by_cases hb:b=45
  .subst hb;rfl
  .have:iD [45] (b::r)=ydc:=by rw[J8];exact gU (fun e=>hb e.symm)
   grind
def aBa(h:Ck P L){t:List Nat}(hl:t.length<=4000000000):bO P L (D P L) 109 [.str t,.str [47]]=Gp (.av [.str (t.take (bT t)),.str (t.drop (bT t+1)),.bool (decide (bT t<t.length))]):=by
 rw[kJ h.XP];show (bif yL t.length 4294967281 then (match nE [47] t 0 with | some i=>Gp (AV.av [.str (t.take i),.str (t.drop (i+1)),.bool ydb]) | none=>Gp (AV.av [.str t,.str [],.bool ydc])) else none)=_
 rw[mr (by lia),aas];by_cases hs:bT t<t.length
 .grind
 .rw [yr hs,yW hs,yE (by lia),xd (by lia)];rfl
def amX{P:aE}{L:Lib}(a b c d:VC)(s:St):D P L (.seq a (.seq b (.seq c d))) s=rA P L (D P L (.seq a (.seq b c)) s) d:=by
 have e:=En (P:=P) (L:=L) b c d;rw[nI,nI]
 cases D P L a s with
 | none=>rfl
 | some q=>
  have⟨ex,st⟩:=q
  cases ex with
  | normal=>rw[jk,jk];exact e st
  | ret=>rfl
  | exit id=>rfl
def aox{P:aE}{L:Lib}(a b c d f:VC)(s:St):D P L (.seq a (.seq b (.seq c (.seq d f)))) s=rA P L (D P L (.seq a (.seq b (.seq c d))) s) f:=by
 have e:=amX (P:=P) (L:=L) b c d f;rw[nI,nI]
 cases D P L a s with
 | none=>rfl
 | some q=>
  have⟨ex,st⟩:=q
  cases ex with
  | normal=>rw[jk,jk];exact e st
  | ret=>rfl
  | exit id=>rfl
def GO(h:a=b):cK a b=ydb:=by
 subst h
 induction a with
 | nil=>rfl
 | cons x a ih=>simp[cK,ih]
def Vq(h:a≠b):cK a b=ydc:=by
 cases hb:cK a b with
 | false=>rfl
 | true=>
  exact absurd (by
   clear h;revert b
   induction a with
   | nil=>intro b hb;cases b with | nil=>rfl | cons y b=>simp[cK] at hb
   | cons x a ih=>
    intro b hb
    cases b with
    | nil=>simp[cK] at hb
    | cons y b=>
     simp only[cK,ye] at hb
     rw[yg hb.1,ih hb.2]) h
def ay5(h:Ck P L){q:List Nat}{ok found:Bool}(lp:p.length<=1000000000)(lq:q.length<=1000000000)(kH:ok=ydb->dZ p=ydb/\(found=ydb->dZ q=ydb)){tm:Env}(t5:ak tm 5=.str p)(t6:ak tm 6=.str q)(t7:ak tm 7=.bool found)(t8:ak tm 8=.bool ok):
  gM [.t 2] (D P L (aC (aC (aC (aC (aC fE.body))))) ⟨tm,[],0,0⟩)=Gp (aa (
   if ok=ydc then 1
   else if 600<p.length\/600<q.length then 4
   else if found=ydb/\wM (gA p) (gA q)≠1 then 1
   else 0)):=by
 have w1:=BU h.FG (!ok) 1;have oW:∀a b:Int,ab P L 125 [.ap ydb 2 [aa a,aa b]] (aa (b9 [a,b])):=fun a b=>Nd.aA4 h.aA7 (jY ydb [a,b]) (by simp)
 cases ok with
 | false=>
  have f1:=oW 1 0;have f2:=oW 1 4;have w2:=BU h.FG ydc 4;have w3:=BU h.FG ydb 4;simp only[yZ,xP,yD,xz] at w1 w2 w3;rw[show b9 [1,0]=1 by decide] at f1;rw[show b9 [1,4]=1 by decide] at f2;unfold ab at w1 w2 w3 f1 f2;by_cases h1:600<p.length
  .simp only [go_sem,ya,yb,yx,yi,ym,fE,aC,show ¬(1:Int)=0 by decide,yZ,t5,t8,yZ,w1,show (600:Int)<(p.length:Int) by lia,yI,w3,f2,yM]
   simp
  .by_cases h2:600<q.length
   .simp only [go_sem,ya,yb,yx,yi,ym,fE,aC,show ¬(1:Int)=0 by decide,yZ,t5,t6,t8,yZ,w1,show ¬(600:Int)<(p.length:Int) by lia,show (600:Int)<(q.length:Int) by lia,yI,yM,w3,f2]
    simp
   .simp only [go_sem,ya,yb,yx,yi,ym,fE,aC,show ¬(1:Int)=0 by decide,yZ,t5,t6,t8,yZ,w1,show ¬(600:Int)<(p.length:Int) by lia,show ¬(600:Int)<(q.length:Int) by lia,yM,w2,f1]
    simp
 | true=>
  have⟨hp,hq⟩:=kH rfl;have f1:=oW 0 0;have f2:=oW 0 4;have w2:=BU h.FG ydc 4;have w3:=BU h.FG ydb 4;have w4:=BU h.FG ydc 1;have w5:=BU h.FG ydb 1;simp only[yY,xP,yD,xz] at w1 w2 w3 w4 w5;rw[show b9 [0,0]=0 by decide] at f1;rw[show b9 [0,4]=4 by decide] at f2;unfold ab at w1 w2 w3 w4 w5 f1 f2;rw[yr (by decide)];by_cases h1:600<p.length
  .rw [yC (.inl h1)];simp only[go_sem,ya,yb,yx,yi,ym,fE,aC,show ¬(4:Int)=0 by decide,yZ,t5,t8,yY,w1,show (600:Int)<(p.length:Int) by lia,yI,w3,f2,yM]
  .by_cases h2:600<q.length
   .rw [yC (.inr h2)];simp only[go_sem,ya,yb,yx,yi,ym,fE,aC,show ¬(4:Int)=0 by decide,yZ,t5,t6,t8,yY,w1,show ¬(600:Int)<(p.length:Int) by lia,show (600:Int)<(q.length:Int) by lia,yI,yM,w3,f2]
   .rw [yr (by lia)]
    cases found with
    | false=>
     rw[yr (by simp)];simp only[go_sem,ya,yb,yx,yi,ym,fE,aC,t5,t6,t7,t8,yY,w1,show ¬(600:Int)<(p.length:Int) by lia,show ¬(600:Int)<(q.length:Int) by lia,yI,yM,w2,f1]
    | true=>
     have zI:=GC _ rfl hp;have qK:=GC _ rfl (hq rfl);generalize gA p=n at*
     generalize gA q=d at*
     subst zI;subst qK;obtain⟨M,hM⟩:∃M:Nat,M=2400:=⟨_,rfl⟩;have bd:∀{m:Nat},(aB m).length<=600->Bd M (m:Int):=fun {m} hm=>by
      have h1:=Ku m;have h2:=Kv (aB m).length;have h3:(2:Nat)^(4*(aB m).length)<=2^M:=xa (by decide) (by lia);unfold Bd;rw[wz];exact yG h1 (xo h2 h3)
     have⟨x,e1,hx⟩:=MB h.toTx (z:=(n:Int)) (by rw[nt];lia)
     have⟨y,e2,hy⟩:=MB h.toTx (z:=(d:Int)) (by rw[nt];lia)
     rw[nt] at e1 e2;have kn:=bd (m:=n) (by lia);have kd:=bd (m:=d) (by lia);have⟨g,e3,hg⟩:=ah4 h.toNu hx hy kn kd (by lia);have⟨e4,FP⟩:=FC h.toNu (z:=1) (by decide) (by decide);have kg:Bd M ((vv (n:Int) (d:Int):Nat):Int):=by
      rcases xq d with h0 | h0
      .subst h0;simpa using kn
      .exact kd.le (by have:=Nat.gcd_le_right n h0;simpa using this)
     have e5:=aAS h.toNu hg FP (K:=M) kg (by unfold Bd;exact vX (by lia)) (by lia)
     have aBb:vv (n:Int) (d:Int)=wM n d:=rfl;rw[aBb] at e5;obtain⟨xs,xw,rfl,oX⟩:=hx;obtain⟨ys,yw,rfl,Gg⟩:=hy;obtain⟨gs,gw,rfl,ZS⟩:=hg;have⟨l1,u1⟩:=oX.aO;have⟨l2,u2⟩:=Gg.aO;have⟨l3,u3⟩:=ZS.aO;by_cases jw:wM n d=1
     .rw [yr (by simp[jw])];have hs:bW (((wM n d:Nat):Int)-1)=0:=by rw[jw];rfl
      rw[hs] at e5;simp only[go_sem,ya,yb,yx,yi,ym,fE,aC,t5,t6,t7,t8,yY,w1,show ¬(600:Int)<((aB n).length:Int) by lia,show ¬(600:Int)<((aB d).length:Int) by lia,yI,yM,w2,f1,e1,e2,u1.aj,u2.aj,u3.aj,bw,b6,e3,e4,e5]
     .rw [yC ⟨rfl,jw⟩];obtain⟨c,hc,lz⟩:∃c,bW (((wM n d:Nat):Int)-1)=c/\c≠0:=⟨_,rfl,fun e=>jw (by
       unfold bW at e
       split at e
       .exact absurd e (by decide)
       .split at e
        .lia
        .exact absurd e (by decide))⟩
      rw[hc] at e5;simp only[go_sem,ya,yb,yx,yi,ym,fE,aC,yZ,t5,t6,t7,t8,yY,w1,show ¬(600:Int)<((aB n).length:Int) by lia,show ¬(600:Int)<((aB d).length:Int) by lia,yI,yM,w2,f1,e1,e2,u1.aj,u2.aj,u3.aj,bw,b6,e3,e4,e5,lz,yZ,w5]
def m86(h:Ck P L){s:List Nat}(hl:s.length<=1000000000):ab P L 86 [.str s] (aa (iL s)):=by
 have key:∀(neg:Bool) (t:List Nat),t.length<=1000000000->bO P L (D P L) 128 [.str s,.str [45]]=Gp (.av [.str t,.bool neg])->ab P L 86 [.str s] (aa (BT neg t)):=by
  intro neg t hl e0;have e1:=aBa h (t:=t) (by lia);obtain⟨k,hk⟩:∃k,k=bT t:=⟨_,rfl⟩;have ZT:k<=t.length:=by rw[hk];exact J5 t
  have e2:=aib h (p:=t.take k) (by rw[yQ];lia)
  have e3:=aib h (p:=t.drop (k+1)) (by rw[we];lia)
  have lp:(t.take k).length=k:=by rw[yQ];lia
  have lq:(t.drop (k+1)).length=t.length-k-1:=by rw[we];lia
  unfold BT;rw[<-hk] at e1 ⊢;generalize hp:t.take k=p at*
  generalize hq:t.drop (k+1)=q at*
  obtain⟨D1,AA⟩:∃ok:Bool,ok=(dZ p&&(!neg|| !(cK p [48]))):=⟨_,rfl⟩;obtain⟨ok,kH⟩:∃ok:Bool,ok=(D1&&(!(decide (k<t.length))||(dZ q&&(!(cK q [48])&& !(cK q [49]))))):=⟨_,rfl⟩
  have RN:(if dZ p=ydc\/(neg=ydb/\p=[48]) then 1
    else if k<t.length/\(dZ q=ydc\/q=[48]\/q=[49]) then 1
    else if 600<k\/600<t.length-k-1 then 4
    else if k<t.length/\wM (gA p) (gA q)≠1 then 1 else 0:Int)=(if ok=ydc then 1
    else if 600<p.length\/600<q.length then 4
    else if decide (k<t.length)=ydb/\wM (gA p) (gA q)≠1 then 1
    else 0):=by
   rw[lp,lq];have a1:(dZ p=ydc\/(neg=ydb/\p=[48]))↔D1=ydc:=by
    rw[AA];cases dZ p<;>cases neg<;>simp
    by_cases e:p=[48]
    .simp [e,GO]
    .simp [e,Vq e]
   have a2:ok=ydc↔(D1=ydc\/(k<t.length/\(dZ q=ydc\/q=[48]\/q=[49]))):=by
    rw[kH];by_cases hs:k<t.length
    .simp only [hs,yI,yY,vV,tN];cases D1<;>cases dZ q<;>simp
     by_cases e:q=[48]
     .simp [e,GO]
     .by_cases e':q=[49]
      .simp [e',GO]
      .simp [e,e',Vq e,Vq e']
    .simp [hs]
   by_cases h1:D1=ydc
   .rw [yC (a1.2 h1),yC (a2.2 (.inl h1))]
   .rw [yr (fun e=>h1 (a1.1 e))];by_cases h2:k<t.length/\(dZ q=ydc\/q=[48]\/q=[49])
    .rw [yC h2,yC (a2.2 (.inr h2))]
    .rw [yr h2,yr (fun e=>(a2.1 e).elim h1 h2)];simp only[vS]
  rw[RN];have aBc:ok=ydb->dZ p=ydb/\(decide (k<t.length)=ydb->dZ q=ydb):=fun e=>by
   rw[kH,ye] at e;have⟨e1,e2⟩:=e;rw[AA,ye] at e1;refine⟨e1.1,fun hs=>?_⟩;rw[hs,yY,vV,ye] at e2;exact e2.1
  have tail:∀tm,ak tm 5=.str p->ak tm 6=.str q->ak tm 7=.bool (decide (k<t.length))->ak tm 8=.bool ok->gM [.t 2] (D P L (aC (aC (aC (aC (aC fE.body))))) ⟨tm,[],0,0⟩)=_:=fun tm t5 t6 t7 t8=>
   ay5 h (by lia) (by lia) aBc t5 t6 t7 t8
  have mid:∀tm,ak tm 5=.str p->ak tm 6=.str q->ak tm 7=.bool (decide (k<t.length))->ak tm 8=.bool D1->
    ∃tm',D P L (bD (aC (aC (aC (aC fE.body))))) ⟨tm,[],0,0⟩=Gp (.normal,⟨tm',[],0,0⟩)/\ak tm' 5=.str p/\ak tm' 6=.str q/\ak tm' 7=.bool (decide (k<t.length))/\ak tm' 8=.bool ok:=fun tm t5 t6 t7 t8=>by
   unfold ab at e3;by_cases hs:k<t.length
   .rw [xk hs] at t7 kH ⊢;simp only[yY,vV] at kH
    cases D1 with
    | false=>
     rw[wK] at kH;subst kH;refine⟨_,by simp only[go_sem,ya,fE,bD,aC,t7,t8]<;>rfl,?_⟩
     simp only[go_sem,ya,t5,t6,t7,tN]
    | true=>
     rw[wS] at kH
     cases hd:dZ q with
     | false=>
      rw[hd] at e3 kH;rw[wK] at kH;subst kH;refine⟨_,by simp only[go_sem,ya,fE,bD,aC,t6,t7,t8,e3]<;>rfl,?_⟩
      simp only[go_sem,ya,t5,t6,t7,tN]
     | true=>
      rw[hd] at e3 kH;rw[wS] at kH
      cases kO:cK q [48] with
      | true=>
       rw[kO,yY,wK] at kH;subst kH;refine⟨_,by simp only[go_sem,ya,fE,bD,aC,t6,t7,t8,e3,CJ,kO,yY]<;>rfl,?_⟩
       simp only[go_sem,ya,t5,t6,t7,tN]
      | false=>
       rw[kO,yZ,wS] at kH;subst kH;refine⟨_,by simp only[go_sem,ya,fE,bD,aC,t6,t7,t8,e3,CJ,kO,yZ]<;>rfl,?_⟩
       simp only[go_sem,ya,t5,t6,t7,tN]
   .rw [yW hs] at t7 kH ⊢;simp only[yZ,tc,vL] at kH;subst kH;refine⟨_,by simp only[go_sem,fE,bD,aC,t7]<;>rfl,?_⟩
    simp only[go_sem,ya,t5,t6,t7,t8,tN]
  have fin:∀tm,ak tm 5=.str p->ak tm 6=.str q->ak tm 7=.bool (decide (k<t.length))->ak tm 8=.bool D1->
    D P L (.seq (bD fE.body) (.seq (bD (aC fE.body)) (.seq (bD (aC (aC fE.body))) (bD (aC (aC (aC fE.body))))))) ⟨[(0,.str s)],[],0,0⟩=Gp (.normal,⟨tm,[],0,0⟩)->ab P L 86 [.str s] _:=fun tm t5 t6 t7 t8 e=>by
   have⟨tm',e',f5,f6,f7,f8⟩:=mid tm t5 t6 t7 t8;unfold ab;rw[aD h.h86];show gM [.t 2] (D P L (.seq (bD fE.body) (.seq (bD (aC fE.body)) (.seq (bD (aC (aC fE.body))) (.seq (bD (aC (aC (aC fE.body)))) (.seq (bD (aC (aC (aC (aC fE.body))))) (aC (aC (aC (aC (aC fE.body)))))))))) ⟨[(0,.str s)],[],0,0⟩)=_
   rw[aox,e,jk,nI,e',jk];exact tail tm' f5 f6 f7 f8
  unfold ab at e2
  cases hd:dZ p with
  | false=>
   rw[hd] at e2 AA;rw[wK] at AA;subst AA;refine fin _ ?_ ?_ ?_ ?_ (by simp only[go_sem,ya,fE,bD,aC,e0,e1,e2]<;>rfl)<;>simp only[go_sem,ya]
  | true=>
   rw[hd] at e2 AA
   cases neg with
   | false=>
    simp only[yZ,tc] at AA;subst AA;refine fin _ ?_ ?_ ?_ ?_ (by simp only[go_sem,ya,fE,bD,aC,e0,e1,e2,yZ]<;>rfl)<;>simp only[go_sem,ya]
   | true=>
    simp only[yY,vV] at AA;subst AA;refine fin _ ?_ ?_ ?_ ?_ (by simp only[go_sem,ya,fE,bD,aC,e0,e1,e2,yY,CJ]<;>rfl)<;>simp only[go_sem,ya]
 unfold iL;have e0:=aA9 h s
 cases s with
 | nil=>exact key ydc [] (by simp) e0
 | cons b r=>
  by_cases hb:b=45
  .subst hb;exact key ydb r (by simp at hl;lia) e0
  .simp only [hb,xz];rw[yr (by simpa using hb)] at e0;exact key ydc (b::r) hl e0
end
end
end VE
end
section
namespace VE
open Go (IntKind)
section
variable {v:AV}{z:Int}{K:Nat}
def LN(z:Int):Bool:=decide (600<(aB z.natAbs).length)
def LG(r:Rat):Bool:=LN r.num||LN (r.den:Int)
def TQ{m B k:Nat}(hB:B<=3*k)(hk:0<k)(h:m<2^B):(aB m).length<=k:=by
 obtain⟨j,rfl⟩:∃j,k=j+1:=⟨k-1,by lia⟩;refine zU (yG h (xo (xa (by decide) hB) ?_));rw[yap];exact ud (by decide) _
def Vr:∀f n:Nat,eU f n<=f
 | 0,_=>yp _
 | f+1,n=>by
  unfold eU
  cases yq n 0 with
  | true=>exact tk _
  | false=>have:=Vr f (n/2);simp only[yP];lia
def awD{P:aE}{L:Lib}{f:cx}(h:L.pure 175=Gp KE){x:Nat}(hx:x<2^64):bO P L f 175 [uc x]=Gp (aa (eU 64 x:Nat)):=by
 rw[kJ h];show (bif yL x (2^64) then _ else none)=_
 rw[mr hx];rfl
def as0{V n top low:Nat}(hn:0<n)(h0:0<top)(ht:top<2^64)(hV:V=low+(2^64)^(n-1)*top)(hl:low<(2^64)^(n-1)):V<2^(64*(n-1)+eU 64 top):=by
 have⟨l1,l2,l3⟩:=UR h0 ht;have hle:=Vr 64 top;have h1:top<2^eU 64 top:=by
  have e:(2^64:Nat)=2^eU 64 top*2^(64-eU 64 top):=by rw[<-xH,show eU 64 top+(64-eU 64 top)=64 by lia]
  rw[e] at l3;exact Nat.lt_of_mul_lt_mul_right l3
 have h3:=yV ((2^64)^(n-1)) (show top+1<=2^eU 64 top from h1);rw[xH,yap]
 grind
section
variable {P:aE}{L:Lib}
def aqH(K:Nat):2^K<=(2^64)^(K/64+1):=by
 rw[show (2^64:Nat)=2^64 from rfl,<-yap];exact xa (by decide) (by lia)
def ay6(h:Tx P L)(hv:cD v z)(hz:Bd K z)(hK:K<=4000000000):∃B:Nat,ab P L 172 [v] (aa B)/\z.natAbs<2^B/\B<=K+64:=by
 obtain⟨s,w,rfl,hn⟩:=hv;have⟨l,u⟩:=hn.aO;have⟨r,e1,hr⟩:=BR h.toNu hn;have⟨ws,hw,g,nz',hb⟩:=hr;have hl:ws.length<=K/64+1:=pV nz' hb (yG hz (aqH K));unfold ab at e1 ⊢;by_cases h0:ws=[]
 .subst h0;have nj:z.natAbs=0:=by rw[<-hb];rfl
  refine⟨0,?_,by rw[nj];decide,by lia⟩
  rw[aD h.ah6];simp only[go_sem,ya,yb,QX,aQ,bV,b6,u.pu,u.aj,u.one,e1,hw.len,yN,show ((0:Nat):Int)=0 from rfl,yI]
 .have hp:0<ws.length:=uZ.2 h0;have rD:=OT nz' h0;have F8:=iS (show 0<2^64 by decide) g (ws.length-1);have ei:=hw.bk (i:=ws.length-1) (by lia);have fg:=kK (b:=2^64) (l:=ws) (ws.length-1);have MC:=nH (CH g (ws.length-1));rw[yQ,xB (by lia)] at MC;rw[show ws.length-1+1=ws.length by lia,yE (yp _)] at fg;generalize ws.getD (ws.length-1) 0=top at*
  have e2:=awD (P:=P) (f:=D P L) h.aAY F8;have hle:=Vr 64 top;have agL:=as0 hp (Nat.pos_of_ne_zero rD) F8 fg MC;rw[hb] at agL;refine⟨64*(ws.length-1)+eU 64 top,?_,agL,by lia⟩;rw[aD h.ah6]
  simp only[go_sem,ya,yb,QX,aQ,bV,b6,u.pu,u.aj,u.one,e1,hw.len,show ¬(ws.length:Int)=0 by lia,show (ws.length:Int)-1=((ws.length-1:Nat):Int) by lia,wrapN (n:=ws.length-1) (by lia),show (64:Int)*((ws.length-1:Nat):Int)=((64*(ws.length-1):Nat):Int) by lia,wrapN (n:=64*(ws.length-1)) (by lia),ei,e2,show ((64*(ws.length-1):Nat):Int)+((eU 64 top:Nat):Int)=((64*(ws.length-1)+eU 64 top:Nat):Int) from rfl,wrapN (n:=64*(ws.length-1)+eU 64 top) (by lia)]
def aBd(h:Tx P L)(hv:cD v z)(hz:Bd K z)(hK:K<=4000000000):∃B:Nat,ab P L 172 [v] (aa B)/\z.natAbs<2^B/\B<=300000000000:=by
 have⟨B,h1,h2,h3⟩:=ay6 h hv hz hK;exact⟨B,h1,h2,by lia⟩
def aoy(z:Int):(if iD [45] (aV z)=ydb then (aV z).drop 1 else aV z)=aB z.natAbs:=by
 by_cases h:z<0
 .rw [pC h];rfl
 .obtain ⟨m,rfl⟩:∃m:Nat,z=m:=⟨z.toNat,by lia⟩;rw[nt];have⟨b,r,hb,h1,_⟩:=GB m;rw[wz,hb,Un h1];rfl
def aic(h:Tx P L)(hv:cD v z)(hz:Bd K z)(hK:K<=4000000000):ab P L 151 [v] (.bool (LN z)):=by
 have⟨B,e1,hB,hBb⟩:=aBd h hv hz hK;have e2:=ZP h hv hz hK;obtain⟨s,w,rfl,hn⟩:=hv;have⟨l,u⟩:=hn.aO;have e3:bO P L (D P L) 153 [.str (aV z),.str [45]]=Gp (.str (aB z.natAbs)):=by
  rw[kJ h.XN,<-aoy];show Gp (AV.str (bif iD [45] (aV z) then (aV z).drop 1 else aV z))=_
  cases iD [45] (aV z)<;>rfl
 unfold ab at e1 e2 ⊢;rw[aD h.aAZ];unfold LN;by_cases h1:1800<B
 .simp only [go_sem,ya,yb,QT,aQ,bV,b6,u.pu,u.aj,u.one,e1,show (1800:Int)<(B:Int) by lia,yI,e2,e3];by_cases h2:600<(aB z.natAbs).length
  .rw [xk h2,xk (by lia)]
  .rw [yW h2,yW (by lia)]
 .have h2:=TQ (k:=600) (by lia) (by decide) hB;rw[yW (by lia)];simp only[go_sem,ya,yb,QT,aQ,bV,b6,u.pu,u.aj,u.one,e1,show ¬(1800:Int)<(B:Int) by lia,yM]
def aBe(h:Tx P L){a:Rat}(hv:bS v a)(ka:Hq K a)(hK:K<=4000000000):ab P L 107 [v] (.bool (LG a)):=by
 obtain⟨s1,w1,s2,w2,rfl,h1,h2⟩:=hv;have e1:=aic h ⟨s1,w1,rfl,h1⟩ ka.1 hK;have e2:=aic h ⟨s2,w2,rfl,h2⟩ ka.2 hK;have⟨l1,u1⟩:=h1.aO;have⟨l2,u2⟩:=h2.aO;unfold ab at e1 e2 ⊢;rw[aD h.aA0];unfold LG
 cases hb:LN a.num with
 | true=>
  rw[hb] at e1;simp only[go_sem,ya,yb,QN,aQ,aY,yd,bV,b6,u1.pu,u1.aj,u1.one,u2.pu,u2.one,e1];rfl
 | false=>
  rw[hb] at e1;simp only[go_sem,ya,yb,QN,aQ,aY,yd,show um 2 [aa s1,w1,aa s2,w2]=[aa s2,w2] from rfl,bV,b6,u1.pu,u1.aj,u1.one,u2.pu,u2.aj,u2.one,e1,e2];rfl
end
end
end VE
end
section
namespace VE
section
variable {e:Int}{m:Nat}
def aid(a b:Nat)(h:a<b):2^a<2^b:=vB (by decide) h
def aie(a b:Nat)(h:2^a<2^b):a<b:=(uh (by decide)).1 h
def awE(m a b c:Nat)(h:m<2^a)(hc:a+b=c):m*2^b<2^c:=by
 subst hc;rw[xH];exact wg h (xm _)
def awF(m a b c:Nat)(h:2^a<=m)(hc:c<=a+b):2^c<=m*2^b:=
 xo (xa (by decide) hc) (by rw[xH];exact yO _ h)
open Ieee
def p2(e:Int):Rat:=(2:Rat)^e
def lJ(a b:Int):p2 (a+b)=p2 a*p2 b:=Rat.zpow_add (by decide) a b
def VX(e:Int):0<p2 e:=Rat.zpow_pos (by decide)
def WB(e:Int):p2 e≠0:=fun h=>by have:=VX e;rw[h] at this;exact absurd this (by decide)
def mO(n:Nat):p2 n=((2^n:Nat):Rat):=by
 unfold p2;rw[tg,Rat.natCast_pow];rfl
def FH:p2 0=1:=by have:=mO 0;simpa using this
def BV:p2 1=2:=by have:=mO 1;simpa using this
def VY(e:Int):p2 (-e)*p2 e=1:=by rw[<-lJ,show -e+e=0 by omega,FH]
structure Can(f:Format)(m:Nat)(e:Int):Prop where
 lp:f.leastPlace<=e
 lt:m<2^(f.fractionBits+1)
 ge:2^f.fractionBits<=m\/e=f.leastPlace
def fL(f:Format)(m:Nat)(e:Int):Nat:=(e-f.leastPlace).toNat*2^f.fractionBits+m
def aff(f:Format):f.infRung<f.signWeight:=by
 have h:0<2^f.exponentBits:=xm _;have hb:0<2^f.fractionBits:=xm _;unfold Format.infRung Format.signWeight Format.binade;rw[xH];exact wg (by omega) hb
def aoz{f:Format}(h:Can f m e)(s:Bool)(hr:fL f m e<f.infRung):f.read (f.word s (fL f m e))=.number s m e:=by
 have mE:=aff f;have hb:0<2^f.fractionBits:=xm _;have lp:=h.lp;have lt:=h.lt;have ge:=h.ge;rw[xn] at lt;have fV:(f.word s (fL f m e)/f.signWeight%2==1)=s:=by
  unfold Format.word
  cases s with
  | true=>rw[yC rfl,Nat.add_div_left _ (by omega),wb (by omega)];rfl
  | false=>rw[yr (by decide),wb (by omega)];rfl
 have oL:f.word s (fL f m e)%f.signWeight=fL f m e:=by
  unfold Format.word
  cases s with
  | true=>rw[yC rfl,ybH,yT (by omega)]
  | false=>rw[yr (by decide),yT (by omega)]
 unfold Format.read;simp only[fV,oL];obtain⟨d,hd⟩:∃d:Nat,e=f.leastPlace+d:=⟨(e-f.leastPlace).toNat,by omega⟩;have fN:fL f m e=d*2^f.fractionBits+m:=by unfold fL;rw[hd,show (f.leastPlace+(d:Int)-f.leastPlace).toNat=d by omega]
 unfold Format.binade;by_cases c:fL f m e<2^f.fractionBits
 .rw [yC c];have iK:d=0:=by
   rcases ge with ge | ge
   .exfalso
    have:=tk (d*2^f.fractionBits)
    omega
   .omega
  subst iK;rw[wC,yd] at fN;rw[fN,hd,Int.natCast_zero,ycA]
 .rw [yr c,yC hr];have hm:2^f.fractionBits<=m:=by
   rcases ge with ge | ge
   .exact ge
   .have:d=0:=by omega
    subst this;rw[wC,yd] at fN;omega
  obtain⟨x,hx⟩:∃x,m=2^f.fractionBits+x:=⟨m-2^f.fractionBits,by omega⟩;have hdiv:fL f m e/2^f.fractionBits=d+1:=by
   rw[fN,hx,<-uP,<-ycB,xt,tX hb,wb (by omega)]
  have FO:fL f m e%2^f.fractionBits=x:=by
   rw[fN,hx,<-uP,<-ycB,xt,tY,yT (by omega)]
  rw[hdiv,FO,hx,hd,show d+1-1=d by omega]
def aco{n d:Nat}{neg:Bool}:Toward.even.cut neg (n*2^d) d=n:=by
 unfold Toward.cut;by_cases h0:n=0
 .subst h0
  simp
 .have hl:d<=(n*2^d).log2:=(ycN (tr (wU (by omega) (xm _)))).2 (ug _ (by omega));have hp:0<2^d:=xm _;rw[xB (by omega),ybz];simp only[tf,uU _ hp,xG];have h1:decide (2^d<0)=ydc:=by simp
  have h2:((2^d==0):Bool)=ydc:=by simpa using tr hp
  simp[h2]
def Tq{n:Nat}(h:n≠0):∀d,(n*2^d).log2=n.log2+d
 | 0=>by simp
 | d+1=>by
  rw[xn,<-xj,xt (n*2^d) 2,Nat.log2_two_mul (tr (wU (by omega) (xm _))),Tq h d];omega
def Can.last{f:Format}(h:Can f m e)(h0:m≠0):max (e+m.log2-f.fractionBits) f.leastPlace=e:=by
 have lp:=h.lp;have h1:m.log2<f.fractionBits+1:=(ybc h0).2 h.lt;rcases h.ge with g | g
 .have:=(ycN h0).2 g
  omega
 .omega
def aqI{f:Format}(h:Can f m e)(h0:m≠0){m0:Nat}{e0:Int}(s:Bool)(hv:(m0:Rat)*p2 e0=(m:Rat)*p2 e):f.nearest s m0 e0=f.word s (min (fL f m e) f.infRung):=by
 have hl:=h.last h0;have lp:=h.lp;by_cases c:e0<=e
 .obtain ⟨d,hd⟩:∃d:Nat,e=e0+d:=⟨(e-e0).toNat,by omega⟩;have hm:m0=m*2^d:=by
   rw[hd,lJ,mO] at hv;have h1:(m0:Rat)=((m*2^d:Nat):Rat):=by
    rw[xQ];have h2:p2 e0*p2 (-e0)=1:=by rw[yaC];exact VY e0
    have h3:(m0:Rat)*p2 e0*p2 (-e0)=(m:Rat)*(p2 e0*((2^d:Nat):Rat))*p2 (-e0):=congrArg (·*p2 (-e0)) hv;rw[vD,h2,vJ] at h3;rw[h3]
    have:(m:Rat)*(p2 e0*((2^d:Nat):Rat))*p2 (-e0)=(m:Rat)*((2^d:Nat):Rat)*(p2 e0*p2 (-e0)):=by grind
    rw[this,h2,vJ]
   exact_mod_cast h1
  have Ci:m0≠0:=by rw[hm];exact tr (wU (by omega) (xm _))
  unfold Format.nearest;rw[yr Ci];have rD:max (e0+m0.log2-f.fractionBits) f.leastPlace=e:=by
   rw[hm,Tq h0,<-hl];omega
  dsimp only
  rw[rD];rw[show (e0-e).toNat=0 by omega,Nat.shiftLeft_zero,show (e-e0).toNat=d by omega,hm,aco];rfl
 .obtain ⟨d,hd⟩:∃d:Nat,e0=e+d:=⟨(e0-e).toNat,by omega⟩;have hm:m=m0*2^d:=by
   rw[hd,lJ,mO] at hv;have h1:(m:Rat)=((m0*2^d:Nat):Rat):=by
    rw[xQ];have h2:p2 e*p2 (-e)=1:=by rw[yaC];exact VY e
    have h3:(m0:Rat)*(p2 e*((2^d:Nat):Rat))*p2 (-e)=(m:Rat)*p2 e*p2 (-e):=congrArg (·*p2 (-e)) hv;have h4:(m:Rat)*p2 e*p2 (-e)=m:=by rw[vD,h2,vJ]
    rw[h4] at h3;rw[<-h3]
    have:(m0:Rat)*(p2 e*((2^d:Nat):Rat))*p2 (-e)=(m0:Rat)*((2^d:Nat):Rat)*(p2 e*p2 (-e)):=by grind
    rw[this,h2,vJ]
   exact_mod_cast h1
  have Ci:m0≠0:=fun q=>by rw[q,wC] at hm;exact h0 hm
  unfold Format.nearest;rw[yr Ci];have rD:max (e0+m0.log2-f.fractionBits) f.leastPlace=e:=by
   rw[hm,Tq Ci] at hl;rw[<-hl];omega
  dsimp only
  rw[rD];rw[show (e0-e).toNat=d by omega,show (e-e0).toNat=0 by omega,uz,<-hm]
  have:=aco (n:=m) (d:=0) (neg:=s)
  rw[vN,ym] at this;rw[this];rfl
end
end VE
end
section
namespace VE
open Ieee
structure Jz(f:Format)(b:Nat)(s:Bool)(m:Nat)(e:Int):Prop where
 can:Can f m e
 lt:fL f m e<f.infRung
 eq:b=f.word s (fL f m e)
def Jz.read{f:Format}{b:Nat}{s:Bool}{m:Nat}{e:Int}(h:Jz f b s m e):f.read b=.number s m e:=by
 rw[h.eq];exact aoz h.can s h.lt
def sg(s:Bool):Rat:=if s then -1 else 1
def fv(s:Bool)(m:Nat)(e:Int):Rat:=sg s*((m:Rat)*p2 e)
def as3{f:Format}{m:Nat}{e:Int}(h:Can f m e)(he:(e-f.leastPlace).toNat+2<=2^f.exponentBits-1):fL f m e<f.infRung:=by
 have aH:=h.lt;rw[xn] at aH;unfold fL Format.infRung Format.binade
 have:=yO (2^f.fractionBits) he
 rw[xR] at this;omega
def awG{f:Format}{n:Nat}{k:Int}(h0:n≠0)(hn:n<2^(f.fractionBits+1))(hk:f.leastPlace<=k):∃m e,Can f m e/\m≠0/\e<=k/\(m:Rat)*p2 e=(n:Rat)*p2 k:=by
 have hl:=(ybc h0).2 hn;obtain⟨j,hj⟩:∃j:Nat,j=min (f.fractionBits-n.log2) (k-f.leastPlace).toNat:=⟨_,rfl⟩;have h1:2^n.log2<=n:=Nat.log2_self_le h0;have h2:n<2^(n.log2+1):=ybI;refine⟨n*2^j,k-j,⟨by omega,?_,?_⟩,tr (wU (by omega) (xm _)),by omega,?_⟩
 .have:n*2^j<2^(n.log2+1)*2^j:=wg h2 (xm _)
  rw[<-xH] at this;exact yG this (xa (by decide) (by omega))
 .by_cases c:f.fractionBits-n.log2<=(k-f.leastPlace).toNat
  .left
   have:=yO (2^j) h1
   rw[<-xH,show n.log2+j=f.fractionBits by omega] at this;exact this
  .right;omega
 .rw [xQ,<-mO,vD,<-lJ,show (j:Int)+(k-j)=k by omega]
def wr{f:Format}{n:Nat}{k:Int}(h0:n≠0)(hn:n<2^(f.fractionBits+1))(hk:f.leastPlace<=k)(zq:(k-f.leastPlace).toNat+2<=2^f.exponentBits-1){m0:Nat}{e0:Int}(s:Bool)(hv:(m0:Rat)*p2 e0=(n:Rat)*p2 k):∃m e,Jz f (f.write (.number s m0 e0)) s m e/\m≠0/\(m:Rat)*p2 e=(n:Rat)*p2 k:=by
 obtain⟨m,e,hc,hm,he,hq⟩:=awG h0 hn hk;have hr:=as3 hc (by have:=hc.lp;omega);refine⟨m,e,⟨hc,hr,?_⟩,hm,hq⟩;show f.nearest s m0 e0=_
 rw[aqI hc hm s (hv.trans hq.symm),xB (by omega)]
def agM(f:Format):Can f 0 f.leastPlace:=⟨ycO _,xm _,.inr rfl⟩
def wr0{f:Format}(s:Bool)(e0:Int)(hi:0<f.infRung):Jz f (f.write (.number s 0 e0)) s 0 f.leastPlace:=by
 have hr:fL f 0 f.leastPlace=0:=by unfold fL;rw[ycC];simp
 refine⟨agM f,by rw[hr];exact hi,?_⟩
 rw[hr];show f.nearest s 0 e0=_
 unfold Format.nearest;rw[yC rfl]
def awH{f:Format}{b:Nat}(hb:b<2*f.signWeight)(zu:f.binade<=f.infRung):(∃s m e,Jz f b s m e)\/(∀s m e,f.read b≠.number s m e):=by
 have mE:=aff f;have hp:0<2^f.fractionBits:=xm _;obtain⟨s,r,hr,rfl⟩:∃(s:Bool) (r:Nat),r<f.signWeight/\b=f.word s r:=by
  by_cases c:b<f.signWeight
  .exact ⟨ydc,b,c,by unfold Format.word;rw[yr (by decide)]⟩
  .exact ⟨ydb,b-f.signWeight,by omega,by unfold Format.word;rw[yC rfl];omega⟩
 by_cases c:r<f.infRung
 .left
  by_cases c1:r<2^f.fractionBits
  .have e:fL f r f.leastPlace=r:=by unfold fL;rw[ycC];simp
   exact⟨s,r,f.leastPlace,⟨ycO _,by rw[xn];omega,.inr rfl⟩,by rw[e];exact c,by rw[e]⟩
  .obtain ⟨d,hd⟩:∃d,r/2^f.fractionBits=d+1:=⟨r/2^f.fractionBits-1,by have:=ycP (ybF c1) hp;omega⟩;have hm:=xJ r hp;have hq:=xX r (2^f.fractionBits);rw[hd,xK,ym,xt] at hq;have e:fL f (2^f.fractionBits+r%2^f.fractionBits) (f.leastPlace+d)=r:=by
    unfold fL;rw[show (f.leastPlace+(d:Int)-f.leastPlace).toNat=d by omega];omega
   exact⟨s,2^f.fractionBits+r%2^f.fractionBits,f.leastPlace+d,⟨by omega,by rw[xn];omega,.inl (by omega)⟩,by rw[e];exact c,by rw[e]⟩
 .right
  intro s' m e h;unfold Format.read at h;have oL:f.word s r%f.signWeight=r:=by
   unfold Format.word
   cases s with
   | true=>rw[yC rfl,ybH,yT hr]
   | false=>rw[yr (by decide),yT hr]
  simp only[oL] at h;rw[yr (by omega),yr c] at h
  split at h<;>cases h
end VE
end
section
namespace VE
open Ieee
section
variable {s:Bool}{e:Int}{m:Nat}
abbrev oY(b:Nat)(s:Bool)(m:Nat)(e:Int):Prop:=Jz single b s m e
def JA:single.leastPlace= -149:=by decide
def oY.b{b:Nat}(h:oY b s m e): -149<=e/\m<16777216/\(8388608<=m\/e= -149)/\e<=104:=by
 have h1:=h.can.lp;have h2:=h.can.lt;have h3:=h.can.ge;have h4:=h.lt;rw[JA] at h1 h3;have h4:(e-single.leastPlace).toNat*8388608+m<2139095040:=h4;rw[JA] at h4;have h2:m<16777216:=h2;have h3:8388608<=m\/e= -149:=h3;exact⟨h1,h2,h3,by omega⟩
def JB{n:Nat}{k:Int}(h0:n≠0)(hn:n<16777216)(hk: -149<=k)(zq:k<=104){m0:Nat}{e0:Int}(s:Bool)(hv:(m0:Rat)*p2 e0=(n:Rat)*p2 k):∃m e,oY (single.write (.number s m0 e0)) s m e/\m≠0/\(m:Rat)*p2 e=(n:Rat)*p2 k:=
 wr (f:=single) h0 hn (by rw[JA];exact hk) (by rw[JA];show _<=255;omega) s hv
def XY(s:Bool)(e0:Int):oY (single.write (.number s 0 e0)) s 0 (-149):=by
 have:=wr0 (f:=single) s e0 (by decide)
 rwa[JA] at this
def agN:single.read 1073741824=.number ydc 8388608 (-22):=by decide
def XZ{b:Nat}(h:oY b s m e)(he:e<=103\/m=0):∃b' m' e',single.mul b 1073741824=Gp b'/\oY b' s m' e'/\(m':Rat)*p2 e'=2*((m:Rat)*p2 e):=by
 obtain⟨b1,b2,b3,b4⟩:=h.b;have hr:=h.read;unfold Format.mul;rw[hr,agN];show ∃b' m' e',Gp (single.write (.number (s^^ydc) (m*8388608) (e+ -22)))=Gp b'/\_
 rw[ybQ];by_cases h0:m=0
 .subst h0;rw[wC];exact⟨_,_,_,rfl,XY s _,by simp⟩
 .obtain ⟨m',e',k1,k2,k3⟩:=JB (n:=m) (k:=e+1) h0 b2 (by omega) (by omega) (m0:=m*8388608) (e0:=e+ -22) s (by
   have:((8388608:Nat):Rat)=p2 23:=(mO 23).symm
   rw[xQ,this,vD,<-lJ,show (23:Int)+(e+ -22)=e+1 by omega])
  exact⟨_,m',e',rfl,k1,by rw[k3,lJ,BV];grind⟩
def X0{b:Nat}(h:oY b s m e)(he: -148<=e\/m%2=0):∃b' m' e',single.div b 1073741824=Gp b'/\oY b' s m' e'/\2*((m':Rat)*p2 e')=(m:Rat)*p2 e:=by
 obtain⟨b1,b2,b3,b4⟩:=h.b;have hr:=h.read;unfold Format.div;rw[hr,agN];have hl:(8388608:Nat).log2=23:=by decide
 have e0:Datum.quotient (single.fractionBits+2) (.number s m e) (.number ydc 8388608 (-22))=Gp (.number (s^^ydc) (2*((m<<<(25+23-m.log2))/8388608)+((m<<<(25+23-m.log2))%8388608 !=0).toNat) (e - -22-(25+23-m.log2:Nat)-1)):=by
  show (if (8388608:Nat)=0 then (if m=0 then none else Gp (Datum.infinity (s^^ydc))) else Gp (Datum.number (s^^ydc) (2*((m<<<(25+yca 8388608-m.log2))/8388608)+((m<<<(25+yca 8388608-m.log2))%8388608 !=0).toNat) (e - -22-((25+yca 8388608-m.log2:Nat):Int)-1)))=_
  rw[yr (by decide),hl]
 rw[e0,ybQ];show ∃b' m' e',Gp (single.write (.number s _ _))=Gp b'/\_
 by_cases h0:m=0
 .subst h0;simp only[Nat.zero_shiftLeft,Nat.zero_div,Nat.zero_mod,xG];exact⟨_,_,_,rfl,XY s _,by simp⟩
 .have DA:m.log2<24:=(ybc h0).2 b2;obtain⟨t,ht⟩:∃t,25+23-m.log2=t+23:=⟨25-m.log2,by omega⟩;have kF:m<<<(t+23)=(m*2^t)*8388608:=by rw[uz,xH,<-xj]
  rw[ht,kF,uU _ (by decide),tf];simp only[bne_self_eq_false,ybA,yX];have aM:((2*(m*2^t):Nat):Rat)*p2 (e - -22-(t+23:Nat)-1)=(m:Rat)*p2 (e-1):=by
   have:((2:Nat):Rat)=p2 1:=(mO 1).symm
   rw[xQ,xQ,<-mO,this];have h2:p2 1*((m:Rat)*p2 t)*p2 (e - -22-(t+23:Nat)-1)=(m:Rat)*(p2 1*p2 t*p2 (e - -22-(t+23:Nat)-1)):=by grind
   rw[h2,<-lJ,<-lJ,show (1:Int)+t+(e - -22-(t+23:Nat)-1)=e-1 by omega]
  have fin:∀{m':Nat} {e':Int},(m':Rat)*p2 e'=(m:Rat)*p2 (e-1)->2*((m':Rat)*p2 e')=(m:Rat)*p2 e:=fun {m' e'} q=>by
   rw[q]
   have:p2 e=p2 1*p2 (e-1):=by rw[<-lJ,show 1+(e-1)=e by omega]
   rw[this,BV];grind
  by_cases c: -148<=e
  .obtain ⟨m',e',k1,k2,k3⟩:=JB (n:=m) (k:=e-1) h0 b2 (by omega) (by omega) s aM;exact⟨_,m',e',rfl,k1,fin k3⟩
  .have YY:m%2=0:=by omega
   have hm:((m:Nat):Rat)=((m/2:Nat):Rat)*2:=by
    have:m=m/2*2:=by omega
    conv=>lhs;rw[this,xQ]
    rfl
   have hq:(m:Rat)*p2 (e-1)=((m/2:Nat):Rat)*p2 e:=by
    have:p2 e=p2 1*p2 (e-1):=by rw[<-lJ,show 1+(e-1)=e by omega]
    rw[hm,this,BV];grind
   obtain⟨m',e',k1,k2,k3⟩:=JB (n:=m/2) (k:=e) (by omega) (by omega) (by omega) (by omega) s (aM.trans hq);exact⟨_,m',e',rfl,k1,fin (k3.trans hq.symm)⟩
def ofInt{n:Int}(h:n.natAbs<=16777216):∃m e,oY (single.write (.number (n<0) n.natAbs 0)) (n<0) m e/\(m:Rat)*p2 e=(n.natAbs:Rat):=by
 by_cases h0:n.natAbs=0
 .rw [h0];exact⟨0,-149,XY _ _,by simp⟩
 .by_cases h1:n.natAbs<16777216
  .obtain ⟨m,e,k1,k2,k3⟩:=JB (n:=n.natAbs) (k:=0) h0 h1 (by omega) (by omega) (m0:=n.natAbs) (e0:=0) (n<0) rfl;exact⟨m,e,k1,by rw[k3,FH,vJ]⟩
  .have h2:n.natAbs=16777216:=by omega
   obtain⟨m,e,k1,k2,k3⟩:=JB (n:=8388608) (k:=1) (by decide) (by decide) (by omega) (by omega) (m0:=n.natAbs) (e0:=0) (n<0) (by rw[h2,FH,BV];decide+kernel)
   exact⟨m,e,k1,by rw[k3,h2,BV];decide+kernel⟩
def aqJ(n d:Nat)(s:Bool):Toward.zero.cut s n d=n/2^d:=by
 unfold Toward.cut;simp only[ybz,ybA,yX];by_cases c:d<=n.log2+2
 .rw [xB c]
 .have h1:n<2^(n.log2+1):=ybI;rw[Nat.min_eq_right (by omega),wb (vC h1 (vB (by decide) (by omega))),wb (vC h1 (vB (by decide) (by omega)))]
def oY.toInt{b:Nat}(h:oY b s m e):(single.read b).toInt .zero=Gp (if s=ydb then -((m*2^e.toNat/2^(-e).toNat:Nat):Int) else ((m*2^e.toNat/2^(-e).toNat:Nat):Int)):=by
 rw[h.read];unfold Datum.toInt Datum.integral;simp only[aqJ,uz,signed,vN,ym]
def aep{base:Int}(h:base<=e):((signed s m (e-base).toNat:Int):Rat)*p2 base=fv s m e:=by
 have:p2 e=p2 ((e-base).toNat:Nat)*p2 base:=by rw[<-lJ,show ((e-base).toNat:Int)+base=e by omega]
 unfold signed fv sg;rw[this,uz,mO]
 cases s with
 | true=>
  rw[yC rfl,yC rfl,uI]
  have:(((m*2^(e-base).toNat:Nat):Int):Rat)=(m:Rat)*((2^(e-base).toNat:Nat):Rat):=by rw[<-xQ];rfl
  rw[this];grind
 | false=>
  rw[yr (by decide),yr (by decide)]
  have:(((m*2^(e-base).toNat:Nat):Int):Rat)=(m:Rat)*((2^(e-base).toNat:Nat):Rat):=by rw[<-xQ];rfl
  rw[this];grind
def as4{x y n:Nat}{t:Bool}{j:Int}(hx:oY x s m e)(hy:oY y t n j):single.order x y=Gp (if fv s m e<fv t n j then .lt else if fv s m e=fv t n j then .eq else .gt):=by
 unfold Format.order;rw[hx.read,hy.read];unfold Datum.order;have h1:=aep (m:=m) (s:=s) (show min e j<=e by omega);have h2:=aep (m:=n) (s:=t) (show min e j<=j by omega);have hp:=VX (min e j)
 dsimp only
 generalize signed s m (e-min e j).toNat=a at*
 generalize signed t n (j-min e j).toNat=b at*
 rw[<-h1,<-h2]
 congr 1
 have lt_iff:(a:Rat)*p2 (min e j)<(b:Rat)*p2 (min e j)↔a<b:=by
  constructor
  .intro q
   have:=(uE hp).1 q
   exact_mod_cast this
  .intro q;exact (uE hp).2 (by exact_mod_cast q)
 have eq_iff:(a:Rat)*p2 (min e j)=(b:Rat)*p2 (min e j)↔a=b:=by
  constructor
  .intro q;rcases yab a b with c | c | c
   .have:=lt_iff.2 c;rw[q] at this;exact absurd this (tV)
   .exact c
   .have:=(uE hp).2 (show (b:Rat)<a by exact_mod_cast c);rw[q] at this;exact absurd this (tV)
  .intro q;rw[q]
 rcases yab a b with c | c | c
 .rw [yC (lt_iff.2 c)];exact Int.compare_eq_lt.2 c
 .rw [yr (fun q=>by have:=lt_iff.1 q;omega),yC (eq_iff.2 c)];exact Int.compare_eq_eq.2 c
 .rw [yr (fun q=>by have:=lt_iff.1 q;omega),yr (fun q=>by have:=eq_iff.1 q;omega)];exact Int.compare_eq_gt.2 c
end
end VE
end
section
namespace VE
open Ieee
section
variable {s:Bool}{e:Int}{M b m:Nat}
def dS(m:Nat)(e:Int):Nat:=m*2^(e+149).toNat
structure Fl(b:Nat)(s:Bool)(M:Nat):Prop where
 ex:∃m e,oY b s m e/\M=dS m e
def zZ(h: -149<=e):((dS m e:Nat):Rat)=(m:Rat)*p2 e*p2 149:=by
 unfold dS;rw[xQ,<-mO,vD,<-lJ,show ((e+149).toNat:Int)=e+149 by omega]
def awI:p2 149≠0:=WB 149
def as5{n:Nat}{j:Int}(h1: -149<=e)(h2: -149<=j)(h:(m:Rat)*p2 e=(n:Rat)*p2 j):dS m e=dS n j:=by
 have:((dS m e:Nat):Rat)=((dS n j:Nat):Rat):=by rw[zZ h1,zZ h2,h]
 exact_mod_cast this
def Fl.lt(h:Fl b s M):M<2^277:=by
 obtain⟨m,e,h1,rfl⟩:=h.ex;obtain⟨b1,b2,b3,b4⟩:=h1.b;unfold dS;have h3:2^(e+149).toNat<=2^253:=xa (by decide) (by omega);have h4:=xf (vT (show m<16777215+1 from b2)) h3;exact wo h4 (awE 16777215 24 253 277 (by decide) rfl)
def Fl.XZ(h:Fl b s M)(hM:M<2^276):∃b',single.mul b 1073741824=Gp b'/\Fl b' s (2*M):=by
 obtain⟨m,e,h1,rfl⟩:=h.ex;obtain⟨b1,b2,b3,b4⟩:=h1.b;have he:e<=103\/m=0:=by
  by_cases c:e<=103
  .exact .inl c
  .exfalso
   have hm:8388608<=m:=by omega
   unfold dS at hM;have h3:2^253<=2^(e+149).toNat:=xa (by decide) (by omega);have h4:=xf hm h3;have h5:(2:Nat)^275<=8388608*2^253:=awF 8388608 23 253 275 (by decide) (by decide);omega
 obtain⟨b',m',e',k1,k2,k3⟩:=VE.XZ h1 he;have ZU:=k2.b.1;refine⟨b',k1,m',e',k2,?_⟩
 have:((2*dS m e:Nat):Rat)=((dS m' e':Nat):Rat):=by
  rw[xQ,zZ b1,zZ ZU,k3];show (2:Rat)*_=_
  grind
 exact_mod_cast this
def Fl.X0(h:Fl b s M)(hM:M%2=0):∃b',single.div b 1073741824=Gp b'/\Fl b' s (M/2):=by
 obtain⟨m,e,h1,rfl⟩:=h.ex;obtain⟨b1,b2,b3,b4⟩:=h1.b;have he: -148<=e\/m%2=0:=by
  by_cases c: -148<=e
  .exact .inl c
  .have:e= -149:=by omega
   subst this;unfold dS at hM;right
   simpa using hM
 obtain⟨b',m',e',k1,k2,k3⟩:=VE.X0 h1 he;have ZU:=k2.b.1;refine⟨b',k1,m',e',k2,?_⟩
 have:((dS m e:Nat):Rat)=((2*dS m' e':Nat):Rat):=by
  rw[xQ,zZ b1,zZ ZU,<-k3];show _=(2:Rat)*_
  grind
 have:dS m e=2*dS m' e':=by exact_mod_cast this
 omega
def bK(s:Bool)(M:Nat):Int:=if s then -(M:Int) else M
def agO(h: -149<=e):fv s m e*p2 149=((bK s (dS m e):Int):Rat):=by
 unfold fv sg bK
 cases s with
 | true=>
  rw[yC rfl,yC rfl,uI]
  have:=zZ (m:=m) h
  have h2:(((dS m e:Nat):Int):Rat)=((dS m e:Nat):Rat):=rfl;rw[h2,this];grind
 | false=>
  rw[yr (by decide),yr (by decide)]
  have:=zZ (m:=m) h
  have h2:(((dS m e:Nat):Int):Rat)=((dS m e:Nat):Rat):=rfl;rw[h2,this];grind
def Fl.ord{x y:Nat}{t:Bool}{N:Nat}(hx:Fl x s M)(hy:Fl y t N):single.order x y=Gp (if bK s M<bK t N then .lt else if bK s M=bK t N then .eq else .gt):=by
 obtain⟨m,e,h1,rfl⟩:=hx.ex;obtain⟨n,j,h2,rfl⟩:=hy.ex;rw[as4 h1 h2];have q1:=agO (s:=s) (m:=m) h1.b.1;have q2:=agO (s:=t) (m:=n) h2.b.1;have hp:=VX 149;have lt_iff:fv s m e<fv t n j↔bK s (dS m e)<bK t (dS n j):=by
  rw[<-uE hp,q1,q2];exact Rat.intCast_lt_intCast
 have eq_iff:fv s m e=fv t n j↔bK s (dS m e)=bK t (dS n j):=by
  constructor
  .intro q;rw[q,q2] at q1;exact (Rat.intCast_inj.1 q1).symm
  .intro q
   have:fv s m e*p2 149=fv t n j*p2 149:=by rw[q1,q2,q]
   have h3:=congrArg (·*(p2 149)⁻¹) this;simpa only[vD,Rat.mul_inv_cancel _ awI,vJ] using h3
 congr 1
 by_cases c1:bK s (dS m e)<bK t (dS n j)
 .rw [yC c1,yC (lt_iff.2 c1)]
 .rw [yr c1,yr (fun q=>c1 (lt_iff.1 q))];by_cases c2:bK s (dS m e)=bK t (dS n j)
  .rw [yC c2,yC (eq_iff.2 c2)]
  .rw [yr c2,yr (fun q=>c2 (eq_iff.1 q))]
def Fl.ofInt{n:Int}(h:n.natAbs<=16777216):Fl (single.write (.number (n<0) n.natAbs 0)) (n<0) (n.natAbs*2^149):=by
 obtain⟨m,e,k1,k2⟩:=VE.ofInt h;refine⟨m,e,k1,?_⟩;have b1:=k1.b.1
 have:((n.natAbs*2^149:Nat):Rat)=((dS m e:Nat):Rat):=by
  rw[zZ b1,k2,xQ,<-mO];rfl
 exact_mod_cast this
def Fl.toInt(h:Fl b s M):(single.read b).toInt .zero=Gp (bK s (M/2^149)):=by
 obtain⟨m,e,h1,rfl⟩:=h.ex;have b1:=h1.b.1;rw[h1.toInt]
 have:m*2^e.toNat/2^(-e).toNat=dS m e/2^149:=by
  unfold dS;by_cases c:0<=e
  .rw [show (-e).toNat=0 by omega,vN,Nat.div_one,show (e+149).toNat=e.toNat+149 by omega,xH,<-xj,uU _ (xm _)]
  .obtain ⟨d,hd⟩:∃d:Nat,e= -(d:Int):=⟨(-e).toNat,by omega⟩;have jU:(e+149).toNat+d=149:=by omega
   rw[show e.toNat=0 by omega,vN,ym,show (-e).toNat=d by omega];have hp:0<2^(e+149).toNat:=xm _;rw[<-jU,xH,xt m,Nat.mul_div_mul_left _ _ hp]
 rw[this];unfold bK;cases s<;>rfl
def Fl.zero:Fl 0 ydc 0:=⟨0,-149,⟨by rw[<-JA];exact agM single,by decide,by decide⟩,by decide⟩
def Fl.neg(h:Fl b s M):Fl (b^^^2147483648) (!s) M:=by
 obtain⟨m,e,h1,rfl⟩:=h.ex;refine⟨m,e,⟨h1.can,h1.lt,?_⟩,rfl⟩;have hr:fL single m e<2^31:=vC h1.lt (by decide);have sw:single.signWeight=2^31:=by decide
 rw[h1.eq];unfold Format.word;rw[sw];have hx:fL single m e^^^2147483648=2^31+fL single m e:=by
  rw[show (2147483648:Nat)=2^31*1 by decide,Nat.xor_comm]
  have:=Nat.two_pow_add_eq_or_of_lt hr 1
  have h2:=Nat.xor_mod_two_pow (a:=fL single m e) (b:=2^31*1) (n:=31);refine Nat.eq_of_testBit_eq fun i=>?_
  rw[Nat.testBit_xor,show 2^31+fL single m e=2^31*1+fL single m e by omega,Nat.testBit_two_pow_mul_add _ hr,Nat.testBit_two_pow_mul];by_cases c:i<31
  .simp [c,show ¬31<=i by omega]
  .have:Nat.testBit (fL single m e) i=ydc:=Nat.testBit_lt_two_pow (yG hr (xa (by decide) (by omega)))
   simp[c,this,show 31<=i by omega]
 cases s with
 | false=>rw[yr (by decide),hx];rfl
 | true=>
  rw[yC rfl]
  have:(2^31+fL single m e)^^^2147483648=fL single m e:=by rw[<-hx,Nat.xor_assoc,Nat.xor_self,Nat.xor_zero]
  rw[this];rfl
end
end VE
end
section
namespace VE
open Go (IntKind)
open Ieee
section
variable {s:Bool}{M b:Nat}
def Fl.even(h:Fl b s M)(hM:2^173<=M):M%2=0:=by
 obtain⟨m,e,h1,rfl⟩:=h.ex;obtain⟨b1,b2,b3,b4⟩:=h1.b;by_cases c:e<=0
 .exfalso
  unfold dS at hM;have h3:2^(e+149).toNat<=2^149:=xa (by decide) (by omega);have h4:=xf (vT (show m<16777215+1 from b2)) h3;have h5:16777215*(2:Nat)^149<2^173:=by decide
  omega
 .obtain ⟨d,hd⟩:∃d,(e+149).toNat=d+1:=⟨(e+148).toNat,by omega⟩;unfold dS;rw[hd,xn,<-xj,tf]
def Fl.whole(h:Fl b s M)(hM:2^172<=M):M%2^149=0:=by
 obtain⟨m,e,h1,rfl⟩:=h.ex;obtain⟨b1,b2,b3,b4⟩:=h1.b;by_cases c:e<0
 .exfalso
  unfold dS at hM;have h3:2^(e+149).toNat<=2^148:=xa (by decide) (by omega);have h4:=xf (vT (show m<16777215+1 from b2)) h3;have h5:16777215*(2:Nat)^148<2^172:=by decide
  omega
 .obtain ⟨d,hd⟩:∃d,(e+149).toNat=d+149:=⟨e.toNat,by omega⟩;unfold dS;rw[hd,xH,<-xj,tf]
def afg(h:Fl b s M)(hM:M<2^276):∃b',binOp .mul (.aw .f32 b) (.aw .f32 1073741824)=Gp (.aw .f32 b')/\Fl b' s (2*M):=by
 obtain⟨b',k1,k2⟩:=h.XZ hM;refine⟨b',?_,k2⟩;show (match single.mul b 1073741824 with | some b=>Gp (AV.aw .f32 b) | none=>none)=_
 rw[k1]
def afh(h:Fl b s M)(hM:M%2=0):∃b',binOp .quo (.aw .f32 b) (.aw .f32 1073741824)=Gp (.aw .f32 b')/\Fl b' s (M/2):=by
 obtain⟨b',k1,k2⟩:=h.X0 hM;refine⟨b',?_,k2⟩;show (match single.div b 1073741824 with | some b=>Gp (AV.aw .f32 b) | none=>none)=_
 rw[k1]
section
variable {x y M N:Nat}{s t:Bool}(hx:Fl x s M)(hy:Fl y t N)
include hx hy
theorem agP:binOp .lss (.aw .f32 x) (.aw .f32 y)=Gp (.bool (decide (bK s M<bK t N))):=by
 show Gp (AV.bool (single.order x y==Gp .lt))=_
 rw[hx.ord hy];by_cases c:bK s M<bK t N
 .rw [yC c,xk c];rfl
 .rw [yr c,yW c];split<;>rfl
theorem agQ:binOp .geq (.aw .f32 x) (.aw .f32 y)=Gp (.bool (decide (bK t N<=bK s M))):=by
 show Gp (AV.bool (single.order x y==Gp .gt||single.order x y==Gp .eq))=_
 rw[hx.ord hy];by_cases c:bK s M<bK t N
 .rw [yC c,yW (by omega)];rfl
 .rw [yr c,xk (by omega)];split<;>rfl
theorem agR:binOp .neq (.aw .f32 x) (.aw .f32 y)=Gp (.bool (!decide (bK s M=bK t N))):=by
 show Gp (AV.bool (single.order x y !=Gp .eq))=_
 rw[hx.ord hy];by_cases c:bK s M<bK t N
 .rw [yC c,yW (by omega)];rfl
 .rw [yr c];by_cases d:bK s M=bK t N
  .rw [yC d,xk d];rfl
  .rw [yr d,yW d];rfl
end
def agS(b:Nat):unOp .neg (.aw .f32 b)=Gp (.aw .f32 (b^^^2147483648)):=rfl
def ay7(h:Fl b s M):∃a,max2 (.aw .f32 b) (.aw .f32 (b^^^2147483648))=Gp (.aw .f32 a)/\Fl a ydc M:=by
 have hn:=h.neg;have ho:=h.ord hn
 have e:max2 (.aw .f32 b) (.aw .f32 (b^^^2147483648))=(match single.order b (b^^^2147483648) with
  | none=>none
  | some .lt=>Gp (.aw .f32 (b^^^2147483648))
  | some .gt=>Gp (.aw .f32 b)
  | some .eq=>Gp (.aw .f32 (if (single.read b).neg then (b^^^2147483648) else b))):=rfl
 rw[e,ho];obtain⟨m,j,h1,hM⟩:=h.ex;have hr:(single.read b).neg=s:=by rw[h1.read];rfl
 cases s with
 | true=>
  by_cases c:bK ydb M<bK (!ydb) M
  .rw [yC c];exact⟨_,rfl,hn⟩
  .have:bK ydb M=bK (!ydb) M:=by
    unfold bK at c ⊢;simp at c ⊢;omega
   rw[yr c,yC this]
   dsimp only
   rw[hr,yC rfl];exact⟨_,rfl,hn⟩
 | false=>
  have c:¬bK ydc M<bK (!ydc) M:=by
   show ¬(M:Int)< -(M:Int)
   omega
  rw[yr c];by_cases d:bK ydc M=bK (!ydc) M
  .rw [yC d]
   dsimp only
   rw[hr,yr (by decide)];exact⟨_,rfl,h⟩
  .rw [yr d];exact⟨_,rfl,h⟩
def Pu(h:Fl b s M)(hM:M<2^200):mu (.toInt .i64) (.aw .f32 b)=Gp (.int .i64 (bK s (M/2^149))):=by
 have e:mu (.toInt .i64) (.aw .f32 b)=(match (single.read b).toInt .zero with
  | some n=>if IntKind.min .i64<=n/\n<=IntKind.max .i64 then Gp (.int .i64 n) else none
  | none=>none):=rfl
 rw[e,h.toInt];have h1:M/2^149<2^51:=by rw[xE (xm _),<-xH];exact hM
 generalize M/2^149=n at h1
 have:IntKind.min .i64<=bK s n/\bK s n<=IntKind.max .i64:=by
  rw[show IntKind.min .i64= -9223372036854775808 from rfl,show IntKind.max .i64=9223372036854775807 from rfl];unfold bK
  split<;>omega
 exact yC this
def aeq{n:Int}(h:n.natAbs<=16777216):∃b,mu (.toFlt .f32) (.int .i64 n)=Gp (.aw .f32 b)/\Fl b (n<0) (n.natAbs*2^149):=
 ⟨_,rfl,Fl.ofInt h⟩
def agT:Fl 1266679808 ydc (2^173):=⟨8388608,1,⟨⟨by decide,by decide,.inl (by decide)⟩,by decide,by decide⟩,by decide⟩
end
end VE
end
section
namespace VE
open Go (IntKind)
def aoA(p s:Nat):p*(s%1000000000)+p*1000000000*(s/1000000000)=p*s:=by
 rw[xj,<-xK,uk]
def Kg{l:List Int}{i:Nat}(h:l.length<=i):l.getD i 0=0:=by simp_all
def aqK{a b out:List Int}{i c:Nat}{x y:Int}(hx:x=a.getD i 0)(hy:y=b.getD i 0)(h1:0<=x)(h2:0<=y)(hl:out.length=i)(hv:dv out+1000000000^i*c=dv (a.take i)+dv (b.take i)):
  dv (out++[(((x.toNat+y.toNat+c)%1000000000:Nat):Int)])+1000000000^(i+1)*((x.toNat+y.toNat+c)/1000000000)=dv (a.take (i+1))+dv (b.take (i+1)):=by
 rw[q8,q8,ns,hl,<-hx,<-hy];simp only[dv,xh,xG,yX,xn]
 have:=aoA (1000000000^i) (x.toNat+y.toNat+c)
 grind
section
variable {P:aE}{L:Lib}
def awJ(oM:Has P L 302 Au){v w:AV}{a b:List Int}(hv:bA v a)(hw:bA w b)(ha:dg a)(hb:dg b){N:Nat}(la:a.length<=N)(lb:b.length<=N)(lN:N<=20000000000):
  c6 P L [0,1,5,6,7] rk (fun k s=>∃(i c:Nat) (out:List Int),2*(N-i)+c=k/\out.length=i/\c<=1/\dg out/\dv out+1000000000^i*c=dv (a.take i)+dv (b.take i)/\i<=N+1/\(i<=N\/c=0)/\
    ((i=0/\s=⟨[(0,v),(1,w),(5,.ah),(6,aa c),(7,aa i)],[],0,0⟩)\/
    (0<i/\s=⟨[(0,v),(1,w),(5,.aq 0 0 i),(6,aa c),(7,aa i)],[(0,.cells ydb ydb ydc 1 (out.map aa))],1,0⟩))) (fun ex s'=>∃tm out,ex=.exit 0/\dg out/\dv out=dv a+dv b/\out.length<=N+1/\((out=[]/\ak tm 5=.ah/\s'=⟨tm,[],0,0⟩)\/(0<out.length/\ak tm 5=.aq 0 0 out.length/\s'=⟨tm,[(0,.cells ydb ydb ydc 1 (out.map aa))],1,0⟩))):=by
 apply c9;rintro k s ⟨i,c,out,hk,hlen,hc,oV,aM,hi,Ig,hs⟩;have e1:=Xy oM hv i;have e2:=Xy oM hw i;unfold ab at e1 e2;have ga:=jn ha i;have gb:=jn hb i;by_cases AW:i<a.length\/i<b.length\/0<c
 .left
  obtain⟨x,hx⟩:∃x,x=a.getD i 0:=⟨_,rfl⟩;obtain⟨y,hy⟩:∃y,y=b.getD i 0:=⟨_,rfl⟩;rw[<-hx] at e1 ga;rw[<-hy] at e2 gb;have kY:=aqK (c:=c) hx hy ga.1 gb.1 hlen aM;obtain⟨s0,B0⟩:∃s0,s0=x.toNat+y.toNat+c:=⟨_,rfl⟩;rw[<-B0] at kY;have rJ:x+y+(c:Int)=(s0:Int):=by lia
  have hs9:s0<2000000000:=by lia
  have hr:((s0:Nat):Int).tmod 1000000000=((s0%1000000000:Nat):Int):=by rw[xV (by lia)];rfl
  have hq:((s0:Nat):Int).tdiv 1000000000=((s0/1000000000:Nat):Int):=by rw[xW (by lia)];rfl
  have iv:s0/1000000000<=1:=by lia
  have ay8:2*(N-(i+1))+s0/1000000000<k:=by
   by_cases hm:i<N
   .lia
   .have:c=1:=by lia
    have Cd:x=0:=by rw[hx];exact Kg (by lia)
    have lA:y=0:=by rw[hy];exact Kg (by lia)
    subst Cd;subst lA
    have:s0=1:=by rw[B0,this];rfl
    subst this
    lia
  have zf:dg (out++[((s0%1000000000:Nat):Int)]):=iO.2 ⟨oV,mo.2 (by lia)⟩;have WC:(out++[((s0%1000000000:Nat):Int)]).length=i+1:=by simp[hlen]
  have aBf:i+1<=N\/s0/1000000000=0:=by
   by_cases hm:i<N
   .exact .inl hm
   .right
    have:c=1:=by lia
    have Cd:x=0:=by rw[hx];exact Kg (by lia)
    have lA:y=0:=by rw[hy];exact Kg (by lia)
    subst Cd;subst lA
    have:s0=1:=by rw[B0,this];rfl
    subst this;rfl
  have fin:∃s',D P L rk s=Gp (.normal,s')/\bn [0,1,5,6,7] s'=⟨[(0,v),(1,w),(5,.aq 0 0 (i+1)),(6,aa (s0/1000000000:Nat)),(7,aa (i+1:Nat))],[(0,.cells ydb ydb ydc 1 ((out++[((s0%1000000000:Nat):Int)]).map aa))],1,0⟩:=by
   have three:((i:Int)<a.length)\/(¬(i:Int)<a.length/\(i:Int)<b.length)\/(¬(i:Int)<a.length/\¬(i:Int)<b.length/\(0:Int)<c):=by lia
   rcases three with t1 | ⟨t1,t2⟩ | ⟨t1,t2,t3⟩
   .rcases hs with ⟨h0,rfl⟩ | ⟨h0,rfl⟩
    .subst h0;have kA:out=[]:=yK hlen;subst kA
     simp only[go_sem,ya,yb,xp,yx,yi,ym,rk,hv.len,hv.aj,hw.aj,t1,e1,e2,wrap64 (n:=x+y) (by lia) (by lia),rJ,wrap64 (n:=(s0:Int)) (by lia) (by lia),fH _ _ _ (show (1000000000:Int)≠0 by decide),eX _ _ _ (show (1000000000:Int)≠0 by decide),hr,hq,wrap64 (n:=((s0/1000000000:Nat):Int)) (by lia) (by lia),iA];refine⟨_,rfl,?_⟩;rw[wrap64 (by lia) (by lia)];simp only[go_sem,ya,yb,ax,aG hv.pu,aG hw.pu]<;>rfl
    .simp only [go_sem,ya,yb,yi,ym,rk,hv.len,hv.aj,hw.aj,t1,e1,e2,wrap64 (n:=x+y) (by lia) (by lia),rJ,wrap64 (n:=(s0:Int)) (by lia) (by lia),fH _ _ _ (show (1000000000:Int)≠0 by decide),hr]
     rw[gG (ex:=ydc) (pu:=ydb) (cs:=out.map aa) rfl (by rw[yS,hlen,ym]) (by lia) (by lia) (by decide) rfl]
     simp only[go_sem,ya,yb,eX _ _ _ (show (1000000000:Int)≠0 by decide),hq,wrap64 (n:=((s0/1000000000:Nat):Int)) (by lia) (by lia)];refine⟨_,rfl,?_⟩;rw[wrap64 (by lia) (by lia),xg];simp only[go_sem,ya,yb,ax,aG hv.pu,aG hw.pu]<;>rfl
   .rcases hs with ⟨h0,rfl⟩ | ⟨h0,rfl⟩
    .subst h0;have kA:out=[]:=yK hlen;subst kA
     simp only[go_sem,ya,yb,xp,yx,yi,ym,rk,hv.len,hv.aj,hw.len,hw.aj,t1,t2,e1,e2,wrap64 (n:=x+y) (by lia) (by lia),rJ,wrap64 (n:=(s0:Int)) (by lia) (by lia),fH _ _ _ (show (1000000000:Int)≠0 by decide),eX _ _ _ (show (1000000000:Int)≠0 by decide),hr,hq,wrap64 (n:=((s0/1000000000:Nat):Int)) (by lia) (by lia),iA];refine⟨_,rfl,?_⟩;rw[wrap64 (by lia) (by lia)];simp only[go_sem,ya,yb,ax,aG hv.pu,aG hw.pu]<;>rfl
    .simp only [go_sem,ya,yb,yi,ym,rk,hv.len,hv.aj,hw.len,hw.aj,t1,t2,e1,e2,wrap64 (n:=x+y) (by lia) (by lia),rJ,wrap64 (n:=(s0:Int)) (by lia) (by lia),fH _ _ _ (show (1000000000:Int)≠0 by decide),hr]
     rw[gG (ex:=ydc) (pu:=ydb) (cs:=out.map aa) rfl (by rw[yS,hlen,ym]) (by lia) (by lia) (by decide) rfl]
     simp only[go_sem,ya,yb,eX _ _ _ (show (1000000000:Int)≠0 by decide),hq,wrap64 (n:=((s0/1000000000:Nat):Int)) (by lia) (by lia)];refine⟨_,rfl,?_⟩;rw[wrap64 (by lia) (by lia),xg];simp only[go_sem,ya,yb,ax,aG hv.pu,aG hw.pu]<;>rfl
   .rcases hs with ⟨h0,rfl⟩ | ⟨h0,rfl⟩
    .subst h0;have kA:out=[]:=yK hlen;subst kA
     simp only[go_sem,ya,yb,xp,yx,yi,ym,rk,hv.len,hv.aj,hw.len,hw.aj,t1,t2,t3,e1,e2,wrap64 (n:=x+y) (by lia) (by lia),rJ,wrap64 (n:=(s0:Int)) (by lia) (by lia),fH _ _ _ (show (1000000000:Int)≠0 by decide),eX _ _ _ (show (1000000000:Int)≠0 by decide),hr,hq,wrap64 (n:=((s0/1000000000:Nat):Int)) (by lia) (by lia),iA];refine⟨_,rfl,?_⟩;rw[wrap64 (by lia) (by lia)];simp only[go_sem,ya,yb,ax,aG hv.pu,aG hw.pu]<;>rfl
    .simp only [go_sem,ya,yb,yi,ym,rk,hv.len,hv.aj,hw.len,hw.aj,t1,t2,t3,e1,e2,wrap64 (n:=x+y) (by lia) (by lia),rJ,wrap64 (n:=(s0:Int)) (by lia) (by lia),fH _ _ _ (show (1000000000:Int)≠0 by decide),hr]
     rw[gG (ex:=ydc) (pu:=ydb) (cs:=out.map aa) rfl (by rw[yS,hlen,ym]) (by lia) (by lia) (by decide) rfl]
     simp only[go_sem,ya,yb,eX _ _ _ (show (1000000000:Int)≠0 by decide),hq,wrap64 (n:=((s0/1000000000:Nat):Int)) (by lia) (by lia)];refine⟨_,rfl,?_⟩;rw[wrap64 (by lia) (by lia),xg];simp only[go_sem,ya,yb,ax,aG hv.pu,aG hw.pu]<;>rfl
  have⟨s',f1,f2⟩:=fin;exact⟨s',_,f1,ay8,i+1,s0/1000000000,_,rfl,WC,iv,zf,kY,by lia,aBf,.inr ⟨by lia,f2⟩⟩
 .right
  have lz:c=0:=by lia
  subst lz;rw[xG,yX,yE (by lia),yE (by lia)] at aM;rcases hs with ⟨h0,rfl⟩ | ⟨h0,rfl⟩
  .simp only [go_sem,ya,rk,hv.len,hw.len,show ¬(i:Int)<a.length by lia,show ¬(i:Int)<b.length by lia,show ¬(0:Int)<((0:Nat):Int) by lia];exact⟨_,_,rfl,by simp,_,out,rfl,oV,aM,by lia,.inl ⟨yK (by lia),rfl,rfl⟩⟩
  .simp only [go_sem,ya,rk,hv.len,hw.len,show ¬(i:Int)<a.length by lia,show ¬(i:Int)<b.length by lia,show ¬(0:Int)<((0:Nat):Int) by lia];exact⟨_,_,rfl,by simp,_,out,rfl,oV,aM,by lia,.inr ⟨by lia,by rw[hlen];simp only[go_sem,ya],rfl⟩⟩
def aBg(h:Has P L 295 Ma)(oM:Has P L 302 Au){v w:AV}{a b:List Int}(hv:bA v a)(hw:bA w b)(ha:dg a)(hb:dg b)(la:a.length<=20000000000)(lb:b.length<=20000000000):
  ∃r out,ab P L 295 [v,w] r/\bA (shut r) out/\dg out/\dv out=dv a+dv b/\out.length<=max a.length b.length+1:=by
 have kw:∃out,ab P L 295 [v,w] (if out=[] then .ah else .cF ydc 1 out.length (out.map aa))/\dg out/\dv out=dv a+dv b/\out.length<=max a.length b.length+1:=by
  unfold ab;rw[aD h];simp only[go_sem,Ma];generalize hq:D P L (.loop _ rk) _=q;obtain⟨ex,s,rfl,tm,out,rfl,hd,aM,hl,hs⟩:=bL hq (awJ (P:=P) (L:=L) oM hv hw ha hb (N:=max a.length b.length) (by lia) (by lia) (by lia) (2*(max a.length b.length))) ⟨0,0,[],by lia,rfl,by lia,rfl,by simp[dv],by lia,.inr rfl,.inl ⟨rfl,by simp only[go_sem,ya,ax,aG hv.pu,aG hw.pu]<;>rfl⟩⟩
  refine⟨out,?_,hd,aM,hl⟩;rcases hs with ⟨h0,h5,rfl⟩ | ⟨h0,h5,rfl⟩
  .rw [yC h0];simp only[go_sem,ax,h5]
  .rw [yr (by intro e;subst e;simp at h0)];simp only[go_sem,yb,ax,h5];exact Ok (iP _ _ _) (by simp) (by decide)
 have⟨out,g1,g2,g3,g4⟩:=kw;refine⟨_,out,g1,?_,g2,g3,g4⟩
 split
 .rename_i e;subst e;exact po
 .exact jY ydc out
end
end VE
end
section
namespace VE
open Go (IntKind)
section
variable {P:aE}{L:Lib}
def X1(h:Has P L 296 At){v w:AV}{a b:List Int}(hv:bA v a)(hw:bA w b)(ha:dg a)(hb:dg b)(na:nz a)(nb:nz b)(la:a.length<=20000000000)(lb:b.length<=20000000000):
  ab P L 296 [v,w] (aa (dY (dv a) (dv b))):=by
 unfold ab;rw[aD h];by_cases hlen:a.length=b.length
 .have key:=gV P L [0,1,5] EH
   (fun k st=>∃j:Nat,st=⟨[(0,v),(1,w),(5,aa ((j:Int)-1))],[],0,0⟩/\j<=a.length/\j=k/\a.drop j=b.drop j)
   (fun ex st=>∃tm ct,st=⟨tm,[],ct,0⟩/\((ex=.ret/\ak tm 4=aa (dY (dv a) (dv b)))\/(ex=.exit 0/\a=b))) ?_
  .simp only [go_sem,ya,At,hv.len,hw.len,show (a.length:Int)=b.length by lia];generalize hq:D P L (.loop _ EH) _=q;obtain⟨ex,st,rfl,tm,ct,rfl,h2⟩:=bL hq (key a.length) ⟨a.length,by
    rw[wrap64 (by lia) (by lia)];rw[hlen]
    simp only[go_sem,ya,ax,aG hv.pu,aG hw.pu]<;>rfl,yp _,rfl,by rw[xd (yp _),xd (by lia)]⟩
   rcases h2 with ⟨rfl,h2⟩ | ⟨rfl,h2⟩
   .simp only [go_sem,h2]
   .simp only [go_sem,ax];subst h2;simp[dY]
  .rintro k st ⟨j,rfl,hj,rfl,he⟩
   cases j with
   | zero=>
    right
    simp only[go_sem,ya,EH,show ¬(0:Int)<=((0:Nat):Int)-1 by lia];exact⟨_,_,rfl,by simp,_,_,rfl,.inr ⟨rfl,by simpa using he⟩⟩
   | succ i=>
    have h1:i<a.length:=by lia
    have h2:i<b.length:=by lia
    have DH:=aee ha hb h1 h2 he;have aH:=aee hb ha h2 h1 he.symm;by_cases c1:a[i]<b[i]
    .right
     simp only[go_sem,ya,EH,show ((i+1:Nat):Int)-1=(i:Int) by lia,show (0:Int)<=(i:Int) by lia,hv.bk h1,hw.bk h2,c1];refine⟨_,_,rfl,by simp,_,_,rfl,.inl ⟨rfl,?_⟩⟩;simp only[go_sem];unfold dY;rw[yC (DH c1)]
    .by_cases c2:b[i]<a[i]
     .right
      simp only[go_sem,ya,EH,show ((i+1:Nat):Int)-1=(i:Int) by lia,show (0:Int)<=(i:Int) by lia,hv.bk h1,hw.bk h2,c1,c2];refine⟨_,_,rfl,by simp,_,_,rfl,.inl ⟨rfl,?_⟩⟩;simp only[go_sem];unfold dY;rw[yr (by lia),yC (by lia)]
     .left
      simp only[go_sem,ya,EH,show ((i+1:Nat):Int)-1=(i:Int) by lia,show (0:Int)<=(i:Int) by lia,hv.bk h1,hw.bk h2,c1,c2];refine⟨_,i,rfl,by lia,i,?_,by lia,rfl,?_⟩
      .rw [wrap64 (by lia) (by lia)];simp only[go_sem,ya,ax,aG hv.pu,aG hw.pu]<;>rfl
      .rw [yR h1,yR h2,he,show a[i]=b[i] by lia]
 .by_cases c1:a.length<b.length
  .have:=VJ ha nb hb c1
   simp only[go_sem,ya,At,hv.len,hw.len,show ¬(a.length:Int)=b.length by lia,show (a.length:Int)<b.length by lia];unfold dY;rw[yC this]
  .have:=VJ hb na ha (show b.length<a.length by lia)
   simp only[go_sem,ya,At,hv.len,hw.len,show ¬(a.length:Int)=b.length by lia,show ¬(a.length:Int)<b.length by lia];unfold dY;rw[yr (by lia),yC this]
def aqL{a b out:List Int}{i c:Nat}{x y z:Int}{c':Nat}(hx:x=a.getD i 0)(hy:y=b.getD i 0)(h1:0<=x)(h2:0<=y)(h3:0<=z)(hz:z=x-y-c+1000000000*c')(hl:out.length=i)(hv:dv out+dv (b.take i)=dv (a.take i)+1000000000^i*c):
  dv (out++[z])+dv (b.take (i+1))=dv (a.take (i+1))+1000000000^(i+1)*c':=by
 rw[q8,q8,ns,hl,<-hx,<-hy];simp only[dv,xG,yX,xn];have e:z.toNat+y.toNat+c=x.toNat+1000000000*c':=by lia
 grind
end
end VE
end
section
namespace VE
open Go (IntKind)
section
variable {P:aE}{L:Lib}
def awK(oM:Has P L 302 Au){v w:AV}{a b:List Int}(hv:bA v a)(hw:bA w b)(ha:dg a)(hb:dg b)(la:a.length<=20000000000)(hle:dv b<=dv a)(zH:b.length<=a.length):
  c6 P L [0,1,5,6,7] Aa (fun k s=>∃(i c:Nat) (out:List Int),i+k=a.length/\out.length=i/\c<=1/\dg out/\dv out+dv (b.take i)=dv (a.take i)+1000000000^i*c/\
    ((i=0/\s=⟨[(0,v),(1,w),(5,.ah),(6,aa c),(7,aa i)],[],0,0⟩)\/
    (0<i/\s=⟨[(0,v),(1,w),(5,.aq 0 0 i),(6,aa c),(7,aa i)],[(0,.cells ydb ydb ydc 1 (out.map aa))],1,0⟩))) (fun ex s'=>∃tm out,ex=.exit 0/\dg out/\dv out+dv b=dv a/\out.length<=20000000000/\((out=[]/\ak tm 5=.ah/\s'=⟨tm,[],0,0⟩)\/(0<out.length/\ak tm 5=.aq 0 0 out.length/\s'=⟨tm,[(0,.cells ydb ydb ydc 1 (out.map aa))],1,0⟩))):=by
 apply c9;rintro k s ⟨i,c,out,hk,hlen,hc,oV,aM,hs⟩;have e2:=Xy oM hw i;unfold ab at e2;have ga:=jn ha i;have gb:=jn hb i;by_cases AW:i<a.length
 .left
  obtain⟨x,hx⟩:∃x,x=a.getD i 0:=⟨_,rfl⟩;obtain⟨y,hy⟩:∃y,y=b.getD i 0:=⟨_,rfl⟩;have oX:a[i]=x:=by rw[hx];simp[xc,xv AW]
  have e1:=hv.bk AW;rw[oX] at e1;rw[<-hx] at ga;rw[<-hy] at e2 gb;obtain⟨z,c',hz,iv,nj,ni,E6⟩:∃(z:Int) (c':Nat),z=x-y-c+1000000000*c'/\c'<=1/\0<=z/\z<1000000000/\((x-y-c<0/\c'=1)\/(¬x-y-c<0/\c'=0)):=by
   by_cases h:x-y-c<0
   .exact ⟨x-y-c+1000000000,1,by lia,by lia,by lia,by lia,.inl ⟨h,rfl⟩⟩
   .exact ⟨x-y-c,0,by lia,by lia,by lia,by lia,.inr ⟨h,rfl⟩⟩
  have kY:=aqL hx hy ga.1 gb.1 nj hz hlen aM;have zf:dg (out++[z]):=iO.2 ⟨oV,mo.2 ⟨nj,ni⟩⟩;have WC:(out++[z]).length=i+1:=by simp[hlen]
  have fin:∃s',D P L Aa s=Gp (.normal,s')/\bn [0,1,5,6,7] s'=⟨[(0,v),(1,w),(5,.aq 0 0 (i+1)),(6,aa c'),(7,aa (i+1:Nat))],[(0,.cells ydb ydb ydc 1 ((out++[z]).map aa))],1,0⟩:=by
   rcases E6 with ⟨fV,rfl⟩ | ⟨fV,rfl⟩
   .have dj:x-y-c+1000000000=z:=by lia
    rcases hs with ⟨h0,rfl⟩ | ⟨h0,rfl⟩
    .subst h0;have kA:out=[]:=yK hlen;subst kA
     simp only[go_sem,ya,yb,xp,yx,yi,ym,Aa,hv.len,hw.aj,show ((0:Nat):Int)<a.length by lia,e1,e2,wrap64 (n:=x-y) (by lia) (by lia),wrap64 (n:=x-y-(c:Int)) (by lia) (by lia),fV,dj,wrap64 (n:=z) (by lia) (by lia),iA];refine⟨_,rfl,?_⟩;rw[wrap64 (by lia) (by lia)];simp only[go_sem,ya,yb,ax,aG hv.pu,aG hw.pu]<;>rfl
    .simp only [go_sem,ya,yb,yi,ym,Aa,hv.len,hw.aj,show (i:Int)<a.length by lia,e1,e2,wrap64 (n:=x-y) (by lia) (by lia),wrap64 (n:=x-y-(c:Int)) (by lia) (by lia),fV,dj,wrap64 (n:=z) (by lia) (by lia)]
     rw[gG (ex:=ydc) (pu:=ydb) (cs:=out.map aa) rfl (by rw[yS,hlen,ym]) (by lia) (by lia) (by decide) rfl];simp only[go_sem,ya,yb];refine⟨_,rfl,?_⟩;rw[wrap64 (by lia) (by lia),xg];simp only[go_sem,ya,yb,ax,aG hv.pu,aG hw.pu]<;>rfl
   .have dj:x-y-c=z:=by lia
    have fV:¬z<0:=by lia
    rcases hs with ⟨h0,rfl⟩ | ⟨h0,rfl⟩
    .subst h0;have kA:out=[]:=yK hlen;subst kA
     simp only[go_sem,ya,yb,xp,yx,yi,ym,Aa,hv.len,hw.aj,show ((0:Nat):Int)<a.length by lia,e1,e2,wrap64 (n:=x-y) (by lia) (by lia),dj,wrap64 (n:=z) (by lia) (by lia),fV,iA];refine⟨_,rfl,?_⟩;rw[wrap64 (by lia) (by lia)];simp only[go_sem,ya,yb,ax,aG hv.pu,aG hw.pu]<;>rfl
    .simp only [go_sem,ya,yb,yi,ym,Aa,hv.len,hw.aj,show (i:Int)<a.length by lia,e1,e2,wrap64 (n:=x-y) (by lia) (by lia),dj,wrap64 (n:=z) (by lia) (by lia),fV]
     rw[gG (ex:=ydc) (pu:=ydb) (cs:=out.map aa) rfl (by rw[yS,hlen,ym]) (by lia) (by lia) (by decide) rfl];simp only[go_sem,ya,yb];refine⟨_,rfl,?_⟩;rw[wrap64 (by lia) (by lia),xg];simp only[go_sem,ya,yb,ax,aG hv.pu,aG hw.pu]<;>rfl
  have⟨s',f1,f2⟩:=fin;exact⟨s',k-1,f1,by lia,i+1,c',_,by lia,WC,iv,zf,kY,.inr ⟨by lia,f2⟩⟩
 .right
  have agU:dv out+dv b=dv a:=by
   rw[yE (by lia),yE (by lia)] at aM;have aH:=kW oV;rw[hlen] at aH;rcases (show c=0\/c=1 by lia) with rfl | rfl
   .lia
   .lia
  rcases hs with ⟨h0,rfl⟩ | ⟨h0,rfl⟩
  .simp only [go_sem,ya,Aa,hv.len,show ¬(i:Int)<a.length by lia];exact⟨_,_,rfl,by simp,_,out,rfl,oV,agU,by lia,.inl ⟨yK (by lia),rfl,rfl⟩⟩
  .simp only [go_sem,ya,Aa,hv.len,show ¬(i:Int)<a.length by lia];exact⟨_,_,rfl,by simp,_,out,rfl,oV,agU,by lia,.inr ⟨by lia,by rw[hlen];simp only[go_sem,ya],rfl⟩⟩
def aif(h:Has P L 297 Mb)(oM:Has P L 302 Au)(cM:Has P L 300 mV){v w:AV}{a b:List Int}(hv:bA v a)(hw:bA w b)(ha:dg a)(hb:dg b)(na:nz a)(nb:nz b)(la:a.length<=20000000000)(hle:dv b<=dv a):
  ∃r out,ab P L 297 [v,w] r/\bA r out/\shut r=r/\dg out/\nz out/\dv out+dv b=dv a:=by
 have zH:b.length<=a.length:=by
  by_cases h:a.length<b.length
  .have:=VJ ha nb hb h;lia
  .lia
 unfold ab;rw[aD h];simp only[go_sem,Mb];generalize hq:D P L (.loop _ Aa) _=q;obtain⟨ex,s,rfl,tm,out,rfl,hd,aM,hl,hs⟩:=bL hq (awK (P:=P) (L:=L) oM hv hw ha hb la hle zH a.length) ⟨0,0,[],by lia,rfl,by lia,rfl,by simp[dv],.inl ⟨rfl,by simp only[go_sem,ya,ax,aG hv.pu,aG hw.pu]<;>rfl⟩⟩
 have jv:=jY ydc out;rcases hs with ⟨h0,h5,rfl⟩ | ⟨h0,h5,rfl⟩
 .subst h0;have⟨r,e1,hr,kF⟩:=Dk cM (v:=.ah) (l:=[]) po (by simp);refine⟨r,et [],?_,hr,kF,rfl,rfl,by rw[Bk];exact aM⟩
  simp only[go_sem,ax,h5,e1,kF,hr.dR]
 .have ⟨r,e1,hr,kF⟩:=Dk cM jv hl;refine⟨r,et out,?_,hr,kF,Cy hd,GM out,by rw[Bk];exact aM⟩
  have je:∀hp:Hp,mW 0 out.length (Gp (ydc,1,out.map aa,hp))=Gp (.ap ydc out.length (out.map aa),hp):=fun hp=>mj ydc (by simp) (by decide)
  simp only[go_sem,yb,ax,h5,je,e1,kF,hr.dR]
end
end VE
end
section
namespace VE
open Go (IntKind)
def D2{hp:Hp}{ct id o:Nat}{v:Int}{ex:Bool}{l:List Int}(h:o<l.length):gD hp ct id o 1 [.int .i64 v] (Gp (.cells ydb ydb ex 1 (l.map aa)))=Gp (.av [],aU hp id (.cells ydb ydb ex 1 ((l.set o v).map aa)),ct):=by
 rw[sT (by rfl) (by simp;lia) (by rfl)]
 have:over o [AV.int .i64 v] (l.map aa)=(l.set o v).map aa:=by
  simp only[over,yF,yN,yd];rw[ycu,vI,yC (by simpa using h)]
  simp
 rw[this];rfl
def Al{l:List Int}{o:Nat}(h:o<l.length):um o (l.map aa)=AV.int .i64 (l.getD o 0)::um (o+1) (l.map aa):=by
 rw[yR (by simpa using h)]
 grind
def sU{v:AV}{l:List Int}(hv:bA v l){i:Nat}(h:i<l.length):gH 1 i v=Gp (.bC (.int .i64 (l.getD i 0)::(l.map aa).drop (i+1))):=by
 rw[hv.bk h]
 grind
def aqM{o x y c:Int}(ho:0<=o/\o<1000000000)(hx:0<=x/\x<1000000000)(hy:0<=y/\y<1000000000)(hc:0<=c/\c<1000000000):
  (0<=x*y/\x*y<=999999998000000001)/\0<=o+x*y+c/\o+x*y+c<1000000000000000000:=by
 have h1:=tK hx.1 hy.1;have h2:=ycb (show x<=999999999 by lia) (show y<=999999999 by lia) hy.1 (by decide)
 lia
section
variable {P:aE}{L:Lib}
def awL{v w:AV}{a b:List Int}(hv:bA v a)(hw:bA w b)(ha:dg a)(hb:dg b)(la:a.length<=20000000000)(lb:b.length<=20000000000){n i:Nat}(hn:n=a.length+b.length)(hi:i<a.length){out0:List Int}:
  c6 P L [0,1,5,6,7,8] KX (fun k s=>∃(j:Nat) (c:Int) (out:List Int),s=⟨[(0,v),(1,w),(5,.aq 0 0 n),(6,aa i),(7,aa c),(8,aa j)],[(0,.cells ydb ydb ydb 1 (out.map aa))],1,0⟩/\j+k=b.length/\out.length=n/\dg out/\(0<=c/\c<1000000000)/\
    dv out+1000000000^i*1000000000^j*c.toNat=dv out0+1000000000^i*((a.getD i 0).toNat*dv (b.take j))/\(∀m,i+b.length<=m->out.getD m 0=out0.getD m 0)) (fun ex s'=>∃tm c out,s'=⟨tm,[(0,.cells ydb ydb ydb 1 (out.map aa))],1,0⟩/\ex=.exit 2/\ak tm 0=v/\ak tm 1=w/\ak tm 5=.aq 0 0 n/\ak tm 6=aa i/\ak tm 7=aa c/\out.length=n/\dg out/\(0<=c/\c<1000000000)/\
    dv out+1000000000^i*1000000000^b.length*c.toNat=dv out0+1000000000^i*((a.getD i 0).toNat*dv b)/\(∀m,i+b.length<=m->out.getD m 0=out0.getD m 0)):=by
 apply c9;rintro k s ⟨j,c,out,rfl,hk,hlen,hd,hc,aM,ir⟩;by_cases hj:j<b.length
 .left
  obtain⟨x,hx⟩:∃x,x=a.getD i 0:=⟨_,rfl⟩;obtain⟨y,hy⟩:∃y,y=b.getD j 0:=⟨_,rfl⟩;obtain⟨o,ho⟩:∃o,o=out.getD (i+j) 0:=⟨_,rfl⟩;have gx:=jn ha i;have gy:=jn hb j;have oT:=jn hd (i+j);rw[<-hx] at gx;rw[<-hy] at gy;rw[<-ho] at oT;have⟨p1,p2,p3⟩:=aqM oT gx gy hc;obtain⟨t,ht⟩:∃t:Nat,o+x*y+c=t:=⟨(o+x*y+c).toNat,by lia⟩;have hr:((t:Nat):Int).tmod 1000000000=((t%1000000000:Nat):Int):=by rw[xV (by lia)];rfl
  have hq:((t:Nat):Int).tdiv 1000000000=((t/1000000000:Nat):Int):=by rw[xW (by lia)];rfl
  have e1:=sU hv hi;have e2:=sU hw hj;rw[<-hx] at e1;rw[<-hy] at e2;have e3:=Al (l:=out) (o:=i+j) (by lia);rw[<-ho] at e3;have zy:t=o.toNat+x.toNat*y.toNat+c.toNat:=by
   have:((x.toNat*y.toNat:Nat):Int)=x*y:=by rw[xS,vl gx.1,vl gy.1]
   lia
  have aU:=VK (l:=out) (j:=i+j) (x:=((t%1000000000:Nat):Int)) (by lia);rw[<-ho,xh,xH] at aU;have kY:=apJ (Y:=dv (b.take j)) zy aU (by rw[hx];exact aM)
  simp only[go_sem,ya,ym,KX,hw.len,show (j:Int)<b.length by lia,wrapN (n:=i+j) (by lia),show (i:Int)+(j:Int)=((i+j:Nat):Int) from rfl,cV 0 0 (show i+j<n by lia),yd,e3,e1,e2,wrap64 (n:=x*y) (by lia) (by lia),wrap64 (n:=o+x*y) (by lia) (by lia),ht,wrapN (n:=t) (by lia),fH _ _ _ (show (1000000000:Int)≠0 by decide),eX _ _ _ (show (1000000000:Int)≠0 by decide),hr,hq,wrapN (n:=t/1000000000) (by lia),D2 (l:=out) (o:=i+j) (by lia)];refine⟨_,k-1,rfl,by lia,j+1,((t/1000000000:Nat):Int),out.set (i+j) ((t%1000000000:Nat):Int),?_,by lia,by simp[hlen],PL hd (by lia),by lia,?_,fun m hm=>?_⟩
  .rw [wrap64 (by lia) (by lia)];simp only[go_sem,ya,yb,ax,aG hv.pu,aG hw.pu]<;>rfl
  .rw [xh,q8,xn,<-hx,<-hy];exact kY
  .rw [ac5 (by lia)];exact ir m hm
 .right
  have:j=b.length:=by lia
  subst this;rw[xL] at aM;simp only[go_sem,ya,KX,hw.len,show ¬(b.length:Int)<b.length by lia];exact⟨_,_,rfl,by simp,_,c,out,rfl,rfl,rfl,rfl,rfl,rfl,rfl,hlen,hd,hc,aM,ir⟩
end
end VE
end
section
namespace VE
open Go (IntKind)
section
variable {v w:AV}{a b:List Int}
def TR(n:Nat):(yz n [AV.int .i64 0]).flatten=(yz n (0:Int)).map aa:=by simp_all
def as6(b:Bool):HN ydb (Gp b)=Gp (.bool (!b)):=by cases b<;>rfl
def abq(n m:Nat):(yz n (0:Int)).getD m 0=0:=by grind
section
variable {P:aE}{L:Lib}
def awM(hv:bA v a)(hw:bA w b)(ha:dg a)(hb:dg b)(la:a.length<=20000000000)(lb:b.length<=20000000000){n:Nat}(hn:n=a.length+b.length):
  c6 P L [0,1,5,6] KY (fun k s=>∃(i:Nat) (out:List Int),s=⟨[(0,v),(1,w),(5,.aq 0 0 n),(6,aa i)],[(0,.cells ydb ydb ydb 1 (out.map aa))],1,0⟩/\i+k=a.length/\out.length=n/\dg out/\dv out=dv (a.take i)*dv b/\(∀m,i+b.length<=m->out.getD m 0=0)) (fun ex s'=>∃tm out,s'=⟨tm,[(0,.cells ydb ydb ydb 1 (out.map aa))],1,0⟩/\ex=.exit 0/\ak tm 5=.aq 0 0 n/\out.length=n/\dg out/\dv out=dv a*dv b):=by
 apply c9;rintro k s ⟨i,out,rfl,hk,hlen,hd,aM,ir⟩;by_cases hi:i<a.length
 .left
  simp only[go_sem,ya,KY,hv.len,show (i:Int)<a.length by lia];generalize hq:D P L (.loop _ KX) _=q;obtain⟨ex,s,rfl,tm,c,Ay,rfl,rfl,t0,t1,t5,t6,t7,Wy,se,hc,Wz,Mr⟩:=bL hq (awL (P:=P) (L:=L) hv hw ha hb la lb hn hi (out0:=out) b.length) ⟨0,0,out,by simp only[go_sem,ya,yb,ax,aG hv.pu,aG hw.pu]<;>rfl,by lia,hlen,hd,by lia,by simp[dv],fun m _=>rfl⟩
  have hz:Ay.getD (i+b.length) 0=0:=by rw[Mr _ (yp _),ir _ (yp _)]
  have e3:=Al (l:=Ay) (o:=i+b.length) (by lia);rw[hz] at e3;have aU:=VK (l:=Ay) (j:=i+b.length) (x:=c) (by lia);rw[hz,xH] at aU
  simp only[go_sem,ya,ym,ax,t0,t1,t5,t6,t7,hw.len,aG hv.pu,aG hw.pu,wrapN (n:=i+b.length) (by lia),show (i:Int)+(b.length:Int)=((i+b.length:Nat):Int) from rfl,cV 0 0 (show i+b.length<n by lia),yd,e3,Int.zero_add,wrap64 (n:=c) (by lia) (by lia),D2 (l:=Ay) (o:=i+b.length) (by lia)];refine⟨_,k-1,rfl,by lia,i+1,Ay.set (i+b.length) c,?_,by lia,by simp[Wy],PL se hc,?_,fun m hm=>?_⟩
  .rw [wrap64 (by lia) (by lia)];simp only[go_sem,ya,yb,ax,aG hv.pu,aG hw.pu]<;>rfl
  .rw [q8,xR,<-aM,xj];simp only[Int.toNat_zero,xG,yX] at aU;rw[aU];exact Wz
  .rw [ac5 (by lia),Mr m (by lia),ir m (by lia)]
 .right
  have:i=a.length:=by lia
  subst this;rw[xL] at aM;simp only[go_sem,ya,KY,hv.len,show ¬(a.length:Int)<a.length by lia];exact⟨_,_,rfl,by simp,_,out,rfl,rfl,rfl,hlen,hd,aM⟩
def X2(h:Has P L 293 Dd)(cM:Has P L 300 mV)(hv:bA v a)(hw:bA w b)(ha:dg a)(hb:dg b)(la:a.length<=8000000000)(lb:b.length<=8000000000):
  ∃r out,ab P L 293 [v,w] r/\bA r out/\shut r=r/\dg out/\nz out/\dv out=dv a*dv b:=by
 obtain⟨n,hn⟩:∃n,n=a.length+b.length:=⟨_,rfl⟩;have cm:∀ct:Nat,BO ct 1 8 [.int .i64 0] (Gp n) (Gp n)=Gp (.aq ct 0 n,.cells ydb ydb ydb 1 ((yz n (0:Int)).map aa)):=fun ct=>by
  rw[Ld (sz:=1) (by lia) (by lia) (by rfl) (by rfl),TR];rfl
 unfold ab;rw[aD h]
 simp only[go_sem,ya,yb,Dd,hv.len,hw.len,wrapN (n:=n) (by lia),show (a.length:Int)+(b.length:Int)=((a.length+b.length:Nat):Int) from rfl,<-hn,cm];generalize hq:D P L (.loop _ KY) _=q;obtain⟨ex,s,rfl,tm,out,rfl,rfl,t5,hlen,hd,aM⟩:=bL hq (awM (P:=P) (L:=L) hv hw ha hb (by lia) (by lia) hn a.length) ⟨0,yz n 0,by simp only[go_sem,ya,yb,ax,aG hv.pu,aG hw.pu]<;>rfl,by lia,by simp,ac7 n,by rw[ac6];simp[dv],fun m _=>abq n m⟩
 have jv:=jY ydb out;rw[hlen] at jv;have⟨r,e1,hr,kF⟩:=Dk cM jv (by lia);refine⟨r,et out,?_,hr,kF,Cy hd,GM out,by rw[Bk];exact aM⟩
 have je:∀hp:Hp,mW 0 n (Gp (ydb,1,out.map aa,hp))=Gp (.ap ydb n (out.map aa),hp):=fun hp=>mj ydb (by simp[hlen]) (by decide)
 simp only[go_sem,yb,ax,t5,je,e1,kF,hr.dR]
def MD(h:Has P L 278 Q3)(mw:Has P L 293 Dd)(jL:Has P L 294 De)(cM:Has P L 300 mV){n m:Int}{K:Nat}(hK:K<=8000000000)(hv:lB v n)(hw:lB w m)(hn:n.natAbs<1000000000^K)(hm:m.natAbs<1000000000^K):
  ∃r,ab P L 278 [v,w] r/\lB r (n*m):=by
 obtain⟨x,a,rfl,hx,ha,na,va⟩:=hv;obtain⟨y,b,rfl,hy,hb,nb,vb⟩:=hw;have la:=xo (kL ha na (by rw[va];exact hn)) hK
 have lb:=xo (kL hb nb (by rw[vb];exact hm)) hK
 have⟨z,out,e1,hz,kF,hd,DV,aM⟩:=X2 mw cM hx hy ha hb la lb;have lo:out.length<=20000000000:=by
  refine kL hd DV ?_;rw[aM];have h1:=kW ha;have h2:=kW hb;have h3:dv a*dv b<1000000000^a.length*1000000000^b.length:=yak h1 h2;rw[<-xH] at h3;have hk:∀K,a.length+b.length<=K->dv a*dv b<1000000000^K:=fun K h=>yG h3 (xa (by decide) h)
  exact hk 20000000000 (by lia)
 have⟨r,e2,hr⟩:=zd jL cM (!(decide (n<0)==decide (m<0))) hz hd lo;have e:cz (!(decide (n<0)==decide (m<0))) (dv out)=n*m:=by
  rw[aM,va,vb];have hnm:((n.natAbs*m.natAbs:Nat):Int)=(n.natAbs:Int)*m.natAbs:=xS _ _;unfold cz;by_cases h0:n<0<;>by_cases h1:m<0<;>simp only[h0,h1,yI,yM,tO,yY,yD,xz,hnm]
  .rw [show (n.natAbs:Int)= -n by lia,show (m.natAbs:Int)= -m by lia,Int.neg_mul_neg]
  .rw [show (ydb==ydc)=ydc from rfl,yZ,yC rfl,show (n.natAbs:Int)= -n by lia,show (m.natAbs:Int)=m by lia,Int.neg_mul,yaq]
  .rw [show (ydc==ydb)=ydc from rfl,yZ,yC rfl,show (n.natAbs:Int)=n by lia,show (m.natAbs:Int)= -m by lia,Int.mul_neg,yaq]
  .rw [show (n.natAbs:Int)=n by lia,show (m.natAbs:Int)=m by lia]
 rw[e] at hr;obtain⟨w2,l2,rfl,jh,jU,lk,BQ⟩:=hr;refine⟨_,?_,w2,l2,rfl,jh,jU,lk,BQ⟩;unfold ab at e1 e2 ⊢;rw[aD h];simp only[go_sem,ya,yb,Q3,aQ,hx.pu,hx.aj,hx.one,hy.pu,hy.aj,hy.one,hz.aj,hz.shut,jh.pu,jh.one,aY,yd,df,e1,rC,as6,e2,gK,bw];rcases jh with ⟨rfl,_⟩ | ⟨e,rfl⟩<;>rfl
end
end
end VE
end
section
namespace VE
open Go (IntKind)
def as7(i:Nat)(q:List Int)(x:Int):(yz (i+1) (0:Int)++q).set i x=yz i 0++x::q:=by
 rw[List.replicate_succ',xD,List.set_append_right _ _ (by simp)]
 simp
section
variable {P:aE}{L:Lib}
def awN{v:AV}{a:List Int}(hv:bA v a)(ha:dg a)(la:a.length<=20000000000){d:Nat}(h0:0<d)(h1:d<1000000000):
  c6 P L [0,1,6,7,8] KZ (fun k s=>∃(j r:Nat) (q:List Int),s=⟨[(0,v),(1,aa d),(6,.aq 0 0 a.length),(7,aa r),(8,aa ((j:Int)-1))],[(0,.cells ydb ydb ydb 1 ((yz j (0:Int)++q).map aa))],1,0⟩/\j=k/\j+q.length=a.length/\r<d/\dg q/\dv (a.drop j)=d*dv q+r) (fun ex s'=>∃tm r q,s'=⟨tm,[(0,.cells ydb ydb ydb 1 (q.map aa))],1,0⟩/\ex=.exit 0/\ak tm 6=.aq 0 0 a.length/\ak tm 7=aa (r:Nat)/\q.length=a.length/\r<d/\dg q/\dv a=d*dv q+r):=by
 apply c9;rintro k s ⟨j,r,q,rfl,rfl,hl,hr,hd,aM⟩
 cases j with
 | zero=>
  right
  simp only[go_sem,ya,KZ,show ¬(0:Int)<=((0:Nat):Int)-1 by lia];exact⟨_,_,rfl,by simp,_,r,q,rfl,rfl,rfl,rfl,by lia,hr,hd,aM⟩
 | succ i=>
  left
  have hi:i<a.length:=by lia
  obtain⟨x,hx⟩:∃x,x=a.getD i 0:=⟨_,rfl⟩;have e1:=sU hv hi;have gx:=jn ha i;rw[<-hx] at e1 gx;obtain⟨t,ht⟩:∃t:Nat,t=r*1000000000+x.toNat:=⟨_,rfl⟩;have zy:(r:Int)*1000000000+x=(t:Int):=by lia
  have mb:t<d*1000000000:=by
   lia
  have gg:t/d<1000000000:=(xE h0).2 (by rw[xt];exact mb)
  have dV:t%d<d:=xJ _ h0;have e2:((t:Nat):Int).tdiv d=((t/d:Nat):Int):=by rw[xW (by lia)];rfl
  have e3:((t:Nat):Int).tmod d=((t%d:Nat):Int):=by rw[xV (by lia)];rfl
  have Iu:(yz (i+1) (0:Int)++q).length=a.length:=by simp;lia
  have aR:=fun (hp:Hp) (ct id:Nat) (ex:Bool)=>D2 (hp:=hp) (ct:=ct) (id:=id) (ex:=ex) (v:=((t/d:Nat):Int)) (l:=yz (i+1) (0:Int)++q) (o:=i) (by rw[Iu];exact hi)
  simp only[as7] at aR
  simp only[go_sem,ya,ym,KZ,show ((i+1:Nat):Int)-1=(i:Int) by lia,show (0:Int)<=(i:Int) by lia,wrap64 (n:=(r:Int)*1000000000) (by lia) (by lia),e1,zy,wrapN (n:=t) (by lia),eX _ _ _ (show (d:Int)≠0 by lia),fH _ _ _ (show (d:Int)≠0 by lia),e2,e3,wrapN (n:=t/d) (by lia),cV 0 0 (show i<a.length from hi),yd,aR]
  refine⟨_,i,rfl,by lia,i,t%d,((t/d:Nat):Int)::q,?_,rfl,by simp;lia,dV,(iO (a:=[((t/d:Nat):Int)]) (b:=q)).2 ⟨mo.2 ⟨yau _,tu.2 gg⟩,hd⟩,?_⟩
  .rw [wrap64 (by lia) (by lia)];simp only[go_sem,ya,yb,ax,aG hv.pu]<;>rfl
  .have kD:a.drop i=x::a.drop (i+1):=by
    rw[yR hi,hx];simp[xc,xv hi]
   rw[kD];simp only[dv,aM,xh];have e:=xX t d;rw[xK,xK d,Nat.mul_left_comm 1000000000 d]
   lia
def aih(h:Has P L 299 Df)(cM:Has P L 300 mV){v:AV}{a:List Int}(hv:bA v a)(ha:dg a)(la:a.length<=20000000000){d:Nat}(h0:0<d)(h1:d<1000000000):
  ∃r q,ab P L 299 [v,aa d] (.av [r,aa (dv a%d:Nat)])/\bA r q/\shut r=r/\bI r=r/\dg q/\nz q/\dv q=dv a/d:=by
 obtain⟨n,hn⟩:∃n,n=a.length:=⟨_,rfl⟩;have cm:∀ct:Nat,BO ct 1 8 [.int .i64 0] (Gp n) (Gp n)=Gp (.aq ct 0 n,.cells ydb ydb ydb 1 ((yz n (0:Int)).map aa)):=fun ct=>by
  rw[Ld (sz:=1) (by lia) (by lia) (by rfl) (by rfl),TR];rfl
 unfold ab;rw[aD h];simp only[go_sem,ya,yb,Df,hv.len,<-hn,cm];generalize hq:D P L (.loop _ KZ) _=q;obtain⟨ex,s,rfl,tm,r,qs,rfl,rfl,t6,t7,hlen,hr,hd,aM⟩:=bL hq (awN (P:=P) (L:=L) hv ha la h0 h1 a.length) ⟨a.length,0,[],by
  rw[wrap64 (by lia) (by lia),xU,<-hn]
  simp only[go_sem,ya,yb,ax,aG hv.pu]<;>rfl,rfl,by simp,h0,rfl,by rw[xd (yp _)];simp[dv]⟩
 have jv:=jY ydb qs;rw[hlen] at jv;have⟨w,e1,hw,kF⟩:=Dk cM jv (by lia);have fc:dv a/d=dv qs/\dv a%d=r:=(Nat.div_mod_unique h0).2 ⟨by lia,hr⟩;refine⟨w,et qs,?_,hw,kF,hw.bI,Cy hd,GM qs,by rw[Bk,fc.1]⟩;have je:∀hp:Hp,mW 0 a.length (Gp (ydb,1,qs.map aa,hp))=Gp (.ap ydb a.length (qs.map aa),hp):=fun hp=>mj ydb (by simp[hlen]) (by decide)
 rw[fc.2];simp only[go_sem,ya,yb,ax,t6,t7,je,e1,kF];rcases hw with ⟨rfl,_⟩ | ⟨e,rfl⟩<;>rfl
def aBh(h:Has P L 279 HE)(X3:Has P L 295 Ma)(pX:Has P L 296 At)(R1:Has P L 297 Mb)(oM:Has P L 302 Au)(jL:Has P L 294 De)(cM:Has P L 300 mV){v w:AV}{n m:Int}{K:Nat}(hK:K<=8000000000)(hv:lB v n)(hw:lB w m)(hn:n.natAbs<1000000000^K)(hm:m.natAbs<1000000000^K):
  ∃r,ab P L 279 [v,w] r/\lB r (n+m):=by
 obtain⟨x,a,rfl,hx,ha,na,va⟩:=hv;obtain⟨y,b,rfl,hy,hb,nb,vb⟩:=hw;have la:=xo (kL ha na (by rw[va];exact hn)) hK
 have lb:=xo (kL hb nb (by rw[vb];exact hm)) hK
 by_cases hs:(decide (n<0)==decide (m<0))=ydb
 .have ⟨z,out,e1,hz,hd,aM,hl⟩:=aBg X3 oM hx hy ha hb (by lia) (by lia);have lo:out.length<=20000000000:=by lia
  have⟨r,e2,hr⟩:=zd jL cM (decide (n<0)) hz hd lo;have e:cz (decide (n<0)) (dv out)=n+m:=by
   have D3:(n<0)=(m<0):=by simpa using eq_of_beq hs
   rw[aM,va,vb];unfold cz;by_cases h0:n<0
   .have h1:m<0:=D3▸h0;simp only[h0,yI,xP];lia
   .have h1:¬m<0:=D3▸h0;simp only[h0,yM,yD,xz];lia
  rw[e] at hr;obtain⟨w2,l2,rfl,jh,jU,lk,BQ⟩:=hr;refine⟨_,?_,w2,l2,rfl,jh,jU,lk,BQ⟩;unfold ab at e1 e2 ⊢;rw[aD h];simp only[go_sem,ya,yb,HE,aQ,hx.pu,hx.aj,hx.one,hy.pu,hy.aj,hy.one,hz.aj,jh.pu,jh.one,aY,yd,df,e1,rC,eM,hs,e2,gK,bw];rcases jh with ⟨rfl,_⟩ | ⟨e,rfl⟩<;>rfl
 .have hs:(decide (n<0)==decide (m<0))=ydc:=by simpa using hs
  have D3:¬((n<0)=(m<0)):=fun e=>by simp[e] at hs
  have ec:=X1 pX hx hy ha hb na nb (by lia) (by lia);by_cases hc:dv a<dv b
  .have eJ:dY (dv a) (dv b)= -1:=by unfold dY;rw[yC hc]
   rw[eJ] at ec;have⟨z,out,e1,hz,kF,hd,DV,aM⟩:=aif R1 oM cM hy hx hb ha nb na (by lia) (by lia);have lo:out.length<=20000000000:=by
    refine kL hd DV ?_
    have:=kW hb
    have hk:∀K,b.length<=K->dv out<1000000000^K:=fun K h=>yG (show dv out<1000000000^b.length by lia) (xa (by decide) h)
    exact hk 20000000000 (by lia)
   have⟨r,e2,hr⟩:=zd jL cM (decide (m<0)) hz hd lo;have e:cz (decide (m<0)) (dv out)=n+m:=by
    rw[va,vb] at aM;unfold cz;by_cases h0:m<0
    .have h1:¬n<0:=fun h1=>D3 (by simp[h0,h1])
     simp only[h0,yI,xP];lia
    .have h1:n<0:=by
      by_cases h1:n<0
      .exact h1
      .exact absurd (by simp[h0,h1]) D3
     simp only[h0,yM,yD,xz];lia
   rw[e] at hr;obtain⟨w2,l2,rfl,jh,jU,lk,BQ⟩:=hr;refine⟨_,?_,w2,l2,rfl,jh,jU,lk,BQ⟩;unfold ab at e1 e2 ec ⊢;rw[aD h];simp only[go_sem,ya,yb,HE,aQ,hx.pu,hx.aj,hx.one,hy.pu,hy.aj,hy.one,hz.aj,hz.shut,jh.pu,jh.one,aY,yd,df,e1,rC,eM,hs,ec,show ¬(0:Int)<=-1 by decide,e2,gK,bw];rcases jh with ⟨rfl,_⟩ | ⟨e,rfl⟩<;>rfl
  .have eJ:(0:Int)<=dY (dv a) (dv b):=by unfold dY;rw[yr hc];split<;>decide
   have⟨z,out,e1,hz,kF,hd,DV,aM⟩:=aif R1 oM cM hx hy ha hb na nb (by lia) (by lia);have lo:out.length<=20000000000:=by
    refine kL hd DV ?_
    have:=kW ha
    have hk:∀K,a.length<=K->dv out<1000000000^K:=fun K h=>yG (show dv out<1000000000^a.length by lia) (xa (by decide) h)
    exact hk 20000000000 (by lia)
   have⟨r,e2,hr⟩:=zd jL cM (decide (n<0)) hz hd lo;have e:cz (decide (n<0)) (dv out)=n+m:=by
    rw[va,vb] at aM;unfold cz;by_cases h0:n<0
    .have h1:¬m<0:=fun h1=>D3 (by simp[h0,h1])
     simp only[h0,yI,xP];lia
    .have h1:m<0:=by
      by_cases h1:m<0
      .exact h1
      .exact absurd (by simp[h0,h1]) D3
     simp only[h0,yM,yD,xz];lia
   rw[e] at hr;obtain⟨w2,l2,rfl,jh,jU,lk,BQ⟩:=hr;refine⟨_,?_,w2,l2,rfl,jh,jU,lk,BQ⟩;unfold ab at e1 e2 ec ⊢;rw[aD h];simp only[go_sem,ya,yb,HE,aQ,hx.pu,hx.aj,hx.one,hy.pu,hy.aj,hy.one,hz.aj,hz.shut,jh.pu,jh.one,aY,yd,df,e1,rC,eM,hs,ec,eJ,e2,gK,bw];rcases jh with ⟨rfl,_⟩ | ⟨e,rfl⟩<;>rfl
end
end VE
end
section
namespace VE
open Go (IntKind)
section
variable {P:aE}{L:Lib}
def aer{l:List Int}(hd:dg l)(hn:nz l)(h:dv l<1000000000):l.length<=1:=kL hd hn (by simpa using h)
def aBi(h:Has P L 289 As)(pX:Has P L 296 At)(rK:Has P L 299 Df)(cM:Has P L 300 mV){v w:AV}{a b:List Int}(hv:bA v a)(hw:bA w b)(ha:dg a)(hb:dg b)(na:nz a)(nb:nz b)(la:a.length<=20000000000)(lb:b.length<=1)(h0:0<dv b):
  ∃q r lq lr,ab P L 289 [v,w] (.av [q,r])/\bA q lq/\bA r lr/\dg lq/\nz lq/\dg lr/\nz lr/\dv lq=dv a/dv b/\dv lr=dv a%dv b:=by
 have ec:=X1 pX hv hw ha hb na nb la (by lia);by_cases hc:dv a<dv b
 .have eJ:dY (dv a) (dv b)= -1:=by unfold dY;rw[yC hc]
  rw[eJ] at ec;refine⟨.ah,v,[],a,?_,po,hv,rfl,rfl,ha,na,?_,?_⟩
  .unfold ab;rw[aD h];simp only[go_sem,ya,As,hv.aj,hw.aj,ec,show (-1:Int)<0 by decide];rcases hv with ⟨rfl,_⟩ | ⟨e,rfl⟩<;>rfl
  .rw [wb hc];rfl
  .rw [yT hc]
 .have eJ:¬dY (dv a) (dv b)<0:=by unfold dY;rw[yr hc];split<;>decide
  have qh:b.length=1:=by
   rcases xq b.length with e | e
   .rw [yK e] at h0;simp[dv] at h0
   .lia
  obtain⟨x,rfl⟩:∃x,b=[x]:=by
   cases b with
   | nil=>simp at qh
   | cons x r=>cases r with
    | nil=>exact⟨x,rfl⟩
    | cons y r=>simp at qh
  have gx:=mo.1 hb;obtain⟨d,hd⟩:∃d:Nat,x=d:=⟨x.toNat,by lia⟩;subst hd;have hdd:dv [((d:Nat):Int)]=d:=by simp[dv]
  rw[hdd] at h0 hc eJ ec ⊢;have⟨q,lq,e1,hq,hqs,aBj,dq,nq,vq⟩:=aih rK cM hv ha la h0 (by lia);have agJ:dv a%d<d:=xJ _ h0;generalize dv a%d=m at*
  have⟨r,e2,hr,AT⟩:=Dk cM (jY ydb [(m:Int)]) (by simp);refine⟨q,r,lq,et [(m:Int)],?_,hq,hr,dq,nq,Cy (mo.2 (by lia)),GM _,vq,by rw[Bk];simp[dv]⟩;have e3:=hw.bk (i:=0) (by simp);simp only[yF,yN,yd,xb,vd,wI] at e2 e3;unfold ab;rw[aD h];simp only[go_sem,ya,yb,yx,yi,ym,As,hv.aj,hw.len,hw.aj,ec,eJ,yF,yN,show ((1:Nat):Int)=(1:Int) from rfl,yI,e3,e1,aBj,e2,AT];rcases hq with ⟨rfl,_⟩ | ⟨e,rfl⟩<;>rcases hr with ⟨rfl,_⟩ | ⟨e',rfl⟩<;>rfl
end
end VE
end
section
namespace VE
open Go (IntKind)
section
variable {l post pre qs vs:List Int}{r t:Nat}
def sv:List Int->Int
 | []=>0
 | a::r=>a+1000000000*sv r
def acp:∀(a b:List Int),sv (a++b)=sv a+1000000000^a.length*sv b
 | [],b=>by simp[sv]
 | x::a,b=>by
  simp only[yj,sv,acp a b,yF,yac,ycQ]
  grind
def awO(x:Int):sv [x]=x:=by simp[sv]
def Hh:∀{l:List Int} {i:Nat} {x:Int},i<l.length->sv (l.set i x)=sv l+1000000000^i*(x-l.getD i 0)
 | [],i,x,h=>by simp at h
 | a::l,0,x,_=>by simp[sv];lia
 | a::l,i+1,x,h=>by
  have ih:=Hh (l:=l) (i:=i) (x:=x) (by simpa using h);simp only[List.set_cons_succ,sv,List.getD_cons_succ,ih,yac,ycQ]
  grind
def Pv(i:Nat):sv (l.take (i+1))=sv (l.take i)+1000000000^i*l.getD i 0:=by
 by_cases h:i<l.length
 .rw [xi h,acp,yQ,xB (by lia),awO]
  grind
 .rw [yE (by lia),yE (by lia),Kg (by lia),Int.mul_zero,ycA]
def BD:∀{l:List Int},dg l->sv l=dv l
 | [],_=>rfl
 | a::l,h=>by
  have⟨h1,h2⟩:=iO.1 (show dg ([a]++l) from h);have h1:=mo.1 h1;simp only[sv,dv,BD h2,yaV,xS]
  lia
section
variable {pre x post:List Int}{i:Nat}
def pM:(pre++x++post).length=pre.length+x.length+post.length:=by grind
def CV(h:i<x.length):(pre++x++post).getD (pre.length+i) 0=x.getD i 0:=by grind
def PT(a:Int)(h:i<x.length):(pre++x++post).set (pre.length+i) a=pre++x.set i a++post:=by simp_all
end
def afi{i m:Nat}{x:Int}(h:i≠m):(l.set i x).getD m 0=l.getD m 0:=by simp_all
def aoB{i:Nat}{x:Int}(h:i<l.length):(l.set i x).getD i 0=x:=by simp_all
abbrev H3(q u:List Int)(f:Int):Hp:=[(2,.cells ydb ydb ydb 1 (q.map aa)),(1,.cells ydb ydb ydc 1 (u.map aa)),(0,.cells ydc ydb ydb 1 [aa f])]
def O1{live:List Nat}{tm:Env}{ct:Nat}{a b c:List AV}(ht:lH 3 (bc tm live))(hl:(cJ (bc tm live)).length<100000):
  bn live ⟨tm,[(2,.cells ydb ydb ydb 1 a),(1,.cells ydb ydb ydc 1 b),(0,.cells ydc ydb ydb 1 c)],ct,3⟩=⟨bc tm live,[(2,.cells ydb ydb ydb 1 a),(1,.cells ydb ydb ydc 1 b),(0,.cells ydc ydb ydb 1 c)],3,3⟩:=
 TB ht ⟨by lia,.inl rfl,by lia,.inl rfl,by lia,.inl rfl,trivial⟩ (by
  have:b7 3 [(2,Obj.cells ydb ydb ydb 1 a),(1,Obj.cells ydb ydb ydc 1 b),(0,Obj.cells ydc ydb ydb 1 c)]=[]:=rfl
  rw[this,yN,yX];exact hl)
structure gR(x vs:List Int)(n v1 v2 u0 u1 u2:Nat):Prop where
 n2:2<=n
 nb:n<=20000000000
 lx:x.length=n+1
 lv:vs.length=n
 gx:dg x
 gv:dg vs
 fj:vs.getD (n-1) 0=(v1:Int)
 cW:vs.getD (n-2) 0=(v2:Int)
 h0:x.getD n 0=(u0:Int)
 h1:x.getD (n-1) 0=(u1:Int)
 h2:x.getD (n-2) 0=(u2:Int)
 pos:0<v1
 lt:dv x<1000000000*dv vs
section
variable {x vs:List Int}{n v1 v2 u0 u1 u2:Nat}
def gR.Nr(h:gR x vs n v1 v2 u0 u1 u2):v1<1000000000:=by have:=jn h.gv (n-1);rw[h.fj] at this;lia
def gR.F5(h:gR x vs n v1 v2 u0 u1 u2):v2<1000000000:=by have:=jn h.gv (n-2);rw[h.cW] at this;lia
def gR.u0W(h:gR x vs n v1 v2 u0 u1 u2):u0<1000000000:=by have:=jn h.gx n;rw[h.h0] at this;lia
def gR.Ns(h:gR x vs n v1 v2 u0 u1 u2):u1<1000000000:=by have:=jn h.gx (n-1);rw[h.h1] at this;lia
def gR.Nt(h:gR x vs n v1 v2 u0 u1 u2):u2<1000000000:=by have:=jn h.gx (n-2);rw[h.h2] at this;lia
def gR.parts(h:gR x vs n v1 v2 u0 u1 u2):∃p vr ur,dv vs=(v1*1000000000+v2)*p+vr/\vr<p/\dv x=((u0*1000000000+u1)*1000000000+u2)*p+ur/\ur<p:=by
 obtain⟨m,hm⟩:∃m,n=m+2:=⟨n-2,by have:=h.n2;lia⟩
 subst hm;have e1:=q8 (l:=vs) (m+1);have e2:=q8 (l:=vs) m;have f0:=q8 (l:=x) (m+2);have f1:=q8 (l:=x) (m+1);have f2:=q8 (l:=x) m;have fj:vs.getD (m+1) 0=(v1:Int):=h.fj;have cW:vs.getD m 0=(v2:Int):=h.cW;have h0:x.getD (m+2) 0=(u0:Int):=h.h0;have h1:x.getD (m+1) 0=(u1:Int):=h.h1;have h2:x.getD m 0=(u2:Int):=h.h2
 rw[yE (by have:=h.lv;lia),fj,e2,cW] at e1
 rw[yE (by have:=h.lx;lia),h0,f1,h1,f2,h2] at f0
 simp only[xh] at e1 f0;have g1:=kW (Er h.gv m)
 rw[yQ,xB (by have:=h.lv;lia)] at g1
 have g2:=kW (Er h.gx m)
 rw[yQ,xB (by have:=h.lx;lia)] at g2
 refine⟨1000000000^m,_,_,?_,g1,?_,g2⟩
 .rw [e1,xn,ayX]
 .rw [f0,show 1000000000^(m+2)=1000000000^m*1000000000*1000000000 by rw[xn,xn],xn,ayY]
def gR.down(h:gR x vs n v1 v2 u0 u1 u2)(ht:t*v1+r=u0*1000000000+u1)(hr:r*1000000000+u2<t*v2):dv x/dv vs<=t-1:=by
 have⟨p,vr,ur,h1,h2,h3,h4⟩:=h.parts;exact abg h1 h3 h4 ht hr
def gR.stop(h:gR x vs n v1 v2 u0 u1 u2)(mb:t<1000000000)(ht:t*v1+r=u0*1000000000+u1)(hr:1000000000<=r\/t*v2<=r*1000000000+u2):t<=dv x/dv vs+1:=by
 have⟨p,vr,ur,h1,h2,h3,h4⟩:=h.parts;exact ab7 (by decide) h1 h2 h3 h.pos h.F5 mb ht hr
def gR.first(h:gR x vs n v1 v2 u0 u1 u2):dv x/dv vs<=(u0*1000000000+u1)/v1:=by
 have⟨p,vr,ur,h1,h2,h3,h4⟩:=h.parts;exact TA h1 h3 h4 h.Nt h.pos
def gR.top(h:gR x vs n v1 v2 u0 u1 u2):u0<=v1:=by
 have⟨p,vr,ur,h1,h2,h3,h4⟩:=h.parts;exact ab8 h1 h3 h2 h.F5 h.lt
def gR.digit(h:gR x vs n v1 v2 u0 u1 u2):dv x/dv vs<1000000000:=by
 refine (xE ?_).2 h.lt;rcases xq (dv vs) with h0 | h0
 .have:=h.lt;rw[h0] at this;simp at this
 .exact h0
def gR.small(h:gR x vs n v1 v2 u0 u1 u2)(ht:t*v1+r=u0*1000000000+u1)(hb:1000000000<=t):r<1000000000:=by
 have h1:=h.top;have h2:=h.Ns;have h3:=yO v1 hb
 grind
end
def aBk{u:Nat}(hr:r<1000000000)(hu:u<1000000000):r*1000000000<9223372036854775808/\r*1000000000+u<9223372036854775808:=by lia
section
variable {P:aE}{L:Lib}
def as8{w:AV}{x:List Int}{f:Int}(hw:bA w vs){n v1 v2 u0 u1 u2 M:Nat}(hl:gR x vs n v1 v2 u0 u1 u2)(hM:M=pre.length+x.length+post.length)(NI:M<=50000000000):
  c6 P L [0,1,2,7,9,10] CR (fun k s=>∃t r:Nat,s=⟨[(0,.aq 1 0 M),(1,w),(2,aa pre.length),(7,aa n),(9,aa t),(10,aa r)],H3 qs (pre++x++post) f,3,3⟩/\t*v1+r=u0*1000000000+u1/\r<1000000000/\dv x/dv vs<=t/\t=k) (fun ex s'=>∃tm ct t,s'=⟨tm,H3 qs (pre++x++post) f,ct,3⟩/\((ex=.exit 0/\ak tm 9=aa (t:Nat))\/(ex=.ret/\ak tm 6=aa (t:Nat)))/\ct=3/\t<1000000000/\dv x/dv vs<=t/\t<=dv x/dv vs+1):=by
 apply c9;rintro k s ⟨t,r,rfl,ht,hr,hQ,rfl⟩;have dF:=hl.n2;have r9:=hl.nb;have hlx:=hl.lx;have HQ:=hl.Nr;have Xz:=hl.F5;have ahN:=hl.Nt;have aBl:=hl.u0W;have RP:=hl.Ns;have jM:=hl.pos;have sf:=sU hw (i:=n-2) (by have:=hl.lv;lia)
 have fk:=sU hw (i:=n-1) (by have:=hl.lv;lia)
 rw[hl.cW] at sf;rw[hl.fj] at fk;have AY:=Al (l:=pre++x++post) (o:=pre.length+(n-2)) (by rw[pM];lia)
 rw[CV (by lia),hl.h2] at AY;have Ce:(n:Int)-2=((n-2:Nat):Int):=by lia
 have sj:(n:Int)-1=((n-1:Nat):Int):=by lia
 have NJ:(pre.length:Int)+(n:Int)=((pre.length+n:Nat):Int):=rfl;have ZV:((pre.length+n:Nat):Int)-2=((pre.length+(n-2):Nat):Int):=by lia
 have aF4:t<=1000000000000000000:=by
  have:=yV t jM
  lia
 have aF5:t*1<=t*v1:=yV t jM;have⟨ZW,ZX⟩:=aBk hr ahN;by_cases AW:1000000000<=t\/r*1000000000+u2<t*v2
 .have ZY:0<t:=by
   rcases xq t with h0 | h0
   .subst h0;lia
   .exact h0
  have h1:(t-1)*v1+(r+v1)=u0*1000000000+u1:=by
   obtain⟨p,rfl⟩:∃p,t=p+1:=⟨t-1,by lia⟩;rw[xR,Nat.one_mul] at ht;rw[Nat.add_sub_cancel];lia
  have F6:dv x/dv vs<=t-1:=by
   rcases AW with h | h
   .have:=hl.digit;generalize dv x/dv vs=q at*;lia
   .exact hl.down ht h
  have S9:((t:Nat):Int)-1=((t-1:Nat):Int):=by lia
  have stop:1000000000<=r+v1->t-1<1000000000/\t-1<=dv x/dv vs+1:=fun hb=>by
   have aH:t-1<1000000000:=by
    by_cases AK:1000000000<=t-1
    .have:=hl.small h1 AK;lia
    .lia
   exact⟨aH,hl.stop aH h1 (.inl hb)⟩
  by_cases hb:1000000000<=t
  .by_cases nS:1000000000<=r+v1
   .right
    have⟨s1,s2⟩:=stop nS
    simp only[go_sem,ya,CR,H3,show (1000000000:Int)<=(t:Int) by lia,S9,wrapN (n:=t-1) (by lia),sj,wrapN (n:=n-1) (by lia),fk,show (r:Int)+(v1:Int)=((r+v1:Nat):Int) from rfl,wrapN (n:=r+v1) (by lia),show (1000000000:Int)<=((r+v1:Nat):Int) by lia];exact⟨_,_,rfl,by simp,_,_,t-1,rfl,.inr ⟨rfl,rfl⟩,rfl,s1,F6,s2⟩
   .left
    simp only[go_sem,ya,CR,H3,show (1000000000:Int)<=(t:Int) by lia,S9,wrapN (n:=t-1) (by lia),sj,wrapN (n:=n-1) (by lia),fk,show (r:Int)+(v1:Int)=((r+v1:Nat):Int) from rfl,wrapN (n:=r+v1) (by lia),show ¬(1000000000:Int)<=((r+v1:Nat):Int) by lia];refine⟨_,t-1,rfl,by lia,t-1,r+v1,?_,h1,by lia,F6,rfl⟩;rw[O1 (by simp only[go_sem,ya,yx,nG,oC,nC,nv,nn hw.pu,vQ]) (by simp only[go_sem,ya,yb,yx,eW hw.pu])];simp only[go_sem,ya]
  .have DK:=xf (show t<=999999999 by lia) (show v2<=999999999 by lia);have rL:r*1000000000+u2<t*v2:=AW.resolve_left hb;obtain⟨m,hm⟩:∃m,t*v2=m:=⟨_,rfl⟩;have em:(t:Int)*(v2:Int)=(m:Int):=by rw[<-hm,xS]
   rw[hm] at rL DK;have Ix:(r:Int)*1000000000=((r*1000000000:Nat):Int):=by lia
   have DR:((r*1000000000:Nat):Int)+(u2:Int)=((r*1000000000+u2:Nat):Int):=rfl;by_cases nS:1000000000<=r+v1
   .right
    have⟨s1,s2⟩:=stop nS
    simp only[go_sem,ya,ym,CR,H3,show ¬(1000000000:Int)<=(t:Int) by lia,Ce,wrapN (n:=n-2) (by lia),sf,em,wrapN (n:=m) (by lia),Ix,wrapN ZW,NJ,wrapN (n:=pre.length+n) (by lia),ZV,wrapN (n:=pre.length+(n-2)) (by lia),cV 1 0 (show pre.length+(n-2)<M by lia),yd,AY,DR,wrapN ZX,show ((r*1000000000+u2:Nat):Int)<(m:Int) from tu.2 rL,S9,wrapN (n:=t-1) (by lia),sj,wrapN (n:=n-1) (by lia),fk,show (r:Int)+(v1:Int)=((r+v1:Nat):Int) from rfl,wrapN (n:=r+v1) (by lia),show (1000000000:Int)<=((r+v1:Nat):Int) by lia];exact⟨_,_,rfl,by simp,_,_,t-1,rfl,.inr ⟨rfl,rfl⟩,rfl,s1,F6,s2⟩
   .left
    simp only[go_sem,ya,ym,CR,H3,show ¬(1000000000:Int)<=(t:Int) by lia,Ce,wrapN (n:=n-2) (by lia),sf,em,wrapN (n:=m) (by lia),Ix,wrapN ZW,NJ,wrapN (n:=pre.length+n) (by lia),ZV,wrapN (n:=pre.length+(n-2)) (by lia),cV 1 0 (show pre.length+(n-2)<M by lia),yd,AY,DR,wrapN ZX,show ((r*1000000000+u2:Nat):Int)<(m:Int) from tu.2 rL,S9,wrapN (n:=t-1) (by lia),sj,wrapN (n:=n-1) (by lia),fk,show (r:Int)+(v1:Int)=((r+v1:Nat):Int) from rfl,wrapN (n:=r+v1) (by lia),show ¬(1000000000:Int)<=((r+v1:Nat):Int) by lia];refine⟨_,t-1,rfl,by lia,t-1,r+v1,?_,h1,by lia,F6,rfl⟩;rw[O1 (by simp only[go_sem,ya,yx,nG,oC,nC,nv,nn hw.pu,vQ]) (by simp only[go_sem,ya,yb,yx,eW hw.pu])];simp only[go_sem,ya]
 .right
  have mb:t<1000000000:=Nat.lt_of_not_le fun e=>AW (.inl e)
  have DK:=xf (show t<=999999999 from vT mb) (show v2<=999999999 from vT Xz);have X4:t*v2<=r*1000000000+u2:=ybF fun e=>AW (.inr e)
  have ay9:=hl.stop mb ht (.inr X4);obtain⟨m,hm⟩:∃m,t*v2=m:=⟨_,rfl⟩;have em:(t:Int)*(v2:Int)=(m:Int):=by rw[<-hm,xS]
  rw[hm] at X4 DK;have Ix:(r:Int)*1000000000=((r*1000000000:Nat):Int):=by lia
  have DR:((r*1000000000:Nat):Int)+(u2:Int)=((r*1000000000+u2:Nat):Int):=rfl
  simp only[go_sem,ya,ym,CR,H3,show ¬(1000000000:Int)<=(t:Int) by lia,Ce,wrapN (n:=n-2) (by lia),sf,em,wrapN (n:=m) (by lia),Ix,wrapN ZW,NJ,wrapN (n:=pre.length+n) (by lia),ZV,wrapN (n:=pre.length+(n-2)) (by lia),cV 1 0 (show pre.length+(n-2)<M by lia),yd,AY,DR,wrapN ZX,show ¬((r*1000000000+u2:Nat):Int)<(m:Int) from fun e=>Nat.not_lt_of_le X4 (tu.1 e)];exact⟨_,_,rfl,by simp,_,_,t,rfl,.inl ⟨rfl,rfl⟩,rfl,mb,hQ,ay9⟩
def aza(h:Has P L 301 BM){w:AV}{x:List Int}{f:Int}(hw:bA w vs){n v1 v2 u0 u1 u2 M:Nat}(hl:gR x vs n v1 v2 u0 u1 u2)(hM:M=pre.length+x.length+post.length)(NI:M<=50000000000):
  ∃t:Nat,iQ P L (D P L) (H3 qs (pre++x++post) f) 3 301 [.aq 1 0 M,w,aa pre.length]=Gp (aa t,H3 qs (pre++x++post) f,3)/\t<1000000000/\dv x/dv vs<=t/\t<=dv x/dv vs+1:=by
 have dF:=hl.n2;have r9:=hl.nb;have hlx:=hl.lx;have A0:below 3 w:=nn hw.pu;have HQ:=hl.Nr;have aBl:=hl.u0W;have RP:=hl.Ns;have jM:=hl.pos;have fk:=sU hw (i:=n-1) (by have:=hl.lv;lia)
 rw[hl.fj] at fk;have DT:=Al (l:=pre++x++post) (o:=pre.length+n) (by rw[pM];lia)
 rw[CV (by lia),hl.h0] at DT;have DU:=Al (l:=pre++x++post) (o:=pre.length+(n-1)) (by rw[pM];lia)
 rw[CV (by lia),hl.h1] at DU;have sj:(n:Int)-1=((n-1:Nat):Int):=by lia
 have NJ:(pre.length:Int)+(n:Int)=((pre.length+n:Nat):Int):=rfl;have pn1:((pre.length+n:Nat):Int)-1=((pre.length+(n-1):Nat):Int):=by lia
 obtain⟨m,hm⟩:∃m,m=u0*1000000000+u1:=⟨_,rfl⟩;have em:(u0:Int)*1000000000=((u0*1000000000:Nat):Int):=by lia
 have em2:((u0*1000000000:Nat):Int)+(u1:Int)=(m:Int):=by lia
 have fc:=xX m v1;have oL:=xJ m jM;have PS:=hl.first;rw[<-hm] at PS;have aGk:m/v1<=m:=Nat.div_le_self _ _;have oq:IntKind.wrap .i64 ((m:Int).tdiv (v1:Int))=((m/v1:Nat):Int):=by
  rw[xW (by lia),<-Int.natCast_ediv,wrapN (by lia)]
 have or':(m:Int).tmod (v1:Int)=((m%v1:Nat):Int):=by rw[xV (by lia),<-Int.natCast_emod]
 rw[xt] at fc;generalize m/v1=q0 at*
 generalize m%v1=r0 at*
 have kw:∃ex tm t,D P L BM.body ⟨fA 0 [.aq 1 0 M,w,aa pre.length],H3 qs (pre++x++post) f,3,3⟩=Gp (ex,⟨tm,H3 qs (pre++x++post) f,3,3⟩)/\(ex=.normal\/ex=.ret)/\ak tm 6=aa (t:Nat)/\t<1000000000/\dv x/dv vs<=t/\t<=dv x/dv vs+1:=by
  simp only[go_sem,ya,ym,BM,H3,hw.len,hl.lv,NJ,wrapN (n:=pre.length+n) (by lia),cV 1 0 (show pre.length+n<M by lia),yd,DT,em,wrapN (n:=u0*1000000000) (by lia),pn1,wrapN (n:=pre.length+(n-1)) (by lia),cV 1 0 (show pre.length+(n-1)<M by lia),DU,em2,wrapN (n:=m) (by lia),sj,wrapN (n:=n-1) (by lia),fk,eX _ _ _ (show (v1:Int)≠0 by lia),fH _ _ _ (show (v1:Int)≠0 by lia),oq,or'];generalize nV:D P L (.loop _ CR) _=qq;obtain⟨ex,s,rfl,tm,ct,t,rfl,zb,rfl,g1,g2,g3⟩:=bL nV (as8 (P:=P) (L:=L) (qs:=qs) (f:=f) hw hl hM NI q0) ⟨q0,r0,by
   rw[O1 (by simp only[go_sem,ya,yx,nG,oC,nC,nv,A0,vQ]) (by simp only[go_sem,ya,yb,yx,eW hw.pu])]
   simp only[go_sem,ya],by lia,by lia,PS,rfl⟩
  rcases zb with ⟨rfl,h9⟩ | ⟨rfl,h6⟩
  .simp only [go_sem,yx,H3,O1,nG,nC,nv,h9,and_self];exact⟨_,_,t,rfl,.inr rfl,rfl,g1,g2,g3⟩
  .simp only [go_sem];exact⟨_,_,t,rfl,.inr rfl,h6,g1,g2,g3⟩
 have⟨ex,tm,t,g1,g2,g3,g4,g5,g6⟩:=kw;exact⟨t,GN h g1 g2 (by show jA _ [RV.t 6]=_;rw[Xs,Wx,g3]),g4,g5,g6⟩
end
end
end VE
end
section
namespace VE
open Go (IntKind)
section
variable {p t v x z:Int}{post pre qs vs y:List Int}{n:Nat}
def aBm{bo:Int}(ht:0<=t/\t<1000000000)(hv:0<=v/\v<1000000000)(hb:0<=bo/\bo<1000000000):0<=t*v/\t*v<=999999998000000001/\0<=t*v+bo/\t*v+bo<=999999999000000000:=by
 have h1:=tK ht.1 hv.1;have h2:=ycb (show t<=999999999 by lia) (show v<=999999999 by lia) hv.1 (by decide)
 lia
def aBn(hx:0<=x/\x<1000000000)(hp:0<=p/\p<=999999999000000000):
  (x-p.tmod 1000000000<0->0<=x-p.tmod 1000000000+1000000000/\x-p.tmod 1000000000+1000000000<1000000000/\0<=p.tdiv 1000000000+1/\p.tdiv 1000000000+1<1000000000/\x-p.tmod 1000000000+1000000000+p=x+1000000000*(p.tdiv 1000000000+1))/\
  (¬x-p.tmod 1000000000<0->x-p.tmod 1000000000<1000000000/\0<=p.tdiv 1000000000/\p.tdiv 1000000000<1000000000/\x-p.tmod 1000000000+p=x+1000000000*p.tdiv 1000000000):=by grind
def Vs{l:List Int}(h:dg l){i:Nat}(hz:0<=z/\z<1000000000):dg (l.set i z):=PL h hz
def as9{b q bo Cf X Y S:Int}(h2:z+(q*v+bo)=x+b*Cf)(h3:Y+q*X=S+p*bo):(Y+p*(z-x))+q*(X+p*v)=S+p*b*Cf:=by grind
section
variable {P:aE}{L:Lib}
def ata{w:AV}{x:List Int}{f:Int}(hw:bA w vs){M m:Nat}(lv:vs.length=n)(hM:M=pre.length+(n+1)+post.length)(NI:M<=50000000000)(gv:dg vs)(ht:0<=t/\t<1000000000):
  c6 P L [8,9,10,11,12,13,14,15,16] G4 (fun k s=>∃(i:Nat) (bo:Int) (y:List Int),s=⟨[(8,.aq 0 0 1),(9,w),(10,aa n),(11,.aq 1 0 M),(12,.aq 2 0 m),(13,aa pre.length),(14,aa t),(15,aa bo),(16,aa i)],H3 qs (pre++y++post) f,3,0⟩/\i+k=n/\y.length=n+1/\dg y/\(0<=bo/\bo<1000000000)/\
    sv y+t*sv (vs.take i)=sv x+1000000000^i*bo) (fun ex s'=>∃tm bo y,s'=⟨tm,H3 qs (pre++y++post) f,3,0⟩/\ex=.exit 4/\ak tm 8=.aq 0 0 1/\ak tm 9=w/\ak tm 10=aa n/\ak tm 11=.aq 1 0 M/\ak tm 12=.aq 2 0 m/\ak tm 13=aa pre.length/\ak tm 14=aa t/\ak tm 15=aa bo/\y.length=n+1/\dg y/\(0<=bo/\bo<1000000000)/\
    sv y+t*sv vs=sv x+1000000000^n*bo):=by
 apply c9;rintro k s ⟨i,bo,y,rfl,hk,ly,gy,kE,aM⟩;by_cases hi:i<n
 .left
  have zF:=jn gv i;have so:=jn gy i;have ev:=sU hw (i:=i) (by lia);have ey:=Al (l:=pre++y++post) (o:=pre.length+i) (by rw[pM];lia)
  rw[CV (by lia)] at ey;have fg:=Pv (l:=vs) i;obtain⟨a,ha⟩:∃a,a=vs.getD i 0:=⟨_,rfl⟩;obtain⟨d,hd⟩:∃d,d=y.getD i 0:=⟨_,rfl⟩;rw[<-ha] at zF ev fg;rw[<-hd] at so ey;have⟨p1,p2,p3,p4⟩:=aBm ht zF kE;have⟨s1,s2⟩:=aBn so ⟨p3,p4⟩;have eS:(i:Int)+(pre.length:Int)=((pre.length+i:Nat):Int):=by lia
  have aR:=fun (hp:Hp) (ct:Nat) (z:Int)=>D2 (hp:=hp) (ct:=ct) (id:=1) (v:=z) (ex:=ydc) (l:=pre++y++post) (o:=pre.length+i) (by rw[pM];lia)
  have pR:=fun z=>PT (pre:=pre) (x:=y) (post:=post) (i:=i) z (by lia)
  have aU:=fun z=>Hh (l:=y) (i:=i) (x:=z) (by lia)
  rw[<-hd] at aU;obtain⟨pr,qg⟩:∃pr,pr=t*a+bo:=⟨_,rfl⟩;obtain⟨dm,fc⟩:∃dm,pr.tmod 1000000000=dm:=⟨_,rfl⟩;obtain⟨dq,Gb⟩:∃dq,pr.tdiv 1000000000=dq:=⟨_,rfl⟩;have aGl:0<=dm/\dm<1000000000:=by rw[<-fc,xV (by lia)];lia
  have aGm:0<=dq/\dq<1000000000:=by rw[<-Gb,xW (by lia)];lia
  rw[<-qg,fc,Gb] at s1 s2;have key:∀z Cf,z+(t*a+bo)=d+1000000000*Cf->sv (y.set i z)+t*sv (vs.take (i+1))=sv x+1000000000^(i+1)*Cf:=fun z Cf h=>by
   rw[aU,fg,yac];exact as9 h aM
  rw[<-qg] at key;by_cases fV:d-dm<0
  .have ⟨q1,q2,q3,q4,q5⟩:=s1 fV;have kk:=key _ _ q5;obtain⟨dr,kD⟩:∃dr,d-dm=dr:=⟨_,rfl⟩;rw[kD] at fV kk q1 q2
   simp only[go_sem,ya,ym,G4,H3,show (i:Int)<(n:Int) by lia,ev,wrap64 (n:=t*a) (by lia) (by lia),<-qg,wrap64 (n:=pr) (by lia) (by lia),eS,wrapN (n:=pre.length+i) (by lia),cV 1 0 (show pre.length+i<M by lia),yd,ey,fH _ _ _ (show (1000000000:Int)≠0 by decide),eX _ _ _ (show (1000000000:Int)≠0 by decide),fc,Gb,kD,wrap64 (n:=dr) (by lia) (by lia),wrap64 (n:=dq) (by lia) (by lia),fV,wrap64 (n:=dr+1000000000) (by lia) (by lia),wrap64 (n:=dq+1) (by lia) (by lia),aR,pR];refine⟨_,k-1,rfl,by lia,i+1,dq+1,y.set i (dr+1000000000),?_,by lia,by simp[ly],Vs gy ⟨q1,q2⟩,⟨q3,q4⟩,kk⟩;rw[wrap64 (by lia) (by lia)];simp only[go_sem,ya,yb,ax,aG hw.pu]<;>rfl
  .have ⟨q2,q3,q4,q5⟩:=s2 fV;have kk:=key _ _ q5;obtain⟨dr,kD⟩:∃dr,d-dm=dr:=⟨_,rfl⟩;rw[kD] at fV kk q2
   simp only[go_sem,ya,ym,G4,H3,show (i:Int)<(n:Int) by lia,ev,wrap64 (n:=t*a) (by lia) (by lia),<-qg,wrap64 (n:=pr) (by lia) (by lia),eS,wrapN (n:=pre.length+i) (by lia),cV 1 0 (show pre.length+i<M by lia),yd,ey,fH _ _ _ (show (1000000000:Int)≠0 by decide),eX _ _ _ (show (1000000000:Int)≠0 by decide),fc,Gb,kD,wrap64 (n:=dr) (by lia) (by lia),wrap64 (n:=dq) (by lia) (by lia),fV,aR,pR];refine⟨_,k-1,rfl,by lia,i+1,dq,y.set i dr,?_,by lia,by simp[ly],Vs gy ⟨by lia,q2⟩,⟨q3,q4⟩,kk⟩;rw[wrap64 (by lia) (by lia)];simp only[go_sem,ya,yb,ax,aG hw.pu]<;>rfl
 .right
  have:i=n:=by lia
  subst this;rw[yE (by lia)] at aM;simp only[go_sem,ya,G4,H3,show ¬(i:Int)<(i:Int) by lia];exact⟨_,_,rfl,by simp,_,bo,y,rfl,rfl,rfl,rfl,rfl,rfl,rfl,rfl,rfl,rfl,ly,gy,kE,aM⟩
def atb{b c c' X Y S:Int}(h2:z+b*c'=x+v+c)(h3:Y+p*c=S+X):(Y+p*(z-x))+p*b*c'=S+(X+p*v):=by grind
def atc{w:AV}{y0:List Int}{f:Int}(hw:bA w vs){M m:Nat}(lv:vs.length=n)(hM:M=pre.length+(n+1)+post.length)(NI:M<=50000000000)(gv:dg vs){top:Int}:
  c6 P L [8,9,10,11,12,13,14,19,20] KT (fun k s=>∃(i:Nat) (c:Int) (y:List Int),s=⟨[(8,.aq 0 0 1),(9,w),(10,aa n),(11,.aq 1 0 M),(12,.aq 2 0 m),(13,aa pre.length),(14,aa t),(19,aa c),(20,aa i)],H3 qs (pre++y++post) f,3,0⟩/\i+k=n/\y.length=n+1/\dg (y.take n)/\y.getD n 0=top/\(0<=c/\c<=1)/\
    sv y+1000000000^i*c=sv y0+sv (vs.take i)) (fun ex s'=>∃tm c y,s'=⟨tm,H3 qs (pre++y++post) f,3,0⟩/\ex=.exit 6/\ak tm 8=.aq 0 0 1/\ak tm 9=w/\ak tm 10=aa n/\ak tm 11=.aq 1 0 M/\ak tm 12=.aq 2 0 m/\ak tm 13=aa pre.length/\ak tm 14=aa t/\ak tm 19=aa c/\y.length=n+1/\dg (y.take n)/\y.getD n 0=top/\(0<=c/\c<=1)/\
    sv y+1000000000^n*c=sv y0+sv vs):=by
 apply c9;rintro k s ⟨i,c,y,rfl,hk,ly,gy,pT,hc,aM⟩;by_cases hi:i<n
 .left
  have zF:=jn gv i;have so:=jn gy i;have e0:(y.take n).getD i 0=y.getD i 0:=by
   simp[xc,hi]
  rw[e0] at so;have ev:=sU hw (i:=i) (by lia);have ey:=Al (l:=pre++y++post) (o:=pre.length+i) (by rw[pM];lia)
  rw[CV (by lia)] at ey;have fg:=Pv (l:=vs) i;obtain⟨a,ha⟩:∃a,a=vs.getD i 0:=⟨_,rfl⟩;obtain⟨d,hd⟩:∃d,d=y.getD i 0:=⟨_,rfl⟩;rw[<-ha] at zF ev fg;rw[<-hd] at so ey;have eS:(i:Int)+(pre.length:Int)=((pre.length+i:Nat):Int):=by lia
  have aU:=fun z=>Hh (l:=y) (i:=i) (x:=z) (by lia)
  rw[<-hd] at aU;have oL:(d+a+c).tmod 1000000000=(d+a+c)%1000000000:=xV (by lia);have hdiv:(d+a+c).tdiv 1000000000=(d+a+c)/1000000000:=xW (by lia);obtain⟨z,hz⟩:∃z,z=(d+a+c)%1000000000:=⟨_,rfl⟩;obtain⟨c',iv⟩:∃z,z=(d+a+c)/1000000000:=⟨_,rfl⟩;have YI:z+1000000000*c'=d+a+c:=by lia
  rw[<-hz] at oL;rw[<-iv] at hdiv;have aR:=fun (hp:Hp) (ct:Nat)=>D2 (hp:=hp) (ct:=ct) (id:=1) (v:=z) (ex:=ydc) (l:=pre++y++post) (o:=pre.length+i) (by rw[pM];lia)
  have pR:=PT (pre:=pre) (x:=y) (post:=post) (i:=i) z (by lia)
  simp only[go_sem,ya,ym,KT,H3,show (i:Int)<(n:Int) by lia,ev,eS,wrapN (n:=pre.length+i) (by lia),cV 1 0 (show pre.length+i<M by lia),yd,ey,wrap64 (n:=d+a) (by lia) (by lia),wrap64 (n:=d+a+c) (by lia) (by lia),fH _ _ _ (show (1000000000:Int)≠0 by decide),eX _ _ _ (show (1000000000:Int)≠0 by decide),oL,hdiv,wrap64 (n:=c') (by lia) (by lia),aR,pR];refine⟨_,k-1,rfl,by lia,i+1,c',y.set i z,?_,by lia,by simp[ly],?_,by rw[afi (by lia)];exact pT,⟨by lia,by lia⟩,?_⟩
  .rw [wrap64 (by lia) (by lia)];simp only[go_sem,ya,yb,ax,aG hw.pu]<;>rfl
  .rw [yaD];exact Vs gy ⟨by lia,by lia⟩
  .rw [aU,fg,yac];exact atb YI aM
 .right
  have:i=n:=by lia
  subst this;rw[yE (show vs.length<=i by lia)] at aM;simp only[go_sem,ya,KT,H3,show ¬(i:Int)<(i:Int) by lia];exact⟨_,_,rfl,by simp,_,c,y,rfl,rfl,rfl,rfl,rfl,rfl,rfl,rfl,rfl,rfl,ly,gy,pT,hc,aM⟩
def atd{A V t:Nat}(hV:0<V)(ly:y.length=n+1)(gy:dg (y.take n))(h:sv y=(A:Int)-t*V)(h1:A/V<=t)(h2:t<=A/V+1):
  (¬y.getD n 0<0->t=A/V/\sv y=((A%V:Nat):Int))/\(y.getD n 0<0->t=A/V+1/\sv y+V=((A%V:Nat):Int)):=by
 have fc:=xX A V;have hm:=xJ A hV;have fg:=Pv (l:=y) n;rw[yE (by lia),BD gy] at fg;have MC:=kW gy;have hp:(0:Int)<1000000000^n:=ycR (by decide);generalize y.getD n 0=top at*
 generalize A/V=Q at*
 have hq:t=Q\/t=Q+1:=by lia
 constructor
 .intro h0;have h3:0<=(1000000000:Int)^n*top:=tK (tv hp) (by lia);rcases hq with rfl | rfl
  .grind
  .grind
 .intro h0;have h3:(1000000000:Int)^n*top<=-(1000000000^n):=by
   have:=uF (show top<=-1 by lia) (tv hp)
   grind
  rcases hq with rfl | rfl
  .grind
  .grind
def adw(ly:y.length=n+1)(gy:dg (y.take n))(h0:0<=sv y)(h1:sv y<1000000000^n):y.getD n 0=0/\dg y/\sv y=dv y:=by
 have fg:=Pv (l:=y) n;rw[yE (by lia),BD gy] at fg;have MC:=kW gy;rw[yQ,xB (by lia)] at MC;have hp:(0:Int)<1000000000^n:=ycR (by decide);have Ho:((1000000000^n:Nat):Int)=(1000000000:Int)^n:=by simp
 have aF6:(dv (y.take n):Int)<1000000000^n:=by lia
 have ht:y.getD n 0=0:=by
  generalize y.getD n 0=top at*
  rcases yab top 0 with h | h | h
  .have:=uF (show top<=-1 by lia) (tv hp)
   grind
  .grind
  .have:=uF (show 1<=top by lia) (tv hp)
   grind
 have hg:dg y:=by
  have e:y=y.take n++[0]:=by
   have h1:y=y.take n++y.drop n:=(wj n y).symm;have h2:y.drop n=[0]:=by
    rw[yR (by lia),xd (by lia)]
    grind
   grind
  rw[e];exact iO.2 ⟨gy,mo.2 ⟨by decide,by decide⟩⟩
 exact⟨ht,hg,BD hg⟩
end
end
end VE
end
section
namespace VE
open Go (IntKind)
def ate{l:List Int}{i:Nat}(h:i<l.length):dv (l.drop i)=(l.getD i 0).toNat+1000000000*dv (l.drop (i+1)):=by
 rw[yR h]
 have:l[i]=l.getD i 0:=by simp_all
 rw[this];rfl
def UT(l:List Int)(i:Nat)(h:i<=l.length):dv l=dv (l.take i)+1000000000^i*dv (l.drop i):=by
 conv=>lhs;rw[<-wj i l]
 rw[ns,yQ,xB h]
def atf{sx sy sV:Int}{p:Int}{bo t:Int}{yn z:Int}{szy:Int}(h1:sy+t*sV=sx+p*bo)(h2:szy=sy+p*(z-yn))(h3:z=yn-bo):szy=sx-t*sV:=by grind
section
variable {P:aE}{L:Lib}
def atg(zg:Has P L 301 BM){w:AV}{vs:List Int}{f:Int}(hw:bA w vs)(gv:dg vs){n M m:Nat}(lv:vs.length=n)(dF:2<=n)(hnM:n<M)(NI:M<=20000000000)(hm:m=M-n)(fj:0<vs.getD (n-1) 0){U0:Nat}:
  c6 P L [8,9,10,11,12,13] KU (fun k st=>∃(j:Nat) (us qs:List Int),st=⟨[(8,.aq 0 0 1),(9,w),(10,aa n),(11,.aq 1 0 M),(12,.aq 2 0 m),(13,aa ((j:Int)-1))],H3 qs us f,3,0⟩/\j=k/\j<=m/\us.length=M/\qs.length=m/\dg us/\dg qs/\(∀i,i<j->qs.getD i 0=0)/\
    dv us+dv qs*dv vs=U0/\dv (us.drop j)<dv vs) (fun ex st'=>∃tm us qs,st'=⟨tm,H3 qs us f,3,0⟩/\ex=.exit 2/\ak tm 8=.aq 0 0 1/\ak tm 10=aa n/\ak tm 11=.aq 1 0 M/\ak tm 12=.aq 2 0 m/\us.length=M/\qs.length=m/\dg us/\dg qs/\
    dv us+dv qs*dv vs=U0/\dv us<dv vs):=by
 apply c9;rintro k st ⟨j,us,qs,rfl,rfl,hj,lu,lq,gu,gq,hz,aM,pT⟩
 cases j with
 | zero=>
  right
  simp only[go_sem,ya,KU,H3,show ¬(0:Int)<=((0:Nat):Int)-1 by lia];exact⟨_,_,rfl,by simp,_,us,qs,rfl,rfl,rfl,rfl,rfl,rfl,lu,lq,gu,gq,aM,by simpa using pT⟩
 | succ j=>
  left
  obtain⟨pre,eS⟩:∃p,p=us.take j:=⟨_,rfl⟩;obtain⟨x,hx⟩:∃p,p=(us.drop j).take (n+1):=⟨_,rfl⟩;obtain⟨post,fU⟩:∃p,p=us.drop (j+(n+1)):=⟨_,rfl⟩;have lp:pre.length=j:=by rw[eS,yQ];lia
  have lx:x.length=n+1:=by rw[hx,yQ,we];lia
  have lpo:M=pre.length+(n+1)+post.length:=by rw[lp,fU,we];lia
  have lI:us=pre++x++post:=by
   rw[eS,hx,fU,<-vM,xD,wj,wj]
  have gpo:dg post:=by
   have:=gu;rw[lI] at this;exact (iO.1 this).2
  have gpx:=by have:=gu;rw[lI] at this;exact (iO.1 this).1
  have gx:dg x:=(iO.1 gpx).2;have XC:dg pre:=(iO.1 gpx).1;have hA:=ate (l:=us) (i:=j) (by lia);have hgj:=jn gu j;have Zz:us.drop j=x++post:=by rw[fU,hx,<-vM,wj]
  have Cg:dv (us.drop j)=dv x+1000000000^(n+1)*dv post:=by rw[Zz,ns,lx]
  have Nv:=kW gv;rw[lv] at Nv;have aH:dv (us.drop j)<1000000000*dv vs:=by lia
  have hp0:dv post=0:=by
   rcases xq (dv post) with e | e
   .exact e
   .have h1:=yV (1000000000^(n+1)) e;rw[ym,xn] at h1;rw[xn] at Cg
    lia
  rw[hp0,xG,yX] at Cg;have NK:=fun (l:List Int) (hl:dg l) (i:Nat)=>jn hl i
  obtain⟨v1,fk⟩:∃v:Nat,vs.getD (n-1) 0=v:=⟨(vs.getD (n-1) 0).toNat,by have:=NK vs gv (n-1);lia⟩
  obtain⟨v2,sf⟩:∃v:Nat,vs.getD (n-2) 0=v:=⟨(vs.getD (n-2) 0).toNat,by have:=NK vs gv (n-2);lia⟩
  obtain⟨u0,DT⟩:∃v:Nat,x.getD n 0=v:=⟨(x.getD n 0).toNat,by have:=NK x gx n;lia⟩
  obtain⟨u1,DU⟩:∃v:Nat,x.getD (n-1) 0=v:=⟨(x.getD (n-1) 0).toNat,by have:=NK x gx (n-1);lia⟩
  obtain⟨u2,AY⟩:∃v:Nat,x.getD (n-2) 0=v:=⟨(x.getD (n-2) 0).toNat,by have:=NK x gx (n-2);lia⟩
  have hl:gR x vs n v1 v2 u0 u1 u2:=⟨dF,by lia,lx,lv,gx,gv,fk,sf,DT,DU,AY,by lia,by rw[<-Cg];exact aH⟩
  have RQ:=hl.digit;have zD:0<dv vs:=by lia
  have oL:=xJ (dv x) zD;have⟨t,e1,ht1,YX,ht3⟩:=aza (P:=P) (L:=L) zg hw hl (pre:=pre) (post:=post) (qs:=qs) (f:=f) (M:=M) (by lia) (by lia);rw[<-lI,lp] at e1;have ZB:dv us=dv pre+1000000000^j*dv x:=by
   have:=UT us j (by lia)
   rw[Cg,<-eS] at this;exact this
  have XD:∀y,dv (pre++y++post)=dv pre+1000000000^j*dv y:=fun y=>by
   rw[xD,ns,ns,hp0,xG,yX,lp]
  have kv:=aci (b:=0) ZB aM;have A0:below 3 w:=nn hw.pu;have aU:=Hh (l:=qs) (i:=j) (x:=((dv x/dv vs:Nat):Int)) (by lia);have gq':dg (qs.set j ((dv x/dv vs:Nat):Int)):=PL gq ⟨yau _,tu.2 RQ⟩;rw[hz j (by lia),Int.sub_zero,BD gq,BD gq'] at aU;have aU:dv (qs.set j ((dv x/dv vs:Nat):Int))=dv qs+1000000000^j*(dv x/dv vs):=by
   have Ho:((1000000000^j*(dv x/dv vs):Nat):Int)=(1000000000:Int)^j*((dv x/dv vs:Nat):Int):=by rw[xS];simp
   rw[<-Ho] at aU;exact yal (by rw[ybd,ybd,aU,yaV])
  have fin:∀(s':St) (x':List Int),bn [8,9,10,11,12,13] s'=⟨[(8,.aq 0 0 1),(9,w),(10,aa n),(11,.aq 1 0 M),(12,.aq 2 0 m),(13,aa ((j:Int)-1))],H3 (qs.set j ((dv x/dv vs:Nat):Int)) (pre++x'++post) f,3,0⟩->x'.length=n+1->dg x'->sv x'=((dv x%dv vs:Nat):Int)->
    ∃(j':Nat) (us qs:List Int),bn [8,9,10,11,12,13] s'=⟨[(8,.aq 0 0 1),(9,w),(10,aa n),(11,.aq 1 0 M),(12,.aq 2 0 m),(13,aa ((j':Int)-1))],H3 qs us f,3,0⟩/\j'=j/\j'<=m/\us.length=M/\qs.length=m/\dg us/\dg qs/\(∀i,i<j'->qs.getD i 0=0)/\dv us+dv qs*dv vs=U0/\dv (us.drop j')<dv vs:=fun s' x' hc ZA SU Ny=>by
   have aii:dv x'=dv x%dv vs:=by rw[BD SU] at Ny;exact yal Ny
   refine⟨j,_,_,hc,rfl,by lia,by rw[pM,ZA];lia,by simp[lq],iO.2 ⟨iO.2 ⟨XC,SU⟩,gpo⟩,gq',fun i hi=>by rw[afi (by lia)];exact hz i (by lia),?_,?_⟩
   .rw [XD,aii,aU];exact kv
   .rw [xD,List.drop_left' lp,ns,hp0,xG,yX,aii];exact oL
  have aij:=fun (z:Int) (hp:Hp) (ct:Nat)=>D2 (hp:=hp) (ct:=ct) (id:=2) (v:=z) (ex:=ydb) (l:=qs) (o:=j) (by lia)
  have svx:=BD gx;have svv:=BD gv;simp only[H3] at e1;simp only[go_sem,ya,KU,H3,show ((j+1:Nat):Int)-1=(j:Int) by lia,show (0:Int)<=(j:Int) by lia,agI,e1];generalize nV:D P L (.loop _ G4) _=qq;obtain⟨ex,s,rfl,tm,bo,y,rfl,rfl,t8,t9,t10,t11,t12,t13,t14,t15,ly,gy,kE,hv⟩:=bL nV (ata (P:=P) (L:=L) (x:=x) (pre:=pre) (post:=post) (qs:=qs) (f:=f) (m:=m) (M:=M) hw lv lpo (by lia) gv (t:=t) (by lia) n) ⟨0,0,x,by
   rw[lI,lp]
   simp only[go_sem,ya,yb,ax,aG hw.pu]<;>rfl,by lia,lx,gx,by lia,by simp[sv]⟩
  rw[lp] at t13;have hyn:=jn gy n;have ZZ:=Al (l:=pre++y++post) (o:=pre.length+n) (by rw[pM];lia)
  rw[CV (by lia),lp] at ZZ;obtain⟨z,Z0⟩:∃z,z=y.getD n 0-bo:=⟨_,rfl⟩;have Hv:=fun (hp:Hp) (ct:Nat)=>D2 (hp:=hp) (ct:=ct) (id:=1) (v:=z) (ex:=ydc) (l:=pre++y++post) (o:=j+n) (by rw[pM];lia)
  have pR:=PT (pre:=pre) (x:=y) (post:=post) (i:=n) z (by lia);rw[lp] at pR;rw[pR] at Hv;have nf:=Hh (l:=y) (i:=n) (x:=z) (by lia);have QJ:=atf hv nf Z0;have DS:(y.set n z).length=n+1:=by simp[ly]
  have F7:dg ((y.set n z).take n):=by
   have:(y.set n z).take n=y.take n:=by rw[yaD,yaA (by simp;lia)]
   rw[this];exact Er gy n
  rw[svx,svv] at QJ;have⟨s0,s1⟩:=atd zD DS F7 QJ YX ht3;have eg:(y.set n z).getD n 0=z:=aoB (by lia);rw[eg] at s0 s1;have Z1:=Al (l:=pre++y.set n z++post) (o:=pre.length+n) (by rw[pM];lia)
  rw[CV (by lia),lp,eg] at Z1;generalize y.set n z=y1 at*
  have hpn:((10^9:Int))=1000000000:=by decide
  by_cases fV:z<0
  .have ⟨f1,f2⟩:=s1 fV
   simp only[go_sem,ya,yb,ym,ax,aG hw.pu,t8,t9,t10,t11,t12,t13,t14,t15,show (j:Int)+(n:Int)=((j+n:Nat):Int) from rfl,wrapN (n:=j+n) (by lia),cV 1 0 (show j+n<M by lia),yd,ZZ,<-Z0,wrap64 (n:=z) (by lia) (by lia),Hv,Z1,fV];generalize FB:D P L (.loop _ KT) _=Zu;obtain⟨ex,s,rfl,nd,c,y2,rfl,rfl,t8,t9,t10,t11,t12,t13,t14,t19,Zw,SR,agV,hc,cW⟩:=bL FB (atc (P:=P) (L:=L) (y0:=y1) (pre:=pre) (post:=post) (qs:=qs) (f:=f) (m:=m) (M:=M) (t:=(t:Int)-1) (top:=z) hw lv lpo (by lia) gv n) ⟨0,0,y1,by
    rw[lp,wrap64 (n:=(t:Int)-1) (by lia) (by lia)]
    simp only[go_sem,ya,yb,ax,aG hw.pu]<;>rfl,by lia,DS,F7,eg,by lia,by simp[sv]⟩
   rw[lp] at t13;have aik:=Al (l:=pre++y2++post) (o:=pre.length+n) (by rw[pM];lia)
   rw[CV (by lia),lp,agV] at aik;have RO:=fun (hp:Hp) (ct:Nat)=>D2 (hp:=hp) (ct:=ct) (id:=1) (v:=z+c) (ex:=ydc) (l:=pre++y2++post) (o:=j+n) (by rw[pM];lia)
   have Qq:=PT (pre:=pre) (x:=y2) (post:=post) (i:=n) (z+c) (by lia);rw[lp] at Qq;rw[Qq] at RO;have B6:=Hh (l:=y2) (i:=n) (x:=z+c) (by lia);rw[agV,show z+c-z=c by lia,cW,svv,f2] at B6;have Nw:(y2.set n (z+c)).length=n+1:=by simp[Zw]
   have SS:dg ((y2.set n (z+c)).take n):=by
    have:(y2.set n (z+c)).take n=y2.take n:=by rw[yaD,yaA (by simp;lia)]
    rw[this];exact SR
   have Z2:((dv x%dv vs:Nat):Int)<1000000000^n:=by
    have Ho:((1000000000^n:Nat):Int)=(1000000000:Int)^n:=by simp
    rw[<-Ho];lia
   have⟨g1,g2,g3⟩:=adw Nw SS (by rw[B6];lia) (by rw[B6];exact Z2)
   generalize y2.set n (z+c)=y3 at*
   have ft:(t:Int)-1=((dv x/dv vs:Nat):Int):=by rw[f1];lia
   simp only[go_sem,ya,yb,ym,ax,aG hw.pu,t8,t9,t10,t11,t12,t13,t14,t19,show (j:Int)+(n:Int)=((j+n:Nat):Int) from rfl,wrapN (n:=j+n) (by lia),cV 1 0 (show j+n<M by lia),yd,aik,wrap64 (n:=z+c) (by lia) (by lia),RO,cV 2 0 (show j<m by lia),aij];rw[ft];refine⟨_,j,rfl,by lia,fin _ y3 ?_ Nw g2 B6⟩;rw[wrap64 (by lia) (by lia)];simp only[go_sem,ya,yb,ax,aG hw.pu]<;>rfl
  .have ⟨f1,f2⟩:=s0 fV;have Z2:((dv x%dv vs:Nat):Int)<1000000000^n:=by
    have Ho:((1000000000^n:Nat):Int)=(1000000000:Int)^n:=by simp
    rw[<-Ho];lia
   have⟨g1,g2,g3⟩:=adw DS F7 (by rw[f2];lia) (by rw[f2];exact Z2)
   simp only[go_sem,ya,yb,ym,ax,aG hw.pu,t8,t9,t10,t11,t12,t13,t14,t15,show (j:Int)+(n:Int)=((j+n:Nat):Int) from rfl,wrapN (n:=j+n) (by lia),cV 1 0 (show j+n<M by lia),yd,ZZ,<-Z0,wrap64 (n:=z) (by lia) (by lia),Hv,Z1,fV,cV 2 0 (show j<m by lia),aij];rw[f1];refine⟨_,j,rfl,by lia,fin _ y1 ?_ DS g2 f2⟩;rw[wrap64 (by lia) (by lia)];simp only[go_sem,ya,yb,ax,aG hw.pu]<;>rfl
end
end VE
end
section
namespace VE
open Go (IntKind)
section
variable {P:aE}{L:Lib}
def awP(h:Has P L 292 BL){n:Nat}(hn:n<1000000000):ab P L 292 [aa n,aa 9] (.str (jK 9 n)):=by
 have key:=gV P L [0,1,5] pJ
  (fun k st=>∃(m:Nat) (s:List Nat),st=⟨[(0,aa m),(1,aa 9),(5,.str s)],[],0,0⟩/\s.length+k=9/\m<10^k/\jK 9 n=jK k m++s)
  (fun ex st=>∃tm ct,st=⟨tm,[],ct,0⟩/\ex=.exit 0/\ak tm 5=.str (jK 9 n)) ?_
 .unfold ab;rw[aD h];simp only[go_sem,BL];generalize hq:D P L (.loop _ pJ) _=q;obtain⟨ex,st,rfl,tm,ct,rfl,rfl,h2⟩:=bL hq (key 9) ⟨n,[],by simp only[go_sem,ya,ax]<;>rfl,rfl,by lia,by simp⟩
  simp only[go_sem,ax,h2]
 .rintro k st ⟨m,s,rfl,hk,hm,hs⟩
  cases k with
  | zero=>
   right
   have Ci:m=0:=by simpa using hm
   subst Ci;simp only[go_sem,ya,pJ,show ¬(0:Int)<((0:Nat):Int) by lia,show ¬((s.length:Nat):Int)<9 by lia];refine⟨_,_,rfl,by simp,_,_,rfl,rfl,?_⟩;rw[hs];rfl
  | succ k=>
   left
   have hr:((m:Int)).tmod 10=((m%10:Nat):Int):=by rw[xV (by lia)];rfl
   have hq:((m:Int)).tdiv 10=((m/10:Nat):Int):=by rw[xW (by lia)];rfl
   have hd:=abj (r:=m%10) (by lia);have M0:m<10000000000:=yG hm (by simpa using xa (show 0<10 by decide) (show k+1<=10 by lia));have fin:∃s',D P L pJ ⟨[(0,aa m),(1,aa 9),(5,.str s)],[],0,0⟩=Gp (.normal,s')/\bn [0,1,5] s'=⟨[(0,aa (m/10:Nat)),(1,aa 9),(5,.str ([48+m%10]++s))],[],0,0⟩:=by
    by_cases hc:(0:Int)<m
    .simp only [go_sem,ya,yb,pJ,hc,fH _ _ _ (show (10:Int)≠0 by decide),eX _ _ _ (show (10:Int)≠0 by decide),hr,hq,wrapN (n:=m%10+1) (by lia),wrap64 (n:=((m/10:Nat):Int)) (by lia) (by lia),eY,dT,show ((m%10:Nat):Int)+1=((m%10+1:Nat):Int) from rfl,hd,iC (a:=[48+m%10]) (b:=s) (by simp;lia)]
     exact⟨_,rfl,by simp only[go_sem,ya,ax]⟩
    .simp only [go_sem,ya,yb,pJ,hc,show ((s.length:Nat):Int)<9 by lia,fH _ _ _ (show (10:Int)≠0 by decide),eX _ _ _ (show (10:Int)≠0 by decide),hr,hq,wrapN (n:=m%10+1) (by lia),wrap64 (n:=((m/10:Nat):Int)) (by lia) (by lia),eY,dT,show ((m%10:Nat):Int)+1=((m%10+1:Nat):Int) from rfl,hd,iC (a:=[48+m%10]) (b:=s) (by simp;lia)]
     exact⟨_,rfl,by simp only[go_sem,ya,ax]⟩
   have⟨s',f1,f2⟩:=fin;exact⟨s',k,f1,by lia,m/10,_,f2,by simp;lia,by rw[xn] at hm;lia,by rw[hs];simp[jK]⟩
end
end VE
end
section
namespace VE
open Go (IntKind)
def last_pos{l:List Int}(hd:dg l)(hn:nz l)(h:0<l.length):0<l.getD (l.length-1) 0:=by
 rcases snoc l with rfl | ⟨m,a,rfl⟩
 .grind
 .have e:(m++[a]).getD ((m++[a]).length-1) 0=a:=by simp_all
  have ha:=mo.1 (iO.1 hd).2;by_cases h0:a=0
  .subst h0
   have:=OC m
   have e:=congrArg List.length hn;rw[JT] at e
   grind
  .lia
section
variable {P:aE}{L:Lib}
def awQ(rH:Has P L 292 BL){neg:Bool}{w:AV}{l:List Int}(hw:bA w l)(hd:dg l)(hn:nz l)(hl:l.length<=20000000000):
  c6 P L [1,3,4] KR (fun k s=>∃(j:Nat) (t:List Nat),s=⟨[(1,.ptr 0 0),(3,.str t),(4,aa ((j:Int)-1))],[(0,.cells ydb ydb ydb 2 [.bool neg,w])],1,0⟩/\j=k/\j<l.length/\0<dv (l.drop j)/\t=aB (dv (l.drop j))/\t.length<=9*(l.length-j)) (fun ex s'=>∃tm,s'=⟨tm,[(0,.cells ydb ydb ydb 2 [.bool neg,w])],1,0⟩/\ex=.exit 0/\ak tm 1=.ptr 0 0/\ak tm 3=.str (aB (dv l))/\(aB (dv l)).length<=180000000000):=by
 apply c9;rintro k s ⟨j,t,rfl,rfl,hj,jM,ht,ZR⟩
 cases j with
 | zero=>
  right
  rw[yf] at ht;simp only[go_sem,ya,KR,show ¬(0:Int)<=((0:Nat):Int)-1 by lia];exact⟨_,_,rfl,by simp,_,rfl,rfl,rfl,by rw[<-ht];simp only[go_sem,ya],by rw[<-ht];lia⟩
 | succ i=>
  left
  have hi:i<l.length:=by lia
  obtain⟨x,hx⟩:∃x,x=l.getD i 0:=⟨_,rfl⟩;have e1:=sU hw hi;have gx:=jn hd i;rw[<-hx] at e1 gx;obtain⟨m,rfl⟩:∃m:Nat,x=m:=⟨x.toNat,by lia⟩;have e2:=awP rH (n:=m) (by lia);unfold ab at e2;have hlp:=UP 9 m;have kD:dv (l.drop i)=dv (l.drop (i+1))*10^9+m:=by
   have:l.drop i=(m:Int)::l.drop (i+1):=by
    rw[yR hi,hx];simp[xc,xv hi]
   rw[this];simp only[dv,xh];lia
  have aBo:aB (dv (l.drop i))=t++jK 9 m:=by
   rw[kD,OX 9 _ m jM (by lia),ht]
  simp only[go_sem,ya,KR,show ((i+1:Nat):Int)-1=(i:Int) by lia,show (0:Int)<=(i:Int) by lia,aY,yd,df,e1,e2,iC (a:=t) (b:=jK 9 m) (by lia)];refine⟨_,i,rfl,by lia,i,t++jK 9 m,?_,rfl,by lia,by lia,aBo.symm,by simp;lia⟩
  rw[wrap64 (by lia) (by lia)];simp only[go_sem,ya,yb,ax]<;>rfl
def X5(h:Has P L 282 L7)(rH:Has P L 292 BL){v:AV}{n:Int}{K:Nat}(hK:K<=18000000000)(hv:lB v n)(hn:n.natAbs<1000000000^K):ab P L 282 [v] (.str (aV n))/\(aV n).length<=180000000001:=by
 obtain⟨w,l,rfl,hw,hd,hz,sr⟩:=hv;have hl:=xo (kL hd hz (by rw[sr];exact hn)) hK
 by_cases h0:l=[]
 .subst h0;have AN:n=0:=by simp[dv] at sr;lia
  subst AN;refine⟨?_,by decide⟩;unfold ab;rw[aD h];simp only[go_sem,ya,yb,L7,aQ,hw.len,hw.pu,hw.one,aY,yd,df,yN,show ((0:Nat):Int)=(0:Int) from rfl,yI];rfl
 .have jM:0<l.length:=uZ.2 h0;obtain⟨x,hx⟩:∃x,x=l.getD (l.length-1) 0:=⟨_,rfl⟩;have e1:=sU hw (show l.length-1<l.length by lia);have gx:=jn hd (l.length-1);have gp:=last_pos hd hz jM;rw[<-hx] at e1 gx gp;obtain⟨m,rfl⟩:∃m:Nat,x=m:=⟨x.toNat,by lia⟩;have e2:=Xw rH (n:=m) (by lia);have kD:dv (l.drop (l.length-1))=m:=by
   rw[yR (show l.length-1<l.length by lia),xd (by lia)]
   have:l[l.length-1]=(m:Int):=by rw[hx];simp[xc,xv (show l.length-1<l.length by lia)]
   simp[dv,this]
  have h9:(aB m).length<=9:=zU (k:=8) (by lia);have fin:∀neg:Bool,bO P L (D P L) 282 [.agg [.bool neg,w]]=Gp (.str ((if neg=ydb then [45] else [])++aB (dv l)))/\(aB (dv l)).length<=180000000000:=fun neg=>by
   rw[aD h]
   simp only[go_sem,ya,yb,L7,aQ,hw.len,hw.pu,hw.one,aY,yd,df,show ¬(l.length:Int)=0 by lia,show (l.length:Int)-1=((l.length-1:Nat):Int) by lia,wrapN (n:=l.length-1) (by lia),e1,e2];generalize hq:D P L (.loop _ KR) _=q;obtain⟨ex,s,rfl,tm,rfl,rfl,t1,t3,hlen⟩:=bL hq (awQ (P:=P) (L:=L) rH (neg:=neg) hw hd hz (by lia) (l.length-1)) ⟨l.length-1,aB m,by
    rw[show (l.length:Int)-2=((l.length-1:Nat):Int)-1 by lia,wrap64 (by lia) (by lia)]
    simp only[go_sem,ya,yb,ax]<;>rfl,rfl,by lia,by rw[kD];lia,by rw[kD],by lia⟩
   refine⟨?_,hlen⟩
   cases neg with
   | true=>
    simp only[go_sem,ya,ax,t1,t3,aY,yd,iC (a:=[45]) (b:=aB (dv l)) (by simp;lia),xP]
   | false=>
    simp only[go_sem,ya,ax,t1,t3,aY,yd];rfl
  have⟨f1,f2⟩:=fin (decide (n<0));rw[sr] at f1 f2;simp only[vS] at f1;rw[pk] at f1;refine⟨f1,?_⟩;rw[<-pk]
  split<;>simp<;>lia
structure Rb(P:aE)(L:Lib):Prop where
 aBp:Has P L 262 LZ
 Dj:Has P L 272 L6
 ail:Has P L 274 Q1
 aim:Has P L 275 Q2
 aBq:Has P L 277 Fk
 aBr:Has P L 280 pQ
 ain:Has P L 281 Q4
 X6:Has P L 282 L7
 aio:Has P L 288 Q7
 ME:Has P L 289 As
 BP:Has P L 290 HF
 Xx:Has P L 291 L9
 rH:Has P L 292 BL
 mw:Has P L 293 Dd
 jL:Has P L 294 De
 X3:Has P L 295 Ma
 pX:Has P L 296 At
 aip:Has P L 298 Q8
 rK:Has P L 299 Df
 cM:Has P L 300 mV
 oM:Has P L 302 Au
structure Ras(P:aE)(L:Lib):Prop extends Rb P L where
 aiq:Has P L 264 L2
 aBs:Has P L 268 L4
 FI:Has P L 271 HC
 aBt:Has P L 276 rF
 MF:Has P L 278 Q3
 aBu:Has P L 279 HE
 R1:Has P L 297 Mb
structure Ra(P:aE)(L:Lib):Prop extends Ras P L where
 air:Has P L 267 L3
end
end VE
end
section
namespace VE
open Go (IntKind)
section
variable {v w:AV}{a b:List Int}
section
variable {P:aE}{L:Lib}
def ath{vs:List Int}{f:Int}(hv:bA v a)(hw:bA w vs){n:Nat}(la:a.length<=9000000000){A:Nat}:
  c6 P L [0,8,9,10,11] KS (fun k st=>∃us:List Int,st=⟨[(0,v),(8,.aq 0 0 1),(9,w),(10,aa n),(11,.aq 1 0 us.length)],[(1,.cells ydb ydb ydc 1 (us.map aa)),(0,.cells ydc ydb ydb 1 [aa f])],2,0⟩/\us.length+k=a.length+1/\dg us/\dv us=A) (fun ex st'=>∃tm us,st'=⟨tm,[(1,.cells ydb ydb ydc 1 (us.map aa)),(0,.cells ydc ydb ydb 1 [aa f])],2,0⟩/\ex=.exit 0/\ak tm 8=.aq 0 0 1/\ak tm 9=w/\ak tm 10=aa n/\ak tm 11=.aq 1 0 (a.length+1)/\us.length=a.length+1/\dg us/\dv us=A):=by
 apply c9;rintro k st ⟨us,rfl,hk,gu,aM⟩;have ea:((a.length:Nat):Int)+1=((a.length+1:Nat):Int):=rfl;by_cases hi:us.length<a.length+1
 .left
  simp only[go_sem,ya,yb,yi,ym,KS,hv.len,ea,wrapN (n:=a.length+1) (by lia),show ((us.length:Nat):Int)<((a.length+1:Nat):Int) by lia]
  rw[gG (ex:=ydc) (pu:=ydb) (cs:=us.map aa) rfl (by simp) (by lia) (by lia) (by decide) rfl];refine⟨_,k-1,rfl,by lia,us++[0],?_,by simp;lia,iO.2 ⟨gu,mo.2 (by decide)⟩,by rw[ns];simp[dv,aM]⟩
  rw[xg,yJ];simp only[go_sem,ya,yb,ax,aG hv.pu,aG hw.pu]<;>rfl
 .right
  have hl:us.length=a.length+1:=by lia
  rw[hl]
  simp only[go_sem,ya,KS,hv.len,ea,wrapN (n:=a.length+1) (by lia),show ¬((a.length+1:Nat):Int)<((a.length+1:Nat):Int) by lia];exact⟨_,_,rfl,by simp,_,us,rfl,rfl,rfl,rfl,rfl,rfl,hl,gu,aM⟩
end
def afj:∀l:List Int,cd (l.map aa)=ydb
 | []=>rfl
 | a::r=>by rw[xb,acd,afj r];rfl
def afk:∀l:List Int,aF (l.map aa)=ydb
 | []=>rfl
 | a::r=>by rw[xb,aF,afk r];rfl
def ati{hp:Hp}{ct:Nat}{e:Bool}{us:List Int}{o:Obj}(h:us.length<=100000000000):
  Fv ((1,.cells ydb ydb ydb 1 [])::(0,o)::hp) ct 1 8 (.aq 1 0 0) (nA ((1,.cells ydb ydb ydb 1 [])::(0,o)::hp) 1 (.ap e us.length (us.map aa)))=Gp (.aq ct 0 us.length,(ct,.cells ydb ydb ydc 1 (us.map aa))::cE ((1,.cells ydb ydb ydb 1 [])::(0,o)::hp) 1,ct+1):=by
 have h1:nA ((1,.cells ydb ydb ydb 1 [])::(0,o)::hp) 1 (.ap e us.length (us.map aa))=Gp (us.length,us.map aa):=by
  simp[nA]
 rw[h1,gG (cs:=[]) (pu:=ydb) (ex:=ydb) rfl (by simp) (by lia) (by lia) (by decide) (afj us),afk,yd];rfl
def awR{l:List Int}(hd:dg l)(hn:nz l)(h:0<l.length):1000000000^(l.length-1)<=dv l:=Qi hn hd (fun e=>by subst e;simp at h)
def aqN{n top f V:Nat}(hf:f=1000000000/(top+1))(ZY:0<top)(ht:top<1000000000)(h1:V<1000000000^(n-1)*(top+1))(hn:0<n):0<f/\f<1000000000/\V*f<1000000000^n:=by
 have h2:f*(top+1)<=1000000000:=by rw[hf];exact Nat.div_mul_le_self _ _
 have h3:0<f:=by rw[hf];exact ycP (by lia) (by lia)
 refine⟨h3,?_,?_⟩
 .have:=yV f (show 2<=top+1 by lia)
  lia
 .have e1:=wg h1 h3;have e2:=yV (1000000000^(n-1)) h2;rw[<-xn,show (n-1).succ=n by lia] at e2
  grind
section
variable {P:aE}{L:Lib}
def awS(h:Has P L 289 As)(mw:Has P L 293 Dd)(rK:Has P L 299 Df)(cM:Has P L 300 mV)(zg:Has P L 301 BM)(hv:bA v a)(hw:bA w b)(ha:dg a)(hb:dg b)(na:nz a)(nb:nz b)(la:a.length<=8000000000)(lb:2<=b.length)(ec:ab P L 296 [v,w] (aa (dY (dv a) (dv b))))(hc:dv b<=dv a):
  ∃q r lq lr,ab P L 289 [v,w] (.av [q,r])/\bA q lq/\bA r lr/\dg lq/\nz lq/\dg lr/\nz lr/\dv lq=dv a/dv b/\dv lr=dv a%dv b:=by
 have eJ:¬dY (dv a) (dv b)<0:=by unfold dY;rw[yr (by lia)];split<;>decide
 have azb:=awR hb nb (by lia);have hba:b.length<=a.length:=by
  have:=kW ha
  have h1:1000000000^(b.length-1)<1000000000^a.length:=by lia
  have:=(uh (show 1<1000000000 by decide)).1 h1
  lia
 obtain⟨n,hn⟩:∃n,n=b.length:=⟨_,rfl⟩;have aBv:=jn hb (n-1);have rD:=last_pos hb nb (by lia);rw[<-hn] at rD;obtain⟨top,pT⟩:∃v:Nat,b.getD (n-1) 0=v:=⟨(b.getD (n-1) 0).toNat,by lia⟩;have ais:=sU hw (i:=n-1) (by lia);rw[pT] at aBv rD ais;have hbt:=q8 (l:=b) (n-1);rw[show n-1+1=n by lia,yE (by lia),pT,xh] at hbt;have azc:=kW (Er hb (n-1));rw[yQ,xB (by lia)] at azc;obtain⟨f,hf⟩:∃f,f=1000000000/(top+1):=⟨_,rfl⟩;have⟨Gh,hfB,hfV⟩:=aqN (n:=n) (V:=dv b) hf (by lia) (by lia) (by rw[xK,ym];lia) (by lia)
 have hIf:bA (.ap ydb 1 [aa f]) [(f:Int)]:=jY ydb [(f:Int)];have gf:dg [(f:Int)]:=mo.2 (by lia);have vf:dv [(f:Int)]=f:=by simp[dv]
 have⟨v',vs,e1,eK,hsv,F9,Nz,A1⟩:=X2 mw cM hw hIf hb gf (by lia) (by simp);have⟨u',D4,e2,kG,qD,Iy,nus,NL⟩:=X2 mw cM hv hIf ha gf (by lia) (by simp);rw[vf] at A1 NL;have zD:0<dv b:=by have:=ybO (n:=b.length-1) (show 0<1000000000 by decide);lia
 have Ch:vs.length=n:=by
  have h1:vs.length<=n:=kL F9 Nz (by rw[A1];exact hfV)
  have h2:dv b<=dv vs:=by rw[A1];exact yaL _ Gh
  have h3:=kW F9;have h4:1000000000^(n-1)<1000000000^vs.length:=by rw[hn];lia
  have:=(uh (show 1<1000000000 by decide)).1 h4
  lia
 have SV:D4.length<=a.length+1:=by
  refine kL Iy nus ?_;rw[NL,xn];exact yak (kW ha) hfB
 have ait:0<D4.length:=by
  rcases xq D4.length with e | e
  .have h1:0<dv a*f:=wU (by lia) Gh;rw[yK e] at NL;simp only[dv] at NL;lia
  .exact e
 have fj:0<vs.getD (n-1) 0:=by
  have:=last_pos F9 Nz (by lia)
  rwa[Ch] at this
 obtain⟨m,hm⟩:∃m,m=a.length+1-n:=⟨_,rfl⟩;have cm:∀ct:Nat,BO ct 1 8 [.int .i64 0] (Gp m) (Gp m)=Gp (.aq ct 0 m,.cells ydb ydb ydb 1 ((yz m (0:Int)).map aa)):=fun ct=>by
  rw[Ld (sz:=1) (by lia) (by lia) (by rfl) (by rfl),TR];rfl
 obtain⟨e,rfl⟩:∃e,u'=.ap e D4.length (D4.map aa):=by
  rcases kG with ⟨rfl,h0⟩ | ⟨e,rfl⟩
  .rw [List.map_eq_nil_iff] at h0;rw[h0] at ait;simp at ait
  .exact ⟨e,by rw[yS]⟩
 have WA:∀us:List Int,us.length=a.length+1->dv us=dv a*f->dv (us.drop m)<dv vs:=fun us hl hd=>by
  have e1:=UT us m (by lia);have e2:=kW ha;have e3:=wg e2 Gh;have e4:1000000000^a.length=1000000000^m*1000000000^(n-1):=by rw[<-xH];congr 1;lia
  rw[<-hd,e4,xj] at e3;have e5:1000000000^m*dv (us.drop m)<1000000000^m*(1000000000^(n-1)*f):=by lia
  refine yG (Nat.lt_of_mul_lt_mul_left e5) ?_;rw[A1,hn];exact yO _ azb
 have kw:∃us qs,(us.length=a.length+1/\qs.length=m/\dg us/\dg qs/\dv us+dv qs*dv vs=dv a*f/\dv us<dv vs)/\
   ∃q1 r1 lr,bA q1 (et qs)/\bA r1 lr/\dg lr/\nz lr/\dv lr=dv (us.take n)/f/\ab P L 289 [v,w] (.av [q1,r1]):=by
  unfold ab at ec e1 e2;unfold ab;rw[aD h];have Mw:IntKind.wrap .i64 ((1000000000:Int).tdiv ((top+1:Nat):Int))=(f:Int):=by
   rw[xW (by decide),show (1000000000:Int)/((top+1:Nat):Int)=((1000000000/(top+1):Nat):Int) from rfl,<-hf,wrap64 (by lia) (by lia)]
  simp only[go_sem,ya,yb,yx,yi,ym,As,hv.aj,hw.len,hw.aj,ec,eJ,show ¬(n:Int)=1 by lia,<-hn,show (n:Int)-1=((n-1:Nat):Int) by lia,wrapN (n:=n-1) (by lia),ais,show ((top:Nat):Int)+1=((top+1:Nat):Int) from rfl,wrapN (n:=top+1) (by lia),eX _ _ _ (show ((top+1:Nat):Int)≠0 by lia),Mw,e1,hsv,eK.len,Ch,e2,qD,ati (us:=D4) (e:=e) (by lia)];generalize zE:D P L (.loop _ KS) _=q0;obtain⟨ex,st,rfl,tm,us,rfl,rfl,t8,t9,t10,t11,lu,gu,vu⟩:=bL zE (ath (P:=P) (L:=L) (f:=(f:Int)) (n:=n) (A:=dv a*f) hv eK (by lia) (a.length+1-D4.length)) ⟨D4,by
   simp only[go_sem,ya,yb,ax,aG hv.pu,aG eK.pu]<;>rfl,by lia,Iy,NL⟩
  have em:((a.length+1:Nat):Int)-(n:Int)=(m:Int):=by lia
  have em1:(m:Int)-1=((m-1:Nat):Int):=by lia
  simp only[go_sem,ya,yb,ax,aG eK.pu,t8,t9,t10,t11,em,wrapN (n:=m) (by lia),cm,em1,wrapN (n:=m-1) (by lia)];generalize gg:D P L (.loop _ KU) _=q1;obtain⟨ex,st,rfl,nd,D5,qs,rfl,rfl,t8,t10,t11,t12,lu1,NC,gu1,gq1,aM,aH⟩:=bL gg (atg (P:=P) (L:=L) zg (f:=(f:Int)) eK F9 Ch (by lia) (show n<a.length+1 by lia) (by lia) (by lia) fj (U0:=dv a*f) m) ⟨m,us,yz m 0,by
   rw[show ((m-1:Nat):Int)=(m:Int)-1 by lia]
   simp only[go_sem,ya,yb,ax,aG eK.pu]<;>rfl,rfl,yp _,lu,by simp,gu,ac7 m,fun i _=>abq m i,by rw[ac6,wC,yX,vu],WA us lu vu⟩
  have lO:∀(hp:Hp) tm (y:X),ai hp 1=Gp (.cells ydb ydb ydc 1 (D5.map aa))->cU tm (a.length+1) (Gp y)=Gp n->fC hp (.sl 1) (.aq 1 0 (a.length+1)) tm none (Gp y)=Gp (.aq 1 0 n):=fun hp tm y h1 h2=>adl h1 h2 (by lia) (by lia)
  obtain⟨e',NB⟩:∃e',∀hp:Hp,mW 0 n (Gp (ydc,1,D5.map aa,hp))=Gp (.ap e' n ((D5.take n).map aa),hp):=by
   refine⟨ydc&&yL 0 1&&yq n (D5.map aa).length,fun hp=>?_⟩;simp only[mW,yd,ym,slice,yf,<-List.map_take];rw[yv (by simp;lia)]
   rfl
  have ltk:(D5.take n).length=n:=by rw[yQ];lia
  have je:=jY e' (D5.take n);rw[ltk] at je;have⟨r0,f1,mA,aBw⟩:=Dk cM je (by lia);have⟨r1,lr,f2,dV,aGn,azd,dr,nr,vr⟩:=aih rK cM mA (Cy (Er gu1 n)) (by have:=OC (D5.take n);lia) Gh hfB
  have NA:=jY ydb qs;rw[NC] at NA;have⟨q1,f3,gg,aBx⟩:=Dk cM NA (by lia);rw[Bk] at vr;unfold ab at f1 f2 f3;refine⟨D5,qs,⟨lu1,NC,gu1,gq1,aM,aH⟩,q1,r1,lr,gg,dV,dr,nr,vr,?_⟩;have me:gH 1 0 (AV.aq 0 0 1)=Gp (.ptr 0 0):=cV 0 0 (show 0<1 by lia)
  simp only[go_sem,ya,yb,ax,t8,t10,t11,t12,lO,dT,NB,f1,aBw,mA.aj,me,f2,azd,fun hp=>mj (hp:=hp) (k:=m) (sz:=1) (cs:=qs.map aa) ydb (by simp[NC]) (by decide),f3,aBx];rcases gg with ⟨rfl,_⟩ | ⟨_,rfl⟩<;>rcases dV with ⟨rfl,_⟩ | ⟨_,rfl⟩<;>rfl
 have⟨us,qs,⟨lu,lq,gu,gq,aM,aH⟩,q1,r1,lr,gg,dV,dr,nr,vr,e⟩:=kw;rw[A1] at aM aH;have Mw:dv qs=dv a/dv b:=by
  rw[<-Nat.mul_div_mul_right _ _ Gh,<-aM,ybL,xt,tX (wU zD Gh),wb aH,yX]
 have SX:dv us=(dv a%dv b)*f:=by
  rw[<-Nat.mul_mod_mul_right,<-aM,ybL,xt (dv qs),tY,yT aH]
 have lI:=UT us n (by lia);have iK:dv (us.drop n)=0:=by
  rcases xq (dv (us.drop n)) with h0 | h0
  .exact h0
  .have:=yV (1000000000^n) h0
   lia
 rw[iK,xG,yX] at lI;rw[<-lI,SX,uU _ Gh] at vr;exact⟨q1,r1,_,lr,e,gg,dV,Cy gq,GM _,dr,nr,by rw[Bk,Mw],vr⟩
def agW(h:Has P L 289 As)(mw:Has P L 293 Dd)(pX:Has P L 296 At)(rK:Has P L 299 Df)(cM:Has P L 300 mV)(zg:Has P L 301 BM)(hv:bA v a)(hw:bA w b)(ha:dg a)(hb:dg b)(na:nz a)(nb:nz b)(la:a.length<=8000000000)(lb:b.length<=8000000000)(h0:0<dv b):
  ∃q r lq lr,ab P L 289 [v,w] (.av [q,r])/\bA q lq/\bA r lr/\dg lq/\nz lq/\dg lr/\nz lr/\dv lq=dv a/dv b/\dv lr=dv a%dv b:=by
 by_cases hl:b.length<=1
 .exact aBi h pX rK cM hv hw ha hb na nb (by lia) hl h0
 have ec:=X1 pX hv hw ha hb na nb (by lia) (by lia);by_cases hc:dv a<dv b
 .unfold ab at ec;have eJ:dY (dv a) (dv b)= -1:=by unfold dY;rw[yC hc]
  rw[eJ] at ec;refine⟨.ah,v,[],a,?_,po,hv,rfl,rfl,ha,na,?_,?_⟩
  .unfold ab;rw[aD h];simp only[go_sem,ya,As,hv.aj,hw.aj,ec,show (-1:Int)<0 by decide];rcases hv with ⟨rfl,_⟩ | ⟨e,rfl⟩<;>rfl
  .rw [wb hc];rfl
  .rw [yT hc]
 .exact awS h mw rK cM zg hv hw ha hb na nb la (by lia) ec (by lia)
def agX(h:Has P L 275 Q2)(ME:Has P L 289 As)(mw:Has P L 293 Dd)(pX:Has P L 296 At)(rK:Has P L 299 Df)(cM:Has P L 300 mV)(zg:Has P L 301 BM)(hv:bA v a)(hw:bA w b)(ha:dg a)(hb:dg b)(na:nz a)(nb:nz b)(la:a.length<=8000000000)(lb:b.length<=8000000000):
  ∃r l,ab P L 275 [v,w] r/\bA r l/\dg l/\nz l/\dv l=wM (dv a) (dv b):=by
 have key:=gV P L [0,1] KQ
  (fun k st=>∃x y lx ly,st=⟨[(0,x),(1,y)],[],0,0⟩/\bA x lx/\bA y ly/\dg lx/\nz lx/\dg ly/\nz ly/\lx.length<=8000000000/\ly.length<=8000000000/\dv ly=k/\wM (dv lx) (dv ly)=wM (dv a) (dv b))
  (fun ex st=>∃tm ct,st=⟨tm,[],ct,0⟩/\ex=.exit 0/\∃x lx,ak tm 0=x/\bA x lx/\dg lx/\nz lx/\dv lx=wM (dv a) (dv b)) ?_
 .unfold ab;rw[aD h];simp only[go_sem,Q2];generalize hq:D P L (.loop _ KQ) _=q;obtain⟨ex,st,rfl,tm,ct,rfl,rfl,x,lx,h2,hx,dx,nx,vx⟩:=bL hq (key (dv b)) ⟨v,w,a,b,by simp only[go_sem,ya,ax,aG hv.pu,aG hw.pu]<;>rfl,hv,hw,ha,na,hb,nb,la,lb,rfl,rfl⟩
  refine⟨x,lx,?_,hx,dx,nx,vx⟩;simp only[go_sem,ax,h2,hx.dR,aG hx.pu]
 .rintro k st ⟨x,y,lx,ly,rfl,hx,hy,dx,nx,dy,ny,llx,lly,rfl,hg⟩;by_cases h0:ly=[]
  .right
   subst h0;simp only[go_sem,ya,KQ,hy.len,yN,show ¬(0:Int)<((0:Nat):Int) by lia];refine⟨_,_,rfl,by simp,_,_,rfl,rfl,x,lx,rfl,hx,dx,nx,?_⟩;rw[<-hg];simp[dv]
  .left
   have hp:0<dv ly:=by
    rcases xq (dv ly) with e | e
    .exact absurd (aed ny dy e) h0
    .exact e
   have hl:0<ly.length:=uZ.2 h0;have⟨q,r,lq,lr,e1,hq,hr,dq,nq,dr,nr,vq,vr⟩:=agW ME mw pX rK cM zg hx hy dx dy nx ny llx lly hp;have aH:dv lr<dv ly:=by rw[vr];exact xJ _ hp
   have hB:=kW dy;simp only[go_sem,ya,KQ,hx.aj,hy.len,hy.aj,show (0:Int)<ly.length by lia,e1,hq.bI,hr.bI];refine⟨_,dv lr,rfl,aH,y,r,ly,lr,?_,hy,hr,dy,ny,dr,nr,by lia,xo (kL dr nr (vC aH hB)) lly,rfl,?_⟩
   .simp only [go_sem,ya,ax,aG hy.pu,aG hr.pu]<;>rfl
   .rw [<-hg,vr,tU (dv ly),<-Nat.gcd_rec,tU]
end
end
end VE
end
section
namespace VE
open Go (IntKind)
section
variable {P:aE}{L:Lib}
def awT(BP:Has P L 290 HF){neg:Bool}{N:Nat}(hN:(aB N).length<=180000000000):
  c6 P L [0,2,3,4] Bt (fun k s=>∃(i m:Nat) (out:List Int),m=k/\out.length=i/\dg out/\dv out+1000000000^i*m=N/\(aB m).length+9*i<=180000000000/\
    ((i=0/\s=⟨[(0,.str (aB m)),(2,.ptr 0 0),(3,.bool neg),(4,.ah)],[(0,.cells ydb ydb ydb 2 [.bool ydc,.ah])],1,0⟩)\/
    (0<i/\s=⟨[(0,.str (aB m)),(2,.ptr 0 0),(3,.bool neg),(4,.aq 1 0 i)],[(1,.cells ydb ydb ydc 1 (out.map aa)),(0,.cells ydb ydb ydb 2 [.bool ydc,.ah])],2,0⟩))) (fun ex s'=>∃tm i m out,ex=.exit 0/\m<1000000000/\out.length=i/\dg out/\dv out+1000000000^i*m=N/\i<20000000000/\ak tm 0=.str (aB m)/\ak tm 2=.ptr 0 0/\ak tm 3=.bool neg/\
    ((i=0/\ak tm 4=.ah/\s'=⟨tm,[(0,.cells ydb ydb ydb 2 [.bool ydc,.ah])],1,0⟩)\/(0<i/\ak tm 4=.aq 1 0 i/\s'=⟨tm,[(1,.cells ydb ydb ydc 1 (out.map aa)),(0,.cells ydb ydb ydb 2 [.bool ydc,.ah])],2,0⟩))):=by
 apply c9;rintro k s ⟨i,m,out,rfl,hlen,hd,aM,hl,hs⟩;by_cases hm:1000000000<=m
 .left
  obtain⟨q,hq⟩:∃q,q=m/1000000000:=⟨_,rfl⟩;obtain⟨r,hr⟩:∃r,r=m%1000000000:=⟨_,rfl⟩;have lO:=aqr hm;rw[<-hq,<-hr] at lO;have nR:=UP 9 r;have hqp:=CC q;have hlm:(aB m).length=(aB q).length+9:=by rw[lO,yJ,nR]
  have c1:js (aB m) (Gp (aB q).length) (Gp (aB m).length)=Gp (.str (jK 9 r)):=by
   rw[mK (by lia) (yp _),xL,lO,tJ]
  have c2:js (aB m) (Gp 0) (Gp (aB q).length)=Gp (.str (aB q)):=by
   rw[mK (by lia) (by lia),yf,lO,tI]
  have e1:=Mq BP (s:=jK 9 r) (v:=r) (by lia) (by rw[adj 9 r 0 (by lia)];simp)
  unfold ab at e1;have zf:dg (out++[(r:Int)]):=iO.2 ⟨hd,mo.2 (by lia)⟩;have Qr:dv (out++[(r:Int)])+1000000000^(i+1)*q=N:=by
   rw[ns,hlen,<-aM,xn];have e:=uk m 1000000000;rw[<-hr,<-hq] at e;rw[<-e];simp only[dv,xh,xG,yX,xK,xj]
   lia
  have QE:((aB m).length:Int)-9=((aB q).length:Int):=by lia
  rcases hs with ⟨h0,rfl⟩ | ⟨h0,rfl⟩
  .subst h0;have kA:out=[]:=yK hlen;subst kA
   simp only[go_sem,ya,yb,xp,yx,yi,ym,Bt,show (9:Int)<((aB m).length:Int) by lia,QE,wrapN (n:=(aB q).length) (by lia),eY,fm,dT,c1,c2,e1,iA];refine⟨_,q,rfl,by lia,1,q,[]++[(r:Int)],rfl,rfl,zf,Qr,by lia,.inr ⟨by lia,?_⟩⟩;rfl
  .simp only [go_sem,ya,yb,yi,ym,Bt,show (9:Int)<((aB m).length:Int) by lia,QE,wrapN (n:=(aB q).length) (by lia),eY,fm,dT,c1,e1]
   rw[gG (ex:=ydc) (pu:=ydb) (cs:=out.map aa) rfl (by rw[yS,hlen,ym]) (by lia) (by lia) (by decide) rfl]
   simp only[go_sem,ya,yb,eY,fm,dT,QE,wrapN (n:=(aB q).length) (by lia),c2];refine⟨_,q,rfl,by lia,i+1,q,out++[(r:Int)],rfl,by simp[hlen],zf,Qr,by lia,.inr ⟨by lia,?_⟩⟩;rw[xg];simp only[go_sem,ya,yb,ax]<;>rfl
 .right
  have h9:(aB m).length<=9:=zU (k:=8) (by lia);have hp0:=CC m;rcases hs with ⟨h0,rfl⟩ | ⟨h0,rfl⟩
  .simp only [go_sem,Bt,show ¬(9:Int)<((aB m).length:Int) by lia];exact⟨_,_,rfl,by simp,_,i,m,out,rfl,by lia,hlen,hd,aM,by lia,rfl,rfl,rfl,.inl ⟨h0,rfl,rfl⟩⟩
  .simp only [go_sem,Bt,show ¬(9:Int)<((aB m).length:Int) by lia];exact⟨_,_,rfl,by simp,_,i,m,out,rfl,by lia,hlen,hd,aM,by lia,rfl,rfl,rfl,.inr ⟨h0,rfl,rfl⟩⟩
end
end VE
end
section
namespace VE
open Go (IntKind)
section
variable {P:aE}{L:Lib}
def aiu(h:Rb P L){n:Int}(hn:(aB n.natAbs).length<=180000000000):∃r,ab P L 288 [.str (aV n)] r/\lB r n:=by
 obtain⟨u,hu⟩:∃u,u=aB n.natAbs:=⟨_,rfl⟩;have⟨b,t,hb,ej,cQ⟩:=GB n.natAbs;have hs:aV n=(if n<0 then [45] else [])++u:=by rw[hu,pk]
 have DQ:0<u.length:=by rw[hu];exact CC _
 have zA:u[0]=b:=by
  have:u=b::t:=by rw[hu,hb]
  simp[this]
 have key:∀(s:St),bn [0,2,3,4] s=⟨[(0,.str u),(2,.ptr 0 0),(3,.bool (decide (n<0))),(4,.ah)],[(0,.cells ydb ydb ydb 2 [.bool ydc,.ah])],1,0⟩->
   ∃ex s',D P L (.loop [0,2,3,4] Bt) s=Gp (ex,s')/\∃tm i m out,ex=.exit 0/\m<1000000000/\out.length=i/\dg out/\dv out+1000000000^i*m=n.natAbs/\i<20000000000/\ak tm 0=.str (aB m)/\ak tm 2=.ptr 0 0/\ak tm 3=.bool (decide (n<0))/\
    ((i=0/\ak tm 4=.ah/\s'=⟨tm,[(0,.cells ydb ydb ydb 2 [.bool ydc,.ah])],1,0⟩)\/(0<i/\ak tm 4=.aq 1 0 i/\s'=⟨tm,[(1,.cells ydb ydb ydc 1 (out.map aa)),(0,.cells ydb ydb ydb 2 [.bool ydc,.ah])],2,0⟩)):=fun s hc=>
  awT (P:=P) (L:=L) h.BP (neg:=decide (n<0)) hn n.natAbs s ⟨0,n.natAbs,[],rfl,rfl,rfl,by simp[dv],by lia,.inl ⟨rfl,by rw[hc,hu]⟩⟩
 have fin:∀(i m:Nat) (out:List Int),m<1000000000->out.length=i->dg out->dv out+1000000000^i*m=n.natAbs->i<20000000000->∃w l,bO P L (D P L) 294 [.bool (decide (n<0)),.ap ydc (i+1) ((out++[(m:Int)]).map aa)]=Gp (.agg [.bool (decide (n<0)),w])/\bA w l/\dg l/\nz l/\dv l=n.natAbs:=fun i m out h1 h2 h3 h4 h5=>by
  have hv:=jY ydc (out++[(m:Int)]);have hd:dg (out++[(m:Int)]):=iO.2 ⟨h3,mo.2 (by lia)⟩;have aM:dv (out++[(m:Int)])=n.natAbs:=by rw[ns,h2];simp[dv];exact h4
  have⟨r,e,hr⟩:=zd h.jL h.cM (decide (n<0)) hv hd (by simp;lia)
  have A2:cz (decide (n<0)) (dv (out++[(m:Int)]))=n:=by
   rw[aM];unfold cz;by_cases h0:n<0
   .simp only [h0,yI,xP];lia
   .simp only [h0,yM,yD,xz];lia
  rw[A2] at hr;obtain⟨w,l,rfl,hw,jU,lk,cW⟩:=hr;simp only[yJ,List.length_singleton,h2] at e;exact⟨w,l,e,hw,jU,lk,cW⟩
 unfold ab;rw[hs];by_cases h0:n<0
 .rw [yC h0,aD h.aio];have lz:js (45::u) (Gp 1) (Gp (u.length+1))=Gp (.str u):=by rw[mK (s:=45::u) (l:=1) (h:=u.length+1) (by lia) (by simp)];simp
  simp only[h0,yI] at key fin ⊢;simp only[go_sem,ya,yb,Q7,aQ,show (0:Int)<((u.length+1:Nat):Int) by lia,yj,yy,Fw,yI,eY,fm,dT,lz];generalize hq:D P L (.loop _ Bt) _=q;obtain⟨ex,s,rfl,tm,i,m,out,rfl,hm,hlen,hd,aM,hi,t0,t2,t3,E6⟩:=bL hq key (by simp only[go_sem,ya,yb,ax]<;>rfl)
  have e1:=Mq h.BP (s:=aB m) (v:=m) (by have:=zU (k:=8) (n:=m) (by lia);lia) (GA m)
  have cZ:i<20000000000:=hi;have⟨w,l,e2,hw,jU,lk,cW⟩:=fin i m out hm hlen hd aM cZ;refine⟨_,?_,w,l,rfl,hw,jU,lk,cW⟩;unfold ab at e1;rcases E6 with ⟨zG,t4,rfl⟩ | ⟨zG,t4,rfl⟩
  .subst zG;have kA:out=[]:=yK hlen;subst kA;have je:∀hp:Hp,mW 0 1 (Gp (ydc,1,[AV.int .i64 (m:Int)],hp))=Gp (.ap ydc 1 [AV.int .i64 (m:Int)],hp):=fun hp=>rfl
   simp only[yy,xb,vd,yd] at e2;simp only[go_sem,ya,yb,xp,yx,yi,ym,ax,t0,t2,t3,t4,e1,iA,je,e2,bw,hw.pu,hw.one,gK];rcases hw with ⟨rfl,_⟩ | ⟨e,rfl⟩<;>simp only[h0,yI]<;>rfl
  .simp only [go_sem,ya,yb,yi,ym,ax,t0,t2,t3,t4,e1]
   rw[gG (ex:=ydc) (pu:=ydb) (cs:=out.map aa) rfl (by rw[yS,hlen,ym]) (by lia) (by lia) (by decide) rfl];have je:∀hp:Hp,mW 0 (i+1) (Gp (ydc,1,out.map aa++[AV.int .i64 (m:Int)],hp))=Gp (.ap ydc (i+1) (out.map aa++[AV.int .i64 (m:Int)]),hp):=fun hp=>mj ydc (by simp[hlen]) (by decide)
   simp only[xg,xb,vd] at e2;simp only[go_sem,ya,yb,je,e2,bw,hw.pu,hw.one,gK,vL];rcases hw with ⟨rfl,_⟩ | ⟨e,rfl⟩<;>simp only[h0,yI]<;>rfl
 .rw [yr h0,aD h.aio,yy];simp only[h0,yM] at key fin ⊢;simp only[go_sem,ya,yb,Q7,aQ,show (0:Int)<(u.length:Int) by lia,sO DQ,zA,show ¬((b:Nat):Int)=45 by lia];generalize hq:D P L (.loop _ Bt) _=q;obtain⟨ex,s,rfl,tm,i,m,out,rfl,hm,hlen,hd,aM,hi,t0,t2,t3,E6⟩:=bL hq key (by simp only[go_sem,ya,yb,ax]<;>rfl)
  have e1:=Mq h.BP (s:=aB m) (v:=m) (by have:=zU (k:=8) (n:=m) (by lia);lia) (GA m)
  have cZ:i<20000000000:=hi;have⟨w,l,e2,hw,jU,lk,cW⟩:=fin i m out hm hlen hd aM cZ;refine⟨_,?_,w,l,rfl,hw,jU,lk,cW⟩;rcases E6 with ⟨zG,t4,rfl⟩ | ⟨zG,t4,rfl⟩
  .subst zG;have kA:out=[]:=yK hlen;subst kA;have je:∀hp:Hp,mW 0 1 (Gp (ydc,1,[AV.int .i64 (m:Int)],hp))=Gp (.ap ydc 1 [AV.int .i64 (m:Int)],hp):=fun hp=>rfl
   simp only[yy,xb,vd,yd] at e2;simp only[go_sem,ya,yb,xp,yx,yi,ym,ax,t0,t2,t3,t4,e1,iA,je,e2,bw,hw.pu,hw.one,gK];rcases hw with ⟨rfl,_⟩ | ⟨e,rfl⟩<;>simp only[h0,yM]<;>rfl
  .simp only [go_sem,ya,yb,yi,ym,ax,t0,t2,t3,t4,e1]
   rw[gG (ex:=ydc) (pu:=ydb) (cs:=out.map aa) rfl (by rw[yS,hlen,ym]) (by lia) (by lia) (by decide) rfl];have je:∀hp:Hp,mW 0 (i+1) (Gp (ydc,1,out.map aa++[AV.int .i64 (m:Int)],hp))=Gp (.ap ydc (i+1) (out.map aa++[AV.int .i64 (m:Int)]),hp):=fun hp=>mj ydc (by simp[hlen]) (by decide)
   simp only[xg,xb,vd] at e2;simp only[go_sem,ya,yb,je,e2,bw,hw.pu,hw.one,gK,vL];rcases hw with ⟨rfl,_⟩ | ⟨e,rfl⟩<;>simp only[h0,yM]<;>rfl
end
end VE
end
section
namespace VE
open Go (IntKind)
def N6(n:Int)(r:List Nat):bT (aV n++r)=(aV n).length+bT r:=by
 rw[<-pk]
 split
 .simp only [yj,yy,bT,yF];rw[yr (by decide),N1 r (J6 _)]
  lia
 .rw [yy];exact N1 r (J6 _)
def UU:∀{a b:List Nat},cK a b=ydb->a=b
 | [],[],_=>rfl
 | [],_::_,h=>by simp[cK] at h
 | _::_,[],h=>by simp[cK] at h
 | x::a,y::b,h=>by
  simp only[cK,ye] at h;rw[yg h.1,UU h.2]
def agY{n:Int}{d:Nat}(h:n≠0):cK (TT n d) [48]=ydc:=by
 cases hb:cK (TT n d) [48] with
 | false=>rfl
 | true=>
  have e:=UU hb;unfold TT at e;by_cases h0:n<0
  .rw [pC h0] at e;simp at e
  .obtain ⟨m,rfl⟩:∃m:Nat,n=m:=⟨n.toNat,by lia⟩;rw[nt] at e;have⟨b,r,bJ,_,_⟩:=GB m;rw[bJ] at e;simp only[yj,tW,List.append_eq_nil_iff] at e;have hv:=GA m;rw[bJ,e.1,e.2.1] at hv
   have:(Gp 0:Option Nat)=Gp m:=hv
   grind
section
variable {P:aE}{L:Lib}
def awU(h:Rb P L):∃r,ab P L 281 [aa 1] r/\lB r 1:=by
 have⟨r,e,hr⟩:=zd h.jL h.cM ydc (jY ydc [(1:Int)]) (by decide) (by decide);obtain⟨w,l,rfl,hw,hd,hz,hv⟩:=hr;refine⟨_,?_,w,l,rfl,hw,hd,hz,hv⟩;simp only[xb,vd,yF,yN,yd] at e;have je:∀hp:Hp,mW 0 1 (Gp (ydc,1,[AV.int .i64 1],hp))=Gp (.ap ydc 1 [AV.int .i64 1],hp):=fun hp=>rfl
 unfold ab at e ⊢;rw[aD h.ain];simp only[go_sem,ya,yb,xp,yx,yi,ym,Q4,aQ,Int.reduceLT,yM,PN,ax,z8,Int.reduceEq,yZ,yY,yI,fH _ _ _ (show (1000000000:Int)≠0 by decide),eX _ _ _ (show (1000000000:Int)≠0 by decide),show Int.tmod 1 1000000000=1 from rfl,show Int.tdiv 1 1000000000=0 from rfl,show IntKind.wrap .i64 0=0 from rfl,iA,je,e,hw.pu,hw.one,bw,gK];rcases hw with ⟨rfl,_⟩ | ⟨e,rfl⟩<;>rfl
def aiv(h:Rb P L){n:Int}{d:Nat}(hn:(aB n.natAbs).length<=144000000000)(hd:(aB d).length<=144000000000):
  ∃x y,ab P L 274 [.str (TT n d)] (.av [x,y])/\lB x n/\lB y d:=by
 have⟨x,e1,hx⟩:=aiu h (n:=n) (by lia);have hli:(aV n).length<=(aB n.natAbs).length+1:=by rw[<-pk];split<;>simp
 by_cases h1:d=1
 .subst h1;have⟨y,e2,hy⟩:=awU h;have hT:TT n 1=aV n:=by unfold TT;simp
  have hs:=N6 n [];rw[xU] at hs;have e3:=HO h.Dj (s:=aV n) (by lia);rw[hs] at e3;refine⟨x,y,?_,hx,hy⟩;obtain⟨xw,xl,rfl,eP,_,_,_⟩:=hx;obtain⟨yw,yl,rfl,eQ,_,_,_⟩:=hy;rw[hT];unfold ab at e1 e2 e3 ⊢;rw[aD h.ail];simp only[go_sem,ya,yb,Q1,aQ,e3,bT,yX,yI,e1,e2,bw,eP.pu,eP.one,eQ.pu,eQ.one,gK];rcases eP with ⟨rfl,_⟩ | ⟨e,rfl⟩<;>rcases eQ with ⟨rfl,_⟩ | ⟨e',rfl⟩<;>rfl
 .have ⟨y,e2,hy⟩:=aiu h (n:=(d:Int)) (by simp;lia)
  rw[nt] at e2;obtain⟨s,Ga⟩:∃s,s=TT n d:=⟨_,rfl⟩;have hT:s=aV n++47::aB d:=by rw[Ga];unfold TT;rw[yr h1]
  have hs:bT s=(aV n).length:=by rw[hT,N6];rfl
  have hlen:s.length=(aV n).length+(aB d).length+1:=by rw[hT];simp;lia
  have e3:=HO h.Dj (s:=s) (by lia);rw[hs] at e3;have c1:js s (Gp 0) (Gp (aV n).length)=Gp (.str (aV n)):=by
   rw[mK (by lia) (by lia),yf,hT,tI]
  have c2:js s (Gp ((aV n).length+1)) (Gp s.length)=Gp (.str (aB d)):=by
   rw[mK (by lia) (yp _),xL,hT,show aV n++47::aB d=(aV n++[47])++aB d by simp,show (aV n).length+1=(aV n++[47]).length by simp,tJ]
  refine⟨x,y,?_,hx,hy⟩;obtain⟨xw,xl,rfl,eP,_,_,_⟩:=hx;obtain⟨yw,yl,rfl,eQ,_,_,_⟩:=hy;rw[<-Ga];unfold ab at e1 e2 e3 ⊢;rw[aD h.ail]
  simp only[go_sem,ya,yb,Q1,aQ,e3,show ¬((aV n).length:Int)=(s.length:Int) by lia,eY,fm,dT,c1,wrapN (n:=(aV n).length+1) (by lia),show ((aV n).length:Int)+1=(((aV n).length+1:Nat):Int) from rfl,c2,e1,e2,bw,eP.pu,eP.one,eQ.pu,eQ.one,gK];rcases eP with ⟨rfl,_⟩ | ⟨e,rfl⟩<;>rcases eQ with ⟨rfl,_⟩ | ⟨e',rfl⟩<;>rfl
end
end VE
end
section
namespace VE
open Go (IntKind)
section
variable {d n:Int}{a b:List Int}
def PU{d:Nat}(h:n<0):TT n d=45::TT (-n) d:=by
 have e:aV (-n)=aB n.natAbs:=by
  rw[<-pk,yr (show ¬-n<0 by lia),yy,show (-n).natAbs=n.natAbs by lia]
 unfold TT;rw[pC h,e];rfl
def atj{d:Nat}(h:¬n<0):∃b u,TT n d=b::u/\48<=b:=by
 have⟨b,r,hb,h1,_⟩:=GB n.natAbs;refine⟨b,r++(if d=1 then [] else 47::aB d),?_,h1⟩;unfold TT;rw[<-pk,yr h,yy,hb];rfl
def Hi(a b:AV)(r:List AV):ie 2 ydb (a::b::r)=Gp (.agg [a,b]):=rfl
def atk(k:Nat):2^k<=1000000000^k:=ud (by decide) k
def Bd.r{k:Nat}{z:Int}(h:Bd k z):z.natAbs<1000000000^k:=yG h (atk k)
def LB(r:Rat):RT r=TT r.num r.den:=rfl
def aes(hd:0<d):RT (wL n d)=rG n d:=by
 have⟨h1,h2⟩:=Tp (a:=n) hd;rw[asT hd,LB,h1]
 congr 1
 exact yal (show ((wL n d).den:Int)=((dP n d).toNat:Int) by rw[h2];have:=Ke (a:=n) hd;unfold dP at this ⊢;lia)
structure Rm(P:aE)(L:Lib):Prop extends Rb P L where
 aBy:Has P L 263 dB
 R2:Has P L 273 Fj
 aBz:Has P L 284 Xj
 aBA:Has P L 285 Q5
 aBB:Has P L 286 Q6
 HT:Has P L 287 L8
 zg:Has P L 301 BM
structure Rl(P:aE)(L:Lib):Prop extends Rm P L where
 aBC:Has P L 269 L5
structure Rp(P:aE)(L:Lib):Prop extends Ras P L,Rm P L
structure Rn(P:aE)(L:Lib):Prop extends Ra P L,Rp P L
structure Rx(P:aE)(L:Lib):Prop extends Rn P L,Rl P L where
 X7:Has P L 266 Q0
 BW:Has P L 283 Fm
section
variable {P:aE}{L:Lib}
def agZ(h:Rm P L){v w:AV}(hv:bA v a)(hw:bA w b)(ha:dg a)(hb:dg b)(na:nz a)(nb:nz b)(la:a.length<=8000000000)(lb:b.length<=8000000000)(h0:0<dv b):
  ∃q r lq lr,ab P L 289 [v,w] (.av [q,r])/\bA q lq/\bA r lr/\dg lq/\nz lq/\dg lr/\nz lr/\dv lq=dv a/dv b/\dv lr=dv a%dv b:=
 agW h.ME h.mw h.pX h.rK h.cM h.zg hv hw ha hb na nb la lb h0
def awV(h:Rm P L){x y:AV}{K:Nat}(hK:K<=8000000000)(hx:bA x a)(ha:dg a)(na:nz a)(va:dv a=n.natAbs)(hy:bA y b)(hb:dg b)(nb:nz b)(vb:dv b=d.natAbs)(kn:Bd K n)(kd:Bd K d)(hd:0<d){tm:Env}(t2:ak tm 2=.ptr 0 0)(t3:ak tm 3=.ptr 1 0):
  gM [.t 4] (D P L (aC (aC pQ.body)) ⟨tm,[(1,.cells ydb ydb ydb 2 [.bool (decide (d<0)),y]),(0,.cells ydb ydb ydb 2 [.bool (decide (n<0)),x])],2,0⟩)=Gp (.str (RT (wL n d))):=by
 rw[aes hd];have la:=xo (kL ha na (by rw[va];exact kn.r)) hK
 have lb:=xo (kL hb nb (by rw[vb];exact kd.r)) hK
 have⟨g,lg,e1,hg,Z3,ng,vg⟩:=agX h.aim h.ME h.mw h.pX h.rK h.cM h.zg hx hy ha hb na nb la lb;rw[va,vb,show wM n.natAbs d.natAbs=vv n d from rfl] at vg;have Ca:=Pn (a:=n) hd;have aBD:vv n d<=d.natAbs:=Int.gcd_le_natAbs_right n (by lia);have lg1:lg.length<=8000000000:=xo (kL Z3 ng (by rw[vg];exact wo aBD kd.r)) hK
 have⟨p,p',lp,lp',e2,hp,an,dp,np,dp',np',vp,vp'⟩:=agZ h hx hg ha Z3 na ng la lg1 (by lia);have⟨q,q',lq,lq',e3,hq,bP,dq,nq,dq',nq',vq,vq'⟩:=agZ h hy hg hb Z3 nb ng lb lg1 (by lia);rw[va,vg] at vp;rw[vb,vg] at vq;have hrn:(dC n d).natAbs=n.natAbs/vv n d:=by unfold dC;rw[uY (Int.gcd_dvd_left n d)];rfl
 have fN:(dP n d).natAbs=d.natAbs/vv n d:=by unfold dP;rw[uY (Int.gcd_dvd_right n d)];rfl
 have hdp:=Ke (a:=n) hd;rw[<-hrn] at vp;rw[<-fN] at vq;have aGo:=awc n d;have A2:cz (decide (n<0)) (dv lp)=dC n d:=by
  rw[vp];unfold cz;by_cases h0:n<0
  .have:¬0<=dC n d:=fun h1=>by have:=tK (tv Ca) h1;lia
   simp only[h0,yI,xP];lia
  .have:¬dC n d<0:=fun h1=>by have:=Int.mul_neg_of_pos_of_neg Ca h1;lia
   simp only[h0,yM,yD,xz];lia
 have kn':Bd K (dC n d):=kn.le (adh n d);have YG:Bd K (dP n d):=kd.le (adi n d);have lp1:lp.length<=8000000000:=xo (kL dp np (by rw[vp];exact kn'.r)) hK
 have NC:lq.length<=8000000000:=xo (kL dq nq (by rw[vq];exact YG.r)) hK
 have⟨s,e4,hs⟩:=zd h.jL h.cM (decide (n<0)) hp dp (by lia);rw[A2] at hs;have⟨e5,l5⟩:=X5 (K:=K) h.X6 h.rH (by lia) hs kn'.r;have⟨u,e6,hu⟩:=zd h.jL h.cM ydc hq dq (by lia);have Cb:cz ydc (dv lq)=dP n d:=by rw[vq];unfold cz;simp only[yD,xz];lia
 rw[Cb] at hu;have⟨e7,l7⟩:=X5 (K:=K) h.X6 h.rH (by lia) hu YG.r;obtain⟨sw,sl,rfl,mE,_,_,_⟩:=hs;obtain⟨uw,ul,rfl,huw,_,_,_⟩:=hu;have aF7:0<lq.length:=by
  rcases xq lq.length with e | e
  .rw [yK e] at vq;simp[dv] at vq;lia
  .exact e
 by_cases S6:lq.length=1
 .obtain ⟨z,rfl⟩:∃z,lq=[z]:=by
   cases lq with
   | nil=>simp at S6
   | cons z r=>cases r with
    | nil=>exact⟨z,rfl⟩
    | cons y r=>simp at S6
  have NM:z=dP n d:=by simp[dv] at vq;lia
  have e8:=hq.bk (i:=0) (by simp);simp only[wI] at e8;by_cases h1:dP n d=1
  .have hT:rG n d=aV (dC n d):=by unfold rG;rw[yC h1]
   rw[hT];simp only[go_sem,ya,pQ,aC,t2,t3,hx.aj,hy.aj,aY,yd,df,show ¬d<0 by lia,yM,e1,hg.aj,hg.shut,e2,hp.aj,hp.bI,an.bI,e3,hq.len,hq.bI,bP.bI,e4,mE.aj,b6,bw,e5,yF,yN,show ((1:Nat):Int)=(1:Int) from rfl,yI,e8,NM,h1]
  .have hT:rG n d=(aV (dC n d)++[47])++aV (dP n d):=by unfold rG;rw[yr h1]
   rw[hT]
   simp only[go_sem,ya,pQ,aC,t2,t3,hx.aj,hy.aj,aY,yd,df,show ¬d<0 by lia,yM,e1,hg.aj,hg.shut,e2,hp.aj,hp.bI,an.bI,e3,hq.len,hq.aj,hq.bI,bP.bI,e4,mE.aj,b6,bw,e5,yF,yN,show ((1:Nat):Int)=(1:Int) from rfl,yI,e8,NM,h1,iC (a:=aV (dC n d)) (b:=[47]) (by simp;lia),e6,huw.aj,e7,iC (a:=aV (dC n d)++[47]) (b:=aV (dP n d)) (by simp;lia)]
 .have h1:¬dP n d=1:=fun h1=>S6 (by
   have h2:lq.length<=1:=aer dq nq (by rw[vq,h1];decide)
   lia)
  have hT:rG n d=(aV (dC n d)++[47])++aV (dP n d):=by unfold rG;rw[yr h1]
  rw[hT]
  simp only[go_sem,ya,pQ,aC,t2,t3,hx.aj,hy.aj,aY,yd,df,show ¬d<0 by lia,yM,e1,hg.aj,hg.shut,e2,hp.aj,hp.bI,an.bI,e3,hq.len,hq.aj,hq.bI,bP.bI,e4,mE.aj,b6,bw,e5,show ¬(lq.length:Int)=1 by lia,iC (a:=aV (dC n d)) (b:=[47]) (by simp;lia),e6,huw.aj,e7,iC (a:=aV (dC n d)++[47]) (b:=aV (dP n d)) (by simp;lia)]
def al8(n d:Int):wL (-n) (-d)=wL n d:=by rw[Rat.divInt_neg',yaq]
def WD(h:Rm P L){v w:AV}{K:Nat}(hK:K<=8000000000)(hv:lB v n)(hw:lB w d)(kn:Bd K n)(kd:Bd K d)(hd:d≠0):ab P L 280 [v,w] (.str (RT (wL n d))):=by
 have fin:∀{x y:AV} {a b:List Int} {n' d':Int},bA x a->dg a->nz a->dv a=n'.natAbs->bA y b->dg b->nz b->dv b=d'.natAbs->Bd K n'->Bd K d'->0<d'->wL n' d'=wL n d->∀tm,ak tm 2=.ptr 0 0->ak tm 3=.ptr 1 0->
   D P L (.seq (bD pQ.body) (bD (aC pQ.body))) ⟨[(0,v),(1,w)],[],0,0⟩=Gp (.normal,⟨tm,[(1,.cells ydb ydb ydb 2 [.bool (decide (d'<0)),y]),(0,.cells ydb ydb ydb 2 [.bool (decide (n'<0)),x])],2,0⟩)->ab P L 280 [v,w] (.str (RT (wL n d))):=fun {x y a b n' d'} hx ha na va hy hb nb vb kn kd hd hq tm t2 t3 e=>by
  unfold ab;rw[aD h.aBr];show gM [.t 4] (D P L (.seq (bD pQ.body) (.seq (bD (aC pQ.body)) (aC (aC pQ.body)))) ⟨[(0,v),(1,w)],[],0,0⟩)=_
  rw[En,e,jk,<-hq];exact awV h hK hx ha na va hy hb nb vb kn kd hd t2 t3
 have eK:=hv;have ZL:=hw;obtain⟨x,a,rfl,hx,ha,na,va⟩:=hv;obtain⟨y,b,rfl,hy,hb,nb,vb⟩:=hw;by_cases h0:d<0
 .have ⟨r,e1,hr⟩:=ahV (K:=K) h.aip h.jL h.cM (by lia) eK kn.r;have⟨s,e2,hs⟩:=ahV (K:=K) h.aip h.jL h.cM (by lia) ZL kd.r;obtain⟨x',a',rfl,oX,FU,na',va'⟩:=hr;obtain⟨y',b',rfl,Gg,bJ,nb',vb'⟩:=hs;simp only[h0,yI] at e2
  refine fin oX FU na' va' Gg bJ nb' vb' kn.neg kd.neg (by lia) (al8 n d) _ ?_ ?_ (by
   simp only[go_sem,ya,yb,pQ,bD,aC,aQ,hx.pu,hx.aj,hx.one,hy.pu,hy.aj,hy.one,oX.pu,oX.one,Gg.pu,Gg.one,aY,yd,h0,yI,Hi,b6,e1,e2,bw,gK]<;>rfl)<;>simp only[go_sem,ya]
 .refine fin hx ha na va hy hb nb vb kn kd (by lia) rfl _ ?_ ?_ (by simp only[go_sem,ya,yb,pQ,bD,aC,aQ,hx.pu,hx.one,hy.pu,hy.one,aY,yd,h0,yM]<;>rfl)<;>simp only[go_sem,ya]
end
end
end VE
end
section
namespace VE
open Go (IntKind)
section
variable {n:Int}{K:Nat}{a:Rat}
def aze(z:Int)(m:Nat)(h:z.natAbs=m):(z.tdiv 1000000000).natAbs=m/1000000000/\(if z.tmod 1000000000<0 then 0-z.tmod 1000000000 else z.tmod 1000000000)=((m%1000000000:Nat):Int)/\(z<0->z.tdiv 1000000000<=0)/\(0<=z->0<=z.tdiv 1000000000):=by
 rcases Int.lt_or_le z 0 with h0 | h0
 .obtain ⟨n,rfl⟩:∃n:Nat,z= -(n:Int):=⟨z.natAbs,by lia⟩;rw[Int.neg_tdiv,Int.neg_tmod,xW (by lia),xV (by lia)]
  grind
 .grind
section
variable {P:aE}{L:Lib}
def awW{neg:Bool}{N:Nat}(hN:N<=9223372036854775808):
  c6 P L [0,2,3,4] z8 (fun k s=>∃(i:Nat) (z:Int) (out:List Int),z.natAbs=k/\out.length=i/\dg out/\dv out+1000000000^i*z.natAbs=N/\(neg=ydb->z<=0)/\(neg=ydc->0<=z)/\i<=3/\
    ((i=0/\s=⟨[(0,aa z),(2,.ptr 0 0),(3,.ah),(4,.bool neg)],[(0,.cells ydb ydb ydb 2 [.bool ydc,.ah])],1,0⟩)\/
    (0<i/\s=⟨[(0,aa z),(2,.ptr 0 0),(3,.aq 1 0 i),(4,.bool neg)],[(1,.cells ydb ydb ydc 1 (out.map aa)),(0,.cells ydb ydb ydb 2 [.bool ydc,.ah])],2,0⟩))) (fun ex s'=>∃tm i out,ex=.exit 0/\out.length=i/\i<=3/\dg out/\dv out=N/\ak tm 2=.ptr 0 0/\ak tm 4=.bool neg/\
    ((i=0/\ak tm 3=.ah/\s'=⟨tm,[(0,.cells ydb ydb ydb 2 [.bool ydc,.ah])],1,0⟩)\/(0<i/\ak tm 3=.aq 1 0 i/\s'=⟨tm,[(1,.cells ydb ydb ydc 1 (out.map aa)),(0,.cells ydb ydb ydb 2 [.bool ydc,.ah])],2,0⟩))):=by
 apply c9;rintro k s ⟨i,z,out,rfl,hlen,hd,aM,lU,AN,hi3,hs⟩;by_cases hz:z=0
 .right
  subst hz;have hv:dv out=N:=by simpa using aM
  rcases hs with ⟨h0,rfl⟩ | ⟨h0,rfl⟩
  .simp only [go_sem,z8,yI,yY];exact⟨_,_,rfl,by simp,_,i,out,rfl,hlen,hi3,hd,hv,rfl,rfl,.inl ⟨h0,rfl,rfl⟩⟩
  .simp only [go_sem,z8,yI,yY];exact⟨_,_,rfl,by simp,_,i,out,rfl,hlen,hi3,hd,hv,rfl,rfl,.inr ⟨h0,rfl,rfl⟩⟩
 .left
  obtain⟨m,hm⟩:∃m,z.natAbs=m:=⟨_,rfl⟩;have Ci:0<m:=by lia
  rw[hm] at aM;have Gi:i<3:=by
   rcases vm i 3 with h | h
   .exact h
   .have e3:i=3:=by lia
    subst e3
    have:=yV (1000000000^3) Ci
    lia
  have hmN:m<=9223372036854775808:=by
   have:=ug m (ybO (n:=i) (show 0<1000000000 by decide))
   lia
  have⟨d1,d2,d3,d4⟩:=aze z m hm;have fc:=uk m 1000000000;have zf:dg (out++[((m%1000000000:Nat):Int)]):=iO.2 ⟨hd,mo.2 (by lia)⟩;have Qr:dv (out++[((m%1000000000:Nat):Int)])+1000000000^(i+1)*(m/1000000000)=N:=by
   rw[ns,hlen,<-aM,xn,xj];have e:1000000000^i*m=1000000000^i*(m%1000000000)+1000000000^i*(1000000000*(m/1000000000)):=by rw[<-xK,fc]
   rw[e];simp only[dv,xh,xG,yX]
   lia
  have AX:IntKind.wrap .i64 (z.tdiv 1000000000)=z.tdiv 1000000000:=wrap64 (by lia) (by lia);have ni: -9223372036854775808<=z.tmod 1000000000/\z.tmod 1000000000<1000000000:=by
   have h1:(z.tmod 1000000000).natAbs<1000000000:=by
    split at d2<;>lia
   lia
  have BE:(neg=ydb->z.tdiv 1000000000<=0)/\(neg=ydc->0<=z.tdiv 1000000000):=⟨fun h=>d3 (by have:=lU h;lia),fun h=>d4 (AN h)⟩
  have aH:(z.tdiv 1000000000).natAbs<m:=by rw[d1];lia
  obtain⟨z',dj⟩:∃z',z.tdiv 1000000000=z':=⟨_,rfl⟩;rw[dj] at d1 d3 d4 AX BE aH;have cW:dv (out++[((m%1000000000:Nat):Int)])+1000000000^(i+1)*z'.natAbs=N:=by rw[d1];exact Qr
  generalize m%1000000000=r at*
  by_cases fV:z.tmod 1000000000<0
  .rw [yC fV] at d2;rcases hs with ⟨h0,rfl⟩ | ⟨h0,rfl⟩
   .subst h0;have kA:out=[]:=yK hlen;subst kA
    simp only[go_sem,ya,yb,xp,yx,yi,ym,z8,yM,hz,yZ,fH _ _ _ (show (1000000000:Int)≠0 by decide),eX _ _ _ (show (1000000000:Int)≠0 by decide),fV,d2,wrapN (n:=r) (by lia),iA,dj,AX];refine⟨_,z'.natAbs,rfl,by lia,1,z',[]++[(r:Int)],rfl,rfl,zf,cW,BE.1,BE.2,by lia,.inr ⟨by lia,?_⟩⟩;simp only[go_sem,ya,yb,ax]<;>rfl
   .simp only [go_sem,ya,yb,yi,ym,z8,yM,hz,yZ,fH _ _ _ (show (1000000000:Int)≠0 by decide),fV,d2,wrapN (n:=r) (by lia)]
    rw[gG (ex:=ydc) (pu:=ydb) (cs:=out.map aa) rfl (by rw[yS,hlen,ym]) (by lia) (by lia) (by decide) rfl];simp only[go_sem,ya,yb,eX _ _ _ (show (1000000000:Int)≠0 by decide),dj,AX];refine⟨_,z'.natAbs,rfl,by lia,i+1,z',out++[(r:Int)],rfl,by simp[hlen],zf,cW,BE.1,BE.2,by lia,.inr ⟨by lia,?_⟩⟩;rw[xg];simp only[go_sem,ya,yb,ax]<;>rfl
  .rw [yr fV] at d2;rcases hs with ⟨h0,rfl⟩ | ⟨h0,rfl⟩
   .subst h0;have kA:out=[]:=yK hlen;subst kA;simp only[go_sem,ya,yb,xp,yx,yi,ym,z8,yM,hz,yZ,fH _ _ _ (show (1000000000:Int)≠0 by decide),eX _ _ _ (show (1000000000:Int)≠0 by decide),d2,show ¬((r:Nat):Int)<0 by lia,iA,dj,AX];refine⟨_,z'.natAbs,rfl,by lia,1,z',[]++[(r:Int)],rfl,rfl,zf,cW,BE.1,BE.2,by lia,.inr ⟨by lia,?_⟩⟩;simp only[go_sem,ya,yb,ax]<;>rfl
   .simp only [go_sem,ya,yb,yi,ym,z8,yM,hz,yZ,fH _ _ _ (show (1000000000:Int)≠0 by decide),d2,show ¬((r:Nat):Int)<0 by lia]
    rw[gG (ex:=ydc) (pu:=ydb) (cs:=out.map aa) rfl (by rw[yS,hlen,ym]) (by lia) (by lia) (by decide) rfl];simp only[go_sem,ya,yb,eX _ _ _ (show (1000000000:Int)≠0 by decide),dj,AX];refine⟨_,z'.natAbs,rfl,by lia,i+1,z',out++[(r:Int)],rfl,by simp[hlen],zf,cW,BE.1,BE.2,by lia,.inr ⟨by lia,?_⟩⟩;rw[xg];simp only[go_sem,ya,yb,ax]<;>rfl
def aet(h: -9223372036854775808<=n/\n<9223372036854775808):n.natAbs<=9223372036854775808:=by lia
def aeu(n:Int):cz (decide (n<0)) n.natAbs=n:=by
 unfold cz
 grind
def azf(h:Rm P L)(hn: -9223372036854775808<=n/\n<9223372036854775808):∃r,ab P L 281 [aa n] r/\lB r n:=by
 have key:=fun s=>awW (P:=P) (L:=L) (neg:=decide (n<0)) (aet hn) n.natAbs s
 unfold ab;rw[aD h.ain];simp only[go_sem,ya,yb,Q4,aQ];generalize hq:D P L (.loop _ z8) _=q;obtain⟨ex,s,rfl,tm,i,out,rfl,hlen,hi,hd,aM,t2,t4,E6⟩:=bL hq key (by
  refine⟨0,n,[],rfl,rfl,rfl,by simp[dv],fun h=>by simp at h;lia,fun h=>by simp at h;lia,by lia,.inl ⟨rfl,?_⟩⟩
  simp only[go_sem,ya,yb,ax]<;>rfl)
 rcases E6 with ⟨zG,t3,rfl⟩ | ⟨zG,t3,rfl⟩
 .subst zG;have kA:out=[]:=yK hlen;subst kA;have⟨r,e,hr⟩:=zd h.jL h.cM (decide (n<0)) (show bA .ah [] from po) hd (by simp);rw[aM,aeu] at hr;have bg:=hr;obtain⟨w,l,rfl,hw,_,_,_⟩:=bg;refine⟨_,?_,hr⟩;simp only[go_sem,ya,yb,ax,t2,t3,t4,e,hw.pu,hw.one,bw,gK];rcases hw with ⟨rfl,_⟩ | ⟨e,rfl⟩<;>rfl
 .have hI:=jY ydc out;rw[hlen] at hI;have⟨r,e,hr⟩:=zd h.jL h.cM (decide (n<0)) hI hd (by lia);rw[aM,aeu] at hr;have bg:=hr;obtain⟨w,l,rfl,hw,_,_,_⟩:=bg;refine⟨_,?_,hr⟩
  simp only[go_sem,ya,yb,ax,t2,t3,t4,fun hp=>mj (hp:=hp) (k:=i) (sz:=1) (cs:=out.map aa) ydc (by simp[hlen]) (by decide),e,hw.pu,hw.one,bw,gK];rcases hw with ⟨rfl,_⟩ | ⟨e,rfl⟩<;>rfl
def awX(n:Int):RT (n:Rat)=aV n:=by unfold RT;simp
def azg(h:Rm P L)(X8:Has P L 265 QZ)(hn: -9223372036854775808<=n/\n<9223372036854775808):ab P L 265 [aa n] (.str (RT (n:Rat))):=by
 have⟨r,e,hr⟩:=azf h hn;have⟨e2,_⟩:=X5 (K:=8) h.X6 h.rH (by lia) hr (by have:=aet hn;lia)
 rw[awX];obtain⟨w,l,rfl,hw,_,_,_⟩:=hr;unfold ab at e e2 ⊢;rw[aD X8];simp only[go_sem,ya,QZ,e,hw.aj,bw,b6,e2]
def Hj(h:Hq K a):(RT a).length<=2*K+3:=by
 have h1:=J7 h.1;have h2:=J7 h.2;rw[nt] at h2;unfold RT
 grind
def aev{z:Int}(h:Bd K z):(aB z.natAbs).length<=K+1:=by
 have:=J7 (z:=(z.natAbs:Int)) (k:=K) (by unfold Bd at h ⊢;lia)
 rwa[nt] at this
def LC(h:Rm P L)(ka:Hq K a)(hK:K<=8000000000):∃x y,ab P L 274 [.str (RT a)] (.av [x,y])/\lB x a.num/\lB y (a.den:Int):=by
 have h1:=aev ka.1;have h2:=aev ka.2
 exact aiv h.toRb (n:=a.num) (d:=a.den) (by lia) (by simpa using (by lia:(aB ((a.den:Int)).natAbs).length<=144000000000))
def ag0(h:Rm P L){d:Nat}(hl:(TT n d).length<=100000000000)(mF:n=0->d=1):ab P L 262 [.str (TT n d)] (aa (bW n)):=by
 unfold ab;rw[aD h.aBp];by_cases h0:n<0
 .have eI:=agY (n:=n) (d:=d) (by lia);rw[PU h0] at eI ⊢;simp only[go_sem,ya,LZ,nB,eI,show (0:Int)<(((TT (-n) d).length+1:Nat):Int) by lia,Fw,yI];unfold bW;rw[yC h0]
 .by_cases h1:n=0
  .subst h1
   have:=mF rfl
   subst this;rw[show TT 0 1=[48] by decide];simp only[go_sem,ya,LZ,nB,show cK [48] [48]=ydb from rfl];rfl
  .have eI:=agY (n:=n) (d:=d) h1;have⟨b,u,hb,ej⟩:=atj (d:=d) h0;rw[hb] at eI ⊢;simp only[go_sem,ya,LZ,nB,eI,show (0:Int)<((u.length+1:Nat):Int) by lia,show oD 0 (.str (b::u))=Gp (.int .u8 (b:Nat)) from rfl,show ¬((b:Nat):Int)=45 by lia];unfold bW;rw[yr h0,yr h1]
def alE(h:a.num=0):a.den=1:=by simp_all
def Qs(h:Rm P L)(ka:Hq K a)(hK:K<=8000000000):ab P L 262 [.str (RT a)] (aa (bW a.num)):=
 ag0 h (by have:=Hj ka;rw[LB] at this;lia) alE
def ag1(h:Rp P L)(ka:Hq K a)(hK:K<=8000000000):ab P L 268 [.str (RT a)] (.str (RT (-a))):=by
 have e:=Qs h.toRm ka hK;have hl:=Hj ka;have en:(-a).num= -a.num:=rfl;have ed:(-a).den=a.den:=rfl;rw[LB] at hl e ⊢;rw[LB,en,ed];generalize a.num=n at*
 generalize a.den=d at*
 unfold ab at e ⊢;rw[aD h.aBs];by_cases h0:n<0
 .have es:bW n= -1:=by unfold bW;rw[yC h0]
  rw[es,PU h0] at e;rw[PU h0] at hl ⊢;have hc:js (45::TT (-n) d) (Gp 1) (Gp ((TT (-n) d).length+1))=Gp (.str (TT (-n) d)):=by rw[mK (s:=45::TT (-n) d) (l:=1) (h:=(TT (-n) d).length+1) (by lia) (by simp)];simp
  simp only[go_sem,ya,L4,e,show (-1:Int)<0 by decide,eY,fm,dT,hc]
 .by_cases h1:n=0
  .subst h1;have es:bW 0=0:=rfl;rw[es] at e;simp only[go_sem,ya,L4,e,show ¬(0:Int)<0 by decide,yI,Int.neg_zero]
  .have es:bW n=1:=by unfold bW;rw[yr h0,yr h1]
   rw[es] at e
   have:TT (-n) d=45::TT n d:=by rw[PU (by lia),yaq]
   rw[this]
   simp only[go_sem,ya,L4,e,show ¬(1:Int)<0 by decide,show ¬(1:Int)=0 by decide,iC (a:=[45]) (b:=TT n d) (by simp;lia),yj,yy]
end
end
end VE
end
section
namespace VE
open Go (IntKind)
section
variable {K M:Nat}{a b:Rat}
def aew(n:Int)(d:Nat):VO ydb n d=.av [aa n,aa d,.bool ydb]:=rfl
def LD{a b:Int}(ha:a.natAbs<1000000000)(hb:b.natAbs<1000000000):(a*b).natAbs<1000000000000000000:=by
 rw[Int.natAbs_mul];exact yG (yak ha hb) (by decide)
section
variable {P:aE}{L:Lib}
def WE(h:Rm P L){a b:Int}(ha: -4000000000000000000<=a/\a<=4000000000000000000)(hb:0<b/\b<=4000000000000000000):ab P L 277 [aa a,aa b] (.str (RT (wL a b))):=by
 rw[aes hb.1];exact aAr h.aBq h.Xx h.rH ha hb
def Qt(h:Rp P L)(ka:Hq K a)(hK:K<=8000000000):∃q:Bool,ab P L 276 [.str (RT a)] (VO q a.num a.den)/\(q=ydb->a.num.natAbs<1000000000/\a.den<1000000000):=
 aAs h.aBt h.Dj h.BP (n:=a.num) (d:=a.den) (by have:=Hj ka;rw[LB] at this;lia)
def Hr(h:Rn P L)(ka:Hq K a)(kb:Hq M b)(hK:K+M<=8000000000):ab P L 267 [.str (RT a),.str (RT b)] (.str (RT (a*b))):=by
 have⟨q1,e1,b1⟩:=Qt h.toRp ka (by lia);have⟨q2,e2,b2⟩:=Qt h.toRp kb (by lia);have aBE:=Gs a b;by_cases hq:(q1=ydb/\q2=ydb)
 .obtain ⟨rfl,rfl⟩:=hq;have⟨b11,b12⟩:=b1 rfl;have⟨b21,b22⟩:=b2 rfl;have p1:=LD b11 b21;have p2:=LD (a:=(a.den:Int)) (b:=(b.den:Int)) (by lia) (by lia);have e3:=WE h.toRm (a:=a.num*b.num) (b:=(a.den:Int)*b.den) (by lia) (by lia);rw[<-mul_eq] at e3;rw[aew] at e1 e2;unfold ab at e1 e2 e3 ⊢;rw[aD h.air]
  simp only[go_sem,ya,L3,e1,e2,wrap64 (n:=a.num*b.num) (by lia) (by lia),wrap64 (n:=(a.den:Int)*(b.den:Int)) (by lia) (by lia),e3]
 .have bP:∃n1 d1 n2 d2,bO P L (D P L) 276 [.str (RT a)]=Gp (.av [aa n1,aa d1,.bool q1])/\bO P L (D P L) 276 [.str (RT b)]=Gp (.av [aa n2,aa d2,.bool q2]):=by
   cases q1<;>cases q2<;>exact⟨_,_,_,_,e1,e2⟩
  have⟨n1,d1,n2,d2,e1,e2⟩:=bP;have⟨x,y,e3,hx,hy⟩:=LC h.toRm ka (by lia);have⟨z,w,e4,hz,hw⟩:=LC h.toRm kb (by lia);have HU:max K M<=8000000000:=by lia
  have⟨r,e5,hr⟩:=MD (K:=max K M) h.MF h.mw h.jL h.cM HU hx hz (ka.1.mono (by lia)).r (kb.1.mono (by lia)).r;have⟨s,e6,hs⟩:=MD (K:=max K M) h.MF h.mw h.jL h.cM HU hy hw (ka.2.mono (by lia)).r (kb.2.mono (by lia)).r;have e7:=WD h.toRm hK hr hs (ka.1.mul kb.1) (ka.2.mul kb.2) (by lia);rw[<-mul_eq] at e7;obtain⟨xw,xl,rfl,eP,_,_,_⟩:=hx;obtain⟨yw,yl,rfl,eQ,_,_,_⟩:=hy;obtain⟨zw,zl,rfl,qM,_,_,_⟩:=hz;obtain⟨ww,wl,rfl,qO,_,_,_⟩:=hw;obtain⟨bZ,rl,rfl,oQ,_,_,_⟩:=hr;obtain⟨sw,sl,rfl,mE,_,_,_⟩:=hs;have hb:¬(q1=ydb/\q2=ydb):=hq;unfold ab at e3 e4 e5 e6 e7 ⊢;rw[aD h.air]
  cases q1 with
  | false=>
   simp only[go_sem,ya,yb,L3,aQ,e1,e2,e3,e4,eP.pu,eP.aj,eP.one,eQ.pu,eQ.aj,eQ.one,qM.pu,qM.aj,qM.one,qO.pu,qO.aj,qO.one,oQ.aj,mE.aj,b6,bw,Cw,gK,Hi,e5,e6,e7]
  | true=>
   cases q2 with
   | true=>exact absurd ⟨rfl,rfl⟩ hb
   | false=>
    simp only[go_sem,ya,yb,L3,aQ,e1,e2,e3,e4,eP.pu,eP.aj,eP.one,eQ.pu,eQ.aj,eQ.one,qM.pu,qM.aj,qM.one,qO.pu,qO.aj,qO.one,oQ.aj,mE.aj,b6,bw,Cw,gK,Hi,e5,e6,e7]
def LF(h:Rp P L)(ka:Hq K a)(kb:Hq M b)(hK:K+M+1<=8000000000):ab P L 264 [.str (RT a),.str (RT b)] (.str (RT (a+b))):=by
 have⟨q1,e1,b1⟩:=Qt h ka (by lia);have⟨q2,e2,b2⟩:=Qt h kb (by lia);have aBE:=Gs a b;by_cases hq:(q1=ydb/\q2=ydb)
 .obtain ⟨rfl,rfl⟩:=hq;have⟨b11,b12⟩:=b1 rfl;have⟨b21,b22⟩:=b2 rfl;have p1:=LD (a:=a.num) (b:=(b.den:Int)) (by lia) (by lia);have p2:=LD (a:=b.num) (b:=(a.den:Int)) (by lia) (by lia);have p3:=LD (a:=(a.den:Int)) (b:=(b.den:Int)) (by lia) (by lia);have e3:=WE h.toRm (a:=a.num*b.den+b.num*a.den) (b:=(a.den:Int)*b.den) (by lia) (by lia);rw[<-add_eq] at e3;rw[aew] at e1 e2;unfold ab at e1 e2 e3 ⊢;rw[aD h.aiq]
  simp only[go_sem,ya,L2,e1,e2,wrap64 (n:=a.num*(b.den:Int)) (by lia) (by lia),wrap64 (n:=b.num*(a.den:Int)) (by lia) (by lia),wrap64 (n:=a.num*(b.den:Int)+b.num*(a.den:Int)) (by lia) (by lia),wrap64 (n:=(a.den:Int)*(b.den:Int)) (by lia) (by lia),e3]
 .have bP:∃n1 d1 n2 d2,bO P L (D P L) 276 [.str (RT a)]=Gp (.av [aa n1,aa d1,.bool q1])/\bO P L (D P L) 276 [.str (RT b)]=Gp (.av [aa n2,aa d2,.bool q2]):=by
   cases q1<;>cases q2<;>exact⟨_,_,_,_,e1,e2⟩
  have⟨n1,d1,n2,d2,e1,e2⟩:=bP;have⟨x,y,e3,hx,hy⟩:=LC h.toRm ka (by lia);have⟨z,w,e4,hz,hw⟩:=LC h.toRm kb (by lia);have HU:max K M<=8000000000:=by lia
  have⟨r,e5,hr⟩:=MD (K:=max K M) h.MF h.mw h.jL h.cM HU hx hw (ka.1.mono (by lia)).r (kb.2.mono (by lia)).r;have⟨r2,Z4,nS⟩:=MD (K:=max K M) h.MF h.mw h.jL h.cM HU hz hy (kb.1.mono (by lia)).r (ka.2.mono (by lia)).r;have⟨s,e6,hs⟩:=MD (K:=max K M) h.MF h.mw h.jL h.cM HU hy hw (ka.2.mono (by lia)).r (kb.2.mono (by lia)).r;have k1:Bd (K+M) (a.num*b.den):=ka.1.mul kb.2;have k2:Bd (K+M) (b.num*a.den):=(kb.1.mul ka.2).mono (by lia);have⟨t,e8,ht⟩:=aBh (K:=K+M) h.aBu h.X3 h.pX h.R1 h.oM h.jL h.cM (by lia) hr nS k1.r k2.r;have e7:=WD h.toRm hK ht hs (k1.XL k2) ((ka.2.mul kb.2).mono (by lia)) (by lia);rw[<-add_eq] at e7;obtain⟨xw,xl,rfl,eP,_,_,_⟩:=hx;obtain⟨yw,yl,rfl,eQ,_,_,_⟩:=hy;obtain⟨zw,zl,rfl,qM,_,_,_⟩:=hz;obtain⟨ww,wl,rfl,qO,_,_,_⟩:=hw;obtain⟨bZ,rl,rfl,oQ,_,_,_⟩:=hr;obtain⟨rw2,rl2,rfl,aiw,_,_,_⟩:=nS
  obtain⟨tw,tl,rfl,htw,_,_,_⟩:=ht;obtain⟨sw,sl,rfl,mE,_,_,_⟩:=hs;have hb:¬(q1=ydb/\q2=ydb):=hq;unfold ab at e3 e4 e5 Z4 e6 e7 e8 ⊢;rw[aD h.aiq]
  cases q1 with
  | false=>
   simp only[go_sem,ya,yb,L2,aQ,e1,e2,e3,e4,eP.pu,eP.aj,eP.one,eQ.pu,eQ.aj,eQ.one,qM.pu,qM.aj,qM.one,qO.pu,qO.aj,qO.one,oQ.aj,aiw.aj,htw.aj,mE.aj,b6,bw,Cw,gK,Hi,e5,Z4,e8,e6,e7]
  | true=>
   cases q2 with
   | true=>exact absurd ⟨rfl,rfl⟩ hb
   | false=>
    simp only[go_sem,ya,yb,L2,aQ,e1,e2,e3,e4,eP.pu,eP.aj,eP.one,eQ.pu,eQ.aj,eQ.one,qM.pu,qM.aj,qM.one,qO.pu,qO.aj,qO.one,oQ.aj,aiw.aj,htw.aj,mE.aj,b6,bw,Cw,gK,Hi,e5,Z4,e8,e6,e7]
def ag2(h:Rp P L)(ka:Hq K a)(kb:Hq M b)(hK:K+M+1<=8000000000):ab P L 271 [.str (RT a),.str (RT b)] (.str (RT (a-b))):=by
 have e1:=ag1 h kb (by lia);have e2:=LF h ka kb.neg hK;rw[<-yav] at e2;unfold ab at e1 e2 ⊢;rw[aD h.FI];simp only[go_sem,ya,HC,e1,e2]
def inv_divInt(a:Rat)(h:a≠0):a⁻¹=wL (a.den:Int) a.num:=by
 rw[Rat.inv_def]
def ag3(h:Rn P L)(BW:Has P L 283 Fm)(ka:Hq K a)(hK:K<=8000000000)(h0:a≠0):ab P L 283 [.str (RT a)] (.str (RT a⁻¹)):=by
 obtain⟨x,y,e3,hx,hy⟩:=LC h.toRm ka hK;have hn:a.num≠0:=fun e=>h0 (ybP.1 e)
 have e7:=WD h.toRm hK hy hx ka.2 ka.1 hn;rw[<-inv_divInt a h0] at e7;obtain⟨xw,xl,rfl,eP,_,_,_⟩:=hx;obtain⟨yw,yl,rfl,eQ,_,_,_⟩:=hy;unfold ab at e3 e7 ⊢;rw[aD BW];simp only[go_sem,ya,yb,Fm,aQ,e3,eP.pu,eP.aj,eP.one,eQ.pu,eQ.aj,eQ.one,b6,Cw,gK,Hi,e7]
def azh(h:Rn P L)(X7:Has P L 266 Q0)(BW:Has P L 283 Fm)(ka:Hq K a)(kb:Hq M b)(hK:K+M<=8000000000)(h0:b≠0):ab P L 266 [.str (RT a),.str (RT b)] (.str (RT (a/b))):=by
 have e1:=ag3 h BW kb (by omega) h0;have e2:=Hr h ka kb.inv hK;rw[<-Rat.div_def] at e2;unfold ab at e1 e2 ⊢;rw[aD X7];simp only[go_sem,ya,Q0,e1,e2]
def ag4(h:Rx P L)(ka:Hq K a)(kb:Hq M b)(hK:K+M<=8000000000)(h0:b≠0):ab P L 266 [.str (RT a),.str (RT b)] (.str (RT (a/b))):=azh h.toRn h.X7 h.BW ka kb hK h0
end
end
end VE
end
section
namespace VE
open Go (IntKind)
section
variable {a b s t:List Nat}{k:Nat}
def acq{P:aE}{L:Lib}(a b c d:VC)(s:St):D P L (.seq a (.seq b (.seq c d))) s=rA P L (D P L (.seq a (.seq b c)) s) d:=by
 have e:=En (P:=P) (L:=L) b c d;rw[nI,nI]
 cases D P L a s with
 | none=>rfl
 | some q=>
  have⟨ex,st⟩:=q
  cases ex with
  | normal=>rw[jk,jk];exact e st
  | ret=>rfl
  | exit id=>rfl
def rm(h:a≠b):cK a b=ydc:=by
 cases hb:cK a b with
 | false=>rfl
 | true=>exact absurd (UU hb) h
def adx:∀a:List Nat,cK a a=ydb
 | []=>rfl
 | x::a=>by simp[cK,adx a]
def afl(h:a=b):cK a b=ydb:=h▸adx a
def aoC{i:Nat}(h:i<s.length):dn (s.drop i)=(yB 48 s[i]&&yB s[i] 57&&dn (s.drop (i+1))):=by
 rw[yR h];rfl
section
variable {P:aE}{L:Lib}
def aBF(h:Has P L 287 L8)(hl:s.length<9223372036854775808):ab P L 287 [.str s] (.bool (dn s)):=by
 have key:=gV P L [0,3] EG
  (fun k st=>∃i:Nat,st=⟨[(0,.str s),(3,aa i)],[],0,0⟩/\i+k=s.length/\dn (s.drop i)=dn s)
  (fun ex st=>∃tm ct,st=⟨tm,[],ct,0⟩/\((ex=.ret/\ak tm 2=.bool ydc/\dn s=ydc)\/(ex=.exit 0/\dn s=ydb))) ?_
 .unfold ab;rw[aD h];simp only[go_sem,L8];generalize hq:D P L (.loop _ EG) _=q;obtain⟨ex,st,rfl,tm,ct,rfl,h2⟩:=bL hq (key s.length) ⟨0,by simp only[go_sem,ya,ax]<;>rfl,by lia,by simp⟩
  rcases h2 with ⟨rfl,h2,h3⟩ | ⟨rfl,h3⟩
  .simp only [go_sem,h2,h3]
  .simp only [go_sem,ax,h3]
 .rintro k st ⟨i,rfl,hk,hs⟩;by_cases hi:i<s.length
  .rw [aoC hi] at hs;by_cases h1:s[i]<48
   .right
    have e:yB 48 s[i]=ydc:=by
     cases hb:yB 48 s[i] with
     | false=>rfl
     | true=>have:=yt hb;lia
    rw[e,wK,wK] at hs;simp only[go_sem,ya,EG,show (i:Int)<s.length by lia,sO hi,show ((s[i]:Nat):Int)<48 by lia,yI];exact⟨_,_,rfl,by simp,_,_,rfl,.inl ⟨rfl,rfl,hs.symm⟩⟩
   .by_cases h2:57<s[i]
    .right
     have e:yB s[i] 57=ydc:=by
      cases hb:yB s[i] 57 with
      | false=>rfl
      | true=>have:=yt hb;lia
     rw[e,Bool.and_false,wK] at hs;simp only[go_sem,ya,EG,show (i:Int)<s.length by lia,sO hi,show ¬((s[i]:Nat):Int)<48 by lia,yM,show (57:Int)<((s[i]:Nat):Int) by lia];exact⟨_,_,rfl,by simp,_,_,rfl,.inl ⟨rfl,rfl,hs.symm⟩⟩
    .left
     rw[yv (show 48<=s[i] by lia),yv (show s[i]<=57 by lia),wS,wS] at hs;simp only[go_sem,ya,EG,show (i:Int)<s.length by lia,sO hi,show ¬((s[i]:Nat):Int)<48 by lia,yM,show ¬(57:Int)<((s[i]:Nat):Int) by lia];refine⟨_,k-1,rfl,by lia,i+1,?_,by lia,hs⟩;rw[wrap64 (by lia) (by lia)];simp only[go_sem,ya,ax]<;>rfl
  .right
   simp only[go_sem,ya,EG,show ¬(i:Int)<s.length by lia];refine⟨_,_,rfl,by simp,_,_,rfl,.inr ⟨rfl,?_⟩⟩;rw[<-hs,xd (by lia)];rfl
def R3(h:Has P L 273 Fj)(HT:Has P L 287 L8)(hl:s.length<9223372036854775808):ab P L 273 [.str s] (.bool (dZ s)):=by
 have e:=aBF HT hl;unfold ab at e ⊢;rw[aD h]
 match s,hl,e with
 | [],_,_=>
  simp only[go_sem,ya,Fj,yN,show ((0:Nat):Int)=0 from rfl,yI];rfl
 | [b],_,e=>
  have:dZ [b]=dn [b]:=by simp[dZ]
  rw[this];simp only[go_sem,ya,Fj,yF,yN,yd,show ¬((1:Nat):Int)=0 by decide,show ¬(1:Int)<((1:Nat):Int) by decide,yM,e]
 | b::c::r,hl,e=>
  have hd:dZ (b::c::r)=(dn (b::c::r)&& !(yq b 48)):=by simp[dZ]
  rw[hd];have zx:r.length+2<9223372036854775808:=by simpa using hl
  by_cases hb:b=48
  .subst hb;simp only[go_sem,ya,Fj,yF,show ¬((r.length+1+1:Nat):Int)=0 by lia,yM,show (1:Int)<((r.length+1+1:Nat):Int) by lia,show oD 0 (.str (48::c::r))=Gp (.int .u8 48) from rfl,yI]
   simp
  .have:yq b 48=ydc:=gU hb
   rw[this,yZ,vL];simp only[go_sem,ya,Fj,yF,show ¬((r.length+1+1:Nat):Int)=0 by lia,yM,show (1:Int)<((r.length+1+1:Nat):Int) by lia,show oD 0 (.str (b::c::r))=Gp (.int .u8 (b:Nat)) from rfl,show ¬((b:Nat):Int)=48 by lia,e]
def ady(h:k<=s.length):js s (Gp 0) (Gp k)=Gp (.str (s.take k)):=by
 rw[mK (by lia) h,yf]
def O2(h:k<=s.length):js s (Gp k) (Gp s.length)=Gp (.str (s.drop k)):=by
 rw[mK h (yp _),xL]
def awY(h:Rm P L)(hk:k=bT t)(hl:t.length<9223372036854775808)(hp:dZ (t.take k)=ydb){tm:Env}(t3:ak tm 3=.str t)(t4:ak tm 4=aa k):
  gM [.t 2] (D P L (aC (aC (aC (aC (aC dB.body))))) ⟨tm,[],0,0⟩)=Gp (aa (
   if k<t.length/\(dZ (t.drop (k+1))=ydc\/t.drop (k+1)=[48]\/t.drop (k+1)=[49]) then 1
   else if 600<k\/600<t.length-k-1 then 4
   else if k<t.length/\wM (gA (t.take k)) (gA (t.drop (k+1)))≠1 then 1
   else 0)):=by
 have ZT:k<=t.length:=by rw[hk];exact J5 t
 have e3:=R3 h.R2 h.HT (s:=t.drop (k+1)) (by rw[we];lia)
 unfold ab at e3;have D6:(k:Int)+1=((k+1:Nat):Int):=rfl;by_cases hs:k<t.length
 .have c2:=O2 (s:=t) (k:=k+1) (by lia);have lI:=aao t (by lia);rw[<-hk] at lI;have NG:(t.drop (k+1)).length=t.length-k-1:=by rw[we];lia
  have hlp:(t.take k).length=k:=by rw[yQ];lia
  generalize Ta:t.drop (k+1)=q at*
  generalize hpe:t.take k=p at*
  cases hd:dZ q with
  | false=>
   rw[yC ⟨hs,.inl rfl⟩];rw[hd] at e3
   simp only[go_sem,ya,dB,aC,t3,t4,show (k:Int)<(t.length:Int) by lia,yI,D6,wrapN (n:=k+1) (by lia),eY,fm,dT,c2,e3,yZ]
  | true=>
   rw[hd] at e3;by_cases kO:q=[48]
   .rw [yC ⟨hs,.inr (.inl kO)⟩]
    simp only[go_sem,ya,dB,aC,t3,t4,show (k:Int)<(t.length:Int) by lia,yI,D6,wrapN (n:=k+1) (by lia),eY,fm,dT,c2,e3,yY,nB,afl kO]
   .by_cases qJ:q=[49]
    .rw [yC ⟨hs,.inr (.inr qJ)⟩]
     simp only[go_sem,ya,dB,aC,t3,t4,show (k:Int)<(t.length:Int) by lia,yI,D6,wrapN (n:=k+1) (by lia),eY,fm,dT,c2,e3,yY,nB,rm kO,afl qJ]
    .rw [yr (by simp only[hs,tN,ybk,ycv];exact fun e=>e.elim kO qJ)]
     by_cases DA:600<k
     .rw [yC (.inl DA)]
      simp only[go_sem,ya,dB,aC,t3,t4,show (k:Int)<(t.length:Int) by lia,yI,D6,wrapN (n:=k+1) (by lia),eY,fm,dT,c2,e3,yY,nB,rm kO,rm qJ,show (600:Int)<(k:Int) by lia]
     .by_cases aBG:600<t.length-k-1
      .rw [yC (.inr aBG)]
       simp only[go_sem,ya,dB,aC,t3,t4,show (k:Int)<(t.length:Int) by lia,yI,D6,wrapN (n:=k+1) (by lia),eY,fm,dT,c2,e3,yY,nB,rm kO,rm qJ,show ¬(600:Int)<(k:Int) by lia,yM,show (t.length:Int)-(k:Int)=((t.length-k:Nat):Int) by lia,wrapN (n:=t.length-k) (by lia),show ((t.length-k:Nat):Int)-1=((t.length-k-1:Nat):Int) by lia,wrapN (n:=t.length-k-1) (by lia),show (600:Int)<((t.length-k-1:Nat):Int) by lia]
      .rw [yr (by lia)];have zI:=GC _ rfl hp;have qK:=GC _ rfl hd;have iK:gA q≠0:=fun e=>kO (by rw[<-qK,e];rfl)
       have se:gA q≠1:=fun e=>qJ (by rw[<-qK,e];rfl)
       generalize gA p=n at*
       generalize gA q=d at*
       have hT:TT (n:Int) d=t:=by
        unfold TT;rw[nt,yr se,zI,qK];exact lI.symm
       have⟨x,y,e4,hx,hy⟩:=aiv h.toRb (n:=(n:Int)) (d:=d) (by rw[wz,zI];lia) (by rw[qK];lia)
       rw[hT] at e4;obtain⟨xw,xl,rfl,eP,dx,nx,vx⟩:=hx;obtain⟨yw,yl,rfl,eQ,dy,ny,vy⟩:=hy;rw[wz] at vx vy;have r9:n<10^p.length:=by rw[<-zI];exact Ku n
       have hdb:d<10^q.length:=by rw[<-qK];exact Ku d
       obtain⟨K,hK⟩:∃K:Nat,K=600:=⟨_,rfl⟩;have SP:∀{m j:Nat},m<10^j->j<=K->m<1000000000^K:=fun {m j} h1 h2=>
        yG h1 (xo (xa (by decide) h2) (ud (by decide) K))
       have lxl:=kL dx nx (by rw[vx];exact SP r9 (by lia))
       have lyl:=kL dy ny (by rw[vy];exact SP hdb (by lia))
       have⟨g,lg,e5,hg,dgg,ngg,vg⟩:=agX h.aim h.ME h.mw h.pX h.rK h.cM h.zg eP eQ dx dy nx ny (by lia) (by lia);rw[vx,vy] at vg;have Ca:0<wM n d:=Nat.gcd_pos_of_pos_right _ (by lia);unfold ab at e4 e5;by_cases X9:lg.length=1
       .obtain ⟨z,rfl⟩:∃z,lg=[z]:=by
         cases lg with
         | nil=>simp at X9
         | cons z r=>cases r with
          | nil=>exact⟨z,rfl⟩
          | cons y r=>simp at X9
        have gz:=mo.1 dgg;have NM:z=(wM n d:Nat):=by simp[dv] at vg;lia
        have e8:=hg.bk (i:=0) (by simp);simp only[wI] at e8;by_cases jw:wM n d=1
        .rw [yr (by simp[jw])]
         simp only[go_sem,ya,yb,dB,aC,t3,t4,show (k:Int)<(t.length:Int) by lia,yI,D6,wrapN (n:=k+1) (by lia),eY,fm,dT,c2,e3,yY,nB,rm kO,rm qJ,show ¬(600:Int)<(k:Int) by lia,yM,show (t.length:Int)-(k:Int)=((t.length-k:Nat):Int) by lia,wrapN (n:=t.length-k) (by lia),show ((t.length-k:Nat):Int)-1=((t.length-k-1:Nat):Int) by lia,wrapN (n:=t.length-k-1) (by lia),show ¬(600:Int)<((t.length-k-1:Nat):Int) by lia,e4,aQ,eP.pu,eP.aj,eP.one,eQ.pu,eQ.aj,eQ.one,gK,aY,yd,df,e5,hg.len,hg.shut,yF,yN,show ((1:Nat):Int)=(1:Int) from rfl,yY,e8,NM,jw]
        .rw [yC ⟨hs,jw⟩]
         simp only[go_sem,ya,yb,dB,aC,t3,t4,show (k:Int)<(t.length:Int) by lia,yI,D6,wrapN (n:=k+1) (by lia),eY,fm,dT,c2,e3,yY,nB,rm kO,rm qJ,show ¬(600:Int)<(k:Int) by lia,yM,show (t.length:Int)-(k:Int)=((t.length-k:Nat):Int) by lia,wrapN (n:=t.length-k) (by lia),show ((t.length-k:Nat):Int)-1=((t.length-k-1:Nat):Int) by lia,wrapN (n:=t.length-k-1) (by lia),show ¬(600:Int)<((t.length-k-1:Nat):Int) by lia,e4,aQ,eP.pu,eP.aj,eP.one,eQ.pu,eQ.aj,eQ.one,gK,aY,yd,df,e5,hg.len,hg.shut,yF,yN,show ((1:Nat):Int)=(1:Int) from rfl,yY,e8,NM,show ¬((wM n d:Nat):Int)=1 by lia,yZ]
       .have jw:wM n d≠1:=fun e=>X9 (by
         have h1:lg.length<=1:=aer dgg ngg (by lia);have h2:0<lg.length:=by
          rcases xq lg.length with h0 | h0
          .rw [yK h0] at vg;simp[dv] at vg;lia
          .exact h0
         lia)
        rw[yC ⟨hs,jw⟩]
        simp only[go_sem,ya,yb,dB,aC,t3,t4,show (k:Int)<(t.length:Int) by lia,yI,D6,wrapN (n:=k+1) (by lia),eY,fm,dT,c2,e3,yY,nB,rm kO,rm qJ,show ¬(600:Int)<(k:Int) by lia,yM,show (t.length:Int)-(k:Int)=((t.length-k:Nat):Int) by lia,wrapN (n:=t.length-k) (by lia),show ((t.length-k:Nat):Int)-1=((t.length-k-1:Nat):Int) by lia,wrapN (n:=t.length-k-1) (by lia),show ¬(600:Int)<((t.length-k-1:Nat):Int) by lia,e4,aQ,eP.pu,eP.aj,eP.one,eQ.pu,eQ.aj,eQ.one,gK,aY,yd,df,e5,hg.len,hg.shut,show ¬(lg.length:Int)=1 by lia,yZ]
 .have hkt:k=t.length:=by lia
  rw[yr (by lia)];by_cases DA:600<k
  .rw [yC (.inl DA)];simp only[go_sem,ya,dB,aC,t3,t4,show ¬(k:Int)<(t.length:Int) by lia,yM,show (600:Int)<(k:Int) by lia,yI]
  .rw [yr (by lia),yr (by lia)]
   simp only[go_sem,ya,dB,aC,t3,t4,show ¬(k:Int)<(t.length:Int) by lia,yM,show ¬(600:Int)<(k:Int) by lia,show (t.length:Int)-(k:Int)=((t.length-k:Nat):Int) by lia,wrapN (n:=t.length-k) (by lia),show ((t.length-k:Nat):Int)-1= -1 by lia,show IntKind.wrap .i64 (-1)= -1 by rfl,show ¬(600:Int)<(-1:Int) by lia]
def afm(h:Rm P L){b:Nat}{r:List Nat}{neg:Bool}(fV:decide (((b:Nat):Int)=45)=neg)(hl:t.length<9223372036854775808){tm:Env}(t0:ak tm 0=.str (b::r))(t3:ak tm 3=.str t):
  gM [.t 2] (D P L (aC (aC (aC dB.body))) ⟨tm,[],0,0⟩)=Gp (aa (BT neg t)):=by
 obtain⟨k,hk⟩:∃k,k=bT t:=⟨_,rfl⟩;have ZT:k<=t.length:=by rw[hk];exact J5 t
 have e1:=HO h.Dj (s:=t) (by lia);have e2:=R3 h.R2 h.HT (s:=t.take k) (by rw[yQ];lia)
 have e3:=R3 h.R2 h.HT (s:=t.drop (k+1)) (by rw[we];lia)
 unfold BT;rw[<-hk] at e1 ⊢;have c1:=ady ZT;have hI:oD 0 (.str (b::r))=Gp (.int .u8 (b:Nat)):=rfl;unfold ab at e1 e2 e3;generalize hp:t.take k=p at*
 generalize hq:t.drop (k+1)=q at*
 cases hd:dZ p with
 | false=>
  rw[yC (.inl rfl)];rw[hd] at e2;simp only[go_sem,ya,dB,aC,t3,e1,eY,fm,dT,c1,e2,yZ]
 | true=>
  rw[hd] at e2;by_cases hz:neg=ydb/\p=[48]
  .rw [yC (.inr hz)];have⟨z1,z2⟩:=hz;rw[z1] at fV;have hb:=of_decide_eq_true fV;subst z2;simp only[go_sem,ya,dB,aC,t0,t3,e1,eY,fm,dT,c1,e2,yY,hI,hb,yI,nB,show cK [48] [48]=ydb from rfl]
  .rw [yr (by simp only[ybk,ycv];exact hz)]
   have fin:∀tm',ak tm' 3=.str t->ak tm' 4=aa k->D P L (.seq (bD (aC (aC (aC dB.body)))) (bD (aC (aC (aC (aC dB.body)))))) ⟨tm,[],0,0⟩=Gp (.normal,⟨tm',[],0,0⟩)->gM [.t 2] (D P L (aC (aC (aC dB.body))) ⟨tm,[],0,0⟩)=Gp (aa (
     if k<t.length/\(dZ q=ydc\/q=[48]\/q=[49]) then 1
     else if 600<k\/600<t.length-k-1 then 4
     else if k<t.length/\wM (gA p) (gA q)≠1 then 1
     else 0)):=fun tm' f3 f4 e=>by
    show gM [.t 2] (D P L (.seq (bD (aC (aC (aC dB.body)))) (.seq (bD (aC (aC (aC (aC dB.body))))) (aC (aC (aC (aC (aC dB.body))))))) ⟨tm,[],0,0⟩)=_
    rw[En,e,jk,<-hp,<-hq];exact awY h hk hl (by rw[hp];exact hd) f3 f4
   by_cases hb:((b:Nat):Int)=45
   .have aBH:p≠[48]:=fun e=>hz ⟨by rw[<-fV];exact xk hb,e⟩
    refine fin _ ?_ ?_ (by simp only[go_sem,ya,dB,bD,aC,t0,t3,e1,eY,fm,dT,c1,e2,yY,hI,hb,yI,nB,rm aBH]<;>rfl)<;>simp only[go_sem,ya,t3]
   .refine fin _ ?_ ?_ (by simp only[go_sem,ya,dB,bD,aC,t0,t3,e1,eY,fm,dT,c1,e2,yY,hI,hb,yM]<;>rfl)<;>simp only[go_sem,ya,t3]
def aBI(h:Rm P L)(hl:s.length<9223372036854775808):ab P L 263 [.str s] (aa (iL s)):=by
 unfold ab;rw[aD h.aBy]
 cases s with
 | nil=>
  have e1:=HO h.Dj (s:=[]) (by simp);have e2:=R3 h.R2 h.HT (s:=[]) (by simp);unfold ab at e1 e2;have hc:js [] (Gp 0) (Gp 0)=Gp (.str []):=rfl;simp only[go_sem,ya,dB,yN,show ¬(0:Int)<((0:Nat):Int) by decide,yM,e1,bT,eY,fm,dT,hc,e2,show dZ []=ydc from rfl,yZ];rfl
 | cons b t=>
  have zx:t.length+1<9223372036854775808:=by simpa using hl
  have hI:oD 0 (.str (b::t))=Gp (.int .u8 (b:Nat)):=rfl;by_cases hb:b=45
  .subst hb;have fin:∀tm',ak tm' 0=.str (45::t)->ak tm' 3=.str t->D P L (.seq (bD dB.body) (.seq (bD (aC dB.body)) (bD (aC (aC dB.body))))) ⟨[(0,.str (45::t))],[],0,0⟩=Gp (.normal,⟨tm',[],0,0⟩)->gM [.t 2] (D P L dB.body ⟨[(0,.str (45::t))],[],0,0⟩)=Gp (aa (iL (45::t))):=fun tm' f0 f3 e=>by
    show gM [.t 2] (D P L (.seq (bD dB.body) (.seq (bD (aC dB.body)) (.seq (bD (aC (aC dB.body))) (aC (aC (aC dB.body)))))) ⟨[(0,.str (45::t))],[],0,0⟩)=_
    rw[acq,e,jk]
    exact afm h (b:=45) rfl (by lia) f0 f3
   have hc:js (45::t) (Gp 1) (Gp (t.length+1))=Gp (.str t):=by
    have:=O2 (s:=45::t) (k:=1) (by simp)
    simpa using this
   refine fin _ ?_ ?_ (by simp only[go_sem,ya,dB,bD,aC,yF,show (0:Int)<((t.length+1:Nat):Int) by lia,yI,Fw,eY,fm,dT,hc]<;>rfl)<;>simp only[go_sem,ya]
  .have fin:∀tm',ak tm' 0=.str (b::t)->ak tm' 3=.str (b::t)->D P L (.seq (bD dB.body) (.seq (bD (aC dB.body)) (bD (aC (aC dB.body))))) ⟨[(0,.str (b::t))],[],0,0⟩=Gp (.normal,⟨tm',[],0,0⟩)->gM [.t 2] (D P L dB.body ⟨[(0,.str (b::t))],[],0,0⟩)=Gp (aa (iL (b::t))):=fun tm' f0 f3 e=>by
    show gM [.t 2] (D P L (.seq (bD dB.body) (.seq (bD (aC dB.body)) (.seq (bD (aC (aC dB.body))) (aC (aC (aC dB.body)))))) ⟨[(0,.str (b::t))],[],0,0⟩)=_
    rw[acq,e,jk]
    have:=afm h (b:=b) (neg:=ydc) (yW (by lia)) (by simpa using hl) f0 f3
    rw[this];simp only[iL,yr hb]
   refine fin _ ?_ ?_ (by simp only[go_sem,ya,dB,bD,aC,yF,show (0:Int)<((t.length+1:Nat):Int) by lia,yI,hI,show ¬((b:Nat):Int)=45 by lia]<;>rfl)<;>simp only[go_sem,ya]
end
end
end VE
end
section
namespace VE
open Go (IntKind)
def fO(v:AV)(l:List (List Nat)):Prop:=cp v (l.map AV.str)
section
variable {v:AV}{l:List (List Nat)}
def fO.len(h:fO v l){hp:Hp}:jo hp 1 v=Gp (.int .i64 (l.length:Nat)):=by
 have:=cp.len (hp:=hp) h
 grind
def fO.pu(h:fO v l):aW v=ydb:=cp.pu h
def fO.aj(h:fO v l)(n:Nat){hp:Hp}:freeze (n+1) hp v=Gp (v,hp):=cp.aj h n
def fO.bI(h:fO v l):VE.bI v=v:=cp.bI h
def fO.bk(h:fO v l){i:Nat}(hi:i<l.length):gH 1 i v=Gp (.bC (.str l[i]::(l.map AV.str).drop (i+1))):=by
 have:=cp.bk h (i:=i) (by simpa using hi)
 grind
def Kw(e:Bool)(l:List (List Nat)):fO (.ap e l.length (l.map AV.str)) l:=by
 have:=Kr e (l.map AV.str)
 rwa[yS] at this
end
section
variable {P:aE}{L:Lib}
def atl(h:Rm P L){a:Rat}{K:Nat}(ka:Hq K a)(hK:K<=4000000000):bO P L (D P L) 284 [.str (RT a)]=Gp (.str (aV a.num))/\bO P L (D P L) 285 [.str (aV a.num)]=Gp (.str (aB a.num.natAbs))/\bO P L (D P L) 286 [.str (RT a)]=Gp (.str (aB a.den)):=by
 have hl:=Hj ka;have e0:=HO h.Dj (s:=RT a) (by lia);have lO:bT (RT a)=(aV a.num).length/\(RT a).take (aV a.num).length=aV a.num:=by
  unfold RT;by_cases hd:a.den=1
  .rw [yC hd,xU]
   have:=N6 a.num []
   rw[xU] at this;exact⟨by rw[this];simp[bT],xL⟩
  .rw [yr hd];exact⟨by rw[N6];simp[bT],tI⟩
 have⟨eJ,AP⟩:=lO;rw[eJ] at e0;have hlen:(aV a.num).length<=(RT a).length:=by unfold RT;simp
 have e1:bO P L (D P L) 284 [.str (RT a)]=Gp (.str (aV a.num)):=by
  rw[aD h.aBz]
  have:=ady (s:=RT a) hlen
  simp only[go_sem,ya,Xj,e0,eY,fm,dT,this,AP]
 have hT:aV a.num=TT a.num 1:=by unfold TT;simp
 have e2:bO P L (D P L) 285 [.str (aV a.num)]=Gp (.str (aB a.num.natAbs)):=by
  have e:=ag0 h (n:=a.num) (d:=1) (by rw[<-hT];lia) (fun _=>rfl)
  rw[<-hT] at e;rw[aD h.aBA];by_cases h0:a.num<0
  .have es:bW a.num= -1:=by unfold bW;rw[yC h0]
   rw[es] at e;rw[pC h0] at e ⊢;have hc:=O2 (s:=45::aB a.num.natAbs) (k:=1) (by simp);simp only[List.drop_succ_cons,yf,yF] at hc;simp only[go_sem,ya,Q5,e,show (-1:Int)<0 by decide,eY,fm,dT,hc]
  .have es:¬bW a.num<0:=by unfold bW;rw[yr h0];split<;>decide
   have hi:aV a.num=aB a.num.natAbs:=by
    obtain⟨m,hm⟩:∃m:Nat,a.num=m:=⟨a.num.toNat,by lia⟩;rw[hm,nt,wz]
   simp only[go_sem,ya,Q5,e,es];rw[hi]
 have e3:bO P L (D P L) 286 [.str (RT a)]=Gp (.str (aB a.den)):=by
  rw[aD h.aBB];by_cases hd:a.den=1
  .have hR:(RT a).length=(aV a.num).length:=by unfold RT;rw[yC hd];simp
   rw[hd,show aB 1=[49] by decide];simp only[go_sem,ya,Q6,e0,show ((aV a.num).length:Int)=((RT a).length:Int) by lia,yI]
  .have hR:RT a=(aV a.num++[47])++aB a.den:=by unfold RT;rw[yr hd];simp
   have hRl:(RT a).length=(aV a.num).length+1+(aB a.den).length:=by rw[hR];simp;lia
   have hc:=O2 (s:=RT a) (k:=(aV a.num).length+1) (by lia);have kD:(RT a).drop ((aV a.num).length+1)=aB a.den:=by
    rw[hR,show (aV a.num).length+1=(aV a.num++[47]).length by simp,tJ]
   rw[kD] at hc
   simp only[go_sem,ya,Q6,e0,show ¬((aV a.num).length:Int)=((RT a).length:Int) by lia,show ((aV a.num).length:Int)+1=(((aV a.num).length+1:Nat):Int) from rfl,wrapN (n:=(aV a.num).length+1) (by lia),eY,fm,dT,hc]
 exact⟨e1,e2,e3⟩
def azi(h:Rl P L){a:Rat}{K:Nat}(ka:Hq K a)(hK:K<=4000000000):ab P L 269 [.str (RT a)] (aa (if LG a=ydb then 4 else 0)):=by
 obtain⟨e1,e2,e3⟩:=atl h.toRm ka hK;unfold ab;rw[aD h.aBC];unfold LG LN;rw[wz];by_cases h1:600<(aB a.num.natAbs).length
 .rw [xk h1,tc,yC rfl];simp only[go_sem,ya,L5,e1,e2,show (600:Int)<((aB a.num.natAbs).length:Int) by omega,yI]
 .by_cases h2:600<(aB a.den).length
  .rw [xk h2,Bool.or_true,yC rfl];simp only[go_sem,ya,L5,e1,e2,show ¬(600:Int)<((aB a.num.natAbs).length:Int) by omega,yM,e3,show (600:Int)<((aB a.den).length:Int) by omega]
  .rw [yW h1,yW h2,Bool.or_self,yr (by decide)];simp only[go_sem,ya,L5,e1,e2,show ¬(600:Int)<((aB a.num.natAbs).length:Int) by omega,yM,e3,show ¬(600:Int)<((aB a.den).length:Int) by omega]
end
end VE
end
section
namespace VE
open Go (IntKind)
open Classical in
noncomputable def gZ(s:List Nat):Rat:=if h:iL s=0 then Classical.choose (awC h) else 0
def O3{s:List Nat}(h:iL s=0):s=RT (gZ s)/\(aB (gZ s).num.natAbs).length<=600/\(aB (gZ s).den).length<=600:=by
 unfold gZ
 grind
def acr{z:Int}{k M:Nat}(h:(aB z.natAbs).length<=k)(hM:4*k<=M):Bd M z:=by
 have h1:=Ku z.natAbs;have h2:=Kv (aB z.natAbs).length;have h3:(2:Nat)^(4*(aB z.natAbs).length)<=2^M:=xa (by decide) (by lia);exact yG h1 (xo h2 h3)
def Pw{s:List Nat}(h:iL s=0){M:Nat}(hM:2400<=M):Hq M (gZ s):=by
 have⟨_,h1,h2⟩:=O3 h
 exact⟨acr h1 (by lia),acr (z:=((gZ s).den:Int)) (by rw[wz];exact h2) (by lia)⟩
noncomputable def aix(s:List Nat)(least:Int):Int:=if iL s=0 then (if bW (gZ s).num<least then 3 else 0) else iL s
instance (k:Nat) (z:Int):Decidable (Bd k z):=inferInstanceAs (Decidable (z.natAbs<2^k))
def aBJ:RT 1=[49]:=by decide
def R4:Hq 2 0:=⟨by decide,by decide⟩
def aBK:Hq 2 1:=⟨by decide,by decide⟩
section
variable {P:aE}{L:Lib}
def aBL(h:Rp P L)(nP:Has P L 315 Av){a b:Rat}{K M:Nat}(ka:Hq K a)(kb:Hq M b)(hK:K+M+1<=8000000000):ab P L 315 [.str (RT a),.str (RT b)] (aa (bW (a-b).num)):=by
 have e1:=ag2 h ka kb hK;have e2:=Qs h.toRm (ka.sub kb) hK;unfold ab at e1 e2 ⊢;rw[aD nP];simp only[go_sem,ya,Av,e1,e2]
end
end VE
end
section
namespace VE
open Go (IntKind)
def aaR(q:Rat):q.num<0↔q<0:=by
 have h:=@ycc q
 grind
def aex(a b:Rat):bW (a-b).num=FE a b:=by
 unfold bW FE;by_cases h1:a<b
 .rw [yC ((aaR _).2 (by grind)),yC h1]
 .rw [yr (fun e=>h1 (by have:=(aaR _).1 e;grind)),yr h1]
  by_cases h2:a=b
  .subst h2;rw[yC (by rw[Rat.sub_self];rfl),yC rfl]
  .rw [yr (fun e=>h2 (by have:=ybP.1 e;grind)),yr h2]
def awZ(hs h:Rat):Bool:=decide (hs=0)||decide (h<hs)
end VE
end
section
namespace VE
open Go (IntKind)
section
variable {s1 s2 s3 s4:Int}{w1 w2 w3 w4:AV}{l1 l2 l3 l4:List Nat}
def Px{tm:Env}{a b c d x y z w:AV}{x' y' z' w':AV}{r:List (Nat×Nat×X)}(h1:db a=ydb)(h2:db b=ydb)(h3:db c=ydb)(h4:db d=ydb):kX tm [x',y',z',w',x,y,z,w] 0 4 [a,b,c,d] r=fill tm [a,b,c,d,x,y,z,w] r:=by
 rw[CI (by rfl) (by simp) (by simp[cd,h1,h2,h3,h4])];rfl
def Py{tm:Env}{a b c d x y z w:AV}{x' y' z' w':AV}{r:List (Nat×Nat×X)}(h1:db a=ydb)(h2:db b=ydb)(h3:db c=ydb)(h4:db d=ydb):kX tm [x,y,z,w,x',y',z',w'] 4 4 [a,b,c,d] r=fill tm [x,y,z,w,a,b,c,d] r:=by
 rw[CI (by rfl) (by simp) (by simp[cd,h1,h2,h3,h4])];rfl
def jZ(a b c d:AV)(r:List AV):ie 4 ydb (a::b::c::d::r)=Gp (.agg [a,b,c,d]):=rfl
end
section
variable {P:aE}{L:Lib}
def aoD(a:List Nat):cK a a=ydb:=GO rfl
end
end VE
end
section
namespace VE
open Go (IntKind)
structure F4(c1 c2 c3 c4:AV):Prop where
 aj:∀(n:Nat) (hp:Hp),freeze (n+20) hp (.agg [c1,c2,c3,c4])=Gp (.agg [c1,c2,c3,c4],hp)
 dR:∀hp:Hp,result hp (.agg [c1,c2,c3,c4])=Gp (.agg [c1,c2,c3,c4])
 st:∀(hp:Hp) (ct id:Nat) (a b c d:AV),gD hp ct id 0 4 [c1,c2,c3,c4] (Gp (.cells ydb ydb ydb 4 [a,b,c,d]))=Gp (.av [],aU hp id (.cells ydb ydb ydb 4 [c1,c2,c3,c4]),ct)
 bx:∀ct:Nat,zc ct 4 [c1,c2,c3,c4]=Gp (.ptr ct 0,.cells ydb ydb ydb 4 [c1,c2,c3,c4])
 o1:db c1=ydb
 o2:db c2=ydb
 o3:db c3=ydb
 o4:db c4=ydb
 pu:aW (.agg [c1,c2,c3,c4])=ydb
 z1:∀(n:Nat) (hp:Hp),freeze (n+1) hp c1=Gp (c1,hp)
 z2:∀(n:Nat) (hp:Hp),freeze (n+1) hp c2=Gp (c2,hp)
 z3:∀(n:Nat) (hp:Hp),freeze (n+1) hp c3=Gp (c3,hp)
 z4:∀(n:Nat) (hp:Hp),freeze (n+1) hp c4=Gp (c4,hp)
def bS.gen{v:AV}{a:Rat}(h:bS v a):∃c1 c2 c3 c4,v=.agg [c1,c2,c3,c4]/\F4 c1 c2 c3 c4:=by
 obtain⟨s1,w1,s2,w2,rfl,h1,h2⟩:=h;have⟨l1,u1⟩:=h1.aO;have⟨l2,u2⟩:=h2.aO;refine⟨_,_,_,_,rfl,fun n hp=>?_,lc u1 u2,fun hp ct id a b c d=>kZ u1 u2 hp ct id a b c d,fun ct=>by simp only[go_sem,yb,aQ,u1.pu,u1.one,u2.pu,u2.one],rfl,u1.one,rfl,u2.one,by simp[aW,aF,u1.pu,u2.pu],fun _ _=>rfl,fun n _=>u1.aj n,fun _ _=>rfl,fun n _=>u2.aj n⟩;exact b6 _ _ (by simp only[go_sem,u1.aj,u2.aj])
def aey{a b:Int}:b9 [a,b]=0↔a=0/\b=0:=by
 simp only[b9]
 grind
def atm{a b c:Int}:b9 [a,b,c]=0↔a=0/\b=0/\c=0:=by
 simp only[b9];by_cases h:a=0<;>by_cases h2:b=0<;>by_cases h3:c=0<;>simp[h,h2,h3]
end VE
end
section
namespace VE
open Go (IntKind)
def azj(n k:Nat)(h:n<k)(h0:k≠0):Hq k ((2:Rat)^n):=by
 refine⟨?_,?_⟩
 .rw [ycS];unfold Bd;show ((2:Int)^n).natAbs<_
  rw[Int.natAbs_pow];exact vB (by decide) h
 .rw [ycT];unfold Bd;show (((1:Nat)^n:Nat):Int).natAbs<_
  rw[Nat.one_pow];exact vX h0
def UW(k:Nat){z:Int}(h:Bd k z)(h0:k≠0):Hq k ((z:Int):Rat):=⟨by rw[uJ];exact h,by rw[uK];exact vX h0⟩
def ag5(k j:Nat){s:Bool}{M:Nat}(h:M<2^j)(hj:j<=k):Bd k (bK s M):=by
 unfold Bd bK
 have:(if s=ydb then -(M:Int) else (M:Int)).natAbs=M:=by split<;>omega
 rw[this];exact yG h (xa (by decide) hj)
def kP(s:Bool)(M:Nat):Rat:=((bK s M:Int):Rat)*p2 (-149)
section
variable {P:aE}{L:Lib}
def aiy(h:Fr' P L)(ze:Has P L 155 Fi)(HV:Has P L 241 LY){v:AV}{a:Rat}{K k:Nat}(hv:bS v a)(ka:Hq K a)(hK:K*k+1<=30000000000)(hk:k<9223372036854775808):∃r,ab P L 241 [v,aa k] r/\bS r (a^k):=by
 obtain⟨s1,w1,s2,w2,rfl,h1,h2⟩:=hv;obtain⟨l1,u1⟩:=h1.aO;obtain⟨l2,u2⟩:=h2.aO;obtain⟨n,e1,hn⟩:=XQ h.toNu ze ⟨s1,w1,rfl,h1⟩ ka.1 hK hk;obtain⟨d,e2,hd⟩:=XQ h.toNu ze ⟨s2,w2,rfl,h2⟩ ka.2 hK hk;obtain⟨s3,w3,rfl,h3⟩:=hn;obtain⟨s4,w4,rfl,h4⟩:=hd;obtain⟨l3,u3⟩:=h3.aO;obtain⟨l4,u4⟩:=h4.aO;refine⟨.agg [aa s3,w3,aa s4,w4],?_,s3,w3,s4,w4,rfl,by rw[ycS];exact h3,by rw[ycT,Int.natCast_pow];exact h4⟩
 unfold ab at e1 e2;unfold ab;rw[aD HV];simp only[go_sem,ya,yb,LY,aQ,u1.pu,u1.aj,u1.one,u2.pu,u2.aj,u2.one,u3.one,u4.one,aY,yd,Ak,E5,b6,e1,e2,bw,Eu,Ev,kZ u3 u4,cR,cS,yf,gY,lc u3 u4]
def PV:Hq 2 (2:Rat):=⟨by unfold Bd;decide,by unfold Bd;decide⟩
def aBM(h:Fr' P L)(ze:Has P L 155 Fi)(HV:Has P L 241 LY)(R5:Has P L 228 LW){k:Int}(hk: -100000<=k/\k<=100000):∃r,ab P L 228 [aa k] r/\bS r (p2 k):=by
 obtain⟨t,e1,ht⟩:=Gc h (z:=2) (by decide) (by decide);have ht:bS t (2:Rat):=ht;have un:=zV;obtain⟨t1,t2,t3,t4,rfl,ft⟩:=ht.gen;by_cases c:k<0
 .obtain ⟨n,hn⟩:∃n:Nat,k= -(n:Int):=⟨k.natAbs,by omega⟩;obtain⟨q,e2,hq⟩:=aiy h ze HV ht PV (k:=n) (by omega) (by omega);have kq:Hq 100001 ((2:Rat)^n):=azj n 100001 (by omega) (by decide);have h0:(2:Rat)^n≠0:=by
   have:=WB n
   rwa[show p2 n=(2:Rat)^n from tg _ _] at this
  obtain⟨r,e3,hr⟩:=m73 h hq h0 kq (by decide);obtain⟨q1,q2,q3,q4,rfl,fq⟩:=hq.gen;have hp:((2:Rat)^n)⁻¹=p2 k:=by
   rw[hn];unfold p2;rw[ycD,tg]
  rw[hp] at hr;have bg:=hr;obtain⟨s1,w1,s2,w2,rfl,k1,k2⟩:=hr;obtain⟨l1,u1⟩:=k1.aO;obtain⟨l2,u2⟩:=k2.aO;refine⟨_,?_,bg⟩;have wn:IntKind.wrap .i64 (0-k)=(n:Int):=by rw[wrap64 (by omega) (by omega)];omega
  unfold ab at e1 e2 e3;unfold ab;rw[aD R5];simp only[go_sem,ya,yb,LW,aQ,c,yI,e1,ft.aj,wn,e2,fq.aj,e3,bw,kZ u1 u2,cR,cS,yf,gY,lc u1 u2]
 .obtain ⟨n,hn⟩:∃n:Nat,k=(n:Int):=⟨k.natAbs,by omega⟩;subst hn;obtain⟨r,e2,hr⟩:=aiy h ze HV ht PV (k:=n) (by omega) (by omega);have hp:(2:Rat)^n=p2 n:=(tg _ _).symm;rw[hp] at hr;have bg:=hr;obtain⟨s1,w1,s2,w2,rfl,k1,k2⟩:=hr;obtain⟨l1,u1⟩:=k1.aO;obtain⟨l2,u2⟩:=k2.aO;refine⟨_,?_,bg⟩;unfold ab at e1 e2;unfold ab;rw[aD R5];simp only[go_sem,ya,yb,LW,aQ,c,yM,e1,ft.aj,e2,bw,kZ u1 u2,cR,cS,yf,gY,lc u1 u2]
end
end VE
end
section
namespace VE
open Go (IntKind)
section
variable {s:Bool}{M:Nat}
def qU(b:Nat):refs (.aw .f32 b)=[]:=rfl
def rh(f:Nat->Option Nat)(b:Nat):bq f (.aw .f32 b)=.aw .f32 b:=rfl
def ml(n:Nat)(hp:Hp)(b:Nat):freeze (n+1) hp (.aw .f32 b)=Gp (.aw .f32 b,hp):=rfl
structure Fx(P:aE)(L:Lib):Prop extends Fr' P L where
 ze:Has P L 155 Fi
 R5:Has P L 228 LW
 aBN:Has P L 232 nM
 HV:Has P L 241 LY
def sC:Hp:=[(0,.cells ydb ydb ydb 4 [.int .i64 0,.ah,.int .i64 0,.ah])]
section
variable {P:aE}{L:Lib}
def aw0(hM:M<2^277):
  c6 P L [0,2,3] KO (fun d st=>∃(b:Nat) (N:Nat) (k:Nat),d=N/\Fl b s N/\N*2^k=M/\(M=0->k=0)/\st=⟨[(0,.aw .f32 b),(2,.ptr 0 0),(3,aa k)],sC,1,0⟩) (fun ex s'=>∃tm ct b N,∃k:Nat,s'=⟨tm,sC,ct,0⟩/\ex=.exit 0/\Fl b s N/\N*2^k=M/\N<2^173/\k<277/\ak tm 0=.aw .f32 b/\ak tm 2=.ptr 0 0/\ak tm 3=aa k):=by
 apply c9;rintro d st ⟨b,N,k,hd,hN,hq,hz,rfl⟩;have hk:k<277:=by
  by_cases h0:M=0
  .rw [hz h0];decide
  .have N0:0<N:=by
    rcases xq N with q | q
    .rw [q,wC] at hq;exact absurd hq.symm h0
    .exact q
   have h1:2^k<=N*2^k:=ug _ N0;exact aie k 277 (wo (by rw[hq] at h1;exact h1) hM)
 obtain⟨a,e1,ha⟩:=ay7 hN;have e2:=agQ ha agT;have hc:(bK ydc (2^173)<=bK ydc N)↔2^173<=N:=ycE;unfold sC;by_cases c:2^173<=N
 .left
  obtain⟨b',e3,bJ⟩:=afh hN (hN.even c);have AS:=hN.even c;rw[xk (hc.2 c)] at e2;have wk:IntKind.wrap .i64 ((k:Int)+1)=((k+1:Nat):Int):=wrap64 (by omega) (by omega);simp only[go_sem,ya,KO,agS,EO,e1,e2,e3,wk];have jM:0<2^k:=xm _;have ss:M≠0:=fun q=>by
   rw[q] at hq
   have:=wU (show 0<N by omega) jM
   omega
  refine⟨_,N/2,rfl,by omega,b',N/2,k+1,rfl,bJ,by rw[xn,xt (2^k),<-xj,show N/2*2=N by omega,hq],fun q=>absurd q ss,?_⟩;simp only[go_sem,ya,yb,ax,qU,rh]<;>rfl
 .right
  rw[yW (fun q=>c (hc.1 q))] at e2;simp only[go_sem,ya,KO,agS,EO,e1,e2];exact⟨_,_,rfl,by simp,_,_,b,N,k,rfl,rfl,hN,hq,by omega,hk,by simp only[go_sem,ya],by simp only[go_sem,ya],by simp only[go_sem,ya]⟩
def aw1:
  c6 P L [0,2,3] KP (fun d st=>∃(b:Nat) (N:Nat) (j:Nat) (k:Int),d+j=149/\Fl b s N/\2^j∣N/\N<2^173/\(N:Rat)*p2 k=(M:Rat)/\-149<=k+j/\k+j<=277/\st=⟨[(0,.aw .f32 b),(2,.ptr 0 0),(3,aa k)],sC,1,0⟩) (fun ex s'=>∃tm ct b N,∃k:Int,s'=⟨tm,sC,ct,0⟩/\ex=.exit 2/\Fl b s N/\N%2^149=0/\N<2^173/\(N:Rat)*p2 k=(M:Rat)/\-298<=k/\k<=277/\ak tm 0=.aw .f32 b/\ak tm 2=.ptr 0 0/\ak tm 3=aa k):=by
 apply c9;rintro d st ⟨b,N,j,k,hd,hN,hj,aH,hq,k1,k2,rfl⟩;have rL:N<2^200:=vC aH (by decide);have e1:=Pu hN rL;have hn:N/2^149<2^24:=by rw[xE (xm _),<-xH];exact aH
 have ha:(bK s (N/2^149)).natAbs=N/2^149:=by unfold bK;split<;>omega
 obtain⟨c,e2,hc⟩:=aeq (n:=bK s (N/2^149)) (by omega);rw[ha] at hc;have e3:=agR hN hc;have fc:=xX N (2^149);have hw:(bK s N=bK (decide (bK s (N/2^149)<0)) (N/2^149*2^149))↔N%2^149=0:=by
  have Z5:N/2^149=0->N/2^149*2^149=0:=fun h=>by rw[h,wC]
  generalize hQ:N/2^149=q at*
  generalize hR:N%2^149=r at*
  rw[xt] at fc;generalize q*2^149=X at*
  unfold bK
  cases s with
  | false=>
   have:decide ((if ydc=ydb then -(q:Int) else (q:Int))<0)=ydc:=yW (by simp)
   rw[this];simp;omega
  | true=>
   rw[yC rfl,yC rfl];by_cases q0:q=0
   .have hX:=Z5 q0
    have:decide (-(q:Int)<0)=ydc:=yW (by omega)
    rw[this,yr (by decide)];omega
   .have:decide (-(q:Int)<0)=ydb:=xk (by omega)
    rw[this,yC rfl];omega
 unfold sC;by_cases w:N%2^149=0
 .right
  rw[xk (hw.2 w)] at e3;simp only[go_sem,ya,KP,e1,e2,e3,yY];have aF8:j<=149:=by omega
  exact⟨_,_,rfl,by simp,_,_,b,N,k,rfl,rfl,hN,w,aH,hq,by omega,by omega,by simp only[go_sem,ya],by simp only[go_sem,ya],by simp only[go_sem,ya]⟩
 .left
  rw[yW (fun q=>w (hw.1 q))] at e3;have aBO:N<2^172:=by
   by_cases q:N<2^172
   .exact q
   .exact absurd (hN.whole (by omega)) w
  obtain⟨b',e4,bJ⟩:=afg hN (vC aH (aid 173 276 (by decide)));have MX:j<149:=by
   rcases vm j 149 with q | q
   .exact q
   .have:j=149:=by omega
    subst this;exact absurd (yaQ hj) w
  have wk:IntKind.wrap .i64 (k-1)=k-1:=wrap64 (by omega) (by omega);simp only[go_sem,ya,KP,e1,e2,e3,yZ,e4,wk];refine⟨_,d-1,rfl,by omega,b',2*N,j+1,k-1,by omega,bJ,by rw[xn,xt (2^j)];exact ybe 2 hj,by omega,?_,by omega,by omega,?_⟩
  .rw [<-hq,xQ]
   have:p2 k=p2 1*p2 (k-1):=by rw[<-lJ,show 1+(k-1)=k by omega]
   rw[this,BV];show (2:Rat)*(N:Rat)*p2 (k-1)=(N:Rat)*(2*p2 (k-1))
   grind
  .simp only [go_sem,ya,yb,ax,qU,rh]<;>rfl
def afn{N:Nat}{k:Int}(h:(N:Rat)*p2 k=(M:Rat))(hw:N%2^149=0):((bK s (N/2^149):Int):Rat)*p2 k=kP s M:=by
 have e:N=N/2^149*2^149:=by have:=xX N (2^149);omega
 have h1:((N/2^149:Nat):Rat)*p2 149=(N:Rat):=by
  conv=>rhs;rw[e,xQ,<-mO]
  rfl
 generalize N/2^149=n at h1;have h2:((n:Nat):Rat)*p2 k=(M:Rat)*p2 (-149):=by
  rw[<-h,<-h1]
  have:p2 149*p2 (-149)=1:=by rw[<-lJ];exact FH
  have h3:(n:Rat)*p2 149*p2 k*p2 (-149)=(n:Rat)*p2 k*(p2 149*p2 (-149)):=by grind
  rw[h3,this,vJ]
 unfold kP bK;have c1:(((n:Nat):Int):Rat)=(n:Rat):=rfl;have c2:(((M:Nat):Int):Rat)=(M:Rat):=rfl
 cases s with
 | true=>rw[yC rfl,yC rfl,uI,uI,c1,c2];grind
 | false=>rw[yr (by decide),yr (by decide),c1,c2];exact h2
def WG(k:Int):Hq (k.natAbs+2) (p2 k):=by
 by_cases c:0<=k
 .obtain ⟨n,rfl⟩:∃n:Nat,k=n:=⟨k.natAbs,by omega⟩;rw[show p2 (n:Int)=((2^n:Nat):Int) from mO n];exact⟨by rw[uJ];unfold Bd;rw[wz];exact vB (by decide) (by omega),by rw[uK];unfold Bd;exact vX (by omega)⟩
 .obtain ⟨n,rfl⟩:∃n:Nat,k= -(n:Int):=⟨k.natAbs,by omega⟩
  have:p2 (-(n:Int))=(p2 n)⁻¹:=by unfold p2;rw[ycD]
  rw[this];refine Hq.inv ?_;rw[show p2 (n:Int)=((2^n:Nat):Int) from mO n];exact⟨by rw[uJ];unfold Bd;rw[wz];exact vB (by decide) (by omega),by rw[uK];unfold Bd;exact vX (by omega)⟩
def Ya(k:Int)(hk:k.natAbs<=900):Hq 1001 (p2 k):=(WG k).mono (by omega)
def aBP(h:Fx P L){b:Nat}(hb:Fl b s M):∃r,ab P L 232 [.aw .f32 b] r/\bS r (kP s M):=by
 have key:∀(b' N:Nat) (k:Int) (tm:Env) (ct:Nat),Fl b' s N->N%2^149=0->N<2^173->(N:Rat)*p2 k=(M:Rat)-> -298<=k->k<=277->ak tm 0=.aw .f32 b'->ak tm 2=.ptr 0 0->ak tm 3=aa k->∃r,gM nM.dR (D P L (BB 3 nM.body) ⟨[(0,.aw .f32 b'),(2,.ptr 0 0),(3,aa k)],sC,1,0⟩)=Gp r/\bS r (kP s M):=by
  intro b' N k tm ct hN hw aH hq k1 k2 _ _ _;have e1:=Pu hN (vC aH (by decide));have hn:N/2^149<2^24:=by rw[xE (xm _),<-xH];exact aH
  have ha:(bK s (N/2^149)).natAbs=N/2^149:=by unfold bK;split<;>omega
  have hx:=afn (s:=s) hq hw;generalize bK s (N/2^149)=z at*
  obtain⟨u,e2,hu⟩:=Gc h.toFr' (z:=z) (by omega) (by omega);obtain⟨v,e3,hv⟩:=aBM h.toFr' h.ze h.HV h.R5 (k:=k) (by omega);have ku:Hq 25 ((z:Int):Rat):=⟨by rw[uJ];unfold Bd;omega,by rw[uK];unfold Bd;decide⟩
  obtain⟨r,e4,hr⟩:=S4 h.toFr' hu hv (ku.mono (show 25<=1001 by decide)) (Ya k (by omega)) (by decide);rw[hx] at hr;have bg:=hr;obtain⟨u1,u2,u3,u4,rfl,fu⟩:=hu.gen;obtain⟨v1,v2,v3,v4,rfl,fv'⟩:=hv.gen;obtain⟨r1,r2,r3,r4,rfl,fr⟩:=hr.gen;refine⟨_,?_,bg⟩;unfold ab at e2 e3 e4;unfold sC;simp only[go_sem,ya,nM,BB,aC,e1,e2,fu.aj,e3,fv'.aj,e4,fr.dR,fr.st,bw,cR,cS,yf,gY]
 have l1:=aw0 (P:=P) (L:=L) (s:=s) hb.lt M;unfold ab;rw[aD h.aBN];have cut:nM.body=.seq (bD nM.body) (.seq (bD (BB 0 nM.body)) (.seq (bD (BB 1 nM.body)) (.seq (bD (BB 2 nM.body)) (BB 3 nM.body)))):=rfl;show ∃r,gM nM.dR (D P L nM.body _)=Gp r/\_
 rw[cut];generalize BB 3 nM.body=T at key ⊢;simp only[go_sem,yb,nM,BB,aC,bD,aQ];generalize hq:D P L (.loop _ KO) _=q;obtain⟨ex,st,rfl,tm,ct,b',N,k,rfl,rfl,hN,Z6,aH,hk,t0,t2,t3⟩:=bL hq l1 ⟨b,M,0,rfl,hb,by rw[vN,ym],fun _=>rfl,by unfold sC;simp only[go_sem,ya,yb,ax,qU,rh]<;>rfl⟩
 unfold sC;simp only[go_sem,yb,ax,t0,t2,t3,qU,rh];generalize hq:D P L (.loop _ KP) _=q;have l2:=aw1 (P:=P) (L:=L) (s:=s) (M:=M) 149;obtain⟨ex,st,rfl,tm,ct,b2,N2,k2,rfl,rfl,Z7,hw,rL,AZ,k3,k4,u0,u2,u3⟩:=bL hq l2 ⟨b',N,0,k,rfl,hN,by rw[vN];exact ycU N,aH,by rw[<-Z6,xQ,mO],by omega,by omega,by unfold sC;simp only[go_sem,ya,yb,ax,qU,rh]<;>rfl⟩
 unfold sC;simp only[go_sem,yb,ax,u0,u2,u3,qU,rh];exact key b2 N2 k2 tm ct Z7 hw rL AZ k3 k4 u0 u2 u3
end
end
end VE
end
section
namespace VE
open Go (IntKind)
section
variable {a b c d:AV}{cs:List AV}{l:List Rat}{x:Rat}
def QL:List AV->List Rat->Prop
 | [],[]=>True
 | a::b::c::d::r,x::l=>bS (.agg [a,b,c,d]) x/\QL r l
 | _,_=>False
def QL.nil:QL [] []:=trivial
def QL.cons{r:List AV}(h1:bS (.agg [a,b,c,d]) x)(h2:QL r l):QL (a::b::c::d::r) (x::l):=⟨h1,h2⟩
def QL.inv(h:QL cs (x::l)):∃a b c d r,cs=a::b::c::d::r/\bS (.agg [a,b,c,d]) x/\QL r l:=by
 match cs,h with
 | a::b::c::d::r,h=>exact⟨a,b,c,d,r,rfl,h.1,h.2⟩
def QL.aiz(h:QL cs []):cs=[]:=by
 match cs,h with
 | [],_=>rfl
 | [_],h=>exact h.elim
 | [_,_],h=>exact h.elim
 | [_,_,_],h=>exact h.elim
 | _::_::_::_::_,h=>exact h.elim
def QL.len:∀{l:List Rat} {cs:List AV},QL cs l->cs.length=l.length*4
 | [],_,h=>by rw[h.aiz];rfl
 | x::l,cs,h=>by
  obtain⟨a,b,c,d,r,rfl,_,h2⟩:=h.inv
  have:=h2.len
  grind
def F4.Z8{c1 c2 c3 c4:AV}(g:F4 c1 c2 c3 c4):aW c1=ydb/\aW c2=ydb/\aW c3=ydb/\aW c4=ydb:=by
 have:=g.pu
 simpa only[aW,aF,vL,ye] using this
def bS.f4(h:bS (.agg [a,b,c,d]) x):F4 a b c d:=by
 have⟨_,_,_,_,e,g⟩:=h.gen
 grind
def QL.di:∀{l m:List Rat} {cs ds:List AV},QL cs l->QL ds m->QL (cs++ds) (l++m)
 | [],m,cs,ds,h,k=>by rw[h.aiz];exact k
 | x::l,m,cs,ds,h,k=>by
  obtain⟨a,b,c,d,r,rfl,h1,h2⟩:=h.inv;exact⟨h1,h2.di k⟩
def QL.snoc(h:QL cs l)(k:bS (.agg [a,b,c,d]) x):QL (cs++[a,b,c,d]) (l++[x]):=h.di ⟨k,trivial⟩
def QL.get:∀{l:List Rat} {cs:List AV} {i:Nat},QL cs l->∀(hi:i<l.length),∃a b c d r,cs.drop (i*4)=a::b::c::d::r/\bS (.agg [a,b,c,d]) l[i]
 | [],_,i,_,hi=>absurd hi (Nat.not_lt_zero i)
 | x::l,cs,0,h,hi=>by
  obtain⟨a,b,c,d,r,rfl,h1,_⟩:=h.inv
  grind
 | x::l,cs,i+1,h,hi=>by
  obtain⟨a,b,c,d,r,rfl,_,h2⟩:=h.inv;have⟨a',b',c',d',r',e,k⟩:=h2.get (i:=i) (by simpa using hi)
  grind
def mY(v:AV)(l:List Rat):Prop:=(v=.ah/\l=[])\/∃e cs,v=.ap e l.length cs/\QL cs l
section
variable {v:AV}{l:List Rat}{hp:Hp}
def mY.len(h:mY v l){hp:Hp}:jo hp 1 v=Gp (.int .i64 (l.length:Nat)):=by
 rcases h with ⟨rfl,rfl⟩ | ⟨e,cs,rfl,h⟩<;>rfl
def mY.pu(h:mY v l):aW v=ydb:=by
 rcases h with ⟨rfl,rfl⟩ | ⟨e,cs,rfl,h⟩<;>rfl
def mY.aj(h:mY v l)(n:Nat){hp:Hp}:freeze (n+1) hp v=Gp (v,hp):=by
 rcases h with ⟨rfl,rfl⟩ | ⟨e,cs,rfl,h⟩<;>rfl
def mY.bk(h:mY v l){i:Nat}(hi:i<l.length):∃a b c d r,gH 4 i v=Gp (.bC (a::b::c::d::r))/\bS (.agg [a,b,c,d]) l[i]:=by
 rcases h with ⟨rfl,rfl⟩ | ⟨e,cs,rfl,h⟩
 .grind
 .have ⟨a,b,c,d,r,e1,e2⟩:=h.get hi;refine⟨a,b,c,d,r,?_,e2⟩;rw[Pj e _ hi,e1]
def UX(e:Bool)(h:QL cs l):mY (.ap e l.length cs) l:=.inr ⟨e,cs,rfl,h⟩
end
def MG(hp:Hp)(cs:List AV):gn hp 4 ydb (.bC cs)=ie 4 ydb cs:=rfl
def fw(s:Rat)(l:List Rat):Rat:=l.foldl (·+·) s
def Up{s:Rat}{i:Nat}(h:i<l.length):fw s (l.take (i+1))=fw s (l.take i)+l[i]:=by
 rw[xi h];simp only[fw,List.foldl_append,List.foldl_cons,List.foldl_nil]
def afo{K:Nat}:∀{l:List Rat} {s:Rat} {M:Nat},Hq M s->(∀x,x∈l->Hq K x)->Hq (M+l.length*(K+1)) (fw s l)
 | [],s,M,hs,_=>by simpa[fw] using hs
 | x::l,s,M,hs,hl=>by
  have:=afo (l:=l) (hs.add (hl x List.mem_cons_self)) (fun y hy=>hl y (List.mem_cons_of_mem _ hy))
  refine Hq.mono (m:=M+(x::l).length*(K+1)) this ?_;simp only[yF,xR];lia
def Pz{K M:Nat}{s:Rat}(hs:Hq M s)(hl:∀x,x∈l->Hq K x)(i:Nat):Hq (M+l.length*(K+1)) (fw s (l.take i)):=
 (afo hs (fun x hx=>hl x (List.mem_of_mem_take hx))).mono (by rw[yQ];have:=yO (K+1) (Nat.min_le_right i l.length);lia)
end
end VE
end
section
namespace VE
open Go (IntKind)
def aw2{r:Rat}{K:Nat}(h:Hq K r)(hK:K<=1800):(aB r.num.natAbs).length<=600/\(aB r.den).length<=600:=by
 refine⟨TQ (B:=K) hK (by decide) h.1,TQ (B:=K) hK (by decide) ?_⟩
 have:=h.2
 unfold Bd at this
 grind
def azk{r:Rat}{K:Nat}(h:Hq K r)(hK:K<=1800):LG r=ydc:=by
 obtain⟨h1,h2⟩:=aw2 h hK;unfold LG LN
 grind
end VE
end
section
namespace VE
open Go (IntKind)
section
variable {P:aE}{L:Lib}
def aiA(h:Ck P L){s:List Nat}(h0:iL s=0):∃r,ab P L 62 [.str s] r/\bS r (gZ s):=by
 have⟨hR,_⟩:=O3 h0;have kr:=Pw h0 (yp 2400);have hl:=Hj kr;have⟨r,e,hr⟩:=m62 h.toTx (a:=gZ s) (by lia);rw[<-hR] at e;exact⟨r,e,hr⟩
end
end VE
end
section
namespace VE
open Go (IntKind)
def atn(a b:Rat):decide (FE a b<=0)=decide (a<=b):=by
 unfold FE;by_cases h1:a<b
 .have:a<=b:=Rat.le_of_lt h1
  simp[h1,this]
 .by_cases h2:a=b
  .subst h2;simp[tV]
  .have:¬a<=b:=by grind
   simp[h1,h2,this]
def aez(a b:Rat):decide (0<=FE a b)=decide (b<=a):=by
 unfold FE;by_cases h1:a<b
 .have:¬b<=a:=by grind
  simp[h1,this]
 .by_cases h2:a=b
  .subst h2;simp[tV]
  .have:b<=a:=by grind
   simp[h1,h2,this]
def Dx:dd (.int .i64 1)=Gp 1:=rfl
end VE
end
section
namespace VE
open Go (IntKind)
section
variable {P:aE}{L:Lib}
def azl(h:Rp P L)(nP:Has P L 315 Av){a b:Rat}{K M:Nat}(ka:Hq K a)(kb:Hq M b)(hK:K+M+1<=8000000000):ab P L 315 [.str (RT a),.str (RT b)] (aa (FE a b)):=by
 have:=aBL h nP ka kb hK
 rwa[aex] at this
def aBQ(h:Rp P L)(nP:Has P L 315 Av)(zh:Has P L 449 BN){a b:Rat}{K:Nat}(ka:Hq K a)(kb:Hq K b)(hK:K<=1000000000):ab P L 449 [.str (RT a),.str (RT b)] (.str (RT (if a<b then b else a))):=by
 have e1:=azl h nP ka kb (by omega);unfold ab at e1 ⊢;rw[aD zh];by_cases hb:a<b
 .rw [yC hb];simp only[go_sem,ya,BN,e1,aez,yW (show ¬b<=a from ybq.2 hb)]
 .rw [yr hb];simp only[go_sem,ya,BN,e1,aez,xk (show b<=a from Rat.not_lt.1 hb)]
end
end VE
end
section
namespace VE
open Go (IntKind)
section
variable {P:aE}{L:Lib}
def ato(q:Rat):decide (bW q.num<=0)=decide (q<=0):=by
 have h:=atn q 0
 rwa[<-aex,yav,Rat.neg_zero,Rat.add_zero] at h
end
end VE
end
section
namespace VE
open Go (IntKind)
def pw(b:Rat):Nat->Rat
 | 0=>1
 | n+1=>pw b n*b
def afp(b:Rat)(m:Nat):∀n,pw b (m+n)=pw b m*pw b n
 | 0=>by rw[yX,pw,vJ]
 | n+1=>by rw[<-uP,pw,pw,afp b m n,vD]
def LH{b:Rat}{K:Nat}(h:Hq K b):∀n,Hq (K*n+2) (pw b n)
 | 0=>aBK.mono (by omega)
 | n+1=>((LH h n).mul h).mono (by rw[Nat.mul_succ];omega)
section
variable {P:aE}{L:Lib}
def aw3(h:Rn P L){b:Rat}{K k0:Nat}(hb:Hq K b)(hK:K*k0<=1000000000):
  c6 P L [0,1,5] G5 (fun m st=>∃i e o:Nat,st=⟨[(0,.str (RT (pw b i))),(1,aa e),(5,.str (RT (pw b o)))],[],0,0⟩/\o+i*e=k0/\e<9223372036854775808/\e=m) (fun ex st'=>∃tm ct,st'=⟨tm,[],ct,0⟩/\ex=.exit 0/\ak tm 5=.str (RT (pw b k0))):=by
 apply c9;rintro m st ⟨i,e,o,rfl,ho,he,rfl⟩;by_cases h0:0<e
 .left
  have hi:i<=k0:=by have:=yaL i h0;omega
  have ki:K*i<=1000000000:=xo (yV K hi) hK;have ko:K*o<=1000000000:=xo (yV K (show o<=k0 by omega)) hK;have e1:=Hr h (LH hb i) (LH hb i) (by omega);have e2:=Hr h (LH hb o) (LH hb i) (by omega);rw[<-afp] at e1 e2;have r2:(e:Int).tmod 2=((e%2:Nat):Int):=rfl;have q2:(e:Int).tdiv 2=((e/2:Nat):Int):=rfl;have d0:(2:Int)≠0:=by decide
  have hs:e=2*(e/2)+e%2:=by omega
  have hm:e%2<2:=by omega
  unfold ab at e1 e2;generalize e/2=f at*
  generalize e%2=g at*
  have w1:IntKind.wrap .i64 (g:Int)=g:=wrap64 (by omega) (by omega);have w2:IntKind.wrap .i64 (f:Int)=f:=wrap64 (by omega) (by omega);by_cases h1:g=1
  .have d1:decide ((g:Int)=1)=ydb:=xk (by omega);simp only[go_sem,ya,G5,show (0:Int)<(e:Int) by omega,yI,fH _ _ _ d0,eX _ _ _ d0,r2,q2,w2,d1,e1,e2];refine⟨_,f,rfl,by omega,i+i,f,o+i,by simp only[go_sem,ya,ax],?_,by omega,rfl⟩;rw[<-ho,hs,h1];grind
  .have d1:decide ((g:Int)=1)=ydc:=yW (by omega);simp only[go_sem,ya,G5,show (0:Int)<(e:Int) by omega,yI,fH _ _ _ d0,eX _ _ _ d0,r2,q2,w2,d1,e1];refine⟨_,f,rfl,by omega,i+i,f,o,by simp only[go_sem,ya,ax],?_,by omega,rfl⟩;have hg:g=0:=by omega
   rw[<-ho,hs,hg];grind
 .right
  obtain rfl:e=0:=by omega
  obtain rfl:o=k0:=by omega
  simp only[go_sem,ya,G5,show ¬(0:Int)<((0:Nat):Int) by omega,yM];exact⟨_,_,rfl,by simp,_,_,rfl,rfl,by simp only[go_sem,ya]⟩
def aiB(h:Rn P L)(FJ:Has P L 389 HG){b:Rat}{K k:Nat}(hb:Hq K b)(hK:K*k<=1000000000)(hk:k<9223372036854775808):ab P L 389 [.str (RT b),aa k] (.str (RT (pw b k))):=by
 unfold ab;rw[aD FJ];simp only[go_sem,ya,HG,show ¬(k:Int)<0 by omega,yM];generalize hq:D P L (.loop _ G5) _=q;obtain⟨ex,st,rfl,tm,ct,rfl,rfl,t5⟩:=bL hq (aw3 h hb hK k) ⟨1,k,0,by simp only[go_sem,ya,ax,pw,ybf,aBJ],by omega,hk,rfl⟩;simp only[go_sem,ax,t5]
def azm(h:Rn P L)(BW:Has P L 283 Fm)(FJ:Has P L 389 HG){b:Rat}{K k:Nat}(hb:Hq K b)(hK:K*k<=1000000000)(hk:k<9223372036854775808)(k0:0<k)(b0:b≠0)(hK2:K<=1000000000):ab P L 389 [.str (RT b),aa (-(k:Int))] (.str (RT (pw b⁻¹ k))):=by
 have e1:=ag3 h BW hb (by omega) b0;have e2:=aiB h FJ (hb.inv) hK hk;unfold ab at e1 e2 ⊢;rw[aD FJ];have w:IntKind.wrap .i64 (0 - -(k:Int))=k:=by rw[show (0:Int) - -(k:Int)=k by omega];exact wrap64 (by omega) (by omega)
 simp only[go_sem,ya,HG,show -(k:Int)<0 by omega,yI,e1,w,e2]
end
end VE
end
section
namespace VE
open Go (IntKind)
open Ieee
section
variable {s:Bool}{M:Nat}
structure Fy0(P:aE)(L:Lib):Prop extends Rn P L where
 X8:Has P L 265 QZ
 BW:Has P L 283 Fm
 FJ:Has P L 389 HG
structure Fy(P:aE)(L:Lib):Prop extends Fy0 P L where
 aiC:Has P L 429 Q9
 Yb:Has P L 430 Rc
def aw4{b:Nat}(h:Fl b ydb M)(h0:M≠0):∃b',binOp .sub (.aw .f32 0) (.aw .f32 b)=Gp (.aw .f32 b')/\Fl b' ydc M:=by
 obtain⟨m,e,h1,rfl⟩:=h.ex;obtain⟨b1,b2,b3,b4⟩:=h1.b;have m0:m≠0:=fun q=>h0 (by unfold dS;rw[q,wC])
 obtain⟨m',e',k1,k2,k3⟩:=JB (n:=m) (k:=e) m0 b2 b1 b4 (m0:=dS m e) (e0:= -149) ydc (by
  rw[zZ b1]
  have:p2 149*p2 (-149)=1:=by rw[<-lJ];exact FH
  rw[vD,this,vJ])
 have e1:single.sub 0 b=Gp (single.write (.number ydc (dS m e) (-149))):=by
  unfold Format.sub;rw[h1.read,show single.read 0=.number ydc 0 (-149) by decide];show Gp (single.write (.number (if signed ydc 0 ((-149:Int)-min (-149) e).toNat+signed (!ydb) m (e-min (-149) e).toNat=0 then ydc&&(!ydb) else decide (signed ydc 0 ((-149:Int)-min (-149) e).toNat+signed (!ydb) m (e-min (-149) e).toNat<0)) (signed ydc 0 ((-149:Int)-min (-149) e).toNat+signed (!ydb) m (e-min (-149) e).toNat).natAbs (min (-149) e)))=_
  have hm:min (-149) e= -149:=by omega
  have hs:signed ydc 0 ((-149:Int)-min (-149) e).toNat+signed (!ydb) m (e-min (-149) e).toNat=(dS m e:Nat):=by
   rw[hm];unfold signed dS;simp only[yY,yD,xz,uz,wC];rw[show e - -149=e+149 by omega];simp
  rw[hs,hm,yr (by omega),wz,yW (by omega)]
 refine⟨_,?_,m',e',k1,(as5 k1.b.1 b1 k3).symm⟩;show (match single.sub 0 b with | some b=>Gp (AV.aw .f32 b) | none=>none)=_
 rw[e1]
def ag6:∀k,pw 2 k=p2 k
 | 0=>by rw[show ((0:Nat):Int)=0 from rfl,FH];rfl
 | k+1=>by
  have ih:=ag6 k;rw[show ((k+1:Nat):Int)=(k:Int)+1 from rfl,lJ,BV,<-ih];show _=_
  simp only[pw]
def aw5(k:Nat):pw (2:Rat)⁻¹ k=p2 (-(k:Int)):=by
 have:∀k,pw (2:Rat)⁻¹ k*p2 k=1:=fun k=>by
  induction k with
  | zero=>rw[show ((0:Nat):Int)=0 from rfl,FH];simp[pw]
  | succ k ih=>
   rw[show ((k+1:Nat):Int)=(k:Int)+1 from rfl,lJ,BV];have h2:(2:Rat)⁻¹*2=1:=Rat.inv_mul_cancel _ (by decide);simp only[pw]
   have:pw (2:Rat)⁻¹ k*2⁻¹*(p2 k*2)=(pw (2:Rat)⁻¹ k*p2 k)*((2:Rat)⁻¹*2):=by grind
   rw[this,ih,h2,ybf]
 have h1:=this k;have h2:=VY (k:Int);have h3:pw (2:Rat)⁻¹ k*p2 k*p2 (-(k:Int))=p2 (-(k:Int)):=by rw[h1,ybf]
 rw[vD,yaC (p2 k),h2,vJ] at h3;exact h3
section
variable {P:aE}{L:Lib}
def aw6(hs:s=ydb->M=0)(hM:M<2^277):
  c6 P L [0,4] K0 (fun d st=>∃(b:Nat) (N:Nat) (k:Nat),d=N/\Fl b s N/\N*2^k=M/\(M=0->k=0)/\st=⟨[(0,.aw .f32 b),(4,aa k)],[],0,0⟩) (fun ex s'=>∃tm ct b N,∃k:Nat,s'=⟨tm,[],ct,0⟩/\ex=.exit 0/\Fl b s N/\N*2^k=M/\N<2^173/\k<277/\ak tm 0=.aw .f32 b/\ak tm 4=aa k):=by
 apply c9;rintro d st ⟨b,N,k,hd,hN,hq,hz,rfl⟩;have jM:0<2^k:=xm _;have hk:k<277:=by
  by_cases h0:M=0
  .rw [hz h0];decide
  .have N0:0<N:=by
    rcases xq N with q | q
    .rw [q,wC] at hq;exact absurd hq.symm h0
    .exact q
   have h1:2^k<=N*2^k:=ug _ N0;exact aie k 277 (wo (by rw[hq] at h1;exact h1) hM)
 have e2:=agQ hN agT;have hsN:bK s N=N:=by
  cases s with
  | false=>rfl
  | true=>
   have ss:=hs rfl
   have:N=0:=by
    rcases xq N with q | q
    .exact q
    .have:=wU q jM;omega
   subst this;rfl
 have hc:(bK ydc (2^173)<=bK s N)↔2^173<=N:=by rw[hsN];exact ycE
 by_cases c:2^173<=N
 .left
  have AS:=hN.even c;obtain⟨b',e3,bJ⟩:=afh hN AS;rw[xk (hc.2 c)] at e2;have wk:IntKind.wrap .i64 ((k:Int)+1)=((k+1:Nat):Int):=wrap64 (by omega) (by omega);simp only[go_sem,ya,K0,e2,e3,wk];have ss:M≠0:=fun q=>by
   have:=wU (show 0<N by omega) jM
   omega
  refine⟨_,N/2,rfl,by omega,b',N/2,k+1,rfl,bJ,by rw[xn,xt (2^k),<-xj,show N/2*2=N by omega,hq],fun q=>absurd q ss,?_⟩;simp only[go_sem,ya,ax,qU,rh]<;>rfl
 .right
  rw[yW (fun q=>c (hc.1 q))] at e2;simp only[go_sem,K0,e2];exact⟨_,_,rfl,by simp,_,_,b,N,k,rfl,rfl,hN,hq,by omega,hk,by simp only[go_sem,ya],by simp only[go_sem,ya]⟩
def aoE{N:Nat}:(bK s N=bK (decide (bK s (N/2^149)<0)) (N/2^149*2^149))↔N%2^149=0:=by
 have fc:=xX N (2^149);have Z5:N/2^149=0->N/2^149*2^149=0:=fun h=>by rw[h,wC]
 generalize hQ:N/2^149=q at*
 generalize hR:N%2^149=r at*
 rw[xt] at fc;generalize q*2^149=X at*
 unfold bK
 cases s with
 | false=>
  have:decide ((if ydc=ydb then -(q:Int) else (q:Int))<0)=ydc:=yW (by simp)
  rw[this];simp;omega
 | true=>
  rw[yC rfl,yC rfl];by_cases q0:q=0
  .have hX:=Z5 q0
   have:decide (-(q:Int)<0)=ydc:=yW (by omega)
   rw[this,yr (by decide)];omega
  .have:decide (-(q:Int)<0)=ydb:=xk (by omega)
   rw[this,yC rfl];omega
def aw7:
  c6 P L [0,4] K1 (fun d st=>∃(b:Nat) (N:Nat) (j:Nat) (k:Int),d+j=149/\Fl b s N/\2^j∣N/\N<2^173/\(N:Rat)*p2 k=(M:Rat)/\-149<=k+j/\k+j<=277/\st=⟨[(0,.aw .f32 b),(4,aa k)],[],0,0⟩) (fun ex s'=>∃tm ct b N,∃k:Int,s'=⟨tm,[],ct,0⟩/\ex=.exit 2/\Fl b s N/\N%2^149=0/\N<2^173/\(N:Rat)*p2 k=(M:Rat)/\-298<=k/\k<=277/\ak tm 0=.aw .f32 b/\ak tm 4=aa k):=by
 apply c9;rintro d st ⟨b,N,j,k,hd,hN,hj,aH,hq,k1,k2,rfl⟩;have rL:N<2^200:=vC aH (by decide);have e1:=Pu hN rL;have hn:N/2^149<2^24:=by rw[xE (xm _),<-xH];exact aH
 have ha:(bK s (N/2^149)).natAbs=N/2^149:=by unfold bK;split<;>omega
 obtain⟨c,e2,hc⟩:=aeq (n:=bK s (N/2^149)) (by omega);rw[ha] at hc;have e3:=agR hN hc;have hw:=aoE (s:=s) (N:=N);by_cases w:N%2^149=0
 .right
  rw[xk (hw.2 w)] at e3;simp only[go_sem,ya,K1,e1,e2,e3,yY];exact⟨_,_,rfl,by simp,_,_,b,N,k,rfl,rfl,hN,w,aH,hq,by omega,by omega,by simp only[go_sem,ya],by simp only[go_sem,ya]⟩
 .left
  rw[yW (fun q=>w (hw.1 q))] at e3;have aBO:N<2^172:=by
   by_cases q:N<2^172
   .exact q
   .exact absurd (hN.whole (by omega)) w
  obtain⟨b',e4,bJ⟩:=afg hN (vC aH (aid 173 276 (by decide)));have MX:j<149:=by
   rcases vm j 149 with q | q
   .exact q
   .have:j=149:=by omega
    subst this;exact absurd (yaQ hj) w
  have wk:IntKind.wrap .i64 (k-1)=k-1:=wrap64 (by omega) (by omega);simp only[go_sem,ya,K1,e1,e2,e3,yZ,e4,wk];refine⟨_,d-1,rfl,by omega,b',2*N,j+1,k-1,by omega,bJ,by rw[xn,xt (2^j)];exact ybe 2 hj,by omega,?_,by omega,by omega,?_⟩
  .rw [<-hq,xQ]
   have:p2 k=p2 1*p2 (k-1):=by rw[<-lJ,show 1+(k-1)=k by omega]
   rw[this,BV];show (2:Rat)*(N:Rat)*p2 (k-1)=(N:Rat)*(2*p2 (k-1))
   grind
  .simp only [go_sem,ya,ax,qU,rh]<;>rfl
def aBR(Yb:Has P L 430 Rc){b:Nat}(hb:Fl b s M)(hs:s=ydb->M=0):∃(n:Nat) (k:Int),ab P L 430 [.aw .f32 b] (.av [aa n,aa k])/\n<2^24/\-298<=k/\k<=277/\((n:Nat):Rat)*p2 k=kP s M:=by
 have l1:=aw6 (P:=P) (L:=L) hs hb.lt M;unfold ab;rw[aD Yb];simp only[go_sem,Rc];generalize hq:D P L (.loop _ K0) _=q;obtain⟨ex,st,rfl,tm,ct,b',N,k,rfl,rfl,hN,Z6,aH,hk,t0,t4⟩:=bL hq l1 ⟨b,M,0,rfl,hb,by rw[vN,ym],fun _=>rfl,by simp only[go_sem,ya,ax,qU,rh]<;>rfl⟩
 simp only[go_sem,ax,t0,t4,qU,rh];generalize hq:D P L (.loop _ K1) _=q;have l2:=aw7 (P:=P) (L:=L) (s:=s) (M:=M) 149;obtain⟨ex,st,rfl,tm,ct,b2,N2,k2,rfl,rfl,Z7,hw,rL,AZ,k3,k4,u0,u4⟩:=bL hq l2 ⟨b',N,0,k,rfl,hN,by rw[vN];exact ycU N,aH,by rw[<-Z6,xQ,mO],by omega,by omega,by simp only[go_sem,ya,ax,qU,rh]<;>rfl⟩
 have e1:=Pu Z7 (vC rL (by decide));have hn:N2/2^149<2^24:=by rw[xE (xm _),<-xH];exact rL
 have hx:=afn (s:=s) AZ hw;have A2:bK s (N2/2^149)=(N2/2^149:Nat):=by
  cases s with
  | false=>rfl
  | true=>
   have ss:=hs rfl
   have:N2=0:=by
    rw[ss] at AZ;have hp:=WB k2;have h0:((N2:Nat):Rat)*p2 k2=0:=AZ;rcases Rat.mul_eq_zero.1 h0 with q | q
    .exact_mod_cast q
    .exact absurd q hp
   subst this;rfl
 rw[A2] at hx e1;refine⟨N2/2^149,k2,?_,hn,k3,k4,hx⟩;simp only[go_sem,ya,ax,u0,u4,qU,rh,e1];rfl
end
end
end VE
end
section
namespace VE
open Go (IntKind)
section
variable {s:Bool}{M b:Nat}
def aw8:RT (2:Rat)=[50]:=by decide
def WH(h:Fl b s M):Hq 2500 (kP s M):=by
 have hM:=h.lt;have k1:Hq 278 (((bK s M:Int)):Rat):=UW 278 (ag5 278 277 hM (by decide)) (by decide);exact (k1.mul (Ya (-149) (by decide))).mono (by decide)
def atp(M:Nat):kP ydb M= -kP ydc M:=by
 unfold kP bK;rw[yC rfl,yr (by decide),uI];grind
section
variable {P:aE}{L:Lib}
def azn(h:Fy0 P L){k:Int}(h1: -300<=k)(h2:k<=300):ab P L 389 [.str [50],aa k] (.str (RT (p2 k))):=by
 rw[<-aw8];by_cases c:k<0
 .obtain ⟨n,rfl⟩:∃n:Nat,k= -(n:Int):=⟨k.natAbs,by omega⟩
  have:=azm h.toRn h.BW h.FJ PV (k:=n) (by omega) (by omega) (by omega) (by decide) (by decide)
  rwa[aw5] at this
 .obtain ⟨n,rfl⟩:∃n:Nat,k=n:=⟨k.natAbs,by omega⟩
  have:=aiB h.toRn h.FJ PV (k:=n) (by omega) (by omega)
  rwa[ag6] at this
def afq(h:Fy P L)(hb:Fl b s M)(hs:s=ydb->M=0):ab P L 429 [.aw .f32 b] (.str (RT (kP s M))):=by
 obtain⟨n,k,e1,hn,k1,k2,hq⟩:=aBR h.Yb hb hs;have e0:=agP hb Fl.zero;have aH:¬bK s M<bK ydc 0:=by
  cases s with
  | false=>show ¬(M:Int)<0;omega
  | true=>rw[hs rfl];decide
 rw[yW aH] at e0;have e2:=azg h.toRm h.X8 (n:=(n:Int)) (by omega);have e3:=azn h.toFy0 (k:=k) (by omega) (by omega);have kn:Hq 25 (((n:Int):Int):Rat):=⟨by rw[uJ];unfold Bd;rw[wz];omega,by rw[uK];unfold Bd;decide⟩
 have e4:=Hr h.toRn kn (Ya k (by omega)) (by decide);have bP:(((n:Nat):Int):Rat)*p2 k=kP s M:=hq;rw[bP] at e4;unfold ab at e1 e2 e3 e4;unfold ab;rw[aD h.aiC];simp only[go_sem,ya,Q9,e0,ml,e1,UN,TL,Ui,e2,e3,e4]
def aBS(h:Fy P L)(hb:Fl b s M):ab P L 429 [.aw .f32 b] (.str (RT (kP s M))):=by
 by_cases hs:s=ydb->M=0
 .exact afq h hb hs
 .have nf:s=ydb:=Classical.byContradiction fun q=>hs fun q'=>absurd q' q
  have hM:M≠0:=fun q=>hs fun _=>q
  subst nf;obtain⟨b',e1,bJ⟩:=aw4 hb hM;have e2:=afq h bJ (fun q=>by cases q);have e3:=ag1 h.toRp (WH bJ) (by decide);rw[<-atp] at e3;have e0:=agP hb Fl.zero;have aH:bK ydb M<bK ydc 0:=by show -(M:Int)<0;omega
  rw[xk aH] at e0;unfold ab at e2 e3;unfold ab;rw[aD h.aiC];simp only[go_sem,ya,Q9,e0,e1,ml,e2,e3]
end
end
end VE
end
section
namespace VE
open Go (IntKind)
section
variable {P:aE}{L:Lib}
def acs{b x:Nat}{H:Hp}(hx:x<b):∀{aiD:Hp},(∀p,p∈aiD->b<=p.1)->ai (aiD++H) x=ai H x
 | [],_=>rfl
 | (id,o)::r,h=>by
  have:=h (id,o) (by simp)
  simp only[yj];rw[ai,gU (by simp only at this;omega),yP,acs hx (fun p hp=>h p (by simp[hp]))]
end
end VE
end
section
namespace VE
open Go (IntKind)
def lyT(w:AV)(hh sc st ox oy wx wy:List Nat):AV:=.agg [w,.str hh,.str sc,.str st,.str ox,.str oy,.str wx,.str wy]
noncomputable def aBT(s:List (List Int))(hh sc st ox oy wx wy:List Nat):Int:=b9 [anI s,aix hh 0,aix sc 1,iL st,b9 [iL ox,iL oy],b9 [iL wx,iL wy]]
def al9{a:Int}{l:List Int}:b9 (a::l)=0↔a=0/\b9 l=0:=by
 simp only[b9]
 grind
end VE
end
section
namespace VE
open Go (IntKind)
open Ieee
def amY(q:Rat):0<=bW q.num↔0<=q:=by
 rw[<-ycc];unfold bW;constructor
 .intro h;split at h<;>omega
 .intro h;split
  .omega
  .split<;>omega
def JV(q:Rat):bW q.num<0↔q<0:=by
 have h:=amY q;constructor
 .intro c;exact ybq.1 fun q'=>by have:=h.2 q';omega
 .intro c;exact Int.not_le.1 fun q'=>absurd (h.1 q') (ybq.2 c)
def aoF(q:Rat):(-q).num= -q.num:=rfl
def abr(q:Rat):0<bW q.num↔0<q:=by
 have h:=JV (-q);rw[aoF] at h;have h2:0<bW q.num↔bW (-q.num)<0:=by
  unfold bW;constructor
  .intro c;split at c
   .omega
   .split at c
    .omega
    .rw [yC (by omega)];decide
  .intro c;split at c
   .rw [yr (by omega),yr (by omega)];decide
   .split at c<;>omega
 rw[h2,h];constructor
 .intro c;grind
 .intro c;grind
end VE
end
section
namespace VE
open Go (IntKind)
open Ieee
def gN(b:Nat):Bool:=match single.read b with
 | .number .. =>ydb
 | _=>ydc
def AB:List AV->Option AV
 | [.aw .f32 b]=>Gp (.bool (gN b))
 | _=>none
def Fl.fin{b M:Nat}{s:Bool}(h:Fl b s M):gN b=ydb:=by
 obtain⟨m,e,h1,_⟩:=h.ex;unfold gN;rw[h1.read]
def aw9{b:Nat}(hb:b<4294967296):(∃s M,Fl b s M)\/gN b=ydc:=by
 rcases awH (f:=single) (b:=b) hb (by decide) with ⟨s,m,e,h⟩ | h
 .exact .inl ⟨s,_,⟨m,e,h,rfl⟩⟩
 .right
  unfold gN
  cases hr:single.read b with
  | number s m e=>exact absurd hr (h s m e)
  | _=>rfl
abbrev dQ(l:List Nat):List AV:=l.map (.aw .f32)
end VE
end
section
namespace VE
open Go
open Ieee
def aeA{b m:Nat}{s:Bool}{e:Int}(h:single.read b=.number s m e):single.sub b b=Gp 0:=by
 unfold Format.sub;rw[h];show Gp (single.write (.number (if signed s m (e-min e e).toNat+signed (!s) m (e-min e e).toNat=0 then s&& !s else decide (signed s m (e-min e e).toNat+signed (!s) m (e-min e e).toNat<0)) (signed s m (e-min e e).toNat+signed (!s) m (e-min e e).toNat).natAbs (min e e)))=Gp 0
 have h0:signed s m (e-min e e).toNat+signed (!s) m (e-min e e).toNat=0:=by
  unfold signed;cases s<;>simp<;>omega
 rw[h0,yC rfl];have hs:(s&& !s)=ydc:=by cases s<;>rfl
 rw[hs];rfl
def atq{b:Nat}(h:∀s m e,single.read b≠.number s m e):single.sub b b=none:=by
 unfold Format.sub
 cases hr:single.read b with
 | number s m e=>exact absurd hr (h s m e)
 | infinity s=>cases s<;>rfl
 | nan s t=>rfl
def atr{x:Nat}(hx:x<8388607)(t:Nat):single.order (t%2*2147483648+2139095040+1+x) 0=none:=by
 have hm:(t%2*2147483648+2139095040+1+x)%2147483648=2139095041+x:=by omega
 have hr:∃s n,single.read (t%2*2147483648+2139095040+1+x)=.nan s n:=by
  unfold Format.read;simp only[show single.signWeight=2147483648 from rfl,show single.binade=8388608 from rfl,show single.infRung=2139095040 from rfl];rw[hm,yr (by omega),yr (by omega),yr (by omega)];exact⟨_,_,rfl⟩
 obtain⟨s,n,hr⟩:=hr;unfold Format.order;rw[hr];rfl
def aeB(P:Program)(b:Nat)(w:yk):∃r w1,(∀t,(wh .sub t (.float .f32 b) (.float .f32 b)).run P w=.ok (.float .f32 r) w1)/\Calm w w1/\(∀t w',(wh .eql t (.float .f32 r) (.float .f32 0)).run P w'=.ok (.bool (gN b)) w'):=by
 by_cases h:∃s m e,single.read b=.number s m e
 .obtain ⟨s,m,e,h⟩:=h;have h1:FloatKind.f32.format.sub b b=Gp 0:=aeA h;refine⟨0,w,fun t=>?_,Calm.refl,fun t w'=>?_⟩
  .simp [wh,Op.floatArith,h1]
  .have:gN b=ydb:=by unfold gN;rw[h]
   rw[this];rfl
 .have h':∀s m e,single.read b≠.number s m e:=fun s m e q=>h ⟨s,m,e,q⟩
  have h1:FloatKind.f32.format.sub b b=none:=atq h';obtain⟨t0,ZY⟩:∃t0,t0=w.tape w.drawn (.nanBits .f32 b b):=⟨_,rfl⟩;refine⟨(Question.nanBits .f32 b b).cut t0,w.drew,fun t=>?_,⟨rfl,rfl,rfl,yp _,fun _ _=>rfl⟩,fun t w'=>?_⟩
  .rw [ZY];simp[wh,Op.floatArith,h1,Question.forced]
  .have:gN b=ydc:=by
    unfold gN
    cases hr:single.read b with
    | number s m e=>exact absurd hr (h' s m e)
    | _=>rfl
   rw[this];have hc:=atr (x:=t0/2%8388607) (xJ _ (by decide)) t0;have iv:FloatKind.f32.format.order ((Question.nanBits .f32 b b).cut t0) 0=none:=hc;simp[wh,Op.floatCmp,iv]
variable {O:bz}
def aeC{n:Nat}(fK:∀args w,(callFunc (O.ae n) args).run O.P w=.ok (.enter (O.ae n) args) w)(hc:∀(b:Nat) (w:yk),wB O.P (O.ae n) #[.float .f32 b] w fun e w'=>e=.returned (.bool (gN b))/\Calm w w'):∀au r,AB au=Gp r->eG O n au r:=by
 intro au r h;unfold AB at h
 split at h
 .rename_i b;simp only[yc] at h;subst h;refine pn acT fK ?_;intro w S args hg dU;obtain⟨u,rfl,h1⟩:=E3 dU;simp only[af] at h1;subst h1;refine (hc b w).mono ?_;rintro e w' ⟨rfl,h2⟩;exact⟨_,rfl,h2,fun S=>by simp only[af]⟩
 .cases h
end VE
end
section
namespace Go.Proofs
open Go.RowKit
def Tryz.R6(b:Nat)(w:yk):wB Tryz.prog 200 #[.float .f32 b] w fun e w'=>e=.returned (.bool (VE.gN b))/\VE.Calm w w':=by
 obtain⟨r,w1,h1,h2,h3⟩:=VE.aeB Tryz.prog b w
 go_enter Tryz.func200,Tryz.ntmps200
 go_wp2_with (simp only[h1,h3])
 go_ret
 exact⟨rfl,h2⟩
def Tryz.aBU(b:Nat)(w:yk):wB Tryz.prog 152 #[.float .f32 b] w fun e w'=>e=.returned (.bool (VE.gN b))/\VE.Calm w w':=by
 obtain⟨r,w1,h1,h2,h3⟩:=VE.aeB Tryz.prog b w
 go_enter Tryz.func152,Tryz.ntmps152
 go_wp2_with (simp only[h1,h3])
 go_ret
 exact⟨rfl,h2⟩
end Go.Proofs
end
