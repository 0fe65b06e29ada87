import Ieee.Arith
import Derived.OwnWalk
import Derived.WalkKit
import Derived.Test.YtmacbdacedfedaaGreatDoorTaq
set_option linter.all false
set_option maxRecDepth 100000
open Bool renaming and_eq_true->ye,and_self->vm,and_true->uz,false_and->uP,false_eq_true->yC,false_or->ybn,not_false->wH,not_true->xO,toNat_false->ybF,true_and->ud,true_eq_false->ybo,true_or->ycy,xor_false->ybT
open Go renaming DataW->xR,Field->ub,FloatKind->xW,IntKind->xd,MemPlace->wT,Program->xm,TypeId->yv,Value->yg,World->yi,binOp->xY
open Go.FloatKind renaming f32->tH
open Ieee renaming single->ycK
open Int renaming add_zero->ycE,gcd->vJ,le_of_lt->tA,le_refl->ycT,lt_trichotomy->yac,mul_add->ycz,mul_le_mul->ycf,mul_le_mul_of_nonneg_left->wQ,mul_nonneg->tQ,natAbs_ediv_of_dvd->uZ,natAbs_natCast->vM,natCast_add->th,natCast_mul->xZ,natCast_nonneg->yaA,neg_mul->ycV,neg_neg->yau,ofNat_eq_natCast->ybi,ofNat_lt->tz,pow_pos->ycW,pow_succ->yae,sub_self->ycG,tdiv_eq_ediv_of_nonneg->wm,tmod_eq_emod_of_nonneg->wj,toNat_natCast->wJ,toNat_of_nonneg->wZ
open Int.ofNat renaming inj->yap
open List renaming append_assoc->xx,append_nil->wq,cons_append->yx,drop->uk,drop_drop->vH,drop_eq_getElem_cons->yR,drop_eq_nil_of_le->xf,drop_left->tP,drop_zero->yh,eq_nil_of_length_eq_zero->yK,filter_eq_nil_iff->tU,flatMap_def->ybG,flatten_cons->uB,getD_eq_getElem?_getD->yD,getElem?_eq_getElem->yN,getElem_cons_zero->wz,getElem_mem->xk,length_append->yJ,length_cons->yy,length_drop->wD,length_map->yL,length_nil->yH,length_pos_iff->ta,length_take->yQ,mapM_cons->uO,map_append->xA,map_cons->yZ,map_nil->vj,map_set->yaB,mem_cons->xI,mem_cons_of_mem->xL,mem_cons_self->wI,mem_map->xM,nil_append->yM,range'->xJ,replicate->yp,replicate_succ->wO,set_eq_of_length_le->yaH,set_eq_take_append_cons_drop->vD,take_append_drop->wi,take_left->tO,take_length->xN,take_of_length_le->yG,take_set->yaJ,take_succ_eq_append_getElem->xa
open List.cons renaming injEq->um
open Nat renaming add_assoc->tM,add_comm->ybQ,add_mod_left->ybL,add_mul->xP,add_zero->yW,beq->ym,ble->yA,ble_eq_true_of_le->yt,blt->yI,div_add_mod->xz,div_eq_of_lt->xU,div_le_self->vB,div_lt_iff_lt_mul->xK,div_pos->ycU,eq_of_beq_eq_true->yf,eq_zero_or_pos->xq,gcd->vE,gcd_comm->tY,le_log2->ycS,le_mul_of_pos_left->yaT,le_of_ble_eq_true->yr,le_of_lt_succ->vU,le_of_not_lt->ybJ,le_refl->yu,le_trans->xo,log2->yce,log2_lt->ybh,lt_log2_self->ybN,lt_of_le_of_lt->wC,lt_of_lt_of_le->yE,lt_trans->ug,min_eq_left->xj,mod_add_div->tg,mod_eq_of_lt->yF,mod_lt->xu,mul_add->xC,mul_add_div->tZ,mul_add_mod->yaa,mul_assoc->xe,mul_comm->xp,mul_div_cancel->uT,mul_le_mul->yS,mul_le_mul_left->yY,mul_le_mul_right->yU,mul_lt_mul''->yao,mul_lt_mul_of_pos_right->xX,mul_mod_left->tn,mul_one->yk,mul_pos->vv,mul_zero->xB,ne_of_gt->tv,not_lt_zero->tB,one_lt_two_pow->uU,one_mul->ybx,one_shiftLeft->ybE,pos_of_ne_zero->vW,pow_add->xD,pow_le_pow_left->ue,pow_le_pow_right->xc,pow_lt_pow_iff_right->uh,pow_lt_pow_right->vC,pow_mul->yat,pow_succ->xh,pow_zero->uG,reduceAdd->yc,reduceEqDiff->ya,reduceLT->yB,reduceLeDiff->yo,reduceMul->xn,shiftLeft_eq->tk,succ_mul->ybS,two_pow_pos->xi,zero_add->yd,zero_le->uN,zero_mul->vh
open Option renaming bind_eq_bind->vV,bind_some->wG,map_eq_some_iff->wW,pure_def->vt
open Option.some renaming injEq->yb
open Prod.mk renaming injEq->yj
open Rat renaming den_intCast->uJ,den_pow->ycY,divInt->wX,intCast_neg->tF,lt_irrefl->yaN,mul_assoc->vX,mul_comm->ycF,mul_lt_mul_right->uE,mul_one->vZ,natCast_mul->xV,not_le->ydf,num_intCast->uI,num_nonneg->ycg,num_pow->ycX,zpow_natCast->tp,zpow_neg->ycJ
open Option renaming some->Ft,none->Fu
open Bool renaming true->ydh,false->ydi
section
namespace VE
open Go (IntKind)
def akC:∀(cs:List AV) (l:List Nat),zE cs=Ft l->cs=l.map uc/\lo 18446744073709551616 l:=by
 intro cs
 induction cs with
 | nil=>
  intro l h;simp only[zE,yb] at h;subst h;exact⟨rfl,fun _ h=>by cases h⟩
 | cons c cs ih=>
  intro l h;unfold zE at h
  split at h
  .grind
  .rename_i d r lh;cases lh
   cases hb:yI d 18446744073709551616 with
   | false=>rw[hb] at h;cases h
   | true=>
    rw[hb] at h
    cases hw:zE cs with
    | none=>rw[hw] at h;cases h
    | some l'=>
     rw[hw] at h;cases h;have⟨k1,k2⟩:=ih l' hw;refine⟨by rw[k1];rfl,fun x hx=>?_⟩
     rcases xI.1 hx with rfl | hx
     .simp_all
     .exact k2 x hx
  .cases h
def ZT:∀{l:List Nat},Cu l=ydh->ie l
 | [],h=>by cases h
 | [a],h=>by
  have h0:a≠0:=fun e=>by subst e;cases h
  exact FA h0 []
 | a::b::r,h=>by
  have h1:dT (b::r)=b::r:=ZT (l:=b::r) h;show dT (a::(b::r))=_
  simp only[dT] at h1 ⊢;rw[h1]
section
variable {P:aF}{L:Lib}
def aqr(h:Has P L 99 E5)(VI:L.pure 135=Ft Ka){s:Int}(hs:Cr s=ydh):bT P L (D P L) 99 [.agg [aa s,.af]]=Ft (.str (aZ s)):=by
 have e1:bT P L (D P L) 135 [aa s]=Ft (.str (aZ s)):=by
  rw[lI VI];show (bif Cr s then Ft (AV.str (aZ s)) else Fu)=_
  rw[hs];rfl
 rw[aJ h];simp only[go_sem,ya,yc,E5,aV,bj,yd,dI,jX,fh,e1]
end
section
open Go
variable {O:bl}
def al8(hO:iw O)(hN:Nu O.prog O.aI)(VI:O.aI.pure 135=Ft Ka)(EK:O.aI.pure 138=Ft BL)(Bj:O.aI.pure 139=Ft B1)(Ht:Has O.prog O.aI 99 E5){fn:Func}{c:Code}(ma:O.P.funcs[O.ab 99]? =Ft fn)(jR:fn.body=Ft c)(PZ:fn.ntmps=69)(VF:PC 5 c)(ht:Th O.P c):∀aq r,NN aq=Ft r->dZ O 99 aq r:=by
 intro aq r h;unfold NN at h
 split at h
 .rename_i s
  cases hs:Cr s with
  | false=>rw[hs] at h;cases h
  | true=>
   rw[hs] at h;cases h;have⟨k,hk⟩:=acv (aqr (P:=O.prog) (L:=O.aI) Ht VI hs);exact sound hO hk
 .rename_i s e n cs
  cases hw:zE cs with
  | none=>rw[hw] at h;cases h
  | some l=>
   rw[hw] at h;simp only at h
   cases hb:(ym l.length n&&(yA n 4000000000&&(Cu l&&yA 9223372036854775808 (zY l)))) with
   | false=>rw[hb] at h;cases h
   | true=>
    rw[hb] at h;simp only[ye] at hb;have⟨h1,h2,h3,h4⟩:=hb;obtain⟨rfl,bc⟩:=akC cs l hw;have h1:=yf h1;subst h1;have h2:=yr h2;have h4:=yr h4;have h3:=ZT h3;rw[Tf] at h4 h;have aM:=mX bc;have key:=fun (s z:Int) (hz:z.natAbs=bv 18446744073709551616 l) (hs:s=if z<0 then -1 else 1)=>
     aof hO hN EK Bj Ht.code ma jR PZ VF ht (s:=s) (z:=z) (e:=e) (l:=l) (.inr ⟨e,l,rfl,bc,h3,hz.symm,hs,by lia⟩) (by lia) h2 (by lia)
    split at h
    .cases h
     have:=key 1 (bv 18446744073709551616 l:Nat) (by simp) (by rw[yz (by lia)])
     exact this
    .cases h
     have:=key (-1) (-(bv 18446744073709551616 l:Nat):Int) (by simp) (by rw[yP (by lia)])
     rw[oS (by lia)] at this
     grind
    .cases h
 .cases h
end
end VE
end
section
namespace VE
open Go
def N8(L:Lib)(n:Nat)(sp:List AV->Option AV):Lib:=⟨fun i=>bif ym i n then Ft sp else L.pure i,L.heap⟩
def ZU{O:bl}(hO:iw O){n:Nat}{sp:List AV->Option AV}(h:∀aq r,sp aq=Ft r->dZ O n aq r):iw (O.zt (N8 O.aI n sp)) where
 hint:=hO.hint
 mixed:=hO.mixed
 prog:=hO.prog
 aI i Qc aq r hi hs:=by
  show dZ O i aq r
  simp only[N8] at hi
  cases hb:ym i n with
  | true=>
   simp_all
  | false=>
   rw[hb] at hi;exact hO.aI i Qc aq r hi hs
 Gw i Qc hp ct aq v an aH hi hs:=ZB (hO.Gw i Qc hp ct aq v an aH hi hs)
end VE
end
section
namespace VE
open Go (IntKind)
def Ti(n:Nat):10^n<=2^(4*n):=by
 rw[yat];exact ue (by decide) n
def R3{b:Nat}{r:List Nat}(h:fN (b::r)=ydh):48<=b/\b<=57:=by
 simp only[fN,ye] at h
 simp_all
section
variable {P:aF}{L:Lib}
def acK(h:Tx P L){ds:List Nat}{N:Nat}(hD:cE ds 0=Ft N)(hl:ds.length<=4000000000){neg:Bool}{o1 o2:AV}:
  en P L [0,2,3,4] F2 (fun m st=>∃(pre rest:List Nat) (a:Nat) (s:Int) (w:AV),st=⟨[(0,.str rest),(2,.ptr 0 0),(3,.bool neg),(4,.ptr 1 0)],[(1,.cells ydh ydh ydh 2 [aa s,w]),(0,.cells ydh ydh ydh 2 [o1,o2])],2,0⟩/\ds=pre++rest/\cE pre 0=Ft a/\di s w a/\rest.length=m) (fun ex st'=>∃tm s w,st'=⟨tm,[(1,.cells ydh ydh ydh 2 [aa s,w]),(0,.cells ydh ydh ydh 2 [o1,o2])],2,0⟩/\ex=.exit 0/\ak tm 2=.ptr 0 0/\ak tm 3=.bool neg/\ak tm 4=.ptr 1 0/\di s w N):=by
 apply eB;rintro m st ⟨pre,rest,a,s,w,rfl,Fi,eI,hn,rfl⟩;have⟨l1,u1⟩:=hn.aS;have jZ:=hD;rw[Fi,I6,eI] at jZ;have jZ:cE rest a=Ft N:=jZ;have hlen:pre.length+rest.length<=4000000000:=by rw[Fi,yJ] at hl;exact hl
 by_cases h0:rest.length=0
 .right
  have hr:rest=[]:=yK h0;subst hr
  have:a=N:=by simpa[cE] using jZ
  subst this;simp only[go_sem,F2,yH,show ¬(0:Int)<((0:Nat):Int) by lia];exact⟨_,_,rfl,by simp,_,s,w,rfl,rfl,rfl,rfl,rfl,hn⟩
 .left
  obtain⟨n,rm⟩:∃n,n=min 18 rest.length:=⟨_,rfl⟩;have aeN:(if (rest.length:Int)<18 then (rest.length:Int) else 18)=(n:Int):=by split<;>lia
  have jP:rest.take n++rest.drop n=rest:=wi n rest;obtain⟨a',EX⟩:∃a',cE (rest.take n) a=Ft a':=by
   rw[<-jP,I6] at jZ
   cases hq:cE (rest.take n) a with
   | none=>rw[hq] at jZ;cases jZ
   | some a'=>exact⟨a',rfl⟩
  obtain⟨v,hv⟩:∃v,cE (rest.take n) 0=Ft v:=by
   have:∀(l:List Nat) (x y b:Nat),cE l x=Ft y->∃z,cE l b=Ft z:=by
    intro l
    induction l with
    | nil=>intro x y b _;exact⟨b,rfl⟩
    | cons c l ih=>
     intro x y b hh;simp only[cE] at hh ⊢
     cases hb:(yA 48 c&&yA c 57) with
     | false=>rw[hb] at hh;cases hh
     | true=>rw[hb] at hh;exact ih _ _ _ hh
   exact this _ _ _ 0 EX
  have afO:=aod (a:=a) hv;have Xr:(rest.take n).length=n:=by rw[yQ];lia
  rw[Xr,EX,yb] at afO;have VJ:=Tg hv;rw[Xr] at VJ;have aDX:v<1000000000000000000:=yE VJ (xc (n:=10) (by decide) (show n<=18 by lia));have e1:=aqo (P:=P) h.VA (f:=D P L) (s:=rest.take n) (by lia) (by lia) hv;have⟨t1,t2⟩:=GN h.toNu (z:=10) (by decide) (by decide);have⟨t3,t4⟩:=GN h.toNu (z:=(v:Int)) (by lia) (by lia);have⟨p,e2,hp⟩:=VB h.toNu h.su t2 (K:=4) (k:=n) (by unfold Bd;decide) (by lia) (by lia)
  have halt:=Tg eI;have ba:Bd (4*pre.length) (a:Int):=yE halt (Ti _);have bp:Bd (4*n+1) ((10:Int)^n):=Bd.pow (k:=4) (by unfold Bd;decide) n
  have⟨q,e3,hq⟩:=CG h.toNu (v:=.agg [aa s,w]) ⟨s,w,rfl,hn⟩ hp (K:=4*pre.length+4*n+1) (ba.mono (by lia)) (bp.mono (by lia)) (by lia);have bv':Bd (4*n) (v:Int):=yE VJ (Ti _);have⟨r,e4,hr⟩:=K0 h.toNu hq t4 (K:=4*pre.length+4*n+1) ((ba.mul bp).mono (by lia)) (bv'.mono (by lia)) (by lia);have aO:(a:Int)*10^n+(v:Int)=(a':Int):=by
   rw[afO]
   simp
  rw[aO] at hr;obtain⟨s2,w2,rfl,h2⟩:=hp;obtain⟨s3,w3,rfl,h3⟩:=hq;obtain⟨s4,w4,rfl,h4⟩:=hr;have⟨l2,u2⟩:=h2.aS;have⟨l3,u3⟩:=h3.aS;have⟨l4,u4⟩:=h4.aS;have un:=zq;have c1:jt rest (Ft 0) (Ft n)=Ft (.str (rest.take n)):=by rw[mO (by lia) (by lia),yh]
  have c2:jt rest (Ft n) (Ft rest.length)=Ft (.str (rest.drop n)):=by rw[mO (by lia) (by lia),xN]
  simp only[go_sem,ya,F2,show (0:Int)<(rest.length:Nat) by lia,acB,aaH,aeN,fp,fQ,ep,c1,c2,e1,bR,t1,t3,cr,u1.aj,u2.aj,u3.aj,un.aj,e2,e3,e4,bC,bR,yh,dU u4];refine⟨_,(rest.drop n).length,rfl,by rw[wD];lia,pre++rest.take n,rest.drop n,a',s4,w4,by simp only[go_sem,ya,yc,aA],by rw[xx,jP];exact Fi,by rw[I6,eI];exact EX,h4,rfl⟩
def R4{b:Nat}{r:List Nat}(h:48<=b):jI [45] (b::r)=ydi:=by
 show (ym 45 b&&ydh)=ydi
 rw[jg (by lia)];rfl
def VK(h:Tx P L){z:Int}(hz:(aZ z).length<=4000000000):∃r,ah P L 110 [.str (aZ z)] r/\cz r z:=by
 have hN:=BT z.natAbs;have un:=zq;have sL:(aB z.natAbs).length<=4000000000:=by
  by_cases h0:z<0
  .rw [oS h0] at hz;simp at hz;lia
  .rw [<-rR,yz h0] at hz;simpa using hz
 have ba:Bd (4*(aB z.natAbs).length) (z.natAbs:Int):=yE (Tg hN) (Ti _);by_cases h0:z<0
 .have hs:aZ z=45::aB z.natAbs:=oS h0;have e1:bT P L (D P L) 152 [.str (45::aB z.natAbs),.str [45]]=Ft (.bool ydh):=by rw[lI h.afI];rfl
  have e2:bT P L (D P L) 153 [.str (45::aB z.natAbs),.str [45]]=Ft (.str (aB z.natAbs)):=by rw[lI h.Vz];rfl
  have jM:∃s w r,ah P L 110 [.str (aZ z)] r/\di s w (z.natAbs:Int)/\ah P L 147 [.agg [aa s,w]] r/\cz r (-(z.natAbs:Int)):=by
   rw[hs];unfold ah;rw[aJ h.afL];simp only[go_sem,ya,yc,OT,aV,e1,e2,un.pu,un.one,dU un];generalize hq:D P L (.loop _ F2) _=q;obtain⟨ex,st,rfl,tm,s,w,rfl,rfl,t2,t3,t4,h5⟩:=bN hq (acK (P:=P) (L:=L) h hN sL (neg:=ydh) (o1:=.int .i64 0) (o2:=.af) (aB z.natAbs).length) ⟨[],aB z.natAbs,0,0,.af,by simp only[go_sem,ya,yc,aA]<;>rfl,rfl,rfl,.inl ⟨rfl,rfl,by decide,by decide⟩,rfl⟩
   have⟨l5,u5⟩:=h5.aS;have⟨r,e3,hr⟩:=KZ h.toNu (v:=.agg [aa s,w]) ⟨s,w,rfl,h5⟩ (K:=4*(aB z.natAbs).length) ba (by lia);have bA:=hr;obtain⟨s6,w6,rfl,h6⟩:=hr;have⟨l6,u6⟩:=h6.aS;refine⟨s,w,_,?_,h5,e3,bA⟩;simp only[go_sem,ya,yc,aA,t2,t3,t4,bR,cr,u5.aj,e3,bC,c9,db,bR,yh,n7 u6,dU u6]
  have⟨s,w,r,g1,_,_,g2⟩:=jM;rw[show -((z.natAbs:Nat):Int)=z by lia] at g2;exact⟨r,g1,g2⟩
 .have hs:aZ z=aB z.natAbs:=by rw[<-rR,yz h0];rfl
  have⟨b,r0,hb,eE,cT⟩:=M4 z.natAbs;have e1:bT P L (D P L) 152 [.str (aB z.natAbs),.str [45]]=Ft (.bool ydi):=by
   rw[lI h.afI,hb];show Ft (AV.bool (jI [45] (b::r0)))=_
   rw[R4 eE]
  have e2:bT P L (D P L) 153 [.str (aB z.natAbs),.str [45]]=Ft (.str (aB z.natAbs)):=by
   rw[lI h.Vz,hb];show Ft (AV.str (bif jI [45] (b::r0) then _ else _))=_
   rw[R4 eE];rfl
  have jM:∃s w,ah P L 110 [.str (aZ z)] (.agg [aa s,w])/\di s w (z.natAbs:Int):=by
   rw[hs];unfold ah;rw[aJ h.afL];simp only[go_sem,ya,yc,OT,aV,e1,e2,un.pu,un.one,dU un];generalize hq:D P L (.loop _ F2) _=q;obtain⟨ex,st,rfl,tm,s,w,rfl,rfl,t2,t3,t4,h5⟩:=bN hq (acK (P:=P) (L:=L) h hN sL (neg:=ydi) (o1:=.int .i64 0) (o2:=.af) (aB z.natAbs).length) ⟨[],aB z.natAbs,0,0,.af,by simp only[go_sem,ya,yc,aA]<;>rfl,rfl,rfl,.inl ⟨rfl,rfl,by decide,by decide⟩,rfl⟩
   have⟨l5,u5⟩:=h5.aS;refine⟨s,w,?_,h5⟩;simp only[go_sem,ya,yc,aA,t2,t3,t4,bR,c9,db,bR,yh,n7 u5,dU u5]
  have⟨s,w,g1,g2⟩:=jM;rw[show ((z.natAbs:Nat):Int)=z by lia] at g2;exact⟨_,g1,s,w,rfl,g2⟩
def R5(b:Nat)(r:List Nat)(c:Nat):jI [c] (b::r)=ym c b:=by
 show (ym c b&&ydh)=_
 grind
def Yq:∀(l r:List Nat) (k:Nat),(∀x,x∈l->x≠47)->rY [47] (l++47::r) k=Ft (k+l.length)
 | [],r,k,_=>by
  show (bif jI [47] (47::r) then Ft k else _)=_
  rw[R5];rfl
 | b::l,r,k,h=>by
  show (bif jI [47] (b::(l++47::r)) then Ft k else rY [47] (l++47::r) (k+1))=_
  rw[R5,jg (fun e=>h b (by simp) e.symm),yO,Yq l r (k+1) (fun x hx=>h x (by simp[hx])),yy]
  grind
def index_none:∀(l:List Nat) (k:Nat),(∀x,x∈l->x≠47)->rY [47] l k=Fu
 | [],k,_=>rfl
 | b::l,k,h=>by
  show (bif jI [47] (b::l) then Ft k else rY [47] l (k+1))=_
  rw[R5,jg (fun e=>h b (by simp) e.symm),yO,index_none l (k+1) (fun x hx=>h x (by simp[hx]))]
def aaV:∀{l:List Nat},fN l=ydh->∀x,x∈l->48<=x/\x<=57
 | [],_,x,hx=>by simp at hx
 | b::l,h,x,hx=>by
  have h1:=R3 h;simp only[fN,ye] at h;rcases xI.1 hx with rfl | hx
  .grind
  .exact aaV h.2 x hx
def ai9(z:Int):∀x,x∈aZ z->x≠47:=fun x hx=>by
 rw[<-rR] at hx;rcases List.mem_append.1 hx with h | h
 .grind
 .have:=aaV (AA _) x h;lia
def m62(h:Tx P L){a:Rat}(hl:(RT a).length<4000000000):∃r,ah P L 62 [.str (RT a)] r/\cg r a:=by
 have G9:=ai9 a.num;unfold RT at hl ⊢;by_cases hd:a.den=1
 .rw [yP hd,wq] at hl ⊢;have⟨p,e1,hp⟩:=VK h (z:=a.num) (by lia);have⟨r,e2,hr⟩:=Vy h.toFr' hp;rw[<-Td a hd] at hr;have bA:=hr;obtain⟨s1,w1,rfl,h1⟩:=hp;obtain⟨s2,w2,s3,w3,rfl,h2,h3⟩:=hr;have⟨l1,u1⟩:=h1.aS;have⟨l2,u2⟩:=h2.aS;have⟨l3,u3⟩:=h3.aS;have e0:bT P L (D P L) 109 [.str (aZ a.num),.str [47]]=Ft (.ax [.str (aZ a.num),.str [],.bool ydi]):=by
   rw[lI h.afJ];show (bif yI (aZ a.num).length 4294967281 then (match rY [47] (aZ a.num) 0 with | some i=>_ | none=>Ft (AV.ax [.str (aZ a.num),.str [],.bool ydi])) else Fu)=_
   rw[mY (by lia),index_none _ _ G9];rfl
  refine⟨_,?_,bA⟩;unfold ah;rw[aJ h.QC];simp only[go_sem,ya,yc,Qe,aV,e0,e1,bC,u1.aj,cr,e2,lM u2 u3,c9,db,yh,iX,lO u2 u3]
 .rw [yz hd] at hl ⊢;simp only[yJ,yy] at hl;have⟨p,e1,hp⟩:=VK h (z:=a.num) (by lia);have⟨q,e2,hq⟩:=VK h (z:=(a.den:Int)) (by rw[zp];lia)
  rw[zp] at e2;obtain⟨s1,w1,rfl,h1⟩:=hp;obtain⟨s2,w2,rfl,h2⟩:=hq;have⟨l1,u1⟩:=h1.aS;have⟨l2,u2⟩:=h2.aS;have e0:bT P L (D P L) 109 [.str (aZ a.num++47::aB a.den),.str [47]]=Ft (.ax [.str (aZ a.num),.str (aB a.den),.bool ydh]):=by
   rw[lI h.afJ];show (bif yI (aZ a.num++47::aB a.den).length 4294967281 then (match rY [47] (aZ a.num++47::aB a.den) 0 with | some i=>Ft (AV.ax [.str ((aZ a.num++47::aB a.den).take i),.str ((aZ a.num++47::aB a.den).drop (i+1)),.bool ydh]) | none=>_) else Fu)=_
   rw[mY (by simp;lia),Yq _ _ _ G9]
   simp only[yd,yq,tO];rw[show (aZ a.num).length+1=(aZ a.num++[47]).length by simp,show aZ a.num++47::aB a.den=(aZ a.num++[47])++aB a.den by simp,tP]
  refine⟨.agg [aa s1,w1,aa s2,w2],?_,s1,w1,s2,w2,rfl,h1,h2⟩;unfold ah;rw[aJ h.QC];simp only[go_sem,ya,yc,Qe,aV,e0,e1,e2,bC,u1.one,u2.one,FR,FT,lM u1 u2,c9,db,yh,iX,lO u1 u2]
end
end VE
end
section
namespace VE
open Go (IntKind)
def j8(p:List Nat):Bool:=fN p&&(match p with | []=>ydi | b::r=> !(ym b 48)||r.isEmpty)
def lS(p:List Nat):Nat:=(cE p 0).getD 0
def sB(neg:Bool)(t:List Nat):Int:=
 if j8 (t.take (dG t))=ydi\/(neg=ydh/\t.take (dG t)=[48]) then 1
 else if dG t<t.length/\(j8 (t.drop (dG t+1))=ydi\/t.drop (dG t+1)=[48]\/t.drop (dG t+1)=[49]) then 1
 else if 600<dG t\/600<t.length-dG t-1 then 4
 else if dG t<t.length/\vE (lS (t.take (dG t))) (lS (t.drop (dG t+1)))≠1 then 1
 else 0
def fT:List Nat->Int
 | []=>sB ydi []
 | b::t=>if b=45 then sB ydh t else sB ydi (b::t)
def aaW:∀{p:List Nat} (a:Nat),fN p=ydh->∃n,cE p a=Ft n
 | [],a,_=>⟨a,rfl⟩
 | b::r,a,h=>by
  have h':=h;simp only[fN,ye] at h';have⟨n,hn⟩:=aaW (p:=r) (10*a+(b-48)) h'.2;exact⟨n,by simp only[cE,h'.1.1,h'.1.2,vm,yq];exact hn⟩
def ZV:∀(k:Nat) {p:List Nat},p.length=k->j8 p=ydh->aB (lS p)=p:=by
 intro k
 induction k with
 | zero=>intro p hl h;rw[yK hl] at h;simp[j8] at h
 | succ k ih=>
  intro p hl h;rcases snoc p with rfl | ⟨m,a,rfl⟩
  .grind
  .simp only [j8,ye,Rc] at h;have⟨⟨h1,h2⟩,h3⟩:=h;simp only[fN,ye] at h2;have ha1:=yr h2.1.1;have ha2:=yr h2.1.2;have⟨n,hn⟩:=aaW 0 h1;have hv:lS (m++[a])=10*n+(a-48):=by
    unfold lS;rw[I6,hn];simp only[wG,cE,h2.1.1,h2.1.2,vm,yq,Option.getD_some]
   cases m with
   | nil=>
    have:n=0:=by simpa[cE] using hn.symm
    rw[hv,oQ (by lia)]
    simp;lia
   | cons b r=>
    have hd:j8 (b::r)=ydh:=by
     simp only[j8,h1,ud]
     cases r with
     | nil=>simp
     | cons c r=>simp at h3 ⊢;exact h3
    have hm:=ih (p:=b::r) (by simpa using hl) hd;have hnv:lS (b::r)=n:=by unfold lS;rw[hn];rfl
    rw[hnv] at hm;have pQ:n≠0:=fun e=>by
     rw[oQ (by lia)] at hm
     simp_all
    rw[hv,p9 (by lia),show (10*n+(a-48))/10=n by lia,show 48+(10*n+(a-48))%10=a by lia,hm]
def aja(t:List Nat):dG t<t.length->t=t.take (dG t)++47::t.drop (dG t+1):=by
 induction t with
 | nil=>simp
 | cons b r ih=>
  intro h;simp only[dG] at h ⊢
  grind
end VE
end
section
namespace VE
namespace Nd
structure Ord(n:Nat)(l:List Int):Prop where
 len:l.length=n
 qZ:∀a,a<n->0<=l.getD a 0/\l.getD a 0<n
 inj:∀a b,a<n->b<n->l.getD a 0=l.getD b 0->a=b
end Nd
end VE
end
section
namespace VE
namespace Nd
open Go (IntKind)
section
variable {P:aF}{L:Lib}
abbrev ah(P:aF)(L:Lib)(f:Nat)(aq:List AV)(r:AV):Prop:=bT P L (D P L) f aq=Ft r
def stS{hp:Hp}{ct id o:Nat}{v:Int}{ex:Bool}{l:List Int}(h:o<l.length):gm hp ct id o 1 [.int .i64 v] (Ft (.cells ydh ydh ex 1 (l.map aa)))=Ft (.ax [],aU hp id (.cells ydh ydh ex 1 ((l.set o v).map aa)),ct):=by
 rw[qM (by rfl) (by simp;lia) (by rfl)]
 have:over o [AV.int .i64 v] (l.map aa)=(l.set o v).map aa:=by
  simp only[over,yy,yH,yd];rw[yaB,vD,yP (by simpa using h)]
  simp
 rw[this];rfl
end
end Nd
end VE
end
section
namespace VE
open Go (IntKind)
structure Ck(P:aF)(L:Lib):Prop extends Tx P L where
 aDY:L.pure 128=Ft MG
 aDZ:L.pure 162=Ft trimS
 h86:Has P L 86 c86
 aD0:Has P L 124 aeX
 aD1:Has P L 125 aeY
 aD2:Has P L 129 aeZ
section
variable {P:aF}{L:Lib}
def Jh{a b:List Nat}(h:a=b):dh a b=ydh:=by
 subst h
 induction a with
 | nil=>rfl
 | cons x a ih=>simp[dh,ih]
def aqs{a b:List Nat}(h:a≠b):dh a b=ydi:=by
 cases hb:dh a b with
 | false=>rfl
 | true=>
  exact absurd (by
   clear h;revert b
   induction a with
   | nil=>intro b hb;cases b with | nil=>rfl | cons y b=>simp[dh] at hb
   | cons x a ih=>
    intro b hb
    cases b with
    | nil=>simp[dh] at hb
    | cons y b=>
     simp only[dh,ye] at hb
     rw[yf hb.1,ih hb.2]) h
end
end VE
end
section
namespace VE
open Go (IntKind)
section
variable {v:AV}{z:Int}{K:Nat}
def LN(z:Int):Bool:=decide (600<(aB z.natAbs).length)
def LG(r:Rat):Bool:=LN r.num||LN (r.den:Int)
def RA{m B k:Nat}(hB:B<=3*k)(hk:0<k)(h:m<2^B):(aB m).length<=k:=by
 obtain⟨j,rfl⟩:∃j,k=j+1:=⟨k-1,by lia⟩;refine zo (yE h (xo (xc (by decide) hB) ?_));rw[yat];exact ue (by decide) _
def Tj:∀f n:Nat,eJ f n<=f
 | 0,_=>yu _
 | f+1,n=>by
  unfold eJ
  cases ym n 0 with
  | true=>exact uN _
  | false=>have:=Tj f (n/2);simp only[yO];lia
def auo{P:aF}{L:Lib}{f:cd}(h:L.pure 175=Ft Jq){x:Nat}(hx:x<2^64):bT P L f 175 [uc x]=Ft (aa (eJ 64 x:Nat)):=by
 rw[lI h];show (bif yI x (2^64) then _ else Fu)=_
 rw[mY hx];rfl
def aqt{V n top low:Nat}(hn:0<n)(h0:0<top)(ht:top<2^64)(hV:V=low+(2^64)^(n-1)*top)(hl:low<(2^64)^(n-1)):V<2^(64*(n-1)+eJ 64 top):=by
 have⟨l1,l2,l3⟩:=SA h0 ht;have hle:=Tj 64 top;have h1:top<2^eJ 64 top:=by
  have e:(2^64:Nat)=2^eJ 64 top*2^(64-eJ 64 top):=by rw[<-xD,show eJ 64 top+(64-eJ 64 top)=64 by lia]
  rw[e] at l3;exact Nat.lt_of_mul_lt_mul_right l3
 have h3:=yY ((2^64)^(n-1)) (show top+1<=2^eJ 64 top from h1);rw[xD,yat]
 grind
section
variable {P:aF}{L:Lib}
def aoj(K:Nat):2^K<=(2^64)^(K/64+1):=by
 rw[show (2^64:Nat)=2^64 from rfl,<-yat];exact xc (by decide) (by lia)
def awH(h:Tx P L)(hv:cz v z)(hz:Bd K z)(hK:K<=4000000000):∃B:Nat,ah P L 172 [v] (aa B)/\z.natAbs<2^B/\B<=K+64:=by
 obtain⟨s,w,rfl,hn⟩:=hv;have⟨l,u⟩:=hn.aS;have⟨r,e1,hr⟩:=Bh h.toNu hn;have⟨ws,hw,g,nz',hb⟩:=hr;have hl:ws.length<=K/64+1:=pD nz' hb (yE hz (aoj K));unfold ah at e1 ⊢;by_cases h0:ws=[]
 .subst h0;have lA:z.natAbs=0:=by rw[<-hb];rfl
  refine⟨0,?_,by rw[lA];decide,by lia⟩
  rw[aJ h.afK];simp only[go_sem,ya,yc,O1,aV,bR,cr,u.pu,u.aj,u.one,e1,hw.len,yH,show ((0:Nat):Int)=0 from rfl,yX]
 .have hp:0<ws.length:=ta.2 h0;have fK:=Ni nz' h0;have Fe:=iy (show 0<2^64 by decide) g (ws.length-1);have ei:=hw.bh (i:=ws.length-1) (by lia);have eQ:=jU (b:=2^64) (l:=ws) (ws.length-1);have K3:=mX (B2 g (ws.length-1));rw[yQ,xj (by lia)] at K3;rw[show ws.length-1+1=ws.length by lia,yG (yu _)] at eQ;generalize ws.getD (ws.length-1) 0=top at*
  have e2:=auo (P:=P) (f:=D P L) h.ayz Fe;have hle:=Tj 64 top;have ad8:=aqt hp (vW fK) Fe eQ K3;rw[hb] at ad8;refine⟨64*(ws.length-1)+eJ 64 top,?_,ad8,by lia⟩;rw[aJ h.afK]
  simp only[go_sem,ya,yc,O1,aV,bR,cr,u.pu,u.aj,u.one,e1,hw.len,show ¬(ws.length:Int)=0 by lia,show (ws.length:Int)-1=((ws.length-1:Nat):Int) by lia,wrapN (n:=ws.length-1) (by lia),show (64:Int)*((ws.length-1:Nat):Int)=((64*(ws.length-1):Nat):Int) by lia,wrapN (n:=64*(ws.length-1)) (by lia),ei,e2,show ((64*(ws.length-1):Nat):Int)+((eJ 64 top:Nat):Int)=((64*(ws.length-1)+eJ 64 top:Nat):Int) from rfl,wrapN (n:=64*(ws.length-1)+eJ 64 top) (by lia)]
def ayF(h:Tx P L)(hv:cz v z)(hz:Bd K z)(hK:K<=4000000000):∃B:Nat,ah P L 172 [v] (aa B)/\z.natAbs<2^B/\B<=300000000000:=by
 have⟨B,h1,h2,h3⟩:=awH h hv hz hK;exact⟨B,h1,h2,by lia⟩
def al9(z:Int):(if jI [45] (aZ z)=ydh then (aZ z).drop 1 else aZ z)=aB z.natAbs:=by
 by_cases h:z<0
 .rw [oS h];rfl
 .obtain ⟨m,rfl⟩:∃m:Nat,z=m:=⟨z.toNat,by lia⟩;rw[zp];have⟨b,r,hb,h1,_⟩:=M4 m;rw[vM,hb,R4 h1];rfl
def afP(h:Tx P L)(hv:cz v z)(hz:Bd K z)(hK:K<=4000000000):ah P L 151 [v] (.bool (LN z)):=by
 have⟨B,e1,hB,hBb⟩:=ayF h hv hz hK;have e2:=Xp h hv hz hK;obtain⟨s,w,rfl,hn⟩:=hv;have⟨l,u⟩:=hn.aS;have e3:bT P L (D P L) 153 [.str (aZ z),.str [45]]=Ft (.str (aB z.natAbs)):=by
  rw[lI h.Vz,<-al9];show Ft (AV.str (bif jI [45] (aZ z) then (aZ z).drop 1 else aZ z))=_
  cases jI [45] (aZ z)<;>rfl
 unfold ah at e1 e2 ⊢;rw[aJ h.ayA];unfold LN;by_cases h1:1800<B
 .simp only [go_sem,ya,yc,OX,aV,bR,cr,u.pu,u.aj,u.one,e1,show (1800:Int)<(B:Int) by lia,yX,e2,e3];by_cases h2:600<(aB z.natAbs).length
  .rw [xT h2,xT (by lia)]
  .rw [xv h2,xv (by lia)]
 .have h2:=RA (k:=600) (by lia) (by decide) hB;rw[xv (by lia)];simp only[go_sem,ya,yc,OX,aV,bR,cr,u.pu,u.aj,u.one,e1,show ¬(1800:Int)<(B:Int) by lia,xb]
def ayG(h:Tx P L){a:Rat}(hv:cg v a)(ka:Hq K a)(hK:K<=4000000000):ah P L 107 [v] (.bool (LG a)):=by
 obtain⟨s1,w1,s2,w2,rfl,h1,h2⟩:=hv;have e1:=afP h ⟨s1,w1,rfl,h1⟩ ka.1 hK;have e2:=afP h ⟨s2,w2,rfl,h2⟩ ka.2 hK;have⟨l1,u1⟩:=h1.aS;have⟨l2,u2⟩:=h2.aS;unfold ah at e1 e2 ⊢;rw[aJ h.ayB];unfold LG
 cases hb:LN a.num with
 | true=>
  rw[hb] at e1;simp only[go_sem,ya,yc,OS,aV,bj,yd,bR,cr,u1.pu,u1.aj,u1.one,u2.pu,u2.one,e1];rfl
 | false=>
  rw[hb] at e1;simp only[go_sem,ya,yc,OS,aV,bj,yd,show uk 2 [aa s1,w1,aa s2,w2]=[aa s2,w2] from rfl,bR,cr,u1.pu,u1.aj,u1.one,u2.pu,u2.aj,u2.one,e1,e2];rfl
end
end
end VE
end
section
namespace VE
section
variable {e:Int}{m:Nat}
def ayH(a b:Nat)(h:a<b):2^a<2^b:=vC (by decide) h
def ayI(a b:Nat)(h:2^a<2^b):a<b:=(uh (by decide)).1 h
def aup(m a b c:Nat)(h:m<2^a)(hc:a+b=c):m*2^b<2^c:=by
 subst hc;rw[xD];exact xX h (xi _)
def auq(m a b c:Nat)(h:2^a<=m)(hc:c<=a+b):2^c<=m*2^b:=
 xo (xc (by decide) hc) (by rw[xD];exact yU _ h)
open Ieee
def p2(e:Int):Rat:=(2:Rat)^e
def mW(a b:Int):p2 (a+b)=p2 a*p2 b:=Rat.zpow_add (by decide) a b
def TU(e:Int):0<p2 e:=Rat.zpow_pos (by decide)
def ad9(e:Int):p2 e≠0:=fun h=>by have:=TU e;rw[h] at this;exact absurd this (by decide)
def mv(n:Nat):p2 n=((2^n:Nat):Rat):=by
 unfold p2;rw[tp,Rat.natCast_pow];rfl
def K4:p2 0=1:=by have:=mv 0;simpa using this
def GO:p2 1=2:=by have:=mv 1;simpa using this
def acL(e:Int):p2 (-e)*p2 e=1:=by rw[<-mW,show -e+e=0 by omega,K4]
structure Can(f:Format)(m:Nat)(e:Int):Prop where
 lp:f.leastPlace<=e
 lt:m<2^(f.fractionBits+1)
 ge:2^f.fractionBits<=m\/e=f.leastPlace
def fB(f:Format)(m:Nat)(e:Int):Nat:=(e-f.leastPlace).toNat*2^f.fractionBits+m
def acM(f:Format):f.infRung<f.signWeight:=by
 have h:0<2^f.exponentBits:=xi _;have hb:0<2^f.fractionBits:=xi _;unfold Format.infRung Format.signWeight Format.binade;rw[xD];exact xX (by omega) hb
def ama{f:Format}(h:Can f m e)(s:Bool)(hr:fB f m e<f.infRung):f.read (f.word s (fB f m e))=.number s m e:=by
 have mb:=acM f;have hb:0<2^f.fractionBits:=xi _;have lp:=h.lp;have lt:=h.lt;have ge:=h.ge;rw[xh] at lt;have gF:(f.word s (fB f m e)/f.signWeight%2==1)=s:=by
  unfold Format.word
  cases s with
  | true=>rw[yP rfl,Nat.add_div_left _ (by omega),xU (by omega)];rfl
  | false=>rw[yz (by decide),xU (by omega)];rfl
 have ol:f.word s (fB f m e)%f.signWeight=fB f m e:=by
  unfold Format.word
  cases s with
  | true=>rw[yP rfl,ybL,yF (by omega)]
  | false=>rw[yz (by decide),yF (by omega)]
 unfold Format.read;simp only[gF,ol];obtain⟨d,hd⟩:∃d:Nat,e=f.leastPlace+d:=⟨(e-f.leastPlace).toNat,by omega⟩;have fS:fB f m e=d*2^f.fractionBits+m:=by unfold fB;rw[hd,show (f.leastPlace+(d:Int)-f.leastPlace).toNat=d by omega]
 unfold Format.binade;by_cases c:fB f m e<2^f.fractionBits
 .rw [yP c];have gQ:d=0:=by
   rcases ge with ge | ge
   .exfalso
    have:=uN (d*2^f.fractionBits)
    omega
   .omega
  subst gQ;rw[vh,yd] at fS;rw[fS,hd,Int.natCast_zero,ycE]
 .rw [yz c,yP hr];have hm:2^f.fractionBits<=m:=by
   rcases ge with ge | ge
   .exact ge
   .have:d=0:=by omega
    subst this;rw[vh,yd] at fS;omega
  obtain⟨x,hx⟩:∃x,m=2^f.fractionBits+x:=⟨m-2^f.fractionBits,by omega⟩;have hdiv:fB f m e/2^f.fractionBits=d+1:=by
   rw[fS,hx,<-tM,<-ybS,xp,tZ hb,xU (by omega)]
  have ET:fB f m e%2^f.fractionBits=x:=by
   rw[fS,hx,<-tM,<-ybS,xp,yaa,yF (by omega)]
  rw[hdiv,ET,hx,hd,show d+1-1=d by omega]
def ZW{n d:Nat}{neg:Bool}:Toward.even.cut neg (n*2^d) d=n:=by
 unfold Toward.cut;by_cases h0:n=0
 .subst h0
  simp
 .have hl:d<=(n*2^d).log2:=(ycS (tv (vv (by omega) (xi _)))).2 (yaT _ (by omega));have hp:0<2^d:=xi _;rw[xj (by omega),ybE];simp only[tn,uT _ hp,xB];have h1:decide (2^d<0)=ydi:=by simp
  have h2:((2^d==0):Bool)=ydi:=by simpa using tv hp
  simp[h2]
def Q4{n:Nat}(h:n≠0):∀d,(n*2^d).log2=n.log2+d
 | 0=>by simp
 | d+1=>by
  rw[xh,<-xe,xp (n*2^d) 2,Nat.log2_two_mul (tv (vv (by omega) (xi _))),Q4 h d];omega
def Can.last{f:Format}(h:Can f m e)(h0:m≠0):max (e+m.log2-f.fractionBits) f.leastPlace=e:=by
 have lp:=h.lp;have h1:m.log2<f.fractionBits+1:=(ybh h0).2 h.lt;rcases h.ge with g | g
 .have:=(ycS h0).2 g
  omega
 .omega
def aok{f:Format}(h:Can f m e)(h0:m≠0){m0:Nat}{e0:Int}(s:Bool)(hv:(m0:Rat)*p2 e0=(m:Rat)*p2 e):f.nearest s m0 e0=f.word s (min (fB f m e) f.infRung):=by
 have hl:=h.last h0;have lp:=h.lp;by_cases c:e0<=e
 .obtain ⟨d,hd⟩:∃d:Nat,e=e0+d:=⟨(e-e0).toNat,by omega⟩;have hm:m0=m*2^d:=by
   rw[hd,mW,mv] at hv;have h1:(m0:Rat)=((m*2^d:Nat):Rat):=by
    rw[xV];have h2:p2 e0*p2 (-e0)=1:=by rw[ycF];exact acL e0
    have h3:(m0:Rat)*p2 e0*p2 (-e0)=(m:Rat)*(p2 e0*((2^d:Nat):Rat))*p2 (-e0):=congrArg (·*p2 (-e0)) hv;rw[vX,h2,vZ] at h3;rw[h3]
    have:(m:Rat)*(p2 e0*((2^d:Nat):Rat))*p2 (-e0)=(m:Rat)*((2^d:Nat):Rat)*(p2 e0*p2 (-e0)):=by grind
    rw[this,h2,vZ]
   exact_mod_cast h1
  have ze:m0≠0:=by rw[hm];exact tv (vv (by omega) (xi _))
  unfold Format.nearest;rw[yz ze];have fK:max (e0+m0.log2-f.fractionBits) f.leastPlace=e:=by
   rw[hm,Q4 h0,<-hl];omega
  dsimp only
  rw[fK];rw[show (e0-e).toNat=0 by omega,Nat.shiftLeft_zero,show (e-e0).toNat=d by omega,hm,ZW];rfl
 .obtain ⟨d,hd⟩:∃d:Nat,e0=e+d:=⟨(e0-e).toNat,by omega⟩;have hm:m=m0*2^d:=by
   rw[hd,mW,mv] at hv;have h1:(m:Rat)=((m0*2^d:Nat):Rat):=by
    rw[xV];have h2:p2 e*p2 (-e)=1:=by rw[ycF];exact acL e
    have h3:(m0:Rat)*(p2 e*((2^d:Nat):Rat))*p2 (-e)=(m:Rat)*p2 e*p2 (-e):=congrArg (·*p2 (-e)) hv;have h4:(m:Rat)*p2 e*p2 (-e)=m:=by rw[vX,h2,vZ]
    rw[h4] at h3;rw[<-h3]
    have:(m0:Rat)*(p2 e*((2^d:Nat):Rat))*p2 (-e)=(m0:Rat)*((2^d:Nat):Rat)*(p2 e*p2 (-e)):=by grind
    rw[this,h2,vZ]
   exact_mod_cast h1
  have ze:m0≠0:=fun q=>by rw[q,vh] at hm;exact h0 hm
  unfold Format.nearest;rw[yz ze];have fK:max (e0+m0.log2-f.fractionBits) f.leastPlace=e:=by
   rw[hm,Q4 ze] at hl;rw[<-hl];omega
  dsimp only
  rw[fK];rw[show (e0-e).toNat=d by omega,show (e-e0).toNat=0 by omega,tk,<-hm]
  have:=ZW (n:=m) (d:=0) (neg:=s)
  rw[uG,yk] at this;rw[this];rfl
end
end VE
end
section
namespace VE
open Ieee
structure Iy(f:Format)(b:Nat)(s:Bool)(m:Nat)(e:Int):Prop where
 can:Can f m e
 lt:fB f m e<f.infRung
 eq:b=f.word s (fB f m e)
def Iy.read{f:Format}{b:Nat}{s:Bool}{m:Nat}{e:Int}(h:Iy f b s m e):f.read b=.number s m e:=by
 rw[h.eq];exact ama h.can s h.lt
def sg(s:Bool):Rat:=if s then -1 else 1
def fv(s:Bool)(m:Nat)(e:Int):Rat:=sg s*((m:Rat)*p2 e)
def aqu{f:Format}{m:Nat}{e:Int}(h:Can f m e)(he:(e-f.leastPlace).toNat+2<=2^f.exponentBits-1):fB f m e<f.infRung:=by
 have aM:=h.lt;rw[xh] at aM;unfold fB Format.infRung Format.binade
 have:=yU (2^f.fractionBits) he
 rw[xP] at this;omega
def aur{f:Format}{n:Nat}{k:Int}(h0:n≠0)(hn:n<2^(f.fractionBits+1))(hk:f.leastPlace<=k):∃m e,Can f m e/\m≠0/\e<=k/\(m:Rat)*p2 e=(n:Rat)*p2 k:=by
 have hl:=(ybh h0).2 hn;obtain⟨j,hj⟩:∃j:Nat,j=min (f.fractionBits-n.log2) (k-f.leastPlace).toNat:=⟨_,rfl⟩;have h1:2^n.log2<=n:=Nat.log2_self_le h0;have h2:n<2^(n.log2+1):=ybN;refine⟨n*2^j,k-j,⟨by omega,?_,?_⟩,tv (vv (by omega) (xi _)),by omega,?_⟩
 .have:n*2^j<2^(n.log2+1)*2^j:=xX h2 (xi _)
  rw[<-xD] at this;exact yE this (xc (by decide) (by omega))
 .by_cases c:f.fractionBits-n.log2<=(k-f.leastPlace).toNat
  .left
   have:=yU (2^j) h1
   rw[<-xD,show n.log2+j=f.fractionBits by omega] at this;exact this
  .right;omega
 .rw [xV,<-mv,vX,<-mW,show (j:Int)+(k-j)=k by omega]
def wr{f:Format}{n:Nat}{k:Int}(h0:n≠0)(hn:n<2^(f.fractionBits+1))(hk:f.leastPlace<=k)(sN:(k-f.leastPlace).toNat+2<=2^f.exponentBits-1){m0:Nat}{e0:Int}(s:Bool)(hv:(m0:Rat)*p2 e0=(n:Rat)*p2 k):∃m e,Iy f (f.write (.number s m0 e0)) s m e/\m≠0/\(m:Rat)*p2 e=(n:Rat)*p2 k:=by
 obtain⟨m,e,hc,hm,he,hq⟩:=aur h0 hn hk;have hr:=aqu hc (by have:=hc.lp;omega);refine⟨m,e,⟨hc,hr,?_⟩,hm,hq⟩;show f.nearest s m0 e0=_
 rw[aok hc hm s (hv.trans hq.symm),xj (by omega)]
def awI(f:Format):Can f 0 f.leastPlace:=⟨ycT _,xi _,.inr rfl⟩
def wr0{f:Format}(s:Bool)(e0:Int)(hi:0<f.infRung):Iy f (f.write (.number s 0 e0)) s 0 f.leastPlace:=by
 have hr:fB f 0 f.leastPlace=0:=by unfold fB;rw[ycG];simp
 refine⟨awI f,by rw[hr];exact hi,?_⟩
 rw[hr];show f.nearest s 0 e0=_
 unfold Format.nearest;rw[yP rfl]
def aus{f:Format}{b:Nat}(hb:b<2*f.signWeight)(sR:f.binade<=f.infRung):(∃s m e,Iy f b s m e)\/(∀s m e,f.read b≠.number s m e):=by
 have mb:=acM f;have hp:0<2^f.fractionBits:=xi _;obtain⟨s,r,hr,rfl⟩:∃(s:Bool) (r:Nat),r<f.signWeight/\b=f.word s r:=by
  by_cases c:b<f.signWeight
  .exact ⟨ydi,b,c,by unfold Format.word;rw[yz (by decide)]⟩
  .exact ⟨ydh,b-f.signWeight,by omega,by unfold Format.word;rw[yP rfl];omega⟩
 by_cases c:r<f.infRung
 .left
  by_cases c1:r<2^f.fractionBits
  .have e:fB f r f.leastPlace=r:=by unfold fB;rw[ycG];simp
   exact⟨s,r,f.leastPlace,⟨ycT _,by rw[xh];omega,.inr rfl⟩,by rw[e];exact c,by rw[e]⟩
  .obtain ⟨d,hd⟩:∃d,r/2^f.fractionBits=d+1:=⟨r/2^f.fractionBits-1,by have:=ycU (ybJ c1) hp;omega⟩;have hm:=xu r hp;have hq:=xz r (2^f.fractionBits);rw[hd,xC,yk,xp] at hq;have e:fB f (2^f.fractionBits+r%2^f.fractionBits) (f.leastPlace+d)=r:=by
    unfold fB;rw[show (f.leastPlace+(d:Int)-f.leastPlace).toNat=d by omega];omega
   exact⟨s,2^f.fractionBits+r%2^f.fractionBits,f.leastPlace+d,⟨by omega,by rw[xh];omega,.inl (by omega)⟩,by rw[e];exact c,by rw[e]⟩
 .right
  intro s' m e h;unfold Format.read at h;have ol:f.word s r%f.signWeight=r:=by
   unfold Format.word
   cases s with
   | true=>rw[yP rfl,ybL,yF hr]
   | false=>rw[yz (by decide),yF hr]
  simp only[ol] at h;rw[yz (by omega),yz c] at h
  split at h<;>cases h
end VE
end
section
namespace VE
open Ieee
section
variable {s:Bool}{e:Int}{m:Nat}
abbrev oJ(b:Nat)(s:Bool)(m:Nat)(e:Int):Prop:=Iy single b s m e
def L6:single.leastPlace= -149:=by decide
def oJ.b{b:Nat}(h:oJ b s m e): -149<=e/\m<16777216/\(8388608<=m\/e= -149)/\e<=104:=by
 have h1:=h.can.lp;have h2:=h.can.lt;have h3:=h.can.ge;have h4:=h.lt;rw[L6] at h1 h3;have h4:(e-single.leastPlace).toNat*8388608+m<2139095040:=h4;rw[L6] at h4;have h2:m<16777216:=h2;have h3:8388608<=m\/e= -149:=h3;exact⟨h1,h2,h3,by omega⟩
def L7{n:Nat}{k:Int}(h0:n≠0)(hn:n<16777216)(hk: -149<=k)(sN:k<=104){m0:Nat}{e0:Int}(s:Bool)(hv:(m0:Rat)*p2 e0=(n:Rat)*p2 k):∃m e,oJ (single.write (.number s m0 e0)) s m e/\m≠0/\(m:Rat)*p2 e=(n:Rat)*p2 k:=
 wr (f:=single) h0 hn (by rw[L6];exact hk) (by rw[L6];show _<=255;omega) s hv
def VL(s:Bool)(e0:Int):oJ (single.write (.number s 0 e0)) s 0 (-149):=by
 have:=wr0 (f:=single) s e0 (by decide)
 rwa[L6] at this
def aea:single.read 1073741824=.number ydi 8388608 (-22):=by decide
def VM{b:Nat}(h:oJ b s m e)(he:e<=103\/m=0):∃b' m' e',single.mul b 1073741824=Ft b'/\oJ b' s m' e'/\(m':Rat)*p2 e'=2*((m:Rat)*p2 e):=by
 obtain⟨b1,b2,b3,b4⟩:=h.b;have hr:=h.read;unfold Format.mul;rw[hr,aea];show ∃b' m' e',Ft (single.write (.number (s^^ydi) (m*8388608) (e+ -22)))=Ft b'/\_
 rw[ybT];by_cases h0:m=0
 .subst h0;rw[vh];exact⟨_,_,_,rfl,VL s _,by simp⟩
 .obtain ⟨m',e',k1,k2,k3⟩:=L7 (n:=m) (k:=e+1) h0 b2 (by omega) (by omega) (m0:=m*8388608) (e0:=e+ -22) s (by
   have:((8388608:Nat):Rat)=p2 23:=(mv 23).symm
   rw[xV,this,vX,<-mW,show (23:Int)+(e+ -22)=e+1 by omega])
  exact⟨_,m',e',rfl,k1,by rw[k3,mW,GO];grind⟩
def VN{b:Nat}(h:oJ b s m e)(he: -148<=e\/m%2=0):∃b' m' e',single.div b 1073741824=Ft b'/\oJ b' s m' e'/\2*((m':Rat)*p2 e')=(m:Rat)*p2 e:=by
 obtain⟨b1,b2,b3,b4⟩:=h.b;have hr:=h.read;unfold Format.div;rw[hr,aea];have hl:(8388608:Nat).log2=23:=by decide
 have e0:Datum.quotient (single.fractionBits+2) (.number s m e) (.number ydi 8388608 (-22))=Ft (.number (s^^ydi) (2*((m<<<(25+23-m.log2))/8388608)+((m<<<(25+23-m.log2))%8388608 !=0).toNat) (e - -22-(25+23-m.log2:Nat)-1)):=by
  show (if (8388608:Nat)=0 then (if m=0 then Fu else Ft (Datum.infinity (s^^ydi))) else Ft (Datum.number (s^^ydi) (2*((m<<<(25+yce 8388608-m.log2))/8388608)+((m<<<(25+yce 8388608-m.log2))%8388608 !=0).toNat) (e - -22-((25+yce 8388608-m.log2:Nat):Int)-1)))=_
  rw[yz (by decide),hl]
 rw[e0,ybT];show ∃b' m' e',Ft (single.write (.number s _ _))=Ft b'/\_
 by_cases h0:m=0
 .subst h0;simp only[Nat.zero_shiftLeft,Nat.zero_div,Nat.zero_mod,xB];exact⟨_,_,_,rfl,VL s _,by simp⟩
 .have CU:m.log2<24:=(ybh h0).2 b2;obtain⟨t,ht⟩:∃t,25+23-m.log2=t+23:=⟨25-m.log2,by omega⟩;have jb:m<<<(t+23)=(m*2^t)*8388608:=by rw[tk,xD,<-xe]
  rw[ht,jb,uT _ (by decide),tn];simp only[bne_self_eq_false,ybF,yW];have aO:((2*(m*2^t):Nat):Rat)*p2 (e - -22-(t+23:Nat)-1)=(m:Rat)*p2 (e-1):=by
   have:((2:Nat):Rat)=p2 1:=(mv 1).symm
   rw[xV,xV,<-mv,this];have h2:p2 1*((m:Rat)*p2 t)*p2 (e - -22-(t+23:Nat)-1)=(m:Rat)*(p2 1*p2 t*p2 (e - -22-(t+23:Nat)-1)):=by grind
   rw[h2,<-mW,<-mW,show (1:Int)+t+(e - -22-(t+23:Nat)-1)=e-1 by omega]
  have fin:∀{m':Nat} {e':Int},(m':Rat)*p2 e'=(m:Rat)*p2 (e-1)->2*((m':Rat)*p2 e')=(m:Rat)*p2 e:=fun {m' e'} q=>by
   rw[q]
   have:p2 e=p2 1*p2 (e-1):=by rw[<-mW,show 1+(e-1)=e by omega]
   rw[this,GO];grind
  by_cases c: -148<=e
  .obtain ⟨m',e',k1,k2,k3⟩:=L7 (n:=m) (k:=e-1) h0 b2 (by omega) (by omega) s aO;exact⟨_,m',e',rfl,k1,fin k3⟩
  .have C8:m%2=0:=by omega
   have hm:((m:Nat):Rat)=((m/2:Nat):Rat)*2:=by
    have:m=m/2*2:=by omega
    conv=>lhs;rw[this,xV]
    rfl
   have hq:(m:Rat)*p2 (e-1)=((m/2:Nat):Rat)*p2 e:=by
    have:p2 e=p2 1*p2 (e-1):=by rw[<-mW,show 1+(e-1)=e by omega]
    rw[hm,this,GO];grind
   obtain⟨m',e',k1,k2,k3⟩:=L7 (n:=m/2) (k:=e) (by omega) (by omega) (by omega) (by omega) s (aO.trans hq);exact⟨_,m',e',rfl,k1,fin (k3.trans hq.symm)⟩
def ofInt{n:Int}(h:n.natAbs<=16777216):∃m e,oJ (single.write (.number (n<0) n.natAbs 0)) (n<0) m e/\(m:Rat)*p2 e=(n.natAbs:Rat):=by
 by_cases h0:n.natAbs=0
 .rw [h0];exact⟨0,-149,VL _ _,by simp⟩
 .by_cases h1:n.natAbs<16777216
  .obtain ⟨m,e,k1,k2,k3⟩:=L7 (n:=n.natAbs) (k:=0) h0 h1 (by omega) (by omega) (m0:=n.natAbs) (e0:=0) (n<0) rfl;exact⟨m,e,k1,by rw[k3,K4,vZ]⟩
  .have h2:n.natAbs=16777216:=by omega
   obtain⟨m,e,k1,k2,k3⟩:=L7 (n:=8388608) (k:=1) (by decide) (by decide) (by omega) (by omega) (m0:=n.natAbs) (e0:=0) (n<0) (by rw[h2,K4,GO];decide+kernel)
   exact⟨m,e,k1,by rw[k3,h2,GO];decide+kernel⟩
def aol(n d:Nat)(s:Bool):Toward.zero.cut s n d=n/2^d:=by
 unfold Toward.cut;simp only[ybE,ybF,yW];by_cases c:d<=n.log2+2
 .rw [xj c]
 .have h1:n<2^(n.log2+1):=ybN;rw[Nat.min_eq_right (by omega),xU (ug h1 (vC (by decide) (by omega))),xU (ug h1 (vC (by decide) (by omega)))]
def oJ.toInt{b:Nat}(h:oJ b s m e):(single.read b).toInt .zero=Ft (if s=ydh then -((m*2^e.toNat/2^(-e).toNat:Nat):Int) else ((m*2^e.toNat/2^(-e).toNat:Nat):Int)):=by
 rw[h.read];unfold Datum.toInt Datum.integral;simp only[aol,tk,signed,uG,yk]
def abV{base:Int}(h:base<=e):((signed s m (e-base).toNat:Int):Rat)*p2 base=fv s m e:=by
 have:p2 e=p2 ((e-base).toNat:Nat)*p2 base:=by rw[<-mW,show ((e-base).toNat:Int)+base=e by omega]
 unfold signed fv sg;rw[this,tk,mv]
 cases s with
 | true=>
  rw[yP rfl,yP rfl,tF]
  have:(((m*2^(e-base).toNat:Nat):Int):Rat)=(m:Rat)*((2^(e-base).toNat:Nat):Rat):=by rw[<-xV];rfl
  rw[this];grind
 | false=>
  rw[yz (by decide),yz (by decide)]
  have:(((m*2^(e-base).toNat:Nat):Int):Rat)=(m:Rat)*((2^(e-base).toNat:Nat):Rat):=by rw[<-xV];rfl
  rw[this];grind
def aqv{x y n:Nat}{t:Bool}{j:Int}(hx:oJ x s m e)(hy:oJ y t n j):single.order x y=Ft (if fv s m e<fv t n j then .lt else if fv s m e=fv t n j then .eq else .gt):=by
 unfold Format.order;rw[hx.read,hy.read];unfold Datum.order;have h1:=abV (m:=m) (s:=s) (show min e j<=e by omega);have h2:=abV (m:=n) (s:=t) (show min e j<=j by omega);have hp:=TU (min e j)
 dsimp only
 generalize signed s m (e-min e j).toNat=a at*
 generalize signed t n (j-min e j).toNat=b at*
 rw[<-h1,<-h2]
 congr 1
 have lt_iff:(a:Rat)*p2 (min e j)<(b:Rat)*p2 (min e j)↔a<b:=by
  constructor
  .intro q
   have:=(uE hp).1 q
   exact_mod_cast this
  .intro q;exact (uE hp).2 (by exact_mod_cast q)
 have eq_iff:(a:Rat)*p2 (min e j)=(b:Rat)*p2 (min e j)↔a=b:=by
  constructor
  .intro q;rcases yac a b with c | c | c
   .have:=lt_iff.2 c;rw[q] at this;exact absurd this (yaN)
   .exact c
   .have:=(uE hp).2 (show (b:Rat)<a by exact_mod_cast c);rw[q] at this;exact absurd this (yaN)
  .intro q;rw[q]
 rcases yac a b with c | c | c
 .rw [yP (lt_iff.2 c)];exact Int.compare_eq_lt.2 c
 .rw [yz (fun q=>by have:=lt_iff.1 q;omega),yP (eq_iff.2 c)];exact Int.compare_eq_eq.2 c
 .rw [yz (fun q=>by have:=lt_iff.1 q;omega),yz (fun q=>by have:=eq_iff.1 q;omega)];exact Int.compare_eq_gt.2 c
end
end VE
end
section
namespace VE
open Ieee
section
variable {s:Bool}{M b:Nat}
def eV(m:Nat)(e:Int):Nat:=m*2^(e+149).toNat
structure Fl(b:Nat)(s:Bool)(M:Nat):Prop where
 ex:∃m e,oJ b s m e/\M=eV m e
def DR{m:Nat}{e:Int}(h: -149<=e):((eV m e:Nat):Rat)=(m:Rat)*p2 e*p2 149:=by
 unfold eV;rw[xV,<-mv,vX,<-mW,show ((e+149).toNat:Int)=e+149 by omega]
def aut:p2 149≠0:=ad9 149
def Fl.lt(h:Fl b s M):M<2^277:=by
 obtain⟨m,e,h1,rfl⟩:=h.ex;obtain⟨b1,b2,b3,b4⟩:=h1.b;unfold eV;have h3:2^(e+149).toNat<=2^253:=xc (by decide) (by omega);have h4:=yS (vU (show m<16777215+1 from b2)) h3;exact wC h4 (aup 16777215 24 253 277 (by decide) rfl)
def Fl.VM(h:Fl b s M)(hM:M<2^276):∃b',single.mul b 1073741824=Ft b'/\Fl b' s (2*M):=by
 obtain⟨m,e,h1,rfl⟩:=h.ex;obtain⟨b1,b2,b3,b4⟩:=h1.b;have he:e<=103\/m=0:=by
  by_cases c:e<=103
  .exact .inl c
  .exfalso
   have hm:8388608<=m:=by omega
   unfold eV at hM;have h3:2^253<=2^(e+149).toNat:=xc (by decide) (by omega);have h4:=yS hm h3;have h5:(2:Nat)^275<=8388608*2^253:=auq 8388608 23 253 275 (by decide) (by decide);omega
 obtain⟨b',m',e',k1,k2,k3⟩:=VE.VM h1 he;have Xs:=k2.b.1;refine⟨b',k1,m',e',k2,?_⟩
 have:((2*eV m e:Nat):Rat)=((eV m' e':Nat):Rat):=by
  rw[xV,DR b1,DR Xs,k3];show (2:Rat)*_=_
  grind
 exact_mod_cast this
def Fl.VN(h:Fl b s M)(hM:M%2=0):∃b',single.div b 1073741824=Ft b'/\Fl b' s (M/2):=by
 obtain⟨m,e,h1,rfl⟩:=h.ex;obtain⟨b1,b2,b3,b4⟩:=h1.b;have he: -148<=e\/m%2=0:=by
  by_cases c: -148<=e
  .exact .inl c
  .have:e= -149:=by omega
   subst this;unfold eV at hM;right
   simpa using hM
 obtain⟨b',m',e',k1,k2,k3⟩:=VE.VN h1 he;have Xs:=k2.b.1;refine⟨b',k1,m',e',k2,?_⟩
 have:((eV m e:Nat):Rat)=((2*eV m' e':Nat):Rat):=by
  rw[xV,DR b1,DR Xs,<-k3];show _=(2:Rat)*_
  grind
 have:eV m e=2*eV m' e':=by exact_mod_cast this
 omega
def bX(s:Bool)(M:Nat):Int:=if s then -(M:Int) else M
def aeb{m:Nat}{e:Int}(h: -149<=e):fv s m e*p2 149=((bX s (eV m e):Int):Rat):=by
 unfold fv sg bX
 cases s with
 | true=>
  rw[yP rfl,yP rfl,tF]
  have:=DR (m:=m) h
  have h2:(((eV m e:Nat):Int):Rat)=((eV m e:Nat):Rat):=rfl;rw[h2,this];grind
 | false=>
  rw[yz (by decide),yz (by decide)]
  have:=DR (m:=m) h
  have h2:(((eV m e:Nat):Int):Rat)=((eV m e:Nat):Rat):=rfl;rw[h2,this];grind
def Fl.ord{x y:Nat}{t:Bool}{N:Nat}(hx:Fl x s M)(hy:Fl y t N):single.order x y=Ft (if bX s M<bX t N then .lt else if bX s M=bX t N then .eq else .gt):=by
 obtain⟨m,e,h1,rfl⟩:=hx.ex;obtain⟨n,j,h2,rfl⟩:=hy.ex;rw[aqv h1 h2];have q1:=aeb (s:=s) (m:=m) h1.b.1;have q2:=aeb (s:=t) (m:=n) h2.b.1;have hp:=TU 149;have lt_iff:fv s m e<fv t n j↔bX s (eV m e)<bX t (eV n j):=by
  rw[<-uE hp,q1,q2];exact Rat.intCast_lt_intCast
 have eq_iff:fv s m e=fv t n j↔bX s (eV m e)=bX t (eV n j):=by
  constructor
  .intro q;rw[q,q2] at q1;exact (Rat.intCast_inj.1 q1).symm
  .intro q
   have:fv s m e*p2 149=fv t n j*p2 149:=by rw[q1,q2,q]
   have h3:=congrArg (·*(p2 149)⁻¹) this;simpa only[vX,Rat.mul_inv_cancel _ aut,vZ] using h3
 congr 1
 by_cases c1:bX s (eV m e)<bX t (eV n j)
 .rw [yP c1,yP (lt_iff.2 c1)]
 .rw [yz c1,yz (fun q=>c1 (lt_iff.1 q))];by_cases c2:bX s (eV m e)=bX t (eV n j)
  .rw [yP c2,yP (eq_iff.2 c2)]
  .rw [yz c2,yz (fun q=>c2 (eq_iff.1 q))]
def Fl.ofInt{n:Int}(h:n.natAbs<=16777216):Fl (single.write (.number (n<0) n.natAbs 0)) (n<0) (n.natAbs*2^149):=by
 obtain⟨m,e,k1,k2⟩:=VE.ofInt h;refine⟨m,e,k1,?_⟩;have b1:=k1.b.1
 have:((n.natAbs*2^149:Nat):Rat)=((eV m e:Nat):Rat):=by
  rw[DR b1,k2,xV,<-mv];rfl
 exact_mod_cast this
def Fl.toInt(h:Fl b s M):(single.read b).toInt .zero=Ft (bX s (M/2^149)):=by
 obtain⟨m,e,h1,rfl⟩:=h.ex;have b1:=h1.b.1;rw[h1.toInt]
 have:m*2^e.toNat/2^(-e).toNat=eV m e/2^149:=by
  unfold eV;by_cases c:0<=e
  .rw [show (-e).toNat=0 by omega,uG,Nat.div_one,show (e+149).toNat=e.toNat+149 by omega,xD,<-xe,uT _ (xi _)]
  .obtain ⟨d,hd⟩:∃d:Nat,e= -(d:Int):=⟨(-e).toNat,by omega⟩;have jy:(e+149).toNat+d=149:=by omega
   rw[show e.toNat=0 by omega,uG,yk,show (-e).toNat=d by omega];have hp:0<2^(e+149).toNat:=xi _;rw[<-jy,xD,xp m,Nat.mul_div_mul_left _ _ hp]
 rw[this];unfold bX;cases s<;>rfl
def Fl.neg(h:Fl b s M):Fl (b^^^2147483648) (!s) M:=by
 obtain⟨m,e,h1,rfl⟩:=h.ex;refine⟨m,e,⟨h1.can,h1.lt,?_⟩,rfl⟩;have hr:fB single m e<2^31:=ug h1.lt (by decide);have sw:single.signWeight=2^31:=by decide
 rw[h1.eq];unfold Format.word;rw[sw];have hx:fB single m e^^^2147483648=2^31+fB single m e:=by
  rw[show (2147483648:Nat)=2^31*1 by decide,Nat.xor_comm]
  have:=Nat.two_pow_add_eq_or_of_lt hr 1
  have h2:=Nat.xor_mod_two_pow (a:=fB single m e) (b:=2^31*1) (n:=31);refine Nat.eq_of_testBit_eq fun i=>?_
  rw[Nat.testBit_xor,show 2^31+fB single m e=2^31*1+fB single m e by omega,Nat.testBit_two_pow_mul_add _ hr,Nat.testBit_two_pow_mul];by_cases c:i<31
  .simp [c,show ¬31<=i by omega]
  .have:Nat.testBit (fB single m e) i=ydi:=Nat.testBit_lt_two_pow (yE hr (xc (by decide) (by omega)))
   simp[c,this,show 31<=i by omega]
 cases s with
 | false=>rw[yz (by decide),hx];rfl
 | true=>
  rw[yP rfl]
  have:(2^31+fB single m e)^^^2147483648=fB single m e:=by rw[<-hx,Nat.xor_assoc,Nat.xor_self,Nat.xor_zero]
  rw[this];rfl
end
end VE
end
section
namespace VE
open Go (IntKind)
open Ieee
section
variable {s:Bool}{M b:Nat}
def Fl.even(h:Fl b s M)(hM:2^173<=M):M%2=0:=by
 obtain⟨m,e,h1,rfl⟩:=h.ex;obtain⟨b1,b2,b3,b4⟩:=h1.b;by_cases c:e<=0
 .exfalso
  unfold eV at hM;have h3:2^(e+149).toNat<=2^149:=xc (by decide) (by omega);have h4:=yS (vU (show m<16777215+1 from b2)) h3;have h5:16777215*(2:Nat)^149<2^173:=by decide
  omega
 .obtain ⟨d,hd⟩:∃d,(e+149).toNat=d+1:=⟨(e+148).toNat,by omega⟩;unfold eV;rw[hd,xh,<-xe,tn]
def Fl.whole(h:Fl b s M)(hM:2^172<=M):M%2^149=0:=by
 obtain⟨m,e,h1,rfl⟩:=h.ex;obtain⟨b1,b2,b3,b4⟩:=h1.b;by_cases c:e<0
 .exfalso
  unfold eV at hM;have h3:2^(e+149).toNat<=2^148:=xc (by decide) (by omega);have h4:=yS (vU (show m<16777215+1 from b2)) h3;have h5:16777215*(2:Nat)^148<2^172:=by decide
  omega
 .obtain ⟨d,hd⟩:∃d,(e+149).toNat=d+149:=⟨e.toNat,by omega⟩;unfold eV;rw[hd,xD,<-xe,tn]
def auu(h:Fl b s M)(hM:M<2^276):∃b',binOp .mul (.ao .f32 b) (.ao .f32 1073741824)=Ft (.ao .f32 b')/\Fl b' s (2*M):=by
 obtain⟨b',k1,k2⟩:=h.VM hM;refine⟨b',?_,k2⟩;show (match single.mul b 1073741824 with | some b=>Ft (AV.ao .f32 b) | none=>Fu)=_
 rw[k1]
def auv(h:Fl b s M)(hM:M%2=0):∃b',binOp .quo (.ao .f32 b) (.ao .f32 1073741824)=Ft (.ao .f32 b')/\Fl b' s (M/2):=by
 obtain⟨b',k1,k2⟩:=h.VN hM;refine⟨b',?_,k2⟩;show (match single.div b 1073741824 with | some b=>Ft (AV.ao .f32 b) | none=>Fu)=_
 rw[k1]
section
variable {x y M N:Nat}{s t:Bool}(hx:Fl x s M)(hy:Fl y t N)
include hx hy
theorem awJ:binOp .geq (.ao .f32 x) (.ao .f32 y)=Ft (.bool (decide (bX t N<=bX s M))):=by
 show Ft (AV.bool (single.order x y==Ft .gt||single.order x y==Ft .eq))=_
 rw[hx.ord hy];by_cases c:bX s M<bX t N
 .rw [yP c,xv (by omega)];rfl
 .rw [yz c,xT (by omega)];split<;>rfl
theorem awK:binOp .neq (.ao .f32 x) (.ao .f32 y)=Ft (.bool (!decide (bX s M=bX t N))):=by
 show Ft (AV.bool (single.order x y !=Ft .eq))=_
 rw[hx.ord hy];by_cases c:bX s M<bX t N
 .rw [yP c,xv (by omega)];rfl
 .rw [yz c];by_cases d:bX s M=bX t N
  .rw [yP d,xT d];rfl
  .rw [yz d,xv d];rfl
end
def aec(b:Nat):unOp .neg (.ao .f32 b)=Ft (.ao .f32 (b^^^2147483648)):=rfl
def awL(h:Fl b s M):∃a,max2 (.ao .f32 b) (.ao .f32 (b^^^2147483648))=Ft (.ao .f32 a)/\Fl a ydi M:=by
 have hn:=h.neg;have ho:=h.ord hn
 have e:max2 (.ao .f32 b) (.ao .f32 (b^^^2147483648))=(match single.order b (b^^^2147483648) with
  | none=>Fu
  | some .lt=>Ft (.ao .f32 (b^^^2147483648))
  | some .gt=>Ft (.ao .f32 b)
  | some .eq=>Ft (.ao .f32 (if (single.read b).neg then (b^^^2147483648) else b))):=rfl
 rw[e,ho];obtain⟨m,j,h1,hM⟩:=h.ex;have hr:(single.read b).neg=s:=by rw[h1.read];rfl
 cases s with
 | true=>
  by_cases c:bX ydh M<bX (!ydh) M
  .rw [yP c];exact⟨_,rfl,hn⟩
  .have:bX ydh M=bX (!ydh) M:=by
    unfold bX at c ⊢;simp at c ⊢;omega
   rw[yz c,yP this]
   dsimp only
   rw[hr,yP rfl];exact⟨_,rfl,hn⟩
 | false=>
  have c:¬bX ydi M<bX (!ydi) M:=by
   show ¬(M:Int)< -(M:Int)
   omega
  rw[yz c];by_cases d:bX ydi M=bX (!ydi) M
  .rw [yP d]
   dsimp only
   rw[hr,yz (by decide)];exact⟨_,rfl,h⟩
  .rw [yz d];exact⟨_,rfl,h⟩
def abW(h:Fl b s M)(hM:M<2^200):kC (.toInt .i64) (.ao .f32 b)=Ft (.int .i64 (bX s (M/2^149))):=by
 have e:kC (.toInt .i64) (.ao .f32 b)=(match (single.read b).toInt .zero with
  | some n=>if IntKind.min .i64<=n/\n<=IntKind.max .i64 then Ft (.int .i64 n) else Fu
  | none=>Fu):=rfl
 rw[e,h.toInt];have h1:M/2^149<2^51:=by rw[xK (xi _),<-xD];exact hM
 generalize M/2^149=n at h1
 have:IntKind.min .i64<=bX s n/\bX s n<=IntKind.max .i64:=by
  rw[show IntKind.min .i64= -9223372036854775808 from rfl,show IntKind.max .i64=9223372036854775807 from rfl];unfold bX
  split<;>omega
 exact yP this
def aqw{n:Int}(h:n.natAbs<=16777216):∃b,kC (.toFlt .f32) (.int .i64 n)=Ft (.ao .f32 b)/\Fl b (n<0) (n.natAbs*2^149):=
 ⟨_,rfl,Fl.ofInt h⟩
def awM:Fl 1266679808 ydi (2^173):=⟨8388608,1,⟨⟨by decide,by decide,.inl (by decide)⟩,by decide,by decide⟩,by decide⟩
end
end VE
end
section
namespace VE
open Go (IntKind)
def amb(p s:Nat):p*(s%1000000000)+p*1000000000*(s/1000000000)=p*s:=by
 rw[xe,<-xC,tg]
def I7{l:List Int}{i:Nat}(h:l.length<=i):l.getD i 0=0:=by simp_all
def aom{a b out:List Int}{i c:Nat}{x y:Int}(hx:x=a.getD i 0)(hy:y=b.getD i 0)(h1:0<=x)(h2:0<=y)(hl:out.length=i)(hv:dv out+1000000000^i*c=dv (a.take i)+dv (b.take i)):
  dv (out++[(((x.toNat+y.toNat+c)%1000000000:Nat):Int)])+1000000000^(i+1)*((x.toNat+y.toNat+c)/1000000000)=dv (a.take (i+1))+dv (b.take (i+1)):=by
 rw[qu,qu,nO,hl,<-hx,<-hy];simp only[dv,wJ,xB,yW,xh]
 have:=amb (1000000000^i) (x.toNat+y.toNat+c)
 grind
section
variable {P:aF}{L:Lib}
def auw(om:Has P L 302 zT){v w:AV}{a b:List Int}(hv:bn v a)(hw:bn w b)(ha:dg a)(hb:dg b){N:Nat}(la:a.length<=N)(lb:b.length<=N)(lN:N<=20000000000):
  en P L [0,1,5,6,7] qD (fun k s=>∃(i c:Nat) (out:List Int),2*(N-i)+c=k/\out.length=i/\c<=1/\dg out/\dv out+1000000000^i*c=dv (a.take i)+dv (b.take i)/\i<=N+1/\(i<=N\/c=0)/\
    ((i=0/\s=⟨[(0,v),(1,w),(5,.af),(6,aa c),(7,aa i)],[],0,0⟩)\/
    (0<i/\s=⟨[(0,v),(1,w),(5,.ap 0 0 i),(6,aa c),(7,aa i)],[(0,.cells ydh ydh ydi 1 (out.map aa))],1,0⟩))) (fun ex s'=>∃tm out,ex=.exit 0/\dg out/\dv out=dv a+dv b/\out.length<=N+1/\((out=[]/\ak tm 5=.af/\s'=⟨tm,[],0,0⟩)\/(0<out.length/\ak tm 5=.ap 0 0 out.length/\s'=⟨tm,[(0,.cells ydh ydh ydi 1 (out.map aa))],1,0⟩))):=by
 apply eB;rintro k s ⟨i,c,out,hk,hlen,hc,oI,aO,hi,G8,hs⟩;have e1:=Vk om hv i;have e2:=Vk om hw i;unfold ah at e1 e2;have ga:=iV ha i;have gb:=iV hb i;by_cases Ag:i<a.length\/i<b.length\/0<c
 .left
  obtain⟨x,hx⟩:∃x,x=a.getD i 0:=⟨_,rfl⟩;obtain⟨y,hy⟩:∃y,y=b.getD i 0:=⟨_,rfl⟩;rw[<-hx] at e1 ga;rw[<-hy] at e2 gb;have lL:=aom (c:=c) hx hy ga.1 gb.1 hlen aO;obtain⟨s0,Bq⟩:∃s0,s0=x.toNat+y.toNat+c:=⟨_,rfl⟩;rw[<-Bq] at lL;have qU:x+y+(c:Int)=(s0:Int):=by lia
  have hs9:s0<2000000000:=by lia
  have hr:((s0:Nat):Int).tmod 1000000000=((s0%1000000000:Nat):Int):=by rw[wj (by lia)];rfl
  have hq:((s0:Nat):Int).tdiv 1000000000=((s0/1000000000:Nat):Int):=by rw[wm (by lia)];rfl
  have ki:s0/1000000000<=1:=by lia
  have awN:2*(N-(i+1))+s0/1000000000<k:=by
   by_cases hm:i<N
   .lia
   .have:c=1:=by lia
    have BC:x=0:=by rw[hx];exact I7 (by lia)
    have kI:y=0:=by rw[hy];exact I7 (by lia)
    subst BC;subst kI
    have:s0=1:=by rw[Bq,this];rfl
    subst this
    lia
  have GP:dg (out++[((s0%1000000000:Nat):Int)]):=iS.2 ⟨oI,mr.2 (by lia)⟩;have Uz:(out++[((s0%1000000000:Nat):Int)]).length=i+1:=by simp[hlen]
  have ayJ:i+1<=N\/s0/1000000000=0:=by
   by_cases hm:i<N
   .exact .inl hm
   .right
    have:c=1:=by lia
    have BC:x=0:=by rw[hx];exact I7 (by lia)
    have kI:y=0:=by rw[hy];exact I7 (by lia)
    subst BC;subst kI
    have:s0=1:=by rw[Bq,this];rfl
    subst this;rfl
  have fin:∃s',D P L qD s=Ft (.normal,s')/\br [0,1,5,6,7] s'=⟨[(0,v),(1,w),(5,.ap 0 0 (i+1)),(6,aa (s0/1000000000:Nat)),(7,aa (i+1:Nat))],[(0,.cells ydh ydh ydi 1 ((out++[((s0%1000000000:Nat):Int)]).map aa))],1,0⟩:=by
   have three:((i:Int)<a.length)\/(¬(i:Int)<a.length/\(i:Int)<b.length)\/(¬(i:Int)<a.length/\¬(i:Int)<b.length/\(0:Int)<c):=by lia
   rcases three with t1 | ⟨t1,t2⟩ | ⟨t1,t2,t3⟩
   .rcases hs with ⟨h0,rfl⟩ | ⟨h0,rfl⟩
    .subst h0;have nk:out=[]:=yK hlen;subst nk
     simp only[go_sem,ya,yc,xn,yB,yo,yk,qD,hv.len,hv.aj,hw.aj,t1,e1,e2,wrap64 (n:=x+y) (by lia) (by lia),qU,wrap64 (n:=(s0:Int)) (by lia) (by lia),fE _ _ _ (show (1000000000:Int)≠0 by decide),fW _ _ _ (show (1000000000:Int)≠0 by decide),hr,hq,wrap64 (n:=((s0/1000000000:Nat):Int)) (by lia) (by lia),jC];refine⟨_,rfl,?_⟩;rw[wrap64 (by lia) (by lia)];simp only[go_sem,ya,yc,aA,aE hv.pu,aE hw.pu]<;>rfl
    .simp only [go_sem,ya,yc,yo,yk,qD,hv.len,hv.aj,hw.aj,t1,e1,e2,wrap64 (n:=x+y) (by lia) (by lia),qU,wrap64 (n:=(s0:Int)) (by lia) (by lia),fE _ _ _ (show (1000000000:Int)≠0 by decide),hr]
     rw[gA (ex:=ydi) (pu:=ydh) (cs:=out.map aa) rfl (by rw[yL,hlen,yk]) (by lia) (by lia) (by decide) rfl]
     simp only[go_sem,ya,yc,fW _ _ _ (show (1000000000:Int)≠0 by decide),hq,wrap64 (n:=((s0/1000000000:Nat):Int)) (by lia) (by lia)];refine⟨_,rfl,?_⟩;rw[wrap64 (by lia) (by lia),xA];simp only[go_sem,ya,yc,aA,aE hv.pu,aE hw.pu]<;>rfl
   .rcases hs with ⟨h0,rfl⟩ | ⟨h0,rfl⟩
    .subst h0;have nk:out=[]:=yK hlen;subst nk
     simp only[go_sem,ya,yc,xn,yB,yo,yk,qD,hv.len,hv.aj,hw.len,hw.aj,t1,t2,e1,e2,wrap64 (n:=x+y) (by lia) (by lia),qU,wrap64 (n:=(s0:Int)) (by lia) (by lia),fE _ _ _ (show (1000000000:Int)≠0 by decide),fW _ _ _ (show (1000000000:Int)≠0 by decide),hr,hq,wrap64 (n:=((s0/1000000000:Nat):Int)) (by lia) (by lia),jC];refine⟨_,rfl,?_⟩;rw[wrap64 (by lia) (by lia)];simp only[go_sem,ya,yc,aA,aE hv.pu,aE hw.pu]<;>rfl
    .simp only [go_sem,ya,yc,yo,yk,qD,hv.len,hv.aj,hw.len,hw.aj,t1,t2,e1,e2,wrap64 (n:=x+y) (by lia) (by lia),qU,wrap64 (n:=(s0:Int)) (by lia) (by lia),fE _ _ _ (show (1000000000:Int)≠0 by decide),hr]
     rw[gA (ex:=ydi) (pu:=ydh) (cs:=out.map aa) rfl (by rw[yL,hlen,yk]) (by lia) (by lia) (by decide) rfl]
     simp only[go_sem,ya,yc,fW _ _ _ (show (1000000000:Int)≠0 by decide),hq,wrap64 (n:=((s0/1000000000:Nat):Int)) (by lia) (by lia)];refine⟨_,rfl,?_⟩;rw[wrap64 (by lia) (by lia),xA];simp only[go_sem,ya,yc,aA,aE hv.pu,aE hw.pu]<;>rfl
   .rcases hs with ⟨h0,rfl⟩ | ⟨h0,rfl⟩
    .subst h0;have nk:out=[]:=yK hlen;subst nk
     simp only[go_sem,ya,yc,xn,yB,yo,yk,qD,hv.len,hv.aj,hw.len,hw.aj,t1,t2,t3,e1,e2,wrap64 (n:=x+y) (by lia) (by lia),qU,wrap64 (n:=(s0:Int)) (by lia) (by lia),fE _ _ _ (show (1000000000:Int)≠0 by decide),fW _ _ _ (show (1000000000:Int)≠0 by decide),hr,hq,wrap64 (n:=((s0/1000000000:Nat):Int)) (by lia) (by lia),jC];refine⟨_,rfl,?_⟩;rw[wrap64 (by lia) (by lia)];simp only[go_sem,ya,yc,aA,aE hv.pu,aE hw.pu]<;>rfl
    .simp only [go_sem,ya,yc,yo,yk,qD,hv.len,hv.aj,hw.len,hw.aj,t1,t2,t3,e1,e2,wrap64 (n:=x+y) (by lia) (by lia),qU,wrap64 (n:=(s0:Int)) (by lia) (by lia),fE _ _ _ (show (1000000000:Int)≠0 by decide),hr]
     rw[gA (ex:=ydi) (pu:=ydh) (cs:=out.map aa) rfl (by rw[yL,hlen,yk]) (by lia) (by lia) (by decide) rfl]
     simp only[go_sem,ya,yc,fW _ _ _ (show (1000000000:Int)≠0 by decide),hq,wrap64 (n:=((s0/1000000000:Nat):Int)) (by lia) (by lia)];refine⟨_,rfl,?_⟩;rw[wrap64 (by lia) (by lia),xA];simp only[go_sem,ya,yc,aA,aE hv.pu,aE hw.pu]<;>rfl
  have⟨s',f1,f2⟩:=fin;exact⟨s',_,f1,awN,i+1,s0/1000000000,_,rfl,Uz,ki,GP,lL,by lia,ayJ,.inr ⟨by lia,f2⟩⟩
 .right
  have jO:c=0:=by lia
  subst jO;rw[xB,yW,yG (by lia),yG (by lia)] at aO;rcases hs with ⟨h0,rfl⟩ | ⟨h0,rfl⟩
  .simp only [go_sem,ya,qD,hv.len,hw.len,show ¬(i:Int)<a.length by lia,show ¬(i:Int)<b.length by lia,show ¬(0:Int)<((0:Nat):Int) by lia];exact⟨_,_,rfl,by simp,_,out,rfl,oI,aO,by lia,.inl ⟨yK (by lia),rfl,rfl⟩⟩
  .simp only [go_sem,ya,qD,hv.len,hw.len,show ¬(i:Int)<a.length by lia,show ¬(i:Int)<b.length by lia,show ¬(0:Int)<((0:Nat):Int) by lia];exact⟨_,_,rfl,by simp,_,out,rfl,oI,aO,by lia,.inr ⟨by lia,by rw[hlen];simp only[go_sem,ya],rfl⟩⟩
def ayK(h:Has P L 295 KF)(om:Has P L 302 zT){v w:AV}{a b:List Int}(hv:bn v a)(hw:bn w b)(ha:dg a)(hb:dg b)(la:a.length<=20000000000)(lb:b.length<=20000000000):
  ∃r out,ah P L 295 [v,w] r/\bn (shut r) out/\dg out/\dv out=dv a+dv b/\out.length<=max a.length b.length+1:=by
 have jM:∃out,ah P L 295 [v,w] (if out=[] then .af else .cF ydi 1 out.length (out.map aa))/\dg out/\dv out=dv a+dv b/\out.length<=max a.length b.length+1:=by
  unfold ah;rw[aJ h];simp only[go_sem,KF];generalize hq:D P L (.loop _ qD) _=q;obtain⟨ex,s,rfl,tm,out,rfl,hd,aO,hl,hs⟩:=bN hq (auw (P:=P) (L:=L) om hv hw ha hb (N:=max a.length b.length) (by lia) (by lia) (by lia) (2*(max a.length b.length))) ⟨0,0,[],by lia,rfl,by lia,rfl,by simp[dv],by lia,.inr rfl,.inl ⟨rfl,by simp only[go_sem,ya,aA,aE hv.pu,aE hw.pu]<;>rfl⟩⟩
  refine⟨out,?_,hd,aO,hl⟩;rcases hs with ⟨h0,h5,rfl⟩ | ⟨h0,h5,rfl⟩
  .rw [yP h0];simp only[go_sem,aA,h5]
  .rw [yz (by intro e;subst e;simp at h0)];simp only[go_sem,yc,aA,h5];exact Rw (jB _ _ _) (by simp) (by decide)
 have⟨out,g1,g2,g3,g4⟩:=jM;refine⟨_,out,g1,?_,g2,g3,g4⟩
 split
 .rename_i e;subst e;exact rT
 .exact mN ydi out
end
end VE
end
section
namespace VE
open Go (IntKind)
section
variable {P:aF}{L:Lib}
def VO(h:Has P L 296 zS){v w:AV}{a b:List Int}(hv:bn v a)(hw:bn w b)(ha:dg a)(hb:dg b)(na:nz a)(nb:nz b)(la:a.length<=20000000000)(lb:b.length<=20000000000):
  ah P L 296 [v,w] (aa (dN (dv a) (dv b))):=by
 unfold ah;rw[aJ h];by_cases hlen:a.length=b.length
 .have key:=ji P L [0,1,5] D1
   (fun k st=>∃j:Nat,st=⟨[(0,v),(1,w),(5,aa ((j:Int)-1))],[],0,0⟩/\j<=a.length/\j=k/\a.drop j=b.drop j)
   (fun ex st=>∃tm ct,st=⟨tm,[],ct,0⟩/\((ex=.ret/\ak tm 4=aa (dN (dv a) (dv b)))\/(ex=.exit 0/\a=b))) ?_
  .simp only [go_sem,ya,zS,hv.len,hw.len,show (a.length:Int)=b.length by lia];generalize hq:D P L (.loop _ D1) _=q;obtain⟨ex,st,rfl,tm,ct,rfl,h2⟩:=bN hq (key a.length) ⟨a.length,by
    rw[wrap64 (by lia) (by lia)];rw[hlen]
    simp only[go_sem,ya,aA,aE hv.pu,aE hw.pu]<;>rfl,yu _,rfl,by rw[xf (yu _),xf (by lia)]⟩
   rcases h2 with ⟨rfl,h2⟩ | ⟨rfl,h2⟩
   .simp only [go_sem,h2]
   .simp only [go_sem,aA];subst h2;simp[dN]
  .rintro k st ⟨j,rfl,hj,rfl,he⟩
   cases j with
   | zero=>
    right
    simp only[go_sem,ya,D1,show ¬(0:Int)<=((0:Nat):Int)-1 by lia];exact⟨_,_,rfl,by simp,_,_,rfl,.inr ⟨rfl,by simpa using he⟩⟩
   | succ i=>
    have h1:i<a.length:=by lia
    have h2:i<b.length:=by lia
    have C3:=abJ ha hb h1 h2 he;have aM:=abJ hb ha h2 h1 he.symm;by_cases c1:a[i]<b[i]
    .right
     simp only[go_sem,ya,D1,show ((i+1:Nat):Int)-1=(i:Int) by lia,show (0:Int)<=(i:Int) by lia,hv.bh h1,hw.bh h2,c1];refine⟨_,_,rfl,by simp,_,_,rfl,.inl ⟨rfl,?_⟩⟩;simp only[go_sem];unfold dN;rw[yP (C3 c1)]
    .by_cases c2:b[i]<a[i]
     .right
      simp only[go_sem,ya,D1,show ((i+1:Nat):Int)-1=(i:Int) by lia,show (0:Int)<=(i:Int) by lia,hv.bh h1,hw.bh h2,c1,c2];refine⟨_,_,rfl,by simp,_,_,rfl,.inl ⟨rfl,?_⟩⟩;simp only[go_sem];unfold dN;rw[yz (by lia),yP (by lia)]
     .left
      simp only[go_sem,ya,D1,show ((i+1:Nat):Int)-1=(i:Int) by lia,show (0:Int)<=(i:Int) by lia,hv.bh h1,hw.bh h2,c1,c2];refine⟨_,i,rfl,by lia,i,?_,by lia,rfl,?_⟩
      .rw [wrap64 (by lia) (by lia)];simp only[go_sem,ya,aA,aE hv.pu,aE hw.pu]<;>rfl
      .rw [yR h1,yR h2,he,show a[i]=b[i] by lia]
 .by_cases c1:a.length<b.length
  .have:=TD ha nb hb c1
   simp only[go_sem,ya,zS,hv.len,hw.len,show ¬(a.length:Int)=b.length by lia,show (a.length:Int)<b.length by lia];unfold dN;rw[yP this]
  .have:=TD hb na ha (show b.length<a.length by lia)
   simp only[go_sem,ya,zS,hv.len,hw.len,show ¬(a.length:Int)=b.length by lia,show ¬(a.length:Int)<b.length by lia];unfold dN;rw[yz (by lia),yP this]
def aon{a b out:List Int}{i c:Nat}{x y z:Int}{c':Nat}(hx:x=a.getD i 0)(hy:y=b.getD i 0)(h1:0<=x)(h2:0<=y)(h3:0<=z)(hz:z=x-y-c+1000000000*c')(hl:out.length=i)(hv:dv out+dv (b.take i)=dv (a.take i)+1000000000^i*c):
  dv (out++[z])+dv (b.take (i+1))=dv (a.take (i+1))+1000000000^(i+1)*c':=by
 rw[qu,qu,nO,hl,<-hx,<-hy];simp only[dv,xB,yW,xh];have e:z.toNat+y.toNat+c=x.toNat+1000000000*c':=by lia
 grind
end
end VE
end
section
namespace VE
open Go (IntKind)
section
variable {P:aF}{L:Lib}
def auy(om:Has P L 302 zT){v w:AV}{a b:List Int}(hv:bn v a)(hw:bn w b)(ha:dg a)(hb:dg b)(la:a.length<=20000000000)(hle:dv b<=dv a)(iN:b.length<=a.length):
  en P L [0,1,5,6,7] zC (fun k s=>∃(i c:Nat) (out:List Int),i+k=a.length/\out.length=i/\c<=1/\dg out/\dv out+dv (b.take i)=dv (a.take i)+1000000000^i*c/\
    ((i=0/\s=⟨[(0,v),(1,w),(5,.af),(6,aa c),(7,aa i)],[],0,0⟩)\/
    (0<i/\s=⟨[(0,v),(1,w),(5,.ap 0 0 i),(6,aa c),(7,aa i)],[(0,.cells ydh ydh ydi 1 (out.map aa))],1,0⟩))) (fun ex s'=>∃tm out,ex=.exit 0/\dg out/\dv out+dv b=dv a/\out.length<=20000000000/\((out=[]/\ak tm 5=.af/\s'=⟨tm,[],0,0⟩)\/(0<out.length/\ak tm 5=.ap 0 0 out.length/\s'=⟨tm,[(0,.cells ydh ydh ydi 1 (out.map aa))],1,0⟩))):=by
 apply eB;rintro k s ⟨i,c,out,hk,hlen,hc,oI,aO,hs⟩;have e2:=Vk om hw i;unfold ah at e2;have ga:=iV ha i;have gb:=iV hb i;by_cases Ag:i<a.length
 .left
  obtain⟨x,hx⟩:∃x,x=a.getD i 0:=⟨_,rfl⟩;obtain⟨y,hy⟩:∃y,y=b.getD i 0:=⟨_,rfl⟩;have rF:a[i]=x:=by rw[hx];simp[yD,yN Ag]
  have e1:=hv.bh Ag;rw[rF] at e1;rw[<-hx] at ga;rw[<-hy] at e2 gb;obtain⟨z,c',hz,ki,lA,kW,Kh⟩:∃(z:Int) (c':Nat),z=x-y-c+1000000000*c'/\c'<=1/\0<=z/\z<1000000000/\((x-y-c<0/\c'=1)\/(¬x-y-c<0/\c'=0)):=by
   by_cases h:x-y-c<0
   .exact ⟨x-y-c+1000000000,1,by lia,by lia,by lia,by lia,.inl ⟨h,rfl⟩⟩
   .exact ⟨x-y-c,0,by lia,by lia,by lia,by lia,.inr ⟨h,rfl⟩⟩
  have lL:=aon hx hy ga.1 gb.1 lA hz hlen aO;have GP:dg (out++[z]):=iS.2 ⟨oI,mr.2 ⟨lA,kW⟩⟩;have Uz:(out++[z]).length=i+1:=by simp[hlen]
  have fin:∃s',D P L zC s=Ft (.normal,s')/\br [0,1,5,6,7] s'=⟨[(0,v),(1,w),(5,.ap 0 0 (i+1)),(6,aa c'),(7,aa (i+1:Nat))],[(0,.cells ydh ydh ydi 1 ((out++[z]).map aa))],1,0⟩:=by
   rcases Kh with ⟨gF,rfl⟩ | ⟨gF,rfl⟩
   .have eK:x-y-c+1000000000=z:=by lia
    rcases hs with ⟨h0,rfl⟩ | ⟨h0,rfl⟩
    .subst h0;have nk:out=[]:=yK hlen;subst nk
     simp only[go_sem,ya,yc,xn,yB,yo,yk,zC,hv.len,hw.aj,show ((0:Nat):Int)<a.length by lia,e1,e2,wrap64 (n:=x-y) (by lia) (by lia),wrap64 (n:=x-y-(c:Int)) (by lia) (by lia),gF,eK,wrap64 (n:=z) (by lia) (by lia),jC];refine⟨_,rfl,?_⟩;rw[wrap64 (by lia) (by lia)];simp only[go_sem,ya,yc,aA,aE hv.pu,aE hw.pu]<;>rfl
    .simp only [go_sem,ya,yc,yo,yk,zC,hv.len,hw.aj,show (i:Int)<a.length by lia,e1,e2,wrap64 (n:=x-y) (by lia) (by lia),wrap64 (n:=x-y-(c:Int)) (by lia) (by lia),gF,eK,wrap64 (n:=z) (by lia) (by lia)]
     rw[gA (ex:=ydi) (pu:=ydh) (cs:=out.map aa) rfl (by rw[yL,hlen,yk]) (by lia) (by lia) (by decide) rfl];simp only[go_sem,ya,yc];refine⟨_,rfl,?_⟩;rw[wrap64 (by lia) (by lia),xA];simp only[go_sem,ya,yc,aA,aE hv.pu,aE hw.pu]<;>rfl
   .have eK:x-y-c=z:=by lia
    have gF:¬z<0:=by lia
    rcases hs with ⟨h0,rfl⟩ | ⟨h0,rfl⟩
    .subst h0;have nk:out=[]:=yK hlen;subst nk
     simp only[go_sem,ya,yc,xn,yB,yo,yk,zC,hv.len,hw.aj,show ((0:Nat):Int)<a.length by lia,e1,e2,wrap64 (n:=x-y) (by lia) (by lia),eK,wrap64 (n:=z) (by lia) (by lia),gF,jC];refine⟨_,rfl,?_⟩;rw[wrap64 (by lia) (by lia)];simp only[go_sem,ya,yc,aA,aE hv.pu,aE hw.pu]<;>rfl
    .simp only [go_sem,ya,yc,yo,yk,zC,hv.len,hw.aj,show (i:Int)<a.length by lia,e1,e2,wrap64 (n:=x-y) (by lia) (by lia),eK,wrap64 (n:=z) (by lia) (by lia),gF]
     rw[gA (ex:=ydi) (pu:=ydh) (cs:=out.map aa) rfl (by rw[yL,hlen,yk]) (by lia) (by lia) (by decide) rfl];simp only[go_sem,ya,yc];refine⟨_,rfl,?_⟩;rw[wrap64 (by lia) (by lia),xA];simp only[go_sem,ya,yc,aA,aE hv.pu,aE hw.pu]<;>rfl
  have⟨s',f1,f2⟩:=fin;exact⟨s',k-1,f1,by lia,i+1,c',_,by lia,Uz,ki,GP,lL,.inr ⟨by lia,f2⟩⟩
 .right
  have aed:dv out+dv b=dv a:=by
   rw[yG (by lia),yG (by lia)] at aO;have aM:=kA oI;rw[hlen] at aM;rcases (show c=0\/c=1 by lia) with rfl | rfl
   .lia
   .lia
  rcases hs with ⟨h0,rfl⟩ | ⟨h0,rfl⟩
  .simp only [go_sem,ya,zC,hv.len,show ¬(i:Int)<a.length by lia];exact⟨_,_,rfl,by simp,_,out,rfl,oI,aed,by lia,.inl ⟨yK (by lia),rfl,rfl⟩⟩
  .simp only [go_sem,ya,zC,hv.len,show ¬(i:Int)<a.length by lia];exact⟨_,_,rfl,by simp,_,out,rfl,oI,aed,by lia,.inr ⟨by lia,by rw[hlen];simp only[go_sem,ya],rfl⟩⟩
def afQ(h:Has P L 297 KG)(om:Has P L 302 zT)(cM:Has P L 300 mE){v w:AV}{a b:List Int}(hv:bn v a)(hw:bn w b)(ha:dg a)(hb:dg b)(na:nz a)(nb:nz b)(la:a.length<=20000000000)(hle:dv b<=dv a):
  ∃r out,ah P L 297 [v,w] r/\bn r out/\shut r=r/\dg out/\nz out/\dv out+dv b=dv a:=by
 have iN:b.length<=a.length:=by
  by_cases h:a.length<b.length
  .have:=TD ha nb hb h;lia
  .lia
 unfold ah;rw[aJ h];simp only[go_sem,KG];generalize hq:D P L (.loop _ zC) _=q;obtain⟨ex,s,rfl,tm,out,rfl,hd,aO,hl,hs⟩:=bN hq (auy (P:=P) (L:=L) om hv hw ha hb la hle iN a.length) ⟨0,0,[],by lia,rfl,by lia,rfl,by simp[dv],.inl ⟨rfl,by simp only[go_sem,ya,aA,aE hv.pu,aE hw.pu]<;>rfl⟩⟩
 have kE:=mN ydi out;rcases hs with ⟨h0,h5,rfl⟩ | ⟨h0,h5,rfl⟩
 .subst h0;have⟨r,e1,hr,jb⟩:=CD cM (v:=.af) (l:=[]) rT (by simp);refine⟨r,dS [],?_,hr,jb,rfl,rfl,by rw[AE];exact aO⟩
  simp only[go_sem,aA,h5,e1,jb,hr.eb]
 .have ⟨r,e1,hr,jb⟩:=CD cM kE hl;refine⟨r,dS out,?_,hr,jb,BV hd,FO out,by rw[AE];exact aO⟩
  have iJ:∀hp:Hp,mF 0 out.length (Ft (ydi,1,out.map aa,hp))=Ft (.au ydi out.length (out.map aa),hp):=fun hp=>il ydi (by simp) (by decide)
  simp only[go_sem,yc,aA,h5,iJ,e1,jb,hr.eb]
end
end VE
end
section
namespace VE
open Go (IntKind)
def Dp{hp:Hp}{ct id o:Nat}{v:Int}{ex:Bool}{l:List Int}(h:o<l.length):gm hp ct id o 1 [.int .i64 v] (Ft (.cells ydh ydh ex 1 (l.map aa)))=Ft (.ax [],aU hp id (.cells ydh ydh ex 1 ((l.set o v).map aa)),ct):=by
 rw[qM (by rfl) (by simp;lia) (by rfl)]
 have:over o [AV.int .i64 v] (l.map aa)=(l.set o v).map aa:=by
  simp only[over,yy,yH,yd];rw[yaB,vD,yP (by simpa using h)]
  simp
 rw[this];rfl
def zL{l:List Int}{o:Nat}(h:o<l.length):uk o (l.map aa)=AV.int .i64 (l.getD o 0)::uk (o+1) (l.map aa):=by
 rw[yR (by simpa using h)]
 grind
def r9{v:AV}{l:List Int}(hv:bn v l){i:Nat}(h:i<l.length):gS 1 i v=Ft (.bq (.int .i64 (l.getD i 0)::(l.map aa).drop (i+1))):=by
 rw[hv.bh h]
 grind
def aoo{o x y c:Int}(ho:0<=o/\o<1000000000)(hx:0<=x/\x<1000000000)(hy:0<=y/\y<1000000000)(hc:0<=c/\c<1000000000):
  (0<=x*y/\x*y<=999999998000000001)/\0<=o+x*y+c/\o+x*y+c<1000000000000000000:=by
 have h1:=tQ hx.1 hy.1;have h2:=ycf (show x<=999999999 by lia) (show y<=999999999 by lia) hy.1 (by decide)
 lia
section
variable {P:aF}{L:Lib}
def auz{v w:AV}{a b:List Int}(hv:bn v a)(hw:bn w b)(ha:dg a)(hb:dg b)(la:a.length<=20000000000)(lb:b.length<=20000000000){n i:Nat}(hn:n=a.length+b.length)(hi:i<a.length){out0:List Int}:
  en P L [0,1,5,6,7,8] JJ (fun k s=>∃(j:Nat) (c:Int) (out:List Int),s=⟨[(0,v),(1,w),(5,.ap 0 0 n),(6,aa i),(7,aa c),(8,aa j)],[(0,.cells ydh ydh ydh 1 (out.map aa))],1,0⟩/\j+k=b.length/\out.length=n/\dg out/\(0<=c/\c<1000000000)/\
    dv out+1000000000^i*1000000000^j*c.toNat=dv out0+1000000000^i*((a.getD i 0).toNat*dv (b.take j))/\(∀m,i+b.length<=m->out.getD m 0=out0.getD m 0)) (fun ex s'=>∃tm c out,s'=⟨tm,[(0,.cells ydh ydh ydh 1 (out.map aa))],1,0⟩/\ex=.exit 2/\ak tm 0=v/\ak tm 1=w/\ak tm 5=.ap 0 0 n/\ak tm 6=aa i/\ak tm 7=aa c/\out.length=n/\dg out/\(0<=c/\c<1000000000)/\
    dv out+1000000000^i*1000000000^b.length*c.toNat=dv out0+1000000000^i*((a.getD i 0).toNat*dv b)/\(∀m,i+b.length<=m->out.getD m 0=out0.getD m 0)):=by
 apply eB;rintro k s ⟨j,c,out,rfl,hk,hlen,hd,hc,aO,gP⟩;by_cases hj:j<b.length
 .left
  obtain⟨x,hx⟩:∃x,x=a.getD i 0:=⟨_,rfl⟩;obtain⟨y,hy⟩:∃y,y=b.getD j 0:=⟨_,rfl⟩;obtain⟨o,ho⟩:∃o,o=out.getD (i+j) 0:=⟨_,rfl⟩;have gx:=iV ha i;have gy:=iV hb j;have oG:=iV hd (i+j);rw[<-hx] at gx;rw[<-hy] at gy;rw[<-ho] at oG;have⟨p1,p2,p3⟩:=aoo oG gx gy hc;obtain⟨t,ht⟩:∃t:Nat,o+x*y+c=t:=⟨(o+x*y+c).toNat,by lia⟩;have hr:((t:Nat):Int).tmod 1000000000=((t%1000000000:Nat):Int):=by rw[wj (by lia)];rfl
  have hq:((t:Nat):Int).tdiv 1000000000=((t/1000000000:Nat):Int):=by rw[wm (by lia)];rfl
  have e1:=r9 hv hi;have e2:=r9 hw hj;rw[<-hx] at e1;rw[<-hy] at e2;have e3:=zL (l:=out) (o:=i+j) (by lia);rw[<-ho] at e3;have sU:t=o.toNat+x.toNat*y.toNat+c.toNat:=by
   have:((x.toNat*y.toNat:Nat):Int)=x*y:=by rw[xZ,wZ gx.1,wZ gy.1]
   lia
  have aU:=TE (l:=out) (j:=i+j) (x:=((t%1000000000:Nat):Int)) (by lia);rw[<-ho,wJ,xD] at aU;have lL:=anl (Y:=dv (b.take j)) sU aU (by rw[hx];exact aO)
  simp only[go_sem,ya,yk,JJ,hw.len,show (j:Int)<b.length by lia,wrapN (n:=i+j) (by lia),show (i:Int)+(j:Int)=((i+j:Nat):Int) from rfl,cA 0 0 (show i+j<n by lia),yd,e3,e1,e2,wrap64 (n:=x*y) (by lia) (by lia),wrap64 (n:=o+x*y) (by lia) (by lia),ht,wrapN (n:=t) (by lia),fE _ _ _ (show (1000000000:Int)≠0 by decide),fW _ _ _ (show (1000000000:Int)≠0 by decide),hr,hq,wrapN (n:=t/1000000000) (by lia),Dp (l:=out) (o:=i+j) (by lia)];refine⟨_,k-1,rfl,by lia,j+1,((t/1000000000:Nat):Int),out.set (i+j) ((t%1000000000:Nat):Int),?_,by lia,by simp[hlen],NZ hd (by lia),by lia,?_,fun m hm=>?_⟩
  .rw [wrap64 (by lia) (by lia)];simp only[go_sem,ya,yc,aA,aE hv.pu,aE hw.pu]<;>rfl
  .rw [wJ,qu,xh,<-hx,<-hy];exact lL
  .rw [aaw (by lia)];exact gP m hm
 .right
  have:j=b.length:=by lia
  subst this;rw[xN] at aO;simp only[go_sem,ya,JJ,hw.len,show ¬(b.length:Int)<b.length by lia];exact⟨_,_,rfl,by simp,_,c,out,rfl,rfl,rfl,rfl,rfl,rfl,rfl,hlen,hd,hc,aO,gP⟩
end
end VE
end
section
namespace VE
open Go (IntKind)
section
variable {v w:AV}{a b:List Int}
def RB(n:Nat):(yp n [AV.int .i64 0]).flatten=(yp n (0:Int)).map aa:=by simp_all
def aqx(b:Bool):Ba ydh (Ft b)=Ft (.bool (!b)):=by cases b<;>rfl
def Y1(n m:Nat):(yp n (0:Int)).getD m 0=0:=by grind
section
variable {P:aF}{L:Lib}
def auA(hv:bn v a)(hw:bn w b)(ha:dg a)(hb:dg b)(la:a.length<=20000000000)(lb:b.length<=20000000000){n:Nat}(hn:n=a.length+b.length):
  en P L [0,1,5,6] JK (fun k s=>∃(i:Nat) (out:List Int),s=⟨[(0,v),(1,w),(5,.ap 0 0 n),(6,aa i)],[(0,.cells ydh ydh ydh 1 (out.map aa))],1,0⟩/\i+k=a.length/\out.length=n/\dg out/\dv out=dv (a.take i)*dv b/\(∀m,i+b.length<=m->out.getD m 0=0)) (fun ex s'=>∃tm out,s'=⟨tm,[(0,.cells ydh ydh ydh 1 (out.map aa))],1,0⟩/\ex=.exit 0/\ak tm 5=.ap 0 0 n/\out.length=n/\dg out/\dv out=dv a*dv b):=by
 apply eB;rintro k s ⟨i,out,rfl,hk,hlen,hd,aO,gP⟩;by_cases hi:i<a.length
 .left
  simp only[go_sem,ya,JK,hv.len,show (i:Int)<a.length by lia];generalize hq:D P L (.loop _ JJ) _=q;obtain⟨ex,s,rfl,tm,c,zX,rfl,rfl,t0,t1,t5,t6,t7,Uw,Aj,hc,Ux,KS⟩:=bN hq (auz (P:=P) (L:=L) hv hw ha hb la lb hn hi (out0:=out) b.length) ⟨0,0,out,by simp only[go_sem,ya,yc,aA,aE hv.pu,aE hw.pu]<;>rfl,by lia,hlen,hd,by lia,by simp[dv],fun m _=>rfl⟩
  have hz:zX.getD (i+b.length) 0=0:=by rw[KS _ (yu _),gP _ (yu _)]
  have e3:=zL (l:=zX) (o:=i+b.length) (by lia);rw[hz] at e3;have aU:=TE (l:=zX) (j:=i+b.length) (x:=c) (by lia);rw[hz,xD] at aU
  simp only[go_sem,ya,yk,aA,t0,t1,t5,t6,t7,hw.len,aE hv.pu,aE hw.pu,wrapN (n:=i+b.length) (by lia),show (i:Int)+(b.length:Int)=((i+b.length:Nat):Int) from rfl,cA 0 0 (show i+b.length<n by lia),yd,e3,Int.zero_add,wrap64 (n:=c) (by lia) (by lia),Dp (l:=zX) (o:=i+b.length) (by lia)];refine⟨_,k-1,rfl,by lia,i+1,zX.set (i+b.length) c,?_,by lia,by simp[Uw],NZ Aj hc,?_,fun m hm=>?_⟩
  .rw [wrap64 (by lia) (by lia)];simp only[go_sem,ya,yc,aA,aE hv.pu,aE hw.pu]<;>rfl
  .rw [qu,xP,<-aO,xe];simp only[Int.toNat_zero,xB,yW] at aU;rw[aU];exact Ux
  .rw [aaw (by lia),KS m (by lia),gP m (by lia)]
 .right
  have:i=a.length:=by lia
  subst this;rw[xN] at aO;simp only[go_sem,ya,JK,hv.len,show ¬(a.length:Int)<a.length by lia];exact⟨_,_,rfl,by simp,_,out,rfl,rfl,rfl,hlen,hd,aO⟩
def VP(h:Has P L 293 Cz)(cM:Has P L 300 mE)(hv:bn v a)(hw:bn w b)(ha:dg a)(hb:dg b)(la:a.length<=8000000000)(lb:b.length<=8000000000):
  ∃r out,ah P L 293 [v,w] r/\bn r out/\shut r=r/\dg out/\nz out/\dv out=dv a*dv b:=by
 obtain⟨n,hn⟩:∃n,n=a.length+b.length:=⟨_,rfl⟩;have bV:∀ct:Nat,zU ct 1 8 [.int .i64 0] (Ft n) (Ft n)=Ft (.ap ct 0 n,.cells ydh ydh ydh 1 ((yp n (0:Int)).map aa)):=fun ct=>by
  rw[Gh (sz:=1) (by lia) (by lia) (by rfl) (by rfl),RB];rfl
 unfold ah;rw[aJ h]
 simp only[go_sem,ya,yc,Cz,hv.len,hw.len,wrapN (n:=n) (by lia),show (a.length:Int)+(b.length:Int)=((a.length+b.length:Nat):Int) from rfl,<-hn,bV];generalize hq:D P L (.loop _ JK) _=q;obtain⟨ex,s,rfl,tm,out,rfl,rfl,t5,hlen,hd,aO⟩:=bN hq (auA (P:=P) (L:=L) hv hw ha hb (by lia) (by lia) hn a.length) ⟨0,yp n 0,by simp only[go_sem,ya,yc,aA,aE hv.pu,aE hw.pu]<;>rfl,by lia,by simp,aay n,by rw[aax];simp[dv],fun m _=>Y1 n m⟩
 have kE:=mN ydh out;rw[hlen] at kE;have⟨r,e1,hr,jb⟩:=CD cM kE (by lia);refine⟨r,dS out,?_,hr,jb,BV hd,FO out,by rw[AE];exact aO⟩
 have iJ:∀hp:Hp,mF 0 n (Ft (ydh,1,out.map aa,hp))=Ft (.au ydh n (out.map aa),hp):=fun hp=>il ydh (by simp[hlen]) (by decide)
 simp only[go_sem,yc,aA,t5,iJ,e1,jb,hr.eb]
def K5(h:Has P L 278 O6)(lU:Has P L 293 Cz)(j0:Has P L 294 CA)(cM:Has P L 300 mE){n m:Int}{K:Nat}(hK:K<=8000000000)(hv:lB v n)(hw:lB w m)(hn:n.natAbs<1000000000^K)(hm:m.natAbs<1000000000^K):
  ∃r,ah P L 278 [v,w] r/\lB r (n*m):=by
 obtain⟨x,a,rfl,hx,ha,na,va⟩:=hv;obtain⟨y,b,rfl,hy,hb,nb,vb⟩:=hw;have la:=xo (jV ha na (by rw[va];exact hn)) hK
 have lb:=xo (jV hb nb (by rw[vb];exact hm)) hK
 have⟨z,out,e1,hz,jb,hd,Dj,aO⟩:=VP lU cM hx hy ha hb la lb;have lo:out.length<=20000000000:=by
  refine jV hd Dj ?_;rw[aO];have h1:=kA ha;have h2:=kA hb;have h3:dv a*dv b<1000000000^a.length*1000000000^b.length:=yao h1 h2;rw[<-xD] at h3;have hk:∀K,a.length+b.length<=K->dv a*dv b<1000000000^K:=fun K h=>yE h3 (xc (by decide) h)
  exact hk 20000000000 (by lia)
 have⟨r,e2,hr⟩:=Bf j0 cM (!(decide (n<0)==decide (m<0))) hz hd lo;have e:cw (!(decide (n<0)==decide (m<0))) (dv out)=n*m:=by
  rw[aO,va,vb];have hnm:((n.natAbs*m.natAbs:Nat):Int)=(n.natAbs:Int)*m.natAbs:=xZ _ _;unfold cw;by_cases h0:n<0<;>by_cases h1:m<0<;>simp only[h0,h1,yX,xb,tT,xO,yC,xy,hnm]
  .rw [show (n.natAbs:Int)= -n by lia,show (m.natAbs:Int)= -m by lia,Int.neg_mul_neg]
  .rw [show (ydh==ydi)=ydi from rfl,wH,yP rfl,show (n.natAbs:Int)= -n by lia,show (m.natAbs:Int)=m by lia,ycV,yau]
  .rw [show (ydi==ydh)=ydi from rfl,wH,yP rfl,show (n.natAbs:Int)=n by lia,show (m.natAbs:Int)= -m by lia,Int.mul_neg,yau]
  .rw [show (n.natAbs:Int)=n by lia,show (m.natAbs:Int)=m by lia]
 rw[e] at hr;obtain⟨w2,l2,rfl,iM,jy,kh,Bg⟩:=hr;refine⟨_,?_,w2,l2,rfl,iM,jy,kh,Bg⟩;unfold ah at e1 e2 ⊢;rw[aJ h];simp only[go_sem,ya,yc,O6,aV,hx.pu,hx.aj,hx.one,hy.pu,hy.aj,hy.one,hz.aj,hz.shut,iM.pu,iM.one,bj,yd,dI,e1,qO,aqx,e2,iz,bC];rcases iM with ⟨rfl,_⟩ | ⟨e,rfl⟩<;>rfl
end
end
end VE
end
section
namespace VE
open Go (IntKind)
def aqy(i:Nat)(q:List Int)(x:Int):(yp (i+1) (0:Int)++q).set i x=yp i 0++x::q:=by
 rw[List.replicate_succ',xx,List.set_append_right _ _ (by simp)]
 simp
section
variable {P:aF}{L:Lib}
def auB{v:AV}{a:List Int}(hv:bn v a)(ha:dg a)(la:a.length<=20000000000){d:Nat}(h0:0<d)(h1:d<1000000000):
  en P L [0,1,6,7,8] JL (fun k s=>∃(j r:Nat) (q:List Int),s=⟨[(0,v),(1,aa d),(6,.ap 0 0 a.length),(7,aa r),(8,aa ((j:Int)-1))],[(0,.cells ydh ydh ydh 1 ((yp j (0:Int)++q).map aa))],1,0⟩/\j=k/\j+q.length=a.length/\r<d/\dg q/\dv (a.drop j)=d*dv q+r) (fun ex s'=>∃tm r q,s'=⟨tm,[(0,.cells ydh ydh ydh 1 (q.map aa))],1,0⟩/\ex=.exit 0/\ak tm 6=.ap 0 0 a.length/\ak tm 7=aa (r:Nat)/\q.length=a.length/\r<d/\dg q/\dv a=d*dv q+r):=by
 apply eB;rintro k s ⟨j,r,q,rfl,rfl,hl,hr,hd,aO⟩
 cases j with
 | zero=>
  right
  simp only[go_sem,ya,JL,show ¬(0:Int)<=((0:Nat):Int)-1 by lia];exact⟨_,_,rfl,by simp,_,r,q,rfl,rfl,rfl,rfl,by lia,hr,hd,aO⟩
 | succ i=>
  left
  have hi:i<a.length:=by lia
  obtain⟨x,hx⟩:∃x,x=a.getD i 0:=⟨_,rfl⟩;have e1:=r9 hv hi;have gx:=iV ha i;rw[<-hx] at e1 gx;obtain⟨t,ht⟩:∃t:Nat,t=r*1000000000+x.toNat:=⟨_,rfl⟩;have sU:(r:Int)*1000000000+x=(t:Int):=by lia
  have ll:t<d*1000000000:=by
   lia
  have fP:t/d<1000000000:=(xK h0).2 (by rw[xp];exact ll)
  have eZ:t%d<d:=xu _ h0;have e2:((t:Nat):Int).tdiv d=((t/d:Nat):Int):=by rw[wm (by lia)];rfl
  have e3:((t:Nat):Int).tmod d=((t%d:Nat):Int):=by rw[wj (by lia)];rfl
  have LO:(yp (i+1) (0:Int)++q).length=a.length:=by simp;lia
  have aT:=fun (hp:Hp) (ct id:Nat) (ex:Bool)=>Dp (hp:=hp) (ct:=ct) (id:=id) (ex:=ex) (v:=((t/d:Nat):Int)) (l:=yp (i+1) (0:Int)++q) (o:=i) (by rw[LO];exact hi)
  simp only[aqy] at aT
  simp only[go_sem,ya,yk,JL,show ((i+1:Nat):Int)-1=(i:Int) by lia,show (0:Int)<=(i:Int) by lia,wrap64 (n:=(r:Int)*1000000000) (by lia) (by lia),e1,sU,wrapN (n:=t) (by lia),fW _ _ _ (show (d:Int)≠0 by lia),fE _ _ _ (show (d:Int)≠0 by lia),e2,e3,wrapN (n:=t/d) (by lia),cA 0 0 (show i<a.length from hi),yd,aT]
  refine⟨_,i,rfl,by lia,i,t%d,((t/d:Nat):Int)::q,?_,rfl,by simp;lia,eZ,(iS (a:=[((t/d:Nat):Int)]) (b:=q)).2 ⟨mr.2 ⟨yaA _,tz.2 fP⟩,hd⟩,?_⟩
  .rw [wrap64 (by lia) (by lia)];simp only[go_sem,ya,yc,aA,aE hv.pu]<;>rfl
  .have jQ:a.drop i=x::a.drop (i+1):=by
    rw[yR hi,hx];simp[yD,yN hi]
   rw[jQ];simp only[dv,aO,wJ];have e:=xz t d;rw[xC,xC d,Nat.mul_left_comm 1000000000 d]
   lia
def afR(h:Has P L 299 CB)(cM:Has P L 300 mE){v:AV}{a:List Int}(hv:bn v a)(ha:dg a)(la:a.length<=20000000000){d:Nat}(h0:0<d)(h1:d<1000000000):
  ∃r q,ah P L 299 [v,aa d] (.ax [r,aa (dv a%d:Nat)])/\bn r q/\shut r=r/\bF r=r/\dg q/\nz q/\dv q=dv a/d:=by
 obtain⟨n,hn⟩:∃n,n=a.length:=⟨_,rfl⟩;have bV:∀ct:Nat,zU ct 1 8 [.int .i64 0] (Ft n) (Ft n)=Ft (.ap ct 0 n,.cells ydh ydh ydh 1 ((yp n (0:Int)).map aa)):=fun ct=>by
  rw[Gh (sz:=1) (by lia) (by lia) (by rfl) (by rfl),RB];rfl
 unfold ah;rw[aJ h];simp only[go_sem,ya,yc,CB,hv.len,<-hn,bV];generalize hq:D P L (.loop _ JL) _=q;obtain⟨ex,s,rfl,tm,r,qs,rfl,rfl,t6,t7,hlen,hr,hd,aO⟩:=bN hq (auB (P:=P) (L:=L) hv ha la h0 h1 a.length) ⟨a.length,0,[],by
  rw[wrap64 (by lia) (by lia),wq,<-hn]
  simp only[go_sem,ya,yc,aA,aE hv.pu]<;>rfl,rfl,by simp,h0,rfl,by rw[xf (yu _)];simp[dv]⟩
 have kE:=mN ydh qs;rw[hlen] at kE;have⟨w,e1,hw,jb⟩:=CD cM kE (by lia);have fD:dv a/d=dv qs/\dv a%d=r:=(Nat.div_mod_unique h0).2 ⟨by lia,hr⟩;refine⟨w,dS qs,?_,hw,jb,hw.bF,BV hd,FO qs,by rw[AE,fD.1]⟩;have iJ:∀hp:Hp,mF 0 a.length (Ft (ydh,1,qs.map aa,hp))=Ft (.au ydh a.length (qs.map aa),hp):=fun hp=>il ydh (by simp[hlen]) (by decide)
 rw[fD.2];simp only[go_sem,ya,yc,aA,t6,t7,iJ,e1,jb];rcases hw with ⟨rfl,_⟩ | ⟨e,rfl⟩<;>rfl
def ayL(h:Has P L 279 GC)(VQ:Has P L 295 KF)(pG:Has P L 296 zS)(PF:Has P L 297 KG)(om:Has P L 302 zT)(j0:Has P L 294 CA)(cM:Has P L 300 mE){v w:AV}{n m:Int}{K:Nat}(hK:K<=8000000000)(hv:lB v n)(hw:lB w m)(hn:n.natAbs<1000000000^K)(hm:m.natAbs<1000000000^K):
  ∃r,ah P L 279 [v,w] r/\lB r (n+m):=by
 obtain⟨x,a,rfl,hx,ha,na,va⟩:=hv;obtain⟨y,b,rfl,hy,hb,nb,vb⟩:=hw;have la:=xo (jV ha na (by rw[va];exact hn)) hK
 have lb:=xo (jV hb nb (by rw[vb];exact hm)) hK
 by_cases hs:(decide (n<0)==decide (m<0))=ydh
 .have ⟨z,out,e1,hz,hd,aO,hl⟩:=ayK VQ om hx hy ha hb (by lia) (by lia);have lo:out.length<=20000000000:=by lia
  have⟨r,e2,hr⟩:=Bf j0 cM (decide (n<0)) hz hd lo;have e:cw (decide (n<0)) (dv out)=n+m:=by
   have rG:(n<0)=(m<0):=by simpa using eq_of_beq hs
   rw[aO,va,vb];unfold cw;by_cases h0:n<0
   .have h1:m<0:=rG▸h0;simp only[h0,yX,xQ];lia
   .have h1:¬m<0:=rG▸h0;simp only[h0,xb,yC,xy];lia
  rw[e] at hr;obtain⟨w2,l2,rfl,iM,jy,kh,Bg⟩:=hr;refine⟨_,?_,w2,l2,rfl,iM,jy,kh,Bg⟩;unfold ah at e1 e2 ⊢;rw[aJ h];simp only[go_sem,ya,yc,GC,aV,hx.pu,hx.aj,hx.one,hy.pu,hy.aj,hy.one,hz.aj,iM.pu,iM.one,bj,yd,dI,e1,qO,fh,hs,e2,iz,bC];rcases iM with ⟨rfl,_⟩ | ⟨e,rfl⟩<;>rfl
 .have hs:(decide (n<0)==decide (m<0))=ydi:=by simpa using hs
  have rG:¬((n<0)=(m<0)):=fun e=>by simp[e] at hs
  have ec:=VO pG hx hy ha hb na nb (by lia) (by lia);by_cases hc:dv a<dv b
  .have eL:dN (dv a) (dv b)= -1:=by unfold dN;rw[yP hc]
   rw[eL] at ec;have⟨z,out,e1,hz,jb,hd,Dj,aO⟩:=afQ PF om cM hy hx hb ha nb na (by lia) (by lia);have lo:out.length<=20000000000:=by
    refine jV hd Dj ?_
    have:=kA hb
    have hk:∀K,b.length<=K->dv out<1000000000^K:=fun K h=>yE (show dv out<1000000000^b.length by lia) (xc (by decide) h)
    exact hk 20000000000 (by lia)
   have⟨r,e2,hr⟩:=Bf j0 cM (decide (m<0)) hz hd lo;have e:cw (decide (m<0)) (dv out)=n+m:=by
    rw[va,vb] at aO;unfold cw;by_cases h0:m<0
    .have h1:¬n<0:=fun h1=>rG (by simp[h0,h1])
     simp only[h0,yX,xQ];lia
    .have h1:n<0:=by
      by_cases h1:n<0
      .exact h1
      .exact absurd (by simp[h0,h1]) rG
     simp only[h0,xb,yC,xy];lia
   rw[e] at hr;obtain⟨w2,l2,rfl,iM,jy,kh,Bg⟩:=hr;refine⟨_,?_,w2,l2,rfl,iM,jy,kh,Bg⟩;unfold ah at e1 e2 ec ⊢;rw[aJ h];simp only[go_sem,ya,yc,GC,aV,hx.pu,hx.aj,hx.one,hy.pu,hy.aj,hy.one,hz.aj,hz.shut,iM.pu,iM.one,bj,yd,dI,e1,qO,fh,hs,ec,show ¬(0:Int)<=-1 by decide,e2,iz,bC];rcases iM with ⟨rfl,_⟩ | ⟨e,rfl⟩<;>rfl
  .have eL:(0:Int)<=dN (dv a) (dv b):=by unfold dN;rw[yz hc];split<;>decide
   have⟨z,out,e1,hz,jb,hd,Dj,aO⟩:=afQ PF om cM hx hy ha hb na nb (by lia) (by lia);have lo:out.length<=20000000000:=by
    refine jV hd Dj ?_
    have:=kA ha
    have hk:∀K,a.length<=K->dv out<1000000000^K:=fun K h=>yE (show dv out<1000000000^a.length by lia) (xc (by decide) h)
    exact hk 20000000000 (by lia)
   have⟨r,e2,hr⟩:=Bf j0 cM (decide (n<0)) hz hd lo;have e:cw (decide (n<0)) (dv out)=n+m:=by
    rw[va,vb] at aO;unfold cw;by_cases h0:n<0
    .have h1:¬m<0:=fun h1=>rG (by simp[h0,h1])
     simp only[h0,yX,xQ];lia
    .have h1:m<0:=by
      by_cases h1:m<0
      .exact h1
      .exact absurd (by simp[h0,h1]) rG
     simp only[h0,xb,yC,xy];lia
   rw[e] at hr;obtain⟨w2,l2,rfl,iM,jy,kh,Bg⟩:=hr;refine⟨_,?_,w2,l2,rfl,iM,jy,kh,Bg⟩;unfold ah at e1 e2 ec ⊢;rw[aJ h];simp only[go_sem,ya,yc,GC,aV,hx.pu,hx.aj,hx.one,hy.pu,hy.aj,hy.one,hz.aj,hz.shut,iM.pu,iM.one,bj,yd,dI,e1,qO,fh,hs,ec,eL,e2,iz,bC];rcases iM with ⟨rfl,_⟩ | ⟨e,rfl⟩<;>rfl
end
end VE
end
section
namespace VE
open Go (IntKind)
section
variable {P:aF}{L:Lib}
def abX{l:List Int}(hd:dg l)(hn:nz l)(h:dv l<1000000000):l.length<=1:=jV hd hn (by simpa using h)
def ayM(h:Has P L 289 zQ)(pG:Has P L 296 zS)(qV:Has P L 299 CB)(cM:Has P L 300 mE){v w:AV}{a b:List Int}(hv:bn v a)(hw:bn w b)(ha:dg a)(hb:dg b)(na:nz a)(nb:nz b)(la:a.length<=20000000000)(lb:b.length<=1)(h0:0<dv b):
  ∃q r lq lr,ah P L 289 [v,w] (.ax [q,r])/\bn q lq/\bn r lr/\dg lq/\nz lq/\dg lr/\nz lr/\dv lq=dv a/dv b/\dv lr=dv a%dv b:=by
 have ec:=VO pG hv hw ha hb na nb la (by lia);by_cases hc:dv a<dv b
 .have eL:dN (dv a) (dv b)= -1:=by unfold dN;rw[yP hc]
  rw[eL] at ec;refine⟨.af,v,[],a,?_,rT,hv,rfl,rfl,ha,na,?_,?_⟩
  .unfold ah;rw[aJ h];simp only[go_sem,ya,zQ,hv.aj,hw.aj,ec,show (-1:Int)<0 by decide];rcases hv with ⟨rfl,_⟩ | ⟨e,rfl⟩<;>rfl
  .rw [xU hc];rfl
  .rw [yF hc]
 .have eL:¬dN (dv a) (dv b)<0:=by unfold dN;rw[yz hc];split<;>decide
  have pO:b.length=1:=by
   rcases xq b.length with e | e
   .rw [yK e] at h0;simp[dv] at h0
   .lia
  obtain⟨x,rfl⟩:∃x,b=[x]:=by
   cases b with
   | nil=>simp at pO
   | cons x r=>cases r with
    | nil=>exact⟨x,rfl⟩
    | cons y r=>simp at pO
  have gx:=mr.1 hb;obtain⟨d,hd⟩:∃d:Nat,x=d:=⟨x.toNat,by lia⟩;subst hd;have hdd:dv [((d:Nat):Int)]=d:=by simp[dv]
  rw[hdd] at h0 hc eL ec ⊢;have⟨q,lq,e1,hq,hqs,ayN,dq,nq,vq⟩:=afR qV cM hv ha la h0 (by lia);have ad6:dv a%d<d:=xu _ h0;generalize dv a%d=m at*
  have⟨r,e2,hr,ru⟩:=CD cM (mN ydh [(m:Int)]) (by simp);refine⟨q,r,lq,dS [(m:Int)],?_,hq,hr,dq,nq,BV (mr.2 (by lia)),FO _,vq,by rw[AE];simp[dv]⟩;have e3:=hw.bh (i:=0) (by simp);simp only[yy,yH,yd,yZ,vj,wz] at e2 e3;unfold ah;rw[aJ h];simp only[go_sem,ya,yc,yB,yo,yk,zQ,hv.aj,hw.len,hw.aj,ec,eL,yy,yH,show ((1:Nat):Int)=(1:Int) from rfl,yX,e3,e1,ayN,e2,ru];rcases hq with ⟨rfl,_⟩ | ⟨e,rfl⟩<;>rcases hr with ⟨rfl,_⟩ | ⟨e',rfl⟩<;>rfl
end
end VE
end
section
namespace VE
open Go (IntKind)
section
variable {l post pre qs vs:List Int}{r t:Nat}
def sv:List Int->Int
 | []=>0
 | a::r=>a+1000000000*sv r
def ZX:∀(a b:List Int),sv (a++b)=sv a+1000000000^a.length*sv b
 | [],b=>by simp[sv]
 | x::a,b=>by
  simp only[yx,sv,ZX a b,yy,yae,ycz]
  grind
def auC(x:Int):sv [x]=x:=by simp[sv]
def Gi:∀{l:List Int} {i:Nat} {x:Int},i<l.length->sv (l.set i x)=sv l+1000000000^i*(x-l.getD i 0)
 | [],i,x,h=>by simp at h
 | a::l,0,x,_=>by simp[sv];lia
 | a::l,i+1,x,h=>by
  have ih:=Gi (l:=l) (i:=i) (x:=x) (by simpa using h);simp only[List.set_cons_succ,sv,List.getD_cons_succ,ih,yae,ycz]
  grind
def NO(i:Nat):sv (l.take (i+1))=sv (l.take i)+1000000000^i*l.getD i 0:=by
 by_cases h:i<l.length
 .rw [xa h,ZX,yQ,xj (by lia),auC]
  grind
 .rw [yG (by lia),yG (by lia),I7 (by lia),Int.mul_zero,ycE]
def A0:∀{l:List Int},dg l->sv l=dv l
 | [],_=>rfl
 | a::l,h=>by
  have⟨h1,h2⟩:=iS.1 (show dg ([a]++l) from h);have h1:=mr.1 h1;simp only[sv,dv,A0 h2,th,xZ]
  lia
section
variable {pre x post:List Int}{i:Nat}
def oZ:(pre++x++post).length=pre.length+x.length+post.length:=by grind
def Ce(h:i<x.length):(pre++x++post).getD (pre.length+i) 0=x.getD i 0:=by grind
def N9(a:Int)(h:i<x.length):(pre++x++post).set (pre.length+i) a=pre++x.set i a++post:=by simp_all
end
def acN{i m:Nat}{x:Int}(h:i≠m):(l.set i x).getD m 0=l.getD m 0:=by simp_all
def amc{i:Nat}{x:Int}(h:i<l.length):(l.set i x).getD i 0=x:=by simp_all
abbrev H3(q u:List Int)(f:Int):Hp:=[(2,.cells ydh ydh ydh 1 (q.map aa)),(1,.cells ydh ydh ydi 1 (u.map aa)),(0,.cells ydi ydh ydh 1 [aa f])]
def Nn{live:List Nat}{tm:Env}{ct:Nat}{a b c:List AV}(ht:kL 3 (bE tm live))(hl:(dL (bE tm live)).length<100000):
  br live ⟨tm,[(2,.cells ydh ydh ydh 1 a),(1,.cells ydh ydh ydi 1 b),(0,.cells ydi ydh ydh 1 c)],ct,3⟩=⟨bE tm live,[(2,.cells ydh ydh ydh 1 a),(1,.cells ydh ydh ydi 1 b),(0,.cells ydi ydh ydh 1 c)],3,3⟩:=
 Mw ht ⟨by lia,.inl rfl,by lia,.inl rfl,by lia,.inl rfl,trivial⟩ (by
  have:cI 3 [(2,Obj.cells ydh ydh ydh 1 a),(1,Obj.cells ydh ydh ydi 1 b),(0,Obj.cells ydi ydh ydh 1 c)]=[]:=rfl
  rw[this,yH,yW];exact hl)
structure gn(x vs:List Int)(n v1 v2 u0 u1 u2:Nat):Prop where
 n2:2<=n
 nb:n<=20000000000
 lx:x.length=n+1
 lv:vs.length=n
 gx:dg x
 gv:dg vs
 eS:vs.getD (n-1) 0=(v1:Int)
 dE:vs.getD (n-2) 0=(v2:Int)
 h0:x.getD n 0=(u0:Int)
 h1:x.getD (n-1) 0=(u1:Int)
 h2:x.getD (n-2) 0=(u2:Int)
 pos:0<v1
 lt:dv x<1000000000*dv vs
section
variable {x vs:List Int}{n v1 v2 u0 u1 u2:Nat}
def gn.LP(h:gn x vs n v1 v2 u0 u1 u2):v1<1000000000:=by have:=iV h.gv (n-1);rw[h.eS] at this;lia
def gn.Fa(h:gn x vs n v1 v2 u0 u1 u2):v2<1000000000:=by have:=iV h.gv (n-2);rw[h.dE] at this;lia
def gn.u0W(h:gn x vs n v1 v2 u0 u1 u2):u0<1000000000:=by have:=iV h.gx n;rw[h.h0] at this;lia
def gn.LQ(h:gn x vs n v1 v2 u0 u1 u2):u1<1000000000:=by have:=iV h.gx (n-1);rw[h.h1] at this;lia
def gn.LR(h:gn x vs n v1 v2 u0 u1 u2):u2<1000000000:=by have:=iV h.gx (n-2);rw[h.h2] at this;lia
def gn.parts(h:gn x vs n v1 v2 u0 u1 u2):∃p vr ur,dv vs=(v1*1000000000+v2)*p+vr/\vr<p/\dv x=((u0*1000000000+u1)*1000000000+u2)*p+ur/\ur<p:=by
 obtain⟨m,hm⟩:∃m,n=m+2:=⟨n-2,by have:=h.n2;lia⟩
 subst hm;have e1:=qu (l:=vs) (m+1);have e2:=qu (l:=vs) m;have f0:=qu (l:=x) (m+2);have f1:=qu (l:=x) (m+1);have f2:=qu (l:=x) m;have eS:vs.getD (m+1) 0=(v1:Int):=h.eS;have dE:vs.getD m 0=(v2:Int):=h.dE;have h0:x.getD (m+2) 0=(u0:Int):=h.h0;have h1:x.getD (m+1) 0=(u1:Int):=h.h1;have h2:x.getD m 0=(u2:Int):=h.h2
 rw[yG (by have:=h.lv;lia),eS,e2,dE] at e1
 rw[yG (by have:=h.lx;lia),h0,f1,h1,f2,h2] at f0
 simp only[wJ] at e1 f0;have g1:=kA (DO h.gv m)
 rw[yQ,xj (by have:=h.lv;lia)] at g1
 have g2:=kA (DO h.gx m)
 rw[yQ,xj (by have:=h.lx;lia)] at g2
 refine⟨1000000000^m,_,_,?_,g1,?_,g2⟩
 .rw [e1,xh,awA]
 .rw [f0,show 1000000000^(m+2)=1000000000^m*1000000000*1000000000 by rw[xh,xh],xh,awB]
def gn.down(h:gn x vs n v1 v2 u0 u1 u2)(ht:t*v1+r=u0*1000000000+u1)(hr:r*1000000000+u2<t*v2):dv x/dv vs<=t-1:=by
 have⟨p,vr,ur,h1,h2,h3,h4⟩:=h.parts;exact YQ h1 h3 h4 ht hr
def gn.stop(h:gn x vs n v1 v2 u0 u1 u2)(ll:t<1000000000)(ht:t*v1+r=u0*1000000000+u1)(hr:1000000000<=r\/t*v2<=r*1000000000+u2):t<=dv x/dv vs+1:=by
 have⟨p,vr,ur,h1,h2,h3,h4⟩:=h.parts;exact ZF (by decide) h1 h2 h3 h.pos h.Fa ll ht hr
def gn.first(h:gn x vs n v1 v2 u0 u1 u2):dv x/dv vs<=(u0*1000000000+u1)/v1:=by
 have⟨p,vr,ur,h1,h2,h3,h4⟩:=h.parts;exact Q9 h1 h3 h4 h.LR h.pos
def gn.top(h:gn x vs n v1 v2 u0 u1 u2):u0<=v1:=by
 have⟨p,vr,ur,h1,h2,h3,h4⟩:=h.parts;exact ZG h1 h3 h2 h.Fa h.lt
def gn.digit(h:gn x vs n v1 v2 u0 u1 u2):dv x/dv vs<1000000000:=by
 refine (xK ?_).2 h.lt;rcases xq (dv vs) with h0 | h0
 .have:=h.lt;rw[h0] at this;simp at this
 .exact h0
def gn.small(h:gn x vs n v1 v2 u0 u1 u2)(ht:t*v1+r=u0*1000000000+u1)(hb:1000000000<=t):r<1000000000:=by
 have h1:=h.top;have h2:=h.LQ;have h3:=yU v1 hb
 grind
end
def ayO{u:Nat}(hr:r<1000000000)(hu:u<1000000000):r*1000000000<9223372036854775808/\r*1000000000+u<9223372036854775808:=by lia
section
variable {P:aF}{L:Lib}
def aqz{w:AV}{x:List Int}{f:Int}(hw:bn w vs){n v1 v2 u0 u1 u2 M:Nat}(hl:gn x vs n v1 v2 u0 u1 u2)(hM:M=pre.length+x.length+post.length)(L8:M<=50000000000):
  en P L [0,1,2,7,9,10] Cb (fun k s=>∃t r:Nat,s=⟨[(0,.ap 1 0 M),(1,w),(2,aa pre.length),(7,aa n),(9,aa t),(10,aa r)],H3 qs (pre++x++post) f,3,3⟩/\t*v1+r=u0*1000000000+u1/\r<1000000000/\dv x/dv vs<=t/\t=k) (fun ex s'=>∃tm ct t,s'=⟨tm,H3 qs (pre++x++post) f,ct,3⟩/\((ex=.exit 0/\ak tm 9=aa (t:Nat))\/(ex=.ret/\ak tm 6=aa (t:Nat)))/\ct=3/\t<1000000000/\dv x/dv vs<=t/\t<=dv x/dv vs+1):=by
 apply eB;rintro k s ⟨t,r,rfl,ht,hr,hQ,rfl⟩;have dK:=hl.n2;have rz:=hl.nb;have hlx:=hl.lx;have GM:=hl.LP;have Vl:=hl.Fa;have afr:=hl.LR;have ayP:=hl.u0W;have Pv:=hl.LQ;have iZ:=hl.pos;have rB:=r9 hw (i:=n-2) (by have:=hl.lv;lia)
 have eU:=r9 hw (i:=n-1) (by have:=hl.lv;lia)
 rw[hl.dE] at rB;rw[hl.eS] at eU;have Ak:=zL (l:=pre++x++post) (o:=pre.length+(n-2)) (by rw[oZ];lia)
 rw[Ce (by lia),hl.h2] at Ak;have BD:(n:Int)-2=((n-2:Nat):Int):=by lia
 have rC:(n:Int)-1=((n-1:Nat):Int):=by lia
 have L9:(pre.length:Int)+(n:Int)=((pre.length+n:Nat):Int):=rfl;have Xt:((pre.length+n:Nat):Int)-2=((pre.length+(n-2):Nat):Int):=by lia
 have aDG:t<=1000000000000000000:=by
  have:=yY t iZ
  lia
 have aDH:t*1<=t*v1:=yY t iZ;have⟨Xu,Xv⟩:=ayO hr afr;by_cases Ag:1000000000<=t\/r*1000000000+u2<t*v2
 .have Xw:0<t:=by
   rcases xq t with h0 | h0
   .subst h0;lia
   .exact h0
  have h1:(t-1)*v1+(r+v1)=u0*1000000000+u1:=by
   obtain⟨p,rfl⟩:∃p,t=p+1:=⟨t-1,by lia⟩;rw[xP,ybx] at ht;rw[Nat.add_sub_cancel];lia
  have Fb:dv x/dv vs<=t-1:=by
   rcases Ag with h | h
   .have:=hl.digit;generalize dv x/dv vs=q at*;lia
   .exact hl.down ht h
  have QH:((t:Nat):Int)-1=((t-1:Nat):Int):=by lia
  have stop:1000000000<=r+v1->t-1<1000000000/\t-1<=dv x/dv vs+1:=fun hb=>by
   have aM:t-1<1000000000:=by
    by_cases Aa:1000000000<=t-1
    .have:=hl.small h1 Aa;lia
    .lia
   exact⟨aM,hl.stop aM h1 (.inl hb)⟩
  by_cases hb:1000000000<=t
  .by_cases Bw:1000000000<=r+v1
   .right
    have⟨s1,s2⟩:=stop Bw
    simp only[go_sem,ya,Cb,H3,show (1000000000:Int)<=(t:Int) by lia,QH,wrapN (n:=t-1) (by lia),rC,wrapN (n:=n-1) (by lia),eU,show (r:Int)+(v1:Int)=((r+v1:Nat):Int) from rfl,wrapN (n:=r+v1) (by lia),show (1000000000:Int)<=((r+v1:Nat):Int) by lia];exact⟨_,_,rfl,by simp,_,_,t-1,rfl,.inr ⟨rfl,rfl⟩,rfl,s1,Fb,s2⟩
   .left
    simp only[go_sem,ya,Cb,H3,show (1000000000:Int)<=(t:Int) by lia,QH,wrapN (n:=t-1) (by lia),rC,wrapN (n:=n-1) (by lia),eU,show (r:Int)+(v1:Int)=((r+v1:Nat):Int) from rfl,wrapN (n:=r+v1) (by lia),show ¬(1000000000:Int)<=((r+v1:Nat):Int) by lia];refine⟨_,t-1,rfl,by lia,t-1,r+v1,?_,h1,by lia,Fb,rfl⟩;rw[Nn (by simp only[go_sem,ya,yB,mU,nZ,mP,mL,mj hw.pu,vQ]) (by simp only[go_sem,ya,yc,yB,ik hw.pu])];simp only[go_sem,ya]
  .have C7:=yS (show t<=999999999 by lia) (show v2<=999999999 by lia);have EL:r*1000000000+u2<t*v2:=Ag.resolve_left hb;obtain⟨m,hm⟩:∃m,t*v2=m:=⟨_,rfl⟩;have em:(t:Int)*(v2:Int)=(m:Int):=by rw[<-hm,xZ]
   rw[hm] at EL C7;have Hl:(r:Int)*1000000000=((r*1000000000:Nat):Int):=by lia
   have De:((r*1000000000:Nat):Int)+(u2:Int)=((r*1000000000+u2:Nat):Int):=rfl;by_cases Bw:1000000000<=r+v1
   .right
    have⟨s1,s2⟩:=stop Bw
    simp only[go_sem,ya,yk,Cb,H3,show ¬(1000000000:Int)<=(t:Int) by lia,BD,wrapN (n:=n-2) (by lia),rB,em,wrapN (n:=m) (by lia),Hl,wrapN Xu,L9,wrapN (n:=pre.length+n) (by lia),Xt,wrapN (n:=pre.length+(n-2)) (by lia),cA 1 0 (show pre.length+(n-2)<M by lia),yd,Ak,De,wrapN Xv,show ((r*1000000000+u2:Nat):Int)<(m:Int) from tz.2 EL,QH,wrapN (n:=t-1) (by lia),rC,wrapN (n:=n-1) (by lia),eU,show (r:Int)+(v1:Int)=((r+v1:Nat):Int) from rfl,wrapN (n:=r+v1) (by lia),show (1000000000:Int)<=((r+v1:Nat):Int) by lia];exact⟨_,_,rfl,by simp,_,_,t-1,rfl,.inr ⟨rfl,rfl⟩,rfl,s1,Fb,s2⟩
   .left
    simp only[go_sem,ya,yk,Cb,H3,show ¬(1000000000:Int)<=(t:Int) by lia,BD,wrapN (n:=n-2) (by lia),rB,em,wrapN (n:=m) (by lia),Hl,wrapN Xu,L9,wrapN (n:=pre.length+n) (by lia),Xt,wrapN (n:=pre.length+(n-2)) (by lia),cA 1 0 (show pre.length+(n-2)<M by lia),yd,Ak,De,wrapN Xv,show ((r*1000000000+u2:Nat):Int)<(m:Int) from tz.2 EL,QH,wrapN (n:=t-1) (by lia),rC,wrapN (n:=n-1) (by lia),eU,show (r:Int)+(v1:Int)=((r+v1:Nat):Int) from rfl,wrapN (n:=r+v1) (by lia),show ¬(1000000000:Int)<=((r+v1:Nat):Int) by lia];refine⟨_,t-1,rfl,by lia,t-1,r+v1,?_,h1,by lia,Fb,rfl⟩;rw[Nn (by simp only[go_sem,ya,yB,mU,nZ,mP,mL,mj hw.pu,vQ]) (by simp only[go_sem,ya,yc,yB,ik hw.pu])];simp only[go_sem,ya]
 .right
  have ll:t<1000000000:=Nat.lt_of_not_le fun e=>Ag (.inl e)
  have C7:=yS (show t<=999999999 from vU ll) (show v2<=999999999 from vU Vl);have VR:t*v2<=r*1000000000+u2:=ybJ fun e=>Ag (.inr e)
  have awO:=hl.stop ll ht (.inr VR);obtain⟨m,hm⟩:∃m,t*v2=m:=⟨_,rfl⟩;have em:(t:Int)*(v2:Int)=(m:Int):=by rw[<-hm,xZ]
  rw[hm] at VR C7;have Hl:(r:Int)*1000000000=((r*1000000000:Nat):Int):=by lia
  have De:((r*1000000000:Nat):Int)+(u2:Int)=((r*1000000000+u2:Nat):Int):=rfl
  simp only[go_sem,ya,yk,Cb,H3,show ¬(1000000000:Int)<=(t:Int) by lia,BD,wrapN (n:=n-2) (by lia),rB,em,wrapN (n:=m) (by lia),Hl,wrapN Xu,L9,wrapN (n:=pre.length+n) (by lia),Xt,wrapN (n:=pre.length+(n-2)) (by lia),cA 1 0 (show pre.length+(n-2)<M by lia),yd,Ak,De,wrapN Xv,show ¬((r*1000000000+u2:Nat):Int)<(m:Int) from fun e=>Nat.not_lt_of_le VR (tz.1 e)];exact⟨_,_,rfl,by simp,_,_,t,rfl,.inl ⟨rfl,rfl⟩,rfl,ll,hQ,awO⟩
def awP(h:Has P L 301 A9){w:AV}{x:List Int}{f:Int}(hw:bn w vs){n v1 v2 u0 u1 u2 M:Nat}(hl:gn x vs n v1 v2 u0 u1 u2)(hM:M=pre.length+x.length+post.length)(L8:M<=50000000000):
  ∃t:Nat,iv P L (D P L) (H3 qs (pre++x++post) f) 3 301 [.ap 1 0 M,w,aa pre.length]=Ft (aa t,H3 qs (pre++x++post) f,3)/\t<1000000000/\dv x/dv vs<=t/\t<=dv x/dv vs+1:=by
 have dK:=hl.n2;have rz:=hl.nb;have hlx:=hl.lx;have Al:below 3 w:=mj hw.pu;have GM:=hl.LP;have ayP:=hl.u0W;have Pv:=hl.LQ;have iZ:=hl.pos;have eU:=r9 hw (i:=n-1) (by have:=hl.lv;lia)
 rw[hl.eS] at eU;have Dh:=zL (l:=pre++x++post) (o:=pre.length+n) (by rw[oZ];lia)
 rw[Ce (by lia),hl.h0] at Dh;have Di:=zL (l:=pre++x++post) (o:=pre.length+(n-1)) (by rw[oZ];lia)
 rw[Ce (by lia),hl.h1] at Di;have rC:(n:Int)-1=((n-1:Nat):Int):=by lia
 have L9:(pre.length:Int)+(n:Int)=((pre.length+n:Nat):Int):=rfl;have pn1:((pre.length+n:Nat):Int)-1=((pre.length+(n-1):Nat):Int):=by lia
 obtain⟨m,hm⟩:∃m,m=u0*1000000000+u1:=⟨_,rfl⟩;have em:(u0:Int)*1000000000=((u0*1000000000:Nat):Int):=by lia
 have em2:((u0*1000000000:Nat):Int)+(u1:Int)=(m:Int):=by lia
 have fD:=xz m v1;have ol:=xu m iZ;have N7:=hl.first;rw[<-hm] at N7;have aD3:m/v1<=m:=vB _ _;have oq:IntKind.wrap .i64 ((m:Int).tdiv (v1:Int))=((m/v1:Nat):Int):=by
  rw[wm (by lia),<-Int.natCast_ediv,wrapN (by lia)]
 have or':(m:Int).tmod (v1:Int)=((m%v1:Nat):Int):=by rw[wj (by lia),<-Int.natCast_emod]
 rw[xp] at fD;generalize m/v1=q0 at*
 generalize m%v1=r0 at*
 have jM:∃ex tm t,D P L A9.body ⟨fg 0 [.ap 1 0 M,w,aa pre.length],H3 qs (pre++x++post) f,3,3⟩=Ft (ex,⟨tm,H3 qs (pre++x++post) f,3,3⟩)/\(ex=.normal\/ex=.ret)/\ak tm 6=aa (t:Nat)/\t<1000000000/\dv x/dv vs<=t/\t<=dv x/dv vs+1:=by
  simp only[go_sem,ya,yk,A9,H3,hw.len,hl.lv,L9,wrapN (n:=pre.length+n) (by lia),cA 1 0 (show pre.length+n<M by lia),yd,Dh,em,wrapN (n:=u0*1000000000) (by lia),pn1,wrapN (n:=pre.length+(n-1)) (by lia),cA 1 0 (show pre.length+(n-1)<M by lia),Di,em2,wrapN (n:=m) (by lia),rC,wrapN (n:=n-1) (by lia),eU,fW _ _ _ (show (v1:Int)≠0 by lia),fE _ _ _ (show (v1:Int)≠0 by lia),oq,or'];generalize nD:D P L (.loop _ Cb) _=qq;obtain⟨ex,s,rfl,tm,ct,t,rfl,so,rfl,g1,g2,g3⟩:=bN nD (aqz (P:=P) (L:=L) (qs:=qs) (f:=f) hw hl hM L8 q0) ⟨q0,r0,by
   rw[Nn (by simp only[go_sem,ya,yB,mU,nZ,mP,mL,Al,vQ]) (by simp only[go_sem,ya,yc,yB,ik hw.pu])]
   simp only[go_sem,ya],by lia,by lia,N7,rfl⟩
  rcases so with ⟨rfl,h9⟩ | ⟨rfl,h6⟩
  .simp only [go_sem,yB,H3,Nn,mU,mP,mL,h9,and_self];exact⟨_,_,t,rfl,.inr rfl,rfl,g1,g2,g3⟩
  .simp only [go_sem];exact⟨_,_,t,rfl,.inr rfl,h6,g1,g2,g3⟩
 have⟨ex,tm,t,g1,g2,g3,g4,g5,g6⟩:=jM;exact⟨t,FQ h g1 g2 (by show jc _ [RV.t 6]=_;rw[Ve,Uv,g3]),g4,g5,g6⟩
end
end
end VE
end
section
namespace VE
open Go (IntKind)
section
variable {p t v x z:Int}{post pre qs vs y:List Int}{n:Nat}
def ayQ{bo:Int}(ht:0<=t/\t<1000000000)(hv:0<=v/\v<1000000000)(hb:0<=bo/\bo<1000000000):0<=t*v/\t*v<=999999998000000001/\0<=t*v+bo/\t*v+bo<=999999999000000000:=by
 have h1:=tQ ht.1 hv.1;have h2:=ycf (show t<=999999999 by lia) (show v<=999999999 by lia) hv.1 (by decide)
 lia
def ayR(hx:0<=x/\x<1000000000)(hp:0<=p/\p<=999999999000000000):
  (x-p.tmod 1000000000<0->0<=x-p.tmod 1000000000+1000000000/\x-p.tmod 1000000000+1000000000<1000000000/\0<=p.tdiv 1000000000+1/\p.tdiv 1000000000+1<1000000000/\x-p.tmod 1000000000+1000000000+p=x+1000000000*(p.tdiv 1000000000+1))/\
  (¬x-p.tmod 1000000000<0->x-p.tmod 1000000000<1000000000/\0<=p.tdiv 1000000000/\p.tdiv 1000000000<1000000000/\x-p.tmod 1000000000+p=x+1000000000*p.tdiv 1000000000):=by grind
def Tk{l:List Int}(h:dg l){i:Nat}(hz:0<=z/\z<1000000000):dg (l.set i z):=NZ h hz
def aqA{b q bo BE X Y S:Int}(h2:z+(q*v+bo)=x+b*BE)(h3:Y+q*X=S+p*bo):(Y+p*(z-x))+q*(X+p*v)=S+p*b*BE:=by grind
section
variable {P:aF}{L:Lib}
def aqB{w:AV}{x:List Int}{f:Int}(hw:bn w vs){M m:Nat}(lv:vs.length=n)(hM:M=pre.length+(n+1)+post.length)(L8:M<=50000000000)(gv:dg vs)(ht:0<=t/\t<1000000000):
  en P L [8,9,10,11,12,13,14,15,16] Ga (fun k s=>∃(i:Nat) (bo:Int) (y:List Int),s=⟨[(8,.ap 0 0 1),(9,w),(10,aa n),(11,.ap 1 0 M),(12,.ap 2 0 m),(13,aa pre.length),(14,aa t),(15,aa bo),(16,aa i)],H3 qs (pre++y++post) f,3,0⟩/\i+k=n/\y.length=n+1/\dg y/\(0<=bo/\bo<1000000000)/\
    sv y+t*sv (vs.take i)=sv x+1000000000^i*bo) (fun ex s'=>∃tm bo y,s'=⟨tm,H3 qs (pre++y++post) f,3,0⟩/\ex=.exit 4/\ak tm 8=.ap 0 0 1/\ak tm 9=w/\ak tm 10=aa n/\ak tm 11=.ap 1 0 M/\ak tm 12=.ap 2 0 m/\ak tm 13=aa pre.length/\ak tm 14=aa t/\ak tm 15=aa bo/\y.length=n+1/\dg y/\(0<=bo/\bo<1000000000)/\
    sv y+t*sv vs=sv x+1000000000^n*bo):=by
 apply eB;rintro k s ⟨i,bo,y,rfl,hk,ly,gy,jR,aO⟩;by_cases hi:i<n
 .left
  have zd:=iV gv i;have rD:=iV gy i;have ev:=r9 hw (i:=i) (by lia);have ey:=zL (l:=pre++y++post) (o:=pre.length+i) (by rw[oZ];lia)
  rw[Ce (by lia)] at ey;have eQ:=NO (l:=vs) i;obtain⟨a,ha⟩:∃a,a=vs.getD i 0:=⟨_,rfl⟩;obtain⟨d,hd⟩:∃d,d=y.getD i 0:=⟨_,rfl⟩;rw[<-ha] at zd ev eQ;rw[<-hd] at rD ey;have⟨p1,p2,p3,p4⟩:=ayQ ht zd jR;have⟨s1,s2⟩:=ayR rD ⟨p3,p4⟩;have eI:(i:Int)+(pre.length:Int)=((pre.length+i:Nat):Int):=by lia
  have aT:=fun (hp:Hp) (ct:Nat) (z:Int)=>Dp (hp:=hp) (ct:=ct) (id:=1) (v:=z) (ex:=ydi) (l:=pre++y++post) (o:=pre.length+i) (by rw[oZ];lia)
  have pw:=fun z=>N9 (pre:=pre) (x:=y) (post:=post) (i:=i) z (by lia)
  have aU:=fun z=>Gi (l:=y) (i:=i) (x:=z) (by lia)
  rw[<-hd] at aU;obtain⟨pr,pN⟩:∃pr,pr=t*a+bo:=⟨_,rfl⟩;obtain⟨dm,fD⟩:∃dm,pr.tmod 1000000000=dm:=⟨_,rfl⟩;obtain⟨dq,Fh⟩:∃dq,pr.tdiv 1000000000=dq:=⟨_,rfl⟩;have aD4:0<=dm/\dm<1000000000:=by rw[<-fD,wj (by lia)];lia
  have aD5:0<=dq/\dq<1000000000:=by rw[<-Fh,wm (by lia)];lia
  rw[<-pN,fD,Fh] at s1 s2;have key:∀z BE,z+(t*a+bo)=d+1000000000*BE->sv (y.set i z)+t*sv (vs.take (i+1))=sv x+1000000000^(i+1)*BE:=fun z BE h=>by
   rw[aU,eQ,yae];exact aqA h aO
  rw[<-pN] at key;by_cases gF:d-dm<0
  .have ⟨q1,q2,q3,q4,q5⟩:=s1 gF;have kk:=key _ _ q5;obtain⟨dr,jQ⟩:∃dr,d-dm=dr:=⟨_,rfl⟩;rw[jQ] at gF kk q1 q2
   simp only[go_sem,ya,yk,Ga,H3,show (i:Int)<(n:Int) by lia,ev,wrap64 (n:=t*a) (by lia) (by lia),<-pN,wrap64 (n:=pr) (by lia) (by lia),eI,wrapN (n:=pre.length+i) (by lia),cA 1 0 (show pre.length+i<M by lia),yd,ey,fE _ _ _ (show (1000000000:Int)≠0 by decide),fW _ _ _ (show (1000000000:Int)≠0 by decide),fD,Fh,jQ,wrap64 (n:=dr) (by lia) (by lia),wrap64 (n:=dq) (by lia) (by lia),gF,wrap64 (n:=dr+1000000000) (by lia) (by lia),wrap64 (n:=dq+1) (by lia) (by lia),aT,pw];refine⟨_,k-1,rfl,by lia,i+1,dq+1,y.set i (dr+1000000000),?_,by lia,by simp[ly],Tk gy ⟨q1,q2⟩,⟨q3,q4⟩,kk⟩;rw[wrap64 (by lia) (by lia)];simp only[go_sem,ya,yc,aA,aE hw.pu]<;>rfl
  .have ⟨q2,q3,q4,q5⟩:=s2 gF;have kk:=key _ _ q5;obtain⟨dr,jQ⟩:∃dr,d-dm=dr:=⟨_,rfl⟩;rw[jQ] at gF kk q2
   simp only[go_sem,ya,yk,Ga,H3,show (i:Int)<(n:Int) by lia,ev,wrap64 (n:=t*a) (by lia) (by lia),<-pN,wrap64 (n:=pr) (by lia) (by lia),eI,wrapN (n:=pre.length+i) (by lia),cA 1 0 (show pre.length+i<M by lia),yd,ey,fE _ _ _ (show (1000000000:Int)≠0 by decide),fW _ _ _ (show (1000000000:Int)≠0 by decide),fD,Fh,jQ,wrap64 (n:=dr) (by lia) (by lia),wrap64 (n:=dq) (by lia) (by lia),gF,aT,pw];refine⟨_,k-1,rfl,by lia,i+1,dq,y.set i dr,?_,by lia,by simp[ly],Tk gy ⟨by lia,q2⟩,⟨q3,q4⟩,kk⟩;rw[wrap64 (by lia) (by lia)];simp only[go_sem,ya,yc,aA,aE hw.pu]<;>rfl
 .right
  have:i=n:=by lia
  subst this;rw[yG (by lia)] at aO;simp only[go_sem,ya,Ga,H3,show ¬(i:Int)<(i:Int) by lia];exact⟨_,_,rfl,by simp,_,bo,y,rfl,rfl,rfl,rfl,rfl,rfl,rfl,rfl,rfl,rfl,ly,gy,jR,aO⟩
def aqC{b c c' X Y S:Int}(h2:z+b*c'=x+v+c)(h3:Y+p*c=S+X):(Y+p*(z-x))+p*b*c'=S+(X+p*v):=by grind
def aqD{w:AV}{y0:List Int}{f:Int}(hw:bn w vs){M m:Nat}(lv:vs.length=n)(hM:M=pre.length+(n+1)+post.length)(L8:M<=50000000000)(gv:dg vs){top:Int}:
  en P L [8,9,10,11,12,13,14,19,20] JF (fun k s=>∃(i:Nat) (c:Int) (y:List Int),s=⟨[(8,.ap 0 0 1),(9,w),(10,aa n),(11,.ap 1 0 M),(12,.ap 2 0 m),(13,aa pre.length),(14,aa t),(19,aa c),(20,aa i)],H3 qs (pre++y++post) f,3,0⟩/\i+k=n/\y.length=n+1/\dg (y.take n)/\y.getD n 0=top/\(0<=c/\c<=1)/\
    sv y+1000000000^i*c=sv y0+sv (vs.take i)) (fun ex s'=>∃tm c y,s'=⟨tm,H3 qs (pre++y++post) f,3,0⟩/\ex=.exit 6/\ak tm 8=.ap 0 0 1/\ak tm 9=w/\ak tm 10=aa n/\ak tm 11=.ap 1 0 M/\ak tm 12=.ap 2 0 m/\ak tm 13=aa pre.length/\ak tm 14=aa t/\ak tm 19=aa c/\y.length=n+1/\dg (y.take n)/\y.getD n 0=top/\(0<=c/\c<=1)/\
    sv y+1000000000^n*c=sv y0+sv vs):=by
 apply eB;rintro k s ⟨i,c,y,rfl,hk,ly,gy,pC,hc,aO⟩;by_cases hi:i<n
 .left
  have zd:=iV gv i;have rD:=iV gy i;have e0:(y.take n).getD i 0=y.getD i 0:=by
   simp[yD,hi]
  rw[e0] at rD;have ev:=r9 hw (i:=i) (by lia);have ey:=zL (l:=pre++y++post) (o:=pre.length+i) (by rw[oZ];lia)
  rw[Ce (by lia)] at ey;have eQ:=NO (l:=vs) i;obtain⟨a,ha⟩:∃a,a=vs.getD i 0:=⟨_,rfl⟩;obtain⟨d,hd⟩:∃d,d=y.getD i 0:=⟨_,rfl⟩;rw[<-ha] at zd ev eQ;rw[<-hd] at rD ey;have eI:(i:Int)+(pre.length:Int)=((pre.length+i:Nat):Int):=by lia
  have aU:=fun z=>Gi (l:=y) (i:=i) (x:=z) (by lia)
  rw[<-hd] at aU;have ol:(d+a+c).tmod 1000000000=(d+a+c)%1000000000:=wj (by lia);have hdiv:(d+a+c).tdiv 1000000000=(d+a+c)/1000000000:=wm (by lia);obtain⟨z,hz⟩:∃z,z=(d+a+c)%1000000000:=⟨_,rfl⟩;obtain⟨c',ki⟩:∃z,z=(d+a+c)/1000000000:=⟨_,rfl⟩;have Wi:z+1000000000*c'=d+a+c:=by lia
  rw[<-hz] at ol;rw[<-ki] at hdiv;have aT:=fun (hp:Hp) (ct:Nat)=>Dp (hp:=hp) (ct:=ct) (id:=1) (v:=z) (ex:=ydi) (l:=pre++y++post) (o:=pre.length+i) (by rw[oZ];lia)
  have pw:=N9 (pre:=pre) (x:=y) (post:=post) (i:=i) z (by lia)
  simp only[go_sem,ya,yk,JF,H3,show (i:Int)<(n:Int) by lia,ev,eI,wrapN (n:=pre.length+i) (by lia),cA 1 0 (show pre.length+i<M by lia),yd,ey,wrap64 (n:=d+a) (by lia) (by lia),wrap64 (n:=d+a+c) (by lia) (by lia),fE _ _ _ (show (1000000000:Int)≠0 by decide),fW _ _ _ (show (1000000000:Int)≠0 by decide),ol,hdiv,wrap64 (n:=c') (by lia) (by lia),aT,pw];refine⟨_,k-1,rfl,by lia,i+1,c',y.set i z,?_,by lia,by simp[ly],?_,by rw[acN (by lia)];exact pC,⟨by lia,by lia⟩,?_⟩
  .rw [wrap64 (by lia) (by lia)];simp only[go_sem,ya,yc,aA,aE hw.pu]<;>rfl
  .rw [yaJ];exact Tk gy ⟨by lia,by lia⟩
  .rw [aU,eQ,yae];exact aqC Wi aO
 .right
  have:i=n:=by lia
  subst this;rw[yG (show vs.length<=i by lia)] at aO;simp only[go_sem,ya,JF,H3,show ¬(i:Int)<(i:Int) by lia];exact⟨_,_,rfl,by simp,_,c,y,rfl,rfl,rfl,rfl,rfl,rfl,rfl,rfl,rfl,rfl,ly,gy,pC,hc,aO⟩
def aqE{A V t:Nat}(hV:0<V)(ly:y.length=n+1)(gy:dg (y.take n))(h:sv y=(A:Int)-t*V)(h1:A/V<=t)(h2:t<=A/V+1):
  (¬y.getD n 0<0->t=A/V/\sv y=((A%V:Nat):Int))/\(y.getD n 0<0->t=A/V+1/\sv y+V=((A%V:Nat):Int)):=by
 have fD:=xz A V;have hm:=xu A hV;have eQ:=NO (l:=y) n;rw[yG (by lia),A0 gy] at eQ;have K3:=kA gy;have hp:(0:Int)<1000000000^n:=ycW (by decide);generalize y.getD n 0=top at*
 generalize A/V=Q at*
 have hq:t=Q\/t=Q+1:=by lia
 constructor
 .intro h0;have h3:0<=(1000000000:Int)^n*top:=tQ (tA hp) (by lia);rcases hq with rfl | rfl
  .grind
  .grind
 .intro h0;have h3:(1000000000:Int)^n*top<=-(1000000000^n):=by
   have:=wQ (show top<=-1 by lia) (tA hp)
   grind
  rcases hq with rfl | rfl
  .grind
  .grind
def aaX(ly:y.length=n+1)(gy:dg (y.take n))(h0:0<=sv y)(h1:sv y<1000000000^n):y.getD n 0=0/\dg y/\sv y=dv y:=by
 have eQ:=NO (l:=y) n;rw[yG (by lia),A0 gy] at eQ;have K3:=kA gy;rw[yQ,xj (by lia)] at K3;have hp:(0:Int)<1000000000^n:=ycW (by decide);have Gq:((1000000000^n:Nat):Int)=(1000000000:Int)^n:=by simp
 have aDI:(dv (y.take n):Int)<1000000000^n:=by lia
 have ht:y.getD n 0=0:=by
  generalize y.getD n 0=top at*
  rcases yac top 0 with h | h | h
  .have:=wQ (show top<=-1 by lia) (tA hp)
   grind
  .grind
  .have:=wQ (show 1<=top by lia) (tA hp)
   grind
 have hg:dg y:=by
  have e:y=y.take n++[0]:=by
   have h1:y=y.take n++y.drop n:=(wi n y).symm;have h2:y.drop n=[0]:=by
    rw[yR (by lia),xf (by lia)]
    grind
   grind
  rw[e];exact iS.2 ⟨gy,mr.2 ⟨by decide,by decide⟩⟩
 exact⟨ht,hg,A0 hg⟩
end
end
end VE
end
section
namespace VE
open Go (IntKind)
def aqF{l:List Int}{i:Nat}(h:i<l.length):dv (l.drop i)=(l.getD i 0).toNat+1000000000*dv (l.drop (i+1)):=by
 rw[yR h]
 have:l[i]=l.getD i 0:=by simp_all
 rw[this];rfl
def SC(l:List Int)(i:Nat)(h:i<=l.length):dv l=dv (l.take i)+1000000000^i*dv (l.drop i):=by
 conv=>lhs;rw[<-wi i l]
 rw[nO,yQ,xj h]
def aqG{sx sy sV:Int}{p:Int}{bo t:Int}{yn z:Int}{szy:Int}(h1:sy+t*sV=sx+p*bo)(h2:szy=sy+p*(z-yn))(h3:z=yn-bo):szy=sx-t*sV:=by grind
section
variable {P:aF}{L:Lib}
def aqH(sC:Has P L 301 A9){w:AV}{vs:List Int}{f:Int}(hw:bn w vs)(gv:dg vs){n M m:Nat}(lv:vs.length=n)(dK:2<=n)(hnM:n<M)(L8:M<=20000000000)(hm:m=M-n)(eS:0<vs.getD (n-1) 0){U0:Nat}:
  en P L [8,9,10,11,12,13] JG (fun k st=>∃(j:Nat) (us qs:List Int),st=⟨[(8,.ap 0 0 1),(9,w),(10,aa n),(11,.ap 1 0 M),(12,.ap 2 0 m),(13,aa ((j:Int)-1))],H3 qs us f,3,0⟩/\j=k/\j<=m/\us.length=M/\qs.length=m/\dg us/\dg qs/\(∀i,i<j->qs.getD i 0=0)/\
    dv us+dv qs*dv vs=U0/\dv (us.drop j)<dv vs) (fun ex st'=>∃tm us qs,st'=⟨tm,H3 qs us f,3,0⟩/\ex=.exit 2/\ak tm 8=.ap 0 0 1/\ak tm 10=aa n/\ak tm 11=.ap 1 0 M/\ak tm 12=.ap 2 0 m/\us.length=M/\qs.length=m/\dg us/\dg qs/\
    dv us+dv qs*dv vs=U0/\dv us<dv vs):=by
 apply eB;rintro k st ⟨j,us,qs,rfl,rfl,hj,lu,lq,gu,gq,hz,aO,pC⟩
 cases j with
 | zero=>
  right
  simp only[go_sem,ya,JG,H3,show ¬(0:Int)<=((0:Nat):Int)-1 by lia];exact⟨_,_,rfl,by simp,_,us,qs,rfl,rfl,rfl,rfl,rfl,rfl,lu,lq,gu,gq,aO,by simpa using pC⟩
 | succ j=>
  left
  obtain⟨pre,eI⟩:∃p,p=us.take j:=⟨_,rfl⟩;obtain⟨x,hx⟩:∃p,p=(us.drop j).take (n+1):=⟨_,rfl⟩;obtain⟨post,fJ⟩:∃p,p=us.drop (j+(n+1)):=⟨_,rfl⟩;have lp:pre.length=j:=by rw[eI,yQ];lia
  have lx:x.length=n+1:=by rw[hx,yQ,wD];lia
  have lpo:M=pre.length+(n+1)+post.length:=by rw[lp,fJ,wD];lia
  have mV:us=pre++x++post:=by
   rw[eI,hx,fJ,<-vH,xx,wi,wi]
  have gpo:dg post:=by
   have:=gu;rw[mV] at this;exact (iS.1 this).2
  have gpx:=by have:=gu;rw[mV] at this;exact (iS.1 this).1
  have gx:dg x:=(iS.1 gpx).2;have Vo:dg pre:=(iS.1 gpx).1;have hA:=aqF (l:=us) (i:=j) (by lia);have hgj:=iV gu j;have Xb:us.drop j=x++post:=by rw[fJ,hx,<-vH,wi]
  have BF:dv (us.drop j)=dv x+1000000000^(n+1)*dv post:=by rw[Xb,nO,lx]
  have LS:=kA gv;rw[lv] at LS;have aM:dv (us.drop j)<1000000000*dv vs:=by lia
  have hp0:dv post=0:=by
   rcases xq (dv post) with e | e
   .exact e
   .have h1:=yY (1000000000^(n+1)) e;rw[yk,xh] at h1;rw[xh] at BF
    lia
  rw[hp0,xB,yW] at BF;have Ma:=fun (l:List Int) (hl:dg l) (i:Nat)=>iV hl i
  obtain⟨v1,eU⟩:∃v:Nat,vs.getD (n-1) 0=v:=⟨(vs.getD (n-1) 0).toNat,by have:=Ma vs gv (n-1);lia⟩
  obtain⟨v2,rB⟩:∃v:Nat,vs.getD (n-2) 0=v:=⟨(vs.getD (n-2) 0).toNat,by have:=Ma vs gv (n-2);lia⟩
  obtain⟨u0,Dh⟩:∃v:Nat,x.getD n 0=v:=⟨(x.getD n 0).toNat,by have:=Ma x gx n;lia⟩
  obtain⟨u1,Di⟩:∃v:Nat,x.getD (n-1) 0=v:=⟨(x.getD (n-1) 0).toNat,by have:=Ma x gx (n-1);lia⟩
  obtain⟨u2,Ak⟩:∃v:Nat,x.getD (n-2) 0=v:=⟨(x.getD (n-2) 0).toNat,by have:=Ma x gx (n-2);lia⟩
  have hl:gn x vs n v1 v2 u0 u1 u2:=⟨dK,by lia,lx,lv,gx,gv,eU,rB,Dh,Di,Ak,by lia,by rw[<-BF];exact aM⟩
  have Pw:=hl.digit;have zb:0<dv vs:=by lia
  have ol:=xu (dv x) zb;have⟨t,e1,ht1,Wy,ht3⟩:=awP (P:=P) (L:=L) sC hw hl (pre:=pre) (post:=post) (qs:=qs) (f:=f) (M:=M) (by lia) (by lia);rw[<-mV,lp] at e1;have Xd:dv us=dv pre+1000000000^j*dv x:=by
   have:=SC us j (by lia)
   rw[BF,<-eI] at this;exact this
  have Vp:∀y,dv (pre++y++post)=dv pre+1000000000^j*dv y:=fun y=>by
   rw[xx,nO,nO,hp0,xB,yW,lp]
  have iD:=ZQ (b:=0) Xd aO;have Al:below 3 w:=mj hw.pu;have aU:=Gi (l:=qs) (i:=j) (x:=((dv x/dv vs:Nat):Int)) (by lia);have gq':dg (qs.set j ((dv x/dv vs:Nat):Int)):=NZ gq ⟨yaA _,tz.2 Pw⟩;rw[hz j (by lia),Int.sub_zero,A0 gq,A0 gq'] at aU;have aU:dv (qs.set j ((dv x/dv vs:Nat):Int))=dv qs+1000000000^j*(dv x/dv vs):=by
   have Gq:((1000000000^j*(dv x/dv vs):Nat):Int)=(1000000000:Int)^j*((dv x/dv vs:Nat):Int):=by rw[xZ];simp
   rw[<-Gq] at aU;exact yap (by rw[ybi,ybi,aU,th])
  have fin:∀(s':St) (x':List Int),br [8,9,10,11,12,13] s'=⟨[(8,.ap 0 0 1),(9,w),(10,aa n),(11,.ap 1 0 M),(12,.ap 2 0 m),(13,aa ((j:Int)-1))],H3 (qs.set j ((dv x/dv vs:Nat):Int)) (pre++x'++post) f,3,0⟩->x'.length=n+1->dg x'->sv x'=((dv x%dv vs:Nat):Int)->
    ∃(j':Nat) (us qs:List Int),br [8,9,10,11,12,13] s'=⟨[(8,.ap 0 0 1),(9,w),(10,aa n),(11,.ap 1 0 M),(12,.ap 2 0 m),(13,aa ((j':Int)-1))],H3 qs us f,3,0⟩/\j'=j/\j'<=m/\us.length=M/\qs.length=m/\dg us/\dg qs/\(∀i,i<j'->qs.getD i 0=0)/\dv us+dv qs*dv vs=U0/\dv (us.drop j')<dv vs:=fun s' x' hc Xc Qu LW=>by
   have afS:dv x'=dv x%dv vs:=by rw[A0 Qu] at LW;exact yap LW
   refine⟨j,_,_,hc,rfl,by lia,by rw[oZ,Xc];lia,by simp[lq],iS.2 ⟨iS.2 ⟨Vo,Qu⟩,gpo⟩,gq',fun i hi=>by rw[acN (by lia)];exact hz i (by lia),?_,?_⟩
   .rw [Vp,afS,aU];exact iD
   .rw [xx,List.drop_left' lp,nO,hp0,xB,yW,afS];exact ol
  have afT:=fun (z:Int) (hp:Hp) (ct:Nat)=>Dp (hp:=hp) (ct:=ct) (id:=2) (v:=z) (ex:=ydh) (l:=qs) (o:=j) (by lia)
  have svx:=A0 gx;have svv:=A0 gv;simp only[H3] at e1;simp only[go_sem,ya,JG,H3,show ((j+1:Nat):Int)-1=(j:Int) by lia,show (0:Int)<=(j:Int) by lia,ad5,e1];generalize nD:D P L (.loop _ Ga) _=qq;obtain⟨ex,s,rfl,tm,bo,y,rfl,rfl,t8,t9,t10,t11,t12,t13,t14,t15,ly,gy,jR,hv⟩:=bN nD (aqB (P:=P) (L:=L) (x:=x) (pre:=pre) (post:=post) (qs:=qs) (f:=f) (m:=m) (M:=M) hw lv lpo (by lia) gv (t:=t) (by lia) n) ⟨0,0,x,by
   rw[mV,lp]
   simp only[go_sem,ya,yc,aA,aE hw.pu]<;>rfl,by lia,lx,gx,by lia,by simp[sv]⟩
  rw[lp] at t13;have hyn:=iV gy n;have Xx:=zL (l:=pre++y++post) (o:=pre.length+n) (by rw[oZ];lia)
  rw[Ce (by lia),lp] at Xx;obtain⟨z,Xy⟩:∃z,z=y.getD n 0-bo:=⟨_,rfl⟩;have Gx:=fun (hp:Hp) (ct:Nat)=>Dp (hp:=hp) (ct:=ct) (id:=1) (v:=z) (ex:=ydi) (l:=pre++y++post) (o:=j+n) (by rw[oZ];lia)
  have pw:=N9 (pre:=pre) (x:=y) (post:=post) (i:=n) z (by lia);rw[lp] at pw;rw[pw] at Gx;have oA:=Gi (l:=y) (i:=n) (x:=z) (by lia);have OO:=aqG hv oA Xy;have Dg:(y.set n z).length=n+1:=by simp[ly]
  have Fc:dg ((y.set n z).take n):=by
   have:(y.set n z).take n=y.take n:=by rw[yaJ,yaH (by simp;lia)]
   rw[this];exact DO gy n
  rw[svx,svv] at OO;have⟨s0,s1⟩:=aqE zb Dg Fc OO Wy ht3;have eg:(y.set n z).getD n 0=z:=amc (by lia);rw[eg] at s0 s1;have Xz:=zL (l:=pre++y.set n z++post) (o:=pre.length+n) (by rw[oZ];lia)
  rw[Ce (by lia),lp,eg] at Xz;generalize y.set n z=y1 at*
  have hpn:((10^9:Int))=1000000000:=by decide
  by_cases gF:z<0
  .have ⟨f1,f2⟩:=s1 gF
   simp only[go_sem,ya,yc,yk,aA,aE hw.pu,t8,t9,t10,t11,t12,t13,t14,t15,show (j:Int)+(n:Int)=((j+n:Nat):Int) from rfl,wrapN (n:=j+n) (by lia),cA 1 0 (show j+n<M by lia),yd,Xx,<-Xy,wrap64 (n:=z) (by lia) (by lia),Gx,Xz,gF];generalize EI:D P L (.loop _ JF) _=W5;obtain⟨ex,s,rfl,kU,c,y2,rfl,rfl,t8,t9,t10,t11,t12,t13,t14,t19,W7,Qs,aee,hc,dE⟩:=bN EI (aqD (P:=P) (L:=L) (y0:=y1) (pre:=pre) (post:=post) (qs:=qs) (f:=f) (m:=m) (M:=M) (t:=(t:Int)-1) (top:=z) hw lv lpo (by lia) gv n) ⟨0,0,y1,by
    rw[lp,wrap64 (n:=(t:Int)-1) (by lia) (by lia)]
    simp only[go_sem,ya,yc,aA,aE hw.pu]<;>rfl,by lia,Dg,Fc,eg,by lia,by simp[sv]⟩
   rw[lp] at t13;have afU:=zL (l:=pre++y2++post) (o:=pre.length+n) (by rw[oZ];lia)
   rw[Ce (by lia),lp,aee] at afU;have Pu:=fun (hp:Hp) (ct:Nat)=>Dp (hp:=hp) (ct:=ct) (id:=1) (v:=z+c) (ex:=ydi) (l:=pre++y2++post) (o:=j+n) (by rw[oZ];lia)
   have OA:=N9 (pre:=pre) (x:=y2) (post:=post) (i:=n) (z+c) (by lia);rw[lp] at OA;rw[OA] at Pu;have sS:=Gi (l:=y2) (i:=n) (x:=z+c) (by lia);rw[aee,show z+c-z=c by lia,dE,svv,f2] at sS;have LU:(y2.set n (z+c)).length=n+1:=by simp[W7]
   have Qt:dg ((y2.set n (z+c)).take n):=by
    have:(y2.set n (z+c)).take n=y2.take n:=by rw[yaJ,yaH (by simp;lia)]
    rw[this];exact Qs
   have XA:((dv x%dv vs:Nat):Int)<1000000000^n:=by
    have Gq:((1000000000^n:Nat):Int)=(1000000000:Int)^n:=by simp
    rw[<-Gq];lia
   have⟨g1,g2,g3⟩:=aaX LU Qt (by rw[sS];lia) (by rw[sS];exact XA)
   generalize y2.set n (z+c)=y3 at*
   have ft:(t:Int)-1=((dv x/dv vs:Nat):Int):=by rw[f1];lia
   simp only[go_sem,ya,yc,yk,aA,aE hw.pu,t8,t9,t10,t11,t12,t13,t14,t19,show (j:Int)+(n:Int)=((j+n:Nat):Int) from rfl,wrapN (n:=j+n) (by lia),cA 1 0 (show j+n<M by lia),yd,afU,wrap64 (n:=z+c) (by lia) (by lia),Pu,cA 2 0 (show j<m by lia),afT];rw[ft];refine⟨_,j,rfl,by lia,fin _ y3 ?_ LU g2 sS⟩;rw[wrap64 (by lia) (by lia)];simp only[go_sem,ya,yc,aA,aE hw.pu]<;>rfl
  .have ⟨f1,f2⟩:=s0 gF;have XA:((dv x%dv vs:Nat):Int)<1000000000^n:=by
    have Gq:((1000000000^n:Nat):Int)=(1000000000:Int)^n:=by simp
    rw[<-Gq];lia
   have⟨g1,g2,g3⟩:=aaX Dg Fc (by rw[f2];lia) (by rw[f2];exact XA)
   simp only[go_sem,ya,yc,yk,aA,aE hw.pu,t8,t9,t10,t11,t12,t13,t14,t15,show (j:Int)+(n:Int)=((j+n:Nat):Int) from rfl,wrapN (n:=j+n) (by lia),cA 1 0 (show j+n<M by lia),yd,Xx,<-Xy,wrap64 (n:=z) (by lia) (by lia),Gx,Xz,gF,cA 2 0 (show j<m by lia),afT];rw[f1];refine⟨_,j,rfl,by lia,fin _ y1 ?_ Dg g2 f2⟩;rw[wrap64 (by lia) (by lia)];simp only[go_sem,ya,yc,aA,aE hw.pu]<;>rfl
end
end VE
end
section
namespace VE
open Go (IntKind)
section
variable {P:aF}{L:Lib}
def auD(h:Has P L 292 A8){n:Nat}(hn:n<1000000000):ah P L 292 [aa n,aa 9] (.str (js 9 n)):=by
 have key:=ji P L [0,1,5] oX
  (fun k st=>∃(m:Nat) (s:List Nat),st=⟨[(0,aa m),(1,aa 9),(5,.str s)],[],0,0⟩/\s.length+k=9/\m<10^k/\js 9 n=js k m++s)
  (fun ex st=>∃tm ct,st=⟨tm,[],ct,0⟩/\ex=.exit 0/\ak tm 5=.str (js 9 n)) ?_
 .unfold ah;rw[aJ h];simp only[go_sem,A8];generalize hq:D P L (.loop _ oX) _=q;obtain⟨ex,st,rfl,tm,ct,rfl,rfl,h2⟩:=bN hq (key 9) ⟨n,[],by simp only[go_sem,ya,aA]<;>rfl,rfl,by lia,by simp⟩
  simp only[go_sem,aA,h2]
 .rintro k st ⟨m,s,rfl,hk,hm,hs⟩
  cases k with
  | zero=>
   right
   have ze:m=0:=by simpa using hm
   subst ze;simp only[go_sem,ya,oX,show ¬(0:Int)<((0:Nat):Int) by lia,show ¬((s.length:Nat):Int)<9 by lia];refine⟨_,_,rfl,by simp,_,_,rfl,rfl,?_⟩;rw[hs];rfl
  | succ k=>
   left
   have hr:((m:Int)).tmod 10=((m%10:Nat):Int):=by rw[wj (by lia)];rfl
   have hq:((m:Int)).tdiv 10=((m/10:Nat):Int):=by rw[wm (by lia)];rfl
   have hd:=YU (r:=m%10) (by lia);have Lo:m<10000000000:=yE hm (by simpa using xc (show 0<10 by decide) (show k+1<=10 by lia));have fin:∃s',D P L oX ⟨[(0,aa m),(1,aa 9),(5,.str s)],[],0,0⟩=Ft (.normal,s')/\br [0,1,5] s'=⟨[(0,aa (m/10:Nat)),(1,aa 9),(5,.str ([48+m%10]++s))],[],0,0⟩:=by
    by_cases hc:(0:Int)<m
    .simp only [go_sem,ya,yc,oX,hc,fE _ _ _ (show (10:Int)≠0 by decide),fW _ _ _ (show (10:Int)≠0 by decide),hr,hq,wrapN (n:=m%10+1) (by lia),wrap64 (n:=((m/10:Nat):Int)) (by lia) (by lia),fp,ep,show ((m%10:Nat):Int)+1=((m%10+1:Nat):Int) from rfl,hd,ir (a:=[48+m%10]) (b:=s) (by simp;lia)]
     exact⟨_,rfl,by simp only[go_sem,ya,aA]⟩
    .simp only [go_sem,ya,yc,oX,hc,show ((s.length:Nat):Int)<9 by lia,fE _ _ _ (show (10:Int)≠0 by decide),fW _ _ _ (show (10:Int)≠0 by decide),hr,hq,wrapN (n:=m%10+1) (by lia),wrap64 (n:=((m/10:Nat):Int)) (by lia) (by lia),fp,ep,show ((m%10:Nat):Int)+1=((m%10+1:Nat):Int) from rfl,hd,ir (a:=[48+m%10]) (b:=s) (by simp;lia)]
     exact⟨_,rfl,by simp only[go_sem,ya,aA]⟩
   have⟨s',f1,f2⟩:=fin;exact⟨s',k,f1,by lia,m/10,_,f2,by simp;lia,by rw[xh] at hm;lia,by rw[hs];simp[js]⟩
end
end VE
end
section
namespace VE
open Go (IntKind)
def last_pos{l:List Int}(hd:dg l)(hn:nz l)(h:0<l.length):0<l.getD (l.length-1) 0:=by
 rcases snoc l with rfl | ⟨m,a,rfl⟩
 .grind
 .have e:(m++[a]).getD ((m++[a]).length-1) 0=a:=by simp_all
  have ha:=mr.1 (iS.1 hd).2;by_cases h0:a=0
  .subst h0
   have:=M1 m
   have e:=congrArg List.length hn;rw[IQ] at e
   grind
  .lia
section
variable {P:aF}{L:Lib}
def auE(sr:Has P L 292 A8){neg:Bool}{w:AV}{l:List Int}(hw:bn w l)(hd:dg l)(hn:nz l)(hl:l.length<=20000000000):
  en P L [1,3,4] JD (fun k s=>∃(j:Nat) (t:List Nat),s=⟨[(1,.ptr 0 0),(3,.str t),(4,aa ((j:Int)-1))],[(0,.cells ydh ydh ydh 2 [.bool neg,w])],1,0⟩/\j=k/\j<l.length/\0<dv (l.drop j)/\t=aB (dv (l.drop j))/\t.length<=9*(l.length-j)) (fun ex s'=>∃tm,s'=⟨tm,[(0,.cells ydh ydh ydh 2 [.bool neg,w])],1,0⟩/\ex=.exit 0/\ak tm 1=.ptr 0 0/\ak tm 3=.str (aB (dv l))/\(aB (dv l)).length<=180000000000):=by
 apply eB;rintro k s ⟨j,t,rfl,rfl,hj,iZ,ht,Xr⟩
 cases j with
 | zero=>
  right
  rw[yh] at ht;simp only[go_sem,ya,JD,show ¬(0:Int)<=((0:Nat):Int)-1 by lia];exact⟨_,_,rfl,by simp,_,rfl,rfl,rfl,by rw[<-ht];simp only[go_sem,ya],by rw[<-ht];lia⟩
 | succ i=>
  left
  have hi:i<l.length:=by lia
  obtain⟨x,hx⟩:∃x,x=l.getD i 0:=⟨_,rfl⟩;have e1:=r9 hw hi;have gx:=iV hd i;rw[<-hx] at e1 gx;obtain⟨m,rfl⟩:∃m:Nat,x=m:=⟨x.toNat,by lia⟩;have e2:=auD sr (n:=m) (by lia);unfold ah at e2;have hlp:=Sy 9 m;have jQ:dv (l.drop i)=dv (l.drop (i+1))*10^9+m:=by
   have:l.drop i=(m:Int)::l.drop (i+1):=by
    rw[yR hi,hx];simp[yD,yN hi]
   rw[this];simp only[dv,wJ];lia
  have ayS:aB (dv (l.drop i))=t++js 9 m:=by
   rw[jQ,Nj 9 _ m iZ (by lia),ht]
  simp only[go_sem,ya,JD,show ((i+1:Nat):Int)-1=(i:Int) by lia,show (0:Int)<=(i:Int) by lia,bj,yd,dI,e1,e2,ir (a:=t) (b:=js 9 m) (by lia)];refine⟨_,i,rfl,by lia,i,t++js 9 m,?_,rfl,by lia,by lia,ayS.symm,by simp;lia⟩
  rw[wrap64 (by lia) (by lia)];simp only[go_sem,ya,yc,aA]<;>rfl
def afV(h:Has P L 282 KC)(sr:Has P L 292 A8){v:AV}{n:Int}{K:Nat}(hK:K<=18000000000)(hv:lB v n)(hn:n.natAbs<1000000000^K):ah P L 282 [v] (.str (aZ n))/\(aZ n).length<=180000000001:=by
 obtain⟨w,l,rfl,hw,hd,hz,rE⟩:=hv;have hl:=xo (jV hd hz (by rw[rE];exact hn)) hK
 by_cases h0:l=[]
 .subst h0;have pQ:n=0:=by simp[dv] at rE;lia
  subst pQ;refine⟨?_,by decide⟩;unfold ah;rw[aJ h];simp only[go_sem,ya,yc,KC,aV,hw.len,hw.pu,hw.one,bj,yd,dI,yH,show ((0:Nat):Int)=(0:Int) from rfl,yX];rfl
 .have iZ:0<l.length:=ta.2 h0;obtain⟨x,hx⟩:∃x,x=l.getD (l.length-1) 0:=⟨_,rfl⟩;have e1:=r9 hw (show l.length-1<l.length by lia);have gx:=iV hd (l.length-1);have gp:=last_pos hd hz iZ;rw[<-hx] at e1 gx gp;obtain⟨m,rfl⟩:∃m:Nat,x=m:=⟨x.toNat,by lia⟩;have e2:=Vi sr (n:=m) (by lia);have jQ:dv (l.drop (l.length-1))=m:=by
   rw[yR (show l.length-1<l.length by lia),xf (by lia)]
   have:l[l.length-1]=(m:Int):=by rw[hx];simp[yD,yN (show l.length-1<l.length by lia)]
   simp[dv,this]
  have h9:(aB m).length<=9:=zo (k:=8) (by lia);have fin:∀neg:Bool,bT P L (D P L) 282 [.agg [.bool neg,w]]=Ft (.str ((if neg=ydh then [45] else [])++aB (dv l)))/\(aB (dv l)).length<=180000000000:=fun neg=>by
   rw[aJ h]
   simp only[go_sem,ya,yc,KC,aV,hw.len,hw.pu,hw.one,bj,yd,dI,show ¬(l.length:Int)=0 by lia,show (l.length:Int)-1=((l.length-1:Nat):Int) by lia,wrapN (n:=l.length-1) (by lia),e1,e2];generalize hq:D P L (.loop _ JD) _=q;obtain⟨ex,s,rfl,tm,rfl,rfl,t1,t3,hlen⟩:=bN hq (auE (P:=P) (L:=L) sr (neg:=neg) hw hd hz (by lia) (l.length-1)) ⟨l.length-1,aB m,by
    rw[show (l.length:Int)-2=((l.length-1:Nat):Int)-1 by lia,wrap64 (by lia) (by lia)]
    simp only[go_sem,ya,yc,aA]<;>rfl,rfl,by lia,by rw[jQ];lia,by rw[jQ],by lia⟩
   refine⟨?_,hlen⟩
   cases neg with
   | true=>
    simp only[go_sem,ya,aA,t1,t3,bj,yd,ir (a:=[45]) (b:=aB (dv l)) (by simp;lia),xQ]
   | false=>
    simp only[go_sem,ya,aA,t1,t3,bj,yd];rfl
  have⟨f1,f2⟩:=fin (decide (n<0));rw[rE] at f1 f2;simp only[tI] at f1;rw[rR] at f1;refine⟨f1,?_⟩;rw[<-rR]
  split<;>simp<;>lia
structure Rb(P:aF)(L:Lib):Prop where
 aD6:Has P L 262 ae1
 EF:Has P L 272 KB
 afW:Has P L 274 O4
 afX:Has P L 275 O5
 ayT:Has P L 277 EC
 ayU:Has P L 280 po
 ayV:Has P L 281 U6
 afY:Has P L 282 KC
 afZ:Has P L 288 O7
 K6:Has P L 289 zQ
 Be:Has P L 290 GD
 Vj:Has P L 291 KE
 sr:Has P L 292 A8
 lU:Has P L 293 Cz
 j0:Has P L 294 CA
 VQ:Has P L 295 KF
 pG:Has P L 296 zS
 af0:Has P L 298 O8
 qV:Has P L 299 CB
 cM:Has P L 300 mE
 om:Has P L 302 zT
structure Ras(P:aF)(L:Lib):Prop extends Rb P L where
 af1:Has P L 264 Kz
 aD7:Has P L 268 ae2
 aD8:Has P L 271 ae3
 ayW:Has P L 276 qQ
 K7:Has P L 278 O6
 ayX:Has P L 279 GC
 PF:Has P L 297 KG
structure Ra(P:aF)(L:Lib):Prop extends Ras P L where
 af2:Has P L 267 KA
end
end VE
end
section
namespace VE
open Go (IntKind)
section
variable {v w:AV}{a b:List Int}
section
variable {P:aF}{L:Lib}
def aqI{vs:List Int}{f:Int}(hv:bn v a)(hw:bn w vs){n:Nat}(la:a.length<=9000000000){A:Nat}:
  en P L [0,8,9,10,11] JE (fun k st=>∃us:List Int,st=⟨[(0,v),(8,.ap 0 0 1),(9,w),(10,aa n),(11,.ap 1 0 us.length)],[(1,.cells ydh ydh ydi 1 (us.map aa)),(0,.cells ydi ydh ydh 1 [aa f])],2,0⟩/\us.length+k=a.length+1/\dg us/\dv us=A) (fun ex st'=>∃tm us,st'=⟨tm,[(1,.cells ydh ydh ydi 1 (us.map aa)),(0,.cells ydi ydh ydh 1 [aa f])],2,0⟩/\ex=.exit 0/\ak tm 8=.ap 0 0 1/\ak tm 9=w/\ak tm 10=aa n/\ak tm 11=.ap 1 0 (a.length+1)/\us.length=a.length+1/\dg us/\dv us=A):=by
 apply eB;rintro k st ⟨us,rfl,hk,gu,aO⟩;have ea:((a.length:Nat):Int)+1=((a.length+1:Nat):Int):=rfl;by_cases hi:us.length<a.length+1
 .left
  simp only[go_sem,ya,yc,yo,yk,JE,hv.len,ea,wrapN (n:=a.length+1) (by lia),show ((us.length:Nat):Int)<((a.length+1:Nat):Int) by lia]
  rw[gA (ex:=ydi) (pu:=ydh) (cs:=us.map aa) rfl (by simp) (by lia) (by lia) (by decide) rfl];refine⟨_,k-1,rfl,by lia,us++[0],?_,by simp;lia,iS.2 ⟨gu,mr.2 (by decide)⟩,by rw[nO];simp[dv,aO]⟩
  rw[xA,yJ];simp only[go_sem,ya,yc,aA,aE hv.pu,aE hw.pu]<;>rfl
 .right
  have hl:us.length=a.length+1:=by lia
  rw[hl]
  simp only[go_sem,ya,JE,hv.len,ea,wrapN (n:=a.length+1) (by lia),show ¬((a.length+1:Nat):Int)<((a.length+1:Nat):Int) by lia];exact⟨_,_,rfl,by simp,_,us,rfl,rfl,rfl,rfl,rfl,rfl,hl,gu,aO⟩
end
def acO:∀l:List Int,bS (l.map aa)=ydh
 | []=>rfl
 | a::r=>by rw[yZ,ZL,acO r];rfl
def acP:∀l:List Int,aD (l.map aa)=ydh
 | []=>rfl
 | a::r=>by rw[yZ,aD,acP r];rfl
def aqJ{hp:Hp}{ct:Nat}{e:Bool}{us:List Int}{o:Obj}(h:us.length<=100000000000):
  EE ((1,.cells ydh ydh ydh 1 [])::(0,o)::hp) ct 1 8 (.ap 1 0 0) (mM ((1,.cells ydh ydh ydh 1 [])::(0,o)::hp) 1 (.au e us.length (us.map aa)))=Ft (.ap ct 0 us.length,(ct,.cells ydh ydh ydi 1 (us.map aa))::cC ((1,.cells ydh ydh ydh 1 [])::(0,o)::hp) 1,ct+1):=by
 have h1:mM ((1,.cells ydh ydh ydh 1 [])::(0,o)::hp) 1 (.au e us.length (us.map aa))=Ft (us.length,us.map aa):=by
  simp[mM]
 rw[h1,gA (cs:=[]) (pu:=ydh) (ex:=ydh) rfl (by simp) (by lia) (by lia) (by decide) (acO us),acP,yd];rfl
def auF{l:List Int}(hd:dg l)(hn:nz l)(h:0<l.length):1000000000^(l.length-1)<=dv l:=Oq hn hd (fun e=>by subst e;simp at h)
def aop{n top f V:Nat}(hf:f=1000000000/(top+1))(Xw:0<top)(ht:top<1000000000)(h1:V<1000000000^(n-1)*(top+1))(hn:0<n):0<f/\f<1000000000/\V*f<1000000000^n:=by
 have h2:f*(top+1)<=1000000000:=by rw[hf];exact Nat.div_mul_le_self _ _
 have h3:0<f:=by rw[hf];exact ycU (by lia) (by lia)
 refine⟨h3,?_,?_⟩
 .have:=yY f (show 2<=top+1 by lia)
  lia
 .have e1:=xX h1 h3;have e2:=yY (1000000000^(n-1)) h2;rw[<-xh,show (n-1).succ=n by lia] at e2
  grind
section
variable {P:aF}{L:Lib}
def auG(h:Has P L 289 zQ)(lU:Has P L 293 Cz)(qV:Has P L 299 CB)(cM:Has P L 300 mE)(sC:Has P L 301 A9)(hv:bn v a)(hw:bn w b)(ha:dg a)(hb:dg b)(na:nz a)(nb:nz b)(la:a.length<=8000000000)(lb:2<=b.length)(ec:ah P L 296 [v,w] (aa (dN (dv a) (dv b))))(hc:dv b<=dv a):
  ∃q r lq lr,ah P L 289 [v,w] (.ax [q,r])/\bn q lq/\bn r lr/\dg lq/\nz lq/\dg lr/\nz lr/\dv lq=dv a/dv b/\dv lr=dv a%dv b:=by
 have eL:¬dN (dv a) (dv b)<0:=by unfold dN;rw[yz (by lia)];split<;>decide
 have awQ:=auF hb nb (by lia);have hba:b.length<=a.length:=by
  have:=kA ha
  have h1:1000000000^(b.length-1)<1000000000^a.length:=by lia
  have:=(uh (show 1<1000000000 by decide)).1 h1
  lia
 obtain⟨n,hn⟩:∃n,n=b.length:=⟨_,rfl⟩;have ayY:=iV hb (n-1);have fK:=last_pos hb nb (by lia);rw[<-hn] at fK;obtain⟨top,pC⟩:∃v:Nat,b.getD (n-1) 0=v:=⟨(b.getD (n-1) 0).toNat,by lia⟩;have af3:=r9 hw (i:=n-1) (by lia);rw[pC] at ayY fK af3;have hbt:=qu (l:=b) (n-1);rw[show n-1+1=n by lia,yG (by lia),pC,wJ] at hbt;have awR:=kA (DO hb (n-1));rw[yQ,xj (by lia)] at awR;obtain⟨f,hf⟩:∃f,f=1000000000/(top+1):=⟨_,rfl⟩;have⟨Fk,hfB,hfV⟩:=aop (n:=n) (V:=dv b) hf (by lia) (by lia) (by rw[xC,yk];lia) (by lia)
 have hIf:bn (.au ydh 1 [aa f]) [(f:Int)]:=mN ydh [(f:Int)];have gf:dg [(f:Int)]:=mr.2 (by lia);have vf:dv [(f:Int)]=f:=by simp[dv]
 have⟨v',vs,e1,fa,hsv,Ff,LX,Am⟩:=VP lU cM hw hIf hb gf (by lia) (by simp);have⟨u',Dq,e2,jS,E9,Hm,nus,Mb⟩:=VP lU cM hv hIf ha gf (by lia) (by simp);rw[vf] at Am Mb;have zb:0<dv b:=by have:=Nat.pow_pos (n:=b.length-1) (show 0<1000000000 by decide);lia
 have BG:vs.length=n:=by
  have h1:vs.length<=n:=jV Ff LX (by rw[Am];exact hfV)
  have h2:dv b<=dv vs:=by rw[Am];exact Nat.le_mul_of_pos_right _ Fk
  have h3:=kA Ff;have h4:1000000000^(n-1)<1000000000^vs.length:=by rw[hn];lia
  have:=(uh (show 1<1000000000 by decide)).1 h4
  lia
 have Qv:Dq.length<=a.length+1:=by
  refine jV Hm nus ?_;rw[Mb,xh];exact yao (kA ha) hfB
 have af4:0<Dq.length:=by
  rcases xq Dq.length with e | e
  .have h1:0<dv a*f:=vv (by lia) Fk;rw[yK e] at Mb;simp only[dv] at Mb;lia
  .exact e
 have eS:0<vs.getD (n-1) 0:=by
  have:=last_pos Ff LX (by lia)
  rwa[BG] at this
 obtain⟨m,hm⟩:∃m,m=a.length+1-n:=⟨_,rfl⟩;have bV:∀ct:Nat,zU ct 1 8 [.int .i64 0] (Ft m) (Ft m)=Ft (.ap ct 0 m,.cells ydh ydh ydh 1 ((yp m (0:Int)).map aa)):=fun ct=>by
  rw[Gh (sz:=1) (by lia) (by lia) (by rfl) (by rfl),RB];rfl
 obtain⟨e,rfl⟩:∃e,u'=.au e Dq.length (Dq.map aa):=by
  rcases jS with ⟨rfl,h0⟩ | ⟨e,rfl⟩
  .rw [List.map_eq_nil_iff] at h0;rw[h0] at af4;simp at af4
  .exact ⟨e,by rw[yL]⟩
 have Uy:∀us:List Int,us.length=a.length+1->dv us=dv a*f->dv (us.drop m)<dv vs:=fun us hl hd=>by
  have e1:=SC us m (by lia);have e2:=kA ha;have e3:=xX e2 Fk;have e4:1000000000^a.length=1000000000^m*1000000000^(n-1):=by rw[<-xD];congr 1;lia
  rw[<-hd,e4,xe] at e3;have e5:1000000000^m*dv (us.drop m)<1000000000^m*(1000000000^(n-1)*f):=by lia
  refine yE (Nat.lt_of_mul_lt_mul_left e5) ?_;rw[Am,hn];exact yU _ awQ
 have jM:∃us qs,(us.length=a.length+1/\qs.length=m/\dg us/\dg qs/\dv us+dv qs*dv vs=dv a*f/\dv us<dv vs)/\
   ∃q1 r1 lr,bn q1 (dS qs)/\bn r1 lr/\dg lr/\nz lr/\dv lr=dv (us.take n)/f/\ah P L 289 [v,w] (.ax [q1,r1]):=by
  unfold ah at ec e1 e2;unfold ah;rw[aJ h];have KW:IntKind.wrap .i64 ((1000000000:Int).tdiv ((top+1:Nat):Int))=(f:Int):=by
   rw[wm (by decide),show (1000000000:Int)/((top+1:Nat):Int)=((1000000000/(top+1):Nat):Int) from rfl,<-hf,wrap64 (by lia) (by lia)]
  simp only[go_sem,ya,yc,yB,yo,yk,zQ,hv.aj,hw.len,hw.aj,ec,eL,show ¬(n:Int)=1 by lia,<-hn,show (n:Int)-1=((n-1:Nat):Int) by lia,wrapN (n:=n-1) (by lia),af3,show ((top:Nat):Int)+1=((top+1:Nat):Int) from rfl,wrapN (n:=top+1) (by lia),fW _ _ _ (show ((top+1:Nat):Int)≠0 by lia),KW,e1,hsv,fa.len,BG,e2,E9,aqJ (us:=Dq) (e:=e) (by lia)];generalize zc:D P L (.loop _ JE) _=q0;obtain⟨ex,st,rfl,tm,us,rfl,rfl,t8,t9,t10,t11,lu,gu,vu⟩:=bN zc (aqI (P:=P) (L:=L) (f:=(f:Int)) (n:=n) (A:=dv a*f) hv fa (by lia) (a.length+1-Dq.length)) ⟨Dq,by
   simp only[go_sem,ya,yc,aA,aE hv.pu,aE fa.pu]<;>rfl,by lia,Hm,Mb⟩
  have em:((a.length+1:Nat):Int)-(n:Int)=(m:Int):=by lia
  have em1:(m:Int)-1=((m-1:Nat):Int):=by lia
  simp only[go_sem,ya,yc,aA,aE fa.pu,t8,t9,t10,t11,em,wrapN (n:=m) (by lia),bV,em1,wrapN (n:=m-1) (by lia)];generalize fP:D P L (.loop _ JG) _=q1;obtain⟨ex,st,rfl,kU,Dr,qs,rfl,rfl,t8,t10,t11,t12,lu1,L2,gu1,gq1,aO,aM⟩:=bN fP (aqH (P:=P) (L:=L) sC (f:=(f:Int)) fa Ff BG (by lia) (show n<a.length+1 by lia) (by lia) (by lia) eS (U0:=dv a*f) m) ⟨m,us,yp m 0,by
   rw[show ((m-1:Nat):Int)=(m:Int)-1 by lia]
   simp only[go_sem,ya,yc,aA,aE fa.pu]<;>rfl,rfl,yu _,lu,by simp,gu,aay m,fun i _=>Y1 m i,by rw[aax,vh,yW,vu],Uy us lu vu⟩
  have oh:∀(hp:Hp) tm (y:X),ai hp 1=Ft (.cells ydh ydh ydi 1 (Dr.map aa))->cP tm (a.length+1) (Ft y)=Ft n->fj hp (.sl 1) (.ap 1 0 (a.length+1)) tm Fu (Ft y)=Ft (.ap 1 0 n):=fun hp tm y h1 h2=>aaN h1 h2 (by lia) (by lia)
  obtain⟨e',LZ⟩:∃e',∀hp:Hp,mF 0 n (Ft (ydi,1,Dr.map aa,hp))=Ft (.au e' n ((Dr.take n).map aa),hp):=by
   refine⟨ydi&&yI 0 1&&ym n (Dr.map aa).length,fun hp=>?_⟩;simp only[mF,yd,yk,slice,yh,<-List.map_take];rw[yt (by simp;lia)]
   rfl
  have ltk:(Dr.take n).length=n:=by rw[yQ];lia
  have iJ:=mN e' (Dr.take n);rw[ltk] at iJ;have⟨r0,f1,lY,ayZ⟩:=CD cM iJ (by lia);have⟨r1,lr,f2,eZ,aD9,awS,dr,nr,vr⟩:=afR qV cM lY (BV (DO gu1 n)) (by have:=M1 (Dr.take n);lia) Fk hfB
  have LY:=mN ydh qs;rw[L2] at LY;have⟨q1,f3,fP,ay0⟩:=CD cM LY (by lia);rw[AE] at vr;unfold ah at f1 f2 f3;refine⟨Dr,qs,⟨lu1,L2,gu1,gq1,aO,aM⟩,q1,r1,lr,fP,eZ,dr,nr,vr,?_⟩;have lm:gS 1 0 (AV.ap 0 0 1)=Ft (.ptr 0 0):=cA 0 0 (show 0<1 by lia)
  simp only[go_sem,ya,yc,aA,t8,t10,t11,t12,oh,ep,LZ,f1,ayZ,lY.aj,lm,f2,awS,fun hp=>il (hp:=hp) (k:=m) (sz:=1) (cs:=qs.map aa) ydh (by simp[L2]) (by decide),f3,ay0];rcases fP with ⟨rfl,_⟩ | ⟨_,rfl⟩<;>rcases eZ with ⟨rfl,_⟩ | ⟨_,rfl⟩<;>rfl
 have⟨us,qs,⟨lu,lq,gu,gq,aO,aM⟩,q1,r1,lr,fP,eZ,dr,nr,vr,e⟩:=jM;rw[Am] at aO aM;have KW:dv qs=dv a/dv b:=by
  rw[<-Nat.mul_div_mul_right _ _ Fk,<-aO,ybQ,xp,tZ (vv zb Fk),xU aM,yW]
 have Qx:dv us=(dv a%dv b)*f:=by
  rw[<-Nat.mul_mod_mul_right,<-aO,ybQ,xp (dv qs),yaa,yF aM]
 have mV:=SC us n (by lia);have gQ:dv (us.drop n)=0:=by
  rcases xq (dv (us.drop n)) with h0 | h0
  .exact h0
  .have:=yY (1000000000^n) h0
   lia
 rw[gQ,xB,yW] at mV;rw[<-mV,Qx,uT _ Fk] at vr;exact⟨q1,r1,_,lr,e,fP,eZ,BV gq,FO _,dr,nr,by rw[AE,KW],vr⟩
def aef(h:Has P L 289 zQ)(lU:Has P L 293 Cz)(pG:Has P L 296 zS)(qV:Has P L 299 CB)(cM:Has P L 300 mE)(sC:Has P L 301 A9)(hv:bn v a)(hw:bn w b)(ha:dg a)(hb:dg b)(na:nz a)(nb:nz b)(la:a.length<=8000000000)(lb:b.length<=8000000000)(h0:0<dv b):
  ∃q r lq lr,ah P L 289 [v,w] (.ax [q,r])/\bn q lq/\bn r lr/\dg lq/\nz lq/\dg lr/\nz lr/\dv lq=dv a/dv b/\dv lr=dv a%dv b:=by
 by_cases hl:b.length<=1
 .exact ayM h pG qV cM hv hw ha hb na nb (by lia) hl h0
 have ec:=VO pG hv hw ha hb na nb (by lia) (by lia);by_cases hc:dv a<dv b
 .unfold ah at ec;have eL:dN (dv a) (dv b)= -1:=by unfold dN;rw[yP hc]
  rw[eL] at ec;refine⟨.af,v,[],a,?_,rT,hv,rfl,rfl,ha,na,?_,?_⟩
  .unfold ah;rw[aJ h];simp only[go_sem,ya,zQ,hv.aj,hw.aj,ec,show (-1:Int)<0 by decide];rcases hv with ⟨rfl,_⟩ | ⟨e,rfl⟩<;>rfl
  .rw [xU hc];rfl
  .rw [yF hc]
 .exact auG h lU qV cM sC hv hw ha hb na nb la (by lia) ec (by lia)
def aeg(h:Has P L 275 O5)(K6:Has P L 289 zQ)(lU:Has P L 293 Cz)(pG:Has P L 296 zS)(qV:Has P L 299 CB)(cM:Has P L 300 mE)(sC:Has P L 301 A9)(hv:bn v a)(hw:bn w b)(ha:dg a)(hb:dg b)(na:nz a)(nb:nz b)(la:a.length<=8000000000)(lb:b.length<=8000000000):
  ∃r l,ah P L 275 [v,w] r/\bn r l/\dg l/\nz l/\dv l=vE (dv a) (dv b):=by
 have key:=ji P L [0,1] JC
  (fun k st=>∃x y lx ly,st=⟨[(0,x),(1,y)],[],0,0⟩/\bn x lx/\bn y ly/\dg lx/\nz lx/\dg ly/\nz ly/\lx.length<=8000000000/\ly.length<=8000000000/\dv ly=k/\vE (dv lx) (dv ly)=vE (dv a) (dv b))
  (fun ex st=>∃tm ct,st=⟨tm,[],ct,0⟩/\ex=.exit 0/\∃x lx,ak tm 0=x/\bn x lx/\dg lx/\nz lx/\dv lx=vE (dv a) (dv b)) ?_
 .unfold ah;rw[aJ h];simp only[go_sem,O5];generalize hq:D P L (.loop _ JC) _=q;obtain⟨ex,st,rfl,tm,ct,rfl,rfl,x,lx,h2,hx,dx,nx,vx⟩:=bN hq (key (dv b)) ⟨v,w,a,b,by simp only[go_sem,ya,aA,aE hv.pu,aE hw.pu]<;>rfl,hv,hw,ha,na,hb,nb,la,lb,rfl,rfl⟩
  refine⟨x,lx,?_,hx,dx,nx,vx⟩;simp only[go_sem,aA,h2,hx.eb,aE hx.pu]
 .rintro k st ⟨x,y,lx,ly,rfl,hx,hy,dx,nx,dy,ny,llx,lly,rfl,hg⟩;by_cases h0:ly=[]
  .right
   subst h0;simp only[go_sem,ya,JC,hy.len,yH,show ¬(0:Int)<((0:Nat):Int) by lia];refine⟨_,_,rfl,by simp,_,_,rfl,rfl,x,lx,rfl,hx,dx,nx,?_⟩;rw[<-hg];simp[dv]
  .left
   have hp:0<dv ly:=by
    rcases xq (dv ly) with e | e
    .exact absurd (abI ny dy e) h0
    .exact e
   have hl:0<ly.length:=ta.2 h0;have⟨q,r,lq,lr,e1,hq,hr,dq,nq,dr,nr,vq,vr⟩:=aef K6 lU pG qV cM sC hx hy dx dy nx ny llx lly hp;have aM:dv lr<dv ly:=by rw[vr];exact xu _ hp
   have hB:=kA dy;simp only[go_sem,ya,JC,hx.aj,hy.len,hy.aj,show (0:Int)<ly.length by lia,e1,hq.bF,hr.bF];refine⟨_,dv lr,rfl,aM,y,r,ly,lr,?_,hy,hr,dy,ny,dr,nr,by lia,xo (jV dr nr (ug aM hB)) lly,rfl,?_⟩
   .simp only [go_sem,ya,aA,aE hy.pu,aE hr.pu]<;>rfl
   .rw [<-hg,vr,tY (dv ly),<-Nat.gcd_rec,tY]
end
end
end VE
end
section
namespace VE
open Go (IntKind)
section
variable {P:aF}{L:Lib}
def auH(Be:Has P L 290 GD){neg:Bool}{N:Nat}(hN:(aB N).length<=180000000000):
  en P L [0,2,3,4] AO (fun k s=>∃(i m:Nat) (out:List Int),m=k/\out.length=i/\dg out/\dv out+1000000000^i*m=N/\(aB m).length+9*i<=180000000000/\
    ((i=0/\s=⟨[(0,.str (aB m)),(2,.ptr 0 0),(3,.bool neg),(4,.af)],[(0,.cells ydh ydh ydh 2 [.bool ydi,.af])],1,0⟩)\/
    (0<i/\s=⟨[(0,.str (aB m)),(2,.ptr 0 0),(3,.bool neg),(4,.ap 1 0 i)],[(1,.cells ydh ydh ydi 1 (out.map aa)),(0,.cells ydh ydh ydh 2 [.bool ydi,.af])],2,0⟩))) (fun ex s'=>∃tm i m out,ex=.exit 0/\m<1000000000/\out.length=i/\dg out/\dv out+1000000000^i*m=N/\i<20000000000/\ak tm 0=.str (aB m)/\ak tm 2=.ptr 0 0/\ak tm 3=.bool neg/\
    ((i=0/\ak tm 4=.af/\s'=⟨tm,[(0,.cells ydh ydh ydh 2 [.bool ydi,.af])],1,0⟩)\/(0<i/\ak tm 4=.ap 1 0 i/\s'=⟨tm,[(1,.cells ydh ydh ydi 1 (out.map aa)),(0,.cells ydh ydh ydh 2 [.bool ydi,.af])],2,0⟩))):=by
 apply eB;rintro k s ⟨i,m,out,rfl,hlen,hd,aO,hl,hs⟩;by_cases hm:1000000000<=m
 .left
  obtain⟨q,hq⟩:∃q,q=m/1000000000:=⟨_,rfl⟩;obtain⟨r,hr⟩:∃r,r=m%1000000000:=⟨_,rfl⟩;have oh:=an4 hm;rw[<-hq,<-hr] at oh;have ns:=Sy 9 r;have hqp:=AF q;have hlm:(aB m).length=(aB q).length+9:=by rw[oh,yJ,ns]
  have c1:jt (aB m) (Ft (aB q).length) (Ft (aB m).length)=Ft (.str (js 9 r)):=by
   rw[mO (by lia) (yu _),xN,oh,tP]
  have c2:jt (aB m) (Ft 0) (Ft (aB q).length)=Ft (.str (aB q)):=by
   rw[mO (by lia) (by lia),yh,oh,tO]
  have e1:=KR Be (s:=js 9 r) (v:=r) (by lia) (by rw[aaK 9 r 0 (by lia)];simp)
  unfold ah at e1;have GP:dg (out++[(r:Int)]):=iS.2 ⟨hd,mr.2 (by lia)⟩;have aeh:dv (out++[(r:Int)])+1000000000^(i+1)*q=N:=by
   rw[nO,hlen,<-aO,xh];have e:=tg m 1000000000;rw[<-hr,<-hq] at e;rw[<-e];simp only[dv,wJ,xB,yW,xC,xe]
   lia
  have OJ:((aB m).length:Int)-9=((aB q).length:Int):=by lia
  rcases hs with ⟨h0,rfl⟩ | ⟨h0,rfl⟩
  .subst h0;have nk:out=[]:=yK hlen;subst nk
   simp only[go_sem,ya,yc,xn,yB,yo,yk,AO,show (9:Int)<((aB m).length:Int) by lia,OJ,wrapN (n:=(aB q).length) (by lia),fp,fQ,ep,c1,c2,e1,jC];refine⟨_,q,rfl,by lia,1,q,[]++[(r:Int)],rfl,rfl,GP,aeh,by lia,.inr ⟨by lia,?_⟩⟩;rfl
  .simp only [go_sem,ya,yc,yo,yk,AO,show (9:Int)<((aB m).length:Int) by lia,OJ,wrapN (n:=(aB q).length) (by lia),fp,fQ,ep,c1,e1]
   rw[gA (ex:=ydi) (pu:=ydh) (cs:=out.map aa) rfl (by rw[yL,hlen,yk]) (by lia) (by lia) (by decide) rfl]
   simp only[go_sem,ya,yc,fp,fQ,ep,OJ,wrapN (n:=(aB q).length) (by lia),c2];refine⟨_,q,rfl,by lia,i+1,q,out++[(r:Int)],rfl,by simp[hlen],GP,aeh,by lia,.inr ⟨by lia,?_⟩⟩;rw[xA];simp only[go_sem,ya,yc,aA]<;>rfl
 .right
  have h9:(aB m).length<=9:=zo (k:=8) (by lia);have hp0:=AF m;rcases hs with ⟨h0,rfl⟩ | ⟨h0,rfl⟩
  .simp only [go_sem,AO,show ¬(9:Int)<((aB m).length:Int) by lia];exact⟨_,_,rfl,by simp,_,i,m,out,rfl,by lia,hlen,hd,aO,by lia,rfl,rfl,rfl,.inl ⟨h0,rfl,rfl⟩⟩
  .simp only [go_sem,AO,show ¬(9:Int)<((aB m).length:Int) by lia];exact⟨_,_,rfl,by simp,_,i,m,out,rfl,by lia,hlen,hd,aO,by lia,rfl,rfl,rfl,.inr ⟨h0,rfl,rfl⟩⟩
end
end VE
end
section
namespace VE
open Go (IntKind)
section
variable {P:aF}{L:Lib}
def af5(h:Rb P L){n:Int}(hn:(aB n.natAbs).length<=180000000000):∃r,ah P L 288 [.str (aZ n)] r/\lB r n:=by
 obtain⟨u,hu⟩:∃u,u=aB n.natAbs:=⟨_,rfl⟩;have⟨b,t,hb,eE,cT⟩:=M4 n.natAbs;have hs:aZ n=(if n<0 then [45] else [])++u:=by rw[hu,rR]
 have Dd:0<u.length:=by rw[hu];exact AF _
 have sW:u[0]=b:=by
  have:u=b::t:=by rw[hu,hb]
  simp[this]
 have key:∀(s:St),br [0,2,3,4] s=⟨[(0,.str u),(2,.ptr 0 0),(3,.bool (decide (n<0))),(4,.af)],[(0,.cells ydh ydh ydh 2 [.bool ydi,.af])],1,0⟩->
   ∃ex s',D P L (.loop [0,2,3,4] AO) s=Ft (ex,s')/\∃tm i m out,ex=.exit 0/\m<1000000000/\out.length=i/\dg out/\dv out+1000000000^i*m=n.natAbs/\i<20000000000/\ak tm 0=.str (aB m)/\ak tm 2=.ptr 0 0/\ak tm 3=.bool (decide (n<0))/\
    ((i=0/\ak tm 4=.af/\s'=⟨tm,[(0,.cells ydh ydh ydh 2 [.bool ydi,.af])],1,0⟩)\/(0<i/\ak tm 4=.ap 1 0 i/\s'=⟨tm,[(1,.cells ydh ydh ydi 1 (out.map aa)),(0,.cells ydh ydh ydh 2 [.bool ydi,.af])],2,0⟩)):=fun s hc=>
  auH (P:=P) (L:=L) h.Be (neg:=decide (n<0)) hn n.natAbs s ⟨0,n.natAbs,[],rfl,rfl,rfl,by simp[dv],by lia,.inl ⟨rfl,by rw[hc,hu]⟩⟩
 have fin:∀(i m:Nat) (out:List Int),m<1000000000->out.length=i->dg out->dv out+1000000000^i*m=n.natAbs->i<20000000000->∃w l,bT P L (D P L) 294 [.bool (decide (n<0)),.au ydi (i+1) ((out++[(m:Int)]).map aa)]=Ft (.agg [.bool (decide (n<0)),w])/\bn w l/\dg l/\nz l/\dv l=n.natAbs:=fun i m out h1 h2 h3 h4 h5=>by
  have hv:=mN ydi (out++[(m:Int)]);have hd:dg (out++[(m:Int)]):=iS.2 ⟨h3,mr.2 (by lia)⟩;have aO:dv (out++[(m:Int)])=n.natAbs:=by rw[nO,h2];simp[dv];exact h4
  have⟨r,e,hr⟩:=Bf h.j0 h.cM (decide (n<0)) hv hd (by simp;lia)
  have Ho:cw (decide (n<0)) (dv (out++[(m:Int)]))=n:=by
   rw[aO];unfold cw;by_cases h0:n<0
   .simp only [h0,yX,xQ];lia
   .simp only [h0,xb,yC,xy];lia
  rw[Ho] at hr;obtain⟨w,l,rfl,hw,jy,kh,dE⟩:=hr;simp only[yJ,List.length_singleton,h2] at e;exact⟨w,l,e,hw,jy,kh,dE⟩
 unfold ah;rw[hs];by_cases h0:n<0
 .rw [yP h0,aJ h.afZ];have jO:jt (45::u) (Ft 1) (Ft (u.length+1))=Ft (.str u):=by rw[mO (s:=45::u) (l:=1) (h:=u.length+1) (by lia) (by simp)];simp
  simp only[h0,yX] at key fin ⊢;simp only[go_sem,ya,yc,O7,aV,show (0:Int)<((u.length+1:Nat):Int) by lia,yx,yM,GK,yX,fp,fQ,ep,jO];generalize hq:D P L (.loop _ AO) _=q;obtain⟨ex,s,rfl,tm,i,m,out,rfl,hm,hlen,hd,aO,hi,t0,t2,t3,Kh⟩:=bN hq key (by simp only[go_sem,ya,yc,aA]<;>rfl)
  have e1:=KR h.Be (s:=aB m) (v:=m) (by have:=zo (k:=8) (n:=m) (by lia);lia) (BT m)
  have eD:i<20000000000:=hi;have⟨w,l,e2,hw,jy,kh,dE⟩:=fin i m out hm hlen hd aO eD;refine⟨_,?_,w,l,rfl,hw,jy,kh,dE⟩;unfold ah at e1;rcases Kh with ⟨An,t4,rfl⟩ | ⟨An,t4,rfl⟩
  .subst An;have nk:out=[]:=yK hlen;subst nk;have iJ:∀hp:Hp,mF 0 1 (Ft (ydi,1,[AV.int .i64 (m:Int)],hp))=Ft (.au ydi 1 [AV.int .i64 (m:Int)],hp):=fun hp=>rfl
   simp only[yM,yZ,vj,yd] at e2;simp only[go_sem,ya,yc,xn,yB,yo,yk,aA,t0,t2,t3,t4,e1,jC,iJ,e2,bC,hw.pu,hw.one,iz];rcases hw with ⟨rfl,_⟩ | ⟨e,rfl⟩<;>simp only[h0,yX]<;>rfl
  .simp only [go_sem,ya,yc,yo,yk,aA,t0,t2,t3,t4,e1]
   rw[gA (ex:=ydi) (pu:=ydh) (cs:=out.map aa) rfl (by rw[yL,hlen,yk]) (by lia) (by lia) (by decide) rfl];have iJ:∀hp:Hp,mF 0 (i+1) (Ft (ydi,1,out.map aa++[AV.int .i64 (m:Int)],hp))=Ft (.au ydi (i+1) (out.map aa++[AV.int .i64 (m:Int)]),hp):=fun hp=>il ydi (by simp[hlen]) (by decide)
   simp only[xA,yZ,vj] at e2;simp only[go_sem,ya,yc,iJ,e2,bC,hw.pu,hw.one,iz,uz];rcases hw with ⟨rfl,_⟩ | ⟨e,rfl⟩<;>simp only[h0,yX]<;>rfl
 .rw [yz h0,aJ h.afZ,yM];simp only[h0,xb] at key fin ⊢;simp only[go_sem,ya,yc,O7,aV,show (0:Int)<(u.length:Int) by lia,rV Dd,sW,show ¬((b:Nat):Int)=45 by lia];generalize hq:D P L (.loop _ AO) _=q;obtain⟨ex,s,rfl,tm,i,m,out,rfl,hm,hlen,hd,aO,hi,t0,t2,t3,Kh⟩:=bN hq key (by simp only[go_sem,ya,yc,aA]<;>rfl)
  have e1:=KR h.Be (s:=aB m) (v:=m) (by have:=zo (k:=8) (n:=m) (by lia);lia) (BT m)
  have eD:i<20000000000:=hi;have⟨w,l,e2,hw,jy,kh,dE⟩:=fin i m out hm hlen hd aO eD;refine⟨_,?_,w,l,rfl,hw,jy,kh,dE⟩;rcases Kh with ⟨An,t4,rfl⟩ | ⟨An,t4,rfl⟩
  .subst An;have nk:out=[]:=yK hlen;subst nk;have iJ:∀hp:Hp,mF 0 1 (Ft (ydi,1,[AV.int .i64 (m:Int)],hp))=Ft (.au ydi 1 [AV.int .i64 (m:Int)],hp):=fun hp=>rfl
   simp only[yM,yZ,vj,yd] at e2;simp only[go_sem,ya,yc,xn,yB,yo,yk,aA,t0,t2,t3,t4,e1,jC,iJ,e2,bC,hw.pu,hw.one,iz];rcases hw with ⟨rfl,_⟩ | ⟨e,rfl⟩<;>simp only[h0,xb]<;>rfl
  .simp only [go_sem,ya,yc,yo,yk,aA,t0,t2,t3,t4,e1]
   rw[gA (ex:=ydi) (pu:=ydh) (cs:=out.map aa) rfl (by rw[yL,hlen,yk]) (by lia) (by lia) (by decide) rfl];have iJ:∀hp:Hp,mF 0 (i+1) (Ft (ydi,1,out.map aa++[AV.int .i64 (m:Int)],hp))=Ft (.au ydi (i+1) (out.map aa++[AV.int .i64 (m:Int)]),hp):=fun hp=>il ydi (by simp[hlen]) (by decide)
   simp only[xA,yZ,vj] at e2;simp only[go_sem,ya,yc,iJ,e2,bC,hw.pu,hw.one,iz,uz];rcases hw with ⟨rfl,_⟩ | ⟨e,rfl⟩<;>simp only[h0,xb]<;>rfl
end
end VE
end
section
namespace VE
open Go (IntKind)
def Re(n:Int)(r:List Nat):dG (aZ n++r)=(aZ n).length+dG r:=by
 rw[<-rR]
 split
 .simp only [yx,yM,dG,yy];rw[yz (by decide),IK r (AA _)]
  lia
 .rw [yM];exact IK r (AA _)
def aaY:∀{a b:List Nat},dh a b=ydh->a=b
 | [],[],_=>rfl
 | [],_::_,h=>by simp[dh] at h
 | _::_,[],h=>by simp[dh] at h
 | x::a,y::b,h=>by
  simp only[dh,ye] at h;rw[yf h.1,aaY h.2]
section
variable {P:aF}{L:Lib}
def auI(h:Rb P L):∃r,ah P L 281 [aa 1] r/\lB r 1:=by
 have⟨r,e,hr⟩:=Bf h.j0 h.cM ydi (mN ydi [(1:Int)]) (by decide) (by decide);obtain⟨w,l,rfl,hw,hd,hz,hv⟩:=hr;refine⟨_,?_,w,l,rfl,hw,hd,hz,hv⟩;simp only[yZ,vj,yy,yH,yd] at e;have iJ:∀hp:Hp,mF 0 1 (Ft (ydi,1,[AV.int .i64 1],hp))=Ft (.au ydi 1 [AV.int .i64 1],hp):=fun hp=>rfl
 unfold ah at e ⊢;rw[aJ h.ayV];simp only[go_sem,ya,yc,xn,yB,yo,yk,U6,aV,Int.reduceLT,xb,N3,aA,acs,Int.reduceEq,wH,xO,yX,fE _ _ _ (show (1000000000:Int)≠0 by decide),fW _ _ _ (show (1000000000:Int)≠0 by decide),show Int.tmod 1 1000000000=1 from rfl,show Int.tdiv 1 1000000000=0 from rfl,show IntKind.wrap .i64 0=0 from rfl,jC,iJ,e,hw.pu,hw.one,bC,iz];rcases hw with ⟨rfl,_⟩ | ⟨e,rfl⟩<;>rfl
def af6(h:Rb P L){n:Int}{d:Nat}(hn:(aB n.natAbs).length<=144000000000)(hd:(aB d).length<=144000000000):
  ∃x y,ah P L 274 [.str (TT n d)] (.ax [x,y])/\lB x n/\lB y d:=by
 have⟨x,e1,hx⟩:=af5 h (n:=n) (by lia);have hli:(aZ n).length<=(aB n.natAbs).length+1:=by rw[<-rR];split<;>simp
 by_cases h1:d=1
 .subst h1;have⟨y,e2,hy⟩:=auI h;have hT:TT n 1=aZ n:=by unfold TT;simp
  have hs:=Re n [];rw[wq] at hs;have e3:=KQ h.EF (s:=aZ n) (by lia);rw[hs] at e3;refine⟨x,y,?_,hx,hy⟩;obtain⟨xw,xl,rfl,fc,_,_,_⟩:=hx;obtain⟨yw,yl,rfl,fe,_,_,_⟩:=hy;rw[hT];unfold ah at e1 e2 e3 ⊢;rw[aJ h.afW];simp only[go_sem,ya,yc,O4,aV,e3,dG,yW,yX,e1,e2,bC,fc.pu,fc.one,fe.pu,fe.one,iz];rcases fc with ⟨rfl,_⟩ | ⟨e,rfl⟩<;>rcases fe with ⟨rfl,_⟩ | ⟨e',rfl⟩<;>rfl
 .have ⟨y,e2,hy⟩:=af5 h (n:=(d:Int)) (by simp;lia)
  rw[zp] at e2;obtain⟨s,Fg⟩:∃s,s=TT n d:=⟨_,rfl⟩;have hT:s=aZ n++47::aB d:=by rw[Fg];unfold TT;rw[yz h1]
  have hs:dG s=(aZ n).length:=by rw[hT,Re];rfl
  have hlen:s.length=(aZ n).length+(aB d).length+1:=by rw[hT];simp;lia
  have e3:=KQ h.EF (s:=s) (by lia);rw[hs] at e3;have c1:jt s (Ft 0) (Ft (aZ n).length)=Ft (.str (aZ n)):=by
   rw[mO (by lia) (by lia),yh,hT,tO]
  have c2:jt s (Ft ((aZ n).length+1)) (Ft s.length)=Ft (.str (aB d)):=by
   rw[mO (by lia) (yu _),xN,hT,show aZ n++47::aB d=(aZ n++[47])++aB d by simp,show (aZ n).length+1=(aZ n++[47]).length by simp,tP]
  refine⟨x,y,?_,hx,hy⟩;obtain⟨xw,xl,rfl,fc,_,_,_⟩:=hx;obtain⟨yw,yl,rfl,fe,_,_,_⟩:=hy;rw[<-Fg];unfold ah at e1 e2 e3 ⊢;rw[aJ h.afW]
  simp only[go_sem,ya,yc,O4,aV,e3,show ¬((aZ n).length:Int)=(s.length:Int) by lia,fp,fQ,ep,c1,wrapN (n:=(aZ n).length+1) (by lia),show ((aZ n).length:Int)+1=(((aZ n).length+1:Nat):Int) from rfl,c2,e1,e2,bC,fc.pu,fc.one,fe.pu,fe.one,iz];rcases fc with ⟨rfl,_⟩ | ⟨e,rfl⟩<;>rcases fe with ⟨rfl,_⟩ | ⟨e',rfl⟩<;>rfl
end
end VE
end
section
namespace VE
open Go (IntKind)
section
variable {d n:Int}{a b:List Int}
def JV(a b:AV)(r:List AV):gI 2 ydh (a::b::r)=Ft (.agg [a,b]):=rfl
def aqK(k:Nat):2^k<=1000000000^k:=ue (by decide) k
def Bd.r{k:Nat}{z:Int}(h:Bd k z):z.natAbs<1000000000^k:=yE h (aqK k)
def aei(r:Rat):RT r=TT r.num r.den:=rfl
def abY(hd:0<d):RT (wX n d)=qR n d:=by
 have⟨h1,h2⟩:=Q3 (a:=n) hd;rw[aql hd,aei,h1]
 congr 1
 exact yap (show ((wX n d).den:Int)=((dD n d).toNat:Int) by rw[h2];have:=I5 (a:=n) hd;unfold dD at this ⊢;lia)
structure Rm(P:aF)(L:Lib):Prop extends Rb P L where
 ay1:Has P L 263 dd
 PG:Has P L 273 EB
 aEa:Has P L 284 ae4
 aEb:Has P L 285 ae5
 aEc:Has P L 286 ae6
 GQ:Has P L 287 KD
 sC:Has P L 301 A9
structure Rp(P:aF)(L:Lib):Prop extends Ras P L,Rm P L
structure Rn(P:aF)(L:Lib):Prop extends Ra P L,Rp P L
section
variable {P:aF}{L:Lib}
def aej(h:Rm P L){v w:AV}(hv:bn v a)(hw:bn w b)(ha:dg a)(hb:dg b)(na:nz a)(nb:nz b)(la:a.length<=8000000000)(lb:b.length<=8000000000)(h0:0<dv b):
  ∃q r lq lr,ah P L 289 [v,w] (.ax [q,r])/\bn q lq/\bn r lr/\dg lq/\nz lq/\dg lr/\nz lr/\dv lq=dv a/dv b/\dv lr=dv a%dv b:=
 aef h.K6 h.lU h.pG h.qV h.cM h.sC hv hw ha hb na nb la lb h0
def auJ(h:Rm P L){x y:AV}{K:Nat}(hK:K<=8000000000)(hx:bn x a)(ha:dg a)(na:nz a)(va:dv a=n.natAbs)(hy:bn y b)(hb:dg b)(nb:nz b)(vb:dv b=d.natAbs)(kn:Bd K n)(kd:Bd K d)(hd:0<d){tm:Env}(t2:ak tm 2=.ptr 0 0)(t3:ak tm 3=.ptr 1 0):
  iF [.t 4] (D P L (aG (aG po.body)) ⟨tm,[(1,.cells ydh ydh ydh 2 [.bool (decide (d<0)),y]),(0,.cells ydh ydh ydh 2 [.bool (decide (n<0)),x])],2,0⟩)=Ft (.str (RT (wX n d))):=by
 rw[abY hd];have la:=xo (jV ha na (by rw[va];exact kn.r)) hK
 have lb:=xo (jV hb nb (by rw[vb];exact kd.r)) hK
 have⟨g,lg,e1,hg,XB,ng,vg⟩:=aeg h.afX h.K6 h.lU h.pG h.qV h.cM h.sC hx hy ha hb na nb la lb;rw[va,vb,show vE n.natAbs d.natAbs=vJ n d from rfl] at vg;have Lv:=NI (a:=n) hd;have ay2:vJ n d<=d.natAbs:=Int.gcd_le_natAbs_right n (by lia);have lg1:lg.length<=8000000000:=xo (jV XB ng (by rw[vg];exact wC ay2 kd.r)) hK
 have⟨p,p',lp,lp',e2,hp,an,dp,np,dp',np',vp,vp'⟩:=aej h hx hg ha XB na ng la lg1 (by lia);have⟨q,q',lq,lq',e3,hq,bG,dq,nq,dq',nq',vq,vq'⟩:=aej h hy hg hb XB nb ng lb lg1 (by lia);rw[va,vg] at vp;rw[vb,vg] at vq;have hrn:(de n d).natAbs=n.natAbs/vJ n d:=by unfold de;rw[uZ (Int.gcd_dvd_left n d)];rfl
 have fS:(dD n d).natAbs=d.natAbs/vJ n d:=by unfold dD;rw[uZ (Int.gcd_dvd_right n d)];rfl
 have hdp:=I5 (a:=n) hd;rw[<-hrn] at vp;rw[<-fS] at vq;have aEd:=atW n d;have Ho:cw (decide (n<0)) (dv lp)=de n d:=by
  rw[vp];unfold cw;by_cases h0:n<0
  .have:¬0<=de n d:=fun h1=>by have:=tQ (tA Lv) h1;lia
   simp only[h0,yX,xQ];lia
  .have:¬de n d<0:=fun h1=>by have:=Int.mul_neg_of_pos_of_neg Lv h1;lia
   simp only[h0,xb,yC,xy];lia
 have kn':Bd K (de n d):=kn.le (aaI n d);have Wf:Bd K (dD n d):=kd.le (aaJ n d);have lp1:lp.length<=8000000000:=xo (jV dp np (by rw[vp];exact kn'.r)) hK
 have L2:lq.length<=8000000000:=xo (jV dq nq (by rw[vq];exact Wf.r)) hK
 have⟨s,e4,hs⟩:=Bf h.j0 h.cM (decide (n<0)) hp dp (by lia);rw[Ho] at hs;have⟨e5,l5⟩:=afV (K:=K) h.afY h.sr (by lia) hs kn'.r;have⟨u,e6,hu⟩:=Bf h.j0 h.cM ydi hq dq (by lia);have BA:cw ydi (dv lq)=dD n d:=by rw[vq];unfold cw;simp only[yC,xy];lia
 rw[BA] at hu;have⟨e7,l7⟩:=afV (K:=K) h.afY h.sr (by lia) hu Wf.r;obtain⟨sw,sl,rfl,mb,_,_,_⟩:=hs;obtain⟨uw,ul,rfl,huw,_,_,_⟩:=hu;have aDJ:0<lq.length:=by
  rcases xq lq.length with e | e
  .rw [yK e] at vq;simp[dv] at vq;lia
  .exact e
 by_cases QE:lq.length=1
 .obtain ⟨z,rfl⟩:∃z,lq=[z]:=by
   cases lq with
   | nil=>simp at QE
   | cons z r=>cases r with
    | nil=>exact⟨z,rfl⟩
    | cons y r=>simp at QE
  have Mc:z=dD n d:=by simp[dv] at vq;lia
  have e8:=hq.bh (i:=0) (by simp);simp only[wz] at e8;by_cases h1:dD n d=1
  .have hT:qR n d=aZ (de n d):=by unfold qR;rw[yP h1]
   rw[hT];simp only[go_sem,ya,po,aG,t2,t3,hx.aj,hy.aj,bj,yd,dI,show ¬d<0 by lia,xb,e1,hg.aj,hg.shut,e2,hp.aj,hp.bF,an.bF,e3,hq.len,hq.bF,bG.bF,e4,mb.aj,cr,bC,e5,yy,yH,show ((1:Nat):Int)=(1:Int) from rfl,yX,e8,Mc,h1]
  .have hT:qR n d=(aZ (de n d)++[47])++aZ (dD n d):=by unfold qR;rw[yz h1]
   rw[hT]
   simp only[go_sem,ya,po,aG,t2,t3,hx.aj,hy.aj,bj,yd,dI,show ¬d<0 by lia,xb,e1,hg.aj,hg.shut,e2,hp.aj,hp.bF,an.bF,e3,hq.len,hq.aj,hq.bF,bG.bF,e4,mb.aj,cr,bC,e5,yy,yH,show ((1:Nat):Int)=(1:Int) from rfl,yX,e8,Mc,h1,ir (a:=aZ (de n d)) (b:=[47]) (by simp;lia),e6,huw.aj,e7,ir (a:=aZ (de n d)++[47]) (b:=aZ (dD n d)) (by simp;lia)]
 .have h1:¬dD n d=1:=fun h1=>QE (by
   have h2:lq.length<=1:=abX dq nq (by rw[vq,h1];decide)
   lia)
  have hT:qR n d=(aZ (de n d)++[47])++aZ (dD n d):=by unfold qR;rw[yz h1]
  rw[hT]
  simp only[go_sem,ya,po,aG,t2,t3,hx.aj,hy.aj,bj,yd,dI,show ¬d<0 by lia,xb,e1,hg.aj,hg.shut,e2,hp.aj,hp.bF,an.bF,e3,hq.len,hq.aj,hq.bF,bG.bF,e4,mb.aj,cr,bC,e5,show ¬(lq.length:Int)=1 by lia,ir (a:=aZ (de n d)) (b:=[47]) (by simp;lia),e6,huw.aj,e7,ir (a:=aZ (de n d)++[47]) (b:=aZ (dD n d)) (by simp;lia)]
def ajQ(n d:Int):wX (-n) (-d)=wX n d:=by rw[Rat.divInt_neg',yau]
def aek(h:Rm P L){v w:AV}{K:Nat}(hK:K<=8000000000)(hv:lB v n)(hw:lB w d)(kn:Bd K n)(kd:Bd K d)(hd:d≠0):ah P L 280 [v,w] (.str (RT (wX n d))):=by
 have fin:∀{x y:AV} {a b:List Int} {n' d':Int},bn x a->dg a->nz a->dv a=n'.natAbs->bn y b->dg b->nz b->dv b=d'.natAbs->Bd K n'->Bd K d'->0<d'->wX n' d'=wX n d->∀tm,ak tm 2=.ptr 0 0->ak tm 3=.ptr 1 0->
   D P L (.seq (bM po.body) (bM (aG po.body))) ⟨[(0,v),(1,w)],[],0,0⟩=Ft (.normal,⟨tm,[(1,.cells ydh ydh ydh 2 [.bool (decide (d'<0)),y]),(0,.cells ydh ydh ydh 2 [.bool (decide (n'<0)),x])],2,0⟩)->ah P L 280 [v,w] (.str (RT (wX n d))):=fun {x y a b n' d'} hx ha na va hy hb nb vb kn kd hd hq tm t2 t3 e=>by
  unfold ah;rw[aJ h.ayU];show iF [.t 4] (D P L (.seq (bM po.body) (.seq (bM (aG po.body)) (aG (aG po.body)))) ⟨[(0,v),(1,w)],[],0,0⟩)=_
  rw[FF,e,lJ,<-hq];exact auJ h hK hx ha na va hy hb nb vb kn kd hd t2 t3
 have fa:=hv;have Xl:=hw;obtain⟨x,a,rfl,hx,ha,na,va⟩:=hv;obtain⟨y,b,rfl,hy,hb,nb,vb⟩:=hw;by_cases h0:d<0
 .have ⟨r,e1,hr⟩:=afz (K:=K) h.af0 h.j0 h.cM (by lia) fa kn.r;have⟨s,e2,hs⟩:=afz (K:=K) h.af0 h.j0 h.cM (by lia) Xl kd.r;obtain⟨x',a',rfl,rF,EX,na',va'⟩:=hr;obtain⟨y',b',rfl,Me,bH,nb',vb'⟩:=hs;simp only[h0,yX] at e2
  refine fin rF EX na' va' Me bH nb' vb' kn.neg kd.neg (by lia) (ajQ n d) _ ?_ ?_ (by
   simp only[go_sem,ya,yc,po,bM,aG,aV,hx.pu,hx.aj,hx.one,hy.pu,hy.aj,hy.one,rF.pu,rF.one,Me.pu,Me.one,bj,yd,h0,yX,JV,cr,e1,e2,bC,iz]<;>rfl)<;>simp only[go_sem,ya]
 .refine fin hx ha na va hy hb nb vb kn kd (by lia) rfl _ ?_ ?_ (by simp only[go_sem,ya,yc,po,bM,aG,aV,hx.pu,hx.one,hy.pu,hy.one,bj,yd,h0,xb]<;>rfl)<;>simp only[go_sem,ya]
end
end
end VE
end
section
namespace VE
open Go (IntKind)
section
variable {P:aF}{L:Lib}
def JW{K:Nat}{a:Rat}(h:Hq K a):(RT a).length<=2*K+3:=by
 have h1:=IW h.1;have h2:=IW h.2;rw[zp] at h2;unfold RT
 grind
def abZ{K:Nat}{z:Int}(h:Bd K z):(aB z.natAbs).length<=K+1:=by
 have:=IW (z:=(z.natAbs:Int)) (k:=K) (by unfold Bd at h ⊢;lia)
 rwa[zp] at this
def OB(h:Rm P L){a:Rat}{K:Nat}(ka:Hq K a)(hK:K<=8000000000):∃x y,ah P L 274 [.str (RT a)] (.ax [x,y])/\lB x a.num/\lB y (a.den:Int):=by
 have h1:=abZ ka.1;have h2:=abZ ka.2
 exact af6 h.toRb (n:=a.num) (d:=a.den) (by lia) (by simpa using (by lia:(aB ((a.den:Int)).natAbs).length<=144000000000))
end
end VE
end
section
namespace VE
open Go (IntKind)
def ab0(n:Int)(d:Nat):TJ ydh n d=.ax [aa n,aa d,.bool ydh]:=rfl
def Ki{a b:Int}(ha:a.natAbs<1000000000)(hb:b.natAbs<1000000000):(a*b).natAbs<1000000000000000000:=by
 rw[Int.natAbs_mul];exact yE (yao ha hb) (by decide)
section
variable {P:aF}{L:Lib}
def ael(h:Rm P L){a b:Int}(ha: -4000000000000000000<=a/\a<=4000000000000000000)(hb:0<b/\b<=4000000000000000000):ah P L 277 [aa a,aa b] (.str (RT (wX a b))):=by
 rw[abY hb.1];exact ax4 h.ayT h.Vj h.sr ha hb
def OC(h:Rp P L){a:Rat}{K:Nat}(ka:Hq K a)(hK:K<=8000000000):∃q:Bool,ah P L 276 [.str (RT a)] (TJ q a.num a.den)/\(q=ydh->a.num.natAbs<1000000000/\a.den<1000000000):=
 ax5 h.ayW h.EF h.Be (n:=a.num) (d:=a.den) (by have:=JW ka;rw[aei] at this;lia)
def awT(h:Rn P L){a b:Rat}{K M:Nat}(ka:Hq K a)(kb:Hq M b)(hK:K+M<=8000000000):ah P L 267 [.str (RT a),.str (RT b)] (.str (RT (a*b))):=by
 have⟨q1,e1,b1⟩:=OC h.toRp ka (by lia);have⟨q2,e2,b2⟩:=OC h.toRp kb (by lia);have ay3:=Fw a b;by_cases hq:(q1=ydh/\q2=ydh)
 .obtain ⟨rfl,rfl⟩:=hq;have⟨b11,b12⟩:=b1 rfl;have⟨b21,b22⟩:=b2 rfl;have p1:=Ki b11 b21;have p2:=Ki (a:=(a.den:Int)) (b:=(b.den:Int)) (by lia) (by lia);have e3:=ael h.toRm (a:=a.num*b.num) (b:=(a.den:Int)*b.den) (by lia) (by lia);rw[<-mul_eq] at e3;rw[ab0] at e1 e2;unfold ah at e1 e2 e3 ⊢;rw[aJ h.af2]
  simp only[go_sem,ya,KA,e1,e2,wrap64 (n:=a.num*b.num) (by lia) (by lia),wrap64 (n:=(a.den:Int)*(b.den:Int)) (by lia) (by lia),e3]
 .have bG:∃n1 d1 n2 d2,bT P L (D P L) 276 [.str (RT a)]=Ft (.ax [aa n1,aa d1,.bool q1])/\bT P L (D P L) 276 [.str (RT b)]=Ft (.ax [aa n2,aa d2,.bool q2]):=by
   cases q1<;>cases q2<;>exact⟨_,_,_,_,e1,e2⟩
  have⟨n1,d1,n2,d2,e1,e2⟩:=bG;have⟨x,y,e3,hx,hy⟩:=OB h.toRm ka (by lia);have⟨z,w,e4,hz,hw⟩:=OB h.toRm kb (by lia);have GR:max K M<=8000000000:=by lia
  have⟨r,e5,hr⟩:=K5 (K:=max K M) h.K7 h.lU h.j0 h.cM GR hx hz (ka.1.mono (by lia)).r (kb.1.mono (by lia)).r;have⟨s,e6,hs⟩:=K5 (K:=max K M) h.K7 h.lU h.j0 h.cM GR hy hw (ka.2.mono (by lia)).r (kb.2.mono (by lia)).r;have e7:=aek h.toRm hK hr hs (ka.1.mul kb.1) (ka.2.mul kb.2) (by lia);rw[<-mul_eq] at e7;obtain⟨xw,xl,rfl,fc,_,_,_⟩:=hx;obtain⟨yw,yl,rfl,fe,_,_,_⟩:=hy;obtain⟨zw,zl,rfl,pZ,_,_,_⟩:=hz;obtain⟨ww,wl,rfl,p6,_,_,_⟩:=hw;obtain⟨cx,rl,rfl,oC,_,_,_⟩:=hr;obtain⟨sw,sl,rfl,mb,_,_,_⟩:=hs;have hb:¬(q1=ydh/\q2=ydh):=hq;unfold ah at e3 e4 e5 e6 e7 ⊢;rw[aJ h.af2]
  cases q1 with
  | false=>
   simp only[go_sem,ya,yc,KA,aV,e1,e2,e3,e4,fc.pu,fc.aj,fc.one,fe.pu,fe.aj,fe.one,pZ.pu,pZ.aj,pZ.one,p6.pu,p6.aj,p6.one,oC.aj,mb.aj,cr,bC,DH,iz,JV,e5,e6,e7]
  | true=>
   cases q2 with
   | true=>exact absurd ⟨rfl,rfl⟩ hb
   | false=>
    simp only[go_sem,ya,yc,KA,aV,e1,e2,e3,e4,fc.pu,fc.aj,fc.one,fe.pu,fe.aj,fe.one,pZ.pu,pZ.aj,pZ.one,p6.pu,p6.aj,p6.one,oC.aj,mb.aj,cr,bC,DH,iz,JV,e5,e6,e7]
def awU(h:Rp P L){a b:Rat}{K M:Nat}(ka:Hq K a)(kb:Hq M b)(hK:K+M+1<=8000000000):ah P L 264 [.str (RT a),.str (RT b)] (.str (RT (a+b))):=by
 have⟨q1,e1,b1⟩:=OC h ka (by lia);have⟨q2,e2,b2⟩:=OC h kb (by lia);have ay3:=Fw a b;by_cases hq:(q1=ydh/\q2=ydh)
 .obtain ⟨rfl,rfl⟩:=hq;have⟨b11,b12⟩:=b1 rfl;have⟨b21,b22⟩:=b2 rfl;have p1:=Ki (a:=a.num) (b:=(b.den:Int)) (by lia) (by lia);have p2:=Ki (a:=b.num) (b:=(a.den:Int)) (by lia) (by lia);have p3:=Ki (a:=(a.den:Int)) (b:=(b.den:Int)) (by lia) (by lia);have e3:=ael h.toRm (a:=a.num*b.den+b.num*a.den) (b:=(a.den:Int)*b.den) (by lia) (by lia);rw[<-add_eq] at e3;rw[ab0] at e1 e2;unfold ah at e1 e2 e3 ⊢;rw[aJ h.af1]
  simp only[go_sem,ya,Kz,e1,e2,wrap64 (n:=a.num*(b.den:Int)) (by lia) (by lia),wrap64 (n:=b.num*(a.den:Int)) (by lia) (by lia),wrap64 (n:=a.num*(b.den:Int)+b.num*(a.den:Int)) (by lia) (by lia),wrap64 (n:=(a.den:Int)*(b.den:Int)) (by lia) (by lia),e3]
 .have bG:∃n1 d1 n2 d2,bT P L (D P L) 276 [.str (RT a)]=Ft (.ax [aa n1,aa d1,.bool q1])/\bT P L (D P L) 276 [.str (RT b)]=Ft (.ax [aa n2,aa d2,.bool q2]):=by
   cases q1<;>cases q2<;>exact⟨_,_,_,_,e1,e2⟩
  have⟨n1,d1,n2,d2,e1,e2⟩:=bG;have⟨x,y,e3,hx,hy⟩:=OB h.toRm ka (by lia);have⟨z,w,e4,hz,hw⟩:=OB h.toRm kb (by lia);have GR:max K M<=8000000000:=by lia
  have⟨r,e5,hr⟩:=K5 (K:=max K M) h.K7 h.lU h.j0 h.cM GR hx hw (ka.1.mono (by lia)).r (kb.2.mono (by lia)).r;have⟨r2,XC,Bw⟩:=K5 (K:=max K M) h.K7 h.lU h.j0 h.cM GR hz hy (kb.1.mono (by lia)).r (ka.2.mono (by lia)).r;have⟨s,e6,hs⟩:=K5 (K:=max K M) h.K7 h.lU h.j0 h.cM GR hy hw (ka.2.mono (by lia)).r (kb.2.mono (by lia)).r;have k1:Bd (K+M) (a.num*b.den):=ka.1.mul kb.2;have k2:Bd (K+M) (b.num*a.den):=(kb.1.mul ka.2).mono (by lia);have⟨t,e8,ht⟩:=ayL (K:=K+M) h.ayX h.VQ h.pG h.PF h.om h.j0 h.cM (by lia) hr Bw k1.r k2.r;have e7:=aek h.toRm hK ht hs (k1.Vx k2) ((ka.2.mul kb.2).mono (by lia)) (by lia);rw[<-add_eq] at e7;obtain⟨xw,xl,rfl,fc,_,_,_⟩:=hx;obtain⟨yw,yl,rfl,fe,_,_,_⟩:=hy;obtain⟨zw,zl,rfl,pZ,_,_,_⟩:=hz;obtain⟨ww,wl,rfl,p6,_,_,_⟩:=hw;obtain⟨cx,rl,rfl,oC,_,_,_⟩:=hr;obtain⟨rw2,rl2,rfl,af7,_,_,_⟩:=Bw
  obtain⟨tw,tl,rfl,htw,_,_,_⟩:=ht;obtain⟨sw,sl,rfl,mb,_,_,_⟩:=hs;have hb:¬(q1=ydh/\q2=ydh):=hq;unfold ah at e3 e4 e5 XC e6 e7 e8 ⊢;rw[aJ h.af1]
  cases q1 with
  | false=>
   simp only[go_sem,ya,yc,Kz,aV,e1,e2,e3,e4,fc.pu,fc.aj,fc.one,fe.pu,fe.aj,fe.one,pZ.pu,pZ.aj,pZ.one,p6.pu,p6.aj,p6.one,oC.aj,af7.aj,htw.aj,mb.aj,cr,bC,DH,iz,JV,e5,XC,e8,e6,e7]
  | true=>
   cases q2 with
   | true=>exact absurd ⟨rfl,rfl⟩ hb
   | false=>
    simp only[go_sem,ya,yc,Kz,aV,e1,e2,e3,e4,fc.pu,fc.aj,fc.one,fe.pu,fe.aj,fe.one,pZ.pu,pZ.aj,pZ.one,p6.pu,p6.aj,p6.one,oC.aj,af7.aj,htw.aj,mb.aj,cr,bC,DH,iz,JV,e5,XC,e8,e6,e7]
end
end VE
end
section
namespace VE
open Go (IntKind)
section
variable {a b s t:List Nat}{k:Nat}
def ZY{P:aF}{L:Lib}(a b c d:VC)(s:St):D P L (.seq a (.seq b (.seq c d))) s=zJ P L (D P L (.seq a (.seq b c)) s) d:=by
 have e:=FF (P:=P) (L:=L) b c d;rw[zK,zK]
 cases D P L a s with
 | none=>rfl
 | some q=>
  have⟨ex,st⟩:=q
  cases ex with
  | normal=>rw[lJ,lJ];exact e st
  | ret=>rfl
  | exit id=>rfl
def qG(h:a≠b):dh a b=ydi:=by
 cases hb:dh a b with
 | false=>rfl
 | true=>exact absurd (aaY hb) h
def aaZ:∀a:List Nat,dh a a=ydh
 | []=>rfl
 | x::a=>by simp[dh,aaZ a]
def acQ(h:a=b):dh a b=ydh:=h▸aaZ a
def amd{i:Nat}(h:i<s.length):fN (s.drop i)=(yA 48 s[i]&&yA s[i] 57&&fN (s.drop (i+1))):=by
 rw[yR h];rfl
section
variable {P:aF}{L:Lib}
def ay4(h:Has P L 287 KD)(hl:s.length<9223372036854775808):ah P L 287 [.str s] (.bool (fN s)):=by
 have key:=ji P L [0,3] D0
  (fun k st=>∃i:Nat,st=⟨[(0,.str s),(3,aa i)],[],0,0⟩/\i+k=s.length/\fN (s.drop i)=fN s)
  (fun ex st=>∃tm ct,st=⟨tm,[],ct,0⟩/\((ex=.ret/\ak tm 2=.bool ydi/\fN s=ydi)\/(ex=.exit 0/\fN s=ydh))) ?_
 .unfold ah;rw[aJ h];simp only[go_sem,KD];generalize hq:D P L (.loop _ D0) _=q;obtain⟨ex,st,rfl,tm,ct,rfl,h2⟩:=bN hq (key s.length) ⟨0,by simp only[go_sem,ya,aA]<;>rfl,by lia,by simp⟩
  rcases h2 with ⟨rfl,h2,h3⟩ | ⟨rfl,h3⟩
  .simp only [go_sem,h2,h3]
  .simp only [go_sem,aA,h3]
 .rintro k st ⟨i,rfl,hk,hs⟩;by_cases hi:i<s.length
  .rw [amd hi] at hs;by_cases h1:s[i]<48
   .right
    have e:yA 48 s[i]=ydi:=by
     cases hb:yA 48 s[i] with
     | false=>rfl
     | true=>have:=yr hb;lia
    rw[e,uP,uP] at hs;simp only[go_sem,ya,D0,show (i:Int)<s.length by lia,rV hi,show ((s[i]:Nat):Int)<48 by lia,yX];exact⟨_,_,rfl,by simp,_,_,rfl,.inl ⟨rfl,rfl,hs.symm⟩⟩
   .by_cases h2:57<s[i]
    .right
     have e:yA s[i] 57=ydi:=by
      cases hb:yA s[i] 57 with
      | false=>rfl
      | true=>have:=yr hb;lia
     rw[e,Bool.and_false,uP] at hs;simp only[go_sem,ya,D0,show (i:Int)<s.length by lia,rV hi,show ¬((s[i]:Nat):Int)<48 by lia,xb,show (57:Int)<((s[i]:Nat):Int) by lia];exact⟨_,_,rfl,by simp,_,_,rfl,.inl ⟨rfl,rfl,hs.symm⟩⟩
    .left
     rw[yt (show 48<=s[i] by lia),yt (show s[i]<=57 by lia),ud,ud] at hs;simp only[go_sem,ya,D0,show (i:Int)<s.length by lia,rV hi,show ¬((s[i]:Nat):Int)<48 by lia,xb,show ¬(57:Int)<((s[i]:Nat):Int) by lia];refine⟨_,k-1,rfl,by lia,i+1,?_,by lia,hs⟩;rw[wrap64 (by lia) (by lia)];simp only[go_sem,ya,aA]<;>rfl
  .right
   simp only[go_sem,ya,D0,show ¬(i:Int)<s.length by lia];refine⟨_,_,rfl,by simp,_,_,rfl,.inr ⟨rfl,?_⟩⟩;rw[<-hs,xf (by lia)];rfl
def PH(h:Has P L 273 EB)(GQ:Has P L 287 KD)(hl:s.length<9223372036854775808):ah P L 273 [.str s] (.bool (j8 s)):=by
 have e:=ay4 GQ hl;unfold ah at e ⊢;rw[aJ h]
 match s,hl,e with
 | [],_,_=>
  simp only[go_sem,ya,EB,yH,show ((0:Nat):Int)=0 from rfl,yX];rfl
 | [b],_,e=>
  have:j8 [b]=fN [b]:=by simp[j8]
  rw[this];simp only[go_sem,ya,EB,yy,yH,yd,show ¬((1:Nat):Int)=0 by decide,show ¬(1:Int)<((1:Nat):Int) by decide,xb,e]
 | b::c::r,hl,e=>
  have hd:j8 (b::c::r)=(fN (b::c::r)&& !(ym b 48)):=by simp[j8]
  rw[hd];have Bx:r.length+2<9223372036854775808:=by simpa using hl
  by_cases hb:b=48
  .subst hb;simp only[go_sem,ya,EB,yy,show ¬((r.length+1+1:Nat):Int)=0 by lia,xb,show (1:Int)<((r.length+1+1:Nat):Int) by lia,show r7 0 (.str (48::c::r))=Ft (.int .u8 48) from rfl,yX]
   simp
  .have:ym b 48=ydi:=jg hb
   rw[this,wH,uz];simp only[go_sem,ya,EB,yy,show ¬((r.length+1+1:Nat):Int)=0 by lia,xb,show (1:Int)<((r.length+1+1:Nat):Int) by lia,show r7 0 (.str (b::c::r))=Ft (.int .u8 (b:Nat)) from rfl,show ¬((b:Nat):Int)=48 by lia,e]
def aoq(h:k<=s.length):jt s (Ft 0) (Ft k)=Ft (.str (s.take k)):=by
 rw[mO (by lia) h,yh]
def aa0(h:k<=s.length):jt s (Ft k) (Ft s.length)=Ft (.str (s.drop k)):=by
 rw[mO h (yu _),xN]
def auK(h:Rm P L)(hk:k=dG t)(hl:t.length<9223372036854775808)(hp:j8 (t.take k)=ydh){tm:Env}(t3:ak tm 3=.str t)(t4:ak tm 4=aa k):
  iF [.t 2] (D P L (aG (aG (aG (aG (aG dd.body))))) ⟨tm,[],0,0⟩)=Ft (aa (
   if k<t.length/\(j8 (t.drop (k+1))=ydi\/t.drop (k+1)=[48]\/t.drop (k+1)=[49]) then 1
   else if 600<k\/600<t.length-k-1 then 4
   else if k<t.length/\vE (lS (t.take k)) (lS (t.drop (k+1)))≠1 then 1
   else 0)):=by
 have hkl:k<=t.length:=by rw[hk];exact R0 t
 have e3:=PH h.PG h.GQ (s:=t.drop (k+1)) (by rw[wD];lia)
 unfold ah at e3;have Ds:(k:Int)+1=((k+1:Nat):Int):=rfl;by_cases hs:k<t.length
 .have c2:=aa0 (s:=t) (k:=k+1) (by lia);have mV:=aja t (by lia);rw[<-hk] at mV;have hlq:(t.drop (k+1)).length=t.length-k-1:=by rw[wD];lia
  have hlp:(t.take k).length=k:=by rw[yQ];lia
  generalize hqe:t.drop (k+1)=q at*
  generalize hpe:t.take k=p at*
  cases hd:j8 q with
  | false=>
   rw[yP ⟨hs,.inl rfl⟩];rw[hd] at e3
   simp only[go_sem,ya,dd,aG,t3,t4,show (k:Int)<(t.length:Int) by lia,yX,Ds,wrapN (n:=k+1) (by lia),fp,fQ,ep,c2,e3,wH]
  | true=>
   rw[hd] at e3;by_cases nE:q=[48]
   .rw [yP ⟨hs,.inr (.inl nE)⟩]
    simp only[go_sem,ya,dd,aG,t3,t4,show (k:Int)<(t.length:Int) by lia,yX,Ds,wrapN (n:=k+1) (by lia),fp,fQ,ep,c2,e3,xO,AJ,acQ nE]
   .by_cases pY:q=[49]
    .rw [yP ⟨hs,.inr (.inr pY)⟩]
     simp only[go_sem,ya,dd,aG,t3,t4,show (k:Int)<(t.length:Int) by lia,yX,Ds,wrapN (n:=k+1) (by lia),fp,fQ,ep,c2,e3,xO,AJ,qG nE,acQ pY]
    .rw [yz (by simp only[hs,true_and,ybo,ycx];exact fun e=>e.elim nE pY)]
     by_cases CU:600<k
     .rw [yP (.inl CU)]
      simp only[go_sem,ya,dd,aG,t3,t4,show (k:Int)<(t.length:Int) by lia,yX,Ds,wrapN (n:=k+1) (by lia),fp,fQ,ep,c2,e3,xO,AJ,qG nE,qG pY,show (600:Int)<(k:Int) by lia]
     .by_cases ay5:600<t.length-k-1
      .rw [yP (.inr ay5)]
       simp only[go_sem,ya,dd,aG,t3,t4,show (k:Int)<(t.length:Int) by lia,yX,Ds,wrapN (n:=k+1) (by lia),fp,fQ,ep,c2,e3,xO,AJ,qG nE,qG pY,show ¬(600:Int)<(k:Int) by lia,xb,show (t.length:Int)-(k:Int)=((t.length-k:Nat):Int) by lia,wrapN (n:=t.length-k) (by lia),show ((t.length-k:Nat):Int)-1=((t.length-k-1:Nat):Int) by lia,wrapN (n:=t.length-k-1) (by lia),show (600:Int)<((t.length-k-1:Nat):Int) by lia]
      .rw [yz (by lia)];have XD:=ZV _ rfl hp;have Mf:=ZV _ rfl hd;have gQ:lS q≠0:=fun e=>nE (by rw[<-Mf,e];rfl)
       have Aj:lS q≠1:=fun e=>pY (by rw[<-Mf,e];rfl)
       generalize lS p=n at*
       generalize lS q=d at*
       have hT:TT (n:Int) d=t:=by
        unfold TT;rw[zp,yz Aj,XD,Mf];exact mV.symm
       have⟨x,y,e4,hx,hy⟩:=af6 h.toRb (n:=(n:Int)) (d:=d) (by rw[vM,XD];lia) (by rw[Mf];lia)
       rw[hT] at e4;obtain⟨xw,xl,rfl,fc,dx,nx,vx⟩:=hx;obtain⟨yw,yl,rfl,fe,dy,ny,vy⟩:=hy;rw[vM] at vx vy;have rz:n<10^p.length:=by rw[<-XD];exact Tb n
       have hdb:d<10^q.length:=by rw[<-Mf];exact Tb d
       obtain⟨K,hK⟩:∃K:Nat,K=600:=⟨_,rfl⟩;have Qq:∀{m j:Nat},m<10^j->j<=K->m<1000000000^K:=fun {m j} h1 h2=>
        yE h1 (xo (xc (by decide) h2) (ue (by decide) K))
       have lxl:=jV dx nx (by rw[vx];exact Qq rz (by lia))
       have lyl:=jV dy ny (by rw[vy];exact Qq hdb (by lia))
       have⟨g,lg,e5,hg,dgg,ngg,vg⟩:=aeg h.afX h.K6 h.lU h.pG h.qV h.cM h.sC fc fe dx dy nx ny (by lia) (by lia);rw[vx,vy] at vg;have Lv:0<vE n d:=Nat.gcd_pos_of_pos_right _ (by lia);unfold ah at e4 e5;by_cases VS:lg.length=1
       .obtain ⟨z,rfl⟩:∃z,lg=[z]:=by
         cases lg with
         | nil=>simp at VS
         | cons z r=>cases r with
          | nil=>exact⟨z,rfl⟩
          | cons y r=>simp at VS
        have gz:=mr.1 dgg;have Mc:z=(vE n d:Nat):=by simp[dv] at vg;lia
        have e8:=hg.bh (i:=0) (by simp);simp only[wz] at e8;by_cases kY:vE n d=1
        .rw [yz (by simp[kY])]
         simp only[go_sem,ya,yc,dd,aG,t3,t4,show (k:Int)<(t.length:Int) by lia,yX,Ds,wrapN (n:=k+1) (by lia),fp,fQ,ep,c2,e3,xO,AJ,qG nE,qG pY,show ¬(600:Int)<(k:Int) by lia,xb,show (t.length:Int)-(k:Int)=((t.length-k:Nat):Int) by lia,wrapN (n:=t.length-k) (by lia),show ((t.length-k:Nat):Int)-1=((t.length-k-1:Nat):Int) by lia,wrapN (n:=t.length-k-1) (by lia),show ¬(600:Int)<((t.length-k-1:Nat):Int) by lia,e4,aV,fc.pu,fc.aj,fc.one,fe.pu,fe.aj,fe.one,iz,bj,yd,dI,e5,hg.len,hg.shut,yy,yH,show ((1:Nat):Int)=(1:Int) from rfl,xO,e8,Mc,kY]
        .rw [yP ⟨hs,kY⟩]
         simp only[go_sem,ya,yc,dd,aG,t3,t4,show (k:Int)<(t.length:Int) by lia,yX,Ds,wrapN (n:=k+1) (by lia),fp,fQ,ep,c2,e3,xO,AJ,qG nE,qG pY,show ¬(600:Int)<(k:Int) by lia,xb,show (t.length:Int)-(k:Int)=((t.length-k:Nat):Int) by lia,wrapN (n:=t.length-k) (by lia),show ((t.length-k:Nat):Int)-1=((t.length-k-1:Nat):Int) by lia,wrapN (n:=t.length-k-1) (by lia),show ¬(600:Int)<((t.length-k-1:Nat):Int) by lia,e4,aV,fc.pu,fc.aj,fc.one,fe.pu,fe.aj,fe.one,iz,bj,yd,dI,e5,hg.len,hg.shut,yy,yH,show ((1:Nat):Int)=(1:Int) from rfl,xO,e8,Mc,show ¬((vE n d:Nat):Int)=1 by lia,wH]
       .have kY:vE n d≠1:=fun e=>VS (by
         have h1:lg.length<=1:=abX dgg ngg (by lia);have h2:0<lg.length:=by
          rcases xq lg.length with h0 | h0
          .rw [yK h0] at vg;simp[dv] at vg;lia
          .exact h0
         lia)
        rw[yP ⟨hs,kY⟩]
        simp only[go_sem,ya,yc,dd,aG,t3,t4,show (k:Int)<(t.length:Int) by lia,yX,Ds,wrapN (n:=k+1) (by lia),fp,fQ,ep,c2,e3,xO,AJ,qG nE,qG pY,show ¬(600:Int)<(k:Int) by lia,xb,show (t.length:Int)-(k:Int)=((t.length-k:Nat):Int) by lia,wrapN (n:=t.length-k) (by lia),show ((t.length-k:Nat):Int)-1=((t.length-k-1:Nat):Int) by lia,wrapN (n:=t.length-k-1) (by lia),show ¬(600:Int)<((t.length-k-1:Nat):Int) by lia,e4,aV,fc.pu,fc.aj,fc.one,fe.pu,fe.aj,fe.one,iz,bj,yd,dI,e5,hg.len,hg.shut,show ¬(lg.length:Int)=1 by lia,wH]
 .have hkt:k=t.length:=by lia
  rw[yz (by lia)];by_cases CU:600<k
  .rw [yP (.inl CU)];simp only[go_sem,ya,dd,aG,t3,t4,show ¬(k:Int)<(t.length:Int) by lia,xb,show (600:Int)<(k:Int) by lia,yX]
  .rw [yz (by lia),yz (by lia)]
   simp only[go_sem,ya,dd,aG,t3,t4,show ¬(k:Int)<(t.length:Int) by lia,xb,show ¬(600:Int)<(k:Int) by lia,show (t.length:Int)-(k:Int)=((t.length-k:Nat):Int) by lia,wrapN (n:=t.length-k) (by lia),show ((t.length-k:Nat):Int)-1= -1 by lia,show IntKind.wrap .i64 (-1)= -1 by rfl,show ¬(600:Int)<(-1:Int) by lia]
def acR(h:Rm P L){b:Nat}{r:List Nat}{neg:Bool}(gF:decide (((b:Nat):Int)=45)=neg)(hl:t.length<9223372036854775808){tm:Env}(t0:ak tm 0=.str (b::r))(t3:ak tm 3=.str t):
  iF [.t 2] (D P L (aG (aG (aG dd.body))) ⟨tm,[],0,0⟩)=Ft (aa (sB neg t)):=by
 obtain⟨k,hk⟩:∃k,k=dG t:=⟨_,rfl⟩;have hkl:k<=t.length:=by rw[hk];exact R0 t
 have e1:=KQ h.EF (s:=t) (by lia);have e2:=PH h.PG h.GQ (s:=t.take k) (by rw[yQ];lia)
 have e3:=PH h.PG h.GQ (s:=t.drop (k+1)) (by rw[wD];lia)
 unfold sB;rw[<-hk] at e1 ⊢;have c1:=aoq hkl;have hI:r7 0 (.str (b::r))=Ft (.int .u8 (b:Nat)):=rfl;unfold ah at e1 e2 e3;generalize hp:t.take k=p at*
 generalize hq:t.drop (k+1)=q at*
 cases hd:j8 p with
 | false=>
  rw[yP (.inl rfl)];rw[hd] at e2;simp only[go_sem,ya,dd,aG,t3,e1,fp,fQ,ep,c1,e2,wH]
 | true=>
  rw[hd] at e2;by_cases hz:neg=ydh/\p=[48]
  .rw [yP (.inr hz)];have⟨z1,z2⟩:=hz;rw[z1] at gF;have hb:=of_decide_eq_true gF;subst z2;simp only[go_sem,ya,dd,aG,t0,t3,e1,fp,fQ,ep,c1,e2,xO,hI,hb,yX,AJ,show dh [48] [48]=ydh from rfl]
  .rw [yz (by simp only[ybo,ycx];exact hz)]
   have fin:∀tm',ak tm' 3=.str t->ak tm' 4=aa k->D P L (.seq (bM (aG (aG (aG dd.body)))) (bM (aG (aG (aG (aG dd.body)))))) ⟨tm,[],0,0⟩=Ft (.normal,⟨tm',[],0,0⟩)->iF [.t 2] (D P L (aG (aG (aG dd.body))) ⟨tm,[],0,0⟩)=Ft (aa (
     if k<t.length/\(j8 q=ydi\/q=[48]\/q=[49]) then 1
     else if 600<k\/600<t.length-k-1 then 4
     else if k<t.length/\vE (lS p) (lS q)≠1 then 1
     else 0)):=fun tm' f3 f4 e=>by
    show iF [.t 2] (D P L (.seq (bM (aG (aG (aG dd.body)))) (.seq (bM (aG (aG (aG (aG dd.body))))) (aG (aG (aG (aG (aG dd.body))))))) ⟨tm,[],0,0⟩)=_
    rw[FF,e,lJ,<-hp,<-hq];exact auK h hk hl (by rw[hp];exact hd) f3 f4
   by_cases hb:((b:Nat):Int)=45
   .have ay6:p≠[48]:=fun e=>hz ⟨by rw[<-gF];exact xT hb,e⟩
    refine fin _ ?_ ?_ (by simp only[go_sem,ya,dd,bM,aG,t0,t3,e1,fp,fQ,ep,c1,e2,xO,hI,hb,yX,AJ,qG ay6]<;>rfl)<;>simp only[go_sem,ya,t3]
   .refine fin _ ?_ ?_ (by simp only[go_sem,ya,dd,bM,aG,t0,t3,e1,fp,fQ,ep,c1,e2,xO,hI,hb,xb]<;>rfl)<;>simp only[go_sem,ya,t3]
def VT(h:Rm P L)(hl:s.length<9223372036854775808):ah P L 263 [.str s] (aa (fT s)):=by
 unfold ah;rw[aJ h.ay1]
 cases s with
 | nil=>
  have e1:=KQ h.EF (s:=[]) (by simp);have e2:=PH h.PG h.GQ (s:=[]) (by simp);unfold ah at e1 e2;have hc:jt [] (Ft 0) (Ft 0)=Ft (.str []):=rfl;simp only[go_sem,ya,dd,yH,show ¬(0:Int)<((0:Nat):Int) by decide,xb,e1,dG,fp,fQ,ep,hc,e2,show j8 []=ydi from rfl,wH];rfl
 | cons b t=>
  have Bx:t.length+1<9223372036854775808:=by simpa using hl
  have hI:r7 0 (.str (b::t))=Ft (.int .u8 (b:Nat)):=rfl;by_cases hb:b=45
  .subst hb;have fin:∀tm',ak tm' 0=.str (45::t)->ak tm' 3=.str t->D P L (.seq (bM dd.body) (.seq (bM (aG dd.body)) (bM (aG (aG dd.body))))) ⟨[(0,.str (45::t))],[],0,0⟩=Ft (.normal,⟨tm',[],0,0⟩)->iF [.t 2] (D P L dd.body ⟨[(0,.str (45::t))],[],0,0⟩)=Ft (aa (fT (45::t))):=fun tm' f0 f3 e=>by
    show iF [.t 2] (D P L (.seq (bM dd.body) (.seq (bM (aG dd.body)) (.seq (bM (aG (aG dd.body))) (aG (aG (aG dd.body)))))) ⟨[(0,.str (45::t))],[],0,0⟩)=_
    rw[ZY,e,lJ]
    exact acR h (b:=45) rfl (by lia) f0 f3
   have hc:jt (45::t) (Ft 1) (Ft (t.length+1))=Ft (.str t):=by
    have:=aa0 (s:=45::t) (k:=1) (by simp)
    simpa using this
   refine fin _ ?_ ?_ (by simp only[go_sem,ya,dd,bM,aG,yy,show (0:Int)<((t.length+1:Nat):Int) by lia,yX,GK,fp,fQ,ep,hc]<;>rfl)<;>simp only[go_sem,ya]
  .have fin:∀tm',ak tm' 0=.str (b::t)->ak tm' 3=.str (b::t)->D P L (.seq (bM dd.body) (.seq (bM (aG dd.body)) (bM (aG (aG dd.body))))) ⟨[(0,.str (b::t))],[],0,0⟩=Ft (.normal,⟨tm',[],0,0⟩)->iF [.t 2] (D P L dd.body ⟨[(0,.str (b::t))],[],0,0⟩)=Ft (aa (fT (b::t))):=fun tm' f0 f3 e=>by
    show iF [.t 2] (D P L (.seq (bM dd.body) (.seq (bM (aG dd.body)) (.seq (bM (aG (aG dd.body))) (aG (aG (aG dd.body)))))) ⟨[(0,.str (b::t))],[],0,0⟩)=_
    rw[ZY,e,lJ]
    have:=acR h (b:=b) (neg:=ydi) (xv (by lia)) (by simpa using hl) f0 f3
    rw[this];simp only[fT,yz hb]
   refine fin _ ?_ ?_ (by simp only[go_sem,ya,dd,bM,aG,yy,show (0:Int)<((t.length+1:Nat):Int) by lia,yX,hI,show ¬((b:Nat):Int)=45 by lia]<;>rfl)<;>simp only[go_sem,ya]
end
end
end VE
end
section
namespace VE
open Go (IntKind)
def kj(v:AV)(l:List (List Nat)):Prop:=cp v (l.map AV.str)
section
variable {v:AV}{l:List (List Nat)}
def kj.len(h:kj v l){hp:Hp}:fX hp 1 v=Ft (.int .i64 (l.length:Nat)):=by
 have:=cp.len (hp:=hp) h
 grind
def kj.pu(h:kj v l):aW v=ydh:=cp.pu h
def kj.aj(h:kj v l)(n:Nat){hp:Hp}:freeze (n+1) hp v=Ft (v,hp):=cp.aj h n
def kj.bF(h:kj v l):VE.bF v=v:=cp.bF h
def kj.bh(h:kj v l){i:Nat}(hi:i<l.length):gS 1 i v=Ft (.bq (.str l[i]::(l.map AV.str).drop (i+1))):=by
 have:=cp.bh h (i:=i) (by simpa using hi)
 grind
def aqL(e:Bool)(l:List (List Nat)):kj (.au e l.length (l.map AV.str)) l:=by
 have:=Jg e (l.map AV.str)
 rwa[yL] at this
end
section
variable {P:aF}{L:Lib}
def ame{l:List (List Nat)}{i:Nat}(h:i<l.length):cD ((l.drop i).map fT)=if fT l[i]=0 then cD ((l.drop (i+1)).map fT) else fT l[i]:=by
 rw[yR h];rfl
def awV(h:Rm P L)(VU:Has P L 261 O3){v:AV}{l:List (List Nat)}(hv:kj v l)(hl:l.length<=1000000)(hs:∀s,s∈l->s.length<9223372036854775808):ah P L 261 [v] (aa (cD (l.map fT))):=by
 have key:=ji P L [0,3] F8
  (fun k st=>∃i:Nat,st=⟨[(0,v),(3,aa i)],[],0,0⟩/\i+k=l.length/\cD ((l.drop i).map fT)=cD (l.map fT))
  (fun ex st=>∃tm ct,st=⟨tm,[],ct,0⟩/\((ex=.ret/\ak tm 2=aa (cD (l.map fT)))\/(ex=.exit 0/\cD (l.map fT)=0))) ?_
 .unfold ah;rw[aJ VU];simp only[go_sem,O3];generalize hq:D P L (.loop _ F8) _=q;obtain⟨ex,st,rfl,tm,ct,rfl,h2⟩:=bN hq (key l.length) ⟨0,by simp only[go_sem,ya,aA,aE hv.pu]<;>rfl,by lia,by simp⟩
  rcases h2 with ⟨rfl,h2⟩ | ⟨rfl,h3⟩
  .simp only [go_sem,h2]
  .simp only [go_sem,aA,h3]
 .rintro k st ⟨i,rfl,hk,hd⟩;by_cases hi:i<l.length
  .rw [ame hi] at hd;have e1:=VT h (hs l[i] (xk hi));have ev:=hv.bh hi;unfold ah at e1;by_cases h1:fT l[i]=0
   .left
    rw[yP h1] at hd;rw[h1] at e1;simp only[go_sem,ya,F8,hv.len,show (i:Int)<l.length by lia,ev,e1,yX,xO];refine⟨_,k-1,rfl,by lia,i+1,?_,by lia,hd⟩;rw[wrap64 (by lia) (by lia)];simp only[go_sem,ya,aA,aE hv.pu]<;>rfl
   .right
    rw[yz h1] at hd;simp only[go_sem,ya,F8,hv.len,show (i:Int)<l.length by lia,ev,e1,h1,xb,wH];refine⟨_,_,rfl,by simp,_,_,rfl,.inl ⟨rfl,?_⟩⟩;rw[<-hd];simp only[go_sem]
  .right
   simp only[go_sem,ya,F8,hv.len,show ¬(i:Int)<l.length by lia];refine⟨_,_,rfl,by simp,_,_,rfl,.inr ⟨rfl,?_⟩⟩;rw[<-hd,xf (by lia)];rfl
end
end VE
end
section
namespace VE
open Go (IntKind)
instance (k:Nat) (z:Int):Decidable (Bd k z):=inferInstanceAs (Decidable (z.natAbs<2^k))
def ay7:RT 1=[49]:=by decide
def af8:Hq 2 0:=⟨by decide,by decide⟩
end VE
end
section
namespace VE
open Go (IntKind)
def Yr(q:Rat):q.num<0↔q<0:=by
 have h:=@ycg q
 grind
def aqM(a b:Rat):eF (a-b).num=PB a b:=by
 unfold eF PB;by_cases h1:a<b
 .rw [yP ((Yr _).2 (by grind)),yP h1]
 .rw [yz (fun e=>h1 (by have:=(Yr _).1 e;grind)),yz h1]
  by_cases h2:a=b
  .subst h2;rw[yP (by rw[Rat.sub_self];rfl),yP rfl]
  .rw [yz (fun e=>h2 (by have:=Rat.num_eq_zero.1 e;grind)),yz h2]
def aDC(hs h:Rat):Bool:=decide (hs=0)||decide (h<hs)
end VE
end
section
namespace VE
open Go (IntKind)
section
variable {s1 s2 s3 s4:Int}{w1 w2 w3 w4:AV}{l1 l2 l3 l4:List Nat}
def NP{tm:Env}{a b c d x y z w:AV}{x' y' z' w':AV}{r:List (Nat×Nat×X)}(h1:cL a=ydh)(h2:cL b=ydh)(h3:cL c=ydh)(h4:cL d=ydh):kP tm [x',y',z',w',x,y,z,w] 0 4 [a,b,c,d] r=fill tm [a,b,c,d,x,y,z,w] r:=by
 rw[B3 (by rfl) (by simp) (by simp[bS,h1,h2,h3,h4])];rfl
def NQ{tm:Env}{a b c d x y z w:AV}{x' y' z' w':AV}{r:List (Nat×Nat×X)}(h1:cL a=ydh)(h2:cL b=ydh)(h3:cL c=ydh)(h4:cL d=ydh):kP tm [x,y,z,w,x',y',z',w'] 4 4 [a,b,c,d] r=fill tm [x,y,z,w,a,b,c,d] r:=by
 rw[B3 (by rfl) (by simp) (by simp[bS,h1,h2,h3,h4])];rfl
def kN(a b c d:AV)(r:List AV):gI 4 ydh (a::b::c::d::r)=Ft (.agg [a,b,c,d]):=rfl
end
end VE
end
section
namespace VE
open Go (IntKind)
structure F4(c1 c2 c3 c4:AV):Prop where
 aj:∀(n:Nat) (hp:Hp),freeze (n+20) hp (.agg [c1,c2,c3,c4])=Ft (.agg [c1,c2,c3,c4],hp)
 eb:∀hp:Hp,result hp (.agg [c1,c2,c3,c4])=Ft (.agg [c1,c2,c3,c4])
 st:∀(hp:Hp) (ct id:Nat) (a b c d:AV),gm hp ct id 0 4 [c1,c2,c3,c4] (Ft (.cells ydh ydh ydh 4 [a,b,c,d]))=Ft (.ax [],aU hp id (.cells ydh ydh ydh 4 [c1,c2,c3,c4]),ct)
 bx:∀ct:Nat,Bb ct 4 [c1,c2,c3,c4]=Ft (.ptr ct 0,.cells ydh ydh ydh 4 [c1,c2,c3,c4])
 o1:cL c1=ydh
 o2:cL c2=ydh
 o3:cL c3=ydh
 o4:cL c4=ydh
 pu:aW (.agg [c1,c2,c3,c4])=ydh
 z1:∀(n:Nat) (hp:Hp),freeze (n+1) hp c1=Ft (c1,hp)
 z2:∀(n:Nat) (hp:Hp),freeze (n+1) hp c2=Ft (c2,hp)
 z3:∀(n:Nat) (hp:Hp),freeze (n+1) hp c3=Ft (c3,hp)
 z4:∀(n:Nat) (hp:Hp),freeze (n+1) hp c4=Ft (c4,hp)
def cg.gen{v:AV}{a:Rat}(h:cg v a):∃c1 c2 c3 c4,v=.agg [c1,c2,c3,c4]/\F4 c1 c2 c3 c4:=by
 obtain⟨s1,w1,s2,w2,rfl,h1,h2⟩:=h;have⟨l1,u1⟩:=h1.aS;have⟨l2,u2⟩:=h2.aS;refine⟨_,_,_,_,rfl,fun n hp=>?_,lO u1 u2,fun hp ct id a b c d=>lM u1 u2 hp ct id a b c d,fun ct=>by simp only[go_sem,yc,aV,u1.pu,u1.one,u2.pu,u2.one],rfl,u1.one,rfl,u2.one,by simp[aW,aD,u1.pu,u2.pu],fun _ _=>rfl,fun n _=>u1.aj n,fun _ _=>rfl,fun n _=>u2.aj n⟩;exact cr _ _ (by simp only[go_sem,u1.aj,u2.aj])
def aqN{a b:Int}:cD [a,b]=0↔a=0/\b=0:=by
 simp only[cD]
 grind
def aqO{a b c:Int}:cD [a,b,c]=0↔a=0/\b=0/\c=0:=by
 simp only[cD];by_cases h:a=0<;>by_cases h2:b=0<;>by_cases h3:c=0<;>simp[h,h2,h3]
end VE
end
section
namespace VE
open Go (IntKind)
def awW(n k:Nat)(h:n<k)(h0:k≠0):Hq k ((2:Rat)^n):=by
 refine⟨?_,?_⟩
 .rw [ycX];unfold Bd;show ((2:Int)^n).natAbs<_
  rw[Int.natAbs_pow];exact vC (by decide) h
 .rw [ycY];unfold Bd;show (((1:Nat)^n:Nat):Int).natAbs<_
  rw[Nat.one_pow];exact uU h0
def aa1(k:Nat){z:Int}(h:Bd k z)(h0:k≠0):Hq k ((z:Int):Rat):=⟨by rw[uI];exact h,by rw[uJ];exact uU h0⟩
def aem(k j:Nat){s:Bool}{M:Nat}(h:M<2^j)(hj:j<=k):Bd k (bX s M):=by
 unfold Bd bX
 have:(if s=ydh then -(M:Int) else (M:Int)).natAbs=M:=by split<;>omega
 rw[this];exact yE h (xc (by decide) hj)
def nF(s:Bool)(M:Nat):Rat:=((bX s M:Int):Rat)*p2 (-149)
section
variable {P:aF}{L:Lib}
def af9(h:Fr' P L)(su:Has P L 155 EA)(GS:Has P L 241 Ky){v:AV}{a:Rat}{K k:Nat}(hv:cg v a)(ka:Hq K a)(hK:K*k+1<=30000000000)(hk:k<9223372036854775808):∃r,ah P L 241 [v,aa k] r/\cg r (a^k):=by
 obtain⟨s1,w1,s2,w2,rfl,h1,h2⟩:=hv;obtain⟨l1,u1⟩:=h1.aS;obtain⟨l2,u2⟩:=h2.aS;obtain⟨n,e1,hn⟩:=VB h.toNu su ⟨s1,w1,rfl,h1⟩ ka.1 hK hk;obtain⟨d,e2,hd⟩:=VB h.toNu su ⟨s2,w2,rfl,h2⟩ ka.2 hK hk;obtain⟨s3,w3,rfl,h3⟩:=hn;obtain⟨s4,w4,rfl,h4⟩:=hd;obtain⟨l3,u3⟩:=h3.aS;obtain⟨l4,u4⟩:=h4.aS;refine⟨.agg [aa s3,w3,aa s4,w4],?_,s3,w3,s4,w4,rfl,by rw[ycX];exact h3,by rw[ycY,Int.natCast_pow];exact h4⟩
 unfold ah at e1 e2;unfold ah;rw[aJ GS];simp only[go_sem,ya,yc,Ky,aV,u1.pu,u1.aj,u1.one,u2.pu,u2.aj,u2.one,u3.one,u4.one,bj,yd,AX,Gp,cr,e1,e2,bC,FR,FT,lM u3 u4,c9,db,yh,iX,lO u3 u4]
def acS:Hq 2 (2:Rat):=⟨by unfold Bd;decide,by unfold Bd;decide⟩
def ay8(h:Fr' P L)(su:Has P L 155 EA)(GS:Has P L 241 Ky)(PI:Has P L 228 Kw){k:Int}(hk: -100000<=k/\k<=100000):∃r,ah P L 228 [aa k] r/\cg r (p2 k):=by
 obtain⟨t,e1,ht⟩:=Hs h (z:=2) (by decide) (by decide);have ht:cg t (2:Rat):=ht;have un:=zq;obtain⟨t1,t2,t3,t4,rfl,ft⟩:=ht.gen;by_cases c:k<0
 .obtain ⟨n,hn⟩:∃n:Nat,k= -(n:Int):=⟨k.natAbs,by omega⟩;obtain⟨q,e2,hq⟩:=af9 h su GS ht acS (k:=n) (by omega) (by omega);have kq:Hq 100001 ((2:Rat)^n):=awW n 100001 (by omega) (by decide);have h0:(2:Rat)^n≠0:=by
   have:=ad9 n
   rwa[show p2 n=(2:Rat)^n from tp _ _] at this
  obtain⟨r,e3,hr⟩:=m73 h hq h0 kq (by decide);obtain⟨q1,q2,q3,q4,rfl,fq⟩:=hq.gen;have hp:((2:Rat)^n)⁻¹=p2 k:=by
   rw[hn];unfold p2;rw[ycJ,tp]
  rw[hp] at hr;have bA:=hr;obtain⟨s1,w1,s2,w2,rfl,k1,k2⟩:=hr;obtain⟨l1,u1⟩:=k1.aS;obtain⟨l2,u2⟩:=k2.aS;refine⟨_,?_,bA⟩;have wn:IntKind.wrap .i64 (0-k)=(n:Int):=by rw[wrap64 (by omega) (by omega)];omega
  unfold ah at e1 e2 e3;unfold ah;rw[aJ PI];simp only[go_sem,ya,yc,Kw,aV,c,yX,e1,ft.aj,wn,e2,fq.aj,e3,bC,lM u1 u2,c9,db,yh,iX,lO u1 u2]
 .obtain ⟨n,hn⟩:∃n:Nat,k=(n:Int):=⟨k.natAbs,by omega⟩;subst hn;obtain⟨r,e2,hr⟩:=af9 h su GS ht acS (k:=n) (by omega) (by omega);have hp:(2:Rat)^n=p2 n:=(tp _ _).symm;rw[hp] at hr;have bA:=hr;obtain⟨s1,w1,s2,w2,rfl,k1,k2⟩:=hr;obtain⟨l1,u1⟩:=k1.aS;obtain⟨l2,u2⟩:=k2.aS;refine⟨_,?_,bA⟩;unfold ah at e1 e2;unfold ah;rw[aJ PI];simp only[go_sem,ya,yc,Kw,aV,c,xb,e1,ft.aj,e2,bC,lM u1 u2,c9,db,yh,iX,lO u1 u2]
end
end VE
end
section
namespace VE
open Go (IntKind)
section
variable {s:Bool}{M:Nat}
def FH(b:Nat):refs (.ao .f32 b)=[]:=rfl
def FU(f:Nat->Option Nat)(b:Nat):bm f (.ao .f32 b)=.ao .f32 b:=rfl
def zx(n:Nat)(hp:Hp)(b:Nat):freeze (n+1) hp (.ao .f32 b)=Ft (.ao .f32 b,hp):=rfl
structure Fx(P:aF)(L:Lib):Prop extends Fr' P L where
 su:Has P L 155 EA
 PI:Has P L 228 Kw
 ay9:Has P L 232 nh
 GS:Has P L 241 Ky
def rH:Hp:=[(0,.cells ydh ydh ydh 4 [.int .i64 0,.af,.int .i64 0,.af])]
section
variable {P:aF}{L:Lib}
def auL(hM:M<2^277):
  en P L [0,2,3] JA (fun d st=>∃(b:Nat) (N:Nat) (k:Nat),d=N/\Fl b s N/\N*2^k=M/\(M=0->k=0)/\st=⟨[(0,.ao .f32 b),(2,.ptr 0 0),(3,aa k)],rH,1,0⟩) (fun ex s'=>∃tm ct b N,∃k:Nat,s'=⟨tm,rH,ct,0⟩/\ex=.exit 0/\Fl b s N/\N*2^k=M/\N<2^173/\k<277/\ak tm 0=.ao .f32 b/\ak tm 2=.ptr 0 0/\ak tm 3=aa k):=by
 apply eB;rintro d st ⟨b,N,k,hd,hN,hq,hz,rfl⟩;have hk:k<277:=by
  by_cases h0:M=0
  .rw [hz h0];decide
  .have N0:0<N:=by
    rcases xq N with q | q
    .rw [q,vh] at hq;exact absurd hq.symm h0
    .exact q
   have h1:2^k<=N*2^k:=yaT _ N0;exact ayI k 277 (wC (by rw[hq] at h1;exact h1) hM)
 obtain⟨a,e1,ha⟩:=awL hN;have e2:=awJ ha awM;have hc:(bX ydi (2^173)<=bX ydi N)↔2^173<=N:=Int.ofNat_le;unfold rH;by_cases c:2^173<=N
 .left
  obtain⟨b',e3,bH⟩:=auv hN (hN.even c);have C6:=hN.even c;rw[xT (hc.2 c)] at e2;have wk:IntKind.wrap .i64 ((k:Int)+1)=((k+1:Nat):Int):=wrap64 (by omega) (by omega);simp only[go_sem,ya,JA,aec,D6,e1,e2,e3,wk];have iZ:0<2^k:=xi _;have L5:M≠0:=fun q=>by
   rw[q] at hq
   have:=vv (show 0<N by omega) iZ
   omega
  refine⟨_,N/2,rfl,by omega,b',N/2,k+1,rfl,bH,by rw[xh,xp (2^k),<-xe,show N/2*2=N by omega,hq],fun q=>absurd q L5,?_⟩;simp only[go_sem,ya,yc,aA,FH,FU]<;>rfl
 .right
  rw[xv (fun q=>c (hc.1 q))] at e2;simp only[go_sem,ya,JA,aec,D6,e1,e2];exact⟨_,_,rfl,by simp,_,_,b,N,k,rfl,rfl,hN,hq,by omega,hk,by simp only[go_sem,ya],by simp only[go_sem,ya],by simp only[go_sem,ya]⟩
def auM:
  en P L [0,2,3] JB (fun d st=>∃(b:Nat) (N:Nat) (j:Nat) (k:Int),d+j=149/\Fl b s N/\2^j∣N/\N<2^173/\(N:Rat)*p2 k=(M:Rat)/\-149<=k+j/\k+j<=277/\st=⟨[(0,.ao .f32 b),(2,.ptr 0 0),(3,aa k)],rH,1,0⟩) (fun ex s'=>∃tm ct b N,∃k:Int,s'=⟨tm,rH,ct,0⟩/\ex=.exit 2/\Fl b s N/\N%2^149=0/\N<2^173/\(N:Rat)*p2 k=(M:Rat)/\-298<=k/\k<=277/\ak tm 0=.ao .f32 b/\ak tm 2=.ptr 0 0/\ak tm 3=aa k):=by
 apply eB;rintro d st ⟨b,N,j,k,hd,hN,hj,aM,hq,k1,k2,rfl⟩;have EL:N<2^200:=ug aM (by decide);have e1:=abW hN EL;have hn:N/2^149<2^24:=by rw[xK (xi _),<-xD];exact aM
 have ha:(bX s (N/2^149)).natAbs=N/2^149:=by unfold bX;split<;>omega
 obtain⟨c,e2,hc⟩:=aqw (n:=bX s (N/2^149)) (by omega);rw[ha] at hc;have e3:=awK hN hc;have fD:=xz N (2^149);have hw:(bX s N=bX (decide (bX s (N/2^149)<0)) (N/2^149*2^149))↔N%2^149=0:=by
  have hX0:N/2^149=0->N/2^149*2^149=0:=fun h=>by rw[h,vh]
  generalize hQ:N/2^149=q at*
  generalize hR:N%2^149=r at*
  rw[xp] at fD;generalize q*2^149=X at*
  unfold bX
  cases s with
  | false=>
   have:decide ((if ydi=ydh then -(q:Int) else (q:Int))<0)=ydi:=xv (by simp)
   rw[this];simp;omega
  | true=>
   rw[yP rfl,yP rfl];by_cases q0:q=0
   .have hX:=hX0 q0
    have:decide (-(q:Int)<0)=ydi:=xv (by omega)
    rw[this,yz (by decide)];omega
   .have:decide (-(q:Int)<0)=ydh:=xT (by omega)
    rw[this,yP rfl];omega
 unfold rH;by_cases w:N%2^149=0
 .right
  rw[xT (hw.2 w)] at e3;simp only[go_sem,ya,JB,e1,e2,e3,xO];have aDK:j<=149:=by omega
  exact⟨_,_,rfl,by simp,_,_,b,N,k,rfl,rfl,hN,w,aM,hq,by omega,by omega,by simp only[go_sem,ya],by simp only[go_sem,ya],by simp only[go_sem,ya]⟩
 .left
  rw[xv (fun q=>w (hw.1 q))] at e3;have aEe:N<2^172:=by
   by_cases q:N<2^172
   .exact q
   .exact absurd (hN.whole (by omega)) w
  obtain⟨b',e4,bH⟩:=auu hN (ug aM (ayH 173 276 (by decide)));have PX:j<149:=by
   rcases Nat.lt_or_ge j 149 with q | q
   .exact q
   .have:j=149:=by omega
    subst this;exact absurd (Nat.mod_eq_zero_of_dvd hj) w
  have wk:IntKind.wrap .i64 (k-1)=k-1:=wrap64 (by omega) (by omega);simp only[go_sem,ya,JB,e1,e2,e3,wH,e4,wk];refine⟨_,d-1,rfl,by omega,b',2*N,j+1,k-1,by omega,bH,by rw[xh,xp (2^j)];exact Nat.mul_dvd_mul_left 2 hj,by omega,?_,by omega,by omega,?_⟩
  .rw [<-hq,xV]
   have:p2 k=p2 1*p2 (k-1):=by rw[<-mW,show 1+(k-1)=k by omega]
   rw[this,GO];show (2:Rat)*(N:Rat)*p2 (k-1)=(N:Rat)*(2*p2 (k-1))
   grind
  .simp only [go_sem,ya,yc,aA,FH,FU]<;>rfl
def auN{N:Nat}{k:Int}(h:(N:Rat)*p2 k=(M:Rat))(hw:N%2^149=0):((bX s (N/2^149):Int):Rat)*p2 k=nF s M:=by
 have e:N=N/2^149*2^149:=by have:=xz N (2^149);omega
 have h1:((N/2^149:Nat):Rat)*p2 149=(N:Rat):=by
  conv=>rhs;rw[e,xV,<-mv]
  rfl
 generalize N/2^149=n at h1;have h2:((n:Nat):Rat)*p2 k=(M:Rat)*p2 (-149):=by
  rw[<-h,<-h1]
  have:p2 149*p2 (-149)=1:=by rw[<-mW];exact K4
  have h3:(n:Rat)*p2 149*p2 k*p2 (-149)=(n:Rat)*p2 k*(p2 149*p2 (-149)):=by grind
  rw[h3,this,vZ]
 unfold nF bX;have c1:(((n:Nat):Int):Rat)=(n:Rat):=rfl;have c2:(((M:Nat):Int):Rat)=(M:Rat):=rfl
 cases s with
 | true=>rw[yP rfl,yP rfl,tF,tF,c1,c2];grind
 | false=>rw[yz (by decide),yz (by decide),c1,c2];exact h2
def aen(k:Int):Hq (k.natAbs+2) (p2 k):=by
 by_cases c:0<=k
 .obtain ⟨n,rfl⟩:∃n:Nat,k=n:=⟨k.natAbs,by omega⟩;rw[show p2 (n:Int)=((2^n:Nat):Int) from mv n];exact⟨by rw[uI];unfold Bd;rw[vM];exact vC (by decide) (by omega),by rw[uJ];unfold Bd;exact uU (by omega)⟩
 .obtain ⟨n,rfl⟩:∃n:Nat,k= -(n:Int):=⟨k.natAbs,by omega⟩
  have:p2 (-(n:Int))=(p2 n)⁻¹:=by unfold p2;rw[ycJ]
  rw[this];refine Hq.inv ?_;rw[show p2 (n:Int)=((2^n:Nat):Int) from mv n];exact⟨by rw[uI];unfold Bd;rw[vM];exact vC (by decide) (by omega),by rw[uJ];unfold Bd;exact uU (by omega)⟩
def aga(k:Int)(hk:k.natAbs<=900):Hq 1001 (p2 k):=(aen k).mono (by omega)
def aza(h:Fx P L){b:Nat}(hb:Fl b s M):∃r,ah P L 232 [.ao .f32 b] r/\cg r (nF s M):=by
 have key:∀(b' N:Nat) (k:Int) (tm:Env) (ct:Nat),Fl b' s N->N%2^149=0->N<2^173->(N:Rat)*p2 k=(M:Rat)-> -298<=k->k<=277->ak tm 0=.ao .f32 b'->ak tm 2=.ptr 0 0->ak tm 3=aa k->∃r,iF nh.eb (D P L (AY 3 nh.body) ⟨[(0,.ao .f32 b'),(2,.ptr 0 0),(3,aa k)],rH,1,0⟩)=Ft r/\cg r (nF s M):=by
  intro b' N k tm ct hN hw aM hq k1 k2 _ _ _;have e1:=abW hN (ug aM (by decide));have hn:N/2^149<2^24:=by rw[xK (xi _),<-xD];exact aM
  have ha:(bX s (N/2^149)).natAbs=N/2^149:=by unfold bX;split<;>omega
  have hx:=auN (s:=s) hq hw;generalize bX s (N/2^149)=z at*
  obtain⟨u,e2,hu⟩:=Hs h.toFr' (z:=z) (by omega) (by omega);obtain⟨v,e3,hv⟩:=ay8 h.toFr' h.su h.GS h.PI (k:=k) (by omega);have ku:Hq 25 ((z:Int):Rat):=⟨by rw[uI];unfold Bd;omega,by rw[uJ];unfold Bd;decide⟩
  obtain⟨r,e4,hr⟩:=QB h.toFr' hu hv (ku.mono (show 25<=1001 by decide)) (aga k (by omega)) (by decide);rw[hx] at hr;have bA:=hr;obtain⟨u1,u2,u3,u4,rfl,fu⟩:=hu.gen;obtain⟨v1,v2,v3,v4,rfl,fv'⟩:=hv.gen;obtain⟨r1,r2,r3,r4,rfl,fr⟩:=hr.gen;refine⟨_,?_,bA⟩;unfold ah at e2 e3 e4;unfold rH;simp only[go_sem,ya,nh,AY,aG,e1,e2,fu.aj,e3,fv'.aj,e4,fr.eb,fr.st,bC,c9,db,yh,iX]
 have l1:=auL (P:=P) (L:=L) (s:=s) hb.lt M;unfold ah;rw[aJ h.ay9];have cut:nh.body=.seq (bM nh.body) (.seq (bM (AY 0 nh.body)) (.seq (bM (AY 1 nh.body)) (.seq (bM (AY 2 nh.body)) (AY 3 nh.body)))):=rfl;show ∃r,iF nh.eb (D P L nh.body _)=Ft r/\_
 rw[cut];generalize AY 3 nh.body=T at key ⊢;simp only[go_sem,yc,nh,AY,aG,bM,aV];generalize hq:D P L (.loop _ JA) _=q;obtain⟨ex,st,rfl,tm,ct,b',N,k,rfl,rfl,hN,hNk,aM,hk,t0,t2,t3⟩:=bN hq l1 ⟨b,M,0,rfl,hb,by rw[uG,yk],fun _=>rfl,by unfold rH;simp only[go_sem,ya,yc,aA,FH,FU]<;>rfl⟩
 unfold rH;simp only[go_sem,yc,aA,t0,t2,t3,FH,FU];generalize hq:D P L (.loop _ JB) _=q;have l2:=auM (P:=P) (L:=L) (s:=s) (M:=M) 149;obtain⟨ex,st,rfl,tm,ct,b2,N2,k2,rfl,rfl,hN2,hw,EL,Df,k3,k4,u0,u2,u3⟩:=bN hq l2 ⟨b',N,0,k,rfl,hN,by rw[uG];exact Nat.one_dvd N,aM,by rw[<-hNk,xV,mv],by omega,by omega,by unfold rH;simp only[go_sem,ya,yc,aA,FH,FU]<;>rfl⟩
 unfold rH;simp only[go_sem,yc,aA,u0,u2,u3,FH,FU];exact key b2 N2 k2 tm ct hN2 hw EL Df k3 k4 u0 u2 u3
end
end
end VE
end
section
namespace VE
open Go (IntKind)
section
variable {a b c d:AV}{cs:List AV}{l:List Rat}{x:Rat}
def QL:List AV->List Rat->Prop
 | [],[]=>True
 | a::b::c::d::r,x::l=>cg (.agg [a,b,c,d]) x/\QL r l
 | _,_=>False
def QL.nil:QL [] []:=trivial
def QL.cons{r:List AV}(h1:cg (.agg [a,b,c,d]) x)(h2:QL r l):QL (a::b::c::d::r) (x::l):=⟨h1,h2⟩
def QL.inv(h:QL cs (x::l)):∃a b c d r,cs=a::b::c::d::r/\cg (.agg [a,b,c,d]) x/\QL r l:=by
 match cs,h with
 | a::b::c::d::r,h=>exact⟨a,b,c,d,r,rfl,h.1,h.2⟩
def QL.agb(h:QL cs []):cs=[]:=by
 match cs,h with
 | [],_=>rfl
 | [_],h=>exact h.elim
 | [_,_],h=>exact h.elim
 | [_,_,_],h=>exact h.elim
 | _::_::_::_::_,h=>exact h.elim
def QL.len:∀{l:List Rat} {cs:List AV},QL cs l->cs.length=l.length*4
 | [],_,h=>by rw[h.agb];rfl
 | x::l,cs,h=>by
  obtain⟨a,b,c,d,r,rfl,_,h2⟩:=h.inv
  have:=h2.len
  grind
def F4.XE{c1 c2 c3 c4:AV}(g:F4 c1 c2 c3 c4):aW c1=ydh/\aW c2=ydh/\aW c3=ydh/\aW c4=ydh:=by
 have:=g.pu
 simpa only[aW,aD,uz,ye] using this
def cg.f4(h:cg (.agg [a,b,c,d]) x):F4 a b c d:=by
 have⟨_,_,_,_,e,g⟩:=h.gen
 grind
def QL.cQ:∀{l m:List Rat} {cs ds:List AV},QL cs l->QL ds m->QL (cs++ds) (l++m)
 | [],m,cs,ds,h,k=>by rw[h.agb];exact k
 | x::l,m,cs,ds,h,k=>by
  obtain⟨a,b,c,d,r,rfl,h1,h2⟩:=h.inv;exact⟨h1,h2.cQ k⟩
def QL.snoc(h:QL cs l)(k:cg (.agg [a,b,c,d]) x):QL (cs++[a,b,c,d]) (l++[x]):=h.cQ ⟨k,trivial⟩
def QL.get:∀{l:List Rat} {cs:List AV} {i:Nat},QL cs l->∀(hi:i<l.length),∃a b c d r,cs.drop (i*4)=a::b::c::d::r/\cg (.agg [a,b,c,d]) l[i]
 | [],_,i,_,hi=>absurd hi (tB i)
 | x::l,cs,0,h,hi=>by
  obtain⟨a,b,c,d,r,rfl,h1,_⟩:=h.inv
  grind
 | x::l,cs,i+1,h,hi=>by
  obtain⟨a,b,c,d,r,rfl,_,h2⟩:=h.inv;have⟨a',b',c',d',r',e,k⟩:=h2.get (i:=i) (by simpa using hi)
  grind
def mG(v:AV)(l:List Rat):Prop:=(v=.af/\l=[])\/∃e cs,v=.au e l.length cs/\QL cs l
section
variable {v:AV}{l:List Rat}{hp:Hp}
def mG.len(h:mG v l){hp:Hp}:fX hp 1 v=Ft (.int .i64 (l.length:Nat)):=by
 rcases h with ⟨rfl,rfl⟩ | ⟨e,cs,rfl,h⟩<;>rfl
def mG.pu(h:mG v l):aW v=ydh:=by
 rcases h with ⟨rfl,rfl⟩ | ⟨e,cs,rfl,h⟩<;>rfl
def mG.aj(h:mG v l)(n:Nat){hp:Hp}:freeze (n+1) hp v=Ft (v,hp):=by
 rcases h with ⟨rfl,rfl⟩ | ⟨e,cs,rfl,h⟩<;>rfl
def mG.bh(h:mG v l){i:Nat}(hi:i<l.length):∃a b c d r,gS 4 i v=Ft (.bq (a::b::c::d::r))/\cg (.agg [a,b,c,d]) l[i]:=by
 rcases h with ⟨rfl,rfl⟩ | ⟨e,cs,rfl,h⟩
 .grind
 .have ⟨a,b,c,d,r,e1,e2⟩:=h.get hi;refine⟨a,b,c,d,r,?_,e2⟩;rw[NF e _ hi,e1]
def SD(e:Bool)(h:QL cs l):mG (.au e l.length cs) l:=.inr ⟨e,cs,rfl,h⟩
end
def PJ(hp:Hp)(cs:List AV):fL hp 4 ydh (.bq cs)=gI 4 ydh cs:=rfl
def pH(s:Rat)(l:List Rat):Rat:=l.foldl (·+·) s
def amf{s:Rat}{i:Nat}(h:i<l.length):pH s (l.take (i+1))=pH s (l.take i)+l[i]:=by
 rw[xa h];simp only[pH,List.foldl_append,List.foldl_cons,List.foldl_nil]
def acT{K:Nat}:∀{l:List Rat} {s:Rat} {M:Nat},Hq M s->(∀x,x∈l->Hq K x)->Hq (M+l.length*(K+1)) (pH s l)
 | [],s,M,hs,_=>by simpa[pH] using hs
 | x::l,s,M,hs,hl=>by
  have:=acT (l:=l) (hs.add (hl x wI)) (fun y hy=>hl y (xL _ hy))
  refine Hq.mono (m:=M+(x::l).length*(K+1)) this ?_;simp only[yy,xP];lia
def aqP{K M:Nat}{s:Rat}(hs:Hq M s)(hl:∀x,x∈l->Hq K x)(i:Nat):Hq (M+l.length*(K+1)) (pH s (l.take i)):=
 (acT hs (fun x hx=>hl x (List.mem_of_mem_take hx))).mono (by rw[yQ];have:=yU (K+1) (Nat.min_le_right i l.length);lia)
end
end VE
end
section
namespace VE
open Go (IntKind)
section
variable {K:Nat}{r:Rat}
def FI{a b:Nat}(h:aB a=aB b):a=b:=by
 have h1:=BT a;rw[h,BT b] at h1
 grind
def ab1:∀(k n:Nat),n<k->n≠0->∃b r,aB n=b::r/\b≠48
 | 0,n,h,_=>absurd h (tB n)
 | k+1,n,h,h0=>by
  by_cases h1:n<10
  .exact ⟨48+n,[],oQ h1,by lia⟩
  .have ⟨b,r,e,hb⟩:=ab1 k (n/10) (by lia) (by lia);exact⟨b,r++[48+n%10],by rw[p9 (by lia),e];rfl,hb⟩
def aa2(n:Nat):j8 (aB n)=ydh:=by
 unfold j8;rw[AA,ud];by_cases h0:n=0
 .subst h0;decide
 .have ⟨b,r,e,hb⟩:=ab1 (n+1) n (by lia) h0;rw[e]
  have:ym b 48=ydi:=by
   cases hq:ym b 48 with
   | false=>rfl
   | true=>exact absurd (yf hq) hb
  simp[this]
def aa3(n:Nat):lS (aB n)=n:=by unfold lS;rw[BT];rfl
def No{z:Int}(h:¬z<0):aZ z=aB z.natAbs:=by
 obtain⟨m,rfl⟩:∃m:Nat,z=m:=⟨z.toNat,by lia⟩;rw[zp,vM]
def OD(r:Rat):RT r=aZ r.num++jK r.den:=rfl
def aa4(r:Rat):dG (RT r)=(aZ r.num).length:=by rw[OD,Re,Rx];rfl
def auO(h1:(aB r.num.natAbs).length<=600)(h2:(aB r.den).length<=600):fT (RT r)=0:=by
 have key:∀neg:Bool,(neg=ydh->r.num.natAbs≠0)->sB neg (aB r.num.natAbs++jK r.den)=0:=by
  intro neg gF;have hco:vE r.num.natAbs r.den=1:=r.reduced;have gQ:r.den≠0:=r.den_nz;generalize r.num.natAbs=m at*
  generalize r.den=d at*
  have hs:dG (aB m++jK d)=(aB m).length:=by rw[IK _ (AA m),Rx];rfl
  have c1:¬((ydh=ydi)\/(neg=ydh/\aB m=[48])):=by
   rintro (h | ⟨h,h'⟩)
   .grind
   .exact gF h (FI (h'.trans (by decide)))
  unfold sB;rw[hs,tO,aa2,yz c1];by_cases hd:d=1
  .have hr:jK d=[]:=yP hd
   grind
  .have hr:jK d=47::aB d:=yz hd;have jQ:(aB m++jK d).drop ((aB m).length+1)=aB d:=by
    simp_all
   have hl:(aB m++jK d).length=(aB m).length+1+(aB d).length:=by grind
   rw[jQ,hl,aa2,aa3,aa3];have n0:aB d≠[48]:=fun e=>gQ (FI (e.trans (by decide)))
   have n1:aB d≠[49]:=fun e=>hd (FI (e.trans (by decide)))
   grind
 rw[OD];by_cases h0:r.num<0
 .rw [oS h0];show (if 45=45 then sB ydh (aB r.num.natAbs++jK r.den) else sB ydi (45::(aB r.num.natAbs++jK r.den)))=0
  grind
 .rw [No h0];have k:=key ydi (fun h=>by cases h);have hp:=AF r.num.natAbs;have oI:=AA r.num.natAbs
  cases hq:aB r.num.natAbs with
  | nil=>rw[hq] at hp;simp at hp
  | cons b t=>
   rw[hq] at k oI
   have:=R3 oI
   show (if b=45 then sB ydh (t++jK r.den) else sB ydi (b::(t++jK r.den)))=0
   grind
def aor{a b:Int}(h:aZ a=aZ b):a=b:=by
 have hd:∀{z w:Int},z<0->¬w<0->aZ z≠aZ w:=by
  intro z w h1 h2 e;rw[oS h1,No h2] at e
  have:=AA w.natAbs
  rw[<-e] at this
  have:=R3 this
  omega
 by_cases h1:a<0<;>by_cases h2:b<0
 .rw [oS h1,oS h2,um] at h
  have:=FI h.2
  omega
 .grind
 .grind
 .rw [No h1,No h2] at h
  have:=FI h
  omega
def auP{a b:Rat}(h:RT a=RT b):a=b:=by
 have hs:=aa4 a;rw[h,aa4 b] at hs;rw[OD,OD] at h;obtain⟨h1,h2⟩:=List.append_inj h hs.symm;refine Rat.ext (aor h1) ?_;unfold jK at h2;by_cases ha:a.den=1<;>by_cases hb:b.den=1
 .grind
 .grind
 .grind
 .rw [yz ha,yz hb,um] at h2;exact FI h2.2
def TV(h:Hq K r)(hK:K<=1800):(aB r.num.natAbs).length<=600/\(aB r.den).length<=600:=by
 refine⟨RA (B:=K) hK (by decide) h.1,RA (B:=K) hK (by decide) ?_⟩
 have:=h.2
 unfold Bd at this
 grind
def TW(h:Hq K r)(hK:K<=1800):fT (RT r)=0:=auO (TV h hK).1 (TV h hK).2
def UA(h:Hq K r)(hK:K<=1800):LG r=ydi:=by
 obtain⟨h1,h2⟩:=TV h hK;unfold LG LN
 grind
end
end VE
end
section
namespace VE
open Go (IntKind)
def aqQ(a b:Rat):decide (PB a b<=0)=decide (a<=b):=by
 unfold PB;by_cases h1:a<b
 .have:a<=b:=Rat.le_of_lt h1
  simp[h1,this]
 .by_cases h2:a=b
  .subst h2;simp[yaN]
  .have:¬a<=b:=by grind
   simp[h1,h2,this]
def CR:cy (.int .i64 1)=Ft 1:=rfl
end VE
end
section
namespace VE
open Go (IntKind)
section
variable {P:aF}{L:Lib}
def aqR(q:Rat):decide (eF q.num<=0)=decide (q<=0):=by
 have h:=aqQ q 0
 rwa[<-aqM,Rat.sub_eq_add_neg,Rat.neg_zero,Rat.add_zero] at h
end
end VE
end
section
namespace VE
open Go (IntKind)
def auQ:RT (2:Rat)=[50]:=by decide
def aeo{b:Nat}{s:Bool}{M:Nat}(h:Fl b s M):Hq 2500 (nF s M):=by
 have hM:=h.lt;have k1:Hq 278 (((bX s M:Int)):Rat):=aa1 278 (aem 278 277 hM (by decide)) (by decide);exact (k1.mul (aga (-149) (by decide))).mono (by decide)
end VE
end
section
namespace VE
open Go (IntKind)
section
variable {P:aF}{L:Lib}
def ZZ{b x:Nat}{H:Hp}(hx:x<b):∀{agc:Hp},(∀p,p∈agc->b<=p.1)->ai (agc++H) x=ai H x
 | [],_=>rfl
 | (id,o)::r,h=>by
  have:=h (id,o) (by simp)
  simp only[yx];rw[ai,jg (by simp only at this;omega),yO,ZZ hx (fun p hp=>h p (by simp[hp]))]
end
end VE
end
section
namespace VE
open Go (IntKind)
def lyT(w:AV)(hh sc st ox oy wx wy:List Nat):AV:=.agg [w,.str hh,.str sc,.str st,.str ox,.str oy,.str wx,.str wy]
def ajR{a:Int}{l:List Int}:cD (a::l)=0↔a=0/\cD l=0:=by
 simp only[cD]
 grind
end VE
end
section
namespace VE
open Go (IntKind)
open Ieee
def akD(q:Rat):0<=eF q.num↔0<=q:=by
 rw[<-ycg];unfold eF;constructor
 .intro h;split at h<;>omega
 .intro h;split
  .omega
  .split<;>omega
def akE(q:Rat):eF q.num<0↔q<0:=by
 have h:=akD q;constructor
 .intro c;exact ydf.1 fun q'=>by have:=h.2 q';omega
 .intro c;exact Int.not_le.1 fun q'=>absurd (h.1 q') (ydf.2 c)
def amg(q:Rat):(-q).num= -q.num:=rfl
def akF(q:Rat):0<eF q.num↔0<q:=by
 have h:=akE (-q);rw[amg] at h;have h2:0<eF q.num↔eF (-q.num)<0:=by
  unfold eF;constructor
  .intro c;split at c
   .omega
   .split at c
    .omega
    .rw [yP (by omega)];decide
  .intro c;split at c
   .rw [yz (by omega),yz (by omega)];decide
   .split at c<;>omega
 rw[h2,h];constructor
 .intro c;grind
 .intro c;grind
end VE
end
section
namespace VE
open Go (IntKind)
open Ieee
def gG(b:Nat):Bool:=match single.read b with
 | .number .. =>ydh
 | _=>ydi
def GU:List AV->Option AV
 | [.ao .f32 b]=>Ft (.bool (gG b))
 | _=>Fu
def Fl.fin{b M:Nat}{s:Bool}(h:Fl b s M):gG b=ydh:=by
 obtain⟨m,e,h1,_⟩:=h.ex;unfold gG;rw[h1.read]
def auR{b:Nat}(hb:b<4294967296):(∃s M,Fl b s M)\/gG b=ydi:=by
 rcases aus (f:=single) (b:=b) hb (by decide) with ⟨s,m,e,h⟩ | h
 .exact .inl ⟨s,_,⟨m,e,h,rfl⟩⟩
 .right
  unfold gG
  cases hr:single.read b with
  | number s m e=>exact absurd hr (h s m e)
  | _=>rfl
abbrev bY(l:List Nat):List AV:=l.map (.ao .f32)
end VE
end
section
namespace VE
open Go
open Ieee
def ab2{b m:Nat}{s:Bool}{e:Int}(h:single.read b=.number s m e):single.sub b b=Ft 0:=by
 unfold Format.sub;rw[h];show Ft (single.write (.number (if signed s m (e-min e e).toNat+signed (!s) m (e-min e e).toNat=0 then s&& !s else decide (signed s m (e-min e e).toNat+signed (!s) m (e-min e e).toNat<0)) (signed s m (e-min e e).toNat+signed (!s) m (e-min e e).toNat).natAbs (min e e)))=Ft 0
 have h0:signed s m (e-min e e).toNat+signed (!s) m (e-min e e).toNat=0:=by
  unfold signed;cases s<;>simp<;>omega
 rw[h0,yP rfl];have hs:(s&& !s)=ydi:=by cases s<;>rfl
 rw[hs];rfl
def aqS{b:Nat}(h:∀s m e,single.read b≠.number s m e):single.sub b b=Fu:=by
 unfold Format.sub
 cases hr:single.read b with
 | number s m e=>exact absurd hr (h s m e)
 | infinity s=>cases s<;>rfl
 | nan s t=>rfl
def aqT{x:Nat}(hx:x<8388607)(t:Nat):single.order (t%2*2147483648+2139095040+1+x) 0=Fu:=by
 have hm:(t%2*2147483648+2139095040+1+x)%2147483648=2139095041+x:=by omega
 have hr:∃s n,single.read (t%2*2147483648+2139095040+1+x)=.nan s n:=by
  unfold Format.read;simp only[show single.signWeight=2147483648 from rfl,show single.binade=8388608 from rfl,show single.infRung=2139095040 from rfl];rw[hm,yz (by omega),yz (by omega),yz (by omega)];exact⟨_,_,rfl⟩
 obtain⟨s,n,hr⟩:=hr;unfold Format.order;rw[hr];rfl
def aqU(P:xm)(b:Nat)(w:yi):∃r w1,(∀t,(xY .sub t (.float .f32 b) (.float .f32 b)).run P w=.ok (.float .f32 r) w1)/\Calm w w1/\(∀t w',(xY .eql t (.float .f32 r) (.float .f32 0)).run P w'=.ok (.bool (gG b)) w'):=by
 by_cases h:∃s m e,single.read b=.number s m e
 .obtain ⟨s,m,e,h⟩:=h;have h1:FloatKind.f32.format.sub b b=Ft 0:=ab2 h;refine⟨0,w,fun t=>?_,Calm.refl,fun t w'=>?_⟩
  .simp [xY,Op.floatArith,h1]
  .have:gG b=ydh:=by unfold gG;rw[h]
   rw[this];rfl
 .have h':∀s m e,single.read b≠.number s m e:=fun s m e q=>h ⟨s,m,e,q⟩
  have h1:FloatKind.f32.format.sub b b=Fu:=aqS h';obtain⟨t0,Xw⟩:∃t0,t0=w.tape w.drawn (.nanBits .f32 b b):=⟨_,rfl⟩;refine⟨(Question.nanBits .f32 b b).cut t0,w.drew,fun t=>?_,⟨rfl,rfl,rfl,yu _,fun _ _=>rfl⟩,fun t w'=>?_⟩
  .rw [Xw];simp[xY,Op.floatArith,h1,Question.forced]
  .have:gG b=ydi:=by
    unfold gG
    cases hr:single.read b with
    | number s m e=>exact absurd hr (h' s m e)
    | _=>rfl
   rw[this];have hc:=aqT (x:=t0/2%8388607) (xu _ (by decide)) t0;have ki:FloatKind.f32.format.order ((Question.nanBits .f32 b b).cut t0) 0=Fu:=hc;simp[xY,Op.floatCmp,ki]
variable {O:bl}
def aqV{n:Nat}(fA:∀args w,(callFunc (O.ab n) args).run O.P w=.ok (.enter (O.ab n) args) w)(hc:∀(b:Nat) (w:yi),Calls O.P (O.ab n) #[.float .f32 b] w fun e w'=>e=.returned (.bool (gG b))/\Calm w w'):∀aq r,GU aq=Ft r->dZ O n aq r:=by
 intro aq r h;unfold GU at h
 split at h
 .rename_i b;simp only[yb] at h;subst h;refine oR aak fA ?_;intro w S args hg dJ;obtain⟨u,rfl,h1⟩:=En dJ;simp only[ae] at h1;subst h1;refine (hc b w).mono ?_;rintro e w' ⟨rfl,h2⟩;exact⟨_,rfl,h2,fun S=>by simp only[ae]⟩
 .cases h
end VE
end
section
namespace Go.Proofs
open Go.RowKit
def Tryz.azb(b:Nat)(w:yi):Calls Tryz.prog 152 #[.float .f32 b] w fun e w'=>e=.returned (.bool (VE.gG b))/\VE.Calm w w':=by
 obtain⟨r,w1,h1,h2,h3⟩:=VE.aqU Tryz.prog b w
 go_enter Tryz.func152,Tryz.ntmps152
 go_wp2_with (simp only[h1,h3])
 go_ret
 exact⟨rfl,h2⟩
end Go.Proofs
end
section
namespace VE
open Go
section
variable {H:Type}{enc:yv×yg->H}{P:xm}{w:yi}{base:Nat}{sp:Nat->Bool}{held:Bool}
def mapM_mem{α β:Type}{f:α->Option β}:∀{l:List α} {r:List β},l.mapM f=Ft r->∀y,y∈r->∃x,f x=Ft y
 | [],r,h,y,hy=>by simp only[List.mapM_nil,vt,yb] at h;subst h;cases hy
 | x::l,r,h,y,hy=>by
  rw[uO] at h
  cases h1:f x with
  | none=>simp[h1] at h
  | some z=>
   cases h2:l.mapM f with
   | none=>simp[h1,h2] at h
   | some zs=>
    simp only[h1,h2,wG,vV,vt,yb] at h;subst h;rcases xI.1 hy with rfl | hy
    .grind
    .exact mapM_mem h2 y hy
def Rd(enc:yv×yg->H)(P:xm)(w:yi)(base:Nat)(sp:Nat->Bool)(held:Bool)(t:yv)(d:xR H):Prop:=∃bi cs ps,DataW.trod enc P w base sp held bi t cs=Ft (d,ps)
def auS{t:yv}{k:xd}{d:xR H}{n:Nat}(ht:P.underlying t=Ft (.int k))(h:Rd enc P w base sp held t d):∃z,cK P (n+1) t d=[.int k z]/\(Lit.int k z).wf=ydh:=by
 obtain⟨bi,cs,ps,h⟩:=h
 cases bi with
 | zero=>simp[DataW.trod] at h
 | succ bi=>
  unfold DataW.trod at h
  split at h
  all_goals first
   | (rename_i hu;rw[ht] at hu;cases hu;done)
   | skip
  .rename_i k1 k2 z hu;rw[ht] at hu;injection hu with hu
   injection hu with hu
   subst hu
   split at h
   .rename_i hk;obtain⟨rfl,rfl⟩:=h;exact⟨z,by simp only[cK,ht],hk.2⟩
   .cases h
  grind
def aos{t e:yv}{d:xR H}{n:Nat}(ht:P.underlying t=Ft (.slice e))(h:Rd enc P w base sp held t d):
  cK P (n+1) t d=[.af]\/∃(x:Bool) (kz:List (xR H)),cK P (n+1) t d=[.au x kz.length (kz.flatMap fun y=>cK P n e y)]/\∀y,y∈kz->Rd enc P w base sp held e y:=by
 obtain⟨bi,cs,ps,h⟩:=h
 cases bi with
 | zero=>simp[DataW.trod] at h
 | succ bi=>
  unfold DataW.trod at h
  split at h
  all_goals first
   | (rename_i hu;rw[ht] at hu;cases hu;done)
   | skip
  .simp only [yb,yj] at h;obtain⟨rfl,rfl⟩:=h;exact .inl (by simp only[cK,ht])
  .rename_i e' a len cap hu;rw[ht] at hu;injection hu with hu
   injection hu with hu
   subst hu;simp only at h
   split at h
   case isFalse=>cases h
   cases h1:(List.range len).mapM fun i=>(w.cells? base (a.add (i*P.cellsOf e)) (P.cellsOf e)).bind (DataW.trod enc P w base sp held bi e) with
   | none=>rw[h1] at h;simp at h
   | some kz=>
    rw[h1] at h;obtain⟨rest,_,h⟩:=wW.1 h;obtain⟨rfl,rfl⟩:=h;refine .inr ⟨(rest.map (·.1)).isEmpty,kz.map (·.1),by simp only[cK,ht,yL],?_⟩;intro y hy;obtain⟨p,hp,rfl⟩:=xM.1 hy;obtain⟨i,hi⟩:=mapM_mem h1 p hp;obtain⟨df,_,CV⟩:=Option.bind_eq_some_iff.1 hi;exact⟨bi,df,p.2,CV⟩
  grind
def amh{t:yv}{fs:Array ub}{d:xR H}{n:Nat}(ht:P.underlying t=Ft (.struct fs))(h:Rd enc P w base sp held t d):
  ∃ds:List (xR H),ds.length=fs.toList.length/\cK P (n+1) t d=(fs.toList.zip ds).flatMap (fun x=>cK P n x.1.type x.2)/\∀i (h1:i<fs.toList.length) (h2:i<ds.length),Rd enc P w base sp held fs.toList[i].type ds[i]:=by
 obtain⟨bi,cs,ps,h⟩:=h
 cases bi with
 | zero=>simp[DataW.trod] at h
 | succ bi=>
  unfold DataW.trod at h
  split at h
  all_goals first
   | (rename_i hu;rw[ht] at hu;cases hu;done)
   | (cases h;done)
   | skip
  rename_i cs x1 LK fs' hu;rw[ht] at hu;injection hu with hu
  injection hu with hu
  subst hu
  split at h
  case isFalse=>cases h
  obtain⟨xs,h1,h⟩:=wW.1 h;obtain⟨rfl,rfl⟩:=h;refine⟨xs.map (·.1),by simp[M0 h1],by simp only[cK,ht],?_⟩;have key:∀{r:List ub} {xs:List (xR H×List wT)},r.mapM (fun f=>DataW.trod enc P w base sp held bi f.type ((cs.drop f.offset).take (P.cellsOf f.type)))=Ft xs->
    ∀i (h1:i<r.length) (h2:i<(xs.map (·.1)).length),Rd enc P w base sp held r[i].type (xs.map (·.1))[i]:=by
   intro r
   induction r with
   | nil=>intro xs h i h1;exact absurd h1 (tB i)
   | cons f r ih=>
    intro xs h i h1 h2;rw[uO] at h
    cases g1:DataW.trod enc P w base sp held bi f.type ((cs.drop f.offset).take (P.cellsOf f.type)) with
    | none=>simp[g1] at h
    | some x=>
     cases g2:r.mapM (fun f=>DataW.trod enc P w base sp held bi f.type ((cs.drop f.offset).take (P.cellsOf f.type))) with
     | none=>simp[g1,g2] at h
     | some ys=>
      simp only[g1,g2,wG,vV,vt,yb] at h;subst h
      cases i with
      | zero=>exact⟨bi,_,x.2,g1⟩
      | succ i=>exact ih g2 i (by simpa using h1) (by simpa using h2)
  exact key h1
def aot{t e:yv}{k:Nat}{d:xR H}{n:Nat}(ht:P.underlying t=Ft (.array k e))(h:Rd enc P w base sp held t d):
  ∃ds:List (xR H),ds.length=k/\cK P (n+1) t d=ds.flatMap (fun x=>cK P n e x)/\∀y,y∈ds->Rd enc P w base sp held e y:=by
 obtain⟨bi,cs,ps,h⟩:=h
 cases bi with
 | zero=>simp[DataW.trod] at h
 | succ bi=>
  unfold DataW.trod at h
  split at h
  all_goals first
   | (rename_i hu;rw[ht] at hu;cases hu;done)
   | (cases h;done)
   | skip
  rename_i cs x1 LK k' e' hu;rw[ht] at hu;injection hu with hu
  injection hu with sW BA
  subst sW;subst BA
  split at h
  case isFalse=>cases h
  obtain⟨xs,h1,h⟩:=wW.1 h;obtain⟨rfl,rfl⟩:=h;refine⟨xs.map (·.1),by simp[M0 h1],by simp only[cK,ht],fun y hy=>?_⟩;obtain⟨p,hp,rfl⟩:=xM.1 hy;obtain⟨i,hi⟩:=mapM_mem h1 p hp;exact⟨bi,_,p.2,hi⟩
end
end VE
end
section
namespace VE
open Go
inductive Ty
 | int (k:xd)
 | ao (k:xW)
 | bool
 | str
 | sl (e:Ty)
 | nil
 | cat (a b:Ty)
 | ar (n:Nat) (e:Ty)
def oK:Ty->List AV->Prop
 | .int k,l=>∃z,l=[.int k z]/\(Lit.int k z).wf=ydh
 | .ao k,l=>∃b,l=[.ao k b]/\(Lit.float k b).wf=ydh
 | .bool,l=>∃b,l=[.bool b]
 | .str,l=>∃s:List Nat,l=[.str s]/\s.length<9223372036854775808/\∀c,c∈s->c<256
 | .sl e,l=>l=[.af]\/∃(x:Bool) (ps:List (List AV)),l=[.au x ps.length ps.flatten]/\∀p,p∈ps->oK e p
 | .nil,l=>l=[]
 | .cat a b,l=>∃x y,l=x++y/\oK a x/\oK b y
 | .ar n e,l=>∃ps:List (List AV),ps.length=n/\l=ps.flatten/\∀p,p∈ps->oK e p
def n8:List (Option Ty)->Option Ty
 | []=>Ft .nil
 | some a::r=>match n8 r with
  | some b=>Ft (.cat a b)
  | none=>Fu
 | none::_=>Fu
def gH(P:xm):Nat->yv->Option Ty
 | 0,_=>Fu
 | n+1,t=>
  match P.underlying t with
  | some .bool=>Ft .bool
  | some (.int k)=>Ft (.int k)
  | some (.float k)=>Ft (.ao k)
  | some .string=>Ft .str
  | some (.slice e)=>(gH P n e).map .sl
  | some (.struct fs)=>n8 (fs.toList.map fun f=>gH P n f.type)
  | some (.array k e)=>(gH P n e).map (.ar k)
  | _=>Fu
section
variable {H:Type}{enc:yv×yg->H}{P:xm}{w:yi}{base:Nat}{sp:Nat->Bool}{held:Bool}
def auT{t:yv}{k:xW}{d:xR H}{n:Nat}(ht:P.underlying t=Ft (.float k))(h:Rd enc P w base sp held t d):∃b,cK P (n+1) t d=[.ao k b]/\(Lit.float k b).wf=ydh:=by
 obtain⟨bi,cs,ps,h⟩:=h
 cases bi with
 | zero=>simp[DataW.trod] at h
 | succ bi=>
  unfold DataW.trod at h
  split at h
  all_goals first
   | (rename_i hu;rw[ht] at hu;cases hu;done)
   | skip
  .rename_i k1 k2 z hu;rw[ht] at hu;injection hu with hu
   injection hu with hu
   subst hu
   split at h
   .rename_i hw;obtain⟨rfl,rfl⟩:=h;exact⟨z,by simp only[cK,ht],hw.2⟩
   .cases h
  grind
def aqW{t:yv}{d:xR H}{n:Nat}(ht:P.underlying t=Ft .bool)(h:Rd enc P w base sp held t d):∃b,cK P (n+1) t d=[.bool b]:=by
 obtain⟨bi,cs,ps,h⟩:=h
 cases bi with
 | zero=>simp[DataW.trod] at h
 | succ bi=>
  unfold DataW.trod at h
  split at h
  all_goals first
   | (rename_i hu;rw[ht] at hu;cases hu;done)
   | skip
  .simp only [yb,yj] at h;obtain⟨rfl,rfl⟩:=h;rename_i b _;exact⟨b,by simp only[cK,ht]⟩
  grind
def auU{t:yv}{d:xR H}{n:Nat}(ht:P.underlying t=Ft .string)(h:Rd enc P w base sp held t d):
  ∃s:List Nat,cK P (n+1) t d=[.str s]/\s.length<9223372036854775808/\∀c,c∈s->c<256:=by
 obtain⟨bi,cs,ps,h⟩:=h
 cases bi with
 | zero=>simp[DataW.trod] at h
 | succ bi=>
  unfold DataW.trod at h
  split at h
  all_goals first
   | (rename_i hu;rw[ht] at hu;cases hu;done)
   | skip
  .rename_i s hu
   split at h
   .rename_i hs;obtain⟨rfl,rfl⟩:=h;refine⟨_,by simp only[cK,ht];rfl,?_,fun c hc=>?_⟩
    .simp only [yL,Array.length_toList];have h1:s.size<=9223372036854775807:=hs;have h2:s.data.size=s.size:=rfl;omega
    .obtain ⟨b,_,rfl⟩:=xM.1 hc;exact b.toNat_lt
   .cases h
  grind
def Y2{n:Nat}(ih:∀{t:yv} {T:Ty} {d:xR H},gH P n t=Ft T->Rd enc P w base sp held t d->oK T (cK P n t d)):
  ∀(fs:List ub) (ds:List (xR H)) (T:Ty),n8 (fs.map fun f=>gH P n f.type)=Ft T->ds.length=fs.length->(∀i (h1:i<fs.length) (h2:i<ds.length),Rd enc P w base sp held fs[i].type ds[i])->
   oK T ((fs.zip ds).flatMap fun x=>cK P n x.1.type x.2)
 | [],ds,T,hT,_,_=>by
  simp only[vj,n8,yb] at hT;subst hT;simp[oK]
 | f::fs,[],T,_,hl,_=>by simp at hl
 | f::fs,d::ds,T,hT,hl,hr=>by
  simp only[yZ] at hT
  cases h1:gH P n f.type with
  | none=>simp[h1,n8] at hT
  | some a=>
   cases h2:n8 (fs.map fun f=>gH P n f.type) with
   | none=>simp[h1,h2,n8] at hT
   | some b=>
    simp only[h1,h2,n8,yb] at hT;subst hT;exact⟨_,_,rfl,ih h1 (hr 0 (by simp) (by simp)),Y2 ih fs ds b h2 (by simpa using hl) (fun i h1 h2=>hr (i+1) (by simpa using h1) (by simpa using h2))⟩
def acU:∀(n:Nat) {t:yv} {T:Ty} {d:xR H},gH P n t=Ft T->Rd enc P w base sp held t d->oK T (cK P n t d)
 | 0,t,T,d,hT,_=>by simp[gH] at hT
 | n+1,t,T,d,hT,hr=>by
  have ih:=@acU n
  cases hu:P.underlying t with
  | none=>simp[gH,hu] at hT
  | some u=>
   cases u with
   | slice e=>
    simp only[gH,hu] at hT;obtain⟨E,hE,rfl⟩:=wW.1 hT
    rcases aos (n:=n) hu hr with h | ⟨x,kz,h,hm⟩
    .exact .inl h
    .refine .inr ⟨x,kz.map (cK P n e),by rw[h,yL,ybG],fun p hp=>?_⟩
     grind
   | struct fs=>
    simp only[gH,hu] at hT;obtain⟨ds,e1,e2,e3⟩:=amh (n:=n) hu hr;rw[e2];exact Y2 ih fs.toList ds T hT e1 e3
   | array k e=>
    simp only[gH,hu] at hT;obtain⟨E,hE,rfl⟩:=wW.1 hT;obtain⟨ds,e1,e2,e3⟩:=aot (n:=n) hu hr;refine⟨ds.map (cK P n e),by simp[e1],by rw[e2,ybG],fun p hp=>?_⟩
    grind
   | int k=>
    simp only[gH,hu,yb] at hT;subst hT;exact auS hu hr
   | float k=>
    simp only[gH,hu,yb] at hT;subst hT;exact auT hu hr
   | bool=>
    simp only[gH,hu,yb] at hT;subst hT;exact aqW hu hr
   | string=>
    simp only[gH,hu,yb] at hT;subst hT;exact auU hu hr
   | _=>simp[gH,hu] at hT
def GV:Ty->List AV->AV
 | .nil,l | .cat _ _,l | .ar _ _,l=>.agg l
 | _,l=>l.headD .undef
def ami:∀{l:List (Option Ty)} {T:Ty},n8 l=Ft T->∀x,GV T x=.agg x
 | [],T,h=>by simp only[n8,yb] at h;subst h;exact fun _=>rfl
 | none::r,T,h=>by simp[n8] at h
 | some a::r,T,h=>by
  cases h1:n8 r with
  | none=>simp[n8,h1] at h
  | some b=>
   simp only[n8,h1,yb] at h;subst h;exact fun _=>rfl
def awX{n:Nat}{t:yv}{T:Ty}{d:xR H}(hT:gH P n t=Ft T):mA P n t d=GV T (cK P n t d):=by
 cases n with
 | zero=>simp[gH] at hT
 | succ n=>
  cases hu:P.underlying t with
  | none=>simp[gH,hu] at hT
  | some u=>
   cases u with
   | slice e=>
    simp only[gH,hu] at hT;obtain⟨E,hE,rfl⟩:=wW.1 hT;simp only[mA,hu,GV]
   | struct fs=>
    simp only[gH,hu] at hT;rw[ami hT];simp only[mA,hu]
   | array k e=>
    simp only[gH,hu] at hT;obtain⟨E,hE,rfl⟩:=wW.1 hT;simp only[mA,hu,GV]
   | _=>
    simp only[gH,hu,yb,reduceCtorEq] at hT<;>
    (subst hT
     simp only[mA,hu,GV])
def Kj:List Ty->List (List AV)->List AV
 | T::Ts,l::ls=>GV T l::Kj Ts ls
 | _,_=>[]
def aa5{n:Nat}:∀{ts:List yv} {Ts:List Ty} {vs:List yg} {ds:List (xR H)} {ps:List wT},(ts.map (gH P n))=Ts.map Ft->DataW.TrodAll enc P w base sp held ts vs ds ps->
  ∃ls,jL oK Ts ls/\AQ P n ts ds=Kj Ts ls/\ds.length=ts.length
 | [],[],[],[],ps,_,_=>⟨[],trivial,rfl,rfl⟩
 | t::ts,T::Ts,v::vs,d::ds,ps,hT,⟨p,q,⟨bi,h1⟩,h2,_⟩=>by
  simp only[yZ,um] at hT;have⟨ls,k1,k2,k3⟩:=aa5 hT.2 h2;exact⟨cK P n t d::ls,⟨acU n hT.1 ⟨bi,_,_,h1⟩,k1⟩,by simp only[AQ,Kj,k2,awX hT.1],by simp[k3]⟩
 | [],_::_,_,_,_,h,_=>by simp at h
 | _::_,[],_,_,_,h,_=>by simp at h
 | [],[],_::_,_,_,_,h=>by simp[DataW.TrodAll] at h
 | [],[],[],_::_,_,_,h=>by simp[DataW.TrodAll] at h
 | _::_,_,[],_,_,_,h=>by simp[DataW.TrodAll] at h
 | _::_,_,_::_,[],_,_,h=>by simp[DataW.TrodAll] at h
def auV{α β:Type}{p:α->β->Prop}{a:α}:∀{l:List β},jL p [a] l->∃x,l=[x]/\p a x
 | [x],h=>⟨x,rfl,h.1⟩
 | [],h=>h.elim
 | _::_::_,h=>h.2.elim
def auW{α β:Type}{p:α->β->Prop}{a b:α}:∀{l:List β},jL p [a,b] l->∃x y,l=[x,y]/\p a x/\p b y
 | x::l,h=>let ⟨y,h1,h2⟩:=auV h.2;⟨x,y,by rw[h1],h.1,h2⟩
 | [],h=>h.elim
end
end VE
end
section
namespace VE
open Go (IntKind)
def IG{lv:List Nat}{tm tm':Env}{hp:Hp}{c c' b:Nat}(hk:bE tm lv=bE tm' lv):br lv ⟨tm,hp,c,b⟩=br lv ⟨tm',hp,c',b⟩:=by
 simp only[br,hk]
def cS(C R S:Nat):AV:=.bq [aa C,aa R,aa S]
def PK(l C R S k:Nat):Env:=[(0,.fn (.y l) [] []),(1,cS C R S),(8,aa ((C*R:Nat):Int)),(9,aa k)]
def JX(cs:List AV):Ci 0 (.bq cs)=Ft (.bq cs):=rfl
def acV(a:AV)(cs:List AV):Ci 1 (.bq (a::cs))=Ft (.bq cs):=by
 show (bif yA 1 (cs.length+1) then Ft (AV.bq cs) else Fu)=_
 rw[yt (by omega),yq]
def Oa(a b:AV)(cs:List AV):Ci 2 (.bq (a::b::cs))=Ft (.bq cs):=by
 show (bif yA 2 (cs.length+1+1) then Ft (AV.bq cs) else Fu)=_
 rw[yt (by omega),yq]
def VV{P:aF}{L:Lib}{f:cd}{hp:Hp}{ct l:Nat}{xs:List AV}:er P L f hp ct .heap (.fn (.y l) [] []) xs=fV f hp ct l xs:=rfl
end VE
end
section
namespace VE
open Go (IntKind)
section
variable {lv ps:List Nat}
def Y3{f:Nat->Option Nat}:∀{E:Env},ph E=ydh->eO f E=E
 | [],_=>rfl
 | (i,v)::r,h=>by
  simp only[ph,ye] at h;simp only[eO,DJ _ h.1]
  rw[Y3 (E:=r) h.2]
def OE(B l:Nat)(hp:Hp):List Nat:=reach hp B 100000 (l::cI B hp) []
def iH(B l:Nat)(hp:Hp):Hp×Nat:=(ew hp (gB B (OE B l hp)) (OE B l hp) B (fI B (gB B (OE B l hp)) hp),B+(OE B l hp).length)
def Z0{tm rest:Env}{hp:Hp}{ct B l:Nat}(hk:bE tm lv=(0,.fn (.y l) [] [])::rest)(hr:ph rest=ydh)(hl:l<B):
  br lv ⟨tm,hp,ct,B⟩=⟨(0,.fn (.y l) [] [])::rest,(iH B l hp).1,(iH B l hp).2,B⟩:=by
 have e:dL ((0,AV.fn (.y l) [] [])::rest)=[l]:=by
  rw[YT,Rv hr];rfl
 have e2:∀f:Nat->Option Nat,f l=Ft l->eO f ((0,AV.fn (.y l) [] [])::rest)=(0,.fn (.y l) [] [])::rest:=fun f hf=>by
  simp only[eO,bm,hf,dB];rw[Y3 hr]
 simp only[br,hk,e,yx,yM];rw[e2 _ (by simp only[gB,nY hl,yq])];rfl
def DF{tm rest:Env}{hp H:Hp}{ct B l c:Nat}(hk:bE tm lv=(0,.fn (.y l) [] [])::rest)(hr:ph rest=ydh)(hl:l<B)(h:iH B l hp=(H,c)):
  br lv ⟨tm,hp,ct,B⟩=⟨(0,.fn (.y l) [] [])::rest,H,c,B⟩:=by
 rw[Z0 hk hr hl,h]
def iO(a b:Nat):AV:=.bq [aa a,aa b]
def JY(l C R S a b k:Nat):Env:=[(0,.fn (.y l) [] []),(1,cS C R S),(2,iO a b),(7,aa S),(8,aa k)]
def TX(l C R S a b k i:Nat):Env:=[(0,.fn (.y l) [] []),(1,cS C R S),(2,iO a b),(4,aa k),(7,aa S),(8,aa k),(12,aa S),(13,aa i)]
def Mg(S a b k i:Nat):List AV:=[.agg [aa i,aa k],.agg [aa ((a*S+i:Nat):Int),aa ((b*S+k:Nat):Int)]]
structure Rnd(Inv:Nat->Hp->Nat->Prop)(B l:Nat):Prop where
 y:∀{j H c},Inv j H c->iH B l H=(H,c)
 z:∀{j H c},Inv j H c->∀tm ct,br [] ⟨tm,H,ct,B⟩=⟨[],H,c,B⟩
 l:∀{j H c},Inv j H c->∃tm p a b,ai H l=Ft (.lp tm p a b 0 .none)
section
variable {P:aF}{L:Lib}
def UB(GW:Has P L 719 KL){f:X}{as_ body:VC}{s:St}{C R S a b:Nat}(hS:S<=8)(ha:a<=8)(hb:b<=8)(hf:ay s.tm f=.fn (.f 719) [] [cS C R S,iO a b]){Inv:Nat->Hp->Nat->Prop}(hI:Rnd Inv (s.ct+1) s.ct)(h0:∃H c,iH (s.ct+1) s.ct ((s.ct,.lp s.tm ps as_ body 0 .none)::s.hp)=(H,c)/\Inv 0 H c)(hr:∀k i H c,k<S->i<S->Inv (k*S+i) H c->∃hp aH H' c',fV (D P L) H c s.ct (Mg S a b k i)=Ft (.bool ydh,hp,aH)/\iH (s.ct+1) s.ct hp=(H',c')/\Inv (k*S+i+1) H' c'):
  ∃H c,Inv (S*S) H c/\D P L (.rf f ps as_ body) s=Ft (.normal,⟨s.tm,cC H s.ct,c,s.base⟩):=by
 have azc:∀k,k<S->_:=fun k hk=>ji P L [0,1,2,4,7,8,12,13] JN
  (fun d st=>∃i H c,i+d=S/\Inv (k*S+i) H c/\st=⟨TX s.ct C R S a b k i,H,c,s.ct+1⟩)
  (fun ex st=>ex=.exit 2/\∃tm ct H c,Inv (k*S+S) H c/\st=⟨tm,H,ct,s.ct+1⟩/\bE tm [0,1,2,7,8]=JY s.ct C R S a b k) (by
  rintro d st ⟨i,H,c,hid,cN,rfl⟩;by_cases hi:i<S
  .left
   obtain⟨hp,aH,H',c',e,lC,EM⟩:=hr k i H c hk hi cN;have b1:a*S<=64:=yS ha hS;have b2:b*S<=64:=yS hb hS;have m1:(a:Int)*(S:Int)=((a*S:Nat):Int):=by rw[xZ]
   have m2:(b:Int)*(S:Int)=((b*S:Nat):Int):=by rw[xZ]
   have a1:((a*S:Nat):Int)+(i:Int)=((a*S+i:Nat):Int):=by rw[th]
   have a2:((b*S:Nat):Int)+(k:Int)=((b*S+k:Nat):Int):=by rw[th]
   unfold Mg at e
   simp only[go_sem,ya,yc,yo,JN,TX,cS,iO,JX,acV,Oa,show (i:Int)<S by omega,m1,m2,wrap64 (n:=((a*S:Nat):Int)) (by omega) (by omega),wrap64 (n:=((b*S:Nat):Int)) (by omega) (by omega),a1,a2,wrap64 (n:=((a*S+i:Nat):Int)) (by omega) (by omega),wrap64 (n:=((b*S+k:Nat):Int)) (by omega) (by omega),VV,e];refine⟨_,d-1,rfl,by omega,i+1,H',c',by omega,EM,?_⟩;rw[wrap64 (by omega) (by omega)];exact DF (by simp only[go_sem,ya]<;>rfl) rfl (by omega) lC
  .right
   have his:i=S:=by omega
   subst his;simp only[go_sem,ya,JN,TX,cS,iO,show ¬(i:Int)<i by omega]
   exact⟨_,_,rfl,by simp,rfl,_,_,H,c,cN,rfl,by simp only[go_sem,ya,JY,cS,iO]<;>rfl⟩)
 have azd:=ji P L [0,1,2,7,8] JO
  (fun d st=>∃k H c,k+d=S/\Inv (k*S) H c/\st=⟨JY s.ct C R S a b k,H,c,s.ct+1⟩)
  (fun ex st=>ex=.exit 0/\∃tm ct H c,Inv (S*S) H c/\st=⟨tm,H,ct,s.ct+1⟩) (by
  rintro d st ⟨k,H,c,hkd,cN,rfl⟩;by_cases hk:k<S
  .left
   have hm:(k+1)*S=k*S+S:=by rw[xP,ybx]
   simp only[go_sem,ya,JO,JY,cS,iO,Oa,show (k:Int)<S by omega];generalize hq:D P L (.loop _ JN) _=q;obtain⟨ex,st,rfl,rfl,tm,ct,H',c',EM,rfl,sT⟩:=bN hq (azc k hk S) ⟨0,H,c,by omega,cN,DF (by simp only[go_sem,ya]<;>rfl) rfl (by omega) (hI.y cN)⟩
   have hcp:=fun ct=>DF (lv:=[0,1,2,7,8]) (ct:=ct) sT rfl (Nat.lt_succ_self _) (hI.y EM)
   simp only[go_sem,ya,hcp];refine⟨_,d-1,rfl,by omega,k+1,H',c',by omega,by rw[hm];exact EM,?_⟩
   rw[wrap64 (by omega) (by omega)];exact DF (by simp only[go_sem,ya,cS,iO]<;>rfl) rfl (by omega) (hI.y EM)
  .right
   have oB:k=S:=by omega
   subst oB;simp only[go_sem,ya,JO,JY,cS,iO,show ¬(k:Int)<k by omega]
   exact⟨_,_,rfl,by simp,rfl,_,_,H,c,cN,rfl⟩)
 obtain⟨H0,c0,Iz,XF⟩:=h0;have hb:∃tm H c,Inv (S*S) H c/\D P L KL.body ⟨fg 0 [.fn (.y s.ct) [] [],cS C R S,iO a b],(s.ct,.lp s.tm ps as_ body 0 .none)::s.hp,s.ct+1,s.ct+1⟩=Ft (.normal,⟨tm,H,c,s.ct+1⟩):=by
  simp only[go_sem,ya,KL,cS,iO,Oa];generalize hq:D P L (.loop _ JO) _=q;obtain⟨ex,st,rfl,rfl,tm,ct,H,c,cN,rfl⟩:=bN hq (azd S) ⟨0,H0,c0,by omega,by rw[vh];exact XF,DF (by simp only[go_sem,ya,cS,iO]<;>rfl) rfl (by omega) Iz⟩
  refine⟨[],H,c,cN,?_⟩;simp only[go_sem];exact congrArg (fun x=>Ft (Ex.normal,x)) (hI.z cN _ _)
 obtain⟨tm,H,c,cN,hD⟩:=hb;obtain⟨gh,p,a',b',hl⟩:=hI.l cN;exact⟨H,c,cN,ad4 hf GW.heap (FQ GW hD (.inl rfl) rfl) hl (by decide)⟩
def acW(EN:Has P L 718 GI){f:X}{as_ body:VC}{s:St}{C R S:Nat}(hC:C<=8)(hR:R<=8)(hf:ay s.tm f=.fn (.f 718) [] [cS C R S]){Inv:Nat->Hp->Nat->Prop}{Bad:Hp->Nat->Prop}(hI:Rnd Inv (s.ct+1) s.ct)(h0:∃H c,iH (s.ct+1) s.ct ((s.ct,.lp s.tm ps as_ body 0 .none)::s.hp)=(H,c)/\Inv 0 H c)(hr:∀k H c,k<C*R->Inv k H c->(∃hp aH H' c',fV (D P L) H c s.ct [aa k,.agg [aa ((k%C:Nat):Int),aa ((k/C:Nat):Int)]]=Ft (.bool ydh,hp,aH)/\iH (s.ct+1) s.ct hp=(H',c')/\Inv (k+1) H' c')\/
   ∃hp aH tm p a b,fV (D P L) H c s.ct [aa k,.agg [aa ((k%C:Nat):Int),aa ((k/C:Nat):Int)]]=Ft (.bool ydi,hp,aH)/\ai hp s.ct=Ft (.lp tm p a b 2 .ret)/\Bad hp aH):
  (∃H c,Inv (C*R) H c/\D P L (.rf f ps as_ body) s=Ft (.normal,⟨s.tm,cC H s.ct,c,s.base⟩))\/∃hp aH,Bad hp aH/\D P L (.rf f ps as_ body) s=Ft (.ret,⟨s.tm,cC hp s.ct,aH,s.base⟩):=by
 have Fm:C*R<=64:=yS hC hR;have key:=ji P L [0,1,8,9] Gb
  (fun d st=>∃k H c,k+d=C*R/\Inv k H c/\st=⟨PK s.ct C R S k,H,c,s.ct+1⟩)
  (fun ex st=>(ex=.exit 0/\∃tm ct H c,Inv (C*R) H c/\st=⟨tm,H,ct,s.ct+1⟩)\/(ex=.ret/\∃tm hp aH tm' p a b,st=⟨tm,hp,aH,s.ct+1⟩/\ai hp s.ct=Ft (.lp tm' p a b 2 .ret)/\Bad hp aH)) (by
  rintro d st ⟨k,H,c,hkd,cN,rfl⟩;by_cases hk:k<C*R
  .have jO:0<C:=vW (fun h=>by rw[h,vh] at hk;omega);have h1:(k:Int).tmod (C:Int)=((k%C:Nat):Int):=(Int.ofNat_tmod k C).symm;have h2:(k:Int).tdiv (C:Int)=((k/C:Nat):Int):=(Int.ofNat_tdiv k C).symm;have h3:k%C<C:=xu _ jO;have h4:k/C<=k:=vB _ _;have hr:=hr k H c hk cN;generalize ha:k%C=a' at*
   generalize bH:k/C=b' at*
   have Dt:(C:Int)≠0:=by omega
   rcases hr with ⟨hp,aH,H',c',e,lC,EM⟩ | ⟨hp,aH,tm',p,a,b,e,hg,hB⟩
   .left
    simp only[go_sem,ya,yc,yo,Gb,PK,cS,JX,show (k:Int)<((C*R:Nat):Int) by omega,fE _ _ _ Dt,fW _ _ _ Dt,h1,h2,wrap64 (n:=(b':Int)) (by omega) (by omega),VV,e];refine⟨_,d-1,rfl,by omega,k+1,H',c',by omega,EM,?_⟩;rw[wrap64 (by omega) (by omega)];exact DF (by simp only[go_sem,ya]<;>rfl) rfl (by omega) lC
   .right
    simp only[go_sem,ya,yc,yo,Gb,PK,cS,JX,show (k:Int)<((C*R:Nat):Int) by omega,fE _ _ _ Dt,fW _ _ _ Dt,h1,h2,wrap64 (n:=(b':Int)) (by omega) (by omega),VV,e];exact⟨_,_,rfl,by simp,.inr ⟨rfl,_,hp,aH,tm',p,a,b,rfl,hg,hB⟩⟩
  .right
   have ri:k=C*R:=by omega
   subst ri;simp only[go_sem,ya,Gb,PK,cS,show ¬((C*R:Nat):Int)<((C*R:Nat):Int) by omega]
   exact⟨_,_,rfl,by simp,.inl ⟨rfl,_,_,H,c,cN,rfl⟩⟩)
 obtain⟨H0,c0,Iz,XF⟩:=h0;have hb:∃ex st,D P L GI.body ⟨fg 0 [.fn (.y s.ct) [] [],cS C R S],(s.ct,.lp s.tm ps as_ body 0 .none)::s.hp,s.ct+1,s.ct+1⟩=Ft (ex,st)/\((ex=.normal/\∃tm H c,Inv (C*R) H c/\st=⟨tm,H,c,s.ct+1⟩)\/(ex=.ret/\∃tm hp aH tm' p a b,st=⟨tm,hp,aH,s.ct+1⟩/\ai hp s.ct=Ft (.lp tm' p a b 2 .ret)/\Bad hp aH)):=by
  have hcr:(C:Int)*(R:Int)=((C*R:Nat):Int):=by rw[xZ]
  simp only[go_sem,ya,GI,cS,JX,acV,hcr,wrap64 (n:=((C*R:Nat):Int)) (by omega) (by omega)];generalize hq:D P L (.loop _ Gb) _=q;obtain⟨ex,st,rfl,hh⟩:=bN hq (key (C*R)) ⟨0,H0,c0,by omega,XF,DF (by simp only[go_sem,ya,cS]<;>rfl) rfl (by omega) Iz⟩
  rcases hh with ⟨rfl,tm,ct,H,c,cN,rfl⟩ | ⟨rfl,hh⟩
  .refine ⟨.normal,⟨[],H,c,s.ct+1⟩,?_,.inl ⟨rfl,_,H,c,cN,rfl⟩⟩;simp only[go_sem];exact congrArg (fun x=>Ft (Ex.normal,x)) (hI.z cN _ _)
  .exact ⟨_,_,rfl,.inr ⟨rfl,hh⟩⟩
 obtain⟨ex,st,hD,hh⟩:=hb;have so:∀s':St,jc s' GI.eb=Ft (.ax []):=fun _=>rfl
 rcases hh with ⟨rfl,tm,H,c,cN,rfl⟩ | ⟨rfl,tm,hp,aH,tm',p,a,b,rfl,hg,hB⟩
 .left
  obtain⟨gh,p,a,b,hl⟩:=hI.l cN;exact⟨H,c,cN,ad4 hf EN.heap (FQ EN hD (.inl rfl) (so _)) hl (by decide)⟩
 .right
  refine⟨hp,aH,hB,?_⟩;have h3:=FQ EN hD (.inr rfl) (so _);rw[kQ];simp only[bt,hf,EN.heap,yM,h3,hg,jg (show (2:Nat)≠1 by decide),yO]
end
end
end VE
end
section
namespace VE
open Go (IntKind)
def Mx{B:Nat}{H:Hp}:∀{J:Hp},(∀p,p∈J->B<=p.1)->cI B (J++H)=cI B H
 | [],_=>rfl
 | (id,o)::r,h=>by
  have:=h (id,o) (by simp)
  rw[yx,cI,rZ (by simpa using this),yO,Mx fun p hp=>h p (by simp[hp])]
def R6{B:Nat}{f:Nat->Option Nat}{H:Hp}:∀{J:Hp},(∀p,p∈J->B<=p.1)->fI B f (J++H)=fI B f H
 | [],_=>rfl
 | (id,o)::r,h=>by
  have:=h (id,o) (by simp)
  rw[yx,fI,rZ (by simpa using this),yO,R6 fun p hp=>h p (by simp[hp])]
def ajb{live:List Nat}{tm:Env}{B ct:Nat}{J old:Hp}{rs:List (List AV)}(hJ:∀p,p∈J->B+rs.length<=p.1)(ht:kL B (bE tm live))(ho:kM B (B+rs.length) old)(hl:(dL (bE tm live)).length+(cI B old).length<100000)(hr:(cI B old).filter (fun x=> !yI x B)=xJ B rs.length):br live ⟨tm,J++(fZ B rs++old),ct,B⟩=⟨bE tm live,fZ B rs++old,B+rs.length,B⟩:=by
 have XG:∀p,p∈J->B<=p.1:=fun p hp=>by have:=hJ p hp;omega
 have lR:∀i (h:i<rs.length),ai (J++(fZ B rs++old)) (B+i)=Ft (.cells ydh ydh ydh 1 (rs.reverse[i]'(by simpa using h))):=fun i h=>by
  rw[ZZ (b:=B+rs.length) (by omega) hJ];exact R2 h
 have Og:reach (J++(fZ B rs++old)) B 100000 (dL (bE tm live)++cI B (J++(fZ B rs++old))) []=xJ B rs.length:=by
  have:=MO (hp:=J++(fZ B rs++old)) (B:=B) (R:=rs.length) (fun i hi=>⟨_,_,_,_,lR i hi⟩) (dL (bE tm live)++cI B (J++(fZ B rs++old))) 100000 0 (by rw[Mx XG,IF,yJ];exact hl) (uN _) (by
   rw[List.filter_append,Mx XG,IF,hr,tU.2 (fun x hx=>by
    have:=Mu ht x hx
    simp[nY this])]
   simp)
  simpa using this
 have hid:∀x,x<B+rs.length->gB B (xJ B rs.length) x=Ft x:=fun x hx=>Yo hx
 have hn:=Rz (hp:=J++(fZ B rs++old)) (f:=gB B (xJ B rs.length)) rs.reverse B old (fun i hi=>lR i (by simpa using hi));rw[List.length_reverse] at hn;simp only[br,Og,R6 XG,Ry,Mv hid ho,hn,R1,List.length_range']
 rw[MN (n:=B) (fun x hx=>hid x (by omega)) ht]
end VE
end
section
namespace VE
open Go (IntKind)
def bJ(B:Nat)(s:List Nat):Nat->Option Nat:=gB B s
def lD(B:Nat)(hp:Hp):Nat->List Nat->List Nat->List Nat:=reach hp B
def XH(B:Nat)(hp:Hp)(s:List Nat):Hp×Nat:=(ew hp (bJ B s) s B (fI B (bJ B s) hp),B+s.length)
def rW(B l:Nat)(hp:Hp):iH B l hp=XH B hp (lD B hp 100000 (l::cI B hp) []):=rfl
def auX(B:Nat)(hp:Hp)(s:List Nat):XH B hp s=(ew hp (bJ B s) s B (fI B (bJ B s) hp),B+s.length):=rfl
def aa6(B:Nat):cI B []=[]:=rfl
def D8{B id:Nat}(o:Obj)(r:Hp)(h:id<B):cI B ((id,o)::r)=iW o++cI B r:=by rw[cI,nY h,yq]
def auY{B id:Nat}(o:Obj)(r:Hp)(h:B<=id):cI B ((id,o)::r)=cI B r:=by rw[cI,rZ h,yO]
def PL(B:Nat)(hp:Hp)(n id:Nat)(cm seen:List Nat)(q:Option Obj):List Nat:=match q with | some o=>lD B hp n (iW o++cm) (seen++[id]) | none=>lD B hp n cm seen
def PM(B:Nat)(hp:Hp)(n id:Nat)(cm seen:List Nat)(b:Bool):List Nat:=bif b then lD B hp n cm seen else PL B hp n id cm seen (ai hp id)
def aqX(B:Nat)(hp:Hp)(n:Nat)(seen:List Nat):lD B hp (n+1) [] seen=seen:=rfl
def aep{B id:Nat}(hp:Hp)(n:Nat)(cm seen:List Nat)(h:id<B):lD B hp (n+1) (id::cm) seen=lD B hp n cm seen:=by
 simp only[lD,reach,nY h,ycy,yq]
def UC{B id:Nat}(hp:Hp)(n:Nat)(cm seen:List Nat)(h:B<=id):lD B hp (n+1) (id::cm) seen=PM B hp n id cm seen (jn id seen):=by
 simp only[lD,reach,rZ h,ybn,PM,PL]
 cases jn id seen with
 | true=>rfl
 | false=>simp only[yO];cases ai hp id<;>rfl
def auZ(B:Nat)(hp:Hp)(n id:Nat)(cm seen:List Nat):PM B hp n id cm seen ydh=lD B hp n cm seen:=rfl
def TY(B:Nat)(hp:Hp)(n id:Nat)(cm seen:List Nat):PM B hp n id cm seen ydi=PL B hp n id cm seen (ai hp id):=rfl
def TZ(B:Nat)(hp:Hp)(n id:Nat)(cm seen:List Nat)(o:Obj):PL B hp n id cm seen (Ft o)=lD B hp n (iW o++cm) (seen++[id]):=rfl
def UD{B id:Nat}(s:List Nat)(h:id<B):bJ B s id=Ft id:=by simp only[bJ,gB,nY h,yq]
def aeq{B id:Nat}(s:List Nat)(h:B<=id):bJ B s id=gV id s B:=by simp only[bJ,gB,rZ h,yO]
def aou(B:Nat)(f:Nat->Option Nat):fI B f []=[]:=rfl
def au0{B id:Nat}(f:Nat->Option Nat)(o:Obj)(r:Hp)(h:id<B):fI B f ((id,o)::r)=(id,gE f o)::fI B f r:=by rw[fI,nY h,yq]
def au1{B id:Nat}(f:Nat->Option Nat)(o:Obj)(r:Hp)(h:B<=id):fI B f ((id,o)::r)=fI B f r:=by rw[fI,rZ h,yO]
section
variable (B:Nat)(s:List Nat)
def aqY:eO (bJ B s) []=[]:=rfl
def aov(i:Nat)(v:AV)(r:Env):eO (bJ B s) ((i,v)::r)=(i,bm (bJ B s) v)::eO (bJ B s) r:=rfl
def au2(k:xd)(n:Int):bm (bJ B s) (.int k n)=.int k n:=rfl
def aqZ(b:Bool):bm (bJ B s) (.bool b)=.bool b:=rfl
def au3(t:List Nat):bm (bJ B s) (.str t)=.str t:=rfl
def au4(k:xW)(b:Nat):bm (bJ B s) (.ao k b)=.ao k b:=rfl
def au5(k:xW)(a b:Nat):bm (bJ B s) (.cW k a b)=.cW k a b:=rfl
def aq0:bm (bJ B s) .af=.af:=rfl
def aq1:bm (bJ B s) .gU=.gU:=rfl
def aq2:bm (bJ B s) .jl=.jl:=rfl
def aq3:bm (bJ B s) .jY=.jY:=rfl
def au6(e:Bool)(n:Nat)(cs:List AV):bm (bJ B s) (.au e n cs)=.au e n cs:=rfl
def aq4(cs:List AV):bm (bJ B s) (.bq cs)=.bq cs:=rfl
def aq5(a b:List AV):bm (bJ B s) (.jm a b)=.jm a b:=rfl
def aow:bm (bJ B s) .undef=.undef:=rfl
def au7(id o:Nat):bm (bJ B s) (.ptr id o)=Ow o (bJ B s id):=by cases h:bJ B s id<;>simp[bm,Ow,h]
def au8(id o n:Nat):bm (bJ B s) (.ap id o n)=Ox o n (bJ B s id):=by cases h:bJ B s id<;>simp[bm,Ox,h]
def awY(g:Nat)(a b:List AV):bm (bJ B s) (.fn (.f g) a b)=.fn (.f g) (dB (bJ B s) a) (dB (bJ B s) b):=rfl
def au9(cs:List AV):bm (bJ B s) (.agg cs)=.agg (dB (bJ B s) cs):=rfl
def ava(cs:List AV):bm (bJ B s) (.ax cs)=.ax (dB (bJ B s) cs):=rfl
def aq6:dB (bJ B s) []=[]:=rfl
def aox(v:AV)(r:List AV):dB (bJ B s) (v::r)=bm (bJ B s) v::dB (bJ B s) r:=rfl
def VW(hp:Hp)(r:List Nat)(k:Nat)(acc:Hp)(q:Option Obj):Hp:=match q with | some o=>ew hp (bJ B s) r (k+1) ((k,gE (bJ B s) o)::acc) | none=>ew hp (bJ B s) r (k+1) acc
def aq7(hp:Hp)(k:Nat)(acc:Hp):ew hp (bJ B s) [] k acc=acc:=rfl
def aoy(hp:Hp)(id:Nat)(r:List Nat)(k:Nat)(acc:Hp):ew hp (bJ B s) (id::r) k acc=VW B s hp r k acc (ai hp id):=by
 simp only[ew,VW];cases ai hp id<;>rfl
def avb(hp:Hp)(r:List Nat)(k:Nat)(acc:Hp)(o:Obj):VW B s hp r k acc (Ft o)=ew hp (bJ B s) r (k+1) ((k,gE (bJ B s) o)::acc):=rfl
end
def amj:refs .gU=[]:=rfl
def amk:refs .jl=[]:=rfl
def aml:refs .jY=[]:=rfl
def amm(a b:List AV):refs (.jm a b)=[]:=rfl
def aoz(cs:List AV):refs (.ax cs)=fH cs:=rfl
def aoA(k:xW)(a b:Nat):refs (.cW k a b)=[]:=rfl
def aq8(k:xW)(b:Nat):refs (.ao k b)=[]:=rfl
attribute [go_sem] auX aa6 D8 auY aqX aep UC auZ TY TZ UD aeq aou au0 au1 aqY aov au2 aqZ au3 au4 au5 aq0 aq1 aq2 aq3 au6 aq4 aq5 aow au7 au8 awY au9 ava aq6 aox aq7 aoy avb amj amk aml amm aoz aoA aq8
def aa7{B l:Nat}{J old:Hp}(hJ:∀p,p∈J->B<=p.1)(ho:kM B B old)(hl:l<B)(hn:(cI B old).length<=90000):iH B l (J++old)=(old,B):=by
 have h:=ajb (live:=[0]) (tm:=[(0,.fn (.y l) [] [])]) (ct:=0) (rs:=[]) (by simpa using hJ) (show kL B [(0,AV.fn (.y l) [] [])] from⟨⟨hl,rfl,rfl⟩,trivial⟩) (by simpa using ho) (show [l].length+_<100000 by simp only[yy,yH];omega) (by
  rw[tU.2 (fun x hx=>by have:=MP (yu B) ho x hx;simp[nY this])]
  rfl)
 have h2:=Z0 (lv:=[0]) (tm:=[(0,.fn (.y l) [] [])]) (hp:=J++old) (ct:=0) (B:=B) (l:=l) rfl rfl hl;simp only[fZ,yM,yH,yW] at h;rw[h] at h2;injection h2 with _ h3 h4
 exact Prod.ext h3.symm h4.symm
end VE
end
section
namespace VE
open Go (IntKind)
def kJ(k:Nat)(v:AV)(ps:List (List AV)):Prop:=((v=.af/\ps=[])\/∃e,v=.au e ps.length ps.flatten)/\∀p,p∈ps->p.length=k
section
variable {k:Nat}{v:AV}{ps:List (List AV)}{hp:Hp}
def kJ.len(h:kJ k v ps){hp:Hp}:fX hp 1 v=Ft (.int .i64 (ps.length:Nat)):=by
 rcases h.1 with ⟨rfl,rfl⟩ | ⟨e,rfl⟩<;>rfl
def kJ.pu(h:kJ k v ps):aW v=ydh:=by
 rcases h.1 with ⟨rfl,rfl⟩ | ⟨e,rfl⟩<;>rfl
def kJ.aj(h:kJ k v ps)(n:Nat){hp:Hp}:freeze (n+1) hp v=Ft (v,hp):=by
 rcases h.1 with ⟨rfl,rfl⟩ | ⟨e,rfl⟩<;>rfl
def kJ.bF(h:kJ k v ps):bF v=v:=by
 rcases h.1 with ⟨rfl,rfl⟩ | ⟨e,rfl⟩<;>rfl
def IX:∀{ps:List (List AV)},(∀p,p∈ps->p.length=k)->ps.flatten.length=ps.length*k
 | [],_=>by simp
 | p::ps,h=>by
  have:=IX (ps:=ps) (fun q hq=>h q (xL _ hq))
  grind
def R7:∀{ps:List (List AV)} {i:Nat},(∀p,p∈ps->p.length=k)->∀(hi:i<ps.length),∃rest,ps.flatten.drop (i*k)=ps[i]++rest
 | [],i,_,hi=>absurd hi (tB i)
 | p::ps,0,h,_=>⟨ps.flatten,by simp⟩
 | p::ps,i+1,h,hi=>by
  have⟨rest,e⟩:=R7 (ps:=ps) (i:=i) (fun q hq=>h q (xL _ hq)) (by simpa using hi);refine⟨rest,?_⟩;rw[show (i+1)*k=p.length+i*k by rw[h p wI,xP];lia,uB,<-vH,tP,e]
  rfl
def kJ.bh(h:kJ k v ps){i:Nat}(hi:i<ps.length):∃rest,gS k i v=Ft (.bq (ps[i]++rest)):=by
 obtain⟨rest,e⟩:=R7 h.2 hi;refine⟨rest,?_⟩;rcases h.1 with ⟨rfl,rfl⟩ | ⟨b,rfl⟩
 .grind
 .rw [NF b _ hi,e]
def SE:kJ k .af []:=⟨.inl ⟨rfl,rfl⟩,fun _ h=>by cases h⟩
def ab3(e:Bool)(h:∀p,p∈ps->p.length=k):kJ k (.au e ps.length ps.flatten) ps:=⟨.inr ⟨e,rfl⟩,h⟩
end
abbrev lE:=List Nat×List Nat
def mc(p:lE):List AV:=[.str p.1,.str p.2]
def jk(v:AV)(l:List lE):Prop:=kJ 2 v (l.map mc)
structure Lay where
 w:AV
 s:List (List Int)
 hh:List Nat
 sc:List Nat
 st:List Nat
 ox:List Nat
 oy:List Nat
 wx:List Nat
 wy:List Nat
def Lay.cs(a:Lay):List AV:=[a.w,.str a.hh,.str a.sc,.str a.st,.str a.ox,.str a.oy,.str a.wx,.str a.wy]
def Lay.T(a:Lay):AV:=lyT a.w a.hh a.sc a.st a.ox a.oy a.wx a.wy
section
variable {v:AV}{hp:Hp}
def jk.len{l:List lE}(h:jk v l){hp:Hp}:fX hp 1 v=Ft (.int .i64 (l.length:Nat)):=by
 have:=kJ.len (hp:=hp) h;rwa[yL] at this
def jk.pu{l:List lE}(h:jk v l):aW v=ydh:=kJ.pu h
def jk.aj{l:List lE}(h:jk v l)(n:Nat){hp:Hp}:freeze (n+1) hp v=Ft (v,hp):=kJ.aj h n
def jk.bF{l:List lE}(h:jk v l):VE.bF v=v:=kJ.bF h
def jk.bh{l:List lE}(h:jk v l){i:Nat}(hi:i<l.length):∃rest,gS 2 i v=Ft (.bq (.str l[i].1:: .str l[i].2::rest)):=by
 have⟨rest,e⟩:=kJ.bh h (i:=i) (by simpa using hi);refine⟨rest,?_⟩;rw[e,List.getElem_map];rfl
end
end VE
end
section
namespace VE
open Go (IntKind)
section
variable {v:AV}{l:List Rat}
def take_set{α:Type}{l:List α}{i:Nat}{a:α}(h:i<l.length):(l.set i a).take (i+1)=l.take i++[a]:=by
 rw[xa (by simpa using h),List.getElem_set_self,List.take_set_of_le (yu i)]
def stS{hp:Hp}{ct id o:Nat}{v:List Nat}{ex:Bool}{l:List (List Nat)}(h:o<l.length):gm hp ct id o 1 [.str v] (Ft (.cells ydh ydh ex 1 (l.map .str)))=Ft (.ax [],aU hp id (.cells ydh ydh ex 1 ((l.set o v).map .str)),ct):=by
 rw[qM (by rfl) (by simp;lia) (by rfl)]
 have:over o [.str v] (l.map .str)=(l.set o v).map .str:=by
  simp only[over,yy,yH,yd];rw[yaB,vD,yP (by simpa using h)]
  simp
 rw[this];rfl
def aze(ct:Nat){n:Nat}(h:n<=10000000000):zU ct 1 16 [.str []] (Ft n) (Ft n)=Ft (.ap ct 0 n,.cells ydh ydh ydh 1 ((yp n []).map .str)):=by
 rw[Gh (sz:=1) (by lia) (by lia) (by rfl) (by rfl)]
 have:∀n,(yp n [AV.str []]).flatten=(yp n []).map .str:=fun n=>by
  induction n with
  | zero=>rfl
  | succ n ih=>rw[wO,uB,ih,wO,yZ];rfl
 rw[this];rfl
def aq9(l:List (List Nat)):kj (.au ydh l.length (l.map .str)) l:=aqL ydh l
section
variable {P:aF}{L:Lib}
def azf(h:Has P L 160 GB)(hv:mG v l)(hl:l.length<=1000000){g:Nat}{p:Rat->Bool}(hg:∀w x,x∈l->cg w x->ah P L g [w] (.bool (p x))):∃n:Int,ah P L 160 [v,.fn (.f g) [] []] (aa n)/\decide (0<=n)=l.any p:=by
 have key:=ji P L [0,1,7,8] F6
  (fun k s=>∃i:Nat,i+k=l.length/\(l.drop i).any p=l.any p/\s=⟨[(0,v),(1,.fn (.f g) [] []),(7,aa l.length),(8,aa i)],[],0,0⟩)
  (fun ex s=>∃tm hp ct,s=⟨tm,hp,ct,0⟩/\((∃n:Int,ex=.ret/\ak tm 4=aa n/\0<=n/\l.any p=ydh)\/(ex=.exit 0/\l.any p=ydi))) ?_
 .unfold ah;rw[aJ h];simp only[go_sem,ya,GB,hv.len];generalize hq:D P L (.loop _ F6) _=q;obtain⟨ex,s,rfl,tm,hp,ct,rfl,h2⟩:=bN hq (key l.length) ⟨0,by lia,rfl,by simp only[go_sem,ya,aA,aE hv.pu]<;>rfl⟩
  rcases h2 with ⟨n,rfl,h2,h3,h4⟩ | ⟨rfl,h2⟩
  .exact ⟨n,by simp only[go_sem,h2]<;>rfl,by rw[h4];simpa using h3⟩
  .exact ⟨-1,by simp only[go_sem,aA]<;>rfl,by rw[h2];decide⟩
 .rintro k s ⟨i,hk,hf,rfl⟩;by_cases hi:i<l.length
  .have eD:(i:Int)<l.length:=by lia
   have⟨a,b,c,d,r,e1,hx⟩:=hv.bh hi;have e2:=hg _ _ (xk hi) hx;have gx:=hx.f4;rw[aaG hi] at hf
   cases eK:p l[i] with
   | false=>
    left
    rw[eK] at e2;simp only[go_sem,ya,F6,eD,e1,PJ,kN,gx.aj,e2];rw[eK,ybn] at hf;refine⟨_,k-1,rfl,by lia,i+1,by lia,hf,?_⟩;rw[wrap64 (by lia) (by lia)];simp only[go_sem,ya,aA,aE hv.pu]<;>rfl
   | true=>
    right
    rw[eK] at e2;simp only[go_sem,ya,F6,eD,e1,PJ,kN,gx.aj,e2];refine⟨_,_,rfl,by simp,_,_,_,rfl,.inl ⟨i,rfl,?_,by lia,?_⟩⟩
    .simp only [go_sem]
    .rw [<-hf,eK,ycy]
  .right
   simp only[go_sem,ya,F6,show ¬(i:Int)<l.length by lia];refine⟨_,_,rfl,by simp,_,_,_,rfl,.inr ⟨rfl,?_⟩⟩;rw[<-hf,xf (by lia)];rfl
def azg(h:Has P L 122 Kp)(GX:Has P L 160 GB)(hv:mG v l)(hl:l.length<=1000000){g:Nat}{p:Rat->Bool}(hg:∀w x,x∈l->cg w x->ah P L g [w] (.bool (p x))):ah P L 122 [v,.fn (.f g) [] []] (.bool (l.any p)):=by
 have⟨n,e1,e2⟩:=azf GX hv hl hg;unfold ah at e1 ⊢;rw[aJ h];simp only[go_sem,ya,Kp,hv.aj,e1,e2]
def azh(h:Has P L 123 Kq)(hT:Tx P L){K:Nat}(hv:mG v l)(hl:l.length<=1000000)(hk:∀x,x∈l->Hq K x)(hK:K<=4000000000):∃r,ah P L 123 [v] r/\kj (shut r) (l.map RT):=by
 have key:=ji P L [3,9,10,11] Js
  (fun k st=>∃(i:Nat) (out:List (List Nat)),i+k=l.length/\out.length=l.length/\out.take i=(l.take i).map RT/\st=⟨[(3,.ap 0 0 l.length),(9,v),(10,aa l.length),(11,aa i)],[(0,.cells ydh ydh ydh 1 (out.map .str))],1,0⟩)
  (fun ex st=>∃tm hp ct,st=⟨tm,hp,ct,0⟩/\ex=.exit 0/\ak tm 3=.ap 0 0 l.length/\ai hp 0=Ft (.cells ydh ydh ydh 1 ((l.map RT).map .str))) ?_
 .unfold ah;rw[aJ h];simp only[go_sem,ya,yc,Kq,hv.len,ZN (show (0:Int)<=l.length by lia),wJ,aze 0 (show l.length<=10000000000 by lia)];generalize hq:D P L (.loop _ Js) _=q;obtain⟨ex,st,rfl,tm,hp,ct,rfl,rfl,t3,g0⟩:=bN hq (key l.length) ⟨0,yp l.length [],by lia,by simp,by simp,by simp only[go_sem,ya,yc,aA,aE hv.pu]<;>rfl⟩
  refine⟨.cF ydh 1 l.length ((l.map RT).map .str),?_,?_⟩
  .simp only [go_sem,yc,aA,t3,g0];exact Rw (jB _ _ _) (by simp) (by decide)
  .have:=aq9 (l.map RT)
   rwa[yL] at this
 .rintro k st ⟨i,out,Bs,hlen,Gy,rfl⟩;by_cases hi:i<l.length
  .left
   have⟨a,b,c,d,r,e1,hx⟩:=hv.bh hi;have e2:=m46 hT hx (hk _ (xk hi)) hK;have gx:=hx.f4;unfold ah at e2
   simp only[go_sem,ya,yc,yk,Js,show (i:Int)<l.length by lia,e1,PJ,aV,gx.st,kN,gx.aj,yh,e2,ZN (show (0:Int)<=i by lia),wJ,cA 0 0 hi,yd,stS (l:=out) (o:=i) (by lia)];refine⟨_,k-1,rfl,by lia,i+1,out.set i (RT l[i]),by lia,by simpa using hlen,?_,?_⟩
   .rw [take_set (by lia),Gy,xa hi,xA];rfl
   .rw [wrap64 (by lia) (by lia)];simp only[go_sem,ya,yc,aA,aE hv.pu]<;>rfl
  .right
   have:i=l.length:=by lia
   subst this;rw[yG (by lia),yG (yu _)] at Gy;subst Gy;simp only[go_sem,ya,Js,show ¬(l.length:Int)<l.length by lia];exact⟨_,_,rfl,by simp,_,_,_,rfl,rfl,rfl,rfl⟩
noncomputable def Fo(p:lE):Int:=cD [fT p.1,fT p.2]
end
end
end VE
end
section
namespace VE
open Go (IntKind)
def Y4{α:Type}{f:α->Int}:∀{l:List α},cD (l.map f)=0->∀a,a∈l->f a=0
 | [],_,_,h=>by cases h
 | x::l,h,a,ha=>by
  rw[yZ,ajR] at h;rcases xI.1 ha with rfl | ha
  .grind
  .exact Y4 h.2 a ha
end VE
end
section
namespace VE
open Go (IntKind)
section
variable {v:AV}{l:List Int}
section
variable {P:aF}{L:Lib}
def agd(h:Has P L 677 Ph)(hv:bn v l)(hl:l.length<=1000000):ah P L 677 [v] (aa (cD l)):=by
 unfold ah;rw[aJ h];simp only[go_sem,ya,Ph,hv.len];have key:=Sv (P:=P) (L:=L) (live:=[5,6,7]) (a:=NX)
  (I:=fun k s=>∃tm ct i,s=⟨tm,[],ct,0⟩/\ak tm 5=v/\ak tm 6=aa l.length/\ak tm 7=aa (i:Nat)/\i+k=l.length/\cD (l.drop i)=cD l)
  (Q:=fun ex s=>∃tm,s=⟨tm,[],0,0⟩/\((ex=.ret/\ak tm 2=aa (cD l))\/(ex=.exit 0/\cD l=0))) ?_ l.length
 .generalize hq:D P L (.loop _ NX) _=q;obtain⟨ex,s,rfl,tm,rfl,h2⟩:=bN hq key ⟨_,_,0,rfl,rfl,rfl,rfl,by omega,rfl⟩;rcases h2 with ⟨rfl,h2⟩ | ⟨rfl,h2⟩
  .simp only [go_sem,h2]
  .rw [h2];simp only[go_sem]
 .rintro k s ⟨tm,ct,i,rfl,h5,h6,h7,hk,hf⟩;rw[X2 (by simp only[go_sem,h5,h6,h7,hv.pu])];simp only[go_sem,ya,h5,h6,h7,NX];by_cases hi:i<l.length
  .have eD:(i:Int)<l.length:=by omega
   rw[Yl hi] at hf;by_cases hz:l[i]=0
   .left
    simp only[go_sem,ya,eD,hv.bh hi,hz];refine⟨_,k-1,rfl,by omega,_,_,i+1,rfl,?_⟩;rw[wrap64 (by omega) (by omega)];rw[yP hz] at hf;simp only[go_sem,ya];exact⟨trivial,trivial,rfl,by omega,hf⟩
   .right
    simp only[go_sem,ya,eD,hv.bh hi,hz];rw[yz hz] at hf;refine⟨_,_,rfl,by simp,_,rfl,.inl ⟨rfl,?_⟩⟩;simp only[go_sem,hf]
  .right
   have eD:¬(i:Int)<l.length:=by omega
   simp only[go_sem,eD];refine⟨_,_,rfl,by simp,_,rfl,.inr ⟨rfl,?_⟩⟩;rw[<-hf,xf (by omega)];rfl
def K8(h:Has P L 692 GH)(b:Bool)(n:Int):ah P L 692 [.bool b,aa n] (aa (if b=ydh then n else 0)):=by
 unfold ah;rw[aJ h]
 cases b with
 | true=>simp only[go_sem,ya,GH,xQ]
 | false=>simp only[go_sem,ya,GH];rfl
def VX(h:Has P L 676 GG)(Bk:Has P L 692 GH)(n lo hi:Int):ah P L 676 [aa n,aa lo,aa hi] (aa (if n<lo\/hi<n then 3 else 0)):=by
 unfold ah;rw[aJ h];by_cases h1:n<lo
 .simp only [go_sem,ya,GG,h1,true_or,xQ,K8 Bk]
 .by_cases h2:hi<n
  .simp only [go_sem,ya,GG,h1,h2,or_true,xQ,K8 Bk]
  .simp only [go_sem,ya,GG,h1,h2,or_self,xy,K8 Bk];rfl
def age(h:Has P L 647 GF)(hv:bn v l)(hl:l.length<=1000000):ah P L 647 [v] (aa (cD l)):=by
 unfold ah;rw[aJ h];simp only[go_sem,GF];have key:=Sv (P:=P) (L:=L) (live:=[0,3]) (a:=NW)
  (I:=fun k s=>∃tm ct i,s=⟨tm,[],ct,0⟩/\ak tm 0=v/\ak tm 3=aa (i:Nat)/\i+k=l.length/\cD (l.drop i)=cD l)
  (Q:=fun ex s=>∃tm,s=⟨tm,[],0,0⟩/\((ex=.ret/\ak tm 2=aa (cD l))\/(ex=.exit 0/\cD l=0))) ?_ l.length
 .generalize hq:D P L (.loop _ NW) _=q;obtain⟨ex,s,rfl,tm,rfl,h2⟩:=bN hq key ⟨_,_,0,rfl,rfl,rfl,by omega,rfl⟩;rcases h2 with ⟨rfl,h2⟩ | ⟨rfl,h2⟩
  .simp only [go_sem,h2]
  .rw [h2];simp only[go_sem]
 .rintro k s ⟨tm,ct,i,rfl,h0,h3,hk,hf⟩;rw[X2 (by simp only[go_sem,h0,h3,hv.pu])];simp only[go_sem,ya,h0,h3,NW,hv.len];by_cases hi:i<l.length
  .have eD:(i:Int)<l.length:=by omega
   rw[Yl hi] at hf;by_cases hz:l[i]=0
   .left
    simp only[go_sem,ya,eD,hv.bh hi,hz];refine⟨_,k-1,rfl,by omega,_,_,i+1,rfl,?_⟩;rw[wrap64 (by omega) (by omega)];rw[yP hz] at hf;simp only[go_sem,ya];exact⟨trivial,rfl,by omega,hf⟩
   .right
    simp only[go_sem,ya,eD,hv.bh hi,hz];rw[yz hz] at hf;refine⟨_,_,rfl,by simp,_,rfl,.inl ⟨rfl,?_⟩⟩;simp only[go_sem,hf]
  .right
   have eD:¬(i:Int)<l.length:=by omega
   simp only[go_sem,eD];refine⟨_,_,rfl,by simp,_,rfl,.inr ⟨rfl,?_⟩⟩;rw[<-hf,xf (by omega)];rfl
def agf(K9:Has P L 686 KK)(PN:Has P L 122 Kp)(PO:Has P L 123 Kq)(GX:Has P L 160 GB)(hT:Tx P L){l:List Rat}{K:Nat}(hv:mG v l)(hl:l.length<=1000000)(hk:∀x,x∈l->Hq K x)(hK:K<=4000000000):
  (l.any LG=ydh->ah P L 686 [v] (.ax [.af,aa 4]))/\(l.any LG=ydi->∃r,kj r (l.map RT)/\ah P L 686 [v] (.ax [r,aa 0])):=by
 have e1:=azg PN GX hv hl (g:=107) (p:=LG) (fun w x hx hw=>ayG hT hw (hk x hx) hK);obtain⟨r,e2,hr⟩:=azh PO hT hv hl hk hK;unfold ah at e1 e2 ⊢;constructor
 .intro ha;rw[ha] at e1;rw[aJ K9];simp only[go_sem,ya,KK,hv.aj,e1]
 .intro ha;rw[ha] at e1;refine⟨_,hr,?_⟩;rw[aJ K9];simp only[go_sem,ya,KK,hv.aj,e1,e2];rcases hr with ⟨hr,_⟩ | ⟨e,hr⟩<;>rw[hr]<;>rfl
end
end
end VE
end
section
namespace VE
open Go (IntKind)
def fO{z:Int}(h:z.natAbs<2^40):Hq 40 (z:Rat):=by
 refine⟨?_,?_⟩
 .rw [uI];unfold Bd;omega
 .rw [uJ];unfold Bd;decide
end VE
end
section
namespace VE
open Go (IntKind)
def ara(z:Int):nF (decide (z<0)) (z.natAbs*2^149)=(z:Rat):=by
 have h1:bX (decide (z<0)) (z.natAbs*2^149)=z*((2^149:Nat):Int):=by
  unfold bX;by_cases h:z<0
  .rw [xT h,yP rfl];have e:(z.natAbs:Int)= -z:=by omega
   generalize (2^149:Nat)=g;rw[xZ,e,ycV,yau]
  .rw [xv h,yz (by decide)];have e:(z.natAbs:Int)=z:=by omega
   generalize (2^149:Nat)=g;rw[xZ,e]
 unfold nF;rw[h1,Rat.intCast_mul];have h2:(((2^149:Nat):Int):Rat)=p2 149:=(mv 149).symm;rw[h2,vX,<-mW,show (149:Int)+ -149=0 from rfl,K4,vZ]
end VE
end
section
namespace VE
open Go (IntKind)
section
variable {s:Bool}{M b:Nat}
def fb(z:Int):Nat:=ycK.write (.number (z<0) z.natAbs 0)
def azi:fb 0=0:=by decide+kernel
def azj:fb 1=1065353216:=by decide+kernel
def awZ{z:Int}(h:z.natAbs<=16777216):Fl (fb z) (z<0) (z.natAbs*2^149):=Fl.ofInt h
def avc(hb:Fl b s M):binOp .sub (.ao .f32 b) (.ao .f32 b)=Ft (.ao .f32 0):=by
 have hf:=hb.fin;unfold gG at hf
 cases hr:ycK.read b with
 | number s m e=>
  have h1:tH.format.sub b b=Ft 0:=ab2 hr;simp[binOp,Ec,h1]
 | _=>rw[hr] at hf;cases hf
def azk:binOp .eql (.ao .f32 0) (.ao .f32 0)=Ft (.bool ydh):=by rfl
section
variable {P:aF}{L:Lib}
def aw0(La:Has P L 231 Kx)(hb:Fl b s M):ah P L 231 [.ao .f32 b] (.bool ydh):=by
 unfold ah;rw[aJ La];simp only[go_sem,ya,Kx,avc hb,azk]
 first | done | rfl
def aw1(hx:Fx P L)(ht:Tx P L)(La:Has P L 231 Kx)(VY:Has P L 203 O2)(hb:Fl b s M):ah P L 203 [.ao .f32 b] (.ax [.str (RT (nF s M)),aa 0]):=by
 have e1:=aw0 La hb;obtain⟨r,e2,hr⟩:=aza hx hb;have e3:=m46 ht hr (aeo hb) (by decide);obtain⟨v1,v2,v3,v4,rfl,fv⟩:=hr.gen;unfold ah at e1 e2 e3;unfold ah;rw[aJ VY];simp only[go_sem,ya,O2,zx,e1,e2,e3,fv.aj,bC,xO];rfl
def azl(ht:Tx P L)(VZ:Has P L 685 Pj)(hb:Fl b s M)(e1:ah P L 203 [.ao .f32 b] (.ax [.str (RT (nF s M)),aa 0])):∃r,ah P L 685 [.ao .f32 b] r/\cg r (nF s M):=by
 have hl:=JW (aeo hb);obtain⟨r,e2,hr⟩:=m62 ht (a:=nF s M) (by omega);have bA:=hr;obtain⟨v1,v2,v3,v4,rfl,fv⟩:=hr.gen;refine⟨_,?_,bA⟩;unfold ah at e1 e2 ⊢;rw[aJ VZ];simp only[go_sem,ya,yc,Pj,aV,zx,e1,aaA,YS,ZI,e2,bC,fv.st,c9,db,yh,kN,fv.eb]
end
structure Exc(P:aF)(L:Lib):Prop extends Fx P L,Tx P L where
 VY:Has P L 203 O2
 La:Has P L 231 Kx
 VZ:Has P L 685 Pj
end
end VE
end
section
namespace VE
open Go (IntKind)
def jL.snoc{α β:Type}{p:α->β->Prop}:∀{l:List α} {m:List β} {a:α} {b:β},jL p l m->p a b->jL p (l++[a]) (m++[b])
 | [],[],_,_,_,h=>⟨h,trivial⟩
 | _::_,_::_,_,_,h,k=>⟨h.1,jL.snoc h.2 k⟩
end VE
end
section
namespace VE
open Go (IntKind)
def eP{β:Type}(p:AV->β->Prop)(v:AV)(M:List β):Prop:=∃rows,cp v rows/\jL p rows M
section
variable {β:Type}{p:AV->β->Prop}{v:AV}{s:List β}
def eP.len(h:eP p v s){hp:Hp}:fX hp 1 v=Ft (.int .i64 (s.length:Nat)):=by
 have⟨rows,h1,h2⟩:=h;rw[<-h2.len];exact h1.len
def eP.pu(h:eP p v s):aW v=ydh:=by have⟨rows,h1,h2⟩:=h;exact h1.pu
def eP.aj(h:eP p v s)(n:Nat){hp:Hp}:freeze (n+1) hp v=Ft (v,hp):=by have⟨rows,h1,h2⟩:=h;exact h1.aj n
def eP.one(h:eP p v s):cL v=ydh:=by have⟨rows,h1,h2⟩:=h;exact h1.one
def eP.cells(h:eP p v s):cellsOf v=[v]:=by have⟨rows,h1,h2⟩:=h;exact h1.cells
def eP.bh(h:eP p v s){i:Nat}(hi:i<s.length):∃r rest,p r s[i]/\gS 1 i v=Ft (.bq (r::rest)):=by
 have⟨rows,h1,h2⟩:=h;have eD:i<rows.length:=by rw[h2.len];exact hi
 exact⟨_,_,h2.get eD hi,h1.bh eD⟩
def amn:eP p .af []:=⟨[],rT,trivial⟩
def SF(e:Bool){rows:List AV}(h:jL p rows s):eP p (.au e s.length rows) s:=by
 have:=Jg e rows
 rw[h.len] at this;exact⟨rows,this,h⟩
end
end VE
end
section
namespace VE
open Go (IntKind)
def rh(f:Nat->Nat->Int)(n A B:Nat):Int:=dC (fun a=>dC (fun b=>f a b) n) A+dC (fun b=>f A b) B
end VE
end
section
namespace VE
open Go (IntKind)
def ajm{α:Type}{f:α->Int}{l:List α}{i:Nat}(h:i<l.length):cD ((l.drop i).map f)=if f l[i]=0 then cD ((l.drop (i+1)).map f) else f l[i]:=by
 rw[yR h,yZ,cD]
end VE
end
section
namespace VE
open Go (IntKind)
section
variable {P:aF}{L:Lib}
def azm(h:Fr' P L)(EO:Has P L 720 GJ){v w:AV}{s:Rat}{l:List Rat}{K M:Nat}(hv:cg v s)(hw:mG w l)(ks:Hq M s)(kl:∀x,x∈l->Hq K x)(hl:l.length<=1000000)(hK:M+l.length*(K+1)+K<=1000000000):∃r,ah P L 720 [w,v,.fn (.f 74) [] []] r/\cg r (pH s l):=by
 have key:=ji P L [2,4,6,9,10,11] JP
  (fun k st=>∃i:Nat,i+k=l.length/\∃c1 c2 c3 c4,cg (.agg [c1,c2,c3,c4]) (pH s (l.take i))/\st=⟨[(2,.fn (.f 74) [] []),(4,.ptr 0 0),(6,.ptr 1 0),(9,w),(10,aa l.length),(11,aa i)],[(1,.cells ydh ydh ydh 4 [.int .i64 0,.af,.int .i64 0,.af]),(0,.cells ydh ydh ydh 4 [c1,c2,c3,c4])],2,0⟩)
  (fun ex st=>∃tm hp ct c1 c2 c3 c4,cg (.agg [c1,c2,c3,c4]) (pH s l)/\st=⟨tm,hp,ct,0⟩/\ex=.exit 0/\ak tm 4=.ptr 0 0/\ak tm 6=.ptr 1 0/\ai hp 0=Ft (.cells ydh ydh ydh 4 [c1,c2,c3,c4])/\ai hp 1=Ft (.cells ydh ydh ydh 4 [.int .i64 0,.af,.int .i64 0,.af])) ?_
 .have fa:=hv;obtain⟨v1,v2,v3,v4,rfl,gv⟩:=hv.gen;unfold ah;rw[aJ EO];simp only[go_sem,ya,yc,GJ,gv.bx,aV,hw.len];generalize hq:D P L (.loop _ JP) _=q;obtain⟨ex,st,rfl,tm,hp,ct,c1,c2,c3,c4,h1,rfl,rfl,t4,t6,g0,g1⟩:=bN hq (key l.length) ⟨0,by omega,v1,v2,v3,v4,by simpa[pH] using fa,by simp only[go_sem,ya,yc,aA,aE hw.pu]<;>rfl⟩
  have g:=h1.f4;refine⟨_,?_,h1⟩;simp only[go_sem,ya,yc,aA,t4,t6,g0,g1,kN,g.st,c9,db,yh];exact g.eb _
 .rintro k st ⟨i,hk,c1,c2,c3,c4,hs,rfl⟩;by_cases hi:i<l.length
  .left
   obtain⟨a,b,c,d,r,e1,hx⟩:=hw.bh hi;obtain⟨y,e2,hy⟩:=Qz h hs hx (K:=M+l.length*(K+1)+K) ((aqP ks kl i).mono (by omega)) ((kl _ (xk hi)).mono (by omega)) (by omega);rw[<-amf hi] at hy;have Me:=hy;obtain⟨y1,y2,y3,y4,rfl,gy⟩:=hy.gen;have gs:=hs.f4;have gx:=hx.f4;unfold ah at e2;simp only[go_sem,ya,yc,JP,show (i:Int)<l.length by omega,e1,PJ,kN,aV,gx.st,e2,gs.aj,gx.aj,gy.st,bC,yh];refine⟨_,k-1,rfl,by omega,i+1,by omega,y1,y2,y3,y4,Me,?_⟩;rw[wrap64 (by omega) (by omega)];simp only[go_sem,ya,yc,aA,aE hw.pu]<;>rfl
  .right
   simp only[go_sem,ya,JP,show ¬(i:Int)<l.length by omega];rw[yG (by omega)] at hs;exact⟨_,_,rfl,by simp,_,_,_,c1,c2,c3,c4,hs,rfl,rfl,by simp only[go_sem,ya],by simp only[go_sem,ya],by simp only[go_sem,ya],by simp only[go_sem]⟩
def azn(h:Fr' P L)(EO:Has P L 720 GJ)(Lb:Has P L 674 KI){w:AV}{l:List Rat}{K:Nat}(hw:mG w l)(kl:∀x,x∈l->Hq K x)(hl:l.length<=1000000)(hK:40+l.length*(K+1)+K<=1000000000):∃r,ah P L 674 [w] r/\cg r (pH 0 l):=by
 obtain⟨z,e0,hz⟩:=Hs h (z:=0) (by omega) (by omega);have hz:cg z 0:=hz;obtain⟨r,e1,hr⟩:=azm h EO hz hw (fO (z:=0) (by decide)) kl hl hK;obtain⟨z1,z2,z3,z4,rfl,gz⟩:=hz.gen;have bA:=hr;obtain⟨r1,r2,r3,r4,rfl,gr⟩:=hr.gen;refine⟨_,?_,bA⟩;unfold ah at e0 e1 ⊢;rw[aJ Lb];simp only[go_sem,ya,yc,KI,aV,hw.aj,e0,gz.aj,bC,e1,gr.st,c9,db,yh,kN];exact gr.eb _
end
end VE
end
