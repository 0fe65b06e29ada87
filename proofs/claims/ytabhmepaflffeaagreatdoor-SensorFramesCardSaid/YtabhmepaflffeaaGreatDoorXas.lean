import Ieee.Arith
import Derived.Test.YtabhmepaflffeaaGreatDoorXaq
set_option linter.all false
set_option maxRecDepth 100000
open Bool renaming and_eq_true->yf,and_self->vh,and_true->uX,false_and->ve,false_eq_true->yD,false_or->vI,not_false->yM,not_true->yL,toNat_false->ybW,true_and->wE,true_or->uH,xor_false->ycn
open Int renaming add_zero->ycV,gcd->vC,le_of_lt->tR,le_refl->ydl,lt_irrefl->ycR,lt_trichotomy->uQ,mul_add->ydo,mul_le_mul->ycy,mul_le_mul_of_nonneg_left->uL,mul_neg->ydn,mul_nonneg->yaa,natAbs_ediv_of_dvd->tx,natAbs_natCast->xV,natCast_add->ybn,natCast_ediv->yce,natCast_mul->xD,natCast_nonneg->yaQ,neg_neg->yaJ,ofNat_eq_natCast->ybx,ofNat_le->yda,ofNat_lt->tQ,pow_pos->ydp,pow_succ->yau,sub_self->ycX,tdiv_eq_ediv_of_nonneg->xQ,tmod_eq_emod_of_nonneg->xK,toNat_natCast->wA,toNat_of_nonneg->xW,zero_add->ycY
open Int.ofNat renaming inj->yaF
open List renaming append_assoc->xt,append_nil->wZ,cons_append->yI,drop->vP,drop_drop->vS,drop_eq_getElem_cons->yX,drop_eq_nil_of_le->y9,drop_left->yar,drop_zero->ye,eq_nil_of_length_eq_zero->yE,getD_eq_getElem?_getD->yV,getElem?_eq_getElem->xn,getElem_cons_zero->vB,length_append->yO,length_cons->yH,length_drop->wP,length_map->y5,length_nil->yR,length_pos_iff->tz,length_take->yU,map_append->xu,map_cons->xb,map_nil->wO,mem_cons->we,nil_append->yN,replicate->yj,set_eq_of_length_le->yaV,take_append_drop->wh,take_left->tY,take_length->xR,take_of_length_le->yK,take_set->yaW,take_succ_eq_append_getElem->xm
open List.cons renaming injEq->uA
open Nat renaming add_assoc->td,add_comm->yay,add_mod_left->ycg,add_mul->xS,add_zero->yY,beq->yu,ble->yG,blt->yP,div_add_mod->xE,div_eq_of_lt->xP,div_le_self->wU,div_lt_iff_lt_mul->xC,div_pos->ydm,eq_of_beq_eq_true->yi,eq_zero_or_pos->xi,gcd->vJ,gcd_comm->yak,le_log2->ydk,le_mul_of_pos_left->um,le_mul_of_pos_right->tH,le_of_ble_eq_true->yA,le_of_lt_succ->uf,le_of_not_lt->ycc,le_refl->yz,le_trans->y7,log2->ycx,log2_lt->ybw,lt_log2_self->ych,lt_of_le_of_lt->xL,lt_of_lt_of_le->yF,lt_or_ge->vn,lt_trans->vH,min_eq_left->xo,mod_add_div->uz,mod_eq_of_lt->yQ,mod_eq_zero_of_dvd->ybi,mod_lt->xq,mul_add->xH,mul_add_div->tB,mul_add_mod->yao,mul_assoc->xf,mul_comm->xd,mul_div_cancel->uh,mul_dvd_mul_left->yby,mul_le_mul->y8,mul_le_mul_left->yW,mul_le_mul_right->yT,mul_lt_mul''->yaE,mul_lt_mul_of_pos_right->xY,mul_mod_left->tG,mul_one->yg,mul_pos->vd,mul_zero->xF,ne_of_gt->uR,not_lt_zero->yam,one_dvd->yds,one_lt_two_pow->vA,one_shiftLeft->ybV,pow_add->xB,pow_le_pow_left->tD,pow_le_pow_right->xc,pow_lt_pow_iff_right->uo,pow_lt_pow_right->vG,pow_mul->yaI,pow_pos->ycm,pow_succ->xh,pow_zero->vV,reduceAdd->yb,reduceEqDiff->ya,reduceLT->yv,reduceLeDiff->yh,reduceMul->xy,shiftLeft_eq->ud,succ_mul->ycW,two_pow_pos->xe,zero_add->yd,zero_le->tL,zero_mul->wo
open Option.some renaming injEq->yc
open Rat renaming den_intCast->vz,den_pow->ydr,divInt->wN,floor_def->yba,floor_le->ydc,intCast_lt_intCast->uS,intCast_neg->uV,le_floor_iff->yci,le_of_lt->uT,le_trans->ydb,lt_irrefl->tk,mul_assoc->wv,mul_comm->yav,mul_lt_mul_right->wK,mul_nonneg->ycA,mul_one->wJ,natCast_mul->xI,not_le->tc,not_lt->uC,num_intCast->vL,num_pow->ydq,one_mul->tn,zpow_natCast->tI,zpow_neg->ycZ
open Option renaming some->GR
open Bool renaming true->ydB,false->ydC
namespace VE
open Go (IntKind)
variable {P:aE}{L:Lib}
variable{v:AV}{tm:Env}{hp:Hp}{S Y bo e0 x:Int}{out vs:List Int}{A K M N V ct d m0 u0 u1 u2:Nat}{a:Rat}
def aoH:∀(cs:List AV) (l:List Nat),AQ cs=GR l->cs=l.map uc/\lo 18446744073709551616 l:=by
 intro cs
 induction cs with
 | nil=>
  intro l h;simp only[AQ,yc] at h;subst h;exact⟨rfl,fun _ h=>by cases h⟩
 | cons c cs ih=>
  intro l h;unfold AQ at h
  split at h
  .grind
  .rename_i d r Al;cases Al
   cases hb:yP d 18446744073709551616 with
   | false=>rw[hb] at h;cases h
   | true=>
    rw[hb] at h
    cases hw:AQ cs with
    | none=>rw[hw] at h;cases h
    | some l'=>
     rw[hw] at h;cases h;have⟨k1,k2⟩:=ih l' hw;refine⟨by rw[k1];rfl,fun x hx=>?_⟩
     rcases we.1 hx with rfl | hx
     .simp_all
     .exact k2 x hx
  .cases h
def adA:∀{l:List Nat},DG l=ydB->jj l
 | [],h=>by cases h
 | [a],h=>by
  have h0:a≠0:=fun e=>by subst e;cases h
  exact GZ h0 []
 | a::b::r,h=>by
  have h1:eM (b::r)=b::r:=adA (l:=b::r) h;show eM (a::(b::r))=_
  simp only[eM] at h1 ⊢;rw[h1]
def auL(h:Has P L 99 Gs)(Zf:L.pure 135=GR L2){s:Int}(hs:DD s=ydB):bZ P L (D P L) 99 [.agg [aa s,.aj]]=GR (.str (bh s)):=by
 have e1:bZ P L (D P L) 135 [aa s]=GR (.str (bh s)):=by
  rw[jY Zf];show (bif DD s then GR (AV.str (bh s)) else none)=_
  rw[hs];rfl
 rw[aB h];simp only[go_sem,ya,yb,Gs,aT,aP,yd,dt,jb,eQ,e1]
section
open Go
variable {O:bE}
def aqe(hO:jo O)(hN:Nu O.prog O.aK)(Zf:O.aK.pure 135=GR L2)(F3:O.aK.pure 138=GR CY)(Cs:O.aK.pure 139=GR Di)(I1:Has O.prog O.aK 99 Gs){fn:Func}{c:Code}(nn:O.P.funcs[O.ae 99]? =GR fn)(kT:fn.body=GR c)(Tm:fn.ntmps=69)(Zc:SA 5 c)(ht:Wt O.P c):∀ax r,Qa ax=GR r->eR O 99 ax r:=by
 intro ax r h;unfold Qa at h
 split at h
 .rename_i s
  cases hs:DD s with
  | false=>rw[hs] at h;cases h
  | true=>
   rw[hs] at h;cases h;have⟨k,hk⟩:=age (auL (P:=O.prog) (L:=O.aK) I1 Zf hs);exact sound hO hk
 .rename_i s e n cs
  cases hw:AQ cs with
  | none=>rw[hw] at h;cases h
  | some l=>
   rw[hw] at h;simp only at h
   cases hb:(yu l.length n&&(yG n 4000000000&&(DG l&&yG 9223372036854775808 (Bb l)))) with
   | false=>rw[hb] at h;cases h
   | true=>
    rw[hb] at h;simp only[yf] at hb;have⟨h1,h2,h3,h4⟩:=hb;obtain⟨rfl,aY⟩:=aoH cs l hw;have h1:=yi h1;subst h1;have h2:=yA h2;have h4:=yA h4;have h3:=adA h3;rw[Wr] at h4 h;have aG:=nH aY;have key:=fun (s z:Int) (hz:z.natAbs=bv 18446744073709551616 l) (hs:s=if z<0 then -1 else 1)=>
     ash hO hN F3 Cs I1.code nn kT Tm Zc ht (s:=s) (z:=z) (e:=e) (l:=l) (.inr ⟨e,l,rfl,aY,h3,hz.symm,hs,by lia⟩) (by lia) h2 (by lia)
    split at h
    .cases h
     have:=key 1 (bv 18446744073709551616 l:Nat) (by simp) (by rw[yq (by lia)])
     exact this
    .cases h
     have:=key (-1) (-(bv 18446744073709551616 l:Nat):Int) (by simp) (by rw[yC (by lia)])
     rw[rZ (by lia)] at this
     grind
    .cases h
 .cases h
end
section
open Go
def LJ(L:Lib)(n:Nat)(sp:List AV->Option AV):Lib:=⟨fun i=>bif yu i n then GR sp else L.pure i,L.heap⟩
def Vr{O:bE}(hO:jo O){n:Nat}{sp:List AV->Option AV}(h:∀ax r,sp ax=GR r->eR O n ax r):jo (O.sf (LJ O.aK n sp)) where
 hint:=hO.hint
 mixed:=hO.mixed
 prog:=hO.prog
 aK i TD ax r hi hs:=by
  show eR O i ax r
  simp only[LJ] at hi
  cases hb:yu i n with
  | true=>
   simp_all
  | false=>
   rw[hb] at hi;exact hO.aK i TD ax r hi hs
 HX i TD hp ct ax v ap aQ hi hs:=adk (hO.HX i TD hp ct ax v ap aQ hi hs)
end
def Qb(n:Nat):10^n<=2^(4*n):=by
 rw[yaI];exact tD (by decide) n
def adB{b:Nat}{r:List Nat}(h:fj (b::r)=ydB):48<=b/\b<=57:=by
 simp only[fj,yf] at h
 simp_all
def agv(h:Tx P L){ds:List Nat}(hD:cZ ds 0=GR N)(hl:ds.length<=4000000000){neg:Bool}{o1 o2:AV}:
  cG P L [0,2,3,4] Hl (fun m st=>∃(pre rest:List Nat) (a:Nat) (s:Int) (w:AV),st=⟨[(0,.str rest),(2,.ptr 0 0),(3,.bool neg),(4,.ptr 1 0)],[(1,.cells ydB ydB ydB 2 [aa s,w]),(0,.cells ydB ydB ydB 2 [o1,o2])],2,0⟩/\ds=pre++rest/\cZ pre 0=GR a/\dU s w a/\rest.length=m) (fun ex st'=>∃tm s w,st'=⟨tm,[(1,.cells ydB ydB ydB 2 [aa s,w]),(0,.cells ydB ydB ydB 2 [o1,o2])],2,0⟩/\ex=.exit 0/\ak tm 2=.ptr 0 0/\ak tm 3=.bool neg/\ak tm 4=.ptr 1 0/\dU s w N):=by
 apply cI;rintro m st ⟨pre,rest,a,s,w,rfl,GB,fg,hn,rfl⟩;have⟨l1,u1⟩:=hn.aH;have mW:=hD;rw[GB,Kz,fg] at mW;have mW:cZ rest a=GR N:=mW;have hlen:pre.length+rest.length<=4000000000:=by rw[GB,yO] at hl;exact hl
 by_cases h0:rest.length=0
 .right
  have hr:rest=[]:=yE h0;subst hr
  have:a=N:=by simpa[cZ] using mW
  subst this;simp only[go_sem,Hl,yR,show ¬(0:Int)<((0:Nat):Int) by lia];exact⟨_,_,rfl,by simp,_,s,w,rfl,rfl,rfl,rfl,rfl,hn⟩
 .left
  obtain⟨n,rJ⟩:∃n,n=min 18 rest.length:=⟨_,rfl⟩;have aiH:(if (rest.length:Int)<18 then (rest.length:Int) else 18)=(n:Int):=by split<;>lia
  have kR:rest.take n++rest.drop n=rest:=wh n rest;obtain⟨a',Gk⟩:∃a',cZ (rest.take n) a=GR a':=by
   rw[<-kR,Kz] at mW
   cases hq:cZ (rest.take n) a with
   | none=>rw[hq] at mW;cases mW
   | some a'=>exact⟨a',rfl⟩
  obtain⟨v,hv⟩:∃v,cZ (rest.take n) 0=GR v:=by
   have:∀(l:List Nat) (x y b:Nat),cZ l x=GR y->∃z,cZ l b=GR z:=by
    intro l
    induction l with
    | nil=>intro x y b _;exact⟨b,rfl⟩
    | cons c l ih=>
     intro x y b hh;simp only[cZ] at hh ⊢
     cases hb:(yG 48 c&&yG c 57) with
     | false=>rw[hb] at hh;cases hh
     | true=>rw[hb] at hh;exact ih _ _ _ hh
   exact this _ _ _ 0 Gk
  have ajL:=asf (a:=a) hv;have htl:(rest.take n).length=n:=by rw[yU];lia
  rw[htl,Gk,yc] at ajL;have Zg:=Ws hv;rw[htl] at Zg;have aI2:v<1000000000000000000:=yF Zg (xc (n:=10) (by decide) (show n<=18 by lia));have e1:=auI (P:=P) h.Y7 (f:=D P L) (s:=rest.take n) (by lia) (by lia) hv;have⟨t1,t2⟩:=Cr h.toNu (z:=10) (by decide) (by decide);have⟨t3,t4⟩:=Cr h.toNu (z:=(v:Int)) (by lia) (by lia);have⟨p,e2,hp⟩:=Za h.toNu h.rk t2 (K:=4) (k:=n) (by unfold Bd;decide) (by lia) (by lia)
  have halt:=Ws fg;have ba:Bd (4*pre.length) (a:Int):=yF halt (Qb _);have bp:Bd (4*n+1) ((10:Int)^n):=Bd.pow (k:=4) (by unfold Bd;decide) n
  have⟨q,e3,hq⟩:=Ba h.toNu (v:=.agg [aa s,w]) ⟨s,w,rfl,hn⟩ hp (K:=4*pre.length+4*n+1) (ba.mono (by lia)) (bp.mono (by lia)) (by lia);have bv':Bd (4*n) (v:Int):=yF Zg (Qb _);have⟨r,e4,hr⟩:=MZ h.toNu hq t4 (K:=4*pre.length+4*n+1) ((ba.mul bp).mono (by lia)) (bv'.mono (by lia)) (by lia);have aM:(a:Int)*10^n+(v:Int)=(a':Int):=by
   rw[ajL]
   simp
  rw[aM] at hr;obtain⟨s2,w2,rfl,h2⟩:=hp;obtain⟨s3,w3,rfl,h3⟩:=hq;obtain⟨s4,w4,rfl,h4⟩:=hr;have⟨l2,u2⟩:=h2.aH;have⟨l3,u3⟩:=h3.aH;have⟨l4,u4⟩:=h4.aH;have un:=zJ;have c1:lS rest (GR 0) (GR n)=GR (.str (rest.take n)):=by rw[pH (by lia) (by lia),ye]
  have c2:lS rest (GR n) (GR rest.length)=GR (.str (rest.drop n)):=by rw[pH (by lia) (by lia),xR]
  simp only[go_sem,ya,Hl,show (0:Int)<(rest.length:Nat) by lia,Fo,EV,aiH,mR,oc,jN,c1,c2,e1,cd,t1,t3,bS,u1.ai,u2.ai,u3.ai,un.ai,e2,e3,e4,bz,cd,ye,dP u4];refine⟨_,(rest.drop n).length,rfl,by rw[wP];lia,pre++rest.take n,rest.drop n,a',s4,w4,by simp only[go_sem,ya,yb,aq],by rw[xt,kR];exact GB,by rw[Kz,fg];exact Gk,h4,rfl⟩
def Vs{b:Nat}{r:List Nat}(h:48<=b):ja [45] (b::r)=ydC:=by
 show (yu 45 b&&ydB)=ydC
 rw[iB (by lia)];rfl
def M3(h:Tx P L){z:Int}(hz:(bh z).length<=4000000000):∃r,ab P L 110 [.str (bh z)] r/\cC r z:=by
 have hN:=BM z.natAbs;have un:=zJ;have CC:(aC z.natAbs).length<=4000000000:=by
  by_cases h0:z<0
  .rw [rZ h0] at hz;simp at hz;lia
  .rw [<-qF,yq h0] at hz;simpa using hz
 have ba:Bd (4*(aC z.natAbs).length) (z.natAbs:Int):=yF (Ws hN) (Qb _);by_cases h0:z<0
 .have hs:bh z=45::aC z.natAbs:=rZ h0;have e1:bZ P L (D P L) 152 [.str (45::aC z.natAbs),.str [45]]=GR (.bool ydB):=by rw[jY h.ajH];rfl
  have e2:bZ P L (D P L) 153 [.str (45::aC z.natAbs),.str [45]]=GR (.str (aC z.natAbs)):=by rw[jY h.Y6];rfl
  have kM:∃s w r,ab P L 110 [.str (bh z)] r/\dU s w (z.natAbs:Int)/\ab P L 147 [.agg [aa s,w]] r/\cC r (-(z.natAbs:Int)):=by
   rw[hs];unfold ab;rw[aB h.ajI];simp only[go_sem,ya,yb,Rz,aT,e1,e2,un.pu,un.one,dP un];generalize hq:D P L (.loop _ Hl) _=q;obtain⟨ex,st,rfl,tm,s,w,rfl,rfl,t2,t3,t4,h5⟩:=bt hq (agv (P:=P) (L:=L) h hN CC (neg:=ydB) (o1:=.int .i64 0) (o2:=.aj) (aC z.natAbs).length) ⟨[],aC z.natAbs,0,0,.aj,by simp only[go_sem,ya,yb,aq]<;>rfl,rfl,rfl,.inl ⟨rfl,rfl,by decide,by decide⟩,rfl⟩
   have⟨l5,u5⟩:=h5.aH;have⟨r,e3,hr⟩:=Is h.toNu (v:=.agg [aa s,w]) ⟨s,w,rfl,h5⟩ (K:=4*(aC z.natAbs).length) ba (by lia);have bO:=hr;obtain⟨s6,w6,rfl,h6⟩:=hr;have⟨l6,u6⟩:=h6.aH;refine⟨s,w,_,?_,h5,e3,bO⟩;simp only[go_sem,ya,yb,aq,t2,t3,t4,cd,bS,u5.ai,e3,bz,dL,dO,cd,ye,oB u6,dP u6]
  have⟨s,w,r,g1,_,_,g2⟩:=kM;rw[show -((z.natAbs:Nat):Int)=z by lia] at g2;exact⟨r,g1,g2⟩
 .have hs:bh z=aC z.natAbs:=by rw[<-qF,yq h0];rfl
  have⟨b,r0,hb,jh,ns⟩:=G2 z.natAbs;have e1:bZ P L (D P L) 152 [.str (aC z.natAbs),.str [45]]=GR (.bool ydC):=by
   rw[jY h.ajH,hb];show GR (AV.bool (ja [45] (b::r0)))=_
   rw[Vs jh]
  have e2:bZ P L (D P L) 153 [.str (aC z.natAbs),.str [45]]=GR (.str (aC z.natAbs)):=by
   rw[jY h.Y6,hb];show GR (AV.str (bif ja [45] (b::r0) then _ else _))=_
   rw[Vs jh];rfl
  have kM:∃s w,ab P L 110 [.str (bh z)] (.agg [aa s,w])/\dU s w (z.natAbs:Int):=by
   rw[hs];unfold ab;rw[aB h.ajI];simp only[go_sem,ya,yb,Rz,aT,e1,e2,un.pu,un.one,dP un];generalize hq:D P L (.loop _ Hl) _=q;obtain⟨ex,st,rfl,tm,s,w,rfl,rfl,t2,t3,t4,h5⟩:=bt hq (agv (P:=P) (L:=L) h hN CC (neg:=ydC) (o1:=.int .i64 0) (o2:=.aj) (aC z.natAbs).length) ⟨[],aC z.natAbs,0,0,.aj,by simp only[go_sem,ya,yb,aq]<;>rfl,rfl,rfl,.inl ⟨rfl,rfl,by decide,by decide⟩,rfl⟩
   have⟨l5,u5⟩:=h5.aH;refine⟨s,w,?_,h5⟩;simp only[go_sem,ya,yb,aq,t2,t3,t4,cd,dL,dO,cd,ye,oB u5,dP u5]
  have⟨s,w,g1,g2⟩:=kM;rw[show ((z.natAbs:Nat):Int)=z by lia] at g2;exact⟨_,g1,s,w,rfl,g2⟩
def Kq(b:Nat)(r:List Nat)(c:Nat):ja [c] (b::r)=yu c b:=by
 show (yu c b&&ydB)=_
 grind
def ab5:∀(l r:List Nat) (k:Nat),(∀x,x∈l->x≠47)->og [47] (l++47::r) k=GR (k+l.length)
 | [],r,k,_=>by
  show (bif ja [47] (47::r) then GR k else _)=_
  rw[Kq];rfl
 | b::l,r,k,h=>by
  show (bif ja [47] (b::(l++47::r)) then GR k else og [47] (l++47::r) (k+1))=_
  rw[Kq,iB (fun e=>h b (by simp) e.symm),yS,ab5 l r (k+1) (fun x hx=>h x (by simp[hx])),yH]
  grind
def index_none:∀(l:List Nat) (k:Nat),(∀x,x∈l->x≠47)->og [47] l k=none
 | [],k,_=>rfl
 | b::l,k,h=>by
  show (bif ja [47] (b::l) then GR k else og [47] l (k+1))=_
  rw[Kq,iB (fun e=>h b (by simp) e.symm),yS,index_none l (k+1) (fun x hx=>h x (by simp[hx]))]
def aeC:∀{l:List Nat},fj l=ydB->∀x,x∈l->48<=x/\x<=57
 | [],_,x,hx=>by simp at hx
 | b::l,h,x,hx=>by
  have h1:=adB h;simp only[fj,yf] at h;rcases we.1 hx with rfl | hx
  .grind
  .exact aeC h.2 x hx
def ang(z:Int):∀x,x∈bh z->x≠47:=fun x hx=>by
 rw[<-qF] at hx;rcases List.mem_append.1 hx with h | h
 .grind
 .have:=aeC (C8 _) x h;lia
def m62(h:Tx P L)(hl:(RT a).length<4000000000):∃r,ab P L 62 [.str (RT a)] r/\b8 r a:=by
 have IF:=ang a.num;unfold RT at hl ⊢;by_cases hd:a.den=1
 .rw [yC hd,wZ] at hl ⊢;have⟨p,e1,hp⟩:=M3 h (z:=a.num) (by lia);have⟨r,e2,hr⟩:=Sz h.toFr' hp;rw[<-P9 a hd] at hr;have bO:=hr;obtain⟨s1,w1,rfl,h1⟩:=hp;obtain⟨s2,w2,s3,w3,rfl,h2,h3⟩:=hr;have⟨l1,u1⟩:=h1.aH;have⟨l2,u2⟩:=h2.aH;have⟨l3,u3⟩:=h3.aH;have e0:bZ P L (D P L) 109 [.str (bh a.num),.str [47]]=GR (.av [.str (bh a.num),.str [],.bool ydC]):=by
   rw[jY h.Y8];show (bif yP (bh a.num).length 4294967281 then (match og [47] (bh a.num) 0 with | some i=>_ | none=>GR (AV.av [.str (bh a.num),.str [],.bool ydC])) else none)=_
   rw[mU (by lia),index_none _ _ IF];rfl
  refine⟨_,?_,bO⟩;unfold ab;rw[aB h.T9];simp only[go_sem,ya,yb,TF,aT,e0,e1,bz,u1.ai,bS,e2,lO u2 u3,dL,dO,ye,eC,lP u2 u3]
 .rw [yq hd] at hl ⊢;simp only[yO,yH] at hl;have⟨p,e1,hp⟩:=M3 h (z:=a.num) (by lia);have⟨q,e2,hq⟩:=M3 h (z:=(a.den:Int)) (by rw[pC];lia)
  rw[pC] at e2;obtain⟨s1,w1,rfl,h1⟩:=hp;obtain⟨s2,w2,rfl,h2⟩:=hq;have⟨l1,u1⟩:=h1.aH;have⟨l2,u2⟩:=h2.aH;have e0:bZ P L (D P L) 109 [.str (bh a.num++47::aC a.den),.str [47]]=GR (.av [.str (bh a.num),.str (aC a.den),.bool ydB]):=by
   rw[jY h.Y8];show (bif yP (bh a.num++47::aC a.den).length 4294967281 then (match og [47] (bh a.num++47::aC a.den) 0 with | some i=>GR (AV.av [.str ((bh a.num++47::aC a.den).take i),.str ((bh a.num++47::aC a.den).drop (i+1)),.bool ydB]) | none=>_) else none)=_
   rw[mU (by simp;lia),ab5 _ _ _ IF]
   simp only[yd,yx,tY];rw[show (bh a.num).length+1=(bh a.num++[47]).length by simp,show bh a.num++47::aC a.den=(bh a.num++[47])++aC a.den by simp,yar]
  refine⟨.agg [aa s1,w1,aa s2,w2],?_,s1,w1,s2,w2,rfl,h1,h2⟩;unfold ab;rw[aB h.T9];simp only[go_sem,ya,yb,TF,aT,e0,e1,e2,bz,u1.one,u2.one,Dl,Dm,lO u1 u2,dL,dO,ye,eC,lP u1 u2]
def iD(p:List Nat):Bool:=fj p&&(match p with | []=>ydC | b::r=> !(yu b 48)||r.isEmpty)
def nc(p:List Nat):Nat:=(cZ p 0).getD 0
def zZ(neg:Bool)(t:List Nat):Int:=
 if iD (t.take (cW t))=ydC\/(neg=ydB/\t.take (cW t)=[48]) then 1
 else if cW t<t.length/\(iD (t.drop (cW t+1))=ydC\/t.drop (cW t+1)=[48]\/t.drop (cW t+1)=[49]) then 1
 else if 600<cW t\/600<t.length-cW t-1 then 4
 else if cW t<t.length/\vJ (nc (t.take (cW t))) (nc (t.drop (cW t+1)))≠1 then 1
 else 0
def Oe:List Nat->Int
 | []=>zZ ydC []
 | b::t=>if b=45 then zZ ydB t else zZ ydC (b::t)
def aeD:∀{p:List Nat} (a:Nat),fj p=ydB->∃n,cZ p a=GR n
 | [],a,_=>⟨a,rfl⟩
 | b::r,a,h=>by
  have h':=h;simp only[fj,yf] at h';have⟨n,hn⟩:=aeD (p:=r) (10*a+(b-48)) h'.2;exact⟨n,by simp only[cZ,h'.1.1,h'.1.2,vh,yx];exact hn⟩
def adC:∀(k:Nat) {p:List Nat},p.length=k->iD p=ydB->aC (nc p)=p:=by
 intro k
 induction k with
 | zero=>intro p hl h;rw[yE hl] at h;simp[iD] at h
 | succ k ih=>
  intro p hl h;rcases snoc p with rfl | ⟨m,a,rfl⟩
  .grind
  .simp only [iD,yf,OQ] at h;have⟨⟨h1,h2⟩,h3⟩:=h;simp only[fj,yf] at h2;have ha1:=yA h2.1.1;have ha2:=yA h2.1.2;have⟨n,hn⟩:=aeD 0 h1;have hv:nc (m++[a])=10*n+(a-48):=by
    unfold nc;rw[Kz,hn];simp only[Option.bind_some,cZ,h2.1.1,h2.1.2,vh,yx,Option.getD_some]
   cases m with
   | nil=>
    have:n=0:=by simpa[cZ] using hn.symm
    rw[hv,qC (by lia)]
    simp;lia
   | cons b r=>
    have hd:iD (b::r)=ydB:=by
     simp only[iD,h1,wE]
     cases r with
     | nil=>simp
     | cons c r=>simp at h3 ⊢;exact h3
    have hm:=ih (p:=b::r) (by simpa using hl) hd;have hnv:nc (b::r)=n:=by unfold nc;rw[hn];rfl
    rw[hnv] at hm;have zg:n≠0:=fun e=>by
     rw[qC (by lia)] at hm
     simp_all
    rw[hv,rY (by lia),show (10*n+(a-48))/10=n by lia,show 48+(10*n+(a-48))%10=a by lia,hm]
namespace Nd
structure Ord(n:Nat)(l:List Int):Prop where
 len:l.length=n
 zc:∀a,a<n->0<=l.getD a 0/\l.getD a 0<n
 inj:∀a b,a<n->b<n->l.getD a 0=l.getD b 0->a=b
end Nd
namespace Nd
open Go (IntKind)
abbrev ab(P:aE)(L:Lib)(f:Nat)(ax:List AV)(r:AV):Prop:=bZ P L (D P L) f ax=GR r
def Ct(h:Has P L 124 H6)(b:Bool)(n:Int):ab P L 124 [.bool b,aa n] (aa (if b=ydB then n else 0)):=by
 unfold ab;rw[aB h]
 cases b with
 | true=>simp only[go_sem,ya,H6,xN]
 | false=>simp only[go_sem,ya,H6];rfl
def aCW(h:Has P L 125 RB){l:List Int}(hv:bB v l)(hl:l.length<=1000000):ab P L 125 [v] (aa (bP l)):=by
 unfold ab;rw[aB h];simp only[go_sem,ya,RB,hv.len];have key:=PE (P:=P) (L:=L) (live:=[5,6,7]) (a:=Qm)
  (I:=fun k s=>∃tm ct i,s=⟨tm,[],ct,0⟩/\ak tm 5=v/\ak tm 6=aa l.length/\ak tm 7=aa (i:Nat)/\i+k=l.length/\bP (l.drop i)=bP l)
  (Q:=fun ex s=>∃tm,s=⟨tm,[],0,0⟩/\((ex=.ret/\ak tm 2=aa (bP l))\/(ex=.exit 0/\bP l=0))) ?_ l.length
 .generalize hq:D P L (.loop _ Qm) _=q;obtain⟨ex,s,rfl,tm,rfl,h2⟩:=bt hq key ⟨_,_,0,rfl,rfl,rfl,rfl,by lia,rfl⟩;rcases h2 with ⟨rfl,h2⟩ | ⟨rfl,h2⟩
  .simp only [go_sem,h2]
  .rw [h2];simp only[go_sem]
 .rintro k s ⟨tm,ct,i,rfl,h5,h6,h7,hk,hf⟩;rw[OO (by simp only[go_sem,h5,h6,h7,hv.pu])];simp only[go_sem,ya,h5,h6,h7,Qm];by_cases hi:i<l.length
  .have b6:(i:Int)<l.length:=by lia
   rw[UE hi] at hf;by_cases hz:l[i]=0
   .left
    simp only[go_sem,ya,b6,hv.bk hi,hz];refine⟨_,k-1,rfl,by lia,_,_,i+1,rfl,?_⟩;rw[wrap64 (by lia) (by lia)];rw[yC hz] at hf;simp only[go_sem,ya];exact⟨trivial,trivial,rfl,by lia,hf⟩
   .right
    simp only[go_sem,ya,b6,hv.bk hi,hz];rw[yq hz] at hf;refine⟨_,_,rfl,by simp,_,rfl,.inl ⟨rfl,?_⟩⟩;simp only[go_sem,hf]
  .right
   have b6:¬(i:Int)<l.length:=by lia
   simp only[go_sem,b6];refine⟨_,_,rfl,by simp,_,rfl,.inr ⟨rfl,?_⟩⟩;rw[<-hf,y9 (by lia)];rfl
end Nd
section
variable {a b p:List Nat}
def aeE(i:Nat):H5 i [48,49,50,51,52,53,54,55,56,57]=(yG 48 i&&yG i 57):=by
 by_cases h:48<=i/\i<=57
 .have ⟨h1,h2⟩:=h;obtain⟨k,rfl⟩:∃k,i=48+k:=⟨i-48,by lia⟩;rcases (show k=0\/k=1\/k=2\/k=3\/k=4\/k=5\/k=6\/k=7\/k=8\/k=9 by lia) with rfl | rfl | rfl | rfl | rfl | rfl | rfl | rfl | rfl | rfl<;>rfl
 .have e:(yG 48 i&&yG i 57)=ydC:=by
   cases h1:yG 48 i with
   | false=>rfl
   | true=>
    cases h2:yG i 57 with
    | false=>rfl
    | true=>exact absurd ⟨yA h1,yA h2⟩ h
  rw[e];have ne:∀c,48<=c->c<=57->yu c i=ydC:=fun c h1 h2=>iB (by lia)
  simp only[H5,ne 48 (by decide) (by decide),ne 49 (by decide) (by decide),ne 50 (by decide) (by decide),ne 51 (by decide) (by decide),ne 52 (by decide) (by decide),ne 53 (by decide) (by decide),ne 54 (by decide) (by decide),ne 55 (by decide) (by decide),ne 56 (by decide) (by decide),ne 57 (by decide) (by decide),yS]
def Vt:∀l:List Nat,mT [48,49,50,51,52,53,54,55,56,57] l=[]↔fj l=ydB
 | []=>by simp[mT,fj]
 | b::r=>by
  simp only[mT,fj,aeE]
  cases hb:(yG 48 b&&yG b 57) with
  | true=>simp only[yx,wE];exact Vt r
  | false=>simp
def PJ:∀l:List Nat,fj l.reverse=fj l
 | []=>rfl
 | b::r=>by rw[List.reverse_cons,OQ,PJ r];simp[fj,Bool.and_comm]
def abH:∀l:List Nat,fj l=ydC->fj (mT [48,49,50,51,52,53,54,55,56,57] l)=ydC
 | [],h=>by simp[fj] at h
 | b::r,h=>by
  simp only[mT,aeE]
  cases hb:(yG 48 b&&yG b 57) with
  | true=>
   simp only[fj,hb,wE] at h;exact abH r h
  | false=>simp only[yS];exact h
def asq(p:List Nat):dZ (mT [48,49,50,51,52,53,54,55,56,57] (mT [48,49,50,51,52,53,54,55,56,57] p.reverse).reverse) []=fj p:=by
 cases hd:fj p with
 | true=>
  have h1:=(Vt p.reverse).2 (by rw[PJ];exact hd)
  rw[h1];rfl
 | false=>
  have h1:=abH p.reverse (by rw[PJ];exact hd)
  have h2:fj (mT [48,49,50,51,52,53,54,55,56,57] p.reverse).reverse=ydC:=by rw[PJ];exact h1
  cases hq:mT [48,49,50,51,52,53,54,55,56,57] (mT [48,49,50,51,52,53,54,55,56,57] p.reverse).reverse with
  | nil=>have:=(Vt _).1 hq;rw[h2] at this;exact absurd this (by decide)
  | cons b r=>rfl
def abI:∀(t:List Nat) (k:Nat),og [47] t k=if cW t<t.length then GR (k+cW t) else none
 | [],k=>by simp[og,ja,cW]
 | b::r,k=>by
  by_cases hb:b=47
  .subst hb;have e:cW (47::r)=0:=by simp[cW]
   rw[e,yC (by simp)];rfl
  .have e:cW (b::r)=cW r+1:=by simp[cW,hb]
   have hp:ja [47] (b::r)=ydC:=by rw[Kq];exact iB (fun e=>hb e.symm)
   rw[e,og,hp,yS,abI r (k+1)]
   grind
def E5(a b:List Nat):binOp .neq (.str a) (.str b)=GR (.bool (!(dZ a b))):=rfl
structure Ck(P:aE)(L:Lib):Prop extends Tx P L where
 aCX:L.pure 128=GR O3
 aCY:L.pure 162=GR trimS
 h86:Has P L 86 fV
 F5:Has P L 124 H6
 aCZ:Has P L 125 RB
 aC0:Has P L 129 H7
def Ct(h:Has P L 124 H6)(b:Bool)(n:Int):ab P L 124 [.bool b,aa n] (aa (if b=ydB then n else 0)):=Nd.Ct h b n
def ajM(h:Ck P L)(hl:p.length<=4000000000):ab P L 129 [.str p] (.bool (iD p)):=by
 have e1:bZ P L (D P L) 162 [.str p,.str [48,49,50,51,52,53,54,55,56,57]]=GR (.str (mT [48,49,50,51,52,53,54,55,56,57] (mT [48,49,50,51,52,53,54,55,56,57] p.reverse).reverse)):=by
  rw[jY h.aCY];show (bif Hk [48,49,50,51,52,53,54,55,56,57]&&(yP p.length 4294967281&&yP 10 4294967281) then _ else none)=_
  rw[mU (by lia)];rfl
 have e2:=asq p;unfold ab;rw[aB h.aC0]
 match p,e1,e2 with
 | [],_,_=>
  simp only[go_sem,ya,H7,E5,show dZ [] []=ydB from rfl,yL];rfl
 | b::r,e1,e2=>
  have hI:AR 0 (.str (b::r))=GR (.int .u8 (b:Nat)):=rfl;have h0:dZ (b::r) []=ydC:=rfl;have hd:iD (b::r)=(fj (b::r)&&(!(yu b 48)||r.isEmpty)):=rfl;rw[hd]
  cases nt:fj (b::r) with
  | false=>
   rw[nt] at e2;simp only[go_sem,ya,H7,E5,h0,yM,e1,Hd,e2,ve]
  | true=>
   rw[nt] at e2;by_cases hb:b=48
   .subst hb;have e3:dZ (48::r) [48]=r.isEmpty:=by
     cases r with
     | nil=>rfl
     | cons c r=>rfl
    have Z4:AR 0 (.str (48::r))=GR (.int .u8 48):=rfl;simp only[go_sem,ya,H7,E5,h0,yM,e1,Hd,e2,Z4,yp,yL,e3];rfl
   .have:yu b 48=ydC:=iB hb
    rw[this];simp only[go_sem,ya,H7,E5,h0,yM,e1,Hd,e2,hI,show ¬((b:Nat):Int)=48 by lia,yt,yM];rfl
def aC1(h:Ck P L)(s:List Nat):bZ P L (D P L) 128 [.str s,.str [45]]=GR (if s.head? =GR 45 then .av [.str s.tail,.bool ydB] else .av [.str s,.bool ydC]):=by
 rw[jY h.aCX];show GR (bif ja [45] s then AV.av [.str (s.drop 1),.bool ydB] else .av [.str s,.bool ydC])=_
 cases s with
 | nil=>rfl
 | cons b r=>
  by_cases hb:b=45
  .subst hb;rfl
  .have:ja [45] (b::r)=ydC:=by rw[Kq];exact iB (fun e=>hb e.symm)
   grind
def aC2(h:Ck P L){t:List Nat}(hl:t.length<=4000000000):bZ P L (D P L) 109 [.str t,.str [47]]=GR (.av [.str (t.take (cW t)),.str (t.drop (cW t+1)),.bool (decide (cW t<t.length))]):=by
 rw[jY h.Y8];show (bif yP t.length 4294967281 then (match og [47] t 0 with | some i=>GR (AV.av [.str (t.take i),.str (t.drop (i+1)),.bool ydB]) | none=>GR (AV.av [.str t,.str [],.bool ydC])) else none)=_
 rw[mU (by lia),abI];by_cases hs:cW t<t.length
 .grind
 .rw [yq hs,yJ hs,yK (by lia),y9 (by lia)];rfl
def aoI{P:aE}{L:Lib}(a b c d:VC)(s:St):D P L (.seq a (.seq b (.seq c d))) s=zS P L (D P L (.seq a (.seq b c)) s) d:=by
 have e:=Ky (P:=P) (L:=L) b c d;rw[qS,qS]
 cases D P L a s with
 | none=>rfl
 | some q=>
  have⟨ex,st⟩:=q
  cases ex with
  | normal=>rw[ml,ml];exact e st
  | ret=>rfl
  | exit id=>rfl
def aqf{P:aE}{L:Lib}(a b c d f:VC)(s:St):D P L (.seq a (.seq b (.seq c (.seq d f)))) s=zS P L (D P L (.seq a (.seq b (.seq c d))) s) f:=by
 have e:=aoI (P:=P) (L:=L) b c d f;rw[qS,qS]
 cases D P L a s with
 | none=>rfl
 | some q=>
  have⟨ex,st⟩:=q
  cases ex with
  | normal=>rw[ml,ml];exact e st
  | ret=>rfl
  | exit id=>rfl
def Wu(h:a=b):dZ a b=ydB:=by
 subst h
 induction a with
 | nil=>rfl
 | cons x a ih=>simp[dZ,ih]
def Wv(h:a≠b):dZ a b=ydC:=by
 cases hb:dZ a b with
 | false=>rfl
 | true=>
  exact absurd (by
   clear h;revert b
   induction a with
   | nil=>intro b hb;cases b with | nil=>rfl | cons y b=>simp[dZ] at hb
   | cons x a ih=>
    intro b hb
    cases b with
    | nil=>simp[dZ] at hb
    | cons y b=>
     simp only[dZ,yf] at hb
     rw[yi hb.1,ih hb.2]) h
def aAS(h:Ck P L){q:List Nat}{ok found:Bool}(lp:p.length<=1000000000)(lq:q.length<=1000000000)(kW:ok=ydB->iD p=ydB/\(found=ydB->iD q=ydB))(t5:ak tm 5=.str p)(t6:ak tm 6=.str q)(t7:ak tm 7=.bool found)(t8:ak tm 8=.bool ok):
  fS [.t 2] (D P L (aI (aI (aI (aI (aI fV.body))))) ⟨tm,[],0,0⟩)=GR (aa (
   if ok=ydC then 1
   else if 600<p.length\/600<q.length then 4
   else if found=ydB/\vJ (nc p) (nc q)≠1 then 1
   else 0)):=by
 have w1:=Ct h.F5 (!ok) 1;have Ud:∀a b:Int,ab P L 125 [.au ydB 2 [aa a,aa b]] (aa (bP [a,b])):=fun a b=>Nd.aCW h.aCZ (jn ydB [a,b]) (by simp)
 cases ok with
 | false=>
  have f1:=Ud 1 0;have f2:=Ud 1 4;have w2:=Ct h.F5 ydC 4;have w3:=Ct h.F5 ydB 4;simp only[yM,xN,yD,xv] at w1 w2 w3;rw[show bP [1,0]=1 by decide] at f1;rw[show bP [1,4]=1 by decide] at f2;unfold ab at w1 w2 w3 f1 f2;by_cases h1:600<p.length
  .simp only [go_sem,ya,yb,yv,yh,yg,fV,aI,show ¬(1:Int)=0 by decide,yM,t5,t8,yM,w1,show (600:Int)<(p.length:Int) by lia,yp,w3,f2,yt]
   simp
  .by_cases h2:600<q.length
   .simp only [go_sem,ya,yb,yv,yh,yg,fV,aI,show ¬(1:Int)=0 by decide,yM,t5,t6,t8,yM,w1,show ¬(600:Int)<(p.length:Int) by lia,show (600:Int)<(q.length:Int) by lia,yp,yt,w3,f2]
    simp
   .simp only [go_sem,ya,yb,yv,yh,yg,fV,aI,show ¬(1:Int)=0 by decide,yM,t5,t6,t8,yM,w1,show ¬(600:Int)<(p.length:Int) by lia,show ¬(600:Int)<(q.length:Int) by lia,yt,w2,f1]
    simp
 | true=>
  have⟨hp,hq⟩:=kW rfl;have f1:=Ud 0 0;have f2:=Ud 0 4;have w2:=Ct h.F5 ydC 4;have w3:=Ct h.F5 ydB 4;have w4:=Ct h.F5 ydC 1;have w5:=Ct h.F5 ydB 1;simp only[yL,xN,yD,xv] at w1 w2 w3 w4 w5;rw[show bP [0,0]=0 by decide] at f1;rw[show bP [0,4]=4 by decide] at f2;unfold ab at w1 w2 w3 w4 w5 f1 f2;rw[yq (by decide)];by_cases h1:600<p.length
  .rw [yC (.inl h1)];simp only[go_sem,ya,yb,yv,yh,yg,fV,aI,show ¬(4:Int)=0 by decide,yM,t5,t8,yL,w1,show (600:Int)<(p.length:Int) by lia,yp,w3,f2,yt]
  .by_cases h2:600<q.length
   .rw [yC (.inr h2)];simp only[go_sem,ya,yb,yv,yh,yg,fV,aI,show ¬(4:Int)=0 by decide,yM,t5,t6,t8,yL,w1,show ¬(600:Int)<(p.length:Int) by lia,show (600:Int)<(q.length:Int) by lia,yp,yt,w3,f2]
   .rw [yq (by lia)]
    cases found with
    | false=>
     rw[yq (by simp)];simp only[go_sem,ya,yb,yv,yh,yg,fV,aI,t5,t6,t7,t8,yL,w1,show ¬(600:Int)<(p.length:Int) by lia,show ¬(600:Int)<(q.length:Int) by lia,yp,yt,w2,f1]
    | true=>
     have hpS:=adC _ rfl hp;have hqS:=adC _ rfl (hq rfl);generalize nc p=n at*
     generalize nc q=d at*
     subst hpS;subst hqS;obtain⟨M,hM⟩:∃M:Nat,M=2400:=⟨_,rfl⟩;have bd:∀{m:Nat},(aC m).length<=600->Bd M (m:Int):=fun {m} hm=>by
      have h1:=afH m;have h2:=Qb (aC m).length;have h3:(2:Nat)^(4*(aC m).length)<=2^M:=xc (by decide) (by lia);unfold Bd;rw[xV];exact yF h1 (y7 h2 h3)
     have⟨x,e1,hx⟩:=M3 h.toTx (z:=(n:Int)) (by rw[pC];lia)
     have⟨y,e2,hy⟩:=M3 h.toTx (z:=(d:Int)) (by rw[pC];lia)
     rw[pC] at e1 e2;have kn:=bd (m:=n) (by lia);have kd:=bd (m:=d) (by lia);have⟨g,e3,hg⟩:=ajE h.toNu hx hy kn kd (by lia);have⟨e4,Ge⟩:=Cr h.toNu (z:=1) (by decide) (by decide);have kg:Bd M ((vC (n:Int) (d:Int):Nat):Int):=by
      rcases xi d with h0 | h0
      .subst h0;simpa using kn
      .exact kd.le (by have:=Nat.gcd_le_right n h0;simpa using this)
     have e5:=ajA h.toNu hg Ge (K:=M) kg (by unfold Bd;exact vA (by lia)) (by lia)
     have aC3:vC (n:Int) (d:Int)=vJ n d:=rfl;rw[aC3] at e5;obtain⟨xs,xw,rfl,BB⟩:=hx;obtain⟨ys,yw,rfl,GG⟩:=hy;obtain⟨gs,gw,rfl,Of⟩:=hg;have⟨l1,u1⟩:=BB.aH;have⟨l2,u2⟩:=GG.aH;have⟨l3,u3⟩:=Of.aH;by_cases lY:vJ n d=1
     .rw [yq (by simp[lY])];have hs:b7 (((vJ n d:Nat):Int)-1)=0:=by rw[lY];rfl
      rw[hs] at e5;simp only[go_sem,ya,yb,yv,yh,yg,fV,aI,t5,t6,t7,t8,yL,w1,show ¬(600:Int)<((aC n).length:Int) by lia,show ¬(600:Int)<((aC d).length:Int) by lia,yp,yt,w2,f1,e1,e2,u1.ai,u2.ai,u3.ai,bz,bS,e3,e4,e5]
     .rw [yC ⟨rfl,lY⟩];obtain⟨c,hc,ma⟩:∃c,b7 (((vJ n d:Nat):Int)-1)=c/\c≠0:=⟨_,rfl,fun e=>lY (by
       unfold b7 at e
       split at e
       .exact absurd e (by decide)
       .split at e
        .lia
        .exact absurd e (by decide))⟩
      rw[hc] at e5;simp only[go_sem,ya,yb,yv,yh,yg,fV,aI,yM,t5,t6,t7,t8,yL,w1,show ¬(600:Int)<((aC n).length:Int) by lia,show ¬(600:Int)<((aC d).length:Int) by lia,yp,yt,w2,f1,e1,e2,u1.ai,u2.ai,u3.ai,bz,bS,e3,e4,e5,ma,yM,w5]
def m86(h:Ck P L){s:List Nat}(hl:s.length<=1000000000):ab P L 86 [.str s] (aa (Oe s)):=by
 have key:∀(neg:Bool) (t:List Nat),t.length<=1000000000->bZ P L (D P L) 128 [.str s,.str [45]]=GR (.av [.str t,.bool neg])->ab P L 86 [.str s] (aa (zZ neg t)):=by
  intro neg t hl e0;have e1:=aC2 h (t:=t) (by lia);obtain⟨k,hk⟩:∃k,k=cW t:=⟨_,rfl⟩;have hkl:k<=t.length:=by rw[hk];exact adu t
  have e2:=ajM h (p:=t.take k) (by rw[yU];lia)
  have e3:=ajM h (p:=t.drop (k+1)) (by rw[wP];lia)
  have lp:(t.take k).length=k:=by rw[yU];lia
  have lq:(t.drop (k+1)).length=t.length-k-1:=by rw[wP];lia
  unfold zZ;rw[<-hk] at e1 ⊢;generalize hp:t.take k=p at*
  generalize hq:t.drop (k+1)=q at*
  obtain⟨Ew,Be⟩:∃ok:Bool,ok=(iD p&&(!neg|| !(dZ p [48]))):=⟨_,rfl⟩;obtain⟨ok,kW⟩:∃ok:Bool,ok=(Ew&&(!(decide (k<t.length))||(iD q&&(!(dZ q [48])&& !(dZ q [49]))))):=⟨_,rfl⟩
  have oN:(if iD p=ydC\/(neg=ydB/\p=[48]) then 1
    else if k<t.length/\(iD q=ydC\/q=[48]\/q=[49]) then 1
    else if 600<k\/600<t.length-k-1 then 4
    else if k<t.length/\vJ (nc p) (nc q)≠1 then 1 else 0:Int)=(if ok=ydC then 1
    else if 600<p.length\/600<q.length then 4
    else if decide (k<t.length)=ydB/\vJ (nc p) (nc q)≠1 then 1
    else 0):=by
   rw[lp,lq];have a1:(iD p=ydC\/(neg=ydB/\p=[48]))↔Ew=ydC:=by
    rw[Be];cases iD p<;>cases neg<;>simp
    by_cases e:p=[48]
    .simp [e,Wu]
    .simp [e,Wv e]
   have a2:ok=ydC↔(Ew=ydC\/(k<t.length/\(iD q=ydC\/q=[48]\/q=[49]))):=by
    rw[kW];by_cases hs:k<t.length
    .simp only [hs,yp,yL,vI,yaw];cases Ew<;>cases iD q<;>simp
     by_cases e:q=[48]
     .simp [e,Wu]
     .by_cases e':q=[49]
      .simp [e',Wu]
      .simp [e,e',Wv e,Wv e']
    .simp [hs]
   by_cases h1:Ew=ydC
   .rw [yC (a1.2 h1),yC (a2.2 (.inl h1))]
   .rw [yq (fun e=>h1 (a1.1 e))];by_cases h2:k<t.length/\(iD q=ydC\/q=[48]\/q=[49])
    .rw [yC h2,yC (a2.2 (.inr h2))]
    .rw [yq h2,yq (fun e=>(a2.1 e).elim h1 h2)];simp only[xj]
  rw[oN];have aC4:ok=ydB->iD p=ydB/\(decide (k<t.length)=ydB->iD q=ydB):=fun e=>by
   rw[kW,yf] at e;have⟨e1,e2⟩:=e;rw[Be,yf] at e1;refine⟨e1.1,fun hs=>?_⟩;rw[hs,yL,vI,yf] at e2;exact e2.1
  have tail:∀tm,ak tm 5=.str p->ak tm 6=.str q->ak tm 7=.bool (decide (k<t.length))->ak tm 8=.bool ok->fS [.t 2] (D P L (aI (aI (aI (aI (aI fV.body))))) ⟨tm,[],0,0⟩)=_:=fun tm t5 t6 t7 t8=>
   aAS h (by lia) (by lia) aC4 t5 t6 t7 t8
  have mid:∀tm,ak tm 5=.str p->ak tm 6=.str q->ak tm 7=.bool (decide (k<t.length))->ak tm 8=.bool Ew->
    ∃tm',D P L (bD (aI (aI (aI (aI fV.body))))) ⟨tm,[],0,0⟩=GR (.normal,⟨tm',[],0,0⟩)/\ak tm' 5=.str p/\ak tm' 6=.str q/\ak tm' 7=.bool (decide (k<t.length))/\ak tm' 8=.bool ok:=fun tm t5 t6 t7 t8=>by
   unfold ab at e3;by_cases hs:k<t.length
   .rw [yZ hs] at t7 kW ⊢;simp only[yL,vI] at kW
    cases Ew with
    | false=>
     rw[ve] at kW;subst kW;refine⟨_,by simp only[go_sem,ya,fV,bD,aI,t7,t8]<;>rfl,?_⟩
     simp only[go_sem,ya,t5,t6,t7,yaw]
    | true=>
     rw[wE] at kW
     cases hd:iD q with
     | false=>
      rw[hd] at e3 kW;rw[ve] at kW;subst kW;refine⟨_,by simp only[go_sem,ya,fV,bD,aI,t6,t7,t8,e3]<;>rfl,?_⟩
      simp only[go_sem,ya,t5,t6,t7,yaw]
     | true=>
      rw[hd] at e3 kW;rw[wE] at kW
      cases CS:dZ q [48] with
      | true=>
       rw[CS,yL,ve] at kW;subst kW;refine⟨_,by simp only[go_sem,ya,fV,bD,aI,t6,t7,t8,e3,E5,CS,yL]<;>rfl,?_⟩
       simp only[go_sem,ya,t5,t6,t7,yaw]
      | false=>
       rw[CS,yM,wE] at kW;subst kW;refine⟨_,by simp only[go_sem,ya,fV,bD,aI,t6,t7,t8,e3,E5,CS,yM]<;>rfl,?_⟩
       simp only[go_sem,ya,t5,t6,t7,yaw]
   .rw [yJ hs] at t7 kW ⊢;simp only[yM,uH,uX] at kW;subst kW;refine⟨_,by simp only[go_sem,fV,bD,aI,t7]<;>rfl,?_⟩
    simp only[go_sem,ya,t5,t6,t7,t8,yaw]
  have fin:∀tm,ak tm 5=.str p->ak tm 6=.str q->ak tm 7=.bool (decide (k<t.length))->ak tm 8=.bool Ew->
    D P L (.seq (bD fV.body) (.seq (bD (aI fV.body)) (.seq (bD (aI (aI fV.body))) (bD (aI (aI (aI fV.body))))))) ⟨[(0,.str s)],[],0,0⟩=GR (.normal,⟨tm,[],0,0⟩)->ab P L 86 [.str s] _:=fun tm t5 t6 t7 t8 e=>by
   have⟨tm',e',f5,f6,f7,f8⟩:=mid tm t5 t6 t7 t8;unfold ab;rw[aB h.h86];show fS [.t 2] (D P L (.seq (bD fV.body) (.seq (bD (aI fV.body)) (.seq (bD (aI (aI fV.body))) (.seq (bD (aI (aI (aI fV.body)))) (.seq (bD (aI (aI (aI (aI fV.body))))) (aI (aI (aI (aI (aI fV.body)))))))))) ⟨[(0,.str s)],[],0,0⟩)=_
   rw[aqf,e,ml,qS,e',ml];exact tail tm' f5 f6 f7 f8
  unfold ab at e2
  cases hd:iD p with
  | false=>
   rw[hd] at e2 Be;rw[ve] at Be;subst Be;refine fin _ ?_ ?_ ?_ ?_ (by simp only[go_sem,ya,fV,bD,aI,e0,e1,e2]<;>rfl)<;>simp only[go_sem,ya]
  | true=>
   rw[hd] at e2 Be
   cases neg with
   | false=>
    simp only[yM,uH] at Be;subst Be;refine fin _ ?_ ?_ ?_ ?_ (by simp only[go_sem,ya,fV,bD,aI,e0,e1,e2,yM]<;>rfl)<;>simp only[go_sem,ya]
   | true=>
    simp only[yL,vI] at Be;subst Be;refine fin _ ?_ ?_ ?_ ?_ (by simp only[go_sem,ya,fV,bD,aI,e0,e1,e2,yL,E5]<;>rfl)<;>simp only[go_sem,ya]
 unfold Oe;have e0:=aC1 h s
 cases s with
 | nil=>exact key ydC [] (by simp) e0
 | cons b r=>
  by_cases hb:b=45
  .subst hb;exact key ydB r (by simp at hl;lia) e0
  .simp only [hb,xv];rw[yq (by simpa using hb)] at e0;exact key ydC (b::r) hl e0
end
section
variable {v:AV}{z:Int}{K:Nat}
def LN(z:Int):Bool:=decide (600<(aC z.natAbs).length)
def LG(r:Rat):Bool:=LN r.num||LN (r.den:Int)
def UZ{m B k:Nat}(hB:B<=3*k)(hk:0<k)(h:m<2^B):(aC m).length<=k:=by
 obtain⟨j,rfl⟩:∃j,k=j+1:=⟨k-1,by lia⟩;refine zI (yF h (y7 (xc (by decide) hB) ?_));rw[yaI];exact tD (by decide) _
def Qc:∀f n:Nat,dW f n<=f
 | 0,_=>yz _
 | f+1,n=>by
  unfold dW
  cases yu n 0 with
  | true=>exact tL _
  | false=>have:=Qc f (n/2);simp only[yS];lia
def agw{P:aE}{L:Lib}{f:cp}(h:L.pure 175=GR K0){x:Nat}(hx:x<2^64):bZ P L f 175 [uc x]=GR (aa (dW 64 x:Nat)):=by
 rw[jY h];show (bif yP x (2^64) then _ else none)=_
 rw[mU hx];rfl
def afJ{n top low:Nat}(hn:0<n)(h0:0<top)(ht:top<2^64)(hV:V=low+(2^64)^(n-1)*top)(hl:low<(2^64)^(n-1)):V<2^(64*(n-1)+dW 64 top):=by
 have⟨l1,l2,l3⟩:=VV h0 ht;have hle:=Qc 64 top;have h1:top<2^dW 64 top:=by
  have e:(2^64:Nat)=2^dW 64 top*2^(64-dW 64 top):=by rw[<-xB,show dW 64 top+(64-dW 64 top)=64 by lia]
  rw[e] at l3;exact Nat.lt_of_mul_lt_mul_right l3
 have h3:=yW ((2^64)^(n-1)) (show top+1<=2^dW 64 top from h1);rw[xB,yaI]
 grind
def aeF(K:Nat):2^K<=(2^64)^(K/64+1):=by
 rw[show (2^64:Nat)=2^64 from rfl,<-yaI];exact xc (by decide) (by lia)
def aAT(h:Tx P L)(hv:cC v z)(hz:Bd K z)(hK:K<=4000000000):∃B:Nat,ab P L 172 [v] (aa B)/\z.natAbs<2^B/\B<=K+64:=by
 obtain⟨s,w,rfl,hn⟩:=hv;have⟨l,u⟩:=hn.aH;have⟨r,e1,hr⟩:=A9 h.toNu hn;have⟨ws,hw,g,Og,hb⟩:=hr;have hl:ws.length<=K/64+1:=pV Og hb (yF hz (aeF K));unfold ab at e1 ⊢;by_cases h0:ws=[]
 .subst h0;have gE:z.natAbs=0:=by rw[<-hb];rfl
  refine⟨0,?_,by rw[gE];decide,by lia⟩
  rw[aB h.Y9];simp only[go_sem,ya,yb,Mr,aT,cd,bS,u.pu,u.ai,u.one,e1,hw.len,yR,show ((0:Nat):Int)=0 from rfl,yp]
 .have hp:0<ws.length:=tz.2 h0;have oA:=Kv Og h0;have Ar:=iW (show 0<2^64 by decide) g (ws.length-1);have ei:=hw.bk (i:=ws.length-1) (by lia);have eU:=kH (b:=2^64) (l:=ws) (ws.length-1);have DU:=nH (BS g (ws.length-1));rw[yU,xo (by lia)] at DU;rw[show ws.length-1+1=ws.length by lia,yK (yz _)] at eU;generalize ws.getD (ws.length-1) 0=top at*
  have e2:=agw (P:=P) (f:=D P L) h.ajG Ar;have hle:=Qc 64 top;have FF:=afJ hp (Nat.pos_of_ne_zero oA) Ar eU DU;rw[hb] at FF;refine⟨64*(ws.length-1)+dW 64 top,?_,FF,by lia⟩;rw[aB h.Y9]
  simp only[go_sem,ya,yb,Mr,aT,cd,bS,u.pu,u.ai,u.one,e1,hw.len,show ¬(ws.length:Int)=0 by lia,show (ws.length:Int)-1=((ws.length-1:Nat):Int) by lia,wrapN (n:=ws.length-1) (by lia),show (64:Int)*((ws.length-1:Nat):Int)=((64*(ws.length-1):Nat):Int) by lia,wrapN (n:=64*(ws.length-1)) (by lia),ei,e2,show ((64*(ws.length-1):Nat):Int)+((dW 64 top:Nat):Int)=((64*(ws.length-1)+dW 64 top:Nat):Int) from rfl,wrapN (n:=64*(ws.length-1)+dW 64 top) (by lia)]
def aC5(h:Tx P L)(hv:cC v z)(hz:Bd K z)(hK:K<=4000000000):∃B:Nat,ab P L 172 [v] (aa B)/\z.natAbs<2^B/\B<=300000000000:=by
 have⟨B,h1,h2,h3⟩:=aAT h hv hz hK;exact⟨B,h1,h2,by lia⟩
def aqg(z:Int):(if ja [45] (bh z)=ydB then (bh z).drop 1 else bh z)=aC z.natAbs:=by
 by_cases h:z<0
 .rw [rZ h];rfl
 .obtain ⟨m,rfl⟩:∃m:Nat,z=m:=⟨z.toNat,by lia⟩;rw[pC];have⟨b,r,hb,h1,_⟩:=G2 m;rw[xV,hb,Vs h1];rfl
def ajN(h:Tx P L)(hv:cC v z)(hz:Bd K z)(hK:K<=4000000000):ab P L 151 [v] (.bool (LN z)):=by
 have⟨B,e1,hB,hBb⟩:=aC5 h hv hz hK;have e2:=m99 h hv hz hK;obtain⟨s,w,rfl,hn⟩:=hv;have⟨l,u⟩:=hn.aH;have e3:bZ P L (D P L) 153 [.str (bh z),.str [45]]=GR (.str (aC z.natAbs)):=by
  rw[jY h.Y6,<-aqg];show GR (AV.str (bif ja [45] (bh z) then (bh z).drop 1 else bh z))=_
  cases ja [45] (bh z)<;>rfl
 unfold ab at e1 e2 ⊢;rw[aB h.aCR];unfold LN;by_cases h1:1800<B
 .simp only [go_sem,ya,yb,RE,aT,cd,bS,u.pu,u.ai,u.one,e1,show (1800:Int)<(B:Int) by lia,yp,e2,e3];by_cases h2:600<(aC z.natAbs).length
  .rw [yZ h2,yZ (by lia)]
  .rw [yJ h2,yJ (by lia)]
 .have h2:=UZ (k:=600) (by lia) (by decide) hB;rw[yJ (by lia)];simp only[go_sem,ya,yb,RE,aT,cd,bS,u.pu,u.ai,u.one,e1,show ¬(1800:Int)<(B:Int) by lia,yt]
def aC6(h:Tx P L)(hv:b8 v a)(ka:Hq K a)(hK:K<=4000000000):ab P L 107 [v] (.bool (LG a)):=by
 obtain⟨s1,w1,s2,w2,rfl,h1,h2⟩:=hv;have e1:=ajN h ⟨s1,w1,rfl,h1⟩ ka.1 hK;have e2:=ajN h ⟨s2,w2,rfl,h2⟩ ka.2 hK;have⟨l1,u1⟩:=h1.aH;have⟨l2,u2⟩:=h2.aH;unfold ab at e1 e2 ⊢;rw[aB h.aCS];unfold LG
 cases hb:LN a.num with
 | true=>
  rw[hb] at e1;simp only[go_sem,ya,yb,Ry,aT,aP,yd,cd,bS,u1.pu,u1.ai,u1.one,u2.pu,u2.one,e1];rfl
 | false=>
  rw[hb] at e1;simp only[go_sem,ya,yb,Ry,aT,aP,yd,show vP 2 [aa s1,w1,aa s2,w2]=[aa s2,w2] from rfl,cd,bS,u1.pu,u1.ai,u1.one,u2.pu,u2.ai,u2.one,e1,e2];rfl
end
section
variable {e:Int}{m:Nat}
def ajO(a b:Nat)(h:a<b):2^a<2^b:=vG (by decide) h
def ajP(a b:Nat)(h:2^a<2^b):a<b:=(uo (by decide)).1 h
def Xa(m a b c:Nat)(h:m<2^a)(hc:a+b=c):m*2^b<2^c:=by
 subst hc;rw[xB];exact xY h (xe _)
def auM(a b k:Nat)(h:a<b):a<b*2^k:=yF h (tH _ (xe _))
def ayk(m a b c:Nat)(h:2^a<=m)(hc:c<=a+b):2^c<=m*2^b:=
 y7 (xc (by decide) hc) (by rw[xB];exact yT _ h)
open Ieee
def p2(e:Int):Rat:=(2:Rat)^e
def eY(a b:Int):p2 (a+b)=p2 a*p2 b:=Rat.zpow_add (by decide) a b
def nD(e:Int):0<p2 e:=Rat.zpow_pos (by decide)
def L8(e:Int):p2 e≠0:=fun h=>by have:=nD e;rw[h] at this;exact absurd this (by decide)
def fP(n:Nat):p2 n=((2^n:Nat):Rat):=by
 unfold p2;rw[tI,Rat.natCast_pow];rfl
def ayl(n:Nat)(h:n≠0):1<p2 n:=by
 rw[fP n]
 have:((1:Nat):Rat)<((2^n:Nat):Rat):=by rw[Rat.natCast_lt_natCast];exact vA h
 exact this
def pW:p2 0=1:=by have:=fP 0;simpa using this
def sU:p2 1=2:=by have:=fP 1;simpa using this
def HK(e:Int):p2 (-e)*p2 e=1:=by rw[<-eY,show -e+e=0 by omega,pW]
structure Can(f:Format)(m:Nat)(e:Int):Prop where
 lp:f.leastPlace<=e
 lt:m<2^(f.fractionBits+1)
 ge:2^f.fractionBits<=m\/e=f.leastPlace
def gB(f:Format)(m:Nat)(e:Int):Nat:=(e-f.leastPlace).toNat*2^f.fractionBits+m
def agx(f:Format):f.infRung<f.signWeight:=by
 have h:0<2^f.exponentBits:=xe _;have hb:0<2^f.fractionBits:=xe _;unfold Format.infRung Format.signWeight Format.binade;rw[xB];exact xY (by omega) hb
def aqh{f:Format}(h:Can f m e)(s:Bool)(hr:gB f m e<f.infRung):f.read (f.word s (gB f m e))=.number s m e:=by
 have ib:=agx f;have hb:0<2^f.fractionBits:=xe _;have lp:=h.lp;have lt:=h.lt;have ge:=h.ge;rw[xh] at lt;have gK:(f.word s (gB f m e)/f.signWeight%2==1)=s:=by
  unfold Format.word
  cases s with
  | true=>rw[yC rfl,Nat.add_div_left _ (by omega),xP (by omega)];rfl
  | false=>rw[yq (by decide),xP (by omega)];rfl
 have nM:f.word s (gB f m e)%f.signWeight=gB f m e:=by
  unfold Format.word
  cases s with
  | true=>rw[yC rfl,ycg,yQ (by omega)]
  | false=>rw[yq (by decide),yQ (by omega)]
 unfold Format.read;simp only[gK,nM];obtain⟨d,hd⟩:∃d:Nat,e=f.leastPlace+d:=⟨(e-f.leastPlace).toNat,by omega⟩;have ji:gB f m e=d*2^f.fractionBits+m:=by unfold gB;rw[hd,show (f.leastPlace+(d:Int)-f.leastPlace).toNat=d by omega]
 unfold Format.binade;by_cases c:gB f m e<2^f.fractionBits
 .rw [yC c];have fm:d=0:=by
   rcases ge with ge | ge
   .exfalso
    have:=tL (d*2^f.fractionBits)
    omega
   .omega
  subst fm;rw[wo,yd] at ji;rw[ji,hd,Int.natCast_zero,ycV]
 .rw [yq c,yC hr];have hm:2^f.fractionBits<=m:=by
   rcases ge with ge | ge
   .exact ge
   .have:d=0:=by omega
    subst this;rw[wo,yd] at ji;omega
  obtain⟨x,hx⟩:∃x,m=2^f.fractionBits+x:=⟨m-2^f.fractionBits,by omega⟩;have hdiv:gB f m e/2^f.fractionBits=d+1:=by
   rw[ji,hx,<-td,<-ycW,xd,tB hb,xP (by omega)]
  have Ny:gB f m e%2^f.fractionBits=x:=by
   rw[ji,hx,<-td,<-ycW,xd,yao,yQ (by omega)]
  rw[hdiv,Ny,hx,hd,show d+1-1=d by omega]
def adD{n:Nat}{neg:Bool}:Toward.even.cut neg (n*2^d) d=n:=by
 unfold Toward.cut;by_cases h0:n=0
 .subst h0
  simp
 .have hl:d<=(n*2^d).log2:=(ydk (uR (vd (by omega) (xe _)))).2 (um _ (by omega));have hp:0<2^d:=xe _;rw[xo (by omega),ybV];simp only[tG,uh _ hp,xF];have h1:decide (2^d<0)=ydC:=by simp
  have h2:((2^d==0):Bool)=ydC:=by simpa using uR hp
  simp[h2]
def Uy{n:Nat}(h:n≠0):∀d,(n*2^d).log2=n.log2+d
 | 0=>by simp
 | d+1=>by
  rw[xh,<-xf,xd (n*2^d) 2,Nat.log2_two_mul (uR (vd (by omega) (xe _))),Uy h d];omega
def Can.last{f:Format}(h:Can f m e)(h0:m≠0):max (e+m.log2-f.fractionBits) f.leastPlace=e:=by
 have lp:=h.lp;have h1:m.log2<f.fractionBits+1:=(ybw h0).2 h.lt;rcases h.ge with g | g
 .have:=(ydk h0).2 g
  omega
 .omega
def aeG{f:Format}(h:Can f m e)(h0:m≠0)(s:Bool)(hv:(m0:Rat)*p2 e0=(m:Rat)*p2 e):f.nearest s m0 e0=f.word s (min (gB f m e) f.infRung):=by
 have hl:=h.last h0;have lp:=h.lp;by_cases c:e0<=e
 .obtain ⟨d,hd⟩:∃d:Nat,e=e0+d:=⟨(e-e0).toNat,by omega⟩;have hm:m0=m*2^d:=by
   rw[hd,eY,fP] at hv;have h1:(m0:Rat)=((m*2^d:Nat):Rat):=by
    rw[xI];have h2:p2 e0*p2 (-e0)=1:=by rw[yav];exact HK e0
    have h3:(m0:Rat)*p2 e0*p2 (-e0)=(m:Rat)*(p2 e0*((2^d:Nat):Rat))*p2 (-e0):=congrArg (·*p2 (-e0)) hv;rw[wv,h2,wJ] at h3;rw[h3]
    have:(m:Rat)*(p2 e0*((2^d:Nat):Rat))*p2 (-e0)=(m:Rat)*((2^d:Nat):Rat)*(p2 e0*p2 (-e0)):=by grind
    rw[this,h2,wJ]
   exact_mod_cast h1
  have zt:m0≠0:=by rw[hm];exact uR (vd (by omega) (xe _))
  unfold Format.nearest;rw[yq zt];have oA:max (e0+m0.log2-f.fractionBits) f.leastPlace=e:=by
   rw[hm,Uy h0,<-hl];omega
  dsimp only
  rw[oA];rw[show (e0-e).toNat=0 by omega,Nat.shiftLeft_zero,show (e-e0).toNat=d by omega,hm,adD];rfl
 .obtain ⟨d,hd⟩:∃d:Nat,e0=e+d:=⟨(e0-e).toNat,by omega⟩;have hm:m=m0*2^d:=by
   rw[hd,eY,fP] at hv;have h1:(m:Rat)=((m0*2^d:Nat):Rat):=by
    rw[xI];have h2:p2 e*p2 (-e)=1:=by rw[yav];exact HK e
    have h3:(m0:Rat)*(p2 e*((2^d:Nat):Rat))*p2 (-e)=(m:Rat)*p2 e*p2 (-e):=congrArg (·*p2 (-e)) hv;have h4:(m:Rat)*p2 e*p2 (-e)=m:=by rw[wv,h2,wJ]
    rw[h4] at h3;rw[<-h3]
    have:(m0:Rat)*(p2 e*((2^d:Nat):Rat))*p2 (-e)=(m0:Rat)*((2^d:Nat):Rat)*(p2 e*p2 (-e)):=by grind
    rw[this,h2,wJ]
   exact_mod_cast h1
  have zt:m0≠0:=fun q=>by rw[q,wo] at hm;exact h0 hm
  unfold Format.nearest;rw[yq zt];have oA:max (e0+m0.log2-f.fractionBits) f.leastPlace=e:=by
   rw[hm,Uy zt] at hl;rw[<-hl];omega
  dsimp only
  rw[oA];rw[show (e0-e).toNat=d by omega,show (e-e0).toNat=0 by omega,ud,<-hm]
  have:=adD (n:=m) (d:=0) (neg:=s)
  rw[vV,yg] at this;rw[this];rfl
end
section
open Ieee
structure oX(f:Format)(b:Nat)(s:Bool)(m:Nat)(e:Int):Prop where
 can:Can f m e
 lt:gB f m e<f.infRung
 eq:b=f.word s (gB f m e)
def oX.read{f:Format}{b:Nat}{s:Bool}{m:Nat}{e:Int}(h:oX f b s m e):f.read b=.number s m e:=by
 rw[h.eq];exact aqh h.can s h.lt
def sg(s:Bool):Rat:=if s then -1 else 1
def fv(s:Bool)(m:Nat)(e:Int):Rat:=sg s*((m:Rat)*p2 e)
def afK{f:Format}{m:Nat}{e:Int}(h:Can f m e)(he:(e-f.leastPlace).toNat+2<=2^f.exponentBits-1):gB f m e<f.infRung:=by
 have aG:=h.lt;rw[xh] at aG;unfold gB Format.infRung Format.binade
 have:=yT (2^f.fractionBits) he
 rw[xS] at this;omega
def aym{f:Format}{n:Nat}{k:Int}(h0:n≠0)(hn:n<2^(f.fractionBits+1))(hk:f.leastPlace<=k):∃m e,Can f m e/\m≠0/\e<=k/\(m:Rat)*p2 e=(n:Rat)*p2 k:=by
 have hl:=(ybw h0).2 hn;obtain⟨j,hj⟩:∃j:Nat,j=min (f.fractionBits-n.log2) (k-f.leastPlace).toNat:=⟨_,rfl⟩;have h1:2^n.log2<=n:=Nat.log2_self_le h0;have h2:n<2^(n.log2+1):=ych;refine⟨n*2^j,k-j,⟨by omega,?_,?_⟩,uR (vd (by omega) (xe _)),by omega,?_⟩
 .have:n*2^j<2^(n.log2+1)*2^j:=xY h2 (xe _)
  rw[<-xB] at this;exact yF this (xc (by decide) (by omega))
 .by_cases c:f.fractionBits-n.log2<=(k-f.leastPlace).toNat
  .left
   have:=yT (2^j) h1
   rw[<-xB,show n.log2+j=f.fractionBits by omega] at this;exact this
  .right;omega
 .rw [xI,<-fP,wv,<-eY,show (j:Int)+(k-j)=k by omega]
def wr{f:Format}{n:Nat}{k:Int}(h0:n≠0)(hn:n<2^(f.fractionBits+1))(hk:f.leastPlace<=k)(jG:(k-f.leastPlace).toNat+2<=2^f.exponentBits-1)(s:Bool)(hv:(m0:Rat)*p2 e0=(n:Rat)*p2 k):∃m e,oX f (f.write (.number s m0 e0)) s m e/\m≠0/\(m:Rat)*p2 e=(n:Rat)*p2 k:=by
 obtain⟨m,e,hc,hm,he,hq⟩:=aym h0 hn hk;have hr:=afK hc (by have:=hc.lp;omega);refine⟨m,e,⟨hc,hr,?_⟩,hm,hq⟩;show f.nearest s m0 e0=_
 rw[aeG hc hm s (hv.trans hq.symm),xo (by omega)]
def ah5(f:Format):Can f 0 f.leastPlace:=⟨ydl _,xe _,.inr rfl⟩
def wr0{f:Format}(s:Bool)(e0:Int)(hi:0<f.infRung):oX f (f.write (.number s 0 e0)) s 0 f.leastPlace:=by
 have hr:gB f 0 f.leastPlace=0:=by unfold gB;rw[ycX];simp
 refine⟨ah5 f,by rw[hr];exact hi,?_⟩
 rw[hr];show f.nearest s 0 e0=_
 unfold Format.nearest;rw[yC rfl]
def ayn{f:Format}{b:Nat}(hb:b<2*f.signWeight)(Ai:f.binade<=f.infRung):(∃s m e,oX f b s m e)\/(∀s m e,f.read b≠.number s m e):=by
 have ib:=agx f;have hp:0<2^f.fractionBits:=xe _;obtain⟨s,r,hr,rfl⟩:∃(s:Bool) (r:Nat),r<f.signWeight/\b=f.word s r:=by
  by_cases c:b<f.signWeight
  .exact ⟨ydC,b,c,by unfold Format.word;rw[yq (by decide)]⟩
  .exact ⟨ydB,b-f.signWeight,by omega,by unfold Format.word;rw[yC rfl];omega⟩
 by_cases c:r<f.infRung
 .left
  by_cases c1:r<2^f.fractionBits
  .have e:gB f r f.leastPlace=r:=by unfold gB;rw[ycX];simp
   exact⟨s,r,f.leastPlace,⟨ydl _,by rw[xh];omega,.inr rfl⟩,by rw[e];exact c,by rw[e]⟩
  .obtain ⟨d,hd⟩:∃d,r/2^f.fractionBits=d+1:=⟨r/2^f.fractionBits-1,by have:=ydm (ycc c1) hp;omega⟩;have hm:=xq r hp;have hq:=xE r (2^f.fractionBits);rw[hd,xH,yg,xd] at hq;have e:gB f (2^f.fractionBits+r%2^f.fractionBits) (f.leastPlace+d)=r:=by
    unfold gB;rw[show (f.leastPlace+(d:Int)-f.leastPlace).toNat=d by omega];omega
   exact⟨s,2^f.fractionBits+r%2^f.fractionBits,f.leastPlace+d,⟨by omega,by rw[xh];omega,.inl (by omega)⟩,by rw[e];exact c,by rw[e]⟩
 .right
  intro s' m e h;unfold Format.read at h;have nM:f.word s r%f.signWeight=r:=by
   unfold Format.word
   cases s with
   | true=>rw[yC rfl,ycg,yQ hr]
   | false=>rw[yq (by decide),yQ hr]
  simp only[nM] at h;rw[yq (by omega),yq c] at h
  split at h<;>cases h
end
section
open Ieee
section
variable {s:Bool}{e:Int}{m:Nat}
abbrev oY(b:Nat)(s:Bool)(m:Nat)(e:Int):Prop:=oX single b s m e
def JX:single.leastPlace= -149:=by decide
def oY.b{b:Nat}(h:oY b s m e): -149<=e/\m<16777216/\(8388608<=m\/e= -149)/\e<=104:=by
 have h1:=h.can.lp;have h2:=h.can.lt;have h3:=h.can.ge;have h4:=h.lt;rw[JX] at h1 h3;have h4:(e-single.leastPlace).toNat*8388608+m<2139095040:=h4;rw[JX] at h4;have h2:m<16777216:=h2;have h3:8388608<=m\/e= -149:=h3;exact⟨h1,h2,h3,by omega⟩
def CT{n:Nat}{k:Int}(h0:n≠0)(hn:n<16777216)(hk: -149<=k)(jG:k<=104)(s:Bool)(hv:(m0:Rat)*p2 e0=(n:Rat)*p2 k):∃m e,oY (single.write (.number s m0 e0)) s m e/\m≠0/\(m:Rat)*p2 e=(n:Rat)*p2 k:=
 wr (f:=single) h0 hn (by rw[JX];exact hk) (by rw[JX];show _<=255;omega) s hv
def SD(s:Bool)(e0:Int):oY (single.write (.number s 0 e0)) s 0 (-149):=by
 have:=wr0 (f:=single) s e0 (by decide)
 rwa[JX] at this
def ah6:single.read 1073741824=.number ydC 8388608 (-22):=by decide
def Zh{b:Nat}(h:oY b s m e)(he:e<=103\/m=0):∃b' m' e',single.mul b 1073741824=GR b'/\oY b' s m' e'/\(m':Rat)*p2 e'=2*((m:Rat)*p2 e):=by
 obtain⟨b1,b2,b3,b4⟩:=h.b;have hr:=h.read;unfold Format.mul;rw[hr,ah6];show ∃b' m' e',GR (single.write (.number (s^^ydC) (m*8388608) (e+ -22)))=GR b'/\_
 rw[ycn];by_cases h0:m=0
 .subst h0;rw[wo];exact⟨_,_,_,rfl,SD s _,by simp⟩
 .obtain ⟨m',e',k1,k2,k3⟩:=CT (n:=m) (k:=e+1) h0 b2 (by omega) (by omega) (m0:=m*8388608) (e0:=e+ -22) s (by
   have:((8388608:Nat):Rat)=p2 23:=(fP 23).symm
   rw[xI,this,wv,<-eY,show (23:Int)+(e+ -22)=e+1 by omega])
  exact⟨_,m',e',rfl,k1,by rw[k3,eY,sU];grind⟩
def Zi{b:Nat}(h:oY b s m e)(he: -148<=e\/m%2=0):∃b' m' e',single.div b 1073741824=GR b'/\oY b' s m' e'/\2*((m':Rat)*p2 e')=(m:Rat)*p2 e:=by
 obtain⟨b1,b2,b3,b4⟩:=h.b;have hr:=h.read;unfold Format.div;rw[hr,ah6];have hl:(8388608:Nat).log2=23:=by decide
 have e0:Datum.quotient (single.fractionBits+2) (.number s m e) (.number ydC 8388608 (-22))=GR (.number (s^^ydC) (2*((m<<<(25+23-m.log2))/8388608)+((m<<<(25+23-m.log2))%8388608 !=0).toNat) (e - -22-(25+23-m.log2:Nat)-1)):=by
  show (if (8388608:Nat)=0 then (if m=0 then none else GR (Datum.infinity (s^^ydC))) else GR (Datum.number (s^^ydC) (2*((m<<<(25+ycx 8388608-m.log2))/8388608)+((m<<<(25+ycx 8388608-m.log2))%8388608 !=0).toNat) (e - -22-((25+ycx 8388608-m.log2:Nat):Int)-1)))=_
  rw[yq (by decide),hl]
 rw[e0,ycn];show ∃b' m' e',GR (single.write (.number s _ _))=GR b'/\_
 by_cases h0:m=0
 .subst h0;simp only[Nat.zero_shiftLeft,Nat.zero_div,Nat.zero_mod,xF];exact⟨_,_,_,rfl,SD s _,by simp⟩
 .have Tk:m.log2<24:=(ybw h0).2 b2;obtain⟨t,ht⟩:∃t,25+23-m.log2=t+23:=⟨25-m.log2,by omega⟩;have kU:m<<<(t+23)=(m*2^t)*8388608:=by rw[ud,xB,<-xf]
  rw[ht,kU,uh _ (by decide),tG];simp only[bne_self_eq_false,ybW,yY];have aM:((2*(m*2^t):Nat):Rat)*p2 (e - -22-(t+23:Nat)-1)=(m:Rat)*p2 (e-1):=by
   have:((2:Nat):Rat)=p2 1:=(fP 1).symm
   rw[xI,xI,<-fP,this];have h2:p2 1*((m:Rat)*p2 t)*p2 (e - -22-(t+23:Nat)-1)=(m:Rat)*(p2 1*p2 t*p2 (e - -22-(t+23:Nat)-1)):=by grind
   rw[h2,<-eY,<-eY,show (1:Int)+t+(e - -22-(t+23:Nat)-1)=e-1 by omega]
  have fin:∀{m':Nat} {e':Int},(m':Rat)*p2 e'=(m:Rat)*p2 (e-1)->2*((m':Rat)*p2 e')=(m:Rat)*p2 e:=fun {m' e'} q=>by
   rw[q]
   have:p2 e=p2 1*p2 (e-1):=by rw[<-eY,show 1+(e-1)=e by omega]
   rw[this,sU];grind
  by_cases c: -148<=e
  .obtain ⟨m',e',k1,k2,k3⟩:=CT (n:=m) (k:=e-1) h0 b2 (by omega) (by omega) s aM;exact⟨_,m',e',rfl,k1,fin k3⟩
  .have NH:m%2=0:=by omega
   have hm:((m:Nat):Rat)=((m/2:Nat):Rat)*2:=by
    have:m=m/2*2:=by omega
    conv=>lhs;rw[this,xI]
    rfl
   have hq:(m:Rat)*p2 (e-1)=((m/2:Nat):Rat)*p2 e:=by
    have:p2 e=p2 1*p2 (e-1):=by rw[<-eY,show 1+(e-1)=e by omega]
    rw[hm,this,sU];grind
   obtain⟨m',e',k1,k2,k3⟩:=CT (n:=m/2) (k:=e) (by omega) (by omega) (by omega) (by omega) s (aM.trans hq);exact⟨_,m',e',rfl,k1,fin (k3.trans hq.symm)⟩
def ofInt{n:Int}(h:n.natAbs<=16777216):∃m e,oY (single.write (.number (n<0) n.natAbs 0)) (n<0) m e/\(m:Rat)*p2 e=(n.natAbs:Rat):=by
 by_cases h0:n.natAbs=0
 .rw [h0];exact⟨0,-149,SD _ _,by simp⟩
 .by_cases h1:n.natAbs<16777216
  .obtain ⟨m,e,k1,k2,k3⟩:=CT (n:=n.natAbs) (k:=0) h0 h1 (by omega) (by omega) (m0:=n.natAbs) (e0:=0) (n<0) rfl;exact⟨m,e,k1,by rw[k3,pW,wJ]⟩
  .have h2:n.natAbs=16777216:=by omega
   obtain⟨m,e,k1,k2,k3⟩:=CT (n:=8388608) (k:=1) (by decide) (by decide) (by omega) (by omega) (m0:=n.natAbs) (e0:=0) (n<0) (by rw[h2,pW,sU];decide+kernel)
   exact⟨m,e,k1,by rw[k3,h2,sU];decide+kernel⟩
def ass(n d:Nat)(s:Bool):Toward.zero.cut s n d=n/2^d:=by
 unfold Toward.cut;simp only[ybV,ybW,yY];by_cases c:d<=n.log2+2
 .rw [xo c]
 .have h1:n<2^(n.log2+1):=ych;rw[Nat.min_eq_right (by omega),xP (vH h1 (vG (by decide) (by omega))),xP (vH h1 (vG (by decide) (by omega)))]
def oY.toInt{b:Nat}(h:oY b s m e):(single.read b).toInt .zero=GR (if s=ydB then -((m*2^e.toNat/2^(-e).toNat:Nat):Int) else ((m*2^e.toNat/2^(-e).toNat:Nat):Int)):=by
 rw[h.read];unfold Datum.toInt Datum.integral;simp only[ass,ud,signed,vV,yg]
def Qd{base:Int}(h:base<=e):((signed s m (e-base).toNat:Int):Rat)*p2 base=fv s m e:=by
 have:p2 e=p2 ((e-base).toNat:Nat)*p2 base:=by rw[<-eY,show ((e-base).toNat:Int)+base=e by omega]
 unfold signed fv sg;rw[this,ud,fP]
 cases s with
 | true=>
  rw[yC rfl,yC rfl,uV]
  have:(((m*2^(e-base).toNat:Nat):Int):Rat)=(m:Rat)*((2^(e-base).toNat:Nat):Rat):=by rw[<-xI];rfl
  rw[this];grind
 | false=>
  rw[yq (by decide),yq (by decide)]
  have:(((m*2^(e-base).toNat:Nat):Int):Rat)=(m:Rat)*((2^(e-base).toNat:Nat):Rat):=by rw[<-xI];rfl
  rw[this];grind
def auN{x y n:Nat}{t:Bool}{j:Int}(hx:oY x s m e)(hy:oY y t n j):single.order x y=GR (if fv s m e<fv t n j then .lt else if fv s m e=fv t n j then .eq else .gt):=by
 unfold Format.order;rw[hx.read,hy.read];unfold Datum.order;have h1:=Qd (m:=m) (s:=s) (show min e j<=e by omega);have h2:=Qd (m:=n) (s:=t) (show min e j<=j by omega);have hp:=nD (min e j)
 dsimp only
 generalize signed s m (e-min e j).toNat=a at*
 generalize signed t n (j-min e j).toNat=b at*
 rw[<-h1,<-h2]
 congr 1
 have lt_iff:(a:Rat)*p2 (min e j)<(b:Rat)*p2 (min e j)↔a<b:=by
  constructor
  .intro q
   have:=(wK hp).1 q
   exact_mod_cast this
  .intro q;exact (wK hp).2 (by exact_mod_cast q)
 have eq_iff:(a:Rat)*p2 (min e j)=(b:Rat)*p2 (min e j)↔a=b:=by
  constructor
  .intro q;rcases uQ a b with c | c | c
   .have:=lt_iff.2 c;rw[q] at this;exact absurd this (tk)
   .exact c
   .have:=(wK hp).2 (show (b:Rat)<a by exact_mod_cast c);rw[q] at this;exact absurd this (tk)
  .intro q;rw[q]
 rcases uQ a b with c | c | c
 .rw [yC (lt_iff.2 c)];exact Int.compare_eq_lt.2 c
 .rw [yq (fun q=>by have:=lt_iff.1 q;omega),yC (eq_iff.2 c)];exact Int.compare_eq_eq.2 c
 .rw [yq (fun q=>by have:=lt_iff.1 q;omega),yq (fun q=>by have:=eq_iff.1 q;omega)];exact Int.compare_eq_gt.2 c
end
end
section
open Ieee
section
variable {s:Bool}{e:Int}{M b m:Nat}
def cV(m:Nat)(e:Int):Nat:=m*2^(e+149).toNat
structure Fl(b:Nat)(s:Bool)(M:Nat):Prop where
 ex:∃m e,oY b s m e/\M=cV m e
def zM(h: -149<=e):((cV m e:Nat):Rat)=(m:Rat)*p2 e*p2 149:=by
 unfold cV;rw[xI,<-fP,wv,<-eY,show ((e+149).toNat:Int)=e+149 by omega]
def ayo:p2 149≠0:=L8 149
def Ww{n:Nat}{j:Int}(h1: -149<=e)(h2: -149<=j)(h:(m:Rat)*p2 e=(n:Rat)*p2 j):cV m e=cV n j:=by
 have:((cV m e:Nat):Rat)=((cV n j:Nat):Rat):=by rw[zM h1,zM h2,h]
 exact_mod_cast this
def Fl.lt(h:Fl b s M):M<2^277:=by
 obtain⟨m,e,h1,rfl⟩:=h.ex;obtain⟨b1,b2,b3,b4⟩:=h1.b;unfold cV;have h3:2^(e+149).toNat<=2^253:=xc (by decide) (by omega);have h4:=y8 (uf (show m<16777215+1 from b2)) h3;exact xL h4 (Xa 16777215 24 253 277 (by decide) rfl)
def Fl.Zh(h:Fl b s M)(hM:M<2^276):∃b',single.mul b 1073741824=GR b'/\Fl b' s (2*M):=by
 obtain⟨m,e,h1,rfl⟩:=h.ex;obtain⟨b1,b2,b3,b4⟩:=h1.b;have he:e<=103\/m=0:=by
  by_cases c:e<=103
  .exact .inl c
  .exfalso
   have hm:8388608<=m:=by omega
   unfold cV at hM;have h3:2^253<=2^(e+149).toNat:=xc (by decide) (by omega);have h4:=y8 hm h3;have h5:(2:Nat)^275<=8388608*2^253:=ayk 8388608 23 253 275 (by decide) (by decide);omega
 obtain⟨b',m',e',k1,k2,k3⟩:=VE.Zh h1 he;have b1':=k2.b.1;refine⟨b',k1,m',e',k2,?_⟩
 have:((2*cV m e:Nat):Rat)=((cV m' e':Nat):Rat):=by
  rw[xI,zM b1,zM b1',k3];show (2:Rat)*_=_
  grind
 exact_mod_cast this
def Fl.Zi(h:Fl b s M)(hM:M%2=0):∃b',single.div b 1073741824=GR b'/\Fl b' s (M/2):=by
 obtain⟨m,e,h1,rfl⟩:=h.ex;obtain⟨b1,b2,b3,b4⟩:=h1.b;have he: -148<=e\/m%2=0:=by
  by_cases c: -148<=e
  .exact .inl c
  .have:e= -149:=by omega
   subst this;unfold cV at hM;right
   simpa using hM
 obtain⟨b',m',e',k1,k2,k3⟩:=VE.Zi h1 he;have b1':=k2.b.1;refine⟨b',k1,m',e',k2,?_⟩
 have:((cV m e:Nat):Rat)=((2*cV m' e':Nat):Rat):=by
  rw[xI,zM b1,zM b1',<-k3];show _=(2:Rat)*_
  grind
 have:cV m e=2*cV m' e':=by exact_mod_cast this
 omega
def bj(s:Bool)(M:Nat):Int:=if s then -(M:Int) else M
def ah7(h: -149<=e):fv s m e*p2 149=((bj s (cV m e):Int):Rat):=by
 unfold fv sg bj
 cases s with
 | true=>
  rw[yC rfl,yC rfl,uV]
  have:=zM (m:=m) h
  have h2:(((cV m e:Nat):Int):Rat)=((cV m e:Nat):Rat):=rfl;rw[h2,this];grind
 | false=>
  rw[yq (by decide),yq (by decide)]
  have:=zM (m:=m) h
  have h2:(((cV m e:Nat):Int):Rat)=((cV m e:Nat):Rat):=rfl;rw[h2,this];grind
def Fl.ord{x y:Nat}{t:Bool}(hx:Fl x s M)(hy:Fl y t N):single.order x y=GR (if bj s M<bj t N then .lt else if bj s M=bj t N then .eq else .gt):=by
 obtain⟨m,e,h1,rfl⟩:=hx.ex;obtain⟨n,j,h2,rfl⟩:=hy.ex;rw[auN h1 h2];have q1:=ah7 (s:=s) (m:=m) h1.b.1;have q2:=ah7 (s:=t) (m:=n) h2.b.1;have hp:=nD 149;have lt_iff:fv s m e<fv t n j↔bj s (cV m e)<bj t (cV n j):=by
  rw[<-wK hp,q1,q2];exact uS
 have eq_iff:fv s m e=fv t n j↔bj s (cV m e)=bj t (cV n j):=by
  constructor
  .intro q;rw[q,q2] at q1;exact (Rat.intCast_inj.1 q1).symm
  .intro q
   have:fv s m e*p2 149=fv t n j*p2 149:=by rw[q1,q2,q]
   have h3:=congrArg (·*(p2 149)⁻¹) this;simpa only[wv,Rat.mul_inv_cancel _ ayo,wJ] using h3
 congr 1
 by_cases c1:bj s (cV m e)<bj t (cV n j)
 .rw [yC c1,yC (lt_iff.2 c1)]
 .rw [yq c1,yq (fun q=>c1 (lt_iff.1 q))];by_cases c2:bj s (cV m e)=bj t (cV n j)
  .rw [yC c2,yC (eq_iff.2 c2)]
  .rw [yq c2,yq (fun q=>c2 (eq_iff.1 q))]
def Fl.ofInt{n:Int}(h:n.natAbs<=16777216):Fl (single.write (.number (n<0) n.natAbs 0)) (n<0) (n.natAbs*2^149):=by
 obtain⟨m,e,k1,k2⟩:=VE.ofInt h;refine⟨m,e,k1,?_⟩;have b1:=k1.b.1
 have:((n.natAbs*2^149:Nat):Rat)=((cV m e:Nat):Rat):=by
  rw[zM b1,k2,xI,<-fP];rfl
 exact_mod_cast this
def Fl.toInt(h:Fl b s M):(single.read b).toInt .zero=GR (bj s (M/2^149)):=by
 obtain⟨m,e,h1,rfl⟩:=h.ex;have b1:=h1.b.1;rw[h1.toInt]
 have:m*2^e.toNat/2^(-e).toNat=cV m e/2^149:=by
  unfold cV;by_cases c:0<=e
  .rw [show (-e).toNat=0 by omega,vV,Nat.div_one,show (e+149).toNat=e.toNat+149 by omega,xB,<-xf,uh _ (xe _)]
  .obtain ⟨d,hd⟩:∃d:Nat,e= -(d:Int):=⟨(-e).toNat,by omega⟩;have gM:(e+149).toNat+d=149:=by omega
   rw[show e.toNat=0 by omega,vV,yg,show (-e).toNat=d by omega];have hp:0<2^(e+149).toNat:=xe _;rw[<-gM,xB,xd m,Nat.mul_div_mul_left _ _ hp]
 rw[this];unfold bj;cases s<;>rfl
def Fl.zero:Fl 0 ydC 0:=⟨0,-149,⟨by rw[<-JX];exact ah5 single,by decide,by decide⟩,by decide⟩
def Fl.neg(h:Fl b s M):Fl (b^^^2147483648) (!s) M:=by
 obtain⟨m,e,h1,rfl⟩:=h.ex;refine⟨m,e,⟨h1.can,h1.lt,?_⟩,rfl⟩;have hr:gB single m e<2^31:=vH h1.lt (by decide);have sw:single.signWeight=2^31:=by decide
 rw[h1.eq];unfold Format.word;rw[sw];have hx:gB single m e^^^2147483648=2^31+gB single m e:=by
  rw[show (2147483648:Nat)=2^31*1 by decide,Nat.xor_comm]
  have:=Nat.two_pow_add_eq_or_of_lt hr 1
  have h2:=Nat.xor_mod_two_pow (a:=gB single m e) (b:=2^31*1) (n:=31);refine Nat.eq_of_testBit_eq fun i=>?_
  rw[Nat.testBit_xor,show 2^31+gB single m e=2^31*1+gB single m e by omega,Nat.testBit_two_pow_mul_add _ hr,Nat.testBit_two_pow_mul];by_cases c:i<31
  .simp [c,show ¬31<=i by omega]
  .have:Nat.testBit (gB single m e) i=ydC:=Nat.testBit_lt_two_pow (yF hr (xc (by decide) (by omega)))
   simp[c,this,show 31<=i by omega]
 cases s with
 | false=>rw[yq (by decide),hx];rfl
 | true=>
  rw[yC rfl]
  have:(2^31+gB single m e)^^^2147483648=gB single m e:=by rw[<-hx,Nat.xor_assoc,Nat.xor_self,Nat.xor_zero]
  rw[this];rfl
end
end
section
open Go (IntKind)
open Ieee
section
variable {s:Bool}{M b:Nat}
def Fl.even(h:Fl b s M)(hM:2^173<=M):M%2=0:=by
 obtain⟨m,e,h1,rfl⟩:=h.ex;obtain⟨b1,b2,b3,b4⟩:=h1.b;by_cases c:e<=0
 .exfalso
  unfold cV at hM;have h3:2^(e+149).toNat<=2^149:=xc (by decide) (by omega);have h4:=y8 (uf (show m<16777215+1 from b2)) h3;have h5:16777215*(2:Nat)^149<2^173:=by decide
  omega
 .obtain ⟨d,hd⟩:∃d,(e+149).toNat=d+1:=⟨(e+148).toNat,by omega⟩;unfold cV;rw[hd,xh,<-xf,tG]
def Fl.whole(h:Fl b s M)(hM:2^172<=M):M%2^149=0:=by
 obtain⟨m,e,h1,rfl⟩:=h.ex;obtain⟨b1,b2,b3,b4⟩:=h1.b;by_cases c:e<0
 .exfalso
  unfold cV at hM;have h3:2^(e+149).toNat<=2^148:=xc (by decide) (by omega);have h4:=y8 (uf (show m<16777215+1 from b2)) h3;have h5:16777215*(2:Nat)^148<2^172:=by decide
  omega
 .obtain ⟨d,hd⟩:∃d,(e+149).toNat=d+149:=⟨e.toNat,by omega⟩;unfold cV;rw[hd,xB,<-xf,tG]
def Xb(h:Fl b s M)(hM:M<2^276):∃b',binOp .mul (.an .f32 b) (.an .f32 1073741824)=GR (.an .f32 b')/\Fl b' s (2*M):=by
 obtain⟨b',k1,k2⟩:=h.Zh hM;refine⟨b',?_,k2⟩;show (match single.mul b 1073741824 with | some b=>GR (AV.an .f32 b) | none=>none)=_
 rw[k1]
def Xc(h:Fl b s M)(hM:M%2=0):∃b',binOp .quo (.an .f32 b) (.an .f32 1073741824)=GR (.an .f32 b')/\Fl b' s (M/2):=by
 obtain⟨b',k1,k2⟩:=h.Zi hM;refine⟨b',?_,k2⟩;show (match single.div b 1073741824 with | some b=>GR (AV.an .f32 b) | none=>none)=_
 rw[k1]
section
variable {x y M N:Nat}{s t:Bool}(hx:Fl x s M)(hy:Fl y t N)
include hx hy
theorem ah8:binOp .lss (.an .f32 x) (.an .f32 y)=GR (.bool (decide (bj s M<bj t N))):=by
 show GR (AV.bool (single.order x y==GR .lt))=_
 rw[hx.ord hy];by_cases c:bj s M<bj t N
 .rw [yC c,yZ c];rfl
 .rw [yq c,yJ c];split<;>rfl
theorem aAU:binOp .gtr (.an .f32 x) (.an .f32 y)=GR (.bool (decide (bj t N<bj s M))):=by
 show GR (AV.bool (single.order x y==GR .gt))=_
 rw[hx.ord hy];by_cases c:bj s M<bj t N
 .rw [yC c,yJ (by omega)];rfl
 .rw [yq c];by_cases d:bj s M=bj t N
  .rw [yC d,yJ (by omega)];rfl
  .rw [yq d,yZ (by omega)];rfl
theorem ah9:binOp .geq (.an .f32 x) (.an .f32 y)=GR (.bool (decide (bj t N<=bj s M))):=by
 show GR (AV.bool (single.order x y==GR .gt||single.order x y==GR .eq))=_
 rw[hx.ord hy];by_cases c:bj s M<bj t N
 .rw [yC c,yJ (by omega)];rfl
 .rw [yq c,yZ (by omega)];split<;>rfl
theorem Q4:binOp .eql (.an .f32 x) (.an .f32 y)=GR (.bool (decide (bj s M=bj t N))):=by
 show GR (AV.bool (single.order x y==GR .eq))=_
 rw[hx.ord hy];by_cases c:bj s M<bj t N
 .rw [yC c,yJ (by omega)];rfl
 .rw [yq c];by_cases d:bj s M=bj t N
  .rw [yC d,yZ d];rfl
  .rw [yq d,yJ d];rfl
theorem XU:binOp .neq (.an .f32 x) (.an .f32 y)=GR (.bool (!decide (bj s M=bj t N))):=by
 show GR (AV.bool (single.order x y !=GR .eq))=_
 rw[hx.ord hy];by_cases c:bj s M<bj t N
 .rw [yC c,yJ (by omega)];rfl
 .rw [yq c];by_cases d:bj s M=bj t N
  .rw [yC d,yZ d];rfl
  .rw [yq d,yJ d];rfl
end
def Q5(b:Nat):unOp .neg (.an .f32 b)=GR (.an .f32 (b^^^2147483648)):=rfl
def aAV(h:Fl b s M):∃a,max2 (.an .f32 b) (.an .f32 (b^^^2147483648))=GR (.an .f32 a)/\Fl a ydC M:=by
 have hn:=h.neg;have ho:=h.ord hn
 have e:max2 (.an .f32 b) (.an .f32 (b^^^2147483648))=(match single.order b (b^^^2147483648) with
  | none=>none
  | some .lt=>GR (.an .f32 (b^^^2147483648))
  | some .gt=>GR (.an .f32 b)
  | some .eq=>GR (.an .f32 (if (single.read b).neg then (b^^^2147483648) else b))):=rfl
 rw[e,ho];obtain⟨m,j,h1,hM⟩:=h.ex;have hr:(single.read b).neg=s:=by rw[h1.read];rfl
 cases s with
 | true=>
  by_cases c:bj ydB M<bj (!ydB) M
  .rw [yC c];exact⟨_,rfl,hn⟩
  .have:bj ydB M=bj (!ydB) M:=by
    unfold bj at c ⊢;simp at c ⊢;omega
   rw[yq c,yC this]
   dsimp only
   rw[hr,yC rfl];exact⟨_,rfl,hn⟩
 | false=>
  have c:¬bj ydC M<bj (!ydC) M:=by
   show ¬(M:Int)< -(M:Int)
   omega
  rw[yq c];by_cases d:bj ydC M=bj (!ydC) M
  .rw [yC d]
   dsimp only
   rw[hr,yq (by decide)];exact⟨_,rfl,h⟩
  .rw [yq d];exact⟨_,rfl,h⟩
def Qe(h:Fl b s M)(hM:M<2^200):iC (.toInt .i64) (.an .f32 b)=GR (.int .i64 (bj s (M/2^149))):=by
 have e:iC (.toInt .i64) (.an .f32 b)=(match (single.read b).toInt .zero with
  | some n=>if IntKind.min .i64<=n/\n<=IntKind.max .i64 then GR (.int .i64 n) else none
  | none=>none):=rfl
 rw[e,h.toInt];have h1:M/2^149<2^51:=by rw[xC (xe _),<-xB];exact hM
 generalize M/2^149=n at h1
 have:IntKind.min .i64<=bj s n/\bj s n<=IntKind.max .i64:=by
  rw[show IntKind.min .i64= -9223372036854775808 from rfl,show IntKind.max .i64=9223372036854775807 from rfl];unfold bj
  split<;>omega
 exact yC this
def Wx{n:Int}(h:n.natAbs<=16777216):∃b,iC (.toFlt .f32) (.int .i64 n)=GR (.an .f32 b)/\Fl b (n<0) (n.natAbs*2^149):=
 ⟨_,rfl,Fl.ofInt h⟩
def aia:Fl 1266679808 ydC (2^173):=⟨8388608,1,⟨⟨by decide,by decide,.inl (by decide)⟩,by decide,by decide⟩,by decide⟩
end
end
def aqi(p s:Nat):p*(s%1000000000)+p*1000000000*(s/1000000000)=p*s:=by
 rw[xf,<-xH,uz]
def KA{l:List Int}{i:Nat}(h:l.length<=i):l.getD i 0=0:=by simp_all
def ast{a b:List Int}{i c:Nat}{y:Int}(hx:x=a.getD i 0)(hy:y=b.getD i 0)(h1:0<=x)(h2:0<=y)(hl:out.length=i)(hv:dv out+1000000000^i*c=dv (a.take i)+dv (b.take i)):
  dv (out++[(((x.toNat+y.toNat+c)%1000000000:Nat):Int)])+1000000000^(i+1)*((x.toNat+y.toNat+c)/1000000000)=dv (a.take (i+1))+dv (b.take (i+1)):=by
 rw[sh,sh,n7,hl,<-hx,<-hy];simp only[dv,wA,xF,yY,xh]
 have:=aqi (1000000000^i) (x.toNat+y.toNat+c)
 grind
def ayp(oO:Has P L 302 A5){w:AV}{a b:List Int}(hv:bB v a)(hw:bB w b)(ha:dg a)(hb:dg b)(la:a.length<=N)(lb:b.length<=N)(lN:N<=20000000000):
  cG P L [0,1,5,6,7] su (fun k s=>∃(i c:Nat) (out:List Int),2*(N-i)+c=k/\out.length=i/\c<=1/\dg out/\dv out+1000000000^i*c=dv (a.take i)+dv (b.take i)/\i<=N+1/\(i<=N\/c=0)/\
    ((i=0/\s=⟨[(0,v),(1,w),(5,.aj),(6,aa c),(7,aa i)],[],0,0⟩)\/
    (0<i/\s=⟨[(0,v),(1,w),(5,.ay 0 0 i),(6,aa c),(7,aa i)],[(0,.cells ydB ydB ydC 1 (out.map aa))],1,0⟩))) (fun ex s'=>∃tm out,ex=.exit 0/\dg out/\dv out=dv a+dv b/\out.length<=N+1/\((out=[]/\ak tm 5=.aj/\s'=⟨tm,[],0,0⟩)\/(0<out.length/\ak tm 5=.ay 0 0 out.length/\s'=⟨tm,[(0,.cells ydB ydB ydC 1 (out.map aa))],1,0⟩))):=by
 apply cI;rintro k s ⟨i,c,out,hk,hlen,hc,nt,aM,hi,IE,hs⟩;have e1:=YR oO hv i;have e2:=YR oO hw i;unfold ab at e1 e2;have ga:=jO ha i;have gb:=jO hb i;by_cases Bu:i<a.length\/i<b.length\/0<c
 .left
  obtain⟨x,hx⟩:∃x,x=a.getD i 0:=⟨_,rfl⟩;obtain⟨y,hy⟩:∃y,y=b.getD i 0:=⟨_,rfl⟩;rw[<-hx] at e1 ga;rw[<-hy] at e2 gb;have mV:=ast (c:=c) hx hy ga.1 gb.1 hlen aM;obtain⟨s0,Ag⟩:∃s0,s0=x.toNat+y.toNat+c:=⟨_,rfl⟩;rw[<-Ag] at mV;have DR:x+y+(c:Int)=(s0:Int):=by lia
  have hs9:s0<2000000000:=by lia
  have hr:((s0:Nat):Int).tmod 1000000000=((s0%1000000000:Nat):Int):=by rw[xK (by lia)];rfl
  have hq:((s0:Nat):Int).tdiv 1000000000=((s0/1000000000:Nat):Int):=by rw[xQ (by lia)];rfl
  have iN:s0/1000000000<=1:=by lia
  have aAW:2*(N-(i+1))+s0/1000000000<k:=by
   by_cases hm:i<N
   .lia
   .have:c=1:=by lia
    have jk:x=0:=by rw[hx];exact KA (by lia)
    have ia:y=0:=by rw[hy];exact KA (by lia)
    subst jk;subst ia
    have:s0=1:=by rw[Ag,this];rfl
    subst this
    lia
  have z6:dg (out++[((s0%1000000000:Nat):Int)]):=jl.2 ⟨nt,mu.2 (by lia)⟩;have XV:(out++[((s0%1000000000:Nat):Int)]).length=i+1:=by simp[hlen]
  have aC7:i+1<=N\/s0/1000000000=0:=by
   by_cases hm:i<N
   .exact .inl hm
   .right
    have:c=1:=by lia
    have jk:x=0:=by rw[hx];exact KA (by lia)
    have ia:y=0:=by rw[hy];exact KA (by lia)
    subst jk;subst ia
    have:s0=1:=by rw[Ag,this];rfl
    subst this;rfl
  have fin:∃s',D P L su s=GR (.normal,s')/\bH [0,1,5,6,7] s'=⟨[(0,v),(1,w),(5,.ay 0 0 (i+1)),(6,aa (s0/1000000000:Nat)),(7,aa (i+1:Nat))],[(0,.cells ydB ydB ydC 1 ((out++[((s0%1000000000:Nat):Int)]).map aa))],1,0⟩:=by
   have three:((i:Int)<a.length)\/(¬(i:Int)<a.length/\(i:Int)<b.length)\/(¬(i:Int)<a.length/\¬(i:Int)<b.length/\(0:Int)<c):=by lia
   rcases three with t1 | ⟨t1,t2⟩ | ⟨t1,t2,t3⟩
   .rcases hs with ⟨h0,rfl⟩ | ⟨h0,rfl⟩
    .subst h0;have kN:out=[]:=yE hlen;subst kN
     simp only[go_sem,ya,yb,xy,yv,yh,yg,su,hv.len,hv.ai,hw.ai,t1,e1,e2,wrap64 (n:=x+y) (by lia) (by lia),DR,wrap64 (n:=(s0:Int)) (by lia) (by lia),fM _ _ _ (show (1000000000:Int)≠0 by decide),eP _ _ _ (show (1000000000:Int)≠0 by decide),hr,hq,wrap64 (n:=((s0/1000000000:Nat):Int)) (by lia) (by lia),jm];refine⟨_,rfl,?_⟩;rw[wrap64 (by lia) (by lia)];simp only[go_sem,ya,yb,aq,aD hv.pu,aD hw.pu]<;>rfl
    .simp only [go_sem,ya,yb,yh,yg,su,hv.len,hv.ai,hw.ai,t1,e1,e2,wrap64 (n:=x+y) (by lia) (by lia),DR,wrap64 (n:=(s0:Int)) (by lia) (by lia),fM _ _ _ (show (1000000000:Int)≠0 by decide),hr]
     rw[gR (ex:=ydC) (pu:=ydB) (cs:=out.map aa) rfl (by rw[y5,hlen,yg]) (by lia) (by lia) (by decide) rfl]
     simp only[go_sem,ya,yb,eP _ _ _ (show (1000000000:Int)≠0 by decide),hq,wrap64 (n:=((s0/1000000000:Nat):Int)) (by lia) (by lia)];refine⟨_,rfl,?_⟩;rw[wrap64 (by lia) (by lia),xu];simp only[go_sem,ya,yb,aq,aD hv.pu,aD hw.pu]<;>rfl
   .rcases hs with ⟨h0,rfl⟩ | ⟨h0,rfl⟩
    .subst h0;have kN:out=[]:=yE hlen;subst kN
     simp only[go_sem,ya,yb,xy,yv,yh,yg,su,hv.len,hv.ai,hw.len,hw.ai,t1,t2,e1,e2,wrap64 (n:=x+y) (by lia) (by lia),DR,wrap64 (n:=(s0:Int)) (by lia) (by lia),fM _ _ _ (show (1000000000:Int)≠0 by decide),eP _ _ _ (show (1000000000:Int)≠0 by decide),hr,hq,wrap64 (n:=((s0/1000000000:Nat):Int)) (by lia) (by lia),jm];refine⟨_,rfl,?_⟩;rw[wrap64 (by lia) (by lia)];simp only[go_sem,ya,yb,aq,aD hv.pu,aD hw.pu]<;>rfl
    .simp only [go_sem,ya,yb,yh,yg,su,hv.len,hv.ai,hw.len,hw.ai,t1,t2,e1,e2,wrap64 (n:=x+y) (by lia) (by lia),DR,wrap64 (n:=(s0:Int)) (by lia) (by lia),fM _ _ _ (show (1000000000:Int)≠0 by decide),hr]
     rw[gR (ex:=ydC) (pu:=ydB) (cs:=out.map aa) rfl (by rw[y5,hlen,yg]) (by lia) (by lia) (by decide) rfl]
     simp only[go_sem,ya,yb,eP _ _ _ (show (1000000000:Int)≠0 by decide),hq,wrap64 (n:=((s0/1000000000:Nat):Int)) (by lia) (by lia)];refine⟨_,rfl,?_⟩;rw[wrap64 (by lia) (by lia),xu];simp only[go_sem,ya,yb,aq,aD hv.pu,aD hw.pu]<;>rfl
   .rcases hs with ⟨h0,rfl⟩ | ⟨h0,rfl⟩
    .subst h0;have kN:out=[]:=yE hlen;subst kN
     simp only[go_sem,ya,yb,xy,yv,yh,yg,su,hv.len,hv.ai,hw.len,hw.ai,t1,t2,t3,e1,e2,wrap64 (n:=x+y) (by lia) (by lia),DR,wrap64 (n:=(s0:Int)) (by lia) (by lia),fM _ _ _ (show (1000000000:Int)≠0 by decide),eP _ _ _ (show (1000000000:Int)≠0 by decide),hr,hq,wrap64 (n:=((s0/1000000000:Nat):Int)) (by lia) (by lia),jm];refine⟨_,rfl,?_⟩;rw[wrap64 (by lia) (by lia)];simp only[go_sem,ya,yb,aq,aD hv.pu,aD hw.pu]<;>rfl
    .simp only [go_sem,ya,yb,yh,yg,su,hv.len,hv.ai,hw.len,hw.ai,t1,t2,t3,e1,e2,wrap64 (n:=x+y) (by lia) (by lia),DR,wrap64 (n:=(s0:Int)) (by lia) (by lia),fM _ _ _ (show (1000000000:Int)≠0 by decide),hr]
     rw[gR (ex:=ydC) (pu:=ydB) (cs:=out.map aa) rfl (by rw[y5,hlen,yg]) (by lia) (by lia) (by decide) rfl]
     simp only[go_sem,ya,yb,eP _ _ _ (show (1000000000:Int)≠0 by decide),hq,wrap64 (n:=((s0/1000000000:Nat):Int)) (by lia) (by lia)];refine⟨_,rfl,?_⟩;rw[wrap64 (by lia) (by lia),xu];simp only[go_sem,ya,yb,aq,aD hv.pu,aD hw.pu]<;>rfl
  have⟨s',f1,f2⟩:=fin;exact⟨s',_,f1,aAW,i+1,s0/1000000000,_,rfl,XV,iN,z6,mV,by lia,aC7,.inr ⟨by lia,f2⟩⟩
 .right
  have ma:c=0:=by lia
  subst ma;rw[xF,yY,yK (by lia),yK (by lia)] at aM;rcases hs with ⟨h0,rfl⟩ | ⟨h0,rfl⟩
  .simp only [go_sem,ya,su,hv.len,hw.len,show ¬(i:Int)<a.length by lia,show ¬(i:Int)<b.length by lia,show ¬(0:Int)<((0:Nat):Int) by lia];exact⟨_,_,rfl,by simp,_,out,rfl,nt,aM,by lia,.inl ⟨yE (by lia),rfl,rfl⟩⟩
  .simp only [go_sem,ya,su,hv.len,hw.len,show ¬(i:Int)<a.length by lia,show ¬(i:Int)<b.length by lia,show ¬(0:Int)<((0:Nat):Int) by lia];exact⟨_,_,rfl,by simp,_,out,rfl,nt,aM,by lia,.inr ⟨by lia,by rw[hlen];simp only[go_sem,ya],rfl⟩⟩
def ajQ(h:Has P L 295 MA)(oO:Has P L 302 A5){w:AV}{a b:List Int}(hv:bB v a)(hw:bB w b)(ha:dg a)(hb:dg b)(la:a.length<=20000000000)(lb:b.length<=20000000000):
  ∃r out,ab P L 295 [v,w] r/\bB (shut r) out/\dg out/\dv out=dv a+dv b/\out.length<=max a.length b.length+1:=by
 have kM:∃out,ab P L 295 [v,w] (if out=[] then .aj else .c9 ydC 1 out.length (out.map aa))/\dg out/\dv out=dv a+dv b/\out.length<=max a.length b.length+1:=by
  unfold ab;rw[aB h];simp only[go_sem,MA];generalize hq:D P L (.loop _ su) _=q;obtain⟨ex,s,rfl,tm,out,rfl,hd,aM,hl,hs⟩:=bt hq (ayp (P:=P) (L:=L) oO hv hw ha hb (N:=max a.length b.length) (by lia) (by lia) (by lia) (2*(max a.length b.length))) ⟨0,0,[],by lia,rfl,by lia,rfl,by simp[dv],by lia,.inr rfl,.inl ⟨rfl,by simp only[go_sem,ya,aq,aD hv.pu,aD hw.pu]<;>rfl⟩⟩
  refine⟨out,?_,hd,aM,hl⟩;rcases hs with ⟨h0,h5,rfl⟩ | ⟨h0,h5,rfl⟩
  .rw [yC h0];simp only[go_sem,aq,h5]
  .rw [yq (by intro e;subst e;simp at h0)];simp only[go_sem,yb,aq,h5];exact acA (jW _ _ _) (by simp) (by decide)
 have⟨out,g1,g2,g3,g4⟩:=kM;refine⟨_,out,g1,?_,g2,g3,g4⟩
 split
 .rename_i e;subst e;exact AG
 .exact jn ydC out
def Zj(h:Has P L 296 A4){w:AV}{a b:List Int}(hv:bB v a)(hw:bB w b)(ha:dg a)(hb:dg b)(na:nz a)(nb:nz b)(la:a.length<=20000000000)(lb:b.length<=20000000000):
  ab P L 296 [v,w] (aa (eD (dv a) (dv b))):=by
 unfold ab;rw[aB h];by_cases hlen:a.length=b.length
 .have key:=iX P L [0,1,5] Ff
   (fun k st=>∃j:Nat,st=⟨[(0,v),(1,w),(5,aa ((j:Int)-1))],[],0,0⟩/\j<=a.length/\j=k/\a.drop j=b.drop j)
   (fun ex st=>∃tm ct,st=⟨tm,[],ct,0⟩/\((ex=.ret/\ak tm 4=aa (eD (dv a) (dv b)))\/(ex=.exit 0/\a=b))) ?_
  .simp only [go_sem,ya,A4,hv.len,hw.len,show (a.length:Int)=b.length by lia];generalize hq:D P L (.loop _ Ff) _=q;obtain⟨ex,st,rfl,tm,ct,rfl,h2⟩:=bt hq (key a.length) ⟨a.length,by
    rw[wrap64 (by lia) (by lia)];rw[hlen]
    simp only[go_sem,ya,aq,aD hv.pu,aD hw.pu]<;>rfl,yz _,rfl,by rw[y9 (yz _),y9 (by lia)]⟩
   rcases h2 with ⟨rfl,h2⟩ | ⟨rfl,h2⟩
   .simp only [go_sem,h2]
   .simp only [go_sem,aq];subst h2;simp[eD]
  .rintro k st ⟨j,rfl,hj,rfl,he⟩
   cases j with
   | zero=>
    right
    simp only[go_sem,ya,Ff,show ¬(0:Int)<=((0:Nat):Int)-1 by lia];exact⟨_,_,rfl,by simp,_,_,rfl,.inr ⟨rfl,by simpa using he⟩⟩
   | succ i=>
    have h1:i<a.length:=by lia
    have h2:i<b.length:=by lia
    have Ef:=afu ha hb h1 h2 he;have aG:=afu hb ha h2 h1 he.symm;by_cases c1:a[i]<b[i]
    .right
     simp only[go_sem,ya,Ff,show ((i+1:Nat):Int)-1=(i:Int) by lia,show (0:Int)<=(i:Int) by lia,hv.bk h1,hw.bk h2,c1];refine⟨_,_,rfl,by simp,_,_,rfl,.inl ⟨rfl,?_⟩⟩;simp only[go_sem];unfold eD;rw[yC (Ef c1)]
    .by_cases c2:b[i]<a[i]
     .right
      simp only[go_sem,ya,Ff,show ((i+1:Nat):Int)-1=(i:Int) by lia,show (0:Int)<=(i:Int) by lia,hv.bk h1,hw.bk h2,c1,c2];refine⟨_,_,rfl,by simp,_,_,rfl,.inl ⟨rfl,?_⟩⟩;simp only[go_sem];unfold eD;rw[yq (by lia),yC (by lia)]
     .left
      simp only[go_sem,ya,Ff,show ((i+1:Nat):Int)-1=(i:Int) by lia,show (0:Int)<=(i:Int) by lia,hv.bk h1,hw.bk h2,c1,c2];refine⟨_,i,rfl,by lia,i,?_,by lia,rfl,?_⟩
      .rw [wrap64 (by lia) (by lia)];simp only[go_sem,ya,aq,aD hv.pu,aD hw.pu]<;>rfl
      .rw [yX h1,yX h2,he,show a[i]=b[i] by lia]
 .by_cases c1:a.length<b.length
  .have:=WU ha nb hb c1
   simp only[go_sem,ya,A4,hv.len,hw.len,show ¬(a.length:Int)=b.length by lia,show (a.length:Int)<b.length by lia];unfold eD;rw[yC this]
  .have:=WU hb na ha (show b.length<a.length by lia)
   simp only[go_sem,ya,A4,hv.len,hw.len,show ¬(a.length:Int)=b.length by lia,show ¬(a.length:Int)<b.length by lia];unfold eD;rw[yq (by lia),yC this]
def asu{a b:List Int}{i c:Nat}{y z:Int}{c':Nat}(hx:x=a.getD i 0)(hy:y=b.getD i 0)(h1:0<=x)(h2:0<=y)(h3:0<=z)(hz:z=x-y-c+1000000000*c')(hl:out.length=i)(hv:dv out+dv (b.take i)=dv (a.take i)+1000000000^i*c):
  dv (out++[z])+dv (b.take (i+1))=dv (a.take (i+1))+1000000000^(i+1)*c':=by
 rw[sh,sh,n7,hl,<-hx,<-hy];simp only[dv,xF,yY,xh];have e:z.toNat+y.toNat+c=x.toNat+1000000000*c':=by lia
 grind
def ayq(oO:Has P L 302 A5){w:AV}{a b:List Int}(hv:bB v a)(hw:bB w b)(ha:dg a)(hb:dg b)(la:a.length<=20000000000)(hle:dv b<=dv a)(eW:b.length<=a.length):
  cG P L [0,1,5,6,7] AN (fun k s=>∃(i c:Nat) (out:List Int),i+k=a.length/\out.length=i/\c<=1/\dg out/\dv out+dv (b.take i)=dv (a.take i)+1000000000^i*c/\
    ((i=0/\s=⟨[(0,v),(1,w),(5,.aj),(6,aa c),(7,aa i)],[],0,0⟩)\/
    (0<i/\s=⟨[(0,v),(1,w),(5,.ay 0 0 i),(6,aa c),(7,aa i)],[(0,.cells ydB ydB ydC 1 (out.map aa))],1,0⟩))) (fun ex s'=>∃tm out,ex=.exit 0/\dg out/\dv out+dv b=dv a/\out.length<=20000000000/\((out=[]/\ak tm 5=.aj/\s'=⟨tm,[],0,0⟩)\/(0<out.length/\ak tm 5=.ay 0 0 out.length/\s'=⟨tm,[(0,.cells ydB ydB ydC 1 (out.map aa))],1,0⟩))):=by
 apply cI;rintro k s ⟨i,c,out,hk,hlen,hc,nt,aM,hs⟩;have e2:=YR oO hw i;unfold ab at e2;have ga:=jO ha i;have gb:=jO hb i;by_cases Bu:i<a.length
 .left
  obtain⟨x,hx⟩:∃x,x=a.getD i 0:=⟨_,rfl⟩;obtain⟨y,hy⟩:∃y,y=b.getD i 0:=⟨_,rfl⟩;have BB:a[i]=x:=by rw[hx];simp[yV,xn Bu]
  have e1:=hv.bk Bu;rw[BB] at e1;rw[<-hx] at ga;rw[<-hy] at e2 gb;obtain⟨z,c',hz,iN,gE,nS,FG⟩:∃(z:Int) (c':Nat),z=x-y-c+1000000000*c'/\c'<=1/\0<=z/\z<1000000000/\((x-y-c<0/\c'=1)\/(¬x-y-c<0/\c'=0)):=by
   by_cases h:x-y-c<0
   .exact ⟨x-y-c+1000000000,1,by lia,by lia,by lia,by lia,.inl ⟨h,rfl⟩⟩
   .exact ⟨x-y-c,0,by lia,by lia,by lia,by lia,.inr ⟨h,rfl⟩⟩
  have mV:=asu hx hy ga.1 gb.1 gE hz hlen aM;have z6:dg (out++[z]):=jl.2 ⟨nt,mu.2 ⟨gE,nS⟩⟩;have XV:(out++[z]).length=i+1:=by simp[hlen]
  have fin:∃s',D P L AN s=GR (.normal,s')/\bH [0,1,5,6,7] s'=⟨[(0,v),(1,w),(5,.ay 0 0 (i+1)),(6,aa c'),(7,aa (i+1:Nat))],[(0,.cells ydB ydB ydC 1 ((out++[z]).map aa))],1,0⟩:=by
   rcases FG with ⟨gK,rfl⟩ | ⟨gK,rfl⟩
   .have eG:x-y-c+1000000000=z:=by lia
    rcases hs with ⟨h0,rfl⟩ | ⟨h0,rfl⟩
    .subst h0;have kN:out=[]:=yE hlen;subst kN
     simp only[go_sem,ya,yb,xy,yv,yh,yg,AN,hv.len,hw.ai,show ((0:Nat):Int)<a.length by lia,e1,e2,wrap64 (n:=x-y) (by lia) (by lia),wrap64 (n:=x-y-(c:Int)) (by lia) (by lia),gK,eG,wrap64 (n:=z) (by lia) (by lia),jm];refine⟨_,rfl,?_⟩;rw[wrap64 (by lia) (by lia)];simp only[go_sem,ya,yb,aq,aD hv.pu,aD hw.pu]<;>rfl
    .simp only [go_sem,ya,yb,yh,yg,AN,hv.len,hw.ai,show (i:Int)<a.length by lia,e1,e2,wrap64 (n:=x-y) (by lia) (by lia),wrap64 (n:=x-y-(c:Int)) (by lia) (by lia),gK,eG,wrap64 (n:=z) (by lia) (by lia)]
     rw[gR (ex:=ydC) (pu:=ydB) (cs:=out.map aa) rfl (by rw[y5,hlen,yg]) (by lia) (by lia) (by decide) rfl];simp only[go_sem,ya,yb];refine⟨_,rfl,?_⟩;rw[wrap64 (by lia) (by lia),xu];simp only[go_sem,ya,yb,aq,aD hv.pu,aD hw.pu]<;>rfl
   .have eG:x-y-c=z:=by lia
    have gK:¬z<0:=by lia
    rcases hs with ⟨h0,rfl⟩ | ⟨h0,rfl⟩
    .subst h0;have kN:out=[]:=yE hlen;subst kN
     simp only[go_sem,ya,yb,xy,yv,yh,yg,AN,hv.len,hw.ai,show ((0:Nat):Int)<a.length by lia,e1,e2,wrap64 (n:=x-y) (by lia) (by lia),eG,wrap64 (n:=z) (by lia) (by lia),gK,jm];refine⟨_,rfl,?_⟩;rw[wrap64 (by lia) (by lia)];simp only[go_sem,ya,yb,aq,aD hv.pu,aD hw.pu]<;>rfl
    .simp only [go_sem,ya,yb,yh,yg,AN,hv.len,hw.ai,show (i:Int)<a.length by lia,e1,e2,wrap64 (n:=x-y) (by lia) (by lia),eG,wrap64 (n:=z) (by lia) (by lia),gK]
     rw[gR (ex:=ydC) (pu:=ydB) (cs:=out.map aa) rfl (by rw[y5,hlen,yg]) (by lia) (by lia) (by decide) rfl];simp only[go_sem,ya,yb];refine⟨_,rfl,?_⟩;rw[wrap64 (by lia) (by lia),xu];simp only[go_sem,ya,yb,aq,aD hv.pu,aD hw.pu]<;>rfl
  have⟨s',f1,f2⟩:=fin;exact⟨s',k-1,f1,by lia,i+1,c',_,by lia,XV,iN,z6,mV,.inr ⟨by lia,f2⟩⟩
 .right
  have aib:dv out+dv b=dv a:=by
   rw[yK (by lia),yK (by lia)] at aM;have aG:=lK nt;rw[hlen] at aG;rcases (show c=0\/c=1 by lia) with rfl | rfl
   .lia
   .lia
  rcases hs with ⟨h0,rfl⟩ | ⟨h0,rfl⟩
  .simp only [go_sem,ya,AN,hv.len,show ¬(i:Int)<a.length by lia];exact⟨_,_,rfl,by simp,_,out,rfl,nt,aib,by lia,.inl ⟨yE (by lia),rfl,rfl⟩⟩
  .simp only [go_sem,ya,AN,hv.len,show ¬(i:Int)<a.length by lia];exact⟨_,_,rfl,by simp,_,out,rfl,nt,aib,by lia,.inr ⟨by lia,by rw[hlen];simp only[go_sem,ya],rfl⟩⟩
def ajR(h:Has P L 297 MB)(oO:Has P L 302 A5)(cT:Has P L 300 nL){w:AV}{a b:List Int}(hv:bB v a)(hw:bB w b)(ha:dg a)(hb:dg b)(na:nz a)(nb:nz b)(la:a.length<=20000000000)(hle:dv b<=dv a):
  ∃r out,ab P L 297 [v,w] r/\bB r out/\shut r=r/\dg out/\nz out/\dv out+dv b=dv a:=by
 have eW:b.length<=a.length:=by
  by_cases h:a.length<b.length
  .have:=WU ha nb hb h;lia
  .lia
 unfold ab;rw[aB h];simp only[go_sem,MB];generalize hq:D P L (.loop _ AN) _=q;obtain⟨ex,s,rfl,tm,out,rfl,hd,aM,hl,hs⟩:=bt hq (ayq (P:=P) (L:=L) oO hv hw ha hb la hle eW a.length) ⟨0,0,[],by lia,rfl,by lia,rfl,by simp[dv],.inl ⟨rfl,by simp only[go_sem,ya,aq,aD hv.pu,aD hw.pu]<;>rfl⟩⟩
 have fa:=jn ydC out;rcases hs with ⟨h0,h5,rfl⟩ | ⟨h0,h5,rfl⟩
 .subst h0;have⟨r,e1,hr,kU⟩:=DN cT (v:=.aj) (l:=[]) AG (by simp);refine⟨r,eL [],?_,hr,kU,rfl,rfl,by rw[BO];exact aM⟩
  simp only[go_sem,aq,h5,e1,kU,hr.dC]
 .have ⟨r,e1,hr,kU⟩:=DN cT fa hl;refine⟨r,eL out,?_,hr,kU,Db hd,Hc out,by rw[BO];exact aM⟩
  have iI:∀hp:Hp,mZ 0 out.length (GR (ydC,1,out.map aa,hp))=GR (.au ydC out.length (out.map aa),hp):=fun hp=>jX ydC (by simp) (by decide)
  simp only[go_sem,yb,aq,h5,iI,e1,kU,hr.dC]
def Ey{id o:Nat}{v:Int}{ex:Bool}{l:List Int}(h:o<l.length):iM hp ct id o 1 [.int .i64 v] (GR (.cells ydB ydB ex 1 (l.map aa)))=GR (.av [],aJ hp id (.cells ydB ydB ex 1 ((l.set o v).map aa)),ct):=by
 rw[HQ (by rfl) (by simp;lia) (by rfl)]
 have:over o [AV.int .i64 v] (l.map aa)=(l.set o v).map aa:=by
  simp only[over,yH,yR,yd];rw[List.map_set,List.set_eq_take_append_cons_drop,yC (by simpa using h)]
  simp
 rw[this];rfl
def AY{l:List Int}{o:Nat}(h:o<l.length):vP o (l.map aa)=AV.int .i64 (l.getD o 0)::vP (o+1) (l.map aa):=by
 rw[yX (by simpa using h)]
 grind
def zT{l:List Int}(hv:bB v l){i:Nat}(h:i<l.length):jq 1 i v=GR (.bC (.int .i64 (l.getD i 0)::(l.map aa).drop (i+1))):=by
 rw[hv.bk h]
 grind
def asv{o y c:Int}(ho:0<=o/\o<1000000000)(hx:0<=x/\x<1000000000)(hy:0<=y/\y<1000000000)(hc:0<=c/\c<1000000000):
  (0<=x*y/\x*y<=999999998000000001)/\0<=o+x*y+c/\o+x*y+c<1000000000000000000:=by
 have h1:=yaa hx.1 hy.1;have h2:=ycy (show x<=999999999 by lia) (show y<=999999999 by lia) hy.1 (by decide)
 lia
def ayr{w:AV}{a b:List Int}(hv:bB v a)(hw:bB w b)(ha:dg a)(hb:dg b)(la:a.length<=20000000000)(lb:b.length<=20000000000){n i:Nat}(hn:n=a.length+b.length)(hi:i<a.length){out0:List Int}:
  cG P L [0,1,5,6,7,8] Ln (fun k s=>∃(j:Nat) (c:Int) (out:List Int),s=⟨[(0,v),(1,w),(5,.ay 0 0 n),(6,aa i),(7,aa c),(8,aa j)],[(0,.cells ydB ydB ydB 1 (out.map aa))],1,0⟩/\j+k=b.length/\out.length=n/\dg out/\(0<=c/\c<1000000000)/\
    dv out+1000000000^i*1000000000^j*c.toNat=dv out0+1000000000^i*((a.getD i 0).toNat*dv (b.take j))/\(∀m,i+b.length<=m->out.getD m 0=out0.getD m 0)) (fun ex s'=>∃tm c out,s'=⟨tm,[(0,.cells ydB ydB ydB 1 (out.map aa))],1,0⟩/\ex=.exit 2/\ak tm 0=v/\ak tm 1=w/\ak tm 5=.ay 0 0 n/\ak tm 6=aa i/\ak tm 7=aa c/\out.length=n/\dg out/\(0<=c/\c<1000000000)/\
    dv out+1000000000^i*1000000000^b.length*c.toNat=dv out0+1000000000^i*((a.getD i 0).toNat*dv b)/\(∀m,i+b.length<=m->out.getD m 0=out0.getD m 0)):=by
 apply cI;rintro k s ⟨j,c,out,rfl,hk,hlen,hd,hc,aM,hZ⟩;by_cases hj:j<b.length
 .left
  obtain⟨x,hx⟩:∃x,x=a.getD i 0:=⟨_,rfl⟩;obtain⟨y,hy⟩:∃y,y=b.getD j 0:=⟨_,rfl⟩;obtain⟨o,ho⟩:∃o,o=out.getD (i+j) 0:=⟨_,rfl⟩;have gx:=jO ha i;have gy:=jO hb j;have qt:=jO hd (i+j);rw[<-hx] at gx;rw[<-hy] at gy;rw[<-ho] at qt;have⟨p1,p2,p3⟩:=asv qt gx gy hc;obtain⟨t,ht⟩:∃t:Nat,o+x*y+c=t:=⟨(o+x*y+c).toNat,by lia⟩;have hr:((t:Nat):Int).tmod 1000000000=((t%1000000000:Nat):Int):=by rw[xK (by lia)];rfl
  have hq:((t:Nat):Int).tdiv 1000000000=((t/1000000000:Nat):Int):=by rw[xQ (by lia)];rfl
  have e1:=zT hv hi;have e2:=zT hw hj;rw[<-hx] at e1;rw[<-hy] at e2;have e3:=AY (l:=out) (o:=i+j) (by lia);rw[<-ho] at e3;have Ak:t=o.toNat+x.toNat*y.toNat+c.toNat:=by
   have:((x.toNat*y.toNat:Nat):Int)=x*y:=by rw[xD,xW gx.1,xW gy.1]
   lia
  have aJ:=WV (l:=out) (j:=i+j) (x:=((t%1000000000:Nat):Int)) (by lia);rw[<-ho,wA,xB] at aJ;have mV:=arl (Y:=dv (b.take j)) Ak aJ (by rw[hx];exact aM)
  simp only[go_sem,ya,yg,Ln,hw.len,show (j:Int)<b.length by lia,wrapN (n:=i+j) (by lia),show (i:Int)+(j:Int)=((i+j:Nat):Int) from rfl,dd 0 0 (show i+j<n by lia),yd,e3,e1,e2,wrap64 (n:=x*y) (by lia) (by lia),wrap64 (n:=o+x*y) (by lia) (by lia),ht,wrapN (n:=t) (by lia),fM _ _ _ (show (1000000000:Int)≠0 by decide),eP _ _ _ (show (1000000000:Int)≠0 by decide),hr,hq,wrapN (n:=t/1000000000) (by lia),Ey (l:=out) (o:=i+j) (by lia)];refine⟨_,k-1,rfl,by lia,j+1,((t/1000000000:Nat):Int),out.set (i+j) ((t%1000000000:Nat):Int),?_,by lia,by simp[hlen],Qq hd (by lia),by lia,?_,fun m hm=>?_⟩
  .rw [wrap64 (by lia) (by lia)];simp only[go_sem,ya,yb,aq,aD hv.pu,aD hw.pu]<;>rfl
  .rw [wA,sh,xh,<-hx,<-hy];exact mV
  .rw [aeh (by lia)];exact hZ m hm
 .right
  have:j=b.length:=by lia
  subst this;rw[xR] at aM;simp only[go_sem,ya,Ln,hw.len,show ¬(b.length:Int)<b.length by lia];exact⟨_,_,rfl,by simp,_,c,out,rfl,rfl,rfl,rfl,rfl,rfl,rfl,hlen,hd,hc,aM,hZ⟩
section
variable {v w:AV}{a b:List Int}
def U1(n:Nat):(yj n [AV.int .i64 0]).flatten=(yj n (0:Int)).map aa:=by simp_all
def auO(b:Bool):Il ydB (GR b)=GR (.bool (!b)):=by cases b<;>rfl
def acK(n m:Nat):(yj n (0:Int)).getD m 0=0:=by grind
def ays(hv:bB v a)(hw:bB w b)(ha:dg a)(hb:dg b)(la:a.length<=20000000000)(lb:b.length<=20000000000){n:Nat}(hn:n=a.length+b.length):
  cG P L [0,1,5,6] Lo (fun k s=>∃(i:Nat) (out:List Int),s=⟨[(0,v),(1,w),(5,.ay 0 0 n),(6,aa i)],[(0,.cells ydB ydB ydB 1 (out.map aa))],1,0⟩/\i+k=a.length/\out.length=n/\dg out/\dv out=dv (a.take i)*dv b/\(∀m,i+b.length<=m->out.getD m 0=0)) (fun ex s'=>∃tm out,s'=⟨tm,[(0,.cells ydB ydB ydB 1 (out.map aa))],1,0⟩/\ex=.exit 0/\ak tm 5=.ay 0 0 n/\out.length=n/\dg out/\dv out=dv a*dv b):=by
 apply cI;rintro k s ⟨i,out,rfl,hk,hlen,hd,aM,hZ⟩;by_cases hi:i<a.length
 .left
  simp only[go_sem,ya,Lo,hv.len,show (i:Int)<a.length by lia];generalize hq:D P L (.loop _ Ln) _=q;obtain⟨ex,s,rfl,tm,c,A8,rfl,rfl,t0,t1,t5,t6,t7,XR,mL,hc,XS,MT⟩:=bt hq (ayr (P:=P) (L:=L) hv hw ha hb la lb hn hi (out0:=out) b.length) ⟨0,0,out,by simp only[go_sem,ya,yb,aq,aD hv.pu,aD hw.pu]<;>rfl,by lia,hlen,hd,by lia,by simp[dv],fun m _=>rfl⟩
  have hz:A8.getD (i+b.length) 0=0:=by rw[MT _ (yz _),hZ _ (yz _)]
  have e3:=AY (l:=A8) (o:=i+b.length) (by lia);rw[hz] at e3;have aJ:=WV (l:=A8) (j:=i+b.length) (x:=c) (by lia);rw[hz,xB] at aJ
  simp only[go_sem,ya,yg,aq,t0,t1,t5,t6,t7,hw.len,aD hv.pu,aD hw.pu,wrapN (n:=i+b.length) (by lia),show (i:Int)+(b.length:Int)=((i+b.length:Nat):Int) from rfl,dd 0 0 (show i+b.length<n by lia),yd,e3,ycY,wrap64 (n:=c) (by lia) (by lia),Ey (l:=A8) (o:=i+b.length) (by lia)];refine⟨_,k-1,rfl,by lia,i+1,A8.set (i+b.length) c,?_,by lia,by simp[XR],Qq mL hc,?_,fun m hm=>?_⟩
  .rw [wrap64 (by lia) (by lia)];simp only[go_sem,ya,yb,aq,aD hv.pu,aD hw.pu]<;>rfl
  .rw [sh,xS,<-aM,xf];simp only[Int.toNat_zero,xF,yY] at aJ;rw[aJ];exact XS
  .rw [aeh (by lia),MT m (by lia),hZ m (by lia)]
 .right
  have:i=a.length:=by lia
  subst this;rw[xR] at aM;simp only[go_sem,ya,Lo,hv.len,show ¬(a.length:Int)<a.length by lia];exact⟨_,_,rfl,by simp,_,out,rfl,rfl,rfl,hlen,hd,aM⟩
def Zk(h:Has P L 293 DK)(cT:Has P L 300 nL)(hv:bB v a)(hw:bB w b)(ha:dg a)(hb:dg b)(la:a.length<=8000000000)(lb:b.length<=8000000000):
  ∃r out,ab P L 293 [v,w] r/\bB r out/\shut r=r/\dg out/\nz out/\dv out=dv a*dv b:=by
 obtain⟨n,hn⟩:∃n,n=a.length+b.length:=⟨_,rfl⟩;have cy:∀ct:Nat,zY ct 1 8 [.int .i64 0] (GR n) (GR n)=GR (.ay ct 0 n,.cells ydB ydB ydB 1 ((yj n (0:Int)).map aa)):=fun ct=>by
  rw[Fm (sz:=1) (by lia) (by lia) (by rfl) (by rfl),U1];rfl
 unfold ab;rw[aB h]
 simp only[go_sem,ya,yb,DK,hv.len,hw.len,wrapN (n:=n) (by lia),show (a.length:Int)+(b.length:Int)=((a.length+b.length:Nat):Int) from rfl,<-hn,cy];generalize hq:D P L (.loop _ Lo) _=q;obtain⟨ex,s,rfl,tm,out,rfl,rfl,t5,hlen,hd,aM⟩:=bt hq (ays (P:=P) (L:=L) hv hw ha hb (by lia) (by lia) hn a.length) ⟨0,yj n 0,by simp only[go_sem,ya,yb,aq,aD hv.pu,aD hw.pu]<;>rfl,by lia,by simp,aej n,by rw[aei];simp[dv],fun m _=>acK n m⟩
 have fa:=jn ydB out;rw[hlen] at fa;have⟨r,e1,hr,kU⟩:=DN cT fa (by lia);refine⟨r,eL out,?_,hr,kU,Db hd,Hc out,by rw[BO];exact aM⟩
 have iI:∀hp:Hp,mZ 0 n (GR (ydB,1,out.map aa,hp))=GR (.au ydB n (out.map aa),hp):=fun hp=>jX ydB (by simp[hlen]) (by decide)
 simp only[go_sem,yb,aq,t5,iI,e1,kU,hr.dC]
def M4(h:Has P L 278 RQ)(nN:Has P L 293 DK)(jx:Has P L 294 DL)(cT:Has P L 300 nL){n m:Int}(hK:K<=8000000000)(hv:kE v n)(hw:kE w m)(hn:n.natAbs<1000000000^K)(hm:m.natAbs<1000000000^K):
  ∃r,ab P L 278 [v,w] r/\kE r (n*m):=by
 obtain⟨x,a,rfl,hx,ha,na,va⟩:=hv;obtain⟨y,b,rfl,hy,hb,nb,vb⟩:=hw;have la:=y7 (kI ha na (by rw[va];exact hn)) hK
 have lb:=y7 (kI hb nb (by rw[vb];exact hm)) hK
 have⟨z,out,e1,hz,kU,hd,Ep,aM⟩:=Zk nN cT hx hy ha hb la lb;have lo:out.length<=20000000000:=by
  refine kI hd Ep ?_;rw[aM];have h1:=lK ha;have h2:=lK hb;have h3:dv a*dv b<1000000000^a.length*1000000000^b.length:=yaE h1 h2;rw[<-xB] at h3;have hk:∀K,a.length+b.length<=K->dv a*dv b<1000000000^K:=fun K h=>yF h3 (xc (by decide) h)
  exact hk 20000000000 (by lia)
 have⟨r,e2,hr⟩:=ri jx cT (!(decide (n<0)==decide (m<0))) hz hd lo;have e:cm (!(decide (n<0)==decide (m<0))) (dv out)=n*m:=by
  rw[aM,va,vb];have hnm:((n.natAbs*m.natAbs:Nat):Int)=(n.natAbs:Int)*m.natAbs:=xD _ _;unfold cm;by_cases h0:n<0<;>by_cases h1:m<0<;>simp only[h0,h1,yp,yt,yae,yL,yD,xv,hnm]
  .rw [show (n.natAbs:Int)= -n by lia,show (m.natAbs:Int)= -m by lia,Int.neg_mul_neg]
  .rw [show (ydB==ydC)=ydC from rfl,yM,yC rfl,show (n.natAbs:Int)= -n by lia,show (m.natAbs:Int)=m by lia,Int.neg_mul,yaJ]
  .rw [show (ydC==ydB)=ydC from rfl,yM,yC rfl,show (n.natAbs:Int)=n by lia,show (m.natAbs:Int)= -m by lia,ydn,yaJ]
  .rw [show (n.natAbs:Int)=n by lia,show (m.natAbs:Int)=m by lia]
 rw[e] at hr;obtain⟨w2,l2,rfl,iO,gM,lX,Cp⟩:=hr;refine⟨_,?_,w2,l2,rfl,iO,gM,lX,Cp⟩;unfold ab at e1 e2 ⊢;rw[aB h];simp only[go_sem,ya,yb,RQ,aT,hx.pu,hx.ai,hx.one,hy.pu,hy.ai,hy.one,hz.ai,hz.shut,iO.pu,iO.one,aP,yd,dt,e1,sK,auO,e2,gh,bz];rcases iO with ⟨rfl,_⟩ | ⟨e,rfl⟩<;>rfl
end
def auP(i:Nat)(q:List Int)(x:Int):(yj (i+1) (0:Int)++q).set i x=yj i 0++x::q:=by
 rw[List.replicate_succ',xt,List.set_append_right _ _ (by simp)]
 simp
def ayt{a:List Int}(hv:bB v a)(ha:dg a)(la:a.length<=20000000000)(h0:0<d)(h1:d<1000000000):
  cG P L [0,1,6,7,8] Lp (fun k s=>∃(j r:Nat) (q:List Int),s=⟨[(0,v),(1,aa d),(6,.ay 0 0 a.length),(7,aa r),(8,aa ((j:Int)-1))],[(0,.cells ydB ydB ydB 1 ((yj j (0:Int)++q).map aa))],1,0⟩/\j=k/\j+q.length=a.length/\r<d/\dg q/\dv (a.drop j)=d*dv q+r) (fun ex s'=>∃tm r q,s'=⟨tm,[(0,.cells ydB ydB ydB 1 (q.map aa))],1,0⟩/\ex=.exit 0/\ak tm 6=.ay 0 0 a.length/\ak tm 7=aa (r:Nat)/\q.length=a.length/\r<d/\dg q/\dv a=d*dv q+r):=by
 apply cI;rintro k s ⟨j,r,q,rfl,rfl,hl,hr,hd,aM⟩
 cases j with
 | zero=>
  right
  simp only[go_sem,ya,Lp,show ¬(0:Int)<=((0:Nat):Int)-1 by lia];exact⟨_,_,rfl,by simp,_,r,q,rfl,rfl,rfl,rfl,by lia,hr,hd,aM⟩
 | succ i=>
  left
  have hi:i<a.length:=by lia
  obtain⟨x,hx⟩:∃x,x=a.getD i 0:=⟨_,rfl⟩;have e1:=zT hv hi;have gx:=jO ha i;rw[<-hx] at e1 gx;obtain⟨t,ht⟩:∃t:Nat,t=r*1000000000+x.toNat:=⟨_,rfl⟩;have Ak:(r:Int)*1000000000+x=(t:Int):=by lia
  have mJ:t<d*1000000000:=by
   lia
  have gN:t/d<1000000000:=(xC h0).2 (by rw[xd];exact mJ)
  have fD:t%d<d:=xq _ h0;have e2:((t:Nat):Int).tdiv d=((t/d:Nat):Int):=by rw[xQ (by lia)];rfl
  have e3:((t:Nat):Int).tmod d=((t%d:Nat):Int):=by rw[xK (by lia)];rfl
  have NW:(yj (i+1) (0:Int)++q).length=a.length:=by simp;lia
  have aR:=fun (hp:Hp) (ct id:Nat) (ex:Bool)=>Ey (hp:=hp) (ct:=ct) (id:=id) (ex:=ex) (v:=((t/d:Nat):Int)) (l:=yj (i+1) (0:Int)++q) (o:=i) (by rw[NW];exact hi)
  simp only[auP] at aR
  simp only[go_sem,ya,yg,Lp,show ((i+1:Nat):Int)-1=(i:Int) by lia,show (0:Int)<=(i:Int) by lia,wrap64 (n:=(r:Int)*1000000000) (by lia) (by lia),e1,Ak,wrapN (n:=t) (by lia),eP _ _ _ (show (d:Int)≠0 by lia),fM _ _ _ (show (d:Int)≠0 by lia),e2,e3,wrapN (n:=t/d) (by lia),dd 0 0 (show i<a.length from hi),yd,aR]
  refine⟨_,i,rfl,by lia,i,t%d,((t/d:Nat):Int)::q,?_,rfl,by simp;lia,fD,(jl (a:=[((t/d:Nat):Int)]) (b:=q)).2 ⟨mu.2 ⟨yaQ _,tQ.2 gN⟩,hd⟩,?_⟩
  .rw [wrap64 (by lia) (by lia)];simp only[go_sem,ya,yb,aq,aD hv.pu]<;>rfl
  .have kS:a.drop i=x::a.drop (i+1):=by
    rw[yX hi,hx];simp[yV,xn hi]
   rw[kS];simp only[dv,aM,wA];have e:=xE t d;rw[xH,xH d,Nat.mul_left_comm 1000000000 d]
   lia
def ajS(h:Has P L 299 DM)(cT:Has P L 300 nL){a:List Int}(hv:bB v a)(ha:dg a)(la:a.length<=20000000000)(h0:0<d)(h1:d<1000000000):
  ∃r q,ab P L 299 [v,aa d] (.av [r,aa (dv a%d:Nat)])/\bB r q/\shut r=r/\bN r=r/\dg q/\nz q/\dv q=dv a/d:=by
 obtain⟨n,hn⟩:∃n,n=a.length:=⟨_,rfl⟩;have cy:∀ct:Nat,zY ct 1 8 [.int .i64 0] (GR n) (GR n)=GR (.ay ct 0 n,.cells ydB ydB ydB 1 ((yj n (0:Int)).map aa)):=fun ct=>by
  rw[Fm (sz:=1) (by lia) (by lia) (by rfl) (by rfl),U1];rfl
 unfold ab;rw[aB h];simp only[go_sem,ya,yb,DM,hv.len,<-hn,cy];generalize hq:D P L (.loop _ Lp) _=q;obtain⟨ex,s,rfl,tm,r,qs,rfl,rfl,t6,t7,hlen,hr,hd,aM⟩:=bt hq (ayt (P:=P) (L:=L) hv ha la h0 h1 a.length) ⟨a.length,0,[],by
  rw[wrap64 (by lia) (by lia),wZ,<-hn]
  simp only[go_sem,ya,yb,aq,aD hv.pu]<;>rfl,rfl,by simp,h0,rfl,by rw[y9 (yz _)];simp[dv]⟩
 have fa:=jn ydB qs;rw[hlen] at fa;have⟨w,e1,hw,kU⟩:=DN cT fa (by lia);have eJ:dv a/d=dv qs/\dv a%d=r:=(Nat.div_mod_unique h0).2 ⟨by lia,hr⟩;refine⟨w,eL qs,?_,hw,kU,hw.bN,Db hd,Hc qs,by rw[BO,eJ.1]⟩;have iI:∀hp:Hp,mZ 0 a.length (GR (ydB,1,qs.map aa,hp))=GR (.au ydB a.length (qs.map aa),hp):=fun hp=>jX ydB (by simp[hlen]) (by decide)
 rw[eJ.2];simp only[go_sem,ya,yb,aq,t6,t7,iI,e1,kU];rcases hw with ⟨rfl,_⟩ | ⟨e,rfl⟩<;>rfl
def aC8(h:Has P L 279 Ic)(SE:Has P L 295 MA)(sW:Has P L 296 A4)(SF:Has P L 297 MB)(oO:Has P L 302 A5)(jx:Has P L 294 DL)(cT:Has P L 300 nL){w:AV}{n m:Int}(hK:K<=8000000000)(hv:kE v n)(hw:kE w m)(hn:n.natAbs<1000000000^K)(hm:m.natAbs<1000000000^K):
  ∃r,ab P L 279 [v,w] r/\kE r (n+m):=by
 obtain⟨x,a,rfl,hx,ha,na,va⟩:=hv;obtain⟨y,b,rfl,hy,hb,nb,vb⟩:=hw;have la:=y7 (kI ha na (by rw[va];exact hn)) hK
 have lb:=y7 (kI hb nb (by rw[vb];exact hm)) hK
 by_cases hs:(decide (n<0)==decide (m<0))=ydB
 .have ⟨z,out,e1,hz,hd,aM,hl⟩:=ajQ SE oO hx hy ha hb (by lia) (by lia);have lo:out.length<=20000000000:=by lia
  have⟨r,e2,hr⟩:=ri jx cT (decide (n<0)) hz hd lo;have e:cm (decide (n<0)) (dv out)=n+m:=by
   have rS:(n<0)=(m<0):=by simpa using eq_of_beq hs
   rw[aM,va,vb];unfold cm;by_cases h0:n<0
   .have h1:m<0:=rS▸h0;simp only[h0,yp,xN];lia
   .have h1:¬m<0:=rS▸h0;simp only[h0,yt,yD,xv];lia
  rw[e] at hr;obtain⟨w2,l2,rfl,iO,gM,lX,Cp⟩:=hr;refine⟨_,?_,w2,l2,rfl,iO,gM,lX,Cp⟩;unfold ab at e1 e2 ⊢;rw[aB h];simp only[go_sem,ya,yb,Ic,aT,hx.pu,hx.ai,hx.one,hy.pu,hy.ai,hy.one,hz.ai,iO.pu,iO.one,aP,yd,dt,e1,sK,eQ,hs,e2,gh,bz];rcases iO with ⟨rfl,_⟩ | ⟨e,rfl⟩<;>rfl
 .have hs:(decide (n<0)==decide (m<0))=ydC:=by simpa using hs
  have rS:¬((n<0)=(m<0)):=fun e=>by simp[e] at hs
  have ec:=Zj sW hx hy ha hb na nb (by lia) (by lia);by_cases hc:dv a<dv b
  .have fk:eD (dv a) (dv b)= -1:=by unfold eD;rw[yC hc]
   rw[fk] at ec;have⟨z,out,e1,hz,kU,hd,Ep,aM⟩:=ajR SF oO cT hy hx hb ha nb na (by lia) (by lia);have lo:out.length<=20000000000:=by
    refine kI hd Ep ?_
    have:=lK hb
    have hk:∀K,b.length<=K->dv out<1000000000^K:=fun K h=>yF (show dv out<1000000000^b.length by lia) (xc (by decide) h)
    exact hk 20000000000 (by lia)
   have⟨r,e2,hr⟩:=ri jx cT (decide (m<0)) hz hd lo;have e:cm (decide (m<0)) (dv out)=n+m:=by
    rw[va,vb] at aM;unfold cm;by_cases h0:m<0
    .have h1:¬n<0:=fun h1=>rS (by simp[h0,h1])
     simp only[h0,yp,xN];lia
    .have h1:n<0:=by
      by_cases h1:n<0
      .exact h1
      .exact absurd (by simp[h0,h1]) rS
     simp only[h0,yt,yD,xv];lia
   rw[e] at hr;obtain⟨w2,l2,rfl,iO,gM,lX,Cp⟩:=hr;refine⟨_,?_,w2,l2,rfl,iO,gM,lX,Cp⟩;unfold ab at e1 e2 ec ⊢;rw[aB h];simp only[go_sem,ya,yb,Ic,aT,hx.pu,hx.ai,hx.one,hy.pu,hy.ai,hy.one,hz.ai,hz.shut,iO.pu,iO.one,aP,yd,dt,e1,sK,eQ,hs,ec,show ¬(0:Int)<=-1 by decide,e2,gh,bz];rcases iO with ⟨rfl,_⟩ | ⟨e,rfl⟩<;>rfl
  .have fk:(0:Int)<=eD (dv a) (dv b):=by unfold eD;rw[yq hc];split<;>decide
   have⟨z,out,e1,hz,kU,hd,Ep,aM⟩:=ajR SF oO cT hx hy ha hb na nb (by lia) (by lia);have lo:out.length<=20000000000:=by
    refine kI hd Ep ?_
    have:=lK ha
    have hk:∀K,a.length<=K->dv out<1000000000^K:=fun K h=>yF (show dv out<1000000000^a.length by lia) (xc (by decide) h)
    exact hk 20000000000 (by lia)
   have⟨r,e2,hr⟩:=ri jx cT (decide (n<0)) hz hd lo;have e:cm (decide (n<0)) (dv out)=n+m:=by
    rw[va,vb] at aM;unfold cm;by_cases h0:n<0
    .have h1:¬m<0:=fun h1=>rS (by simp[h0,h1])
     simp only[h0,yp,xN];lia
    .have h1:m<0:=by
      by_cases h1:m<0
      .exact h1
      .exact absurd (by simp[h0,h1]) rS
     simp only[h0,yt,yD,xv];lia
   rw[e] at hr;obtain⟨w2,l2,rfl,iO,gM,lX,Cp⟩:=hr;refine⟨_,?_,w2,l2,rfl,iO,gM,lX,Cp⟩;unfold ab at e1 e2 ec ⊢;rw[aB h];simp only[go_sem,ya,yb,Ic,aT,hx.pu,hx.ai,hx.one,hy.pu,hy.ai,hy.one,hz.ai,hz.shut,iO.pu,iO.one,aP,yd,dt,e1,sK,eQ,hs,ec,fk,e2,gh,bz];rcases iO with ⟨rfl,_⟩ | ⟨e,rfl⟩<;>rfl
def afL{l:List Int}(hd:dg l)(hn:nz l)(h:dv l<1000000000):l.length<=1:=kI hd hn (by simpa using h)
def aC9(h:Has P L 289 A3)(sW:Has P L 296 A4)(z7:Has P L 299 DM)(cT:Has P L 300 nL){w:AV}{a b:List Int}(hv:bB v a)(hw:bB w b)(ha:dg a)(hb:dg b)(na:nz a)(nb:nz b)(la:a.length<=20000000000)(lb:b.length<=1)(h0:0<dv b):
  ∃q r lq lr,ab P L 289 [v,w] (.av [q,r])/\bB q lq/\bB r lr/\dg lq/\nz lq/\dg lr/\nz lr/\dv lq=dv a/dv b/\dv lr=dv a%dv b:=by
 have ec:=Zj sW hv hw ha hb na nb la (by lia);by_cases hc:dv a<dv b
 .have fk:eD (dv a) (dv b)= -1:=by unfold eD;rw[yC hc]
  rw[fk] at ec;refine⟨.aj,v,[],a,?_,AG,hv,rfl,rfl,ha,na,?_,?_⟩
  .unfold ab;rw[aB h];simp only[go_sem,ya,A3,hv.ai,hw.ai,ec,show (-1:Int)<0 by decide];rcases hv with ⟨rfl,_⟩ | ⟨e,rfl⟩<;>rfl
  .rw [xP hc];rfl
  .rw [yQ hc]
 .have fk:¬eD (dv a) (dv b)<0:=by unfold eD;rw[yq hc];split<;>decide
  have rE:b.length=1:=by
   rcases xi b.length with e | e
   .rw [yE e] at h0;simp[dv] at h0
   .lia
  obtain⟨x,rfl⟩:∃x,b=[x]:=by
   cases b with
   | nil=>simp at rE
   | cons x r=>cases r with
    | nil=>exact⟨x,rfl⟩
    | cons y r=>simp at rE
  have gx:=mu.1 hb;obtain⟨d,hd⟩:∃d:Nat,x=d:=⟨x.toNat,by lia⟩;subst hd;have hdd:dv [((d:Nat):Int)]=d:=by simp[dv]
  rw[hdd] at h0 hc fk ec ⊢;have⟨q,lq,e1,hq,hqs,aDa,dq,nq,vq⟩:=ajS z7 cT hv ha la h0 (by lia);have ah2:dv a%d<d:=xq _ h0;generalize dv a%d=m at*
  have⟨r,e2,hr,Gr⟩:=DN cT (jn ydB [(m:Int)]) (by simp);refine⟨q,r,lq,eL [(m:Int)],?_,hq,hr,dq,nq,Db (mu.2 (by lia)),Hc _,vq,by rw[BO];simp[dv]⟩;have e3:=hw.bk (i:=0) (by simp);simp only[yH,yR,yd,xb,wO,vB] at e2 e3;unfold ab;rw[aB h];simp only[go_sem,ya,yb,yv,yh,yg,A3,hv.ai,hw.len,hw.ai,ec,fk,yH,yR,show ((1:Nat):Int)=(1:Int) from rfl,yp,e3,e1,aDa,e2,Gr];rcases hq with ⟨rfl,_⟩ | ⟨e,rfl⟩<;>rcases hr with ⟨rfl,_⟩ | ⟨e',rfl⟩<;>rfl
section
variable {l post pre qs vs:List Int}{r t:Nat}
def sv:List Int->Int
 | []=>0
 | a::r=>a+1000000000*sv r
def adE:∀(a b:List Int),sv (a++b)=sv a+1000000000^a.length*sv b
 | [],b=>by simp[sv]
 | x::a,b=>by
  simp only[yI,sv,adE a b,yH,yau,ydo]
  grind
def ayu(x:Int):sv [x]=x:=by simp[sv]
def HL:∀{l:List Int} {i:Nat} {x:Int},i<l.length->sv (l.set i x)=sv l+1000000000^i*(x-l.getD i 0)
 | [],i,x,h=>by simp at h
 | a::l,0,x,_=>by simp[sv];lia
 | a::l,i+1,x,h=>by
  have ih:=HL (l:=l) (i:=i) (x:=x) (by simpa using h);simp only[List.set_cons_succ,sv,List.getD_cons_succ,ih,yau,ydo]
  grind
def Qf(i:Nat):sv (l.take (i+1))=sv (l.take i)+1000000000^i*l.getD i 0:=by
 by_cases h:i<l.length
 .rw [xm h,adE,yU,xo (by lia),ayu]
  grind
 .rw [yK (by lia),yK (by lia),KA (by lia),Int.mul_zero,ycV]
def Ca:∀{l:List Int},dg l->sv l=dv l
 | [],_=>rfl
 | a::l,h=>by
  have⟨h1,h2⟩:=jl.1 (show dg ([a]++l) from h);have h1:=mu.1 h1;simp only[sv,dv,Ca h2,ybn,xD]
  lia
section
variable {pre x post:List Int}{i:Nat}
def qQ:(pre++x++post).length=pre.length+x.length+post.length:=by grind
def Dw(h:i<x.length):(pre++x++post).getD (pre.length+i) 0=x.getD i 0:=by grind
def Qv(a:Int)(h:i<x.length):(pre++x++post).set (pre.length+i) a=pre++x.set i a++post:=by simp_all
end
def agy{i m:Nat}(h:i≠m):(l.set i x).getD m 0=l.getD m 0:=by simp_all
def aqj{i:Nat}(h:i<l.length):(l.set i x).getD i 0=x:=by simp_all
abbrev H3(q u:List Int)(f:Int):Hp:=[(2,.cells ydB ydB ydB 1 (q.map aa)),(1,.cells ydB ydB ydC 1 (u.map aa)),(0,.cells ydC ydB ydB 1 [aa f])]
def PK{live:List Nat}{a b c:List AV}(ht:gS 3 (bF tm live))(hl:(dw (bF tm live)).length<100000):
  bH live ⟨tm,[(2,.cells ydB ydB ydB 1 a),(1,.cells ydB ydB ydC 1 b),(0,.cells ydC ydB ydB 1 c)],ct,3⟩=⟨bF tm live,[(2,.cells ydB ydB ydB 1 a),(1,.cells ydB ydB ydC 1 b),(0,.cells ydC ydB ydB 1 c)],3,3⟩:=
 OT ht ⟨by lia,.inl rfl,by lia,.inl rfl,by lia,.inl rfl,trivial⟩ (by
  have:cE 3 [(2,Obj.cells ydB ydB ydB 1 a),(1,Obj.cells ydB ydB ydC 1 b),(0,Obj.cells ydC ydB ydB 1 c)]=[]:=rfl
  rw[this,yR,yY];exact hl)
structure il(x vs:List Int)(n v1 v2 u0 u1 u2:Nat):Prop where
 n2:2<=n
 nb:n<=20000000000
 lx:x.length=n+1
 lv:vs.length=n
 gx:dg x
 gv:dg vs
 fJ:vs.getD (n-1) 0=(v1:Int)
 de:vs.getD (n-2) 0=(v2:Int)
 h0:x.getD n 0=(u0:Int)
 h1:x.getD (n-1) 0=(u1:Int)
 h2:x.getD (n-2) 0=(u2:Int)
 pos:0<v1
 lt:dv x<1000000000*dv vs
section
variable {x vs:List Int}{n v1 v2 u0 u1 u2:Nat}
def il.NY(h:il x vs n v1 v2 u0 u1 u2):v1<1000000000:=by have:=jO h.gv (n-1);rw[h.fJ] at this;lia
def il.Gw(h:il x vs n v1 v2 u0 u1 u2):v2<1000000000:=by have:=jO h.gv (n-2);rw[h.de] at this;lia
def il.u0W(h:il x vs n v1 v2 u0 u1 u2):u0<1000000000:=by have:=jO h.gx n;rw[h.h0] at this;lia
def il.NZ(h:il x vs n v1 v2 u0 u1 u2):u1<1000000000:=by have:=jO h.gx (n-1);rw[h.h1] at this;lia
def il.N1(h:il x vs n v1 v2 u0 u1 u2):u2<1000000000:=by have:=jO h.gx (n-2);rw[h.h2] at this;lia
def il.parts(h:il x vs n v1 v2 u0 u1 u2):∃p vr ur,dv vs=(v1*1000000000+v2)*p+vr/\vr<p/\dv x=((u0*1000000000+u1)*1000000000+u2)*p+ur/\ur<p:=by
 obtain⟨m,hm⟩:∃m,n=m+2:=⟨n-2,by have:=h.n2;lia⟩
 subst hm;have e1:=sh (l:=vs) (m+1);have e2:=sh (l:=vs) m;have f0:=sh (l:=x) (m+2);have f1:=sh (l:=x) (m+1);have f2:=sh (l:=x) m;have fJ:vs.getD (m+1) 0=(v1:Int):=h.fJ;have de:vs.getD m 0=(v2:Int):=h.de;have h0:x.getD (m+2) 0=(u0:Int):=h.h0;have h1:x.getD (m+1) 0=(u1:Int):=h.h1;have h2:x.getD m 0=(u2:Int):=h.h2
 rw[yK (by have:=h.lv;lia),fJ,e2,de] at e1
 rw[yK (by have:=h.lx;lia),h0,f1,h1,f2,h2] at f0
 simp only[wA] at e1 f0;have g1:=lK (E1 h.gv m)
 rw[yU,xo (by have:=h.lv;lia)] at g1
 have g2:=lK (E1 h.gx m)
 rw[yU,xo (by have:=h.lx;lia)] at g2
 refine⟨1000000000^m,_,_,?_,g1,?_,g2⟩
 .rw [e1,xh,aAL]
 .rw [f0,show 1000000000^(m+2)=1000000000^m*1000000000*1000000000 by rw[xh,xh],xh,aAM]
def il.down(h:il x vs n v1 v2 u0 u1 u2)(ht:t*v1+r=u0*1000000000+u1)(hr:r*1000000000+u2<t*v2):dv x/dv vs<=t-1:=by
 have⟨p,vr,ur,h1,h2,h3,h4⟩:=h.parts;exact acx h1 h3 h4 ht hr
def il.stop(h:il x vs n v1 v2 u0 u1 u2)(mJ:t<1000000000)(ht:t*v1+r=u0*1000000000+u1)(hr:1000000000<=r\/t*v2<=r*1000000000+u2):t<=dv x/dv vs+1:=by
 have⟨p,vr,ur,h1,h2,h3,h4⟩:=h.parts;exact ado (by decide) h1 h2 h3 h.pos h.Gw mJ ht hr
def il.first(h:il x vs n v1 v2 u0 u1 u2):dv x/dv vs<=(u0*1000000000+u1)/v1:=by
 have⟨p,vr,ur,h1,h2,h3,h4⟩:=h.parts;exact UF h1 h3 h4 h.N1 h.pos
def il.top(h:il x vs n v1 v2 u0 u1 u2):u0<=v1:=by
 have⟨p,vr,ur,h1,h2,h3,h4⟩:=h.parts;exact adp h1 h3 h2 h.Gw h.lt
def il.digit(h:il x vs n v1 v2 u0 u1 u2):dv x/dv vs<1000000000:=by
 refine (xC ?_).2 h.lt;rcases xi (dv vs) with h0 | h0
 .have:=h.lt;rw[h0] at this;simp at this
 .exact h0
def il.small(h:il x vs n v1 v2 u0 u1 u2)(ht:t*v1+r=u0*1000000000+u1)(hb:1000000000<=t):r<1000000000:=by
 have h1:=h.top;have h2:=h.NZ;have h3:=yT v1 hb
 grind
end
def aDb{u:Nat}(hr:r<1000000000)(hu:u<1000000000):r*1000000000<9223372036854775808/\r*1000000000+u<9223372036854775808:=by lia
def auQ{w:AV}{x:List Int}{f:Int}(hw:bB w vs){n v1 v2:Nat}(hl:il x vs n v1 v2 u0 u1 u2)(hM:M=pre.length+x.length+post.length)(Oh:M<=50000000000):
  cG P L [0,1,2,7,9,10] Dt (fun k s=>∃t r:Nat,s=⟨[(0,.ay 1 0 M),(1,w),(2,aa pre.length),(7,aa n),(9,aa t),(10,aa r)],H3 qs (pre++x++post) f,3,3⟩/\t*v1+r=u0*1000000000+u1/\r<1000000000/\dv x/dv vs<=t/\t=k) (fun ex s'=>∃tm ct t,s'=⟨tm,H3 qs (pre++x++post) f,ct,3⟩/\((ex=.exit 0/\ak tm 9=aa (t:Nat))\/(ex=.ret/\ak tm 6=aa (t:Nat)))/\ct=3/\t<1000000000/\dv x/dv vs<=t/\t<=dv x/dv vs+1):=by
 apply cI;rintro k s ⟨t,r,rfl,ht,hr,hQ,rfl⟩;have et:=hl.n2;have Bs:=hl.nb;have hlx:=hl.lx;have Iq:=hl.NY;have YS:=hl.Gw;have ajo:=hl.N1;have aDc:=hl.u0W;have Ss:=hl.NZ;have rn:=hl.pos;have zn:=zT hw (i:=n-2) (by have:=hl.lv;lia)
 have fK:=zT hw (i:=n-1) (by have:=hl.lv;lia)
 rw[hl.de] at zn;rw[hl.fJ] at fK;have Bx:=AY (l:=pre++x++post) (o:=pre.length+(n-2)) (by rw[qQ];lia)
 rw[Dw (by lia),hl.h2] at Bx;have CM:(n:Int)-2=((n-2:Nat):Int):=by lia
 have zo:(n:Int)-1=((n-1:Nat):Int):=by lia
 have Oi:(pre.length:Int)+(n:Int)=((pre.length+n:Nat):Int):=rfl;have pn2:((pre.length+n:Nat):Int)-2=((pre.length+(n-2):Nat):Int):=by lia
 have aIO:t<=1000000000000000000:=by
  have:=yW t rn
  lia
 have aIP:t*1<=t*v1:=yW t rn;have⟨rm1,rm2⟩:=aDb hr ajo;by_cases Bu:1000000000<=t\/r*1000000000+u2<t*v2
 .have ht0:0<t:=by
   rcases xi t with h0 | h0
   .subst h0;lia
   .exact h0
  have h1:(t-1)*v1+(r+v1)=u0*1000000000+u1:=by
   obtain⟨p,rfl⟩:∃p,t=p+1:=⟨t-1,by lia⟩;rw[xS,Nat.one_mul] at ht;rw[Nat.add_sub_cancel];lia
  have CN:dv x/dv vs<=t-1:=by
   rcases Bu with h | h
   .have:=hl.digit;generalize dv x/dv vs=q at*;lia
   .exact hl.down ht h
  have Ue:((t:Nat):Int)-1=((t-1:Nat):Int):=by lia
  have stop:1000000000<=r+v1->t-1<1000000000/\t-1<=dv x/dv vs+1:=fun hb=>by
   have aG:t-1<1000000000:=by
    by_cases oQ:1000000000<=t-1
    .have:=hl.small h1 oQ;lia
    .lia
   exact⟨aG,hl.stop aG h1 (.inl hb)⟩
  by_cases hb:1000000000<=t
  .by_cases CF:1000000000<=r+v1
   .right
    have⟨s1,s2⟩:=stop CF
    simp only[go_sem,ya,Dt,H3,show (1000000000:Int)<=(t:Int) by lia,Ue,wrapN (n:=t-1) (by lia),zo,wrapN (n:=n-1) (by lia),fK,show (r:Int)+(v1:Int)=((r+v1:Nat):Int) from rfl,wrapN (n:=r+v1) (by lia),show (1000000000:Int)<=((r+v1:Nat):Int) by lia];exact⟨_,_,rfl,by simp,_,_,t-1,rfl,.inr ⟨rfl,rfl⟩,rfl,s1,CN,s2⟩
   .left
    simp only[go_sem,ya,Dt,H3,show (1000000000:Int)<=(t:Int) by lia,Ue,wrapN (n:=t-1) (by lia),zo,wrapN (n:=n-1) (by lia),fK,show (r:Int)+(v1:Int)=((r+v1:Nat):Int) from rfl,wrapN (n:=r+v1) (by lia),show ¬(1000000000:Int)<=((r+v1:Nat):Int) by lia];refine⟨_,t-1,rfl,by lia,t-1,r+v1,?_,h1,by lia,CN,rfl⟩;rw[PK (by simp only[go_sem,ya,yv,ow,pL,od,n9,zE hw.pu,vN]) (by simp only[go_sem,ya,yb,yv,mQ hw.pu])];simp only[go_sem,ya]
  .have zj:=y8 (show t<=999999999 by lia) (show v2<=999999999 by lia);have sX:r*1000000000+u2<t*v2:=Bu.resolve_left hb;obtain⟨m,hm⟩:∃m,t*v2=m:=⟨_,rfl⟩;have em:(t:Int)*(v2:Int)=(m:Int):=by rw[<-hm,xD]
   rw[hm] at sX zj;have IX:(r:Int)*1000000000=((r*1000000000:Nat):Int):=by lia
   have El:((r*1000000000:Nat):Int)+(u2:Int)=((r*1000000000+u2:Nat):Int):=rfl;by_cases CF:1000000000<=r+v1
   .right
    have⟨s1,s2⟩:=stop CF
    simp only[go_sem,ya,yg,Dt,H3,show ¬(1000000000:Int)<=(t:Int) by lia,CM,wrapN (n:=n-2) (by lia),zn,em,wrapN (n:=m) (by lia),IX,wrapN rm1,Oi,wrapN (n:=pre.length+n) (by lia),pn2,wrapN (n:=pre.length+(n-2)) (by lia),dd 1 0 (show pre.length+(n-2)<M by lia),yd,Bx,El,wrapN rm2,show ((r*1000000000+u2:Nat):Int)<(m:Int) from tQ.2 sX,Ue,wrapN (n:=t-1) (by lia),zo,wrapN (n:=n-1) (by lia),fK,show (r:Int)+(v1:Int)=((r+v1:Nat):Int) from rfl,wrapN (n:=r+v1) (by lia),show (1000000000:Int)<=((r+v1:Nat):Int) by lia];exact⟨_,_,rfl,by simp,_,_,t-1,rfl,.inr ⟨rfl,rfl⟩,rfl,s1,CN,s2⟩
   .left
    simp only[go_sem,ya,yg,Dt,H3,show ¬(1000000000:Int)<=(t:Int) by lia,CM,wrapN (n:=n-2) (by lia),zn,em,wrapN (n:=m) (by lia),IX,wrapN rm1,Oi,wrapN (n:=pre.length+n) (by lia),pn2,wrapN (n:=pre.length+(n-2)) (by lia),dd 1 0 (show pre.length+(n-2)<M by lia),yd,Bx,El,wrapN rm2,show ((r*1000000000+u2:Nat):Int)<(m:Int) from tQ.2 sX,Ue,wrapN (n:=t-1) (by lia),zo,wrapN (n:=n-1) (by lia),fK,show (r:Int)+(v1:Int)=((r+v1:Nat):Int) from rfl,wrapN (n:=r+v1) (by lia),show ¬(1000000000:Int)<=((r+v1:Nat):Int) by lia];refine⟨_,t-1,rfl,by lia,t-1,r+v1,?_,h1,by lia,CN,rfl⟩;rw[PK (by simp only[go_sem,ya,yv,ow,pL,od,n9,zE hw.pu,vN]) (by simp only[go_sem,ya,yb,yv,mQ hw.pu])];simp only[go_sem,ya]
 .right
  have mJ:t<1000000000:=Nat.lt_of_not_le fun e=>Bu (.inl e)
  have zj:=y8 (show t<=999999999 from uf mJ) (show v2<=999999999 from uf YS);have Zl:t*v2<=r*1000000000+u2:=ycc fun e=>Bu (.inr e)
  have aAX:=hl.stop mJ ht (.inr Zl);obtain⟨m,hm⟩:∃m,t*v2=m:=⟨_,rfl⟩;have em:(t:Int)*(v2:Int)=(m:Int):=by rw[<-hm,xD]
  rw[hm] at Zl zj;have IX:(r:Int)*1000000000=((r*1000000000:Nat):Int):=by lia
  have El:((r*1000000000:Nat):Int)+(u2:Int)=((r*1000000000+u2:Nat):Int):=rfl
  simp only[go_sem,ya,yg,Dt,H3,show ¬(1000000000:Int)<=(t:Int) by lia,CM,wrapN (n:=n-2) (by lia),zn,em,wrapN (n:=m) (by lia),IX,wrapN rm1,Oi,wrapN (n:=pre.length+n) (by lia),pn2,wrapN (n:=pre.length+(n-2)) (by lia),dd 1 0 (show pre.length+(n-2)<M by lia),yd,Bx,El,wrapN rm2,show ¬((r*1000000000+u2:Nat):Int)<(m:Int) from fun e=>Nat.not_lt_of_le Zl (tQ.1 e)];exact⟨_,_,rfl,by simp,_,_,t,rfl,.inl ⟨rfl,rfl⟩,rfl,mJ,hQ,aAX⟩
def aAY(h:Has P L 301 Cl){w:AV}{x:List Int}{f:Int}(hw:bB w vs){n v1 v2:Nat}(hl:il x vs n v1 v2 u0 u1 u2)(hM:M=pre.length+x.length+post.length)(Oh:M<=50000000000):
  ∃t:Nat,jZ P L (D P L) (H3 qs (pre++x++post) f) 3 301 [.ay 1 0 M,w,aa pre.length]=GR (aa t,H3 qs (pre++x++post) f,3)/\t<1000000000/\dv x/dv vs<=t/\t<=dv x/dv vs+1:=by
 have et:=hl.n2;have Bs:=hl.nb;have hlx:=hl.lx;have By:below 3 w:=zE hw.pu;have Iq:=hl.NY;have aDc:=hl.u0W;have Ss:=hl.NZ;have rn:=hl.pos;have fK:=zT hw (i:=n-1) (by have:=hl.lv;lia)
 rw[hl.fJ] at fK;have En:=AY (l:=pre++x++post) (o:=pre.length+n) (by rw[qQ];lia)
 rw[Dw (by lia),hl.h0] at En;have Eo:=AY (l:=pre++x++post) (o:=pre.length+(n-1)) (by rw[qQ];lia)
 rw[Dw (by lia),hl.h1] at Eo;have zo:(n:Int)-1=((n-1:Nat):Int):=by lia
 have Oi:(pre.length:Int)+(n:Int)=((pre.length+n:Nat):Int):=rfl;have pn1:((pre.length+n:Nat):Int)-1=((pre.length+(n-1):Nat):Int):=by lia
 obtain⟨m,hm⟩:∃m,m=u0*1000000000+u1:=⟨_,rfl⟩;have em:(u0:Int)*1000000000=((u0*1000000000:Nat):Int):=by lia
 have em2:((u0*1000000000:Nat):Int)+(u1:Int)=(m:Int):=by lia
 have eJ:=xE m v1;have nM:=xq m rn;have Qu:=hl.first;rw[<-hm] at Qu;have aI3:m/v1<=m:=wU _ _;have oq:IntKind.wrap .i64 ((m:Int).tdiv (v1:Int))=((m/v1:Nat):Int):=by
  rw[xQ (by lia),<-yce,wrapN (by lia)]
 have or':(m:Int).tmod (v1:Int)=((m%v1:Nat):Int):=by rw[xK (by lia),<-Int.natCast_emod]
 rw[xd] at eJ;generalize m/v1=q0 at*
 generalize m%v1=r0 at*
 have kM:∃ex tm t,D P L Cl.body ⟨fw 0 [.ay 1 0 M,w,aa pre.length],H3 qs (pre++x++post) f,3,3⟩=GR (ex,⟨tm,H3 qs (pre++x++post) f,3,3⟩)/\(ex=.normal\/ex=.ret)/\ak tm 6=aa (t:Nat)/\t<1000000000/\dv x/dv vs<=t/\t<=dv x/dv vs+1:=by
  simp only[go_sem,ya,yg,Cl,H3,hw.len,hl.lv,Oi,wrapN (n:=pre.length+n) (by lia),dd 1 0 (show pre.length+n<M by lia),yd,En,em,wrapN (n:=u0*1000000000) (by lia),pn1,wrapN (n:=pre.length+(n-1)) (by lia),dd 1 0 (show pre.length+(n-1)<M by lia),Eo,em2,wrapN (n:=m) (by lia),zo,wrapN (n:=n-1) (by lia),fK,eP _ _ _ (show (v1:Int)≠0 by lia),fM _ _ _ (show (v1:Int)≠0 by lia),oq,or'];generalize oW:D P L (.loop _ Dt) _=qq;obtain⟨ex,s,rfl,tm,ct,t,rfl,oK,rfl,g1,g2,g3⟩:=bt oW (auQ (P:=P) (L:=L) (qs:=qs) (f:=f) hw hl hM Oh q0) ⟨q0,r0,by
   rw[PK (by simp only[go_sem,ya,yv,ow,pL,od,n9,By,vN]) (by simp only[go_sem,ya,yb,yv,mQ hw.pu])]
   simp only[go_sem,ya],by lia,by lia,Qu,rfl⟩
  rcases oK with ⟨rfl,h9⟩ | ⟨rfl,h6⟩
  .simp only [go_sem,yv,H3,PK,ow,od,n9,h9,and_self];exact⟨_,_,t,rfl,.inr rfl,rfl,g1,g2,g3⟩
  .simp only [go_sem];exact⟨_,_,t,rfl,.inr rfl,h6,g1,g2,g3⟩
 have⟨ex,tm,t,g1,g2,g3,g4,g5,g6⟩:=kM;exact⟨t,KN h g1 g2 (by show jU _ [RV.t 6]=_;rw[YL,XQ,g3]),g4,g5,g6⟩
end
section
variable {p t v x z:Int}{post pre qs vs y:List Int}{n:Nat}
def aDd(ht:0<=t/\t<1000000000)(hv:0<=v/\v<1000000000)(hb:0<=bo/\bo<1000000000):0<=t*v/\t*v<=999999998000000001/\0<=t*v+bo/\t*v+bo<=999999999000000000:=by
 have h1:=yaa ht.1 hv.1;have h2:=ycy (show t<=999999999 by lia) (show v<=999999999 by lia) hv.1 (by decide)
 lia
def aDe(hx:0<=x/\x<1000000000)(hp:0<=p/\p<=999999999000000000):
  (x-p.tmod 1000000000<0->0<=x-p.tmod 1000000000+1000000000/\x-p.tmod 1000000000+1000000000<1000000000/\0<=p.tdiv 1000000000+1/\p.tdiv 1000000000+1<1000000000/\x-p.tmod 1000000000+1000000000+p=x+1000000000*(p.tdiv 1000000000+1))/\
  (¬x-p.tmod 1000000000<0->x-p.tmod 1000000000<1000000000/\0<=p.tdiv 1000000000/\p.tdiv 1000000000<1000000000/\x-p.tmod 1000000000+p=x+1000000000*p.tdiv 1000000000):=by grind
def Wy{l:List Int}(h:dg l){i:Nat}(hz:0<=z/\z<1000000000):dg (l.set i z):=Qq h hz
def auR{b q CO X:Int}(h2:z+(q*v+bo)=x+b*CO)(h3:Y+q*X=S+p*bo):(Y+p*(z-x))+q*(X+p*v)=S+p*b*CO:=by grind
def auS{w:AV}{x:List Int}{f:Int}(hw:bB w vs){m:Nat}(lv:vs.length=n)(hM:M=pre.length+(n+1)+post.length)(Oh:M<=50000000000)(gv:dg vs)(ht:0<=t/\t<1000000000):
  cG P L [8,9,10,11,12,13,14,15,16] Hs (fun k s=>∃(i:Nat) (bo:Int) (y:List Int),s=⟨[(8,.ay 0 0 1),(9,w),(10,aa n),(11,.ay 1 0 M),(12,.ay 2 0 m),(13,aa pre.length),(14,aa t),(15,aa bo),(16,aa i)],H3 qs (pre++y++post) f,3,0⟩/\i+k=n/\y.length=n+1/\dg y/\(0<=bo/\bo<1000000000)/\
    sv y+t*sv (vs.take i)=sv x+1000000000^i*bo) (fun ex s'=>∃tm bo y,s'=⟨tm,H3 qs (pre++y++post) f,3,0⟩/\ex=.exit 4/\ak tm 8=.ay 0 0 1/\ak tm 9=w/\ak tm 10=aa n/\ak tm 11=.ay 1 0 M/\ak tm 12=.ay 2 0 m/\ak tm 13=aa pre.length/\ak tm 14=aa t/\ak tm 15=aa bo/\y.length=n+1/\dg y/\(0<=bo/\bo<1000000000)/\
    sv y+t*sv vs=sv x+1000000000^n*bo):=by
 apply cI;rintro k s ⟨i,bo,y,rfl,hk,ly,gy,kT,aM⟩;by_cases hi:i<n
 .left
  have Aq:=jO gv i;have zp:=jO gy i;have ev:=zT hw (i:=i) (by lia);have ey:=AY (l:=pre++y++post) (o:=pre.length+i) (by rw[qQ];lia)
  rw[Dw (by lia)] at ey;have eU:=Qf (l:=vs) i;obtain⟨a,ha⟩:∃a,a=vs.getD i 0:=⟨_,rfl⟩;obtain⟨d,hd⟩:∃d,d=y.getD i 0:=⟨_,rfl⟩;rw[<-ha] at Aq ev eU;rw[<-hd] at zp ey;have⟨p1,p2,p3,p4⟩:=aDd ht Aq kT;have⟨s1,s2⟩:=aDe zp ⟨p3,p4⟩;have fg:(i:Int)+(pre.length:Int)=((pre.length+i:Nat):Int):=by lia
  have aR:=fun (hp:Hp) (ct:Nat) (z:Int)=>Ey (hp:=hp) (ct:=ct) (id:=1) (v:=z) (ex:=ydC) (l:=pre++y++post) (o:=pre.length+i) (by rw[qQ];lia)
  have rb:=fun z=>Qv (pre:=pre) (x:=y) (post:=post) (i:=i) z (by lia)
  have aJ:=fun z=>HL (l:=y) (i:=i) (x:=z) (by lia)
  rw[<-hd] at aJ;obtain⟨pr,rD⟩:∃pr,pr=t*a+bo:=⟨_,rfl⟩;obtain⟨dm,eJ⟩:∃dm,pr.tmod 1000000000=dm:=⟨_,rfl⟩;obtain⟨dq,Gz⟩:∃dq,pr.tdiv 1000000000=dq:=⟨_,rfl⟩;have aI4:0<=dm/\dm<1000000000:=by rw[<-eJ,xK (by lia)];lia
  have aI5:0<=dq/\dq<1000000000:=by rw[<-Gz,xQ (by lia)];lia
  rw[<-rD,eJ,Gz] at s1 s2;have key:∀z CO,z+(t*a+bo)=d+1000000000*CO->sv (y.set i z)+t*sv (vs.take (i+1))=sv x+1000000000^(i+1)*CO:=fun z CO h=>by
   rw[aJ,eU,yau];exact auR h aM
  rw[<-rD] at key;by_cases gK:d-dm<0
  .have ⟨q1,q2,q3,q4,q5⟩:=s1 gK;have kk:=key _ _ q5;obtain⟨dr,kS⟩:∃dr,d-dm=dr:=⟨_,rfl⟩;rw[kS] at gK kk q1 q2
   simp only[go_sem,ya,yg,Hs,H3,show (i:Int)<(n:Int) by lia,ev,wrap64 (n:=t*a) (by lia) (by lia),<-rD,wrap64 (n:=pr) (by lia) (by lia),fg,wrapN (n:=pre.length+i) (by lia),dd 1 0 (show pre.length+i<M by lia),yd,ey,fM _ _ _ (show (1000000000:Int)≠0 by decide),eP _ _ _ (show (1000000000:Int)≠0 by decide),eJ,Gz,kS,wrap64 (n:=dr) (by lia) (by lia),wrap64 (n:=dq) (by lia) (by lia),gK,wrap64 (n:=dr+1000000000) (by lia) (by lia),wrap64 (n:=dq+1) (by lia) (by lia),aR,rb];refine⟨_,k-1,rfl,by lia,i+1,dq+1,y.set i (dr+1000000000),?_,by lia,by simp[ly],Wy gy ⟨q1,q2⟩,⟨q3,q4⟩,kk⟩;rw[wrap64 (by lia) (by lia)];simp only[go_sem,ya,yb,aq,aD hw.pu]<;>rfl
  .have ⟨q2,q3,q4,q5⟩:=s2 gK;have kk:=key _ _ q5;obtain⟨dr,kS⟩:∃dr,d-dm=dr:=⟨_,rfl⟩;rw[kS] at gK kk q2
   simp only[go_sem,ya,yg,Hs,H3,show (i:Int)<(n:Int) by lia,ev,wrap64 (n:=t*a) (by lia) (by lia),<-rD,wrap64 (n:=pr) (by lia) (by lia),fg,wrapN (n:=pre.length+i) (by lia),dd 1 0 (show pre.length+i<M by lia),yd,ey,fM _ _ _ (show (1000000000:Int)≠0 by decide),eP _ _ _ (show (1000000000:Int)≠0 by decide),eJ,Gz,kS,wrap64 (n:=dr) (by lia) (by lia),wrap64 (n:=dq) (by lia) (by lia),gK,aR,rb];refine⟨_,k-1,rfl,by lia,i+1,dq,y.set i dr,?_,by lia,by simp[ly],Wy gy ⟨by lia,q2⟩,⟨q3,q4⟩,kk⟩;rw[wrap64 (by lia) (by lia)];simp only[go_sem,ya,yb,aq,aD hw.pu]<;>rfl
 .right
  have:i=n:=by lia
  subst this;rw[yK (by lia)] at aM;simp only[go_sem,ya,Hs,H3,show ¬(i:Int)<(i:Int) by lia];exact⟨_,_,rfl,by simp,_,bo,y,rfl,rfl,rfl,rfl,rfl,rfl,rfl,rfl,rfl,rfl,ly,gy,kT,aM⟩
def auT{b c c' X:Int}(h2:z+b*c'=x+v+c)(h3:Y+p*c=S+X):(Y+p*(z-x))+p*b*c'=S+(X+p*v):=by grind
def auU{w:AV}{y0:List Int}{f:Int}(hw:bB w vs){m:Nat}(lv:vs.length=n)(hM:M=pre.length+(n+1)+post.length)(Oh:M<=50000000000)(gv:dg vs){top:Int}:
  cG P L [8,9,10,11,12,13,14,19,20] Lj (fun k s=>∃(i:Nat) (c:Int) (y:List Int),s=⟨[(8,.ay 0 0 1),(9,w),(10,aa n),(11,.ay 1 0 M),(12,.ay 2 0 m),(13,aa pre.length),(14,aa t),(19,aa c),(20,aa i)],H3 qs (pre++y++post) f,3,0⟩/\i+k=n/\y.length=n+1/\dg (y.take n)/\y.getD n 0=top/\(0<=c/\c<=1)/\
    sv y+1000000000^i*c=sv y0+sv (vs.take i)) (fun ex s'=>∃tm c y,s'=⟨tm,H3 qs (pre++y++post) f,3,0⟩/\ex=.exit 6/\ak tm 8=.ay 0 0 1/\ak tm 9=w/\ak tm 10=aa n/\ak tm 11=.ay 1 0 M/\ak tm 12=.ay 2 0 m/\ak tm 13=aa pre.length/\ak tm 14=aa t/\ak tm 19=aa c/\y.length=n+1/\dg (y.take n)/\y.getD n 0=top/\(0<=c/\c<=1)/\
    sv y+1000000000^n*c=sv y0+sv vs):=by
 apply cI;rintro k s ⟨i,c,y,rfl,hk,ly,gy,rh,hc,aM⟩;by_cases hi:i<n
 .left
  have Aq:=jO gv i;have zp:=jO gy i;have e0:(y.take n).getD i 0=y.getD i 0:=by
   simp[yV,hi]
  rw[e0] at zp;have ev:=zT hw (i:=i) (by lia);have ey:=AY (l:=pre++y++post) (o:=pre.length+i) (by rw[qQ];lia)
  rw[Dw (by lia)] at ey;have eU:=Qf (l:=vs) i;obtain⟨a,ha⟩:∃a,a=vs.getD i 0:=⟨_,rfl⟩;obtain⟨d,hd⟩:∃d,d=y.getD i 0:=⟨_,rfl⟩;rw[<-ha] at Aq ev eU;rw[<-hd] at zp ey;have fg:(i:Int)+(pre.length:Int)=((pre.length+i:Nat):Int):=by lia
  have aJ:=fun z=>HL (l:=y) (i:=i) (x:=z) (by lia)
  rw[<-hd] at aJ;have nM:(d+a+c).tmod 1000000000=(d+a+c)%1000000000:=xK (by lia);have hdiv:(d+a+c).tdiv 1000000000=(d+a+c)/1000000000:=xQ (by lia);obtain⟨z,hz⟩:∃z,z=(d+a+c)%1000000000:=⟨_,rfl⟩;obtain⟨c',iN⟩:∃z,z=(d+a+c)/1000000000:=⟨_,rfl⟩;have ZP:z+1000000000*c'=d+a+c:=by lia
  rw[<-hz] at nM;rw[<-iN] at hdiv;have aR:=fun (hp:Hp) (ct:Nat)=>Ey (hp:=hp) (ct:=ct) (id:=1) (v:=z) (ex:=ydC) (l:=pre++y++post) (o:=pre.length+i) (by rw[qQ];lia)
  have rb:=Qv (pre:=pre) (x:=y) (post:=post) (i:=i) z (by lia)
  simp only[go_sem,ya,yg,Lj,H3,show (i:Int)<(n:Int) by lia,ev,fg,wrapN (n:=pre.length+i) (by lia),dd 1 0 (show pre.length+i<M by lia),yd,ey,wrap64 (n:=d+a) (by lia) (by lia),wrap64 (n:=d+a+c) (by lia) (by lia),fM _ _ _ (show (1000000000:Int)≠0 by decide),eP _ _ _ (show (1000000000:Int)≠0 by decide),nM,hdiv,wrap64 (n:=c') (by lia) (by lia),aR,rb];refine⟨_,k-1,rfl,by lia,i+1,c',y.set i z,?_,by lia,by simp[ly],?_,by rw[agy (by lia)];exact rh,⟨by lia,by lia⟩,?_⟩
  .rw [wrap64 (by lia) (by lia)];simp only[go_sem,ya,yb,aq,aD hw.pu]<;>rfl
  .rw [yaW];exact Wy gy ⟨by lia,by lia⟩
  .rw [aJ,eU,yau];exact auT ZP aM
 .right
  have:i=n:=by lia
  subst this;rw[yK (show vs.length<=i by lia)] at aM;simp only[go_sem,ya,Lj,H3,show ¬(i:Int)<(i:Int) by lia];exact⟨_,_,rfl,by simp,_,c,y,rfl,rfl,rfl,rfl,rfl,rfl,rfl,rfl,rfl,rfl,ly,gy,rh,hc,aM⟩
def auV{t:Nat}(hV:0<V)(ly:y.length=n+1)(gy:dg (y.take n))(h:sv y=(A:Int)-t*V)(h1:A/V<=t)(h2:t<=A/V+1):
  (¬y.getD n 0<0->t=A/V/\sv y=((A%V:Nat):Int))/\(y.getD n 0<0->t=A/V+1/\sv y+V=((A%V:Nat):Int)):=by
 have eJ:=xE A V;have hm:=xq A hV;have eU:=Qf (l:=y) n;rw[yK (by lia),Ca gy] at eU;have DU:=lK gy;have hp:(0:Int)<1000000000^n:=ydp (by decide);generalize y.getD n 0=top at*
 generalize A/V=Q at*
 have hq:t=Q\/t=Q+1:=by lia
 constructor
 .intro h0;have h3:0<=(1000000000:Int)^n*top:=yaa (tR hp) (by lia);rcases hq with rfl | rfl
  .grind
  .grind
 .intro h0;have h3:(1000000000:Int)^n*top<=-(1000000000^n):=by
   have:=uL (show top<=-1 by lia) (tR hp)
   grind
  rcases hq with rfl | rfl
  .grind
  .grind
def aeH(ly:y.length=n+1)(gy:dg (y.take n))(h0:0<=sv y)(h1:sv y<1000000000^n):y.getD n 0=0/\dg y/\sv y=dv y:=by
 have eU:=Qf (l:=y) n;rw[yK (by lia),Ca gy] at eU;have DU:=lK gy;rw[yU,xo (by lia)] at DU;have hp:(0:Int)<1000000000^n:=ydp (by decide);have sL:((1000000000^n:Nat):Int)=(1000000000:Int)^n:=by simp
 have aIQ:(dv (y.take n):Int)<1000000000^n:=by lia
 have ht:y.getD n 0=0:=by
  generalize y.getD n 0=top at*
  rcases uQ top 0 with h | h | h
  .have:=uL (show top<=-1 by lia) (tR hp)
   grind
  .grind
  .have:=uL (show 1<=top by lia) (tR hp)
   grind
 have hg:dg y:=by
  have e:y=y.take n++[0]:=by
   have h1:y=y.take n++y.drop n:=(wh n y).symm;have h2:y.drop n=[0]:=by
    rw[yX (by lia),y9 (by lia)]
    grind
   grind
  rw[e];exact jl.2 ⟨gy,mu.2 ⟨by decide,by decide⟩⟩
 exact⟨ht,hg,Ca hg⟩
end
def auW{l:List Int}{i:Nat}(h:i<l.length):dv (l.drop i)=(l.getD i 0).toNat+1000000000*dv (l.drop (i+1)):=by
 rw[yX h]
 have:l[i]=l.getD i 0:=by simp_all
 rw[this];rfl
def VX(l:List Int)(i:Nat)(h:i<=l.length):dv l=dv (l.take i)+1000000000^i*dv (l.drop i):=by
 conv=>lhs;rw[<-wh i l]
 rw[n7,yU,xo h]
def auX{sx sy sV:Int}{p:Int}{t:Int}{yn z:Int}{szy:Int}(h1:sy+t*sV=sx+p*bo)(h2:szy=sy+p*(z-yn))(h3:z=yn-bo):szy=sx-t*sV:=by grind
def auY(Bf:Has P L 301 Cl){w:AV}{f:Int}(hw:bB w vs)(gv:dg vs){n m:Nat}(lv:vs.length=n)(et:2<=n)(hnM:n<M)(Oh:M<=20000000000)(hm:m=M-n)(fJ:0<vs.getD (n-1) 0){U0:Nat}:
  cG P L [8,9,10,11,12,13] Lk (fun k st=>∃(j:Nat) (us qs:List Int),st=⟨[(8,.ay 0 0 1),(9,w),(10,aa n),(11,.ay 1 0 M),(12,.ay 2 0 m),(13,aa ((j:Int)-1))],H3 qs us f,3,0⟩/\j=k/\j<=m/\us.length=M/\qs.length=m/\dg us/\dg qs/\(∀i,i<j->qs.getD i 0=0)/\
    dv us+dv qs*dv vs=U0/\dv (us.drop j)<dv vs) (fun ex st'=>∃tm us qs,st'=⟨tm,H3 qs us f,3,0⟩/\ex=.exit 2/\ak tm 8=.ay 0 0 1/\ak tm 10=aa n/\ak tm 11=.ay 1 0 M/\ak tm 12=.ay 2 0 m/\us.length=M/\qs.length=m/\dg us/\dg qs/\
    dv us+dv qs*dv vs=U0/\dv us<dv vs):=by
 apply cI;rintro k st ⟨j,us,qs,rfl,rfl,hj,lu,lq,gu,gq,hz,aM,rh⟩
 cases j with
 | zero=>
  right
  simp only[go_sem,ya,Lk,H3,show ¬(0:Int)<=((0:Nat):Int)-1 by lia];exact⟨_,_,rfl,by simp,_,us,qs,rfl,rfl,rfl,rfl,rfl,rfl,lu,lq,gu,gq,aM,by simpa using rh⟩
 | succ j=>
  left
  obtain⟨pre,fg⟩:∃p,p=us.take j:=⟨_,rfl⟩;obtain⟨x,hx⟩:∃p,p=(us.drop j).take (n+1):=⟨_,rfl⟩;obtain⟨post,gJ⟩:∃p,p=us.drop (j+(n+1)):=⟨_,rfl⟩;have lp:pre.length=j:=by rw[fg,yU];lia
  have lx:x.length=n+1:=by rw[hx,yU,wP];lia
  have lpo:M=pre.length+(n+1)+post.length:=by rw[lp,gJ,wP];lia
  have sB:us=pre++x++post:=by
   rw[fg,hx,gJ,<-vS,xt,wh,wh]
  have gpo:dg post:=by
   have:=gu;rw[sB] at this;exact (jl.1 this).2
  have gpx:=by have:=gu;rw[sB] at this;exact (jl.1 this).1
  have gx:dg x:=(jl.1 gpx).2;have YV:dg pre:=(jl.1 gpx).1;have hA:=auW (l:=us) (i:=j) (by lia);have hgj:=jO gu j;have hdx:us.drop j=x++post:=by rw[gJ,hx,<-vS,wh]
  have CP:dv (us.drop j)=dv x+1000000000^(n+1)*dv post:=by rw[hdx,n7,lx]
  have N3:=lK gv;rw[lv] at N3;have aG:dv (us.drop j)<1000000000*dv vs:=by lia
  have hp0:dv post=0:=by
   rcases xi (dv post) with e | e
   .exact e
   .have h1:=yW (1000000000^(n+1)) e;rw[yg,xh] at h1;rw[xh] at CP
    lia
  rw[hp0,xF,yY] at CP;have Oj:=fun (l:List Int) (hl:dg l) (i:Nat)=>jO hl i
  obtain⟨v1,fK⟩:∃v:Nat,vs.getD (n-1) 0=v:=⟨(vs.getD (n-1) 0).toNat,by have:=Oj vs gv (n-1);lia⟩
  obtain⟨v2,zn⟩:∃v:Nat,vs.getD (n-2) 0=v:=⟨(vs.getD (n-2) 0).toNat,by have:=Oj vs gv (n-2);lia⟩
  obtain⟨u0,En⟩:∃v:Nat,x.getD n 0=v:=⟨(x.getD n 0).toNat,by have:=Oj x gx n;lia⟩
  obtain⟨u1,Eo⟩:∃v:Nat,x.getD (n-1) 0=v:=⟨(x.getD (n-1) 0).toNat,by have:=Oj x gx (n-1);lia⟩
  obtain⟨u2,Bx⟩:∃v:Nat,x.getD (n-2) 0=v:=⟨(x.getD (n-2) 0).toNat,by have:=Oj x gx (n-2);lia⟩
  have hl:il x vs n v1 v2 u0 u1 u2:=⟨et,by lia,lx,lv,gx,gv,fK,zn,En,Eo,Bx,by lia,by rw[<-CP];exact aG⟩
  have Su:=hl.digit;have Ao:0<dv vs:=by lia
  have nM:=xq (dv x) Ao;have⟨t,e1,ht1,Z7,ht3⟩:=aAY (P:=P) (L:=L) Bf hw hl (pre:=pre) (post:=post) (qs:=qs) (f:=f) (M:=M) (by lia) (by lia);rw[<-sB,lp] at e1;have hbu:dv us=dv pre+1000000000^j*dv x:=by
   have:=VX us j (by lia)
   rw[CP,<-fg] at this;exact this
  have YW:∀y,dv (pre++y++post)=dv pre+1000000000^j*dv y:=fun y=>by
   rw[xt,n7,n7,hp0,xF,yY,lp]
  have nJ:=adx (b:=0) hbu aM;have By:below 3 w:=zE hw.pu;have aJ:=HL (l:=qs) (i:=j) (x:=((dv x/dv vs:Nat):Int)) (by lia);have gq':dg (qs.set j ((dv x/dv vs:Nat):Int)):=Qq gq ⟨yaQ _,tQ.2 Su⟩;rw[hz j (by lia),Int.sub_zero,Ca gq,Ca gq'] at aJ;have aJ:dv (qs.set j ((dv x/dv vs:Nat):Int))=dv qs+1000000000^j*(dv x/dv vs):=by
   have sL:((1000000000^j*(dv x/dv vs):Nat):Int)=(1000000000:Int)^j*((dv x/dv vs:Nat):Int):=by rw[xD];simp
   rw[<-sL] at aJ;exact yaF (by rw[ybx,ybx,aJ,ybn])
  have fin:∀(s':St) (x':List Int),bH [8,9,10,11,12,13] s'=⟨[(8,.ay 0 0 1),(9,w),(10,aa n),(11,.ay 1 0 M),(12,.ay 2 0 m),(13,aa ((j:Int)-1))],H3 (qs.set j ((dv x/dv vs:Nat):Int)) (pre++x'++post) f,3,0⟩->x'.length=n+1->dg x'->sv x'=((dv x%dv vs:Nat):Int)->
    ∃(j':Nat) (us qs:List Int),bH [8,9,10,11,12,13] s'=⟨[(8,.ay 0 0 1),(9,w),(10,aa n),(11,.ay 1 0 M),(12,.ay 2 0 m),(13,aa ((j':Int)-1))],H3 qs us f,3,0⟩/\j'=j/\j'<=m/\us.length=M/\qs.length=m/\dg us/\dg qs/\(∀i,i<j'->qs.getD i 0=0)/\dv us+dv qs*dv vs=U0/\dv (us.drop j')<dv vs:=fun s' x' hc lx' TV N5=>by
   have ajT:dv x'=dv x%dv vs:=by rw[Ca TV] at N5;exact yaF N5
   refine⟨j,_,_,hc,rfl,by lia,by rw[qQ,lx'];lia,by simp[lq],jl.2 ⟨jl.2 ⟨YV,TV⟩,gpo⟩,gq',fun i hi=>by rw[agy (by lia)];exact hz i (by lia),?_,?_⟩
   .rw [YW,ajT,aJ];exact nJ
   .rw [xt,List.drop_left' lp,n7,hp0,xF,yY,ajT];exact nM
  have ajU:=fun (z:Int) (hp:Hp) (ct:Nat)=>Ey (hp:=hp) (ct:=ct) (id:=2) (v:=z) (ex:=ydB) (l:=qs) (o:=j) (by lia)
  have svx:=Ca gx;have svv:=Ca gv;simp only[H3] at e1;simp only[go_sem,ya,Lk,H3,show ((j+1:Nat):Int)-1=(j:Int) by lia,show (0:Int)<=(j:Int) by lia,ah1,e1];generalize oW:D P L (.loop _ Hs) _=qq;obtain⟨ex,s,rfl,tm,bo,y,rfl,rfl,t8,t9,t10,t11,t12,t13,t14,t15,ly,gy,kT,hv⟩:=bt oW (auS (P:=P) (L:=L) (x:=x) (pre:=pre) (post:=post) (qs:=qs) (f:=f) (m:=m) (M:=M) hw lv lpo (by lia) gv (t:=t) (by lia) n) ⟨0,0,x,by
   rw[sB,lp]
   simp only[go_sem,ya,yb,aq,aD hw.pu]<;>rfl,by lia,lx,gx,by lia,by simp[sv]⟩
  rw[lp] at t13;have hyn:=jO gy n;have eyn:=AY (l:=pre++y++post) (o:=pre.length+n) (by rw[qQ];lia)
  rw[Dw (by lia),lp] at eyn;obtain⟨z,hzz⟩:∃z,z=y.getD n 0-bo:=⟨_,rfl⟩;have HY:=fun (hp:Hp) (ct:Nat)=>Ey (hp:=hp) (ct:=ct) (id:=1) (v:=z) (ex:=ydC) (l:=pre++y++post) (o:=j+n) (by rw[qQ];lia)
  have rb:=Qv (pre:=pre) (x:=y) (post:=post) (i:=n) z (by lia);rw[lp] at rb;rw[rb] at HY;have iH:=HL (l:=y) (i:=n) (x:=z) (by lia);have Rv:=auX hv iH hzz;have Em:(y.set n z).length=n+1:=by simp[ly]
  have Gx:dg ((y.set n z).take n):=by
   have:(y.set n z).take n=y.take n:=by rw[yaW,yaV (by simp;lia)]
   rw[this];exact E1 gy n
  rw[svx,svv] at Rv;have⟨s0,s1⟩:=auV Ao Em Gx Rv Z7 ht3;have eg:(y.set n z).getD n 0=z:=aqj (by lia);rw[eg] at s0 s1;have ezn:=AY (l:=pre++y.set n z++post) (o:=pre.length+n) (by rw[qQ];lia)
  rw[Dw (by lia),lp,eg] at ezn;generalize y.set n z=y1 at*
  have hpn:((10^9:Int))=1000000000:=by decide
  by_cases gK:z<0
  .have ⟨f1,f2⟩:=s1 gK
   simp only[go_sem,ya,yb,yg,aq,aD hw.pu,t8,t9,t10,t11,t12,t13,t14,t15,show (j:Int)+(n:Int)=((j+n:Nat):Int) from rfl,wrapN (n:=j+n) (by lia),dd 1 0 (show j+n<M by lia),yd,eyn,<-hzz,wrap64 (n:=z) (by lia) (by lia),HY,ezn,gK];generalize F1:D P L (.loop _ Lj) _=qq2;obtain⟨ex,s,rfl,rz,c,y2,rfl,rfl,t8,t9,t10,t11,t12,t13,t14,t19,ly2,TS,aic,hc,de⟩:=bt F1 (auU (P:=P) (L:=L) (y0:=y1) (pre:=pre) (post:=post) (qs:=qs) (f:=f) (m:=m) (M:=M) (t:=(t:Int)-1) (top:=z) hw lv lpo (by lia) gv n) ⟨0,0,y1,by
    rw[lp,wrap64 (n:=(t:Int)-1) (by lia) (by lia)]
    simp only[go_sem,ya,yb,aq,aD hw.pu]<;>rfl,by lia,Em,Gx,eg,by lia,by simp[sv]⟩
   rw[lp] at t13;have ajV:=AY (l:=pre++y2++post) (o:=pre.length+n) (by rw[qQ];lia)
   rw[Dw (by lia),lp,aic] at ajV;have Sr:=fun (hp:Hp) (ct:Nat)=>Ey (hp:=hp) (ct:=ct) (id:=1) (v:=z+c) (ex:=ydC) (l:=pre++y2++post) (o:=j+n) (by rw[qQ];lia)
   have Q3:=Qv (pre:=pre) (x:=y2) (post:=post) (i:=n) (z+c) (by lia);rw[lp] at Q3;rw[Q3] at Sr;have CG:=HL (l:=y2) (i:=n) (x:=z+c) (by lia);rw[aic,show z+c-z=c by lia,de,svv,f2] at CG;have N4:(y2.set n (z+c)).length=n+1:=by simp[ly2]
   have TU:dg ((y2.set n (z+c)).take n):=by
    have:(y2.set n (z+c)).take n=y2.take n:=by rw[yaW,yaV (by simp;lia)]
    rw[this];exact TS
   have hmV:((dv x%dv vs:Nat):Int)<1000000000^n:=by
    have sL:((1000000000^n:Nat):Int)=(1000000000:Int)^n:=by simp
    rw[<-sL];lia
   have⟨g1,g2,g3⟩:=aeH N4 TU (by rw[CG];lia) (by rw[CG];exact hmV)
   generalize y2.set n (z+c)=y3 at*
   have ft:(t:Int)-1=((dv x/dv vs:Nat):Int):=by rw[f1];lia
   simp only[go_sem,ya,yb,yg,aq,aD hw.pu,t8,t9,t10,t11,t12,t13,t14,t19,show (j:Int)+(n:Int)=((j+n:Nat):Int) from rfl,wrapN (n:=j+n) (by lia),dd 1 0 (show j+n<M by lia),yd,ajV,wrap64 (n:=z+c) (by lia) (by lia),Sr,dd 2 0 (show j<m by lia),ajU];rw[ft];refine⟨_,j,rfl,by lia,fin _ y3 ?_ N4 g2 CG⟩;rw[wrap64 (by lia) (by lia)];simp only[go_sem,ya,yb,aq,aD hw.pu]<;>rfl
  .have ⟨f1,f2⟩:=s0 gK;have hmV:((dv x%dv vs:Nat):Int)<1000000000^n:=by
    have sL:((1000000000^n:Nat):Int)=(1000000000:Int)^n:=by simp
    rw[<-sL];lia
   have⟨g1,g2,g3⟩:=aeH Em Gx (by rw[f2];lia) (by rw[f2];exact hmV)
   simp only[go_sem,ya,yb,yg,aq,aD hw.pu,t8,t9,t10,t11,t12,t13,t14,t15,show (j:Int)+(n:Int)=((j+n:Nat):Int) from rfl,wrapN (n:=j+n) (by lia),dd 1 0 (show j+n<M by lia),yd,eyn,<-hzz,wrap64 (n:=z) (by lia) (by lia),HY,ezn,gK,dd 2 0 (show j<m by lia),ajU];rw[f1];refine⟨_,j,rfl,by lia,fin _ y1 ?_ Em g2 f2⟩;rw[wrap64 (by lia) (by lia)];simp only[go_sem,ya,yb,aq,aD hw.pu]<;>rfl
def ayv(h:Has P L 292 Cj){n:Nat}(hn:n<1000000000):ab P L 292 [aa n,aa 9] (.str (kC 9 n)):=by
 have key:=iX P L [0,1,5] qM
  (fun k st=>∃(m:Nat) (s:List Nat),st=⟨[(0,aa m),(1,aa 9),(5,.str s)],[],0,0⟩/\s.length+k=9/\m<10^k/\kC 9 n=kC k m++s)
  (fun ex st=>∃tm ct,st=⟨tm,[],ct,0⟩/\ex=.exit 0/\ak tm 5=.str (kC 9 n)) ?_
 .unfold ab;rw[aB h];simp only[go_sem,Cj];generalize hq:D P L (.loop _ qM) _=q;obtain⟨ex,st,rfl,tm,ct,rfl,rfl,h2⟩:=bt hq (key 9) ⟨n,[],by simp only[go_sem,ya,aq]<;>rfl,rfl,by lia,by simp⟩
  simp only[go_sem,aq,h2]
 .rintro k st ⟨m,s,rfl,hk,hm,hs⟩
  cases k with
  | zero=>
   right
   have zt:m=0:=by simpa using hm
   subst zt;simp only[go_sem,ya,qM,show ¬(0:Int)<((0:Nat):Int) by lia,show ¬((s.length:Nat):Int)<9 by lia];refine⟨_,_,rfl,by simp,_,_,rfl,rfl,?_⟩;rw[hs];rfl
  | succ k=>
   left
   have hr:((m:Int)).tmod 10=((m%10:Nat):Int):=by rw[xK (by lia)];rfl
   have hq:((m:Int)).tdiv 10=((m/10:Nat):Int):=by rw[xQ (by lia)];rfl
   have hd:=acC (r:=m%10) (by lia);have NB:m<10000000000:=yF hm (by simpa using xc (show 0<10 by decide) (show k+1<=10 by lia));have fin:∃s',D P L qM ⟨[(0,aa m),(1,aa 9),(5,.str s)],[],0,0⟩=GR (.normal,s')/\bH [0,1,5] s'=⟨[(0,aa (m/10:Nat)),(1,aa 9),(5,.str ([48+m%10]++s))],[],0,0⟩:=by
    by_cases hc:(0:Int)<m
    .simp only [go_sem,ya,yb,qM,hc,fM _ _ _ (show (10:Int)≠0 by decide),eP _ _ _ (show (10:Int)≠0 by decide),hr,hq,wrapN (n:=m%10+1) (by lia),wrap64 (n:=((m/10:Nat):Int)) (by lia) (by lia),mR,jN,show ((m%10:Nat):Int)+1=((m%10+1:Nat):Int) from rfl,hd,iV (a:=[48+m%10]) (b:=s) (by simp;lia)]
     exact⟨_,rfl,by simp only[go_sem,ya,aq]⟩
    .simp only [go_sem,ya,yb,qM,hc,show ((s.length:Nat):Int)<9 by lia,fM _ _ _ (show (10:Int)≠0 by decide),eP _ _ _ (show (10:Int)≠0 by decide),hr,hq,wrapN (n:=m%10+1) (by lia),wrap64 (n:=((m/10:Nat):Int)) (by lia) (by lia),mR,jN,show ((m%10:Nat):Int)+1=((m%10+1:Nat):Int) from rfl,hd,iV (a:=[48+m%10]) (b:=s) (by simp;lia)]
     exact⟨_,rfl,by simp only[go_sem,ya,aq]⟩
   have⟨s',f1,f2⟩:=fin;exact⟨s',k,f1,by lia,m/10,_,f2,by simp;lia,by rw[xh] at hm;lia,by rw[hs];simp[kC]⟩
def last_pos{l:List Int}(hd:dg l)(hn:nz l)(h:0<l.length):0<l.getD (l.length-1) 0:=by
 rcases snoc l with rfl | ⟨m,a,rfl⟩
 .grind
 .have e:(m++[a]).getD ((m++[a]).length-1) 0=a:=by simp_all
  have ha:=mu.1 (jl.1 hd).2;by_cases h0:a=0
  .subst h0
   have:=Pk m
   have e:=congrArg List.length hn;rw[Kf] at e
   grind
  .lia
def ayw(q9:Has P L 292 Cj){neg:Bool}{w:AV}{l:List Int}(hw:bB w l)(hd:dg l)(hn:nz l)(hl:l.length<=20000000000):
  cG P L [1,3,4] Lh (fun k s=>∃(j:Nat) (t:List Nat),s=⟨[(1,.ptr 0 0),(3,.str t),(4,aa ((j:Int)-1))],[(0,.cells ydB ydB ydB 2 [.bool neg,w])],1,0⟩/\j=k/\j<l.length/\0<dv (l.drop j)/\t=aC (dv (l.drop j))/\t.length<=9*(l.length-j)) (fun ex s'=>∃tm,s'=⟨tm,[(0,.cells ydB ydB ydB 2 [.bool neg,w])],1,0⟩/\ex=.exit 0/\ak tm 1=.ptr 0 0/\ak tm 3=.str (aC (dv l))/\(aC (dv l)).length<=180000000000):=by
 apply cI;rintro k s ⟨j,t,rfl,rfl,hj,rn,ht,htl⟩
 cases j with
 | zero=>
  right
  rw[ye] at ht;simp only[go_sem,ya,Lh,show ¬(0:Int)<=((0:Nat):Int)-1 by lia];exact⟨_,_,rfl,by simp,_,rfl,rfl,rfl,by rw[<-ht];simp only[go_sem,ya],by rw[<-ht];lia⟩
 | succ i=>
  left
  have hi:i<l.length:=by lia
  obtain⟨x,hx⟩:∃x,x=l.getD i 0:=⟨_,rfl⟩;have e1:=zT hw hi;have gx:=jO hd i;rw[<-hx] at e1 gx;obtain⟨m,rfl⟩:∃m:Nat,x=m:=⟨x.toNat,by lia⟩;have e2:=ayv q9 (n:=m) (by lia);unfold ab at e2;have hlp:=VT 9 m;have kS:dv (l.drop i)=dv (l.drop (i+1))*10^9+m:=by
   have:l.drop i=(m:Int)::l.drop (i+1):=by
    rw[yX hi,hx];simp[yV,xn hi]
   rw[this];simp only[dv,wA];lia
  have aDf:aC (dv (l.drop i))=t++kC 9 m:=by
   rw[kS,PF 9 _ m rn (by lia),ht]
  simp only[go_sem,ya,Lh,show ((i+1:Nat):Int)-1=(i:Int) by lia,show (0:Int)<=(i:Int) by lia,aP,yd,dt,e1,e2,iV (a:=t) (b:=kC 9 m) (by lia)];refine⟨_,i,rfl,by lia,i,t++kC 9 m,?_,rfl,by lia,by lia,aDf.symm,by simp;lia⟩
  rw[wrap64 (by lia) (by lia)];simp only[go_sem,ya,yb,aq]<;>rfl
def SG(h:Has P L 282 My)(q9:Has P L 292 Cj){n:Int}(hK:K<=18000000000)(hv:kE v n)(hn:n.natAbs<1000000000^K):ab P L 282 [v] (.str (bh n))/\(bh n).length<=180000000001:=by
 obtain⟨w,l,rfl,hw,hd,hz,zq⟩:=hv;have hl:=y7 (kI hd hz (by rw[zq];exact hn)) hK
 by_cases h0:l=[]
 .subst h0;have zg:n=0:=by simp[dv] at zq;lia
  subst zg;refine⟨?_,by decide⟩;unfold ab;rw[aB h];simp only[go_sem,ya,yb,My,aT,hw.len,hw.pu,hw.one,aP,yd,dt,yR,show ((0:Nat):Int)=(0:Int) from rfl,yp];rfl
 .have rn:0<l.length:=tz.2 h0;obtain⟨x,hx⟩:∃x,x=l.getD (l.length-1) 0:=⟨_,rfl⟩;have e1:=zT hw (show l.length-1<l.length by lia);have gx:=jO hd (l.length-1);have gp:=last_pos hd hz rn;rw[<-hx] at e1 gx gp;obtain⟨m,rfl⟩:∃m:Nat,x=m:=⟨x.toNat,by lia⟩;have e2:=YP q9 (n:=m) (by lia);have kS:dv (l.drop (l.length-1))=m:=by
   rw[yX (show l.length-1<l.length by lia),y9 (by lia)]
   have:l[l.length-1]=(m:Int):=by rw[hx];simp[yV,xn (show l.length-1<l.length by lia)]
   simp[dv,this]
  have h9:(aC m).length<=9:=zI (k:=8) (by lia);have fin:∀neg:Bool,bZ P L (D P L) 282 [.agg [.bool neg,w]]=GR (.str ((if neg=ydB then [45] else [])++aC (dv l)))/\(aC (dv l)).length<=180000000000:=fun neg=>by
   rw[aB h]
   simp only[go_sem,ya,yb,My,aT,hw.len,hw.pu,hw.one,aP,yd,dt,show ¬(l.length:Int)=0 by lia,show (l.length:Int)-1=((l.length-1:Nat):Int) by lia,wrapN (n:=l.length-1) (by lia),e1,e2];generalize hq:D P L (.loop _ Lh) _=q;obtain⟨ex,s,rfl,tm,rfl,rfl,t1,t3,hlen⟩:=bt hq (ayw (P:=P) (L:=L) q9 (neg:=neg) hw hd hz (by lia) (l.length-1)) ⟨l.length-1,aC m,by
    rw[show (l.length:Int)-2=((l.length-1:Nat):Int)-1 by lia,wrap64 (by lia) (by lia)]
    simp only[go_sem,ya,yb,aq]<;>rfl,rfl,by lia,by rw[kS];lia,by rw[kS],by lia⟩
   refine⟨?_,hlen⟩
   cases neg with
   | true=>
    simp only[go_sem,ya,aq,t1,t3,aP,yd,iV (a:=[45]) (b:=aC (dv l)) (by simp;lia),xN]
   | false=>
    simp only[go_sem,ya,aq,t1,t3,aP,yd];rfl
  have⟨f1,f2⟩:=fin (decide (n<0));rw[zq] at f1 f2;simp only[xj] at f1;rw[qF] at f1;refine⟨f1,?_⟩;rw[<-qF]
  split<;>simp<;>lia
structure Rb(P:aE)(L:Lib):Prop where
 aDg:Has P L 262 Mt
 Io:Has P L 272 Mx
 ajW:Has P L 274 RO
 aDh:Has P L 275 RP
 aDi:Has P L 277 FU
 aDj:Has P L 280 qY
 ajX:Has P L 281 RR
 SH:Has P L 282 My
 ajY:Has P L 288 RS
 SI:Has P L 289 A3
 Co:Has P L 290 Ie
 YQ:Has P L 291 Mz
 q9:Has P L 292 Cj
 nN:Has P L 293 DK
 jx:Has P L 294 DL
 SE:Has P L 295 MA
 sW:Has P L 296 A4
 ajZ:Has P L 298 RU
 z7:Has P L 299 DM
 cT:Has P L 300 nL
 oO:Has P L 302 A5
structure Ras(P:aE)(L:Lib):Prop extends Rb P L where
 aj0:Has P L 264 Mu
 aDk:Has P L 268 Mw
 aDl:Has P L 271 Yx
 aDm:Has P L 276 sQ
 M5:Has P L 278 RQ
 aDn:Has P L 279 Ic
 SF:Has P L 297 MB
structure Ra(P:aE)(L:Lib):Prop extends Ras P L where
 aj1:Has P L 267 Mv
section
variable {v w:AV}{a b:List Int}
def auZ{f:Int}(hv:bB v a)(hw:bB w vs){n:Nat}(la:a.length<=9000000000):
  cG P L [0,8,9,10,11] Li (fun k st=>∃us:List Int,st=⟨[(0,v),(8,.ay 0 0 1),(9,w),(10,aa n),(11,.ay 1 0 us.length)],[(1,.cells ydB ydB ydC 1 (us.map aa)),(0,.cells ydC ydB ydB 1 [aa f])],2,0⟩/\us.length+k=a.length+1/\dg us/\dv us=A) (fun ex st'=>∃tm us,st'=⟨tm,[(1,.cells ydB ydB ydC 1 (us.map aa)),(0,.cells ydC ydB ydB 1 [aa f])],2,0⟩/\ex=.exit 0/\ak tm 8=.ay 0 0 1/\ak tm 9=w/\ak tm 10=aa n/\ak tm 11=.ay 1 0 (a.length+1)/\us.length=a.length+1/\dg us/\dv us=A):=by
 apply cI;rintro k st ⟨us,rfl,hk,gu,aM⟩;have ea:((a.length:Nat):Int)+1=((a.length+1:Nat):Int):=rfl;by_cases hi:us.length<a.length+1
 .left
  simp only[go_sem,ya,yb,yh,yg,Li,hv.len,ea,wrapN (n:=a.length+1) (by lia),show ((us.length:Nat):Int)<((a.length+1:Nat):Int) by lia]
  rw[gR (ex:=ydC) (pu:=ydB) (cs:=us.map aa) rfl (by simp) (by lia) (by lia) (by decide) rfl];refine⟨_,k-1,rfl,by lia,us++[0],?_,by simp;lia,jl.2 ⟨gu,mu.2 (by decide)⟩,by rw[n7];simp[dv,aM]⟩
  rw[xu,yO];simp only[go_sem,ya,yb,aq,aD hv.pu,aD hw.pu]<;>rfl
 .right
  have hl:us.length=a.length+1:=by lia
  rw[hl]
  simp only[go_sem,ya,Li,hv.len,ea,wrapN (n:=a.length+1) (by lia),show ¬((a.length+1:Nat):Int)<((a.length+1:Nat):Int) by lia];exact⟨_,_,rfl,by simp,_,us,rfl,rfl,rfl,rfl,rfl,rfl,hl,gu,aM⟩
def agz:∀l:List Int,cf (l.map aa)=ydB
 | []=>rfl
 | a::r=>by rw[xb,ads,agz r];rfl
def agA:∀l:List Int,aF (l.map aa)=ydB
 | []=>rfl
 | a::r=>by rw[xb,aF,agA r];rfl
def au0{e:Bool}{us:List Int}{o:Obj}(h:us.length<=100000000000):
  FY ((1,.cells ydB ydB ydB 1 [])::(0,o)::hp) ct 1 8 (.ay 1 0 0) (pE ((1,.cells ydB ydB ydB 1 [])::(0,o)::hp) 1 (.au e us.length (us.map aa)))=GR (.ay ct 0 us.length,(ct,.cells ydB ydB ydC 1 (us.map aa))::cS ((1,.cells ydB ydB ydB 1 [])::(0,o)::hp) 1,ct+1):=by
 have h1:pE ((1,.cells ydB ydB ydB 1 [])::(0,o)::hp) 1 (.au e us.length (us.map aa))=GR (us.length,us.map aa):=by
  simp[pE]
 rw[h1,gR (cs:=[]) (pu:=ydB) (ex:=ydB) rfl (by simp) (by lia) (by lia) (by decide) (agz us),agA,yd];rfl
def ayx{l:List Int}(hd:dg l)(hn:nz l)(h:0<l.length):1000000000^(l.length-1)<=dv l:=QV hn hd (fun e=>by subst e;simp at h)
def asw{n top f:Nat}(hf:f=1000000000/(top+1))(ht0:0<top)(ht:top<1000000000)(h1:V<1000000000^(n-1)*(top+1))(hn:0<n):0<f/\f<1000000000/\V*f<1000000000^n:=by
 have h2:f*(top+1)<=1000000000:=by rw[hf];exact Nat.div_mul_le_self _ _
 have h3:0<f:=by rw[hf];exact ydm (by lia) (by lia)
 refine⟨h3,?_,?_⟩
 .have:=yW f (show 2<=top+1 by lia)
  lia
 .have e1:=xY h1 h3;have e2:=yW (1000000000^(n-1)) h2;rw[<-xh,show (n-1).succ=n by lia] at e2
  grind
def ayy(h:Has P L 289 A3)(nN:Has P L 293 DK)(z7:Has P L 299 DM)(cT:Has P L 300 nL)(Bf:Has P L 301 Cl)(hv:bB v a)(hw:bB w b)(ha:dg a)(hb:dg b)(na:nz a)(nb:nz b)(la:a.length<=8000000000)(lb:2<=b.length)(ec:ab P L 296 [v,w] (aa (eD (dv a) (dv b))))(hc:dv b<=dv a):
  ∃q r lq lr,ab P L 289 [v,w] (.av [q,r])/\bB q lq/\bB r lr/\dg lq/\nz lq/\dg lr/\nz lr/\dv lq=dv a/dv b/\dv lr=dv a%dv b:=by
 have fk:¬eD (dv a) (dv b)<0:=by unfold eD;rw[yq (by lia)];split<;>decide
 have aAZ:=ayx hb nb (by lia);have hba:b.length<=a.length:=by
  have:=lK ha
  have h1:1000000000^(b.length-1)<1000000000^a.length:=by lia
  have:=(uo (show 1<1000000000 by decide)).1 h1
  lia
 obtain⟨n,hn⟩:∃n,n=b.length:=⟨_,rfl⟩;have aDo:=jO hb (n-1);have oA:=last_pos hb nb (by lia);rw[<-hn] at oA;obtain⟨top,rh⟩:∃v:Nat,b.getD (n-1) 0=v:=⟨(b.getD (n-1) 0).toNat,by lia⟩;have aj2:=zT hw (i:=n-1) (by lia);rw[rh] at aDo oA aj2;have hbt:=sh (l:=b) (n-1);rw[show n-1+1=n by lia,yK (by lia),rh,wA] at hbt;have aA0:=lK (E1 hb (n-1));rw[yU,xo (by lia)] at aA0;obtain⟨f,hf⟩:∃f,f=1000000000/(top+1):=⟨_,rfl⟩;have⟨GH,hfB,hfV⟩:=asw (n:=n) (V:=dv b) hf (by lia) (by lia) (by rw[xH,yg];lia) (by lia)
 have hIf:bB (.au ydB 1 [aa f]) [(f:Int)]:=jn ydB [(f:Int)];have gf:dg [(f:Int)]:=mu.2 (by lia);have vf:dv [(f:Int)]=f:=by simp[dv]
 have⟨v',vs,e1,fO,hsv,Gy,N6,Bz⟩:=Zk nN cT hw hIf hb gf (by lia) (by simp);have⟨u',Ez,e2,kV,Gv,IY,nus,Ok⟩:=Zk nN cT hv hIf ha gf (by lia) (by simp);rw[vf] at Bz Ok;have Ao:0<dv b:=by have:=ycm (n:=b.length-1) (show 0<1000000000 by decide);lia
 have CQ:vs.length=n:=by
  have h1:vs.length<=n:=kI Gy N6 (by rw[Bz];exact hfV)
  have h2:dv b<=dv vs:=by rw[Bz];exact tH _ GH
  have h3:=lK Gy;have h4:1000000000^(n-1)<1000000000^vs.length:=by rw[hn];lia
  have:=(uo (show 1<1000000000 by decide)).1 h4
  lia
 have TW:Ez.length<=a.length+1:=by
  refine kI IY nus ?_;rw[Ok,xh];exact yaE (lK ha) hfB
 have aj3:0<Ez.length:=by
  rcases xi Ez.length with e | e
  .have h1:0<dv a*f:=vd (by lia) GH;rw[yE e] at Ok;simp only[dv] at Ok;lia
  .exact e
 have fJ:0<vs.getD (n-1) 0:=by
  have:=last_pos Gy N6 (by lia)
  rwa[CQ] at this
 obtain⟨m,hm⟩:∃m,m=a.length+1-n:=⟨_,rfl⟩;have cy:∀ct:Nat,zY ct 1 8 [.int .i64 0] (GR m) (GR m)=GR (.ay ct 0 m,.cells ydB ydB ydB 1 ((yj m (0:Int)).map aa)):=fun ct=>by
  rw[Fm (sz:=1) (by lia) (by lia) (by rfl) (by rfl),U1];rfl
 obtain⟨e,rfl⟩:∃e,u'=.au e Ez.length (Ez.map aa):=by
  rcases kV with ⟨rfl,h0⟩ | ⟨e,rfl⟩
  .rw [List.map_eq_nil_iff] at h0;rw[h0] at aj3;simp at aj3
  .exact ⟨e,by rw[y5]⟩
 have XT:∀us:List Int,us.length=a.length+1->dv us=dv a*f->dv (us.drop m)<dv vs:=fun us hl hd=>by
  have e1:=VX us m (by lia);have e2:=lK ha;have e3:=xY e2 GH;have e4:1000000000^a.length=1000000000^m*1000000000^(n-1):=by rw[<-xB];congr 1;lia
  rw[<-hd,e4,xf] at e3;have e5:1000000000^m*dv (us.drop m)<1000000000^m*(1000000000^(n-1)*f):=by lia
  refine yF (Nat.lt_of_mul_lt_mul_left e5) ?_;rw[Bz,hn];exact yT _ aAZ
 have kM:∃us qs,(us.length=a.length+1/\qs.length=m/\dg us/\dg qs/\dv us+dv qs*dv vs=dv a*f/\dv us<dv vs)/\
   ∃q1 r1 lr,bB q1 (eL qs)/\bB r1 lr/\dg lr/\nz lr/\dv lr=dv (us.take n)/f/\ab P L 289 [v,w] (.av [q1,r1]):=by
  unfold ab at ec e1 e2;unfold ab;rw[aB h];have MX:IntKind.wrap .i64 ((1000000000:Int).tdiv ((top+1:Nat):Int))=(f:Int):=by
   rw[xQ (by decide),show (1000000000:Int)/((top+1:Nat):Int)=((1000000000/(top+1):Nat):Int) from rfl,<-hf,wrap64 (by lia) (by lia)]
  simp only[go_sem,ya,yb,yv,yh,yg,A3,hv.ai,hw.len,hw.ai,ec,fk,show ¬(n:Int)=1 by lia,<-hn,show (n:Int)-1=((n-1:Nat):Int) by lia,wrapN (n:=n-1) (by lia),aj2,show ((top:Nat):Int)+1=((top+1:Nat):Int) from rfl,wrapN (n:=top+1) (by lia),eP _ _ _ (show ((top+1:Nat):Int)≠0 by lia),MX,e1,hsv,fO.len,CQ,e2,Gv,au0 (us:=Ez) (e:=e) (by lia)];generalize oU:D P L (.loop _ Li) _=q0;obtain⟨ex,st,rfl,tm,us,rfl,rfl,t8,t9,t10,t11,lu,gu,vu⟩:=bt oU (auZ (P:=P) (L:=L) (f:=(f:Int)) (n:=n) (A:=dv a*f) hv fO (by lia) (a.length+1-Ez.length)) ⟨Ez,by
   simp only[go_sem,ya,yb,aq,aD hv.pu,aD fO.pu]<;>rfl,by lia,IY,Ok⟩
  have em:((a.length+1:Nat):Int)-(n:Int)=(m:Int):=by lia
  have em1:(m:Int)-1=((m-1:Nat):Int):=by lia
  simp only[go_sem,ya,yb,aq,aD fO.pu,t8,t9,t10,t11,em,wrapN (n:=m) (by lia),cy,em1,wrapN (n:=m-1) (by lia)];generalize gN:D P L (.loop _ Lk) _=q1;obtain⟨ex,st,rfl,rz,EA,qs,rfl,rfl,t8,t10,t11,t12,lu1,Oa,gu1,gq1,aM,aG⟩:=bt gN (auY (P:=P) (L:=L) Bf (f:=(f:Int)) fO Gy CQ (by lia) (show n<a.length+1 by lia) (by lia) (by lia) fJ (U0:=dv a*f) m) ⟨m,us,yj m 0,by
   rw[show ((m-1:Nat):Int)=(m:Int)-1 by lia]
   simp only[go_sem,ya,yb,aq,aD fO.pu]<;>rfl,rfl,yz _,lu,by simp,gu,aej m,fun i _=>acK m i,by rw[aei,wo,yY,vu],XT us lu vu⟩
  have pU:∀(hp:Hp) tm (y:X),ah hp 1=GR (.cells ydB ydB ydC 1 (EA.map aa))->dn tm (a.length+1) (GR y)=GR n->gg hp (.sl 1) (.ay 1 0 (a.length+1)) tm none (GR y)=GR (.ay 1 0 n):=fun hp tm y h1 h2=>aev h1 h2 (by lia) (by lia)
  obtain⟨e',N8⟩:∃e',∀hp:Hp,mZ 0 n (GR (ydC,1,EA.map aa,hp))=GR (.au e' n ((EA.take n).map aa),hp):=by
   refine⟨ydC&&yP 0 1&&yu n (EA.map aa).length,fun hp=>?_⟩;simp only[mZ,yd,yg,slice,ye,<-List.map_take];rw[Nat.ble_eq_true_of_le (by simp;lia)]
   rfl
  have ltk:(EA.take n).length=n:=by rw[yU];lia
  have iI:=jn e' (EA.take n);rw[ltk] at iI;have⟨r0,f1,lA,aDp⟩:=DN cT iI (by lia);have⟨r1,lr,f2,fD,aI6,aA1,dr,nr,vr⟩:=ajS z7 cT lA (Db (E1 gu1 n)) (by have:=Pk (EA.take n);lia) GH hfB
  have N7:=jn ydB qs;rw[Oa] at N7;have⟨q1,f3,gN,aDq⟩:=DN cT N7 (by lia);rw[BO] at vr;unfold ab at f1 f2 f3;refine⟨EA,qs,⟨lu1,Oa,gu1,gq1,aM,aG⟩,q1,r1,lr,gN,fD,dr,nr,vr,?_⟩;have gD:jq 1 0 (AV.ay 0 0 1)=GR (.ptr 0 0):=dd 0 0 (show 0<1 by lia)
  simp only[go_sem,ya,yb,aq,t8,t10,t11,t12,pU,jN,N8,f1,aDp,lA.ai,gD,f2,aA1,fun hp=>jX (hp:=hp) (k:=m) (sz:=1) (cs:=qs.map aa) ydB (by simp[Oa]) (by decide),f3,aDq];rcases gN with ⟨rfl,_⟩ | ⟨_,rfl⟩<;>rcases fD with ⟨rfl,_⟩ | ⟨_,rfl⟩<;>rfl
 have⟨us,qs,⟨lu,lq,gu,gq,aM,aG⟩,q1,r1,lr,gN,fD,dr,nr,vr,e⟩:=kM;rw[Bz] at aM aG;have MX:dv qs=dv a/dv b:=by
  rw[<-Nat.mul_div_mul_right _ _ GH,<-aM,yay,xd,tB (vd Ao GH),xP aG,yY]
 have TY:dv us=(dv a%dv b)*f:=by
  rw[<-Nat.mul_mod_mul_right,<-aM,yay,xd (dv qs),yao,yQ aG]
 have sB:=VX us n (by lia);have fm:dv (us.drop n)=0:=by
  rcases xi (dv (us.drop n)) with h0 | h0
  .exact h0
  .have:=yW (1000000000^n) h0
   lia
 rw[fm,xF,yY] at sB;rw[<-sB,TY,uh _ GH] at vr;exact⟨q1,r1,_,lr,e,gN,fD,Db gq,Hc _,dr,nr,by rw[BO,MX],vr⟩
def aid(h:Has P L 289 A3)(nN:Has P L 293 DK)(sW:Has P L 296 A4)(z7:Has P L 299 DM)(cT:Has P L 300 nL)(Bf:Has P L 301 Cl)(hv:bB v a)(hw:bB w b)(ha:dg a)(hb:dg b)(na:nz a)(nb:nz b)(la:a.length<=8000000000)(lb:b.length<=8000000000)(h0:0<dv b):
  ∃q r lq lr,ab P L 289 [v,w] (.av [q,r])/\bB q lq/\bB r lr/\dg lq/\nz lq/\dg lr/\nz lr/\dv lq=dv a/dv b/\dv lr=dv a%dv b:=by
 by_cases hl:b.length<=1
 .exact aC9 h sW z7 cT hv hw ha hb na nb (by lia) hl h0
 have ec:=Zj sW hv hw ha hb na nb (by lia) (by lia);by_cases hc:dv a<dv b
 .unfold ab at ec;have fk:eD (dv a) (dv b)= -1:=by unfold eD;rw[yC hc]
  rw[fk] at ec;refine⟨.aj,v,[],a,?_,AG,hv,rfl,rfl,ha,na,?_,?_⟩
  .unfold ab;rw[aB h];simp only[go_sem,ya,A3,hv.ai,hw.ai,ec,show (-1:Int)<0 by decide];rcases hv with ⟨rfl,_⟩ | ⟨e,rfl⟩<;>rfl
  .rw [xP hc];rfl
  .rw [yQ hc]
 .exact ayy h nN z7 cT Bf hv hw ha hb na nb la (by lia) ec (by lia)
def aA2(h:Has P L 275 RP)(SI:Has P L 289 A3)(nN:Has P L 293 DK)(sW:Has P L 296 A4)(z7:Has P L 299 DM)(cT:Has P L 300 nL)(Bf:Has P L 301 Cl)(hv:bB v a)(hw:bB w b)(ha:dg a)(hb:dg b)(na:nz a)(nb:nz b)(la:a.length<=8000000000)(lb:b.length<=8000000000):
  ∃r l,ab P L 275 [v,w] r/\bB r l/\dg l/\nz l/\dv l=vJ (dv a) (dv b):=by
 have key:=iX P L [0,1] Lg
  (fun k st=>∃x y lx ly,st=⟨[(0,x),(1,y)],[],0,0⟩/\bB x lx/\bB y ly/\dg lx/\nz lx/\dg ly/\nz ly/\lx.length<=8000000000/\ly.length<=8000000000/\dv ly=k/\vJ (dv lx) (dv ly)=vJ (dv a) (dv b))
  (fun ex st=>∃tm ct,st=⟨tm,[],ct,0⟩/\ex=.exit 0/\∃x lx,ak tm 0=x/\bB x lx/\dg lx/\nz lx/\dv lx=vJ (dv a) (dv b)) ?_
 .unfold ab;rw[aB h];simp only[go_sem,RP];generalize hq:D P L (.loop _ Lg) _=q;obtain⟨ex,st,rfl,tm,ct,rfl,rfl,x,lx,h2,hx,dx,nx,vx⟩:=bt hq (key (dv b)) ⟨v,w,a,b,by simp only[go_sem,ya,aq,aD hv.pu,aD hw.pu]<;>rfl,hv,hw,ha,na,hb,nb,la,lb,rfl,rfl⟩
  refine⟨x,lx,?_,hx,dx,nx,vx⟩;simp only[go_sem,aq,h2,hx.dC,aD hx.pu]
 .rintro k st ⟨x,y,lx,ly,rfl,hx,hy,dx,nx,dy,ny,llx,lly,rfl,hg⟩;by_cases h0:ly=[]
  .right
   subst h0;simp only[go_sem,ya,Lg,hy.len,yR,show ¬(0:Int)<((0:Nat):Int) by lia];refine⟨_,_,rfl,by simp,_,_,rfl,rfl,x,lx,rfl,hx,dx,nx,?_⟩;rw[<-hg];simp[dv]
  .left
   have hp:0<dv ly:=by
    rcases xi (dv ly) with e | e
    .exact absurd (Wk ny dy e) h0
    .exact e
   have hl:0<ly.length:=tz.2 h0;have⟨q,r,lq,lr,e1,hq,hr,dq,nq,dr,nr,vq,vr⟩:=aid SI nN sW z7 cT Bf hx hy dx dy nx ny llx lly hp;have aG:dv lr<dv ly:=by rw[vr];exact xq _ hp
   have hB:=lK dy;simp only[go_sem,ya,Lg,hx.ai,hy.len,hy.ai,show (0:Int)<ly.length by lia,e1,hq.bN,hr.bN];refine⟨_,dv lr,rfl,aG,y,r,ly,lr,?_,hy,hr,dy,ny,dr,nr,by lia,y7 (kI dr nr (vH aG hB)) lly,rfl,?_⟩
   .simp only [go_sem,ya,aq,aD hy.pu,aD hr.pu]<;>rfl
   .rw [<-hg,vr,yak (dv ly),<-Nat.gcd_rec,yak]
end
def ayz(Co:Has P L 290 Ie){neg:Bool}(hN:(aC N).length<=180000000000):
  cG P L [0,2,3,4] BY (fun k s=>∃(i m:Nat) (out:List Int),m=k/\out.length=i/\dg out/\dv out+1000000000^i*m=N/\(aC m).length+9*i<=180000000000/\
    ((i=0/\s=⟨[(0,.str (aC m)),(2,.ptr 0 0),(3,.bool neg),(4,.aj)],[(0,.cells ydB ydB ydB 2 [.bool ydC,.aj])],1,0⟩)\/
    (0<i/\s=⟨[(0,.str (aC m)),(2,.ptr 0 0),(3,.bool neg),(4,.ay 1 0 i)],[(1,.cells ydB ydB ydC 1 (out.map aa)),(0,.cells ydB ydB ydB 2 [.bool ydC,.aj])],2,0⟩))) (fun ex s'=>∃tm i m out,ex=.exit 0/\m<1000000000/\out.length=i/\dg out/\dv out+1000000000^i*m=N/\i<20000000000/\ak tm 0=.str (aC m)/\ak tm 2=.ptr 0 0/\ak tm 3=.bool neg/\
    ((i=0/\ak tm 4=.aj/\s'=⟨tm,[(0,.cells ydB ydB ydB 2 [.bool ydC,.aj])],1,0⟩)\/(0<i/\ak tm 4=.ay 1 0 i/\s'=⟨tm,[(1,.cells ydB ydB ydC 1 (out.map aa)),(0,.cells ydB ydB ydB 2 [.bool ydC,.aj])],2,0⟩))):=by
 apply cI;rintro k s ⟨i,m,out,rfl,hlen,hd,aM,hl,hs⟩;by_cases hm:1000000000<=m
 .left
  obtain⟨q,hq⟩:∃q,q=m/1000000000:=⟨_,rfl⟩;obtain⟨r,hr⟩:∃r,r=m%1000000000:=⟨_,rfl⟩;have pU:=ar5 hm;rw[<-hq,<-hr] at pU;have rA:=VT 9 r;have hqp:=BP q;have hlm:(aC m).length=(aC q).length+9:=by rw[pU,yO,rA]
  have c1:lS (aC m) (GR (aC q).length) (GR (aC m).length)=GR (.str (kC 9 r)):=by
   rw[pH (by lia) (yz _),xR,pU,yar]
  have c2:lS (aC m) (GR 0) (GR (aC q).length)=GR (.str (aC q)):=by
   rw[pH (by lia) (by lia),ye,pU,tY]
  have e1:=MS Co (s:=kC 9 r) (v:=r) (by lia) (by rw[aer 9 r 0 (by lia)];simp)
  unfold ab at e1;have z6:dg (out++[(r:Int)]):=jl.2 ⟨hd,mu.2 (by lia)⟩;have Q6:dv (out++[(r:Int)])+1000000000^(i+1)*q=N:=by
   rw[n7,hlen,<-aM,xh];have e:=uz m 1000000000;rw[<-hr,<-hq] at e;rw[<-e];simp only[dv,wA,xF,yY,xH,xf]
   lia
  have Ro:((aC m).length:Int)-9=((aC q).length:Int):=by lia
  rcases hs with ⟨h0,rfl⟩ | ⟨h0,rfl⟩
  .subst h0;have kN:out=[]:=yE hlen;subst kN
   simp only[go_sem,ya,yb,xy,yv,yh,yg,BY,show (9:Int)<((aC m).length:Int) by lia,Ro,wrapN (n:=(aC q).length) (by lia),mR,oc,jN,c1,c2,e1,jm];refine⟨_,q,rfl,by lia,1,q,[]++[(r:Int)],rfl,rfl,z6,Q6,by lia,.inr ⟨by lia,?_⟩⟩;rfl
  .simp only [go_sem,ya,yb,yh,yg,BY,show (9:Int)<((aC m).length:Int) by lia,Ro,wrapN (n:=(aC q).length) (by lia),mR,oc,jN,c1,e1]
   rw[gR (ex:=ydC) (pu:=ydB) (cs:=out.map aa) rfl (by rw[y5,hlen,yg]) (by lia) (by lia) (by decide) rfl]
   simp only[go_sem,ya,yb,mR,oc,jN,Ro,wrapN (n:=(aC q).length) (by lia),c2];refine⟨_,q,rfl,by lia,i+1,q,out++[(r:Int)],rfl,by simp[hlen],z6,Q6,by lia,.inr ⟨by lia,?_⟩⟩;rw[xu];simp only[go_sem,ya,yb,aq]<;>rfl
 .right
  have h9:(aC m).length<=9:=zI (k:=8) (by lia);have hp0:=BP m;rcases hs with ⟨h0,rfl⟩ | ⟨h0,rfl⟩
  .simp only [go_sem,BY,show ¬(9:Int)<((aC m).length:Int) by lia];exact⟨_,_,rfl,by simp,_,i,m,out,rfl,by lia,hlen,hd,aM,by lia,rfl,rfl,rfl,.inl ⟨h0,rfl,rfl⟩⟩
  .simp only [go_sem,BY,show ¬(9:Int)<((aC m).length:Int) by lia];exact⟨_,_,rfl,by simp,_,i,m,out,rfl,by lia,hlen,hd,aM,by lia,rfl,rfl,rfl,.inr ⟨h0,rfl,rfl⟩⟩
def Zm(h:Rb P L){n:Int}(hn:(aC n.natAbs).length<=180000000000):∃r,ab P L 288 [.str (bh n)] r/\kE r n:=by
 obtain⟨u,hu⟩:∃u,u=aC n.natAbs:=⟨_,rfl⟩;have⟨b,t,hb,jh,ns⟩:=G2 n.natAbs;have hs:bh n=(if n<0 then [45] else [])++u:=by rw[hu,qF]
 have Bv:0<u.length:=by rw[hu];exact BP _
 have Am:u[0]=b:=by
  have:u=b::t:=by rw[hu,hb]
  simp[this]
 have key:∀(s:St),bH [0,2,3,4] s=⟨[(0,.str u),(2,.ptr 0 0),(3,.bool (decide (n<0))),(4,.aj)],[(0,.cells ydB ydB ydB 2 [.bool ydC,.aj])],1,0⟩->
   ∃ex s',D P L (.loop [0,2,3,4] BY) s=GR (ex,s')/\∃tm i m out,ex=.exit 0/\m<1000000000/\out.length=i/\dg out/\dv out+1000000000^i*m=n.natAbs/\i<20000000000/\ak tm 0=.str (aC m)/\ak tm 2=.ptr 0 0/\ak tm 3=.bool (decide (n<0))/\
    ((i=0/\ak tm 4=.aj/\s'=⟨tm,[(0,.cells ydB ydB ydB 2 [.bool ydC,.aj])],1,0⟩)\/(0<i/\ak tm 4=.ay 1 0 i/\s'=⟨tm,[(1,.cells ydB ydB ydC 1 (out.map aa)),(0,.cells ydB ydB ydB 2 [.bool ydC,.aj])],2,0⟩)):=fun s hc=>
  ayz (P:=P) (L:=L) h.Co (neg:=decide (n<0)) hn n.natAbs s ⟨0,n.natAbs,[],rfl,rfl,rfl,by simp[dv],by lia,.inl ⟨rfl,by rw[hc,hu]⟩⟩
 have fin:∀(i m:Nat) (out:List Int),m<1000000000->out.length=i->dg out->dv out+1000000000^i*m=n.natAbs->i<20000000000->∃w l,bZ P L (D P L) 294 [.bool (decide (n<0)),.au ydC (i+1) ((out++[(m:Int)]).map aa)]=GR (.agg [.bool (decide (n<0)),w])/\bB w l/\dg l/\nz l/\dv l=n.natAbs:=fun i m out h1 h2 h3 h4 h5=>by
  have hv:=jn ydC (out++[(m:Int)]);have hd:dg (out++[(m:Int)]):=jl.2 ⟨h3,mu.2 (by lia)⟩;have aM:dv (out++[(m:Int)])=n.natAbs:=by rw[n7,h2];simp[dv];exact h4
  have⟨r,e,hr⟩:=ri h.jx h.cT (decide (n<0)) hv hd (by simp;lia)
  have zu:cm (decide (n<0)) (dv (out++[(m:Int)]))=n:=by
   rw[aM];unfold cm;by_cases h0:n<0
   .simp only [h0,yp,xN];lia
   .simp only [h0,yt,yD,xv];lia
  rw[zu] at hr;obtain⟨w,l,rfl,hw,gM,lX,de⟩:=hr;simp only[yO,List.length_singleton,h2] at e;exact⟨w,l,e,hw,gM,lX,de⟩
 unfold ab;rw[hs];by_cases h0:n<0
 .rw [yC h0,aB h.ajY];have ma:lS (45::u) (GR 1) (GR (u.length+1))=GR (.str u):=by rw[pH (s:=45::u) (l:=1) (h:=u.length+1) (by lia) (by simp)];simp
  simp only[h0,yp] at key fin ⊢;simp only[go_sem,ya,yb,RS,aT,show (0:Int)<((u.length+1:Nat):Int) by lia,yI,yN,Im,yp,mR,oc,jN,ma];generalize hq:D P L (.loop _ BY) _=q;obtain⟨ex,s,rfl,tm,i,m,out,rfl,hm,hlen,hd,aM,hi,t0,t2,t3,FG⟩:=bt hq key (by simp only[go_sem,ya,yb,aq]<;>rfl)
  have e1:=MS h.Co (s:=aC m) (v:=m) (by have:=zI (k:=8) (n:=m) (by lia);lia) (BM m)
  have b6:i<20000000000:=hi;have⟨w,l,e2,hw,gM,lX,de⟩:=fin i m out hm hlen hd aM b6;refine⟨_,?_,w,l,rfl,hw,gM,lX,de⟩;unfold ab at e1;rcases FG with ⟨eV,t4,rfl⟩ | ⟨eV,t4,rfl⟩
  .subst eV;have kN:out=[]:=yE hlen;subst kN;have iI:∀hp:Hp,mZ 0 1 (GR (ydC,1,[AV.int .i64 (m:Int)],hp))=GR (.au ydC 1 [AV.int .i64 (m:Int)],hp):=fun hp=>rfl
   simp only[yN,xb,wO,yd] at e2;simp only[go_sem,ya,yb,xy,yv,yh,yg,aq,t0,t2,t3,t4,e1,jm,iI,e2,bz,hw.pu,hw.one,gh];rcases hw with ⟨rfl,_⟩ | ⟨e,rfl⟩<;>simp only[h0,yp]<;>rfl
  .simp only [go_sem,ya,yb,yh,yg,aq,t0,t2,t3,t4,e1]
   rw[gR (ex:=ydC) (pu:=ydB) (cs:=out.map aa) rfl (by rw[y5,hlen,yg]) (by lia) (by lia) (by decide) rfl];have iI:∀hp:Hp,mZ 0 (i+1) (GR (ydC,1,out.map aa++[AV.int .i64 (m:Int)],hp))=GR (.au ydC (i+1) (out.map aa++[AV.int .i64 (m:Int)]),hp):=fun hp=>jX ydC (by simp[hlen]) (by decide)
   simp only[xu,xb,wO] at e2;simp only[go_sem,ya,yb,iI,e2,bz,hw.pu,hw.one,gh,uX];rcases hw with ⟨rfl,_⟩ | ⟨e,rfl⟩<;>simp only[h0,yp]<;>rfl
 .rw [yq h0,aB h.ajY,yN];simp only[h0,yt] at key fin ⊢;simp only[go_sem,ya,yb,RS,aT,show (0:Int)<(u.length:Int) by lia,Dj Bv,Am,show ¬((b:Nat):Int)=45 by lia];generalize hq:D P L (.loop _ BY) _=q;obtain⟨ex,s,rfl,tm,i,m,out,rfl,hm,hlen,hd,aM,hi,t0,t2,t3,FG⟩:=bt hq key (by simp only[go_sem,ya,yb,aq]<;>rfl)
  have e1:=MS h.Co (s:=aC m) (v:=m) (by have:=zI (k:=8) (n:=m) (by lia);lia) (BM m)
  have b6:i<20000000000:=hi;have⟨w,l,e2,hw,gM,lX,de⟩:=fin i m out hm hlen hd aM b6;refine⟨_,?_,w,l,rfl,hw,gM,lX,de⟩;rcases FG with ⟨eV,t4,rfl⟩ | ⟨eV,t4,rfl⟩
  .subst eV;have kN:out=[]:=yE hlen;subst kN;have iI:∀hp:Hp,mZ 0 1 (GR (ydC,1,[AV.int .i64 (m:Int)],hp))=GR (.au ydC 1 [AV.int .i64 (m:Int)],hp):=fun hp=>rfl
   simp only[yN,xb,wO,yd] at e2;simp only[go_sem,ya,yb,xy,yv,yh,yg,aq,t0,t2,t3,t4,e1,jm,iI,e2,bz,hw.pu,hw.one,gh];rcases hw with ⟨rfl,_⟩ | ⟨e,rfl⟩<;>simp only[h0,yt]<;>rfl
  .simp only [go_sem,ya,yb,yh,yg,aq,t0,t2,t3,t4,e1]
   rw[gR (ex:=ydC) (pu:=ydB) (cs:=out.map aa) rfl (by rw[y5,hlen,yg]) (by lia) (by lia) (by decide) rfl];have iI:∀hp:Hp,mZ 0 (i+1) (GR (ydC,1,out.map aa++[AV.int .i64 (m:Int)],hp))=GR (.au ydC (i+1) (out.map aa++[AV.int .i64 (m:Int)]),hp):=fun hp=>jX ydC (by simp[hlen]) (by decide)
   simp only[xu,xb,wO] at e2;simp only[go_sem,ya,yb,iI,e2,bz,hw.pu,hw.one,gh,uX];rcases hw with ⟨rfl,_⟩ | ⟨e,rfl⟩<;>simp only[h0,yt]<;>rfl
def OV(n:Int)(r:List Nat):cW (bh n++r)=(bh n).length+cW r:=by
 rw[<-qF]
 split
 .simp only [yI,yN,cW,yH];rw[yq (by decide),Ka r (C8 _)]
  lia
 .rw [yN];exact Ka r (C8 _)
def aeI:∀{a b:List Nat},dZ a b=ydB->a=b
 | [],[],_=>rfl
 | [],_::_,h=>by simp[dZ] at h
 | _::_,[],h=>by simp[dZ] at h
 | x::a,y::b,h=>by
  simp only[dZ,yf] at h;rw[yi h.1,aeI h.2]
def aie{n:Int}(h:n≠0):dZ (TT n d) [48]=ydC:=by
 cases hb:dZ (TT n d) [48] with
 | false=>rfl
 | true=>
  have e:=aeI hb;unfold TT at e;by_cases h0:n<0
  .rw [rZ h0] at e;simp at e
  .obtain ⟨m,rfl⟩:∃m:Nat,n=m:=⟨n.toNat,by lia⟩;rw[pC] at e;have⟨b,r,aS,_,_⟩:=G2 m;rw[aS] at e;simp only[yI,uA,List.append_eq_nil_iff] at e;have hv:=BM m;rw[aS,e.1,e.2.1] at hv
   have:(GR 0:Option Nat)=GR m:=hv
   grind
def ayA(h:Rb P L):∃r,ab P L 281 [aa 1] r/\kE r 1:=by
 have⟨r,e,hr⟩:=ri h.jx h.cT ydC (jn ydC [(1:Int)]) (by decide) (by decide);obtain⟨w,l,rfl,hw,hd,hz,hv⟩:=hr;refine⟨_,?_,w,l,rfl,hw,hd,hz,hv⟩;simp only[xb,wO,yH,yR,yd] at e;have iI:∀hp:Hp,mZ 0 1 (GR (ydC,1,[AV.int .i64 1],hp))=GR (.au ydC 1 [AV.int .i64 1],hp):=fun hp=>rfl
 unfold ab at e ⊢;rw[aB h.ajX];simp only[go_sem,ya,yb,xy,yv,yh,yg,RR,aT,Int.reduceLT,yt,HJ,aq,AM,Int.reduceEq,yM,yL,yp,fM _ _ _ (show (1000000000:Int)≠0 by decide),eP _ _ _ (show (1000000000:Int)≠0 by decide),show Int.tmod 1 1000000000=1 from rfl,show Int.tdiv 1 1000000000=0 from rfl,show IntKind.wrap .i64 0=0 from rfl,jm,iI,e,hw.pu,hw.one,bz,gh];rcases hw with ⟨rfl,_⟩ | ⟨e,rfl⟩<;>rfl
def aDr(h:Rb P L){n:Int}(hn:(aC n.natAbs).length<=144000000000)(hd:(aC d).length<=144000000000):
  ∃x y,ab P L 274 [.str (TT n d)] (.av [x,y])/\kE x n/\kE y d:=by
 have⟨x,e1,hx⟩:=Zm h (n:=n) (by lia);have hli:(bh n).length<=(aC n.natAbs).length+1:=by rw[<-qF];split<;>simp
 by_cases h1:d=1
 .subst h1;have⟨y,e2,hy⟩:=ayA h;have hT:TT n 1=bh n:=by unfold TT;simp
  have hs:=OV n [];rw[wZ] at hs;have e3:=Sq h.Io (s:=bh n) (by lia);rw[hs] at e3;refine⟨x,y,?_,hx,hy⟩;obtain⟨xw,xl,rfl,fb,_,_,_⟩:=hx;obtain⟨yw,yl,rfl,gO,_,_,_⟩:=hy;rw[hT];unfold ab at e1 e2 e3 ⊢;rw[aB h.ajW];simp only[go_sem,ya,yb,RO,aT,e3,cW,yY,yp,e1,e2,bz,fb.pu,fb.one,gO.pu,gO.one,gh];rcases fb with ⟨rfl,_⟩ | ⟨e,rfl⟩<;>rcases gO with ⟨rfl,_⟩ | ⟨e',rfl⟩<;>rfl
 .have ⟨y,e2,hy⟩:=Zm h (n:=(d:Int)) (by simp;lia)
  rw[pC] at e2;obtain⟨s,N9⟩:∃s,s=TT n d:=⟨_,rfl⟩;have hT:s=bh n++47::aC d:=by rw[N9];unfold TT;rw[yq h1]
  have hs:cW s=(bh n).length:=by rw[hT,OV];rfl
  have hlen:s.length=(bh n).length+(aC d).length+1:=by rw[hT];simp;lia
  have e3:=Sq h.Io (s:=s) (by lia);rw[hs] at e3;have c1:lS s (GR 0) (GR (bh n).length)=GR (.str (bh n)):=by
   rw[pH (by lia) (by lia),ye,hT,tY]
  have c2:lS s (GR ((bh n).length+1)) (GR s.length)=GR (.str (aC d)):=by
   rw[pH (by lia) (yz _),xR,hT,show bh n++47::aC d=(bh n++[47])++aC d by simp,show (bh n).length+1=(bh n++[47]).length by simp,yar]
  refine⟨x,y,?_,hx,hy⟩;obtain⟨xw,xl,rfl,fb,_,_,_⟩:=hx;obtain⟨yw,yl,rfl,gO,_,_,_⟩:=hy;rw[<-N9];unfold ab at e1 e2 e3 ⊢;rw[aB h.ajW]
  simp only[go_sem,ya,yb,RO,aT,e3,show ¬((bh n).length:Int)=(s.length:Int) by lia,mR,oc,jN,c1,wrapN (n:=(bh n).length+1) (by lia),show ((bh n).length:Int)+1=(((bh n).length+1:Nat):Int) from rfl,c2,e1,e2,bz,fb.pu,fb.one,gO.pu,gO.one,gh];rcases fb with ⟨rfl,_⟩ | ⟨e,rfl⟩<;>rcases gO with ⟨rfl,_⟩ | ⟨e',rfl⟩<;>rfl
section
variable {d n:Int}{a b:List Int}
def Qw{d:Nat}(h:n<0):TT n d=45::TT (-n) d:=by
 have e:bh (-n)=aC n.natAbs:=by
  rw[<-qF,yq (show ¬-n<0 by lia),yN,show (-n).natAbs=n.natAbs by lia]
 unfold TT;rw[rZ h,e];rfl
def au1{d:Nat}(h:¬n<0):∃b u,TT n d=b::u/\48<=b:=by
 have⟨b,r,hb,h1,_⟩:=G2 n.natAbs;refine⟨b,r++(if d=1 then [] else 47::aC d),?_,h1⟩;unfold TT;rw[<-qF,yq h,yN,hb];rfl
def Fq(a b:AV)(r:List AV):gY 2 ydB (a::b::r)=GR (.agg [a,b]):=rfl
def au2(k:Nat):2^k<=1000000000^k:=tD (by decide) k
def Bd.r{k:Nat}{z:Int}(h:Bd k z):z.natAbs<1000000000^k:=yF h (au2 k)
def L9(r:Rat):RT r=TT r.num r.den:=rfl
def afM(hd:0<d):RT (wN n d)=sR n d:=by
 have⟨h1,h2⟩:=Ux (a:=n) hd;rw[auE hd,L9,h1]
 congr 1
 exact yaF (show ((wN n d).den:Int)=((dX n d).toNat:Int) by rw[h2];have:=Kx (a:=n) hd;unfold dX at this ⊢;lia)
structure Rm(P:aE)(L:Lib):Prop extends Rb P L where
 aI7:Has P L 263 aiT
 aI8:Has P L 273 aiU
 aI9:Has P L 285 aiV
 aJa:Has P L 287 aiW
 Bf:Has P L 301 Cl
structure Rp(P:aE)(L:Lib):Prop extends Ras P L,Rm P L
structure Rn(P:aE)(L:Lib):Prop extends Ra P L,Rp P L
structure Rx0(P:aE)(L:Lib):Prop extends Rn P L where
 Zn:Has P L 266 RN
 Cu:Has P L 283 FV
def XW(h:Rm P L){w:AV}(hv:bB v a)(hw:bB w b)(ha:dg a)(hb:dg b)(na:nz a)(nb:nz b)(la:a.length<=8000000000)(lb:b.length<=8000000000)(h0:0<dv b):
  ∃q r lq lr,ab P L 289 [v,w] (.av [q,r])/\bB q lq/\bB r lr/\dg lq/\nz lq/\dg lr/\nz lr/\dv lq=dv a/dv b/\dv lr=dv a%dv b:=
 aid h.SI h.nN h.sW h.z7 h.cT h.Bf hv hw ha hb na nb la lb h0
def ayB(h:Rm P L){x y:AV}(hK:K<=8000000000)(hx:bB x a)(ha:dg a)(na:nz a)(va:dv a=n.natAbs)(hy:bB y b)(hb:dg b)(nb:nz b)(vb:dv b=d.natAbs)(kn:Bd K n)(kd:Bd K d)(hd:0<d)(t2:ak tm 2=.ptr 0 0)(t3:ak tm 3=.ptr 1 0):
  fS [.t 4] (D P L (aI (aI qY.body)) ⟨tm,[(1,.cells ydB ydB ydB 2 [.bool (decide (d<0)),y]),(0,.cells ydB ydB ydB 2 [.bool (decide (n<0)),x])],2,0⟩)=GR (.str (RT (wN n d))):=by
 rw[afM hd];have la:=y7 (kI ha na (by rw[va];exact kn.r)) hK
 have lb:=y7 (kI hb nb (by rw[vb];exact kd.r)) hK
 have⟨g,lg,e1,hg,dg',ng,vg⟩:=aA2 h.aDh h.SI h.nN h.sW h.z7 h.cT h.Bf hx hy ha hb na nb la lb;rw[va,vb,show vJ n.natAbs d.natAbs=vC n d from rfl] at vg;have Tt:=P4 (a:=n) hd;have aDs:vC n d<=d.natAbs:=Int.gcd_le_natAbs_right n (by lia);have lg1:lg.length<=8000000000:=y7 (kI dg' ng (by rw[vg];exact xL aDs kd.r)) hK
 have⟨p,p',lp,lp',e2,hp,ap,dp,np,dp',np',vp,vp'⟩:=XW h hx hg ha dg' na ng la lg1 (by lia);have⟨q,q',lq,lq',e3,hq,bR,dq,nq,dq',nq',vq,vq'⟩:=XW h hy hg hb dg' nb ng lb lg1 (by lia);rw[va,vg] at vp;rw[vb,vg] at vq;have hrn:(dR n d).natAbs=n.natAbs/vC n d:=by unfold dR;rw[tx (Int.gcd_dvd_left n d)];rfl
 have ji:(dX n d).natAbs=d.natAbs/vC n d:=by unfold dX;rw[tx (Int.gcd_dvd_right n d)];rfl
 have hdp:=Kx (a:=n) hd;rw[<-hrn] at vp;rw[<-ji] at vq;have aJb:=axW n d;have zu:cm (decide (n<0)) (dv lp)=dR n d:=by
  rw[vp];unfold cm;by_cases h0:n<0
  .have:¬0<=dR n d:=fun h1=>by have:=yaa (tR Tt) h1;lia
   simp only[h0,yp,xN];lia
  .have:¬dR n d<0:=fun h1=>by have:=Int.mul_neg_of_pos_of_neg Tt h1;lia
   simp only[h0,yt,yD,xv];lia
 have kn':Bd K (dR n d):=kn.le (aep n d);have ZM:Bd K (dX n d):=kd.le (aeq n d);have lp1:lp.length<=8000000000:=y7 (kI dp np (by rw[vp];exact kn'.r)) hK
 have Oa:lq.length<=8000000000:=y7 (kI dq nq (by rw[vq];exact ZM.r)) hK
 have⟨s,e4,hs⟩:=ri h.jx h.cT (decide (n<0)) hp dp (by lia);rw[zu] at hs;have⟨e5,l5⟩:=SG (K:=K) h.SH h.q9 (by lia) hs kn'.r;have⟨u,e6,hu⟩:=ri h.jx h.cT ydC hq dq (by lia);have CK:cm ydC (dv lq)=dX n d:=by rw[vq];unfold cm;simp only[yD,xv];lia
 rw[CK] at hu;have⟨e7,l7⟩:=SG (K:=K) h.SH h.q9 (by lia) hu ZM.r;obtain⟨sw,sl,rfl,ib,_,_,_⟩:=hs;obtain⟨uw,ul,rfl,huw,_,_,_⟩:=hu;have aIR:0<lq.length:=by
  rcases xi lq.length with e | e
  .rw [yE e] at vq;simp[dv] at vq;lia
  .exact e
 by_cases Ub:lq.length=1
 .obtain ⟨z,rfl⟩:∃z,lq=[z]:=by
   cases lq with
   | nil=>simp at Ub
   | cons z r=>cases r with
    | nil=>exact⟨z,rfl⟩
    | cons y r=>simp at Ub
  have hzd:z=dX n d:=by simp[dv] at vq;lia
  have e8:=hq.bk (i:=0) (by simp);simp only[vB] at e8;by_cases h1:dX n d=1
  .have hT:sR n d=bh (dR n d):=by unfold sR;rw[yC h1]
   rw[hT];simp only[go_sem,ya,qY,aI,t2,t3,hx.ai,hy.ai,aP,yd,dt,show ¬d<0 by lia,yt,e1,hg.ai,hg.shut,e2,hp.ai,hp.bN,ap.bN,e3,hq.len,hq.bN,bR.bN,e4,ib.ai,bS,bz,e5,yH,yR,show ((1:Nat):Int)=(1:Int) from rfl,yp,e8,hzd,h1]
  .have hT:sR n d=(bh (dR n d)++[47])++bh (dX n d):=by unfold sR;rw[yq h1]
   rw[hT]
   simp only[go_sem,ya,qY,aI,t2,t3,hx.ai,hy.ai,aP,yd,dt,show ¬d<0 by lia,yt,e1,hg.ai,hg.shut,e2,hp.ai,hp.bN,ap.bN,e3,hq.len,hq.ai,hq.bN,bR.bN,e4,ib.ai,bS,bz,e5,yH,yR,show ((1:Nat):Int)=(1:Int) from rfl,yp,e8,hzd,h1,iV (a:=bh (dR n d)) (b:=[47]) (by simp;lia),e6,huw.ai,e7,iV (a:=bh (dR n d)++[47]) (b:=bh (dX n d)) (by simp;lia)]
 .have h1:¬dX n d=1:=fun h1=>Ub (by
   have h2:lq.length<=1:=afL dq nq (by rw[vq,h1];decide)
   lia)
  have hT:sR n d=(bh (dR n d)++[47])++bh (dX n d):=by unfold sR;rw[yq h1]
  rw[hT]
  simp only[go_sem,ya,qY,aI,t2,t3,hx.ai,hy.ai,aP,yd,dt,show ¬d<0 by lia,yt,e1,hg.ai,hg.shut,e2,hp.ai,hp.bN,ap.bN,e3,hq.len,hq.ai,hq.bN,bR.bN,e4,ib.ai,bS,bz,e5,show ¬(lq.length:Int)=1 by lia,iV (a:=bh (dR n d)) (b:=[47]) (by simp;lia),e6,huw.ai,e7,iV (a:=bh (dR n d)++[47]) (b:=bh (dX n d)) (by simp;lia)]
def anY(n d:Int):wN (-n) (-d)=wN n d:=by rw[Rat.divInt_neg',yaJ]
def XX(h:Rm P L){w:AV}(hK:K<=8000000000)(hv:kE v n)(hw:kE w d)(kn:Bd K n)(kd:Bd K d)(hd:d≠0):ab P L 280 [v,w] (.str (RT (wN n d))):=by
 have fin:∀{x y:AV} {a b:List Int} {n' d':Int},bB x a->dg a->nz a->dv a=n'.natAbs->bB y b->dg b->nz b->dv b=d'.natAbs->Bd K n'->Bd K d'->0<d'->wN n' d'=wN n d->∀tm,ak tm 2=.ptr 0 0->ak tm 3=.ptr 1 0->
   D P L (.seq (bD qY.body) (bD (aI qY.body))) ⟨[(0,v),(1,w)],[],0,0⟩=GR (.normal,⟨tm,[(1,.cells ydB ydB ydB 2 [.bool (decide (d'<0)),y]),(0,.cells ydB ydB ydB 2 [.bool (decide (n'<0)),x])],2,0⟩)->ab P L 280 [v,w] (.str (RT (wN n d))):=fun {x y a b n' d'} hx ha na va hy hb nb vb kn kd hd hq tm t2 t3 e=>by
  unfold ab;rw[aB h.aDj];show fS [.t 4] (D P L (.seq (bD qY.body) (.seq (bD (aI qY.body)) (aI (aI qY.body)))) ⟨[(0,v),(1,w)],[],0,0⟩)=_
  rw[Ky,e,ml,<-hq];exact ayB h hK hx ha na va hy hb nb vb kn kd hd t2 t3
 have fO:=hv;have GA:=hw;obtain⟨x,a,rfl,hx,ha,na,va⟩:=hv;obtain⟨y,b,rfl,hy,hb,nb,vb⟩:=hw;by_cases h0:d<0
 .have ⟨r,e1,hr⟩:=ajw (K:=K) h.ajZ h.jx h.cT (by lia) fO kn.r;have⟨s,e2,hs⟩:=ajw (K:=K) h.ajZ h.jx h.cT (by lia) GA kd.r;obtain⟨x',a',rfl,BB,Gk,na',va'⟩:=hr;obtain⟨y',b',rfl,GG,aS,nb',vb'⟩:=hs;simp only[h0,yp] at e2
  refine fin BB Gk na' va' GG aS nb' vb' kn.neg kd.neg (by lia) (anY n d) _ ?_ ?_ (by
   simp only[go_sem,ya,yb,qY,bD,aI,aT,hx.pu,hx.ai,hx.one,hy.pu,hy.ai,hy.one,BB.pu,BB.one,GG.pu,GG.one,aP,yd,h0,yp,Fq,bS,e1,e2,bz,gh]<;>rfl)<;>simp only[go_sem,ya]
 .refine fin hx ha na va hy hb nb vb kn kd (by lia) rfl _ ?_ ?_ (by simp only[go_sem,ya,yb,qY,bD,aI,aT,hx.pu,hx.one,hy.pu,hy.one,aP,yd,h0,yt]<;>rfl)<;>simp only[go_sem,ya]
end
section
variable {n:Int}{K:Nat}{a:Rat}
def aA3(z:Int)(m:Nat)(h:z.natAbs=m):(z.tdiv 1000000000).natAbs=m/1000000000/\(if z.tmod 1000000000<0 then 0-z.tmod 1000000000 else z.tmod 1000000000)=((m%1000000000:Nat):Int)/\(z<0->z.tdiv 1000000000<=0)/\(0<=z->0<=z.tdiv 1000000000):=by
 rcases Int.lt_or_le z 0 with h0 | h0
 .obtain ⟨n,rfl⟩:∃n:Nat,z= -(n:Int):=⟨z.natAbs,by lia⟩;rw[Int.neg_tdiv,Int.neg_tmod,xQ (by lia),xK (by lia)]
  grind
 .grind
def ayC{neg:Bool}(hN:N<=9223372036854775808):
  cG P L [0,2,3,4] AM (fun k s=>∃(i:Nat) (z:Int) (out:List Int),z.natAbs=k/\out.length=i/\dg out/\dv out+1000000000^i*z.natAbs=N/\(neg=ydB->z<=0)/\(neg=ydC->0<=z)/\i<=3/\
    ((i=0/\s=⟨[(0,aa z),(2,.ptr 0 0),(3,.aj),(4,.bool neg)],[(0,.cells ydB ydB ydB 2 [.bool ydC,.aj])],1,0⟩)\/
    (0<i/\s=⟨[(0,aa z),(2,.ptr 0 0),(3,.ay 1 0 i),(4,.bool neg)],[(1,.cells ydB ydB ydC 1 (out.map aa)),(0,.cells ydB ydB ydB 2 [.bool ydC,.aj])],2,0⟩))) (fun ex s'=>∃tm i out,ex=.exit 0/\out.length=i/\i<=3/\dg out/\dv out=N/\ak tm 2=.ptr 0 0/\ak tm 4=.bool neg/\
    ((i=0/\ak tm 3=.aj/\s'=⟨tm,[(0,.cells ydB ydB ydB 2 [.bool ydC,.aj])],1,0⟩)\/(0<i/\ak tm 3=.ay 1 0 i/\s'=⟨tm,[(1,.cells ydB ydB ydC 1 (out.map aa)),(0,.cells ydB ydB ydB 2 [.bool ydC,.aj])],2,0⟩))):=by
 apply cI;rintro k s ⟨i,z,out,rfl,hlen,hd,aM,oS,zg,hi3,hs⟩;by_cases hz:z=0
 .right
  subst hz;have hv:dv out=N:=by simpa using aM
  rcases hs with ⟨h0,rfl⟩ | ⟨h0,rfl⟩
  .simp only [go_sem,AM,yp,yL];exact⟨_,_,rfl,by simp,_,i,out,rfl,hlen,hi3,hd,hv,rfl,rfl,.inl ⟨h0,rfl,rfl⟩⟩
  .simp only [go_sem,AM,yp,yL];exact⟨_,_,rfl,by simp,_,i,out,rfl,hlen,hi3,hd,hv,rfl,rfl,.inr ⟨h0,rfl,rfl⟩⟩
 .left
  obtain⟨m,hm⟩:∃m,z.natAbs=m:=⟨_,rfl⟩;have zt:0<m:=by lia
  rw[hm] at aM;have hi2:i<3:=by
   rcases vn i 3 with h | h
   .exact h
   .have e3:i=3:=by lia
    subst e3
    have:=yW (1000000000^3) zt
    lia
  have hmN:m<=9223372036854775808:=by
   have:=um m (ycm (n:=i) (show 0<1000000000 by decide))
   lia
  have⟨d1,d2,d3,d4⟩:=aA3 z m hm;have eJ:=uz m 1000000000;have z6:dg (out++[((m%1000000000:Nat):Int)]):=jl.2 ⟨hd,mu.2 (by lia)⟩;have Q6:dv (out++[((m%1000000000:Nat):Int)])+1000000000^(i+1)*(m/1000000000)=N:=by
   rw[n7,hlen,<-aM,xh,xf];have e:1000000000^i*m=1000000000^i*(m%1000000000)+1000000000^i*(1000000000*(m/1000000000)):=by rw[<-xH,eJ]
   rw[e];simp only[dv,wA,xF,yY]
   lia
  have Bw:IntKind.wrap .i64 (z.tdiv 1000000000)=z.tdiv 1000000000:=wrap64 (by lia) (by lia);have nS: -9223372036854775808<=z.tmod 1000000000/\z.tmod 1000000000<1000000000:=by
   have h1:(z.tmod 1000000000).natAbs<1000000000:=by
    split at d2<;>lia
   lia
  have Cb:(neg=ydB->z.tdiv 1000000000<=0)/\(neg=ydC->0<=z.tdiv 1000000000):=⟨fun h=>d3 (by have:=oS h;lia),fun h=>d4 (zg h)⟩
  have aG:(z.tdiv 1000000000).natAbs<m:=by rw[d1];lia
  obtain⟨z',eG⟩:∃z',z.tdiv 1000000000=z':=⟨_,rfl⟩;rw[eG] at d1 d3 d4 Bw Cb aG;have de:dv (out++[((m%1000000000:Nat):Int)])+1000000000^(i+1)*z'.natAbs=N:=by rw[d1];exact Q6
  generalize m%1000000000=r at*
  by_cases gK:z.tmod 1000000000<0
  .rw [yC gK] at d2;rcases hs with ⟨h0,rfl⟩ | ⟨h0,rfl⟩
   .subst h0;have kN:out=[]:=yE hlen;subst kN
    simp only[go_sem,ya,yb,xy,yv,yh,yg,AM,yt,hz,yM,fM _ _ _ (show (1000000000:Int)≠0 by decide),eP _ _ _ (show (1000000000:Int)≠0 by decide),gK,d2,wrapN (n:=r) (by lia),jm,eG,Bw];refine⟨_,z'.natAbs,rfl,by lia,1,z',[]++[(r:Int)],rfl,rfl,z6,de,Cb.1,Cb.2,by lia,.inr ⟨by lia,?_⟩⟩;simp only[go_sem,ya,yb,aq]<;>rfl
   .simp only [go_sem,ya,yb,yh,yg,AM,yt,hz,yM,fM _ _ _ (show (1000000000:Int)≠0 by decide),gK,d2,wrapN (n:=r) (by lia)]
    rw[gR (ex:=ydC) (pu:=ydB) (cs:=out.map aa) rfl (by rw[y5,hlen,yg]) (by lia) (by lia) (by decide) rfl];simp only[go_sem,ya,yb,eP _ _ _ (show (1000000000:Int)≠0 by decide),eG,Bw];refine⟨_,z'.natAbs,rfl,by lia,i+1,z',out++[(r:Int)],rfl,by simp[hlen],z6,de,Cb.1,Cb.2,by lia,.inr ⟨by lia,?_⟩⟩;rw[xu];simp only[go_sem,ya,yb,aq]<;>rfl
  .rw [yq gK] at d2;rcases hs with ⟨h0,rfl⟩ | ⟨h0,rfl⟩
   .subst h0;have kN:out=[]:=yE hlen;subst kN;simp only[go_sem,ya,yb,xy,yv,yh,yg,AM,yt,hz,yM,fM _ _ _ (show (1000000000:Int)≠0 by decide),eP _ _ _ (show (1000000000:Int)≠0 by decide),d2,show ¬((r:Nat):Int)<0 by lia,jm,eG,Bw];refine⟨_,z'.natAbs,rfl,by lia,1,z',[]++[(r:Int)],rfl,rfl,z6,de,Cb.1,Cb.2,by lia,.inr ⟨by lia,?_⟩⟩;simp only[go_sem,ya,yb,aq]<;>rfl
   .simp only [go_sem,ya,yb,yh,yg,AM,yt,hz,yM,fM _ _ _ (show (1000000000:Int)≠0 by decide),d2,show ¬((r:Nat):Int)<0 by lia]
    rw[gR (ex:=ydC) (pu:=ydB) (cs:=out.map aa) rfl (by rw[y5,hlen,yg]) (by lia) (by lia) (by decide) rfl];simp only[go_sem,ya,yb,eP _ _ _ (show (1000000000:Int)≠0 by decide),eG,Bw];refine⟨_,z'.natAbs,rfl,by lia,i+1,z',out++[(r:Int)],rfl,by simp[hlen],z6,de,Cb.1,Cb.2,by lia,.inr ⟨by lia,?_⟩⟩;rw[xu];simp only[go_sem,ya,yb,aq]<;>rfl
def afN(h: -9223372036854775808<=n/\n<9223372036854775808):n.natAbs<=9223372036854775808:=by lia
def afO(n:Int):cm (decide (n<0)) n.natAbs=n:=by
 unfold cm
 grind
def aA4(h:Rm P L)(hn: -9223372036854775808<=n/\n<9223372036854775808):∃r,ab P L 281 [aa n] r/\kE r n:=by
 have key:=fun s=>ayC (P:=P) (L:=L) (neg:=decide (n<0)) (afN hn) n.natAbs s
 unfold ab;rw[aB h.ajX];simp only[go_sem,ya,yb,RR,aT];generalize hq:D P L (.loop _ AM) _=q;obtain⟨ex,s,rfl,tm,i,out,rfl,hlen,hi,hd,aM,t2,t4,FG⟩:=bt hq key (by
  refine⟨0,n,[],rfl,rfl,rfl,by simp[dv],fun h=>by simp at h;lia,fun h=>by simp at h;lia,by lia,.inl ⟨rfl,?_⟩⟩
  simp only[go_sem,ya,yb,aq]<;>rfl)
 rcases FG with ⟨eV,t3,rfl⟩ | ⟨eV,t3,rfl⟩
 .subst eV;have kN:out=[]:=yE hlen;subst kN;have⟨r,e,hr⟩:=ri h.jx h.cT (decide (n<0)) (show bB .aj [] from AG) hd (by simp);rw[aM,afO] at hr;have bO:=hr;obtain⟨w,l,rfl,hw,_,_,_⟩:=bO;refine⟨_,?_,hr⟩;simp only[go_sem,ya,yb,aq,t2,t3,t4,e,hw.pu,hw.one,bz,gh];rcases hw with ⟨rfl,_⟩ | ⟨e,rfl⟩<;>rfl
 .have hI:=jn ydC out;rw[hlen] at hI;have⟨r,e,hr⟩:=ri h.jx h.cT (decide (n<0)) hI hd (by lia);rw[aM,afO] at hr;have bO:=hr;obtain⟨w,l,rfl,hw,_,_,_⟩:=bO;refine⟨_,?_,hr⟩
  simp only[go_sem,ya,yb,aq,t2,t3,t4,fun hp=>jX (hp:=hp) (k:=i) (sz:=1) (cs:=out.map aa) ydC (by simp[hlen]) (by decide),e,hw.pu,hw.one,bz,gh];rcases hw with ⟨rfl,_⟩ | ⟨e,rfl⟩<;>rfl
def Xd(n:Int):RT (n:Rat)=bh n:=by unfold RT;simp
def XY(h:Rm P L)(M6:Has P L 265 RM)(hn: -9223372036854775808<=n/\n<9223372036854775808):ab P L 265 [aa n] (.str (RT (n:Rat))):=by
 have⟨r,e,hr⟩:=aA4 h hn;have⟨e2,_⟩:=SG (K:=8) h.SH h.q9 (by lia) hr (by have:=afN hn;lia)
 rw[Xd];obtain⟨w,l,rfl,hw,_,_,_⟩:=hr;unfold ab at e e2 ⊢;rw[aB M6];simp only[go_sem,ya,RM,e,hw.ai,bz,bS,e2]
def HM(h:Hq K a):(RT a).length<=2*K+3:=by
 have h1:=Kp h.1;have h2:=Kp h.2;rw[pC] at h2;unfold RT
 grind
def afP{z:Int}(h:Bd K z):(aC z.natAbs).length<=K+1:=by
 have:=Kp (z:=(z.natAbs:Int)) (k:=K) (by unfold Bd at h ⊢;lia)
 rwa[pC] at this
def HR(h:Rm P L)(ka:Hq K a)(hK:K<=8000000000):∃x y,ab P L 274 [.str (RT a)] (.av [x,y])/\kE x a.num/\kE y (a.den:Int):=by
 have h1:=afP ka.1;have h2:=afP ka.2
 exact aDr h.toRb (n:=a.num) (d:=a.den) (by lia) (by simpa using (by lia:(aC ((a.den:Int)).natAbs).length<=144000000000))
def aA5(h:Rm P L)(hl:(TT n d).length<=100000000000)(EB:n=0->d=1):ab P L 262 [.str (TT n d)] (aa (b7 n)):=by
 unfold ab;rw[aB h.aDg];by_cases h0:n<0
 .have bL:=aie (n:=n) (d:=d) (by lia);rw[Qw h0] at bL ⊢;simp only[go_sem,ya,Mt,Hd,bL,show (0:Int)<(((TT (-n) d).length+1:Nat):Int) by lia,Im,yp];unfold b7;rw[yC h0]
 .by_cases h1:n=0
  .subst h1
   have:=EB rfl
   subst this;rw[show TT 0 1=[48] by decide];simp only[go_sem,ya,Mt,Hd,show dZ [48] [48]=ydB from rfl];rfl
  .have bL:=aie (n:=n) (d:=d) h1;have⟨b,u,hb,jh⟩:=au1 (d:=d) h0;rw[hb] at bL ⊢;simp only[go_sem,ya,Mt,Hd,bL,show (0:Int)<((u.length+1:Nat):Int) by lia,show AR 0 (.str (b::u))=GR (.int .u8 (b:Nat)) from rfl,show ¬((b:Nat):Int)=45 by lia];unfold b7;rw[yq h0,yq h1]
def ans(h:a.num=0):a.den=1:=by simp_all
def Q7(h:Rm P L)(ka:Hq K a)(hK:K<=8000000000):ab P L 262 [.str (RT a)] (aa (b7 a.num)):=
 aA5 h (by have:=HM ka;rw[L9] at this;lia) ans
def XZ(h:Rp P L)(ka:Hq K a)(hK:K<=8000000000):ab P L 268 [.str (RT a)] (.str (RT (-a))):=by
 have e:=Q7 h.toRm ka hK;have hl:=HM ka;have en:(-a).num= -a.num:=rfl;have ed:(-a).den=a.den:=rfl;rw[L9] at hl e ⊢;rw[L9,en,ed];generalize a.num=n at*
 generalize a.den=d at*
 unfold ab at e ⊢;rw[aB h.aDk];by_cases h0:n<0
 .have es:b7 n= -1:=by unfold b7;rw[yC h0]
  rw[es,Qw h0] at e;rw[Qw h0] at hl ⊢;have hc:lS (45::TT (-n) d) (GR 1) (GR ((TT (-n) d).length+1))=GR (.str (TT (-n) d)):=by rw[pH (s:=45::TT (-n) d) (l:=1) (h:=(TT (-n) d).length+1) (by lia) (by simp)];simp
  simp only[go_sem,ya,Mw,e,show (-1:Int)<0 by decide,mR,oc,jN,hc]
 .by_cases h1:n=0
  .subst h1;have es:b7 0=0:=rfl;rw[es] at e;simp only[go_sem,ya,Mw,e,show ¬(0:Int)<0 by decide,yp,Int.neg_zero]
  .have es:b7 n=1:=by unfold b7;rw[yq h0,yq h1]
   rw[es] at e
   have:TT (-n) d=45::TT n d:=by rw[Qw (by lia),yaJ]
   rw[this]
   simp only[go_sem,ya,Mw,e,show ¬(1:Int)<0 by decide,show ¬(1:Int)=0 by decide,iV (a:=[45]) (b:=TT n d) (by simp;lia),yI,yN]
end
section
variable {K M:Nat}{a b:Rat}
def afQ(n:Int)(d:Nat):W1 ydB n d=.av [aa n,aa d,.bool ydB]:=rfl
def Ma{a b:Int}(ha:a.natAbs<1000000000)(hb:b.natAbs<1000000000):(a*b).natAbs<1000000000000000000:=by
 rw[Int.natAbs_mul];exact yF (yaE ha hb) (by decide)
def aif(h:Rm P L){a b:Int}(ha: -4000000000000000000<=a/\a<=4000000000000000000)(hb:0<b/\b<=4000000000000000000):ab P L 277 [aa a,aa b] (.str (RT (wN a b))):=by
 rw[afM hb.1];exact aCj h.aDi h.YQ h.q9 ha hb
def Q8(h:Rp P L)(ka:Hq K a)(hK:K<=8000000000):∃q:Bool,ab P L 276 [.str (RT a)] (W1 q a.num a.den)/\(q=ydB->a.num.natAbs<1000000000/\a.den<1000000000):=
 aCk h.aDm h.Io h.Co (n:=a.num) (d:=a.den) (by have:=HM ka;rw[L9] at this;lia)
def HS(h:Rn P L)(ka:Hq K a)(kb:Hq M b)(hK:K+M<=8000000000):ab P L 267 [.str (RT a),.str (RT b)] (.str (RT (a*b))):=by
 have⟨q1,e1,b1⟩:=Q8 h.toRp ka (by lia);have⟨q2,e2,b2⟩:=Q8 h.toRp kb (by lia);have aDt:=GW a b;by_cases hq:(q1=ydB/\q2=ydB)
 .obtain ⟨rfl,rfl⟩:=hq;have⟨b11,b12⟩:=b1 rfl;have⟨b21,b22⟩:=b2 rfl;have p1:=Ma b11 b21;have p2:=Ma (a:=(a.den:Int)) (b:=(b.den:Int)) (by lia) (by lia);have e3:=aif h.toRm (a:=a.num*b.num) (b:=(a.den:Int)*b.den) (by lia) (by lia);rw[<-mul_eq] at e3;rw[afQ] at e1 e2;unfold ab at e1 e2 e3 ⊢;rw[aB h.aj1]
  simp only[go_sem,ya,Mv,e1,e2,wrap64 (n:=a.num*b.num) (by lia) (by lia),wrap64 (n:=(a.den:Int)*(b.den:Int)) (by lia) (by lia),e3]
 .have bR:∃n1 d1 n2 d2,bZ P L (D P L) 276 [.str (RT a)]=GR (.av [aa n1,aa d1,.bool q1])/\bZ P L (D P L) 276 [.str (RT b)]=GR (.av [aa n2,aa d2,.bool q2]):=by
   cases q1<;>cases q2<;>exact⟨_,_,_,_,e1,e2⟩
  have⟨n1,d1,n2,d2,e1,e2⟩:=bR;have⟨x,y,e3,hx,hy⟩:=HR h.toRm ka (by lia);have⟨z,w,e4,hz,hw⟩:=HR h.toRm kb (by lia);have It:max K M<=8000000000:=by lia
  have⟨r,e5,hr⟩:=M4 (K:=max K M) h.M5 h.nN h.jx h.cT It hx hz (ka.1.mono (by lia)).r (kb.1.mono (by lia)).r;have⟨s,e6,hs⟩:=M4 (K:=max K M) h.M5 h.nN h.jx h.cT It hy hw (ka.2.mono (by lia)).r (kb.2.mono (by lia)).r;have e7:=XX h.toRm hK hr hs (ka.1.mul kb.1) (ka.2.mul kb.2) (by lia);rw[<-mul_eq] at e7;obtain⟨xw,xl,rfl,fb,_,_,_⟩:=hx;obtain⟨yw,yl,rfl,gO,_,_,_⟩:=hy;obtain⟨zw,zl,rfl,rT,_,_,_⟩:=hz;obtain⟨ww,wl,rfl,rU,_,_,_⟩:=hw;obtain⟨cP,rl,rfl,rG,_,_,_⟩:=hr;obtain⟨sw,sl,rfl,ib,_,_,_⟩:=hs;have hb:¬(q1=ydB/\q2=ydB):=hq;unfold ab at e3 e4 e5 e6 e7 ⊢;rw[aB h.aj1]
  cases q1 with
  | false=>
   simp only[go_sem,ya,yb,Mv,aT,e1,e2,e3,e4,fb.pu,fb.ai,fb.one,gO.pu,gO.ai,gO.one,rT.pu,rT.ai,rT.one,rU.pu,rU.ai,rU.one,rG.ai,ib.ai,bS,bz,AF,gh,Fq,e5,e6,e7]
  | true=>
   cases q2 with
   | true=>exact absurd ⟨rfl,rfl⟩ hb
   | false=>
    simp only[go_sem,ya,yb,Mv,aT,e1,e2,e3,e4,fb.pu,fb.ai,fb.one,gO.pu,gO.ai,gO.one,rT.pu,rT.ai,rT.one,rU.pu,rU.ai,rU.one,rG.ai,ib.ai,bS,bz,AF,gh,Fq,e5,e6,e7]
def aih(h:Rp P L)(ka:Hq K a)(kb:Hq M b)(hK:K+M+1<=8000000000):ab P L 264 [.str (RT a),.str (RT b)] (.str (RT (a+b))):=by
 have⟨q1,e1,b1⟩:=Q8 h ka (by lia);have⟨q2,e2,b2⟩:=Q8 h kb (by lia);have aDt:=GW a b;by_cases hq:(q1=ydB/\q2=ydB)
 .obtain ⟨rfl,rfl⟩:=hq;have⟨b11,b12⟩:=b1 rfl;have⟨b21,b22⟩:=b2 rfl;have p1:=Ma (a:=a.num) (b:=(b.den:Int)) (by lia) (by lia);have p2:=Ma (a:=b.num) (b:=(a.den:Int)) (by lia) (by lia);have p3:=Ma (a:=(a.den:Int)) (b:=(b.den:Int)) (by lia) (by lia);have e3:=aif h.toRm (a:=a.num*b.den+b.num*a.den) (b:=(a.den:Int)*b.den) (by lia) (by lia);rw[<-add_eq] at e3;rw[afQ] at e1 e2;unfold ab at e1 e2 e3 ⊢;rw[aB h.aj0]
  simp only[go_sem,ya,Mu,e1,e2,wrap64 (n:=a.num*(b.den:Int)) (by lia) (by lia),wrap64 (n:=b.num*(a.den:Int)) (by lia) (by lia),wrap64 (n:=a.num*(b.den:Int)+b.num*(a.den:Int)) (by lia) (by lia),wrap64 (n:=(a.den:Int)*(b.den:Int)) (by lia) (by lia),e3]
 .have bR:∃n1 d1 n2 d2,bZ P L (D P L) 276 [.str (RT a)]=GR (.av [aa n1,aa d1,.bool q1])/\bZ P L (D P L) 276 [.str (RT b)]=GR (.av [aa n2,aa d2,.bool q2]):=by
   cases q1<;>cases q2<;>exact⟨_,_,_,_,e1,e2⟩
  have⟨n1,d1,n2,d2,e1,e2⟩:=bR;have⟨x,y,e3,hx,hy⟩:=HR h.toRm ka (by lia);have⟨z,w,e4,hz,hw⟩:=HR h.toRm kb (by lia);have It:max K M<=8000000000:=by lia
  have⟨r,e5,hr⟩:=M4 (K:=max K M) h.M5 h.nN h.jx h.cT It hx hw (ka.1.mono (by lia)).r (kb.2.mono (by lia)).r;have⟨r2,e52,CF⟩:=M4 (K:=max K M) h.M5 h.nN h.jx h.cT It hz hy (kb.1.mono (by lia)).r (ka.2.mono (by lia)).r;have⟨s,e6,hs⟩:=M4 (K:=max K M) h.M5 h.nN h.jx h.cT It hy hw (ka.2.mono (by lia)).r (kb.2.mono (by lia)).r;have k1:Bd (K+M) (a.num*b.den):=ka.1.mul kb.2;have k2:Bd (K+M) (b.num*a.den):=(kb.1.mul ka.2).mono (by lia);have⟨t,e8,ht⟩:=aC8 (K:=K+M) h.aDn h.SE h.sW h.SF h.oO h.jx h.cT (by lia) hr CF k1.r k2.r;have e7:=XX h.toRm hK ht hs (k1.Y5 k2) ((ka.2.mul kb.2).mono (by lia)) (by lia);rw[<-add_eq] at e7;obtain⟨xw,xl,rfl,fb,_,_,_⟩:=hx;obtain⟨yw,yl,rfl,gO,_,_,_⟩:=hy;obtain⟨zw,zl,rfl,rT,_,_,_⟩:=hz;obtain⟨ww,wl,rfl,rU,_,_,_⟩:=hw;obtain⟨cP,rl,rfl,rG,_,_,_⟩:=hr;obtain⟨rw2,rl2,rfl,aj4,_,_,_⟩:=CF
  obtain⟨tw,tl,rfl,htw,_,_,_⟩:=ht;obtain⟨sw,sl,rfl,ib,_,_,_⟩:=hs;have hb:¬(q1=ydB/\q2=ydB):=hq;unfold ab at e3 e4 e5 e52 e6 e7 e8 ⊢;rw[aB h.aj0]
  cases q1 with
  | false=>
   simp only[go_sem,ya,yb,Mu,aT,e1,e2,e3,e4,fb.pu,fb.ai,fb.one,gO.pu,gO.ai,gO.one,rT.pu,rT.ai,rT.one,rU.pu,rU.ai,rU.one,rG.ai,aj4.ai,htw.ai,ib.ai,bS,bz,AF,gh,Fq,e5,e52,e8,e6,e7]
  | true=>
   cases q2 with
   | true=>exact absurd ⟨rfl,rfl⟩ hb
   | false=>
    simp only[go_sem,ya,yb,Mu,aT,e1,e2,e3,e4,fb.pu,fb.ai,fb.one,gO.pu,gO.ai,gO.one,rT.pu,rT.ai,rT.one,rU.pu,rU.ai,rU.one,rG.ai,aj4.ai,htw.ai,ib.ai,bS,bz,AF,gh,Fq,e5,e52,e8,e6,e7]
def X0(h:Rp P L)(ka:Hq K a)(kb:Hq M b)(hK:K+M+1<=8000000000):ab P L 271 [.str (RT a),.str (RT b)] (.str (RT (a-b))):=by
 have e1:=XZ h kb (by lia);have e2:=aih h ka kb.neg hK;rw[<-Rat.sub_eq_add_neg] at e2;unfold ab at e1 e2 ⊢;rw[aB h.aDl];simp only[go_sem,ya,Yx,e1,e2]
def inv_divInt(a:Rat)(h:a≠0):a⁻¹=wN (a.den:Int) a.num:=by
 rw[Rat.inv_def]
def aii(h:Rn P L)(Cu:Has P L 283 FV)(ka:Hq K a)(hK:K<=8000000000)(h0:a≠0):ab P L 283 [.str (RT a)] (.str (RT a⁻¹)):=by
 obtain⟨x,y,e3,hx,hy⟩:=HR h.toRm ka hK;have hn:a.num≠0:=fun e=>h0 (Rat.num_eq_zero.1 e)
 have e7:=XX h.toRm hK hy hx ka.2 ka.1 hn;rw[<-inv_divInt a h0] at e7;obtain⟨xw,xl,rfl,fb,_,_,_⟩:=hx;obtain⟨yw,yl,rfl,gO,_,_,_⟩:=hy;unfold ab at e3 e7 ⊢;rw[aB Cu];simp only[go_sem,ya,yb,FV,aT,e3,fb.pu,fb.ai,fb.one,gO.pu,gO.ai,gO.one,bS,AF,gh,Fq,e7]
def aA6(h:Rn P L)(Zn:Has P L 266 RN)(Cu:Has P L 283 FV)(ka:Hq K a)(kb:Hq M b)(hK:K+M<=8000000000)(h0:b≠0):ab P L 266 [.str (RT a),.str (RT b)] (.str (RT (a/b))):=by
 have e1:=aii h Cu kb (by omega) h0;have e2:=HS h ka kb.inv hK;rw[<-Rat.div_def] at e2;unfold ab at e1 e2 ⊢;rw[aB Zn];simp only[go_sem,ya,RN,e1,e2]
def aij(h:Rx0 P L)(ka:Hq K a)(kb:Hq M b)(hK:K+M<=8000000000)(h0:b≠0):ab P L 266 [.str (RT a),.str (RT b)] (.str (RT (a/b))):=aA6 h.toRn h.Zn h.Cu ka kb hK h0
end
def BC(v:AV)(l:List (List Nat)):Prop:=cB v (l.map AV.str)
section
variable {v:AV}{l:List (List Nat)}
def BC.len(h:BC v l):jr hp 1 v=GR (.int .i64 (l.length:Nat)):=by
 have:=cB.len (hp:=hp) h
 grind
def BC.bk(h:BC v l){i:Nat}(hi:i<l.length):jq 1 i v=GR (.bC (.str l[i]::(l.map AV.str).drop (i+1))):=by
 have:=cB.bk h (i:=i) (by simpa using hi)
 grind
def au3(e:Bool)(l:List (List Nat)):BC (.au e l.length (l.map AV.str)) l:=by
 have:=KL e (l.map AV.str)
 rwa[y5] at this
end
instance (k:Nat) (z:Int):Decidable (Bd k z):=inferInstanceAs (Decidable (z.natAbs<2^k))
def aDu:RT 1=[49]:=by decide
def fG:Rat:=⟨1,2,by decide,by decide⟩
def aj5:RT fG=[49,47,50]:=by decide
def aj6:Hq 2 0:=⟨by decide,by decide⟩
def aDv:Hq 2 1:=⟨by decide,by decide⟩
def Zo:Hq 2 fG:=⟨by decide,by decide⟩
def M7(h:Rp P L)(F6:Has P L 315 RW){b:Rat}(ka:Hq K a)(kb:Hq M b)(hK:K+M+1<=8000000000):ab P L 315 [.str (RT a),.str (RT b)] (aa (b7 (a-b).num)):=by
 have e1:=X0 h ka kb hK;have e2:=Q7 h.toRm (ka.sub kb) hK;unfold ab at e1 e2 ⊢;rw[aB F6];simp only[go_sem,ya,RW,e1,e2]
def aDw(h:Rn P L)(Zp:Has P L 319 RX)(ka:Hq K a)(hK:K+2<=8000000000):ab P L 319 [.str (RT a)] (.str (RT (a*fG))):=by
 have e1:=HS h ka Zo hK;rw[aj5] at e1;unfold ab at e1 ⊢;rw[aB Zp];simp only[go_sem,ya,RX,e1]
section
variable {s1 s2 s3 s4:Int}{w1 w2 w3 w4:AV}{l1 l2 l3 l4:List Nat}
def sC(a b c d:AV)(r:List AV):gY 4 ydB (a::b::c::d::r)=GR (.agg [a,b,c,d]):=rfl
end
structure F4(c1 c2 c3 c4:AV):Prop where
 ai:∀(n:Nat) (hp:Hp),freeze (n+20) hp (.agg [c1,c2,c3,c4])=GR (.agg [c1,c2,c3,c4],hp)
 dC:∀hp:Hp,result hp (.agg [c1,c2,c3,c4])=GR (.agg [c1,c2,c3,c4])
 st:∀(hp:Hp) (ct id:Nat) (a b c d:AV),iM hp ct id 0 4 [c1,c2,c3,c4] (GR (.cells ydB ydB ydB 4 [a,b,c,d]))=GR (.av [],aJ hp id (.cells ydB ydB ydB 4 [c1,c2,c3,c4]),ct)
 bx:∀ct:Nat,mY ct 4 [c1,c2,c3,c4]=GR (.ptr ct 0,.cells ydB ydB ydB 4 [c1,c2,c3,c4])
 o1:dN c1=ydB
 o2:dN c2=ydB
 o3:dN c3=ydB
 o4:dN c4=ydB
 pu:aX (.agg [c1,c2,c3,c4])=ydB
 z1:∀(n:Nat) (hp:Hp),freeze (n+1) hp c1=GR (c1,hp)
 z2:∀(n:Nat) (hp:Hp),freeze (n+1) hp c2=GR (c2,hp)
 z3:∀(n:Nat) (hp:Hp),freeze (n+1) hp c3=GR (c3,hp)
 z4:∀(n:Nat) (hp:Hp),freeze (n+1) hp c4=GR (c4,hp)
def b8.gen(h:b8 v a):∃c1 c2 c3 c4,v=.agg [c1,c2,c3,c4]/\F4 c1 c2 c3 c4:=by
 obtain⟨s1,w1,s2,w2,rfl,h1,h2⟩:=h;have⟨l1,u1⟩:=h1.aH;have⟨l2,u2⟩:=h2.aH;refine⟨_,_,_,_,rfl,fun n hp=>?_,lP u1 u2,fun hp ct id a b c d=>lO u1 u2 hp ct id a b c d,fun ct=>by simp only[go_sem,yb,aT,u1.pu,u1.one,u2.pu,u2.one],rfl,u1.one,rfl,u2.one,by simp[aX,aF,u1.pu,u2.pu],fun _ _=>rfl,fun n _=>u1.ai n,fun _ _=>rfl,fun n _=>u2.ai n⟩;exact bS _ _ (by simp only[go_sem,u1.ai,u2.ai])
def au4{a b:Int}:bP [a,b]=0↔a=0/\b=0:=by
 simp only[bP]
 grind
def au5{a b c:Int}:bP [a,b,c]=0↔a=0/\b=0/\c=0:=by
 simp only[bP];by_cases h:a=0<;>by_cases h2:b=0<;>by_cases h3:c=0<;>simp[h,h2,h3]
def aA7(n k:Nat)(h:n<k)(h0:k≠0):Hq k ((2:Rat)^n):=by
 refine⟨?_,?_⟩
 .rw [ydq];unfold Bd;show ((2:Int)^n).natAbs<_
  rw[Int.natAbs_pow];exact vG (by decide) h
 .rw [ydr];unfold Bd;show (((1:Nat)^n:Nat):Int).natAbs<_
  rw[Nat.one_pow];exact vA h0
def aeJ(k:Nat){z:Int}(h:Bd k z)(h0:k≠0):Hq k ((z:Int):Rat):=⟨by rw[vL];exact h,by rw[vz];exact vA h0⟩
def X1(k j:Nat){s:Bool}(h:M<2^j)(hj:j<=k):Bd k (bj s M):=by
 unfold Bd bj
 have:(if s=ydB then -(M:Int) else (M:Int)).natAbs=M:=by split<;>omega
 rw[this];exact yF h (xc (by decide) hj)
def lB(s:Bool)(M:Nat):Rat:=((bj s M:Int):Rat)*p2 (-149)
def aj7(h:Fr' P L)(rk:Has P L 155 FT)(Cv:Has P L 241 Ib){k:Nat}(hv:b8 v a)(ka:Hq K a)(hK:K*k+1<=30000000000)(hk:k<9223372036854775808):∃r,ab P L 241 [v,aa k] r/\b8 r (a^k):=by
 obtain⟨s1,w1,s2,w2,rfl,h1,h2⟩:=hv;obtain⟨l1,u1⟩:=h1.aH;obtain⟨l2,u2⟩:=h2.aH;obtain⟨n,e1,hn⟩:=Za h.toNu rk ⟨s1,w1,rfl,h1⟩ ka.1 hK hk;obtain⟨d,e2,hd⟩:=Za h.toNu rk ⟨s2,w2,rfl,h2⟩ ka.2 hK hk;obtain⟨s3,w3,rfl,h3⟩:=hn;obtain⟨s4,w4,rfl,h4⟩:=hd;obtain⟨l3,u3⟩:=h3.aH;obtain⟨l4,u4⟩:=h4.aH;refine⟨.agg [aa s3,w3,aa s4,w4],?_,s3,w3,s4,w4,rfl,by rw[ydq];exact h3,by rw[ydr,Int.natCast_pow];exact h4⟩
 unfold ab at e1 e2;unfold ab;rw[aB Cv];simp only[go_sem,ya,yb,Ib,aT,u1.pu,u1.ai,u1.one,u2.pu,u2.ai,u2.one,u3.one,u4.one,aP,yd,qV,AX,bS,e1,e2,bz,Dl,Dm,lO u3 u4,dL,dO,ye,eC,lP u3 u4]
def LK:Hq 2 (2:Rat):=⟨by unfold Bd;decide,by unfold Bd;decide⟩
def Zq(h:Fr' P L)(rk:Has P L 155 FT)(Cv:Has P L 241 Ib)(F7:Has P L 228 H9){k:Int}(hk: -100000<=k/\k<=100000):∃r,ab P L 228 [aa k] r/\b8 r (p2 k):=by
 obtain⟨t,e1,ht⟩:=Ob h (z:=2) (by decide) (by decide);have ht:b8 t (2:Rat):=ht;have un:=zJ;obtain⟨t1,t2,t3,t4,rfl,ft⟩:=ht.gen;by_cases c:k<0
 .obtain ⟨n,hn⟩:∃n:Nat,k= -(n:Int):=⟨k.natAbs,by omega⟩;obtain⟨q,e2,hq⟩:=aj7 h rk Cv ht LK (k:=n) (by omega) (by omega);have kq:Hq 100001 ((2:Rat)^n):=aA7 n 100001 (by omega) (by decide);have h0:(2:Rat)^n≠0:=by
   have:=L8 n
   rwa[show p2 n=(2:Rat)^n from tI _ _] at this
  obtain⟨r,e3,hr⟩:=m73 h hq h0 kq (by decide);obtain⟨q1,q2,q3,q4,rfl,fq⟩:=hq.gen;have hp:((2:Rat)^n)⁻¹=p2 k:=by
   rw[hn];unfold p2;rw[ycZ,tI]
  rw[hp] at hr;have bO:=hr;obtain⟨s1,w1,s2,w2,rfl,k1,k2⟩:=hr;obtain⟨l1,u1⟩:=k1.aH;obtain⟨l2,u2⟩:=k2.aH;refine⟨_,?_,bO⟩;have wn:IntKind.wrap .i64 (0-k)=(n:Int):=by rw[wrap64 (by omega) (by omega)];omega
  unfold ab at e1 e2 e3;unfold ab;rw[aB F7];simp only[go_sem,ya,yb,H9,aT,c,yp,e1,ft.ai,wn,e2,fq.ai,e3,bz,lO u1 u2,dL,dO,ye,eC,lP u1 u2]
 .obtain ⟨n,hn⟩:∃n:Nat,k=(n:Int):=⟨k.natAbs,by omega⟩;subst hn;obtain⟨r,e2,hr⟩:=aj7 h rk Cv ht LK (k:=n) (by omega) (by omega);have hp:(2:Rat)^n=p2 n:=(tI _ _).symm;rw[hp] at hr;have bO:=hr;obtain⟨s1,w1,s2,w2,rfl,k1,k2⟩:=hr;obtain⟨l1,u1⟩:=k1.aH;obtain⟨l2,u2⟩:=k2.aH;refine⟨_,?_,bO⟩;unfold ab at e1 e2;unfold ab;rw[aB F7];simp only[go_sem,ya,yb,H9,aT,c,yt,e1,ft.ai,e2,bz,lO u1 u2,dL,dO,ye,eC,lP u1 u2]
section
variable {s:Bool}{M:Nat}
def mg(b:Nat):refs (.an .f32 b)=[]:=rfl
def mo(f:Nat->Option Nat)(b:Nat):bn f (.an .f32 b)=.an .f32 b:=rfl
def zN(n:Nat)(hp:Hp)(b:Nat):freeze (n+1) hp (.an .f32 b)=GR (.an .f32 b,hp):=rfl
structure Fx(P:aE)(L:Lib):Prop extends Fr' P L where
 rk:Has P L 155 FT
 F7:Has P L 228 H9
 aDx:Has P L 232 oJ
 Cv:Has P L 241 Ib
def zy:Hp:=[(0,.cells ydB ydB ydB 4 [.int .i64 0,.aj,.int .i64 0,.aj])]
def ayD(hM:M<2^277):
  cG P L [0,2,3] Ld (fun d st=>∃(b:Nat) (N:Nat) (k:Nat),d=N/\Fl b s N/\N*2^k=M/\(M=0->k=0)/\st=⟨[(0,.an .f32 b),(2,.ptr 0 0),(3,aa k)],zy,1,0⟩) (fun ex s'=>∃tm ct b N,∃k:Nat,s'=⟨tm,zy,ct,0⟩/\ex=.exit 0/\Fl b s N/\N*2^k=M/\N<2^173/\k<277/\ak tm 0=.an .f32 b/\ak tm 2=.ptr 0 0/\ak tm 3=aa k):=by
 apply cI;rintro d st ⟨b,N,k,hd,hN,hq,hz,rfl⟩;have hk:k<277:=by
  by_cases h0:M=0
  .rw [hz h0];decide
  .have N0:0<N:=by
    rcases xi N with q | q
    .rw [q,wo] at hq;exact absurd hq.symm h0
    .exact q
   have h1:2^k<=N*2^k:=um _ N0;exact ajP k 277 (xL (by rw[hq] at h1;exact h1) hM)
 obtain⟨a,e1,ha⟩:=aAV hN;have e2:=ah9 ha aia;have hc:(bj ydC (2^173)<=bj ydC N)↔2^173<=N:=yda;unfold zy;by_cases c:2^173<=N
 .left
  obtain⟨b',e3,aS⟩:=Xc hN (hN.even c);have Br:=hN.even c;rw[yZ (hc.2 c)] at e2;have wk:IntKind.wrap .i64 ((k:Int)+1)=((k+1:Nat):Int):=wrap64 (by omega) (by omega);simp only[go_sem,ya,Ld,Q5,fB,e1,e2,e3,wk];have rn:0<2^k:=xe _;have BA:M≠0:=fun q=>by
   rw[q] at hq
   have:=vd (show 0<N by omega) rn
   omega
  refine⟨_,N/2,rfl,by omega,b',N/2,k+1,rfl,aS,by rw[xh,xd (2^k),<-xf,show N/2*2=N by omega,hq],fun q=>absurd q BA,?_⟩;simp only[go_sem,ya,yb,aq,mg,mo]<;>rfl
 .right
  rw[yJ (fun q=>c (hc.1 q))] at e2;simp only[go_sem,ya,Ld,Q5,fB,e1,e2];exact⟨_,_,rfl,by simp,_,_,b,N,k,rfl,rfl,hN,hq,by omega,hk,by simp only[go_sem,ya],by simp only[go_sem,ya],by simp only[go_sem,ya]⟩
def ayE:
  cG P L [0,2,3] Lf (fun d st=>∃(b:Nat) (N:Nat) (j:Nat) (k:Int),d+j=149/\Fl b s N/\2^j∣N/\N<2^173/\(N:Rat)*p2 k=(M:Rat)/\-149<=k+j/\k+j<=277/\st=⟨[(0,.an .f32 b),(2,.ptr 0 0),(3,aa k)],zy,1,0⟩) (fun ex s'=>∃tm ct b N,∃k:Int,s'=⟨tm,zy,ct,0⟩/\ex=.exit 2/\Fl b s N/\N%2^149=0/\N<2^173/\(N:Rat)*p2 k=(M:Rat)/\-298<=k/\k<=277/\ak tm 0=.an .f32 b/\ak tm 2=.ptr 0 0/\ak tm 3=aa k):=by
 apply cI;rintro d st ⟨b,N,j,k,hd,hN,hj,aG,hq,k1,k2,rfl⟩;have sX:N<2^200:=vH aG (by decide);have e1:=Qe hN sX;have hn:N/2^149<2^24:=by rw[xC (xe _),<-xB];exact aG
 have ha:(bj s (N/2^149)).natAbs=N/2^149:=by unfold bj;split<;>omega
 obtain⟨c,e2,hc⟩:=Wx (n:=bj s (N/2^149)) (by omega);rw[ha] at hc;have e3:=XU hN hc;have eJ:=xE N (2^149);have hw:(bj s N=bj (decide (bj s (N/2^149)<0)) (N/2^149*2^149))↔N%2^149=0:=by
  have hX0:N/2^149=0->N/2^149*2^149=0:=fun h=>by rw[h,wo]
  generalize hQ:N/2^149=q at*
  generalize hR:N%2^149=r at*
  rw[xd] at eJ;generalize q*2^149=X at*
  unfold bj
  cases s with
  | false=>
   have:decide ((if ydC=ydB then -(q:Int) else (q:Int))<0)=ydC:=yJ (by simp)
   rw[this];simp;omega
  | true=>
   rw[yC rfl,yC rfl];by_cases q0:q=0
   .have hX:=hX0 q0
    have:decide (-(q:Int)<0)=ydC:=yJ (by omega)
    rw[this,yq (by decide)];omega
   .have:decide (-(q:Int)<0)=ydB:=yZ (by omega)
    rw[this,yC rfl];omega
 unfold zy;by_cases w:N%2^149=0
 .right
  rw[yZ (hw.2 w)] at e3;simp only[go_sem,ya,Lf,e1,e2,e3,yL];have aIS:j<=149:=by omega
  exact⟨_,_,rfl,by simp,_,_,b,N,k,rfl,rfl,hN,w,aG,hq,by omega,by omega,by simp only[go_sem,ya],by simp only[go_sem,ya],by simp only[go_sem,ya]⟩
 .left
  rw[yJ (fun q=>w (hw.1 q))] at e3;have aDy:N<2^172:=by
   by_cases q:N<2^172
   .exact q
   .exact absurd (hN.whole (by omega)) w
  obtain⟨b',e4,aS⟩:=Xb hN (vH aG (ajO 173 276 (by decide)));have Gf:j<149:=by
   rcases vn j 149 with q | q
   .exact q
   .have:j=149:=by omega
    subst this;exact absurd (ybi hj) w
  have wk:IntKind.wrap .i64 (k-1)=k-1:=wrap64 (by omega) (by omega);simp only[go_sem,ya,Lf,e1,e2,e3,yM,e4,wk];refine⟨_,d-1,rfl,by omega,b',2*N,j+1,k-1,by omega,aS,by rw[xh,xd (2^j)];exact yby 2 hj,by omega,?_,by omega,by omega,?_⟩
  .rw [<-hq,xI]
   have:p2 k=p2 1*p2 (k-1):=by rw[<-eY,show 1+(k-1)=k by omega]
   rw[this,sU];show (2:Rat)*(N:Rat)*p2 (k-1)=(N:Rat)*(2*p2 (k-1))
   grind
  .simp only [go_sem,ya,yb,aq,mg,mo]<;>rfl
def agB{k:Int}(h:(N:Rat)*p2 k=(M:Rat))(hw:N%2^149=0):((bj s (N/2^149):Int):Rat)*p2 k=lB s M:=by
 have e:N=N/2^149*2^149:=by have:=xE N (2^149);omega
 have h1:((N/2^149:Nat):Rat)*p2 149=(N:Rat):=by
  conv=>rhs;rw[e,xI,<-fP]
  rfl
 generalize N/2^149=n at h1;have h2:((n:Nat):Rat)*p2 k=(M:Rat)*p2 (-149):=by
  rw[<-h,<-h1]
  have:p2 149*p2 (-149)=1:=by rw[<-eY];exact pW
  have h3:(n:Rat)*p2 149*p2 k*p2 (-149)=(n:Rat)*p2 k*(p2 149*p2 (-149)):=by grind
  rw[h3,this,wJ]
 unfold lB bj;have c1:(((n:Nat):Int):Rat)=(n:Rat):=rfl;have c2:(((M:Nat):Int):Rat)=(M:Rat):=rfl
 cases s with
 | true=>rw[yC rfl,yC rfl,uV,uV,c1,c2];grind
 | false=>rw[yq (by decide),yq (by decide),c1,c2];exact h2
def X2(k:Int):Hq (k.natAbs+2) (p2 k):=by
 by_cases c:0<=k
 .obtain ⟨n,rfl⟩:∃n:Nat,k=n:=⟨k.natAbs,by omega⟩;rw[show p2 (n:Int)=((2^n:Nat):Int) from fP n];exact⟨by rw[vL];unfold Bd;rw[xV];exact vG (by decide) (by omega),by rw[vz];unfold Bd;exact vA (by omega)⟩
 .obtain ⟨n,rfl⟩:∃n:Nat,k= -(n:Int):=⟨k.natAbs,by omega⟩
  have:p2 (-(n:Int))=(p2 n)⁻¹:=by unfold p2;rw[ycZ]
  rw[this];refine Hq.inv ?_;rw[show p2 (n:Int)=((2^n:Nat):Int) from fP n];exact⟨by rw[vL];unfold Bd;rw[xV];exact vG (by decide) (by omega),by rw[vz];unfold Bd;exact vA (by omega)⟩
def Cw(k:Int)(hk:k.natAbs<=900):Hq 1001 (p2 k):=(X2 k).mono (by omega)
def aDz(h:Fx P L){b:Nat}(hb:Fl b s M):∃r,ab P L 232 [.an .f32 b] r/\b8 r (lB s M):=by
 have key:∀(b' N:Nat) (k:Int) (tm:Env) (ct:Nat),Fl b' s N->N%2^149=0->N<2^173->(N:Rat)*p2 k=(M:Rat)-> -298<=k->k<=277->ak tm 0=.an .f32 b'->ak tm 2=.ptr 0 0->ak tm 3=aa k->∃r,fS oJ.dC (D P L (cJ 3 oJ.body) ⟨[(0,.an .f32 b'),(2,.ptr 0 0),(3,aa k)],zy,1,0⟩)=GR r/\b8 r (lB s M):=by
  intro b' N k tm ct hN hw aG hq k1 k2 _ _ _;have e1:=Qe hN (vH aG (by decide));have hn:N/2^149<2^24:=by rw[xC (xe _),<-xB];exact aG
  have ha:(bj s (N/2^149)).natAbs=N/2^149:=by unfold bj;split<;>omega
  have hx:=agB (s:=s) hq hw;generalize bj s (N/2^149)=z at*
  obtain⟨u,e2,hu⟩:=Ob h.toFr' (z:=z) (by omega) (by omega);obtain⟨v,e3,hv⟩:=Zq h.toFr' h.rk h.Cv h.F7 (k:=k) (by omega);have ku:Hq 25 ((z:Int):Rat):=⟨by rw[vL];unfold Bd;omega,by rw[vz];unfold Bd;decide⟩
  obtain⟨r,e4,hr⟩:=m49 h.toFr' hu hv (ku.mono (show 25<=1001 by decide)) (Cw k (by omega)) (by decide);rw[hx] at hr;have bO:=hr;obtain⟨u1,u2,u3,u4,rfl,fu⟩:=hu.gen;obtain⟨v1,v2,v3,v4,rfl,iq⟩:=hv.gen;obtain⟨r1,r2,r3,r4,rfl,fr⟩:=hr.gen;refine⟨_,?_,bO⟩;unfold ab at e2 e3 e4;unfold zy;simp only[go_sem,ya,oJ,cJ,aI,e1,e2,fu.ai,e3,iq.ai,e4,fr.dC,fr.st,bz,dL,dO,ye,eC]
 have l1:=ayD (P:=P) (L:=L) (s:=s) hb.lt M;unfold ab;rw[aB h.aDx];have cut:oJ.body=.seq (bD oJ.body) (.seq (bD (cJ 0 oJ.body)) (.seq (bD (cJ 1 oJ.body)) (.seq (bD (cJ 2 oJ.body)) (cJ 3 oJ.body)))):=rfl;show ∃r,fS oJ.dC (D P L oJ.body _)=GR r/\_
 rw[cut];generalize cJ 3 oJ.body=T at key ⊢;simp only[go_sem,yb,oJ,cJ,aI,bD,aT];generalize hq:D P L (.loop _ Ld) _=q;obtain⟨ex,st,rfl,tm,ct,b',N,k,rfl,rfl,hN,hNk,aG,hk,t0,t2,t3⟩:=bt hq l1 ⟨b,M,0,rfl,hb,by rw[vV,yg],fun _=>rfl,by unfold zy;simp only[go_sem,ya,yb,aq,mg,mo]<;>rfl⟩
 unfold zy;simp only[go_sem,yb,aq,t0,t2,t3,mg,mo];generalize hq:D P L (.loop _ Lf) _=q;have l2:=ayE (P:=P) (L:=L) (s:=s) (M:=M) 149;obtain⟨ex,st,rfl,tm,ct,b2,N2,k2,rfl,rfl,hN2,hw,sX,nU,k3,k4,u0,u2,u3⟩:=bt hq l2 ⟨b',N,0,k,rfl,hN,by rw[vV];exact yds N,aG,by rw[<-hNk,xI,fP],by omega,by omega,by unfold zy;simp only[go_sem,ya,yb,aq,mg,mo]<;>rfl⟩
 unfold zy;simp only[go_sem,yb,aq,u0,u2,u3,mg,mo];exact key b2 N2 k2 tm ct hN2 hw sX nU k3 k4 u0 u2 u3
end
section
variable {cs:List AV}{l:List Rat}{x:Rat}
def QL:List AV->List Rat->Prop
 | [],[]=>True
 | a::b::c::d::r,x::l=>b8 (.agg [a,b,c,d]) x/\QL r l
 | _,_=>False
def QL.inv(h:QL cs (x::l)):∃a b c d r,cs=a::b::c::d::r/\b8 (.agg [a,b,c,d]) x/\QL r l:=by
 match cs,h with
 | a::b::c::d::r,h=>exact⟨a,b,c,d,r,rfl,h.1,h.2⟩
def QL.Zr(h:QL cs []):cs=[]:=by
 match cs,h with
 | [],_=>rfl
 | [_],h=>exact h.elim
 | [_,_],h=>exact h.elim
 | [_,_,_],h=>exact h.elim
 | _::_::_::_::_,h=>exact h.elim
def QL.len:∀{l:List Rat} {cs:List AV},QL cs l->cs.length=l.length*4
 | [],_,h=>by rw[h.Zr];rfl
 | x::l,cs,h=>by
  obtain⟨a,b,c,d,r,rfl,_,h2⟩:=h.inv
  have:=h2.len
  grind
def F4.pus{c1 c2 c3 c4:AV}(g:F4 c1 c2 c3 c4):aX c1=ydB/\aX c2=ydB/\aX c3=ydB/\aX c4=ydB:=by
 have:=g.pu
 simpa only[aX,aF,uX,yf] using this
def b8.f4{a b c d:AV}(h:b8 (.agg [a,b,c,d]) x):F4 a b c d:=by
 have⟨_,_,_,_,e,g⟩:=h.gen
 grind
def QL.pu:∀{l:List Rat} {cs:List AV},QL cs l->aF cs=ydB
 | [],_,h=>by rw[h.Zr];rfl
 | x::l,cs,h=>by
  obtain⟨a,b,c,d,r,rfl,h1,h2⟩:=h.inv;have⟨p1,p2,p3,p4⟩:=h1.f4.pus;simp only[aF,p1,p2,p3,p4,h2.pu,vh]
def QL.eE:∀{l m:List Rat} {cs ds:List AV},QL cs l->QL ds m->QL (cs++ds) (l++m)
 | [],m,cs,ds,h,k=>by rw[h.Zr];exact k
 | x::l,m,cs,ds,h,k=>by
  obtain⟨a,b,c,d,r,rfl,h1,h2⟩:=h.inv;exact⟨h1,h2.eE k⟩
def QL.snoc{a b c d:AV}(h:QL cs l)(k:b8 (.agg [a,b,c,d]) x):QL (cs++[a,b,c,d]) (l++[x]):=h.eE ⟨k,trivial⟩
def QL.get:∀{l:List Rat} {cs:List AV} {i:Nat},QL cs l->∀(hi:i<l.length),∃a b c d r,cs.drop (i*4)=a::b::c::d::r/\b8 (.agg [a,b,c,d]) l[i]
 | [],_,i,_,hi=>absurd hi (yam i)
 | x::l,cs,0,h,hi=>by
  obtain⟨a,b,c,d,r,rfl,h1,_⟩:=h.inv
  grind
 | x::l,cs,i+1,h,hi=>by
  obtain⟨a,b,c,d,r,rfl,_,h2⟩:=h.inv;have⟨a',b',c',d',r',e,k⟩:=h2.get (i:=i) (by simpa using hi)
  grind
def nO(v:AV)(l:List Rat):Prop:=(v=.aj/\l=[])\/∃e cs,v=.au e l.length cs/\QL cs l
section
variable {v:AV}{l:List Rat}{hp:Hp}
def nO.len(h:nO v l){hp:Hp}:jr hp 1 v=GR (.int .i64 (l.length:Nat)):=by
 rcases h with ⟨rfl,rfl⟩ | ⟨e,cs,rfl,h⟩<;>rfl
def nO.pu(h:nO v l):aX v=ydB:=by
 rcases h with ⟨rfl,rfl⟩ | ⟨e,cs,rfl,h⟩<;>rfl
def nO.ai(h:nO v l)(n:Nat){hp:Hp}:freeze (n+1) hp v=GR (v,hp):=by
 rcases h with ⟨rfl,rfl⟩ | ⟨e,cs,rfl,h⟩<;>rfl
def nO.bk(h:nO v l){i:Nat}(hi:i<l.length):∃a b c d r,jq 4 i v=GR (.bC (a::b::c::d::r))/\b8 (.agg [a,b,c,d]) l[i]:=by
 rcases h with ⟨rfl,rfl⟩ | ⟨e,cs,rfl,h⟩
 .grind
 .have ⟨a,b,c,d,r,e1,e2⟩:=h.get hi;refine⟨a,b,c,d,r,?_,e2⟩;rw[P2 e _ hi,e1]
def aeK(e:Bool)(h:QL cs l):nO (.au e l.length cs) l:=.inr ⟨e,cs,rfl,h⟩
end
def aDA(hp:Hp)(cs:List AV):gk hp 4 ydB (.bC cs)=gY 4 ydB cs:=rfl
def je(s:Rat)(l:List Rat):Rat:=l.foldl (·+·) s
def aqk{s:Rat}{i:Nat}(h:i<l.length):je s (l.take (i+1))=je s (l.take i)+l[i]:=by
 rw[xm h];simp only[je,List.foldl_append,List.foldl_cons,List.foldl_nil]
def agC{K:Nat}:∀{l:List Rat} {s:Rat} {M:Nat},Hq M s->(∀x,x∈l->Hq K x)->Hq (M+l.length*(K+1)) (je s l)
 | [],s,M,hs,_=>by simpa[je] using hs
 | x::l,s,M,hs,hl=>by
  have:=agC (l:=l) (hs.add (hl x List.mem_cons_self)) (fun y hy=>hl y (List.mem_cons_of_mem _ hy))
  refine Hq.mono (m:=M+(x::l).length*(K+1)) this ?_;simp only[yH,xS];lia
def au6{s:Rat}(hs:Hq M s)(hl:∀x,x∈l->Hq K x)(i:Nat):Hq (M+l.length*(K+1)) (je s (l.take i)):=
 (agC hs (fun x hx=>hl x (List.mem_of_mem_take hx))).mono (by rw[yU];have:=yT (K+1) (Nat.min_le_right i l.length);lia)
end
section
variable {K:Nat}{r:Rat}
def VY{a b:Nat}(h:aC a=aC b):a=b:=by
 have h1:=BM a;rw[h,BM b] at h1
 grind
def afR:∀(k n:Nat),n<k->n≠0->∃b r,aC n=b::r/\b≠48
 | 0,n,h,_=>absurd h (yam n)
 | k+1,n,h,h0=>by
  by_cases h1:n<10
  .exact ⟨48+n,[],qC h1,by lia⟩
  .have ⟨b,r,e,hb⟩:=afR k (n/10) (by lia) (by lia);exact⟨b,r++[48+n%10],by rw[rY (by lia),e];rfl,hb⟩
def aeL(n:Nat):iD (aC n)=ydB:=by
 unfold iD;rw[C8,wE];by_cases h0:n=0
 .subst h0;decide
 .have ⟨b,r,e,hb⟩:=afR (n+1) n (by lia) h0;rw[e]
  have:yu b 48=ydC:=by
   cases hq:yu b 48 with
   | false=>rfl
   | true=>exact absurd (yi hq) hb
  simp[this]
def aeM(n:Nat):nc (aC n)=n:=by unfold nc;rw[BM];rfl
def asx{z:Int}(h:¬z<0):bh z=aC z.natAbs:=by
 obtain⟨m,rfl⟩:∃m:Nat,z=m:=⟨z.toNat,by lia⟩;rw[pC,xV]
def aA8(r:Rat):RT r=bh r.num++lj r.den:=rfl
def ayF(h1:(aC r.num.natAbs).length<=600)(h2:(aC r.den).length<=600):Oe (RT r)=0:=by
 have key:∀neg:Bool,(neg=ydB->r.num.natAbs≠0)->zZ neg (aC r.num.natAbs++lj r.den)=0:=by
  intro neg gK;have hco:vJ r.num.natAbs r.den=1:=r.reduced;have fm:r.den≠0:=r.den_nz;generalize r.num.natAbs=m at*
  generalize r.den=d at*
  have hs:cW (aC m++lj d)=(aC m).length:=by rw[Ka _ (C8 m),acD];rfl
  have c1:¬((ydB=ydC)\/(neg=ydB/\aC m=[48])):=by
   rintro (h | ⟨h,h'⟩)
   .grind
   .exact gK h (VY (h'.trans (by decide)))
  unfold zZ;rw[hs,tY,aeL,yq c1];by_cases hd:d=1
  .have hr:lj d=[]:=yC hd
   grind
  .have hr:lj d=47::aC d:=yq hd;have kS:(aC m++lj d).drop ((aC m).length+1)=aC d:=by
    simp_all
   have hl:(aC m++lj d).length=(aC m).length+1+(aC d).length:=by grind
   rw[kS,hl,aeL,aeM,aeM];have n0:aC d≠[48]:=fun e=>fm (VY (e.trans (by decide)))
   have n1:aC d≠[49]:=fun e=>hd (VY (e.trans (by decide)))
   grind
 rw[aA8];by_cases h0:r.num<0
 .rw [rZ h0];show (if 45=45 then zZ ydB (aC r.num.natAbs++lj r.den) else zZ ydC (45::(aC r.num.natAbs++lj r.den)))=0
  grind
 .rw [asx h0];have k:=key ydC (fun h=>by cases h);have hp:=BP r.num.natAbs;have nt:=C8 r.num.natAbs
  cases hq:aC r.num.natAbs with
  | nil=>rw[hq] at hp;simp at hp
  | cons b t=>
   rw[hq] at k nt
   have:=adB nt
   show (if b=45 then zZ ydB (t++lj r.den) else zZ ydC (b::(t++lj r.den)))=0
   grind
def Xe(h:Hq K r)(hK:K<=1800):(aC r.num.natAbs).length<=600/\(aC r.den).length<=600:=by
 refine⟨UZ (B:=K) hK (by decide) h.1,UZ (B:=K) hK (by decide) ?_⟩
 have:=h.2
 unfold Bd at this
 grind
def ayG(h:Hq K r)(hK:K<=1800):Oe (RT r)=0:=ayF (Xe h hK).1 (Xe h hK).2
def aA9(h:Hq K r)(hK:K<=1800):LG r=ydC:=by
 obtain⟨h1,h2⟩:=Xe h hK;unfold LG LN
 grind
end
def D4:bY (.int .i64 1)=GR 1:=rfl
def aql{n:Int}(hd:0<d):n/(d:Int)=if n<0/\0<n.natAbs%d then -((n.natAbs/d:Nat)+1:Int) else cm (decide (n<0)) (n.natAbs/d):=by
 have eJ:=xE n.natAbs d;have hm:=xq n.natAbs hd;generalize n.natAbs/d=q at*
 generalize hr:n.natAbs%d=r at*
 by_cases h0:n<0
 .have hn:n= -((d*q+r:Nat):Int):=by omega
  by_cases h1:0<r
  .rw [yC ⟨h0,h1⟩];rw[hn]
   refine (Int.ediv_emod_unique (a:= -((d*q+r:Nat):Int)) (b:=(d:Int)) (r:=(d:Int)-r) (q:= -((q:Int)+1)) (by omega)).2 ⟨?_,by omega,by omega⟩ |>.1
   grind
  .have:r=0:=by omega
   subst this;rw[yq (by omega)];unfold cm;rw[yC (by simpa using h0),hn,yY,xD,<-ydn,Int.mul_ediv_cancel_left _ (by omega)]
 .rw [yq (by omega)];unfold cm;rw[yq (by simpa using h0)];have hn:n=((d*q+r:Nat):Int):=by omega
  rw[hn];rw[<-yce,tB hd,xP hm,yY]
def aj8(h:Rm P L)(DV:Has P L 338 FW)(ka:Hq K a)(hK:K<=8000000000):ab P L 338 [.str (RT a)] (.bool (decide (a.den=1))):=by
 have hl:=HM ka;have e0:=Sq h.Io (s:=RT a) (by omega);unfold ab at e0 ⊢;rw[aB DV];by_cases hd:a.den=1
 .have hs:cW (RT a)=(RT a).length:=by
   unfold RT;rw[yC hd]
   have:=OV a.num []
   rw[this];simp[cW]
  rw[hs] at e0;simp only[go_sem,ya,FW,e0,hd,yp]
 .have hs:cW (RT a)<(RT a).length:=by
   unfold RT;rw[yq hd,OV];simp[cW]
  rw[yJ hd];simp only[go_sem,ya,FW,e0,show ¬((cW (RT a):Nat):Int)=((RT a).length:Int) by omega,yt]
def aDB(h:Rm P L)(Iu:Has P L 339 FX){w:AV}{n d:Int}(hK:K<=7000000000)(hv:kE v n)(hw:kE w d)(kn:Bd K n)(kd:Bd K d)(hd:0<d):∃r,ab P L 339 [v,w] r/\kE r (n/d):=by
 obtain⟨x,a,rfl,hx,ha,na,va⟩:=hv;obtain⟨y,b,rfl,hy,hb,nb,vb⟩:=hw;have la:=y7 (kI ha na (by rw[va];exact kn.r)) hK
 have lb:=y7 (kI hb nb (by rw[vb];exact kd.r)) hK
 obtain⟨q,r,lq,lr,e1,hq,hr,dq,nq,dr,nr,vq,vr⟩:=XW h hx hy ha hb na nb (by omega) (by omega) (by omega);rw[va,vb] at vq vr;have hlq:lq.length<=7000000000:=y7 (kI dq nq (by rw[vq];exact xL (wU _ _) kn.r)) hK
 have nj:=aql (n:=n) (d:=d.natAbs) (by omega);rw[show ((d.natAbs:Nat):Int)=d by omega] at nj;have lA:(0<n.natAbs%d.natAbs)↔0<lr.length:=by
  rw[<-vr];constructor
  .intro h1;rcases xi lr.length with h0 | h0
   .rw [yE h0] at h1;simp[dv] at h1
   .exact h0
  .intro h1;rcases xi (dv lr) with h0 | h0
   .have:=Wk nr dr h0;subst this;simp at h1
   .exact h0
 by_cases hc:n<0/\0<lr.length
 .obtain ⟨c1,c2⟩:=hc;rw[yC ⟨c1,lA.2 c2⟩] at nj;have gW:bB (.au ydB 1 [aa 1]) [(1:Int)]:=jn ydB [(1:Int)];obtain⟨z,out,e2,hz,hdo,hvo,aY⟩:=ajQ h.SE h.oO hq gW dq (mu.2 (by decide)) (by omega) (by simp);simp only[yH,yR] at aY;obtain⟨s,e3,hs⟩:=ri h.jx h.cT (decide (n<0)) hz hdo (by omega);have aM:cm (decide (n<0)) (dv out)=n/d:=by
   rw[hvo,vq,nj];unfold cm;rw[yC (by simpa using c1)];simp[dv]
  rw[aM] at hs;refine⟨s,?_,hs⟩;obtain⟨sw,sl,rfl,ib,_,_,_⟩:=hs;unfold ab at e1 e2 e3 ⊢;rw[aB Iu];simp only[c1,yp] at e3 ⊢;simp only[go_sem,ya,yb,yv,yh,yg,FX,aT,hx.pu,hx.ai,hx.one,hy.pu,hy.ai,hy.one,aP,yd,dt,e1,hq.ai,hq.bN,hr.len,hr.bN,show (0:Int)<(lr.length:Int) by omega,yp,e2,hz.ai,e3,ib.pu,ib.one,bz,gh];rcases ib with ⟨rfl,_⟩ | ⟨e,rfl⟩<;>rfl
 .rw [yq (fun e=>hc ⟨e.1,lA.1 e.2⟩)] at nj;obtain⟨s,e3,hs⟩:=ri h.jx h.cT (decide (n<0)) hq dq (by omega);rw[vq,<-nj] at hs;refine⟨s,?_,hs⟩;obtain⟨sw,sl,rfl,ib,_,_,_⟩:=hs;unfold ab at e1 e3 ⊢;rw[aB Iu];by_cases h0:n<0
  .have mE:lr.length=0:=by
    rcases xi lr.length with h1 | h1
    .exact h1
    .exact absurd ⟨h0,h1⟩ hc
   simp only[h0,yp] at e3 ⊢;simp only[go_sem,ya,yb,FX,aT,hx.pu,hx.ai,hx.one,hy.pu,hy.ai,hy.one,aP,yd,dt,e1,hq.ai,hq.bN,hr.len,hr.bN,mE,show ¬(0:Int)<((0:Nat):Int) by omega,e3,ib.pu,ib.one,bz,gh];rcases ib with ⟨rfl,_⟩ | ⟨e,rfl⟩<;>rfl
  .simp only [h0,yt] at e3 ⊢;simp only[go_sem,ya,yb,FX,aT,hx.pu,hx.ai,hx.one,hy.pu,hy.ai,hy.one,aP,yd,dt,e1,hq.ai,hq.bN,hr.bN,e3,ib.pu,ib.one,bz,gh];rcases ib with ⟨rfl,_⟩ | ⟨e,rfl⟩<;>rfl
def aDC(h:Rm P L)(Zs:Has P L 336 MC)(DV:Has P L 338 FW)(Iu:Has P L 339 FX)(ka:Hq K a)(hK:K<=7000000000):ab P L 336 [.str (RT a)] (.str (RT (a.floor:Rat))):=by
 have e0:=aj8 h DV ka (by omega);unfold ab at e0 ⊢;rw[aB Zs];by_cases hd:a.den=1
 .rw [yZ hd] at e0;have hf:(a.floor:Rat)=a:=by
   rw[yba,hd];simp only[Int.natCast_one,Int.ediv_one];exact (P9 a hd).symm
  rw[hf];simp only[go_sem,ya,MC,e0]
 .rw [yJ hd] at e0;obtain⟨x,y,e1,hx,hy⟩:=HR h ka (by omega);obtain⟨r,e2,hr⟩:=aDB h Iu (K:=K) hK hx hy ka.1 ka.2 (PI a);rw[<-yba] at hr;have kf:Bd K a.floor:=ka.1.le (by
   rw[yba]
   exact Int.natAbs_ediv_le_natAbs _ _)
  obtain⟨e3,_⟩:=SG (K:=K) h.SH h.q9 (by omega) hr kf.r;rw[Xd];obtain⟨xw,xl,rfl,fb,_,_,_⟩:=hx;obtain⟨yw,yl,rfl,gO,_,_,_⟩:=hy;obtain⟨cP,rl,rfl,rG,_,_,_⟩:=hr;simp only[go_sem,ya,yb,MC,e0,aT,e1,fb.pu,fb.ai,fb.one,gO.pu,gO.ai,gO.one,rG.ai,bS,bz,AF,gh,Fq,e2,e3]
def aDD(M8:Has P L 150 Mn){z:Int}(hv:cC v z)(h1: -9223372036854775808<z)(h2:z<9223372036854775808):ab P L 150 [v] (.av [aa z,.bool ydB]):=by
 obtain⟨s,w,rfl,hn⟩:=hv;rcases hn with ⟨rfl,rfl,_,_⟩ | ⟨e,l,rfl,g,n,hb,hs,h3⟩
 .unfold ab;rw[aB M8];simp only[go_sem,ya,yb,Mn,aT,aP,yd,dt,jb,eQ];rfl
 .lia
def pw(b:Rat):Nat->Rat
 | 0=>1
 | n+1=>pw b n*b
def agD(b:Rat)(m:Nat):∀n,pw b (m+n)=pw b m*pw b n
 | 0=>by rw[yY,pw,wJ]
 | n+1=>by rw[<-td,pw,pw,agD b m n,wv]
def Mb{b:Rat}{K:Nat}(h:Hq K b):∀n,Hq (K*n+2) (pw b n)
 | 0=>aDv.mono (by omega)
 | n+1=>((Mb h n).mul h).mono (by rw[Nat.mul_succ];omega)
def ayH(h:Rn P L){b:Rat}{k0:Nat}(hb:Hq K b)(hK:K*k0<=1000000000):
  cG P L [0,1,5] Hu (fun m st=>∃i e o:Nat,st=⟨[(0,.str (RT (pw b i))),(1,aa e),(5,.str (RT (pw b o)))],[],0,0⟩/\o+i*e=k0/\e<9223372036854775808/\e=m) (fun ex st'=>∃tm ct,st'=⟨tm,[],ct,0⟩/\ex=.exit 0/\ak tm 5=.str (RT (pw b k0))):=by
 apply cI;rintro m st ⟨i,e,o,rfl,ho,he,rfl⟩;by_cases h0:0<e
 .left
  have hi:i<=k0:=by have:=tH i h0;omega
  have ki:K*i<=1000000000:=y7 (yW K hi) hK;have ko:K*o<=1000000000:=y7 (yW K (show o<=k0 by omega)) hK;have e1:=HS h (Mb hb i) (Mb hb i) (by omega);have e2:=HS h (Mb hb o) (Mb hb i) (by omega);rw[<-agD] at e1 e2;have r2:(e:Int).tmod 2=((e%2:Nat):Int):=rfl;have q2:(e:Int).tdiv 2=((e/2:Nat):Int):=rfl;have d0:(2:Int)≠0:=by decide
  have hs:e=2*(e/2)+e%2:=by omega
  have hm:e%2<2:=by omega
  unfold ab at e1 e2;generalize e/2=f at*
  generalize e%2=g at*
  have w1:IntKind.wrap .i64 (g:Int)=g:=wrap64 (by omega) (by omega);have w2:IntKind.wrap .i64 (f:Int)=f:=wrap64 (by omega) (by omega);by_cases h1:g=1
  .have d1:decide ((g:Int)=1)=ydB:=yZ (by omega);simp only[go_sem,ya,Hu,show (0:Int)<(e:Int) by omega,yp,fM _ _ _ d0,eP _ _ _ d0,r2,q2,w2,d1,e1,e2];refine⟨_,f,rfl,by omega,i+i,f,o+i,by simp only[go_sem,ya,aq],?_,by omega,rfl⟩;rw[<-ho,hs,h1];grind
  .have d1:decide ((g:Int)=1)=ydC:=yJ (by omega);simp only[go_sem,ya,Hu,show (0:Int)<(e:Int) by omega,yp,fM _ _ _ d0,eP _ _ _ d0,r2,q2,w2,d1,e1];refine⟨_,f,rfl,by omega,i+i,f,o,by simp only[go_sem,ya,aq],?_,by omega,rfl⟩;have hg:g=0:=by omega
   rw[<-ho,hs,hg];grind
 .right
  obtain rfl:e=0:=by omega
  obtain rfl:o=k0:=by omega
  simp only[go_sem,ya,Hu,show ¬(0:Int)<((0:Nat):Int) by omega,yt];exact⟨_,_,rfl,by simp,_,_,rfl,rfl,by simp only[go_sem,ya]⟩
def aj9(h:Rn P L)(F8:Has P L 389 Ig){b:Rat}{k:Nat}(hb:Hq K b)(hK:K*k<=1000000000)(hk:k<9223372036854775808):ab P L 389 [.str (RT b),aa k] (.str (RT (pw b k))):=by
 unfold ab;rw[aB F8];simp only[go_sem,ya,Ig,show ¬(k:Int)<0 by omega,yt];generalize hq:D P L (.loop _ Hu) _=q;obtain⟨ex,st,rfl,tm,ct,rfl,rfl,t5⟩:=bt hq (ayH h hb hK k) ⟨1,k,0,by simp only[go_sem,ya,aq,pw,tn,aDu],by omega,hk,rfl⟩;simp only[go_sem,aq,t5]
def aBa(h:Rn P L)(Cu:Has P L 283 FV)(F8:Has P L 389 Ig){b:Rat}{k:Nat}(hb:Hq K b)(hK:K*k<=1000000000)(hk:k<9223372036854775808)(k0:0<k)(b0:b≠0)(hK2:K<=1000000000):ab P L 389 [.str (RT b),aa (-(k:Int))] (.str (RT (pw b⁻¹ k))):=by
 have e1:=aii h Cu hb (by omega) b0;have e2:=aj9 h F8 (hb.inv) hK hk;unfold ab at e1 e2 ⊢;rw[aB F8];have w:IntKind.wrap .i64 (0 - -(k:Int))=k:=by rw[show (0:Int) - -(k:Int)=k by omega];exact wrap64 (by omega) (by omega)
 simp only[go_sem,ya,Ig,show -(k:Int)<0 by omega,yp,e1,w,e2]
section
open Go (IntKind)
open Ieee
section
variable {s:Bool}{M:Nat}
structure Fy0(P:aE)(L:Lib):Prop extends Rn P L where
 M6:Has P L 265 RM
 Cu:Has P L 283 FV
 F8:Has P L 389 Ig
structure Fy(P:aE)(L:Lib):Prop extends Fy0 P L where
 aka:Has P L 429 RZ
 Zt:Has P L 430 R0
def ayI{b:Nat}(h:Fl b ydB M)(h0:M≠0):∃b',binOp .sub (.an .f32 0) (.an .f32 b)=GR (.an .f32 b')/\Fl b' ydC M:=by
 obtain⟨m,e,h1,rfl⟩:=h.ex;obtain⟨b1,b2,b3,b4⟩:=h1.b;have m0:m≠0:=fun q=>h0 (by unfold cV;rw[q,wo])
 obtain⟨m',e',k1,k2,k3⟩:=CT (n:=m) (k:=e) m0 b2 b1 b4 (m0:=cV m e) (e0:= -149) ydC (by
  rw[zM b1]
  have:p2 149*p2 (-149)=1:=by rw[<-eY];exact pW
  rw[wv,this,wJ])
 have e1:single.sub 0 b=GR (single.write (.number ydC (cV m e) (-149))):=by
  unfold Format.sub;rw[h1.read,show single.read 0=.number ydC 0 (-149) by decide];show GR (single.write (.number (if signed ydC 0 ((-149:Int)-min (-149) e).toNat+signed (!ydB) m (e-min (-149) e).toNat=0 then ydC&&(!ydB) else decide (signed ydC 0 ((-149:Int)-min (-149) e).toNat+signed (!ydB) m (e-min (-149) e).toNat<0)) (signed ydC 0 ((-149:Int)-min (-149) e).toNat+signed (!ydB) m (e-min (-149) e).toNat).natAbs (min (-149) e)))=_
  have hm:min (-149) e= -149:=by omega
  have hs:signed ydC 0 ((-149:Int)-min (-149) e).toNat+signed (!ydB) m (e-min (-149) e).toNat=(cV m e:Nat):=by
   rw[hm];unfold signed cV;simp only[yL,yD,xv,ud,wo];rw[show e - -149=e+149 by omega];simp
  rw[hs,hm,yq (by omega),xV,yJ (by omega)]
 refine⟨_,?_,m',e',k1,(Ww k1.b.1 b1 k3).symm⟩;show (match single.sub 0 b with | some b=>GR (AV.an .f32 b) | none=>none)=_
 rw[e1]
def aik:∀k,pw 2 k=p2 k
 | 0=>by rw[show ((0:Nat):Int)=0 from rfl,pW];rfl
 | k+1=>by
  have ih:=aik k;rw[show ((k+1:Nat):Int)=(k:Int)+1 from rfl,eY,sU,<-ih];show _=_
  simp only[pw]
def ayJ(k:Nat):pw (2:Rat)⁻¹ k=p2 (-(k:Int)):=by
 have:∀k,pw (2:Rat)⁻¹ k*p2 k=1:=fun k=>by
  induction k with
  | zero=>rw[show ((0:Nat):Int)=0 from rfl,pW];simp[pw]
  | succ k ih=>
   rw[show ((k+1:Nat):Int)=(k:Int)+1 from rfl,eY,sU];have h2:(2:Rat)⁻¹*2=1:=Rat.inv_mul_cancel _ (by decide);simp only[pw]
   have:pw (2:Rat)⁻¹ k*2⁻¹*(p2 k*2)=(pw (2:Rat)⁻¹ k*p2 k)*((2:Rat)⁻¹*2):=by grind
   rw[this,ih,h2,tn]
 have h1:=this k;have h2:=HK (k:Int);have h3:pw (2:Rat)⁻¹ k*p2 k*p2 (-(k:Int))=p2 (-(k:Int)):=by rw[h1,tn]
 rw[wv,yav (p2 k),h2,wJ] at h3;exact h3
def ayK(hs:s=ydB->M=0)(hM:M<2^277):
  cG P L [0,4] Lt (fun d st=>∃(b:Nat) (N:Nat) (k:Nat),d=N/\Fl b s N/\N*2^k=M/\(M=0->k=0)/\st=⟨[(0,.an .f32 b),(4,aa k)],[],0,0⟩) (fun ex s'=>∃tm ct b N,∃k:Nat,s'=⟨tm,[],ct,0⟩/\ex=.exit 0/\Fl b s N/\N*2^k=M/\N<2^173/\k<277/\ak tm 0=.an .f32 b/\ak tm 4=aa k):=by
 apply cI;rintro d st ⟨b,N,k,hd,hN,hq,hz,rfl⟩;have rn:0<2^k:=xe _;have hk:k<277:=by
  by_cases h0:M=0
  .rw [hz h0];decide
  .have N0:0<N:=by
    rcases xi N with q | q
    .rw [q,wo] at hq;exact absurd hq.symm h0
    .exact q
   have h1:2^k<=N*2^k:=um _ N0;exact ajP k 277 (xL (by rw[hq] at h1;exact h1) hM)
 have e2:=ah9 hN aia;have hsN:bj s N=N:=by
  cases s with
  | false=>rfl
  | true=>
   have BA:=hs rfl
   have:N=0:=by
    rcases xi N with q | q
    .exact q
    .have:=vd q rn;omega
   subst this;rfl
 have hc:(bj ydC (2^173)<=bj s N)↔2^173<=N:=by rw[hsN];exact yda
 by_cases c:2^173<=N
 .left
  have Br:=hN.even c;obtain⟨b',e3,aS⟩:=Xc hN Br;rw[yZ (hc.2 c)] at e2;have wk:IntKind.wrap .i64 ((k:Int)+1)=((k+1:Nat):Int):=wrap64 (by omega) (by omega);simp only[go_sem,ya,Lt,e2,e3,wk];have BA:M≠0:=fun q=>by
   have:=vd (show 0<N by omega) rn
   omega
  refine⟨_,N/2,rfl,by omega,b',N/2,k+1,rfl,aS,by rw[xh,xd (2^k),<-xf,show N/2*2=N by omega,hq],fun q=>absurd q BA,?_⟩;simp only[go_sem,ya,aq,mg,mo]<;>rfl
 .right
  rw[yJ (fun q=>c (hc.1 q))] at e2;simp only[go_sem,Lt,e2];exact⟨_,_,rfl,by simp,_,_,b,N,k,rfl,rfl,hN,hq,by omega,hk,by simp only[go_sem,ya],by simp only[go_sem,ya]⟩
def aqm:(bj s N=bj (decide (bj s (N/2^149)<0)) (N/2^149*2^149))↔N%2^149=0:=by
 have eJ:=xE N (2^149);have hX0:N/2^149=0->N/2^149*2^149=0:=fun h=>by rw[h,wo]
 generalize hQ:N/2^149=q at*
 generalize hR:N%2^149=r at*
 rw[xd] at eJ;generalize q*2^149=X at*
 unfold bj
 cases s with
 | false=>
  have:decide ((if ydC=ydB then -(q:Int) else (q:Int))<0)=ydC:=yJ (by simp)
  rw[this];simp;omega
 | true=>
  rw[yC rfl,yC rfl];by_cases q0:q=0
  .have hX:=hX0 q0
   have:decide (-(q:Int)<0)=ydC:=yJ (by omega)
   rw[this,yq (by decide)];omega
  .have:decide (-(q:Int)<0)=ydB:=yZ (by omega)
   rw[this,yC rfl];omega
def ayL:
  cG P L [0,4] Lu (fun d st=>∃(b:Nat) (N:Nat) (j:Nat) (k:Int),d+j=149/\Fl b s N/\2^j∣N/\N<2^173/\(N:Rat)*p2 k=(M:Rat)/\-149<=k+j/\k+j<=277/\st=⟨[(0,.an .f32 b),(4,aa k)],[],0,0⟩) (fun ex s'=>∃tm ct b N,∃k:Int,s'=⟨tm,[],ct,0⟩/\ex=.exit 2/\Fl b s N/\N%2^149=0/\N<2^173/\(N:Rat)*p2 k=(M:Rat)/\-298<=k/\k<=277/\ak tm 0=.an .f32 b/\ak tm 4=aa k):=by
 apply cI;rintro d st ⟨b,N,j,k,hd,hN,hj,aG,hq,k1,k2,rfl⟩;have sX:N<2^200:=vH aG (by decide);have e1:=Qe hN sX;have hn:N/2^149<2^24:=by rw[xC (xe _),<-xB];exact aG
 have ha:(bj s (N/2^149)).natAbs=N/2^149:=by unfold bj;split<;>omega
 obtain⟨c,e2,hc⟩:=Wx (n:=bj s (N/2^149)) (by omega);rw[ha] at hc;have e3:=XU hN hc;have hw:=aqm (s:=s) (N:=N);by_cases w:N%2^149=0
 .right
  rw[yZ (hw.2 w)] at e3;simp only[go_sem,ya,Lu,e1,e2,e3,yL];exact⟨_,_,rfl,by simp,_,_,b,N,k,rfl,rfl,hN,w,aG,hq,by omega,by omega,by simp only[go_sem,ya],by simp only[go_sem,ya]⟩
 .left
  rw[yJ (fun q=>w (hw.1 q))] at e3;have aDy:N<2^172:=by
   by_cases q:N<2^172
   .exact q
   .exact absurd (hN.whole (by omega)) w
  obtain⟨b',e4,aS⟩:=Xb hN (vH aG (ajO 173 276 (by decide)));have Gf:j<149:=by
   rcases vn j 149 with q | q
   .exact q
   .have:j=149:=by omega
    subst this;exact absurd (ybi hj) w
  have wk:IntKind.wrap .i64 (k-1)=k-1:=wrap64 (by omega) (by omega);simp only[go_sem,ya,Lu,e1,e2,e3,yM,e4,wk];refine⟨_,d-1,rfl,by omega,b',2*N,j+1,k-1,by omega,aS,by rw[xh,xd (2^j)];exact yby 2 hj,by omega,?_,by omega,by omega,?_⟩
  .rw [<-hq,xI]
   have:p2 k=p2 1*p2 (k-1):=by rw[<-eY,show 1+(k-1)=k by omega]
   rw[this,sU];show (2:Rat)*(N:Rat)*p2 (k-1)=(N:Rat)*(2*p2 (k-1))
   grind
  .simp only [go_sem,ya,aq,mg,mo]<;>rfl
def aDE(Zt:Has P L 430 R0){b:Nat}(hb:Fl b s M)(hs:s=ydB->M=0):∃(n:Nat) (k:Int),ab P L 430 [.an .f32 b] (.av [aa n,aa k])/\n<2^24/\-298<=k/\k<=277/\((n:Nat):Rat)*p2 k=lB s M:=by
 have l1:=ayK (P:=P) (L:=L) hs hb.lt M;unfold ab;rw[aB Zt];simp only[go_sem,R0];generalize hq:D P L (.loop _ Lt) _=q;obtain⟨ex,st,rfl,tm,ct,b',N,k,rfl,rfl,hN,hNk,aG,hk,t0,t4⟩:=bt hq l1 ⟨b,M,0,rfl,hb,by rw[vV,yg],fun _=>rfl,by simp only[go_sem,ya,aq,mg,mo]<;>rfl⟩
 simp only[go_sem,aq,t0,t4,mg,mo];generalize hq:D P L (.loop _ Lu) _=q;have l2:=ayL (P:=P) (L:=L) (s:=s) (M:=M) 149;obtain⟨ex,st,rfl,tm,ct,b2,N2,k2,rfl,rfl,hN2,hw,sX,nU,k3,k4,u0,u4⟩:=bt hq l2 ⟨b',N,0,k,rfl,hN,by rw[vV];exact yds N,aG,by rw[<-hNk,xI,fP],by omega,by omega,by simp only[go_sem,ya,aq,mg,mo]<;>rfl⟩
 have e1:=Qe hN2 (vH sX (by decide));have hn:N2/2^149<2^24:=by rw[xC (xe _),<-xB];exact sX
 have hx:=agB (s:=s) nU hw;have zu:bj s (N2/2^149)=(N2/2^149:Nat):=by
  cases s with
  | false=>rfl
  | true=>
   have BA:=hs rfl
   have:N2=0:=by
    rw[BA] at nU;have hp:=L8 k2;have h0:((N2:Nat):Rat)*p2 k2=0:=nU;rcases Rat.mul_eq_zero.1 h0 with q | q
    .exact_mod_cast q
    .exact absurd q hp
   subst this;rfl
 rw[zu] at hx e1;refine⟨N2/2^149,k2,?_,hn,k3,k4,hx⟩;simp only[go_sem,ya,aq,u0,u4,mg,mo,e1];rfl
end
end
section
variable {s:Bool}{M b:Nat}
def agE:RT (2:Rat)=[50]:=by decide
def X3(h:Fl b s M):Hq 2500 (lB s M):=by
 have hM:=h.lt;have k1:Hq 278 (((bj s M:Int)):Rat):=aeJ 278 (X1 278 277 hM (by decide)) (by decide);exact (k1.mul (Cw (-149) (by decide))).mono (by decide)
def au7(M:Nat):lB ydB M= -lB ydC M:=by
 unfold lB bj;rw[yC rfl,yq (by decide),uV];grind
def X4(h:Fy0 P L){k:Int}(h1: -300<=k)(h2:k<=300):ab P L 389 [.str [50],aa k] (.str (RT (p2 k))):=by
 rw[<-agE];by_cases c:k<0
 .obtain ⟨n,rfl⟩:∃n:Nat,k= -(n:Int):=⟨k.natAbs,by omega⟩
  have:=aBa h.toRn h.Cu h.F8 LK (k:=n) (by omega) (by omega) (by omega) (by decide) (by decide)
  rwa[ayJ] at this
 .obtain ⟨n,rfl⟩:∃n:Nat,k=n:=⟨k.natAbs,by omega⟩
  have:=aj9 h.toRn h.F8 LK (k:=n) (by omega) (by omega)
  rwa[aik] at this
def agF(h:Fy P L)(hb:Fl b s M)(hs:s=ydB->M=0):ab P L 429 [.an .f32 b] (.str (RT (lB s M))):=by
 obtain⟨n,k,e1,hn,k1,k2,hq⟩:=aDE h.Zt hb hs;have e0:=ah8 hb Fl.zero;have aG:¬bj s M<bj ydC 0:=by
  cases s with
  | false=>show ¬(M:Int)<0;omega
  | true=>rw[hs rfl];decide
 rw[yJ aG] at e0;have e2:=XY h.toRm h.M6 (n:=(n:Int)) (by omega);have e3:=X4 h.toFy0 (k:=k) (by omega) (by omega);have kn:Hq 25 (((n:Int):Int):Rat):=⟨by rw[vL];unfold Bd;rw[xV];omega,by rw[vz];unfold Bd;decide⟩
 have e4:=HS h.toRn kn (Cw k (by omega)) (by decide);have bR:(((n:Nat):Int):Rat)*p2 k=lB s M:=hq;rw[bR] at e4;unfold ab at e1 e2 e3 e4;unfold ab;rw[aB h.aka];simp only[go_sem,ya,RZ,e0,zN,e1,iA,iw,iz,e2,e3,e4]
def aDF(h:Fy P L)(hb:Fl b s M):ab P L 429 [.an .f32 b] (.str (RT (lB s M))):=by
 by_cases hs:s=ydB->M=0
 .exact agF h hb hs
 .have iH:s=ydB:=Classical.byContradiction fun q=>hs fun q'=>absurd q' q
  have hM:M≠0:=fun q=>hs fun _=>q
  subst iH;obtain⟨b',e1,aS⟩:=ayI hb hM;have e2:=agF h aS (fun q=>by cases q);have e3:=XZ h.toRp (X3 aS) (by decide);rw[<-au7] at e3;have e0:=ah8 hb Fl.zero;have aG:bj ydB M<bj ydC 0:=by show -(M:Int)<0;omega
  rw[yZ aG] at e0;unfold ab at e2 e3;unfold ab;rw[aB h.aka];simp only[go_sem,ya,RZ,e0,e1,zN,e2,e3]
end
def aDG(h:Rm P L)(Zu:Has P L 340 MD)(DV:Has P L 338 FW){n:Nat}(hn:n<1000000000):ab P L 340 [.str (RT ((n:Int):Rat))] (.av [aa n,.bool ydB]):=by
 have kz:Hq 40 ((n:Int):Rat):=⟨by rw[vL];unfold Bd;omega,by rw[vz];unfold Bd;omega⟩;have e0:=aj8 h DV kz (by omega);rw[show ((n:Int):Rat).den=1 from vz ..,yZ rfl] at e0;have hl:(aC n).length<=9:=zI (k:=8) (by omega);obtain⟨x,e1,hx⟩:=Zm h.toRb (n:=(n:Int)) (by simp;omega);rw[Xd] at e0 ⊢;rw[pC] at e0 e1 ⊢;obtain⟨w,l,rfl,hw,hd,hz,hv⟩:=hx;rw[xV] at hv;have zh:l.length<=1:=afL hd hz (by omega);have gK:decide ((n:Int)<0)=ydC:=yJ (by omega);rw[gK] at e1;unfold ab at e0 e1 ⊢;rw[aB Zu]
 match l,zh,hw,hv,hd with
 | [],_,hw,hv,hd=>
  have h0:n=0:=by rw[<-hv];rfl
  subst h0;simp only[go_sem,ya,yb,MD,e0,yL,show ¬(20:Int)<((aC 0).length:Int) by decide,aT,e1,bz,hw.len,hw.pu,hw.one,gh,aP,yd,dt,yR,show ((0:Nat):Int)-1= -1 from rfl,show IntKind.wrap .i64 (-1)= -1 from rfl,HJ,aq,WT,show ¬(0:Int)<=-1 by decide];rfl
 | [d],_,hw,hv,hd=>
  have gd:=mu.1 hd;have CN:d=(n:Int):=by simp[dv] at hv;omega
  subst CN;have ei:=hw.bk (i:=0) (by simp);simp only[vB] at ei
  simp only[go_sem,ya,yb,MD,e0,yL,show ¬(20:Int)<((aC n).length:Int) by omega,aT,e1,bz,hw.len,hw.pu,hw.one,gh,aP,yd,dt,yH,yR,show ((1:Nat):Int)-1=0 from rfl,show IntKind.wrap .i64 0=0 from rfl,HJ,aq,WT,show (0:Int)<=0 by decide,yp,ei,yt,show ¬(9223372036:Int)<0 by decide,show ¬(0:Int)< -9223372036 by decide,show ¬(0:Int)=9223372036 by decide,show ¬(0:Int)= -9223372036 by decide,Int.zero_mul,ycY,wrapN (n:=n) (by omega),show (0:Int)-1= -1 from rfl,show IntKind.wrap .i64 (-1)= -1 from rfl,show ¬(0:Int)<=-1 by decide];rfl
def adF{b x:Nat}{H:Hp}(hx:x<b):∀{akb:Hp},(∀p,p∈akb->b<=p.1)->ah (akb++H) x=ah H x
 | [],_=>rfl
 | (id,o)::r,h=>by
  have:=h (id,o) (by simp)
  simp only[yI];rw[ah,iB (by simp only at this;omega),yS,adF hx (fun p hp=>h p (by simp[hp]))]
def lyT(w:AV)(hh sc st ox oy wx wy:List Nat):AV:=.agg [w,.str hh,.str sc,.str st,.str ox,.str oy,.str wx,.str wy]
def anZ{a:Int}{l:List Int}:bP (a::l)=0↔a=0/\bP l=0:=by
 simp only[bP]
 grind
section
open Go (IntKind)
open Ieee
section
variable {k:Int}{n:Nat}
def aBb{b:Nat}{s:Bool}(h:Fl b s M)(h0:M≠0):∃b',binOp .sub (.an .f32 0) (.an .f32 b)=GR (.an .f32 b')/\Fl b' (!s) M:=by
 obtain⟨m,e,h1,rfl⟩:=h.ex;obtain⟨b1,b2,b3,b4⟩:=h1.b;have m0:m≠0:=fun q=>h0 (by unfold cV;rw[q,wo])
 obtain⟨m',e',k1,k2,k3⟩:=CT (n:=m) (k:=e) m0 b2 b1 b4 (m0:=cV m e) (e0:= -149) (!s) (by
  rw[zM b1]
  have:p2 149*p2 (-149)=1:=by rw[<-eY];exact pW
  rw[wv,this,wJ])
 have e1:single.sub 0 b=GR (single.write (.number (!s) (cV m e) (-149))):=by
  unfold Format.sub;rw[h1.read,show single.read 0=.number ydC 0 (-149) by decide];show GR (single.write (.number (if signed ydC 0 ((-149:Int)-min (-149) e).toNat+signed (!s) m (e-min (-149) e).toNat=0 then ydC&&(!s) else decide (signed ydC 0 ((-149:Int)-min (-149) e).toNat+signed (!s) m (e-min (-149) e).toNat<0)) (signed ydC 0 ((-149:Int)-min (-149) e).toNat+signed (!s) m (e-min (-149) e).toNat).natAbs (min (-149) e)))=_
  have hm:min (-149) e= -149:=by omega
  have hs:signed ydC 0 ((-149:Int)-min (-149) e).toNat+signed (!s) m (e-min (-149) e).toNat=bj (!s) (cV m e):=by
   rw[hm];unfold signed cV bj;simp only[yD,xv,ud,wo];rw[show e - -149=e+149 by omega];cases s<;>simp
  rw[hs,hm];have ha:(bj (!s) (cV m e)).natAbs=cV m e:=by unfold bj;split<;>omega
  rw[ha,yq (by unfold bj;split<;>omega)]
  congr 3
  unfold bj
  cases s with
  | true=>exact yJ (by simp)
  | false=>exact yZ (by simp;omega)
 refine⟨_,?_,m',e',k1,(Ww k1.b.1 b1 k3).symm⟩;show (match single.sub 0 b with | some b=>GR (AV.an .f32 b) | none=>none)=_
 rw[e1]
def ayM{i:Nat}(hn:n<=16777216)(hi:i<=251\/(i<=252/\n<16777216)):n*2^i<2^276:=by
 rcases hi with h | ⟨h,h2⟩
 .have:=y8 hn (xc (n:=2) (by decide) h)
  exact xL this (Xa 16777216 25 251 276 (by decide) rfl)
 .have:=y8 (show n<=16777215 by omega) (xc (n:=2) (by decide) h)
  exact xL this (Xa 16777215 24 252 276 (by decide) rfl)
def ayN(hn:n<=16777216)(hk:k<=104)(EC:n=16777216->k<104):
  cG P L [1,5,6] Lr (fun d st=>∃(b i:Nat),(i:Int)+d=max k 0/\Fl b ydC (n*2^(149+i))/\st=⟨[(1,aa k),(5,.an .f32 b),(6,aa i)],[],0,0⟩) (fun ex s'=>∃tm ct b,s'=⟨tm,[],ct,0⟩/\ex=.exit 0/\Fl b ydC (n*2^(149+(max k 0).toNat))/\ak tm 1=aa k/\ak tm 5=.an .f32 b):=by
 apply cI;rintro d st ⟨b,i,hd,hN,rfl⟩;by_cases c:(i:Int)<k
 .left
  obtain⟨b',e1,aS⟩:=Xb hN (ayM hn (by
   by_cases q:n=16777216
   .have:=EC q;left;omega
   .right;omega))
  have wi:IntKind.wrap .i64 ((i:Int)+1)=((i+1:Nat):Int):=wrap64 (by omega) (by omega);simp only[go_sem,ya,Lr,c,yp,e1,wi]
  refine⟨_,d-1,rfl,by omega,b',i+1,by omega,by
   rw[show 149+(i+1)=(149+i)+1 by omega,xh,<-xf,xd];exact aS,?_⟩
  simp only[go_sem,ya,aq,mg,mo]<;>rfl
 .right
  have hi:(max k 0).toNat=i:=by omega
  simp only[go_sem,ya,Lr,c,yt];exact⟨_,_,rfl,by simp,_,_,b,rfl,rfl,by rw[hi];exact hN,by simp only[go_sem,ya],by simp only[go_sem,ya]⟩
def ayO(gC: -149<=k)(hk:k<=104):
  cG P L [1,5,7] Ls (fun d st=>∃(b:Nat) (i:Int),i-d=min k 0/\i<=0/\Fl b ydC (n*2^(149+i+max k 0).toNat)/\st=⟨[(1,aa k),(5,.an .f32 b),(7,aa i)],[],0,0⟩) (fun ex s'=>∃tm ct b,s'=⟨tm,[],ct,0⟩/\ex=.exit 2/\Fl b ydC (n*2^(149+k).toNat)/\ak tm 5=.an .f32 b):=by
 apply cI;rintro d st ⟨b,i,hd,eV,hN,rfl⟩;by_cases c:k<i
 .left
  obtain⟨t,ht⟩:∃t,(149+i+max k 0).toNat=t+1:=⟨(148+i+max k 0).toNat,by omega⟩;rw[ht,xh,<-xf] at hN;obtain⟨b',e1,aS⟩:=Xc hN (by omega);rw[uh _ (by decide)] at aS;have wi:IntKind.wrap .i64 (i-1)=i-1:=wrap64 (by omega) (by omega);simp only[go_sem,ya,Ls,c,yp,e1,wi];refine⟨_,d-1,rfl,by omega,b',i-1,by omega,by omega,by rw[show (149+(i-1)+max k 0).toNat=t by omega];exact aS,?_⟩
  simp only[go_sem,ya,aq,mg,mo]<;>rfl
 .right
  simp only[go_sem,ya,Ls,c,yt];exact⟨_,_,rfl,by simp,_,_,b,rfl,rfl,by rw[show (149+k).toNat=(149+i+max k 0).toNat by omega];exact hN,by simp only[go_sem,ya]⟩
def akc(SJ:Has P L 390 RY)(hn:n<=16777216)(gC: -149<=k)(hk:k<=104)(EC:n=16777216->k<104):∃b,ab P L 390 [aa n,aa k] (.an .f32 b)/\Fl b ydC (n*2^(149+k).toNat):=by
 obtain⟨b0,e0,cU⟩:=Wx (n:=(n:Int)) (by omega);rw[xV,yJ (show ¬(n:Int)<0 by omega)] at cU;have l0:=ayN (P:=P) (L:=L) hn hk EC (max k 0).toNat;have l1:=ayO (P:=P) (L:=L) (n:=n) gC hk (-(min k 0)).toNat;unfold ab;rw[aB SJ];simp only[go_sem,ya,RY,e0];generalize hq:D P L (.loop _ Lr) _=q;obtain⟨ex,st,rfl,tm,ct,b1,rfl,rfl,jh,t1,t5⟩:=bt hq l0 ⟨b0,0,by omega,cU,by simp only[go_sem,ya,aq,mg,mo]<;>rfl⟩
 simp only[go_sem,aq,t1,t5,mg,mo];generalize hq:D P L (.loop _ Ls) _=q;obtain⟨ex,st,rfl,tm,ct,b2,rfl,rfl,ns,u5⟩:=bt hq l1 ⟨b1,0,by omega,by omega,by rw[show (149+(0:Int)+max k 0).toNat=149+(max k 0).toNat by omega];exact jh,by simp only[go_sem,ya,aq,mg,mo]<;>rfl⟩
 refine⟨b2,?_,ns⟩;simp only[go_sem,aq,u5,mg,mo];rfl
end
end
section
open Go (IntKind)
open Ieee
def U2(q:Rat):0<=b7 q.num↔0<=q:=by
 rw[<-Rat.num_nonneg];unfold b7;constructor
 .intro h;split at h<;>omega
 .intro h;split
  .omega
  .split<;>omega
def EQ(q:Rat):b7 q.num<0↔q<0:=by
 have h:=U2 q;constructor
 .intro c;exact tc.1 fun q'=>by have:=h.2 q';omega
 .intro c;exact Int.not_le.1 fun q'=>absurd (h.1 q') (tc.2 c)
def Vu(q:Rat):(-q).num= -q.num:=rfl
def acL(q:Rat):0<b7 q.num↔0<q:=by
 have h:=EQ (-q);rw[Vu] at h;have h2:0<b7 q.num↔b7 (-q.num)<0:=by
  unfold b7;constructor
  .intro c;split at c
   .omega
   .split at c
    .omega
    .rw [yC (by omega)];decide
  .intro c;split at c
   .rw [yq (by omega),yq (by omega)];decide
   .split at c<;>omega
 rw[h2,h];constructor
 .intro c;grind
 .intro c;grind
def acM(q:Rat):b7 q.num=0↔q=0:=by
 have h1:=acL q;have h2:=EQ q;constructor
 .intro c;have a1:¬0<q:=fun x=>by have:=h1.2 x;omega
  have a2:¬q<0:=fun x=>by have:=h2.2 x;omega
  exact Rat.le_antisymm (uC.1 a1) (uC.1 a2)
 .rintro rfl;decide
structure KP(a:Rat)(k:Int):Prop where
 lo: -149<=k
 lt:a*p2 (-k)<16777216
 ge:8388608<=a*p2 (-k)\/k= -149
def nR(y:Rat):Nat:=if fG<y-(y.floor.toNat:Rat)\/(y-(y.floor.toNat:Rat)=fG/\y.floor.toNat%2=1) then y.floor.toNat+1 else y.floor.toNat
def aeN(a:Rat)(k:Int):a*p2 (-(k+1))=a*p2 (-k)*fG:=by
 rw[show -(k+1)= -k+ -1 by omega,eY]
 have:p2 (-1)=fG:=by
  have h:=HK 1;rw[sU] at h;have h2:fG*2=1:=by decide+kernel
  have h3:p2 (-1)*2*fG=fG:=by rw[h,tn]
  rw[wv,yav 2 fG,h2,wJ] at h3;exact h3
 rw[this];grind
def adG(a:Rat)(k:Int):a*p2 (-(k-1))=a*p2 (-k)*2:=by
 rw[show -(k-1)= -k+1 by omega,eY,sU];grind
def ayP:RT (16777216:Rat)=[49,54,55,55,55,50,49,54]:=by decide+kernel
def ayQ:RT (8388608:Rat)=[56,51,56,56,54,48,56]:=by decide+kernel
def Qx{n:Nat}(h:n<2^K)(hK:1<=K):Hq K ((n:Nat):Rat):=
 ⟨by show Bd K (((n:Nat):Int):Rat).num;rw[vL];unfold Bd;rw[xV];exact h,by show Bd K ((((n:Nat):Int):Rat).den:Int);rw[vz];unfold Bd;exact vA (by omega)⟩
structure Fz(P:aE)(L:Lib):Prop extends Fy0 P L where
 F6:Has P L 315 RW
 Zp:Has P L 319 RX
 Zs:Has P L 336 MC
 DV:Has P L 338 FW
 Iu:Has P L 339 FX
 Zu:Has P L 340 MD
 Iv:Has P L 388 dG
 SJ:Has P L 390 RY
def ayR(h:Fz P L)(ka:Hq 2600 a)(ha:a<p2 128):
  cG P L [0,6] Lq (fun d st=>∃(i:Nat),i+d=104/\(i≠0->8388608<=a*p2 (-(i:Int)))/\st=⟨[(0,.str (RT (a*p2 (-(i:Int))))),(6,aa i)],[],0,0⟩) (fun ex s'=>∃tm ct,∃i:Nat,s'=⟨tm,[],ct,0⟩/\ex=.exit 0/\i<=104/\a*p2 (-(i:Int))<16777216/\(i≠0->8388608<=a*p2 (-(i:Int)))/\ak tm 0=.str (RT (a*p2 (-(i:Int))))/\ak tm 6=aa i):=by
 apply cI;rintro d st ⟨i,hd,mF,rfl⟩;have ky:Hq 3602 (a*p2 (-(i:Int))):=(ka.mul (Cw (-(i:Int)) (by omega))).mono (by decide);have kb:Hq 25 (16777216:Rat):=Qx (n:=16777216) (by decide) (by decide);have e1:=M7 h.toRp h.F6 ky kb (by decide);rw[ayP] at e1;have hc:=U2 (a*p2 (-(i:Int))-16777216);by_cases c:a*p2 (-(i:Int))<16777216
 .right
  have hn:¬0<=b7 (a*p2 (-(i:Int))-16777216).num:=fun q=>by have:=hc.1 q;grind
  unfold ab at e1;simp only[go_sem,Lq,e1,hn,yt];exact⟨_,_,rfl,by simp,_,_,i,rfl,rfl,by omega,c,mF,by simp only[go_sem,ya],by simp only[go_sem,ya]⟩
 .left
  have hp:0<=b7 (a*p2 (-(i:Int))-16777216).num:=hc.2 (by grind);have hi:i<104:=by
   rcases vn i 104 with q | q
   .exact q
   .exfalso
    have:i=104:=by omega
    subst this;have h1:a*p2 (-((104:Nat):Int))<p2 128*p2 (-((104:Nat):Int)):=(wK (nD _)).2 ha;rw[<-eY] at h1;have h2:p2 (128+ -((104:Nat):Int))=16777216:=fP 24;rw[h2] at h1;exact c h1
  have e2:=aDw h.toRn h.Zp ky (by decide);rw[<-aeN] at e2;have wi:IntKind.wrap .i64 ((i:Int)+1)=((i+1:Nat):Int):=wrap64 (by omega) (by omega);unfold ab at e1 e2;simp only[go_sem,ya,Lq,e1,hp,yp,e2,wi];refine⟨_,d-1,rfl,by omega,i+1,by omega,fun _=>?_,?_⟩
  .rw [show ((i+1:Nat):Int)=(i:Int)+1 from rfl,aeN];have hh:fG=1/2:=by decide+kernel
   rw[hh];grind
  .simp only [go_sem,ya,aq]<;>rfl
def ayS(h:Fz P L)(ka:Hq 2600 a):
  cG P L [0,6] Ht (fun d st=>∃(k:Int),k-d= -149/\k<=104/\a*p2 (-k)<16777216/\st=⟨[(0,.str (RT (a*p2 (-k)))),(6,aa k)],[],0,0⟩) (fun ex s'=>∃tm ct,∃k:Int,s'=⟨tm,[],ct,0⟩/\ex=.exit 2/\KP a k/\k<=104/\ak tm 0=.str (RT (a*p2 (-k)))/\ak tm 6=aa k):=by
 apply cI;rintro d st ⟨k,hd,hk,aG,rfl⟩;have ky:Hq 3602 (a*p2 (-k)):=(ka.mul (Cw (-k) (by omega))).mono (by decide);have kb:Hq 24 (8388608:Rat):=Qx (n:=8388608) (by decide) (by decide);have e1:=M7 h.toRp h.F6 ky kb (by decide);rw[ayQ] at e1;have hc:=EQ (a*p2 (-k)-8388608);unfold ab at e1;by_cases c:a*p2 (-k)<8388608
 .have hn:b7 (a*p2 (-k)-8388608).num<0:=hc.2 (by grind);by_cases c2: -149<k
  .left
   have e2:=HS h.toRn ky LK (by decide);rw[agE,<-adG] at e2;have wi:IntKind.wrap .i64 (k-1)=k-1:=wrap64 (by omega) (by omega);unfold ab at e2;simp only[go_sem,ya,Ht,e1,hn,c2,yp,e2,wi];refine⟨_,d-1,rfl,by omega,k-1,by omega,by omega,by rw[adG];grind,?_⟩
   simp only[go_sem,ya,aq]<;>rfl
  .right
   simp only[go_sem,ya,Ht,e1,hn,c2,yp,yt];exact⟨_,_,rfl,by simp,_,_,k,rfl,rfl,⟨by omega,aG,.inr (by omega)⟩,hk,by simp only[go_sem,ya],by simp only[go_sem,ya]⟩
 .right
  have hn:¬b7 (a*p2 (-k)-8388608).num<0:=fun q=>by have:=hc.1 q;grind
  simp only[go_sem,ya,Ht,e1,hn,yt];exact⟨_,_,rfl,by simp,_,_,k,rfl,rfl,⟨by omega,aG,.inl (uC.1 c)⟩,hk,by simp only[go_sem,ya],by simp only[go_sem,ya]⟩
end
section
open Go (IntKind)
open Ieee
section
variable {a y:Rat}
def ayT{k j:Int}(h1:KP a k)(h2:KP a j):k=j:=by
 have key:∀{k j:Int},KP a k->KP a j->k<j->False:=fun {k j} h1 h2 aG=>by
  rcases h2.ge with g | g
  .obtain ⟨d,hd⟩:∃d:Nat,j=k+1+d:=⟨(j-k-1).toNat,by omega⟩;have e:a*p2 (-k)=a*p2 (-j)*p2 ((d+1:Nat):Int):=by
    rw[wv,<-eY,show -j+((d+1:Nat):Int)= -k by omega]
   have h3:=h1.lt;rw[e,fP] at h3;have h4:(2:Rat)<=((2^(d+1):Nat):Rat):=by
    have:2<=2^(d+1):=by
     have:=xc (n:=2) (by decide) (show 1<=d+1 by omega)
     simpa using this
    exact_mod_cast this
   have h5:(8388608:Rat)*2<=a*p2 (-j)*((2^(d+1):Nat):Rat):=by
    have q1:(8388608:Rat)*2<=(a*p2 (-j))*2:=Rat.mul_le_mul_of_nonneg_right g (by decide);have q2:(a*p2 (-j))*2<=(a*p2 (-j))*((2^(d+1):Nat):Rat):=Rat.mul_le_mul_of_nonneg_left h4 (ydb (by decide) g);exact ydb q1 q2
   grind
  .have:=h1.lo;omega
 rcases uQ k j with c | c | c
 .exact (key h1 h2 c).elim
 .exact c
 .exact (key h2 h1 c).elim
def NF(a:Rat)(o:Option Nat):Prop:=
 (p2 128<=a/\o=none)\/(a<p2 128/\∃k,KP a k/\k<=104/\((nR (a*p2 (-k))=16777216/\k=104/\o=none)\/(¬(nR (a*p2 (-k))=16777216/\k=104)/\o=GR (nR (a*p2 (-k))*2^(149+k).toNat))))
def agG{o q:Option Nat}(h1:NF a o)(h2:NF a q):o=q:=by
 rcases h1 with ⟨a1,rfl⟩ | ⟨a1,k,k1,k2,k3⟩
 .rcases h2 with ⟨_,rfl⟩ | ⟨b1,_⟩
  .rfl
  .exact absurd a1 (tc.2 b1)
 .rcases h2 with ⟨b1,rfl⟩ | ⟨b1,j,j1,j2,j3⟩
  .exact absurd b1 (tc.2 a1)
  .have:=ayT k1 j1
   subst this;rcases k3 with ⟨x1,x2,rfl⟩ | ⟨x1,rfl⟩
   .rcases j3 with ⟨_,_,rfl⟩ | ⟨y1,rfl⟩
    .rfl
    .exact absurd ⟨x1,x2⟩ y1
   .rcases j3 with ⟨y1,y2,rfl⟩ | ⟨_,rfl⟩
    .exact absurd ⟨y1,y2⟩ x1
    .rfl
def Vv(h:0<=y):((y.floor.toNat:Nat):Int)=y.floor:=by
 have:0<=y.floor:=yci.2 h
 omega
def VZ(h0:0<=y)(h:y<16777216):y.floor.toNat<16777216:=by
 have h1:=Vv h0;have h2:((y.floor:Int):Rat)<=y:=ydc y;have h3:((y.floor:Int):Rat)<((16777216:Int):Rat):=by
  have:((16777216:Int):Rat)=16777216:=rfl
  grind
 have:y.floor<16777216:=uS.1 h3
 omega
def ail(h0:0<=y)(h:y<16777216):nR y<=16777216:=by
 have:=VZ h0 h
 unfold nR;split<;>omega
def aeO(h0:0<=y)(h:y<fG):nR y=0:=by
 have hh:fG=1/2:=by decide+kernel
 have hf:y.floor=0:=by
  have h1:0<=y.floor:=yci.2 h0;have h2:((y.floor:Int):Rat)<=y:=ydc y;have h3:((y.floor:Int):Rat)<((1:Int):Rat):=by
   rw[hh] at h
   have:((1:Int):Rat)=1:=rfl
   grind
  have:y.floor<1:=uS.1 h3
  omega
 unfold nR;rw[hf];rw[yq]
 .rfl
 .intro q;have e:((Int.toNat 0:Nat):Rat)=0:=rfl;rw[e] at q;rcases q with q | ⟨q,_⟩<;>grind
def agH(h:Fz P L)(ka:Hq 2600 a)(h0:0<=a):∃o,NF a o/\(match o with
  | none=>ab P L 388 [.str (RT a)] (.av [.an .f32 0,.bool ydC])
  | some M=>∃b,Fl b ydC M/\ab P L 388 [.str (RT a)] (.av [.an .f32 b,.bool ydB])):=by
 have e0:=Q7 h.toRm (a:=a) ka (by decide);have hs:¬b7 a.num<0:=fun q=>absurd ((EQ a).1 q) (uC.2 h0)
 have e1:=X4 h.toFy0 (k:=128) (by decide) (by decide);have e2:=M7 h.toRp h.F6 ka (Cw 128 (by decide)) (by decide);have c2:=U2 (a-p2 128);unfold ab at e0 e1 e2;by_cases c:p2 128<=a
 .refine ⟨none,.inl ⟨c,rfl⟩,?_⟩;have hp:0<=b7 (a-p2 128).num:=c2.2 (by grind);show ab P L 388 _ _
  unfold ab;rw[aB h.Iv];simp only[go_sem,ya,dG,e0,hs,yt,e1,e2,hp,yp];rfl
 .have ha:a<p2 128:=tc.1 c;have hp:¬0<=b7 (a-p2 128).num:=fun q=>by have:=c2.1 q;grind
  have e3:=X4 h.toFy0 (k:= -151) (by decide) (by decide);have e4:=M7 h.toRp h.F6 ka (Cw (-151) (by decide)) (by decide);have c4:=EQ (a-p2 (-151));unfold ab at e3 e4;by_cases cs:a<p2 (-151)
  .have hl:b7 (a-p2 (-151)).num<0:=c4.2 (by grind);have hy:a*p2 149<fG:=by
    have h1:a*p2 149<p2 (-151)*p2 149:=(wK (nD _)).2 cs;rw[<-eY] at h1;have h2:p2 (-151+149)*4=1:=by
     have:=HK 2
     rw[show p2 2=4 from fP 2] at this;exact this
    have hh:fG=1/2:=by decide+kernel
    rw[hh];grind
   have ia:0<=a*p2 149:=ycA h0 (uT (nD _));have hn:=aeO ia hy;refine⟨GR 0,.inr ⟨ha,-149,⟨by omega,?_,.inr rfl⟩,by omega,.inr ⟨?_,?_⟩⟩,0,Fl.zero,?_⟩
   .have hh:fG=1/2:=by decide+kernel
    rw[hh] at hy;show a*p2 149<16777216
    grind
   .intro q;exact absurd q.2 (by decide)
   .show GR 0=GR (nR (a*p2 149)*_)
    rw[hn,wo]
   .unfold ab;rw[aB h.Iv];simp only[go_sem,ya,dG,e0,hs,yt,e1,e2,hp,e3,e4,hl,yp];rfl
  .have hl:¬b7 (a-p2 (-151)).num<0:=fun q=>by have:=c4.1 q;grind
   have l0:=ayR h ka ha 104
   have go:∀(k:Int),KP a k->k<=104->∃o,NF a o/\(match o with
     | none=>fS dG.dC (D P L (cJ 6 dG.body) ⟨[(0,.str (RT (a*p2 (-k)))),(6,aa k)],[],0,0⟩)=GR (.av [.an .f32 0,.bool ydC])
     | some M=>∃b,Fl b ydC M/\fS dG.dC (D P L (cJ 6 dG.body) ⟨[(0,.str (RT (a*p2 (-k)))),(6,aa k)],[],0,0⟩)=GR (.av [.an .f32 b,.bool ydB])):=by
    intro k hk jG;have ia:0<=a*p2 (-k):=ycA h0 (uT (nD _));have aY:=hk.lo;have ky:Hq 3602 (a*p2 (-k)):=(ka.mul (Cw (-k) (by omega))).mono (by decide);have aG:=hk.lt;have aJc:=ail ia aG;have GI:∀{o:Option Nat},((nR (a*p2 (-k))=16777216/\k=104/\o=none)\/(¬(nR (a*p2 (-k))=16777216/\k=104)/\o=GR (nR (a*p2 (-k))*2^(149+k).toNat)))->NF a o:=fun q=>.inr ⟨ha,k,hk,jG,q⟩
    have fin:∃o,NF a o/\∀tm:Env,ak tm 6=aa k->ak tm 7=aa (nR (a*p2 (-k)))->(match o with
      | none=>fS dG.dC (D P L (cJ 9 dG.body) ⟨tm,[],0,0⟩)=GR (.av [.an .f32 0,.bool ydC])
      | some M=>∃b,Fl b ydC M/\fS dG.dC (D P L (cJ 9 dG.body) ⟨tm,[],0,0⟩)=GR (.av [.an .f32 b,.bool ydB])):=by
     generalize nR (a*p2 (-k))=n at*
     by_cases z1:n=16777216
     .by_cases z2:k=104
      .refine ⟨none,GI (.inl ⟨z1,z2,rfl⟩),fun tm t6 t7=>?_⟩;simp only[go_sem,ya,dG,cJ,aI,t6,t7,show ((n:Nat):Int)=16777216 by omega,z2,yp];rfl
      .obtain ⟨b,e,hb⟩:=akc (P:=P) (L:=L) h.SJ (n:=n) (k:=k) (by omega) (by omega) (by omega) (fun _=>by omega);refine⟨GR _,GI (.inr ⟨fun q=>z2 q.2,rfl⟩),fun tm t6 t7=>⟨b,hb,?_⟩⟩;have hz:((n:Nat):Int)=16777216:=by omega
       rw[hz] at e;unfold ab at e;simp only[go_sem,ya,dG,cJ,aI,t6,t7,hz,z2,yp,yt,e];rfl
     .obtain ⟨b,e,hb⟩:=akc (P:=P) (L:=L) h.SJ (n:=n) (k:=k) (by omega) (by omega) (by omega) (fun q=>absurd q z1);refine⟨GR _,GI (.inr ⟨fun q=>z1 q.1,rfl⟩),fun tm t6 t7=>⟨b,hb,?_⟩⟩;unfold ab at e;simp only[go_sem,ya,dG,cJ,aI,t6,t7,show ¬((n:Nat):Int)=16777216 by omega,yt,e];rfl
    have nj:=Vv ia;have aDH:=VZ ia aG;have e5:=aDC h.toRm h.Zs h.DV h.Iu ky (by decide);rw[<-nj] at e5;have hR:nR (a*p2 (-k))=if fG<a*p2 (-k)-((a*p2 (-k)).floor.toNat:Rat)\/(a*p2 (-k)-((a*p2 (-k)).floor.toNat:Rat)=fG/\(a*p2 (-k)).floor.toNat%2=1) then (a*p2 (-k)).floor.toNat+1 else (a*p2 (-k)).floor.toNat:=rfl
    generalize (a*p2 (-k)).floor.toNat=n at*
    have e6:=aDG h.toRm h.Zu h.DV (n:=n) (by omega);have e7:=XY h.toRm h.M6 (n:=(n:Int)) (by omega);have kn:Hq 25 (((n:Nat):Int):Rat):=Qx (n:=n) (by omega) (by decide);have e8:=X0 h.toRp ky kn (by decide);have kd:=ky.sub kn;have e9:=M7 h.toRp h.F6 kd Zo (by decide);rw[aj5] at e9;have g1:=acL (a*p2 (-k)-(((n:Nat):Int):Rat)-fG);have g2:=acM (a*p2 (-k)-(((n:Nat):Int):Rat)-fG);have sL:(((n:Nat):Int):Rat)=(n:Rat):=rfl;have r2:Int.tmod (n:Int) 2=((n%2:Nat):Int):=by rw[xK (by omega)];omega
    have w1:IntKind.wrap .i64 ((n:Int)+1)=((n+1:Nat):Int):=wrap64 (by omega) (by omega);obtain⟨o,ho,oN⟩:=fin;refine⟨o,ho,?_⟩;rw[show cJ 6 dG.body=.seq (bD (cJ 6 dG.body)) (.seq (bD (cJ 7 dG.body)) (.seq (bD (cJ 8 dG.body)) (cJ 9 dG.body))) from rfl];generalize cJ 9 dG.body=T at oN ⊢;unfold ab at e5 e6 e7 e8 e9;generalize b7 (a*p2 (-k)-(((n:Nat):Int):Rat)-fG).num=σ at*
    rw[sL] at g1 g2;by_cases d1:0<σ
    .have hn:nR (a*p2 (-k))=n+1:=by rw[hR,yC (.inl (by have:=g1.1 d1;grind))]
     rw[hn] at oN
     have:=fun tm a b=>oN tm a b
     simp only[go_sem,ya,dG,cJ,aI,bD,e5,e6,iA,iw,iz,e7,e8,e9,d1,yp,w1];exact oN _ (by simp only[go_sem,ya]) (by simp only[go_sem])
    .by_cases d2:σ=0
     .have hq:=g2.1 d2;by_cases d3:n%2=1
      .have hn:nR (a*p2 (-k))=n+1:=by rw[hR,yC (.inr ⟨by grind,d3⟩)]
       rw[hn] at oN;simp only[go_sem,ya,dG,cJ,aI,bD,e5,e6,iA,iw,iz,e7,e8,e9,d2,fM _ _ _ (show (2:Int)≠0 by decide),r2,show ((n%2:Nat):Int)=1 by omega,ycR,yp,yt,w1];exact oN _ (by simp only[go_sem,ya]) (by simp only[go_sem])
      .have hn:nR (a*p2 (-k))=n:=by
        rw[hR,yq];rintro (q | ⟨_,q⟩)
        .exact d1 (g1.2 (by grind))
        .exact d3 q
       rw[hn] at oN;simp only[go_sem,ya,dG,cJ,aI,bD,e5,e6,iA,iw,iz,e7,e8,e9,d2,fM _ _ _ (show (2:Int)≠0 by decide),r2,show ¬((n%2:Nat):Int)=1 by omega,ycR,yp,yt];exact oN _ (by simp only[go_sem,ya]) (by simp only[go_sem,ya])
     .have hn:nR (a*p2 (-k))=n:=by
       rw[hR,yq];rintro (q | ⟨q,_⟩)
       .exact d1 (g1.2 (by grind))
       .exact d2 (g2.2 (by grind))
      rw[hn] at oN;simp only[go_sem,ya,dG,cJ,aI,bD,e5,e6,iA,iw,iz,e7,e8,e9,d1,d2,yt];exact oN _ (by simp only[go_sem,ya]) (by simp only[go_sem,ya])
   have cut:dG.body=.seq (bD dG.body) (.seq (bD (cJ 0 dG.body)) (.seq (bD (cJ 1 dG.body)) (.seq (bD (cJ 2 dG.body)) (.seq (bD (cJ 3 dG.body)) (.seq (bD (cJ 4 dG.body)) (.seq (bD (cJ 5 dG.body)) (cJ 6 dG.body))))))):=rfl;have fin:∀{r:AV},fS dG.dC (D P L dG.body ⟨fw 0 [.str (RT a)],[],0,0⟩)=GR r->ab P L 388 [.str (RT a)] r:=fun q=>by
    unfold ab;rw[aB h.Iv];exact q
   suffices hh:∃k,KP a k/\k<=104/\fS dG.dC (D P L dG.body ⟨fw 0 [.str (RT a)],[],0,0⟩)=fS dG.dC (D P L (cJ 6 dG.body) ⟨[(0,.str (RT (a*p2 (-k)))),(6,aa k)],[],0,0⟩) by
    obtain⟨k,k1,k2,k3⟩:=hh;obtain⟨o,ho,hm⟩:=go k k1 k2;refine⟨o,ho,?_⟩
    cases o with
    | none=>exact fin (k3.trans hm)
    | some M=>
     obtain⟨b,hb,hm⟩:=hm;exact⟨b,hb,fin (k3.trans hm)⟩
   rw[cut];generalize cJ 6 dG.body=T;simp only[go_sem,ya,dG,cJ,aI,bD,e0,hs,yt,e1,e2,hp,e3,e4,hl];generalize hq:D P L (.loop _ Lq) _=q;obtain⟨ex,st,rfl,tm,ct,i,rfl,rfl,i1,i2,i3,t0,t6⟩:=bt hq l0 ⟨0,by omega,fun q=>absurd rfl q,by rw[show a*p2 (-((0:Nat):Int))=a by rw[show -((0:Nat):Int)=0 by omega,pW,wJ]];simp only[go_sem,ya,aq]<;>rfl⟩
   simp only[go_sem,aq,t0,t6];generalize hq:D P L (.loop _ Ht) _=q;have l1:=ayS (P:=P) (L:=L) h ka (a:=a) (i+149);obtain⟨ex,st,rfl,tm,ct,k,rfl,rfl,k1,k2,u0,u6⟩:=bt hq l1 ⟨(i:Int),by omega,by omega,i2,by simp only[go_sem,ya,aq]<;>rfl⟩
   refine⟨k,k1,k2,?_⟩;simp only[go_sem,aq,u0,u6]
end
end
section
open Go (IntKind)
open Ieee
def Vw(b:Nat):bN (.an .f32 b)=.an .f32 b:=rfl
def dH(a:Rat):Rat:=if a<0 then -a else a
def lC(a:Rat)(M:Nat):Bool:=decide (a<0)&&decide (M≠0)
def aDI(h:Fz P L)(ka:Hq 2600 a):∃o,NF (dH a) o/\(match o with
  | none=>ab P L 388 [.str (RT a)] (.av [.an .f32 0,.bool ydC])
  | some M=>∃b,Fl b (lC a M) M/\ab P L 388 [.str (RT a)] (.av [.an .f32 b,.bool ydB])):=by
 by_cases c:a<0
 .have e0:=Q7 h.toRm (a:=a) ka (by decide);have hs:b7 a.num<0:=(EQ a).2 c;have e1:=XZ h.toRp ka (by decide);have kn:Hq 2600 (-a):=⟨by rw[Vu];unfold Bd;rw[Int.natAbs_neg];exact ka.1,ka.2⟩
  obtain⟨o,ho,hm⟩:=agH h kn (by grind);refine⟨o,by unfold dH;rw[yC c];exact ho,?_⟩
  have ez:=Q4 Fl.zero Fl.zero;rw[yZ rfl] at ez;unfold ab at e0 e1
  cases o with
  | none=>
   have e2:ab P L 388 [.str (RT (-a))] (.av [.an .f32 0,.bool ydC]):=hm;show ab P L 388 _ _
   unfold ab at e2;unfold ab;rw[aB h.Iv];simp only[go_sem,ya,dG,e0,hs,yp,e1,e2,iA,iw,iz,Vw,ez];rfl
  | some M=>
   obtain⟨b,hb,e2⟩:=hm;show ∃b,Fl b (lC a M) M/\ab P L 388 _ _
   have hz:=Q4 hb Fl.zero;unfold ab at e2;by_cases m0:M=0
   .subst m0;rw[yZ rfl] at hz;refine⟨0,by rw[show lC a 0=ydC by unfold lC;simp];exact Fl.zero,?_⟩
    unfold ab;rw[aB h.Iv];simp only[go_sem,ya,dG,e0,hs,yp,e1,e2,iA,iw,iz,Vw,hz];rfl
   .rw [yJ (show ¬bj ydC M=bj ydC 0 by show ¬(M:Int)=((0:Nat):Int);omega)] at hz;obtain⟨b',e3,aS⟩:=aBb hb m0;refine⟨b',by rw[show lC a M=ydB by unfold lC;rw[yZ c,yZ m0];rfl];exact aS,?_⟩
    unfold ab;rw[aB h.Iv];simp only[go_sem,ya,dG,e0,hs,yp,e1,e2,iA,iw,iz,Vw,hz,e3];rfl
 .obtain ⟨o,ho,hm⟩:=agH h ka (uC.1 c);refine⟨o,by unfold dH;rw[yq c];exact ho,?_⟩
  cases o with
  | none=>exact hm
  | some M=>
   obtain⟨b,hb,e⟩:=hm;exact⟨b,by rw[show lC a M=ydC by unfold lC;rw[yJ c];rfl];exact hb,e⟩
end
end VE
