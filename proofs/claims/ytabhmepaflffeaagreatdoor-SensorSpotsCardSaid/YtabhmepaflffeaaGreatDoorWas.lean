import Ieee.Arith
import Derived.Test.YtabhmepaflffeaaGreatDoorWaq
set_option linter.all false
set_option maxRecDepth 100000
open Bool renaming and_eq_true->yf,and_self->wg,and_true->uk,false_and->wH,false_eq_true->yH,false_or->vT,not_false->yY,not_true->yO,toNat_false->ybV,true_and->wI,true_eq_false->ybC,true_or->uN,xor_false->ycn
open Int renaming add_zero->ycT,gcd->vA,le_of_lt->tM,le_refl->ydj,lt_trichotomy->uT,mul_add->ydm,mul_le_mul->ycx,mul_le_mul_of_nonneg_left->uR,mul_neg->ydl,mul_nonneg->tW,natAbs_ediv_of_dvd->tv,natAbs_natCast->xG,natCast_add->yak,natCast_ediv->yce,natCast_mul->xx,natCast_nonneg->yaI,neg_neg->yaE,ofNat_eq_natCast->ybx,ofNat_le->ycY,ofNat_lt->tL,pow_pos->ydn,pow_succ->yaq,sub_self->ycV,tdiv_eq_ediv_of_nonneg->xV,tmod_eq_emod_of_nonneg->xN,toNat_natCast->wY,toNat_of_nonneg->ybB,zero_add->ycW
open Int.ofNat renaming inj->yay
open List renaming append_assoc->xM,append_nil->wu,cons_append->xe,drop->uh,drop_drop->vV,drop_eq_getElem_cons->yS,drop_eq_nil_of_le->xb,drop_left->yaJ,drop_zero->yg,eq_nil_of_length_eq_zero->yD,getD_eq_getElem?_getD->y9,getElem?_eq_getElem->xu,getElem_cons_zero->wX,length_append->yW,length_cons->yB,length_drop->wh,length_map->yU,length_nil->yM,length_pos_iff->tx,length_take->yP,map_append->xB,map_cons->yV,map_nil->wJ,mem_cons->xP,nil_append->xt,replicate->yk,set_eq_of_length_le->yaS,take_append_drop->wo,take_left->tV,take_length->xR,take_of_length_le->yK,take_set->yaT
open List.cons renaming injEq->uG
open Nat renaming add_assoc->td,add_comm->vU,add_mod_left->ycg,add_mul->we,add_zero->y7,beq->yt,ble->yJ,ble_eq_true_of_le->yz,blt->yQ,div_add_mod->xL,div_eq_of_lt->xU,div_le_self->vD,div_lt_iff_lt_mul->xH,div_pos->ydk,eq_of_beq_eq_true->yi,eq_zero_or_pos->xj,gcd->wU,gcd_comm->yai,le_log2->ydi,le_mul_of_pos_left->uz,le_mul_of_pos_right->tD,le_of_ble_eq_true->yA,le_of_lt_succ->uf,le_of_not_lt->ycc,le_refl->yx,le_trans->xi,log2->ycw,log2_lt->ybw,lt_log2_self->ych,lt_of_le_of_lt->xQ,lt_of_lt_of_le->yI,lt_or_ge->vv,lt_trans->vG,min_eq_left->xo,mod_add_div->uF,mod_eq_of_lt->yR,mod_eq_zero_of_dvd->ybi,mod_lt->xE,mul_add->xJ,mul_add_div->tA,mul_add_mod->yal,mul_assoc->xk,mul_comm->xg,mul_div_cancel->tk,mul_dvd_mul_left->yby,mul_le_mul->yZ,mul_le_mul_left->y5,mul_le_mul_right->yX,mul_lt_mul''->yax,mul_lt_mul_of_pos_right->xZ,mul_mod_left->tC,mul_one->yh,mul_pos->wV,mul_zero->xI,ne_of_gt->uU,not_lt_zero->ybp,one_dvd->ydq,one_lt_two_pow->vP,one_shiftLeft->ybU,pow_add->xF,pow_le_pow_left->um,pow_le_pow_right->y8,pow_lt_pow_iff_right->uB,pow_lt_pow_right->vE,pow_mul->yaD,pow_pos->ycl,pow_succ->xp,pow_zero->vX,reduceAdd->yb,reduceEqDiff->ya,reduceLT->yG,reduceLeDiff->yq,reduceMul->xv,shiftLeft_eq->uK,succ_mul->ycU,two_pow_pos->xf,zero_add->ye,zero_le->tG,zero_mul->wz
open Option.some renaming injEq->yc
open Rat renaming den_intCast->vt,den_pow->ydp,divInt->wW,floor_def->yaX,intCast_neg->uW,lt_irrefl->ud,mul_assoc->wF,mul_comm->ybh,mul_lt_mul_right->wP,mul_one->wO,natCast_mul->xK,num_eq_zero->ycm,num_intCast->vI,num_pow->ydo,one_mul->tn,zpow_natCast->tE,zpow_neg->ycX
open Option renaming some->Gr
open Bool renaming true->ydy,false->ydz
namespace VE
open Go (IntKind)
variable {P:aF}{L:Lib}
variable{v:AV}{tm:Env}{hp:Hp}{S Y bo e0 x:Int}{a out vs:List Int}{A K M N V ct d m0 u0 u1 u2:Nat}
def anP:∀(cs:List AV) (l:List Nat),Az cs=Gr l->cs=l.map uc/\lo 18446744073709551616 l:=by
 intro cs
 induction cs with
 | nil=>
  intro l h;simp only[Az,yc] at h;subst h;exact⟨rfl,fun _ h=>by cases h⟩
 | cons c cs ih=>
  intro l h;unfold Az at h
  split at h
  .grind
  .rename_i d r zY;cases zY
   cases hb:yQ d 18446744073709551616 with
   | false=>rw[hb] at h;cases h
   | true=>
    rw[hb] at h
    cases hw:Az cs with
    | none=>rw[hw] at h;cases h
    | some l'=>
     rw[hw] at h;cases h;have⟨k1,k2⟩:=ih l' hw;refine⟨by rw[k1];rfl,fun x hx=>?_⟩
     rcases xP.1 hx with rfl | hx
     .simp_all
     .exact k2 x hx
  .cases h
def acR:∀{l:List Nat},Di l=ydy->iW l
 | [],h=>by cases h
 | [a],h=>by
  have h0:a≠0:=fun e=>by subst e;cases h
  exact Gy h0 []
 | a::b::r,h=>by
  have h1:eG (b::r)=b::r:=acR (l:=b::r) h;show eG (a::(b::r))=_
  simp only[eG] at h1 ⊢;rw[h1]
def atS(h:Has P L 99 F6)(Yo:L.pure 135=Gr LC){s:Int}(hs:Df s=ydy):bO P L (D P L) 99 [.agg [aa s,.aj]]=Gr (.str (bc s)):=by
 have e1:bO P L (D P L) 135 [aa s]=Gr (.str (bc s)):=by
  rw[jF Yo];show (bif Df s then Gr (AV.str (bc s)) else none)=_
  rw[hs];rfl
 rw[aD h];simp only[go_sem,ya,yb,F6,aQ,aX,ye,cP,iM,eI,e1]
section
open Go
variable {O:bC}
def apm(hO:iZ O)(hN:Nu O.prog O.aJ)(Yo:O.aJ.pure 135=Gr LC)(FL:O.aJ.pure 138=Gr Cz)(BZ:O.aJ.pure 139=Gr CR)(ID:Has O.prog O.aJ 99 F6){fn:Func}{c:Code}(mQ:O.P.funcs[O.ae 99]? =Gr fn)(kE:fn.body=Gr c)(Ss:fn.ntmps=69)(Yl:RZ 5 c)(ht:Vy O.P c):∀aw r,PE aw=Gr r->eJ O 99 aw r:=by
 intro aw r h;unfold PE at h
 split at h
 .rename_i s
  cases hs:Df s with
  | false=>rw[hs] at h;cases h
  | true=>
   rw[hs] at h;cases h;have⟨k,hk⟩:=aft (atS (P:=O.prog) (L:=O.aJ) ID Yo hs);exact sound hO hk
 .rename_i s e n cs
  cases hw:Az cs with
  | none=>rw[hw] at h;cases h
  | some l=>
   rw[hw] at h;simp only at h
   cases hb:(yt l.length n&&(yJ n 4000000000&&(Di l&&yJ 9223372036854775808 (AS l)))) with
   | false=>rw[hb] at h;cases h
   | true=>
    rw[hb] at h;simp only[yf] at hb;have⟨h1,h2,h3,h4⟩:=hb;obtain⟨rfl,aZ⟩:=anP cs l hw;have h1:=yi h1;subst h1;have h2:=yA h2;have h4:=yA h4;have h3:=acR h3;rw[Vw] at h4 h;have aG:=nc aZ;have key:=fun (s z:Int) (hz:z.natAbs=bv 18446744073709551616 l) (hs:s=if z<0 then -1 else 1)=>
     arq hO hN FL BZ ID.code mQ kE Ss Yl ht (s:=s) (z:=z) (e:=e) (l:=l) (.inr ⟨e,l,rfl,aZ,h3,hz.symm,hs,by lia⟩) (by lia) h2 (by lia)
    split at h
    .cases h
     have:=key 1 (bv 18446744073709551616 l:Nat) (by simp) (by rw[yp (by lia)])
     exact this
    .cases h
     have:=key (-1) (-(bv 18446744073709551616 l:Nat):Int) (by simp) (by rw[yE (by lia)])
     rw[oO (by lia)] at this
     grind
    .cases h
 .cases h
end
section
open Go
def Ll(L:Lib)(n:Nat)(sp:List AV->Option AV):Lib:=⟨fun i=>bif yt i n then Gr sp else L.pure i,L.heap⟩
def Uy{O:bC}(hO:iZ O){n:Nat}{sp:List AV->Option AV}(h:∀aw r,sp aw=Gr r->eJ O n aw r):iZ (O.rN (Ll O.aJ n sp)) where
 hint:=hO.hint
 mixed:=hO.mixed
 prog:=hO.prog
 aJ i SD aw r hi hs:=by
  show eJ O i aw r
  simp only[Ll] at hi
  cases hb:yt i n with
  | true=>
   simp_all
  | false=>
   rw[hb] at hi;exact hO.aJ i SD aw r hi hs
 Hw i SD hp ct aw v ap aO hi hs:=acC (hO.Hw i SD hp ct aw v ap aO hi hs)
end
def Ku(n:Nat):10^n<=2^(4*n):=by
 rw[yaD];exact um (by decide) n
def acS{b:Nat}{r:List Nat}(h:dt (b::r)=ydy):48<=b/\b<=57:=by
 simp only[dt,yf] at h
 simp_all
def afK(h:Tx P L){ds:List Nat}(hD:cQ ds 0=Gr N)(hl:ds.length<=4000000000){neg:Bool}{o1 o2:AV}:
  cE P L [0,2,3,4] GS (fun m st=>∃(pre rest:List Nat) (a:Nat) (s:Int) (w:AV),st=⟨[(0,.str rest),(2,.ptr 0 0),(3,.bool neg),(4,.ptr 1 0)],[(1,.cells ydy ydy ydy 2 [aa s,w]),(0,.cells ydy ydy ydy 2 [o1,o2])],2,0⟩/\ds=pre++rest/\cQ pre 0=Gr a/\dK s w a/\rest.length=m) (fun ex st'=>∃tm s w,st'=⟨tm,[(1,.cells ydy ydy ydy 2 [aa s,w]),(0,.cells ydy ydy ydy 2 [o1,o2])],2,0⟩/\ex=.exit 0/\ai tm 2=.ptr 0 0/\ai tm 3=.bool neg/\ai tm 4=.ptr 1 0/\dK s w N):=by
 apply cI;rintro m st ⟨pre,rest,a,s,w,rfl,Gf,eX,hn,rfl⟩;have⟨l1,u1⟩:=hn.aI;have jy:=hD;rw[Gf,Kg,eX] at jy;have jy:cQ rest a=Gr N:=jy;have hlen:pre.length+rest.length<=4000000000:=by rw[Gf,yW] at hl;exact hl
 by_cases h0:rest.length=0
 .right
  have hr:rest=[]:=yD h0;subst hr
  have:a=N:=by simpa[cQ] using jy
  subst this;simp only[go_sem,GS,yM,show ¬(0:Int)<((0:Nat):Int) by lia];exact⟨_,_,rfl,by simp,_,s,w,rfl,rfl,rfl,rfl,rfl,hn⟩
 .left
  obtain⟨n,sM⟩:∃n,n=min 18 rest.length:=⟨_,rfl⟩;have ahT:(if (rest.length:Int)<18 then (rest.length:Int) else 18)=(n:Int):=by split<;>lia
  have gJ:rest.take n++rest.drop n=rest:=wo n rest;obtain⟨a',FY⟩:∃a',cQ (rest.take n) a=Gr a':=by
   rw[<-gJ,Kg] at jy
   cases hq:cQ (rest.take n) a with
   | none=>rw[hq] at jy;cases jy
   | some a'=>exact⟨a',rfl⟩
  obtain⟨v,hv⟩:∃v,cQ (rest.take n) 0=Gr v:=by
   have:∀(l:List Nat) (x y b:Nat),cQ l x=Gr y->∃z,cQ l b=Gr z:=by
    intro l
    induction l with
    | nil=>intro x y b _;exact⟨b,rfl⟩
    | cons c l ih=>
     intro x y b hh;simp only[cQ] at hh ⊢
     cases hb:(yJ 48 c&&yJ c 57) with
     | false=>rw[hb] at hh;cases hh
     | true=>rw[hb] at hh;exact ih _ _ _ hh
   exact this _ _ _ 0 FY
  have aiQ:=aro (a:=a) hv;have htl:(rest.take n).length=n:=by rw[yP];lia
  rw[htl,FY,yc] at aiQ;have Yp:=Vx hv;rw[htl] at Yp;have aHU:v<1000000000000000000:=yI Yp (y8 (n:=10) (by decide) (show n<=18 by lia));have e1:=atO (P:=P) h.Yg (f:=D P L) (s:=rest.take n) (by lia) (by lia) hv;have⟨t1,t2⟩:=BY h.toNu (z:=10) (by decide) (by decide);have⟨t3,t4⟩:=BY h.toNu (z:=(v:Int)) (by lia) (by lia);have⟨p,e2,hp⟩:=Yj h.toNu h.qH t2 (K:=4) (k:=n) (by unfold Bd;decide) (by lia) (by lia)
  have halt:=Vx eX;have ba:Bd (4*pre.length) (a:Int):=yI halt (Ku _);have bp:Bd (4*n+1) ((10:Int)^n):=Bd.pow (k:=4) (by unfold Bd;decide) n
  have⟨q,e3,hq⟩:=AR h.toNu (v:=.agg [aa s,w]) ⟨s,w,rfl,hn⟩ hp (K:=4*pre.length+4*n+1) (ba.mono (by lia)) (bp.mono (by lia)) (by lia);have bv':Bd (4*n) (v:Int):=yI Yp (Ku _);have⟨r,e4,hr⟩:=MA h.toNu hq t4 (K:=4*pre.length+4*n+1) ((ba.mul bp).mono (by lia)) (bv'.mono (by lia)) (by lia);have aK:(a:Int)*10^n+(v:Int)=(a':Int):=by
   rw[aiQ]
   simp
  rw[aK] at hr;obtain⟨s2,w2,rfl,h2⟩:=hp;obtain⟨s3,w3,rfl,h3⟩:=hq;obtain⟨s4,w4,rfl,h4⟩:=hr;have⟨l2,u2⟩:=h2.aI;have⟨l3,u3⟩:=h3.aI;have⟨l4,u4⟩:=h4.aI;have un:=zn;have c1:jz rest (Gr 0) (Gr n)=Gr (.str (rest.take n)):=by rw[mV (by lia) (by lia),yg]
  have c2:jz rest (Gr n) (Gr rest.length)=Gr (.str (rest.drop n)):=by rw[mV (by lia) (by lia),xR]
  simp only[go_sem,ya,GS,show (0:Int)<(rest.length:Nat) by lia,afz,adK,ahT,fG,fV,eE,c1,c2,e1,bZ,t1,t3,bP,u1.ah,u2.ah,u3.ah,un.ah,e2,e3,e4,bh,bZ,yg,dC u4];refine⟨_,(rest.drop n).length,rfl,by rw[wh];lia,pre++rest.take n,rest.drop n,a',s4,w4,by simp only[go_sem,ya,yb,aq],by rw[xM,gJ];exact Gf,by rw[Kg,eX];exact FY,h4,rfl⟩
def Uz{b:Nat}{r:List Nat}(h:48<=b):iL [45] (b::r)=ydz:=by
 show (yt 45 b&&ydy)=ydz
 rw[gW (by lia)];rfl
def ME(h:Tx P L){z:Int}(hz:(bc z).length<=4000000000):∃r,ab P L 110 [.str (bc z)] r/\cz r z:=by
 have hN:=Bp z.natAbs;have un:=zn;have B9:(az z.natAbs).length<=4000000000:=by
  by_cases h0:z<0
  .rw [oO h0] at hz;simp at hz;lia
  .rw [<-pR,yp h0] at hz;simpa using hz
 have ba:Bd (4*(az z.natAbs).length) (z.natAbs:Int):=yI (Vx hN) (Ku _);by_cases h0:z<0
 .have hs:bc z=45::az z.natAbs:=oO h0;have e1:bO P L (D P L) 152 [.str (45::az z.natAbs),.str [45]]=Gr (.bool ydy):=by rw[jF h.aiM];rfl
  have e2:bO P L (D P L) 153 [.str (45::az z.natAbs),.str [45]]=Gr (.str (az z.natAbs)):=by rw[jF h.Yf];rfl
  have jY:∃s w r,ab P L 110 [.str (bc z)] r/\dK s w (z.natAbs:Int)/\ab P L 147 [.agg [aa s,w]] r/\cz r (-(z.natAbs:Int)):=by
   rw[hs];unfold ab;rw[aD h.aiN];simp only[go_sem,ya,yb,QR,aQ,e1,e2,un.pu,un.one,dC un];generalize hq:D P L (.loop _ GS) _=q;obtain⟨ex,st,rfl,tm,s,w,rfl,rfl,t2,t3,t4,h5⟩:=bg hq (afK (P:=P) (L:=L) h hN B9 (neg:=ydy) (o1:=.int .i64 0) (o2:=.aj) (az z.natAbs).length) ⟨[],az z.natAbs,0,0,.aj,by simp only[go_sem,ya,yb,aq]<;>rfl,rfl,rfl,.inl ⟨rfl,rfl,by decide,by decide⟩,rfl⟩
   have⟨l5,u5⟩:=h5.aI;have⟨r,e3,hr⟩:=HU h.toNu (v:=.agg [aa s,w]) ⟨s,w,rfl,h5⟩ (K:=4*(az z.natAbs).length) ba (by lia);have bQ:=hr;obtain⟨s6,w6,rfl,h6⟩:=hr;have⟨l6,u6⟩:=h6.aI;refine⟨s,w,_,?_,h5,e3,bQ⟩;simp only[go_sem,ya,yb,aq,t2,t3,t4,bZ,bP,u5.ah,e3,bh,dw,dB,bZ,yg,n7 u6,dC u6]
  have⟨s,w,r,g1,_,_,g2⟩:=jY;rw[show -((z.natAbs:Nat):Int)=z by lia] at g2;exact⟨r,g1,g2⟩
 .have hs:bc z=az z.natAbs:=by rw[<-pR,yp h0];rfl
  have⟨b,r0,hb,kj,js⟩:=GB z.natAbs;have e1:bO P L (D P L) 152 [.str (az z.natAbs),.str [45]]=Gr (.bool ydz):=by
   rw[jF h.aiM,hb];show Gr (AV.bool (iL [45] (b::r0)))=_
   rw[Uz kj]
  have e2:bO P L (D P L) 153 [.str (az z.natAbs),.str [45]]=Gr (.str (az z.natAbs)):=by
   rw[jF h.Yf,hb];show Gr (AV.str (bif iL [45] (b::r0) then _ else _))=_
   rw[Uz kj];rfl
  have jY:∃s w,ab P L 110 [.str (bc z)] (.agg [aa s,w])/\dK s w (z.natAbs:Int):=by
   rw[hs];unfold ab;rw[aD h.aiN];simp only[go_sem,ya,yb,QR,aQ,e1,e2,un.pu,un.one,dC un];generalize hq:D P L (.loop _ GS) _=q;obtain⟨ex,st,rfl,tm,s,w,rfl,rfl,t2,t3,t4,h5⟩:=bg hq (afK (P:=P) (L:=L) h hN B9 (neg:=ydz) (o1:=.int .i64 0) (o2:=.aj) (az z.natAbs).length) ⟨[],az z.natAbs,0,0,.aj,by simp only[go_sem,ya,yb,aq]<;>rfl,rfl,rfl,.inl ⟨rfl,rfl,by decide,by decide⟩,rfl⟩
   have⟨l5,u5⟩:=h5.aI;refine⟨s,w,?_,h5⟩;simp only[go_sem,ya,yb,aq,t2,t3,t4,bZ,dw,dB,bZ,yg,n7 u5,dC u5]
  have⟨s,w,g1,g2⟩:=jY;rw[show ((z.natAbs:Nat):Int)=z by lia] at g2;exact⟨_,g1,s,w,rfl,g2⟩
def J7(b:Nat)(r:List Nat)(c:Nat):iL [c] (b::r)=yt c b:=by
 show (yt c b&&ydy)=_
 grind
def abp:∀(l r:List Nat) (k:Nat),(∀x,x∈l->x≠47)->nU [47] (l++47::r) k=Gr (k+l.length)
 | [],r,k,_=>by
  show (bif iL [47] (47::r) then Gr k else _)=_
  rw[J7];rfl
 | b::l,r,k,h=>by
  show (bif iL [47] (b::(l++47::r)) then Gr k else nU [47] (l++47::r) (k+1))=_
  rw[J7,gW (fun e=>h b (by simp) e.symm),yT,abp l r (k+1) (fun x hx=>h x (by simp[hx])),yB]
  grind
def index_none:∀(l:List Nat) (k:Nat),(∀x,x∈l->x≠47)->nU [47] l k=none
 | [],k,_=>rfl
 | b::l,k,h=>by
  show (bif iL [47] (b::l) then Gr k else nU [47] l (k+1))=_
  rw[J7,gW (fun e=>h b (by simp) e.symm),yT,index_none l (k+1) (fun x hx=>h x (by simp[hx]))]
def adY:∀{l:List Nat},dt l=ydy->∀x,x∈l->48<=x/\x<=57
 | [],_,x,hx=>by simp at hx
 | b::l,h,x,hx=>by
  have h1:=acS h;simp only[dt,yf] at h;rcases xP.1 hx with rfl | hx
  .grind
  .exact adY h.2 x hx
def amk(z:Int):∀x,x∈bc z->x≠47:=fun x hx=>by
 rw[<-pR] at hx;rcases List.mem_append.1 hx with h | h
 .grind
 .have:=adY (CH _) x h;lia
def m62(h:Tx P L){a:Rat}(hl:(RT a).length<4000000000):∃r,ab P L 62 [.str (RT a)] r/\bW r a:=by
 have Iq:=amk a.num;unfold RT at hl ⊢;by_cases hd:a.den=1
 .rw [yE hd,wu] at hl ⊢;have⟨p,e1,hp⟩:=ME h (z:=a.num) (by lia);have⟨r,e2,hr⟩:=RY h.toFr' hp;rw[<-PD a hd] at hr;have bQ:=hr;obtain⟨s1,w1,rfl,h1⟩:=hp;obtain⟨s2,w2,s3,w3,rfl,h2,h3⟩:=hr;have⟨l1,u1⟩:=h1.aI;have⟨l2,u2⟩:=h2.aI;have⟨l3,u3⟩:=h3.aI;have e0:bO P L (D P L) 109 [.str (bc a.num),.str [47]]=Gr (.av [.str (bc a.num),.str [],.bool ydz]):=by
   rw[jF h.Yh];show (bif yQ (bc a.num).length 4294967281 then (match nU [47] (bc a.num) 0 with | some i=>_ | none=>Gr (AV.av [.str (bc a.num),.str [],.bool ydz])) else none)=_
   rw[mD (by lia),index_none _ _ Iq];rfl
  refine⟨_,?_,bQ⟩;unfold ab;rw[aD h.S9];simp only[go_sem,ya,yb,SF,aQ,e0,e1,bh,u1.ah,bP,e2,lE u2 u3,dw,dB,yg,dV,lF u2 u3]
 .rw [yp hd] at hl ⊢;simp only[yW,yB] at hl;have⟨p,e1,hp⟩:=ME h (z:=a.num) (by lia);have⟨q,e2,hq⟩:=ME h (z:=(a.den:Int)) (by rw[mz];lia)
  rw[mz] at e2;obtain⟨s1,w1,rfl,h1⟩:=hp;obtain⟨s2,w2,rfl,h2⟩:=hq;have⟨l1,u1⟩:=h1.aI;have⟨l2,u2⟩:=h2.aI;have e0:bO P L (D P L) 109 [.str (bc a.num++47::az a.den),.str [47]]=Gr (.av [.str (bc a.num),.str (az a.den),.bool ydy]):=by
   rw[jF h.Yh];show (bif yQ (bc a.num++47::az a.den).length 4294967281 then (match nU [47] (bc a.num++47::az a.den) 0 with | some i=>Gr (AV.av [.str ((bc a.num++47::az a.den).take i),.str ((bc a.num++47::az a.den).drop (i+1)),.bool ydy]) | none=>_) else none)=_
   rw[mD (by simp;lia),abp _ _ _ Iq]
   simp only[ye,yy,tV];rw[show (bc a.num).length+1=(bc a.num++[47]).length by simp,show bc a.num++47::az a.den=(bc a.num++[47])++az a.den by simp,yaJ]
  refine⟨.agg [aa s1,w1,aa s2,w2],?_,s1,w1,s2,w2,rfl,h1,h2⟩;unfold ab;rw[aD h.S9];simp only[go_sem,ya,yb,SF,aQ,e0,e1,e2,bh,u1.one,u2.one,CS,CT,lE u1 u2,dw,dB,yg,dV,lF u1 u2]
def dW(p:List Nat):Bool:=dt p&&(match p with | []=>ydz | b::r=> !(yt b 48)||r.isEmpty)
def gk(p:List Nat):Nat:=(cQ p 0).getD 0
def ot(neg:Bool)(t:List Nat):Int:=
 if dW (t.take (bS t))=ydz\/(neg=ydy/\t.take (bS t)=[48]) then 1
 else if bS t<t.length/\(dW (t.drop (bS t+1))=ydz\/t.drop (bS t+1)=[48]\/t.drop (bS t+1)=[49]) then 1
 else if 600<bS t\/600<t.length-bS t-1 then 4
 else if bS t<t.length/\wU (gk (t.take (bS t))) (gk (t.drop (bS t+1)))≠1 then 1
 else 0
def bX:List Nat->Int
 | []=>ot ydz []
 | b::t=>if b=45 then ot ydy t else ot ydz (b::t)
def adZ:∀{p:List Nat} (a:Nat),dt p=ydy->∃n,cQ p a=Gr n
 | [],a,_=>⟨a,rfl⟩
 | b::r,a,h=>by
  have h':=h;simp only[dt,yf] at h';have⟨n,hn⟩:=adZ (p:=r) (10*a+(b-48)) h'.2;exact⟨n,by simp only[cQ,h'.1.1,h'.1.2,wg,yy];exact hn⟩
def GC:∀(k:Nat) {p:List Nat},p.length=k->dW p=ydy->az (gk p)=p:=by
 intro k
 induction k with
 | zero=>intro p hl h;rw[yD hl] at h;simp[dW] at h
 | succ k ih=>
  intro p hl h;rcases snoc p with rfl | ⟨m,a,rfl⟩
  .grind
  .simp only [dW,yf,Ob] at h;have⟨⟨h1,h2⟩,h3⟩:=h;simp only[dt,yf] at h2;have ha1:=yA h2.1.1;have ha2:=yA h2.1.2;have⟨n,hn⟩:=adZ 0 h1;have hv:gk (m++[a])=10*n+(a-48):=by
    unfold gk;rw[Kg,hn];simp only[Option.bind_some,cQ,h2.1.1,h2.1.2,wg,yy,Option.getD_some]
   cases m with
   | nil=>
    have:n=0:=by simpa[cQ] using hn.symm
    rw[hv,pQ (by lia)]
    simp;lia
   | cons b r=>
    have hd:dW (b::r)=ydy:=by
     simp only[dW,h1,wI]
     cases r with
     | nil=>simp
     | cons c r=>simp at h3 ⊢;exact h3
    have hm:=ih (p:=b::r) (by simpa using hl) hd;have hnv:gk (b::r)=n:=by unfold gk;rw[hn];rfl
    rw[hnv] at hm;have A6:n≠0:=fun e=>by
     rw[pQ (by lia)] at hm
     simp_all
    rw[hv,rH (by lia),show (10*n+(a-48))/10=n by lia,show 48+(10*n+(a-48))%10=a by lia,hm]
def aaX(t:List Nat):bS t<t.length->t=t.take (bS t)++47::t.drop (bS t+1):=by
 induction t with
 | nil=>simp
 | cons b r ih=>
  intro h;simp only[bS] at h ⊢
  grind
def acT{n:Int}(hd:0<d)(hg:wU n.natAbs d=1):∃r:Rat,r.num=n/\r.den=d:=⟨⟨n,d,by lia,hg⟩,rfl,rfl⟩
def axz{s:List Nat}(h:bX s=0):∃r:Rat,s=RT r/\(az r.num.natAbs).length<=600/\(az r.den).length<=600:=by
 have key:∀(neg:Bool) (t:List Nat),ot neg t=0->∃r:Rat,(if neg=ydy then [45] else [])++t=RT r/\(az r.num.natAbs).length<=600/\(az r.den).length<=600:=by
  intro neg t h;unfold ot at h
  split at h
  .grind
  rename_i h1
  split at h
  .grind
  rename_i h2
  split at h
  .grind
  rename_i h3
  split at h
  .grind
  rename_i h4;have hle:=J5 t;have hp:dW (t.take (bS t))=ydy:=by
   cases hb:dW (t.take (bS t)) with
   | true=>rfl
   | false=>exact absurd (.inl hb) h1
  have Ad:=GC _ rfl hp;generalize hn:gk (t.take (bS t))=n at*
  have az9:neg=ydy->n≠0:=fun hh e=>by
   subst e;exact h1 (.inr ⟨hh,by rw[<-Ad];rfl⟩)
  have hint:(if neg=ydy then [45] else [])++az n=bc (if neg=ydy then -(n:Int) else n):=by
   cases neg with
   | true=>
    have:=az9 rfl
    simp only[xS];rw[oO (by lia)]
    simp
   | false=>simp[mz]
  have Yq:(if neg=ydy then -(n:Int) else n).natAbs=n:=by split<;>lia
  have hln:(az n).length<=600:=by rw[Ad,yP];lia
  by_cases hs:bS t<t.length
  .have hq:dW (t.drop (bS t+1))=ydy:=by
    cases hb:dW (t.drop (bS t+1)) with
    | true=>rfl
    | false=>exact absurd ⟨hs,.inl hb⟩ h2
   have rm:=GC _ rfl hq;have hg:wU n (gk (t.drop (bS t+1)))=1:=by
    grind
   have lY:=aaX t hs;have Cq:(t.drop (bS t+1)).length<=600:=by rw[wh];lia
   rw[<-rm] at lY Cq;have ij:gk (t.drop (bS t+1))≠0:=fun e=>by
    rw[e] at rm;exact h2 ⟨hs,.inr (.inl (by rw[<-rm];rfl))⟩
   have rb:gk (t.drop (bS t+1))≠1:=fun e=>by
    rw[e] at rm;exact h2 ⟨hs,.inr (.inr (by rw[<-rm];rfl))⟩
   generalize gk (t.drop (bS t+1))=d at*
   have⟨r,dS,oD⟩:=acT (n:=if neg=ydy then -(n:Int) else n) (d:=d) (by lia) (by rw[Yq];exact hg)
   refine⟨r,?_,by rw[dS,Yq];exact hln,by rw[oD];exact Cq⟩
   unfold RT;rw[dS,oD,yp rb,<-hint,xM]
   congr 1
   rw[Ad];exact lY
  .have ht:t.take (bS t)=t:=yK (by lia);rw[ht] at Ad;have⟨r,dS,oD⟩:=acT (n:=if neg=ydy then -(n:Int) else n) (d:=1) (by lia) (Nat.gcd_one_right _);refine⟨r,?_,by rw[dS,Yq];exact hln,by rw[oD];decide⟩
   unfold RT;rw[dS,oD,yE rfl,<-hint,wu,Ad]
 cases s with
 | nil=>exact absurd h (by decide)
 | cons b t=>
  simp only[bX] at h
  split at h
  .rename_i hb;subst hb;exact key ydy t h
  .exact key ydz (b::t) h
namespace Nd
structure Ord(n:Nat)(l:List Int):Prop where
 len:l.length=n
 sF:∀a,a<n->0<=l.getD a 0/\l.getD a 0<n
 inj:∀a b,a<n->b<n->l.getD a 0=l.getD b 0->a=b
end Nd
namespace Nd
open Go (IntKind)
abbrev ab(P:aF)(L:Lib)(f:Nat)(aw:List AV)(r:AV):Prop:=bO P L (D P L) f aw=Gr r
def B0(h:Has P L 124 HA)(b:Bool)(n:Int):ab P L 124 [.bool b,aa n] (aa (if b=ydy then n else 0)):=by
 unfold ab;rw[aD h]
 cases b with
 | true=>simp only[go_sem,ya,HA,xS]
 | false=>simp only[go_sem,ya,HA];rfl
def aB6(h:Has P L 125 QT){l:List Int}(hv:bw v l)(hl:l.length<=1000000):ab P L 125 [v] (aa (bf l)):=by
 unfold ab;rw[aD h];simp only[go_sem,ya,QT,hv.len];have key:=O1 (P:=P) (L:=L) (live:=[5,6,7]) (a:=PQ)
  (I:=fun k s=>∃tm ct i,s=⟨tm,[],ct,0⟩/\ai tm 5=v/\ai tm 6=aa l.length/\ai tm 7=aa (i:Nat)/\i+k=l.length/\bf (l.drop i)=bf l)
  (Q:=fun ex s=>∃tm,s=⟨tm,[],0,0⟩/\((ex=.ret/\ai tm 2=aa (bf l))\/(ex=.exit 0/\bf l=0))) ?_ l.length
 .generalize hq:D P L (.loop _ PQ) _=q;obtain⟨ex,s,rfl,tm,rfl,h2⟩:=bg hq key ⟨_,_,0,rfl,rfl,rfl,rfl,by lia,rfl⟩;rcases h2 with ⟨rfl,h2⟩ | ⟨rfl,h2⟩
  .simp only [go_sem,h2]
  .rw [h2];simp only[go_sem]
 .rintro k s ⟨tm,ct,i,rfl,h5,h6,h7,hk,hf⟩;rw[N8 (by simp only[go_sem,h5,h6,h7,hv.pu])];simp only[go_sem,ya,h5,h6,h7,PQ];by_cases hi:i<l.length
  .have da:(i:Int)<l.length:=by lia
   rw[TD hi] at hf;by_cases hz:l[i]=0
   .left
    simp only[go_sem,ya,da,hv.bj hi,hz];refine⟨_,k-1,rfl,by lia,_,_,i+1,rfl,?_⟩;rw[wrap64 (by lia) (by lia)];rw[yE hz] at hf;simp only[go_sem,ya];exact⟨trivial,trivial,rfl,by lia,hf⟩
   .right
    simp only[go_sem,ya,da,hv.bj hi,hz];rw[yp hz] at hf;refine⟨_,_,rfl,by simp,_,rfl,.inl ⟨rfl,?_⟩⟩;simp only[go_sem,hf]
  .right
   have da:¬(i:Int)<l.length:=by lia
   simp only[go_sem,da];refine⟨_,_,rfl,by simp,_,rfl,.inr ⟨rfl,?_⟩⟩;rw[<-hf,xb (by lia)];rfl
end Nd
section
variable {a b p:List Nat}
def ad0(i:Nat):Hz i [48,49,50,51,52,53,54,55,56,57]=(yJ 48 i&&yJ i 57):=by
 by_cases h:48<=i/\i<=57
 .have ⟨h1,h2⟩:=h;obtain⟨k,rfl⟩:∃k,i=48+k:=⟨i-48,by lia⟩;rcases (show k=0\/k=1\/k=2\/k=3\/k=4\/k=5\/k=6\/k=7\/k=8\/k=9 by lia) with rfl | rfl | rfl | rfl | rfl | rfl | rfl | rfl | rfl | rfl<;>rfl
 .have e:(yJ 48 i&&yJ i 57)=ydz:=by
   cases h1:yJ 48 i with
   | false=>rfl
   | true=>
    cases h2:yJ i 57 with
    | false=>rfl
    | true=>exact absurd ⟨yA h1,yA h2⟩ h
  rw[e];have ne:∀c,48<=c->c<=57->yt c i=ydz:=fun c h1 h2=>gW (by lia)
  simp only[Hz,ne 48 (by decide) (by decide),ne 49 (by decide) (by decide),ne 50 (by decide) (by decide),ne 51 (by decide) (by decide),ne 52 (by decide) (by decide),ne 53 (by decide) (by decide),ne 54 (by decide) (by decide),ne 55 (by decide) (by decide),ne 56 (by decide) (by decide),ne 57 (by decide) (by decide),yT]
def UA:∀l:List Nat,mC [48,49,50,51,52,53,54,55,56,57] l=[]↔dt l=ydy
 | []=>by simp[mC,dt]
 | b::r=>by
  simp only[mC,dt,ad0]
  cases hb:(yJ 48 b&&yJ b 57) with
  | true=>simp only[yy,wI];exact UA r
  | false=>simp
def O6:∀l:List Nat,dt l.reverse=dt l
 | []=>rfl
 | b::r=>by rw[List.reverse_cons,Ob,O6 r];simp[dt,Bool.and_comm]
def aa1:∀l:List Nat,dt l=ydz->dt (mC [48,49,50,51,52,53,54,55,56,57] l)=ydz
 | [],h=>by simp[dt] at h
 | b::r,h=>by
  simp only[mC,ad0]
  cases hb:(yJ 48 b&&yJ b 57) with
  | true=>
   simp only[dt,hb,wI] at h;exact aa1 r h
  | false=>simp only[yT];exact h
def arv(p:List Nat):db (mC [48,49,50,51,52,53,54,55,56,57] (mC [48,49,50,51,52,53,54,55,56,57] p.reverse).reverse) []=dt p:=by
 cases hd:dt p with
 | true=>
  have h1:=(UA p.reverse).2 (by rw[O6];exact hd)
  rw[h1];rfl
 | false=>
  have h1:=aa1 p.reverse (by rw[O6];exact hd)
  have h2:dt (mC [48,49,50,51,52,53,54,55,56,57] p.reverse).reverse=ydz:=by rw[O6];exact h1
  cases hq:mC [48,49,50,51,52,53,54,55,56,57] (mC [48,49,50,51,52,53,54,55,56,57] p.reverse).reverse with
  | nil=>have:=(UA _).1 hq;rw[h2] at this;exact absurd this (by decide)
  | cons b r=>rfl
def aa2:∀(t:List Nat) (k:Nat),nU [47] t k=if bS t<t.length then Gr (k+bS t) else none
 | [],k=>by simp[nU,iL,bS]
 | b::r,k=>by
  by_cases hb:b=47
  .subst hb;have e:bS (47::r)=0:=by simp[bS]
   rw[e,yE (by simp)];rfl
  .have e:bS (b::r)=bS r+1:=by simp[bS,hb]
   have hp:iL [47] (b::r)=ydz:=by rw[J7];exact gW (fun e=>hb e.symm)
   rw[e,nU,hp,yT,aa2 r (k+1)]
   grind
def EF(a b:List Nat):binOp .neq (.str a) (.str b)=Gr (.bool (!(db a b))):=rfl
structure Ck(P:aF)(L:Lib):Prop extends Tx P L where
 aB7:L.pure 128=Gr Oo
 aB8:L.pure 162=Gr trimS
 h86:Has P L 86 fQ
 FM:Has P L 124 HA
 aB9:Has P L 125 QT
 aCa:Has P L 129 HB
def B0(h:Has P L 124 HA)(b:Bool)(n:Int):ab P L 124 [.bool b,aa n] (aa (if b=ydy then n else 0)):=Nd.B0 h b n
def aiR(h:Ck P L)(hl:p.length<=4000000000):ab P L 129 [.str p] (.bool (dW p)):=by
 have e1:bO P L (D P L) 162 [.str p,.str [48,49,50,51,52,53,54,55,56,57]]=Gr (.str (mC [48,49,50,51,52,53,54,55,56,57] (mC [48,49,50,51,52,53,54,55,56,57] p.reverse).reverse)):=by
  rw[jF h.aB8];show (bif GR [48,49,50,51,52,53,54,55,56,57]&&(yQ p.length 4294967281&&yQ 10 4294967281) then _ else none)=_
  rw[mD (by lia)];rfl
 have e2:=arv p;unfold ab;rw[aD h.aCa]
 match p,e1,e2 with
 | [],_,_=>
  simp only[go_sem,ya,HB,EF,show db [] []=ydy from rfl,yO];rfl
 | b::r,e1,e2=>
  have hI:oX 0 (.str (b::r))=Gr (.int .u8 (b:Nat)):=rfl;have h0:db (b::r) []=ydz:=rfl;have hd:dW (b::r)=(dt (b::r)&&(!(yt b 48)||r.isEmpty)):=rfl;rw[hd]
  cases mS:dt (b::r) with
  | false=>
   rw[mS] at e2;simp only[go_sem,ya,HB,EF,h0,yY,e1,nQ,e2,wH]
  | true=>
   rw[mS] at e2;by_cases hb:b=48
   .subst hb;have e3:db (48::r) [48]=r.isEmpty:=by
     cases r with
     | nil=>rfl
     | cons c r=>rfl
    have Zr:oX 0 (.str (48::r))=Gr (.int .u8 48):=rfl;simp only[go_sem,ya,HB,EF,h0,yY,e1,nQ,e2,Zr,yv,yO,e3];rfl
   .have:yt b 48=ydz:=gW hb
    rw[this];simp only[go_sem,ya,HB,EF,h0,yY,e1,nQ,e2,hI,show ¬((b:Nat):Int)=48 by lia,yu,yY];rfl
def aCb(h:Ck P L)(s:List Nat):bO P L (D P L) 128 [.str s,.str [45]]=Gr (if s.head? =Gr 45 then .av [.str s.tail,.bool ydy] else .av [.str s,.bool ydz]):=by
 rw[jF h.aB7];show Gr (bif iL [45] s then AV.av [.str (s.drop 1),.bool ydy] else .av [.str s,.bool ydz])=_
 cases s with
 | nil=>rfl
 | cons b r=>
  by_cases hb:b=45
  .subst hb;rfl
  .have:iL [45] (b::r)=ydz:=by rw[J7];exact gW (fun e=>hb e.symm)
   grind
def aCc(h:Ck P L){t:List Nat}(hl:t.length<=4000000000):bO P L (D P L) 109 [.str t,.str [47]]=Gr (.av [.str (t.take (bS t)),.str (t.drop (bS t+1)),.bool (decide (bS t<t.length))]):=by
 rw[jF h.Yh];show (bif yQ t.length 4294967281 then (match nU [47] t 0 with | some i=>Gr (AV.av [.str (t.take i),.str (t.drop (i+1)),.bool ydy]) | none=>Gr (AV.av [.str t,.str [],.bool ydz])) else none)=_
 rw[mD (by lia),aa2];by_cases hs:bS t<t.length
 .grind
 .rw [yp hs,yC hs,yK (by lia),xb (by lia)];rfl
def anQ{P:aF}{L:Lib}(a b c d:VC)(s:St):D P L (.seq a (.seq b (.seq c d))) s=r7 P L (D P L (.seq a (.seq b c)) s) d:=by
 have e:=Eu (P:=P) (L:=L) b c d;rw[nZ,nZ]
 cases D P L a s with
 | none=>rfl
 | some q=>
  have⟨ex,st⟩:=q
  cases ex with
  | normal=>rw[ju,ju];exact e st
  | ret=>rfl
  | exit id=>rfl
def apn{P:aF}{L:Lib}(a b c d f:VC)(s:St):D P L (.seq a (.seq b (.seq c (.seq d f)))) s=r7 P L (D P L (.seq a (.seq b (.seq c d))) s) f:=by
 have e:=anQ (P:=P) (L:=L) b c d f;rw[nZ,nZ]
 cases D P L a s with
 | none=>rfl
 | some q=>
  have⟨ex,st⟩:=q
  cases ex with
  | normal=>rw[ju,ju];exact e st
  | ret=>rfl
  | exit id=>rfl
def Vz(h:a=b):db a b=ydy:=by
 subst h
 induction a with
 | nil=>rfl
 | cons x a ih=>simp[db,ih]
def VA(h:a≠b):db a b=ydz:=by
 cases hb:db a b with
 | false=>rfl
 | true=>
  exact absurd (by
   clear h;revert b
   induction a with
   | nil=>intro b hb;cases b with | nil=>rfl | cons y b=>simp[db] at hb
   | cons x a ih=>
    intro b hb
    cases b with
    | nil=>simp[db] at hb
    | cons y b=>
     simp only[db,yf] at hb
     rw[yi hb.1,ih hb.2]) h
def aAa(h:Ck P L){q:List Nat}{ok found:Bool}(lp:p.length<=1000000000)(lq:q.length<=1000000000)(kH:ok=ydy->dW p=ydy/\(found=ydy->dW q=ydy))(t5:ai tm 5=.str p)(t6:ai tm 6=.str q)(t7:ai tm 7=.bool found)(t8:ai tm 8=.bool ok):
  et [.t 2] (D P L (aA (aA (aA (aA (aA fQ.body))))) ⟨tm,[],0,0⟩)=Gr (aa (
   if ok=ydz then 1
   else if 600<p.length\/600<q.length then 4
   else if found=ydy/\wU (gk p) (gk q)≠1 then 1
   else 0)):=by
 have w1:=B0 h.FM (!ok) 1;have Td:∀a b:Int,ab P L 125 [.au ydy 2 [aa a,aa b]] (aa (bf [a,b])):=fun a b=>Nd.aB6 h.aB9 (eP ydy [a,b]) (by simp)
 cases ok with
 | false=>
  have f1:=Td 1 0;have f2:=Td 1 4;have w2:=B0 h.FM ydz 4;have w3:=B0 h.FM ydy 4;simp only[yY,xS,yH,xz] at w1 w2 w3;rw[show bf [1,0]=1 by decide] at f1;rw[show bf [1,4]=1 by decide] at f2;unfold ab at w1 w2 w3 f1 f2;by_cases h1:600<p.length
  .simp only [go_sem,ya,yb,yG,yq,yh,fQ,aA,show ¬(1:Int)=0 by decide,yY,t5,t8,yY,w1,show (600:Int)<(p.length:Int) by lia,yv,w3,f2,yu]
   simp
  .by_cases h2:600<q.length
   .simp only [go_sem,ya,yb,yG,yq,yh,fQ,aA,show ¬(1:Int)=0 by decide,yY,t5,t6,t8,yY,w1,show ¬(600:Int)<(p.length:Int) by lia,show (600:Int)<(q.length:Int) by lia,yv,yu,w3,f2]
    simp
   .simp only [go_sem,ya,yb,yG,yq,yh,fQ,aA,show ¬(1:Int)=0 by decide,yY,t5,t6,t8,yY,w1,show ¬(600:Int)<(p.length:Int) by lia,show ¬(600:Int)<(q.length:Int) by lia,yu,w2,f1]
    simp
 | true=>
  have⟨hp,hq⟩:=kH rfl;have f1:=Td 0 0;have f2:=Td 0 4;have w2:=B0 h.FM ydz 4;have w3:=B0 h.FM ydy 4;have w4:=B0 h.FM ydz 1;have w5:=B0 h.FM ydy 1;simp only[yO,xS,yH,xz] at w1 w2 w3 w4 w5;rw[show bf [0,0]=0 by decide] at f1;rw[show bf [0,4]=4 by decide] at f2;unfold ab at w1 w2 w3 w4 w5 f1 f2;rw[yp (by decide)];by_cases h1:600<p.length
  .rw [yE (.inl h1)];simp only[go_sem,ya,yb,yG,yq,yh,fQ,aA,show ¬(4:Int)=0 by decide,yY,t5,t8,yO,w1,show (600:Int)<(p.length:Int) by lia,yv,w3,f2,yu]
  .by_cases h2:600<q.length
   .rw [yE (.inr h2)];simp only[go_sem,ya,yb,yG,yq,yh,fQ,aA,show ¬(4:Int)=0 by decide,yY,t5,t6,t8,yO,w1,show ¬(600:Int)<(p.length:Int) by lia,show (600:Int)<(q.length:Int) by lia,yv,yu,w3,f2]
   .rw [yp (by lia)]
    cases found with
    | false=>
     rw[yp (by simp)];simp only[go_sem,ya,yb,yG,yq,yh,fQ,aA,t5,t6,t7,t8,yO,w1,show ¬(600:Int)<(p.length:Int) by lia,show ¬(600:Int)<(q.length:Int) by lia,yv,yu,w2,f1]
    | true=>
     have Ad:=GC _ rfl hp;have rm:=GC _ rfl (hq rfl);generalize gk p=n at*
     generalize gk q=d at*
     subst Ad;subst rm;obtain⟨M,hM⟩:∃M:Nat,M=2400:=⟨_,rfl⟩;have bd:∀{m:Nat},(az m).length<=600->Bd M (m:Int):=fun {m} hm=>by
      have h1:=Ks m;have h2:=Ku (az m).length;have h3:(2:Nat)^(4*(az m).length)<=2^M:=y8 (by decide) (by lia);unfold Bd;rw[xG];exact yI h1 (xi h2 h3)
     have⟨x,e1,hx⟩:=ME h.toTx (z:=(n:Int)) (by rw[mz];lia)
     have⟨y,e2,hy⟩:=ME h.toTx (z:=(d:Int)) (by rw[mz];lia)
     rw[mz] at e1 e2;have kn:=bd (m:=n) (by lia);have kd:=bd (m:=d) (by lia);have⟨g,e3,hg⟩:=aiK h.toNu hx hy kn kd (by lia);have⟨e4,FT⟩:=BY h.toNu (z:=1) (by decide) (by decide);have kg:Bd M ((vA (n:Int) (d:Int):Nat):Int):=by
      rcases xj d with h0 | h0
      .subst h0;simpa using kn
      .exact kd.le (by have:=Nat.gcd_le_right n h0;simpa using this)
     have e5:=aiG h.toNu hg FT (K:=M) kg (by unfold Bd;exact vP (by lia)) (by lia)
     have aCd:vA (n:Int) (d:Int)=wU n d:=rfl;rw[aCd] at e5;obtain⟨xs,xw,rfl,nF⟩:=hx;obtain⟨ys,yw,rfl,NJ⟩:=hy;obtain⟨gs,gw,rfl,Gi⟩:=hg;have⟨l1,u1⟩:=nF.aI;have⟨l2,u2⟩:=NJ.aI;have⟨l3,u3⟩:=Gi.aI;by_cases iT:wU n d=1
     .rw [yp (by simp[iT])];have hs:bK (((wU n d:Nat):Int)-1)=0:=by rw[iT];rfl
      rw[hs] at e5;simp only[go_sem,ya,yb,yG,yq,yh,fQ,aA,t5,t6,t7,t8,yO,w1,show ¬(600:Int)<((az n).length:Int) by lia,show ¬(600:Int)<((az d).length:Int) by lia,yv,yu,w2,f1,e1,e2,u1.ah,u2.ah,u3.ah,bh,bP,e3,e4,e5]
     .rw [yE ⟨rfl,iT⟩];obtain⟨c,hc,kw⟩:∃c,bK (((wU n d:Nat):Int)-1)=c/\c≠0:=⟨_,rfl,fun e=>iT (by
       unfold bK at e
       split at e
       .exact absurd e (by decide)
       .split at e
        .lia
        .exact absurd e (by decide))⟩
      rw[hc] at e5;simp only[go_sem,ya,yb,yG,yq,yh,fQ,aA,yY,t5,t6,t7,t8,yO,w1,show ¬(600:Int)<((az n).length:Int) by lia,show ¬(600:Int)<((az d).length:Int) by lia,yv,yu,w2,f1,e1,e2,u1.ah,u2.ah,u3.ah,bh,bP,e3,e4,e5,kw,yY,w5]
def Tf(h:Ck P L){s:List Nat}(hl:s.length<=1000000000):ab P L 86 [.str s] (aa (bX s)):=by
 have key:∀(neg:Bool) (t:List Nat),t.length<=1000000000->bO P L (D P L) 128 [.str s,.str [45]]=Gr (.av [.str t,.bool neg])->ab P L 86 [.str s] (aa (ot neg t)):=by
  intro neg t hl e0;have e1:=aCc h (t:=t) (by lia);obtain⟨k,hk⟩:∃k,k=bS t:=⟨_,rfl⟩;have hkl:k<=t.length:=by rw[hk];exact J5 t
  have e2:=aiR h (p:=t.take k) (by rw[yP];lia)
  have e3:=aiR h (p:=t.drop (k+1)) (by rw[wh];lia)
  have lp:(t.take k).length=k:=by rw[yP];lia
  have lq:(t.drop (k+1)).length=t.length-k-1:=by rw[wh];lia
  unfold ot;rw[<-hk] at e1 ⊢;generalize hp:t.take k=p at*
  generalize hq:t.drop (k+1)=q at*
  obtain⟨Eb,AT⟩:∃ok:Bool,ok=(dW p&&(!neg|| !(db p [48]))):=⟨_,rfl⟩;obtain⟨ok,kH⟩:∃ok:Bool,ok=(Eb&&(!(decide (k<t.length))||(dW q&&(!(db q [48])&& !(db q [49]))))):=⟨_,rfl⟩
  have ol:(if dW p=ydz\/(neg=ydy/\p=[48]) then 1
    else if k<t.length/\(dW q=ydz\/q=[48]\/q=[49]) then 1
    else if 600<k\/600<t.length-k-1 then 4
    else if k<t.length/\wU (gk p) (gk q)≠1 then 1 else 0:Int)=(if ok=ydz then 1
    else if 600<p.length\/600<q.length then 4
    else if decide (k<t.length)=ydy/\wU (gk p) (gk q)≠1 then 1
    else 0):=by
   rw[lp,lq];have a1:(dW p=ydz\/(neg=ydy/\p=[48]))↔Eb=ydz:=by
    rw[AT];cases dW p<;>cases neg<;>simp
    by_cases e:p=[48]
    .simp [e,Vz]
    .simp [e,VA e]
   have a2:ok=ydz↔(Eb=ydz\/(k<t.length/\(dW q=ydz\/q=[48]\/q=[49]))):=by
    rw[kH];by_cases hs:k<t.length
    .simp only [hs,yv,yO,vT,yab];cases Eb<;>cases dW q<;>simp
     by_cases e:q=[48]
     .simp [e,Vz]
     .by_cases e':q=[49]
      .simp [e',Vz]
      .simp [e,e',VA e,VA e']
    .simp [hs]
   by_cases h1:Eb=ydz
   .rw [yE (a1.2 h1),yE (a2.2 (.inl h1))]
   .rw [yp (fun e=>h1 (a1.1 e))];by_cases h2:k<t.length/\(dW q=ydz\/q=[48]\/q=[49])
    .rw [yE h2,yE (a2.2 (.inr h2))]
    .rw [yp h2,yp (fun e=>(a2.1 e).elim h1 h2)];simp only[xc]
  rw[ol];have aCe:ok=ydy->dW p=ydy/\(decide (k<t.length)=ydy->dW q=ydy):=fun e=>by
   rw[kH,yf] at e;have⟨e1,e2⟩:=e;rw[AT,yf] at e1;refine⟨e1.1,fun hs=>?_⟩;rw[hs,yO,vT,yf] at e2;exact e2.1
  have tail:∀tm,ai tm 5=.str p->ai tm 6=.str q->ai tm 7=.bool (decide (k<t.length))->ai tm 8=.bool ok->et [.t 2] (D P L (aA (aA (aA (aA (aA fQ.body))))) ⟨tm,[],0,0⟩)=_:=fun tm t5 t6 t7 t8=>
   aAa h (by lia) (by lia) aCe t5 t6 t7 t8
  have mid:∀tm,ai tm 5=.str p->ai tm 6=.str q->ai tm 7=.bool (decide (k<t.length))->ai tm 8=.bool Eb->
    ∃tm',D P L (a8 (aA (aA (aA (aA fQ.body))))) ⟨tm,[],0,0⟩=Gr (.normal,⟨tm',[],0,0⟩)/\ai tm' 5=.str p/\ai tm' 6=.str q/\ai tm' 7=.bool (decide (k<t.length))/\ai tm' 8=.bool ok:=fun tm t5 t6 t7 t8=>by
   unfold ab at e3;by_cases hs:k<t.length
   .rw [yN hs] at t7 kH ⊢;simp only[yO,vT] at kH
    cases Eb with
    | false=>
     rw[wH] at kH;subst kH;refine⟨_,by simp only[go_sem,ya,fQ,a8,aA,t7,t8]<;>rfl,?_⟩
     simp only[go_sem,ya,t5,t6,t7,yab]
    | true=>
     rw[wI] at kH
     cases hd:dW q with
     | false=>
      rw[hd] at e3 kH;rw[wH] at kH;subst kH;refine⟨_,by simp only[go_sem,ya,fQ,a8,aA,t6,t7,t8,e3]<;>rfl,?_⟩
      simp only[go_sem,ya,t5,t6,t7,yab]
     | true=>
      rw[hd] at e3 kH;rw[wI] at kH
      cases kZ:db q [48] with
      | true=>
       rw[kZ,yO,wH] at kH;subst kH;refine⟨_,by simp only[go_sem,ya,fQ,a8,aA,t6,t7,t8,e3,EF,kZ,yO]<;>rfl,?_⟩
       simp only[go_sem,ya,t5,t6,t7,yab]
      | false=>
       rw[kZ,yY,wI] at kH;subst kH;refine⟨_,by simp only[go_sem,ya,fQ,a8,aA,t6,t7,t8,e3,EF,kZ,yY]<;>rfl,?_⟩
       simp only[go_sem,ya,t5,t6,t7,yab]
   .rw [yC hs] at t7 kH ⊢;simp only[yY,uN,uk] at kH;subst kH;refine⟨_,by simp only[go_sem,fQ,a8,aA,t7]<;>rfl,?_⟩
    simp only[go_sem,ya,t5,t6,t7,t8,yab]
  have fin:∀tm,ai tm 5=.str p->ai tm 6=.str q->ai tm 7=.bool (decide (k<t.length))->ai tm 8=.bool Eb->
    D P L (.seq (a8 fQ.body) (.seq (a8 (aA fQ.body)) (.seq (a8 (aA (aA fQ.body))) (a8 (aA (aA (aA fQ.body))))))) ⟨[(0,.str s)],[],0,0⟩=Gr (.normal,⟨tm,[],0,0⟩)->ab P L 86 [.str s] _:=fun tm t5 t6 t7 t8 e=>by
   have⟨tm',e',f5,f6,f7,f8⟩:=mid tm t5 t6 t7 t8;unfold ab;rw[aD h.h86];show et [.t 2] (D P L (.seq (a8 fQ.body) (.seq (a8 (aA fQ.body)) (.seq (a8 (aA (aA fQ.body))) (.seq (a8 (aA (aA (aA fQ.body)))) (.seq (a8 (aA (aA (aA (aA fQ.body))))) (aA (aA (aA (aA (aA fQ.body)))))))))) ⟨[(0,.str s)],[],0,0⟩)=_
   rw[apn,e,ju,nZ,e',ju];exact tail tm' f5 f6 f7 f8
  unfold ab at e2
  cases hd:dW p with
  | false=>
   rw[hd] at e2 AT;rw[wH] at AT;subst AT;refine fin _ ?_ ?_ ?_ ?_ (by simp only[go_sem,ya,fQ,a8,aA,e0,e1,e2]<;>rfl)<;>simp only[go_sem,ya]
  | true=>
   rw[hd] at e2 AT
   cases neg with
   | false=>
    simp only[yY,uN] at AT;subst AT;refine fin _ ?_ ?_ ?_ ?_ (by simp only[go_sem,ya,fQ,a8,aA,e0,e1,e2,yY]<;>rfl)<;>simp only[go_sem,ya]
   | true=>
    simp only[yO,vT] at AT;subst AT;refine fin _ ?_ ?_ ?_ ?_ (by simp only[go_sem,ya,fQ,a8,aA,e0,e1,e2,yO,EF]<;>rfl)<;>simp only[go_sem,ya]
 unfold bX;have e0:=aCb h s
 cases s with
 | nil=>exact key ydz [] (by simp) e0
 | cons b r=>
  by_cases hb:b=45
  .subst hb;exact key ydy r (by simp at hl;lia) e0
  .simp only [hb,xz];rw[yp (by simpa using hb)] at e0;exact key ydz (b::r) hl e0
end
section
variable {v:AV}{z:Int}{K:Nat}
def LN(z:Int):Bool:=decide (600<(az z.natAbs).length)
def LG(r:Rat):Bool:=LN r.num||LN (r.den:Int)
def T8{m B k:Nat}(hB:B<=3*k)(hk:0<k)(h:m<2^B):(az m).length<=k:=by
 obtain⟨j,rfl⟩:∃j,k=j+1:=⟨k-1,by lia⟩;refine zm (yI h (xi (y8 (by decide) hB) ?_));rw[yaD];exact um (by decide) _
def PF:∀f n:Nat,dO f n<=f
 | 0,_=>yx _
 | f+1,n=>by
  unfold dO
  cases yt n 0 with
  | true=>exact tG _
  | false=>have:=PF f (n/2);simp only[yT];lia
def afL{P:aF}{L:Lib}{f:cu}(h:L.pure 175=Gr KF){x:Nat}(hx:x<2^64):bO P L f 175 [uc x]=Gr (aa (dO 64 x:Nat)):=by
 rw[jF h];show (bif yQ x (2^64) then _ else none)=_
 rw[mD hx];rfl
def aeZ{n top low:Nat}(hn:0<n)(h0:0<top)(ht:top<2^64)(hV:V=low+(2^64)^(n-1)*top)(hl:low<(2^64)^(n-1)):V<2^(64*(n-1)+dO 64 top):=by
 have⟨l1,l2,l3⟩:=U2 h0 ht;have hle:=PF 64 top;have h1:top<2^dO 64 top:=by
  have e:(2^64:Nat)=2^dO 64 top*2^(64-dO 64 top):=by rw[<-xF,show dO 64 top+(64-dO 64 top)=64 by lia]
  rw[e] at l3;exact Nat.lt_of_mul_lt_mul_right l3
 have h3:=y5 ((2^64)^(n-1)) (show top+1<=2^dO 64 top from h1);rw[xF,yaD]
 grind
def ad1(K:Nat):2^K<=(2^64)^(K/64+1):=by
 rw[show (2^64:Nat)=2^64 from rfl,<-yaD];exact y8 (by decide) (by lia)
def aAb(h:Tx P L)(hv:cz v z)(hz:Bd K z)(hK:K<=4000000000):∃B:Nat,ab P L 172 [v] (aa B)/\z.natAbs<2^B/\B<=K+64:=by
 obtain⟨s,w,rfl,hn⟩:=hv;have⟨l,u⟩:=hn.aI;have⟨r,e1,hr⟩:=AQ h.toNu hn;have⟨ws,hw,g,NK,hb⟩:=hr;have hl:ws.length<=K/64+1:=po NK hb (yI hz (ad1 K));unfold ab at e1 ⊢;by_cases h0:ws=[]
 .subst h0;have kY:z.natAbs=0:=by rw[<-hb];rfl
  refine⟨0,?_,by rw[kY];decide,by lia⟩
  rw[aD h.Yi];simp only[go_sem,ya,yb,L2,aQ,bZ,bP,u.pu,u.ah,u.one,e1,hw.len,yM,show ((0:Nat):Int)=0 from rfl,yv]
 .have hp:0<ws.length:=tx.2 h0;have n5:=Kc NK h0;have Aa:=iJ (show 0<2^64 by decide) g (ws.length-1);have ei:=hw.bj (i:=ws.length-1) (by lia);have eL:=jU (b:=2^64) (l:=ws) (ws.length-1);have DA:=nc (Bv g (ws.length-1));rw[yP,xo (by lia)] at DA;rw[show ws.length-1+1=ws.length by lia,yK (yx _)] at eL;generalize ws.getD (ws.length-1) 0=top at*
  have e2:=afL (P:=P) (f:=D P L) h.aiL Aa;have hle:=PF 64 top;have zE:=aeZ hp (Nat.pos_of_ne_zero n5) Aa eL DA;rw[hb] at zE;refine⟨64*(ws.length-1)+dO 64 top,?_,zE,by lia⟩;rw[aD h.Yi]
  simp only[go_sem,ya,yb,L2,aQ,bZ,bP,u.pu,u.ah,u.one,e1,hw.len,show ¬(ws.length:Int)=0 by lia,show (ws.length:Int)-1=((ws.length-1:Nat):Int) by lia,wrapN (n:=ws.length-1) (by lia),show (64:Int)*((ws.length-1:Nat):Int)=((64*(ws.length-1):Nat):Int) by lia,wrapN (n:=64*(ws.length-1)) (by lia),ei,e2,show ((64*(ws.length-1):Nat):Int)+((dO 64 top:Nat):Int)=((64*(ws.length-1)+dO 64 top:Nat):Int) from rfl,wrapN (n:=64*(ws.length-1)+dO 64 top) (by lia)]
def aCf(h:Tx P L)(hv:cz v z)(hz:Bd K z)(hK:K<=4000000000):∃B:Nat,ab P L 172 [v] (aa B)/\z.natAbs<2^B/\B<=300000000000:=by
 have⟨B,h1,h2,h3⟩:=aAb h hv hz hK;exact⟨B,h1,h2,by lia⟩
def apo(z:Int):(if iL [45] (bc z)=ydy then (bc z).drop 1 else bc z)=az z.natAbs:=by
 by_cases h:z<0
 .rw [oO h];rfl
 .obtain ⟨m,rfl⟩:∃m:Nat,z=m:=⟨z.toNat,by lia⟩;rw[mz];have⟨b,r,hb,h1,_⟩:=GB m;rw[xG,hb,Uz h1];rfl
def aiS(h:Tx P L)(hv:cz v z)(hz:Bd K z)(hK:K<=4000000000):ab P L 151 [v] (.bool (LN z)):=by
 have⟨B,e1,hB,hBb⟩:=aCf h hv hz hK;have e2:=m99 h hv hz hK;obtain⟨s,w,rfl,hn⟩:=hv;have⟨l,u⟩:=hn.aI;have e3:bO P L (D P L) 153 [.str (bc z),.str [45]]=Gr (.str (az z.natAbs)):=by
  rw[jF h.Yf,<-apo];show Gr (AV.str (bif iL [45] (bc z) then (bc z).drop 1 else bc z))=_
  cases iL [45] (bc z)<;>rfl
 unfold ab at e1 e2 ⊢;rw[aD h.aB1];unfold LN;by_cases h1:1800<B
 .simp only [go_sem,ya,yb,QW,aQ,bZ,bP,u.pu,u.ah,u.one,e1,show (1800:Int)<(B:Int) by lia,yv,e2,e3];by_cases h2:600<(az z.natAbs).length
  .rw [yN h2,yN (by lia)]
  .rw [yC h2,yC (by lia)]
 .have h2:=T8 (k:=600) (by lia) (by decide) hB;rw[yC (by lia)];simp only[go_sem,ya,yb,QW,aQ,bZ,bP,u.pu,u.ah,u.one,e1,show ¬(1800:Int)<(B:Int) by lia,yu]
def aCg(h:Tx P L){a:Rat}(hv:bW v a)(ka:Hq K a)(hK:K<=4000000000):ab P L 107 [v] (.bool (LG a)):=by
 obtain⟨s1,w1,s2,w2,rfl,h1,h2⟩:=hv;have e1:=aiS h ⟨s1,w1,rfl,h1⟩ ka.1 hK;have e2:=aiS h ⟨s2,w2,rfl,h2⟩ ka.2 hK;have⟨l1,u1⟩:=h1.aI;have⟨l2,u2⟩:=h2.aI;unfold ab at e1 e2 ⊢;rw[aD h.aB2];unfold LG
 cases hb:LN a.num with
 | true=>
  rw[hb] at e1;simp only[go_sem,ya,yb,QQ,aQ,aX,ye,bZ,bP,u1.pu,u1.ah,u1.one,u2.pu,u2.one,e1];rfl
 | false=>
  rw[hb] at e1;simp only[go_sem,ya,yb,QQ,aQ,aX,ye,show uh 2 [aa s1,w1,aa s2,w2]=[aa s2,w2] from rfl,bZ,bP,u1.pu,u1.ah,u1.one,u2.pu,u2.ah,u2.one,e1,e2];rfl
end
section
variable {e:Int}{m:Nat}
def aiT(a b:Nat)(h:a<b):2^a<2^b:=vE (by decide) h
def aiU(a b:Nat)(h:2^a<2^b):a<b:=(uB (by decide)).1 h
def Wc(m a b c:Nat)(h:m<2^a)(hc:a+b=c):m*2^b<2^c:=by
 subst hc;rw[xF];exact xZ h (xf _)
def atT(a b k:Nat)(h:a<b):a<b*2^k:=yI h (tD _ (xf _))
def axA(m a b c:Nat)(h:2^a<=m)(hc:c<=a+b):2^c<=m*2^b:=
 xi (y8 (by decide) hc) (by rw[xF];exact yX _ h)
open Ieee
def p2(e:Int):Rat:=(2:Rat)^e
def eR(a b:Int):p2 (a+b)=p2 a*p2 b:=Rat.zpow_add (by decide) a b
def mW(e:Int):0<p2 e:=Rat.zpow_pos (by decide)
def Qu(e:Int):p2 e≠0:=fun h=>by have:=mW e;rw[h] at this;exact absurd this (by decide)
def fL(n:Nat):p2 n=((2^n:Nat):Rat):=by
 unfold p2;rw[tE,Rat.natCast_pow];rfl
def axB(n:Nat)(h:n≠0):1<p2 n:=by
 rw[fL n]
 have:((1:Nat):Rat)<((2^n:Nat):Rat):=by rw[Rat.natCast_lt_natCast];exact vP h
 exact this
def pq:p2 0=1:=by have:=fL 0;simpa using this
def sq:p2 1=2:=by have:=fL 1;simpa using this
def Hj(e:Int):p2 (-e)*p2 e=1:=by rw[<-eR,show -e+e=0 by omega,pq]
structure Can(f:Format)(m:Nat)(e:Int):Prop where
 lp:f.leastPlace<=e
 lt:m<2^(f.fractionBits+1)
 ge:2^f.fractionBits<=m\/e=f.leastPlace
def gA(f:Format)(m:Nat)(e:Int):Nat:=(e-f.leastPlace).toNat*2^f.fractionBits+m
def afM(f:Format):f.infRung<f.signWeight:=by
 have h:0<2^f.exponentBits:=xf _;have hb:0<2^f.fractionBits:=xf _;unfold Format.infRung Format.signWeight Format.binade;rw[xF];exact xZ (by omega) hb
def apq{f:Format}(h:Can f m e)(s:Bool)(hr:gA f m e<f.infRung):f.read (f.word s (gA f m e))=.number s m e:=by
 have gU:=afM f;have hb:0<2^f.fractionBits:=xf _;have lp:=h.lp;have lt:=h.lt;have ge:=h.ge;rw[xp] at lt;have fw:(f.word s (gA f m e)/f.signWeight%2==1)=s:=by
  unfold Format.word
  cases s with
  | true=>rw[yE rfl,Nat.add_div_left _ (by omega),xU (by omega)];rfl
  | false=>rw[yp (by decide),xU (by omega)];rfl
 have ns:f.word s (gA f m e)%f.signWeight=gA f m e:=by
  unfold Format.word
  cases s with
  | true=>rw[yE rfl,ycg,yR (by omega)]
  | false=>rw[yp (by decide),yR (by omega)]
 unfold Format.read;simp only[fw,ns];obtain⟨d,hd⟩:∃d:Nat,e=f.leastPlace+d:=⟨(e-f.leastPlace).toNat,by omega⟩;have iU:gA f m e=d*2^f.fractionBits+m:=by unfold gA;rw[hd,show (f.leastPlace+(d:Int)-f.leastPlace).toNat=d by omega]
 unfold Format.binade;by_cases c:gA f m e<2^f.fractionBits
 .rw [yE c];have ij:d=0:=by
   rcases ge with ge | ge
   .exfalso
    have:=tG (d*2^f.fractionBits)
    omega
   .omega
  subst ij;rw[wz,ye] at iU;rw[iU,hd,Int.natCast_zero,ycT]
 .rw [yp c,yE hr];have hm:2^f.fractionBits<=m:=by
   rcases ge with ge | ge
   .exact ge
   .have:d=0:=by omega
    subst this;rw[wz,ye] at iU;omega
  obtain⟨x,hx⟩:∃x,m=2^f.fractionBits+x:=⟨m-2^f.fractionBits,by omega⟩;have hdiv:gA f m e/2^f.fractionBits=d+1:=by
   rw[iU,hx,<-td,<-ycU,xg,tA hb,xU (by omega)]
  have MZ:gA f m e%2^f.fractionBits=x:=by
   rw[iU,hx,<-td,<-ycU,xg,yal,yR (by omega)]
  rw[hdiv,MZ,hx,hd,show d+1-1=d by omega]
def acU{n:Nat}{neg:Bool}:Toward.even.cut neg (n*2^d) d=n:=by
 unfold Toward.cut;by_cases h0:n=0
 .subst h0
  simp
 .have hl:d<=(n*2^d).log2:=(ydi (uU (wV (by omega) (xf _)))).2 (uz _ (by omega));have hp:0<2^d:=xf _;rw[xo (by omega),ybU];simp only[tC,tk _ hp,xI];have h1:decide (2^d<0)=ydz:=by simp
  have h2:((2^d==0):Bool)=ydz:=by simpa using uU hp
  simp[h2]
def Tw{n:Nat}(h:n≠0):∀d,(n*2^d).log2=n.log2+d
 | 0=>by simp
 | d+1=>by
  rw[xp,<-xk,xg (n*2^d) 2,Nat.log2_two_mul (uU (wV (by omega) (xf _))),Tw h d];omega
def Can.last{f:Format}(h:Can f m e)(h0:m≠0):max (e+m.log2-f.fractionBits) f.leastPlace=e:=by
 have lp:=h.lp;have h1:m.log2<f.fractionBits+1:=(ybw h0).2 h.lt;rcases h.ge with g | g
 .have:=(ydi h0).2 g
  omega
 .omega
def ad2{f:Format}(h:Can f m e)(h0:m≠0)(s:Bool)(hv:(m0:Rat)*p2 e0=(m:Rat)*p2 e):f.nearest s m0 e0=f.word s (min (gA f m e) f.infRung):=by
 have hl:=h.last h0;have lp:=h.lp;by_cases c:e0<=e
 .obtain ⟨d,hd⟩:∃d:Nat,e=e0+d:=⟨(e-e0).toNat,by omega⟩;have hm:m0=m*2^d:=by
   rw[hd,eR,fL] at hv;have h1:(m0:Rat)=((m*2^d:Nat):Rat):=by
    rw[xK];have h2:p2 e0*p2 (-e0)=1:=by rw[ybh];exact Hj e0
    have h3:(m0:Rat)*p2 e0*p2 (-e0)=(m:Rat)*(p2 e0*((2^d:Nat):Rat))*p2 (-e0):=congrArg (·*p2 (-e0)) hv;rw[wF,h2,wO] at h3;rw[h3]
    have:(m:Rat)*(p2 e0*((2^d:Nat):Rat))*p2 (-e0)=(m:Rat)*((2^d:Nat):Rat)*(p2 e0*p2 (-e0)):=by grind
    rw[this,h2,wO]
   exact_mod_cast h1
  have sX:m0≠0:=by rw[hm];exact uU (wV (by omega) (xf _))
  unfold Format.nearest;rw[yp sX];have n5:max (e0+m0.log2-f.fractionBits) f.leastPlace=e:=by
   rw[hm,Tw h0,<-hl];omega
  dsimp only
  rw[n5];rw[show (e0-e).toNat=0 by omega,Nat.shiftLeft_zero,show (e-e0).toNat=d by omega,hm,acU];rfl
 .obtain ⟨d,hd⟩:∃d:Nat,e0=e+d:=⟨(e0-e).toNat,by omega⟩;have hm:m=m0*2^d:=by
   rw[hd,eR,fL] at hv;have h1:(m:Rat)=((m0*2^d:Nat):Rat):=by
    rw[xK];have h2:p2 e*p2 (-e)=1:=by rw[ybh];exact Hj e
    have h3:(m0:Rat)*(p2 e*((2^d:Nat):Rat))*p2 (-e)=(m:Rat)*p2 e*p2 (-e):=congrArg (·*p2 (-e)) hv;have h4:(m:Rat)*p2 e*p2 (-e)=m:=by rw[wF,h2,wO]
    rw[h4] at h3;rw[<-h3]
    have:(m0:Rat)*(p2 e*((2^d:Nat):Rat))*p2 (-e)=(m0:Rat)*((2^d:Nat):Rat)*(p2 e*p2 (-e)):=by grind
    rw[this,h2,wO]
   exact_mod_cast h1
  have sX:m0≠0:=fun q=>by rw[q,wz] at hm;exact h0 hm
  unfold Format.nearest;rw[yp sX];have n5:max (e0+m0.log2-f.fractionBits) f.leastPlace=e:=by
   rw[hm,Tw sX] at hl;rw[<-hl];omega
  dsimp only
  rw[n5];rw[show (e0-e).toNat=d by omega,show (e-e0).toNat=0 by omega,uK,<-hm]
  have:=acU (n:=m) (d:=0) (neg:=s)
  rw[vX,yh] at this;rw[this];rfl
end
section
open Ieee
structure oI(f:Format)(b:Nat)(s:Bool)(m:Nat)(e:Int):Prop where
 can:Can f m e
 lt:gA f m e<f.infRung
 eq:b=f.word s (gA f m e)
def oI.read{f:Format}{b:Nat}{s:Bool}{m:Nat}{e:Int}(h:oI f b s m e):f.read b=.number s m e:=by
 rw[h.eq];exact apq h.can s h.lt
def sg(s:Bool):Rat:=if s then -1 else 1
def fv(s:Bool)(m:Nat)(e:Int):Rat:=sg s*((m:Rat)*p2 e)
def ae0{f:Format}{m:Nat}{e:Int}(h:Can f m e)(he:(e-f.leastPlace).toNat+2<=2^f.exponentBits-1):gA f m e<f.infRung:=by
 have aG:=h.lt;rw[xp] at aG;unfold gA Format.infRung Format.binade
 have:=yX (2^f.fractionBits) he
 rw[we] at this;omega
def axC{f:Format}{n:Nat}{k:Int}(h0:n≠0)(hn:n<2^(f.fractionBits+1))(hk:f.leastPlace<=k):∃m e,Can f m e/\m≠0/\e<=k/\(m:Rat)*p2 e=(n:Rat)*p2 k:=by
 have hl:=(ybw h0).2 hn;obtain⟨j,hj⟩:∃j:Nat,j=min (f.fractionBits-n.log2) (k-f.leastPlace).toNat:=⟨_,rfl⟩;have h1:2^n.log2<=n:=Nat.log2_self_le h0;have h2:n<2^(n.log2+1):=ych;refine⟨n*2^j,k-j,⟨by omega,?_,?_⟩,uU (wV (by omega) (xf _)),by omega,?_⟩
 .have:n*2^j<2^(n.log2+1)*2^j:=xZ h2 (xf _)
  rw[<-xF] at this;exact yI this (y8 (by decide) (by omega))
 .by_cases c:f.fractionBits-n.log2<=(k-f.leastPlace).toNat
  .left
   have:=yX (2^j) h1
   rw[<-xF,show n.log2+j=f.fractionBits by omega] at this;exact this
  .right;omega
 .rw [xK,<-fL,wF,<-eR,show (j:Int)+(k-j)=k by omega]
def wr{f:Format}{n:Nat}{k:Int}(h0:n≠0)(hn:n<2^(f.fractionBits+1))(hk:f.leastPlace<=k)(iA:(k-f.leastPlace).toNat+2<=2^f.exponentBits-1)(s:Bool)(hv:(m0:Rat)*p2 e0=(n:Rat)*p2 k):∃m e,oI f (f.write (.number s m0 e0)) s m e/\m≠0/\(m:Rat)*p2 e=(n:Rat)*p2 k:=by
 obtain⟨m,e,hc,hm,he,hq⟩:=axC h0 hn hk;have hr:=ae0 hc (by have:=hc.lp;omega);refine⟨m,e,⟨hc,hr,?_⟩,hm,hq⟩;show f.nearest s m0 e0=_
 rw[ad2 hc hm s (hv.trans hq.symm),xo (by omega)]
def ahm(f:Format):Can f 0 f.leastPlace:=⟨ydj _,xf _,.inr rfl⟩
def wr0{f:Format}(s:Bool)(e0:Int)(hi:0<f.infRung):oI f (f.write (.number s 0 e0)) s 0 f.leastPlace:=by
 have hr:gA f 0 f.leastPlace=0:=by unfold gA;rw[ycV];simp
 refine⟨ahm f,by rw[hr];exact hi,?_⟩
 rw[hr];show f.nearest s 0 e0=_
 unfold Format.nearest;rw[yE rfl]
def axD{f:Format}{b:Nat}(hb:b<2*f.signWeight)(zV:f.binade<=f.infRung):(∃s m e,oI f b s m e)\/(∀s m e,f.read b≠.number s m e):=by
 have gU:=afM f;have hp:0<2^f.fractionBits:=xf _;obtain⟨s,r,hr,rfl⟩:∃(s:Bool) (r:Nat),r<f.signWeight/\b=f.word s r:=by
  by_cases c:b<f.signWeight
  .exact ⟨ydz,b,c,by unfold Format.word;rw[yp (by decide)]⟩
  .exact ⟨ydy,b-f.signWeight,by omega,by unfold Format.word;rw[yE rfl];omega⟩
 by_cases c:r<f.infRung
 .left
  by_cases c1:r<2^f.fractionBits
  .have e:gA f r f.leastPlace=r:=by unfold gA;rw[ycV];simp
   exact⟨s,r,f.leastPlace,⟨ydj _,by rw[xp];omega,.inr rfl⟩,by rw[e];exact c,by rw[e]⟩
  .obtain ⟨d,hd⟩:∃d,r/2^f.fractionBits=d+1:=⟨r/2^f.fractionBits-1,by have:=ydk (ycc c1) hp;omega⟩;have hm:=xE r hp;have hq:=xL r (2^f.fractionBits);rw[hd,xJ,yh,xg] at hq;have e:gA f (2^f.fractionBits+r%2^f.fractionBits) (f.leastPlace+d)=r:=by
    unfold gA;rw[show (f.leastPlace+(d:Int)-f.leastPlace).toNat=d by omega];omega
   exact⟨s,2^f.fractionBits+r%2^f.fractionBits,f.leastPlace+d,⟨by omega,by rw[xp];omega,.inl (by omega)⟩,by rw[e];exact c,by rw[e]⟩
 .right
  intro s' m e h;unfold Format.read at h;have ns:f.word s r%f.signWeight=r:=by
   unfold Format.word
   cases s with
   | true=>rw[yE rfl,ycg,yR hr]
   | false=>rw[yp (by decide),yR hr]
  simp only[ns] at h;rw[yp (by omega),yp c] at h
  split at h<;>cases h
end
section
open Ieee
section
variable {s:Bool}{e:Int}{m:Nat}
abbrev oJ(b:Nat)(s:Bool)(m:Nat)(e:Int):Prop:=oI single b s m e
def JC:single.leastPlace= -149:=by decide
def oJ.b{b:Nat}(h:oJ b s m e): -149<=e/\m<16777216/\(8388608<=m\/e= -149)/\e<=104:=by
 have h1:=h.can.lp;have h2:=h.can.lt;have h3:=h.can.ge;have h4:=h.lt;rw[JC] at h1 h3;have h4:(e-single.leastPlace).toNat*8388608+m<2139095040:=h4;rw[JC] at h4;have h2:m<16777216:=h2;have h3:8388608<=m\/e= -149:=h3;exact⟨h1,h2,h3,by omega⟩
def Cr{n:Nat}{k:Int}(h0:n≠0)(hn:n<16777216)(hk: -149<=k)(iA:k<=104)(s:Bool)(hv:(m0:Rat)*p2 e0=(n:Rat)*p2 k):∃m e,oJ (single.write (.number s m0 e0)) s m e/\m≠0/\(m:Rat)*p2 e=(n:Rat)*p2 k:=
 wr (f:=single) h0 hn (by rw[JC];exact hk) (by rw[JC];show _<=255;omega) s hv
def R2(s:Bool)(e0:Int):oJ (single.write (.number s 0 e0)) s 0 (-149):=by
 have:=wr0 (f:=single) s e0 (by decide)
 rwa[JC] at this
def ahn:single.read 1073741824=.number ydz 8388608 (-22):=by decide
def Yr{b:Nat}(h:oJ b s m e)(he:e<=103\/m=0):∃b' m' e',single.mul b 1073741824=Gr b'/\oJ b' s m' e'/\(m':Rat)*p2 e'=2*((m:Rat)*p2 e):=by
 obtain⟨b1,b2,b3,b4⟩:=h.b;have hr:=h.read;unfold Format.mul;rw[hr,ahn];show ∃b' m' e',Gr (single.write (.number (s^^ydz) (m*8388608) (e+ -22)))=Gr b'/\_
 rw[ycn];by_cases h0:m=0
 .subst h0;rw[wz];exact⟨_,_,_,rfl,R2 s _,by simp⟩
 .obtain ⟨m',e',k1,k2,k3⟩:=Cr (n:=m) (k:=e+1) h0 b2 (by omega) (by omega) (m0:=m*8388608) (e0:=e+ -22) s (by
   have:((8388608:Nat):Rat)=p2 23:=(fL 23).symm
   rw[xK,this,wF,<-eR,show (23:Int)+(e+ -22)=e+1 by omega])
  exact⟨_,m',e',rfl,k1,by rw[k3,eR,sq];grind⟩
def Ys{b:Nat}(h:oJ b s m e)(he: -148<=e\/m%2=0):∃b' m' e',single.div b 1073741824=Gr b'/\oJ b' s m' e'/\2*((m':Rat)*p2 e')=(m:Rat)*p2 e:=by
 obtain⟨b1,b2,b3,b4⟩:=h.b;have hr:=h.read;unfold Format.div;rw[hr,ahn];have hl:(8388608:Nat).log2=23:=by decide
 have e0:Datum.quotient (single.fractionBits+2) (.number s m e) (.number ydz 8388608 (-22))=Gr (.number (s^^ydz) (2*((m<<<(25+23-m.log2))/8388608)+((m<<<(25+23-m.log2))%8388608 !=0).toNat) (e - -22-(25+23-m.log2:Nat)-1)):=by
  show (if (8388608:Nat)=0 then (if m=0 then none else Gr (Datum.infinity (s^^ydz))) else Gr (Datum.number (s^^ydz) (2*((m<<<(25+ycw 8388608-m.log2))/8388608)+((m<<<(25+ycw 8388608-m.log2))%8388608 !=0).toNat) (e - -22-((25+ycw 8388608-m.log2:Nat):Int)-1)))=_
  rw[yp (by decide),hl]
 rw[e0,ycn];show ∃b' m' e',Gr (single.write (.number s _ _))=Gr b'/\_
 by_cases h0:m=0
 .subst h0;simp only[Nat.zero_shiftLeft,Nat.zero_div,Nat.zero_mod,xI];exact⟨_,_,_,rfl,R2 s _,by simp⟩
 .have DJ:m.log2<24:=(ybw h0).2 b2;obtain⟨t,ht⟩:∃t,25+23-m.log2=t+23:=⟨25-m.log2,by omega⟩;have kF:m<<<(t+23)=(m*2^t)*8388608:=by rw[uK,xF,<-xk]
  rw[ht,kF,tk _ (by decide),tC];simp only[bne_self_eq_false,ybV,y7];have aK:((2*(m*2^t):Nat):Rat)*p2 (e - -22-(t+23:Nat)-1)=(m:Rat)*p2 (e-1):=by
   have:((2:Nat):Rat)=p2 1:=(fL 1).symm
   rw[xK,xK,<-fL,this];have h2:p2 1*((m:Rat)*p2 t)*p2 (e - -22-(t+23:Nat)-1)=(m:Rat)*(p2 1*p2 t*p2 (e - -22-(t+23:Nat)-1)):=by grind
   rw[h2,<-eR,<-eR,show (1:Int)+t+(e - -22-(t+23:Nat)-1)=e-1 by omega]
  have fin:∀{m':Nat} {e':Int},(m':Rat)*p2 e'=(m:Rat)*p2 (e-1)->2*((m':Rat)*p2 e')=(m:Rat)*p2 e:=fun {m' e'} q=>by
   rw[q]
   have:p2 e=p2 1*p2 (e-1):=by rw[<-eR,show 1+(e-1)=e by omega]
   rw[this,sq];grind
  by_cases c: -148<=e
  .obtain ⟨m',e',k1,k2,k3⟩:=Cr (n:=m) (k:=e-1) h0 b2 (by omega) (by omega) s aK;exact⟨_,m',e',rfl,k1,fin k3⟩
  .have M9:m%2=0:=by omega
   have hm:((m:Nat):Rat)=((m/2:Nat):Rat)*2:=by
    have:m=m/2*2:=by omega
    conv=>lhs;rw[this,xK]
    rfl
   have hq:(m:Rat)*p2 (e-1)=((m/2:Nat):Rat)*p2 e:=by
    have:p2 e=p2 1*p2 (e-1):=by rw[<-eR,show 1+(e-1)=e by omega]
    rw[hm,this,sq];grind
   obtain⟨m',e',k1,k2,k3⟩:=Cr (n:=m/2) (k:=e) (by omega) (by omega) (by omega) (by omega) s (aK.trans hq);exact⟨_,m',e',rfl,k1,fin (k3.trans hq.symm)⟩
def ofInt{n:Int}(h:n.natAbs<=16777216):∃m e,oJ (single.write (.number (n<0) n.natAbs 0)) (n<0) m e/\(m:Rat)*p2 e=(n.natAbs:Rat):=by
 by_cases h0:n.natAbs=0
 .rw [h0];exact⟨0,-149,R2 _ _,by simp⟩
 .by_cases h1:n.natAbs<16777216
  .obtain ⟨m,e,k1,k2,k3⟩:=Cr (n:=n.natAbs) (k:=0) h0 h1 (by omega) (by omega) (m0:=n.natAbs) (e0:=0) (n<0) rfl;exact⟨m,e,k1,by rw[k3,pq,wO]⟩
  .have h2:n.natAbs=16777216:=by omega
   obtain⟨m,e,k1,k2,k3⟩:=Cr (n:=8388608) (k:=1) (by decide) (by decide) (by omega) (by omega) (m0:=n.natAbs) (e0:=0) (n<0) (by rw[h2,pq,sq];decide+kernel)
   exact⟨m,e,k1,by rw[k3,h2,sq];decide+kernel⟩
def arw(n d:Nat)(s:Bool):Toward.zero.cut s n d=n/2^d:=by
 unfold Toward.cut;simp only[ybU,ybV,y7];by_cases c:d<=n.log2+2
 .rw [xo c]
 .have h1:n<2^(n.log2+1):=ych;rw[Nat.min_eq_right (by omega),xU (vG h1 (vE (by decide) (by omega))),xU (vG h1 (vE (by decide) (by omega)))]
def oJ.toInt{b:Nat}(h:oJ b s m e):(single.read b).toInt .zero=Gr (if s=ydy then -((m*2^e.toNat/2^(-e).toNat:Nat):Int) else ((m*2^e.toNat/2^(-e).toNat:Nat):Int)):=by
 rw[h.read];unfold Datum.toInt Datum.integral;simp only[arw,uK,signed,vX,yh]
def PG{base:Int}(h:base<=e):((signed s m (e-base).toNat:Int):Rat)*p2 base=fv s m e:=by
 have:p2 e=p2 ((e-base).toNat:Nat)*p2 base:=by rw[<-eR,show ((e-base).toNat:Int)+base=e by omega]
 unfold signed fv sg;rw[this,uK,fL]
 cases s with
 | true=>
  rw[yE rfl,yE rfl,uW]
  have:(((m*2^(e-base).toNat:Nat):Int):Rat)=(m:Rat)*((2^(e-base).toNat:Nat):Rat):=by rw[<-xK];rfl
  rw[this];grind
 | false=>
  rw[yp (by decide),yp (by decide)]
  have:(((m*2^(e-base).toNat:Nat):Int):Rat)=(m:Rat)*((2^(e-base).toNat:Nat):Rat):=by rw[<-xK];rfl
  rw[this];grind
def atU{x y n:Nat}{t:Bool}{j:Int}(hx:oJ x s m e)(hy:oJ y t n j):single.order x y=Gr (if fv s m e<fv t n j then .lt else if fv s m e=fv t n j then .eq else .gt):=by
 unfold Format.order;rw[hx.read,hy.read];unfold Datum.order;have h1:=PG (m:=m) (s:=s) (show min e j<=e by omega);have h2:=PG (m:=n) (s:=t) (show min e j<=j by omega);have hp:=mW (min e j)
 dsimp only
 generalize signed s m (e-min e j).toNat=a at*
 generalize signed t n (j-min e j).toNat=b at*
 rw[<-h1,<-h2]
 congr 1
 have lt_iff:(a:Rat)*p2 (min e j)<(b:Rat)*p2 (min e j)↔a<b:=by
  constructor
  .intro q
   have:=(wP hp).1 q
   exact_mod_cast this
  .intro q;exact (wP hp).2 (by exact_mod_cast q)
 have eq_iff:(a:Rat)*p2 (min e j)=(b:Rat)*p2 (min e j)↔a=b:=by
  constructor
  .intro q;rcases uT a b with c | c | c
   .have:=lt_iff.2 c;rw[q] at this;exact absurd this (ud)
   .exact c
   .have:=(wP hp).2 (show (b:Rat)<a by exact_mod_cast c);rw[q] at this;exact absurd this (ud)
  .intro q;rw[q]
 rcases uT a b with c | c | c
 .rw [yE (lt_iff.2 c)];exact Int.compare_eq_lt.2 c
 .rw [yp (fun q=>by have:=lt_iff.1 q;omega),yE (eq_iff.2 c)];exact Int.compare_eq_eq.2 c
 .rw [yp (fun q=>by have:=lt_iff.1 q;omega),yp (fun q=>by have:=eq_iff.1 q;omega)];exact Int.compare_eq_gt.2 c
end
end
section
open Ieee
section
variable {s:Bool}{e:Int}{M b m:Nat}
def cO(m:Nat)(e:Int):Nat:=m*2^(e+149).toNat
structure Fl(b:Nat)(s:Bool)(M:Nat):Prop where
 ex:∃m e,oJ b s m e/\M=cO m e
def zt(h: -149<=e):((cO m e:Nat):Rat)=(m:Rat)*p2 e*p2 149:=by
 unfold cO;rw[xK,<-fL,wF,<-eR,show ((e+149).toNat:Int)=e+149 by omega]
def axE:p2 149≠0:=Qu 149
def VB{n:Nat}{j:Int}(h1: -149<=e)(h2: -149<=j)(h:(m:Rat)*p2 e=(n:Rat)*p2 j):cO m e=cO n j:=by
 have:((cO m e:Nat):Rat)=((cO n j:Nat):Rat):=by rw[zt h1,zt h2,h]
 exact_mod_cast this
def Fl.lt(h:Fl b s M):M<2^277:=by
 obtain⟨m,e,h1,rfl⟩:=h.ex;obtain⟨b1,b2,b3,b4⟩:=h1.b;unfold cO;have h3:2^(e+149).toNat<=2^253:=y8 (by decide) (by omega);have h4:=yZ (uf (show m<16777215+1 from b2)) h3;exact xQ h4 (Wc 16777215 24 253 277 (by decide) rfl)
def Fl.Yr(h:Fl b s M)(hM:M<2^276):∃b',single.mul b 1073741824=Gr b'/\Fl b' s (2*M):=by
 obtain⟨m,e,h1,rfl⟩:=h.ex;obtain⟨b1,b2,b3,b4⟩:=h1.b;have he:e<=103\/m=0:=by
  by_cases c:e<=103
  .exact .inl c
  .exfalso
   have hm:8388608<=m:=by omega
   unfold cO at hM;have h3:2^253<=2^(e+149).toNat:=y8 (by decide) (by omega);have h4:=yZ hm h3;have h5:(2:Nat)^275<=8388608*2^253:=axA 8388608 23 253 275 (by decide) (by decide);omega
 obtain⟨b',m',e',k1,k2,k3⟩:=VE.Yr h1 he;have b1':=k2.b.1;refine⟨b',k1,m',e',k2,?_⟩
 have:((2*cO m e:Nat):Rat)=((cO m' e':Nat):Rat):=by
  rw[xK,zt b1,zt b1',k3];show (2:Rat)*_=_
  grind
 exact_mod_cast this
def Fl.Ys(h:Fl b s M)(hM:M%2=0):∃b',single.div b 1073741824=Gr b'/\Fl b' s (M/2):=by
 obtain⟨m,e,h1,rfl⟩:=h.ex;obtain⟨b1,b2,b3,b4⟩:=h1.b;have he: -148<=e\/m%2=0:=by
  by_cases c: -148<=e
  .exact .inl c
  .have:e= -149:=by omega
   subst this;unfold cO at hM;right
   simpa using hM
 obtain⟨b',m',e',k1,k2,k3⟩:=VE.Ys h1 he;have b1':=k2.b.1;refine⟨b',k1,m',e',k2,?_⟩
 have:((cO m e:Nat):Rat)=((2*cO m' e':Nat):Rat):=by
  rw[xK,zt b1,zt b1',<-k3];show _=(2:Rat)*_
  grind
 have:cO m e=2*cO m' e':=by exact_mod_cast this
 omega
def bk(s:Bool)(M:Nat):Int:=if s then -(M:Int) else M
def aho(h: -149<=e):fv s m e*p2 149=((bk s (cO m e):Int):Rat):=by
 unfold fv sg bk
 cases s with
 | true=>
  rw[yE rfl,yE rfl,uW]
  have:=zt (m:=m) h
  have h2:(((cO m e:Nat):Int):Rat)=((cO m e:Nat):Rat):=rfl;rw[h2,this];grind
 | false=>
  rw[yp (by decide),yp (by decide)]
  have:=zt (m:=m) h
  have h2:(((cO m e:Nat):Int):Rat)=((cO m e:Nat):Rat):=rfl;rw[h2,this];grind
def Fl.ord{x y:Nat}{t:Bool}(hx:Fl x s M)(hy:Fl y t N):single.order x y=Gr (if bk s M<bk t N then .lt else if bk s M=bk t N then .eq else .gt):=by
 obtain⟨m,e,h1,rfl⟩:=hx.ex;obtain⟨n,j,h2,rfl⟩:=hy.ex;rw[atU h1 h2];have q1:=aho (s:=s) (m:=m) h1.b.1;have q2:=aho (s:=t) (m:=n) h2.b.1;have hp:=mW 149;have lt_iff:fv s m e<fv t n j↔bk s (cO m e)<bk t (cO n j):=by
  rw[<-wP hp,q1,q2];exact Rat.intCast_lt_intCast
 have eq_iff:fv s m e=fv t n j↔bk s (cO m e)=bk t (cO n j):=by
  constructor
  .intro q;rw[q,q2] at q1;exact (Rat.intCast_inj.1 q1).symm
  .intro q
   have:fv s m e*p2 149=fv t n j*p2 149:=by rw[q1,q2,q]
   have h3:=congrArg (·*(p2 149)⁻¹) this;simpa only[wF,Rat.mul_inv_cancel _ axE,wO] using h3
 congr 1
 by_cases c1:bk s (cO m e)<bk t (cO n j)
 .rw [yE c1,yE (lt_iff.2 c1)]
 .rw [yp c1,yp (fun q=>c1 (lt_iff.1 q))];by_cases c2:bk s (cO m e)=bk t (cO n j)
  .rw [yE c2,yE (eq_iff.2 c2)]
  .rw [yp c2,yp (fun q=>c2 (eq_iff.1 q))]
def Fl.ofInt{n:Int}(h:n.natAbs<=16777216):Fl (single.write (.number (n<0) n.natAbs 0)) (n<0) (n.natAbs*2^149):=by
 obtain⟨m,e,k1,k2⟩:=VE.ofInt h;refine⟨m,e,k1,?_⟩;have b1:=k1.b.1
 have:((n.natAbs*2^149:Nat):Rat)=((cO m e:Nat):Rat):=by
  rw[zt b1,k2,xK,<-fL];rfl
 exact_mod_cast this
def Fl.toInt(h:Fl b s M):(single.read b).toInt .zero=Gr (bk s (M/2^149)):=by
 obtain⟨m,e,h1,rfl⟩:=h.ex;have b1:=h1.b.1;rw[h1.toInt]
 have:m*2^e.toNat/2^(-e).toNat=cO m e/2^149:=by
  unfold cO;by_cases c:0<=e
  .rw [show (-e).toNat=0 by omega,vX,Nat.div_one,show (e+149).toNat=e.toNat+149 by omega,xF,<-xk,tk _ (xf _)]
  .obtain ⟨d,hd⟩:∃d:Nat,e= -(d:Int):=⟨(-e).toNat,by omega⟩;have jC:(e+149).toNat+d=149:=by omega
   rw[show e.toNat=0 by omega,vX,yh,show (-e).toNat=d by omega];have hp:0<2^(e+149).toNat:=xf _;rw[<-jC,xF,xg m,Nat.mul_div_mul_left _ _ hp]
 rw[this];unfold bk;cases s<;>rfl
def Fl.zero:Fl 0 ydz 0:=⟨0,-149,⟨by rw[<-JC];exact ahm single,by decide,by decide⟩,by decide⟩
def Fl.neg(h:Fl b s M):Fl (b^^^2147483648) (!s) M:=by
 obtain⟨m,e,h1,rfl⟩:=h.ex;refine⟨m,e,⟨h1.can,h1.lt,?_⟩,rfl⟩;have hr:gA single m e<2^31:=vG h1.lt (by decide);have sw:single.signWeight=2^31:=by decide
 rw[h1.eq];unfold Format.word;rw[sw];have hx:gA single m e^^^2147483648=2^31+gA single m e:=by
  rw[show (2147483648:Nat)=2^31*1 by decide,Nat.xor_comm]
  have:=Nat.two_pow_add_eq_or_of_lt hr 1
  have h2:=Nat.xor_mod_two_pow (a:=gA single m e) (b:=2^31*1) (n:=31);refine Nat.eq_of_testBit_eq fun i=>?_
  rw[Nat.testBit_xor,show 2^31+gA single m e=2^31*1+gA single m e by omega,Nat.testBit_two_pow_mul_add _ hr,Nat.testBit_two_pow_mul];by_cases c:i<31
  .simp [c,show ¬31<=i by omega]
  .have:Nat.testBit (gA single m e) i=ydz:=Nat.testBit_lt_two_pow (yI hr (y8 (by decide) (by omega)))
   simp[c,this,show 31<=i by omega]
 cases s with
 | false=>rw[yp (by decide),hx];rfl
 | true=>
  rw[yE rfl]
  have:(2^31+gA single m e)^^^2147483648=gA single m e:=by rw[<-hx,Nat.xor_assoc,Nat.xor_self,Nat.xor_zero]
  rw[this];rfl
end
end
section
open Go (IntKind)
open Ieee
section
variable {s:Bool}{M b:Nat}
def Fl.even(h:Fl b s M)(hM:2^173<=M):M%2=0:=by
 obtain⟨m,e,h1,rfl⟩:=h.ex;obtain⟨b1,b2,b3,b4⟩:=h1.b;by_cases c:e<=0
 .exfalso
  unfold cO at hM;have h3:2^(e+149).toNat<=2^149:=y8 (by decide) (by omega);have h4:=yZ (uf (show m<16777215+1 from b2)) h3;have h5:16777215*(2:Nat)^149<2^173:=by decide
  omega
 .obtain ⟨d,hd⟩:∃d,(e+149).toNat=d+1:=⟨(e+148).toNat,by omega⟩;unfold cO;rw[hd,xp,<-xk,tC]
def Fl.whole(h:Fl b s M)(hM:2^172<=M):M%2^149=0:=by
 obtain⟨m,e,h1,rfl⟩:=h.ex;obtain⟨b1,b2,b3,b4⟩:=h1.b;by_cases c:e<0
 .exfalso
  unfold cO at hM;have h3:2^(e+149).toNat<=2^148:=y8 (by decide) (by omega);have h4:=yZ (uf (show m<16777215+1 from b2)) h3;have h5:16777215*(2:Nat)^148<2^172:=by decide
  omega
 .obtain ⟨d,hd⟩:∃d,(e+149).toNat=d+149:=⟨e.toNat,by omega⟩;unfold cO;rw[hd,xF,<-xk,tC]
def We(h:Fl b s M)(hM:M<2^276):∃b',binOp .mul (.an .f32 b) (.an .f32 1073741824)=Gr (.an .f32 b')/\Fl b' s (2*M):=by
 obtain⟨b',k1,k2⟩:=h.Yr hM;refine⟨b',?_,k2⟩;show (match single.mul b 1073741824 with | some b=>Gr (AV.an .f32 b) | none=>none)=_
 rw[k1]
def Wf(h:Fl b s M)(hM:M%2=0):∃b',binOp .quo (.an .f32 b) (.an .f32 1073741824)=Gr (.an .f32 b')/\Fl b' s (M/2):=by
 obtain⟨b',k1,k2⟩:=h.Ys hM;refine⟨b',?_,k2⟩;show (match single.div b 1073741824 with | some b=>Gr (AV.an .f32 b) | none=>none)=_
 rw[k1]
section
variable {x y M N:Nat}{s t:Bool}(hx:Fl x s M)(hy:Fl y t N)
include hx hy
theorem ahp:binOp .lss (.an .f32 x) (.an .f32 y)=Gr (.bool (decide (bk s M<bk t N))):=by
 show Gr (AV.bool (single.order x y==Gr .lt))=_
 rw[hx.ord hy];by_cases c:bk s M<bk t N
 .rw [yE c,yN c];rfl
 .rw [yp c,yC c];split<;>rfl
theorem ahq:binOp .geq (.an .f32 x) (.an .f32 y)=Gr (.bool (decide (bk t N<=bk s M))):=by
 show Gr (AV.bool (single.order x y==Gr .gt||single.order x y==Gr .eq))=_
 rw[hx.ord hy];by_cases c:bk s M<bk t N
 .rw [yE c,yC (by omega)];rfl
 .rw [yp c,yN (by omega)];split<;>rfl
theorem Qv:binOp .eql (.an .f32 x) (.an .f32 y)=Gr (.bool (decide (bk s M=bk t N))):=by
 show Gr (AV.bool (single.order x y==Gr .eq))=_
 rw[hx.ord hy];by_cases c:bk s M<bk t N
 .rw [yE c,yC (by omega)];rfl
 .rw [yp c];by_cases d:bk s M=bk t N
  .rw [yE d,yN d];rfl
  .rw [yp d,yC d];rfl
theorem WX:binOp .neq (.an .f32 x) (.an .f32 y)=Gr (.bool (!decide (bk s M=bk t N))):=by
 show Gr (AV.bool (single.order x y !=Gr .eq))=_
 rw[hx.ord hy];by_cases c:bk s M<bk t N
 .rw [yE c,yC (by omega)];rfl
 .rw [yp c];by_cases d:bk s M=bk t N
  .rw [yE d,yN d];rfl
  .rw [yp d,yC d];rfl
end
def Qw(b:Nat):unOp .neg (.an .f32 b)=Gr (.an .f32 (b^^^2147483648)):=rfl
def aAc(h:Fl b s M):∃a,max2 (.an .f32 b) (.an .f32 (b^^^2147483648))=Gr (.an .f32 a)/\Fl a ydz M:=by
 have hn:=h.neg;have ho:=h.ord hn
 have e:max2 (.an .f32 b) (.an .f32 (b^^^2147483648))=(match single.order b (b^^^2147483648) with
  | none=>none
  | some .lt=>Gr (.an .f32 (b^^^2147483648))
  | some .gt=>Gr (.an .f32 b)
  | some .eq=>Gr (.an .f32 (if (single.read b).neg then (b^^^2147483648) else b))):=rfl
 rw[e,ho];obtain⟨m,j,h1,hM⟩:=h.ex;have hr:(single.read b).neg=s:=by rw[h1.read];rfl
 cases s with
 | true=>
  by_cases c:bk ydy M<bk (!ydy) M
  .rw [yE c];exact⟨_,rfl,hn⟩
  .have:bk ydy M=bk (!ydy) M:=by
    unfold bk at c ⊢;simp at c ⊢;omega
   rw[yp c,yE this]
   dsimp only
   rw[hr,yE rfl];exact⟨_,rfl,hn⟩
 | false=>
  have c:¬bk ydz M<bk (!ydz) M:=by
   show ¬(M:Int)< -(M:Int)
   omega
  rw[yp c];by_cases d:bk ydz M=bk (!ydz) M
  .rw [yE d]
   dsimp only
   rw[hr,yp (by decide)];exact⟨_,rfl,h⟩
  .rw [yp d];exact⟨_,rfl,h⟩
def PH(h:Fl b s M)(hM:M<2^200):iv (.toInt .i64) (.an .f32 b)=Gr (.int .i64 (bk s (M/2^149))):=by
 have e:iv (.toInt .i64) (.an .f32 b)=(match (single.read b).toInt .zero with
  | some n=>if IntKind.min .i64<=n/\n<=IntKind.max .i64 then Gr (.int .i64 n) else none
  | none=>none):=rfl
 rw[e,h.toInt];have h1:M/2^149<2^51:=by rw[xH (xf _),<-xF];exact hM
 generalize M/2^149=n at h1
 have:IntKind.min .i64<=bk s n/\bk s n<=IntKind.max .i64:=by
  rw[show IntKind.min .i64= -9223372036854775808 from rfl,show IntKind.max .i64=9223372036854775807 from rfl];unfold bk
  split<;>omega
 exact yE this
def VD{n:Int}(h:n.natAbs<=16777216):∃b,iv (.toFlt .f32) (.int .i64 n)=Gr (.an .f32 b)/\Fl b (n<0) (n.natAbs*2^149):=
 ⟨_,rfl,Fl.ofInt h⟩
def ahr:Fl 1266679808 ydz (2^173):=⟨8388608,1,⟨⟨by decide,by decide,.inl (by decide)⟩,by decide,by decide⟩,by decide⟩
end
end
def apr(p s:Nat):p*(s%1000000000)+p*1000000000*(s/1000000000)=p*s:=by
 rw[xk,<-xJ,uF]
def Kh{l:List Int}{i:Nat}(h:l.length<=i):l.getD i 0=0:=by simp_all
def arx{b:List Int}{i c:Nat}{y:Int}(hx:x=a.getD i 0)(hy:y=b.getD i 0)(h1:0<=x)(h2:0<=y)(hl:out.length=i)(hv:dv out+1000000000^i*c=dv (a.take i)+dv (b.take i)):
  dv (out++[(((x.toNat+y.toNat+c)%1000000000:Nat):Int)])+1000000000^(i+1)*((x.toNat+y.toNat+c)/1000000000)=dv (a.take (i+1))+dv (b.take (i+1)):=by
 rw[rO,rO,nL,hl,<-hx,<-hy];simp only[dv,wY,xI,y7,xp]
 have:=apr (1000000000^i) (x.toNat+y.toNat+c)
 grind
def axF(ow:Has P L 302 AL){w:AV}{b:List Int}(hv:bw v a)(hw:bw w b)(ha:dg a)(hb:dg b)(la:a.length<=N)(lb:b.length<=N)(lN:N<=20000000000):
  cE P L [0,1,5,6,7] rV (fun k s=>∃(i c:Nat) (out:List Int),2*(N-i)+c=k/\out.length=i/\c<=1/\dg out/\dv out+1000000000^i*c=dv (a.take i)+dv (b.take i)/\i<=N+1/\(i<=N\/c=0)/\
    ((i=0/\s=⟨[(0,v),(1,w),(5,.aj),(6,aa c),(7,aa i)],[],0,0⟩)\/
    (0<i/\s=⟨[(0,v),(1,w),(5,.ay 0 0 i),(6,aa c),(7,aa i)],[(0,.cells ydy ydy ydz 1 (out.map aa))],1,0⟩))) (fun ex s'=>∃tm out,ex=.exit 0/\dg out/\dv out=dv a+dv b/\out.length<=N+1/\((out=[]/\ai tm 5=.aj/\s'=⟨tm,[],0,0⟩)\/(0<out.length/\ai tm 5=.ay 0 0 out.length/\s'=⟨tm,[(0,.cells ydy ydy ydz 1 (out.map aa))],1,0⟩))):=by
 apply cI;rintro k s ⟨i,c,out,hk,hlen,hc,mS,aK,hi,Ip,hs⟩;have e1:=XZ ow hv i;have e2:=XZ ow hw i;unfold ab at e1 e2;have ga:=jv ha i;have gb:=jv hb i;by_cases A9:i<a.length\/i<b.length\/0<c
 .left
  obtain⟨x,hx⟩:∃x,x=a.getD i 0:=⟨_,rfl⟩;obtain⟨y,hy⟩:∃y,y=b.getD i 0:=⟨_,rfl⟩;rw[<-hx] at e1 ga;rw[<-hy] at e2 gb;have mE:=arx (c:=c) hx hy ga.1 gb.1 hlen aK;obtain⟨s0,zT⟩:∃s0,s0=x.toNat+y.toNat+c:=⟨_,rfl⟩;rw[<-zT] at mE;have Dx:x+y+(c:Int)=(s0:Int):=by lia
  have hs9:s0<2000000000:=by lia
  have hr:((s0:Nat):Int).tmod 1000000000=((s0%1000000000:Nat):Int):=by rw[xN (by lia)];rfl
  have hq:((s0:Nat):Int).tdiv 1000000000=((s0/1000000000:Nat):Int):=by rw[xV (by lia)];rfl
  have kX:s0/1000000000<=1:=by lia
  have aAd:2*(N-(i+1))+s0/1000000000<k:=by
   by_cases hm:i<N
   .lia
   .have:c=1:=by lia
    have kD:x=0:=by rw[hx];exact Kh (by lia)
    have gS:y=0:=by rw[hy];exact Kh (by lia)
    subst kD;subst gS
    have:s0=1:=by rw[zT,this];rfl
    subst this
    lia
  have zL:dg (out++[((s0%1000000000:Nat):Int)]):=iY.2 ⟨mS,lm.2 (by lia)⟩;have WY:(out++[((s0%1000000000:Nat):Int)]).length=i+1:=by simp[hlen]
  have aCh:i+1<=N\/s0/1000000000=0:=by
   by_cases hm:i<N
   .exact .inl hm
   .right
    have:c=1:=by lia
    have kD:x=0:=by rw[hx];exact Kh (by lia)
    have gS:y=0:=by rw[hy];exact Kh (by lia)
    subst kD;subst gS
    have:s0=1:=by rw[zT,this];rfl
    subst this;rfl
  have fin:∃s',D P L rV s=Gr (.normal,s')/\bB [0,1,5,6,7] s'=⟨[(0,v),(1,w),(5,.ay 0 0 (i+1)),(6,aa (s0/1000000000:Nat)),(7,aa (i+1:Nat))],[(0,.cells ydy ydy ydz 1 ((out++[((s0%1000000000:Nat):Int)]).map aa))],1,0⟩:=by
   have three:((i:Int)<a.length)\/(¬(i:Int)<a.length/\(i:Int)<b.length)\/(¬(i:Int)<a.length/\¬(i:Int)<b.length/\(0:Int)<c):=by lia
   rcases three with t1 | ⟨t1,t2⟩ | ⟨t1,t2,t3⟩
   .rcases hs with ⟨h0,rfl⟩ | ⟨h0,rfl⟩
    .subst h0;have jZ:out=[]:=yD hlen;subst jZ
     simp only[go_sem,ya,yb,xv,yG,yq,yh,rV,hv.len,hv.ah,hw.ah,t1,e1,e2,wrap64 (n:=x+y) (by lia) (by lia),Dx,wrap64 (n:=(s0:Int)) (by lia) (by lia),eU _ _ _ (show (1000000000:Int)≠0 by decide),eO _ _ _ (show (1000000000:Int)≠0 by decide),hr,hq,wrap64 (n:=((s0/1000000000:Nat):Int)) (by lia) (by lia),gL];refine⟨_,rfl,?_⟩;rw[wrap64 (by lia) (by lia)];simp only[go_sem,ya,yb,aq,aC hv.pu,aC hw.pu]<;>rfl
    .simp only [go_sem,ya,yb,yq,yh,rV,hv.len,hv.ah,hw.ah,t1,e1,e2,wrap64 (n:=x+y) (by lia) (by lia),Dx,wrap64 (n:=(s0:Int)) (by lia) (by lia),eU _ _ _ (show (1000000000:Int)≠0 by decide),hr]
     rw[ff (ex:=ydz) (pu:=ydy) (cs:=out.map aa) rfl (by rw[yU,hlen,yh]) (by lia) (by lia) (by decide) rfl]
     simp only[go_sem,ya,yb,eO _ _ _ (show (1000000000:Int)≠0 by decide),hq,wrap64 (n:=((s0/1000000000:Nat):Int)) (by lia) (by lia)];refine⟨_,rfl,?_⟩;rw[wrap64 (by lia) (by lia),xB];simp only[go_sem,ya,yb,aq,aC hv.pu,aC hw.pu]<;>rfl
   .rcases hs with ⟨h0,rfl⟩ | ⟨h0,rfl⟩
    .subst h0;have jZ:out=[]:=yD hlen;subst jZ
     simp only[go_sem,ya,yb,xv,yG,yq,yh,rV,hv.len,hv.ah,hw.len,hw.ah,t1,t2,e1,e2,wrap64 (n:=x+y) (by lia) (by lia),Dx,wrap64 (n:=(s0:Int)) (by lia) (by lia),eU _ _ _ (show (1000000000:Int)≠0 by decide),eO _ _ _ (show (1000000000:Int)≠0 by decide),hr,hq,wrap64 (n:=((s0/1000000000:Nat):Int)) (by lia) (by lia),gL];refine⟨_,rfl,?_⟩;rw[wrap64 (by lia) (by lia)];simp only[go_sem,ya,yb,aq,aC hv.pu,aC hw.pu]<;>rfl
    .simp only [go_sem,ya,yb,yq,yh,rV,hv.len,hv.ah,hw.len,hw.ah,t1,t2,e1,e2,wrap64 (n:=x+y) (by lia) (by lia),Dx,wrap64 (n:=(s0:Int)) (by lia) (by lia),eU _ _ _ (show (1000000000:Int)≠0 by decide),hr]
     rw[ff (ex:=ydz) (pu:=ydy) (cs:=out.map aa) rfl (by rw[yU,hlen,yh]) (by lia) (by lia) (by decide) rfl]
     simp only[go_sem,ya,yb,eO _ _ _ (show (1000000000:Int)≠0 by decide),hq,wrap64 (n:=((s0/1000000000:Nat):Int)) (by lia) (by lia)];refine⟨_,rfl,?_⟩;rw[wrap64 (by lia) (by lia),xB];simp only[go_sem,ya,yb,aq,aC hv.pu,aC hw.pu]<;>rfl
   .rcases hs with ⟨h0,rfl⟩ | ⟨h0,rfl⟩
    .subst h0;have jZ:out=[]:=yD hlen;subst jZ
     simp only[go_sem,ya,yb,xv,yG,yq,yh,rV,hv.len,hv.ah,hw.len,hw.ah,t1,t2,t3,e1,e2,wrap64 (n:=x+y) (by lia) (by lia),Dx,wrap64 (n:=(s0:Int)) (by lia) (by lia),eU _ _ _ (show (1000000000:Int)≠0 by decide),eO _ _ _ (show (1000000000:Int)≠0 by decide),hr,hq,wrap64 (n:=((s0/1000000000:Nat):Int)) (by lia) (by lia),gL];refine⟨_,rfl,?_⟩;rw[wrap64 (by lia) (by lia)];simp only[go_sem,ya,yb,aq,aC hv.pu,aC hw.pu]<;>rfl
    .simp only [go_sem,ya,yb,yq,yh,rV,hv.len,hv.ah,hw.len,hw.ah,t1,t2,t3,e1,e2,wrap64 (n:=x+y) (by lia) (by lia),Dx,wrap64 (n:=(s0:Int)) (by lia) (by lia),eU _ _ _ (show (1000000000:Int)≠0 by decide),hr]
     rw[ff (ex:=ydz) (pu:=ydy) (cs:=out.map aa) rfl (by rw[yU,hlen,yh]) (by lia) (by lia) (by decide) rfl]
     simp only[go_sem,ya,yb,eO _ _ _ (show (1000000000:Int)≠0 by decide),hq,wrap64 (n:=((s0/1000000000:Nat):Int)) (by lia) (by lia)];refine⟨_,rfl,?_⟩;rw[wrap64 (by lia) (by lia),xB];simp only[go_sem,ya,yb,aq,aC hv.pu,aC hw.pu]<;>rfl
  have⟨s',f1,f2⟩:=fin;exact⟨s',_,f1,aAd,i+1,s0/1000000000,_,rfl,WY,kX,zL,mE,by lia,aCh,.inr ⟨by lia,f2⟩⟩
 .right
  have kw:c=0:=by lia
  subst kw;rw[xI,y7,yK (by lia),yK (by lia)] at aK;rcases hs with ⟨h0,rfl⟩ | ⟨h0,rfl⟩
  .simp only [go_sem,ya,rV,hv.len,hw.len,show ¬(i:Int)<a.length by lia,show ¬(i:Int)<b.length by lia,show ¬(0:Int)<((0:Nat):Int) by lia];exact⟨_,_,rfl,by simp,_,out,rfl,mS,aK,by lia,.inl ⟨yD (by lia),rfl,rfl⟩⟩
  .simp only [go_sem,ya,rV,hv.len,hw.len,show ¬(i:Int)<a.length by lia,show ¬(i:Int)<b.length by lia,show ¬(0:Int)<((0:Nat):Int) by lia];exact⟨_,_,rfl,by simp,_,out,rfl,mS,aK,by lia,.inr ⟨by lia,by rw[hlen];simp only[go_sem,ya],rfl⟩⟩
def aiV(h:Has P L 295 Mc)(ow:Has P L 302 AL){w:AV}{b:List Int}(hv:bw v a)(hw:bw w b)(ha:dg a)(hb:dg b)(la:a.length<=20000000000)(lb:b.length<=20000000000):
  ∃r out,ab P L 295 [v,w] r/\bw (shut r) out/\dg out/\dv out=dv a+dv b/\out.length<=max a.length b.length+1:=by
 have jY:∃out,ab P L 295 [v,w] (if out=[] then .aj else .cR ydz 1 out.length (out.map aa))/\dg out/\dv out=dv a+dv b/\out.length<=max a.length b.length+1:=by
  unfold ab;rw[aD h];simp only[go_sem,Mc];generalize hq:D P L (.loop _ rV) _=q;obtain⟨ex,s,rfl,tm,out,rfl,hd,aK,hl,hs⟩:=bg hq (axF (P:=P) (L:=L) ow hv hw ha hb (N:=max a.length b.length) (by lia) (by lia) (by lia) (2*(max a.length b.length))) ⟨0,0,[],by lia,rfl,by lia,rfl,by simp[dv],by lia,.inr rfl,.inl ⟨rfl,by simp only[go_sem,ya,aq,aC hv.pu,aC hw.pu]<;>rfl⟩⟩
  refine⟨out,?_,hd,aK,hl⟩;rcases hs with ⟨h0,h5,rfl⟩ | ⟨h0,h5,rfl⟩
  .rw [yE h0];simp only[go_sem,aq,h5]
  .rw [yp (by intro e;subst e;simp at h0)];simp only[go_sem,yb,aq,h5];exact abS (ll _ _ _) (by simp) (by decide)
 have⟨out,g1,g2,g3,g4⟩:=jY;refine⟨_,out,g1,?_,g2,g3,g4⟩
 split
 .rename_i e;subst e;exact Aq
 .exact eP ydz out
def Yt(h:Has P L 296 AK){w:AV}{b:List Int}(hv:bw v a)(hw:bw w b)(ha:dg a)(hb:dg b)(na:nz a)(nb:nz b)(la:a.length<=20000000000)(lb:b.length<=20000000000):
  ab P L 296 [v,w] (aa (er (dv a) (dv b))):=by
 unfold ab;rw[aD h];by_cases hlen:a.length=b.length
 .have key:=fK P L [0,1,5] EP
   (fun k st=>∃j:Nat,st=⟨[(0,v),(1,w),(5,aa ((j:Int)-1))],[],0,0⟩/\j<=a.length/\j=k/\a.drop j=b.drop j)
   (fun ex st=>∃tm ct,st=⟨tm,[],ct,0⟩/\((ex=.ret/\ai tm 4=aa (er (dv a) (dv b)))\/(ex=.exit 0/\a=b))) ?_
  .simp only [go_sem,ya,AK,hv.len,hw.len,show (a.length:Int)=b.length by lia];generalize hq:D P L (.loop _ EP) _=q;obtain⟨ex,st,rfl,tm,ct,rfl,h2⟩:=bg hq (key a.length) ⟨a.length,by
    rw[wrap64 (by lia) (by lia)];rw[hlen]
    simp only[go_sem,ya,aq,aC hv.pu,aC hw.pu]<;>rfl,yx _,rfl,by rw[xb (yx _),xb (by lia)]⟩
   rcases h2 with ⟨rfl,h2⟩ | ⟨rfl,h2⟩
   .simp only [go_sem,h2]
   .simp only [go_sem,aq];subst h2;simp[er]
  .rintro k st ⟨j,rfl,hj,rfl,he⟩
   cases j with
   | zero=>
    right
    simp only[go_sem,ya,EP,show ¬(0:Int)<=((0:Nat):Int)-1 by lia];exact⟨_,_,rfl,by simp,_,_,rfl,.inr ⟨rfl,by simpa using he⟩⟩
   | succ i=>
    have h1:i<a.length:=by lia
    have h2:i<b.length:=by lia
    have DS:=aeM ha hb h1 h2 he;have aG:=aeM hb ha h2 h1 he.symm;by_cases c1:a[i]<b[i]
    .right
     simp only[go_sem,ya,EP,show ((i+1:Nat):Int)-1=(i:Int) by lia,show (0:Int)<=(i:Int) by lia,hv.bj h1,hw.bj h2,c1];refine⟨_,_,rfl,by simp,_,_,rfl,.inl ⟨rfl,?_⟩⟩;simp only[go_sem];unfold er;rw[yE (DS c1)]
    .by_cases c2:b[i]<a[i]
     .right
      simp only[go_sem,ya,EP,show ((i+1:Nat):Int)-1=(i:Int) by lia,show (0:Int)<=(i:Int) by lia,hv.bj h1,hw.bj h2,c1,c2];refine⟨_,_,rfl,by simp,_,_,rfl,.inl ⟨rfl,?_⟩⟩;simp only[go_sem];unfold er;rw[yp (by lia),yE (by lia)]
     .left
      simp only[go_sem,ya,EP,show ((i+1:Nat):Int)-1=(i:Int) by lia,show (0:Int)<=(i:Int) by lia,hv.bj h1,hw.bj h2,c1,c2];refine⟨_,i,rfl,by lia,i,?_,by lia,rfl,?_⟩
      .rw [wrap64 (by lia) (by lia)];simp only[go_sem,ya,aq,aC hv.pu,aC hw.pu]<;>rfl
      .rw [yS h1,yS h2,he,show a[i]=b[i] by lia]
 .by_cases c1:a.length<b.length
  .have:=VW ha nb hb c1
   simp only[go_sem,ya,AK,hv.len,hw.len,show ¬(a.length:Int)=b.length by lia,show (a.length:Int)<b.length by lia];unfold er;rw[yE this]
  .have:=VW hb na ha (show b.length<a.length by lia)
   simp only[go_sem,ya,AK,hv.len,hw.len,show ¬(a.length:Int)=b.length by lia,show ¬(a.length:Int)<b.length by lia];unfold er;rw[yp (by lia),yE this]
def ary{b:List Int}{i c:Nat}{y z:Int}{c':Nat}(hx:x=a.getD i 0)(hy:y=b.getD i 0)(h1:0<=x)(h2:0<=y)(h3:0<=z)(hz:z=x-y-c+1000000000*c')(hl:out.length=i)(hv:dv out+dv (b.take i)=dv (a.take i)+1000000000^i*c):
  dv (out++[z])+dv (b.take (i+1))=dv (a.take (i+1))+1000000000^(i+1)*c':=by
 rw[rO,rO,nL,hl,<-hx,<-hy];simp only[dv,xI,y7,xp];have e:z.toNat+y.toNat+c=x.toNat+1000000000*c':=by lia
 grind
def axG(ow:Has P L 302 AL){w:AV}{b:List Int}(hv:bw v a)(hw:bw w b)(ha:dg a)(hb:dg b)(la:a.length<=20000000000)(hle:dv b<=dv a)(jR:b.length<=a.length):
  cE P L [0,1,5,6,7] Ax (fun k s=>∃(i c:Nat) (out:List Int),i+k=a.length/\out.length=i/\c<=1/\dg out/\dv out+dv (b.take i)=dv (a.take i)+1000000000^i*c/\
    ((i=0/\s=⟨[(0,v),(1,w),(5,.aj),(6,aa c),(7,aa i)],[],0,0⟩)\/
    (0<i/\s=⟨[(0,v),(1,w),(5,.ay 0 0 i),(6,aa c),(7,aa i)],[(0,.cells ydy ydy ydz 1 (out.map aa))],1,0⟩))) (fun ex s'=>∃tm out,ex=.exit 0/\dg out/\dv out+dv b=dv a/\out.length<=20000000000/\((out=[]/\ai tm 5=.aj/\s'=⟨tm,[],0,0⟩)\/(0<out.length/\ai tm 5=.ay 0 0 out.length/\s'=⟨tm,[(0,.cells ydy ydy ydz 1 (out.map aa))],1,0⟩))):=by
 apply cI;rintro k s ⟨i,c,out,hk,hlen,hc,mS,aK,hs⟩;have e2:=XZ ow hw i;unfold ab at e2;have ga:=jv ha i;have gb:=jv hb i;by_cases A9:i<a.length
 .left
  obtain⟨x,hx⟩:∃x,x=a.getD i 0:=⟨_,rfl⟩;obtain⟨y,hy⟩:∃y,y=b.getD i 0:=⟨_,rfl⟩;have nF:a[i]=x:=by rw[hx];simp[y9,xu A9]
  have e1:=hv.bj A9;rw[nF] at e1;rw[<-hx] at ga;rw[<-hy] at e2 gb;obtain⟨z,c',hz,kX,kY,nC,Fe⟩:∃(z:Int) (c':Nat),z=x-y-c+1000000000*c'/\c'<=1/\0<=z/\z<1000000000/\((x-y-c<0/\c'=1)\/(¬x-y-c<0/\c'=0)):=by
   by_cases h:x-y-c<0
   .exact ⟨x-y-c+1000000000,1,by lia,by lia,by lia,by lia,.inl ⟨h,rfl⟩⟩
   .exact ⟨x-y-c,0,by lia,by lia,by lia,by lia,.inr ⟨h,rfl⟩⟩
  have mE:=ary hx hy ga.1 gb.1 kY hz hlen aK;have zL:dg (out++[z]):=iY.2 ⟨mS,lm.2 ⟨kY,nC⟩⟩;have WY:(out++[z]).length=i+1:=by simp[hlen]
  have fin:∃s',D P L Ax s=Gr (.normal,s')/\bB [0,1,5,6,7] s'=⟨[(0,v),(1,w),(5,.ay 0 0 (i+1)),(6,aa c'),(7,aa (i+1:Nat))],[(0,.cells ydy ydy ydz 1 ((out++[z]).map aa))],1,0⟩:=by
   rcases Fe with ⟨fw,rfl⟩ | ⟨fw,rfl⟩
   .have cK:x-y-c+1000000000=z:=by lia
    rcases hs with ⟨h0,rfl⟩ | ⟨h0,rfl⟩
    .subst h0;have jZ:out=[]:=yD hlen;subst jZ
     simp only[go_sem,ya,yb,xv,yG,yq,yh,Ax,hv.len,hw.ah,show ((0:Nat):Int)<a.length by lia,e1,e2,wrap64 (n:=x-y) (by lia) (by lia),wrap64 (n:=x-y-(c:Int)) (by lia) (by lia),fw,cK,wrap64 (n:=z) (by lia) (by lia),gL];refine⟨_,rfl,?_⟩;rw[wrap64 (by lia) (by lia)];simp only[go_sem,ya,yb,aq,aC hv.pu,aC hw.pu]<;>rfl
    .simp only [go_sem,ya,yb,yq,yh,Ax,hv.len,hw.ah,show (i:Int)<a.length by lia,e1,e2,wrap64 (n:=x-y) (by lia) (by lia),wrap64 (n:=x-y-(c:Int)) (by lia) (by lia),fw,cK,wrap64 (n:=z) (by lia) (by lia)]
     rw[ff (ex:=ydz) (pu:=ydy) (cs:=out.map aa) rfl (by rw[yU,hlen,yh]) (by lia) (by lia) (by decide) rfl];simp only[go_sem,ya,yb];refine⟨_,rfl,?_⟩;rw[wrap64 (by lia) (by lia),xB];simp only[go_sem,ya,yb,aq,aC hv.pu,aC hw.pu]<;>rfl
   .have cK:x-y-c=z:=by lia
    have fw:¬z<0:=by lia
    rcases hs with ⟨h0,rfl⟩ | ⟨h0,rfl⟩
    .subst h0;have jZ:out=[]:=yD hlen;subst jZ
     simp only[go_sem,ya,yb,xv,yG,yq,yh,Ax,hv.len,hw.ah,show ((0:Nat):Int)<a.length by lia,e1,e2,wrap64 (n:=x-y) (by lia) (by lia),cK,wrap64 (n:=z) (by lia) (by lia),fw,gL];refine⟨_,rfl,?_⟩;rw[wrap64 (by lia) (by lia)];simp only[go_sem,ya,yb,aq,aC hv.pu,aC hw.pu]<;>rfl
    .simp only [go_sem,ya,yb,yq,yh,Ax,hv.len,hw.ah,show (i:Int)<a.length by lia,e1,e2,wrap64 (n:=x-y) (by lia) (by lia),cK,wrap64 (n:=z) (by lia) (by lia),fw]
     rw[ff (ex:=ydz) (pu:=ydy) (cs:=out.map aa) rfl (by rw[yU,hlen,yh]) (by lia) (by lia) (by decide) rfl];simp only[go_sem,ya,yb];refine⟨_,rfl,?_⟩;rw[wrap64 (by lia) (by lia),xB];simp only[go_sem,ya,yb,aq,aC hv.pu,aC hw.pu]<;>rfl
  have⟨s',f1,f2⟩:=fin;exact⟨s',k-1,f1,by lia,i+1,c',_,by lia,WY,kX,zL,mE,.inr ⟨by lia,f2⟩⟩
 .right
  have ahs:dv out+dv b=dv a:=by
   rw[yK (by lia),yK (by lia)] at aK;have aG:=lC mS;rw[hlen] at aG;rcases (show c=0\/c=1 by lia) with rfl | rfl
   .lia
   .lia
  rcases hs with ⟨h0,rfl⟩ | ⟨h0,rfl⟩
  .simp only [go_sem,ya,Ax,hv.len,show ¬(i:Int)<a.length by lia];exact⟨_,_,rfl,by simp,_,out,rfl,mS,ahs,by lia,.inl ⟨yD (by lia),rfl,rfl⟩⟩
  .simp only [go_sem,ya,Ax,hv.len,show ¬(i:Int)<a.length by lia];exact⟨_,_,rfl,by simp,_,out,rfl,mS,ahs,by lia,.inr ⟨by lia,by rw[hlen];simp only[go_sem,ya],rfl⟩⟩
def aiW(h:Has P L 297 Me)(ow:Has P L 302 AL)(cJ:Has P L 300 nk){w:AV}{b:List Int}(hv:bw v a)(hw:bw w b)(ha:dg a)(hb:dg b)(na:nz a)(nb:nz b)(la:a.length<=20000000000)(hle:dv b<=dv a):
  ∃r out,ab P L 297 [v,w] r/\bw r out/\shut r=r/\dg out/\nz out/\dv out+dv b=dv a:=by
 have jR:b.length<=a.length:=by
  by_cases h:a.length<b.length
  .have:=VW ha nb hb h;lia
  .lia
 unfold ab;rw[aD h];simp only[go_sem,Me];generalize hq:D P L (.loop _ Ax) _=q;obtain⟨ex,s,rfl,tm,out,rfl,hd,aK,hl,hs⟩:=bg hq (axG (P:=P) (L:=L) ow hv hw ha hb la hle jR a.length) ⟨0,0,[],by lia,rfl,by lia,rfl,by simp[dv],.inl ⟨rfl,by simp only[go_sem,ya,aq,aC hv.pu,aC hw.pu]<;>rfl⟩⟩
 have cL:=eP ydz out;rcases hs with ⟨h0,h5,rfl⟩ | ⟨h0,h5,rfl⟩
 .subst h0;have⟨r,e1,hr,kF⟩:=Dt cJ (v:=.aj) (l:=[]) Aq (by simp);refine⟨r,eF [],?_,hr,kF,rfl,rfl,by rw[Br];exact aK⟩
  simp only[go_sem,aq,h5,e1,kF,hr.c9]
 .have ⟨r,e1,hr,kF⟩:=Dt cJ cL hl;refine⟨r,eF out,?_,hr,kF,CK hd,GL out,by rw[Br];exact aK⟩
  have eh:∀hp:Hp,mG 0 out.length (Gr (ydz,1,out.map aa,hp))=Gr (.au ydz out.length (out.map aa),hp):=fun hp=>gD ydz (by simp) (by decide)
  simp only[go_sem,yb,aq,h5,eh,e1,kF,hr.c9]
def Ec{id o:Nat}{v:Int}{ex:Bool}{l:List Int}(h:o<l.length):jr hp ct id o 1 [.int .i64 v] (Gr (.cells ydy ydy ex 1 (l.map aa)))=Gr (.av [],aR hp id (.cells ydy ydy ex 1 ((l.set o v).map aa)),ct):=by
 rw[Hs (by rfl) (by simp;lia) (by rfl)]
 have:over o [AV.int .i64 v] (l.map aa)=(l.set o v).map aa:=by
  simp only[over,yB,yM,ye];rw[List.map_set,List.set_eq_take_append_cons_drop,yE (by simpa using h)]
  simp
 rw[this];rfl
def AF{l:List Int}{o:Nat}(h:o<l.length):uh o (l.map aa)=AV.int .i64 (l.getD o 0)::uh (o+1) (l.map aa):=by
 rw[yS (by simpa using h)]
 grind
def zF{l:List Int}(hv:bw v l){i:Nat}(h:i<l.length):jb 1 i v=Gr (.bA (.int .i64 (l.getD i 0)::(l.map aa).drop (i+1))):=by
 rw[hv.bj h]
 grind
def arz{o y c:Int}(ho:0<=o/\o<1000000000)(hx:0<=x/\x<1000000000)(hy:0<=y/\y<1000000000)(hc:0<=c/\c<1000000000):
  (0<=x*y/\x*y<=999999998000000001)/\0<=o+x*y+c/\o+x*y+c<1000000000000000000:=by
 have h1:=tW hx.1 hy.1;have h2:=ycx (show x<=999999999 by lia) (show y<=999999999 by lia) hy.1 (by decide)
 lia
def axH{w:AV}{b:List Int}(hv:bw v a)(hw:bw w b)(ha:dg a)(hb:dg b)(la:a.length<=20000000000)(lb:b.length<=20000000000){n i:Nat}(hn:n=a.length+b.length)(hi:i<a.length){out0:List Int}:
  cE P L [0,1,5,6,7,8] KZ (fun k s=>∃(j:Nat) (c:Int) (out:List Int),s=⟨[(0,v),(1,w),(5,.ay 0 0 n),(6,aa i),(7,aa c),(8,aa j)],[(0,.cells ydy ydy ydy 1 (out.map aa))],1,0⟩/\j+k=b.length/\out.length=n/\dg out/\(0<=c/\c<1000000000)/\
    dv out+1000000000^i*1000000000^j*c.toNat=dv out0+1000000000^i*((a.getD i 0).toNat*dv (b.take j))/\(∀m,i+b.length<=m->out.getD m 0=out0.getD m 0)) (fun ex s'=>∃tm c out,s'=⟨tm,[(0,.cells ydy ydy ydy 1 (out.map aa))],1,0⟩/\ex=.exit 2/\ai tm 0=v/\ai tm 1=w/\ai tm 5=.ay 0 0 n/\ai tm 6=aa i/\ai tm 7=aa c/\out.length=n/\dg out/\(0<=c/\c<1000000000)/\
    dv out+1000000000^i*1000000000^b.length*c.toNat=dv out0+1000000000^i*((a.getD i 0).toNat*dv b)/\(∀m,i+b.length<=m->out.getD m 0=out0.getD m 0)):=by
 apply cI;rintro k s ⟨j,c,out,rfl,hk,hlen,hd,hc,aK,gR⟩;by_cases hj:j<b.length
 .left
  obtain⟨x,hx⟩:∃x,x=a.getD i 0:=⟨_,rfl⟩;obtain⟨y,hy⟩:∃y,y=b.getD j 0:=⟨_,rfl⟩;obtain⟨o,ho⟩:∃o,o=out.getD (i+j) 0:=⟨_,rfl⟩;have gx:=jv ha i;have gy:=jv hb j;have pL:=jv hd (i+j);rw[<-hx] at gx;rw[<-hy] at gy;rw[<-ho] at pL;have⟨p1,p2,p3⟩:=arz pL gx gy hc;obtain⟨t,ht⟩:∃t:Nat,o+x*y+c=t:=⟨(o+x*y+c).toNat,by lia⟩;have hr:((t:Nat):Int).tmod 1000000000=((t%1000000000:Nat):Int):=by rw[xN (by lia)];rfl
  have hq:((t:Nat):Int).tdiv 1000000000=((t/1000000000:Nat):Int):=by rw[xV (by lia)];rfl
  have e1:=zF hv hi;have e2:=zF hw hj;rw[<-hx] at e1;rw[<-hy] at e2;have e3:=AF (l:=out) (o:=i+j) (by lia);rw[<-ho] at e3;have Cf:t=o.toNat+x.toNat*y.toNat+c.toNat:=by
   have:((x.toNat*y.toNat:Nat):Int)=x*y:=by rw[xx,ybB gx.1,ybB gy.1]
   lia
  have aR:=VX (l:=out) (j:=i+j) (x:=((t%1000000000:Nat):Int)) (by lia);rw[<-ho,wY,xF] at aR;have mE:=aqw (Y:=dv (b.take j)) Cf aR (by rw[hx];exact aK)
  simp only[go_sem,ya,yh,KZ,hw.len,show (j:Int)<b.length by lia,wrapN (n:=i+j) (by lia),show (i:Int)+(j:Int)=((i+j:Nat):Int) from rfl,dc 0 0 (show i+j<n by lia),ye,e3,e1,e2,wrap64 (n:=x*y) (by lia) (by lia),wrap64 (n:=o+x*y) (by lia) (by lia),ht,wrapN (n:=t) (by lia),eU _ _ _ (show (1000000000:Int)≠0 by decide),eO _ _ _ (show (1000000000:Int)≠0 by decide),hr,hq,wrapN (n:=t/1000000000) (by lia),Ec (l:=out) (o:=i+j) (by lia)];refine⟨_,k-1,rfl,by lia,j+1,((t/1000000000:Nat):Int),out.set (i+j) ((t%1000000000:Nat):Int),?_,by lia,by simp[hlen],PV hd (by lia),by lia,?_,fun m hm=>?_⟩
  .rw [wrap64 (by lia) (by lia)];simp only[go_sem,ya,yb,aq,aC hv.pu,aC hw.pu]<;>rfl
  .rw [wY,rO,xp,<-hx,<-hy];exact mE
  .rw [adB (by lia)];exact gR m hm
 .right
  have:j=b.length:=by lia
  subst this;rw[xR] at aK;simp only[go_sem,ya,KZ,hw.len,show ¬(b.length:Int)<b.length by lia];exact⟨_,_,rfl,by simp,_,c,out,rfl,rfl,rfl,rfl,rfl,rfl,rfl,hlen,hd,hc,aK,gR⟩
section
variable {v w:AV}{a b:List Int}
def T9(n:Nat):(yk n [AV.int .i64 0]).flatten=(yk n (0:Int)).map aa:=by simp_all
def atV(b:Bool):Mr ydy (Gr b)=Gr (.bool (!b)):=by cases b<;>rfl
def ab1(n m:Nat):(yk n (0:Int)).getD m 0=0:=by grind
def axI(hv:bw v a)(hw:bw w b)(ha:dg a)(hb:dg b)(la:a.length<=20000000000)(lb:b.length<=20000000000){n:Nat}(hn:n=a.length+b.length):
  cE P L [0,1,5,6] K0 (fun k s=>∃(i:Nat) (out:List Int),s=⟨[(0,v),(1,w),(5,.ay 0 0 n),(6,aa i)],[(0,.cells ydy ydy ydy 1 (out.map aa))],1,0⟩/\i+k=a.length/\out.length=n/\dg out/\dv out=dv (a.take i)*dv b/\(∀m,i+b.length<=m->out.getD m 0=0)) (fun ex s'=>∃tm out,s'=⟨tm,[(0,.cells ydy ydy ydy 1 (out.map aa))],1,0⟩/\ex=.exit 0/\ai tm 5=.ay 0 0 n/\out.length=n/\dg out/\dv out=dv a*dv b):=by
 apply cI;rintro k s ⟨i,out,rfl,hk,hlen,hd,aK,gR⟩;by_cases hi:i<a.length
 .left
  simp only[go_sem,ya,K0,hv.len,show (i:Int)<a.length by lia];generalize hq:D P L (.loop _ KZ) _=q;obtain⟨ex,s,rfl,tm,c,AP,rfl,rfl,t0,t1,t5,t6,t7,WU,rb,hc,WV,Mu⟩:=bg hq (axH (P:=P) (L:=L) hv hw ha hb la lb hn hi (out0:=out) b.length) ⟨0,0,out,by simp only[go_sem,ya,yb,aq,aC hv.pu,aC hw.pu]<;>rfl,by lia,hlen,hd,by lia,by simp[dv],fun m _=>rfl⟩
  have hz:AP.getD (i+b.length) 0=0:=by rw[Mu _ (yx _),gR _ (yx _)]
  have e3:=AF (l:=AP) (o:=i+b.length) (by lia);rw[hz] at e3;have aR:=VX (l:=AP) (j:=i+b.length) (x:=c) (by lia);rw[hz,xF] at aR
  simp only[go_sem,ya,yh,aq,t0,t1,t5,t6,t7,hw.len,aC hv.pu,aC hw.pu,wrapN (n:=i+b.length) (by lia),show (i:Int)+(b.length:Int)=((i+b.length:Nat):Int) from rfl,dc 0 0 (show i+b.length<n by lia),ye,e3,ycW,wrap64 (n:=c) (by lia) (by lia),Ec (l:=AP) (o:=i+b.length) (by lia)];refine⟨_,k-1,rfl,by lia,i+1,AP.set (i+b.length) c,?_,by lia,by simp[WU],PV rb hc,?_,fun m hm=>?_⟩
  .rw [wrap64 (by lia) (by lia)];simp only[go_sem,ya,yb,aq,aC hv.pu,aC hw.pu]<;>rfl
  .rw [rO,we,<-aK,xk];simp only[Int.toNat_zero,xI,y7] at aR;rw[aR];exact WV
  .rw [adB (by lia),Mu m (by lia),gR m (by lia)]
 .right
  have:i=a.length:=by lia
  subst this;rw[xR] at aK;simp only[go_sem,ya,K0,hv.len,show ¬(a.length:Int)<a.length by lia];exact⟨_,_,rfl,by simp,_,out,rfl,rfl,rfl,hlen,hd,aK⟩
def Yu(h:Has P L 293 Dp)(cJ:Has P L 300 nk)(hv:bw v a)(hw:bw w b)(ha:dg a)(hb:dg b)(la:a.length<=8000000000)(lb:b.length<=8000000000):
  ∃r out,ab P L 293 [v,w] r/\bw r out/\shut r=r/\dg out/\nz out/\dv out=dv a*dv b:=by
 obtain⟨n,hn⟩:∃n,n=a.length+b.length:=⟨_,rfl⟩;have cx:∀ct:Nat,zJ ct 1 8 [.int .i64 0] (Gr n) (Gr n)=Gr (.ay ct 0 n,.cells ydy ydy ydy 1 ((yk n (0:Int)).map aa)):=fun ct=>by
  rw[EY (sz:=1) (by lia) (by lia) (by rfl) (by rfl),T9];rfl
 unfold ab;rw[aD h]
 simp only[go_sem,ya,yb,Dp,hv.len,hw.len,wrapN (n:=n) (by lia),show (a.length:Int)+(b.length:Int)=((a.length+b.length:Nat):Int) from rfl,<-hn,cx];generalize hq:D P L (.loop _ K0) _=q;obtain⟨ex,s,rfl,tm,out,rfl,rfl,t5,hlen,hd,aK⟩:=bg hq (axI (P:=P) (L:=L) hv hw ha hb (by lia) (by lia) hn a.length) ⟨0,yk n 0,by simp only[go_sem,ya,yb,aq,aC hv.pu,aC hw.pu]<;>rfl,by lia,by simp,adD n,by rw[adC];simp[dv],fun m _=>ab1 n m⟩
 have cL:=eP ydy out;rw[hlen] at cL;have⟨r,e1,hr,kF⟩:=Dt cJ cL (by lia);refine⟨r,eF out,?_,hr,kF,CK hd,GL out,by rw[Br];exact aK⟩
 have eh:∀hp:Hp,mG 0 n (Gr (ydy,1,out.map aa,hp))=Gr (.au ydy n (out.map aa),hp):=fun hp=>gD ydy (by simp[hlen]) (by decide)
 simp only[go_sem,yb,aq,t5,eh,e1,kF,hr.c9]
def MF(h:Has P L 278 Q7)(mH:Has P L 293 Dp)(jg:Has P L 294 Dq)(cJ:Has P L 300 nk){n m:Int}(hK:K<=8000000000)(hv:jQ v n)(hw:jQ w m)(hn:n.natAbs<1000000000^K)(hm:m.natAbs<1000000000^K):
  ∃r,ab P L 278 [v,w] r/\jQ r (n*m):=by
 obtain⟨x,a,rfl,hx,ha,na,va⟩:=hv;obtain⟨y,b,rfl,hy,hb,nb,vb⟩:=hw;have la:=xi (jx ha na (by rw[va];exact hn)) hK
 have lb:=xi (jx hb nb (by rw[vb];exact hm)) hK
 have⟨z,out,e1,hz,kF,hd,D3,aK⟩:=Yu mH cJ hx hy ha hb la lb;have lo:out.length<=20000000000:=by
  refine jx hd D3 ?_;rw[aK];have h1:=lC ha;have h2:=lC hb;have h3:dv a*dv b<1000000000^a.length*1000000000^b.length:=yax h1 h2;rw[<-xF] at h3;have hk:∀K,a.length+b.length<=K->dv a*dv b<1000000000^K:=fun K h=>yI h3 (y8 (by decide) h)
  exact hk 20000000000 (by lia)
 have⟨r,e2,hr⟩:=qG jg cJ (!(decide (n<0)==decide (m<0))) hz hd lo;have e:cm (!(decide (n<0)==decide (m<0))) (dv out)=n*m:=by
  rw[aK,va,vb];have hnm:((n.natAbs*m.natAbs:Nat):Int)=(n.natAbs:Int)*m.natAbs:=xx _ _;unfold cm;by_cases h0:n<0<;>by_cases h1:m<0<;>simp only[h0,h1,yv,yu,yac,yO,yH,xz,hnm]
  .rw [show (n.natAbs:Int)= -n by lia,show (m.natAbs:Int)= -m by lia,Int.neg_mul_neg]
  .rw [show (ydy==ydz)=ydz from rfl,yY,yE rfl,show (n.natAbs:Int)= -n by lia,show (m.natAbs:Int)=m by lia,Int.neg_mul,yaE]
  .rw [show (ydz==ydy)=ydz from rfl,yY,yE rfl,show (n.natAbs:Int)=n by lia,show (m.natAbs:Int)= -m by lia,ydl,yaE]
  .rw [show (n.natAbs:Int)=n by lia,show (m.natAbs:Int)=m by lia]
 rw[e] at hr;obtain⟨w2,l2,rfl,iD,jC,lL,BX⟩:=hr;refine⟨_,?_,w2,l2,rfl,iD,jC,lL,BX⟩;unfold ab at e1 e2 ⊢;rw[aD h];simp only[go_sem,ya,yb,Q7,aQ,hx.pu,hx.ah,hx.one,hy.pu,hy.ah,hy.one,hz.ah,hz.shut,iD.pu,iD.one,aX,ye,cP,e1,r9,atV,e2,fk,bh];rcases iD with ⟨rfl,_⟩ | ⟨e,rfl⟩<;>rfl
end
def atW(i:Nat)(q:List Int)(x:Int):(yk (i+1) (0:Int)++q).set i x=yk i 0++x::q:=by
 rw[List.replicate_succ',xM,List.set_append_right _ _ (by simp)]
 simp
def axJ(hv:bw v a)(ha:dg a)(la:a.length<=20000000000)(h0:0<d)(h1:d<1000000000):
  cE P L [0,1,6,7,8] K4 (fun k s=>∃(j r:Nat) (q:List Int),s=⟨[(0,v),(1,aa d),(6,.ay 0 0 a.length),(7,aa r),(8,aa ((j:Int)-1))],[(0,.cells ydy ydy ydy 1 ((yk j (0:Int)++q).map aa))],1,0⟩/\j=k/\j+q.length=a.length/\r<d/\dg q/\dv (a.drop j)=d*dv q+r) (fun ex s'=>∃tm r q,s'=⟨tm,[(0,.cells ydy ydy ydy 1 (q.map aa))],1,0⟩/\ex=.exit 0/\ai tm 6=.ay 0 0 a.length/\ai tm 7=aa (r:Nat)/\q.length=a.length/\r<d/\dg q/\dv a=d*dv q+r):=by
 apply cI;rintro k s ⟨j,r,q,rfl,rfl,hl,hr,hd,aK⟩
 cases j with
 | zero=>
  right
  simp only[go_sem,ya,K4,show ¬(0:Int)<=((0:Nat):Int)-1 by lia];exact⟨_,_,rfl,by simp,_,r,q,rfl,rfl,rfl,rfl,by lia,hr,hd,aK⟩
 | succ i=>
  left
  have hi:i<a.length:=by lia
  obtain⟨x,hx⟩:∃x,x=a.getD i 0:=⟨_,rfl⟩;have e1:=zF hv hi;have gx:=jv ha i;rw[<-hx] at e1 gx;obtain⟨t,ht⟩:∃t:Nat,t=r*1000000000+x.toNat:=⟨_,rfl⟩;have Cf:(r:Int)*1000000000+x=(t:Int):=by lia
  have mu:t<d*1000000000:=by
   lia
  have gK:t/d<1000000000:=(xH h0).2 (by rw[xg];exact mu)
  have dS:t%d<d:=xE _ h0;have e2:((t:Nat):Int).tdiv d=((t/d:Nat):Int):=by rw[xV (by lia)];rfl
  have e3:((t:Nat):Int).tmod d=((t%d:Nat):Int):=by rw[xN (by lia)];rfl
  have Ns:(yk (i+1) (0:Int)++q).length=a.length:=by simp;lia
  have aM:=fun (hp:Hp) (ct id:Nat) (ex:Bool)=>Ec (hp:=hp) (ct:=ct) (id:=id) (ex:=ex) (v:=((t/d:Nat):Int)) (l:=yk (i+1) (0:Int)++q) (o:=i) (by rw[Ns];exact hi)
  simp only[atW] at aM
  simp only[go_sem,ya,yh,K4,show ((i+1:Nat):Int)-1=(i:Int) by lia,show (0:Int)<=(i:Int) by lia,wrap64 (n:=(r:Int)*1000000000) (by lia) (by lia),e1,Cf,wrapN (n:=t) (by lia),eO _ _ _ (show (d:Int)≠0 by lia),eU _ _ _ (show (d:Int)≠0 by lia),e2,e3,wrapN (n:=t/d) (by lia),dc 0 0 (show i<a.length from hi),ye,aM]
  refine⟨_,i,rfl,by lia,i,t%d,((t/d:Nat):Int)::q,?_,rfl,by simp;lia,dS,(iY (a:=[((t/d:Nat):Int)]) (b:=q)).2 ⟨lm.2 ⟨yaI _,tL.2 gK⟩,hd⟩,?_⟩
  .rw [wrap64 (by lia) (by lia)];simp only[go_sem,ya,yb,aq,aC hv.pu]<;>rfl
  .have kC:a.drop i=x::a.drop (i+1):=by
    rw[yS hi,hx];simp[y9,xu hi]
   rw[kC];simp only[dv,aK,wY];have e:=xL t d;rw[xJ,xJ d,Nat.mul_left_comm 1000000000 d]
   lia
def aiX(h:Has P L 299 Dr)(cJ:Has P L 300 nk)(hv:bw v a)(ha:dg a)(la:a.length<=20000000000)(h0:0<d)(h1:d<1000000000):
  ∃r q,ab P L 299 [v,aa d] (.av [r,aa (dv a%d:Nat)])/\bw r q/\shut r=r/\bH r=r/\dg q/\nz q/\dv q=dv a/d:=by
 obtain⟨n,hn⟩:∃n,n=a.length:=⟨_,rfl⟩;have cx:∀ct:Nat,zJ ct 1 8 [.int .i64 0] (Gr n) (Gr n)=Gr (.ay ct 0 n,.cells ydy ydy ydy 1 ((yk n (0:Int)).map aa)):=fun ct=>by
  rw[EY (sz:=1) (by lia) (by lia) (by rfl) (by rfl),T9];rfl
 unfold ab;rw[aD h];simp only[go_sem,ya,yb,Dr,hv.len,<-hn,cx];generalize hq:D P L (.loop _ K4) _=q;obtain⟨ex,s,rfl,tm,r,qs,rfl,rfl,t6,t7,hlen,hr,hd,aK⟩:=bg hq (axJ (P:=P) (L:=L) hv ha la h0 h1 a.length) ⟨a.length,0,[],by
  rw[wrap64 (by lia) (by lia),wu,<-hn]
  simp only[go_sem,ya,yb,aq,aC hv.pu]<;>rfl,rfl,by simp,h0,rfl,by rw[xb (yx _)];simp[dv]⟩
 have cL:=eP ydy qs;rw[hlen] at cL;have⟨w,e1,hw,kF⟩:=Dt cJ cL (by lia);have eZ:dv a/d=dv qs/\dv a%d=r:=(Nat.div_mod_unique h0).2 ⟨by lia,hr⟩;refine⟨w,eF qs,?_,hw,kF,hw.bH,CK hd,GL qs,by rw[Br,eZ.1]⟩;have eh:∀hp:Hp,mG 0 a.length (Gr (ydy,1,qs.map aa,hp))=Gr (.au ydy a.length (qs.map aa),hp):=fun hp=>gD ydy (by simp[hlen]) (by decide)
 rw[eZ.2];simp only[go_sem,ya,yb,aq,t6,t7,eh,e1,kF];rcases hw with ⟨rfl,_⟩ | ⟨e,rfl⟩<;>rfl
def aCi(h:Has P L 279 HH)(R3:Has P L 295 Mc)(qJ:Has P L 296 AK)(R4:Has P L 297 Me)(ow:Has P L 302 AL)(jg:Has P L 294 Dq)(cJ:Has P L 300 nk){w:AV}{n m:Int}(hK:K<=8000000000)(hv:jQ v n)(hw:jQ w m)(hn:n.natAbs<1000000000^K)(hm:m.natAbs<1000000000^K):
  ∃r,ab P L 279 [v,w] r/\jQ r (n+m):=by
 obtain⟨x,a,rfl,hx,ha,na,va⟩:=hv;obtain⟨y,b,rfl,hy,hb,nb,vb⟩:=hw;have la:=xi (jx ha na (by rw[va];exact hn)) hK
 have lb:=xi (jx hb nb (by rw[vb];exact hm)) hK
 by_cases hs:(decide (n<0)==decide (m<0))=ydy
 .have ⟨z,out,e1,hz,hd,aK,hl⟩:=aiV R3 ow hx hy ha hb (by lia) (by lia);have lo:out.length<=20000000000:=by lia
  have⟨r,e2,hr⟩:=qG jg cJ (decide (n<0)) hz hd lo;have e:cm (decide (n<0)) (dv out)=n+m:=by
   have rn:(n<0)=(m<0):=by simpa using eq_of_beq hs
   rw[aK,va,vb];unfold cm;by_cases h0:n<0
   .have h1:m<0:=rn▸h0;simp only[h0,yv,xS];lia
   .have h1:¬m<0:=rn▸h0;simp only[h0,yu,yH,xz];lia
  rw[e] at hr;obtain⟨w2,l2,rfl,iD,jC,lL,BX⟩:=hr;refine⟨_,?_,w2,l2,rfl,iD,jC,lL,BX⟩;unfold ab at e1 e2 ⊢;rw[aD h];simp only[go_sem,ya,yb,HH,aQ,hx.pu,hx.ah,hx.one,hy.pu,hy.ah,hy.one,hz.ah,iD.pu,iD.one,aX,ye,cP,e1,r9,eI,hs,e2,fk,bh];rcases iD with ⟨rfl,_⟩ | ⟨e,rfl⟩<;>rfl
 .have hs:(decide (n<0)==decide (m<0))=ydz:=by simpa using hs
  have rn:¬((n<0)=(m<0)):=fun e=>by simp[e] at hs
  have ec:=Yt qJ hx hy ha hb na nb (by lia) (by lia);by_cases hc:dv a<dv b
  .have eY:er (dv a) (dv b)= -1:=by unfold er;rw[yE hc]
   rw[eY] at ec;have⟨z,out,e1,hz,kF,hd,D3,aK⟩:=aiW R4 ow cJ hy hx hb ha nb na (by lia) (by lia);have lo:out.length<=20000000000:=by
    refine jx hd D3 ?_
    have:=lC hb
    have hk:∀K,b.length<=K->dv out<1000000000^K:=fun K h=>yI (show dv out<1000000000^b.length by lia) (y8 (by decide) h)
    exact hk 20000000000 (by lia)
   have⟨r,e2,hr⟩:=qG jg cJ (decide (m<0)) hz hd lo;have e:cm (decide (m<0)) (dv out)=n+m:=by
    rw[va,vb] at aK;unfold cm;by_cases h0:m<0
    .have h1:¬n<0:=fun h1=>rn (by simp[h0,h1])
     simp only[h0,yv,xS];lia
    .have h1:n<0:=by
      by_cases h1:n<0
      .exact h1
      .exact absurd (by simp[h0,h1]) rn
     simp only[h0,yu,yH,xz];lia
   rw[e] at hr;obtain⟨w2,l2,rfl,iD,jC,lL,BX⟩:=hr;refine⟨_,?_,w2,l2,rfl,iD,jC,lL,BX⟩;unfold ab at e1 e2 ec ⊢;rw[aD h];simp only[go_sem,ya,yb,HH,aQ,hx.pu,hx.ah,hx.one,hy.pu,hy.ah,hy.one,hz.ah,hz.shut,iD.pu,iD.one,aX,ye,cP,e1,r9,eI,hs,ec,show ¬(0:Int)<=-1 by decide,e2,fk,bh];rcases iD with ⟨rfl,_⟩ | ⟨e,rfl⟩<;>rfl
  .have eY:(0:Int)<=er (dv a) (dv b):=by unfold er;rw[yp hc];split<;>decide
   have⟨z,out,e1,hz,kF,hd,D3,aK⟩:=aiW R4 ow cJ hx hy ha hb na nb (by lia) (by lia);have lo:out.length<=20000000000:=by
    refine jx hd D3 ?_
    have:=lC ha
    have hk:∀K,a.length<=K->dv out<1000000000^K:=fun K h=>yI (show dv out<1000000000^a.length by lia) (y8 (by decide) h)
    exact hk 20000000000 (by lia)
   have⟨r,e2,hr⟩:=qG jg cJ (decide (n<0)) hz hd lo;have e:cm (decide (n<0)) (dv out)=n+m:=by
    rw[va,vb] at aK;unfold cm;by_cases h0:n<0
    .have h1:¬m<0:=fun h1=>rn (by simp[h0,h1])
     simp only[h0,yv,xS];lia
    .have h1:m<0:=by
      by_cases h1:m<0
      .exact h1
      .exact absurd (by simp[h0,h1]) rn
     simp only[h0,yu,yH,xz];lia
   rw[e] at hr;obtain⟨w2,l2,rfl,iD,jC,lL,BX⟩:=hr;refine⟨_,?_,w2,l2,rfl,iD,jC,lL,BX⟩;unfold ab at e1 e2 ec ⊢;rw[aD h];simp only[go_sem,ya,yb,HH,aQ,hx.pu,hx.ah,hx.one,hy.pu,hy.ah,hy.one,hz.ah,hz.shut,iD.pu,iD.one,aX,ye,cP,e1,r9,eI,hs,ec,eY,e2,fk,bh];rcases iD with ⟨rfl,_⟩ | ⟨e,rfl⟩<;>rfl
def VF{l:List Int}(hd:dg l)(hn:nz l)(h:dv l<1000000000):l.length<=1:=jx hd hn (by simpa using h)
def aCj(h:Has P L 289 AJ)(qJ:Has P L 296 AK)(sr:Has P L 299 Dr)(cJ:Has P L 300 nk){w:AV}{b:List Int}(hv:bw v a)(hw:bw w b)(ha:dg a)(hb:dg b)(na:nz a)(nb:nz b)(la:a.length<=20000000000)(lb:b.length<=1)(h0:0<dv b):
  ∃q r lq lr,ab P L 289 [v,w] (.av [q,r])/\bw q lq/\bw r lr/\dg lq/\nz lq/\dg lr/\nz lr/\dv lq=dv a/dv b/\dv lr=dv a%dv b:=by
 have ec:=Yt qJ hv hw ha hb na nb la (by lia);by_cases hc:dv a<dv b
 .have eY:er (dv a) (dv b)= -1:=by unfold er;rw[yE hc]
  rw[eY] at ec;refine⟨.aj,v,[],a,?_,Aq,hv,rfl,rfl,ha,na,?_,?_⟩
  .unfold ab;rw[aD h];simp only[go_sem,ya,AJ,hv.ah,hw.ah,ec,show (-1:Int)<0 by decide];rcases hv with ⟨rfl,_⟩ | ⟨e,rfl⟩<;>rfl
  .rw [xU hc];rfl
  .rw [yR hc]
 .have eY:¬er (dv a) (dv b)<0:=by unfold er;rw[yp hc];split<;>decide
  have qV:b.length=1:=by
   rcases xj b.length with e | e
   .rw [yD e] at h0;simp[dv] at h0
   .lia
  obtain⟨x,rfl⟩:∃x,b=[x]:=by
   cases b with
   | nil=>simp at qV
   | cons x r=>cases r with
    | nil=>exact⟨x,rfl⟩
    | cons y r=>simp at qV
  have gx:=lm.1 hb;obtain⟨d,hd⟩:∃d:Nat,x=d:=⟨x.toNat,by lia⟩;subst hd;have hdd:dv [((d:Nat):Int)]=d:=by simp[dv]
  rw[hdd] at h0 hc eY ec ⊢;have⟨q,lq,e1,hq,hqs,aCk,dq,nq,vq⟩:=aiX sr cJ hv ha la h0 (by lia);have ahj:dv a%d<d:=xE _ h0;generalize dv a%d=m at*
  have⟨r,e2,hr,zW⟩:=Dt cJ (eP ydy [(m:Int)]) (by simp);refine⟨q,r,lq,eF [(m:Int)],?_,hq,hr,dq,nq,CK (lm.2 (by lia)),GL _,vq,by rw[Br];simp[dv]⟩;have e3:=hw.bj (i:=0) (by simp);simp only[yB,yM,ye,yV,wJ,wX] at e2 e3;unfold ab;rw[aD h];simp only[go_sem,ya,yb,yG,yq,yh,AJ,hv.ah,hw.len,hw.ah,ec,eY,yB,yM,show ((1:Nat):Int)=(1:Int) from rfl,yv,e3,e1,aCk,e2,zW];rcases hq with ⟨rfl,_⟩ | ⟨e,rfl⟩<;>rcases hr with ⟨rfl,_⟩ | ⟨e',rfl⟩<;>rfl
section
variable {l post pre qs vs:List Int}{r t:Nat}
def sv:List Int->Int
 | []=>0
 | a::r=>a+1000000000*sv r
def acV:∀(a b:List Int),sv (a++b)=sv a+1000000000^a.length*sv b
 | [],b=>by simp[sv]
 | x::a,b=>by
  simp only[xe,sv,acV a b,yB,yaq,ydm]
  grind
def axK(x:Int):sv [x]=x:=by simp[sv]
def Hk:∀{l:List Int} {i:Nat} {x:Int},i<l.length->sv (l.set i x)=sv l+1000000000^i*(x-l.getD i 0)
 | [],i,x,h=>by simp at h
 | a::l,0,x,_=>by simp[sv];lia
 | a::l,i+1,x,h=>by
  have ih:=Hk (l:=l) (i:=i) (x:=x) (by simpa using h);simp only[List.set_cons_succ,sv,List.getD_cons_succ,ih,yaq,ydm]
  grind
def PI(i:Nat):sv (l.take (i+1))=sv (l.take i)+1000000000^i*l.getD i 0:=by
 by_cases h:i<l.length
 .rw [List.take_succ_eq_append_getElem h,acV,yP,xo (by lia),axK]
  grind
 .rw [yK (by lia),yK (by lia),Kh (by lia),Int.mul_zero,ycT]
def BJ:∀{l:List Int},dg l->sv l=dv l
 | [],_=>rfl
 | a::l,h=>by
  have⟨h1,h2⟩:=iY.1 (show dg ([a]++l) from h);have h1:=lm.1 h1;simp only[sv,dv,BJ h2,yak,xx]
  lia
section
variable {pre x post:List Int}{i:Nat}
def qg:(pre++x++post).length=pre.length+x.length+post.length:=by grind
def C5(h:i<x.length):(pre++x++post).getD (pre.length+i) 0=x.getD i 0:=by grind
def P0(a:Int)(h:i<x.length):(pre++x++post).set (pre.length+i) a=pre++x.set i a++post:=by simp_all
end
def afN{i m:Nat}(h:i≠m):(l.set i x).getD m 0=l.getD m 0:=by simp_all
def aps{i:Nat}(h:i<l.length):(l.set i x).getD i 0=x:=by simp_all
abbrev H3(q u:List Int)(f:Int):Hp:=[(2,.cells ydy ydy ydy 1 (q.map aa)),(1,.cells ydy ydy ydz 1 (u.map aa)),(0,.cells ydz ydy ydy 1 [aa f])]
def O7{live:List Nat}{a b c:List AV}(ht:ja 3 (bD tm live))(hl:(dN (bD tm live)).length<100000):
  bB live ⟨tm,[(2,.cells ydy ydy ydy 1 a),(1,.cells ydy ydy ydz 1 b),(0,.cells ydz ydy ydy 1 c)],ct,3⟩=⟨bD tm live,[(2,.cells ydy ydy ydy 1 a),(1,.cells ydy ydy ydz 1 b),(0,.cells ydz ydy ydy 1 c)],3,3⟩:=
 Oe ht ⟨by lia,.inl rfl,by lia,.inl rfl,by lia,.inl rfl,trivial⟩ (by
  have:cG 3 [(2,Obj.cells ydy ydy ydy 1 a),(1,Obj.cells ydy ydy ydz 1 b),(0,Obj.cells ydz ydy ydy 1 c)]=[]:=rfl
  rw[this,yM,y7];exact hl)
structure ik(x vs:List Int)(n v1 v2 u0 u1 u2:Nat):Prop where
 n2:2<=n
 nb:n<=20000000000
 lx:x.length=n+1
 lv:vs.length=n
 gx:dg x
 gv:dg vs
 fB:vs.getD (n-1) 0=(v1:Int)
 cU:vs.getD (n-2) 0=(v2:Int)
 h0:x.getD n 0=(u0:Int)
 h1:x.getD (n-1) 0=(u1:Int)
 h2:x.getD (n-2) 0=(u2:Int)
 pos:0<v1
 lt:dv x<1000000000*dv vs
section
variable {x vs:List Int}{n v1 v2 u0 u1 u2:Nat}
def ik.Nv(h:ik x vs n v1 v2 u0 u1 u2):v1<1000000000:=by have:=jv h.gv (n-1);rw[h.fB] at this;lia
def ik.Ga(h:ik x vs n v1 v2 u0 u1 u2):v2<1000000000:=by have:=jv h.gv (n-2);rw[h.cU] at this;lia
def ik.u0W(h:ik x vs n v1 v2 u0 u1 u2):u0<1000000000:=by have:=jv h.gx n;rw[h.h0] at this;lia
def ik.Nw(h:ik x vs n v1 v2 u0 u1 u2):u1<1000000000:=by have:=jv h.gx (n-1);rw[h.h1] at this;lia
def ik.Nx(h:ik x vs n v1 v2 u0 u1 u2):u2<1000000000:=by have:=jv h.gx (n-2);rw[h.h2] at this;lia
def ik.parts(h:ik x vs n v1 v2 u0 u1 u2):∃p vr ur,dv vs=(v1*1000000000+v2)*p+vr/\vr<p/\dv x=((u0*1000000000+u1)*1000000000+u2)*p+ur/\ur<p:=by
 obtain⟨m,hm⟩:∃m,n=m+2:=⟨n-2,by have:=h.n2;lia⟩
 subst hm;have e1:=rO (l:=vs) (m+1);have e2:=rO (l:=vs) m;have f0:=rO (l:=x) (m+2);have f1:=rO (l:=x) (m+1);have f2:=rO (l:=x) m;have fB:vs.getD (m+1) 0=(v1:Int):=h.fB;have cU:vs.getD m 0=(v2:Int):=h.cU;have h0:x.getD (m+2) 0=(u0:Int):=h.h0;have h1:x.getD (m+1) 0=(u1:Int):=h.h1;have h2:x.getD m 0=(u2:Int):=h.h2
 rw[yK (by have:=h.lv;lia),fB,e2,cU] at e1
 rw[yK (by have:=h.lx;lia),h0,f1,h1,f2,h2] at f0
 simp only[wY] at e1 f0;have g1:=lC (EA h.gv m)
 rw[yP,xo (by have:=h.lv;lia)] at g1
 have g2:=lC (EA h.gx m)
 rw[yP,xo (by have:=h.lx;lia)] at g2
 refine⟨1000000000^m,_,_,?_,g1,?_,g2⟩
 .rw [e1,xp,az2]
 .rw [f0,show 1000000000^(m+2)=1000000000^m*1000000000*1000000000 by rw[xp,xp],xp,az3]
def ik.down(h:ik x vs n v1 v2 u0 u1 u2)(ht:t*v1+r=u0*1000000000+u1)(hr:r*1000000000+u2<t*v2):dv x/dv vs<=t-1:=by
 have⟨p,vr,ur,h1,h2,h3,h4⟩:=h.parts;exact abQ h1 h3 h4 ht hr
def ik.stop(h:ik x vs n v1 v2 u0 u1 u2)(mu:t<1000000000)(ht:t*v1+r=u0*1000000000+u1)(hr:1000000000<=r\/t*v2<=r*1000000000+u2):t<=dv x/dv vs+1:=by
 have⟨p,vr,ur,h1,h2,h3,h4⟩:=h.parts;exact acG (by decide) h1 h2 h3 h.pos h.Ga mu ht hr
def ik.first(h:ik x vs n v1 v2 u0 u1 u2):dv x/dv vs<=(u0*1000000000+u1)/v1:=by
 have⟨p,vr,ur,h1,h2,h3,h4⟩:=h.parts;exact TE h1 h3 h4 h.Nx h.pos
def ik.top(h:ik x vs n v1 v2 u0 u1 u2):u0<=v1:=by
 have⟨p,vr,ur,h1,h2,h3,h4⟩:=h.parts;exact acH h1 h3 h2 h.Ga h.lt
def ik.digit(h:ik x vs n v1 v2 u0 u1 u2):dv x/dv vs<1000000000:=by
 refine (xH ?_).2 h.lt;rcases xj (dv vs) with h0 | h0
 .have:=h.lt;rw[h0] at this;simp at this
 .exact h0
def ik.small(h:ik x vs n v1 v2 u0 u1 u2)(ht:t*v1+r=u0*1000000000+u1)(hb:1000000000<=t):r<1000000000:=by
 have h1:=h.top;have h2:=h.Nw;have h3:=yX v1 hb
 grind
end
def aCl{u:Nat}(hr:r<1000000000)(hu:u<1000000000):r*1000000000<9223372036854775808/\r*1000000000+u<9223372036854775808:=by lia
def atX{w:AV}{x:List Int}{f:Int}(hw:bw w vs){n v1 v2:Nat}(hl:ik x vs n v1 v2 u0 u1 u2)(hM:M=pre.length+x.length+post.length)(NL:M<=50000000000):
  cE P L [0,1,2,7,9,10] CY (fun k s=>∃t r:Nat,s=⟨[(0,.ay 1 0 M),(1,w),(2,aa pre.length),(7,aa n),(9,aa t),(10,aa r)],H3 qs (pre++x++post) f,3,3⟩/\t*v1+r=u0*1000000000+u1/\r<1000000000/\dv x/dv vs<=t/\t=k) (fun ex s'=>∃tm ct t,s'=⟨tm,H3 qs (pre++x++post) f,ct,3⟩/\((ex=.exit 0/\ai tm 9=aa (t:Nat))\/(ex=.ret/\ai tm 6=aa (t:Nat)))/\ct=3/\t<1000000000/\dv x/dv vs<=t/\t<=dv x/dv vs+1):=by
 apply cI;rintro k s ⟨t,r,rfl,ht,hr,hQ,rfl⟩;have dJ:=hl.n2;have sQ:=hl.nb;have hlx:=hl.lx;have HS:=hl.Nv;have X0:=hl.Ga;have aiu:=hl.Nx;have aCm:=hl.u0W;have RQ:=hl.Nw;have qK:=hl.pos;have sS:=zF hw (i:=n-2) (by have:=hl.lv;lia)
 have fC:=zF hw (i:=n-1) (by have:=hl.lv;lia)
 rw[hl.cU] at sS;rw[hl.fB] at fC;have Ba:=AF (l:=pre++x++post) (o:=pre.length+(n-2)) (by rw[qg];lia)
 rw[C5 (by lia),hl.h2] at Ba;have Cj:(n:Int)-2=((n-2:Nat):Int):=by lia
 have sT:(n:Int)-1=((n-1:Nat):Int):=by lia
 have NM:(pre.length:Int)+(n:Int)=((pre.length+n:Nat):Int):=rfl;have pn2:((pre.length+n:Nat):Int)-2=((pre.length+(n-2):Nat):Int):=by lia
 have aHD:t<=1000000000000000000:=by
  have:=y5 t qK
  lia
 have aHE:t*1<=t*v1:=y5 t qK;have⟨rm1,rm2⟩:=aCl hr aiu;by_cases A9:1000000000<=t\/r*1000000000+u2<t*v2
 .have ht0:0<t:=by
   rcases xj t with h0 | h0
   .subst h0;lia
   .exact h0
  have h1:(t-1)*v1+(r+v1)=u0*1000000000+u1:=by
   obtain⟨p,rfl⟩:∃p,t=p+1:=⟨t-1,by lia⟩;rw[we,Nat.one_mul] at ht;rw[Nat.add_sub_cancel];lia
  have Cl:dv x/dv vs<=t-1:=by
   rcases A9 with h | h
   .have:=hl.digit;generalize dv x/dv vs=q at*;lia
   .exact hl.down ht h
  have Tg:((t:Nat):Int)-1=((t-1:Nat):Int):=by lia
  have stop:1000000000<=r+v1->t-1<1000000000/\t-1<=dv x/dv vs+1:=fun hb=>by
   have aG:t-1<1000000000:=by
    by_cases A4:1000000000<=t-1
    .have:=hl.small h1 A4;lia
    .lia
   exact⟨aG,hl.stop aG h1 (.inl hb)⟩
  by_cases hb:1000000000<=t
  .by_cases oD:1000000000<=r+v1
   .right
    have⟨s1,s2⟩:=stop oD
    simp only[go_sem,ya,CY,H3,show (1000000000:Int)<=(t:Int) by lia,Tg,wrapN (n:=t-1) (by lia),sT,wrapN (n:=n-1) (by lia),fC,show (r:Int)+(v1:Int)=((r+v1:Nat):Int) from rfl,wrapN (n:=r+v1) (by lia),show (1000000000:Int)<=((r+v1:Nat):Int) by lia];exact⟨_,_,rfl,by simp,_,_,t-1,rfl,.inr ⟨rfl,rfl⟩,rfl,s1,Cl,s2⟩
   .left
    simp only[go_sem,ya,CY,H3,show (1000000000:Int)<=(t:Int) by lia,Tg,wrapN (n:=t-1) (by lia),sT,wrapN (n:=n-1) (by lia),fC,show (r:Int)+(v1:Int)=((r+v1:Nat):Int) from rfl,wrapN (n:=r+v1) (by lia),show ¬(1000000000:Int)<=((r+v1:Nat):Int) by lia];refine⟨_,t-1,rfl,by lia,t-1,r+v1,?_,h1,by lia,Cl,rfl⟩;rw[O7 (by simp only[go_sem,ya,yG,nX,oW,nS,nO,zh hw.pu,vL]) (by simp only[go_sem,ya,yb,yG,mw hw.pu])];simp only[go_sem,ya]
  .have sO:=yZ (show t<=999999999 by lia) (show v2<=999999999 by lia);have ss:r*1000000000+u2<t*v2:=A9.resolve_left hb;obtain⟨m,hm⟩:∃m,t*v2=m:=⟨_,rfl⟩;have em:(t:Int)*(v2:Int)=(m:Int):=by rw[<-hm,xx]
   rw[hm] at ss sO;have IA:(r:Int)*1000000000=((r*1000000000:Nat):Int):=by lia
   have DZ:((r*1000000000:Nat):Int)+(u2:Int)=((r*1000000000+u2:Nat):Int):=rfl;by_cases oD:1000000000<=r+v1
   .right
    have⟨s1,s2⟩:=stop oD
    simp only[go_sem,ya,yh,CY,H3,show ¬(1000000000:Int)<=(t:Int) by lia,Cj,wrapN (n:=n-2) (by lia),sS,em,wrapN (n:=m) (by lia),IA,wrapN rm1,NM,wrapN (n:=pre.length+n) (by lia),pn2,wrapN (n:=pre.length+(n-2)) (by lia),dc 1 0 (show pre.length+(n-2)<M by lia),ye,Ba,DZ,wrapN rm2,show ((r*1000000000+u2:Nat):Int)<(m:Int) from tL.2 ss,Tg,wrapN (n:=t-1) (by lia),sT,wrapN (n:=n-1) (by lia),fC,show (r:Int)+(v1:Int)=((r+v1:Nat):Int) from rfl,wrapN (n:=r+v1) (by lia),show (1000000000:Int)<=((r+v1:Nat):Int) by lia];exact⟨_,_,rfl,by simp,_,_,t-1,rfl,.inr ⟨rfl,rfl⟩,rfl,s1,Cl,s2⟩
   .left
    simp only[go_sem,ya,yh,CY,H3,show ¬(1000000000:Int)<=(t:Int) by lia,Cj,wrapN (n:=n-2) (by lia),sS,em,wrapN (n:=m) (by lia),IA,wrapN rm1,NM,wrapN (n:=pre.length+n) (by lia),pn2,wrapN (n:=pre.length+(n-2)) (by lia),dc 1 0 (show pre.length+(n-2)<M by lia),ye,Ba,DZ,wrapN rm2,show ((r*1000000000+u2:Nat):Int)<(m:Int) from tL.2 ss,Tg,wrapN (n:=t-1) (by lia),sT,wrapN (n:=n-1) (by lia),fC,show (r:Int)+(v1:Int)=((r+v1:Nat):Int) from rfl,wrapN (n:=r+v1) (by lia),show ¬(1000000000:Int)<=((r+v1:Nat):Int) by lia];refine⟨_,t-1,rfl,by lia,t-1,r+v1,?_,h1,by lia,Cl,rfl⟩;rw[O7 (by simp only[go_sem,ya,yG,nX,oW,nS,nO,zh hw.pu,vL]) (by simp only[go_sem,ya,yb,yG,mw hw.pu])];simp only[go_sem,ya]
 .right
  have mu:t<1000000000:=Nat.lt_of_not_le fun e=>A9 (.inl e)
  have sO:=yZ (show t<=999999999 from uf mu) (show v2<=999999999 from uf X0);have Yv:t*v2<=r*1000000000+u2:=ycc fun e=>A9 (.inr e)
  have aAe:=hl.stop mu ht (.inr Yv);obtain⟨m,hm⟩:∃m,t*v2=m:=⟨_,rfl⟩;have em:(t:Int)*(v2:Int)=(m:Int):=by rw[<-hm,xx]
  rw[hm] at Yv sO;have IA:(r:Int)*1000000000=((r*1000000000:Nat):Int):=by lia
  have DZ:((r*1000000000:Nat):Int)+(u2:Int)=((r*1000000000+u2:Nat):Int):=rfl
  simp only[go_sem,ya,yh,CY,H3,show ¬(1000000000:Int)<=(t:Int) by lia,Cj,wrapN (n:=n-2) (by lia),sS,em,wrapN (n:=m) (by lia),IA,wrapN rm1,NM,wrapN (n:=pre.length+n) (by lia),pn2,wrapN (n:=pre.length+(n-2)) (by lia),dc 1 0 (show pre.length+(n-2)<M by lia),ye,Ba,DZ,wrapN rm2,show ¬((r*1000000000+u2:Nat):Int)<(m:Int) from fun e=>Nat.not_lt_of_le Yv (tL.1 e)];exact⟨_,_,rfl,by simp,_,_,t,rfl,.inl ⟨rfl,rfl⟩,rfl,mu,hQ,aAe⟩
def aAf(h:Has P L 301 BU){w:AV}{x:List Int}{f:Int}(hw:bw w vs){n v1 v2:Nat}(hl:ik x vs n v1 v2 u0 u1 u2)(hM:M=pre.length+x.length+post.length)(NL:M<=50000000000):
  ∃t:Nat,jG P L (D P L) (H3 qs (pre++x++post) f) 3 301 [.ay 1 0 M,w,aa pre.length]=Gr (aa t,H3 qs (pre++x++post) f,3)/\t<1000000000/\dv x/dv vs<=t/\t<=dv x/dv vs+1:=by
 have dJ:=hl.n2;have sQ:=hl.nb;have hlx:=hl.lx;have Be:below 3 w:=zh hw.pu;have HS:=hl.Nv;have aCm:=hl.u0W;have RQ:=hl.Nw;have qK:=hl.pos;have fC:=zF hw (i:=n-1) (by have:=hl.lv;lia)
 rw[hl.fB] at fC;have D1:=AF (l:=pre++x++post) (o:=pre.length+n) (by rw[qg];lia)
 rw[C5 (by lia),hl.h0] at D1;have D2:=AF (l:=pre++x++post) (o:=pre.length+(n-1)) (by rw[qg];lia)
 rw[C5 (by lia),hl.h1] at D2;have sT:(n:Int)-1=((n-1:Nat):Int):=by lia
 have NM:(pre.length:Int)+(n:Int)=((pre.length+n:Nat):Int):=rfl;have pn1:((pre.length+n:Nat):Int)-1=((pre.length+(n-1):Nat):Int):=by lia
 obtain⟨m,hm⟩:∃m,m=u0*1000000000+u1:=⟨_,rfl⟩;have em:(u0:Int)*1000000000=((u0*1000000000:Nat):Int):=by lia
 have em2:((u0*1000000000:Nat):Int)+(u1:Int)=(m:Int):=by lia
 have eZ:=xL m v1;have ns:=xE m qK;have PZ:=hl.first;rw[<-hm] at PZ;have aHV:m/v1<=m:=vD _ _;have oq:IntKind.wrap .i64 ((m:Int).tdiv (v1:Int))=((m/v1:Nat):Int):=by
  rw[xV (by lia),<-yce,wrapN (by lia)]
 have or':(m:Int).tmod (v1:Int)=((m%v1:Nat):Int):=by rw[xN (by lia),<-Int.natCast_emod]
 rw[xg] at eZ;generalize m/v1=q0 at*
 generalize m%v1=r0 at*
 have jY:∃ex tm t,D P L BU.body ⟨fa 0 [.ay 1 0 M,w,aa pre.length],H3 qs (pre++x++post) f,3,3⟩=Gr (ex,⟨tm,H3 qs (pre++x++post) f,3,3⟩)/\(ex=.normal\/ex=.ret)/\ai tm 6=aa (t:Nat)/\t<1000000000/\dv x/dv vs<=t/\t<=dv x/dv vs+1:=by
  simp only[go_sem,ya,yh,BU,H3,hw.len,hl.lv,NM,wrapN (n:=pre.length+n) (by lia),dc 1 0 (show pre.length+n<M by lia),ye,D1,em,wrapN (n:=u0*1000000000) (by lia),pn1,wrapN (n:=pre.length+(n-1)) (by lia),dc 1 0 (show pre.length+(n-1)<M by lia),D2,em2,wrapN (n:=m) (by lia),sT,wrapN (n:=n-1) (by lia),fC,eO _ _ _ (show (v1:Int)≠0 by lia),eU _ _ _ (show (v1:Int)≠0 by lia),oq,or'];generalize oG:D P L (.loop _ CY) _=qq;obtain⟨ex,s,rfl,tm,ct,t,rfl,zI,rfl,g1,g2,g3⟩:=bg oG (atX (P:=P) (L:=L) (qs:=qs) (f:=f) hw hl hM NL q0) ⟨q0,r0,by
   rw[O7 (by simp only[go_sem,ya,yG,nX,oW,nS,nO,Be,vL]) (by simp only[go_sem,ya,yb,yG,mw hw.pu])]
   simp only[go_sem,ya],by lia,by lia,PZ,rfl⟩
  rcases zI with ⟨rfl,h9⟩ | ⟨rfl,h6⟩
  .simp only [go_sem,yG,H3,O7,nX,nS,nO,h9,and_self];exact⟨_,_,t,rfl,.inr rfl,rfl,g1,g2,g3⟩
  .simp only [go_sem];exact⟨_,_,t,rfl,.inr rfl,h6,g1,g2,g3⟩
 have⟨ex,tm,t,g1,g2,g3,g4,g5,g6⟩:=jY;exact⟨t,Kt h g1 g2 (by show jD _ [RV.t 6]=_;rw[XS,WT,g3]),g4,g5,g6⟩
end
section
variable {p t v x z:Int}{post pre qs vs y:List Int}{n:Nat}
def aCn(ht:0<=t/\t<1000000000)(hv:0<=v/\v<1000000000)(hb:0<=bo/\bo<1000000000):0<=t*v/\t*v<=999999998000000001/\0<=t*v+bo/\t*v+bo<=999999999000000000:=by
 have h1:=tW ht.1 hv.1;have h2:=ycx (show t<=999999999 by lia) (show v<=999999999 by lia) hv.1 (by decide)
 lia
def aCo(hx:0<=x/\x<1000000000)(hp:0<=p/\p<=999999999000000000):
  (x-p.tmod 1000000000<0->0<=x-p.tmod 1000000000+1000000000/\x-p.tmod 1000000000+1000000000<1000000000/\0<=p.tdiv 1000000000+1/\p.tdiv 1000000000+1<1000000000/\x-p.tmod 1000000000+1000000000+p=x+1000000000*(p.tdiv 1000000000+1))/\
  (¬x-p.tmod 1000000000<0->x-p.tmod 1000000000<1000000000/\0<=p.tdiv 1000000000/\p.tdiv 1000000000<1000000000/\x-p.tmod 1000000000+p=x+1000000000*p.tdiv 1000000000):=by grind
def VG{l:List Int}(h:dg l){i:Nat}(hz:0<=z/\z<1000000000):dg (l.set i z):=PV h hz
def atY{b q Cm X:Int}(h2:z+(q*v+bo)=x+b*Cm)(h3:Y+q*X=S+p*bo):(Y+p*(z-x))+q*(X+p*v)=S+p*b*Cm:=by grind
def atZ{w:AV}{x:List Int}{f:Int}(hw:bw w vs){m:Nat}(lv:vs.length=n)(hM:M=pre.length+(n+1)+post.length)(NL:M<=50000000000)(gv:dg vs)(ht:0<=t/\t<1000000000):
  cE P L [8,9,10,11,12,13,14,15,16] GY (fun k s=>∃(i:Nat) (bo:Int) (y:List Int),s=⟨[(8,.ay 0 0 1),(9,w),(10,aa n),(11,.ay 1 0 M),(12,.ay 2 0 m),(13,aa pre.length),(14,aa t),(15,aa bo),(16,aa i)],H3 qs (pre++y++post) f,3,0⟩/\i+k=n/\y.length=n+1/\dg y/\(0<=bo/\bo<1000000000)/\
    sv y+t*sv (vs.take i)=sv x+1000000000^i*bo) (fun ex s'=>∃tm bo y,s'=⟨tm,H3 qs (pre++y++post) f,3,0⟩/\ex=.exit 4/\ai tm 8=.ay 0 0 1/\ai tm 9=w/\ai tm 10=aa n/\ai tm 11=.ay 1 0 M/\ai tm 12=.ay 2 0 m/\ai tm 13=aa pre.length/\ai tm 14=aa t/\ai tm 15=aa bo/\y.length=n+1/\dg y/\(0<=bo/\bo<1000000000)/\
    sv y+t*sv vs=sv x+1000000000^n*bo):=by
 apply cI;rintro k s ⟨i,bo,y,rfl,hk,ly,gy,kE,aK⟩;by_cases hi:i<n
 .left
  have z8:=jv gv i;have sU:=jv gy i;have ev:=zF hw (i:=i) (by lia);have ey:=AF (l:=pre++y++post) (o:=pre.length+i) (by rw[qg];lia)
  rw[C5 (by lia)] at ey;have eL:=PI (l:=vs) i;obtain⟨a,ha⟩:∃a,a=vs.getD i 0:=⟨_,rfl⟩;obtain⟨d,hd⟩:∃d,d=y.getD i 0:=⟨_,rfl⟩;rw[<-ha] at z8 ev eL;rw[<-hd] at sU ey;have⟨p1,p2,p3,p4⟩:=aCn ht z8 kE;have⟨s1,s2⟩:=aCo sU ⟨p3,p4⟩;have eX:(i:Int)+(pre.length:Int)=((pre.length+i:Nat):Int):=by lia
  have aM:=fun (hp:Hp) (ct:Nat) (z:Int)=>Ec (hp:=hp) (ct:=ct) (id:=1) (v:=z) (ex:=ydz) (l:=pre++y++post) (o:=pre.length+i) (by rw[qg];lia)
  have qD:=fun z=>P0 (pre:=pre) (x:=y) (post:=post) (i:=i) z (by lia)
  have aR:=fun z=>Hk (l:=y) (i:=i) (x:=z) (by lia)
  rw[<-hd] at aR;obtain⟨pr,qU⟩:∃pr,pr=t*a+bo:=⟨_,rfl⟩;obtain⟨dm,eZ⟩:∃dm,pr.tmod 1000000000=dm:=⟨_,rfl⟩;obtain⟨dq,Gd⟩:∃dq,pr.tdiv 1000000000=dq:=⟨_,rfl⟩;have aHW:0<=dm/\dm<1000000000:=by rw[<-eZ,xN (by lia)];lia
  have aHX:0<=dq/\dq<1000000000:=by rw[<-Gd,xV (by lia)];lia
  rw[<-qU,eZ,Gd] at s1 s2;have key:∀z Cm,z+(t*a+bo)=d+1000000000*Cm->sv (y.set i z)+t*sv (vs.take (i+1))=sv x+1000000000^(i+1)*Cm:=fun z Cm h=>by
   rw[aR,eL,yaq];exact atY h aK
  rw[<-qU] at key;by_cases fw:d-dm<0
  .have ⟨q1,q2,q3,q4,q5⟩:=s1 fw;have kk:=key _ _ q5;obtain⟨dr,kC⟩:∃dr,d-dm=dr:=⟨_,rfl⟩;rw[kC] at fw kk q1 q2
   simp only[go_sem,ya,yh,GY,H3,show (i:Int)<(n:Int) by lia,ev,wrap64 (n:=t*a) (by lia) (by lia),<-qU,wrap64 (n:=pr) (by lia) (by lia),eX,wrapN (n:=pre.length+i) (by lia),dc 1 0 (show pre.length+i<M by lia),ye,ey,eU _ _ _ (show (1000000000:Int)≠0 by decide),eO _ _ _ (show (1000000000:Int)≠0 by decide),eZ,Gd,kC,wrap64 (n:=dr) (by lia) (by lia),wrap64 (n:=dq) (by lia) (by lia),fw,wrap64 (n:=dr+1000000000) (by lia) (by lia),wrap64 (n:=dq+1) (by lia) (by lia),aM,qD];refine⟨_,k-1,rfl,by lia,i+1,dq+1,y.set i (dr+1000000000),?_,by lia,by simp[ly],VG gy ⟨q1,q2⟩,⟨q3,q4⟩,kk⟩;rw[wrap64 (by lia) (by lia)];simp only[go_sem,ya,yb,aq,aC hw.pu]<;>rfl
  .have ⟨q2,q3,q4,q5⟩:=s2 fw;have kk:=key _ _ q5;obtain⟨dr,kC⟩:∃dr,d-dm=dr:=⟨_,rfl⟩;rw[kC] at fw kk q2
   simp only[go_sem,ya,yh,GY,H3,show (i:Int)<(n:Int) by lia,ev,wrap64 (n:=t*a) (by lia) (by lia),<-qU,wrap64 (n:=pr) (by lia) (by lia),eX,wrapN (n:=pre.length+i) (by lia),dc 1 0 (show pre.length+i<M by lia),ye,ey,eU _ _ _ (show (1000000000:Int)≠0 by decide),eO _ _ _ (show (1000000000:Int)≠0 by decide),eZ,Gd,kC,wrap64 (n:=dr) (by lia) (by lia),wrap64 (n:=dq) (by lia) (by lia),fw,aM,qD];refine⟨_,k-1,rfl,by lia,i+1,dq,y.set i dr,?_,by lia,by simp[ly],VG gy ⟨by lia,q2⟩,⟨q3,q4⟩,kk⟩;rw[wrap64 (by lia) (by lia)];simp only[go_sem,ya,yb,aq,aC hw.pu]<;>rfl
 .right
  have:i=n:=by lia
  subst this;rw[yK (by lia)] at aK;simp only[go_sem,ya,GY,H3,show ¬(i:Int)<(i:Int) by lia];exact⟨_,_,rfl,by simp,_,bo,y,rfl,rfl,rfl,rfl,rfl,rfl,rfl,rfl,rfl,rfl,ly,gy,kE,aK⟩
def at0{b c c' X:Int}(h2:z+b*c'=x+v+c)(h3:Y+p*c=S+X):(Y+p*(z-x))+p*b*c'=S+(X+p*v):=by grind
def at1{w:AV}{y0:List Int}{f:Int}(hw:bw w vs){m:Nat}(lv:vs.length=n)(hM:M=pre.length+(n+1)+post.length)(NL:M<=50000000000)(gv:dg vs){top:Int}:
  cE P L [8,9,10,11,12,13,14,19,20] KV (fun k s=>∃(i:Nat) (c:Int) (y:List Int),s=⟨[(8,.ay 0 0 1),(9,w),(10,aa n),(11,.ay 1 0 M),(12,.ay 2 0 m),(13,aa pre.length),(14,aa t),(19,aa c),(20,aa i)],H3 qs (pre++y++post) f,3,0⟩/\i+k=n/\y.length=n+1/\dg (y.take n)/\y.getD n 0=top/\(0<=c/\c<=1)/\
    sv y+1000000000^i*c=sv y0+sv (vs.take i)) (fun ex s'=>∃tm c y,s'=⟨tm,H3 qs (pre++y++post) f,3,0⟩/\ex=.exit 6/\ai tm 8=.ay 0 0 1/\ai tm 9=w/\ai tm 10=aa n/\ai tm 11=.ay 1 0 M/\ai tm 12=.ay 2 0 m/\ai tm 13=aa pre.length/\ai tm 14=aa t/\ai tm 19=aa c/\y.length=n+1/\dg (y.take n)/\y.getD n 0=top/\(0<=c/\c<=1)/\
    sv y+1000000000^n*c=sv y0+sv vs):=by
 apply cI;rintro k s ⟨i,c,y,rfl,hk,ly,gy,qF,hc,aK⟩;by_cases hi:i<n
 .left
  have z8:=jv gv i;have sU:=jv gy i;have e0:(y.take n).getD i 0=y.getD i 0:=by
   simp[y9,hi]
  rw[e0] at sU;have ev:=zF hw (i:=i) (by lia);have ey:=AF (l:=pre++y++post) (o:=pre.length+i) (by rw[qg];lia)
  rw[C5 (by lia)] at ey;have eL:=PI (l:=vs) i;obtain⟨a,ha⟩:∃a,a=vs.getD i 0:=⟨_,rfl⟩;obtain⟨d,hd⟩:∃d,d=y.getD i 0:=⟨_,rfl⟩;rw[<-ha] at z8 ev eL;rw[<-hd] at sU ey;have eX:(i:Int)+(pre.length:Int)=((pre.length+i:Nat):Int):=by lia
  have aR:=fun z=>Hk (l:=y) (i:=i) (x:=z) (by lia)
  rw[<-hd] at aR;have ns:(d+a+c).tmod 1000000000=(d+a+c)%1000000000:=xN (by lia);have hdiv:(d+a+c).tdiv 1000000000=(d+a+c)/1000000000:=xV (by lia);obtain⟨z,hz⟩:∃z,z=(d+a+c)%1000000000:=⟨_,rfl⟩;obtain⟨c',kX⟩:∃z,z=(d+a+c)/1000000000:=⟨_,rfl⟩;have Zd:z+1000000000*c'=d+a+c:=by lia
  rw[<-hz] at ns;rw[<-kX] at hdiv;have aM:=fun (hp:Hp) (ct:Nat)=>Ec (hp:=hp) (ct:=ct) (id:=1) (v:=z) (ex:=ydz) (l:=pre++y++post) (o:=pre.length+i) (by rw[qg];lia)
  have qD:=P0 (pre:=pre) (x:=y) (post:=post) (i:=i) z (by lia)
  simp only[go_sem,ya,yh,KV,H3,show (i:Int)<(n:Int) by lia,ev,eX,wrapN (n:=pre.length+i) (by lia),dc 1 0 (show pre.length+i<M by lia),ye,ey,wrap64 (n:=d+a) (by lia) (by lia),wrap64 (n:=d+a+c) (by lia) (by lia),eU _ _ _ (show (1000000000:Int)≠0 by decide),eO _ _ _ (show (1000000000:Int)≠0 by decide),ns,hdiv,wrap64 (n:=c') (by lia) (by lia),aM,qD];refine⟨_,k-1,rfl,by lia,i+1,c',y.set i z,?_,by lia,by simp[ly],?_,by rw[afN (by lia)];exact qF,⟨by lia,by lia⟩,?_⟩
  .rw [wrap64 (by lia) (by lia)];simp only[go_sem,ya,yb,aq,aC hw.pu]<;>rfl
  .rw [yaT];exact VG gy ⟨by lia,by lia⟩
  .rw [aR,eL,yaq];exact at0 Zd aK
 .right
  have:i=n:=by lia
  subst this;rw[yK (show vs.length<=i by lia)] at aK;simp only[go_sem,ya,KV,H3,show ¬(i:Int)<(i:Int) by lia];exact⟨_,_,rfl,by simp,_,c,y,rfl,rfl,rfl,rfl,rfl,rfl,rfl,rfl,rfl,rfl,ly,gy,qF,hc,aK⟩
def at2{t:Nat}(hV:0<V)(ly:y.length=n+1)(gy:dg (y.take n))(h:sv y=(A:Int)-t*V)(h1:A/V<=t)(h2:t<=A/V+1):
  (¬y.getD n 0<0->t=A/V/\sv y=((A%V:Nat):Int))/\(y.getD n 0<0->t=A/V+1/\sv y+V=((A%V:Nat):Int)):=by
 have eZ:=xL A V;have hm:=xE A hV;have eL:=PI (l:=y) n;rw[yK (by lia),BJ gy] at eL;have DA:=lC gy;have hp:(0:Int)<1000000000^n:=ydn (by decide);generalize y.getD n 0=top at*
 generalize A/V=Q at*
 have hq:t=Q\/t=Q+1:=by lia
 constructor
 .intro h0;have h3:0<=(1000000000:Int)^n*top:=tW (tM hp) (by lia);rcases hq with rfl | rfl
  .grind
  .grind
 .intro h0;have h3:(1000000000:Int)^n*top<=-(1000000000^n):=by
   have:=uR (show top<=-1 by lia) (tM hp)
   grind
  rcases hq with rfl | rfl
  .grind
  .grind
def ad3(ly:y.length=n+1)(gy:dg (y.take n))(h0:0<=sv y)(h1:sv y<1000000000^n):y.getD n 0=0/\dg y/\sv y=dv y:=by
 have eL:=PI (l:=y) n;rw[yK (by lia),BJ gy] at eL;have DA:=lC gy;rw[yP,xo (by lia)] at DA;have hp:(0:Int)<1000000000^n:=ydn (by decide);have sd:((1000000000^n:Nat):Int)=(1000000000:Int)^n:=by simp
 have aHF:(dv (y.take n):Int)<1000000000^n:=by lia
 have ht:y.getD n 0=0:=by
  generalize y.getD n 0=top at*
  rcases uT top 0 with h | h | h
  .have:=uR (show top<=-1 by lia) (tM hp)
   grind
  .grind
  .have:=uR (show 1<=top by lia) (tM hp)
   grind
 have hg:dg y:=by
  have e:y=y.take n++[0]:=by
   have h1:y=y.take n++y.drop n:=(wo n y).symm;have h2:y.drop n=[0]:=by
    rw[yS (by lia),xb (by lia)]
    grind
   grind
  rw[e];exact iY.2 ⟨gy,lm.2 ⟨by decide,by decide⟩⟩
 exact⟨ht,hg,BJ hg⟩
end
def at3{l:List Int}{i:Nat}(h:i<l.length):dv (l.drop i)=(l.getD i 0).toNat+1000000000*dv (l.drop (i+1)):=by
 rw[yS h]
 have:l[i]=l.getD i 0:=by simp_all
 rw[this];rfl
def U3(l:List Int)(i:Nat)(h:i<=l.length):dv l=dv (l.take i)+1000000000^i*dv (l.drop i):=by
 conv=>lhs;rw[<-wo i l]
 rw[nL,yP,xo h]
def at4{sx sy sV:Int}{p:Int}{t:Int}{yn z:Int}{szy:Int}(h1:sy+t*sV=sx+p*bo)(h2:szy=sy+p*(z-yn))(h3:z=yn-bo):szy=sx-t*sV:=by grind
def at5(zM:Has P L 301 BU){w:AV}{f:Int}(hw:bw w vs)(gv:dg vs){n m:Nat}(lv:vs.length=n)(dJ:2<=n)(hnM:n<M)(NL:M<=20000000000)(hm:m=M-n)(fB:0<vs.getD (n-1) 0){U0:Nat}:
  cE P L [8,9,10,11,12,13] KW (fun k st=>∃(j:Nat) (us qs:List Int),st=⟨[(8,.ay 0 0 1),(9,w),(10,aa n),(11,.ay 1 0 M),(12,.ay 2 0 m),(13,aa ((j:Int)-1))],H3 qs us f,3,0⟩/\j=k/\j<=m/\us.length=M/\qs.length=m/\dg us/\dg qs/\(∀i,i<j->qs.getD i 0=0)/\
    dv us+dv qs*dv vs=U0/\dv (us.drop j)<dv vs) (fun ex st'=>∃tm us qs,st'=⟨tm,H3 qs us f,3,0⟩/\ex=.exit 2/\ai tm 8=.ay 0 0 1/\ai tm 10=aa n/\ai tm 11=.ay 1 0 M/\ai tm 12=.ay 2 0 m/\us.length=M/\qs.length=m/\dg us/\dg qs/\
    dv us+dv qs*dv vs=U0/\dv us<dv vs):=by
 apply cI;rintro k st ⟨j,us,qs,rfl,rfl,hj,lu,lq,gu,gq,hz,aK,qF⟩
 cases j with
 | zero=>
  right
  simp only[go_sem,ya,KW,H3,show ¬(0:Int)<=((0:Nat):Int)-1 by lia];exact⟨_,_,rfl,by simp,_,us,qs,rfl,rfl,rfl,rfl,rfl,rfl,lu,lq,gu,gq,aK,by simpa using qF⟩
 | succ j=>
  left
  obtain⟨pre,eX⟩:∃p,p=us.take j:=⟨_,rfl⟩;obtain⟨x,hx⟩:∃p,p=(us.drop j).take (n+1):=⟨_,rfl⟩;obtain⟨post,gG⟩:∃p,p=us.drop (j+(n+1)):=⟨_,rfl⟩;have lp:pre.length=j:=by rw[eX,yP];lia
  have lx:x.length=n+1:=by rw[hx,yP,wh];lia
  have lpo:M=pre.length+(n+1)+post.length:=by rw[lp,gG,wh];lia
  have lY:us=pre++x++post:=by
   rw[eX,hx,gG,<-vV,xM,wo,wo]
  have gpo:dg post:=by
   have:=gu;rw[lY] at this;exact (iY.1 this).2
  have gpx:=by have:=gu;rw[lY] at this;exact (iY.1 this).1
  have gx:dg x:=(iY.1 gpx).2;have X3:dg pre:=(iY.1 gpx).1;have hA:=at3 (l:=us) (i:=j) (by lia);have hgj:=jv gu j;have Z3:us.drop j=x++post:=by rw[gG,hx,<-vV,wo]
  have Cn:dv (us.drop j)=dv x+1000000000^(n+1)*dv post:=by rw[Z3,nL,lx]
  have Ny:=lC gv;rw[lv] at Ny;have aG:dv (us.drop j)<1000000000*dv vs:=by lia
  have hp0:dv post=0:=by
   rcases xj (dv post) with e | e
   .exact e
   .have h1:=y5 (1000000000^(n+1)) e;rw[yh,xp] at h1;rw[xp] at Cn
    lia
  rw[hp0,xI,y7] at Cn;have NN:=fun (l:List Int) (hl:dg l) (i:Nat)=>jv hl i
  obtain⟨v1,fC⟩:∃v:Nat,vs.getD (n-1) 0=v:=⟨(vs.getD (n-1) 0).toNat,by have:=NN vs gv (n-1);lia⟩
  obtain⟨v2,sS⟩:∃v:Nat,vs.getD (n-2) 0=v:=⟨(vs.getD (n-2) 0).toNat,by have:=NN vs gv (n-2);lia⟩
  obtain⟨u0,D1⟩:∃v:Nat,x.getD n 0=v:=⟨(x.getD n 0).toNat,by have:=NN x gx n;lia⟩
  obtain⟨u1,D2⟩:∃v:Nat,x.getD (n-1) 0=v:=⟨(x.getD (n-1) 0).toNat,by have:=NN x gx (n-1);lia⟩
  obtain⟨u2,Ba⟩:∃v:Nat,x.getD (n-2) 0=v:=⟨(x.getD (n-2) 0).toNat,by have:=NN x gx (n-2);lia⟩
  have hl:ik x vs n v1 v2 u0 u1 u2:=⟨dJ,by lia,lx,lv,gx,gv,fC,sS,D1,D2,Ba,by lia,by rw[<-Cn];exact aG⟩
  have RR:=hl.digit;have z7:0<dv vs:=by lia
  have ns:=xE (dv x) z7;have⟨t,e1,ht1,Zu,ht3⟩:=aAf (P:=P) (L:=L) zM hw hl (pre:=pre) (post:=post) (qs:=qs) (f:=f) (M:=M) (by lia) (by lia);rw[<-lY,lp] at e1;have Z5:dv us=dv pre+1000000000^j*dv x:=by
   have:=U3 us j (by lia)
   rw[Cn,<-eX] at this;exact this
  have X4:∀y,dv (pre++y++post)=dv pre+1000000000^j*dv y:=fun y=>by
   rw[xM,nL,nL,hp0,xI,y7,lp]
  have nh:=acO (b:=0) Z5 aK;have Be:below 3 w:=zh hw.pu;have aR:=Hk (l:=qs) (i:=j) (x:=((dv x/dv vs:Nat):Int)) (by lia);have gq':dg (qs.set j ((dv x/dv vs:Nat):Int)):=PV gq ⟨yaI _,tL.2 RR⟩;rw[hz j (by lia),Int.sub_zero,BJ gq,BJ gq'] at aR;have aR:dv (qs.set j ((dv x/dv vs:Nat):Int))=dv qs+1000000000^j*(dv x/dv vs):=by
   have sd:((1000000000^j*(dv x/dv vs):Nat):Int)=(1000000000:Int)^j*((dv x/dv vs:Nat):Int):=by rw[xx];simp
   rw[<-sd] at aR;exact yay (by rw[ybx,ybx,aR,yak])
  have fin:∀(s':St) (x':List Int),bB [8,9,10,11,12,13] s'=⟨[(8,.ay 0 0 1),(9,w),(10,aa n),(11,.ay 1 0 M),(12,.ay 2 0 m),(13,aa ((j:Int)-1))],H3 (qs.set j ((dv x/dv vs:Nat):Int)) (pre++x'++post) f,3,0⟩->x'.length=n+1->dg x'->sv x'=((dv x%dv vs:Nat):Int)->
    ∃(j':Nat) (us qs:List Int),bB [8,9,10,11,12,13] s'=⟨[(8,.ay 0 0 1),(9,w),(10,aa n),(11,.ay 1 0 M),(12,.ay 2 0 m),(13,aa ((j':Int)-1))],H3 qs us f,3,0⟩/\j'=j/\j'<=m/\us.length=M/\qs.length=m/\dg us/\dg qs/\(∀i,i<j'->qs.getD i 0=0)/\dv us+dv qs*dv vs=U0/\dv (us.drop j')<dv vs:=fun s' x' hc Z4 SW NA=>by
   have aiY:dv x'=dv x%dv vs:=by rw[BJ SW] at NA;exact yay NA
   refine⟨j,_,_,hc,rfl,by lia,by rw[qg,Z4];lia,by simp[lq],iY.2 ⟨iY.2 ⟨X3,SW⟩,gpo⟩,gq',fun i hi=>by rw[afN (by lia)];exact hz i (by lia),?_,?_⟩
   .rw [X4,aiY,aR];exact nh
   .rw [xM,List.drop_left' lp,nL,hp0,xI,y7,aiY];exact ns
  have aiZ:=fun (z:Int) (hp:Hp) (ct:Nat)=>Ec (hp:=hp) (ct:=ct) (id:=2) (v:=z) (ex:=ydy) (l:=qs) (o:=j) (by lia)
  have svx:=BJ gx;have svv:=BJ gv;simp only[H3] at e1;simp only[go_sem,ya,KW,H3,show ((j+1:Nat):Int)-1=(j:Int) by lia,show (0:Int)<=(j:Int) by lia,ahi,e1];generalize oG:D P L (.loop _ GY) _=qq;obtain⟨ex,s,rfl,tm,bo,y,rfl,rfl,t8,t9,t10,t11,t12,t13,t14,t15,ly,gy,kE,hv⟩:=bg oG (atZ (P:=P) (L:=L) (x:=x) (pre:=pre) (post:=post) (qs:=qs) (f:=f) (m:=m) (M:=M) hw lv lpo (by lia) gv (t:=t) (by lia) n) ⟨0,0,x,by
   rw[lY,lp]
   simp only[go_sem,ya,yb,aq,aC hw.pu]<;>rfl,by lia,lx,gx,by lia,by simp[sv]⟩
  rw[lp] at t13;have hyn:=jv gy n;have eyn:=AF (l:=pre++y++post) (o:=pre.length+n) (by rw[qg];lia)
  rw[C5 (by lia),lp] at eyn;obtain⟨z,hzz⟩:∃z,z=y.getD n 0-bo:=⟨_,rfl⟩;have Hx:=fun (hp:Hp) (ct:Nat)=>Ec (hp:=hp) (ct:=ct) (id:=1) (v:=z) (ex:=ydz) (l:=pre++y++post) (o:=j+n) (by rw[qg];lia)
  have qD:=P0 (pre:=pre) (x:=y) (post:=post) (i:=n) z (by lia);rw[lp] at qD;rw[qD] at Hx;have gI:=Hk (l:=y) (i:=n) (x:=z) (by lia);have QM:=at4 hv gI hzz;have D0:(y.set n z).length=n+1:=by simp[ly]
  have Gb:dg ((y.set n z).take n):=by
   have:(y.set n z).take n=y.take n:=by rw[yaT,yaS (by simp;lia)]
   rw[this];exact EA gy n
  rw[svx,svv] at QM;have⟨s0,s1⟩:=at2 z7 D0 Gb QM Zu ht3;have eg:(y.set n z).getD n 0=z:=aps (by lia);rw[eg] at s0 s1;have ezn:=AF (l:=pre++y.set n z++post) (o:=pre.length+n) (by rw[qg];lia)
  rw[C5 (by lia),lp,eg] at ezn;generalize y.set n z=y1 at*
  have hpn:((10^9:Int))=1000000000:=by decide
  by_cases fw:z<0
  .have ⟨f1,f2⟩:=s1 fw
   simp only[go_sem,ya,yb,yh,aq,aC hw.pu,t8,t9,t10,t11,t12,t13,t14,t15,show (j:Int)+(n:Int)=((j+n:Nat):Int) from rfl,wrapN (n:=j+n) (by lia),dc 1 0 (show j+n<M by lia),ye,eyn,<-hzz,wrap64 (n:=z) (by lia) (by lia),Hx,ezn,fw];generalize FI:D P L (.loop _ KV) _=ZY;obtain⟨ex,s,rfl,qS,c,y2,rfl,rfl,t8,t9,t10,t11,t12,t13,t14,t19,Z0,SU,aht,hc,cU⟩:=bg FI (at1 (P:=P) (L:=L) (y0:=y1) (pre:=pre) (post:=post) (qs:=qs) (f:=f) (m:=m) (M:=M) (t:=(t:Int)-1) (top:=z) hw lv lpo (by lia) gv n) ⟨0,0,y1,by
    rw[lp,wrap64 (n:=(t:Int)-1) (by lia) (by lia)]
    simp only[go_sem,ya,yb,aq,aC hw.pu]<;>rfl,by lia,D0,Gb,eg,by lia,by simp[sv]⟩
   rw[lp] at t13;have ai0:=AF (l:=pre++y2++post) (o:=pre.length+n) (by rw[qg];lia)
   rw[C5 (by lia),lp,aht] at ai0;have zK:=fun (hp:Hp) (ct:Nat)=>Ec (hp:=hp) (ct:=ct) (id:=1) (v:=z+c) (ex:=ydz) (l:=pre++y2++post) (o:=j+n) (by rw[qg];lia)
   have Qt:=P0 (pre:=pre) (x:=y2) (post:=post) (i:=n) (z+c) (by lia);rw[lp] at Qt;rw[Qt] at zK;have mj:=Hk (l:=y2) (i:=n) (x:=z+c) (by lia);rw[aht,show z+c-z=c by lia,cU,svv,f2] at mj;have Nz:(y2.set n (z+c)).length=n+1:=by simp[Z0]
   have SV:dg ((y2.set n (z+c)).take n):=by
    have:(y2.set n (z+c)).take n=y2.take n:=by rw[yaT,yaS (by simp;lia)]
    rw[this];exact SU
   have hmV:((dv x%dv vs:Nat):Int)<1000000000^n:=by
    have sd:((1000000000^n:Nat):Int)=(1000000000:Int)^n:=by simp
    rw[<-sd];lia
   have⟨g1,g2,g3⟩:=ad3 Nz SV (by rw[mj];lia) (by rw[mj];exact hmV)
   generalize y2.set n (z+c)=y3 at*
   have ft:(t:Int)-1=((dv x/dv vs:Nat):Int):=by rw[f1];lia
   simp only[go_sem,ya,yb,yh,aq,aC hw.pu,t8,t9,t10,t11,t12,t13,t14,t19,show (j:Int)+(n:Int)=((j+n:Nat):Int) from rfl,wrapN (n:=j+n) (by lia),dc 1 0 (show j+n<M by lia),ye,ai0,wrap64 (n:=z+c) (by lia) (by lia),zK,dc 2 0 (show j<m by lia),aiZ];rw[ft];refine⟨_,j,rfl,by lia,fin _ y3 ?_ Nz g2 mj⟩;rw[wrap64 (by lia) (by lia)];simp only[go_sem,ya,yb,aq,aC hw.pu]<;>rfl
  .have ⟨f1,f2⟩:=s0 fw;have hmV:((dv x%dv vs:Nat):Int)<1000000000^n:=by
    have sd:((1000000000^n:Nat):Int)=(1000000000:Int)^n:=by simp
    rw[<-sd];lia
   have⟨g1,g2,g3⟩:=ad3 D0 Gb (by rw[f2];lia) (by rw[f2];exact hmV)
   simp only[go_sem,ya,yb,yh,aq,aC hw.pu,t8,t9,t10,t11,t12,t13,t14,t15,show (j:Int)+(n:Int)=((j+n:Nat):Int) from rfl,wrapN (n:=j+n) (by lia),dc 1 0 (show j+n<M by lia),ye,eyn,<-hzz,wrap64 (n:=z) (by lia) (by lia),Hx,ezn,fw,dc 2 0 (show j<m by lia),aiZ];rw[f1];refine⟨_,j,rfl,by lia,fin _ y1 ?_ D0 g2 f2⟩;rw[wrap64 (by lia) (by lia)];simp only[go_sem,ya,yb,aq,aC hw.pu]<;>rfl
def axL(h:Has P L 292 BT){n:Nat}(hn:n<1000000000):ab P L 292 [aa n,aa 9] (.str (jN 9 n)):=by
 have key:=fK P L [0,1,5] p7
  (fun k st=>∃(m:Nat) (s:List Nat),st=⟨[(0,aa m),(1,aa 9),(5,.str s)],[],0,0⟩/\s.length+k=9/\m<10^k/\jN 9 n=jN k m++s)
  (fun ex st=>∃tm ct,st=⟨tm,[],ct,0⟩/\ex=.exit 0/\ai tm 5=.str (jN 9 n)) ?_
 .unfold ab;rw[aD h];simp only[go_sem,BT];generalize hq:D P L (.loop _ p7) _=q;obtain⟨ex,st,rfl,tm,ct,rfl,rfl,h2⟩:=bg hq (key 9) ⟨n,[],by simp only[go_sem,ya,aq]<;>rfl,rfl,by lia,by simp⟩
  simp only[go_sem,aq,h2]
 .rintro k st ⟨m,s,rfl,hk,hm,hs⟩
  cases k with
  | zero=>
   right
   have sX:m=0:=by simpa using hm
   subst sX;simp only[go_sem,ya,p7,show ¬(0:Int)<((0:Nat):Int) by lia,show ¬((s.length:Nat):Int)<9 by lia];refine⟨_,_,rfl,by simp,_,_,rfl,rfl,?_⟩;rw[hs];rfl
  | succ k=>
   left
   have hr:((m:Int)).tmod 10=((m%10:Nat):Int):=by rw[xN (by lia)];rfl
   have hq:((m:Int)).tdiv 10=((m/10:Nat):Int):=by rw[xV (by lia)];rfl
   have hd:=abU (r:=m%10) (by lia);have M3:m<10000000000:=yI hm (by simpa using y8 (show 0<10 by decide) (show k+1<=10 by lia));have fin:∃s',D P L p7 ⟨[(0,aa m),(1,aa 9),(5,.str s)],[],0,0⟩=Gr (.normal,s')/\bB [0,1,5] s'=⟨[(0,aa (m/10:Nat)),(1,aa 9),(5,.str ([48+m%10]++s))],[],0,0⟩:=by
    by_cases hc:(0:Int)<m
    .simp only [go_sem,ya,yb,p7,hc,eU _ _ _ (show (10:Int)≠0 by decide),eO _ _ _ (show (10:Int)≠0 by decide),hr,hq,wrapN (n:=m%10+1) (by lia),wrap64 (n:=((m/10:Nat):Int)) (by lia) (by lia),fG,eE,show ((m%10:Nat):Int)+1=((m%10+1:Nat):Int) from rfl,hd,iH (a:=[48+m%10]) (b:=s) (by simp;lia)]
     exact⟨_,rfl,by simp only[go_sem,ya,aq]⟩
    .simp only [go_sem,ya,yb,p7,hc,show ((s.length:Nat):Int)<9 by lia,eU _ _ _ (show (10:Int)≠0 by decide),eO _ _ _ (show (10:Int)≠0 by decide),hr,hq,wrapN (n:=m%10+1) (by lia),wrap64 (n:=((m/10:Nat):Int)) (by lia) (by lia),fG,eE,show ((m%10:Nat):Int)+1=((m%10+1:Nat):Int) from rfl,hd,iH (a:=[48+m%10]) (b:=s) (by simp;lia)]
     exact⟨_,rfl,by simp only[go_sem,ya,aq]⟩
   have⟨s',f1,f2⟩:=fin;exact⟨s',k,f1,by lia,m/10,_,f2,by simp;lia,by rw[xp] at hm;lia,by rw[hs];simp[jN]⟩
def last_pos{l:List Int}(hd:dg l)(hn:nz l)(h:0<l.length):0<l.getD (l.length-1) 0:=by
 rcases snoc l with rfl | ⟨m,a,rfl⟩
 .grind
 .have e:(m++[a]).getD ((m++[a]).length-1) 0=a:=by simp_all
  have ha:=lm.1 (iY.1 hd).2;by_cases h0:a=0
  .subst h0
   have:=OJ m
   have e:=congrArg List.length hn;rw[JS] at e
   grind
  .lia
def axM(qC:Has P L 292 BT){neg:Bool}{w:AV}{l:List Int}(hw:bw w l)(hd:dg l)(hn:nz l)(hl:l.length<=20000000000):
  cE P L [1,3,4] KT (fun k s=>∃(j:Nat) (t:List Nat),s=⟨[(1,.ptr 0 0),(3,.str t),(4,aa ((j:Int)-1))],[(0,.cells ydy ydy ydy 2 [.bool neg,w])],1,0⟩/\j=k/\j<l.length/\0<dv (l.drop j)/\t=az (dv (l.drop j))/\t.length<=9*(l.length-j)) (fun ex s'=>∃tm,s'=⟨tm,[(0,.cells ydy ydy ydy 2 [.bool neg,w])],1,0⟩/\ex=.exit 0/\ai tm 1=.ptr 0 0/\ai tm 3=.str (az (dv l))/\(az (dv l)).length<=180000000000):=by
 apply cI;rintro k s ⟨j,t,rfl,rfl,hj,qK,ht,htl⟩
 cases j with
 | zero=>
  right
  rw[yg] at ht;simp only[go_sem,ya,KT,show ¬(0:Int)<=((0:Nat):Int)-1 by lia];exact⟨_,_,rfl,by simp,_,rfl,rfl,rfl,by rw[<-ht];simp only[go_sem,ya],by rw[<-ht];lia⟩
 | succ i=>
  left
  have hi:i<l.length:=by lia
  obtain⟨x,hx⟩:∃x,x=l.getD i 0:=⟨_,rfl⟩;have e1:=zF hw hi;have gx:=jv hd i;rw[<-hx] at e1 gx;obtain⟨m,rfl⟩:∃m:Nat,x=m:=⟨x.toNat,by lia⟩;have e2:=axL qC (n:=m) (by lia);unfold ab at e2;have hlp:=UZ 9 m;have kC:dv (l.drop i)=dv (l.drop (i+1))*10^9+m:=by
   have:l.drop i=(m:Int)::l.drop (i+1):=by
    rw[yS hi,hx];simp[y9,xu hi]
   rw[this];simp only[dv,wY];lia
  have MG:az (dv (l.drop i))=t++jN 9 m:=by
   rw[kC,O2 9 _ m qK (by lia),ht]
  simp only[go_sem,ya,KT,show ((i+1:Nat):Int)-1=(i:Int) by lia,show (0:Int)<=(i:Int) by lia,aX,ye,cP,e1,e2,iH (a:=t) (b:=jN 9 m) (by lia)];refine⟨_,i,rfl,by lia,i,t++jN 9 m,?_,rfl,by lia,by lia,MG.symm,by simp;lia⟩
  rw[wrap64 (by lia) (by lia)];simp only[go_sem,ya,yb,aq]<;>rfl
def R5(h:Has P L 282 L9)(qC:Has P L 292 BT){n:Int}(hK:K<=18000000000)(hv:jQ v n)(hn:n.natAbs<1000000000^K):ab P L 282 [v] (.str (bc n))/\(bc n).length<=180000000001:=by
 obtain⟨w,l,rfl,hw,hd,hz,sW⟩:=hv;have hl:=xi (jx hd hz (by rw[sW];exact hn)) hK
 by_cases h0:l=[]
 .subst h0;have A6:n=0:=by simp[dv] at sW;lia
  subst A6;refine⟨?_,by decide⟩;unfold ab;rw[aD h];simp only[go_sem,ya,yb,L9,aQ,hw.len,hw.pu,hw.one,aX,ye,cP,yM,show ((0:Nat):Int)=(0:Int) from rfl,yv];rfl
 .have qK:0<l.length:=tx.2 h0;obtain⟨x,hx⟩:∃x,x=l.getD (l.length-1) 0:=⟨_,rfl⟩;have e1:=zF hw (show l.length-1<l.length by lia);have gx:=jv hd (l.length-1);have gp:=last_pos hd hz qK;rw[<-hx] at e1 gx gp;obtain⟨m,rfl⟩:∃m:Nat,x=m:=⟨x.toNat,by lia⟩;have e2:=XX qC (n:=m) (by lia);have kC:dv (l.drop (l.length-1))=m:=by
   rw[yS (show l.length-1<l.length by lia),xb (by lia)]
   have:l[l.length-1]=(m:Int):=by rw[hx];simp[y9,xu (show l.length-1<l.length by lia)]
   simp[dv,this]
  have h9:(az m).length<=9:=zm (k:=8) (by lia);have fin:∀neg:Bool,bO P L (D P L) 282 [.agg [.bool neg,w]]=Gr (.str ((if neg=ydy then [45] else [])++az (dv l)))/\(az (dv l)).length<=180000000000:=fun neg=>by
   rw[aD h]
   simp only[go_sem,ya,yb,L9,aQ,hw.len,hw.pu,hw.one,aX,ye,cP,show ¬(l.length:Int)=0 by lia,show (l.length:Int)-1=((l.length-1:Nat):Int) by lia,wrapN (n:=l.length-1) (by lia),e1,e2];generalize hq:D P L (.loop _ KT) _=q;obtain⟨ex,s,rfl,tm,rfl,rfl,t1,t3,hlen⟩:=bg hq (axM (P:=P) (L:=L) qC (neg:=neg) hw hd hz (by lia) (l.length-1)) ⟨l.length-1,az m,by
    rw[show (l.length:Int)-2=((l.length-1:Nat):Int)-1 by lia,wrap64 (by lia) (by lia)]
    simp only[go_sem,ya,yb,aq]<;>rfl,rfl,by lia,by rw[kC];lia,by rw[kC],by lia⟩
   refine⟨?_,hlen⟩
   cases neg with
   | true=>
    simp only[go_sem,ya,aq,t1,t3,aX,ye,iH (a:=[45]) (b:=az (dv l)) (by simp;lia),xS]
   | false=>
    simp only[go_sem,ya,aq,t1,t3,aX,ye];rfl
  have⟨f1,f2⟩:=fin (decide (n<0));rw[sW] at f1 f2;simp only[xc] at f1;rw[pR] at f1;refine⟨f1,?_⟩;rw[<-pR]
  split<;>simp<;>lia
structure Rb(P:aF)(L:Lib):Prop where
 aCp:Has P L 262 L4
 Ds:Has P L 272 L8
 ai1:Has P L 274 Q5
 ai2:Has P L 275 Q6
 aCq:Has P L 277 Fv
 aCr:Has P L 280 qB
 ai3:Has P L 281 Q8
 R6:Has P L 282 L9
 ai4:Has P L 288 Rc
 MH:Has P L 289 AJ
 BW:Has P L 290 HI
 XY:Has P L 291 Mb
 qC:Has P L 292 BT
 mH:Has P L 293 Dp
 jg:Has P L 294 Dq
 R3:Has P L 295 Mc
 qJ:Has P L 296 AK
 ai5:Has P L 298 Re
 sr:Has P L 299 Dr
 cJ:Has P L 300 nk
 ow:Has P L 302 AL
structure Ras(P:aF)(L:Lib):Prop extends Rb P L where
 ai6:Has P L 264 L5
 aCs:Has P L 268 L7
 aCt:Has P L 271 XF
 aCu:Has P L 276 sj
 MI:Has P L 278 Q7
 aCv:Has P L 279 HH
 R4:Has P L 297 Me
structure Ra(P:aF)(L:Lib):Prop extends Ras P L where
 ai7:Has P L 267 L6
section
variable {v w:AV}{a b:List Int}
def at6{f:Int}(hv:bw v a)(hw:bw w vs){n:Nat}(la:a.length<=9000000000):
  cE P L [0,8,9,10,11] KU (fun k st=>∃us:List Int,st=⟨[(0,v),(8,.ay 0 0 1),(9,w),(10,aa n),(11,.ay 1 0 us.length)],[(1,.cells ydy ydy ydz 1 (us.map aa)),(0,.cells ydz ydy ydy 1 [aa f])],2,0⟩/\us.length+k=a.length+1/\dg us/\dv us=A) (fun ex st'=>∃tm us,st'=⟨tm,[(1,.cells ydy ydy ydz 1 (us.map aa)),(0,.cells ydz ydy ydy 1 [aa f])],2,0⟩/\ex=.exit 0/\ai tm 8=.ay 0 0 1/\ai tm 9=w/\ai tm 10=aa n/\ai tm 11=.ay 1 0 (a.length+1)/\us.length=a.length+1/\dg us/\dv us=A):=by
 apply cI;rintro k st ⟨us,rfl,hk,gu,aK⟩;have ea:((a.length:Nat):Int)+1=((a.length+1:Nat):Int):=rfl;by_cases hi:us.length<a.length+1
 .left
  simp only[go_sem,ya,yb,yq,yh,KU,hv.len,ea,wrapN (n:=a.length+1) (by lia),show ((us.length:Nat):Int)<((a.length+1:Nat):Int) by lia]
  rw[ff (ex:=ydz) (pu:=ydy) (cs:=us.map aa) rfl (by simp) (by lia) (by lia) (by decide) rfl];refine⟨_,k-1,rfl,by lia,us++[0],?_,by simp;lia,iY.2 ⟨gu,lm.2 (by decide)⟩,by rw[nL];simp[dv,aK]⟩
  rw[xB,yW];simp only[go_sem,ya,yb,aq,aC hv.pu,aC hw.pu]<;>rfl
 .right
  have hl:us.length=a.length+1:=by lia
  rw[hl]
  simp only[go_sem,ya,KU,hv.len,ea,wrapN (n:=a.length+1) (by lia),show ¬((a.length+1:Nat):Int)<((a.length+1:Nat):Int) by lia];exact⟨_,_,rfl,by simp,_,us,rfl,rfl,rfl,rfl,rfl,rfl,hl,gu,aK⟩
def afO:∀l:List Int,b9 (l.map aa)=ydy
 | []=>rfl
 | a::r=>by rw[yV,acK,afO r];rfl
def afP:∀l:List Int,aH (l.map aa)=ydy
 | []=>rfl
 | a::r=>by rw[yV,aH,afP r];rfl
def at7{e:Bool}{us:List Int}{o:Obj}(h:us.length<=100000000000):
  FE ((1,.cells ydy ydy ydy 1 [])::(0,o)::hp) ct 1 8 (.ay 1 0 0) (nP ((1,.cells ydy ydy ydy 1 [])::(0,o)::hp) 1 (.au e us.length (us.map aa)))=Gr (.ay ct 0 us.length,(ct,.cells ydy ydy ydz 1 (us.map aa))::cN ((1,.cells ydy ydy ydy 1 [])::(0,o)::hp) 1,ct+1):=by
 have h1:nP ((1,.cells ydy ydy ydy 1 [])::(0,o)::hp) 1 (.au e us.length (us.map aa))=Gr (us.length,us.map aa):=by
  simp[nP]
 rw[h1,ff (cs:=[]) (pu:=ydy) (ex:=ydy) rfl (by simp) (by lia) (by lia) (by decide) (afO us),afP,ye];rfl
def axN{l:List Int}(hd:dg l)(hn:nz l)(h:0<l.length):1000000000^(l.length-1)<=dv l:=Ql hn hd (fun e=>by subst e;simp at h)
def arA{n top f:Nat}(hf:f=1000000000/(top+1))(ht0:0<top)(ht:top<1000000000)(h1:V<1000000000^(n-1)*(top+1))(hn:0<n):0<f/\f<1000000000/\V*f<1000000000^n:=by
 have h2:f*(top+1)<=1000000000:=by rw[hf];exact Nat.div_mul_le_self _ _
 have h3:0<f:=by rw[hf];exact ydk (by lia) (by lia)
 refine⟨h3,?_,?_⟩
 .have:=y5 f (show 2<=top+1 by lia)
  lia
 .have e1:=xZ h1 h3;have e2:=y5 (1000000000^(n-1)) h2;rw[<-xp,show (n-1).succ=n by lia] at e2
  grind
def axO(h:Has P L 289 AJ)(mH:Has P L 293 Dp)(sr:Has P L 299 Dr)(cJ:Has P L 300 nk)(zM:Has P L 301 BU)(hv:bw v a)(hw:bw w b)(ha:dg a)(hb:dg b)(na:nz a)(nb:nz b)(la:a.length<=8000000000)(lb:2<=b.length)(ec:ab P L 296 [v,w] (aa (er (dv a) (dv b))))(hc:dv b<=dv a):
  ∃q r lq lr,ab P L 289 [v,w] (.av [q,r])/\bw q lq/\bw r lr/\dg lq/\nz lq/\dg lr/\nz lr/\dv lq=dv a/dv b/\dv lr=dv a%dv b:=by
 have eY:¬er (dv a) (dv b)<0:=by unfold er;rw[yp (by lia)];split<;>decide
 have aAg:=axN hb nb (by lia);have hba:b.length<=a.length:=by
  have:=lC ha
  have h1:1000000000^(b.length-1)<1000000000^a.length:=by lia
  have:=(uB (show 1<1000000000 by decide)).1 h1
  lia
 obtain⟨n,hn⟩:∃n,n=b.length:=⟨_,rfl⟩;have aCw:=jv hb (n-1);have n5:=last_pos hb nb (by lia);rw[<-hn] at n5;obtain⟨top,qF⟩:∃v:Nat,b.getD (n-1) 0=v:=⟨(b.getD (n-1) 0).toNat,by lia⟩;have ai8:=zF hw (i:=n-1) (by lia);rw[qF] at aCw n5 ai8;have hbt:=rO (l:=b) (n-1);rw[show n-1+1=n by lia,yK (by lia),qF,wY] at hbt;have aAh:=lC (EA hb (n-1));rw[yP,xo (by lia)] at aAh;obtain⟨f,hf⟩:∃f,f=1000000000/(top+1):=⟨_,rfl⟩;have⟨Ae,hfB,hfV⟩:=arA (n:=n) (V:=dv b) hf (by lia) (by lia) (by rw[xJ,yh];lia) (by lia)
 have hIf:bw (.au ydy 1 [aa f]) [(f:Int)]:=eP ydy [(f:Int)];have gf:dg [(f:Int)]:=lm.2 (by lia);have vf:dv [(f:Int)]=f:=by simp[dv]
 have⟨v',vs,e1,cl,hsv,Gc,NB,Bg⟩:=Yu mH cJ hw hIf hb gf (by lia) (by simp);have⟨u',Ed,e2,kG,F9,IB,nus,NO⟩:=Yu mH cJ hv hIf ha gf (by lia) (by simp);rw[vf] at Bg NO;have z7:0<dv b:=by have:=ycl (n:=b.length-1) (show 0<1000000000 by decide);lia
 have Co:vs.length=n:=by
  have h1:vs.length<=n:=jx Gc NB (by rw[Bg];exact hfV)
  have h2:dv b<=dv vs:=by rw[Bg];exact tD _ Ae
  have h3:=lC Gc;have h4:1000000000^(n-1)<1000000000^vs.length:=by rw[hn];lia
  have:=(uB (show 1<1000000000 by decide)).1 h4
  lia
 have SX:Ed.length<=a.length+1:=by
  refine jx IB nus ?_;rw[NO,xp];exact yax (lC ha) hfB
 have ai9:0<Ed.length:=by
  rcases xj Ed.length with e | e
  .have h1:0<dv a*f:=wV (by lia) Ae;rw[yD e] at NO;simp only[dv] at NO;lia
  .exact e
 have fB:0<vs.getD (n-1) 0:=by
  have:=last_pos Gc NB (by lia)
  rwa[Co] at this
 obtain⟨m,hm⟩:∃m,m=a.length+1-n:=⟨_,rfl⟩;have cx:∀ct:Nat,zJ ct 1 8 [.int .i64 0] (Gr m) (Gr m)=Gr (.ay ct 0 m,.cells ydy ydy ydy 1 ((yk m (0:Int)).map aa)):=fun ct=>by
  rw[EY (sz:=1) (by lia) (by lia) (by rfl) (by rfl),T9];rfl
 obtain⟨e,rfl⟩:∃e,u'=.au e Ed.length (Ed.map aa):=by
  rcases kG with ⟨rfl,h0⟩ | ⟨e,rfl⟩
  .rw [List.map_eq_nil_iff] at h0;rw[h0] at ai9;simp at ai9
  .exact ⟨e,by rw[yU]⟩
 have WW:∀us:List Int,us.length=a.length+1->dv us=dv a*f->dv (us.drop m)<dv vs:=fun us hl hd=>by
  have e1:=U3 us m (by lia);have e2:=lC ha;have e3:=xZ e2 Ae;have e4:1000000000^a.length=1000000000^m*1000000000^(n-1):=by rw[<-xF];congr 1;lia
  rw[<-hd,e4,xk] at e3;have e5:1000000000^m*dv (us.drop m)<1000000000^m*(1000000000^(n-1)*f):=by lia
  refine yI (Nat.lt_of_mul_lt_mul_left e5) ?_;rw[Bg,hn];exact yX _ aAg
 have jY:∃us qs,(us.length=a.length+1/\qs.length=m/\dg us/\dg qs/\dv us+dv qs*dv vs=dv a*f/\dv us<dv vs)/\
   ∃q1 r1 lr,bw q1 (eF qs)/\bw r1 lr/\dg lr/\nz lr/\dv lr=dv (us.take n)/f/\ab P L 289 [v,w] (.av [q1,r1]):=by
  unfold ab at ec e1 e2;unfold ab;rw[aD h];have My:IntKind.wrap .i64 ((1000000000:Int).tdiv ((top+1:Nat):Int))=(f:Int):=by
   rw[xV (by decide),show (1000000000:Int)/((top+1:Nat):Int)=((1000000000/(top+1):Nat):Int) from rfl,<-hf,wrap64 (by lia) (by lia)]
  simp only[go_sem,ya,yb,yG,yq,yh,AJ,hv.ah,hw.len,hw.ah,ec,eY,show ¬(n:Int)=1 by lia,<-hn,show (n:Int)-1=((n-1:Nat):Int) by lia,wrapN (n:=n-1) (by lia),ai8,show ((top:Nat):Int)+1=((top+1:Nat):Int) from rfl,wrapN (n:=top+1) (by lia),eO _ _ _ (show ((top+1:Nat):Int)≠0 by lia),My,e1,hsv,cl.len,Co,e2,F9,at7 (us:=Ed) (e:=e) (by lia)];generalize Ch:D P L (.loop _ KU) _=q0;obtain⟨ex,st,rfl,tm,us,rfl,rfl,t8,t9,t10,t11,lu,gu,vu⟩:=bg Ch (at6 (P:=P) (L:=L) (f:=(f:Int)) (n:=n) (A:=dv a*f) hv cl (by lia) (a.length+1-Ed.length)) ⟨Ed,by
   simp only[go_sem,ya,yb,aq,aC hv.pu,aC cl.pu]<;>rfl,by lia,IB,NO⟩
  have em:((a.length+1:Nat):Int)-(n:Int)=(m:Int):=by lia
  have em1:(m:Int)-1=((m-1:Nat):Int):=by lia
  simp only[go_sem,ya,yb,aq,aC cl.pu,t8,t9,t10,t11,em,wrapN (n:=m) (by lia),cx,em1,wrapN (n:=m-1) (by lia)];generalize gK:D P L (.loop _ KW) _=q1;obtain⟨ex,st,rfl,qS,Ee,qs,rfl,rfl,t8,t10,t11,t12,lu1,NE,gu1,gq1,aK,aG⟩:=bg gK (at5 (P:=P) (L:=L) zM (f:=(f:Int)) cl Gc Co (by lia) (show n<a.length+1 by lia) (by lia) (by lia) fB (U0:=dv a*f) m) ⟨m,us,yk m 0,by
   rw[show ((m-1:Nat):Int)=(m:Int)-1 by lia]
   simp only[go_sem,ya,yb,aq,aC cl.pu]<;>rfl,rfl,yx _,lu,by simp,gu,adD m,fun i _=>ab1 m i,by rw[adC,wz,y7,vu],WW us lu vu⟩
  have pn:∀(hp:Hp) tm (y:X),ak hp 1=Gr (.cells ydy ydy ydz 1 (Ee.map aa))->c6 tm (a.length+1) (Gr y)=Gr n->fY hp (.sl 1) (.ay 1 0 (a.length+1)) tm none (Gr y)=Gr (.ay 1 0 n):=fun hp tm y h1 h2=>adR h1 h2 (by lia) (by lia)
  obtain⟨e',ND⟩:∃e',∀hp:Hp,mG 0 n (Gr (ydz,1,Ee.map aa,hp))=Gr (.au e' n ((Ee.take n).map aa),hp):=by
   refine⟨ydz&&yQ 0 1&&yt n (Ee.map aa).length,fun hp=>?_⟩;simp only[mG,ye,yh,slice,yg,<-List.map_take];rw[yz (by simp;lia)]
   rfl
  have ltk:(Ee.take n).length=n:=by rw[yP];lia
  have eh:=eP e' (Ee.take n);rw[ltk] at eh;have⟨r0,f1,iV,aCx⟩:=Dt cJ eh (by lia);have⟨r1,lr,f2,dS,aHY,aAi,dr,nr,vr⟩:=aiX sr cJ iV (CK (EA gu1 n)) (by have:=OJ (Ee.take n);lia) Ae hfB
  have NC:=eP ydy qs;rw[NE] at NC;have⟨q1,f3,gK,aCy⟩:=Dt cJ NC (by lia);rw[Br] at vr;unfold ab at f1 f2 f3;refine⟨Ee,qs,⟨lu1,NE,gu1,gq1,aK,aG⟩,q1,r1,lr,gK,dS,dr,nr,vr,?_⟩;have oF:jb 1 0 (AV.ay 0 0 1)=Gr (.ptr 0 0):=dc 0 0 (show 0<1 by lia)
  simp only[go_sem,ya,yb,aq,t8,t10,t11,t12,pn,eE,ND,f1,aCx,iV.ah,oF,f2,aAi,fun hp=>gD (hp:=hp) (k:=m) (sz:=1) (cs:=qs.map aa) ydy (by simp[NE]) (by decide),f3,aCy];rcases gK with ⟨rfl,_⟩ | ⟨_,rfl⟩<;>rcases dS with ⟨rfl,_⟩ | ⟨_,rfl⟩<;>rfl
 have⟨us,qs,⟨lu,lq,gu,gq,aK,aG⟩,q1,r1,lr,gK,dS,dr,nr,vr,e⟩:=jY;rw[Bg] at aK aG;have My:dv qs=dv a/dv b:=by
  rw[<-Nat.mul_div_mul_right _ _ Ae,<-aK,vU,xg,tA (wV z7 Ae),xU aG,y7]
 have SZ:dv us=(dv a%dv b)*f:=by
  rw[<-Nat.mul_mod_mul_right,<-aK,vU,xg (dv qs),yal,yR aG]
 have lY:=U3 us n (by lia);have ij:dv (us.drop n)=0:=by
  rcases xj (dv (us.drop n)) with h0 | h0
  .exact h0
  .have:=y5 (1000000000^n) h0
   lia
 rw[ij,xI,y7] at lY;rw[<-lY,SZ,tk _ Ae] at vr;exact⟨q1,r1,_,lr,e,gK,dS,CK gq,GL _,dr,nr,by rw[Br,My],vr⟩
def ahu(h:Has P L 289 AJ)(mH:Has P L 293 Dp)(qJ:Has P L 296 AK)(sr:Has P L 299 Dr)(cJ:Has P L 300 nk)(zM:Has P L 301 BU)(hv:bw v a)(hw:bw w b)(ha:dg a)(hb:dg b)(na:nz a)(nb:nz b)(la:a.length<=8000000000)(lb:b.length<=8000000000)(h0:0<dv b):
  ∃q r lq lr,ab P L 289 [v,w] (.av [q,r])/\bw q lq/\bw r lr/\dg lq/\nz lq/\dg lr/\nz lr/\dv lq=dv a/dv b/\dv lr=dv a%dv b:=by
 by_cases hl:b.length<=1
 .exact aCj h qJ sr cJ hv hw ha hb na nb (by lia) hl h0
 have ec:=Yt qJ hv hw ha hb na nb (by lia) (by lia);by_cases hc:dv a<dv b
 .unfold ab at ec;have eY:er (dv a) (dv b)= -1:=by unfold er;rw[yE hc]
  rw[eY] at ec;refine⟨.aj,v,[],a,?_,Aq,hv,rfl,rfl,ha,na,?_,?_⟩
  .unfold ab;rw[aD h];simp only[go_sem,ya,AJ,hv.ah,hw.ah,ec,show (-1:Int)<0 by decide];rcases hv with ⟨rfl,_⟩ | ⟨e,rfl⟩<;>rfl
  .rw [xU hc];rfl
  .rw [yR hc]
 .exact axO h mH sr cJ zM hv hw ha hb na nb la (by lia) ec (by lia)
def ahv(h:Has P L 275 Q6)(MH:Has P L 289 AJ)(mH:Has P L 293 Dp)(qJ:Has P L 296 AK)(sr:Has P L 299 Dr)(cJ:Has P L 300 nk)(zM:Has P L 301 BU)(hv:bw v a)(hw:bw w b)(ha:dg a)(hb:dg b)(na:nz a)(nb:nz b)(la:a.length<=8000000000)(lb:b.length<=8000000000):
  ∃r l,ab P L 275 [v,w] r/\bw r l/\dg l/\nz l/\dv l=wU (dv a) (dv b):=by
 have key:=fK P L [0,1] KS
  (fun k st=>∃x y lx ly,st=⟨[(0,x),(1,y)],[],0,0⟩/\bw x lx/\bw y ly/\dg lx/\nz lx/\dg ly/\nz ly/\lx.length<=8000000000/\ly.length<=8000000000/\dv ly=k/\wU (dv lx) (dv ly)=wU (dv a) (dv b))
  (fun ex st=>∃tm ct,st=⟨tm,[],ct,0⟩/\ex=.exit 0/\∃x lx,ai tm 0=x/\bw x lx/\dg lx/\nz lx/\dv lx=wU (dv a) (dv b)) ?_
 .unfold ab;rw[aD h];simp only[go_sem,Q6];generalize hq:D P L (.loop _ KS) _=q;obtain⟨ex,st,rfl,tm,ct,rfl,rfl,x,lx,h2,hx,dx,nx,vx⟩:=bg hq (key (dv b)) ⟨v,w,a,b,by simp only[go_sem,ya,aq,aC hv.pu,aC hw.pu]<;>rfl,hv,hw,ha,na,hb,nb,la,lb,rfl,rfl⟩
  refine⟨x,lx,?_,hx,dx,nx,vx⟩;simp only[go_sem,aq,h2,hx.c9,aC hx.pu]
 .rintro k st ⟨x,y,lx,ly,rfl,hx,hy,dx,nx,dy,ny,llx,lly,rfl,hg⟩;by_cases h0:ly=[]
  .right
   subst h0;simp only[go_sem,ya,KS,hy.len,yM,show ¬(0:Int)<((0:Nat):Int) by lia];refine⟨_,_,rfl,by simp,_,_,rfl,rfl,x,lx,rfl,hx,dx,nx,?_⟩;rw[<-hg];simp[dv]
  .left
   have hp:0<dv ly:=by
    rcases xj (dv ly) with e | e
    .exact absurd (Vp ny dy e) h0
    .exact e
   have hl:0<ly.length:=tx.2 h0;have⟨q,r,lq,lr,e1,hq,hr,dq,nq,dr,nr,vq,vr⟩:=ahu MH mH qJ sr cJ zM hx hy dx dy nx ny llx lly hp;have aG:dv lr<dv ly:=by rw[vr];exact xE _ hp
   have hB:=lC dy;simp only[go_sem,ya,KS,hx.ah,hy.len,hy.ah,show (0:Int)<ly.length by lia,e1,hq.bH,hr.bH];refine⟨_,dv lr,rfl,aG,y,r,ly,lr,?_,hy,hr,dy,ny,dr,nr,by lia,xi (jx dr nr (vG aG hB)) lly,rfl,?_⟩
   .simp only [go_sem,ya,aq,aC hy.pu,aC hr.pu]<;>rfl
   .rw [<-hg,vr,yai (dv ly),<-Nat.gcd_rec,yai]
end
def axP(BW:Has P L 290 HI){neg:Bool}(hN:(az N).length<=180000000000):
  cE P L [0,2,3,4] BA (fun k s=>∃(i m:Nat) (out:List Int),m=k/\out.length=i/\dg out/\dv out+1000000000^i*m=N/\(az m).length+9*i<=180000000000/\
    ((i=0/\s=⟨[(0,.str (az m)),(2,.ptr 0 0),(3,.bool neg),(4,.aj)],[(0,.cells ydy ydy ydy 2 [.bool ydz,.aj])],1,0⟩)\/
    (0<i/\s=⟨[(0,.str (az m)),(2,.ptr 0 0),(3,.bool neg),(4,.ay 1 0 i)],[(1,.cells ydy ydy ydz 1 (out.map aa)),(0,.cells ydy ydy ydy 2 [.bool ydz,.aj])],2,0⟩))) (fun ex s'=>∃tm i m out,ex=.exit 0/\m<1000000000/\out.length=i/\dg out/\dv out+1000000000^i*m=N/\i<20000000000/\ai tm 0=.str (az m)/\ai tm 2=.ptr 0 0/\ai tm 3=.bool neg/\
    ((i=0/\ai tm 4=.aj/\s'=⟨tm,[(0,.cells ydy ydy ydy 2 [.bool ydz,.aj])],1,0⟩)\/(0<i/\ai tm 4=.ay 1 0 i/\s'=⟨tm,[(1,.cells ydy ydy ydz 1 (out.map aa)),(0,.cells ydy ydy ydy 2 [.bool ydz,.aj])],2,0⟩))):=by
 apply cI;rintro k s ⟨i,m,out,rfl,hlen,hd,aK,hl,hs⟩;by_cases hm:1000000000<=m
 .left
  obtain⟨q,hq⟩:∃q,q=m/1000000000:=⟨_,rfl⟩;obtain⟨r,hr⟩:∃r,r=m%1000000000:=⟨_,rfl⟩;have pn:=are hm;rw[<-hq,<-hr] at pn;have dR:=UZ 9 r;have hqp:=Bs q;have hlm:(az m).length=(az q).length+9:=by rw[pn,yW,dR]
  have c1:jz (az m) (Gr (az q).length) (Gr (az m).length)=Gr (.str (jN 9 r)):=by
   rw[mV (by lia) (yx _),xR,pn,yaJ]
  have c2:jz (az m) (Gr 0) (Gr (az q).length)=Gr (.str (az q)):=by
   rw[mV (by lia) (by lia),yg,pn,tV]
  have e1:=Mt BW (s:=jN 9 r) (v:=r) (by lia) (by rw[adN 9 r 0 (by lia)];simp)
  unfold ab at e1;have zL:dg (out++[(r:Int)]):=iY.2 ⟨hd,lm.2 (by lia)⟩;have Qx:dv (out++[(r:Int)])+1000000000^(i+1)*q=N:=by
   rw[nL,hlen,<-aK,xp];have e:=uF m 1000000000;rw[<-hr,<-hq] at e;rw[<-e];simp only[dv,wY,xI,y7,xJ,xk]
   lia
  have QI:((az m).length:Int)-9=((az q).length:Int):=by lia
  rcases hs with ⟨h0,rfl⟩ | ⟨h0,rfl⟩
  .subst h0;have jZ:out=[]:=yD hlen;subst jZ
   simp only[go_sem,ya,yb,xv,yG,yq,yh,BA,show (9:Int)<((az m).length:Int) by lia,QI,wrapN (n:=(az q).length) (by lia),fG,fV,eE,c1,c2,e1,gL];refine⟨_,q,rfl,by lia,1,q,[]++[(r:Int)],rfl,rfl,zL,Qx,by lia,.inr ⟨by lia,?_⟩⟩;rfl
  .simp only [go_sem,ya,yb,yq,yh,BA,show (9:Int)<((az m).length:Int) by lia,QI,wrapN (n:=(az q).length) (by lia),fG,fV,eE,c1,e1]
   rw[ff (ex:=ydz) (pu:=ydy) (cs:=out.map aa) rfl (by rw[yU,hlen,yh]) (by lia) (by lia) (by decide) rfl]
   simp only[go_sem,ya,yb,fG,fV,eE,QI,wrapN (n:=(az q).length) (by lia),c2];refine⟨_,q,rfl,by lia,i+1,q,out++[(r:Int)],rfl,by simp[hlen],zL,Qx,by lia,.inr ⟨by lia,?_⟩⟩;rw[xB];simp only[go_sem,ya,yb,aq]<;>rfl
 .right
  have h9:(az m).length<=9:=zm (k:=8) (by lia);have hp0:=Bs m;rcases hs with ⟨h0,rfl⟩ | ⟨h0,rfl⟩
  .simp only [go_sem,BA,show ¬(9:Int)<((az m).length:Int) by lia];exact⟨_,_,rfl,by simp,_,i,m,out,rfl,by lia,hlen,hd,aK,by lia,rfl,rfl,rfl,.inl ⟨h0,rfl,rfl⟩⟩
  .simp only [go_sem,BA,show ¬(9:Int)<((az m).length:Int) by lia];exact⟨_,_,rfl,by simp,_,i,m,out,rfl,by lia,hlen,hd,aK,by lia,rfl,rfl,rfl,.inr ⟨h0,rfl,rfl⟩⟩
def Yw(h:Rb P L){n:Int}(hn:(az n.natAbs).length<=180000000000):∃r,ab P L 288 [.str (bc n)] r/\jQ r n:=by
 obtain⟨u,hu⟩:∃u,u=az n.natAbs:=⟨_,rfl⟩;have⟨b,t,hb,kj,js⟩:=GB n.natAbs;have hs:bc n=(if n<0 then [45] else [])++u:=by rw[hu,pR]
 have DY:0<u.length:=by rw[hu];exact Bs _
 have zZ:u[0]=b:=by
  have:u=b::t:=by rw[hu,hb]
  simp[this]
 have key:∀(s:St),bB [0,2,3,4] s=⟨[(0,.str u),(2,.ptr 0 0),(3,.bool (decide (n<0))),(4,.aj)],[(0,.cells ydy ydy ydy 2 [.bool ydz,.aj])],1,0⟩->
   ∃ex s',D P L (.loop [0,2,3,4] BA) s=Gr (ex,s')/\∃tm i m out,ex=.exit 0/\m<1000000000/\out.length=i/\dg out/\dv out+1000000000^i*m=n.natAbs/\i<20000000000/\ai tm 0=.str (az m)/\ai tm 2=.ptr 0 0/\ai tm 3=.bool (decide (n<0))/\
    ((i=0/\ai tm 4=.aj/\s'=⟨tm,[(0,.cells ydy ydy ydy 2 [.bool ydz,.aj])],1,0⟩)\/(0<i/\ai tm 4=.ay 1 0 i/\s'=⟨tm,[(1,.cells ydy ydy ydz 1 (out.map aa)),(0,.cells ydy ydy ydy 2 [.bool ydz,.aj])],2,0⟩)):=fun s hc=>
  axP (P:=P) (L:=L) h.BW (neg:=decide (n<0)) hn n.natAbs s ⟨0,n.natAbs,[],rfl,rfl,rfl,by simp[dv],by lia,.inl ⟨rfl,by rw[hc,hu]⟩⟩
 have fin:∀(i m:Nat) (out:List Int),m<1000000000->out.length=i->dg out->dv out+1000000000^i*m=n.natAbs->i<20000000000->∃w l,bO P L (D P L) 294 [.bool (decide (n<0)),.au ydz (i+1) ((out++[(m:Int)]).map aa)]=Gr (.agg [.bool (decide (n<0)),w])/\bw w l/\dg l/\nz l/\dv l=n.natAbs:=fun i m out h1 h2 h3 h4 h5=>by
  have hv:=eP ydz (out++[(m:Int)]);have hd:dg (out++[(m:Int)]):=iY.2 ⟨h3,lm.2 (by lia)⟩;have aK:dv (out++[(m:Int)])=n.natAbs:=by rw[nL,h2];simp[dv];exact h4
  have⟨r,e,hr⟩:=qG h.jg h.cJ (decide (n<0)) hv hd (by simp;lia)
  have nE:cm (decide (n<0)) (dv (out++[(m:Int)]))=n:=by
   rw[aK];unfold cm;by_cases h0:n<0
   .simp only [h0,yv,xS];lia
   .simp only [h0,yu,yH,xz];lia
  rw[nE] at hr;obtain⟨w,l,rfl,hw,jC,lL,cU⟩:=hr;simp only[yW,List.length_singleton,h2] at e;exact⟨w,l,e,hw,jC,lL,cU⟩
 unfold ab;rw[hs];by_cases h0:n<0
 .rw [yE h0,aD h.ai4];have kw:jz (45::u) (Gr 1) (Gr (u.length+1))=Gr (.str u):=by rw[mV (s:=45::u) (l:=1) (h:=u.length+1) (by lia) (by simp)];simp
  simp only[h0,yv] at key fin ⊢;simp only[go_sem,ya,yb,Rc,aQ,show (0:Int)<((u.length+1:Nat):Int) by lia,xe,xt,FF,yv,fG,fV,eE,kw];generalize hq:D P L (.loop _ BA) _=q;obtain⟨ex,s,rfl,tm,i,m,out,rfl,hm,hlen,hd,aK,hi,t0,t2,t3,Fe⟩:=bg hq key (by simp only[go_sem,ya,yb,aq]<;>rfl)
  have e1:=Mt h.BW (s:=az m) (v:=m) (by have:=zm (k:=8) (n:=m) (by lia);lia) (Bp m)
  have da:i<20000000000:=hi;have⟨w,l,e2,hw,jC,lL,cU⟩:=fin i m out hm hlen hd aK da;refine⟨_,?_,w,l,rfl,hw,jC,lL,cU⟩;unfold ab at e1;rcases Fe with ⟨sY,t4,rfl⟩ | ⟨sY,t4,rfl⟩
  .subst sY;have jZ:out=[]:=yD hlen;subst jZ;have eh:∀hp:Hp,mG 0 1 (Gr (ydz,1,[AV.int .i64 (m:Int)],hp))=Gr (.au ydz 1 [AV.int .i64 (m:Int)],hp):=fun hp=>rfl
   simp only[xt,yV,wJ,ye] at e2;simp only[go_sem,ya,yb,xv,yG,yq,yh,aq,t0,t2,t3,t4,e1,gL,eh,e2,bh,hw.pu,hw.one,fk];rcases hw with ⟨rfl,_⟩ | ⟨e,rfl⟩<;>simp only[h0,yv]<;>rfl
  .simp only [go_sem,ya,yb,yq,yh,aq,t0,t2,t3,t4,e1]
   rw[ff (ex:=ydz) (pu:=ydy) (cs:=out.map aa) rfl (by rw[yU,hlen,yh]) (by lia) (by lia) (by decide) rfl];have eh:∀hp:Hp,mG 0 (i+1) (Gr (ydz,1,out.map aa++[AV.int .i64 (m:Int)],hp))=Gr (.au ydz (i+1) (out.map aa++[AV.int .i64 (m:Int)]),hp):=fun hp=>gD ydz (by simp[hlen]) (by decide)
   simp only[xB,yV,wJ] at e2;simp only[go_sem,ya,yb,eh,e2,bh,hw.pu,hw.one,fk,uk];rcases hw with ⟨rfl,_⟩ | ⟨e,rfl⟩<;>simp only[h0,yv]<;>rfl
 .rw [yp h0,aD h.ai4,xt];simp only[h0,yu] at key fin ⊢;simp only[go_sem,ya,yb,Rc,aQ,show (0:Int)<(u.length:Int) by lia,zq DY,zZ,show ¬((b:Nat):Int)=45 by lia];generalize hq:D P L (.loop _ BA) _=q;obtain⟨ex,s,rfl,tm,i,m,out,rfl,hm,hlen,hd,aK,hi,t0,t2,t3,Fe⟩:=bg hq key (by simp only[go_sem,ya,yb,aq]<;>rfl)
  have e1:=Mt h.BW (s:=az m) (v:=m) (by have:=zm (k:=8) (n:=m) (by lia);lia) (Bp m)
  have da:i<20000000000:=hi;have⟨w,l,e2,hw,jC,lL,cU⟩:=fin i m out hm hlen hd aK da;refine⟨_,?_,w,l,rfl,hw,jC,lL,cU⟩;rcases Fe with ⟨sY,t4,rfl⟩ | ⟨sY,t4,rfl⟩
  .subst sY;have jZ:out=[]:=yD hlen;subst jZ;have eh:∀hp:Hp,mG 0 1 (Gr (ydz,1,[AV.int .i64 (m:Int)],hp))=Gr (.au ydz 1 [AV.int .i64 (m:Int)],hp):=fun hp=>rfl
   simp only[xt,yV,wJ,ye] at e2;simp only[go_sem,ya,yb,xv,yG,yq,yh,aq,t0,t2,t3,t4,e1,gL,eh,e2,bh,hw.pu,hw.one,fk];rcases hw with ⟨rfl,_⟩ | ⟨e,rfl⟩<;>simp only[h0,yu]<;>rfl
  .simp only [go_sem,ya,yb,yq,yh,aq,t0,t2,t3,t4,e1]
   rw[ff (ex:=ydz) (pu:=ydy) (cs:=out.map aa) rfl (by rw[yU,hlen,yh]) (by lia) (by lia) (by decide) rfl];have eh:∀hp:Hp,mG 0 (i+1) (Gr (ydz,1,out.map aa++[AV.int .i64 (m:Int)],hp))=Gr (.au ydz (i+1) (out.map aa++[AV.int .i64 (m:Int)]),hp):=fun hp=>gD ydz (by simp[hlen]) (by decide)
   simp only[xB,yV,wJ] at e2;simp only[go_sem,ya,yb,eh,e2,bh,hw.pu,hw.one,fk,uk];rcases hw with ⟨rfl,_⟩ | ⟨e,rfl⟩<;>simp only[h0,yu]<;>rfl
def Of(n:Int)(r:List Nat):bS (bc n++r)=(bc n).length+bS r:=by
 rw[<-pR]
 split
 .simp only [xe,xt,bS,yB];rw[yp (by decide),JN r (CH _)]
  lia
 .rw [xt];exact JN r (CH _)
def U4:∀{a b:List Nat},db a b=ydy->a=b
 | [],[],_=>rfl
 | [],_::_,h=>by simp[db] at h
 | _::_,[],h=>by simp[db] at h
 | x::a,y::b,h=>by
  simp only[db,yf] at h;rw[yi h.1,U4 h.2]
def ahw{n:Int}(h:n≠0):db (TT n d) [48]=ydz:=by
 cases hb:db (TT n d) [48] with
 | false=>rfl
 | true=>
  have e:=U4 hb;unfold TT at e;by_cases h0:n<0
  .rw [oO h0] at e;simp at e
  .obtain ⟨m,rfl⟩:∃m:Nat,n=m:=⟨n.toNat,by lia⟩;rw[mz] at e;have⟨b,r,bE,_,_⟩:=GB m;rw[bE] at e;simp only[xe,uG,List.append_eq_nil_iff] at e;have hv:=Bp m;rw[bE,e.1,e.2.1] at hv
   have:(Gr 0:Option Nat)=Gr m:=hv
   grind
def axQ(h:Rb P L):∃r,ab P L 281 [aa 1] r/\jQ r 1:=by
 have⟨r,e,hr⟩:=qG h.jg h.cJ ydz (eP ydz [(1:Int)]) (by decide) (by decide);obtain⟨w,l,rfl,hw,hd,hz,hv⟩:=hr;refine⟨_,?_,w,l,rfl,hw,hd,hz,hv⟩;simp only[yV,wJ,yB,yM,ye] at e;have eh:∀hp:Hp,mG 0 1 (Gr (ydz,1,[AV.int .i64 1],hp))=Gr (.au ydz 1 [AV.int .i64 1],hp):=fun hp=>rfl
 unfold ab at e ⊢;rw[aD h.ai3];simp only[go_sem,ya,yb,xv,yG,yq,yh,Q8,aQ,Int.reduceLT,yu,Hi,aq,Aw,Int.reduceEq,yY,yO,yv,eU _ _ _ (show (1000000000:Int)≠0 by decide),eO _ _ _ (show (1000000000:Int)≠0 by decide),show Int.tmod 1 1000000000=1 from rfl,show Int.tdiv 1 1000000000=0 from rfl,show IntKind.wrap .i64 0=0 from rfl,gL,eh,e,hw.pu,hw.one,bh,fk];rcases hw with ⟨rfl,_⟩ | ⟨e,rfl⟩<;>rfl
def aja(h:Rb P L){n:Int}(hn:(az n.natAbs).length<=144000000000)(hd:(az d).length<=144000000000):
  ∃x y,ab P L 274 [.str (TT n d)] (.av [x,y])/\jQ x n/\jQ y d:=by
 have⟨x,e1,hx⟩:=Yw h (n:=n) (by lia);have hli:(bc n).length<=(az n.natAbs).length+1:=by rw[<-pR];split<;>simp
 by_cases h1:d=1
 .subst h1;have⟨y,e2,hy⟩:=axQ h;have hT:TT n 1=bc n:=by unfold TT;simp
  have hs:=Of n [];rw[wu] at hs;have e3:=HQ h.Ds (s:=bc n) (by lia);rw[hs] at e3;refine⟨x,y,?_,hx,hy⟩;obtain⟨xw,xl,rfl,de,_,_,_⟩:=hx;obtain⟨yw,yl,rfl,ej,_,_,_⟩:=hy;rw[hT];unfold ab at e1 e2 e3 ⊢;rw[aD h.ai1];simp only[go_sem,ya,yb,Q5,aQ,e3,bS,y7,yv,e1,e2,bh,de.pu,de.one,ej.pu,ej.one,fk];rcases de with ⟨rfl,_⟩ | ⟨e,rfl⟩<;>rcases ej with ⟨rfl,_⟩ | ⟨e',rfl⟩<;>rfl
 .have ⟨y,e2,hy⟩:=Yw h (n:=(d:Int)) (by simp;lia)
  rw[mz] at e2;obtain⟨s,D6⟩:∃s,s=TT n d:=⟨_,rfl⟩;have hT:s=bc n++47::az d:=by rw[D6];unfold TT;rw[yp h1]
  have hs:bS s=(bc n).length:=by rw[hT,Of];rfl
  have hlen:s.length=(bc n).length+(az d).length+1:=by rw[hT];simp;lia
  have e3:=HQ h.Ds (s:=s) (by lia);rw[hs] at e3;have c1:jz s (Gr 0) (Gr (bc n).length)=Gr (.str (bc n)):=by
   rw[mV (by lia) (by lia),yg,hT,tV]
  have c2:jz s (Gr ((bc n).length+1)) (Gr s.length)=Gr (.str (az d)):=by
   rw[mV (by lia) (yx _),xR,hT,show bc n++47::az d=(bc n++[47])++az d by simp,show (bc n).length+1=(bc n++[47]).length by simp,yaJ]
  refine⟨x,y,?_,hx,hy⟩;obtain⟨xw,xl,rfl,de,_,_,_⟩:=hx;obtain⟨yw,yl,rfl,ej,_,_,_⟩:=hy;rw[<-D6];unfold ab at e1 e2 e3 ⊢;rw[aD h.ai1]
  simp only[go_sem,ya,yb,Q5,aQ,e3,show ¬((bc n).length:Int)=(s.length:Int) by lia,fG,fV,eE,c1,wrapN (n:=(bc n).length+1) (by lia),show ((bc n).length:Int)+1=(((bc n).length+1:Nat):Int) from rfl,c2,e1,e2,bh,de.pu,de.one,ej.pu,ej.one,fk];rcases de with ⟨rfl,_⟩ | ⟨e,rfl⟩<;>rcases ej with ⟨rfl,_⟩ | ⟨e',rfl⟩<;>rfl
section
variable {d n:Int}{a b:List Int}
def P1{d:Nat}(h:n<0):TT n d=45::TT (-n) d:=by
 have e:bc (-n)=az n.natAbs:=by
  rw[<-pR,yp (show ¬-n<0 by lia),xt,show (-n).natAbs=n.natAbs by lia]
 unfold TT;rw[oO h,e];rfl
def aua{d:Nat}(h:¬n<0):∃b u,TT n d=b::u/\48<=b:=by
 have⟨b,r,hb,h1,_⟩:=GB n.natAbs;refine⟨b,r++(if d=1 then [] else 47::az d),?_,h1⟩;unfold TT;rw[<-pR,yp h,xt,hb];rfl
def E0(a b:AV)(r:List AV):jj 2 ydy (a::b::r)=Gr (.agg [a,b]):=rfl
def aub(k:Nat):2^k<=1000000000^k:=um (by decide) k
def Bd.r{k:Nat}{z:Int}(h:Bd k z):z.natAbs<1000000000^k:=yI h (aub k)
def LK(r:Rat):RT r=TT r.num r.den:=rfl
def ae1(hd:0<d):RT (wW n d)=sn n d:=by
 have⟨h1,h2⟩:=Tv (a:=n) hd;rw[atK hd,LK,h1]
 congr 1
 exact yay (show ((wW n d).den:Int)=((dP n d).toNat:Int) by rw[h2];have:=Kf (a:=n) hd;unfold dP at this ⊢;lia)
structure Rm(P:aF)(L:Lib):Prop extends Rb P L where
 aCz:Has P L 263 dF
 R7:Has P L 273 Fu
 aCA:Has P L 285 Q9
 HV:Has P L 287 Ma
 zM:Has P L 301 BU
structure Rp(P:aF)(L:Lib):Prop extends Ras P L,Rm P L
structure Rn(P:aF)(L:Lib):Prop extends Ra P L,Rp P L
structure Rx0(P:aF)(L:Lib):Prop extends Rn P L where
 Yx:Has P L 266 Q4
 B1:Has P L 283 Fw
def WZ(h:Rm P L){w:AV}(hv:bw v a)(hw:bw w b)(ha:dg a)(hb:dg b)(na:nz a)(nb:nz b)(la:a.length<=8000000000)(lb:b.length<=8000000000)(h0:0<dv b):
  ∃q r lq lr,ab P L 289 [v,w] (.av [q,r])/\bw q lq/\bw r lr/\dg lq/\nz lq/\dg lr/\nz lr/\dv lq=dv a/dv b/\dv lr=dv a%dv b:=
 ahu h.MH h.mH h.qJ h.sr h.cJ h.zM hv hw ha hb na nb la lb h0
def axR(h:Rm P L){x y:AV}(hK:K<=8000000000)(hx:bw x a)(ha:dg a)(na:nz a)(va:dv a=n.natAbs)(hy:bw y b)(hb:dg b)(nb:nz b)(vb:dv b=d.natAbs)(kn:Bd K n)(kd:Bd K d)(hd:0<d)(t2:ai tm 2=.ptr 0 0)(t3:ai tm 3=.ptr 1 0):
  et [.t 4] (D P L (aA (aA qB.body)) ⟨tm,[(1,.cells ydy ydy ydy 2 [.bool (decide (d<0)),y]),(0,.cells ydy ydy ydy 2 [.bool (decide (n<0)),x])],2,0⟩)=Gr (.str (RT (wW n d))):=by
 rw[ae1 hd];have la:=xi (jx ha na (by rw[va];exact kn.r)) hK
 have lb:=xi (jx hb nb (by rw[vb];exact kd.r)) hK
 have⟨g,lg,e1,hg,dg',ng,vg⟩:=ahv h.ai2 h.MH h.mH h.qJ h.sr h.cJ h.zM hx hy ha hb na nb la lb;rw[va,vb,show wU n.natAbs d.natAbs=vA n d from rfl] at vg;have M7:=Py (a:=n) hd;have aCB:vA n d<=d.natAbs:=Int.gcd_le_natAbs_right n (by lia);have lg1:lg.length<=8000000000:=xi (jx dg' ng (by rw[vg];exact xQ aCB kd.r)) hK
 have⟨p,p',lp,lp',e2,hp,ap,dp,np,dp',np',vp,vp'⟩:=WZ h hx hg ha dg' na ng la lg1 (by lia);have⟨q,q',lq,lq',e3,hq,bI,dq,nq,dq',nq',vq,vq'⟩:=WZ h hy hg hb dg' nb ng lb lg1 (by lia);rw[va,vg] at vp;rw[vb,vg] at vq;have hrn:(dG n d).natAbs=n.natAbs/vA n d:=by unfold dG;rw[tv (Int.gcd_dvd_left n d)];rfl
 have iU:(dP n d).natAbs=d.natAbs/vA n d:=by unfold dP;rw[tv (Int.gcd_dvd_right n d)];rfl
 have hdp:=Kf (a:=n) hd;rw[<-hrn] at vp;rw[<-iU] at vq;have aHZ:=axb n d;have nE:cm (decide (n<0)) (dv lp)=dG n d:=by
  rw[vp];unfold cm;by_cases h0:n<0
  .have:¬0<=dG n d:=fun h1=>by have:=tW (tM M7) h1;lia
   simp only[h0,yv,xS];lia
  .have:¬dG n d<0:=fun h1=>by have:=Int.mul_neg_of_pos_of_neg M7 h1;lia
   simp only[h0,yu,yH,xz];lia
 have kn':Bd K (dG n d):=kn.le (adL n d);have Zb:Bd K (dP n d):=kd.le (adM n d);have lp1:lp.length<=8000000000:=xi (jx dp np (by rw[vp];exact kn'.r)) hK
 have NE:lq.length<=8000000000:=xi (jx dq nq (by rw[vq];exact Zb.r)) hK
 have⟨s,e4,hs⟩:=qG h.jg h.cJ (decide (n<0)) hp dp (by lia);rw[nE] at hs;have⟨e5,l5⟩:=R5 (K:=K) h.R6 h.qC (by lia) hs kn'.r;have⟨u,e6,hu⟩:=qG h.jg h.cJ ydz hq dq (by lia);have Cg:cm ydz (dv lq)=dP n d:=by rw[vq];unfold cm;simp only[yH,xz];lia
 rw[Cg] at hu;have⟨e7,l7⟩:=R5 (K:=K) h.R6 h.qC (by lia) hu Zb.r;obtain⟨sw,sl,rfl,gU,_,_,_⟩:=hs;obtain⟨uw,ul,rfl,huw,_,_,_⟩:=hu;have aHG:0<lq.length:=by
  rcases xj lq.length with e | e
  .rw [yD e] at vq;simp[dv] at vq;lia
  .exact e
 by_cases Tb:lq.length=1
 .obtain ⟨z,rfl⟩:∃z,lq=[z]:=by
   cases lq with
   | nil=>simp at Tb
   | cons z r=>cases r with
    | nil=>exact⟨z,rfl⟩
    | cons y r=>simp at Tb
  have NP:z=dP n d:=by simp[dv] at vq;lia
  have e8:=hq.bj (i:=0) (by simp);simp only[wX] at e8;by_cases h1:dP n d=1
  .have hT:sn n d=bc (dG n d):=by unfold sn;rw[yE h1]
   rw[hT];simp only[go_sem,ya,qB,aA,t2,t3,hx.ah,hy.ah,aX,ye,cP,show ¬d<0 by lia,yu,e1,hg.ah,hg.shut,e2,hp.ah,hp.bH,ap.bH,e3,hq.len,hq.bH,bI.bH,e4,gU.ah,bP,bh,e5,yB,yM,show ((1:Nat):Int)=(1:Int) from rfl,yv,e8,NP,h1]
  .have hT:sn n d=(bc (dG n d)++[47])++bc (dP n d):=by unfold sn;rw[yp h1]
   rw[hT]
   simp only[go_sem,ya,qB,aA,t2,t3,hx.ah,hy.ah,aX,ye,cP,show ¬d<0 by lia,yu,e1,hg.ah,hg.shut,e2,hp.ah,hp.bH,ap.bH,e3,hq.len,hq.ah,hq.bH,bI.bH,e4,gU.ah,bP,bh,e5,yB,yM,show ((1:Nat):Int)=(1:Int) from rfl,yv,e8,NP,h1,iH (a:=bc (dG n d)) (b:=[47]) (by simp;lia),e6,huw.ah,e7,iH (a:=bc (dG n d)++[47]) (b:=bc (dP n d)) (by simp;lia)]
 .have h1:¬dP n d=1:=fun h1=>Tb (by
   have h2:lq.length<=1:=VF dq nq (by rw[vq,h1];decide)
   lia)
  have hT:sn n d=(bc (dG n d)++[47])++bc (dP n d):=by unfold sn;rw[yp h1]
  rw[hT]
  simp only[go_sem,ya,qB,aA,t2,t3,hx.ah,hy.ah,aX,ye,cP,show ¬d<0 by lia,yu,e1,hg.ah,hg.shut,e2,hp.ah,hp.bH,ap.bH,e3,hq.len,hq.ah,hq.bH,bI.bH,e4,gU.ah,bP,bh,e5,show ¬(lq.length:Int)=1 by lia,iH (a:=bc (dG n d)) (b:=[47]) (by simp;lia),e6,huw.ah,e7,iH (a:=bc (dG n d)++[47]) (b:=bc (dP n d)) (by simp;lia)]
def am3(n d:Int):wW (-n) (-d)=wW n d:=by rw[Rat.divInt_neg',yaE]
def W0(h:Rm P L){w:AV}(hK:K<=8000000000)(hv:jQ v n)(hw:jQ w d)(kn:Bd K n)(kd:Bd K d)(hd:d≠0):ab P L 280 [v,w] (.str (RT (wW n d))):=by
 have fin:∀{x y:AV} {a b:List Int} {n' d':Int},bw x a->dg a->nz a->dv a=n'.natAbs->bw y b->dg b->nz b->dv b=d'.natAbs->Bd K n'->Bd K d'->0<d'->wW n' d'=wW n d->∀tm,ai tm 2=.ptr 0 0->ai tm 3=.ptr 1 0->
   D P L (.seq (a8 qB.body) (a8 (aA qB.body))) ⟨[(0,v),(1,w)],[],0,0⟩=Gr (.normal,⟨tm,[(1,.cells ydy ydy ydy 2 [.bool (decide (d'<0)),y]),(0,.cells ydy ydy ydy 2 [.bool (decide (n'<0)),x])],2,0⟩)->ab P L 280 [v,w] (.str (RT (wW n d))):=fun {x y a b n' d'} hx ha na va hy hb nb vb kn kd hd hq tm t2 t3 e=>by
  unfold ab;rw[aD h.aCr];show et [.t 4] (D P L (.seq (a8 qB.body) (.seq (a8 (aA qB.body)) (aA (aA qB.body)))) ⟨[(0,v),(1,w)],[],0,0⟩)=_
  rw[Eu,e,ju,<-hq];exact axR h hK hx ha na va hy hb nb vb kn kd hd t2 t3
 have cl:=hv;have Ge:=hw;obtain⟨x,a,rfl,hx,ha,na,va⟩:=hv;obtain⟨y,b,rfl,hy,hb,nb,vb⟩:=hw;by_cases h0:d<0
 .have ⟨r,e1,hr⟩:=aiC (K:=K) h.ai5 h.jg h.cJ (by lia) cl kn.r;have⟨s,e2,hs⟩:=aiC (K:=K) h.ai5 h.jg h.cJ (by lia) Ge kd.r;obtain⟨x',a',rfl,nF,FY,na',va'⟩:=hr;obtain⟨y',b',rfl,NJ,bE,nb',vb'⟩:=hs;simp only[h0,yv] at e2
  refine fin nF FY na' va' NJ bE nb' vb' kn.neg kd.neg (by lia) (am3 n d) _ ?_ ?_ (by
   simp only[go_sem,ya,yb,qB,a8,aA,aQ,hx.pu,hx.ah,hx.one,hy.pu,hy.ah,hy.one,nF.pu,nF.one,NJ.pu,NJ.one,aX,ye,h0,yv,E0,bP,e1,e2,bh,fk]<;>rfl)<;>simp only[go_sem,ya]
 .refine fin hx ha na va hy hb nb vb kn kd (by lia) rfl _ ?_ ?_ (by simp only[go_sem,ya,yb,qB,a8,aA,aQ,hx.pu,hx.one,hy.pu,hy.one,aX,ye,h0,yu]<;>rfl)<;>simp only[go_sem,ya]
end
section
variable {n:Int}{K:Nat}{a:Rat}
def aAj(z:Int)(m:Nat)(h:z.natAbs=m):(z.tdiv 1000000000).natAbs=m/1000000000/\(if z.tmod 1000000000<0 then 0-z.tmod 1000000000 else z.tmod 1000000000)=((m%1000000000:Nat):Int)/\(z<0->z.tdiv 1000000000<=0)/\(0<=z->0<=z.tdiv 1000000000):=by
 rcases Int.lt_or_le z 0 with h0 | h0
 .obtain ⟨n,rfl⟩:∃n:Nat,z= -(n:Int):=⟨z.natAbs,by lia⟩;rw[Int.neg_tdiv,Int.neg_tmod,xV (by lia),xN (by lia)]
  grind
 .grind
def axS{neg:Bool}(hN:N<=9223372036854775808):
  cE P L [0,2,3,4] Aw (fun k s=>∃(i:Nat) (z:Int) (out:List Int),z.natAbs=k/\out.length=i/\dg out/\dv out+1000000000^i*z.natAbs=N/\(neg=ydy->z<=0)/\(neg=ydz->0<=z)/\i<=3/\
    ((i=0/\s=⟨[(0,aa z),(2,.ptr 0 0),(3,.aj),(4,.bool neg)],[(0,.cells ydy ydy ydy 2 [.bool ydz,.aj])],1,0⟩)\/
    (0<i/\s=⟨[(0,aa z),(2,.ptr 0 0),(3,.ay 1 0 i),(4,.bool neg)],[(1,.cells ydy ydy ydz 1 (out.map aa)),(0,.cells ydy ydy ydy 2 [.bool ydz,.aj])],2,0⟩))) (fun ex s'=>∃tm i out,ex=.exit 0/\out.length=i/\i<=3/\dg out/\dv out=N/\ai tm 2=.ptr 0 0/\ai tm 4=.bool neg/\
    ((i=0/\ai tm 3=.aj/\s'=⟨tm,[(0,.cells ydy ydy ydy 2 [.bool ydz,.aj])],1,0⟩)\/(0<i/\ai tm 3=.ay 1 0 i/\s'=⟨tm,[(1,.cells ydy ydy ydz 1 (out.map aa)),(0,.cells ydy ydy ydy 2 [.bool ydz,.aj])],2,0⟩))):=by
 apply cI;rintro k s ⟨i,z,out,rfl,hlen,hd,aK,kU,A6,hi3,hs⟩;by_cases hz:z=0
 .right
  subst hz;have hv:dv out=N:=by simpa using aK
  rcases hs with ⟨h0,rfl⟩ | ⟨h0,rfl⟩
  .simp only [go_sem,Aw,yv,yO];exact⟨_,_,rfl,by simp,_,i,out,rfl,hlen,hi3,hd,hv,rfl,rfl,.inl ⟨h0,rfl,rfl⟩⟩
  .simp only [go_sem,Aw,yv,yO];exact⟨_,_,rfl,by simp,_,i,out,rfl,hlen,hi3,hd,hv,rfl,rfl,.inr ⟨h0,rfl,rfl⟩⟩
 .left
  obtain⟨m,hm⟩:∃m,z.natAbs=m:=⟨_,rfl⟩;have sX:0<m:=by lia
  rw[hm] at aK;have hi2:i<3:=by
   rcases vv i 3 with h | h
   .exact h
   .have e3:i=3:=by lia
    subst e3
    have:=y5 (1000000000^3) sX
    lia
  have hmN:m<=9223372036854775808:=by
   have:=uz m (ycl (n:=i) (show 0<1000000000 by decide))
   lia
  have⟨d1,d2,d3,d4⟩:=aAj z m hm;have eZ:=uF m 1000000000;have zL:dg (out++[((m%1000000000:Nat):Int)]):=iY.2 ⟨hd,lm.2 (by lia)⟩;have Qx:dv (out++[((m%1000000000:Nat):Int)])+1000000000^(i+1)*(m/1000000000)=N:=by
   rw[nL,hlen,<-aK,xp,xk];have e:1000000000^i*m=1000000000^i*(m%1000000000)+1000000000^i*(1000000000*(m/1000000000)):=by rw[<-xJ,eZ]
   rw[e];simp only[dv,wY,xI,y7]
   lia
  have pK:IntKind.wrap .i64 (z.tdiv 1000000000)=z.tdiv 1000000000:=wrap64 (by lia) (by lia);have nC: -9223372036854775808<=z.tmod 1000000000/\z.tmod 1000000000<1000000000:=by
   have h1:(z.tmod 1000000000).natAbs<1000000000:=by
    split at d2<;>lia
   lia
  have BK:(neg=ydy->z.tdiv 1000000000<=0)/\(neg=ydz->0<=z.tdiv 1000000000):=⟨fun h=>d3 (by have:=kU h;lia),fun h=>d4 (A6 h)⟩
  have aG:(z.tdiv 1000000000).natAbs<m:=by rw[d1];lia
  obtain⟨z',cK⟩:∃z',z.tdiv 1000000000=z':=⟨_,rfl⟩;rw[cK] at d1 d3 d4 pK BK aG;have cU:dv (out++[((m%1000000000:Nat):Int)])+1000000000^(i+1)*z'.natAbs=N:=by rw[d1];exact Qx
  generalize m%1000000000=r at*
  by_cases fw:z.tmod 1000000000<0
  .rw [yE fw] at d2;rcases hs with ⟨h0,rfl⟩ | ⟨h0,rfl⟩
   .subst h0;have jZ:out=[]:=yD hlen;subst jZ
    simp only[go_sem,ya,yb,xv,yG,yq,yh,Aw,yu,hz,yY,eU _ _ _ (show (1000000000:Int)≠0 by decide),eO _ _ _ (show (1000000000:Int)≠0 by decide),fw,d2,wrapN (n:=r) (by lia),gL,cK,pK];refine⟨_,z'.natAbs,rfl,by lia,1,z',[]++[(r:Int)],rfl,rfl,zL,cU,BK.1,BK.2,by lia,.inr ⟨by lia,?_⟩⟩;simp only[go_sem,ya,yb,aq]<;>rfl
   .simp only [go_sem,ya,yb,yq,yh,Aw,yu,hz,yY,eU _ _ _ (show (1000000000:Int)≠0 by decide),fw,d2,wrapN (n:=r) (by lia)]
    rw[ff (ex:=ydz) (pu:=ydy) (cs:=out.map aa) rfl (by rw[yU,hlen,yh]) (by lia) (by lia) (by decide) rfl];simp only[go_sem,ya,yb,eO _ _ _ (show (1000000000:Int)≠0 by decide),cK,pK];refine⟨_,z'.natAbs,rfl,by lia,i+1,z',out++[(r:Int)],rfl,by simp[hlen],zL,cU,BK.1,BK.2,by lia,.inr ⟨by lia,?_⟩⟩;rw[xB];simp only[go_sem,ya,yb,aq]<;>rfl
  .rw [yp fw] at d2;rcases hs with ⟨h0,rfl⟩ | ⟨h0,rfl⟩
   .subst h0;have jZ:out=[]:=yD hlen;subst jZ;simp only[go_sem,ya,yb,xv,yG,yq,yh,Aw,yu,hz,yY,eU _ _ _ (show (1000000000:Int)≠0 by decide),eO _ _ _ (show (1000000000:Int)≠0 by decide),d2,show ¬((r:Nat):Int)<0 by lia,gL,cK,pK];refine⟨_,z'.natAbs,rfl,by lia,1,z',[]++[(r:Int)],rfl,rfl,zL,cU,BK.1,BK.2,by lia,.inr ⟨by lia,?_⟩⟩;simp only[go_sem,ya,yb,aq]<;>rfl
   .simp only [go_sem,ya,yb,yq,yh,Aw,yu,hz,yY,eU _ _ _ (show (1000000000:Int)≠0 by decide),d2,show ¬((r:Nat):Int)<0 by lia]
    rw[ff (ex:=ydz) (pu:=ydy) (cs:=out.map aa) rfl (by rw[yU,hlen,yh]) (by lia) (by lia) (by decide) rfl];simp only[go_sem,ya,yb,eO _ _ _ (show (1000000000:Int)≠0 by decide),cK,pK];refine⟨_,z'.natAbs,rfl,by lia,i+1,z',out++[(r:Int)],rfl,by simp[hlen],zL,cU,BK.1,BK.2,by lia,.inr ⟨by lia,?_⟩⟩;rw[xB];simp only[go_sem,ya,yb,aq]<;>rfl
def ae2(h: -9223372036854775808<=n/\n<9223372036854775808):n.natAbs<=9223372036854775808:=by lia
def ae3(n:Int):cm (decide (n<0)) n.natAbs=n:=by
 unfold cm
 grind
def aAk(h:Rm P L)(hn: -9223372036854775808<=n/\n<9223372036854775808):∃r,ab P L 281 [aa n] r/\jQ r n:=by
 have key:=fun s=>axS (P:=P) (L:=L) (neg:=decide (n<0)) (ae2 hn) n.natAbs s
 unfold ab;rw[aD h.ai3];simp only[go_sem,ya,yb,Q8,aQ];generalize hq:D P L (.loop _ Aw) _=q;obtain⟨ex,s,rfl,tm,i,out,rfl,hlen,hi,hd,aK,t2,t4,Fe⟩:=bg hq key (by
  refine⟨0,n,[],rfl,rfl,rfl,by simp[dv],fun h=>by simp at h;lia,fun h=>by simp at h;lia,by lia,.inl ⟨rfl,?_⟩⟩
  simp only[go_sem,ya,yb,aq]<;>rfl)
 rcases Fe with ⟨sY,t3,rfl⟩ | ⟨sY,t3,rfl⟩
 .subst sY;have jZ:out=[]:=yD hlen;subst jZ;have⟨r,e,hr⟩:=qG h.jg h.cJ (decide (n<0)) (show bw .aj [] from Aq) hd (by simp);rw[aK,ae3] at hr;have bQ:=hr;obtain⟨w,l,rfl,hw,_,_,_⟩:=bQ;refine⟨_,?_,hr⟩;simp only[go_sem,ya,yb,aq,t2,t3,t4,e,hw.pu,hw.one,bh,fk];rcases hw with ⟨rfl,_⟩ | ⟨e,rfl⟩<;>rfl
 .have hI:=eP ydz out;rw[hlen] at hI;have⟨r,e,hr⟩:=qG h.jg h.cJ (decide (n<0)) hI hd (by lia);rw[aK,ae3] at hr;have bQ:=hr;obtain⟨w,l,rfl,hw,_,_,_⟩:=bQ;refine⟨_,?_,hr⟩
  simp only[go_sem,ya,yb,aq,t2,t3,t4,fun hp=>gD (hp:=hp) (k:=i) (sz:=1) (cs:=out.map aa) ydz (by simp[hlen]) (by decide),e,hw.pu,hw.one,bh,fk];rcases hw with ⟨rfl,_⟩ | ⟨e,rfl⟩<;>rfl
def Wg(n:Int):RT (n:Rat)=bc n:=by unfold RT;simp
def W1(h:Rm P L)(MJ:Has P L 265 Q3)(hn: -9223372036854775808<=n/\n<9223372036854775808):ab P L 265 [aa n] (.str (RT (n:Rat))):=by
 have⟨r,e,hr⟩:=aAk h hn;have⟨e2,_⟩:=R5 (K:=8) h.R6 h.qC (by lia) hr (by have:=ae2 hn;lia)
 rw[Wg];obtain⟨w,l,rfl,hw,_,_,_⟩:=hr;unfold ab at e e2 ⊢;rw[aD MJ];simp only[go_sem,ya,Q3,e,hw.ah,bh,bP,e2]
def C6(h:Hq K a):(RT a).length<=2*K+3:=by
 have h1:=J6 h.1;have h2:=J6 h.2;rw[mz] at h2;unfold RT
 grind
def ae4{z:Int}(h:Bd K z):(az z.natAbs).length<=K+1:=by
 have:=J6 (z:=(z.natAbs:Int)) (k:=K) (by unfold Bd at h ⊢;lia)
 rwa[mz] at this
def Ht(h:Rm P L)(ka:Hq K a)(hK:K<=8000000000):∃x y,ab P L 274 [.str (RT a)] (.av [x,y])/\jQ x a.num/\jQ y (a.den:Int):=by
 have h1:=ae4 ka.1;have h2:=ae4 ka.2
 exact aja h.toRb (n:=a.num) (d:=a.den) (by lia) (by simpa using (by lia:(az ((a.den:Int)).natAbs).length<=144000000000))
def aAl(h:Rm P L)(hl:(TT n d).length<=100000000000)(Ef:n=0->d=1):ab P L 262 [.str (TT n d)] (aa (bK n)):=by
 unfold ab;rw[aD h.aCp];by_cases h0:n<0
 .have bU:=ahw (n:=n) (d:=d) (by lia);rw[P1 h0] at bU ⊢;simp only[go_sem,ya,L4,nQ,bU,show (0:Int)<(((TT (-n) d).length+1:Nat):Int) by lia,FF,yv];unfold bK;rw[yE h0]
 .by_cases h1:n=0
  .subst h1
   have:=Ef rfl
   subst this;rw[show TT 0 1=[48] by decide];simp only[go_sem,ya,L4,nQ,show db [48] [48]=ydy from rfl];rfl
  .have bU:=ahw (n:=n) (d:=d) h1;have⟨b,u,hb,kj⟩:=aua (d:=d) h0;rw[hb] at bU ⊢;simp only[go_sem,ya,L4,nQ,bU,show (0:Int)<((u.length+1:Nat):Int) by lia,show oX 0 (.str (b::u))=Gr (.int .u8 (b:Nat)) from rfl,show ¬((b:Nat):Int)=45 by lia];unfold bK;rw[yp h0,yp h1]
def amx(h:a.num=0):a.den=1:=by simp_all
def Hu(h:Rm P L)(ka:Hq K a)(hK:K<=8000000000):ab P L 262 [.str (RT a)] (aa (bK a.num)):=
 aAl h (by have:=C6 ka;rw[LK] at this;lia) amx
def W2(h:Rp P L)(ka:Hq K a)(hK:K<=8000000000):ab P L 268 [.str (RT a)] (.str (RT (-a))):=by
 have e:=Hu h.toRm ka hK;have hl:=C6 ka;have en:(-a).num= -a.num:=rfl;have ed:(-a).den=a.den:=rfl;rw[LK] at hl e ⊢;rw[LK,en,ed];generalize a.num=n at*
 generalize a.den=d at*
 unfold ab at e ⊢;rw[aD h.aCs];by_cases h0:n<0
 .have es:bK n= -1:=by unfold bK;rw[yE h0]
  rw[es,P1 h0] at e;rw[P1 h0] at hl ⊢;have hc:jz (45::TT (-n) d) (Gr 1) (Gr ((TT (-n) d).length+1))=Gr (.str (TT (-n) d)):=by rw[mV (s:=45::TT (-n) d) (l:=1) (h:=(TT (-n) d).length+1) (by lia) (by simp)];simp
  simp only[go_sem,ya,L7,e,show (-1:Int)<0 by decide,fG,fV,eE,hc]
 .by_cases h1:n=0
  .subst h1;have es:bK 0=0:=rfl;rw[es] at e;simp only[go_sem,ya,L7,e,show ¬(0:Int)<0 by decide,yv,Int.neg_zero]
  .have es:bK n=1:=by unfold bK;rw[yp h0,yp h1]
   rw[es] at e
   have:TT (-n) d=45::TT n d:=by rw[P1 (by lia),yaE]
   rw[this]
   simp only[go_sem,ya,L7,e,show ¬(1:Int)<0 by decide,show ¬(1:Int)=0 by decide,iH (a:=[45]) (b:=TT n d) (by simp;lia),xe,xt]
end
section
variable {K M:Nat}{a b:Rat}
def ae5(n:Int)(d:Nat):V4 ydy n d=.av [aa n,aa d,.bool ydy]:=rfl
def LL{a b:Int}(ha:a.natAbs<1000000000)(hb:b.natAbs<1000000000):(a*b).natAbs<1000000000000000000:=by
 rw[Int.natAbs_mul];exact yI (yax ha hb) (by decide)
def Qy(h:Rm P L){a b:Int}(ha: -4000000000000000000<=a/\a<=4000000000000000000)(hb:0<b/\b<=4000000000000000000):ab P L 277 [aa a,aa b] (.str (RT (wW a b))):=by
 rw[ae1 hb.1];exact aBu h.aCq h.XY h.qC ha hb
def Qz(h:Rp P L)(ka:Hq K a)(hK:K<=8000000000):∃q:Bool,ab P L 276 [.str (RT a)] (V4 q a.num a.den)/\(q=ydy->a.num.natAbs<1000000000/\a.den<1000000000):=
 aBv h.aCu h.Ds h.BW (n:=a.num) (d:=a.den) (by have:=C6 ka;rw[LK] at this;lia)
def Dj(h:Rn P L)(ka:Hq K a)(kb:Hq M b)(hK:K+M<=8000000000):ab P L 267 [.str (RT a),.str (RT b)] (.str (RT (a*b))):=by
 have⟨q1,e1,b1⟩:=Qz h.toRp ka (by lia);have⟨q2,e2,b2⟩:=Qz h.toRp kb (by lia);have aCC:=Gv a b;by_cases hq:(q1=ydy/\q2=ydy)
 .obtain ⟨rfl,rfl⟩:=hq;have⟨b11,b12⟩:=b1 rfl;have⟨b21,b22⟩:=b2 rfl;have p1:=LL b11 b21;have p2:=LL (a:=(a.den:Int)) (b:=(b.den:Int)) (by lia) (by lia);have e3:=Qy h.toRm (a:=a.num*b.num) (b:=(a.den:Int)*b.den) (by lia) (by lia);rw[<-mul_eq] at e3;rw[ae5] at e1 e2;unfold ab at e1 e2 e3 ⊢;rw[aD h.ai7]
  simp only[go_sem,ya,L6,e1,e2,wrap64 (n:=a.num*b.num) (by lia) (by lia),wrap64 (n:=(a.den:Int)*(b.den:Int)) (by lia) (by lia),e3]
 .have bI:∃n1 d1 n2 d2,bO P L (D P L) 276 [.str (RT a)]=Gr (.av [aa n1,aa d1,.bool q1])/\bO P L (D P L) 276 [.str (RT b)]=Gr (.av [aa n2,aa d2,.bool q2]):=by
   cases q1<;>cases q2<;>exact⟨_,_,_,_,e1,e2⟩
  have⟨n1,d1,n2,d2,e1,e2⟩:=bI;have⟨x,y,e3,hx,hy⟩:=Ht h.toRm ka (by lia);have⟨z,w,e4,hz,hw⟩:=Ht h.toRm kb (by lia);have HW:max K M<=8000000000:=by lia
  have⟨r,e5,hr⟩:=MF (K:=max K M) h.MI h.mH h.jg h.cJ HW hx hz (ka.1.mono (by lia)).r (kb.1.mono (by lia)).r;have⟨s,e6,hs⟩:=MF (K:=max K M) h.MI h.mH h.jg h.cJ HW hy hw (ka.2.mono (by lia)).r (kb.2.mono (by lia)).r;have e7:=W0 h.toRm hK hr hs (ka.1.mul kb.1) (ka.2.mul kb.2) (by lia);rw[<-mul_eq] at e7;obtain⟨xw,xl,rfl,de,_,_,_⟩:=hx;obtain⟨yw,yl,rfl,ej,_,_,_⟩:=hy;obtain⟨zw,zl,rfl,rq,_,_,_⟩:=hz;obtain⟨ww,wl,rfl,rz,_,_,_⟩:=hw;obtain⟨cf,rl,rfl,qW,_,_,_⟩:=hr;obtain⟨sw,sl,rfl,gU,_,_,_⟩:=hs;have hb:¬(q1=ydy/\q2=ydy):=hq;unfold ab at e3 e4 e5 e6 e7 ⊢;rw[aD h.ai7]
  cases q1 with
  | false=>
   simp only[go_sem,ya,yb,L6,aQ,e1,e2,e3,e4,de.pu,de.ah,de.one,ej.pu,ej.ah,ej.one,rq.pu,rq.ah,rq.one,rz.pu,rz.ah,rz.one,qW.ah,gU.ah,bP,bh,Ao,fk,E0,e5,e6,e7]
  | true=>
   cases q2 with
   | true=>exact absurd ⟨rfl,rfl⟩ hb
   | false=>
    simp only[go_sem,ya,yb,L6,aQ,e1,e2,e3,e4,de.pu,de.ah,de.one,ej.pu,ej.ah,ej.one,rq.pu,rq.ah,rq.one,rz.pu,rz.ah,rz.one,qW.ah,gU.ah,bP,bh,Ao,fk,E0,e5,e6,e7]
def ahx(h:Rp P L)(ka:Hq K a)(kb:Hq M b)(hK:K+M+1<=8000000000):ab P L 264 [.str (RT a),.str (RT b)] (.str (RT (a+b))):=by
 have⟨q1,e1,b1⟩:=Qz h ka (by lia);have⟨q2,e2,b2⟩:=Qz h kb (by lia);have aCC:=Gv a b;by_cases hq:(q1=ydy/\q2=ydy)
 .obtain ⟨rfl,rfl⟩:=hq;have⟨b11,b12⟩:=b1 rfl;have⟨b21,b22⟩:=b2 rfl;have p1:=LL (a:=a.num) (b:=(b.den:Int)) (by lia) (by lia);have p2:=LL (a:=b.num) (b:=(a.den:Int)) (by lia) (by lia);have p3:=LL (a:=(a.den:Int)) (b:=(b.den:Int)) (by lia) (by lia);have e3:=Qy h.toRm (a:=a.num*b.den+b.num*a.den) (b:=(a.den:Int)*b.den) (by lia) (by lia);rw[<-add_eq] at e3;rw[ae5] at e1 e2;unfold ab at e1 e2 e3 ⊢;rw[aD h.ai6]
  simp only[go_sem,ya,L5,e1,e2,wrap64 (n:=a.num*(b.den:Int)) (by lia) (by lia),wrap64 (n:=b.num*(a.den:Int)) (by lia) (by lia),wrap64 (n:=a.num*(b.den:Int)+b.num*(a.den:Int)) (by lia) (by lia),wrap64 (n:=(a.den:Int)*(b.den:Int)) (by lia) (by lia),e3]
 .have bI:∃n1 d1 n2 d2,bO P L (D P L) 276 [.str (RT a)]=Gr (.av [aa n1,aa d1,.bool q1])/\bO P L (D P L) 276 [.str (RT b)]=Gr (.av [aa n2,aa d2,.bool q2]):=by
   cases q1<;>cases q2<;>exact⟨_,_,_,_,e1,e2⟩
  have⟨n1,d1,n2,d2,e1,e2⟩:=bI;have⟨x,y,e3,hx,hy⟩:=Ht h.toRm ka (by lia);have⟨z,w,e4,hz,hw⟩:=Ht h.toRm kb (by lia);have HW:max K M<=8000000000:=by lia
  have⟨r,e5,hr⟩:=MF (K:=max K M) h.MI h.mH h.jg h.cJ HW hx hw (ka.1.mono (by lia)).r (kb.2.mono (by lia)).r;have⟨r2,e52,oD⟩:=MF (K:=max K M) h.MI h.mH h.jg h.cJ HW hz hy (kb.1.mono (by lia)).r (ka.2.mono (by lia)).r;have⟨s,e6,hs⟩:=MF (K:=max K M) h.MI h.mH h.jg h.cJ HW hy hw (ka.2.mono (by lia)).r (kb.2.mono (by lia)).r;have k1:Bd (K+M) (a.num*b.den):=ka.1.mul kb.2;have k2:Bd (K+M) (b.num*a.den):=(kb.1.mul ka.2).mono (by lia);have⟨t,e8,ht⟩:=aCi (K:=K+M) h.aCv h.R3 h.qJ h.R4 h.ow h.jg h.cJ (by lia) hr oD k1.r k2.r;have e7:=W0 h.toRm hK ht hs (k1.Yd k2) ((ka.2.mul kb.2).mono (by lia)) (by lia);rw[<-add_eq] at e7;obtain⟨xw,xl,rfl,de,_,_,_⟩:=hx;obtain⟨yw,yl,rfl,ej,_,_,_⟩:=hy;obtain⟨zw,zl,rfl,rq,_,_,_⟩:=hz;obtain⟨ww,wl,rfl,rz,_,_,_⟩:=hw;obtain⟨cf,rl,rfl,qW,_,_,_⟩:=hr;obtain⟨rw2,rl2,rfl,ajb,_,_,_⟩:=oD
  obtain⟨tw,tl,rfl,htw,_,_,_⟩:=ht;obtain⟨sw,sl,rfl,gU,_,_,_⟩:=hs;have hb:¬(q1=ydy/\q2=ydy):=hq;unfold ab at e3 e4 e5 e52 e6 e7 e8 ⊢;rw[aD h.ai6]
  cases q1 with
  | false=>
   simp only[go_sem,ya,yb,L5,aQ,e1,e2,e3,e4,de.pu,de.ah,de.one,ej.pu,ej.ah,ej.one,rq.pu,rq.ah,rq.one,rz.pu,rz.ah,rz.one,qW.ah,ajb.ah,htw.ah,gU.ah,bP,bh,Ao,fk,E0,e5,e52,e8,e6,e7]
  | true=>
   cases q2 with
   | true=>exact absurd ⟨rfl,rfl⟩ hb
   | false=>
    simp only[go_sem,ya,yb,L5,aQ,e1,e2,e3,e4,de.pu,de.ah,de.one,ej.pu,ej.ah,ej.one,rq.pu,rq.ah,rq.one,rz.pu,rz.ah,rz.one,qW.ah,ajb.ah,htw.ah,gU.ah,bP,bh,Ao,fk,E0,e5,e52,e8,e6,e7]
def QA(h:Rp P L)(ka:Hq K a)(kb:Hq M b)(hK:K+M+1<=8000000000):ab P L 271 [.str (RT a),.str (RT b)] (.str (RT (a-b))):=by
 have e1:=W2 h kb (by lia);have e2:=ahx h ka kb.neg hK;rw[<-Rat.sub_eq_add_neg] at e2;unfold ab at e1 e2 ⊢;rw[aD h.aCt];simp only[go_sem,ya,XF,e1,e2]
def inv_divInt(a:Rat)(h:a≠0):a⁻¹=wW (a.den:Int) a.num:=by
 rw[Rat.inv_def]
def ahy(h:Rn P L)(B1:Has P L 283 Fw)(ka:Hq K a)(hK:K<=8000000000)(h0:a≠0):ab P L 283 [.str (RT a)] (.str (RT a⁻¹)):=by
 obtain⟨x,y,e3,hx,hy⟩:=Ht h.toRm ka hK;have hn:a.num≠0:=fun e=>h0 (ycm.1 e)
 have e7:=W0 h.toRm hK hy hx ka.2 ka.1 hn;rw[<-inv_divInt a h0] at e7;obtain⟨xw,xl,rfl,de,_,_,_⟩:=hx;obtain⟨yw,yl,rfl,ej,_,_,_⟩:=hy;unfold ab at e3 e7 ⊢;rw[aD B1];simp only[go_sem,ya,yb,Fw,aQ,e3,de.pu,de.ah,de.one,ej.pu,ej.ah,ej.one,bP,Ao,fk,E0,e7]
def aAm(h:Rn P L)(Yx:Has P L 266 Q4)(B1:Has P L 283 Fw)(ka:Hq K a)(kb:Hq M b)(hK:K+M<=8000000000)(h0:b≠0):ab P L 266 [.str (RT a),.str (RT b)] (.str (RT (a/b))):=by
 have e1:=ahy h B1 kb (by omega) h0;have e2:=Dj h ka kb.inv hK;rw[<-Rat.div_def] at e2;unfold ab at e1 e2 ⊢;rw[aD Yx];simp only[go_sem,ya,Q4,e1,e2]
def aAn(h:Rx0 P L)(ka:Hq K a)(kb:Hq M b)(hK:K+M<=8000000000)(h0:b≠0):ab P L 266 [.str (RT a),.str (RT b)] (.str (RT (a/b))):=aAm h.toRn h.Yx h.B1 ka kb hK h0
end
section
variable {a b s t:List Nat}{k:Nat}
def acW{P:aF}{L:Lib}(a b c d:VC)(s:St):D P L (.seq a (.seq b (.seq c d))) s=r7 P L (D P L (.seq a (.seq b c)) s) d:=by
 have e:=Eu (P:=P) (L:=L) b c d;rw[nZ,nZ]
 cases D P L a s with
 | none=>rfl
 | some q=>
  have⟨ex,st⟩:=q
  cases ex with
  | normal=>rw[ju,ju];exact e st
  | ret=>rfl
  | exit id=>rfl
def rW(h:a≠b):db a b=ydz:=by
 cases hb:db a b with
 | false=>rfl
 | true=>exact absurd (U4 hb) h
def ad4:∀a:List Nat,db a a=ydy
 | []=>rfl
 | x::a=>by simp[db,ad4 a]
def afQ(h:a=b):db a b=ydy:=h▸ad4 a
def apt{i:Nat}(h:i<s.length):dt (s.drop i)=(yJ 48 s[i]&&yJ s[i] 57&&dt (s.drop (i+1))):=by
 rw[yS h];rfl
def aCD(h:Has P L 287 Ma)(hl:s.length<9223372036854775808):ab P L 287 [.str s] (.bool (dt s)):=by
 have key:=fK P L [0,3] EO
  (fun k st=>∃i:Nat,st=⟨[(0,.str s),(3,aa i)],[],0,0⟩/\i+k=s.length/\dt (s.drop i)=dt s)
  (fun ex st=>∃tm ct,st=⟨tm,[],ct,0⟩/\((ex=.ret/\ai tm 2=.bool ydz/\dt s=ydz)\/(ex=.exit 0/\dt s=ydy))) ?_
 .unfold ab;rw[aD h];simp only[go_sem,Ma];generalize hq:D P L (.loop _ EO) _=q;obtain⟨ex,st,rfl,tm,ct,rfl,h2⟩:=bg hq (key s.length) ⟨0,by simp only[go_sem,ya,aq]<;>rfl,by lia,by simp⟩
  rcases h2 with ⟨rfl,h2,h3⟩ | ⟨rfl,h3⟩
  .simp only [go_sem,h2,h3]
  .simp only [go_sem,aq,h3]
 .rintro k st ⟨i,rfl,hk,hs⟩;by_cases hi:i<s.length
  .rw [apt hi] at hs;by_cases h1:s[i]<48
   .right
    have e:yJ 48 s[i]=ydz:=by
     cases hb:yJ 48 s[i] with
     | false=>rfl
     | true=>have:=yA hb;lia
    rw[e,wH,wH] at hs;simp only[go_sem,ya,EO,show (i:Int)<s.length by lia,zq hi,show ((s[i]:Nat):Int)<48 by lia,yv];exact⟨_,_,rfl,by simp,_,_,rfl,.inl ⟨rfl,rfl,hs.symm⟩⟩
   .by_cases h2:57<s[i]
    .right
     have e:yJ s[i] 57=ydz:=by
      cases hb:yJ s[i] 57 with
      | false=>rfl
      | true=>have:=yA hb;lia
     rw[e,Bool.and_false,wH] at hs;simp only[go_sem,ya,EO,show (i:Int)<s.length by lia,zq hi,show ¬((s[i]:Nat):Int)<48 by lia,yu,show (57:Int)<((s[i]:Nat):Int) by lia];exact⟨_,_,rfl,by simp,_,_,rfl,.inl ⟨rfl,rfl,hs.symm⟩⟩
    .left
     rw[yz (show 48<=s[i] by lia),yz (show s[i]<=57 by lia),wI,wI] at hs;simp only[go_sem,ya,EO,show (i:Int)<s.length by lia,zq hi,show ¬((s[i]:Nat):Int)<48 by lia,yu,show ¬(57:Int)<((s[i]:Nat):Int) by lia];refine⟨_,k-1,rfl,by lia,i+1,?_,by lia,hs⟩;rw[wrap64 (by lia) (by lia)];simp only[go_sem,ya,aq]<;>rfl
  .right
   simp only[go_sem,ya,EO,show ¬(i:Int)<s.length by lia];refine⟨_,_,rfl,by simp,_,_,rfl,.inr ⟨rfl,?_⟩⟩;rw[<-hs,xb (by lia)];rfl
def R8(h:Has P L 273 Fu)(HV:Has P L 287 Ma)(hl:s.length<9223372036854775808):ab P L 273 [.str s] (.bool (dW s)):=by
 have e:=aCD HV hl;unfold ab at e ⊢;rw[aD h]
 match s,hl,e with
 | [],_,_=>
  simp only[go_sem,ya,Fu,yM,show ((0:Nat):Int)=0 from rfl,yv];rfl
 | [b],_,e=>
  have:dW [b]=dt [b]:=by simp[dW]
  rw[this];simp only[go_sem,ya,Fu,yB,yM,ye,show ¬((1:Nat):Int)=0 by decide,show ¬(1:Int)<((1:Nat):Int) by decide,yu,e]
 | b::c::r,hl,e=>
  have hd:dW (b::c::r)=(dt (b::c::r)&& !(yt b 48)):=by simp[dW]
  rw[hd];have Cc:r.length+2<9223372036854775808:=by simpa using hl
  by_cases hb:b=48
  .subst hb;simp only[go_sem,ya,Fu,yB,show ¬((r.length+1+1:Nat):Int)=0 by lia,yu,show (1:Int)<((r.length+1+1:Nat):Int) by lia,show oX 0 (.str (48::c::r))=Gr (.int .u8 48) from rfl,yv]
   simp
  .have:yt b 48=ydz:=gW hb
   rw[this,yY,uk];simp only[go_sem,ya,Fu,yB,show ¬((r.length+1+1:Nat):Int)=0 by lia,yu,show (1:Int)<((r.length+1+1:Nat):Int) by lia,show oX 0 (.str (b::c::r))=Gr (.int .u8 (b:Nat)) from rfl,show ¬((b:Nat):Int)=48 by lia,e]
def arB(h:k<=s.length):jz s (Gr 0) (Gr k)=Gr (.str (s.take k)):=by
 rw[mV (by lia) h,yg]
def U5(h:k<=s.length):jz s (Gr k) (Gr s.length)=Gr (.str (s.drop k)):=by
 rw[mV h (yx _),xR]
def axT(h:Rm P L)(hk:k=bS t)(hl:t.length<9223372036854775808)(hp:dW (t.take k)=ydy)(t3:ai tm 3=.str t)(t4:ai tm 4=aa k):
  et [.t 2] (D P L (aA (aA (aA (aA (aA dF.body))))) ⟨tm,[],0,0⟩)=Gr (aa (
   if k<t.length/\(dW (t.drop (k+1))=ydz\/t.drop (k+1)=[48]\/t.drop (k+1)=[49]) then 1
   else if 600<k\/600<t.length-k-1 then 4
   else if k<t.length/\wU (gk (t.take k)) (gk (t.drop (k+1)))≠1 then 1
   else 0)):=by
 have hkl:k<=t.length:=by rw[hk];exact J5 t
 have e3:=R8 h.R7 h.HV (s:=t.drop (k+1)) (by rw[wh];lia)
 unfold ab at e3;have Eg:(k:Int)+1=((k+1:Nat):Int):=rfl;by_cases hs:k<t.length
 .have c2:=U5 (s:=t) (k:=k+1) (by lia);have lY:=aaX t (by lia);rw[<-hk] at lY;have Cq:(t.drop (k+1)).length=t.length-k-1:=by rw[wh];lia
  have hlp:(t.take k).length=k:=by rw[yP];lia
  generalize hqe:t.drop (k+1)=q at*
  generalize hpe:t.take k=p at*
  cases hd:dW q with
  | false=>
   rw[yE ⟨hs,.inl rfl⟩];rw[hd] at e3
   simp only[go_sem,ya,dF,aA,t3,t4,show (k:Int)<(t.length:Int) by lia,yv,Eg,wrapN (n:=k+1) (by lia),fG,fV,eE,c2,e3,yY]
  | true=>
   rw[hd] at e3;by_cases kZ:q=[48]
   .rw [yE ⟨hs,.inr (.inl kZ)⟩]
    simp only[go_sem,ya,dF,aA,t3,t4,show (k:Int)<(t.length:Int) by lia,yv,Eg,wrapN (n:=k+1) (by lia),fG,fV,eE,c2,e3,yO,nQ,afQ kZ]
   .by_cases rk:q=[49]
    .rw [yE ⟨hs,.inr (.inr rk)⟩]
     simp only[go_sem,ya,dF,aA,t3,t4,show (k:Int)<(t.length:Int) by lia,yv,Eg,wrapN (n:=k+1) (by lia),fG,fV,eE,c2,e3,yO,nQ,rW kZ,afQ rk]
    .rw [yp (by simp only[hs,yab,ybC,ycO];exact fun e=>e.elim kZ rk)]
     by_cases DJ:600<k
     .rw [yE (.inl DJ)]
      simp only[go_sem,ya,dF,aA,t3,t4,show (k:Int)<(t.length:Int) by lia,yv,Eg,wrapN (n:=k+1) (by lia),fG,fV,eE,c2,e3,yO,nQ,rW kZ,rW rk,show (600:Int)<(k:Int) by lia]
     .by_cases aCE:600<t.length-k-1
      .rw [yE (.inr aCE)]
       simp only[go_sem,ya,dF,aA,t3,t4,show (k:Int)<(t.length:Int) by lia,yv,Eg,wrapN (n:=k+1) (by lia),fG,fV,eE,c2,e3,yO,nQ,rW kZ,rW rk,show ¬(600:Int)<(k:Int) by lia,yu,show (t.length:Int)-(k:Int)=((t.length-k:Nat):Int) by lia,wrapN (n:=t.length-k) (by lia),show ((t.length-k:Nat):Int)-1=((t.length-k-1:Nat):Int) by lia,wrapN (n:=t.length-k-1) (by lia),show (600:Int)<((t.length-k-1:Nat):Int) by lia]
      .rw [yp (by lia)];have Ad:=GC _ rfl hp;have rm:=GC _ rfl hd;have ij:gk q≠0:=fun e=>kZ (by rw[<-rm,e];rfl)
       have rb:gk q≠1:=fun e=>rk (by rw[<-rm,e];rfl)
       generalize gk p=n at*
       generalize gk q=d at*
       have hT:TT (n:Int) d=t:=by
        unfold TT;rw[mz,yp rb,Ad,rm];exact lY.symm
       have⟨x,y,e4,hx,hy⟩:=aja h.toRb (n:=(n:Int)) (d:=d) (by rw[xG,Ad];lia) (by rw[rm];lia)
       rw[hT] at e4;obtain⟨xw,xl,rfl,de,dx,nx,vx⟩:=hx;obtain⟨yw,yl,rfl,ej,dy,ny,vy⟩:=hy;rw[xG] at vx vy;have sQ:n<10^p.length:=by rw[<-Ad];exact Ks n
       have hdb:d<10^q.length:=by rw[<-rm];exact Ks d
       obtain⟨K,hK⟩:∃K:Nat,K=600:=⟨_,rfl⟩;have SR:∀{m j:Nat},m<10^j->j<=K->m<1000000000^K:=fun {m j} h1 h2=>
        yI h1 (xi (y8 (by decide) h2) (um (by decide) K))
       have lxl:=jx dx nx (by rw[vx];exact SR sQ (by lia))
       have lyl:=jx dy ny (by rw[vy];exact SR hdb (by lia))
       have⟨g,lg,e5,hg,dgg,ngg,vg⟩:=ahv h.ai2 h.MH h.mH h.qJ h.sr h.cJ h.zM de ej dx dy nx ny (by lia) (by lia);rw[vx,vy] at vg;have M7:0<wU n d:=Nat.gcd_pos_of_pos_right _ (by lia);unfold ab at e4 e5;by_cases Yy:lg.length=1
       .obtain ⟨z,rfl⟩:∃z,lg=[z]:=by
         cases lg with
         | nil=>simp at Yy
         | cons z r=>cases r with
          | nil=>exact⟨z,rfl⟩
          | cons y r=>simp at Yy
        have gz:=lm.1 dgg;have NP:z=(wU n d:Nat):=by simp[dv] at vg;lia
        have e8:=hg.bj (i:=0) (by simp);simp only[wX] at e8;by_cases iT:wU n d=1
        .rw [yp (by simp[iT])]
         simp only[go_sem,ya,yb,dF,aA,t3,t4,show (k:Int)<(t.length:Int) by lia,yv,Eg,wrapN (n:=k+1) (by lia),fG,fV,eE,c2,e3,yO,nQ,rW kZ,rW rk,show ¬(600:Int)<(k:Int) by lia,yu,show (t.length:Int)-(k:Int)=((t.length-k:Nat):Int) by lia,wrapN (n:=t.length-k) (by lia),show ((t.length-k:Nat):Int)-1=((t.length-k-1:Nat):Int) by lia,wrapN (n:=t.length-k-1) (by lia),show ¬(600:Int)<((t.length-k-1:Nat):Int) by lia,e4,aQ,de.pu,de.ah,de.one,ej.pu,ej.ah,ej.one,fk,aX,ye,cP,e5,hg.len,hg.shut,yB,yM,show ((1:Nat):Int)=(1:Int) from rfl,yO,e8,NP,iT]
        .rw [yE ⟨hs,iT⟩]
         simp only[go_sem,ya,yb,dF,aA,t3,t4,show (k:Int)<(t.length:Int) by lia,yv,Eg,wrapN (n:=k+1) (by lia),fG,fV,eE,c2,e3,yO,nQ,rW kZ,rW rk,show ¬(600:Int)<(k:Int) by lia,yu,show (t.length:Int)-(k:Int)=((t.length-k:Nat):Int) by lia,wrapN (n:=t.length-k) (by lia),show ((t.length-k:Nat):Int)-1=((t.length-k-1:Nat):Int) by lia,wrapN (n:=t.length-k-1) (by lia),show ¬(600:Int)<((t.length-k-1:Nat):Int) by lia,e4,aQ,de.pu,de.ah,de.one,ej.pu,ej.ah,ej.one,fk,aX,ye,cP,e5,hg.len,hg.shut,yB,yM,show ((1:Nat):Int)=(1:Int) from rfl,yO,e8,NP,show ¬((wU n d:Nat):Int)=1 by lia,yY]
       .have iT:wU n d≠1:=fun e=>Yy (by
         have h1:lg.length<=1:=VF dgg ngg (by lia);have h2:0<lg.length:=by
          rcases xj lg.length with h0 | h0
          .rw [yD h0] at vg;simp[dv] at vg;lia
          .exact h0
         lia)
        rw[yE ⟨hs,iT⟩]
        simp only[go_sem,ya,yb,dF,aA,t3,t4,show (k:Int)<(t.length:Int) by lia,yv,Eg,wrapN (n:=k+1) (by lia),fG,fV,eE,c2,e3,yO,nQ,rW kZ,rW rk,show ¬(600:Int)<(k:Int) by lia,yu,show (t.length:Int)-(k:Int)=((t.length-k:Nat):Int) by lia,wrapN (n:=t.length-k) (by lia),show ((t.length-k:Nat):Int)-1=((t.length-k-1:Nat):Int) by lia,wrapN (n:=t.length-k-1) (by lia),show ¬(600:Int)<((t.length-k-1:Nat):Int) by lia,e4,aQ,de.pu,de.ah,de.one,ej.pu,ej.ah,ej.one,fk,aX,ye,cP,e5,hg.len,hg.shut,show ¬(lg.length:Int)=1 by lia,yY]
 .have hkt:k=t.length:=by lia
  rw[yp (by lia)];by_cases DJ:600<k
  .rw [yE (.inl DJ)];simp only[go_sem,ya,dF,aA,t3,t4,show ¬(k:Int)<(t.length:Int) by lia,yu,show (600:Int)<(k:Int) by lia,yv]
  .rw [yp (by lia),yp (by lia)]
   simp only[go_sem,ya,dF,aA,t3,t4,show ¬(k:Int)<(t.length:Int) by lia,yu,show ¬(600:Int)<(k:Int) by lia,show (t.length:Int)-(k:Int)=((t.length-k:Nat):Int) by lia,wrapN (n:=t.length-k) (by lia),show ((t.length-k:Nat):Int)-1= -1 by lia,show IntKind.wrap .i64 (-1)= -1 by rfl,show ¬(600:Int)<(-1:Int) by lia]
def afR(h:Rm P L){b:Nat}{r:List Nat}{neg:Bool}(fw:decide (((b:Nat):Int)=45)=neg)(hl:t.length<9223372036854775808)(t0:ai tm 0=.str (b::r))(t3:ai tm 3=.str t):
  et [.t 2] (D P L (aA (aA (aA dF.body))) ⟨tm,[],0,0⟩)=Gr (aa (ot neg t)):=by
 obtain⟨k,hk⟩:∃k,k=bS t:=⟨_,rfl⟩;have hkl:k<=t.length:=by rw[hk];exact J5 t
 have e1:=HQ h.Ds (s:=t) (by lia);have e2:=R8 h.R7 h.HV (s:=t.take k) (by rw[yP];lia)
 have e3:=R8 h.R7 h.HV (s:=t.drop (k+1)) (by rw[wh];lia)
 unfold ot;rw[<-hk] at e1 ⊢;have c1:=arB hkl;have hI:oX 0 (.str (b::r))=Gr (.int .u8 (b:Nat)):=rfl;unfold ab at e1 e2 e3;generalize hp:t.take k=p at*
 generalize hq:t.drop (k+1)=q at*
 cases hd:dW p with
 | false=>
  rw[yE (.inl rfl)];rw[hd] at e2;simp only[go_sem,ya,dF,aA,t3,e1,fG,fV,eE,c1,e2,yY]
 | true=>
  rw[hd] at e2;by_cases hz:neg=ydy/\p=[48]
  .rw [yE (.inr hz)];have⟨z1,z2⟩:=hz;rw[z1] at fw;have hb:=of_decide_eq_true fw;subst z2;simp only[go_sem,ya,dF,aA,t0,t3,e1,fG,fV,eE,c1,e2,yO,hI,hb,yv,nQ,show db [48] [48]=ydy from rfl]
  .rw [yp (by simp only[ybC,ycO];exact hz)]
   have fin:∀tm',ai tm' 3=.str t->ai tm' 4=aa k->D P L (.seq (a8 (aA (aA (aA dF.body)))) (a8 (aA (aA (aA (aA dF.body)))))) ⟨tm,[],0,0⟩=Gr (.normal,⟨tm',[],0,0⟩)->et [.t 2] (D P L (aA (aA (aA dF.body))) ⟨tm,[],0,0⟩)=Gr (aa (
     if k<t.length/\(dW q=ydz\/q=[48]\/q=[49]) then 1
     else if 600<k\/600<t.length-k-1 then 4
     else if k<t.length/\wU (gk p) (gk q)≠1 then 1
     else 0)):=fun tm' f3 f4 e=>by
    show et [.t 2] (D P L (.seq (a8 (aA (aA (aA dF.body)))) (.seq (a8 (aA (aA (aA (aA dF.body))))) (aA (aA (aA (aA (aA dF.body))))))) ⟨tm,[],0,0⟩)=_
    rw[Eu,e,ju,<-hp,<-hq];exact axT h hk hl (by rw[hp];exact hd) f3 f4
   by_cases hb:((b:Nat):Int)=45
   .have aCF:p≠[48]:=fun e=>hz ⟨by rw[<-fw];exact yN hb,e⟩
    refine fin _ ?_ ?_ (by simp only[go_sem,ya,dF,a8,aA,t0,t3,e1,fG,fV,eE,c1,e2,yO,hI,hb,yv,nQ,rW aCF]<;>rfl)<;>simp only[go_sem,ya,t3]
   .refine fin _ ?_ ?_ (by simp only[go_sem,ya,dF,a8,aA,t0,t3,e1,fG,fV,eE,c1,e2,yO,hI,hb,yu]<;>rfl)<;>simp only[go_sem,ya,t3]
def Yz(h:Rm P L)(hl:s.length<9223372036854775808):ab P L 263 [.str s] (aa (bX s)):=by
 unfold ab;rw[aD h.aCz]
 cases s with
 | nil=>
  have e1:=HQ h.Ds (s:=[]) (by simp);have e2:=R8 h.R7 h.HV (s:=[]) (by simp);unfold ab at e1 e2;have hc:jz [] (Gr 0) (Gr 0)=Gr (.str []):=rfl;simp only[go_sem,ya,dF,yM,show ¬(0:Int)<((0:Nat):Int) by decide,yu,e1,bS,fG,fV,eE,hc,e2,show dW []=ydz from rfl,yY];rfl
 | cons b t=>
  have Cc:t.length+1<9223372036854775808:=by simpa using hl
  have hI:oX 0 (.str (b::t))=Gr (.int .u8 (b:Nat)):=rfl;by_cases hb:b=45
  .subst hb;have fin:∀tm',ai tm' 0=.str (45::t)->ai tm' 3=.str t->D P L (.seq (a8 dF.body) (.seq (a8 (aA dF.body)) (a8 (aA (aA dF.body))))) ⟨[(0,.str (45::t))],[],0,0⟩=Gr (.normal,⟨tm',[],0,0⟩)->et [.t 2] (D P L dF.body ⟨[(0,.str (45::t))],[],0,0⟩)=Gr (aa (bX (45::t))):=fun tm' f0 f3 e=>by
    show et [.t 2] (D P L (.seq (a8 dF.body) (.seq (a8 (aA dF.body)) (.seq (a8 (aA (aA dF.body))) (aA (aA (aA dF.body)))))) ⟨[(0,.str (45::t))],[],0,0⟩)=_
    rw[acW,e,ju]
    exact afR h (b:=45) rfl (by lia) f0 f3
   have hc:jz (45::t) (Gr 1) (Gr (t.length+1))=Gr (.str t):=by
    have:=U5 (s:=45::t) (k:=1) (by simp)
    simpa using this
   refine fin _ ?_ ?_ (by simp only[go_sem,ya,dF,a8,aA,yB,show (0:Int)<((t.length+1:Nat):Int) by lia,yv,FF,fG,fV,eE,hc]<;>rfl)<;>simp only[go_sem,ya]
  .have fin:∀tm',ai tm' 0=.str (b::t)->ai tm' 3=.str (b::t)->D P L (.seq (a8 dF.body) (.seq (a8 (aA dF.body)) (a8 (aA (aA dF.body))))) ⟨[(0,.str (b::t))],[],0,0⟩=Gr (.normal,⟨tm',[],0,0⟩)->et [.t 2] (D P L dF.body ⟨[(0,.str (b::t))],[],0,0⟩)=Gr (aa (bX (b::t))):=fun tm' f0 f3 e=>by
    show et [.t 2] (D P L (.seq (a8 dF.body) (.seq (a8 (aA dF.body)) (.seq (a8 (aA (aA dF.body))) (aA (aA (aA dF.body)))))) ⟨[(0,.str (b::t))],[],0,0⟩)=_
    rw[acW,e,ju]
    have:=afR h (b:=b) (neg:=ydz) (yC (by lia)) (by simpa using hl) f0 f3
    rw[this];simp only[bX,yp hb]
   refine fin _ ?_ ?_ (by simp only[go_sem,ya,dF,a8,aA,yB,show (0:Int)<((t.length+1:Nat):Int) by lia,yv,hI,show ¬((b:Nat):Int)=45 by lia]<;>rfl)<;>simp only[go_sem,ya]
end
def Af(v:AV)(l:List (List Nat)):Prop:=cF v (l.map AV.str)
section
variable {v:AV}{l:List (List Nat)}
def Af.len(h:Af v l):gF hp 1 v=Gr (.int .i64 (l.length:Nat)):=by
 have:=cF.len (hp:=hp) h
 grind
def Af.bj(h:Af v l){i:Nat}(hi:i<l.length):jb 1 i v=Gr (.bA (.str l[i]::(l.map AV.str).drop (i+1))):=by
 have:=cF.bj h (i:=i) (by simpa using hi)
 grind
def auc(e:Bool)(l:List (List Nat)):Af (.au e l.length (l.map AV.str)) l:=by
 have:=Kq e (l.map AV.str)
 rwa[yU] at this
end
section
open Go (IntKind)
open Classical in
noncomputable def aS(s:List Nat):Rat:=if h:bX s=0 then Classical.choose (axz h) else 0
def CO{s:List Nat}(h:bX s=0):s=RT (aS s)/\(az (aS s).num.natAbs).length<=600/\(az (aS s).den).length<=600:=by
 unfold aS
 grind
def OM{z:Int}{k:Nat}(h:(az z.natAbs).length<=k)(hM:4*k<=M):Bd M z:=by
 have h1:=Ks z.natAbs;have h2:=Ku (az z.natAbs).length;have h3:(2:Nat)^(4*(az z.natAbs).length)<=2^M:=y8 (by decide) (by lia);exact yI h1 (xi h2 h3)
def Kv{s:List Nat}(h:bX s=0)(hM:2400<=M):Hq M (aS s):=by
 have⟨_,h1,h2⟩:=CO h
 exact⟨OM h1 (by lia),OM (z:=((aS s).den:Int)) (by rw[xG];exact h2) (by lia)⟩
noncomputable def ajc(s:List Nat)(least:Int):Int:=if bX s=0 then (if bK (aS s).num<least then 3 else 0) else bX s
instance (k:Nat) (z:Int):Decidable (Bd k z):=inferInstanceAs (Decidable (z.natAbs<2^k))
def aCG:RT 1=[49]:=by decide
def fm:Rat:=⟨1,2,by decide,by decide⟩
def ajd:RT fm=[49,47,50]:=by decide
def YA:Hq 2 0:=⟨by decide,by decide⟩
def aCH:Hq 2 1:=⟨by decide,by decide⟩
def YB:Hq 2 fm:=⟨by decide,by decide⟩
def HX(h:Rp P L)(oA:Has P L 315 FA){a b:Rat}(ka:Hq K a)(kb:Hq M b)(hK:K+M+1<=8000000000):ab P L 315 [.str (RT a),.str (RT b)] (aa (bK (a-b).num)):=by
 have e1:=QA h ka kb hK;have e2:=Hu h.toRm (ka.sub kb) hK;unfold ab at e1 e2 ⊢;rw[aD oA];simp only[go_sem,ya,FA,e1,e2]
def aCI(h:Rn P L)(YC:Has P L 319 Rg){a:Rat}(ka:Hq K a)(hK:K+2<=8000000000):ab P L 319 [.str (RT a)] (.str (RT (a*fm))):=by
 have e1:=Dj h ka YB hK;rw[ajd] at e1;unfold ab at e1 ⊢;rw[aD YC];simp only[go_sem,ya,Rg,e1]
end
def abq(q:Rat):q.num<0↔q<0:=by
 have h:=@Rat.num_nonneg q
 grind
def aud(a b:Rat):bK (a-b).num=jO a b:=by
 unfold bK jO;by_cases h1:a<b
 .rw [yE ((abq _).2 (by grind)),yE h1]
 .rw [yp (fun e=>h1 (by have:=(abq _).1 e;grind)),yp h1]
  by_cases h2:a=b
  .subst h2;rw[yE (by rw[Rat.sub_self];rfl),yE rfl]
  .rw [yp (fun e=>h2 (by have:=ycm.1 e;grind)),yp h2]
def axU(hs h:Rat):Bool:=decide (hs=0)||decide (h<hs)
section
variable {s1 s2 s3 s4:Int}{w1 w2 w3 w4:AV}{l1 l2 l3 l4:List Nat}
def mX(a b c d:AV)(r:List AV):jj 4 ydy (a::b::c::d::r)=Gr (.agg [a,b,c,d]):=rfl
end
structure F4(c1 c2 c3 c4:AV):Prop where
 ah:∀(n:Nat) (hp:Hp),freeze (n+20) hp (.agg [c1,c2,c3,c4])=Gr (.agg [c1,c2,c3,c4],hp)
 c9:∀hp:Hp,result hp (.agg [c1,c2,c3,c4])=Gr (.agg [c1,c2,c3,c4])
 st:∀(hp:Hp) (ct id:Nat) (a b c d:AV),jr hp ct id 0 4 [c1,c2,c3,c4] (Gr (.cells ydy ydy ydy 4 [a,b,c,d]))=Gr (.av [],aR hp id (.cells ydy ydy ydy 4 [c1,c2,c3,c4]),ct)
 bx:∀ct:Nat,lJ ct 4 [c1,c2,c3,c4]=Gr (.ptr ct 0,.cells ydy ydy ydy 4 [c1,c2,c3,c4])
 o1:dL c1=ydy
 o2:dL c2=ydy
 o3:dL c3=ydy
 o4:dL c4=ydy
 pu:aV (.agg [c1,c2,c3,c4])=ydy
 z1:∀(n:Nat) (hp:Hp),freeze (n+1) hp c1=Gr (c1,hp)
 z2:∀(n:Nat) (hp:Hp),freeze (n+1) hp c2=Gr (c2,hp)
 z3:∀(n:Nat) (hp:Hp),freeze (n+1) hp c3=Gr (c3,hp)
 z4:∀(n:Nat) (hp:Hp),freeze (n+1) hp c4=Gr (c4,hp)
def bW.gen{a:Rat}(h:bW v a):∃c1 c2 c3 c4,v=.agg [c1,c2,c3,c4]/\F4 c1 c2 c3 c4:=by
 obtain⟨s1,w1,s2,w2,rfl,h1,h2⟩:=h;have⟨l1,u1⟩:=h1.aI;have⟨l2,u2⟩:=h2.aI;refine⟨_,_,_,_,rfl,fun n hp=>?_,lF u1 u2,fun hp ct id a b c d=>lE u1 u2 hp ct id a b c d,fun ct=>by simp only[go_sem,yb,aQ,u1.pu,u1.one,u2.pu,u2.one],rfl,u1.one,rfl,u2.one,by simp[aV,aH,u1.pu,u2.pu],fun _ _=>rfl,fun n _=>u1.ah n,fun _ _=>rfl,fun n _=>u2.ah n⟩;exact bP _ _ (by simp only[go_sem,u1.ah,u2.ah])
def Kw{a b:Int}:bf [a,b]=0↔a=0/\b=0:=by
 simp only[bf]
 grind
def ae6{a b c:Int}:bf [a,b,c]=0↔a=0/\b=0/\c=0:=by
 simp only[bf];by_cases h:a=0<;>by_cases h2:b=0<;>by_cases h3:c=0<;>simp[h,h2,h3]
def aAo(n k:Nat)(h:n<k)(h0:k≠0):Hq k ((2:Rat)^n):=by
 refine⟨?_,?_⟩
 .rw [ydo];unfold Bd;show ((2:Int)^n).natAbs<_
  rw[Int.natAbs_pow];exact vE (by decide) h
 .rw [ydp];unfold Bd;show (((1:Nat)^n:Nat):Int).natAbs<_
  rw[Nat.one_pow];exact vP h0
def ad5(k:Nat){z:Int}(h:Bd k z)(h0:k≠0):Hq k ((z:Int):Rat):=⟨by rw[vI];exact h,by rw[vt];exact vP h0⟩
def ahz(k j:Nat){s:Bool}(h:M<2^j)(hj:j<=k):Bd k (bk s M):=by
 unfold Bd bk
 have:(if s=ydy then -(M:Int) else (M:Int)).natAbs=M:=by split<;>omega
 rw[this];exact yI h (y8 (by decide) hj)
def lf(s:Bool)(M:Nat):Rat:=((bk s M:Int):Rat)*p2 (-149)
def aje(h:Fr' P L)(qH:Has P L 155 Ft)(B2:Has P L 241 HG){a:Rat}{k:Nat}(hv:bW v a)(ka:Hq K a)(hK:K*k+1<=30000000000)(hk:k<9223372036854775808):∃r,ab P L 241 [v,aa k] r/\bW r (a^k):=by
 obtain⟨s1,w1,s2,w2,rfl,h1,h2⟩:=hv;obtain⟨l1,u1⟩:=h1.aI;obtain⟨l2,u2⟩:=h2.aI;obtain⟨n,e1,hn⟩:=Yj h.toNu qH ⟨s1,w1,rfl,h1⟩ ka.1 hK hk;obtain⟨d,e2,hd⟩:=Yj h.toNu qH ⟨s2,w2,rfl,h2⟩ ka.2 hK hk;obtain⟨s3,w3,rfl,h3⟩:=hn;obtain⟨s4,w4,rfl,h4⟩:=hd;obtain⟨l3,u3⟩:=h3.aI;obtain⟨l4,u4⟩:=h4.aI;refine⟨.agg [aa s3,w3,aa s4,w4],?_,s3,w3,s4,w4,rfl,by rw[ydo];exact h3,by rw[ydp,Int.natCast_pow];exact h4⟩
 unfold ab at e1 e2;unfold ab;rw[aD B2];simp only[go_sem,ya,yb,HG,aQ,u1.pu,u1.ah,u1.one,u2.pu,u2.ah,u2.one,u3.one,u4.one,aX,ye,qu,AE,bP,e1,e2,bh,CS,CT,lE u3 u4,dw,dB,yg,dV,lF u3 u4]
def Lm:Hq 2 (2:Rat):=⟨by unfold Bd;decide,by unfold Bd;decide⟩
def YD(h:Fr' P L)(qH:Has P L 155 Ft)(B2:Has P L 241 HG)(FN:Has P L 228 HE){k:Int}(hk: -100000<=k/\k<=100000):∃r,ab P L 228 [aa k] r/\bW r (p2 k):=by
 obtain⟨t,e1,ht⟩:=D7 h (z:=2) (by decide) (by decide);have ht:bW t (2:Rat):=ht;have un:=zn;obtain⟨t1,t2,t3,t4,rfl,ft⟩:=ht.gen;by_cases c:k<0
 .obtain ⟨n,hn⟩:∃n:Nat,k= -(n:Int):=⟨k.natAbs,by omega⟩;obtain⟨q,e2,hq⟩:=aje h qH B2 ht Lm (k:=n) (by omega) (by omega);have kq:Hq 100001 ((2:Rat)^n):=aAo n 100001 (by omega) (by decide);have h0:(2:Rat)^n≠0:=by
   have:=Qu n
   rwa[show p2 n=(2:Rat)^n from tE _ _] at this
  obtain⟨r,e3,hr⟩:=m73 h hq h0 kq (by decide);obtain⟨q1,q2,q3,q4,rfl,fq⟩:=hq.gen;have hp:((2:Rat)^n)⁻¹=p2 k:=by
   rw[hn];unfold p2;rw[ycX,tE]
  rw[hp] at hr;have bQ:=hr;obtain⟨s1,w1,s2,w2,rfl,k1,k2⟩:=hr;obtain⟨l1,u1⟩:=k1.aI;obtain⟨l2,u2⟩:=k2.aI;refine⟨_,?_,bQ⟩;have wn:IntKind.wrap .i64 (0-k)=(n:Int):=by rw[wrap64 (by omega) (by omega)];omega
  unfold ab at e1 e2 e3;unfold ab;rw[aD FN];simp only[go_sem,ya,yb,HE,aQ,c,yv,e1,ft.ah,wn,e2,fq.ah,e3,bh,lE u1 u2,dw,dB,yg,dV,lF u1 u2]
 .obtain ⟨n,hn⟩:∃n:Nat,k=(n:Int):=⟨k.natAbs,by omega⟩;subst hn;obtain⟨r,e2,hr⟩:=aje h qH B2 ht Lm (k:=n) (by omega) (by omega);have hp:(2:Rat)^n=p2 n:=(tE _ _).symm;rw[hp] at hr;have bQ:=hr;obtain⟨s1,w1,s2,w2,rfl,k1,k2⟩:=hr;obtain⟨l1,u1⟩:=k1.aI;obtain⟨l2,u2⟩:=k2.aI;refine⟨_,?_,bQ⟩;unfold ab at e1 e2;unfold ab;rw[aD FN];simp only[go_sem,ya,yb,HE,aQ,c,yu,e1,ft.ah,e2,bh,lE u1 u2,dw,dB,yg,dV,lF u1 u2]
section
variable {s:Bool}{M:Nat}
def lQ(b:Nat):refs (.an .f32 b)=[]:=rfl
def lV(f:Nat->Option Nat)(b:Nat):br f (.an .f32 b)=.an .f32 b:=rfl
def zu(n:Nat)(hp:Hp)(b:Nat):freeze (n+1) hp (.an .f32 b)=Gr (.an .f32 b,hp):=rfl
structure Fx(P:aF)(L:Lib):Prop extends Fr' P L where
 qH:Has P L 155 Ft
 FN:Has P L 228 HE
 aCJ:Has P L 232 oe
 B2:Has P L 241 HG
def sZ:Hp:=[(0,.cells ydy ydy ydy 4 [.int .i64 0,.aj,.int .i64 0,.aj])]
def axV(hM:M<2^277):
  cE P L [0,2,3] KQ (fun d st=>∃(b:Nat) (N:Nat) (k:Nat),d=N/\Fl b s N/\N*2^k=M/\(M=0->k=0)/\st=⟨[(0,.an .f32 b),(2,.ptr 0 0),(3,aa k)],sZ,1,0⟩) (fun ex s'=>∃tm ct b N,∃k:Nat,s'=⟨tm,sZ,ct,0⟩/\ex=.exit 0/\Fl b s N/\N*2^k=M/\N<2^173/\k<277/\ai tm 0=.an .f32 b/\ai tm 2=.ptr 0 0/\ai tm 3=aa k):=by
 apply cI;rintro d st ⟨b,N,k,hd,hN,hq,hz,rfl⟩;have hk:k<277:=by
  by_cases h0:M=0
  .rw [hz h0];decide
  .have N0:0<N:=by
    rcases xj N with q | q
    .rw [q,wz] at hq;exact absurd hq.symm h0
    .exact q
   have h1:2^k<=N*2^k:=uz _ N0;exact aiU k 277 (xQ (by rw[hq] at h1;exact h1) hM)
 obtain⟨a,e1,ha⟩:=aAc hN;have e2:=ahq ha ahr;have hc:(bk ydz (2^173)<=bk ydz N)↔2^173<=N:=ycY;unfold sZ;by_cases c:2^173<=N
 .left
  obtain⟨b',e3,bE⟩:=Wf hN (hN.even c);have A7:=hN.even c;rw[yN (hc.2 c)] at e2;have wk:IntKind.wrap .i64 ((k:Int)+1)=((k+1:Nat):Int):=wrap64 (by omega) (by omega);simp only[go_sem,ya,KQ,Qw,oT,e1,e2,e3,wk];have qK:0<2^k:=xf _;have Bh:M≠0:=fun q=>by
   rw[q] at hq
   have:=wV (show 0<N by omega) qK
   omega
  refine⟨_,N/2,rfl,by omega,b',N/2,k+1,rfl,bE,by rw[xp,xg (2^k),<-xk,show N/2*2=N by omega,hq],fun q=>absurd q Bh,?_⟩;simp only[go_sem,ya,yb,aq,lQ,lV]<;>rfl
 .right
  rw[yC (fun q=>c (hc.1 q))] at e2;simp only[go_sem,ya,KQ,Qw,oT,e1,e2];exact⟨_,_,rfl,by simp,_,_,b,N,k,rfl,rfl,hN,hq,by omega,hk,by simp only[go_sem,ya],by simp only[go_sem,ya],by simp only[go_sem,ya]⟩
def axW:
  cE P L [0,2,3] KR (fun d st=>∃(b:Nat) (N:Nat) (j:Nat) (k:Int),d+j=149/\Fl b s N/\2^j∣N/\N<2^173/\(N:Rat)*p2 k=(M:Rat)/\-149<=k+j/\k+j<=277/\st=⟨[(0,.an .f32 b),(2,.ptr 0 0),(3,aa k)],sZ,1,0⟩) (fun ex s'=>∃tm ct b N,∃k:Int,s'=⟨tm,sZ,ct,0⟩/\ex=.exit 2/\Fl b s N/\N%2^149=0/\N<2^173/\(N:Rat)*p2 k=(M:Rat)/\-298<=k/\k<=277/\ai tm 0=.an .f32 b/\ai tm 2=.ptr 0 0/\ai tm 3=aa k):=by
 apply cI;rintro d st ⟨b,N,j,k,hd,hN,hj,aG,hq,k1,k2,rfl⟩;have ss:N<2^200:=vG aG (by decide);have e1:=PH hN ss;have hn:N/2^149<2^24:=by rw[xH (xf _),<-xF];exact aG
 have ha:(bk s (N/2^149)).natAbs=N/2^149:=by unfold bk;split<;>omega
 obtain⟨c,e2,hc⟩:=VD (n:=bk s (N/2^149)) (by omega);rw[ha] at hc;have e3:=WX hN hc;have eZ:=xL N (2^149);have hw:(bk s N=bk (decide (bk s (N/2^149)<0)) (N/2^149*2^149))↔N%2^149=0:=by
  have hX0:N/2^149=0->N/2^149*2^149=0:=fun h=>by rw[h,wz]
  generalize hQ:N/2^149=q at*
  generalize hR:N%2^149=r at*
  rw[xg] at eZ;generalize q*2^149=X at*
  unfold bk
  cases s with
  | false=>
   have:decide ((if ydz=ydy then -(q:Int) else (q:Int))<0)=ydz:=yC (by simp)
   rw[this];simp;omega
  | true=>
   rw[yE rfl,yE rfl];by_cases q0:q=0
   .have hX:=hX0 q0
    have:decide (-(q:Int)<0)=ydz:=yC (by omega)
    rw[this,yp (by decide)];omega
   .have:decide (-(q:Int)<0)=ydy:=yN (by omega)
    rw[this,yE rfl];omega
 unfold sZ;by_cases w:N%2^149=0
 .right
  rw[yN (hw.2 w)] at e3;simp only[go_sem,ya,KR,e1,e2,e3,yO];have aHH:j<=149:=by omega
  exact⟨_,_,rfl,by simp,_,_,b,N,k,rfl,rfl,hN,w,aG,hq,by omega,by omega,by simp only[go_sem,ya],by simp only[go_sem,ya],by simp only[go_sem,ya]⟩
 .left
  rw[yC (fun q=>w (hw.1 q))] at e3;have aCK:N<2^172:=by
   by_cases q:N<2^172
   .exact q
   .exact absurd (hN.whole (by omega)) w
  obtain⟨b',e4,bE⟩:=We hN (vG aG (aiT 173 276 (by decide)));have FU:j<149:=by
   rcases vv j 149 with q | q
   .exact q
   .have:j=149:=by omega
    subst this;exact absurd (ybi hj) w
  have wk:IntKind.wrap .i64 (k-1)=k-1:=wrap64 (by omega) (by omega);simp only[go_sem,ya,KR,e1,e2,e3,yY,e4,wk];refine⟨_,d-1,rfl,by omega,b',2*N,j+1,k-1,by omega,bE,by rw[xp,xg (2^j)];exact yby 2 hj,by omega,?_,by omega,by omega,?_⟩
  .rw [<-hq,xK]
   have:p2 k=p2 1*p2 (k-1):=by rw[<-eR,show 1+(k-1)=k by omega]
   rw[this,sq];show (2:Rat)*(N:Rat)*p2 (k-1)=(N:Rat)*(2*p2 (k-1))
   grind
  .simp only [go_sem,ya,yb,aq,lQ,lV]<;>rfl
def afS{k:Int}(h:(N:Rat)*p2 k=(M:Rat))(hw:N%2^149=0):((bk s (N/2^149):Int):Rat)*p2 k=lf s M:=by
 have e:N=N/2^149*2^149:=by have:=xL N (2^149);omega
 have h1:((N/2^149:Nat):Rat)*p2 149=(N:Rat):=by
  conv=>rhs;rw[e,xK,<-fL]
  rfl
 generalize N/2^149=n at h1;have h2:((n:Nat):Rat)*p2 k=(M:Rat)*p2 (-149):=by
  rw[<-h,<-h1]
  have:p2 149*p2 (-149)=1:=by rw[<-eR];exact pq
  have h3:(n:Rat)*p2 149*p2 k*p2 (-149)=(n:Rat)*p2 k*(p2 149*p2 (-149)):=by grind
  rw[h3,this,wO]
 unfold lf bk;have c1:(((n:Nat):Int):Rat)=(n:Rat):=rfl;have c2:(((M:Nat):Int):Rat)=(M:Rat):=rfl
 cases s with
 | true=>rw[yE rfl,yE rfl,uW,uW,c1,c2];grind
 | false=>rw[yp (by decide),yp (by decide),c1,c2];exact h2
def W3(k:Int):Hq (k.natAbs+2) (p2 k):=by
 by_cases c:0<=k
 .obtain ⟨n,rfl⟩:∃n:Nat,k=n:=⟨k.natAbs,by omega⟩;rw[show p2 (n:Int)=((2^n:Nat):Int) from fL n];exact⟨by rw[vI];unfold Bd;rw[xG];exact vE (by decide) (by omega),by rw[vt];unfold Bd;exact vP (by omega)⟩
 .obtain ⟨n,rfl⟩:∃n:Nat,k= -(n:Int):=⟨k.natAbs,by omega⟩
  have:p2 (-(n:Int))=(p2 n)⁻¹:=by unfold p2;rw[ycX]
  rw[this];refine Hq.inv ?_;rw[show p2 (n:Int)=((2^n:Nat):Int) from fL n];exact⟨by rw[vI];unfold Bd;rw[xG];exact vE (by decide) (by omega),by rw[vt];unfold Bd;exact vP (by omega)⟩
def B3(k:Int)(hk:k.natAbs<=900):Hq 1001 (p2 k):=(W3 k).mono (by omega)
def aCL(h:Fx P L){b:Nat}(hb:Fl b s M):∃r,ab P L 232 [.an .f32 b] r/\bW r (lf s M):=by
 have key:∀(b' N:Nat) (k:Int) (tm:Env) (ct:Nat),Fl b' s N->N%2^149=0->N<2^173->(N:Rat)*p2 k=(M:Rat)-> -298<=k->k<=277->ai tm 0=.an .f32 b'->ai tm 2=.ptr 0 0->ai tm 3=aa k->∃r,et oe.c9 (D P L (cD 3 oe.body) ⟨[(0,.an .f32 b'),(2,.ptr 0 0),(3,aa k)],sZ,1,0⟩)=Gr r/\bW r (lf s M):=by
  intro b' N k tm ct hN hw aG hq k1 k2 _ _ _;have e1:=PH hN (vG aG (by decide));have hn:N/2^149<2^24:=by rw[xH (xf _),<-xF];exact aG
  have ha:(bk s (N/2^149)).natAbs=N/2^149:=by unfold bk;split<;>omega
  have hx:=afS (s:=s) hq hw;generalize bk s (N/2^149)=z at*
  obtain⟨u,e2,hu⟩:=D7 h.toFr' (z:=z) (by omega) (by omega);obtain⟨v,e3,hv⟩:=YD h.toFr' h.qH h.B2 h.FN (k:=k) (by omega);have ku:Hq 25 ((z:Int):Rat):=⟨by rw[vI];unfold Bd;omega,by rw[vt];unfold Bd;decide⟩
  obtain⟨r,e4,hr⟩:=NH h.toFr' hu hv (ku.mono (show 25<=1001 by decide)) (B3 k (by omega)) (by decide);rw[hx] at hr;have bQ:=hr;obtain⟨u1,u2,u3,u4,rfl,fu⟩:=hu.gen;obtain⟨v1,v2,v3,v4,rfl,il⟩:=hv.gen;obtain⟨r1,r2,r3,r4,rfl,fr⟩:=hr.gen;refine⟨_,?_,bQ⟩;unfold ab at e2 e3 e4;unfold sZ;simp only[go_sem,ya,oe,cD,aA,e1,e2,fu.ah,e3,il.ah,e4,fr.c9,fr.st,bh,dw,dB,yg,dV]
 have l1:=axV (P:=P) (L:=L) (s:=s) hb.lt M;unfold ab;rw[aD h.aCJ];have cut:oe.body=.seq (a8 oe.body) (.seq (a8 (cD 0 oe.body)) (.seq (a8 (cD 1 oe.body)) (.seq (a8 (cD 2 oe.body)) (cD 3 oe.body)))):=rfl;show ∃r,et oe.c9 (D P L oe.body _)=Gr r/\_
 rw[cut];generalize cD 3 oe.body=T at key ⊢;simp only[go_sem,yb,oe,cD,aA,a8,aQ];generalize hq:D P L (.loop _ KQ) _=q;obtain⟨ex,st,rfl,tm,ct,b',N,k,rfl,rfl,hN,hNk,aG,hk,t0,t2,t3⟩:=bg hq l1 ⟨b,M,0,rfl,hb,by rw[vX,yh],fun _=>rfl,by unfold sZ;simp only[go_sem,ya,yb,aq,lQ,lV]<;>rfl⟩
 unfold sZ;simp only[go_sem,yb,aq,t0,t2,t3,lQ,lV];generalize hq:D P L (.loop _ KR) _=q;have l2:=axW (P:=P) (L:=L) (s:=s) (M:=M) 149;obtain⟨ex,st,rfl,tm,ct,b2,N2,k2,rfl,rfl,hN2,hw,ss,Bb,k3,k4,u0,u2,u3⟩:=bg hq l2 ⟨b',N,0,k,rfl,hN,by rw[vX];exact ydq N,aG,by rw[<-hNk,xK,fL],by omega,by omega,by unfold sZ;simp only[go_sem,ya,yb,aq,lQ,lV]<;>rfl⟩
 unfold sZ;simp only[go_sem,yb,aq,u0,u2,u3,lQ,lV];exact key b2 N2 k2 tm ct hN2 hw ss Bb k3 k4 u0 u2 u3
end
section
variable {a b c d:AV}{cs:List AV}{l:List Rat}{x:Rat}
def QL:List AV->List Rat->Prop
 | [],[]=>True
 | a::b::c::d::r,x::l=>bW (.agg [a,b,c,d]) x/\QL r l
 | _,_=>False
def QL.inv(h:QL cs (x::l)):∃a b c d r,cs=a::b::c::d::r/\bW (.agg [a,b,c,d]) x/\QL r l:=by
 match cs,h with
 | a::b::c::d::r,h=>exact⟨a,b,c,d,r,rfl,h.1,h.2⟩
def QL.ajf(h:QL cs []):cs=[]:=by
 match cs,h with
 | [],_=>rfl
 | [_],h=>exact h.elim
 | [_,_],h=>exact h.elim
 | [_,_,_],h=>exact h.elim
 | _::_::_::_::_,h=>exact h.elim
def QL.len:∀{l:List Rat} {cs:List AV},QL cs l->cs.length=l.length*4
 | [],_,h=>by rw[h.ajf];rfl
 | x::l,cs,h=>by
  obtain⟨a,b,c,d,r,rfl,_,h2⟩:=h.inv
  have:=h2.len
  grind
def F4.pus{c1 c2 c3 c4:AV}(g:F4 c1 c2 c3 c4):aV c1=ydy/\aV c2=ydy/\aV c3=ydy/\aV c4=ydy:=by
 have:=g.pu
 simpa only[aV,aH,uk,yf] using this
def bW.f4(h:bW (.agg [a,b,c,d]) x):F4 a b c d:=by
 have⟨_,_,_,_,e,g⟩:=h.gen
 grind
def QL.ew:∀{l m:List Rat} {cs ds:List AV},QL cs l->QL ds m->QL (cs++ds) (l++m)
 | [],m,cs,ds,h,k=>by rw[h.ajf];exact k
 | x::l,m,cs,ds,h,k=>by
  obtain⟨a,b,c,d,r,rfl,h1,h2⟩:=h.inv;exact⟨h1,h2.ew k⟩
def QL.snoc(h:QL cs l)(k:bW (.agg [a,b,c,d]) x):QL (cs++[a,b,c,d]) (l++[x]):=h.ew ⟨k,trivial⟩
def QL.get:∀{l:List Rat} {cs:List AV} {i:Nat},QL cs l->∀(hi:i<l.length),∃a b c d r,cs.drop (i*4)=a::b::c::d::r/\bW (.agg [a,b,c,d]) l[i]
 | [],_,i,_,hi=>absurd hi (ybp i)
 | x::l,cs,0,h,hi=>by
  obtain⟨a,b,c,d,r,rfl,h1,_⟩:=h.inv
  grind
 | x::l,cs,i+1,h,hi=>by
  obtain⟨a,b,c,d,r,rfl,_,h2⟩:=h.inv;have⟨a',b',c',d',r',e,k⟩:=h2.get (i:=i) (by simpa using hi)
  grind
def nt(v:AV)(l:List Rat):Prop:=(v=.aj/\l=[])\/∃e cs,v=.au e l.length cs/\QL cs l
section
variable {v:AV}{l:List Rat}{hp:Hp}
def nt.len(h:nt v l){hp:Hp}:gF hp 1 v=Gr (.int .i64 (l.length:Nat)):=by
 rcases h with ⟨rfl,rfl⟩ | ⟨e,cs,rfl,h⟩<;>rfl
def nt.pu(h:nt v l):aV v=ydy:=by
 rcases h with ⟨rfl,rfl⟩ | ⟨e,cs,rfl,h⟩<;>rfl
def nt.bj(h:nt v l){i:Nat}(hi:i<l.length):∃a b c d r,jb 4 i v=Gr (.bA (a::b::c::d::r))/\bW (.agg [a,b,c,d]) l[i]:=by
 rcases h with ⟨rfl,rfl⟩ | ⟨e,cs,rfl,h⟩
 .grind
 .have ⟨a,b,c,d,r,e1,e2⟩:=h.get hi;refine⟨a,b,c,d,r,?_,e2⟩;rw[Pv e _ hi,e1]
def ad6(e:Bool)(h:QL cs l):nt (.au e l.length cs) l:=.inr ⟨e,cs,rfl,h⟩
end
def axX{x0 x1 x2 x3:AV}{r:List (Nat×Nat×X)}(h1:dL a=ydy)(h2:dL b=ydy)(h3:dL c=ydy)(h4:dL d=ydy):lD tm [x0,x1,x2,x3] 0 4 [a,b,c,d] r=fill tm [a,b,c,d] r:=by
 rw[Pw (by rfl) (by simp) (by simp[b9,h1,h2,h3,h4])];rfl
def ahA(cf pu ex:Bool)(a b c d:AV):pG 0 1 4 (Gr (.cells cf pu ex 4 [a,b,c,d]))=Gr (1,[a,b,c,d]):=rfl
end
section
variable {K:Nat}{r:Rat}
def U6{a b:Nat}(h:az a=az b):a=b:=by
 have h1:=Bp a;rw[h,Bp b] at h1
 grind
def ae7:∀(k n:Nat),n<k->n≠0->∃b r,az n=b::r/\b≠48
 | 0,n,h,_=>absurd h (ybp n)
 | k+1,n,h,h0=>by
  by_cases h1:n<10
  .exact ⟨48+n,[],pQ h1,by lia⟩
  .have ⟨b,r,e,hb⟩:=ae7 k (n/10) (by lia) (by lia);exact⟨b,r++[48+n%10],by rw[rH (by lia),e];rfl,hb⟩
def ad7(n:Nat):dW (az n)=ydy:=by
 unfold dW;rw[CH,wI];by_cases h0:n=0
 .subst h0;decide
 .have ⟨b,r,e,hb⟩:=ae7 (n+1) n (by lia) h0;rw[e]
  have:yt b 48=ydz:=by
   cases hq:yt b 48 with
   | false=>rfl
   | true=>exact absurd (yi hq) hb
  simp[this]
def ad8(n:Nat):gk (az n)=n:=by unfold gk;rw[Bp];rfl
def arC{z:Int}(h:¬z<0):bc z=az z.natAbs:=by
 obtain⟨m,rfl⟩:∃m:Nat,z=m:=⟨z.toNat,by lia⟩;rw[mz,xG]
def W4(r:Rat):RT r=bc r.num++kO r.den:=rfl
def axY(h1:(az r.num.natAbs).length<=600)(h2:(az r.den).length<=600):bX (RT r)=0:=by
 have key:∀neg:Bool,(neg=ydy->r.num.natAbs≠0)->ot neg (az r.num.natAbs++kO r.den)=0:=by
  intro neg fw;have hco:wU r.num.natAbs r.den=1:=r.reduced;have ij:r.den≠0:=r.den_nz;generalize r.num.natAbs=m at*
  generalize r.den=d at*
  have hs:bS (az m++kO d)=(az m).length:=by rw[JN _ (CH m),abV];rfl
  have c1:¬((ydy=ydz)\/(neg=ydy/\az m=[48])):=by
   rintro (h | ⟨h,h'⟩)
   .grind
   .exact fw h (U6 (h'.trans (by decide)))
  unfold ot;rw[hs,tV,ad7,yp c1];by_cases hd:d=1
  .have hr:kO d=[]:=yE hd
   grind
  .have hr:kO d=47::az d:=yp hd;have kC:(az m++kO d).drop ((az m).length+1)=az d:=by
    simp_all
   have hl:(az m++kO d).length=(az m).length+1+(az d).length:=by grind
   rw[kC,hl,ad7,ad8,ad8];have n0:az d≠[48]:=fun e=>ij (U6 (e.trans (by decide)))
   have n1:az d≠[49]:=fun e=>hd (U6 (e.trans (by decide)))
   grind
 rw[W4];by_cases h0:r.num<0
 .rw [oO h0];show (if 45=45 then ot ydy (az r.num.natAbs++kO r.den) else ot ydz (45::(az r.num.natAbs++kO r.den)))=0
  grind
 .rw [arC h0];have k:=key ydz (fun h=>by cases h);have hp:=Bs r.num.natAbs;have mS:=CH r.num.natAbs
  cases hq:az r.num.natAbs with
  | nil=>rw[hq] at hp;simp at hp
  | cons b t=>
   rw[hq] at k mS
   have:=acS mS
   show (if b=45 then ot ydy (t++kO r.den) else ot ydz (b::(t++kO r.den)))=0
   grind
def Wh(h:Hq K r)(hK:K<=1800):(az r.num.natAbs).length<=600/\(az r.den).length<=600:=by
 refine⟨T8 (B:=K) hK (by decide) h.1,T8 (B:=K) hK (by decide) ?_⟩
 have:=h.2
 unfold Bd at this
 grind
def axZ(h:Hq K r)(hK:K<=1800):bX (RT r)=0:=axY (Wh h hK).1 (Wh h hK).2
def aAp(h:Hq K r)(hK:K<=1800):LG r=ydz:=by
 obtain⟨h1,h2⟩:=Wh h hK;unfold LG LN
 grind
end
def R9(h:Ck P L){s:List Nat}(h0:bX s=0):∃r,ab P L 62 [.str s] r/\bW r (aS s):=by
 have⟨hR,_⟩:=CO h0;have kr:=Kv h0 (yx 2400);have hl:=C6 kr;have⟨r,e,hr⟩:=m62 h.toTx (a:=aS s) (by lia);rw[<-hR] at e;exact⟨r,e,hr⟩
def VH(a b:Rat):decide (0<jO a b)=decide (b<a):=by
 unfold jO;by_cases h1:a<b
 .have:¬b<a:=by grind
  simp[h1,this]
 .by_cases h2:a=b
  .subst h2;simp[ud]
  .have:b<a:=by grind
   simp[h1,h2,this]
def ae8(a b:Rat):decide (0<=jO a b)=decide (b<=a):=by
 unfold jO;by_cases h1:a<b
 .have:¬b<=a:=by grind
  simp[h1,this]
 .by_cases h2:a=b
  .subst h2;simp[ud]
  .have:b<=a:=by grind
   simp[h1,h2,this]
def as0:bT (.int .i64 0)=Gr 0:=rfl
def DF:bT (.int .i64 1)=Gr 1:=rfl
def ahB(h:Rp P L)(oA:Has P L 315 FA){a b:Rat}(ka:Hq K a)(kb:Hq M b)(hK:K+M+1<=8000000000):ab P L 315 [.str (RT a),.str (RT b)] (aa (jO a b)):=by
 have:=HX h oA ka kb hK
 rwa[aud] at this
def aCM(h:Rp P L)(oA:Has P L 315 FA)(MK:Has P L 449 HK){a b:Rat}(ka:Hq K a)(kb:Hq K b)(hK:K<=1000000000):ab P L 449 [.str (RT a),.str (RT b)] (.str (RT (if a<b then b else a))):=by
 have e1:=ahB h oA ka kb (by omega);unfold ab at e1 ⊢;rw[aD MK];by_cases hb:a<b
 .rw [yE hb];simp only[go_sem,ya,HK,e1,ae8,yC (show ¬b<=a from Rat.not_le.2 hb)]
 .rw [yp hb];simp only[go_sem,ya,HK,e1,ae8,yN (show b<=a from Rat.not_lt.1 hb)]
def apu{n:Int}(hd:0<d):n/(d:Int)=if n<0/\0<n.natAbs%d then -((n.natAbs/d:Nat)+1:Int) else cm (decide (n<0)) (n.natAbs/d):=by
 have eZ:=xL n.natAbs d;have hm:=xE n.natAbs hd;generalize n.natAbs/d=q at*
 generalize hr:n.natAbs%d=r at*
 by_cases h0:n<0
 .have hn:n= -((d*q+r:Nat):Int):=by omega
  by_cases h1:0<r
  .rw [yE ⟨h0,h1⟩];rw[hn]
   refine (Int.ediv_emod_unique (a:= -((d*q+r:Nat):Int)) (b:=(d:Int)) (r:=(d:Int)-r) (q:= -((q:Int)+1)) (by omega)).2 ⟨?_,by omega,by omega⟩ |>.1
   grind
  .have:r=0:=by omega
   subst this;rw[yp (by omega)];unfold cm;rw[yE (by simpa using h0),hn,y7,xx,<-ydl,Int.mul_ediv_cancel_left _ (by omega)]
 .rw [yp (by omega)];unfold cm;rw[yp (by simpa using h0)];have hn:n=((d*q+r:Nat):Int):=by omega
  rw[hn];rw[<-yce,tA hd,xU hm,y7]
def ajg(h:Rm P L)(DB:Has P L 338 FB){a:Rat}(ka:Hq K a)(hK:K<=8000000000):ab P L 338 [.str (RT a)] (.bool (decide (a.den=1))):=by
 have hl:=C6 ka;have e0:=HQ h.Ds (s:=RT a) (by omega);unfold ab at e0 ⊢;rw[aD DB];by_cases hd:a.den=1
 .have hs:bS (RT a)=(RT a).length:=by
   unfold RT;rw[yE hd]
   have:=Of a.num []
   rw[this];simp[bS]
  rw[hs] at e0;simp only[go_sem,ya,FB,e0,hd,yv]
 .have hs:bS (RT a)<(RT a).length:=by
   unfold RT;rw[yp hd,Of];simp[bS]
  rw[yC hd];simp only[go_sem,ya,FB,e0,show ¬((bS (RT a):Nat):Int)=((RT a).length:Int) by omega,yu]
def aCN(h:Rm P L)(HY:Has P L 339 FC){w:AV}{n d:Int}(hK:K<=7000000000)(hv:jQ v n)(hw:jQ w d)(kn:Bd K n)(kd:Bd K d)(hd:0<d):∃r,ab P L 339 [v,w] r/\jQ r (n/d):=by
 obtain⟨x,a,rfl,hx,ha,na,va⟩:=hv;obtain⟨y,b,rfl,hy,hb,nb,vb⟩:=hw;have la:=xi (jx ha na (by rw[va];exact kn.r)) hK
 have lb:=xi (jx hb nb (by rw[vb];exact kd.r)) hK
 obtain⟨q,r,lq,lr,e1,hq,hr,dq,nq,dr,nr,vq,vr⟩:=WZ h hx hy ha hb na nb (by omega) (by omega) (by omega);rw[va,vb] at vq vr;have Cq:lq.length<=7000000000:=xi (jx dq nq (by rw[vq];exact xQ (vD _ _) kn.r)) hK
 have mN:=apu (n:=n) (d:=d.natAbs) (by omega);rw[show ((d.natAbs:Nat):Int)=d by omega] at mN;have iV:(0<n.natAbs%d.natAbs)↔0<lr.length:=by
  rw[<-vr];constructor
  .intro h1;rcases xj lr.length with h0 | h0
   .rw [yD h0] at h1;simp[dv] at h1
   .exact h0
  .intro h1;rcases xj (dv lr) with h0 | h0
   .have:=Vp nr dr h0;subst this;simp at h1
   .exact h0
 by_cases hc:n<0/\0<lr.length
 .obtain ⟨c1,c2⟩:=hc;rw[yE ⟨c1,iV.2 c2⟩] at mN;have gN:bw (.au ydy 1 [aa 1]) [(1:Int)]:=eP ydy [(1:Int)];obtain⟨z,out,e2,hz,hdo,hvo,aZ⟩:=aiV h.R3 h.ow hq gN dq (lm.2 (by decide)) (by omega) (by simp);simp only[yB,yM] at aZ;obtain⟨s,e3,hs⟩:=qG h.jg h.cJ (decide (n<0)) hz hdo (by omega);have aK:cm (decide (n<0)) (dv out)=n/d:=by
   rw[hvo,vq,mN];unfold cm;rw[yE (by simpa using c1)];simp[dv]
  rw[aK] at hs;refine⟨s,?_,hs⟩;obtain⟨sw,sl,rfl,gU,_,_,_⟩:=hs;unfold ab at e1 e2 e3 ⊢;rw[aD HY];simp only[c1,yv] at e3 ⊢;simp only[go_sem,ya,yb,yG,yq,yh,FC,aQ,hx.pu,hx.ah,hx.one,hy.pu,hy.ah,hy.one,aX,ye,cP,e1,hq.ah,hq.bH,hr.len,hr.bH,show (0:Int)<(lr.length:Int) by omega,yv,e2,hz.ah,e3,gU.pu,gU.one,bh,fk];rcases gU with ⟨rfl,_⟩ | ⟨e,rfl⟩<;>rfl
 .rw [yp (fun e=>hc ⟨e.1,iV.1 e.2⟩)] at mN;obtain⟨s,e3,hs⟩:=qG h.jg h.cJ (decide (n<0)) hq dq (by omega);rw[vq,<-mN] at hs;refine⟨s,?_,hs⟩;obtain⟨sw,sl,rfl,gU,_,_,_⟩:=hs;unfold ab at e1 e3 ⊢;rw[aD HY];by_cases h0:n<0
  .have kT:lr.length=0:=by
    rcases xj lr.length with h1 | h1
    .exact h1
    .exact absurd ⟨h0,h1⟩ hc
   simp only[h0,yv] at e3 ⊢;simp only[go_sem,ya,yb,FC,aQ,hx.pu,hx.ah,hx.one,hy.pu,hy.ah,hy.one,aX,ye,cP,e1,hq.ah,hq.bH,hr.len,hr.bH,kT,show ¬(0:Int)<((0:Nat):Int) by omega,e3,gU.pu,gU.one,bh,fk];rcases gU with ⟨rfl,_⟩ | ⟨e,rfl⟩<;>rfl
  .simp only [h0,yu] at e3 ⊢;simp only[go_sem,ya,yb,FC,aQ,hx.pu,hx.ah,hx.one,hy.pu,hy.ah,hy.one,aX,ye,cP,e1,hq.ah,hq.bH,hr.bH,e3,gU.pu,gU.one,bh,fk];rcases gU with ⟨rfl,_⟩ | ⟨e,rfl⟩<;>rfl
def aCO(h:Rm P L)(YE:Has P L 336 Mf)(DB:Has P L 338 FB)(HY:Has P L 339 FC){a:Rat}(ka:Hq K a)(hK:K<=7000000000):ab P L 336 [.str (RT a)] (.str (RT (a.floor:Rat))):=by
 have e0:=ajg h DB ka (by omega);unfold ab at e0 ⊢;rw[aD YE];by_cases hd:a.den=1
 .rw [yN hd] at e0;have hf:(a.floor:Rat)=a:=by
   rw[yaX,hd];simp only[Int.natCast_one,Int.ediv_one];exact (PD a hd).symm
  rw[hf];simp only[go_sem,ya,Mf,e0]
 .rw [yC hd] at e0;obtain⟨x,y,e1,hx,hy⟩:=Ht h ka (by omega);obtain⟨r,e2,hr⟩:=aCN h HY (K:=K) hK hx hy ka.1 ka.2 (O5 a);rw[<-yaX] at hr;have kf:Bd K a.floor:=ka.1.le (by
   rw[yaX]
   exact Int.natAbs_ediv_le_natAbs _ _)
  obtain⟨e3,_⟩:=R5 (K:=K) h.R6 h.qC (by omega) hr kf.r;rw[Wg];obtain⟨xw,xl,rfl,de,_,_,_⟩:=hx;obtain⟨yw,yl,rfl,ej,_,_,_⟩:=hy;obtain⟨cf,rl,rfl,qW,_,_,_⟩:=hr;simp only[go_sem,ya,yb,Mf,e0,aQ,e1,de.pu,de.ah,de.one,ej.pu,ej.ah,ej.one,qW.ah,bP,bh,Ao,fk,E0,e2,e3]
def aCP(ML:Has P L 150 LX){z:Int}(hv:cz v z)(h1: -9223372036854775808<z)(h2:z<9223372036854775808):ab P L 150 [v] (.av [aa z,.bool ydy]):=by
 obtain⟨s,w,rfl,hn⟩:=hv;rcases hn with ⟨rfl,rfl,_,_⟩ | ⟨e,l,rfl,g,n,hb,hs,h3⟩
 .unfold ab;rw[aD ML];simp only[go_sem,ya,yb,LX,aQ,aX,ye,cP,iM,eI];rfl
 .lia
def pw(b:Rat):Nat->Rat
 | 0=>1
 | n+1=>pw b n*b
def afT(b:Rat)(m:Nat):∀n,pw b (m+n)=pw b m*pw b n
 | 0=>by rw[y7,pw,wO]
 | n+1=>by rw[<-td,pw,pw,afT b m n,wF]
def LM{b:Rat}{K:Nat}(h:Hq K b):∀n,Hq (K*n+2) (pw b n)
 | 0=>aCH.mono (by omega)
 | n+1=>((LM h n).mul h).mono (by rw[Nat.mul_succ];omega)
def ax0(h:Rn P L){b:Rat}{k0:Nat}(hb:Hq K b)(hK:K*k0<=1000000000):
  cE P L [0,1,5] G0 (fun m st=>∃i e o:Nat,st=⟨[(0,.str (RT (pw b i))),(1,aa e),(5,.str (RT (pw b o)))],[],0,0⟩/\o+i*e=k0/\e<9223372036854775808/\e=m) (fun ex st'=>∃tm ct,st'=⟨tm,[],ct,0⟩/\ex=.exit 0/\ai tm 5=.str (RT (pw b k0))):=by
 apply cI;rintro m st ⟨i,e,o,rfl,ho,he,rfl⟩;by_cases h0:0<e
 .left
  have hi:i<=k0:=by have:=tD i h0;omega
  have ki:K*i<=1000000000:=xi (y5 K hi) hK;have ko:K*o<=1000000000:=xi (y5 K (show o<=k0 by omega)) hK;have e1:=Dj h (LM hb i) (LM hb i) (by omega);have e2:=Dj h (LM hb o) (LM hb i) (by omega);rw[<-afT] at e1 e2;have r2:(e:Int).tmod 2=((e%2:Nat):Int):=rfl;have q2:(e:Int).tdiv 2=((e/2:Nat):Int):=rfl;have d0:(2:Int)≠0:=by decide
  have hs:e=2*(e/2)+e%2:=by omega
  have hm:e%2<2:=by omega
  unfold ab at e1 e2;generalize e/2=f at*
  generalize e%2=g at*
  have w1:IntKind.wrap .i64 (g:Int)=g:=wrap64 (by omega) (by omega);have w2:IntKind.wrap .i64 (f:Int)=f:=wrap64 (by omega) (by omega);by_cases h1:g=1
  .have d1:decide ((g:Int)=1)=ydy:=yN (by omega);simp only[go_sem,ya,G0,show (0:Int)<(e:Int) by omega,yv,eU _ _ _ d0,eO _ _ _ d0,r2,q2,w2,d1,e1,e2];refine⟨_,f,rfl,by omega,i+i,f,o+i,by simp only[go_sem,ya,aq],?_,by omega,rfl⟩;rw[<-ho,hs,h1];grind
  .have d1:decide ((g:Int)=1)=ydz:=yC (by omega);simp only[go_sem,ya,G0,show (0:Int)<(e:Int) by omega,yv,eU _ _ _ d0,eO _ _ _ d0,r2,q2,w2,d1,e1];refine⟨_,f,rfl,by omega,i+i,f,o,by simp only[go_sem,ya,aq],?_,by omega,rfl⟩;have hg:g=0:=by omega
   rw[<-ho,hs,hg];grind
 .right
  obtain rfl:e=0:=by omega
  obtain rfl:o=k0:=by omega
  simp only[go_sem,ya,G0,show ¬(0:Int)<((0:Nat):Int) by omega,yu];exact⟨_,_,rfl,by simp,_,_,rfl,rfl,by simp only[go_sem,ya]⟩
def ajh(h:Rn P L)(FO:Has P L 389 HJ){b:Rat}{k:Nat}(hb:Hq K b)(hK:K*k<=1000000000)(hk:k<9223372036854775808):ab P L 389 [.str (RT b),aa k] (.str (RT (pw b k))):=by
 unfold ab;rw[aD FO];simp only[go_sem,ya,HJ,show ¬(k:Int)<0 by omega,yu];generalize hq:D P L (.loop _ G0) _=q;obtain⟨ex,st,rfl,tm,ct,rfl,rfl,t5⟩:=bg hq (ax0 h hb hK k) ⟨1,k,0,by simp only[go_sem,ya,aq,pw,tn,aCG],by omega,hk,rfl⟩;simp only[go_sem,aq,t5]
def aAq(h:Rn P L)(B1:Has P L 283 Fw)(FO:Has P L 389 HJ){b:Rat}{k:Nat}(hb:Hq K b)(hK:K*k<=1000000000)(hk:k<9223372036854775808)(k0:0<k)(b0:b≠0)(hK2:K<=1000000000):ab P L 389 [.str (RT b),aa (-(k:Int))] (.str (RT (pw b⁻¹ k))):=by
 have e1:=ahy h B1 hb (by omega) b0;have e2:=ajh h FO (hb.inv) hK hk;unfold ab at e1 e2 ⊢;rw[aD FO];have w:IntKind.wrap .i64 (0 - -(k:Int))=k:=by rw[show (0:Int) - -(k:Int)=k by omega];exact wrap64 (by omega) (by omega)
 simp only[go_sem,ya,HJ,show -(k:Int)<0 by omega,yv,e1,w,e2]
section
open Go (IntKind)
open Ieee
section
variable {s:Bool}{M:Nat}
structure Fy0(P:aF)(L:Lib):Prop extends Rn P L where
 MJ:Has P L 265 Q3
 B1:Has P L 283 Fw
 FO:Has P L 389 HJ
structure Fy(P:aF)(L:Lib):Prop extends Fy0 P L where
 aji:Has P L 429 Ri
 YF:Has P L 430 Rj
def ax1{b:Nat}(h:Fl b ydy M)(h0:M≠0):∃b',binOp .sub (.an .f32 0) (.an .f32 b)=Gr (.an .f32 b')/\Fl b' ydz M:=by
 obtain⟨m,e,h1,rfl⟩:=h.ex;obtain⟨b1,b2,b3,b4⟩:=h1.b;have m0:m≠0:=fun q=>h0 (by unfold cO;rw[q,wz])
 obtain⟨m',e',k1,k2,k3⟩:=Cr (n:=m) (k:=e) m0 b2 b1 b4 (m0:=cO m e) (e0:= -149) ydz (by
  rw[zt b1]
  have:p2 149*p2 (-149)=1:=by rw[<-eR];exact pq
  rw[wF,this,wO])
 have e1:single.sub 0 b=Gr (single.write (.number ydz (cO m e) (-149))):=by
  unfold Format.sub;rw[h1.read,show single.read 0=.number ydz 0 (-149) by decide];show Gr (single.write (.number (if signed ydz 0 ((-149:Int)-min (-149) e).toNat+signed (!ydy) m (e-min (-149) e).toNat=0 then ydz&&(!ydy) else decide (signed ydz 0 ((-149:Int)-min (-149) e).toNat+signed (!ydy) m (e-min (-149) e).toNat<0)) (signed ydz 0 ((-149:Int)-min (-149) e).toNat+signed (!ydy) m (e-min (-149) e).toNat).natAbs (min (-149) e)))=_
  have hm:min (-149) e= -149:=by omega
  have hs:signed ydz 0 ((-149:Int)-min (-149) e).toNat+signed (!ydy) m (e-min (-149) e).toNat=(cO m e:Nat):=by
   rw[hm];unfold signed cO;simp only[yO,yH,xz,uK,wz];rw[show e - -149=e+149 by omega];simp
  rw[hs,hm,yp (by omega),xG,yC (by omega)]
 refine⟨_,?_,m',e',k1,(VB k1.b.1 b1 k3).symm⟩;show (match single.sub 0 b with | some b=>Gr (AV.an .f32 b) | none=>none)=_
 rw[e1]
def ahC:∀k,pw 2 k=p2 k
 | 0=>by rw[show ((0:Nat):Int)=0 from rfl,pq];rfl
 | k+1=>by
  have ih:=ahC k;rw[show ((k+1:Nat):Int)=(k:Int)+1 from rfl,eR,sq,<-ih];show _=_
  simp only[pw]
def ax2(k:Nat):pw (2:Rat)⁻¹ k=p2 (-(k:Int)):=by
 have:∀k,pw (2:Rat)⁻¹ k*p2 k=1:=fun k=>by
  induction k with
  | zero=>rw[show ((0:Nat):Int)=0 from rfl,pq];simp[pw]
  | succ k ih=>
   rw[show ((k+1:Nat):Int)=(k:Int)+1 from rfl,eR,sq];have h2:(2:Rat)⁻¹*2=1:=Rat.inv_mul_cancel _ (by decide);simp only[pw]
   have:pw (2:Rat)⁻¹ k*2⁻¹*(p2 k*2)=(pw (2:Rat)⁻¹ k*p2 k)*((2:Rat)⁻¹*2):=by grind
   rw[this,ih,h2,tn]
 have h1:=this k;have h2:=Hj (k:Int);have h3:pw (2:Rat)⁻¹ k*p2 k*p2 (-(k:Int))=p2 (-(k:Int)):=by rw[h1,tn]
 rw[wF,ybh (p2 k),h2,wO] at h3;exact h3
def ax3(hs:s=ydy->M=0)(hM:M<2^277):
  cE P L [0,4] K8 (fun d st=>∃(b:Nat) (N:Nat) (k:Nat),d=N/\Fl b s N/\N*2^k=M/\(M=0->k=0)/\st=⟨[(0,.an .f32 b),(4,aa k)],[],0,0⟩) (fun ex s'=>∃tm ct b N,∃k:Nat,s'=⟨tm,[],ct,0⟩/\ex=.exit 0/\Fl b s N/\N*2^k=M/\N<2^173/\k<277/\ai tm 0=.an .f32 b/\ai tm 4=aa k):=by
 apply cI;rintro d st ⟨b,N,k,hd,hN,hq,hz,rfl⟩;have qK:0<2^k:=xf _;have hk:k<277:=by
  by_cases h0:M=0
  .rw [hz h0];decide
  .have N0:0<N:=by
    rcases xj N with q | q
    .rw [q,wz] at hq;exact absurd hq.symm h0
    .exact q
   have h1:2^k<=N*2^k:=uz _ N0;exact aiU k 277 (xQ (by rw[hq] at h1;exact h1) hM)
 have e2:=ahq hN ahr;have hsN:bk s N=N:=by
  cases s with
  | false=>rfl
  | true=>
   have Bh:=hs rfl
   have:N=0:=by
    rcases xj N with q | q
    .exact q
    .have:=wV q qK;omega
   subst this;rfl
 have hc:(bk ydz (2^173)<=bk s N)↔2^173<=N:=by rw[hsN];exact ycY
 by_cases c:2^173<=N
 .left
  have A7:=hN.even c;obtain⟨b',e3,bE⟩:=Wf hN A7;rw[yN (hc.2 c)] at e2;have wk:IntKind.wrap .i64 ((k:Int)+1)=((k+1:Nat):Int):=wrap64 (by omega) (by omega);simp only[go_sem,ya,K8,e2,e3,wk];have Bh:M≠0:=fun q=>by
   have:=wV (show 0<N by omega) qK
   omega
  refine⟨_,N/2,rfl,by omega,b',N/2,k+1,rfl,bE,by rw[xp,xg (2^k),<-xk,show N/2*2=N by omega,hq],fun q=>absurd q Bh,?_⟩;simp only[go_sem,ya,aq,lQ,lV]<;>rfl
 .right
  rw[yC (fun q=>c (hc.1 q))] at e2;simp only[go_sem,K8,e2];exact⟨_,_,rfl,by simp,_,_,b,N,k,rfl,rfl,hN,hq,by omega,hk,by simp only[go_sem,ya],by simp only[go_sem,ya]⟩
def apv:(bk s N=bk (decide (bk s (N/2^149)<0)) (N/2^149*2^149))↔N%2^149=0:=by
 have eZ:=xL N (2^149);have hX0:N/2^149=0->N/2^149*2^149=0:=fun h=>by rw[h,wz]
 generalize hQ:N/2^149=q at*
 generalize hR:N%2^149=r at*
 rw[xg] at eZ;generalize q*2^149=X at*
 unfold bk
 cases s with
 | false=>
  have:decide ((if ydz=ydy then -(q:Int) else (q:Int))<0)=ydz:=yC (by simp)
  rw[this];simp;omega
 | true=>
  rw[yE rfl,yE rfl];by_cases q0:q=0
  .have hX:=hX0 q0
   have:decide (-(q:Int)<0)=ydz:=yC (by omega)
   rw[this,yp (by decide)];omega
  .have:decide (-(q:Int)<0)=ydy:=yN (by omega)
   rw[this,yE rfl];omega
def ax4:
  cE P L [0,4] K9 (fun d st=>∃(b:Nat) (N:Nat) (j:Nat) (k:Int),d+j=149/\Fl b s N/\2^j∣N/\N<2^173/\(N:Rat)*p2 k=(M:Rat)/\-149<=k+j/\k+j<=277/\st=⟨[(0,.an .f32 b),(4,aa k)],[],0,0⟩) (fun ex s'=>∃tm ct b N,∃k:Int,s'=⟨tm,[],ct,0⟩/\ex=.exit 2/\Fl b s N/\N%2^149=0/\N<2^173/\(N:Rat)*p2 k=(M:Rat)/\-298<=k/\k<=277/\ai tm 0=.an .f32 b/\ai tm 4=aa k):=by
 apply cI;rintro d st ⟨b,N,j,k,hd,hN,hj,aG,hq,k1,k2,rfl⟩;have ss:N<2^200:=vG aG (by decide);have e1:=PH hN ss;have hn:N/2^149<2^24:=by rw[xH (xf _),<-xF];exact aG
 have ha:(bk s (N/2^149)).natAbs=N/2^149:=by unfold bk;split<;>omega
 obtain⟨c,e2,hc⟩:=VD (n:=bk s (N/2^149)) (by omega);rw[ha] at hc;have e3:=WX hN hc;have hw:=apv (s:=s) (N:=N);by_cases w:N%2^149=0
 .right
  rw[yN (hw.2 w)] at e3;simp only[go_sem,ya,K9,e1,e2,e3,yO];exact⟨_,_,rfl,by simp,_,_,b,N,k,rfl,rfl,hN,w,aG,hq,by omega,by omega,by simp only[go_sem,ya],by simp only[go_sem,ya]⟩
 .left
  rw[yC (fun q=>w (hw.1 q))] at e3;have aCK:N<2^172:=by
   by_cases q:N<2^172
   .exact q
   .exact absurd (hN.whole (by omega)) w
  obtain⟨b',e4,bE⟩:=We hN (vG aG (aiT 173 276 (by decide)));have FU:j<149:=by
   rcases vv j 149 with q | q
   .exact q
   .have:j=149:=by omega
    subst this;exact absurd (ybi hj) w
  have wk:IntKind.wrap .i64 (k-1)=k-1:=wrap64 (by omega) (by omega);simp only[go_sem,ya,K9,e1,e2,e3,yY,e4,wk];refine⟨_,d-1,rfl,by omega,b',2*N,j+1,k-1,by omega,bE,by rw[xp,xg (2^j)];exact yby 2 hj,by omega,?_,by omega,by omega,?_⟩
  .rw [<-hq,xK]
   have:p2 k=p2 1*p2 (k-1):=by rw[<-eR,show 1+(k-1)=k by omega]
   rw[this,sq];show (2:Rat)*(N:Rat)*p2 (k-1)=(N:Rat)*(2*p2 (k-1))
   grind
  .simp only [go_sem,ya,aq,lQ,lV]<;>rfl
def aCQ(YF:Has P L 430 Rj){b:Nat}(hb:Fl b s M)(hs:s=ydy->M=0):∃(n:Nat) (k:Int),ab P L 430 [.an .f32 b] (.av [aa n,aa k])/\n<2^24/\-298<=k/\k<=277/\((n:Nat):Rat)*p2 k=lf s M:=by
 have l1:=ax3 (P:=P) (L:=L) hs hb.lt M;unfold ab;rw[aD YF];simp only[go_sem,Rj];generalize hq:D P L (.loop _ K8) _=q;obtain⟨ex,st,rfl,tm,ct,b',N,k,rfl,rfl,hN,hNk,aG,hk,t0,t4⟩:=bg hq l1 ⟨b,M,0,rfl,hb,by rw[vX,yh],fun _=>rfl,by simp only[go_sem,ya,aq,lQ,lV]<;>rfl⟩
 simp only[go_sem,aq,t0,t4,lQ,lV];generalize hq:D P L (.loop _ K9) _=q;have l2:=ax4 (P:=P) (L:=L) (s:=s) (M:=M) 149;obtain⟨ex,st,rfl,tm,ct,b2,N2,k2,rfl,rfl,hN2,hw,ss,Bb,k3,k4,u0,u4⟩:=bg hq l2 ⟨b',N,0,k,rfl,hN,by rw[vX];exact ydq N,aG,by rw[<-hNk,xK,fL],by omega,by omega,by simp only[go_sem,ya,aq,lQ,lV]<;>rfl⟩
 have e1:=PH hN2 (vG ss (by decide));have hn:N2/2^149<2^24:=by rw[xH (xf _),<-xF];exact ss
 have hx:=afS (s:=s) Bb hw;have nE:bk s (N2/2^149)=(N2/2^149:Nat):=by
  cases s with
  | false=>rfl
  | true=>
   have Bh:=hs rfl
   have:N2=0:=by
    rw[Bh] at Bb;have hp:=Qu k2;have h0:((N2:Nat):Rat)*p2 k2=0:=Bb;rcases Rat.mul_eq_zero.1 h0 with q | q
    .exact_mod_cast q
    .exact absurd q hp
   subst this;rfl
 rw[nE] at hx e1;refine⟨N2/2^149,k2,?_,hn,k3,k4,hx⟩;simp only[go_sem,ya,aq,u0,u4,lQ,lV,e1];rfl
end
end
section
variable {s:Bool}{M b:Nat}
def afU:RT (2:Rat)=[50]:=by decide
def W5(h:Fl b s M):Hq 2500 (lf s M):=by
 have hM:=h.lt;have k1:Hq 278 (((bk s M:Int)):Rat):=ad5 278 (ahz 278 277 hM (by decide)) (by decide);exact (k1.mul (B3 (-149) (by decide))).mono (by decide)
def aue(M:Nat):lf ydy M= -lf ydz M:=by
 unfold lf bk;rw[yE rfl,yp (by decide),uW];grind
def W6(h:Fy0 P L){k:Int}(h1: -300<=k)(h2:k<=300):ab P L 389 [.str [50],aa k] (.str (RT (p2 k))):=by
 rw[<-afU];by_cases c:k<0
 .obtain ⟨n,rfl⟩:∃n:Nat,k= -(n:Int):=⟨k.natAbs,by omega⟩
  have:=aAq h.toRn h.B1 h.FO Lm (k:=n) (by omega) (by omega) (by omega) (by decide) (by decide)
  rwa[ax2] at this
 .obtain ⟨n,rfl⟩:∃n:Nat,k=n:=⟨k.natAbs,by omega⟩
  have:=ajh h.toRn h.FO Lm (k:=n) (by omega) (by omega)
  rwa[ahC] at this
def afV(h:Fy P L)(hb:Fl b s M)(hs:s=ydy->M=0):ab P L 429 [.an .f32 b] (.str (RT (lf s M))):=by
 obtain⟨n,k,e1,hn,k1,k2,hq⟩:=aCQ h.YF hb hs;have e0:=ahp hb Fl.zero;have aG:¬bk s M<bk ydz 0:=by
  cases s with
  | false=>show ¬(M:Int)<0;omega
  | true=>rw[hs rfl];decide
 rw[yC aG] at e0;have e2:=W1 h.toRm h.MJ (n:=(n:Int)) (by omega);have e3:=W6 h.toFy0 (k:=k) (by omega) (by omega);have kn:Hq 25 (((n:Int):Int):Rat):=⟨by rw[vI];unfold Bd;rw[xG];omega,by rw[vt];unfold Bd;decide⟩
 have e4:=Dj h.toRn kn (B3 k (by omega)) (by decide);have bI:(((n:Nat):Int):Rat)*p2 k=lf s M:=hq;rw[bI] at e4;unfold ab at e1 e2 e3 e4;unfold ab;rw[aD h.aji];simp only[go_sem,ya,Ri,e0,zu,e1,fU,fS,fT,e2,e3,e4]
def aCR(h:Fy P L)(hb:Fl b s M):ab P L 429 [.an .f32 b] (.str (RT (lf s M))):=by
 by_cases hs:s=ydy->M=0
 .exact afV h hb hs
 .have gI:s=ydy:=Classical.byContradiction fun q=>hs fun q'=>absurd q' q
  have hM:M≠0:=fun q=>hs fun _=>q
  subst gI;obtain⟨b',e1,bE⟩:=ax1 hb hM;have e2:=afV h bE (fun q=>by cases q);have e3:=W2 h.toRp (W5 bE) (by decide);rw[<-aue] at e3;have e0:=ahp hb Fl.zero;have aG:bk ydy M<bk ydz 0:=by show -(M:Int)<0;omega
  rw[yN aG] at e0;unfold ab at e2 e3;unfold ab;rw[aD h.aji];simp only[go_sem,ya,Ri,e0,e1,zu,e2,e3]
end
def aCS(h:Rm P L)(YG:Has P L 340 Mg)(DB:Has P L 338 FB){n:Nat}(hn:n<1000000000):ab P L 340 [.str (RT ((n:Int):Rat))] (.av [aa n,.bool ydy]):=by
 have kz:Hq 40 ((n:Int):Rat):=⟨by rw[vI];unfold Bd;omega,by rw[vt];unfold Bd;omega⟩;have e0:=ajg h DB kz (by omega);rw[show ((n:Int):Rat).den=1 from vt ..,yN rfl] at e0;have hl:(az n).length<=9:=zm (k:=8) (by omega);obtain⟨x,e1,hx⟩:=Yw h.toRb (n:=(n:Int)) (by simp;omega);rw[Wg] at e0 ⊢;rw[mz] at e0 e1 ⊢;obtain⟨w,l,rfl,hw,hd,hz,hv⟩:=hx;rw[xG] at hv;have sL:l.length<=1:=VF hd hz (by omega);have fw:decide ((n:Int)<0)=ydz:=yC (by omega);rw[fw] at e1;unfold ab at e0 e1 ⊢;rw[aD YG]
 match l,sL,hw,hv,hd with
 | [],_,hw,hv,hd=>
  have h0:n=0:=by rw[<-hv];rfl
  subst h0;simp only[go_sem,ya,yb,Mg,e0,yO,show ¬(20:Int)<((az 0).length:Int) by decide,aQ,e1,bh,hw.len,hw.pu,hw.one,fk,aX,ye,cP,yM,show ((0:Nat):Int)-1= -1 from rfl,show IntKind.wrap .i64 (-1)= -1 from rfl,Hi,aq,VV,show ¬(0:Int)<=-1 by decide];rfl
 | [d],_,hw,hv,hd=>
  have gd:=lm.1 hd;have Cl:d=(n:Int):=by simp[dv] at hv;omega
  subst Cl;have ei:=hw.bj (i:=0) (by simp);simp only[wX] at ei
  simp only[go_sem,ya,yb,Mg,e0,yO,show ¬(20:Int)<((az n).length:Int) by omega,aQ,e1,bh,hw.len,hw.pu,hw.one,fk,aX,ye,cP,yB,yM,show ((1:Nat):Int)-1=0 from rfl,show IntKind.wrap .i64 0=0 from rfl,Hi,aq,VV,show (0:Int)<=0 by decide,yv,ei,yu,show ¬(9223372036:Int)<0 by decide,show ¬(0:Int)< -9223372036 by decide,show ¬(0:Int)=9223372036 by decide,show ¬(0:Int)= -9223372036 by decide,Int.zero_mul,ycW,wrapN (n:=n) (by omega),show (0:Int)-1= -1 from rfl,show IntKind.wrap .i64 (-1)= -1 from rfl,show ¬(0:Int)<=-1 by decide];rfl
def YH(tm:Env)(hp:Hp)(s:AV)(rs:List (Nat×Bool×Nat))(q:gQ):gQ:=match q with | some (v,ap,aO)=>bif BM tm s rs||pW tm hp ap rs then Gr (v,ap,aO) else none | none=>none
def P2{f:cu}(rs:List (Nat×Bool×Nat))(sz b:Nat)(x v:X):a7 P L f tm hp ct (.mg rs sz b x v)=YH tm hp (aB tm x) rs (cr tm hp ct (.ew sz b x v)):=rfl
def O8{ap:Hp}{s:AV}{rs:List (Nat×Bool×Nat)}{aO:Nat}(h:BM tm s rs=ydy):YH tm hp s rs (Gr (v,ap,aO))=Gr (v,ap,aO):=by simp only[YH,h,uN,yy]
def acX{b x:Nat}{H:Hp}(hx:x<b):∀{ajj:Hp},(∀p,p∈ajj->b<=p.1)->ak (ajj++H) x=ak H x
 | [],_=>rfl
 | (id,o)::r,h=>by
  have:=h (id,o) (by simp)
  simp only[xe];rw[ak,gW (by simp only at this;omega),yT,acX hx (fun p hp=>h p (by simp[hp]))]
def lyT(w:AV)(hh sc st ox oy wx wy:List Nat):AV:=.agg [w,.str hh,.str sc,.str st,.str ox,.str oy,.str wx,.str wy]
noncomputable def aCT(s:List (List Int))(hh sc st ox oy wx wy:List Nat):Int:=bf [aoz s,ajc hh 0,ajc sc 1,bX st,bf [bX ox,bX oy],bf [bX wx,bX wy]]
def am4{a:Int}{l:List Int}:bf (a::l)=0↔a=0/\bf l=0:=by
 simp only[bf]
 grind
end VE
