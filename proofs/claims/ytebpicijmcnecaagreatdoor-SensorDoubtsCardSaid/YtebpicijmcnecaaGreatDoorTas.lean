import Ieee.Arith
import Derived.OwnWalk
import Derived.WalkKit
import Derived.Test.YtebpicijmcnecaaGreatDoorTaq
set_option linter.all false
set_option maxRecDepth 100000
open Bool renaming and_eq_true->yf,and_self->wL,and_true->uO,false_and->wU,false_eq_true->yC,false_or->vh,not_false->yY,not_true->yX,toNat_false->ybA,true_and->wS,true_eq_false->ybi,true_or->vN,xor_false->ybO
open Go renaming Calls->wz,World->yj,binOp->wa
open Int renaming add_zero->ycx,gcd->vv,le_of_lt->tB,le_refl->ycL,lt_trichotomy->yab,mul_add->ycN,mul_le_mul->ybZ,mul_le_mul_of_nonneg_left->uG,mul_nonneg->tM,natAbs_ediv_of_dvd->tf,natAbs_natCast->wv,natCast_add->yaT,natCast_mul->xM,natCast_nonneg->yas,neg_neg->yao,ofNat_eq_natCast->ybb,ofNat_le->ycB,ofNat_lt->tA,pow_pos->ycO,pow_succ->yac,sub_self->ycz,tdiv_eq_ediv_of_nonneg->xP,tmod_eq_emod_of_nonneg->xO,toNat_natCast->xV,toNat_of_nonneg->vj
open Int.ofNat renaming inj->yaj
open List renaming append_assoc->xy,append_nil->xT,cons_append->ym,drop->um,drop_drop->vO,drop_eq_getElem_cons->yZ,drop_eq_nil_of_le->xa,drop_left->tL,drop_zero->ye,eq_nil_of_length_eq_zero->yL,getD_eq_getElem?_getD->xd,getElem?_eq_getElem->xo,getElem_cons_zero->wG,length->wb,length_append->yN,length_cons->yy,length_drop->xY,length_map->yU,length_nil->yJ,length_pos_iff->tg,length_take->yT,map_append->xb,map_cons->y7,map_nil->wE,map_set->ycs,mem_cons->xu,nil_append->yG,replicate->yF,set_eq_of_length_le->yax,set_eq_take_append_cons_drop->uv,take_append_drop->we,take_left->tK,take_length->xN,take_of_length_le->yK,take_set->yaA,take_succ_eq_append_getElem->xK
open List.cons renaming injEq->tX
open Nat renaming add_assoc->uI,add_comm->ybK,add_mod_left->ybH,add_mul->xH,add_zero->y5,beq->yq,ble->yE,ble_eq_true_of_le->yB,blt->yO,div_add_mod->xQ,div_eq_of_lt->xW,div_lt_iff_lt_mul->xB,div_pos->ycM,eq_of_beq_eq_true->yg,eq_zero_or_pos->xj,gcd->wJ,gcd_comm->tU,le_log2->ycK,le_mul_of_pos_left->ug,le_mul_of_pos_right->yaJ,le_of_ble_eq_true->yv,le_of_lt_succ->vV,le_of_not_lt->ybF,le_refl->yu,le_trans->xi,log2->ybY,log2_lt->yba,lt_log2_self->ybI,lt_of_le_of_lt->wh,lt_of_lt_of_le->yP,lt_or_ge->vn,lt_trans->vD,min_eq_left->xF,mod_add_div->uk,mod_eq_of_lt->yS,mod_eq_zero_of_dvd->yaO,mod_lt->xG,mul_add->xE,mul_add_div->tY,mul_add_mod->tZ,mul_assoc->xe,mul_comm->xn,mul_div_cancel->uX,mul_dvd_mul_left->ybc,mul_le_mul->xf,mul_le_mul_left->yW,mul_le_mul_right->yI,mul_lt_mul''->yai,mul_lt_mul_of_pos_right->xZ,mul_mod_left->tn,mul_one->yi,mul_pos->vt,mul_zero->xC,ne_of_gt->tz,one_dvd->ycR,one_lt_two_pow->vY,one_shiftLeft->ybz,pow_add->xD,pow_le_pow_left->ub,pow_le_pow_right->y9,pow_lt_pow_iff_right->uh,pow_lt_pow_right->vC,pow_mul->yan,pow_pos->ybM,pow_succ->xh,pow_zero->vP,reduceAdd->yb,reduceEqDiff->ya,reduceLT->yz,reduceLeDiff->yk,reduceMul->xq,shiftLeft_eq->uA,succ_mul->ycy,two_pow_pos->xg,zero_add->yd,zero_le->tq,zero_mul->wq
open Option.some renaming injEq->yc
open Rat renaming den_intCast->uM,den_pow->ycQ,divInt->wI,intCast_neg->uK,lt_irrefl->tV,mul_assoc->vE,mul_comm->yaz,mul_lt_mul_right->uF,mul_one->vK,natCast_mul->xL,not_le->ybp,num_eq_zero->ybN,num_intCast->uL,num_nonneg->yca,num_pow->ycP,one_mul->ybd,zpow_natCast->tp,zpow_neg->ycA
open Option renaming some->FL,none->FM
open Bool renaming true->ycZ,false->yda
section
namespace VE
open Go (IntKind)
def alN:∀(cs:List AV) (l:List Nat),zG cs=FL l->cs=l.map uc/\lo 18446744073709551616 l:=by
 intro cs
 induction cs with
 | nil=>
  intro l h;simp only[zG,yc] at h;subst h;exact⟨rfl,fun _ h=>by cases h⟩
 | cons c cs ih=>
  intro l h;unfold zG at h
  split at h
  .grind
  .rename_i d r sZ;cases sZ
   cases hb:yO d 18446744073709551616 with
   | false=>rw[hb] at h;cases h
   | true=>
    rw[hb] at h
    cases hw:zG cs with
    | none=>rw[hw] at h;cases h
    | some l'=>
     rw[hw] at h;cases h;have⟨k1,k2⟩:=ih l' hw;refine⟨by rw[k1];rfl,fun x hx=>?_⟩
     rcases xu.1 hx with rfl | hx
     .simp_all
     .exact k2 x hx
  .cases h
def abr:∀{l:List Nat},CN l=ycZ->ig l
 | [],h=>by cases h
 | [a],h=>by
  have h0:a≠0:=fun e=>by subst e;cases h
  exact FQ h0 []
 | a::b::r,h=>by
  have h1:dZ (b::r)=b::r:=abr (l:=b::r) h;show dZ (a::(b::r))=_
  simp only[dZ] at h1 ⊢;rw[h1]
section
variable {P:aF}{L:Lib}
def arH(h:Has P L 99 Fi)(WX:L.pure 135=FL KH){s:Int}(hs:CJ s=ycZ):bL P L (D P L) 99 [.agg [aa s,.ah]]=FL (.str (aV s)):=by
 have e1:bL P L (D P L) 135 [aa s]=FL (.str (aV s)):=by
  rw[kj WX];show (bif CJ s then FL (AV.str (aV s)) else FM)=_
  rw[hs];rfl
 rw[aE h];simp only[go_sem,ya,yb,Fi,aQ,aT,yd,df,iE,eD,e1]
end
section
open Go
variable {O:bA}
def ani(hO:iy O)(hN:Nu O.prog O.aI)(WX:O.aI.pure 135=FL KH)(EZ:O.aI.pure 138=FL B5)(Bt:O.aI.pure 139=FL Cl)(HV:Has O.prog O.aI 99 Fi){fn:Func}{c:Code}(mv:O.P.funcs[O.ae 99]? =FL fn)(jY:fn.body=FL c)(Re:fn.ntmps=69)(WU:QJ 5 c)(ht:Us O.P c):∀aq r,OE aq=FL r->et O 99 aq r:=by
 intro aq r h;unfold OE at h
 split at h
 .rename_i s
  cases hs:CJ s with
  | false=>rw[hs] at h;cases h
  | true=>
   rw[hs] at h;cases h;have⟨k,hk⟩:=ad2 (arH (P:=O.prog) (L:=O.aI) HV WX hs);exact sound hO hk
 .rename_i s e n cs
  cases hw:zG cs with
  | none=>rw[hw] at h;cases h
  | some l=>
   rw[hw] at h;simp only at h
   cases hb:(yq l.length n&&(yE n 4000000000&&(CN l&&yE 9223372036854775808 (zY l)))) with
   | false=>rw[hb] at h;cases h
   | true=>
    rw[hb] at h;simp only[yf] at hb;have⟨h1,h2,h3,h4⟩:=hb;obtain⟨rfl,bc⟩:=alN cs l hw;have h1:=yg h1;subst h1;have h2:=yv h2;have h4:=yv h4;have h3:=abr h3;rw[Uq] at h4 h;have aH:=nB bc;have key:=fun (s z:Int) (hz:z.natAbs=bv 18446744073709551616 l) (hs:s=if z<0 then -1 else 1)=>
     apr hO hN EZ Bt HV.code mv jY Re WU ht (s:=s) (z:=z) (e:=e) (l:=l) (.inr ⟨e,l,rfl,bc,h3,hz.symm,hs,by lia⟩) (by lia) h2 (by lia)
    split at h
    .cases h
     have:=key 1 (bv 18446744073709551616 l:Nat) (by simp) (by rw[yt (by lia)])
     exact this
    .cases h
     have:=key (-1) (-(bv 18446744073709551616 l:Nat):Int) (by simp) (by rw[yD (by lia)])
     rw[nX (by lia)] at this
     grind
    .cases h
 .cases h
end
end VE
end
section
namespace VE
open Go
def Kw(L:Lib)(n:Nat)(sp:List AV->Option AV):Lib:=⟨fun i=>bif yq i n then FL sp else L.pure i,L.heap⟩
def Ta{O:bA}(hO:iy O){n:Nat}{sp:List AV->Option AV}(h:∀aq r,sp aq=FL r->et O n aq r):iy (O.qF (Kw O.aI n sp)) where
 hint:=hO.hint
 mixed:=hO.mixed
 prog:=hO.prog
 aI i Rw aq r hi hs:=by
  show et O i aq r
  simp only[Kw] at hi
  cases hb:yq i n with
  | true=>
   simp_all
  | false=>
   rw[hb] at hi;exact hO.aI i Rw aq r hi hs
 G0 i Rw hp ct aq v an aU hi hs:=aa8 (hO.G0 i Rw hp ct aq v an aU hi hs)
end VE
end
section
namespace VE
open Go (IntKind)
def JI(n:Nat):10^n<=2^(4*n):=by
 rw[yan];exact ub (by decide) n
def anj{b:Nat}{r:List Nat}(h:dj (b::r)=ycZ):48<=b/\b<=57:=by
 simp only[dj,yf] at h
 simp_all
section
variable {P:aF}{L:Lib}
def aeh(h:Tx P L){ds:List Nat}{N:Nat}(hD:cM ds 0=FL N)(hl:ds.length<=4000000000){neg:Bool}{o1 o2:AV}:
  cZ P L [0,2,3,4] Gl (fun m st=>∃(pre rest:List Nat) (a:Nat) (s:Int) (w:AV),st=⟨[(0,.str rest),(2,.ptr 0 0),(3,.bool neg),(4,.ptr 1 0)],[(1,.cells ycZ ycZ ycZ 2 [aa s,w]),(0,.cells ycZ ycZ ycZ 2 [o1,o2])],2,0⟩/\ds=pre++rest/\cM pre 0=FL a/\dD s w a/\rest.length=m) (fun ex st'=>∃tm s w,st'=⟨tm,[(1,.cells ycZ ycZ ycZ 2 [aa s,w]),(0,.cells ycZ ycZ ycZ 2 [o1,o2])],2,0⟩/\ex=.exit 0/\aj tm 2=.ptr 0 0/\aj tm 3=.bool neg/\aj tm 4=.ptr 1 0/\dD s w N):=by
 apply c6;rintro m st ⟨pre,rest,a,s,w,rfl,Fv,eM,hn,rfl⟩;have⟨l1,u1⟩:=hn.aK;have mf:=hD;rw[Fv,Jw,eM] at mf;have mf:cM rest a=FL N:=mf;have hlen:pre.length+rest.length<=4000000000:=by rw[Fv,yN] at hl;exact hl
 by_cases h0:rest.length=0
 .right
  have hr:rest=[]:=yL h0;subst hr
  have:a=N:=by simpa[cM] using mf
  subst this;simp only[go_sem,Gl,yJ,show ¬(0:Int)<((0:Nat):Int) by lia];exact⟨_,_,rfl,by simp,_,s,w,rfl,rfl,rfl,rfl,rfl,hn⟩
 .left
  obtain⟨n,Ap⟩:∃n,n=min 18 rest.length:=⟨_,rfl⟩;have agp:(if (rest.length:Int)<18 then (rest.length:Int) else 18)=(n:Int):=by split<;>lia
  have jV:rest.take n++rest.drop n=rest:=we n rest;obtain⟨a',Fb⟩:∃a',cM (rest.take n) a=FL a':=by
   rw[<-jV,Jw] at mf
   cases hq:cM (rest.take n) a with
   | none=>rw[hq] at mf;cases mf
   | some a'=>exact⟨a',rfl⟩
  obtain⟨v,hv⟩:∃v,cM (rest.take n) 0=FL v:=by
   have:∀(l:List Nat) (x y b:Nat),cM l x=FL y->∃z,cM l b=FL z:=by
    intro l
    induction l with
    | nil=>intro x y b _;exact⟨b,rfl⟩
    | cons c l ih=>
     intro x y b hh;simp only[cM] at hh ⊢
     cases hb:(yE 48 c&&yE c 57) with
     | false=>rw[hb] at hh;cases hh
     | true=>rw[hb] at hh;exact ih _ _ _ hh
   exact this _ _ _ 0 Fb
  have ahj:=apo (a:=a) hv;have YV:(rest.take n).length=n:=by rw[yT];lia
  rw[YV,Fb,yc] at ahj;have WY:=Ur hv;rw[YV] at WY;have aEU:v<1000000000000000000:=yP WY (y9 (n:=10) (by decide) (show n<=18 by lia));have e1:=arD (P:=P) h.WQ (f:=D P L) (s:=rest.take n) (by lia) (by lia) hv;have⟨t1,t2⟩:=EX h.toNu (z:=10) (by decide) (by decide);have⟨t3,t4⟩:=EX h.toNu (z:=(v:Int)) (by lia) (by lia);have⟨p,e2,hp⟩:=WS h.toNu h.sE t2 (K:=4) (k:=n) (by unfold Bd;decide) (by lia) (by lia)
  have halt:=Ur eM;have ba:Bd (4*pre.length) (a:Int):=yP halt (JI _);have bp:Bd (4*n+1) ((10:Int)^n):=Bd.pow (k:=4) (by unfold Bd;decide) n
  have⟨q,e3,hq⟩:=zX h.toNu (v:=.agg [aa s,w]) ⟨s,w,rfl,hn⟩ hp (K:=4*pre.length+4*n+1) (ba.mono (by lia)) (bp.mono (by lia)) (by lia);have bv':Bd (4*n) (v:Int):=yP WY (JI _);have⟨r,e4,hr⟩:=LD h.toNu hq t4 (K:=4*pre.length+4*n+1) ((ba.mul bp).mono (by lia)) (bv'.mono (by lia)) (by lia);have aO:(a:Int)*10^n+(v:Int)=(a':Int):=by
   rw[ahj]
   simp
  rw[aO] at hr;obtain⟨s2,w2,rfl,h2⟩:=hp;obtain⟨s3,w3,rfl,h3⟩:=hq;obtain⟨s4,w4,rfl,h4⟩:=hr;have⟨l2,u2⟩:=h2.aK;have⟨l3,u3⟩:=h3.aK;have⟨l4,u4⟩:=h4.aK;have un:=zu;have c1:iX rest (FL 0) (FL n)=FL (.str (rest.take n)):=by rw[mF (by lia) (by lia),ye]
  have c2:iX rest (FL n) (FL rest.length)=FL (.str (rest.drop n)):=by rw[mF (by lia) (by lia),xN]
  simp only[go_sem,ya,Gl,show (0:Int)<(rest.length:Nat) by lia,ad8,acg,agp,eP,fg,dM,c1,c2,e1,cr,t1,t3,bY,u1.ai,u2.ai,u3.ai,un.ai,e2,e3,e4,bz,cr,ye,eb u4];refine⟨_,(rest.drop n).length,rfl,by rw[xY];lia,pre++rest.take n,rest.drop n,a',s4,w4,by simp only[go_sem,ya,yb,ap],by rw[xy,jV];exact Fv,by rw[Jw,eM];exact Fb,h4,rfl⟩
def Tb{b:Nat}{r:List Nat}(h:48<=b):gY [45] (b::r)=yda:=by
 show (yq 45 b&&ycZ)=yda
 rw[gW (by lia)];rfl
def LJ(h:Tx P L){z:Int}(hz:(aV z).length<=4000000000):∃r,ab P L 110 [.str (aV z)] r/\cD r z:=by
 have hN:=DP z.natAbs;have un:=zu;have sR:(aC z.natAbs).length<=4000000000:=by
  by_cases h0:z<0
  .rw [nX h0] at hz;simp at hz;lia
  .rw [<-oQ,yt h0] at hz;simpa using hz
 have ba:Bd (4*(aC z.natAbs).length) (z.natAbs:Int):=yP (Ur hN) (JI _);by_cases h0:z<0
 .have hs:aV z=45::aC z.natAbs:=nX h0;have e1:bL P L (D P L) 152 [.str (45::aC z.natAbs),.str [45]]=FL (.bool ycZ):=by rw[kj h.ahe];rfl
  have e2:bL P L (D P L) 153 [.str (45::aC z.natAbs),.str [45]]=FL (.str (aC z.natAbs)):=by rw[kj h.WO];rfl
  have jQ:∃s w r,ab P L 110 [.str (aV z)] r/\dD s w (z.natAbs:Int)/\ab P L 147 [.agg [aa s,w]] r/\cD r (-(z.natAbs:Int)):=by
   rw[hs];unfold ab;rw[aE h.ahg];simp only[go_sem,ya,yb,PV,aQ,e1,e2,un.pu,un.one,eb un];generalize hq:D P L (.loop _ Gl) _=q;obtain⟨ex,st,rfl,tm,s,w,rfl,rfl,t2,t3,t4,h5⟩:=bH hq (aeh (P:=P) (L:=L) h hN sR (neg:=ycZ) (o1:=.int .i64 0) (o2:=.ah) (aC z.natAbs).length) ⟨[],aC z.natAbs,0,0,.ah,by simp only[go_sem,ya,yb,ap]<;>rfl,rfl,rfl,.inl ⟨rfl,rfl,by decide,by decide⟩,rfl⟩
   have⟨l5,u5⟩:=h5.aK;have⟨r,e3,hr⟩:=Hl h.toNu (v:=.agg [aa s,w]) ⟨s,w,rfl,h5⟩ (K:=4*(aC z.natAbs).length) ba (by lia);have bh:=hr;obtain⟨s6,w6,rfl,h6⟩:=hr;have⟨l6,u6⟩:=h6.aK;refine⟨s,w,_,?_,h5,e3,bh⟩;simp only[go_sem,ya,yb,ap,t2,t3,t4,cr,bY,u5.ai,e3,bz,cI,cJ,cr,ye,ol u6,eb u6]
  have⟨s,w,r,g1,_,_,g2⟩:=jQ;rw[show -((z.natAbs:Nat):Int)=z by lia] at g2;exact⟨r,g1,g2⟩
 .have hs:aV z=aC z.natAbs:=by rw[<-oQ,yt h0];rfl
  have⟨b,r0,hb,jf,oG⟩:=FV z.natAbs;have e1:bL P L (D P L) 152 [.str (aC z.natAbs),.str [45]]=FL (.bool yda):=by
   rw[kj h.ahe,hb];show FL (AV.bool (gY [45] (b::r0)))=_
   rw[Tb jf]
  have e2:bL P L (D P L) 153 [.str (aC z.natAbs),.str [45]]=FL (.str (aC z.natAbs)):=by
   rw[kj h.WO,hb];show FL (AV.str (bif gY [45] (b::r0) then _ else _))=_
   rw[Tb jf];rfl
  have jQ:∃s w,ab P L 110 [.str (aV z)] (.agg [aa s,w])/\dD s w (z.natAbs:Int):=by
   rw[hs];unfold ab;rw[aE h.ahg];simp only[go_sem,ya,yb,PV,aQ,e1,e2,un.pu,un.one,eb un];generalize hq:D P L (.loop _ Gl) _=q;obtain⟨ex,st,rfl,tm,s,w,rfl,rfl,t2,t3,t4,h5⟩:=bH hq (aeh (P:=P) (L:=L) h hN sR (neg:=yda) (o1:=.int .i64 0) (o2:=.ah) (aC z.natAbs).length) ⟨[],aC z.natAbs,0,0,.ah,by simp only[go_sem,ya,yb,ap]<;>rfl,rfl,rfl,.inl ⟨rfl,rfl,by decide,by decide⟩,rfl⟩
   have⟨l5,u5⟩:=h5.aK;refine⟨s,w,?_,h5⟩;simp only[go_sem,ya,yb,ap,t2,t3,t4,cr,cI,cJ,cr,ye,ol u5,eb u5]
  have⟨s,w,g1,g2⟩:=jQ;rw[show ((z.natAbs:Nat):Int)=z by lia] at g2;exact⟨_,g1,s,w,rfl,g2⟩
def Jp(b:Nat)(r:List Nat)(c:Nat):gY [c] (b::r)=yq c b:=by
 show (yq c b&&ycZ)=_
 grind
def ZY:∀(l r:List Nat) (k:Nat),(∀x,x∈l->x≠47)->ns [47] (l++47::r) k=FL (k+l.length)
 | [],r,k,_=>by
  show (bif gY [47] (47::r) then FL k else _)=_
  rw[Jp];rfl
 | b::l,r,k,h=>by
  show (bif gY [47] (b::(l++47::r)) then FL k else ns [47] (l++47::r) (k+1))=_
  rw[Jp,gW (fun e=>h b (by simp) e.symm),yR,ZY l r (k+1) (fun x hx=>h x (by simp[hx])),yy]
  grind
def index_none:∀(l:List Nat) (k:Nat),(∀x,x∈l->x≠47)->ns [47] l k=FM
 | [],k,_=>rfl
 | b::l,k,h=>by
  show (bif gY [47] (b::l) then FL k else ns [47] l (k+1))=_
  rw[Jp,gW (fun e=>h b (by simp) e.symm),yR,index_none l (k+1) (fun x hx=>h x (by simp[hx]))]
def acw:∀{l:List Nat},dj l=ycZ->∀x,x∈l->48<=x/\x<=57
 | [],_,x,hx=>by simp at hx
 | b::l,h,x,hx=>by
  have h1:=anj h;simp only[dj,yf] at h;rcases xu.1 hx with rfl | hx
  .grind
  .exact acw h.2 x hx
def akf(z:Int):∀x,x∈aV z->x≠47:=fun x hx=>by
 rw[<-oQ] at hx;rcases List.mem_append.1 hx with h | h
 .grind
 .have:=acw (Jn _) x h;lia
def m62(h:Tx P L){a:Rat}(hl:(RT a).length<4000000000):∃r,ab P L 62 [.str (RT a)] r/\bM r a:=by
 have HE:=akf a.num;unfold RT at hl ⊢;by_cases hd:a.den=1
 .rw [yD hd,xT] at hl ⊢;have⟨p,e1,hp⟩:=LJ h (z:=a.num) (by lia);have⟨r,e2,hr⟩:=WM h.toFr' hp;rw[<-Up a hd] at hr;have bh:=hr;obtain⟨s1,w1,rfl,h1⟩:=hp;obtain⟨s2,w2,s3,w3,rfl,h2,h3⟩:=hr;have⟨l1,u1⟩:=h1.aK;have⟨l2,u2⟩:=h2.aK;have⟨l3,u3⟩:=h3.aK;have e0:bL P L (D P L) 109 [.str (aV a.num),.str [47]]=FL (.aw [.str (aV a.num),.str [],.bool yda]):=by
   rw[kj h.WR];show (bif yO (aV a.num).length 4294967281 then (match ns [47] (aV a.num) 0 with | some i=>_ | none=>FL (AV.aw [.str (aV a.num),.str [],.bool yda])) else FM)=_
   rw[ma (by lia),index_none _ _ HE];rfl
  refine⟨_,?_,bh⟩;unfold ab;rw[aE h.RX];simp only[go_sem,ya,yb,Rz,aQ,e0,e1,bz,u1.ai,bY,e2,kW u2 u3,cI,cJ,ye,gH,kX u2 u3]
 .rw [yt hd] at hl ⊢;simp only[yN,yy] at hl;have⟨p,e1,hp⟩:=LJ h (z:=a.num) (by lia);have⟨q,e2,hq⟩:=LJ h (z:=(a.den:Int)) (by rw[mC];lia)
  rw[mC] at e2;obtain⟨s1,w1,rfl,h1⟩:=hp;obtain⟨s2,w2,rfl,h2⟩:=hq;have⟨l1,u1⟩:=h1.aK;have⟨l2,u2⟩:=h2.aK;have e0:bL P L (D P L) 109 [.str (aV a.num++47::aC a.den),.str [47]]=FL (.aw [.str (aV a.num),.str (aC a.den),.bool ycZ]):=by
   rw[kj h.WR];show (bif yO (aV a.num++47::aC a.den).length 4294967281 then (match ns [47] (aV a.num++47::aC a.den) 0 with | some i=>FL (AV.aw [.str ((aV a.num++47::aC a.den).take i),.str ((aV a.num++47::aC a.den).drop (i+1)),.bool ycZ]) | none=>_) else FM)=_
   rw[ma (by simp;lia),ZY _ _ _ HE]
   simp only[yd,yx,tK];rw[show (aV a.num).length+1=(aV a.num++[47]).length by simp,show aV a.num++47::aC a.den=(aV a.num++[47])++aC a.den by simp,tL]
  refine⟨.agg [aa s1,w1,aa s2,w2],?_,s1,w1,s2,w2,rfl,h1,h2⟩;unfold ab;rw[aE h.RX];simp only[go_sem,ya,yb,Rz,aQ,e0,e1,e2,bz,u1.one,u2.one,DY,DZ,kW u1 u2,cI,cJ,ye,gH,kX u1 u2]
end
end VE
end
section
namespace VE
open Go (IntKind)
def dV(p:List Nat):Bool:=dj p&&(match p with | []=>yda | b::r=> !(yq b 48)||r.isEmpty)
def fZ(p:List Nat):Nat:=(cM p 0).getD 0
def Bu(neg:Bool)(t:List Nat):Int:=
 if dV (t.take (bT t))=yda\/(neg=ycZ/\t.take (bT t)=[48]) then 1
 else if bT t<t.length/\(dV (t.drop (bT t+1))=yda\/t.drop (bT t+1)=[48]\/t.drop (bT t+1)=[49]) then 1
 else if 600<bT t\/600<t.length-bT t-1 then 4
 else if bT t<t.length/\wJ (fZ (t.take (bT t))) (fZ (t.drop (bT t+1)))≠1 then 1
 else 0
def ik:List Nat->Int
 | []=>Bu yda []
 | b::t=>if b=45 then Bu ycZ t else Bu yda (b::t)
def acx:∀{p:List Nat} (a:Nat),dj p=ycZ->∃n,cM p a=FL n
 | [],a,_=>⟨a,rfl⟩
 | b::r,a,h=>by
  have h':=h;simp only[dj,yf] at h';have⟨n,hn⟩:=acx (p:=r) (10*a+(b-48)) h'.2;exact⟨n,by simp only[cM,h'.1.1,h'.1.2,wL,yx];exact hn⟩
def FW:∀(k:Nat) {p:List Nat},p.length=k->dV p=ycZ->aC (fZ p)=p:=by
 intro k
 induction k with
 | zero=>intro p hl h;rw[yL hl] at h;simp[dV] at h
 | succ k ih=>
  intro p hl h;rcases snoc p with rfl | ⟨m,a,rfl⟩
  .grind
  .simp only [dV,yf,Nn] at h;have⟨⟨h1,h2⟩,h3⟩:=h;simp only[dj,yf] at h2;have ha1:=yv h2.1.1;have ha2:=yv h2.1.2;have⟨n,hn⟩:=acx 0 h1;have hv:fZ (m++[a])=10*n+(a-48):=by
    unfold fZ;rw[Jw,hn];simp only[Option.bind_some,cM,h2.1.1,h2.1.2,wL,yx,Option.getD_some]
   cases m with
   | nil=>
    have:n=0:=by simpa[cM] using hn.symm
    rw[hv,qt (by lia)]
    simp;lia
   | cons b r=>
    have hd:dV (b::r)=ycZ:=by
     simp only[dV,h1,wS]
     cases r with
     | nil=>simp
     | cons c r=>simp at h3 ⊢;exact h3
    have hm:=ih (p:=b::r) (by simpa using hl) hd;have hnv:fZ (b::r)=n:=by unfold fZ;rw[hn];rfl
    rw[hnv] at hm;have pQ:n≠0:=fun e=>by
     rw[qt (by lia)] at hm
     simp_all
    rw[hv,se (by lia),show (10*n+(a-48))/10=n by lia,show 48+(10*n+(a-48))%10=a by lia,hm]
def Zy(t:List Nat):bT t<t.length->t=t.take (bT t)++47::t.drop (bT t+1):=by
 induction t with
 | nil=>simp
 | cons b r ih=>
  intro h;simp only[bT] at h ⊢
  grind
def abt{n:Int}{d:Nat}(hd:0<d)(hg:wJ n.natAbs d=1):∃r:Rat,r.num=n/\r.den=d:=⟨⟨n,d,by lia,hg⟩,rfl,rfl⟩
def avt{s:List Nat}(h:ik s=0):∃r:Rat,s=RT r/\(aC r.num.natAbs).length<=600/\(aC r.den).length<=600:=by
 have key:∀(neg:Bool) (t:List Nat),Bu neg t=0->∃r:Rat,(if neg=ycZ then [45] else [])++t=RT r/\(aC r.num.natAbs).length<=600/\(aC r.den).length<=600:=by
  intro neg t h;unfold Bu at h
  split at h
  .grind
  rename_i h1
  split at h
  .grind
  rename_i h2
  split at h
  .grind
  rename_i h3
  split at h
  .grind
  rename_i h4;have hle:=Jm t;have hp:dV (t.take (bT t))=ycZ:=by
   cases hb:dV (t.take (bT t)) with
   | true=>rfl
   | false=>exact absurd (.inl hb) h1
  have zg:=FW _ rfl hp;generalize hn:fZ (t.take (bT t))=n at*
  have axW:neg=ycZ->n≠0:=fun hh e=>by
   subst e;exact h1 (.inr ⟨hh,by rw[<-zg];rfl⟩)
  have hint:(if neg=ycZ then [45] else [])++aC n=aV (if neg=ycZ then -(n:Int) else n):=by
   cases neg with
   | true=>
    have:=axW rfl
    simp only[xA];rw[nX (by lia)]
    simp
   | false=>simp[mC]
  have WZ:(if neg=ycZ then -(n:Int) else n).natAbs=n:=by split<;>lia
  have R2:(aC n).length<=600:=by rw[zg,yT];lia
  by_cases hs:bT t<t.length
  .have hq:dV (t.drop (bT t+1))=ycZ:=by
    cases hb:dV (t.drop (bT t+1)) with
    | true=>rfl
    | false=>exact absurd ⟨hs,.inl hb⟩ h2
   have p9:=FW _ rfl hq;have hg:wJ n (fZ (t.drop (bT t+1)))=1:=by
    grind
   have lD:=Zy t hs;have MW:(t.drop (bT t+1)).length<=600:=by rw[xY];lia
   rw[<-p9] at lD MW;have ij:fZ (t.drop (bT t+1))≠0:=fun e=>by
    rw[e] at p9;exact h2 ⟨hs,.inr (.inl (by rw[<-p9];rfl))⟩
   have rN:fZ (t.drop (bT t+1))≠1:=fun e=>by
    rw[e] at p9;exact h2 ⟨hs,.inr (.inr (by rw[<-p9];rfl))⟩
   generalize fZ (t.drop (bT t+1))=d at*
   have⟨r,ej,nM⟩:=abt (n:=if neg=ycZ then -(n:Int) else n) (d:=d) (by lia) (by rw[WZ];exact hg)
   refine⟨r,?_,by rw[ej,WZ];exact R2,by rw[nM];exact MW⟩
   unfold RT;rw[ej,nM,yt rN,<-hint,xy]
   congr 1
   rw[zg];exact lD
  .have ht:t.take (bT t)=t:=yK (by lia);rw[ht] at zg;have⟨r,ej,nM⟩:=abt (n:=if neg=ycZ then -(n:Int) else n) (d:=1) (by lia) (Nat.gcd_one_right _);refine⟨r,?_,by rw[ej,WZ];exact R2,by rw[nM];decide⟩
   unfold RT;rw[ej,nM,yD rfl,<-hint,xT,zg]
 cases s with
 | nil=>exact absurd h (by decide)
 | cons b t=>
  simp only[ik] at h
  split at h
  .rename_i hb;subst hb;exact key ycZ t h
  .exact key yda (b::t) h
end VE
end
section
namespace VE
namespace Nd
structure Ord(n:Nat)(l:List Int):Prop where
 len:l.length=n
 rE:∀a,a<n->0<=l.getD a 0/\l.getD a 0<n
 inj:∀a b,a<n->b<n->l.getD a 0=l.getD b 0->a=b
end Nd
end VE
end
section
namespace VE
namespace Nd
open Go (IntKind)
section
variable {P:aF}{L:Lib}
abbrev ab(P:aF)(L:Lib)(f:Nat)(aq:List AV)(r:AV):Prop:=bL P L (D P L) f aq=FL r
def stS{hp:Hp}{ct id o:Nat}{v:Int}{ex:Bool}{l:List Int}(h:o<l.length):fy hp ct id o 1 [.int .i64 v] (FL (.cells ycZ ycZ ex 1 (l.map aa)))=FL (.aw [],aW hp id (.cells ycZ ycZ ex 1 ((l.set o v).map aa)),ct):=by
 rw[A7 (by rfl) (by simp;lia) (by rfl)]
 have:over o [AV.int .i64 v] (l.map aa)=(l.set o v).map aa:=by
  simp only[over,yy,yJ,yd];rw[ycs,uv,yD (by simpa using h)]
  simp
 rw[this];rfl
def Bv(h:Has P L 124 G5)(b:Bool)(n:Int):ab P L 124 [.bool b,aa n] (aa (if b=ycZ then n else 0)):=by
 unfold ab;rw[aE h]
 cases b with
 | true=>simp only[go_sem,ya,G5,xA]
 | false=>simp only[go_sem,ya,G5];rfl
def azL(h:Has P L 125 PX){v:AV}{l:List Int}(hv:bi v l)(hl:l.length<=1000000):ab P L 125 [v] (aa (bS l)):=by
 unfold ab;rw[aE h];simp only[go_sem,ya,PX,hv.len];have key:=N7 (P:=P) (L:=L) (live:=[5,6,7]) (a:=OS)
  (I:=fun k s=>∃tm ct i,s=⟨tm,[],ct,0⟩/\aj tm 5=v/\aj tm 6=aa l.length/\aj tm 7=aa (i:Nat)/\i+k=l.length/\bS (l.drop i)=bS l)
  (Q:=fun ex s=>∃tm,s=⟨tm,[],0,0⟩/\((ex=.ret/\aj tm 2=aa (bS l))\/(ex=.exit 0/\bS l=0))) ?_ l.length
 .generalize hq:D P L (.loop _ OS) _=q;obtain⟨ex,s,rfl,tm,rfl,h2⟩:=bH hq key ⟨_,_,0,rfl,rfl,rfl,rfl,by lia,rfl⟩;rcases h2 with ⟨rfl,h2⟩ | ⟨rfl,h2⟩
  .simp only [go_sem,h2]
  .rw [h2];simp only[go_sem]
 .rintro k s ⟨tm,ct,i,rfl,h5,h6,h7,hk,hf⟩;rw[Nj (by simp only[go_sem,h5,h6,h7,hv.pu])];simp only[go_sem,ya,h5,h6,h7,OS];by_cases hi:i<l.length
  .have cL:(i:Int)<l.length:=by lia
   rw[Sr hi] at hf;by_cases hz:l[i]=0
   .left
    simp only[go_sem,ya,cL,hv.bq hi,hz];refine⟨_,k-1,rfl,by lia,_,_,i+1,rfl,?_⟩;rw[wrap64 (by lia) (by lia)];rw[yD hz] at hf;simp only[go_sem,ya];exact⟨trivial,trivial,rfl,by lia,hf⟩
   .right
    simp only[go_sem,ya,cL,hv.bq hi,hz];rw[yt hz] at hf;refine⟨_,_,rfl,by simp,_,rfl,.inl ⟨rfl,?_⟩⟩;simp only[go_sem,hf]
  .right
   have cL:¬(i:Int)<l.length:=by lia
   simp only[go_sem,cL];refine⟨_,_,rfl,by simp,_,rfl,.inr ⟨rfl,?_⟩⟩;rw[<-hf,xa (by lia)];rfl
end
end Nd
end VE
end
section
namespace VE
open Go (IntKind)
section
variable {a b p:List Nat}
def acy(i:Nat):G4 i [48,49,50,51,52,53,54,55,56,57]=(yE 48 i&&yE i 57):=by
 by_cases h:48<=i/\i<=57
 .have ⟨h1,h2⟩:=h;obtain⟨k,rfl⟩:∃k,i=48+k:=⟨i-48,by lia⟩;rcases (show k=0\/k=1\/k=2\/k=3\/k=4\/k=5\/k=6\/k=7\/k=8\/k=9 by lia) with rfl | rfl | rfl | rfl | rfl | rfl | rfl | rfl | rfl | rfl<;>rfl
 .have e:(yE 48 i&&yE i 57)=yda:=by
   cases h1:yE 48 i with
   | false=>rfl
   | true=>
    cases h2:yE i 57 with
    | false=>rfl
    | true=>exact absurd ⟨yv h1,yv h2⟩ h
  rw[e];have ne:∀c,48<=c->c<=57->yq c i=yda:=fun c h1 h2=>gW (by lia)
  simp only[G4,ne 48 (by decide) (by decide),ne 49 (by decide) (by decide),ne 50 (by decide) (by decide),ne 51 (by decide) (by decide),ne 52 (by decide) (by decide),ne 53 (by decide) (by decide),ne 54 (by decide) (by decide),ne 55 (by decide) (by decide),ne 56 (by decide) (by decide),ne 57 (by decide) (by decide),yR]
def Tc:∀l:List Nat,lZ [48,49,50,51,52,53,54,55,56,57] l=[]↔dj l=ycZ
 | []=>by simp[lZ,dj]
 | b::r=>by
  simp only[lZ,dj,acy]
  cases hb:(yE 48 b&&yE b 57) with
  | true=>simp only[yx,wS];exact Tc r
  | false=>simp
def Ob:∀l:List Nat,dj l.reverse=dj l
 | []=>rfl
 | b::r=>by rw[List.reverse_cons,Nn,Ob r];simp[dj,Bool.and_comm]
def ZB:∀l:List Nat,dj l=yda->dj (lZ [48,49,50,51,52,53,54,55,56,57] l)=yda
 | [],h=>by simp[dj] at h
 | b::r,h=>by
  simp only[lZ,acy]
  cases hb:(yE 48 b&&yE b 57) with
  | true=>
   simp only[dj,hb,wS] at h;exact ZB r h
  | false=>simp only[yR];exact h
def apv(p:List Nat):cW (lZ [48,49,50,51,52,53,54,55,56,57] (lZ [48,49,50,51,52,53,54,55,56,57] p.reverse).reverse) []=dj p:=by
 cases hd:dj p with
 | true=>
  have h1:=(Tc p.reverse).2 (by rw[Ob];exact hd)
  rw[h1];rfl
 | false=>
  have h1:=ZB p.reverse (by rw[Ob];exact hd)
  have h2:dj (lZ [48,49,50,51,52,53,54,55,56,57] p.reverse).reverse=yda:=by rw[Ob];exact h1
  cases hq:lZ [48,49,50,51,52,53,54,55,56,57] (lZ [48,49,50,51,52,53,54,55,56,57] p.reverse).reverse with
  | nil=>have:=(Tc _).1 hq;rw[h2] at this;exact absurd this (by decide)
  | cons b r=>rfl
def ZC:∀(t:List Nat) (k:Nat),ns [47] t k=if bT t<t.length then FL (k+bT t) else FM
 | [],k=>by simp[ns,gY,bT]
 | b::r,k=>by
  by_cases hb:b=47
  .subst hb;have e:bT (47::r)=0:=by simp[bT]
   rw[e,yD (by simp)];rfl
  .have e:bT (b::r)=bT r+1:=by simp[bT,hb]
   have hp:gY [47] (b::r)=yda:=by rw[Jp];exact gW (fun e=>hb e.symm)
   rw[e,ns,hp,yR,ZC r (k+1)]
   grind
def D0(a b:List Nat):binOp .neq (.str a) (.str b)=FL (.bool (!(cW a b))):=rfl
structure Ck(P:aF)(L:Lib):Prop extends Tx P L where
 azM:L.pure 128=FL Nz
 azN:L.pure 162=FL trimS
 h86:Has P L 86 fG
 E0:Has P L 124 G5
 azO:Has P L 125 PX
 azP:Has P L 129 G6
section
variable {P:aF}{L:Lib}
def Bv(h:Has P L 124 G5)(b:Bool)(n:Int):ab P L 124 [.bool b,aa n] (aa (if b=ycZ then n else 0)):=Nd.Bv h b n
def ahk(h:Ck P L)(hl:p.length<=4000000000):ab P L 129 [.str p] (.bool (dV p)):=by
 have e1:bL P L (D P L) 162 [.str p,.str [48,49,50,51,52,53,54,55,56,57]]=FL (.str (lZ [48,49,50,51,52,53,54,55,56,57] (lZ [48,49,50,51,52,53,54,55,56,57] p.reverse).reverse)):=by
  rw[kj h.azN];show (bif Gk [48,49,50,51,52,53,54,55,56,57]&&(yO p.length 4294967281&&yO 10 4294967281) then _ else FM)=_
  rw[ma (by lia)];rfl
 have e2:=apv p;unfold ab;rw[aE h.azP]
 match p,e1,e2 with
 | [],_,_=>
  simp only[go_sem,ya,G6,D0,show cW [] []=ycZ from rfl,yX];rfl
 | b::r,e1,e2=>
  have hI:oh 0 (.str (b::r))=FL (.int .u8 (b:Nat)):=rfl;have h0:cW (b::r) []=yda:=rfl;have hd:dV (b::r)=(dj (b::r)&&(!(yq b 48)||r.isEmpty)):=rfl;rw[hd]
  cases oI:dj (b::r) with
  | false=>
   rw[oI] at e2;simp only[go_sem,ya,G6,D0,h0,yY,e1,mG,e2,wU]
  | true=>
   rw[oI] at e2;by_cases hb:b=48
   .subst hb;have e3:cW (48::r) [48]=r.isEmpty:=by
     cases r with
     | nil=>rfl
     | cons c r=>rfl
    have XX:oh 0 (.str (48::r))=FL (.int .u8 48):=rfl;simp only[go_sem,ya,G6,D0,h0,yY,e1,mG,e2,XX,yM,yX,e3];rfl
   .have:yq b 48=yda:=gW hb
    rw[this];simp only[go_sem,ya,G6,D0,h0,yY,e1,mG,e2,hI,show ¬((b:Nat):Int)=48 by lia,yH,yY];rfl
def azQ(h:Ck P L)(s:List Nat):bL P L (D P L) 128 [.str s,.str [45]]=FL (if s.head? =FL 45 then .aw [.str s.tail,.bool ycZ] else .aw [.str s,.bool yda]):=by
 rw[kj h.azM];show FL (bif gY [45] s then AV.aw [.str (s.drop 1),.bool ycZ] else .aw [.str s,.bool yda])=_
 cases s with
 | nil=>rfl
 | cons b r=>
  by_cases hb:b=45
  .subst hb;rfl
  .have:gY [45] (b::r)=yda:=by rw[Jp];exact gW (fun e=>hb e.symm)
   grind
def azR(h:Ck P L){t:List Nat}(hl:t.length<=4000000000):bL P L (D P L) 109 [.str t,.str [47]]=FL (.aw [.str (t.take (bT t)),.str (t.drop (bT t+1)),.bool (decide (bT t<t.length))]):=by
 rw[kj h.WR];show (bif yO t.length 4294967281 then (match ns [47] t 0 with | some i=>FL (AV.aw [.str (t.take i),.str (t.drop (i+1)),.bool ycZ]) | none=>FL (AV.aw [.str t,.str [],.bool yda])) else FM)=_
 rw[ma (by lia),ZC];by_cases hs:bT t<t.length
 .grind
 .rw [yt hs,yQ hs,yK (by lia),xa (by lia)];rfl
def alO{P:aF}{L:Lib}(a b c d:VC)(s:St):D P L (.seq a (.seq b (.seq c d))) s=qW P L (D P L (.seq a (.seq b c)) s) d:=by
 have e:=DR (P:=P) (L:=L) b c d;rw[nC,nC]
 cases D P L a s with
 | none=>rfl
 | some q=>
  have⟨ex,st⟩:=q
  cases ex with
  | normal=>rw[iS,iS];exact e st
  | ret=>rfl
  | exit id=>rfl
def ank{P:aF}{L:Lib}(a b c d f:VC)(s:St):D P L (.seq a (.seq b (.seq c (.seq d f)))) s=qW P L (D P L (.seq a (.seq b (.seq c d))) s) f:=by
 have e:=alO (P:=P) (L:=L) b c d f;rw[nC,nC]
 cases D P L a s with
 | none=>rfl
 | some q=>
  have⟨ex,st⟩:=q
  cases ex with
  | normal=>rw[iS,iS];exact e st
  | ret=>rfl
  | exit id=>rfl
def OF(h:a=b):cW a b=ycZ:=by
 subst h
 induction a with
 | nil=>rfl
 | cons x a ih=>simp[cW,ih]
def Ut(h:a≠b):cW a b=yda:=by
 cases hb:cW a b with
 | false=>rfl
 | true=>
  exact absurd (by
   clear h;revert b
   induction a with
   | nil=>intro b hb;cases b with | nil=>rfl | cons y b=>simp[cW] at hb
   | cons x a ih=>
    intro b hb
    cases b with
    | nil=>simp[cW] at hb
    | cons y b=>
     simp only[cW,yf] at hb
     rw[yg hb.1,ih hb.2]) h
def axX(h:Ck P L){q:List Nat}{ok found:Bool}(lp:p.length<=1000000000)(lq:q.length<=1000000000)(j8:ok=ycZ->dV p=ycZ/\(found=ycZ->dV q=ycZ)){tm:Env}(t5:aj tm 5=.str p)(t6:aj tm 6=.str q)(t7:aj tm 7=.bool found)(t8:aj tm 8=.bool ok):
  gn [.t 2] (D P L (aD (aD (aD (aD (aD fG.body))))) ⟨tm,[],0,0⟩)=FL (aa (
   if ok=yda then 1
   else if 600<p.length\/600<q.length then 4
   else if found=ycZ/\wJ (fZ p) (fZ q)≠1 then 1
   else 0)):=by
 have w1:=Bv h.E0 (!ok) 1;have BT:∀a b:Int,ab P L 125 [.au ycZ 2 [aa a,aa b]] (aa (bS [a,b])):=fun a b=>Nd.azL h.azO (kz ycZ [a,b]) (by simp)
 cases ok with
 | false=>
  have f1:=BT 1 0;have f2:=BT 1 4;have w2:=Bv h.E0 yda 4;have w3:=Bv h.E0 ycZ 4;simp only[yY,xA,yC,xm] at w1 w2 w3;rw[show bS [1,0]=1 by decide] at f1;rw[show bS [1,4]=1 by decide] at f2;unfold ab at w1 w2 w3 f1 f2;by_cases h1:600<p.length
  .simp only [go_sem,ya,yb,yz,yk,yi,fG,aD,show ¬(1:Int)=0 by decide,yY,t5,t8,yY,w1,show (600:Int)<(p.length:Int) by lia,yM,w3,f2,yH]
   simp
  .by_cases h2:600<q.length
   .simp only [go_sem,ya,yb,yz,yk,yi,fG,aD,show ¬(1:Int)=0 by decide,yY,t5,t6,t8,yY,w1,show ¬(600:Int)<(p.length:Int) by lia,show (600:Int)<(q.length:Int) by lia,yM,yH,w3,f2]
    simp
   .simp only [go_sem,ya,yb,yz,yk,yi,fG,aD,show ¬(1:Int)=0 by decide,yY,t5,t6,t8,yY,w1,show ¬(600:Int)<(p.length:Int) by lia,show ¬(600:Int)<(q.length:Int) by lia,yH,w2,f1]
    simp
 | true=>
  have⟨hp,hq⟩:=j8 rfl;have f1:=BT 0 0;have f2:=BT 0 4;have w2:=Bv h.E0 yda 4;have w3:=Bv h.E0 ycZ 4;have w4:=Bv h.E0 yda 1;have w5:=Bv h.E0 ycZ 1;simp only[yX,xA,yC,xm] at w1 w2 w3 w4 w5;rw[show bS [0,0]=0 by decide] at f1;rw[show bS [0,4]=4 by decide] at f2;unfold ab at w1 w2 w3 w4 w5 f1 f2;rw[yt (by decide)];by_cases h1:600<p.length
  .rw [yD (.inl h1)];simp only[go_sem,ya,yb,yz,yk,yi,fG,aD,show ¬(4:Int)=0 by decide,yY,t5,t8,yX,w1,show (600:Int)<(p.length:Int) by lia,yM,w3,f2,yH]
  .by_cases h2:600<q.length
   .rw [yD (.inr h2)];simp only[go_sem,ya,yb,yz,yk,yi,fG,aD,show ¬(4:Int)=0 by decide,yY,t5,t6,t8,yX,w1,show ¬(600:Int)<(p.length:Int) by lia,show (600:Int)<(q.length:Int) by lia,yM,yH,w3,f2]
   .rw [yt (by lia)]
    cases found with
    | false=>
     rw[yt (by simp)];simp only[go_sem,ya,yb,yz,yk,yi,fG,aD,t5,t6,t7,t8,yX,w1,show ¬(600:Int)<(p.length:Int) by lia,show ¬(600:Int)<(q.length:Int) by lia,yM,yH,w2,f1]
    | true=>
     have zg:=FW _ rfl hp;have p9:=FW _ rfl (hq rfl);generalize fZ p=n at*
     generalize fZ q=d at*
     subst zg;subst p9;obtain⟨M,hM⟩:∃M:Nat,M=2400:=⟨_,rfl⟩;have bd:∀{m:Nat},(aC m).length<=600->Bd M (m:Int):=fun {m} hm=>by
      have h1:=JH m;have h2:=JI (aC m).length;have h3:(2:Nat)^(4*(aC m).length)<=2^M:=y9 (by decide) (by lia);unfold Bd;rw[wv];exact yP h1 (xi h2 h3)
     have⟨x,e1,hx⟩:=LJ h.toTx (z:=(n:Int)) (by rw[mC];lia)
     have⟨y,e2,hy⟩:=LJ h.toTx (z:=(d:Int)) (by rw[mC];lia)
     rw[mC] at e1 e2;have kn:=bd (m:=n) (by lia);have kd:=bd (m:=d) (by lia);have⟨g,e3,hg⟩:=ahd h.toNu hx hy kn kd (by lia);have⟨e4,E5⟩:=EX h.toNu (z:=1) (by decide) (by decide);have kg:Bd M ((vv (n:Int) (d:Int):Nat):Int):=by
      rcases xj d with h0 | h0
      .subst h0;simpa using kn
      .exact kd.le (by have:=Nat.gcd_le_right n h0;simpa using this)
     have e5:=ag8 h.toNu hg E5 (K:=M) kg (by unfold Bd;exact vY (by lia)) (by lia)
     have azS:vv (n:Int) (d:Int)=wJ n d:=rfl;rw[azS] at e5;obtain⟨xs,xw,rfl,zh⟩:=hx;obtain⟨ys,yw,rfl,Fz⟩:=hy;obtain⟨gs,gw,rfl,AD⟩:=hg;have⟨l1,u1⟩:=zh.aK;have⟨l2,u2⟩:=Fz.aK;have⟨l3,u3⟩:=AD.aK;by_cases jd:wJ n d=1
     .rw [yt (by simp[jd])];have hs:bX (((wJ n d:Nat):Int)-1)=0:=by rw[jd];rfl
      rw[hs] at e5;simp only[go_sem,ya,yb,yz,yk,yi,fG,aD,t5,t6,t7,t8,yX,w1,show ¬(600:Int)<((aC n).length:Int) by lia,show ¬(600:Int)<((aC d).length:Int) by lia,yM,yH,w2,f1,e1,e2,u1.ai,u2.ai,u3.ai,bz,bY,e3,e4,e5]
     .rw [yD ⟨rfl,jd⟩];obtain⟨c,hc,mq⟩:∃c,bX (((wJ n d:Nat):Int)-1)=c/\c≠0:=⟨_,rfl,fun e=>jd (by
       unfold bX at e
       split at e
       .exact absurd e (by decide)
       .split at e
        .lia
        .exact absurd e (by decide))⟩
      rw[hc] at e5;simp only[go_sem,ya,yb,yz,yk,yi,fG,aD,yY,t5,t6,t7,t8,yX,w1,show ¬(600:Int)<((aC n).length:Int) by lia,show ¬(600:Int)<((aC d).length:Int) by lia,yM,yH,w2,f1,e1,e2,u1.ai,u2.ai,u3.ai,bz,bY,e3,e4,e5,mq,yY,w5]
def m86(h:Ck P L){s:List Nat}(hl:s.length<=1000000000):ab P L 86 [.str s] (aa (ik s)):=by
 have key:∀(neg:Bool) (t:List Nat),t.length<=1000000000->bL P L (D P L) 128 [.str s,.str [45]]=FL (.aw [.str t,.bool neg])->ab P L 86 [.str s] (aa (Bu neg t)):=by
  intro neg t hl e0;have e1:=azR h (t:=t) (by lia);obtain⟨k,hk⟩:∃k,k=bT t:=⟨_,rfl⟩;have YW:k<=t.length:=by rw[hk];exact Jm t
  have e2:=ahk h (p:=t.take k) (by rw[yT];lia)
  have e3:=ahk h (p:=t.drop (k+1)) (by rw[xY];lia)
  have lp:(t.take k).length=k:=by rw[yT];lia
  have lq:(t.drop (k+1)).length=t.length-k-1:=by rw[xY];lia
  unfold Bu;rw[<-hk] at e1 ⊢;generalize hp:t.take k=p at*
  generalize hq:t.drop (k+1)=q at*
  obtain⟨Dy,zZ⟩:∃ok:Bool,ok=(dV p&&(!neg|| !(cW p [48]))):=⟨_,rfl⟩;obtain⟨ok,j8⟩:∃ok:Bool,ok=(Dy&&(!(decide (k<t.length))||(dV q&&(!(cW q [48])&& !(cW q [49]))))):=⟨_,rfl⟩
  have QC:(if dV p=yda\/(neg=ycZ/\p=[48]) then 1
    else if k<t.length/\(dV q=yda\/q=[48]\/q=[49]) then 1
    else if 600<k\/600<t.length-k-1 then 4
    else if k<t.length/\wJ (fZ p) (fZ q)≠1 then 1 else 0:Int)=(if ok=yda then 1
    else if 600<p.length\/600<q.length then 4
    else if decide (k<t.length)=ycZ/\wJ (fZ p) (fZ q)≠1 then 1
    else 0):=by
   rw[lp,lq];have a1:(dV p=yda\/(neg=ycZ/\p=[48]))↔Dy=yda:=by
    rw[zZ];cases dV p<;>cases neg<;>simp
    by_cases e:p=[48]
    .simp [e,OF]
    .simp [e,Ut e]
   have a2:ok=yda↔(Dy=yda\/(k<t.length/\(dV q=yda\/q=[48]\/q=[49]))):=by
    rw[j8];by_cases hs:k<t.length
    .simp only [hs,yM,yX,vh,tP];cases Dy<;>cases dV q<;>simp
     by_cases e:q=[48]
     .simp [e,OF]
     .by_cases e':q=[49]
      .simp [e',OF]
      .simp [e,e',Ut e,Ut e']
    .simp [hs]
   by_cases h1:Dy=yda
   .rw [yD (a1.2 h1),yD (a2.2 (.inl h1))]
   .rw [yt (fun e=>h1 (a1.1 e))];by_cases h2:k<t.length/\(dV q=yda\/q=[48]\/q=[49])
    .rw [yD h2,yD (a2.2 (.inr h2))]
    .rw [yt h2,yt (fun e=>(a2.1 e).elim h1 h2)];simp only[vU]
  rw[QC];have azT:ok=ycZ->dV p=ycZ/\(decide (k<t.length)=ycZ->dV q=ycZ):=fun e=>by
   rw[j8,yf] at e;have⟨e1,e2⟩:=e;rw[zZ,yf] at e1;refine⟨e1.1,fun hs=>?_⟩;rw[hs,yX,vh,yf] at e2;exact e2.1
  have tail:∀tm,aj tm 5=.str p->aj tm 6=.str q->aj tm 7=.bool (decide (k<t.length))->aj tm 8=.bool ok->gn [.t 2] (D P L (aD (aD (aD (aD (aD fG.body))))) ⟨tm,[],0,0⟩)=_:=fun tm t5 t6 t7 t8=>
   axX h (by lia) (by lia) azT t5 t6 t7 t8
  have mid:∀tm,aj tm 5=.str p->aj tm 6=.str q->aj tm 7=.bool (decide (k<t.length))->aj tm 8=.bool Dy->
    ∃tm',D P L (bB (aD (aD (aD (aD fG.body))))) ⟨tm,[],0,0⟩=FL (.normal,⟨tm',[],0,0⟩)/\aj tm' 5=.str p/\aj tm' 6=.str q/\aj tm' 7=.bool (decide (k<t.length))/\aj tm' 8=.bool ok:=fun tm t5 t6 t7 t8=>by
   unfold ab at e3;by_cases hs:k<t.length
   .rw [y8 hs] at t7 j8 ⊢;simp only[yX,vh] at j8
    cases Dy with
    | false=>
     rw[wU] at j8;subst j8;refine⟨_,by simp only[go_sem,ya,fG,bB,aD,t7,t8]<;>rfl,?_⟩
     simp only[go_sem,ya,t5,t6,t7,tP]
    | true=>
     rw[wS] at j8
     cases hd:dV q with
     | false=>
      rw[hd] at e3 j8;rw[wU] at j8;subst j8;refine⟨_,by simp only[go_sem,ya,fG,bB,aD,t6,t7,t8,e3]<;>rfl,?_⟩
      simp only[go_sem,ya,t5,t6,t7,tP]
     | true=>
      rw[hd] at e3 j8;rw[wS] at j8
      cases kI:cW q [48] with
      | true=>
       rw[kI,yX,wU] at j8;subst j8;refine⟨_,by simp only[go_sem,ya,fG,bB,aD,t6,t7,t8,e3,D0,kI,yX]<;>rfl,?_⟩
       simp only[go_sem,ya,t5,t6,t7,tP]
      | false=>
       rw[kI,yY,wS] at j8;subst j8;refine⟨_,by simp only[go_sem,ya,fG,bB,aD,t6,t7,t8,e3,D0,kI,yY]<;>rfl,?_⟩
       simp only[go_sem,ya,t5,t6,t7,tP]
   .rw [yQ hs] at t7 j8 ⊢;simp only[yY,vN,uO] at j8;subst j8;refine⟨_,by simp only[go_sem,fG,bB,aD,t7]<;>rfl,?_⟩
    simp only[go_sem,ya,t5,t6,t7,t8,tP]
  have fin:∀tm,aj tm 5=.str p->aj tm 6=.str q->aj tm 7=.bool (decide (k<t.length))->aj tm 8=.bool Dy->
    D P L (.seq (bB fG.body) (.seq (bB (aD fG.body)) (.seq (bB (aD (aD fG.body))) (bB (aD (aD (aD fG.body))))))) ⟨[(0,.str s)],[],0,0⟩=FL (.normal,⟨tm,[],0,0⟩)->ab P L 86 [.str s] _:=fun tm t5 t6 t7 t8 e=>by
   have⟨tm',e',f5,f6,f7,f8⟩:=mid tm t5 t6 t7 t8;unfold ab;rw[aE h.h86];show gn [.t 2] (D P L (.seq (bB fG.body) (.seq (bB (aD fG.body)) (.seq (bB (aD (aD fG.body))) (.seq (bB (aD (aD (aD fG.body)))) (.seq (bB (aD (aD (aD (aD fG.body))))) (aD (aD (aD (aD (aD fG.body)))))))))) ⟨[(0,.str s)],[],0,0⟩)=_
   rw[ank,e,iS,nC,e',iS];exact tail tm' f5 f6 f7 f8
  unfold ab at e2
  cases hd:dV p with
  | false=>
   rw[hd] at e2 zZ;rw[wU] at zZ;subst zZ;refine fin _ ?_ ?_ ?_ ?_ (by simp only[go_sem,ya,fG,bB,aD,e0,e1,e2]<;>rfl)<;>simp only[go_sem,ya]
  | true=>
   rw[hd] at e2 zZ
   cases neg with
   | false=>
    simp only[yY,vN] at zZ;subst zZ;refine fin _ ?_ ?_ ?_ ?_ (by simp only[go_sem,ya,fG,bB,aD,e0,e1,e2,yY]<;>rfl)<;>simp only[go_sem,ya]
   | true=>
    simp only[yX,vh] at zZ;subst zZ;refine fin _ ?_ ?_ ?_ ?_ (by simp only[go_sem,ya,fG,bB,aD,e0,e1,e2,yX,D0]<;>rfl)<;>simp only[go_sem,ya]
 unfold ik;have e0:=azQ h s
 cases s with
 | nil=>exact key yda [] (by simp) e0
 | cons b r=>
  by_cases hb:b=45
  .subst hb;exact key ycZ r (by simp at hl;lia) e0
  .simp only [hb,xm];rw[yt (by simpa using hb)] at e0;exact key yda (b::r) hl e0
end
end
end VE
end
section
namespace VE
open Go (IntKind)
section
variable {v:AV}{z:Int}{K:Nat}
def LN(z:Int):Bool:=decide (600<(aC z.natAbs).length)
def LG(r:Rat):Bool:=LN r.num||LN (r.den:Int)
def alP{m B k:Nat}(hB:B<=3*k)(hk:0<k)(h:m<2^B):(aC m).length<=k:=by
 obtain⟨j,rfl⟩:∃j,k=j+1:=⟨k-1,by lia⟩;refine zt (yP h (xi (y9 (by decide) hB) ?_));rw[yan];exact ub (by decide) _
def Uu:∀f n:Nat,eN f n<=f
 | 0,_=>yu _
 | f+1,n=>by
  unfold eN
  cases yq n 0 with
  | true=>exact tq _
  | false=>have:=Uu f (n/2);simp only[yR];lia
def avu{P:aF}{L:Lib}{f:cl}(h:L.pure 175=FL JS){x:Nat}(hx:x<2^64):bL P L f 175 [uc x]=FL (aa (eN 64 x:Nat)):=by
 rw[kj h];show (bif yO x (2^64) then _ else FM)=_
 rw[ma hx];rfl
def arI{V n top low:Nat}(hn:0<n)(h0:0<top)(ht:top<2^64)(hV:V=low+(2^64)^(n-1)*top)(hl:low<(2^64)^(n-1)):V<2^(64*(n-1)+eN 64 top):=by
 have⟨l1,l2,l3⟩:=TO h0 ht;have hle:=Uu 64 top;have h1:top<2^eN 64 top:=by
  have e:(2^64:Nat)=2^eN 64 top*2^(64-eN 64 top):=by rw[<-xD,show eN 64 top+(64-eN 64 top)=64 by lia]
  rw[e] at l3;exact Nat.lt_of_mul_lt_mul_right l3
 have h3:=yW ((2^64)^(n-1)) (show top+1<=2^eN 64 top from h1);rw[xD,yan]
 grind
section
variable {P:aF}{L:Lib}
def apw(K:Nat):2^K<=(2^64)^(K/64+1):=by
 rw[show (2^64:Nat)=2^64 from rfl,<-yan];exact y9 (by decide) (by lia)
def axY(h:Tx P L)(hv:cD v z)(hz:Bd K z)(hK:K<=4000000000):∃B:Nat,ab P L 172 [v] (aa B)/\z.natAbs<2^B/\B<=K+64:=by
 obtain⟨s,w,rfl,hn⟩:=hv;have⟨l,u⟩:=hn.aK;have⟨r,e1,hr⟩:=Bs h.toNu hn;have⟨ws,hw,g,nz',hb⟩:=hr;have hl:ws.length<=K/64+1:=pD nz' hb (yP hz (apw K));unfold ab at e1 ⊢;by_cases h0:ws=[]
 .subst h0;have jX:z.natAbs=0:=by rw[<-hb];rfl
  refine⟨0,?_,by rw[jX];decide,by lia⟩
  rw[aE h.ahf];simp only[go_sem,ya,yb,P4,aQ,cr,bY,u.pu,u.ai,u.one,e1,hw.len,yJ,show ((0:Nat):Int)=0 from rfl,yM]
 .have hp:0<ws.length:=tg.2 h0;have qY:=N6 nz' h0;have Fq:=iz (show 0<2^64 by decide) g (ws.length-1);have ei:=hw.bq (i:=ws.length-1) (by lia);have eZ:=kv (b:=2^64) (l:=ws) (ws.length-1);have LK:=nB (Cm g (ws.length-1));rw[yT,xF (by lia)] at LK;rw[show ws.length-1+1=ws.length by lia,yK (yu _)] at eZ;generalize ws.getD (ws.length-1) 0=top at*
  have e2:=avu (P:=P) (f:=D P L) h.azF Fq;have hle:=Uu 64 top;have afJ:=arI hp (Nat.pos_of_ne_zero qY) Fq eZ LK;rw[hb] at afJ;refine⟨64*(ws.length-1)+eN 64 top,?_,afJ,by lia⟩;rw[aE h.ahf]
  simp only[go_sem,ya,yb,P4,aQ,cr,bY,u.pu,u.ai,u.one,e1,hw.len,show ¬(ws.length:Int)=0 by lia,show (ws.length:Int)-1=((ws.length-1:Nat):Int) by lia,wrapN (n:=ws.length-1) (by lia),show (64:Int)*((ws.length-1:Nat):Int)=((64*(ws.length-1):Nat):Int) by lia,wrapN (n:=64*(ws.length-1)) (by lia),ei,e2,show ((64*(ws.length-1):Nat):Int)+((eN 64 top:Nat):Int)=((64*(ws.length-1)+eN 64 top:Nat):Int) from rfl,wrapN (n:=64*(ws.length-1)+eN 64 top) (by lia)]
def azU(h:Tx P L)(hv:cD v z)(hz:Bd K z)(hK:K<=4000000000):∃B:Nat,ab P L 172 [v] (aa B)/\z.natAbs<2^B/\B<=300000000000:=by
 have⟨B,h1,h2,h3⟩:=axY h hv hz hK;exact⟨B,h1,h2,by lia⟩
def anl(z:Int):(if gY [45] (aV z)=ycZ then (aV z).drop 1 else aV z)=aC z.natAbs:=by
 by_cases h:z<0
 .rw [nX h];rfl
 .obtain ⟨m,rfl⟩:∃m:Nat,z=m:=⟨z.toNat,by lia⟩;rw[mC];have⟨b,r,hb,h1,_⟩:=FV m;rw[wv,hb,Tb h1];rfl
def ahl(h:Tx P L)(hv:cD v z)(hz:Bd K z)(hK:K<=4000000000):ab P L 151 [v] (.bool (LN z)):=by
 have⟨B,e1,hB,hBb⟩:=azU h hv hz hK;have e2:=YS h hv hz hK;obtain⟨s,w,rfl,hn⟩:=hv;have⟨l,u⟩:=hn.aK;have e3:bL P L (D P L) 153 [.str (aV z),.str [45]]=FL (.str (aC z.natAbs)):=by
  rw[kj h.WO,<-anl];show FL (AV.str (bif gY [45] (aV z) then (aV z).drop 1 else aV z))=_
  cases gY [45] (aV z)<;>rfl
 unfold ab at e1 e2 ⊢;rw[aE h.azG];unfold LN;by_cases h1:1800<B
 .simp only [go_sem,ya,yb,P0,aQ,cr,bY,u.pu,u.ai,u.one,e1,show (1800:Int)<(B:Int) by lia,yM,e2,e3];by_cases h2:600<(aC z.natAbs).length
  .rw [y8 h2,y8 (by lia)]
  .rw [yQ h2,yQ (by lia)]
 .have h2:=alP (k:=600) (by lia) (by decide) hB;rw[yQ (by lia)];simp only[go_sem,ya,yb,P0,aQ,cr,bY,u.pu,u.ai,u.one,e1,show ¬(1800:Int)<(B:Int) by lia,yH]
def azV(h:Tx P L){a:Rat}(hv:bM v a)(ka:Hq K a)(hK:K<=4000000000):ab P L 107 [v] (.bool (LG a)):=by
 obtain⟨s1,w1,s2,w2,rfl,h1,h2⟩:=hv;have e1:=ahl h ⟨s1,w1,rfl,h1⟩ ka.1 hK;have e2:=ahl h ⟨s2,w2,rfl,h2⟩ ka.2 hK;have⟨l1,u1⟩:=h1.aK;have⟨l2,u2⟩:=h2.aK;unfold ab at e1 e2 ⊢;rw[aE h.azH];unfold LG
 cases hb:LN a.num with
 | true=>
  rw[hb] at e1;simp only[go_sem,ya,yb,PU,aQ,aT,yd,cr,bY,u1.pu,u1.ai,u1.one,u2.pu,u2.one,e1];rfl
 | false=>
  rw[hb] at e1;simp only[go_sem,ya,yb,PU,aQ,aT,yd,show um 2 [aa s1,w1,aa s2,w2]=[aa s2,w2] from rfl,cr,bY,u1.pu,u1.ai,u1.one,u2.pu,u2.ai,u2.one,e1,e2];rfl
end
end
end VE
end
section
namespace VE
section
variable {e:Int}{m:Nat}
def ahm(a b:Nat)(h:a<b):2^a<2^b:=vC (by decide) h
def ahn(a b:Nat)(h:2^a<2^b):a<b:=(uh (by decide)).1 h
def avv(m a b c:Nat)(h:m<2^a)(hc:a+b=c):m*2^b<2^c:=by
 subst hc;rw[xD];exact xZ h (xg _)
def avw(m a b c:Nat)(h:2^a<=m)(hc:c<=a+b):2^c<=m*2^b:=
 xi (y9 (by decide) hc) (by rw[xD];exact yI _ h)
open Ieee
def p2(e:Int):Rat:=(2:Rat)^e
def lE(a b:Int):p2 (a+b)=p2 a*p2 b:=Rat.zpow_add (by decide) a b
def UU(e:Int):0<p2 e:=Rat.zpow_pos (by decide)
def VB(e:Int):p2 e≠0:=fun h=>by have:=UU e;rw[h] at this;exact absurd this (by decide)
def mI(n:Nat):p2 n=((2^n:Nat):Rat):=by
 unfold p2;rw[tp,Rat.natCast_pow];rfl
def E1:p2 0=1:=by have:=mI 0;simpa using this
def Bw:p2 1=2:=by have:=mI 1;simpa using this
def UW(e:Int):p2 (-e)*p2 e=1:=by rw[<-lE,show -e+e=0 by omega,E1]
structure Can(f:Format)(m:Nat)(e:Int):Prop where
 lp:f.leastPlace<=e
 lt:m<2^(f.fractionBits+1)
 ge:2^f.fractionBits<=m\/e=f.leastPlace
def fN(f:Format)(m:Nat)(e:Int):Nat:=(e-f.leastPlace).toNat*2^f.fractionBits+m
def aei(f:Format):f.infRung<f.signWeight:=by
 have h:0<2^f.exponentBits:=xg _;have hb:0<2^f.fractionBits:=xg _;unfold Format.infRung Format.signWeight Format.binade;rw[xD];exact xZ (by omega) hb
def anm{f:Format}(h:Can f m e)(s:Bool)(hr:fN f m e<f.infRung):f.read (f.word s (fN f m e))=.number s m e:=by
 have mw:=aei f;have hb:0<2^f.fractionBits:=xg _;have lp:=h.lp;have lt:=h.lt;have ge:=h.ge;rw[xh] at lt;have fD:(f.word s (fN f m e)/f.signWeight%2==1)=s:=by
  unfold Format.word
  cases s with
  | true=>rw[yD rfl,Nat.add_div_left _ (by omega),xW (by omega)];rfl
  | false=>rw[yt (by decide),xW (by omega)];rfl
 have oB:f.word s (fN f m e)%f.signWeight=fN f m e:=by
  unfold Format.word
  cases s with
  | true=>rw[yD rfl,ybH,yS (by omega)]
  | false=>rw[yt (by decide),yS (by omega)]
 unfold Format.read;simp only[fD,oB];obtain⟨d,hd⟩:∃d:Nat,e=f.leastPlace+d:=⟨(e-f.leastPlace).toNat,by omega⟩;have fE:fN f m e=d*2^f.fractionBits+m:=by unfold fN;rw[hd,show (f.leastPlace+(d:Int)-f.leastPlace).toNat=d by omega]
 unfold Format.binade;by_cases c:fN f m e<2^f.fractionBits
 .rw [yD c];have ij:d=0:=by
   rcases ge with ge | ge
   .exfalso
    have:=tq (d*2^f.fractionBits)
    omega
   .omega
  subst ij;rw[wq,yd] at fE;rw[fE,hd,Int.natCast_zero,ycx]
 .rw [yt c,yD hr];have hm:2^f.fractionBits<=m:=by
   rcases ge with ge | ge
   .exact ge
   .have:d=0:=by omega
    subst this;rw[wq,yd] at fE;omega
  obtain⟨x,hx⟩:∃x,m=2^f.fractionBits+x:=⟨m-2^f.fractionBits,by omega⟩;have hdiv:fN f m e/2^f.fractionBits=d+1:=by
   rw[fE,hx,<-uI,<-ycy,xn,tY hb,xW (by omega)]
  have E4:fN f m e%2^f.fractionBits=x:=by
   rw[fE,hx,<-uI,<-ycy,xn,tZ,yS (by omega)]
  rw[hdiv,E4,hx,hd,show d+1-1=d by omega]
def abu{n d:Nat}{neg:Bool}:Toward.even.cut neg (n*2^d) d=n:=by
 unfold Toward.cut;by_cases h0:n=0
 .subst h0
  simp
 .have hl:d<=(n*2^d).log2:=(ycK (tz (vt (by omega) (xg _)))).2 (ug _ (by omega));have hp:0<2^d:=xg _;rw[xF (by omega),ybz];simp only[tn,uX _ hp,xC];have h1:decide (2^d<0)=yda:=by simp
  have h2:((2^d==0):Bool)=yda:=by simpa using tz hp
  simp[h2]
def Sm{n:Nat}(h:n≠0):∀d,(n*2^d).log2=n.log2+d
 | 0=>by simp
 | d+1=>by
  rw[xh,<-xe,xn (n*2^d) 2,Nat.log2_two_mul (tz (vt (by omega) (xg _))),Sm h d];omega
def Can.last{f:Format}(h:Can f m e)(h0:m≠0):max (e+m.log2-f.fractionBits) f.leastPlace=e:=by
 have lp:=h.lp;have h1:m.log2<f.fractionBits+1:=(yba h0).2 h.lt;rcases h.ge with g | g
 .have:=(ycK h0).2 g
  omega
 .omega
def apx{f:Format}(h:Can f m e)(h0:m≠0){m0:Nat}{e0:Int}(s:Bool)(hv:(m0:Rat)*p2 e0=(m:Rat)*p2 e):f.nearest s m0 e0=f.word s (min (fN f m e) f.infRung):=by
 have hl:=h.last h0;have lp:=h.lp;by_cases c:e0<=e
 .obtain ⟨d,hd⟩:∃d:Nat,e=e0+d:=⟨(e-e0).toNat,by omega⟩;have hm:m0=m*2^d:=by
   rw[hd,lE,mI] at hv;have h1:(m0:Rat)=((m*2^d:Nat):Rat):=by
    rw[xL];have h2:p2 e0*p2 (-e0)=1:=by rw[yaz];exact UW e0
    have h3:(m0:Rat)*p2 e0*p2 (-e0)=(m:Rat)*(p2 e0*((2^d:Nat):Rat))*p2 (-e0):=congrArg (·*p2 (-e0)) hv;rw[vE,h2,vK] at h3;rw[h3]
    have:(m:Rat)*(p2 e0*((2^d:Nat):Rat))*p2 (-e0)=(m:Rat)*((2^d:Nat):Rat)*(p2 e0*p2 (-e0)):=by grind
    rw[this,h2,vK]
   exact_mod_cast h1
  have BR:m0≠0:=by rw[hm];exact tz (vt (by omega) (xg _))
  unfold Format.nearest;rw[yt BR];have qY:max (e0+m0.log2-f.fractionBits) f.leastPlace=e:=by
   rw[hm,Sm h0,<-hl];omega
  dsimp only
  rw[qY];rw[show (e0-e).toNat=0 by omega,Nat.shiftLeft_zero,show (e-e0).toNat=d by omega,hm,abu];rfl
 .obtain ⟨d,hd⟩:∃d:Nat,e0=e+d:=⟨(e0-e).toNat,by omega⟩;have hm:m=m0*2^d:=by
   rw[hd,lE,mI] at hv;have h1:(m:Rat)=((m0*2^d:Nat):Rat):=by
    rw[xL];have h2:p2 e*p2 (-e)=1:=by rw[yaz];exact UW e
    have h3:(m0:Rat)*(p2 e*((2^d:Nat):Rat))*p2 (-e)=(m:Rat)*p2 e*p2 (-e):=congrArg (·*p2 (-e)) hv;have h4:(m:Rat)*p2 e*p2 (-e)=m:=by rw[vE,h2,vK]
    rw[h4] at h3;rw[<-h3]
    have:(m0:Rat)*(p2 e*((2^d:Nat):Rat))*p2 (-e)=(m0:Rat)*((2^d:Nat):Rat)*(p2 e*p2 (-e)):=by grind
    rw[this,h2,vK]
   exact_mod_cast h1
  have BR:m0≠0:=fun q=>by rw[q,wq] at hm;exact h0 hm
  unfold Format.nearest;rw[yt BR];have qY:max (e0+m0.log2-f.fractionBits) f.leastPlace=e:=by
   rw[hm,Sm BR] at hl;rw[<-hl];omega
  dsimp only
  rw[qY];rw[show (e0-e).toNat=d by omega,show (e-e0).toNat=0 by omega,uA,<-hm]
  have:=abu (n:=m) (d:=0) (neg:=s)
  rw[vP,yi] at this;rw[this];rfl
end
end VE
end
section
namespace VE
open Ieee
structure IV(f:Format)(b:Nat)(s:Bool)(m:Nat)(e:Int):Prop where
 can:Can f m e
 lt:fN f m e<f.infRung
 eq:b=f.word s (fN f m e)
def IV.read{f:Format}{b:Nat}{s:Bool}{m:Nat}{e:Int}(h:IV f b s m e):f.read b=.number s m e:=by
 rw[h.eq];exact anm h.can s h.lt
def sg(s:Bool):Rat:=if s then -1 else 1
def fv(s:Bool)(m:Nat)(e:Int):Rat:=sg s*((m:Rat)*p2 e)
def arJ{f:Format}{m:Nat}{e:Int}(h:Can f m e)(he:(e-f.leastPlace).toNat+2<=2^f.exponentBits-1):fN f m e<f.infRung:=by
 have aH:=h.lt;rw[xh] at aH;unfold fN Format.infRung Format.binade
 have:=yI (2^f.fractionBits) he
 rw[xH] at this;omega
def avx{f:Format}{n:Nat}{k:Int}(h0:n≠0)(hn:n<2^(f.fractionBits+1))(hk:f.leastPlace<=k):∃m e,Can f m e/\m≠0/\e<=k/\(m:Rat)*p2 e=(n:Rat)*p2 k:=by
 have hl:=(yba h0).2 hn;obtain⟨j,hj⟩:∃j:Nat,j=min (f.fractionBits-n.log2) (k-f.leastPlace).toNat:=⟨_,rfl⟩;have h1:2^n.log2<=n:=Nat.log2_self_le h0;have h2:n<2^(n.log2+1):=ybI;refine⟨n*2^j,k-j,⟨by omega,?_,?_⟩,tz (vt (by omega) (xg _)),by omega,?_⟩
 .have:n*2^j<2^(n.log2+1)*2^j:=xZ h2 (xg _)
  rw[<-xD] at this;exact yP this (y9 (by decide) (by omega))
 .by_cases c:f.fractionBits-n.log2<=(k-f.leastPlace).toNat
  .left
   have:=yI (2^j) h1
   rw[<-xD,show n.log2+j=f.fractionBits by omega] at this;exact this
  .right;omega
 .rw [xL,<-mI,vE,<-lE,show (j:Int)+(k-j)=k by omega]
def wr{f:Format}{n:Nat}{k:Int}(h0:n≠0)(hn:n<2^(f.fractionBits+1))(hk:f.leastPlace<=k)(sS:(k-f.leastPlace).toNat+2<=2^f.exponentBits-1){m0:Nat}{e0:Int}(s:Bool)(hv:(m0:Rat)*p2 e0=(n:Rat)*p2 k):∃m e,IV f (f.write (.number s m0 e0)) s m e/\m≠0/\(m:Rat)*p2 e=(n:Rat)*p2 k:=by
 obtain⟨m,e,hc,hm,he,hq⟩:=avx h0 hn hk;have hr:=arJ hc (by have:=hc.lp;omega);refine⟨m,e,⟨hc,hr,?_⟩,hm,hq⟩;show f.nearest s m0 e0=_
 rw[apx hc hm s (hv.trans hq.symm),xF (by omega)]
def afK(f:Format):Can f 0 f.leastPlace:=⟨ycL _,xg _,.inr rfl⟩
def wr0{f:Format}(s:Bool)(e0:Int)(hi:0<f.infRung):IV f (f.write (.number s 0 e0)) s 0 f.leastPlace:=by
 have hr:fN f 0 f.leastPlace=0:=by unfold fN;rw[ycz];simp
 refine⟨afK f,by rw[hr];exact hi,?_⟩
 rw[hr];show f.nearest s 0 e0=_
 unfold Format.nearest;rw[yD rfl]
def avy{f:Format}{b:Nat}(hb:b<2*f.signWeight)(sU:f.binade<=f.infRung):(∃s m e,IV f b s m e)\/(∀s m e,f.read b≠.number s m e):=by
 have mw:=aei f;have hp:0<2^f.fractionBits:=xg _;obtain⟨s,r,hr,rfl⟩:∃(s:Bool) (r:Nat),r<f.signWeight/\b=f.word s r:=by
  by_cases c:b<f.signWeight
  .exact ⟨yda,b,c,by unfold Format.word;rw[yt (by decide)]⟩
  .exact ⟨ycZ,b-f.signWeight,by omega,by unfold Format.word;rw[yD rfl];omega⟩
 by_cases c:r<f.infRung
 .left
  by_cases c1:r<2^f.fractionBits
  .have e:fN f r f.leastPlace=r:=by unfold fN;rw[ycz];simp
   exact⟨s,r,f.leastPlace,⟨ycL _,by rw[xh];omega,.inr rfl⟩,by rw[e];exact c,by rw[e]⟩
  .obtain ⟨d,hd⟩:∃d,r/2^f.fractionBits=d+1:=⟨r/2^f.fractionBits-1,by have:=ycM (ybF c1) hp;omega⟩;have hm:=xG r hp;have hq:=xQ r (2^f.fractionBits);rw[hd,xE,yi,xn] at hq;have e:fN f (2^f.fractionBits+r%2^f.fractionBits) (f.leastPlace+d)=r:=by
    unfold fN;rw[show (f.leastPlace+(d:Int)-f.leastPlace).toNat=d by omega];omega
   exact⟨s,2^f.fractionBits+r%2^f.fractionBits,f.leastPlace+d,⟨by omega,by rw[xh];omega,.inl (by omega)⟩,by rw[e];exact c,by rw[e]⟩
 .right
  intro s' m e h;unfold Format.read at h;have oB:f.word s r%f.signWeight=r:=by
   unfold Format.word
   cases s with
   | true=>rw[yD rfl,ybH,yS hr]
   | false=>rw[yt (by decide),yS hr]
  simp only[oB] at h;rw[yt (by omega),yt c] at h
  split at h<;>cases h
end VE
end
section
namespace VE
open Ieee
section
variable {s:Bool}{e:Int}{m:Nat}
abbrev oK(b:Nat)(s:Bool)(m:Nat)(e:Int):Prop:=IV single b s m e
def IW:single.leastPlace= -149:=by decide
def oK.b{b:Nat}(h:oK b s m e): -149<=e/\m<16777216/\(8388608<=m\/e= -149)/\e<=104:=by
 have h1:=h.can.lp;have h2:=h.can.lt;have h3:=h.can.ge;have h4:=h.lt;rw[IW] at h1 h3;have h4:(e-single.leastPlace).toNat*8388608+m<2139095040:=h4;rw[IW] at h4;have h2:m<16777216:=h2;have h3:8388608<=m\/e= -149:=h3;exact⟨h1,h2,h3,by omega⟩
def IX{n:Nat}{k:Int}(h0:n≠0)(hn:n<16777216)(hk: -149<=k)(sS:k<=104){m0:Nat}{e0:Int}(s:Bool)(hv:(m0:Rat)*p2 e0=(n:Rat)*p2 k):∃m e,oK (single.write (.number s m0 e0)) s m e/\m≠0/\(m:Rat)*p2 e=(n:Rat)*p2 k:=
 wr (f:=single) h0 hn (by rw[IW];exact hk) (by rw[IW];show _<=255;omega) s hv
def W0(s:Bool)(e0:Int):oK (single.write (.number s 0 e0)) s 0 (-149):=by
 have:=wr0 (f:=single) s e0 (by decide)
 rwa[IW] at this
def afL:single.read 1073741824=.number yda 8388608 (-22):=by decide
def W1{b:Nat}(h:oK b s m e)(he:e<=103\/m=0):∃b' m' e',single.mul b 1073741824=FL b'/\oK b' s m' e'/\(m':Rat)*p2 e'=2*((m:Rat)*p2 e):=by
 obtain⟨b1,b2,b3,b4⟩:=h.b;have hr:=h.read;unfold Format.mul;rw[hr,afL];show ∃b' m' e',FL (single.write (.number (s^^yda) (m*8388608) (e+ -22)))=FL b'/\_
 rw[ybO];by_cases h0:m=0
 .subst h0;rw[wq];exact⟨_,_,_,rfl,W0 s _,by simp⟩
 .obtain ⟨m',e',k1,k2,k3⟩:=IX (n:=m) (k:=e+1) h0 b2 (by omega) (by omega) (m0:=m*8388608) (e0:=e+ -22) s (by
   have:((8388608:Nat):Rat)=p2 23:=(mI 23).symm
   rw[xL,this,vE,<-lE,show (23:Int)+(e+ -22)=e+1 by omega])
  exact⟨_,m',e',rfl,k1,by rw[k3,lE,Bw];grind⟩
def W2{b:Nat}(h:oK b s m e)(he: -148<=e\/m%2=0):∃b' m' e',single.div b 1073741824=FL b'/\oK b' s m' e'/\2*((m':Rat)*p2 e')=(m:Rat)*p2 e:=by
 obtain⟨b1,b2,b3,b4⟩:=h.b;have hr:=h.read;unfold Format.div;rw[hr,afL];have hl:(8388608:Nat).log2=23:=by decide
 have e0:Datum.quotient (single.fractionBits+2) (.number s m e) (.number yda 8388608 (-22))=FL (.number (s^^yda) (2*((m<<<(25+23-m.log2))/8388608)+((m<<<(25+23-m.log2))%8388608 !=0).toNat) (e - -22-(25+23-m.log2:Nat)-1)):=by
  show (if (8388608:Nat)=0 then (if m=0 then FM else FL (Datum.infinity (s^^yda))) else FL (Datum.number (s^^yda) (2*((m<<<(25+ybY 8388608-m.log2))/8388608)+((m<<<(25+ybY 8388608-m.log2))%8388608 !=0).toNat) (e - -22-((25+ybY 8388608-m.log2:Nat):Int)-1)))=_
  rw[yt (by decide),hl]
 rw[e0,ybO];show ∃b' m' e',FL (single.write (.number s _ _))=FL b'/\_
 by_cases h0:m=0
 .subst h0;simp only[Nat.zero_shiftLeft,Nat.zero_div,Nat.zero_mod,xC];exact⟨_,_,_,rfl,W0 s _,by simp⟩
 .have Dd:m.log2<24:=(yba h0).2 b2;obtain⟨t,ht⟩:∃t,25+23-m.log2=t+23:=⟨25-m.log2,by omega⟩;have jZ:m<<<(t+23)=(m*2^t)*8388608:=by rw[uA,xD,<-xe]
  rw[ht,jZ,uX _ (by decide),tn];simp only[bne_self_eq_false,ybA,y5];have aO:((2*(m*2^t):Nat):Rat)*p2 (e - -22-(t+23:Nat)-1)=(m:Rat)*p2 (e-1):=by
   have:((2:Nat):Rat)=p2 1:=(mI 1).symm
   rw[xL,xL,<-mI,this];have h2:p2 1*((m:Rat)*p2 t)*p2 (e - -22-(t+23:Nat)-1)=(m:Rat)*(p2 1*p2 t*p2 (e - -22-(t+23:Nat)-1)):=by grind
   rw[h2,<-lE,<-lE,show (1:Int)+t+(e - -22-(t+23:Nat)-1)=e-1 by omega]
  have fin:∀{m':Nat} {e':Int},(m':Rat)*p2 e'=(m:Rat)*p2 (e-1)->2*((m':Rat)*p2 e')=(m:Rat)*p2 e:=fun {m' e'} q=>by
   rw[q]
   have:p2 e=p2 1*p2 (e-1):=by rw[<-lE,show 1+(e-1)=e by omega]
   rw[this,Bw];grind
  by_cases c: -148<=e
  .obtain ⟨m',e',k1,k2,k3⟩:=IX (n:=m) (k:=e-1) h0 b2 (by omega) (by omega) s aO;exact⟨_,m',e',rfl,k1,fin k3⟩
  .have X1:m%2=0:=by omega
   have hm:((m:Nat):Rat)=((m/2:Nat):Rat)*2:=by
    have:m=m/2*2:=by omega
    conv=>lhs;rw[this,xL]
    rfl
   have hq:(m:Rat)*p2 (e-1)=((m/2:Nat):Rat)*p2 e:=by
    have:p2 e=p2 1*p2 (e-1):=by rw[<-lE,show 1+(e-1)=e by omega]
    rw[hm,this,Bw];grind
   obtain⟨m',e',k1,k2,k3⟩:=IX (n:=m/2) (k:=e) (by omega) (by omega) (by omega) (by omega) s (aO.trans hq);exact⟨_,m',e',rfl,k1,fin (k3.trans hq.symm)⟩
def ofInt{n:Int}(h:n.natAbs<=16777216):∃m e,oK (single.write (.number (n<0) n.natAbs 0)) (n<0) m e/\(m:Rat)*p2 e=(n.natAbs:Rat):=by
 by_cases h0:n.natAbs=0
 .rw [h0];exact⟨0,-149,W0 _ _,by simp⟩
 .by_cases h1:n.natAbs<16777216
  .obtain ⟨m,e,k1,k2,k3⟩:=IX (n:=n.natAbs) (k:=0) h0 h1 (by omega) (by omega) (m0:=n.natAbs) (e0:=0) (n<0) rfl;exact⟨m,e,k1,by rw[k3,E1,vK]⟩
  .have h2:n.natAbs=16777216:=by omega
   obtain⟨m,e,k1,k2,k3⟩:=IX (n:=8388608) (k:=1) (by decide) (by decide) (by omega) (by omega) (m0:=n.natAbs) (e0:=0) (n<0) (by rw[h2,E1,Bw];decide+kernel)
   exact⟨m,e,k1,by rw[k3,h2,Bw];decide+kernel⟩
def apy(n d:Nat)(s:Bool):Toward.zero.cut s n d=n/2^d:=by
 unfold Toward.cut;simp only[ybz,ybA,y5];by_cases c:d<=n.log2+2
 .rw [xF c]
 .have h1:n<2^(n.log2+1):=ybI;rw[Nat.min_eq_right (by omega),xW (vD h1 (vC (by decide) (by omega))),xW (vD h1 (vC (by decide) (by omega)))]
def oK.toInt{b:Nat}(h:oK b s m e):(single.read b).toInt .zero=FL (if s=ycZ then -((m*2^e.toNat/2^(-e).toNat:Nat):Int) else ((m*2^e.toNat/2^(-e).toNat:Nat):Int)):=by
 rw[h.read];unfold Datum.toInt Datum.integral;simp only[apy,uA,signed,vP,yi]
def adu{base:Int}(h:base<=e):((signed s m (e-base).toNat:Int):Rat)*p2 base=fv s m e:=by
 have:p2 e=p2 ((e-base).toNat:Nat)*p2 base:=by rw[<-lE,show ((e-base).toNat:Int)+base=e by omega]
 unfold signed fv sg;rw[this,uA,mI]
 cases s with
 | true=>
  rw[yD rfl,yD rfl,uK]
  have:(((m*2^(e-base).toNat:Nat):Int):Rat)=(m:Rat)*((2^(e-base).toNat:Nat):Rat):=by rw[<-xL];rfl
  rw[this];grind
 | false=>
  rw[yt (by decide),yt (by decide)]
  have:(((m*2^(e-base).toNat:Nat):Int):Rat)=(m:Rat)*((2^(e-base).toNat:Nat):Rat):=by rw[<-xL];rfl
  rw[this];grind
def arK{x y n:Nat}{t:Bool}{j:Int}(hx:oK x s m e)(hy:oK y t n j):single.order x y=FL (if fv s m e<fv t n j then .lt else if fv s m e=fv t n j then .eq else .gt):=by
 unfold Format.order;rw[hx.read,hy.read];unfold Datum.order;have h1:=adu (m:=m) (s:=s) (show min e j<=e by omega);have h2:=adu (m:=n) (s:=t) (show min e j<=j by omega);have hp:=UU (min e j)
 dsimp only
 generalize signed s m (e-min e j).toNat=a at*
 generalize signed t n (j-min e j).toNat=b at*
 rw[<-h1,<-h2]
 congr 1
 have lt_iff:(a:Rat)*p2 (min e j)<(b:Rat)*p2 (min e j)↔a<b:=by
  constructor
  .intro q
   have:=(uF hp).1 q
   exact_mod_cast this
  .intro q;exact (uF hp).2 (by exact_mod_cast q)
 have eq_iff:(a:Rat)*p2 (min e j)=(b:Rat)*p2 (min e j)↔a=b:=by
  constructor
  .intro q;rcases yab a b with c | c | c
   .have:=lt_iff.2 c;rw[q] at this;exact absurd this (tV)
   .exact c
   .have:=(uF hp).2 (show (b:Rat)<a by exact_mod_cast c);rw[q] at this;exact absurd this (tV)
  .intro q;rw[q]
 rcases yab a b with c | c | c
 .rw [yD (lt_iff.2 c)];exact Int.compare_eq_lt.2 c
 .rw [yt (fun q=>by have:=lt_iff.1 q;omega),yD (eq_iff.2 c)];exact Int.compare_eq_eq.2 c
 .rw [yt (fun q=>by have:=lt_iff.1 q;omega),yt (fun q=>by have:=eq_iff.1 q;omega)];exact Int.compare_eq_gt.2 c
end
end VE
end
section
namespace VE
open Ieee
section
variable {s:Bool}{e:Int}{M b m:Nat}
def dL(m:Nat)(e:Int):Nat:=m*2^(e+149).toNat
structure Fl(b:Nat)(s:Bool)(M:Nat):Prop where
 ex:∃m e,oK b s m e/\M=dL m e
def zy(h: -149<=e):((dL m e:Nat):Rat)=(m:Rat)*p2 e*p2 149:=by
 unfold dL;rw[xL,<-mI,vE,<-lE,show ((e+149).toNat:Int)=e+149 by omega]
def avz:p2 149≠0:=VB 149
def arL{n:Nat}{j:Int}(h1: -149<=e)(h2: -149<=j)(h:(m:Rat)*p2 e=(n:Rat)*p2 j):dL m e=dL n j:=by
 have:((dL m e:Nat):Rat)=((dL n j:Nat):Rat):=by rw[zy h1,zy h2,h]
 exact_mod_cast this
def Fl.lt(h:Fl b s M):M<2^277:=by
 obtain⟨m,e,h1,rfl⟩:=h.ex;obtain⟨b1,b2,b3,b4⟩:=h1.b;unfold dL;have h3:2^(e+149).toNat<=2^253:=y9 (by decide) (by omega);have h4:=xf (vV (show m<16777215+1 from b2)) h3;exact wh h4 (avv 16777215 24 253 277 (by decide) rfl)
def Fl.W1(h:Fl b s M)(hM:M<2^276):∃b',single.mul b 1073741824=FL b'/\Fl b' s (2*M):=by
 obtain⟨m,e,h1,rfl⟩:=h.ex;obtain⟨b1,b2,b3,b4⟩:=h1.b;have he:e<=103\/m=0:=by
  by_cases c:e<=103
  .exact .inl c
  .exfalso
   have hm:8388608<=m:=by omega
   unfold dL at hM;have h3:2^253<=2^(e+149).toNat:=y9 (by decide) (by omega);have h4:=xf hm h3;have h5:(2:Nat)^275<=8388608*2^253:=avw 8388608 23 253 275 (by decide) (by decide);omega
 obtain⟨b',m',e',k1,k2,k3⟩:=VE.W1 h1 he;have YX:=k2.b.1;refine⟨b',k1,m',e',k2,?_⟩
 have:((2*dL m e:Nat):Rat)=((dL m' e':Nat):Rat):=by
  rw[xL,zy b1,zy YX,k3];show (2:Rat)*_=_
  grind
 exact_mod_cast this
def Fl.W2(h:Fl b s M)(hM:M%2=0):∃b',single.div b 1073741824=FL b'/\Fl b' s (M/2):=by
 obtain⟨m,e,h1,rfl⟩:=h.ex;obtain⟨b1,b2,b3,b4⟩:=h1.b;have he: -148<=e\/m%2=0:=by
  by_cases c: -148<=e
  .exact .inl c
  .have:e= -149:=by omega
   subst this;unfold dL at hM;right
   simpa using hM
 obtain⟨b',m',e',k1,k2,k3⟩:=VE.W2 h1 he;have YX:=k2.b.1;refine⟨b',k1,m',e',k2,?_⟩
 have:((dL m e:Nat):Rat)=((2*dL m' e':Nat):Rat):=by
  rw[xL,zy b1,zy YX,<-k3];show _=(2:Rat)*_
  grind
 have:dL m e=2*dL m' e':=by exact_mod_cast this
 omega
def bJ(s:Bool)(M:Nat):Int:=if s then -(M:Int) else M
def afM(h: -149<=e):fv s m e*p2 149=((bJ s (dL m e):Int):Rat):=by
 unfold fv sg bJ
 cases s with
 | true=>
  rw[yD rfl,yD rfl,uK]
  have:=zy (m:=m) h
  have h2:(((dL m e:Nat):Int):Rat)=((dL m e:Nat):Rat):=rfl;rw[h2,this];grind
 | false=>
  rw[yt (by decide),yt (by decide)]
  have:=zy (m:=m) h
  have h2:(((dL m e:Nat):Int):Rat)=((dL m e:Nat):Rat):=rfl;rw[h2,this];grind
def Fl.ord{x y:Nat}{t:Bool}{N:Nat}(hx:Fl x s M)(hy:Fl y t N):single.order x y=FL (if bJ s M<bJ t N then .lt else if bJ s M=bJ t N then .eq else .gt):=by
 obtain⟨m,e,h1,rfl⟩:=hx.ex;obtain⟨n,j,h2,rfl⟩:=hy.ex;rw[arK h1 h2];have q1:=afM (s:=s) (m:=m) h1.b.1;have q2:=afM (s:=t) (m:=n) h2.b.1;have hp:=UU 149;have lt_iff:fv s m e<fv t n j↔bJ s (dL m e)<bJ t (dL n j):=by
  rw[<-uF hp,q1,q2];exact Rat.intCast_lt_intCast
 have eq_iff:fv s m e=fv t n j↔bJ s (dL m e)=bJ t (dL n j):=by
  constructor
  .intro q;rw[q,q2] at q1;exact (Rat.intCast_inj.1 q1).symm
  .intro q
   have:fv s m e*p2 149=fv t n j*p2 149:=by rw[q1,q2,q]
   have h3:=congrArg (·*(p2 149)⁻¹) this;simpa only[vE,Rat.mul_inv_cancel _ avz,vK] using h3
 congr 1
 by_cases c1:bJ s (dL m e)<bJ t (dL n j)
 .rw [yD c1,yD (lt_iff.2 c1)]
 .rw [yt c1,yt (fun q=>c1 (lt_iff.1 q))];by_cases c2:bJ s (dL m e)=bJ t (dL n j)
  .rw [yD c2,yD (eq_iff.2 c2)]
  .rw [yt c2,yt (fun q=>c2 (eq_iff.1 q))]
def Fl.ofInt{n:Int}(h:n.natAbs<=16777216):Fl (single.write (.number (n<0) n.natAbs 0)) (n<0) (n.natAbs*2^149):=by
 obtain⟨m,e,k1,k2⟩:=VE.ofInt h;refine⟨m,e,k1,?_⟩;have b1:=k1.b.1
 have:((n.natAbs*2^149:Nat):Rat)=((dL m e:Nat):Rat):=by
  rw[zy b1,k2,xL,<-mI];rfl
 exact_mod_cast this
def Fl.toInt(h:Fl b s M):(single.read b).toInt .zero=FL (bJ s (M/2^149)):=by
 obtain⟨m,e,h1,rfl⟩:=h.ex;have b1:=h1.b.1;rw[h1.toInt]
 have:m*2^e.toNat/2^(-e).toNat=dL m e/2^149:=by
  unfold dL;by_cases c:0<=e
  .rw [show (-e).toNat=0 by omega,vP,Nat.div_one,show (e+149).toNat=e.toNat+149 by omega,xD,<-xe,uX _ (xg _)]
  .obtain ⟨d,hd⟩:∃d:Nat,e= -(d:Int):=⟨(-e).toNat,by omega⟩;have fB:(e+149).toNat+d=149:=by omega
   rw[show e.toNat=0 by omega,vP,yi,show (-e).toNat=d by omega];have hp:0<2^(e+149).toNat:=xg _;rw[<-fB,xD,xn m,Nat.mul_div_mul_left _ _ hp]
 rw[this];unfold bJ;cases s<;>rfl
def Fl.zero:Fl 0 yda 0:=⟨0,-149,⟨by rw[<-IW];exact afK single,by decide,by decide⟩,by decide⟩
def Fl.neg(h:Fl b s M):Fl (b^^^2147483648) (!s) M:=by
 obtain⟨m,e,h1,rfl⟩:=h.ex;refine⟨m,e,⟨h1.can,h1.lt,?_⟩,rfl⟩;have hr:fN single m e<2^31:=vD h1.lt (by decide);have sw:single.signWeight=2^31:=by decide
 rw[h1.eq];unfold Format.word;rw[sw];have hx:fN single m e^^^2147483648=2^31+fN single m e:=by
  rw[show (2147483648:Nat)=2^31*1 by decide,Nat.xor_comm]
  have:=Nat.two_pow_add_eq_or_of_lt hr 1
  have h2:=Nat.xor_mod_two_pow (a:=fN single m e) (b:=2^31*1) (n:=31);refine Nat.eq_of_testBit_eq fun i=>?_
  rw[Nat.testBit_xor,show 2^31+fN single m e=2^31*1+fN single m e by omega,Nat.testBit_two_pow_mul_add _ hr,Nat.testBit_two_pow_mul];by_cases c:i<31
  .simp [c,show ¬31<=i by omega]
  .have:Nat.testBit (fN single m e) i=yda:=Nat.testBit_lt_two_pow (yP hr (y9 (by decide) (by omega)))
   simp[c,this,show 31<=i by omega]
 cases s with
 | false=>rw[yt (by decide),hx];rfl
 | true=>
  rw[yD rfl]
  have:(2^31+fN single m e)^^^2147483648=fN single m e:=by rw[<-hx,Nat.xor_assoc,Nat.xor_self,Nat.xor_zero]
  rw[this];rfl
end
end VE
end
section
namespace VE
open Go (IntKind)
open Ieee
section
variable {s:Bool}{M b:Nat}
def Fl.even(h:Fl b s M)(hM:2^173<=M):M%2=0:=by
 obtain⟨m,e,h1,rfl⟩:=h.ex;obtain⟨b1,b2,b3,b4⟩:=h1.b;by_cases c:e<=0
 .exfalso
  unfold dL at hM;have h3:2^(e+149).toNat<=2^149:=y9 (by decide) (by omega);have h4:=xf (vV (show m<16777215+1 from b2)) h3;have h5:16777215*(2:Nat)^149<2^173:=by decide
  omega
 .obtain ⟨d,hd⟩:∃d,(e+149).toNat=d+1:=⟨(e+148).toNat,by omega⟩;unfold dL;rw[hd,xh,<-xe,tn]
def Fl.whole(h:Fl b s M)(hM:2^172<=M):M%2^149=0:=by
 obtain⟨m,e,h1,rfl⟩:=h.ex;obtain⟨b1,b2,b3,b4⟩:=h1.b;by_cases c:e<0
 .exfalso
  unfold dL at hM;have h3:2^(e+149).toNat<=2^148:=y9 (by decide) (by omega);have h4:=xf (vV (show m<16777215+1 from b2)) h3;have h5:16777215*(2:Nat)^148<2^172:=by decide
  omega
 .obtain ⟨d,hd⟩:∃d,(e+149).toNat=d+149:=⟨e.toNat,by omega⟩;unfold dL;rw[hd,xD,<-xe,tn]
def aej(h:Fl b s M)(hM:M<2^276):∃b',binOp .mul (.av .f32 b) (.av .f32 1073741824)=FL (.av .f32 b')/\Fl b' s (2*M):=by
 obtain⟨b',k1,k2⟩:=h.W1 hM;refine⟨b',?_,k2⟩;show (match single.mul b 1073741824 with | some b=>FL (AV.av .f32 b) | none=>FM)=_
 rw[k1]
def aek(h:Fl b s M)(hM:M%2=0):∃b',binOp .quo (.av .f32 b) (.av .f32 1073741824)=FL (.av .f32 b')/\Fl b' s (M/2):=by
 obtain⟨b',k1,k2⟩:=h.W2 hM;refine⟨b',?_,k2⟩;show (match single.div b 1073741824 with | some b=>FL (AV.av .f32 b) | none=>FM)=_
 rw[k1]
section
variable {x y M N:Nat}{s t:Bool}(hx:Fl x s M)(hy:Fl y t N)
include hx hy
theorem afN:binOp .lss (.av .f32 x) (.av .f32 y)=FL (.bool (decide (bJ s M<bJ t N))):=by
 show FL (AV.bool (single.order x y==FL .lt))=_
 rw[hx.ord hy];by_cases c:bJ s M<bJ t N
 .rw [yD c,y8 c];rfl
 .rw [yt c,yQ c];split<;>rfl
theorem afO:binOp .geq (.av .f32 x) (.av .f32 y)=FL (.bool (decide (bJ t N<=bJ s M))):=by
 show FL (AV.bool (single.order x y==FL .gt||single.order x y==FL .eq))=_
 rw[hx.ord hy];by_cases c:bJ s M<bJ t N
 .rw [yD c,yQ (by omega)];rfl
 .rw [yt c,y8 (by omega)];split<;>rfl
theorem afP:binOp .neq (.av .f32 x) (.av .f32 y)=FL (.bool (!decide (bJ s M=bJ t N))):=by
 show FL (AV.bool (single.order x y !=FL .eq))=_
 rw[hx.ord hy];by_cases c:bJ s M<bJ t N
 .rw [yD c,yQ (by omega)];rfl
 .rw [yt c];by_cases d:bJ s M=bJ t N
  .rw [yD d,y8 d];rfl
  .rw [yt d,yQ d];rfl
end
def afQ(b:Nat):unOp .neg (.av .f32 b)=FL (.av .f32 (b^^^2147483648)):=rfl
def axZ(h:Fl b s M):∃a,max2 (.av .f32 b) (.av .f32 (b^^^2147483648))=FL (.av .f32 a)/\Fl a yda M:=by
 have hn:=h.neg;have ho:=h.ord hn
 have e:max2 (.av .f32 b) (.av .f32 (b^^^2147483648))=(match single.order b (b^^^2147483648) with
  | none=>FM
  | some .lt=>FL (.av .f32 (b^^^2147483648))
  | some .gt=>FL (.av .f32 b)
  | some .eq=>FL (.av .f32 (if (single.read b).neg then (b^^^2147483648) else b))):=rfl
 rw[e,ho];obtain⟨m,j,h1,hM⟩:=h.ex;have hr:(single.read b).neg=s:=by rw[h1.read];rfl
 cases s with
 | true=>
  by_cases c:bJ ycZ M<bJ (!ycZ) M
  .rw [yD c];exact⟨_,rfl,hn⟩
  .have:bJ ycZ M=bJ (!ycZ) M:=by
    unfold bJ at c ⊢;simp at c ⊢;omega
   rw[yt c,yD this]
   dsimp only
   rw[hr,yD rfl];exact⟨_,rfl,hn⟩
 | false=>
  have c:¬bJ yda M<bJ (!yda) M:=by
   show ¬(M:Int)< -(M:Int)
   omega
  rw[yt c];by_cases d:bJ yda M=bJ (!yda) M
  .rw [yD d]
   dsimp only
   rw[hr,yt (by decide)];exact⟨_,rfl,h⟩
  .rw [yt d];exact⟨_,rfl,h⟩
def OG(h:Fl b s M)(hM:M<2^200):me (.toInt .i64) (.av .f32 b)=FL (.int .i64 (bJ s (M/2^149))):=by
 have e:me (.toInt .i64) (.av .f32 b)=(match (single.read b).toInt .zero with
  | some n=>if IntKind.min .i64<=n/\n<=IntKind.max .i64 then FL (.int .i64 n) else FM
  | none=>FM):=rfl
 rw[e,h.toInt];have h1:M/2^149<2^51:=by rw[xB (xg _),<-xD];exact hM
 generalize M/2^149=n at h1
 have:IntKind.min .i64<=bJ s n/\bJ s n<=IntKind.max .i64:=by
  rw[show IntKind.min .i64= -9223372036854775808 from rfl,show IntKind.max .i64=9223372036854775807 from rfl];unfold bJ
  split<;>omega
 exact yD this
def adv{n:Int}(h:n.natAbs<=16777216):∃b,me (.toFlt .f32) (.int .i64 n)=FL (.av .f32 b)/\Fl b (n<0) (n.natAbs*2^149):=
 ⟨_,rfl,Fl.ofInt h⟩
def afR:Fl 1266679808 yda (2^173):=⟨8388608,1,⟨⟨by decide,by decide,.inl (by decide)⟩,by decide,by decide⟩,by decide⟩
end
end VE
end
section
namespace VE
open Go (IntKind)
def ann(p s:Nat):p*(s%1000000000)+p*1000000000*(s/1000000000)=p*s:=by
 rw[xe,<-xE,uk]
def Jx{l:List Int}{i:Nat}(h:l.length<=i):l.getD i 0=0:=by simp_all
def apz{a b out:List Int}{i c:Nat}{x y:Int}(hx:x=a.getD i 0)(hy:y=b.getD i 0)(h1:0<=x)(h2:0<=y)(hl:out.length=i)(hv:dv out+1000000000^i*c=dv (a.take i)+dv (b.take i)):
  dv (out++[(((x.toNat+y.toNat+c)%1000000000:Nat):Int)])+1000000000^(i+1)*((x.toNat+y.toNat+c)/1000000000)=dv (a.take (i+1))+dv (b.take (i+1)):=by
 rw[qG,qG,nj,hl,<-hx,<-hy];simp only[dv,xV,xC,y5,xh]
 have:=ann (1000000000^i) (x.toNat+y.toNat+c)
 grind
section
variable {P:aF}{L:Lib}
def avA(oC:Has P L 302 zS){v w:AV}{a b:List Int}(hv:bi v a)(hw:bi w b)(ha:dg a)(hb:dg b){N:Nat}(la:a.length<=N)(lb:b.length<=N)(lN:N<=20000000000):
  cZ P L [0,1,5,6,7] qP (fun k s=>∃(i c:Nat) (out:List Int),2*(N-i)+c=k/\out.length=i/\c<=1/\dg out/\dv out+1000000000^i*c=dv (a.take i)+dv (b.take i)/\i<=N+1/\(i<=N\/c=0)/\
    ((i=0/\s=⟨[(0,v),(1,w),(5,.ah),(6,aa c),(7,aa i)],[],0,0⟩)\/
    (0<i/\s=⟨[(0,v),(1,w),(5,.ax 0 0 i),(6,aa c),(7,aa i)],[(0,.cells ycZ ycZ yda 1 (out.map aa))],1,0⟩))) (fun ex s'=>∃tm out,ex=.exit 0/\dg out/\dv out=dv a+dv b/\out.length<=N+1/\((out=[]/\aj tm 5=.ah/\s'=⟨tm,[],0,0⟩)\/(0<out.length/\aj tm 5=.ax 0 0 out.length/\s'=⟨tm,[(0,.cells ycZ ycZ yda 1 (out.map aa))],1,0⟩))):=by
 apply c6;rintro k s ⟨i,c,out,hk,hlen,hc,oI,aO,hi,HC,hs⟩;have e1:=Wx oC hv i;have e2:=Wx oC hw i;unfold ab at e1 e2;have ga:=iT ha i;have gb:=iT hb i;by_cases At:i<a.length\/i<b.length\/0<c
 .left
  obtain⟨x,hx⟩:∃x,x=a.getD i 0:=⟨_,rfl⟩;obtain⟨y,hy⟩:∃y,y=b.getD i 0:=⟨_,rfl⟩;rw[<-hx] at e1 ga;rw[<-hy] at e2 gb;have mb:=apz (c:=c) hx hy ga.1 gb.1 hlen aO;obtain⟨s0,pM⟩:∃s0,s0=x.toNat+y.toNat+c:=⟨_,rfl⟩;rw[<-pM] at mb;have C2:x+y+(c:Int)=(s0:Int):=by lia
  have hs9:s0<2000000000:=by lia
  have hr:((s0:Nat):Int).tmod 1000000000=((s0%1000000000:Nat):Int):=by rw[xO (by lia)];rfl
  have hq:((s0:Nat):Int).tdiv 1000000000=((s0/1000000000:Nat):Int):=by rw[xP (by lia)];rfl
  have kH:s0/1000000000<=1:=by lia
  have ax0:2*(N-(i+1))+s0/1000000000<k:=by
   by_cases hm:i<N
   .lia
   .have:c=1:=by lia
    have mZ:x=0:=by rw[hx];exact Jx (by lia)
    have fV:y=0:=by rw[hy];exact Jx (by lia)
    subst mZ;subst fV
    have:s0=1:=by rw[pM,this];rfl
    subst this
    lia
  have sF:dg (out++[((s0%1000000000:Nat):Int)]):=iv.2 ⟨oI,lY.2 (by lia)⟩;have VD:(out++[((s0%1000000000:Nat):Int)]).length=i+1:=by simp[hlen]
  have azW:i+1<=N\/s0/1000000000=0:=by
   by_cases hm:i<N
   .exact .inl hm
   .right
    have:c=1:=by lia
    have mZ:x=0:=by rw[hx];exact Jx (by lia)
    have fV:y=0:=by rw[hy];exact Jx (by lia)
    subst mZ;subst fV
    have:s0=1:=by rw[pM,this];rfl
    subst this;rfl
  have fin:∃s',D P L qP s=FL (.normal,s')/\bk [0,1,5,6,7] s'=⟨[(0,v),(1,w),(5,.ax 0 0 (i+1)),(6,aa (s0/1000000000:Nat)),(7,aa (i+1:Nat))],[(0,.cells ycZ ycZ yda 1 ((out++[((s0%1000000000:Nat):Int)]).map aa))],1,0⟩:=by
   have three:((i:Int)<a.length)\/(¬(i:Int)<a.length/\(i:Int)<b.length)\/(¬(i:Int)<a.length/\¬(i:Int)<b.length/\(0:Int)<c):=by lia
   rcases three with t1 | ⟨t1,t2⟩ | ⟨t1,t2,t3⟩
   .rcases hs with ⟨h0,rfl⟩ | ⟨h0,rfl⟩
    .subst h0;have jR:out=[]:=yL hlen;subst jR
     simp only[go_sem,ya,yb,xq,yz,yk,yi,qP,hv.len,hv.ai,hw.ai,t1,e1,e2,wrap64 (n:=x+y) (by lia) (by lia),C2,wrap64 (n:=(s0:Int)) (by lia) (by lia),fC _ _ _ (show (1000000000:Int)≠0 by decide),eK _ _ _ (show (1000000000:Int)≠0 by decide),hr,hq,wrap64 (n:=((s0/1000000000:Nat):Int)) (by lia) (by lia),gV];refine⟨_,rfl,?_⟩;rw[wrap64 (by lia) (by lia)];simp only[go_sem,ya,yb,ap,az hv.pu,az hw.pu]<;>rfl
    .simp only [go_sem,ya,yb,yk,yi,qP,hv.len,hv.ai,hw.ai,t1,e1,e2,wrap64 (n:=x+y) (by lia) (by lia),C2,wrap64 (n:=(s0:Int)) (by lia) (by lia),fC _ _ _ (show (1000000000:Int)≠0 by decide),hr]
     rw[fP (ex:=yda) (pu:=ycZ) (cs:=out.map aa) rfl (by rw[yU,hlen,yi]) (by lia) (by lia) (by decide) rfl]
     simp only[go_sem,ya,yb,eK _ _ _ (show (1000000000:Int)≠0 by decide),hq,wrap64 (n:=((s0/1000000000:Nat):Int)) (by lia) (by lia)];refine⟨_,rfl,?_⟩;rw[wrap64 (by lia) (by lia),xb];simp only[go_sem,ya,yb,ap,az hv.pu,az hw.pu]<;>rfl
   .rcases hs with ⟨h0,rfl⟩ | ⟨h0,rfl⟩
    .subst h0;have jR:out=[]:=yL hlen;subst jR
     simp only[go_sem,ya,yb,xq,yz,yk,yi,qP,hv.len,hv.ai,hw.len,hw.ai,t1,t2,e1,e2,wrap64 (n:=x+y) (by lia) (by lia),C2,wrap64 (n:=(s0:Int)) (by lia) (by lia),fC _ _ _ (show (1000000000:Int)≠0 by decide),eK _ _ _ (show (1000000000:Int)≠0 by decide),hr,hq,wrap64 (n:=((s0/1000000000:Nat):Int)) (by lia) (by lia),gV];refine⟨_,rfl,?_⟩;rw[wrap64 (by lia) (by lia)];simp only[go_sem,ya,yb,ap,az hv.pu,az hw.pu]<;>rfl
    .simp only [go_sem,ya,yb,yk,yi,qP,hv.len,hv.ai,hw.len,hw.ai,t1,t2,e1,e2,wrap64 (n:=x+y) (by lia) (by lia),C2,wrap64 (n:=(s0:Int)) (by lia) (by lia),fC _ _ _ (show (1000000000:Int)≠0 by decide),hr]
     rw[fP (ex:=yda) (pu:=ycZ) (cs:=out.map aa) rfl (by rw[yU,hlen,yi]) (by lia) (by lia) (by decide) rfl]
     simp only[go_sem,ya,yb,eK _ _ _ (show (1000000000:Int)≠0 by decide),hq,wrap64 (n:=((s0/1000000000:Nat):Int)) (by lia) (by lia)];refine⟨_,rfl,?_⟩;rw[wrap64 (by lia) (by lia),xb];simp only[go_sem,ya,yb,ap,az hv.pu,az hw.pu]<;>rfl
   .rcases hs with ⟨h0,rfl⟩ | ⟨h0,rfl⟩
    .subst h0;have jR:out=[]:=yL hlen;subst jR
     simp only[go_sem,ya,yb,xq,yz,yk,yi,qP,hv.len,hv.ai,hw.len,hw.ai,t1,t2,t3,e1,e2,wrap64 (n:=x+y) (by lia) (by lia),C2,wrap64 (n:=(s0:Int)) (by lia) (by lia),fC _ _ _ (show (1000000000:Int)≠0 by decide),eK _ _ _ (show (1000000000:Int)≠0 by decide),hr,hq,wrap64 (n:=((s0/1000000000:Nat):Int)) (by lia) (by lia),gV];refine⟨_,rfl,?_⟩;rw[wrap64 (by lia) (by lia)];simp only[go_sem,ya,yb,ap,az hv.pu,az hw.pu]<;>rfl
    .simp only [go_sem,ya,yb,yk,yi,qP,hv.len,hv.ai,hw.len,hw.ai,t1,t2,t3,e1,e2,wrap64 (n:=x+y) (by lia) (by lia),C2,wrap64 (n:=(s0:Int)) (by lia) (by lia),fC _ _ _ (show (1000000000:Int)≠0 by decide),hr]
     rw[fP (ex:=yda) (pu:=ycZ) (cs:=out.map aa) rfl (by rw[yU,hlen,yi]) (by lia) (by lia) (by decide) rfl]
     simp only[go_sem,ya,yb,eK _ _ _ (show (1000000000:Int)≠0 by decide),hq,wrap64 (n:=((s0/1000000000:Nat):Int)) (by lia) (by lia)];refine⟨_,rfl,?_⟩;rw[wrap64 (by lia) (by lia),xb];simp only[go_sem,ya,yb,ap,az hv.pu,az hw.pu]<;>rfl
  have⟨s',f1,f2⟩:=fin;exact⟨s',_,f1,ax0,i+1,s0/1000000000,_,rfl,VD,kH,sF,mb,by lia,azW,.inr ⟨by lia,f2⟩⟩
 .right
  have mq:c=0:=by lia
  subst mq;rw[xC,y5,yK (by lia),yK (by lia)] at aO;rcases hs with ⟨h0,rfl⟩ | ⟨h0,rfl⟩
  .simp only [go_sem,ya,qP,hv.len,hw.len,show ¬(i:Int)<a.length by lia,show ¬(i:Int)<b.length by lia,show ¬(0:Int)<((0:Nat):Int) by lia];exact⟨_,_,rfl,by simp,_,out,rfl,oI,aO,by lia,.inl ⟨yL (by lia),rfl,rfl⟩⟩
  .simp only [go_sem,ya,qP,hv.len,hw.len,show ¬(i:Int)<a.length by lia,show ¬(i:Int)<b.length by lia,show ¬(0:Int)<((0:Nat):Int) by lia];exact⟨_,_,rfl,by simp,_,out,rfl,oI,aO,by lia,.inr ⟨by lia,by rw[hlen];simp only[go_sem,ya],rfl⟩⟩
def azX(h:Has P L 295 Lh)(oC:Has P L 302 zS){v w:AV}{a b:List Int}(hv:bi v a)(hw:bi w b)(ha:dg a)(hb:dg b)(la:a.length<=20000000000)(lb:b.length<=20000000000):
  ∃r out,ab P L 295 [v,w] r/\bi (shut r) out/\dg out/\dv out=dv a+dv b/\out.length<=max a.length b.length+1:=by
 have jQ:∃out,ab P L 295 [v,w] (if out=[] then .ah else .c7 yda 1 out.length (out.map aa))/\dg out/\dv out=dv a+dv b/\out.length<=max a.length b.length+1:=by
  unfold ab;rw[aE h];simp only[go_sem,Lh];generalize hq:D P L (.loop _ qP) _=q;obtain⟨ex,s,rfl,tm,out,rfl,hd,aO,hl,hs⟩:=bH hq (avA (P:=P) (L:=L) oC hv hw ha hb (N:=max a.length b.length) (by lia) (by lia) (by lia) (2*(max a.length b.length))) ⟨0,0,[],by lia,rfl,by lia,rfl,by simp[dv],by lia,.inr rfl,.inl ⟨rfl,by simp only[go_sem,ya,ap,az hv.pu,az hw.pu]<;>rfl⟩⟩
  refine⟨out,?_,hd,aO,hl⟩;rcases hs with ⟨h0,h5,rfl⟩ | ⟨h0,h5,rfl⟩
  .rw [yD h0];simp only[go_sem,ap,h5]
  .rw [yt (by intro e;subst e;simp at h0)];simp only[go_sem,yb,ap,h5];exact SH (ji _ _ _) (by simp) (by decide)
 have⟨out,g1,g2,g3,g4⟩:=jQ;refine⟨_,out,g1,?_,g2,g3,g4⟩
 split
 .rename_i e;subst e;exact zq
 .exact kz yda out
end
end VE
end
section
namespace VE
open Go (IntKind)
section
variable {P:aF}{L:Lib}
def W3(h:Has P L 296 zR){v w:AV}{a b:List Int}(hv:bi v a)(hw:bi w b)(ha:dg a)(hb:dg b)(na:nz a)(nb:nz b)(la:a.length<=20000000000)(lb:b.length<=20000000000):
  ab P L 296 [v,w] (aa (dU (dv a) (dv b))):=by
 unfold ab;rw[aE h];by_cases hlen:a.length=b.length
 .have key:=iA P L [0,1,5] Ea
   (fun k st=>∃j:Nat,st=⟨[(0,v),(1,w),(5,aa ((j:Int)-1))],[],0,0⟩/\j<=a.length/\j=k/\a.drop j=b.drop j)
   (fun ex st=>∃tm ct,st=⟨tm,[],ct,0⟩/\((ex=.ret/\aj tm 4=aa (dU (dv a) (dv b)))\/(ex=.exit 0/\a=b))) ?_
  .simp only [go_sem,ya,zR,hv.len,hw.len,show (a.length:Int)=b.length by lia];generalize hq:D P L (.loop _ Ea) _=q;obtain⟨ex,st,rfl,tm,ct,rfl,h2⟩:=bH hq (key a.length) ⟨a.length,by
    rw[wrap64 (by lia) (by lia)];rw[hlen]
    simp only[go_sem,ya,ap,az hv.pu,az hw.pu]<;>rfl,yu _,rfl,by rw[xa (yu _),xa (by lia)]⟩
   rcases h2 with ⟨rfl,h2⟩ | ⟨rfl,h2⟩
   .simp only [go_sem,h2]
   .simp only [go_sem,ap];subst h2;simp[dU]
  .rintro k st ⟨j,rfl,hj,rfl,he⟩
   cases j with
   | zero=>
    right
    simp only[go_sem,ya,Ea,show ¬(0:Int)<=((0:Nat):Int)-1 by lia];exact⟨_,_,rfl,by simp,_,_,rfl,.inr ⟨rfl,by simpa using he⟩⟩
   | succ i=>
    have h1:i<a.length:=by lia
    have h2:i<b.length:=by lia
    have Di:=adi ha hb h1 h2 he;have aH:=adi hb ha h2 h1 he.symm;by_cases c1:a[i]<b[i]
    .right
     simp only[go_sem,ya,Ea,show ((i+1:Nat):Int)-1=(i:Int) by lia,show (0:Int)<=(i:Int) by lia,hv.bq h1,hw.bq h2,c1];refine⟨_,_,rfl,by simp,_,_,rfl,.inl ⟨rfl,?_⟩⟩;simp only[go_sem];unfold dU;rw[yD (Di c1)]
    .by_cases c2:b[i]<a[i]
     .right
      simp only[go_sem,ya,Ea,show ((i+1:Nat):Int)-1=(i:Int) by lia,show (0:Int)<=(i:Int) by lia,hv.bq h1,hw.bq h2,c1,c2];refine⟨_,_,rfl,by simp,_,_,rfl,.inl ⟨rfl,?_⟩⟩;simp only[go_sem];unfold dU;rw[yt (by lia),yD (by lia)]
     .left
      simp only[go_sem,ya,Ea,show ((i+1:Nat):Int)-1=(i:Int) by lia,show (0:Int)<=(i:Int) by lia,hv.bq h1,hw.bq h2,c1,c2];refine⟨_,i,rfl,by lia,i,?_,by lia,rfl,?_⟩
      .rw [wrap64 (by lia) (by lia)];simp only[go_sem,ya,ap,az hv.pu,az hw.pu]<;>rfl
      .rw [yZ h1,yZ h2,he,show a[i]=b[i] by lia]
 .by_cases c1:a.length<b.length
  .have:=UI ha nb hb c1
   simp only[go_sem,ya,zR,hv.len,hw.len,show ¬(a.length:Int)=b.length by lia,show (a.length:Int)<b.length by lia];unfold dU;rw[yD this]
  .have:=UI hb na ha (show b.length<a.length by lia)
   simp only[go_sem,ya,zR,hv.len,hw.len,show ¬(a.length:Int)=b.length by lia,show ¬(a.length:Int)<b.length by lia];unfold dU;rw[yt (by lia),yD this]
def apA{a b out:List Int}{i c:Nat}{x y z:Int}{c':Nat}(hx:x=a.getD i 0)(hy:y=b.getD i 0)(h1:0<=x)(h2:0<=y)(h3:0<=z)(hz:z=x-y-c+1000000000*c')(hl:out.length=i)(hv:dv out+dv (b.take i)=dv (a.take i)+1000000000^i*c):
  dv (out++[z])+dv (b.take (i+1))=dv (a.take (i+1))+1000000000^(i+1)*c':=by
 rw[qG,qG,nj,hl,<-hx,<-hy];simp only[dv,xC,y5,xh];have e:z.toNat+y.toNat+c=x.toNat+1000000000*c':=by lia
 grind
end
end VE
end
section
namespace VE
open Go (IntKind)
section
variable {P:aF}{L:Lib}
def avB(oC:Has P L 302 zS){v w:AV}{a b:List Int}(hv:bi v a)(hw:bi w b)(ha:dg a)(hb:dg b)(la:a.length<=20000000000)(hle:dv b<=dv a)(Fw:b.length<=a.length):
  cZ P L [0,1,5,6,7] zE (fun k s=>∃(i c:Nat) (out:List Int),i+k=a.length/\out.length=i/\c<=1/\dg out/\dv out+dv (b.take i)=dv (a.take i)+1000000000^i*c/\
    ((i=0/\s=⟨[(0,v),(1,w),(5,.ah),(6,aa c),(7,aa i)],[],0,0⟩)\/
    (0<i/\s=⟨[(0,v),(1,w),(5,.ax 0 0 i),(6,aa c),(7,aa i)],[(0,.cells ycZ ycZ yda 1 (out.map aa))],1,0⟩))) (fun ex s'=>∃tm out,ex=.exit 0/\dg out/\dv out+dv b=dv a/\out.length<=20000000000/\((out=[]/\aj tm 5=.ah/\s'=⟨tm,[],0,0⟩)\/(0<out.length/\aj tm 5=.ax 0 0 out.length/\s'=⟨tm,[(0,.cells ycZ ycZ yda 1 (out.map aa))],1,0⟩))):=by
 apply c6;rintro k s ⟨i,c,out,hk,hlen,hc,oI,aO,hs⟩;have e2:=Wx oC hw i;unfold ab at e2;have ga:=iT ha i;have gb:=iT hb i;by_cases At:i<a.length
 .left
  obtain⟨x,hx⟩:∃x,x=a.getD i 0:=⟨_,rfl⟩;obtain⟨y,hy⟩:∃y,y=b.getD i 0:=⟨_,rfl⟩;have zh:a[i]=x:=by rw[hx];simp[xd,xo At]
  have e1:=hv.bq At;rw[zh] at e1;rw[<-hx] at ga;rw[<-hy] at e2 gb;obtain⟨z,c',hz,kH,jX,mW,Ey⟩:∃(z:Int) (c':Nat),z=x-y-c+1000000000*c'/\c'<=1/\0<=z/\z<1000000000/\((x-y-c<0/\c'=1)\/(¬x-y-c<0/\c'=0)):=by
   by_cases h:x-y-c<0
   .exact ⟨x-y-c+1000000000,1,by lia,by lia,by lia,by lia,.inl ⟨h,rfl⟩⟩
   .exact ⟨x-y-c,0,by lia,by lia,by lia,by lia,.inr ⟨h,rfl⟩⟩
  have mb:=apA hx hy ga.1 gb.1 jX hz hlen aO;have sF:dg (out++[z]):=iv.2 ⟨oI,lY.2 ⟨jX,mW⟩⟩;have VD:(out++[z]).length=i+1:=by simp[hlen]
  have fin:∃s',D P L zE s=FL (.normal,s')/\bk [0,1,5,6,7] s'=⟨[(0,v),(1,w),(5,.ax 0 0 (i+1)),(6,aa c'),(7,aa (i+1:Nat))],[(0,.cells ycZ ycZ yda 1 ((out++[z]).map aa))],1,0⟩:=by
   rcases Ey with ⟨fD,rfl⟩ | ⟨fD,rfl⟩
   .have dc:x-y-c+1000000000=z:=by lia
    rcases hs with ⟨h0,rfl⟩ | ⟨h0,rfl⟩
    .subst h0;have jR:out=[]:=yL hlen;subst jR
     simp only[go_sem,ya,yb,xq,yz,yk,yi,zE,hv.len,hw.ai,show ((0:Nat):Int)<a.length by lia,e1,e2,wrap64 (n:=x-y) (by lia) (by lia),wrap64 (n:=x-y-(c:Int)) (by lia) (by lia),fD,dc,wrap64 (n:=z) (by lia) (by lia),gV];refine⟨_,rfl,?_⟩;rw[wrap64 (by lia) (by lia)];simp only[go_sem,ya,yb,ap,az hv.pu,az hw.pu]<;>rfl
    .simp only [go_sem,ya,yb,yk,yi,zE,hv.len,hw.ai,show (i:Int)<a.length by lia,e1,e2,wrap64 (n:=x-y) (by lia) (by lia),wrap64 (n:=x-y-(c:Int)) (by lia) (by lia),fD,dc,wrap64 (n:=z) (by lia) (by lia)]
     rw[fP (ex:=yda) (pu:=ycZ) (cs:=out.map aa) rfl (by rw[yU,hlen,yi]) (by lia) (by lia) (by decide) rfl];simp only[go_sem,ya,yb];refine⟨_,rfl,?_⟩;rw[wrap64 (by lia) (by lia),xb];simp only[go_sem,ya,yb,ap,az hv.pu,az hw.pu]<;>rfl
   .have dc:x-y-c=z:=by lia
    have fD:¬z<0:=by lia
    rcases hs with ⟨h0,rfl⟩ | ⟨h0,rfl⟩
    .subst h0;have jR:out=[]:=yL hlen;subst jR
     simp only[go_sem,ya,yb,xq,yz,yk,yi,zE,hv.len,hw.ai,show ((0:Nat):Int)<a.length by lia,e1,e2,wrap64 (n:=x-y) (by lia) (by lia),dc,wrap64 (n:=z) (by lia) (by lia),fD,gV];refine⟨_,rfl,?_⟩;rw[wrap64 (by lia) (by lia)];simp only[go_sem,ya,yb,ap,az hv.pu,az hw.pu]<;>rfl
    .simp only [go_sem,ya,yb,yk,yi,zE,hv.len,hw.ai,show (i:Int)<a.length by lia,e1,e2,wrap64 (n:=x-y) (by lia) (by lia),dc,wrap64 (n:=z) (by lia) (by lia),fD]
     rw[fP (ex:=yda) (pu:=ycZ) (cs:=out.map aa) rfl (by rw[yU,hlen,yi]) (by lia) (by lia) (by decide) rfl];simp only[go_sem,ya,yb];refine⟨_,rfl,?_⟩;rw[wrap64 (by lia) (by lia),xb];simp only[go_sem,ya,yb,ap,az hv.pu,az hw.pu]<;>rfl
  have⟨s',f1,f2⟩:=fin;exact⟨s',k-1,f1,by lia,i+1,c',_,by lia,VD,kH,sF,mb,.inr ⟨by lia,f2⟩⟩
 .right
  have afS:dv out+dv b=dv a:=by
   rw[yK (by lia),yK (by lia)] at aO;have aH:=kV oI;rw[hlen] at aH;rcases (show c=0\/c=1 by lia) with rfl | rfl
   .lia
   .lia
  rcases hs with ⟨h0,rfl⟩ | ⟨h0,rfl⟩
  .simp only [go_sem,ya,zE,hv.len,show ¬(i:Int)<a.length by lia];exact⟨_,_,rfl,by simp,_,out,rfl,oI,afS,by lia,.inl ⟨yL (by lia),rfl,rfl⟩⟩
  .simp only [go_sem,ya,zE,hv.len,show ¬(i:Int)<a.length by lia];exact⟨_,_,rfl,by simp,_,out,rfl,oI,afS,by lia,.inr ⟨by lia,by rw[hlen];simp only[go_sem,ya],rfl⟩⟩
def aho(h:Has P L 297 Li)(oC:Has P L 302 zS)(cN:Has P L 300 mP){v w:AV}{a b:List Int}(hv:bi v a)(hw:bi w b)(ha:dg a)(hb:dg b)(na:nz a)(nb:nz b)(la:a.length<=20000000000)(hle:dv b<=dv a):
  ∃r out,ab P L 297 [v,w] r/\bi r out/\shut r=r/\dg out/\nz out/\dv out+dv b=dv a:=by
 have Fw:b.length<=a.length:=by
  by_cases h:a.length<b.length
  .have:=UI ha nb hb h;lia
  .lia
 unfold ab;rw[aE h];simp only[go_sem,Li];generalize hq:D P L (.loop _ zE) _=q;obtain⟨ex,s,rfl,tm,out,rfl,hd,aO,hl,hs⟩:=bH hq (avB (P:=P) (L:=L) oC hv hw ha hb la hle Fw a.length) ⟨0,0,[],by lia,rfl,by lia,rfl,by simp[dv],.inl ⟨rfl,by simp only[go_sem,ya,ap,az hv.pu,az hw.pu]<;>rfl⟩⟩
 have kF:=kz yda out;rcases hs with ⟨h0,h5,rfl⟩ | ⟨h0,h5,rfl⟩
 .subst h0;have⟨r,e1,hr,jZ⟩:=CY cN (v:=.ah) (l:=[]) zq (by simp);refine⟨r,dY [],?_,hr,jZ,rfl,rfl,by rw[AP];exact aO⟩
  simp only[go_sem,ap,h5,e1,jZ,hr.eA]
 .have ⟨r,e1,hr,jZ⟩:=CY cN kF hl;refine⟨r,dY out,?_,hr,jZ,Ce hd,F9 out,by rw[AP];exact aO⟩
  have iL:∀hp:Hp,mQ 0 out.length (FL (yda,1,out.map aa,hp))=FL (.au yda out.length (out.map aa),hp):=fun hp=>kR yda (by simp) (by decide)
  simp only[go_sem,yb,ap,h5,iL,e1,jZ,hr.eA]
end
end VE
end
section
namespace VE
open Go (IntKind)
def Dz{hp:Hp}{ct id o:Nat}{v:Int}{ex:Bool}{l:List Int}(h:o<l.length):fy hp ct id o 1 [.int .i64 v] (FL (.cells ycZ ycZ ex 1 (l.map aa)))=FL (.aw [],aW hp id (.cells ycZ ycZ ex 1 ((l.set o v).map aa)),ct):=by
 rw[A7 (by rfl) (by simp;lia) (by rfl)]
 have:over o [AV.int .i64 v] (l.map aa)=(l.set o v).map aa:=by
  simp only[over,yy,yJ,yd];rw[ycs,uv,yD (by simpa using h)]
  simp
 rw[this];rfl
def zL{l:List Int}{o:Nat}(h:o<l.length):um o (l.map aa)=AV.int .i64 (l.getD o 0)::um (o+1) (l.map aa):=by
 rw[yZ (by simpa using h)]
 grind
def su{v:AV}{l:List Int}(hv:bi v l){i:Nat}(h:i<l.length):jm 1 i v=FL (.bN (.int .i64 (l.getD i 0)::(l.map aa).drop (i+1))):=by
 rw[hv.bq h]
 grind
def apB{o x y c:Int}(ho:0<=o/\o<1000000000)(hx:0<=x/\x<1000000000)(hy:0<=y/\y<1000000000)(hc:0<=c/\c<1000000000):
  (0<=x*y/\x*y<=999999998000000001)/\0<=o+x*y+c/\o+x*y+c<1000000000000000000:=by
 have h1:=tM hx.1 hy.1;have h2:=ybZ (show x<=999999999 by lia) (show y<=999999999 by lia) hy.1 (by decide)
 lia
section
variable {P:aF}{L:Lib}
def avC{v w:AV}{a b:List Int}(hv:bi v a)(hw:bi w b)(ha:dg a)(hb:dg b)(la:a.length<=20000000000)(lb:b.length<=20000000000){n i:Nat}(hn:n=a.length+b.length)(hi:i<a.length){out0:List Int}:
  cZ P L [0,1,5,6,7,8] Ke (fun k s=>∃(j:Nat) (c:Int) (out:List Int),s=⟨[(0,v),(1,w),(5,.ax 0 0 n),(6,aa i),(7,aa c),(8,aa j)],[(0,.cells ycZ ycZ ycZ 1 (out.map aa))],1,0⟩/\j+k=b.length/\out.length=n/\dg out/\(0<=c/\c<1000000000)/\
    dv out+1000000000^i*1000000000^j*c.toNat=dv out0+1000000000^i*((a.getD i 0).toNat*dv (b.take j))/\(∀m,i+b.length<=m->out.getD m 0=out0.getD m 0)) (fun ex s'=>∃tm c out,s'=⟨tm,[(0,.cells ycZ ycZ ycZ 1 (out.map aa))],1,0⟩/\ex=.exit 2/\aj tm 0=v/\aj tm 1=w/\aj tm 5=.ax 0 0 n/\aj tm 6=aa i/\aj tm 7=aa c/\out.length=n/\dg out/\(0<=c/\c<1000000000)/\
    dv out+1000000000^i*1000000000^b.length*c.toNat=dv out0+1000000000^i*((a.getD i 0).toNat*dv b)/\(∀m,i+b.length<=m->out.getD m 0=out0.getD m 0)):=by
 apply c6;rintro k s ⟨j,c,out,rfl,hk,hlen,hd,hc,aO,eU⟩;by_cases hj:j<b.length
 .left
  obtain⟨x,hx⟩:∃x,x=a.getD i 0:=⟨_,rfl⟩;obtain⟨y,hy⟩:∃y,y=b.getD j 0:=⟨_,rfl⟩;obtain⟨o,ho⟩:∃o,o=out.getD (i+j) 0:=⟨_,rfl⟩;have gx:=iT ha i;have gy:=iT hb j;have oH:=iT hd (i+j);rw[<-hx] at gx;rw[<-hy] at gy;rw[<-ho] at oH;have⟨p1,p2,p3⟩:=apB oH gx gy hc;obtain⟨t,ht⟩:∃t:Nat,o+x*y+c=t:=⟨(o+x*y+c).toNat,by lia⟩;have hr:((t:Nat):Int).tmod 1000000000=((t%1000000000:Nat):Int):=by rw[xO (by lia)];rfl
  have hq:((t:Nat):Int).tdiv 1000000000=((t/1000000000:Nat):Int):=by rw[xP (by lia)];rfl
  have e1:=su hv hi;have e2:=su hw hj;rw[<-hx] at e1;rw[<-hy] at e2;have e3:=zL (l:=out) (o:=i+j) (by lia);rw[<-ho] at e3;have BJ:t=o.toNat+x.toNat*y.toNat+c.toNat:=by
   have:((x.toNat*y.toNat:Nat):Int)=x*y:=by rw[xM,vj gx.1,vj gy.1]
   lia
  have aW:=UJ (l:=out) (j:=i+j) (x:=((t%1000000000:Nat):Int)) (by lia);rw[<-ho,xV,xD] at aW;have mb:=aov (Y:=dv (b.take j)) BJ aW (by rw[hx];exact aO)
  simp only[go_sem,ya,yi,Ke,hw.len,show (j:Int)<b.length by lia,wrapN (n:=i+j) (by lia),show (i:Int)+(j:Int)=((i+j:Nat):Int) from rfl,di 0 0 (show i+j<n by lia),yd,e3,e1,e2,wrap64 (n:=x*y) (by lia) (by lia),wrap64 (n:=o+x*y) (by lia) (by lia),ht,wrapN (n:=t) (by lia),fC _ _ _ (show (1000000000:Int)≠0 by decide),eK _ _ _ (show (1000000000:Int)≠0 by decide),hr,hq,wrapN (n:=t/1000000000) (by lia),Dz (l:=out) (o:=i+j) (by lia)];refine⟨_,k-1,rfl,by lia,j+1,((t/1000000000:Nat):Int),out.set (i+j) ((t%1000000000:Nat):Int),?_,by lia,by simp[hlen],OW hd (by lia),by lia,?_,fun m hm=>?_⟩
  .rw [wrap64 (by lia) (by lia)];simp only[go_sem,ya,yb,ap,az hv.pu,az hw.pu]<;>rfl
  .rw [xV,qG,xh,<-hx,<-hy];exact mb
  .rw [ab6 (by lia)];exact eU m hm
 .right
  have:j=b.length:=by lia
  subst this;rw[xN] at aO;simp only[go_sem,ya,Ke,hw.len,show ¬(b.length:Int)<b.length by lia];exact⟨_,_,rfl,by simp,_,c,out,rfl,rfl,rfl,rfl,rfl,rfl,rfl,hlen,hd,hc,aO,eU⟩
end
end VE
end
section
namespace VE
open Go (IntKind)
section
variable {v w:AV}{a b:List Int}
def SK(n:Nat):(yF n [AV.int .i64 0]).flatten=(yF n (0:Int)).map aa:=by simp_all
def arM(b:Bool):Bo ycZ (FL b)=FL (.bool (!b)):=by cases b<;>rfl
def aaA(n m:Nat):(yF n (0:Int)).getD m 0=0:=by grind
section
variable {P:aF}{L:Lib}
def avD(hv:bi v a)(hw:bi w b)(ha:dg a)(hb:dg b)(la:a.length<=20000000000)(lb:b.length<=20000000000){n:Nat}(hn:n=a.length+b.length):
  cZ P L [0,1,5,6] Kf (fun k s=>∃(i:Nat) (out:List Int),s=⟨[(0,v),(1,w),(5,.ax 0 0 n),(6,aa i)],[(0,.cells ycZ ycZ ycZ 1 (out.map aa))],1,0⟩/\i+k=a.length/\out.length=n/\dg out/\dv out=dv (a.take i)*dv b/\(∀m,i+b.length<=m->out.getD m 0=0)) (fun ex s'=>∃tm out,s'=⟨tm,[(0,.cells ycZ ycZ ycZ 1 (out.map aa))],1,0⟩/\ex=.exit 0/\aj tm 5=.ax 0 0 n/\out.length=n/\dg out/\dv out=dv a*dv b):=by
 apply c6;rintro k s ⟨i,out,rfl,hk,hlen,hd,aO,eU⟩;by_cases hi:i<a.length
 .left
  simp only[go_sem,ya,Kf,hv.len,show (i:Int)<a.length by lia];generalize hq:D P L (.loop _ Ke) _=q;obtain⟨ex,s,rfl,tm,c,zV,rfl,rfl,t0,t1,t5,t6,t7,Vy,rN,hc,Vz,Lx⟩:=bH hq (avC (P:=P) (L:=L) hv hw ha hb la lb hn hi (out0:=out) b.length) ⟨0,0,out,by simp only[go_sem,ya,yb,ap,az hv.pu,az hw.pu]<;>rfl,by lia,hlen,hd,by lia,by simp[dv],fun m _=>rfl⟩
  have hz:zV.getD (i+b.length) 0=0:=by rw[Lx _ (yu _),eU _ (yu _)]
  have e3:=zL (l:=zV) (o:=i+b.length) (by lia);rw[hz] at e3;have aW:=UJ (l:=zV) (j:=i+b.length) (x:=c) (by lia);rw[hz,xD] at aW
  simp only[go_sem,ya,yi,ap,t0,t1,t5,t6,t7,hw.len,az hv.pu,az hw.pu,wrapN (n:=i+b.length) (by lia),show (i:Int)+(b.length:Int)=((i+b.length:Nat):Int) from rfl,di 0 0 (show i+b.length<n by lia),yd,e3,Int.zero_add,wrap64 (n:=c) (by lia) (by lia),Dz (l:=zV) (o:=i+b.length) (by lia)];refine⟨_,k-1,rfl,by lia,i+1,zV.set (i+b.length) c,?_,by lia,by simp[Vy],OW rN hc,?_,fun m hm=>?_⟩
  .rw [wrap64 (by lia) (by lia)];simp only[go_sem,ya,yb,ap,az hv.pu,az hw.pu]<;>rfl
  .rw [qG,xH,<-aO,xe];simp only[Int.toNat_zero,xC,y5] at aW;rw[aW];exact Vz
  .rw [ab6 (by lia),Lx m (by lia),eU m (by lia)]
 .right
  have:i=a.length:=by lia
  subst this;rw[xN] at aO;simp only[go_sem,ya,Kf,hv.len,show ¬(a.length:Int)<a.length by lia];exact⟨_,_,rfl,by simp,_,out,rfl,rfl,rfl,hlen,hd,aO⟩
def W4(h:Has P L 293 CS)(cN:Has P L 300 mP)(hv:bi v a)(hw:bi w b)(ha:dg a)(hb:dg b)(la:a.length<=8000000000)(lb:b.length<=8000000000):
  ∃r out,ab P L 293 [v,w] r/\bi r out/\shut r=r/\dg out/\nz out/\dv out=dv a*dv b:=by
 obtain⟨n,hn⟩:∃n,n=a.length+b.length:=⟨_,rfl⟩;have bZ:∀ct:Nat,Bp ct 1 8 [.int .i64 0] (FL n) (FL n)=FL (.ax ct 0 n,.cells ycZ ycZ ycZ 1 ((yF n (0:Int)).map aa)):=fun ct=>by
  rw[Kt (sz:=1) (by lia) (by lia) (by rfl) (by rfl),SK];rfl
 unfold ab;rw[aE h]
 simp only[go_sem,ya,yb,CS,hv.len,hw.len,wrapN (n:=n) (by lia),show (a.length:Int)+(b.length:Int)=((a.length+b.length:Nat):Int) from rfl,<-hn,bZ];generalize hq:D P L (.loop _ Kf) _=q;obtain⟨ex,s,rfl,tm,out,rfl,rfl,t5,hlen,hd,aO⟩:=bH hq (avD (P:=P) (L:=L) hv hw ha hb (by lia) (by lia) hn a.length) ⟨0,yF n 0,by simp only[go_sem,ya,yb,ap,az hv.pu,az hw.pu]<;>rfl,by lia,by simp,ab8 n,by rw[ab7];simp[dv],fun m _=>aaA n m⟩
 have kF:=kz ycZ out;rw[hlen] at kF;have⟨r,e1,hr,jZ⟩:=CY cN kF (by lia);refine⟨r,dY out,?_,hr,jZ,Ce hd,F9 out,by rw[AP];exact aO⟩
 have iL:∀hp:Hp,mQ 0 n (FL (ycZ,1,out.map aa,hp))=FL (.au ycZ n (out.map aa),hp):=fun hp=>kR ycZ (by simp[hlen]) (by decide)
 simp only[go_sem,yb,ap,t5,iL,e1,jZ,hr.eA]
def LL(h:Has P L 278 Qa)(mi:Has P L 293 CS)(jw:Has P L 294 CT)(cN:Has P L 300 mP){n m:Int}{K:Nat}(hK:K<=8000000000)(hv:lk v n)(hw:lk w m)(hn:n.natAbs<1000000000^K)(hm:m.natAbs<1000000000^K):
  ∃r,ab P L 278 [v,w] r/\lk r (n*m):=by
 obtain⟨x,a,rfl,hx,ha,na,va⟩:=hv;obtain⟨y,b,rfl,hy,hb,nb,vb⟩:=hw;have la:=xi (kA ha na (by rw[va];exact hn)) hK
 have lb:=xi (kA hb nb (by rw[vb];exact hm)) hK
 have⟨z,out,e1,hz,jZ,hd,Du,aO⟩:=W4 mi cN hx hy ha hb la lb;have lo:out.length<=20000000000:=by
  refine kA hd Du ?_;rw[aO];have h1:=kV ha;have h2:=kV hb;have h3:dv a*dv b<1000000000^a.length*1000000000^b.length:=yai h1 h2;rw[<-xD] at h3;have hk:∀K,a.length+b.length<=K->dv a*dv b<1000000000^K:=fun K h=>yP h3 (y9 (by decide) h)
  exact hk 20000000000 (by lia)
 have⟨r,e2,hr⟩:=sD jw cN (!(decide (n<0)==decide (m<0))) hz hd lo;have e:cx (!(decide (n<0)==decide (m<0))) (dv out)=n*m:=by
  rw[aO,va,vb];have hnm:((n.natAbs*m.natAbs:Nat):Int)=(n.natAbs:Int)*m.natAbs:=xM _ _;unfold cx;by_cases h0:n<0<;>by_cases h1:m<0<;>simp only[h0,h1,yM,yH,tQ,yX,yC,xm,hnm]
  .rw [show (n.natAbs:Int)= -n by lia,show (m.natAbs:Int)= -m by lia,Int.neg_mul_neg]
  .rw [show (ycZ==yda)=yda from rfl,yY,yD rfl,show (n.natAbs:Int)= -n by lia,show (m.natAbs:Int)=m by lia,Int.neg_mul,yao]
  .rw [show (yda==ycZ)=yda from rfl,yY,yD rfl,show (n.natAbs:Int)=n by lia,show (m.natAbs:Int)= -m by lia,Int.mul_neg,yao]
  .rw [show (n.natAbs:Int)=n by lia,show (m.natAbs:Int)=m by lia]
 rw[e] at hr;obtain⟨w2,l2,rfl,iQ,fB,lc,Br⟩:=hr;refine⟨_,?_,w2,l2,rfl,iQ,fB,lc,Br⟩;unfold ab at e1 e2 ⊢;rw[aE h];simp only[go_sem,ya,yb,Qa,aQ,hx.pu,hx.ai,hx.one,hy.pu,hy.ai,hy.one,hz.ai,hz.shut,iQ.pu,iQ.one,aT,yd,df,e1,qX,arM,e2,gj,bz];rcases iQ with ⟨rfl,_⟩ | ⟨e,rfl⟩<;>rfl
end
end
end VE
end
section
namespace VE
open Go (IntKind)
def arN(i:Nat)(q:List Int)(x:Int):(yF (i+1) (0:Int)++q).set i x=yF i 0++x::q:=by
 rw[List.replicate_succ',xy,List.set_append_right _ _ (by simp)]
 simp
section
variable {P:aF}{L:Lib}
def avE{v:AV}{a:List Int}(hv:bi v a)(ha:dg a)(la:a.length<=20000000000){d:Nat}(h0:0<d)(h1:d<1000000000):
  cZ P L [0,1,6,7,8] Kg (fun k s=>∃(j r:Nat) (q:List Int),s=⟨[(0,v),(1,aa d),(6,.ax 0 0 a.length),(7,aa r),(8,aa ((j:Int)-1))],[(0,.cells ycZ ycZ ycZ 1 ((yF j (0:Int)++q).map aa))],1,0⟩/\j=k/\j+q.length=a.length/\r<d/\dg q/\dv (a.drop j)=d*dv q+r) (fun ex s'=>∃tm r q,s'=⟨tm,[(0,.cells ycZ ycZ ycZ 1 (q.map aa))],1,0⟩/\ex=.exit 0/\aj tm 6=.ax 0 0 a.length/\aj tm 7=aa (r:Nat)/\q.length=a.length/\r<d/\dg q/\dv a=d*dv q+r):=by
 apply c6;rintro k s ⟨j,r,q,rfl,rfl,hl,hr,hd,aO⟩
 cases j with
 | zero=>
  right
  simp only[go_sem,ya,Kg,show ¬(0:Int)<=((0:Nat):Int)-1 by lia];exact⟨_,_,rfl,by simp,_,r,q,rfl,rfl,rfl,rfl,by lia,hr,hd,aO⟩
 | succ i=>
  left
  have hi:i<a.length:=by lia
  obtain⟨x,hx⟩:∃x,x=a.getD i 0:=⟨_,rfl⟩;have e1:=su hv hi;have gx:=iT ha i;rw[<-hx] at e1 gx;obtain⟨t,ht⟩:∃t:Nat,t=r*1000000000+x.toNat:=⟨_,rfl⟩;have BJ:(r:Int)*1000000000+x=(t:Int):=by lia
  have lR:t<d*1000000000:=by
   lia
  have fX:t/d<1000000000:=(xB h0).2 (by rw[xn];exact lR)
  have ej:t%d<d:=xG _ h0;have e2:((t:Nat):Int).tdiv d=((t/d:Nat):Int):=by rw[xP (by lia)];rfl
  have e3:((t:Nat):Int).tmod d=((t%d:Nat):Int):=by rw[xO (by lia)];rfl
  have HN:(yF (i+1) (0:Int)++q).length=a.length:=by simp;lia
  have aM:=fun (hp:Hp) (ct id:Nat) (ex:Bool)=>Dz (hp:=hp) (ct:=ct) (id:=id) (ex:=ex) (v:=((t/d:Nat):Int)) (l:=yF (i+1) (0:Int)++q) (o:=i) (by rw[HN];exact hi)
  simp only[arN] at aM
  simp only[go_sem,ya,yi,Kg,show ((i+1:Nat):Int)-1=(i:Int) by lia,show (0:Int)<=(i:Int) by lia,wrap64 (n:=(r:Int)*1000000000) (by lia) (by lia),e1,BJ,wrapN (n:=t) (by lia),eK _ _ _ (show (d:Int)≠0 by lia),fC _ _ _ (show (d:Int)≠0 by lia),e2,e3,wrapN (n:=t/d) (by lia),di 0 0 (show i<a.length from hi),yd,aM]
  refine⟨_,i,rfl,by lia,i,t%d,((t/d:Nat):Int)::q,?_,rfl,by simp;lia,ej,(iv (a:=[((t/d:Nat):Int)]) (b:=q)).2 ⟨lY.2 ⟨yas _,tA.2 fX⟩,hd⟩,?_⟩
  .rw [wrap64 (by lia) (by lia)];simp only[go_sem,ya,yb,ap,az hv.pu]<;>rfl
  .have jW:a.drop i=x::a.drop (i+1):=by
    rw[yZ hi,hx];simp[xd,xo hi]
   rw[jW];simp only[dv,aO,xV];have e:=xQ t d;rw[xE,xE d,Nat.mul_left_comm 1000000000 d]
   lia
def ahp(h:Has P L 299 CU)(cN:Has P L 300 mP){v:AV}{a:List Int}(hv:bi v a)(ha:dg a)(la:a.length<=20000000000){d:Nat}(h0:0<d)(h1:d<1000000000):
  ∃r q,ab P L 299 [v,aa d] (.aw [r,aa (dv a%d:Nat)])/\bi r q/\shut r=r/\cg r=r/\dg q/\nz q/\dv q=dv a/d:=by
 obtain⟨n,hn⟩:∃n,n=a.length:=⟨_,rfl⟩;have bZ:∀ct:Nat,Bp ct 1 8 [.int .i64 0] (FL n) (FL n)=FL (.ax ct 0 n,.cells ycZ ycZ ycZ 1 ((yF n (0:Int)).map aa)):=fun ct=>by
  rw[Kt (sz:=1) (by lia) (by lia) (by rfl) (by rfl),SK];rfl
 unfold ab;rw[aE h];simp only[go_sem,ya,yb,CU,hv.len,<-hn,bZ];generalize hq:D P L (.loop _ Kg) _=q;obtain⟨ex,s,rfl,tm,r,qs,rfl,rfl,t6,t7,hlen,hr,hd,aO⟩:=bH hq (avE (P:=P) (L:=L) hv ha la h0 h1 a.length) ⟨a.length,0,[],by
  rw[wrap64 (by lia) (by lia),xT,<-hn]
  simp only[go_sem,ya,yb,ap,az hv.pu]<;>rfl,rfl,by simp,h0,rfl,by rw[xa (yu _)];simp[dv]⟩
 have kF:=kz ycZ qs;rw[hlen] at kF;have⟨w,e1,hw,jZ⟩:=CY cN kF (by lia);have eV:dv a/d=dv qs/\dv a%d=r:=(Nat.div_mod_unique h0).2 ⟨by lia,hr⟩;refine⟨w,dY qs,?_,hw,jZ,hw.cg,Ce hd,F9 qs,by rw[AP,eV.1]⟩;have iL:∀hp:Hp,mQ 0 a.length (FL (ycZ,1,qs.map aa,hp))=FL (.au ycZ a.length (qs.map aa),hp):=fun hp=>kR ycZ (by simp[hlen]) (by decide)
 rw[eV.2];simp only[go_sem,ya,yb,ap,t6,t7,iL,e1,jZ];rcases hw with ⟨rfl,_⟩ | ⟨e,rfl⟩<;>rfl
def azY(h:Has P L 279 G9)(W5:Has P L 295 Lh)(pG:Has P L 296 zR)(QN:Has P L 297 Li)(oC:Has P L 302 zS)(jw:Has P L 294 CT)(cN:Has P L 300 mP){v w:AV}{n m:Int}{K:Nat}(hK:K<=8000000000)(hv:lk v n)(hw:lk w m)(hn:n.natAbs<1000000000^K)(hm:m.natAbs<1000000000^K):
  ∃r,ab P L 279 [v,w] r/\lk r (n+m):=by
 obtain⟨x,a,rfl,hx,ha,na,va⟩:=hv;obtain⟨y,b,rfl,hy,hb,nb,vb⟩:=hw;have la:=xi (kA ha na (by rw[va];exact hn)) hK
 have lb:=xi (kA hb nb (by rw[vb];exact hm)) hK
 by_cases hs:(decide (n<0)==decide (m<0))=ycZ
 .have ⟨z,out,e1,hz,hd,aO,hl⟩:=azX W5 oC hx hy ha hb (by lia) (by lia);have lo:out.length<=20000000000:=by lia
  have⟨r,e2,hr⟩:=sD jw cN (decide (n<0)) hz hd lo;have e:cx (decide (n<0)) (dv out)=n+m:=by
   have DA:(n<0)=(m<0):=by simpa using eq_of_beq hs
   rw[aO,va,vb];unfold cx;by_cases h0:n<0
   .have h1:m<0:=DA▸h0;simp only[h0,yM,xA];lia
   .have h1:¬m<0:=DA▸h0;simp only[h0,yH,yC,xm];lia
  rw[e] at hr;obtain⟨w2,l2,rfl,iQ,fB,lc,Br⟩:=hr;refine⟨_,?_,w2,l2,rfl,iQ,fB,lc,Br⟩;unfold ab at e1 e2 ⊢;rw[aE h];simp only[go_sem,ya,yb,G9,aQ,hx.pu,hx.ai,hx.one,hy.pu,hy.ai,hy.one,hz.ai,iQ.pu,iQ.one,aT,yd,df,e1,qX,eD,hs,e2,gj,bz];rcases iQ with ⟨rfl,_⟩ | ⟨e,rfl⟩<;>rfl
 .have hs:(decide (n<0)==decide (m<0))=yda:=by simpa using hs
  have DA:¬((n<0)=(m<0)):=fun e=>by simp[e] at hs
  have ec:=W3 pG hx hy ha hb na nb (by lia) (by lia);by_cases hc:dv a<dv b
  .have eC:dU (dv a) (dv b)= -1:=by unfold dU;rw[yD hc]
   rw[eC] at ec;have⟨z,out,e1,hz,jZ,hd,Du,aO⟩:=aho QN oC cN hy hx hb ha nb na (by lia) (by lia);have lo:out.length<=20000000000:=by
    refine kA hd Du ?_
    have:=kV hb
    have hk:∀K,b.length<=K->dv out<1000000000^K:=fun K h=>yP (show dv out<1000000000^b.length by lia) (y9 (by decide) h)
    exact hk 20000000000 (by lia)
   have⟨r,e2,hr⟩:=sD jw cN (decide (m<0)) hz hd lo;have e:cx (decide (m<0)) (dv out)=n+m:=by
    rw[va,vb] at aO;unfold cx;by_cases h0:m<0
    .have h1:¬n<0:=fun h1=>DA (by simp[h0,h1])
     simp only[h0,yM,xA];lia
    .have h1:n<0:=by
      by_cases h1:n<0
      .exact h1
      .exact absurd (by simp[h0,h1]) DA
     simp only[h0,yH,yC,xm];lia
   rw[e] at hr;obtain⟨w2,l2,rfl,iQ,fB,lc,Br⟩:=hr;refine⟨_,?_,w2,l2,rfl,iQ,fB,lc,Br⟩;unfold ab at e1 e2 ec ⊢;rw[aE h];simp only[go_sem,ya,yb,G9,aQ,hx.pu,hx.ai,hx.one,hy.pu,hy.ai,hy.one,hz.ai,hz.shut,iQ.pu,iQ.one,aT,yd,df,e1,qX,eD,hs,ec,show ¬(0:Int)<=-1 by decide,e2,gj,bz];rcases iQ with ⟨rfl,_⟩ | ⟨e,rfl⟩<;>rfl
  .have eC:(0:Int)<=dU (dv a) (dv b):=by unfold dU;rw[yt hc];split<;>decide
   have⟨z,out,e1,hz,jZ,hd,Du,aO⟩:=aho QN oC cN hx hy ha hb na nb (by lia) (by lia);have lo:out.length<=20000000000:=by
    refine kA hd Du ?_
    have:=kV ha
    have hk:∀K,a.length<=K->dv out<1000000000^K:=fun K h=>yP (show dv out<1000000000^a.length by lia) (y9 (by decide) h)
    exact hk 20000000000 (by lia)
   have⟨r,e2,hr⟩:=sD jw cN (decide (n<0)) hz hd lo;have e:cx (decide (n<0)) (dv out)=n+m:=by
    rw[va,vb] at aO;unfold cx;by_cases h0:n<0
    .have h1:¬m<0:=fun h1=>DA (by simp[h0,h1])
     simp only[h0,yM,xA];lia
    .have h1:m<0:=by
      by_cases h1:m<0
      .exact h1
      .exact absurd (by simp[h0,h1]) DA
     simp only[h0,yH,yC,xm];lia
   rw[e] at hr;obtain⟨w2,l2,rfl,iQ,fB,lc,Br⟩:=hr;refine⟨_,?_,w2,l2,rfl,iQ,fB,lc,Br⟩;unfold ab at e1 e2 ec ⊢;rw[aE h];simp only[go_sem,ya,yb,G9,aQ,hx.pu,hx.ai,hx.one,hy.pu,hy.ai,hy.one,hz.ai,hz.shut,iQ.pu,iQ.one,aT,yd,df,e1,qX,eD,hs,ec,eC,e2,gj,bz];rcases iQ with ⟨rfl,_⟩ | ⟨e,rfl⟩<;>rfl
end
end VE
end
section
namespace VE
open Go (IntKind)
section
variable {P:aF}{L:Lib}
def adw{l:List Int}(hd:dg l)(hn:nz l)(h:dv l<1000000000):l.length<=1:=kA hd hn (by simpa using h)
def azZ(h:Has P L 289 zQ)(pG:Has P L 296 zR)(rq:Has P L 299 CU)(cN:Has P L 300 mP){v w:AV}{a b:List Int}(hv:bi v a)(hw:bi w b)(ha:dg a)(hb:dg b)(na:nz a)(nb:nz b)(la:a.length<=20000000000)(lb:b.length<=1)(h0:0<dv b):
  ∃q r lq lr,ab P L 289 [v,w] (.aw [q,r])/\bi q lq/\bi r lr/\dg lq/\nz lq/\dg lr/\nz lr/\dv lq=dv a/dv b/\dv lr=dv a%dv b:=by
 have ec:=W3 pG hv hw ha hb na nb la (by lia);by_cases hc:dv a<dv b
 .have eC:dU (dv a) (dv b)= -1:=by unfold dU;rw[yD hc]
  rw[eC] at ec;refine⟨.ah,v,[],a,?_,zq,hv,rfl,rfl,ha,na,?_,?_⟩
  .unfold ab;rw[aE h];simp only[go_sem,ya,zQ,hv.ai,hw.ai,ec,show (-1:Int)<0 by decide];rcases hv with ⟨rfl,_⟩ | ⟨e,rfl⟩<;>rfl
  .rw [xW hc];rfl
  .rw [yS hc]
 .have eC:¬dU (dv a) (dv b)<0:=by unfold dU;rw[yt hc];split<;>decide
  have pO:b.length=1:=by
   rcases xj b.length with e | e
   .rw [yL e] at h0;simp[dv] at h0
   .lia
  obtain⟨x,rfl⟩:∃x,b=[x]:=by
   cases b with
   | nil=>simp at pO
   | cons x r=>cases r with
    | nil=>exact⟨x,rfl⟩
    | cons y r=>simp at pO
  have gx:=lY.1 hb;obtain⟨d,hd⟩:∃d:Nat,x=d:=⟨x.toNat,by lia⟩;subst hd;have hdd:dv [((d:Nat):Int)]=d:=by simp[dv]
  rw[hdd] at h0 hc eC ec ⊢;have⟨q,lq,e1,hq,hqs,az0,dq,nq,vq⟩:=ahp rq cN hv ha la h0 (by lia);have afH:dv a%d<d:=xG _ h0;generalize dv a%d=m at*
  have⟨r,e2,hr,sY⟩:=CY cN (kz ycZ [(m:Int)]) (by simp);refine⟨q,r,lq,dY [(m:Int)],?_,hq,hr,dq,nq,Ce (lY.2 (by lia)),F9 _,vq,by rw[AP];simp[dv]⟩;have e3:=hw.bq (i:=0) (by simp);simp only[yy,yJ,yd,y7,wE,wG] at e2 e3;unfold ab;rw[aE h];simp only[go_sem,ya,yb,yz,yk,yi,zQ,hv.ai,hw.len,hw.ai,ec,eC,yy,yJ,show ((1:Nat):Int)=(1:Int) from rfl,yM,e3,e1,az0,e2,sY];rcases hq with ⟨rfl,_⟩ | ⟨e,rfl⟩<;>rcases hr with ⟨rfl,_⟩ | ⟨e',rfl⟩<;>rfl
end
end VE
end
section
namespace VE
open Go (IntKind)
section
variable {l post pre qs vs:List Int}{r t:Nat}
def sv:List Int->Int
 | []=>0
 | a::r=>a+1000000000*sv r
def abv:∀(a b:List Int),sv (a++b)=sv a+1000000000^a.length*sv b
 | [],b=>by simp[sv]
 | x::a,b=>by
  simp only[ym,sv,abv a b,yy,yac,ycN]
  grind
def avF(x:Int):sv [x]=x:=by simp[sv]
def GI:∀{l:List Int} {i:Nat} {x:Int},i<l.length->sv (l.set i x)=sv l+1000000000^i*(x-l.getD i 0)
 | [],i,x,h=>by simp at h
 | a::l,0,x,_=>by simp[sv];lia
 | a::l,i+1,x,h=>by
  have ih:=GI (l:=l) (i:=i) (x:=x) (by simpa using h);simp only[List.set_cons_succ,sv,List.getD_cons_succ,ih,yac,ycN]
  grind
def OH(i:Nat):sv (l.take (i+1))=sv (l.take i)+1000000000^i*l.getD i 0:=by
 by_cases h:i<l.length
 .rw [xK h,abv,yT,xF (by lia),avF]
  grind
 .rw [yK (by lia),yK (by lia),Jx (by lia),Int.mul_zero,ycx]
def Be:∀{l:List Int},dg l->sv l=dv l
 | [],_=>rfl
 | a::l,h=>by
  have⟨h1,h2⟩:=iv.1 (show dg ([a]++l) from h);have h1:=lY.1 h1;simp only[sv,dv,Be h2,yaT,xM]
  lia
section
variable {pre x post:List Int}{i:Nat}
def pc:(pre++x++post).length=pre.length+x.length+post.length:=by grind
def Cw(h:i<x.length):(pre++x++post).getD (pre.length+i) 0=x.getD i 0:=by grind
def O3(a:Int)(h:i<x.length):(pre++x++post).set (pre.length+i) a=pre++x.set i a++post:=by simp_all
end
def ael{i m:Nat}{x:Int}(h:i≠m):(l.set i x).getD m 0=l.getD m 0:=by simp_all
def ano{i:Nat}{x:Int}(h:i<l.length):(l.set i x).getD i 0=x:=by simp_all
abbrev H3(q u:List Int)(f:Int):Hp:=[(2,.cells ycZ ycZ ycZ 1 (q.map aa)),(1,.cells ycZ ycZ yda 1 (u.map aa)),(0,.cells yda ycZ ycZ 1 [aa f])]
def Oc{live:List Nat}{tm:Env}{ct:Nat}{a b c:List AV}(ht:sq 3 (bm tm live))(hl:(dR (bm tm live)).length<100000):
  bk live ⟨tm,[(2,.cells ycZ ycZ ycZ 1 a),(1,.cells ycZ ycZ yda 1 b),(0,.cells yda ycZ ycZ 1 c)],ct,3⟩=⟨bm tm live,[(2,.cells ycZ ycZ ycZ 1 a),(1,.cells ycZ ycZ yda 1 b),(0,.cells yda ycZ ycZ 1 c)],3,3⟩:=
 ZX ht ⟨by lia,.inl rfl,by lia,.inl rfl,by lia,.inl rfl,trivial⟩ (by
  have:cQ 3 [(2,Obj.cells ycZ ycZ ycZ 1 a),(1,Obj.cells ycZ ycZ yda 1 b),(0,Obj.cells yda ycZ ycZ 1 c)]=[]:=rfl
  rw[this,yJ,y5];exact hl)
structure gD(x vs:List Int)(n v1 v2 u0 u1 u2:Nat):Prop where
 n2:2<=n
 nb:n<=20000000000
 lx:x.length=n+1
 lv:vs.length=n
 gx:dg x
 gv:dg vs
 fb:vs.getD (n-1) 0=(v1:Int)
 c9:vs.getD (n-2) 0=(v2:Int)
 h0:x.getD n 0=(u0:Int)
 h1:x.getD (n-1) 0=(u1:Int)
 h2:x.getD (n-2) 0=(u2:Int)
 pos:0<v1
 lt:dv x<1000000000*dv vs
section
variable {x vs:List Int}{n v1 v2 u0 u1 u2:Nat}
def gD.MK(h:gD x vs n v1 v2 u0 u1 u2):v1<1000000000:=by have:=iT h.gv (n-1);rw[h.fb] at this;lia
def gD.Fm(h:gD x vs n v1 v2 u0 u1 u2):v2<1000000000:=by have:=iT h.gv (n-2);rw[h.c9] at this;lia
def gD.u0W(h:gD x vs n v1 v2 u0 u1 u2):u0<1000000000:=by have:=iT h.gx n;rw[h.h0] at this;lia
def gD.ML(h:gD x vs n v1 v2 u0 u1 u2):u1<1000000000:=by have:=iT h.gx (n-1);rw[h.h1] at this;lia
def gD.MM(h:gD x vs n v1 v2 u0 u1 u2):u2<1000000000:=by have:=iT h.gx (n-2);rw[h.h2] at this;lia
def gD.parts(h:gD x vs n v1 v2 u0 u1 u2):∃p vr ur,dv vs=(v1*1000000000+v2)*p+vr/\vr<p/\dv x=((u0*1000000000+u1)*1000000000+u2)*p+ur/\ur<p:=by
 obtain⟨m,hm⟩:∃m,n=m+2:=⟨n-2,by have:=h.n2;lia⟩
 subst hm;have e1:=qG (l:=vs) (m+1);have e2:=qG (l:=vs) m;have f0:=qG (l:=x) (m+2);have f1:=qG (l:=x) (m+1);have f2:=qG (l:=x) m;have fb:vs.getD (m+1) 0=(v1:Int):=h.fb;have c9:vs.getD m 0=(v2:Int):=h.c9;have h0:x.getD (m+2) 0=(u0:Int):=h.h0;have h1:x.getD (m+1) 0=(u1:Int):=h.h1;have h2:x.getD m 0=(u2:Int):=h.h2
 rw[yK (by have:=h.lv;lia),fb,e2,c9] at e1
 rw[yK (by have:=h.lx;lia),h0,f1,h1,f2,h2] at f0
 simp only[xV] at e1 f0;have g1:=kV (DV h.gv m)
 rw[yT,xF (by have:=h.lv;lia)] at g1
 have g2:=kV (DV h.gx m)
 rw[yT,xF (by have:=h.lx;lia)] at g2
 refine⟨1000000000^m,_,_,?_,g1,?_,g2⟩
 .rw [e1,xh,axP]
 .rw [f0,show 1000000000^(m+2)=1000000000^m*1000000000*1000000000 by rw[xh,xh],xh,axQ]
def gD.down(h:gD x vs n v1 v2 u0 u1 u2)(ht:t*v1+r=u0*1000000000+u1)(hr:r*1000000000+u2<t*v2):dv x/dv vs<=t-1:=by
 have⟨p,vr,ur,h1,h2,h3,h4⟩:=h.parts;exact aap h1 h3 h4 ht hr
def gD.stop(h:gD x vs n v1 v2 u0 u1 u2)(lR:t<1000000000)(ht:t*v1+r=u0*1000000000+u1)(hr:1000000000<=r\/t*v2<=r*1000000000+u2):t<=dv x/dv vs+1:=by
 have⟨p,vr,ur,h1,h2,h3,h4⟩:=h.parts;exact abc (by decide) h1 h2 h3 h.pos h.Fm lR ht hr
def gD.first(h:gD x vs n v1 v2 u0 u1 u2):dv x/dv vs<=(u0*1000000000+u1)/v1:=by
 have⟨p,vr,ur,h1,h2,h3,h4⟩:=h.parts;exact Ss h1 h3 h4 h.MM h.pos
def gD.top(h:gD x vs n v1 v2 u0 u1 u2):u0<=v1:=by
 have⟨p,vr,ur,h1,h2,h3,h4⟩:=h.parts;exact abd h1 h3 h2 h.Fm h.lt
def gD.digit(h:gD x vs n v1 v2 u0 u1 u2):dv x/dv vs<1000000000:=by
 refine (xB ?_).2 h.lt;rcases xj (dv vs) with h0 | h0
 .have:=h.lt;rw[h0] at this;simp at this
 .exact h0
def gD.small(h:gD x vs n v1 v2 u0 u1 u2)(ht:t*v1+r=u0*1000000000+u1)(hb:1000000000<=t):r<1000000000:=by
 have h1:=h.top;have h2:=h.ML;have h3:=yI v1 hb
 grind
end
def az1{u:Nat}(hr:r<1000000000)(hu:u<1000000000):r*1000000000<9223372036854775808/\r*1000000000+u<9223372036854775808:=by lia
section
variable {P:aF}{L:Lib}
def arO{w:AV}{x:List Int}{f:Int}(hw:bi w vs){n v1 v2 u0 u1 u2 M:Nat}(hl:gD x vs n v1 v2 u0 u1 u2)(hM:M=pre.length+x.length+post.length)(MX:M<=50000000000):
  cZ P L [0,1,2,7,9,10] Cs (fun k s=>∃t r:Nat,s=⟨[(0,.ax 1 0 M),(1,w),(2,aa pre.length),(7,aa n),(9,aa t),(10,aa r)],H3 qs (pre++x++post) f,3,3⟩/\t*v1+r=u0*1000000000+u1/\r<1000000000/\dv x/dv vs<=t/\t=k) (fun ex s'=>∃tm ct t,s'=⟨tm,H3 qs (pre++x++post) f,ct,3⟩/\((ex=.exit 0/\aj tm 9=aa (t:Nat))\/(ex=.ret/\aj tm 6=aa (t:Nat)))/\ct=3/\t<1000000000/\dv x/dv vs<=t/\t<=dv x/dv vs+1):=by
 apply c6;rintro k s ⟨t,r,rfl,ht,hr,hQ,rfl⟩;have dQ:=hl.n2;have rL:=hl.nb;have hlx:=hl.lx;have Hi:=hl.MK;have Wy:=hl.Fm;have agV:=hl.MM;have az2:=hl.u0W;have QD:=hl.ML;have pH:=hl.pos;have rO:=su hw (i:=n-2) (by have:=hl.lv;lia)
 have fe:=su hw (i:=n-1) (by have:=hl.lv;lia)
 rw[hl.c9] at rO;rw[hl.fb] at fe;have Aw:=zL (l:=pre++x++post) (o:=pre.length+(n-2)) (by rw[pc];lia)
 rw[Cw (by lia),hl.h2] at Aw;have BN:(n:Int)-2=((n-2:Nat):Int):=by lia
 have rP:(n:Int)-1=((n-1:Nat):Int):=by lia
 have MY:(pre.length:Int)+(n:Int)=((pre.length+n:Nat):Int):=rfl;have YY:((pre.length+n:Nat):Int)-2=((pre.length+(n-2):Nat):Int):=by lia
 have aEF:t<=1000000000000000000:=by
  have:=yW t pH
  lia
 have aEG:t*1<=t*v1:=yW t pH;have⟨YZ,Y0⟩:=az1 hr agV;by_cases At:1000000000<=t\/r*1000000000+u2<t*v2
 .have Y1:0<t:=by
   rcases xj t with h0 | h0
   .subst h0;lia
   .exact h0
  have h1:(t-1)*v1+(r+v1)=u0*1000000000+u1:=by
   obtain⟨p,rfl⟩:∃p,t=p+1:=⟨t-1,by lia⟩;rw[xH,Nat.one_mul] at ht;rw[Nat.add_sub_cancel];lia
  have Fo:dv x/dv vs<=t-1:=by
   rcases At with h | h
   .have:=hl.digit;generalize dv x/dv vs=q at*;lia
   .exact hl.down ht h
  have R3:((t:Nat):Int)-1=((t-1:Nat):Int):=by lia
  have stop:1000000000<=r+v1->t-1<1000000000/\t-1<=dv x/dv vs+1:=fun hb=>by
   have aH:t-1<1000000000:=by
    by_cases Aj:1000000000<=t-1
    .have:=hl.small h1 Aj;lia
    .lia
   exact⟨aH,hl.stop aH h1 (.inl hb)⟩
  by_cases hb:1000000000<=t
  .by_cases nM:1000000000<=r+v1
   .right
    have⟨s1,s2⟩:=stop nM
    simp only[go_sem,ya,Cs,H3,show (1000000000:Int)<=(t:Int) by lia,R3,wrapN (n:=t-1) (by lia),rP,wrapN (n:=n-1) (by lia),fe,show (r:Int)+(v1:Int)=((r+v1:Nat):Int) from rfl,wrapN (n:=r+v1) (by lia),show (1000000000:Int)<=((r+v1:Nat):Int) by lia];exact⟨_,_,rfl,by simp,_,_,t-1,rfl,.inr ⟨rfl,rfl⟩,rfl,s1,Fo,s2⟩
   .left
    simp only[go_sem,ya,Cs,H3,show (1000000000:Int)<=(t:Int) by lia,R3,wrapN (n:=t-1) (by lia),rP,wrapN (n:=n-1) (by lia),fe,show (r:Int)+(v1:Int)=((r+v1:Nat):Int) from rfl,wrapN (n:=r+v1) (by lia),show ¬(1000000000:Int)<=((r+v1:Nat):Int) by lia];refine⟨_,t-1,rfl,by lia,t-1,r+v1,?_,h1,by lia,Fo,rfl⟩;rw[Oc (by simp only[go_sem,ya,yz,nv,oe,nl,nk,r5 hw.pu,vS]) (by simp only[go_sem,ya,yb,yz,iw hw.pu])];simp only[go_sem,ya]
  .have Dk:=xf (show t<=999999999 by lia) (show v2<=999999999 by lia);have ru:r*1000000000+u2<t*v2:=At.resolve_left hb;obtain⟨m,hm⟩:∃m,t*v2=m:=⟨_,rfl⟩;have em:(t:Int)*(v2:Int)=(m:Int):=by rw[<-hm,xM]
   rw[hm] at ru Dk;have HQ:(r:Int)*1000000000=((r*1000000000:Nat):Int):=by lia
   have Dq:((r*1000000000:Nat):Int)+(u2:Int)=((r*1000000000+u2:Nat):Int):=rfl;by_cases nM:1000000000<=r+v1
   .right
    have⟨s1,s2⟩:=stop nM
    simp only[go_sem,ya,yi,Cs,H3,show ¬(1000000000:Int)<=(t:Int) by lia,BN,wrapN (n:=n-2) (by lia),rO,em,wrapN (n:=m) (by lia),HQ,wrapN YZ,MY,wrapN (n:=pre.length+n) (by lia),YY,wrapN (n:=pre.length+(n-2)) (by lia),di 1 0 (show pre.length+(n-2)<M by lia),yd,Aw,Dq,wrapN Y0,show ((r*1000000000+u2:Nat):Int)<(m:Int) from tA.2 ru,R3,wrapN (n:=t-1) (by lia),rP,wrapN (n:=n-1) (by lia),fe,show (r:Int)+(v1:Int)=((r+v1:Nat):Int) from rfl,wrapN (n:=r+v1) (by lia),show (1000000000:Int)<=((r+v1:Nat):Int) by lia];exact⟨_,_,rfl,by simp,_,_,t-1,rfl,.inr ⟨rfl,rfl⟩,rfl,s1,Fo,s2⟩
   .left
    simp only[go_sem,ya,yi,Cs,H3,show ¬(1000000000:Int)<=(t:Int) by lia,BN,wrapN (n:=n-2) (by lia),rO,em,wrapN (n:=m) (by lia),HQ,wrapN YZ,MY,wrapN (n:=pre.length+n) (by lia),YY,wrapN (n:=pre.length+(n-2)) (by lia),di 1 0 (show pre.length+(n-2)<M by lia),yd,Aw,Dq,wrapN Y0,show ((r*1000000000+u2:Nat):Int)<(m:Int) from tA.2 ru,R3,wrapN (n:=t-1) (by lia),rP,wrapN (n:=n-1) (by lia),fe,show (r:Int)+(v1:Int)=((r+v1:Nat):Int) from rfl,wrapN (n:=r+v1) (by lia),show ¬(1000000000:Int)<=((r+v1:Nat):Int) by lia];refine⟨_,t-1,rfl,by lia,t-1,r+v1,?_,h1,by lia,Fo,rfl⟩;rw[Oc (by simp only[go_sem,ya,yz,nv,oe,nl,nk,r5 hw.pu,vS]) (by simp only[go_sem,ya,yb,yz,iw hw.pu])];simp only[go_sem,ya]
 .right
  have lR:t<1000000000:=Nat.lt_of_not_le fun e=>At (.inl e)
  have Dk:=xf (show t<=999999999 from vV lR) (show v2<=999999999 from vV Wy);have W6:t*v2<=r*1000000000+u2:=ybF fun e=>At (.inr e)
  have ax1:=hl.stop lR ht (.inr W6);obtain⟨m,hm⟩:∃m,t*v2=m:=⟨_,rfl⟩;have em:(t:Int)*(v2:Int)=(m:Int):=by rw[<-hm,xM]
  rw[hm] at W6 Dk;have HQ:(r:Int)*1000000000=((r*1000000000:Nat):Int):=by lia
  have Dq:((r*1000000000:Nat):Int)+(u2:Int)=((r*1000000000+u2:Nat):Int):=rfl
  simp only[go_sem,ya,yi,Cs,H3,show ¬(1000000000:Int)<=(t:Int) by lia,BN,wrapN (n:=n-2) (by lia),rO,em,wrapN (n:=m) (by lia),HQ,wrapN YZ,MY,wrapN (n:=pre.length+n) (by lia),YY,wrapN (n:=pre.length+(n-2)) (by lia),di 1 0 (show pre.length+(n-2)<M by lia),yd,Aw,Dq,wrapN Y0,show ¬((r*1000000000+u2:Nat):Int)<(m:Int) from fun e=>Nat.not_lt_of_le W6 (tA.1 e)];exact⟨_,_,rfl,by simp,_,_,t,rfl,.inl ⟨rfl,rfl⟩,rfl,lR,hQ,ax1⟩
def ax2(h:Has P L 301 Bn){w:AV}{x:List Int}{f:Int}(hw:bi w vs){n v1 v2 u0 u1 u2 M:Nat}(hl:gD x vs n v1 v2 u0 u1 u2)(hM:M=pre.length+x.length+post.length)(MX:M<=50000000000):
  ∃t:Nat,jl P L (D P L) (H3 qs (pre++x++post) f) 3 301 [.ax 1 0 M,w,aa pre.length]=FL (aa t,H3 qs (pre++x++post) f,3)/\t<1000000000/\dv x/dv vs<=t/\t<=dv x/dv vs+1:=by
 have dQ:=hl.n2;have rL:=hl.nb;have hlx:=hl.lx;have Ay:below 3 w:=r5 hw.pu;have Hi:=hl.MK;have az2:=hl.u0W;have QD:=hl.ML;have pH:=hl.pos;have fe:=su hw (i:=n-1) (by have:=hl.lv;lia)
 rw[hl.fb] at fe;have Ds:=zL (l:=pre++x++post) (o:=pre.length+n) (by rw[pc];lia)
 rw[Cw (by lia),hl.h0] at Ds;have Dt:=zL (l:=pre++x++post) (o:=pre.length+(n-1)) (by rw[pc];lia)
 rw[Cw (by lia),hl.h1] at Dt;have rP:(n:Int)-1=((n-1:Nat):Int):=by lia
 have MY:(pre.length:Int)+(n:Int)=((pre.length+n:Nat):Int):=rfl;have pn1:((pre.length+n:Nat):Int)-1=((pre.length+(n-1):Nat):Int):=by lia
 obtain⟨m,hm⟩:∃m,m=u0*1000000000+u1:=⟨_,rfl⟩;have em:(u0:Int)*1000000000=((u0*1000000000:Nat):Int):=by lia
 have em2:((u0*1000000000:Nat):Int)+(u1:Int)=(m:Int):=by lia
 have eV:=xQ m v1;have oB:=xG m pH;have O1:=hl.first;rw[<-hm] at O1;have aEV:m/v1<=m:=Nat.div_le_self _ _;have oq:IntKind.wrap .i64 ((m:Int).tdiv (v1:Int))=((m/v1:Nat):Int):=by
  rw[xP (by lia),<-Int.natCast_ediv,wrapN (by lia)]
 have or':(m:Int).tmod (v1:Int)=((m%v1:Nat):Int):=by rw[xO (by lia),<-Int.natCast_emod]
 rw[xn] at eV;generalize m/v1=q0 at*
 generalize m%v1=r0 at*
 have jQ:∃ex tm t,D P L Bn.body ⟨fI 0 [.ax 1 0 M,w,aa pre.length],H3 qs (pre++x++post) f,3,3⟩=FL (ex,⟨tm,H3 qs (pre++x++post) f,3,3⟩)/\(ex=.normal\/ex=.ret)/\aj tm 6=aa (t:Nat)/\t<1000000000/\dv x/dv vs<=t/\t<=dv x/dv vs+1:=by
  simp only[go_sem,ya,yi,Bn,H3,hw.len,hl.lv,MY,wrapN (n:=pre.length+n) (by lia),di 1 0 (show pre.length+n<M by lia),yd,Ds,em,wrapN (n:=u0*1000000000) (by lia),pn1,wrapN (n:=pre.length+(n-1)) (by lia),di 1 0 (show pre.length+(n-1)<M by lia),Dt,em2,wrapN (n:=m) (by lia),rP,wrapN (n:=n-1) (by lia),fe,eK _ _ _ (show (v1:Int)≠0 by lia),fC _ _ _ (show (v1:Int)≠0 by lia),oq,or'];generalize nQ:D P L (.loop _ Cs) _=qq;obtain⟨ex,s,rfl,tm,ct,t,rfl,CV,rfl,g1,g2,g3⟩:=bH nQ (arO (P:=P) (L:=L) (qs:=qs) (f:=f) hw hl hM MX q0) ⟨q0,r0,by
   rw[Oc (by simp only[go_sem,ya,yz,nv,oe,nl,nk,Ay,vS]) (by simp only[go_sem,ya,yb,yz,iw hw.pu])]
   simp only[go_sem,ya],by lia,by lia,O1,rfl⟩
  rcases CV with ⟨rfl,h9⟩ | ⟨rfl,h6⟩
  .simp only [go_sem,yz,H3,Oc,nv,nl,nk,h9,and_self];exact⟨_,_,t,rfl,.inr rfl,rfl,g1,g2,g3⟩
  .simp only [go_sem];exact⟨_,_,t,rfl,.inr rfl,h6,g1,g2,g3⟩
 have⟨ex,tm,t,g1,g2,g3,g4,g5,g6⟩:=jQ;exact⟨t,Uo h g1 g2 (by show jE _ [RV.t 6]=_;rw[Wr,Vx,g3]),g4,g5,g6⟩
end
end
end VE
end
section
namespace VE
open Go (IntKind)
section
variable {p t v x z:Int}{post pre qs vs y:List Int}{n:Nat}
def az3{bo:Int}(ht:0<=t/\t<1000000000)(hv:0<=v/\v<1000000000)(hb:0<=bo/\bo<1000000000):0<=t*v/\t*v<=999999998000000001/\0<=t*v+bo/\t*v+bo<=999999999000000000:=by
 have h1:=tM ht.1 hv.1;have h2:=ybZ (show t<=999999999 by lia) (show v<=999999999 by lia) hv.1 (by decide)
 lia
def az4(hx:0<=x/\x<1000000000)(hp:0<=p/\p<=999999999000000000):
  (x-p.tmod 1000000000<0->0<=x-p.tmod 1000000000+1000000000/\x-p.tmod 1000000000+1000000000<1000000000/\0<=p.tdiv 1000000000+1/\p.tdiv 1000000000+1<1000000000/\x-p.tmod 1000000000+1000000000+p=x+1000000000*(p.tdiv 1000000000+1))/\
  (¬x-p.tmod 1000000000<0->x-p.tmod 1000000000<1000000000/\0<=p.tdiv 1000000000/\p.tdiv 1000000000<1000000000/\x-p.tmod 1000000000+p=x+1000000000*p.tdiv 1000000000):=by grind
def Uv{l:List Int}(h:dg l){i:Nat}(hz:0<=z/\z<1000000000):dg (l.set i z):=OW h hz
def arP{b q bo BO X Y S:Int}(h2:z+(q*v+bo)=x+b*BO)(h3:Y+q*X=S+p*bo):(Y+p*(z-x))+q*(X+p*v)=S+p*b*BO:=by grind
section
variable {P:aF}{L:Lib}
def arQ{w:AV}{x:List Int}{f:Int}(hw:bi w vs){M m:Nat}(lv:vs.length=n)(hM:M=pre.length+(n+1)+post.length)(MX:M<=50000000000)(gv:dg vs)(ht:0<=t/\t<1000000000):
  cZ P L [8,9,10,11,12,13,14,15,16] Gs (fun k s=>∃(i:Nat) (bo:Int) (y:List Int),s=⟨[(8,.ax 0 0 1),(9,w),(10,aa n),(11,.ax 1 0 M),(12,.ax 2 0 m),(13,aa pre.length),(14,aa t),(15,aa bo),(16,aa i)],H3 qs (pre++y++post) f,3,0⟩/\i+k=n/\y.length=n+1/\dg y/\(0<=bo/\bo<1000000000)/\
    sv y+t*sv (vs.take i)=sv x+1000000000^i*bo) (fun ex s'=>∃tm bo y,s'=⟨tm,H3 qs (pre++y++post) f,3,0⟩/\ex=.exit 4/\aj tm 8=.ax 0 0 1/\aj tm 9=w/\aj tm 10=aa n/\aj tm 11=.ax 1 0 M/\aj tm 12=.ax 2 0 m/\aj tm 13=aa pre.length/\aj tm 14=aa t/\aj tm 15=aa bo/\y.length=n+1/\dg y/\(0<=bo/\bo<1000000000)/\
    sv y+t*sv vs=sv x+1000000000^n*bo):=by
 apply c6;rintro k s ⟨i,bo,y,rfl,hk,ly,gy,jY,aO⟩;by_cases hi:i<n
 .left
  have zd:=iT gv i;have rQ:=iT gy i;have ev:=su hw (i:=i) (by lia);have ey:=zL (l:=pre++y++post) (o:=pre.length+i) (by rw[pc];lia)
  rw[Cw (by lia)] at ey;have eZ:=OH (l:=vs) i;obtain⟨a,ha⟩:∃a,a=vs.getD i 0:=⟨_,rfl⟩;obtain⟨d,hd⟩:∃d,d=y.getD i 0:=⟨_,rfl⟩;rw[<-ha] at zd ev eZ;rw[<-hd] at rQ ey;have⟨p1,p2,p3,p4⟩:=az3 ht zd jY;have⟨s1,s2⟩:=az4 rQ ⟨p3,p4⟩;have eM:(i:Int)+(pre.length:Int)=((pre.length+i:Nat):Int):=by lia
  have aM:=fun (hp:Hp) (ct:Nat) (z:Int)=>Dz (hp:=hp) (ct:=ct) (id:=1) (v:=z) (ex:=yda) (l:=pre++y++post) (o:=pre.length+i) (by rw[pc];lia)
  have px:=fun z=>O3 (pre:=pre) (x:=y) (post:=post) (i:=i) z (by lia)
  have aW:=fun z=>GI (l:=y) (i:=i) (x:=z) (by lia)
  rw[<-hd] at aW;obtain⟨pr,pN⟩:∃pr,pr=t*a+bo:=⟨_,rfl⟩;obtain⟨dm,eV⟩:∃dm,pr.tmod 1000000000=dm:=⟨_,rfl⟩;obtain⟨dq,Ft⟩:∃dq,pr.tdiv 1000000000=dq:=⟨_,rfl⟩;have aEW:0<=dm/\dm<1000000000:=by rw[<-eV,xO (by lia)];lia
  have aEX:0<=dq/\dq<1000000000:=by rw[<-Ft,xP (by lia)];lia
  rw[<-pN,eV,Ft] at s1 s2;have key:∀z BO,z+(t*a+bo)=d+1000000000*BO->sv (y.set i z)+t*sv (vs.take (i+1))=sv x+1000000000^(i+1)*BO:=fun z BO h=>by
   rw[aW,eZ,yac];exact arP h aO
  rw[<-pN] at key;by_cases fD:d-dm<0
  .have ⟨q1,q2,q3,q4,q5⟩:=s1 fD;have kk:=key _ _ q5;obtain⟨dr,jW⟩:∃dr,d-dm=dr:=⟨_,rfl⟩;rw[jW] at fD kk q1 q2
   simp only[go_sem,ya,yi,Gs,H3,show (i:Int)<(n:Int) by lia,ev,wrap64 (n:=t*a) (by lia) (by lia),<-pN,wrap64 (n:=pr) (by lia) (by lia),eM,wrapN (n:=pre.length+i) (by lia),di 1 0 (show pre.length+i<M by lia),yd,ey,fC _ _ _ (show (1000000000:Int)≠0 by decide),eK _ _ _ (show (1000000000:Int)≠0 by decide),eV,Ft,jW,wrap64 (n:=dr) (by lia) (by lia),wrap64 (n:=dq) (by lia) (by lia),fD,wrap64 (n:=dr+1000000000) (by lia) (by lia),wrap64 (n:=dq+1) (by lia) (by lia),aM,px];refine⟨_,k-1,rfl,by lia,i+1,dq+1,y.set i (dr+1000000000),?_,by lia,by simp[ly],Uv gy ⟨q1,q2⟩,⟨q3,q4⟩,kk⟩;rw[wrap64 (by lia) (by lia)];simp only[go_sem,ya,yb,ap,az hw.pu]<;>rfl
  .have ⟨q2,q3,q4,q5⟩:=s2 fD;have kk:=key _ _ q5;obtain⟨dr,jW⟩:∃dr,d-dm=dr:=⟨_,rfl⟩;rw[jW] at fD kk q2
   simp only[go_sem,ya,yi,Gs,H3,show (i:Int)<(n:Int) by lia,ev,wrap64 (n:=t*a) (by lia) (by lia),<-pN,wrap64 (n:=pr) (by lia) (by lia),eM,wrapN (n:=pre.length+i) (by lia),di 1 0 (show pre.length+i<M by lia),yd,ey,fC _ _ _ (show (1000000000:Int)≠0 by decide),eK _ _ _ (show (1000000000:Int)≠0 by decide),eV,Ft,jW,wrap64 (n:=dr) (by lia) (by lia),wrap64 (n:=dq) (by lia) (by lia),fD,aM,px];refine⟨_,k-1,rfl,by lia,i+1,dq,y.set i dr,?_,by lia,by simp[ly],Uv gy ⟨by lia,q2⟩,⟨q3,q4⟩,kk⟩;rw[wrap64 (by lia) (by lia)];simp only[go_sem,ya,yb,ap,az hw.pu]<;>rfl
 .right
  have:i=n:=by lia
  subst this;rw[yK (by lia)] at aO;simp only[go_sem,ya,Gs,H3,show ¬(i:Int)<(i:Int) by lia];exact⟨_,_,rfl,by simp,_,bo,y,rfl,rfl,rfl,rfl,rfl,rfl,rfl,rfl,rfl,rfl,ly,gy,jY,aO⟩
def arR{b c c' X Y S:Int}(h2:z+b*c'=x+v+c)(h3:Y+p*c=S+X):(Y+p*(z-x))+p*b*c'=S+(X+p*v):=by grind
def arS{w:AV}{y0:List Int}{f:Int}(hw:bi w vs){M m:Nat}(lv:vs.length=n)(hM:M=pre.length+(n+1)+post.length)(MX:M<=50000000000)(gv:dg vs){top:Int}:
  cZ P L [8,9,10,11,12,13,14,19,20] Ka (fun k s=>∃(i:Nat) (c:Int) (y:List Int),s=⟨[(8,.ax 0 0 1),(9,w),(10,aa n),(11,.ax 1 0 M),(12,.ax 2 0 m),(13,aa pre.length),(14,aa t),(19,aa c),(20,aa i)],H3 qs (pre++y++post) f,3,0⟩/\i+k=n/\y.length=n+1/\dg (y.take n)/\y.getD n 0=top/\(0<=c/\c<=1)/\
    sv y+1000000000^i*c=sv y0+sv (vs.take i)) (fun ex s'=>∃tm c y,s'=⟨tm,H3 qs (pre++y++post) f,3,0⟩/\ex=.exit 6/\aj tm 8=.ax 0 0 1/\aj tm 9=w/\aj tm 10=aa n/\aj tm 11=.ax 1 0 M/\aj tm 12=.ax 2 0 m/\aj tm 13=aa pre.length/\aj tm 14=aa t/\aj tm 19=aa c/\y.length=n+1/\dg (y.take n)/\y.getD n 0=top/\(0<=c/\c<=1)/\
    sv y+1000000000^n*c=sv y0+sv vs):=by
 apply c6;rintro k s ⟨i,c,y,rfl,hk,ly,gy,pC,hc,aO⟩;by_cases hi:i<n
 .left
  have zd:=iT gv i;have rQ:=iT gy i;have e0:(y.take n).getD i 0=y.getD i 0:=by
   simp[xd,hi]
  rw[e0] at rQ;have ev:=su hw (i:=i) (by lia);have ey:=zL (l:=pre++y++post) (o:=pre.length+i) (by rw[pc];lia)
  rw[Cw (by lia)] at ey;have eZ:=OH (l:=vs) i;obtain⟨a,ha⟩:∃a,a=vs.getD i 0:=⟨_,rfl⟩;obtain⟨d,hd⟩:∃d,d=y.getD i 0:=⟨_,rfl⟩;rw[<-ha] at zd ev eZ;rw[<-hd] at rQ ey;have eM:(i:Int)+(pre.length:Int)=((pre.length+i:Nat):Int):=by lia
  have aW:=fun z=>GI (l:=y) (i:=i) (x:=z) (by lia)
  rw[<-hd] at aW;have oB:(d+a+c).tmod 1000000000=(d+a+c)%1000000000:=xO (by lia);have hdiv:(d+a+c).tdiv 1000000000=(d+a+c)/1000000000:=xP (by lia);obtain⟨z,hz⟩:∃z,z=(d+a+c)%1000000000:=⟨_,rfl⟩;obtain⟨c',kH⟩:∃z,z=(d+a+c)/1000000000:=⟨_,rfl⟩;have XK:z+1000000000*c'=d+a+c:=by lia
  rw[<-hz] at oB;rw[<-kH] at hdiv;have aM:=fun (hp:Hp) (ct:Nat)=>Dz (hp:=hp) (ct:=ct) (id:=1) (v:=z) (ex:=yda) (l:=pre++y++post) (o:=pre.length+i) (by rw[pc];lia)
  have px:=O3 (pre:=pre) (x:=y) (post:=post) (i:=i) z (by lia)
  simp only[go_sem,ya,yi,Ka,H3,show (i:Int)<(n:Int) by lia,ev,eM,wrapN (n:=pre.length+i) (by lia),di 1 0 (show pre.length+i<M by lia),yd,ey,wrap64 (n:=d+a) (by lia) (by lia),wrap64 (n:=d+a+c) (by lia) (by lia),fC _ _ _ (show (1000000000:Int)≠0 by decide),eK _ _ _ (show (1000000000:Int)≠0 by decide),oB,hdiv,wrap64 (n:=c') (by lia) (by lia),aM,px];refine⟨_,k-1,rfl,by lia,i+1,c',y.set i z,?_,by lia,by simp[ly],?_,by rw[ael (by lia)];exact pC,⟨by lia,by lia⟩,?_⟩
  .rw [wrap64 (by lia) (by lia)];simp only[go_sem,ya,yb,ap,az hw.pu]<;>rfl
  .rw [yaA];exact Uv gy ⟨by lia,by lia⟩
  .rw [aW,eZ,yac];exact arR XK aO
 .right
  have:i=n:=by lia
  subst this;rw[yK (show vs.length<=i by lia)] at aO;simp only[go_sem,ya,Ka,H3,show ¬(i:Int)<(i:Int) by lia];exact⟨_,_,rfl,by simp,_,c,y,rfl,rfl,rfl,rfl,rfl,rfl,rfl,rfl,rfl,rfl,ly,gy,pC,hc,aO⟩
def arT{A V t:Nat}(hV:0<V)(ly:y.length=n+1)(gy:dg (y.take n))(h:sv y=(A:Int)-t*V)(h1:A/V<=t)(h2:t<=A/V+1):
  (¬y.getD n 0<0->t=A/V/\sv y=((A%V:Nat):Int))/\(y.getD n 0<0->t=A/V+1/\sv y+V=((A%V:Nat):Int)):=by
 have eV:=xQ A V;have hm:=xG A hV;have eZ:=OH (l:=y) n;rw[yK (by lia),Be gy] at eZ;have LK:=kV gy;have hp:(0:Int)<1000000000^n:=ycO (by decide);generalize y.getD n 0=top at*
 generalize A/V=Q at*
 have hq:t=Q\/t=Q+1:=by lia
 constructor
 .intro h0;have h3:0<=(1000000000:Int)^n*top:=tM (tB hp) (by lia);rcases hq with rfl | rfl
  .grind
  .grind
 .intro h0;have h3:(1000000000:Int)^n*top<=-(1000000000^n):=by
   have:=uG (show top<=-1 by lia) (tB hp)
   grind
  rcases hq with rfl | rfl
  .grind
  .grind
def acz(ly:y.length=n+1)(gy:dg (y.take n))(h0:0<=sv y)(h1:sv y<1000000000^n):y.getD n 0=0/\dg y/\sv y=dv y:=by
 have eZ:=OH (l:=y) n;rw[yK (by lia),Be gy] at eZ;have LK:=kV gy;rw[yT,xF (by lia)] at LK;have hp:(0:Int)<1000000000^n:=ycO (by decide);have GX:((1000000000^n:Nat):Int)=(1000000000:Int)^n:=by simp
 have aEH:(dv (y.take n):Int)<1000000000^n:=by lia
 have ht:y.getD n 0=0:=by
  generalize y.getD n 0=top at*
  rcases yab top 0 with h | h | h
  .have:=uG (show top<=-1 by lia) (tB hp)
   grind
  .grind
  .have:=uG (show 1<=top by lia) (tB hp)
   grind
 have hg:dg y:=by
  have e:y=y.take n++[0]:=by
   have h1:y=y.take n++y.drop n:=(we n y).symm;have h2:y.drop n=[0]:=by
    rw[yZ (by lia),xa (by lia)]
    grind
   grind
  rw[e];exact iv.2 ⟨gy,lY.2 ⟨by decide,by decide⟩⟩
 exact⟨ht,hg,Be hg⟩
end
end
end VE
end
section
namespace VE
open Go (IntKind)
def arU{l:List Int}{i:Nat}(h:i<l.length):dv (l.drop i)=(l.getD i 0).toNat+1000000000*dv (l.drop (i+1)):=by
 rw[yZ h]
 have:l[i]=l.getD i 0:=by simp_all
 rw[this];rfl
def TP(l:List Int)(i:Nat)(h:i<=l.length):dv l=dv (l.take i)+1000000000^i*dv (l.drop i):=by
 conv=>lhs;rw[<-we i l]
 rw[nj,yT,xF h]
def arV{sx sy sV:Int}{p:Int}{bo t:Int}{yn z:Int}{szy:Int}(h1:sy+t*sV=sx+p*bo)(h2:szy=sy+p*(z-yn))(h3:z=yn-bo):szy=sx-t*sV:=by grind
section
variable {P:aF}{L:Lib}
def arW(sG:Has P L 301 Bn){w:AV}{vs:List Int}{f:Int}(hw:bi w vs)(gv:dg vs){n M m:Nat}(lv:vs.length=n)(dQ:2<=n)(hnM:n<M)(MX:M<=20000000000)(hm:m=M-n)(fb:0<vs.getD (n-1) 0){U0:Nat}:
  cZ P L [8,9,10,11,12,13] Kb (fun k st=>∃(j:Nat) (us qs:List Int),st=⟨[(8,.ax 0 0 1),(9,w),(10,aa n),(11,.ax 1 0 M),(12,.ax 2 0 m),(13,aa ((j:Int)-1))],H3 qs us f,3,0⟩/\j=k/\j<=m/\us.length=M/\qs.length=m/\dg us/\dg qs/\(∀i,i<j->qs.getD i 0=0)/\
    dv us+dv qs*dv vs=U0/\dv (us.drop j)<dv vs) (fun ex st'=>∃tm us qs,st'=⟨tm,H3 qs us f,3,0⟩/\ex=.exit 2/\aj tm 8=.ax 0 0 1/\aj tm 10=aa n/\aj tm 11=.ax 1 0 M/\aj tm 12=.ax 2 0 m/\us.length=M/\qs.length=m/\dg us/\dg qs/\
    dv us+dv qs*dv vs=U0/\dv us<dv vs):=by
 apply c6;rintro k st ⟨j,us,qs,rfl,rfl,hj,lu,lq,gu,gq,hz,aO,pC⟩
 cases j with
 | zero=>
  right
  simp only[go_sem,ya,Kb,H3,show ¬(0:Int)<=((0:Nat):Int)-1 by lia];exact⟨_,_,rfl,by simp,_,us,qs,rfl,rfl,rfl,rfl,rfl,rfl,lu,lq,gu,gq,aO,by simpa using pC⟩
 | succ j=>
  left
  obtain⟨pre,eM⟩:∃p,p=us.take j:=⟨_,rfl⟩;obtain⟨x,hx⟩:∃p,p=(us.drop j).take (n+1):=⟨_,rfl⟩;obtain⟨post,fR⟩:∃p,p=us.drop (j+(n+1)):=⟨_,rfl⟩;have lp:pre.length=j:=by rw[eM,yT];lia
  have lx:x.length=n+1:=by rw[hx,yT,xY];lia
  have lpo:M=pre.length+(n+1)+post.length:=by rw[lp,fR,xY];lia
  have lD:us=pre++x++post:=by
   rw[eM,hx,fR,<-vO,xy,we,we]
  have gpo:dg post:=by
   have:=gu;rw[lD] at this;exact (iv.1 this).2
  have gpx:=by have:=gu;rw[lD] at this;exact (iv.1 this).1
  have gx:dg x:=(iv.1 gpx).2;have WB:dg pre:=(iv.1 gpx).1;have hA:=arU (l:=us) (i:=j) (by lia);have hgj:=iT gu j;have YD:us.drop j=x++post:=by rw[fR,hx,<-vO,we]
  have BP:dv (us.drop j)=dv x+1000000000^(n+1)*dv post:=by rw[YD,nj,lx]
  have MN:=kV gv;rw[lv] at MN;have aH:dv (us.drop j)<1000000000*dv vs:=by lia
  have hp0:dv post=0:=by
   rcases xj (dv post) with e | e
   .exact e
   .have h1:=yW (1000000000^(n+1)) e;rw[yi,xh] at h1;rw[xh] at BP
    lia
  rw[hp0,xC,y5] at BP;have MZ:=fun (l:List Int) (hl:dg l) (i:Nat)=>iT hl i
  obtain⟨v1,fe⟩:∃v:Nat,vs.getD (n-1) 0=v:=⟨(vs.getD (n-1) 0).toNat,by have:=MZ vs gv (n-1);lia⟩
  obtain⟨v2,rO⟩:∃v:Nat,vs.getD (n-2) 0=v:=⟨(vs.getD (n-2) 0).toNat,by have:=MZ vs gv (n-2);lia⟩
  obtain⟨u0,Ds⟩:∃v:Nat,x.getD n 0=v:=⟨(x.getD n 0).toNat,by have:=MZ x gx n;lia⟩
  obtain⟨u1,Dt⟩:∃v:Nat,x.getD (n-1) 0=v:=⟨(x.getD (n-1) 0).toNat,by have:=MZ x gx (n-1);lia⟩
  obtain⟨u2,Aw⟩:∃v:Nat,x.getD (n-2) 0=v:=⟨(x.getD (n-2) 0).toNat,by have:=MZ x gx (n-2);lia⟩
  have hl:gD x vs n v1 v2 u0 u1 u2:=⟨dQ,by lia,lx,lv,gx,gv,fe,rO,Ds,Dt,Aw,by lia,by rw[<-BP];exact aH⟩
  have QE:=hl.digit;have zc:0<dv vs:=by lia
  have oB:=xG (dv x) zc;have⟨t,e1,ht1,X0,ht3⟩:=ax2 (P:=P) (L:=L) sG hw hl (pre:=pre) (post:=post) (qs:=qs) (f:=f) (M:=M) (by lia) (by lia);rw[<-lD,lp] at e1;have YF:dv us=dv pre+1000000000^j*dv x:=by
   have:=TP us j (by lia)
   rw[BP,<-eM] at this;exact this
  have WC:∀y,dv (pre++y++post)=dv pre+1000000000^j*dv y:=fun y=>by
   rw[xy,nj,nj,hp0,xC,y5,lp]
  have jO:=abo (b:=0) YF aO;have Ay:below 3 w:=r5 hw.pu;have aW:=GI (l:=qs) (i:=j) (x:=((dv x/dv vs:Nat):Int)) (by lia);have gq':dg (qs.set j ((dv x/dv vs:Nat):Int)):=OW gq ⟨yas _,tA.2 QE⟩;rw[hz j (by lia),Int.sub_zero,Be gq,Be gq'] at aW;have aW:dv (qs.set j ((dv x/dv vs:Nat):Int))=dv qs+1000000000^j*(dv x/dv vs):=by
   have GX:((1000000000^j*(dv x/dv vs):Nat):Int)=(1000000000:Int)^j*((dv x/dv vs:Nat):Int):=by rw[xM];simp
   rw[<-GX] at aW;exact yaj (by rw[ybb,ybb,aW,yaT])
  have fin:∀(s':St) (x':List Int),bk [8,9,10,11,12,13] s'=⟨[(8,.ax 0 0 1),(9,w),(10,aa n),(11,.ax 1 0 M),(12,.ax 2 0 m),(13,aa ((j:Int)-1))],H3 (qs.set j ((dv x/dv vs:Nat):Int)) (pre++x'++post) f,3,0⟩->x'.length=n+1->dg x'->sv x'=((dv x%dv vs:Nat):Int)->
    ∃(j':Nat) (us qs:List Int),bk [8,9,10,11,12,13] s'=⟨[(8,.ax 0 0 1),(9,w),(10,aa n),(11,.ax 1 0 M),(12,.ax 2 0 m),(13,aa ((j':Int)-1))],H3 qs us f,3,0⟩/\j'=j/\j'<=m/\us.length=M/\qs.length=m/\dg us/\dg qs/\(∀i,i<j'->qs.getD i 0=0)/\dv us+dv qs*dv vs=U0/\dv (us.drop j')<dv vs:=fun s' x' hc YE RP MQ=>by
   have ahq:dv x'=dv x%dv vs:=by rw[Be RP] at MQ;exact yaj MQ
   refine⟨j,_,_,hc,rfl,by lia,by rw[pc,YE];lia,by simp[lq],iv.2 ⟨iv.2 ⟨WB,RP⟩,gpo⟩,gq',fun i hi=>by rw[ael (by lia)];exact hz i (by lia),?_,?_⟩
   .rw [WC,ahq,aW];exact jO
   .rw [xy,List.drop_left' lp,nj,hp0,xC,y5,ahq];exact oB
  have ahr:=fun (z:Int) (hp:Hp) (ct:Nat)=>Dz (hp:=hp) (ct:=ct) (id:=2) (v:=z) (ex:=ycZ) (l:=qs) (o:=j) (by lia)
  have svx:=Be gx;have svv:=Be gv;simp only[H3] at e1;simp only[go_sem,ya,Kb,H3,show ((j+1:Nat):Int)-1=(j:Int) by lia,show (0:Int)<=(j:Int) by lia,afG,e1];generalize nQ:D P L (.loop _ Gs) _=qq;obtain⟨ex,s,rfl,tm,bo,y,rfl,rfl,t8,t9,t10,t11,t12,t13,t14,t15,ly,gy,jY,hv⟩:=bH nQ (arQ (P:=P) (L:=L) (x:=x) (pre:=pre) (post:=post) (qs:=qs) (f:=f) (m:=m) (M:=M) hw lv lpo (by lia) gv (t:=t) (by lia) n) ⟨0,0,x,by
   rw[lD,lp]
   simp only[go_sem,ya,yb,ap,az hw.pu]<;>rfl,by lia,lx,gx,by lia,by simp[sv]⟩
  rw[lp] at t13;have hyn:=iT gy n;have Y2:=zL (l:=pre++y++post) (o:=pre.length+n) (by rw[pc];lia)
  rw[Cw (by lia),lp] at Y2;obtain⟨z,Y3⟩:∃z,z=y.getD n 0-bo:=⟨_,rfl⟩;have G1:=fun (hp:Hp) (ct:Nat)=>Dz (hp:=hp) (ct:=ct) (id:=1) (v:=z) (ex:=yda) (l:=pre++y++post) (o:=j+n) (by rw[pc];lia)
  have px:=O3 (pre:=pre) (x:=y) (post:=post) (i:=n) z (by lia);rw[lp] at px;rw[px] at G1;have mV:=GI (l:=y) (i:=n) (x:=z) (by lia);have PR:=arV hv mV Y3;have Dr:(y.set n z).length=n+1:=by simp[ly]
  have Fp:dg ((y.set n z).take n):=by
   have:(y.set n z).take n=y.take n:=by rw[yaA,yax (by simp;lia)]
   rw[this];exact DV gy n
  rw[svx,svv] at PR;have⟨s0,s1⟩:=arT zc Dr Fp PR X0 ht3;have eg:(y.set n z).getD n 0=z:=ano (by lia);rw[eg] at s0 s1;have Y4:=zL (l:=pre++y.set n z++post) (o:=pre.length+n) (by rw[pc];lia)
  rw[Cw (by lia),lp,eg] at Y4;generalize y.set n z=y1 at*
  have hpn:((10^9:Int))=1000000000:=by decide
  by_cases fD:z<0
  .have ⟨f1,f2⟩:=s1 fD
   simp only[go_sem,ya,yb,yi,ap,az hw.pu,t8,t9,t10,t11,t12,t13,t14,t15,show (j:Int)+(n:Int)=((j+n:Nat):Int) from rfl,wrapN (n:=j+n) (by lia),di 1 0 (show j+n<M by lia),yd,Y2,<-Y3,wrap64 (n:=z) (by lia) (by lia),G1,Y4,fD];generalize EW:D P L (.loop _ Ka) _=Yy;obtain⟨ex,s,rfl,pL,c,y2,rfl,rfl,t8,t9,t10,t11,t12,t13,t14,t19,YA,RN,afT,hc,c9⟩:=bH EW (arS (P:=P) (L:=L) (y0:=y1) (pre:=pre) (post:=post) (qs:=qs) (f:=f) (m:=m) (M:=M) (t:=(t:Int)-1) (top:=z) hw lv lpo (by lia) gv n) ⟨0,0,y1,by
    rw[lp,wrap64 (n:=(t:Int)-1) (by lia) (by lia)]
    simp only[go_sem,ya,yb,ap,az hw.pu]<;>rfl,by lia,Dr,Fp,eg,by lia,by simp[sv]⟩
   rw[lp] at t13;have ahs:=zL (l:=pre++y2++post) (o:=pre.length+n) (by rw[pc];lia)
   rw[Cw (by lia),lp,afT] at ahs;have Hj:=fun (hp:Hp) (ct:Nat)=>Dz (hp:=hp) (ct:=ct) (id:=1) (v:=z+c) (ex:=yda) (l:=pre++y2++post) (o:=j+n) (by rw[pc];lia)
   have Pz:=O3 (pre:=pre) (x:=y2) (post:=post) (i:=n) (z+c) (by lia);rw[lp] at Pz;rw[Pz] at Hj;have BG:=GI (l:=y2) (i:=n) (x:=z+c) (by lia);rw[afT,show z+c-z=c by lia,c9,svv,f2] at BG;have MO:(y2.set n (z+c)).length=n+1:=by simp[YA]
   have RO:dg ((y2.set n (z+c)).take n):=by
    have:(y2.set n (z+c)).take n=y2.take n:=by rw[yaA,yax (by simp;lia)]
    rw[this];exact RN
   have Y5:((dv x%dv vs:Nat):Int)<1000000000^n:=by
    have GX:((1000000000^n:Nat):Int)=(1000000000:Int)^n:=by simp
    rw[<-GX];lia
   have⟨g1,g2,g3⟩:=acz MO RO (by rw[BG];lia) (by rw[BG];exact Y5)
   generalize y2.set n (z+c)=y3 at*
   have ft:(t:Int)-1=((dv x/dv vs:Nat):Int):=by rw[f1];lia
   simp only[go_sem,ya,yb,yi,ap,az hw.pu,t8,t9,t10,t11,t12,t13,t14,t19,show (j:Int)+(n:Int)=((j+n:Nat):Int) from rfl,wrapN (n:=j+n) (by lia),di 1 0 (show j+n<M by lia),yd,ahs,wrap64 (n:=z+c) (by lia) (by lia),Hj,di 2 0 (show j<m by lia),ahr];rw[ft];refine⟨_,j,rfl,by lia,fin _ y3 ?_ MO g2 BG⟩;rw[wrap64 (by lia) (by lia)];simp only[go_sem,ya,yb,ap,az hw.pu]<;>rfl
  .have ⟨f1,f2⟩:=s0 fD;have Y5:((dv x%dv vs:Nat):Int)<1000000000^n:=by
    have GX:((1000000000^n:Nat):Int)=(1000000000:Int)^n:=by simp
    rw[<-GX];lia
   have⟨g1,g2,g3⟩:=acz Dr Fp (by rw[f2];lia) (by rw[f2];exact Y5)
   simp only[go_sem,ya,yb,yi,ap,az hw.pu,t8,t9,t10,t11,t12,t13,t14,t15,show (j:Int)+(n:Int)=((j+n:Nat):Int) from rfl,wrapN (n:=j+n) (by lia),di 1 0 (show j+n<M by lia),yd,Y2,<-Y3,wrap64 (n:=z) (by lia) (by lia),G1,Y4,fD,di 2 0 (show j<m by lia),ahr];rw[f1];refine⟨_,j,rfl,by lia,fin _ y1 ?_ Dr g2 f2⟩;rw[wrap64 (by lia) (by lia)];simp only[go_sem,ya,yb,ap,az hw.pu]<;>rfl
end
end VE
end
section
namespace VE
open Go (IntKind)
section
variable {P:aF}{L:Lib}
def avG(h:Has P L 292 Bm){n:Nat}(hn:n<1000000000):ab P L 292 [aa n,aa 9] (.str (jv 9 n)):=by
 have key:=iA P L [0,1,5] oX
  (fun k st=>∃(m:Nat) (s:List Nat),st=⟨[(0,aa m),(1,aa 9),(5,.str s)],[],0,0⟩/\s.length+k=9/\m<10^k/\jv 9 n=jv k m++s)
  (fun ex st=>∃tm ct,st=⟨tm,[],ct,0⟩/\ex=.exit 0/\aj tm 5=.str (jv 9 n)) ?_
 .unfold ab;rw[aE h];simp only[go_sem,Bm];generalize hq:D P L (.loop _ oX) _=q;obtain⟨ex,st,rfl,tm,ct,rfl,rfl,h2⟩:=bH hq (key 9) ⟨n,[],by simp only[go_sem,ya,ap]<;>rfl,rfl,by lia,by simp⟩
  simp only[go_sem,ap,h2]
 .rintro k st ⟨m,s,rfl,hk,hm,hs⟩
  cases k with
  | zero=>
   right
   have BR:m=0:=by simpa using hm
   subst BR;simp only[go_sem,ya,oX,show ¬(0:Int)<((0:Nat):Int) by lia,show ¬((s.length:Nat):Int)<9 by lia];refine⟨_,_,rfl,by simp,_,_,rfl,rfl,?_⟩;rw[hs];rfl
  | succ k=>
   left
   have hr:((m:Int)).tmod 10=((m%10:Nat):Int):=by rw[xO (by lia)];rfl
   have hq:((m:Int)).tdiv 10=((m/10:Nat):Int):=by rw[xP (by lia)];rfl
   have hd:=aas (r:=m%10) (by lia);have Mi:m<10000000000:=yP hm (by simpa using y9 (show 0<10 by decide) (show k+1<=10 by lia));have fin:∃s',D P L oX ⟨[(0,aa m),(1,aa 9),(5,.str s)],[],0,0⟩=FL (.normal,s')/\bk [0,1,5] s'=⟨[(0,aa (m/10:Nat)),(1,aa 9),(5,.str ([48+m%10]++s))],[],0,0⟩:=by
    by_cases hc:(0:Int)<m
    .simp only [go_sem,ya,yb,oX,hc,fC _ _ _ (show (10:Int)≠0 by decide),eK _ _ _ (show (10:Int)≠0 by decide),hr,hq,wrapN (n:=m%10+1) (by lia),wrap64 (n:=((m/10:Nat):Int)) (by lia) (by lia),eP,dM,show ((m%10:Nat):Int)+1=((m%10+1:Nat):Int) from rfl,hd,gX (a:=[48+m%10]) (b:=s) (by simp;lia)]
     exact⟨_,rfl,by simp only[go_sem,ya,ap]⟩
    .simp only [go_sem,ya,yb,oX,hc,show ((s.length:Nat):Int)<9 by lia,fC _ _ _ (show (10:Int)≠0 by decide),eK _ _ _ (show (10:Int)≠0 by decide),hr,hq,wrapN (n:=m%10+1) (by lia),wrap64 (n:=((m/10:Nat):Int)) (by lia) (by lia),eP,dM,show ((m%10:Nat):Int)+1=((m%10+1:Nat):Int) from rfl,hd,gX (a:=[48+m%10]) (b:=s) (by simp;lia)]
     exact⟨_,rfl,by simp only[go_sem,ya,ap]⟩
   have⟨s',f1,f2⟩:=fin;exact⟨s',k,f1,by lia,m/10,_,f2,by simp;lia,by rw[xh] at hm;lia,by rw[hs];simp[jv]⟩
end
end VE
end
section
namespace VE
open Go (IntKind)
def last_pos{l:List Int}(hd:dg l)(hn:nz l)(h:0<l.length):0<l.getD (l.length-1) 0:=by
 rcases snoc l with rfl | ⟨m,a,rfl⟩
 .grind
 .have e:(m++[a]).getD ((m++[a]).length-1) 0=a:=by simp_all
  have ha:=lY.1 (iv.1 hd).2;by_cases h0:a=0
  .subst h0
   have:=NQ m
   have e:=congrArg wb hn;rw[Jc] at e
   grind
  .lia
section
variable {P:aF}{L:Lib}
def avH(rk:Has P L 292 Bm){neg:Bool}{w:AV}{l:List Int}(hw:bi w l)(hd:dg l)(hn:nz l)(hl:l.length<=20000000000):
  cZ P L [1,3,4] J8 (fun k s=>∃(j:Nat) (t:List Nat),s=⟨[(1,.ptr 0 0),(3,.str t),(4,aa ((j:Int)-1))],[(0,.cells ycZ ycZ ycZ 2 [.bool neg,w])],1,0⟩/\j=k/\j<l.length/\0<dv (l.drop j)/\t=aC (dv (l.drop j))/\t.length<=9*(l.length-j)) (fun ex s'=>∃tm,s'=⟨tm,[(0,.cells ycZ ycZ ycZ 2 [.bool neg,w])],1,0⟩/\ex=.exit 0/\aj tm 1=.ptr 0 0/\aj tm 3=.str (aC (dv l))/\(aC (dv l)).length<=180000000000):=by
 apply c6;rintro k s ⟨j,t,rfl,rfl,hj,pH,ht,YV⟩
 cases j with
 | zero=>
  right
  rw[ye] at ht;simp only[go_sem,ya,J8,show ¬(0:Int)<=((0:Nat):Int)-1 by lia];exact⟨_,_,rfl,by simp,_,rfl,rfl,rfl,by rw[<-ht];simp only[go_sem,ya],by rw[<-ht];lia⟩
 | succ i=>
  left
  have hi:i<l.length:=by lia
  obtain⟨x,hx⟩:∃x,x=l.getD i 0:=⟨_,rfl⟩;have e1:=su hw hi;have gx:=iT hd i;rw[<-hx] at e1 gx;obtain⟨m,rfl⟩:∃m:Nat,x=m:=⟨x.toNat,by lia⟩;have e2:=avG rk (n:=m) (by lia);unfold ab at e2;have hlp:=TL 9 m;have jW:dv (l.drop i)=dv (l.drop (i+1))*10^9+m:=by
   have:l.drop i=(m:Int)::l.drop (i+1):=by
    rw[yZ hi,hx];simp[xd,xo hi]
   rw[this];simp only[dv,xV];lia
  have az5:aC (dv (l.drop i))=t++jv 9 m:=by
   rw[jW,N8 9 _ m pH (by lia),ht]
  simp only[go_sem,ya,J8,show ((i+1:Nat):Int)-1=(i:Int) by lia,show (0:Int)<=(i:Int) by lia,aT,yd,df,e1,e2,gX (a:=t) (b:=jv 9 m) (by lia)];refine⟨_,i,rfl,by lia,i,t++jv 9 m,?_,rfl,by lia,by lia,az5.symm,by simp;lia⟩
  rw[wrap64 (by lia) (by lia)];simp only[go_sem,ya,yb,ap]<;>rfl
def W7(h:Has P L 282 Ld)(rk:Has P L 292 Bm){v:AV}{n:Int}{K:Nat}(hK:K<=18000000000)(hv:lk v n)(hn:n.natAbs<1000000000^K):ab P L 282 [v] (.str (aV n))/\(aV n).length<=180000000001:=by
 obtain⟨w,l,rfl,hw,hd,hz,pY⟩:=hv;have hl:=xi (kA hd hz (by rw[pY];exact hn)) hK
 by_cases h0:l=[]
 .subst h0;have pQ:n=0:=by simp[dv] at pY;lia
  subst pQ;refine⟨?_,by decide⟩;unfold ab;rw[aE h];simp only[go_sem,ya,yb,Ld,aQ,hw.len,hw.pu,hw.one,aT,yd,df,yJ,show ((0:Nat):Int)=(0:Int) from rfl,yM];rfl
 .have pH:0<l.length:=tg.2 h0;obtain⟨x,hx⟩:∃x,x=l.getD (l.length-1) 0:=⟨_,rfl⟩;have e1:=su hw (show l.length-1<l.length by lia);have gx:=iT hd (l.length-1);have gp:=last_pos hd hz pH;rw[<-hx] at e1 gx gp;obtain⟨m,rfl⟩:∃m:Nat,x=m:=⟨x.toNat,by lia⟩;have e2:=Wv rk (n:=m) (by lia);have jW:dv (l.drop (l.length-1))=m:=by
   rw[yZ (show l.length-1<l.length by lia),xa (by lia)]
   have:l[l.length-1]=(m:Int):=by rw[hx];simp[xd,xo (show l.length-1<l.length by lia)]
   simp[dv,this]
  have h9:(aC m).length<=9:=zt (k:=8) (by lia);have fin:∀neg:Bool,bL P L (D P L) 282 [.agg [.bool neg,w]]=FL (.str ((if neg=ycZ then [45] else [])++aC (dv l)))/\(aC (dv l)).length<=180000000000:=fun neg=>by
   rw[aE h]
   simp only[go_sem,ya,yb,Ld,aQ,hw.len,hw.pu,hw.one,aT,yd,df,show ¬(l.length:Int)=0 by lia,show (l.length:Int)-1=((l.length-1:Nat):Int) by lia,wrapN (n:=l.length-1) (by lia),e1,e2];generalize hq:D P L (.loop _ J8) _=q;obtain⟨ex,s,rfl,tm,rfl,rfl,t1,t3,hlen⟩:=bH hq (avH (P:=P) (L:=L) rk (neg:=neg) hw hd hz (by lia) (l.length-1)) ⟨l.length-1,aC m,by
    rw[show (l.length:Int)-2=((l.length-1:Nat):Int)-1 by lia,wrap64 (by lia) (by lia)]
    simp only[go_sem,ya,yb,ap]<;>rfl,rfl,by lia,by rw[jW];lia,by rw[jW],by lia⟩
   refine⟨?_,hlen⟩
   cases neg with
   | true=>
    simp only[go_sem,ya,ap,t1,t3,aT,yd,gX (a:=[45]) (b:=aC (dv l)) (by simp;lia),xA]
   | false=>
    simp only[go_sem,ya,ap,t1,t3,aT,yd];rfl
  have⟨f1,f2⟩:=fin (decide (n<0));rw[pY] at f1 f2;simp only[vU] at f1;rw[oQ] at f1;refine⟨f1,?_⟩;rw[<-oQ]
  split<;>simp<;>lia
structure Rb(P:aF)(L:Lib):Prop where
 az6:Has P L 262 K7
 CX:Has P L 272 Lc
 aht:Has P L 274 P8
 ahu:Has P L 275 P9
 az7:Has P L 277 EM
 az8:Has P L 280 pq
 ahv:Has P L 281 Qb
 W8:Has P L 282 Ld
 ahw:Has P L 288 Qe
 LM:Has P L 289 zQ
 Bq:Has P L 290 Ha
 Ww:Has P L 291 Lg
 rk:Has P L 292 Bm
 mi:Has P L 293 CS
 jw:Has P L 294 CT
 W5:Has P L 295 Lh
 pG:Has P L 296 zR
 ahx:Has P L 298 Qf
 rq:Has P L 299 CU
 cN:Has P L 300 mP
 oC:Has P L 302 zS
structure Ras(P:aF)(L:Lib):Prop extends Rb P L where
 ahy:Has P L 264 K8
 az9:Has P L 268 La
 aAa:Has P L 271 We
 aAb:Has P L 276 q9
 LO:Has P L 278 Qa
 aAc:Has P L 279 G9
 QN:Has P L 297 Li
structure Ra(P:aF)(L:Lib):Prop extends Ras P L where
 ahz:Has P L 267 K9
end
end VE
end
section
namespace VE
open Go (IntKind)
section
variable {v w:AV}{a b:List Int}
section
variable {P:aF}{L:Lib}
def arX{vs:List Int}{f:Int}(hv:bi v a)(hw:bi w vs){n:Nat}(la:a.length<=9000000000){A:Nat}:
  cZ P L [0,8,9,10,11] J9 (fun k st=>∃us:List Int,st=⟨[(0,v),(8,.ax 0 0 1),(9,w),(10,aa n),(11,.ax 1 0 us.length)],[(1,.cells ycZ ycZ yda 1 (us.map aa)),(0,.cells yda ycZ ycZ 1 [aa f])],2,0⟩/\us.length+k=a.length+1/\dg us/\dv us=A) (fun ex st'=>∃tm us,st'=⟨tm,[(1,.cells ycZ ycZ yda 1 (us.map aa)),(0,.cells yda ycZ ycZ 1 [aa f])],2,0⟩/\ex=.exit 0/\aj tm 8=.ax 0 0 1/\aj tm 9=w/\aj tm 10=aa n/\aj tm 11=.ax 1 0 (a.length+1)/\us.length=a.length+1/\dg us/\dv us=A):=by
 apply c6;rintro k st ⟨us,rfl,hk,gu,aO⟩;have ea:((a.length:Nat):Int)+1=((a.length+1:Nat):Int):=rfl;by_cases hi:us.length<a.length+1
 .left
  simp only[go_sem,ya,yb,yk,yi,J9,hv.len,ea,wrapN (n:=a.length+1) (by lia),show ((us.length:Nat):Int)<((a.length+1:Nat):Int) by lia]
  rw[fP (ex:=yda) (pu:=ycZ) (cs:=us.map aa) rfl (by simp) (by lia) (by lia) (by decide) rfl];refine⟨_,k-1,rfl,by lia,us++[0],?_,by simp;lia,iv.2 ⟨gu,lY.2 (by decide)⟩,by rw[nj];simp[dv,aO]⟩
  rw[xb,yN];simp only[go_sem,ya,yb,ap,az hv.pu,az hw.pu]<;>rfl
 .right
  have hl:us.length=a.length+1:=by lia
  rw[hl]
  simp only[go_sem,ya,J9,hv.len,ea,wrapN (n:=a.length+1) (by lia),show ¬((a.length+1:Nat):Int)<((a.length+1:Nat):Int) by lia];exact⟨_,_,rfl,by simp,_,us,rfl,rfl,rfl,rfl,rfl,rfl,hl,gu,aO⟩
end
def aem:∀l:List Int,cd (l.map aa)=ycZ
 | []=>rfl
 | a::r=>by rw[y7,abh,aem r];rfl
def aen:∀l:List Int,aG (l.map aa)=ycZ
 | []=>rfl
 | a::r=>by rw[y7,aG,aen r];rfl
def arY{hp:Hp}{ct:Nat}{e:Bool}{us:List Int}{o:Obj}(h:us.length<=100000000000):
  ES ((1,.cells ycZ ycZ ycZ 1 [])::(0,o)::hp) ct 1 8 (.ax 1 0 0) (lX ((1,.cells ycZ ycZ ycZ 1 [])::(0,o)::hp) 1 (.au e us.length (us.map aa)))=FL (.ax ct 0 us.length,(ct,.cells ycZ ycZ yda 1 (us.map aa))::cT ((1,.cells ycZ ycZ ycZ 1 [])::(0,o)::hp) 1,ct+1):=by
 have h1:lX ((1,.cells ycZ ycZ ycZ 1 [])::(0,o)::hp) 1 (.au e us.length (us.map aa))=FL (us.length,us.map aa):=by
  simp[lX]
 rw[h1,fP (cs:=[]) (pu:=ycZ) (ex:=ycZ) rfl (by simp) (by lia) (by lia) (by decide) (aem us),aen,yd];rfl
def avI{l:List Int}(hd:dg l)(hn:nz l)(h:0<l.length):1000000000^(l.length-1)<=dv l:=Pr hn hd (fun e=>by subst e;simp at h)
def apC{n top f V:Nat}(hf:f=1000000000/(top+1))(Y1:0<top)(ht:top<1000000000)(h1:V<1000000000^(n-1)*(top+1))(hn:0<n):0<f/\f<1000000000/\V*f<1000000000^n:=by
 have h2:f*(top+1)<=1000000000:=by rw[hf];exact Nat.div_mul_le_self _ _
 have h3:0<f:=by rw[hf];exact ycM (by lia) (by lia)
 refine⟨h3,?_,?_⟩
 .have:=yW f (show 2<=top+1 by lia)
  lia
 .have e1:=xZ h1 h3;have e2:=yW (1000000000^(n-1)) h2;rw[<-xh,show (n-1).succ=n by lia] at e2
  grind
section
variable {P:aF}{L:Lib}
def avJ(h:Has P L 289 zQ)(mi:Has P L 293 CS)(rq:Has P L 299 CU)(cN:Has P L 300 mP)(sG:Has P L 301 Bn)(hv:bi v a)(hw:bi w b)(ha:dg a)(hb:dg b)(na:nz a)(nb:nz b)(la:a.length<=8000000000)(lb:2<=b.length)(ec:ab P L 296 [v,w] (aa (dU (dv a) (dv b))))(hc:dv b<=dv a):
  ∃q r lq lr,ab P L 289 [v,w] (.aw [q,r])/\bi q lq/\bi r lr/\dg lq/\nz lq/\dg lr/\nz lr/\dv lq=dv a/dv b/\dv lr=dv a%dv b:=by
 have eC:¬dU (dv a) (dv b)<0:=by unfold dU;rw[yt (by lia)];split<;>decide
 have ax3:=avI hb nb (by lia);have hba:b.length<=a.length:=by
  have:=kV ha
  have h1:1000000000^(b.length-1)<1000000000^a.length:=by lia
  have:=(uh (show 1<1000000000 by decide)).1 h1
  lia
 obtain⟨n,hn⟩:∃n,n=b.length:=⟨_,rfl⟩;have aAd:=iT hb (n-1);have qY:=last_pos hb nb (by lia);rw[<-hn] at qY;obtain⟨top,pC⟩:∃v:Nat,b.getD (n-1) 0=v:=⟨(b.getD (n-1) 0).toNat,by lia⟩;have ahA:=su hw (i:=n-1) (by lia);rw[pC] at aAd qY ahA;have hbt:=qG (l:=b) (n-1);rw[show n-1+1=n by lia,yK (by lia),pC,xV] at hbt;have ax4:=kV (DV hb (n-1));rw[yT,xF (by lia)] at ax4;obtain⟨f,hf⟩:∃f,f=1000000000/(top+1):=⟨_,rfl⟩;have⟨FA,hfB,hfV⟩:=apC (n:=n) (V:=dv b) hf (by lia) (by lia) (by rw[xE,yi];lia) (by lia)
 have hIf:bi (.au ycZ 1 [aa f]) [(f:Int)]:=kz ycZ [(f:Int)];have gf:dg [(f:Int)]:=lY.2 (by lia);have vf:dv [(f:Int)]=f:=by simp[dv]
 have⟨v',vs,e1,eS,hsv,Fs,MR,Az⟩:=W4 mi cN hw hIf hb gf (by lia) (by simp);have⟨u',DB,e2,j0,Au,HR,nus,M0⟩:=W4 mi cN hv hIf ha gf (by lia) (by simp);rw[vf] at Az M0;have zc:0<dv b:=by have:=ybM (n:=b.length-1) (show 0<1000000000 by decide);lia
 have BQ:vs.length=n:=by
  have h1:vs.length<=n:=kA Fs MR (by rw[Az];exact hfV)
  have h2:dv b<=dv vs:=by rw[Az];exact yaJ _ FA
  have h3:=kV Fs;have h4:1000000000^(n-1)<1000000000^vs.length:=by rw[hn];lia
  have:=(uh (show 1<1000000000 by decide)).1 h4
  lia
 have RQ:DB.length<=a.length+1:=by
  refine kA HR nus ?_;rw[M0,xh];exact yai (kV ha) hfB
 have ahB:0<DB.length:=by
  rcases xj DB.length with e | e
  .have h1:0<dv a*f:=vt (by lia) FA;rw[yL e] at M0;simp only[dv] at M0;lia
  .exact e
 have fb:0<vs.getD (n-1) 0:=by
  have:=last_pos Fs MR (by lia)
  rwa[BQ] at this
 obtain⟨m,hm⟩:∃m,m=a.length+1-n:=⟨_,rfl⟩;have bZ:∀ct:Nat,Bp ct 1 8 [.int .i64 0] (FL m) (FL m)=FL (.ax ct 0 m,.cells ycZ ycZ ycZ 1 ((yF m (0:Int)).map aa)):=fun ct=>by
  rw[Kt (sz:=1) (by lia) (by lia) (by rfl) (by rfl),SK];rfl
 obtain⟨e,rfl⟩:∃e,u'=.au e DB.length (DB.map aa):=by
  rcases j0 with ⟨rfl,h0⟩ | ⟨e,rfl⟩
  .rw [List.map_eq_nil_iff] at h0;rw[h0] at ahB;simp at ahB
  .exact ⟨e,by rw[yU]⟩
 have VA:∀us:List Int,us.length=a.length+1->dv us=dv a*f->dv (us.drop m)<dv vs:=fun us hl hd=>by
  have e1:=TP us m (by lia);have e2:=kV ha;have e3:=xZ e2 FA;have e4:1000000000^a.length=1000000000^m*1000000000^(n-1):=by rw[<-xD];congr 1;lia
  rw[<-hd,e4,xe] at e3;have e5:1000000000^m*dv (us.drop m)<1000000000^m*(1000000000^(n-1)*f):=by lia
  refine yP (Nat.lt_of_mul_lt_mul_left e5) ?_;rw[Az,hn];exact yI _ ax3
 have jQ:∃us qs,(us.length=a.length+1/\qs.length=m/\dg us/\dg qs/\dv us+dv qs*dv vs=dv a*f/\dv us<dv vs)/\
   ∃q1 r1 lr,bi q1 (dY qs)/\bi r1 lr/\dg lr/\nz lr/\dv lr=dv (us.take n)/f/\ab P L 289 [v,w] (.aw [q1,r1]):=by
  unfold ab at ec e1 e2;unfold ab;rw[aE h];have LB:IntKind.wrap .i64 ((1000000000:Int).tdiv ((top+1:Nat):Int))=(f:Int):=by
   rw[xP (by decide),show (1000000000:Int)/((top+1:Nat):Int)=((1000000000/(top+1):Nat):Int) from rfl,<-hf,wrap64 (by lia) (by lia)]
  simp only[go_sem,ya,yb,yz,yk,yi,zQ,hv.ai,hw.len,hw.ai,ec,eC,show ¬(n:Int)=1 by lia,<-hn,show (n:Int)-1=((n-1:Nat):Int) by lia,wrapN (n:=n-1) (by lia),ahA,show ((top:Nat):Int)+1=((top+1:Nat):Int) from rfl,wrapN (n:=top+1) (by lia),eK _ _ _ (show ((top+1:Nat):Int)≠0 by lia),LB,e1,hsv,eS.len,BQ,e2,Au,arY (us:=DB) (e:=e) (by lia)];generalize BL:D P L (.loop _ J9) _=q0;obtain⟨ex,st,rfl,tm,us,rfl,rfl,t8,t9,t10,t11,lu,gu,vu⟩:=bH BL (arX (P:=P) (L:=L) (f:=(f:Int)) (n:=n) (A:=dv a*f) hv eS (by lia) (a.length+1-DB.length)) ⟨DB,by
   simp only[go_sem,ya,yb,ap,az hv.pu,az eS.pu]<;>rfl,by lia,HR,M0⟩
  have em:((a.length+1:Nat):Int)-(n:Int)=(m:Int):=by lia
  have em1:(m:Int)-1=((m-1:Nat):Int):=by lia
  simp only[go_sem,ya,yb,ap,az eS.pu,t8,t9,t10,t11,em,wrapN (n:=m) (by lia),bZ,em1,wrapN (n:=m-1) (by lia)];generalize fX:D P L (.loop _ Kb) _=q1;obtain⟨ex,st,rfl,pL,DC,qs,rfl,rfl,t8,t10,t11,t12,lu1,MU,gu1,gq1,aO,aH⟩:=bH fX (arW (P:=P) (L:=L) sG (f:=(f:Int)) eS Fs BQ (by lia) (show n<a.length+1 by lia) (by lia) (by lia) fb (U0:=dv a*f) m) ⟨m,us,yF m 0,by
   rw[show ((m-1:Nat):Int)=(m:Int)-1 by lia]
   simp only[go_sem,ya,yb,ap,az eS.pu]<;>rfl,rfl,yu _,lu,by simp,gu,ab8 m,fun i _=>aaA m i,by rw[ab7,wq,y5,vu],VA us lu vu⟩
  have mR:∀(hp:Hp) tm (y:X),ak hp 1=FL (.cells ycZ ycZ yda 1 (DC.map aa))->cV tm (a.length+1) (FL y)=FL n->fJ hp (.sl 1) (.ax 1 0 (a.length+1)) tm FM (FL y)=FL (.ax 1 0 n):=fun hp tm y h1 h2=>acn h1 h2 (by lia) (by lia)
  obtain⟨e',MT⟩:∃e',∀hp:Hp,mQ 0 n (FL (yda,1,DC.map aa,hp))=FL (.au e' n ((DC.take n).map aa),hp):=by
   refine⟨yda&&yO 0 1&&yq n (DC.map aa).length,fun hp=>?_⟩;simp only[mQ,yd,yi,slice,ye,<-List.map_take];rw[yB (by simp;lia)]
   rfl
  have ltk:(DC.take n).length=n:=by rw[yT];lia
  have iL:=kz e' (DC.take n);rw[ltk] at iL;have⟨r0,f1,jU,aAe⟩:=CY cN iL (by lia);have⟨r1,lr,f2,ej,aEY,ax5,dr,nr,vr⟩:=ahp rq cN jU (Ce (DV gu1 n)) (by have:=NQ (DC.take n);lia) FA hfB
  have MS:=kz ycZ qs;rw[MU] at MS;have⟨q1,f3,fX,aAf⟩:=CY cN MS (by lia);rw[AP] at vr;unfold ab at f1 f2 f3;refine⟨DC,qs,⟨lu1,MU,gu1,gq1,aO,aH⟩,q1,r1,lr,fX,ej,dr,nr,vr,?_⟩;have pW:jm 1 0 (AV.ax 0 0 1)=FL (.ptr 0 0):=di 0 0 (show 0<1 by lia)
  simp only[go_sem,ya,yb,ap,t8,t10,t11,t12,mR,dM,MT,f1,aAe,jU.ai,pW,f2,ax5,fun hp=>kR (hp:=hp) (k:=m) (sz:=1) (cs:=qs.map aa) ycZ (by simp[MU]) (by decide),f3,aAf];rcases fX with ⟨rfl,_⟩ | ⟨_,rfl⟩<;>rcases ej with ⟨rfl,_⟩ | ⟨_,rfl⟩<;>rfl
 have⟨us,qs,⟨lu,lq,gu,gq,aO,aH⟩,q1,r1,lr,fX,ej,dr,nr,vr,e⟩:=jQ;rw[Az] at aO aH;have LB:dv qs=dv a/dv b:=by
  rw[<-Nat.mul_div_mul_right _ _ FA,<-aO,ybK,xn,tY (vt zc FA),xW aH,y5]
 have RS:dv us=(dv a%dv b)*f:=by
  rw[<-Nat.mul_mod_mul_right,<-aO,ybK,xn (dv qs),tZ,yS aH]
 have lD:=TP us n (by lia);have ij:dv (us.drop n)=0:=by
  rcases xj (dv (us.drop n)) with h0 | h0
  .exact h0
  .have:=yW (1000000000^n) h0
   lia
 rw[ij,xC,y5] at lD;rw[<-lD,RS,uX _ FA] at vr;exact⟨q1,r1,_,lr,e,fX,ej,Ce gq,F9 _,dr,nr,by rw[AP,LB],vr⟩
def afU(h:Has P L 289 zQ)(mi:Has P L 293 CS)(pG:Has P L 296 zR)(rq:Has P L 299 CU)(cN:Has P L 300 mP)(sG:Has P L 301 Bn)(hv:bi v a)(hw:bi w b)(ha:dg a)(hb:dg b)(na:nz a)(nb:nz b)(la:a.length<=8000000000)(lb:b.length<=8000000000)(h0:0<dv b):
  ∃q r lq lr,ab P L 289 [v,w] (.aw [q,r])/\bi q lq/\bi r lr/\dg lq/\nz lq/\dg lr/\nz lr/\dv lq=dv a/dv b/\dv lr=dv a%dv b:=by
 by_cases hl:b.length<=1
 .exact azZ h pG rq cN hv hw ha hb na nb (by lia) hl h0
 have ec:=W3 pG hv hw ha hb na nb (by lia) (by lia);by_cases hc:dv a<dv b
 .unfold ab at ec;have eC:dU (dv a) (dv b)= -1:=by unfold dU;rw[yD hc]
  rw[eC] at ec;refine⟨.ah,v,[],a,?_,zq,hv,rfl,rfl,ha,na,?_,?_⟩
  .unfold ab;rw[aE h];simp only[go_sem,ya,zQ,hv.ai,hw.ai,ec,show (-1:Int)<0 by decide];rcases hv with ⟨rfl,_⟩ | ⟨e,rfl⟩<;>rfl
  .rw [xW hc];rfl
  .rw [yS hc]
 .exact avJ h mi rq cN sG hv hw ha hb na nb la (by lia) ec (by lia)
def afV(h:Has P L 275 P9)(LM:Has P L 289 zQ)(mi:Has P L 293 CS)(pG:Has P L 296 zR)(rq:Has P L 299 CU)(cN:Has P L 300 mP)(sG:Has P L 301 Bn)(hv:bi v a)(hw:bi w b)(ha:dg a)(hb:dg b)(na:nz a)(nb:nz b)(la:a.length<=8000000000)(lb:b.length<=8000000000):
  ∃r l,ab P L 275 [v,w] r/\bi r l/\dg l/\nz l/\dv l=wJ (dv a) (dv b):=by
 have key:=iA P L [0,1] J7
  (fun k st=>∃x y lx ly,st=⟨[(0,x),(1,y)],[],0,0⟩/\bi x lx/\bi y ly/\dg lx/\nz lx/\dg ly/\nz ly/\lx.length<=8000000000/\ly.length<=8000000000/\dv ly=k/\wJ (dv lx) (dv ly)=wJ (dv a) (dv b))
  (fun ex st=>∃tm ct,st=⟨tm,[],ct,0⟩/\ex=.exit 0/\∃x lx,aj tm 0=x/\bi x lx/\dg lx/\nz lx/\dv lx=wJ (dv a) (dv b)) ?_
 .unfold ab;rw[aE h];simp only[go_sem,P9];generalize hq:D P L (.loop _ J7) _=q;obtain⟨ex,st,rfl,tm,ct,rfl,rfl,x,lx,h2,hx,dx,nx,vx⟩:=bH hq (key (dv b)) ⟨v,w,a,b,by simp only[go_sem,ya,ap,az hv.pu,az hw.pu]<;>rfl,hv,hw,ha,na,hb,nb,la,lb,rfl,rfl⟩
  refine⟨x,lx,?_,hx,dx,nx,vx⟩;simp only[go_sem,ap,h2,hx.eA,az hx.pu]
 .rintro k st ⟨x,y,lx,ly,rfl,hx,hy,dx,nx,dy,ny,llx,lly,rfl,hg⟩;by_cases h0:ly=[]
  .right
   subst h0;simp only[go_sem,ya,J7,hy.len,yJ,show ¬(0:Int)<((0:Nat):Int) by lia];refine⟨_,_,rfl,by simp,_,_,rfl,rfl,x,lx,rfl,hx,dx,nx,?_⟩;rw[<-hg];simp[dv]
  .left
   have hp:0<dv ly:=by
    rcases xj (dv ly) with e | e
    .exact absurd (adh ny dy e) h0
    .exact e
   have hl:0<ly.length:=tg.2 h0;have⟨q,r,lq,lr,e1,hq,hr,dq,nq,dr,nr,vq,vr⟩:=afU LM mi pG rq cN sG hx hy dx dy nx ny llx lly hp;have aH:dv lr<dv ly:=by rw[vr];exact xG _ hp
   have hB:=kV dy;simp only[go_sem,ya,J7,hx.ai,hy.len,hy.ai,show (0:Int)<ly.length by lia,e1,hq.cg,hr.cg];refine⟨_,dv lr,rfl,aH,y,r,ly,lr,?_,hy,hr,dy,ny,dr,nr,by lia,xi (kA dr nr (vD aH hB)) lly,rfl,?_⟩
   .simp only [go_sem,ya,ap,az hy.pu,az hr.pu]<;>rfl
   .rw [<-hg,vr,tU (dv ly),<-Nat.gcd_rec,tU]
end
end
end VE
end
section
namespace VE
open Go (IntKind)
section
variable {P:aF}{L:Lib}
def avK(Bq:Has P L 290 Ha){neg:Bool}{N:Nat}(hN:(aC N).length<=180000000000):
  cZ P L [0,2,3,4] A0 (fun k s=>∃(i m:Nat) (out:List Int),m=k/\out.length=i/\dg out/\dv out+1000000000^i*m=N/\(aC m).length+9*i<=180000000000/\
    ((i=0/\s=⟨[(0,.str (aC m)),(2,.ptr 0 0),(3,.bool neg),(4,.ah)],[(0,.cells ycZ ycZ ycZ 2 [.bool yda,.ah])],1,0⟩)\/
    (0<i/\s=⟨[(0,.str (aC m)),(2,.ptr 0 0),(3,.bool neg),(4,.ax 1 0 i)],[(1,.cells ycZ ycZ yda 1 (out.map aa)),(0,.cells ycZ ycZ ycZ 2 [.bool yda,.ah])],2,0⟩))) (fun ex s'=>∃tm i m out,ex=.exit 0/\m<1000000000/\out.length=i/\dg out/\dv out+1000000000^i*m=N/\i<20000000000/\aj tm 0=.str (aC m)/\aj tm 2=.ptr 0 0/\aj tm 3=.bool neg/\
    ((i=0/\aj tm 4=.ah/\s'=⟨tm,[(0,.cells ycZ ycZ ycZ 2 [.bool yda,.ah])],1,0⟩)\/(0<i/\aj tm 4=.ax 1 0 i/\s'=⟨tm,[(1,.cells ycZ ycZ yda 1 (out.map aa)),(0,.cells ycZ ycZ ycZ 2 [.bool yda,.ah])],2,0⟩))):=by
 apply c6;rintro k s ⟨i,m,out,rfl,hlen,hd,aO,hl,hs⟩;by_cases hm:1000000000<=m
 .left
  obtain⟨q,hq⟩:∃q,q=m/1000000000:=⟨_,rfl⟩;obtain⟨r,hr⟩:∃r,r=m%1000000000:=⟨_,rfl⟩;have mR:=ape hm;rw[<-hq,<-hr] at mR;have nJ:=TL 9 r;have hqp:=AQ q;have hlm:(aC m).length=(aC q).length+9:=by rw[mR,yN,nJ]
  have c1:iX (aC m) (FL (aC q).length) (FL (aC m).length)=FL (.str (jv 9 r)):=by
   rw[mF (by lia) (yu _),xN,mR,tL]
  have c2:iX (aC m) (FL 0) (FL (aC q).length)=FL (.str (aC q)):=by
   rw[mF (by lia) (by lia),ye,mR,tK]
  have e1:=Lw Bq (s:=jv 9 r) (v:=r) (by lia) (by rw[acj 9 r 0 (by lia)];simp)
  unfold ab at e1;have sF:dg (out++[(r:Int)]):=iv.2 ⟨hd,lY.2 (by lia)⟩;have PA:dv (out++[(r:Int)])+1000000000^(i+1)*q=N:=by
   rw[nj,hlen,<-aO,xh];have e:=uk m 1000000000;rw[<-hr,<-hq] at e;rw[<-e];simp only[dv,xV,xC,y5,xE,xe]
   lia
  have PM:((aC m).length:Int)-9=((aC q).length:Int):=by lia
  rcases hs with ⟨h0,rfl⟩ | ⟨h0,rfl⟩
  .subst h0;have jR:out=[]:=yL hlen;subst jR
   simp only[go_sem,ya,yb,xq,yz,yk,yi,A0,show (9:Int)<((aC m).length:Int) by lia,PM,wrapN (n:=(aC q).length) (by lia),eP,fg,dM,c1,c2,e1,gV];refine⟨_,q,rfl,by lia,1,q,[]++[(r:Int)],rfl,rfl,sF,PA,by lia,.inr ⟨by lia,?_⟩⟩;rfl
  .simp only [go_sem,ya,yb,yk,yi,A0,show (9:Int)<((aC m).length:Int) by lia,PM,wrapN (n:=(aC q).length) (by lia),eP,fg,dM,c1,e1]
   rw[fP (ex:=yda) (pu:=ycZ) (cs:=out.map aa) rfl (by rw[yU,hlen,yi]) (by lia) (by lia) (by decide) rfl]
   simp only[go_sem,ya,yb,eP,fg,dM,PM,wrapN (n:=(aC q).length) (by lia),c2];refine⟨_,q,rfl,by lia,i+1,q,out++[(r:Int)],rfl,by simp[hlen],sF,PA,by lia,.inr ⟨by lia,?_⟩⟩;rw[xb];simp only[go_sem,ya,yb,ap]<;>rfl
 .right
  have h9:(aC m).length<=9:=zt (k:=8) (by lia);have hp0:=AQ m;rcases hs with ⟨h0,rfl⟩ | ⟨h0,rfl⟩
  .simp only [go_sem,A0,show ¬(9:Int)<((aC m).length:Int) by lia];exact⟨_,_,rfl,by simp,_,i,m,out,rfl,by lia,hlen,hd,aO,by lia,rfl,rfl,rfl,.inl ⟨h0,rfl,rfl⟩⟩
  .simp only [go_sem,A0,show ¬(9:Int)<((aC m).length:Int) by lia];exact⟨_,_,rfl,by simp,_,i,m,out,rfl,by lia,hlen,hd,aO,by lia,rfl,rfl,rfl,.inr ⟨h0,rfl,rfl⟩⟩
end
end VE
end
section
namespace VE
open Go (IntKind)
section
variable {P:aF}{L:Lib}
def ahC(h:Rb P L){n:Int}(hn:(aC n.natAbs).length<=180000000000):∃r,ab P L 288 [.str (aV n)] r/\lk r n:=by
 obtain⟨u,hu⟩:∃u,u=aC n.natAbs:=⟨_,rfl⟩;have⟨b,t,hb,jf,oG⟩:=FV n.natAbs;have hs:aV n=(if n<0 then [45] else [])++u:=by rw[hu,oQ]
 have Dp:0<u.length:=by rw[hu];exact AQ _
 have za:u[0]=b:=by
  have:u=b::t:=by rw[hu,hb]
  simp[this]
 have key:∀(s:St),bk [0,2,3,4] s=⟨[(0,.str u),(2,.ptr 0 0),(3,.bool (decide (n<0))),(4,.ah)],[(0,.cells ycZ ycZ ycZ 2 [.bool yda,.ah])],1,0⟩->
   ∃ex s',D P L (.loop [0,2,3,4] A0) s=FL (ex,s')/\∃tm i m out,ex=.exit 0/\m<1000000000/\out.length=i/\dg out/\dv out+1000000000^i*m=n.natAbs/\i<20000000000/\aj tm 0=.str (aC m)/\aj tm 2=.ptr 0 0/\aj tm 3=.bool (decide (n<0))/\
    ((i=0/\aj tm 4=.ah/\s'=⟨tm,[(0,.cells ycZ ycZ ycZ 2 [.bool yda,.ah])],1,0⟩)\/(0<i/\aj tm 4=.ax 1 0 i/\s'=⟨tm,[(1,.cells ycZ ycZ yda 1 (out.map aa)),(0,.cells ycZ ycZ ycZ 2 [.bool yda,.ah])],2,0⟩)):=fun s hc=>
  avK (P:=P) (L:=L) h.Bq (neg:=decide (n<0)) hn n.natAbs s ⟨0,n.natAbs,[],rfl,rfl,rfl,by simp[dv],by lia,.inl ⟨rfl,by rw[hc,hu]⟩⟩
 have fin:∀(i m:Nat) (out:List Int),m<1000000000->out.length=i->dg out->dv out+1000000000^i*m=n.natAbs->i<20000000000->∃w l,bL P L (D P L) 294 [.bool (decide (n<0)),.au yda (i+1) ((out++[(m:Int)]).map aa)]=FL (.agg [.bool (decide (n<0)),w])/\bi w l/\dg l/\nz l/\dv l=n.natAbs:=fun i m out h1 h2 h3 h4 h5=>by
  have hv:=kz yda (out++[(m:Int)]);have hd:dg (out++[(m:Int)]):=iv.2 ⟨h3,lY.2 (by lia)⟩;have aO:dv (out++[(m:Int)])=n.natAbs:=by rw[nj,h2];simp[dv];exact h4
  have⟨r,e,hr⟩:=sD h.jw h.cN (decide (n<0)) hv hd (by simp;lia)
  have nc:cx (decide (n<0)) (dv (out++[(m:Int)]))=n:=by
   rw[aO];unfold cx;by_cases h0:n<0
   .simp only [h0,yM,xA];lia
   .simp only [h0,yH,yC,xm];lia
  rw[nc] at hr;obtain⟨w,l,rfl,hw,fB,lc,c9⟩:=hr;simp only[yN,List.length_singleton,h2] at e;exact⟨w,l,e,hw,fB,lc,c9⟩
 unfold ab;rw[hs];by_cases h0:n<0
 .rw [yD h0,aE h.ahw];have mq:iX (45::u) (FL 1) (FL (u.length+1))=FL (.str u):=by rw[mF (s:=45::u) (l:=1) (h:=u.length+1) (by lia) (by simp)];simp
  simp only[h0,yM] at key fin ⊢;simp only[go_sem,ya,yb,Qe,aQ,show (0:Int)<((u.length+1:Nat):Int) by lia,ym,yG,ET,yM,eP,fg,dM,mq];generalize hq:D P L (.loop _ A0) _=q;obtain⟨ex,s,rfl,tm,i,m,out,rfl,hm,hlen,hd,aO,hi,t0,t2,t3,Ey⟩:=bH hq key (by simp only[go_sem,ya,yb,ap]<;>rfl)
  have e1:=Lw h.Bq (s:=aC m) (v:=m) (by have:=zt (k:=8) (n:=m) (by lia);lia) (DP m)
  have cL:i<20000000000:=hi;have⟨w,l,e2,hw,fB,lc,c9⟩:=fin i m out hm hlen hd aO cL;refine⟨_,?_,w,l,rfl,hw,fB,lc,c9⟩;unfold ab at e1;rcases Ey with ⟨nR,t4,rfl⟩ | ⟨nR,t4,rfl⟩
  .subst nR;have jR:out=[]:=yL hlen;subst jR;have iL:∀hp:Hp,mQ 0 1 (FL (yda,1,[AV.int .i64 (m:Int)],hp))=FL (.au yda 1 [AV.int .i64 (m:Int)],hp):=fun hp=>rfl
   simp only[yG,y7,wE,yd] at e2;simp only[go_sem,ya,yb,xq,yz,yk,yi,ap,t0,t2,t3,t4,e1,gV,iL,e2,bz,hw.pu,hw.one,gj];rcases hw with ⟨rfl,_⟩ | ⟨e,rfl⟩<;>simp only[h0,yM]<;>rfl
  .simp only [go_sem,ya,yb,yk,yi,ap,t0,t2,t3,t4,e1]
   rw[fP (ex:=yda) (pu:=ycZ) (cs:=out.map aa) rfl (by rw[yU,hlen,yi]) (by lia) (by lia) (by decide) rfl];have iL:∀hp:Hp,mQ 0 (i+1) (FL (yda,1,out.map aa++[AV.int .i64 (m:Int)],hp))=FL (.au yda (i+1) (out.map aa++[AV.int .i64 (m:Int)]),hp):=fun hp=>kR yda (by simp[hlen]) (by decide)
   simp only[xb,y7,wE] at e2;simp only[go_sem,ya,yb,iL,e2,bz,hw.pu,hw.one,gj,uO];rcases hw with ⟨rfl,_⟩ | ⟨e,rfl⟩<;>simp only[h0,yM]<;>rfl
 .rw [yt h0,aE h.ahw,yG];simp only[h0,yH] at key fin ⊢;simp only[go_sem,ya,yb,Qe,aQ,show (0:Int)<(u.length:Int) by lia,sj Dp,za,show ¬((b:Nat):Int)=45 by lia];generalize hq:D P L (.loop _ A0) _=q;obtain⟨ex,s,rfl,tm,i,m,out,rfl,hm,hlen,hd,aO,hi,t0,t2,t3,Ey⟩:=bH hq key (by simp only[go_sem,ya,yb,ap]<;>rfl)
  have e1:=Lw h.Bq (s:=aC m) (v:=m) (by have:=zt (k:=8) (n:=m) (by lia);lia) (DP m)
  have cL:i<20000000000:=hi;have⟨w,l,e2,hw,fB,lc,c9⟩:=fin i m out hm hlen hd aO cL;refine⟨_,?_,w,l,rfl,hw,fB,lc,c9⟩;rcases Ey with ⟨nR,t4,rfl⟩ | ⟨nR,t4,rfl⟩
  .subst nR;have jR:out=[]:=yL hlen;subst jR;have iL:∀hp:Hp,mQ 0 1 (FL (yda,1,[AV.int .i64 (m:Int)],hp))=FL (.au yda 1 [AV.int .i64 (m:Int)],hp):=fun hp=>rfl
   simp only[yG,y7,wE,yd] at e2;simp only[go_sem,ya,yb,xq,yz,yk,yi,ap,t0,t2,t3,t4,e1,gV,iL,e2,bz,hw.pu,hw.one,gj];rcases hw with ⟨rfl,_⟩ | ⟨e,rfl⟩<;>simp only[h0,yH]<;>rfl
  .simp only [go_sem,ya,yb,yk,yi,ap,t0,t2,t3,t4,e1]
   rw[fP (ex:=yda) (pu:=ycZ) (cs:=out.map aa) rfl (by rw[yU,hlen,yi]) (by lia) (by lia) (by decide) rfl];have iL:∀hp:Hp,mQ 0 (i+1) (FL (yda,1,out.map aa++[AV.int .i64 (m:Int)],hp))=FL (.au yda (i+1) (out.map aa++[AV.int .i64 (m:Int)]),hp):=fun hp=>kR yda (by simp[hlen]) (by decide)
   simp only[xb,y7,wE] at e2;simp only[go_sem,ya,yb,iL,e2,bz,hw.pu,hw.one,gj,uO];rcases hw with ⟨rfl,_⟩ | ⟨e,rfl⟩<;>simp only[h0,yH]<;>rfl
end
end VE
end
section
namespace VE
open Go (IntKind)
def Nq(n:Int)(r:List Nat):bT (aV n++r)=(aV n).length+bT r:=by
 rw[<-oQ]
 split
 .simp only [ym,yG,bT,yy];rw[yt (by decide),No r (Jn _)]
  lia
 .rw [yG];exact No r (Jn _)
def TQ:∀{a b:List Nat},cW a b=ycZ->a=b
 | [],[],_=>rfl
 | [],_::_,h=>by simp[cW] at h
 | _::_,[],h=>by simp[cW] at h
 | x::a,y::b,h=>by
  simp only[cW,yf] at h;rw[yg h.1,TQ h.2]
def afW{n:Int}{d:Nat}(h:n≠0):cW (TT n d) [48]=yda:=by
 cases hb:cW (TT n d) [48] with
 | false=>rfl
 | true=>
  have e:=TQ hb;unfold TT at e;by_cases h0:n<0
  .rw [nX h0] at e;simp at e
  .obtain ⟨m,rfl⟩:∃m:Nat,n=m:=⟨n.toNat,by lia⟩;rw[mC] at e;have⟨b,r,bG,_,_⟩:=FV m;rw[bG] at e;simp only[ym,tX,List.append_eq_nil_iff] at e;have hv:=DP m;rw[bG,e.1,e.2.1] at hv
   have:(FL 0:Option Nat)=FL m:=hv
   grind
section
variable {P:aF}{L:Lib}
def avL(h:Rb P L):∃r,ab P L 281 [aa 1] r/\lk r 1:=by
 have⟨r,e,hr⟩:=sD h.jw h.cN yda (kz yda [(1:Int)]) (by decide) (by decide);obtain⟨w,l,rfl,hw,hd,hz,hv⟩:=hr;refine⟨_,?_,w,l,rfl,hw,hd,hz,hv⟩;simp only[y7,wE,yy,yJ,yd] at e;have iL:∀hp:Hp,mQ 0 1 (FL (yda,1,[AV.int .i64 1],hp))=FL (.au yda 1 [AV.int .i64 1],hp):=fun hp=>rfl
 unfold ab at e ⊢;rw[aE h.ahv];simp only[go_sem,ya,yb,xq,yz,yk,yi,Qb,aQ,Int.reduceLT,yH,OY,ap,zD,Int.reduceEq,yY,yX,yM,fC _ _ _ (show (1000000000:Int)≠0 by decide),eK _ _ _ (show (1000000000:Int)≠0 by decide),show Int.tmod 1 1000000000=1 from rfl,show Int.tdiv 1 1000000000=0 from rfl,show IntKind.wrap .i64 0=0 from rfl,gV,iL,e,hw.pu,hw.one,bz,gj];rcases hw with ⟨rfl,_⟩ | ⟨e,rfl⟩<;>rfl
def ahD(h:Rb P L){n:Int}{d:Nat}(hn:(aC n.natAbs).length<=144000000000)(hd:(aC d).length<=144000000000):
  ∃x y,ab P L 274 [.str (TT n d)] (.aw [x,y])/\lk x n/\lk y d:=by
 have⟨x,e1,hx⟩:=ahC h (n:=n) (by lia);have hli:(aV n).length<=(aC n.natAbs).length+1:=by rw[<-oQ];split<;>simp
 by_cases h1:d=1
 .subst h1;have⟨y,e2,hy⟩:=avL h;have hT:TT n 1=aV n:=by unfold TT;simp
  have hs:=Nq n [];rw[xT] at hs;have e3:=Hg h.CX (s:=aV n) (by lia);rw[hs] at e3;refine⟨x,y,?_,hx,hy⟩;obtain⟨xw,xl,rfl,eH,_,_,_⟩:=hx;obtain⟨yw,yl,rfl,eI,_,_,_⟩:=hy;rw[hT];unfold ab at e1 e2 e3 ⊢;rw[aE h.aht];simp only[go_sem,ya,yb,P8,aQ,e3,bT,y5,yM,e1,e2,bz,eH.pu,eH.one,eI.pu,eI.one,gj];rcases eH with ⟨rfl,_⟩ | ⟨e,rfl⟩<;>rcases eI with ⟨rfl,_⟩ | ⟨e',rfl⟩<;>rfl
 .have ⟨y,e2,hy⟩:=ahC h (n:=(d:Int)) (by simp;lia)
  rw[mC] at e2;obtain⟨s,ze⟩:∃s,s=TT n d:=⟨_,rfl⟩;have hT:s=aV n++47::aC d:=by rw[ze];unfold TT;rw[yt h1]
  have hs:bT s=(aV n).length:=by rw[hT,Nq];rfl
  have hlen:s.length=(aV n).length+(aC d).length+1:=by rw[hT];simp;lia
  have e3:=Hg h.CX (s:=s) (by lia);rw[hs] at e3;have c1:iX s (FL 0) (FL (aV n).length)=FL (.str (aV n)):=by
   rw[mF (by lia) (by lia),ye,hT,tK]
  have c2:iX s (FL ((aV n).length+1)) (FL s.length)=FL (.str (aC d)):=by
   rw[mF (by lia) (yu _),xN,hT,show aV n++47::aC d=(aV n++[47])++aC d by simp,show (aV n).length+1=(aV n++[47]).length by simp,tL]
  refine⟨x,y,?_,hx,hy⟩;obtain⟨xw,xl,rfl,eH,_,_,_⟩:=hx;obtain⟨yw,yl,rfl,eI,_,_,_⟩:=hy;rw[<-ze];unfold ab at e1 e2 e3 ⊢;rw[aE h.aht]
  simp only[go_sem,ya,yb,P8,aQ,e3,show ¬((aV n).length:Int)=(s.length:Int) by lia,eP,fg,dM,c1,wrapN (n:=(aV n).length+1) (by lia),show ((aV n).length:Int)+1=(((aV n).length+1:Nat):Int) from rfl,c2,e1,e2,bz,eH.pu,eH.one,eI.pu,eI.one,gj];rcases eH with ⟨rfl,_⟩ | ⟨e,rfl⟩<;>rcases eI with ⟨rfl,_⟩ | ⟨e',rfl⟩<;>rfl
end
end VE
end
section
namespace VE
open Go (IntKind)
section
variable {d n:Int}{a b:List Int}
def O4{d:Nat}(h:n<0):TT n d=45::TT (-n) d:=by
 have e:aV (-n)=aC n.natAbs:=by
  rw[<-oQ,yt (show ¬-n<0 by lia),yG,show (-n).natAbs=n.natAbs by lia]
 unfold TT;rw[nX h,e];rfl
def arZ{d:Nat}(h:¬n<0):∃b u,TT n d=b::u/\48<=b:=by
 have⟨b,r,hb,h1,_⟩:=FV n.natAbs;refine⟨b,r++(if d=1 then [] else 47::aC d),?_,h1⟩;unfold TT;rw[<-oQ,yt h,yG,hb];rfl
def GJ(a b:AV)(r:List AV):fT 2 ycZ (a::b::r)=FL (.agg [a,b]):=rfl
def ar0(k:Nat):2^k<=1000000000^k:=ub (by decide) k
def Bd.r{k:Nat}{z:Int}(h:Bd k z):z.natAbs<1000000000^k:=yP h (ar0 k)
def KN(r:Rat):RT r=TT r.num r.den:=rfl
def adx(hd:0<d):RT (wI n d)=ri n d:=by
 have⟨h1,h2⟩:=Sl (a:=n) hd;rw[arz hd,KN,h1]
 congr 1
 exact yaj (show ((wI n d).den:Int)=((dJ n d).toNat:Int) by rw[h2];have:=Jv (a:=n) hd;unfold dJ at this ⊢;lia)
structure Rm(P:aF)(L:Lib):Prop extends Rb P L where
 aAg:Has P L 263 dw
 QO:Has P L 273 EL
 aAh:Has P L 284 Wf
 aAi:Has P L 285 Qc
 aAj:Has P L 286 Qd
 Hm:Has P L 287 Lf
 sG:Has P L 301 Bn
structure Rl(P:aF)(L:Lib):Prop extends Rm P L where
 aAk:Has P L 269 Lb
structure Rp(P:aF)(L:Lib):Prop extends Ras P L,Rm P L
structure Rn(P:aF)(L:Lib):Prop extends Ra P L,Rp P L
structure Rx(P:aF)(L:Lib):Prop extends Rn P L,Rl P L where
 W9:Has P L 266 P7
 Bx:Has P L 283 EN
section
variable {P:aF}{L:Lib}
def afX(h:Rm P L){v w:AV}(hv:bi v a)(hw:bi w b)(ha:dg a)(hb:dg b)(na:nz a)(nb:nz b)(la:a.length<=8000000000)(lb:b.length<=8000000000)(h0:0<dv b):
  ∃q r lq lr,ab P L 289 [v,w] (.aw [q,r])/\bi q lq/\bi r lr/\dg lq/\nz lq/\dg lr/\nz lr/\dv lq=dv a/dv b/\dv lr=dv a%dv b:=
 afU h.LM h.mi h.pG h.rq h.cN h.sG hv hw ha hb na nb la lb h0
def avM(h:Rm P L){x y:AV}{K:Nat}(hK:K<=8000000000)(hx:bi x a)(ha:dg a)(na:nz a)(va:dv a=n.natAbs)(hy:bi y b)(hb:dg b)(nb:nz b)(vb:dv b=d.natAbs)(kn:Bd K n)(kd:Bd K d)(hd:0<d){tm:Env}(t2:aj tm 2=.ptr 0 0)(t3:aj tm 3=.ptr 1 0):
  gn [.t 4] (D P L (aD (aD pq.body)) ⟨tm,[(1,.cells ycZ ycZ ycZ 2 [.bool (decide (d<0)),y]),(0,.cells ycZ ycZ ycZ 2 [.bool (decide (n<0)),x])],2,0⟩)=FL (.str (RT (wI n d))):=by
 rw[adx hd];have la:=xi (kA ha na (by rw[va];exact kn.r)) hK
 have lb:=xi (kA hb nb (by rw[vb];exact kd.r)) hK
 have⟨g,lg,e1,hg,Y6,ng,vg⟩:=afV h.ahu h.LM h.mi h.pG h.rq h.cN h.sG hx hy ha hb na nb la lb;rw[va,vb,show wJ n.natAbs d.natAbs=vv n d from rfl] at vg;have Mu:=Oz (a:=n) hd;have aAl:vv n d<=d.natAbs:=Int.gcd_le_natAbs_right n (by lia);have lg1:lg.length<=8000000000:=xi (kA Y6 ng (by rw[vg];exact wh aAl kd.r)) hK
 have⟨p,p',lp,lp',e2,hp,an,dp,np,dp',np',vp,vp'⟩:=afX h hx hg ha Y6 na ng la lg1 (by lia);have⟨q,q',lq,lq',e3,hq,bO,dq,nq,dq',nq',vq,vq'⟩:=afX h hy hg hb Y6 nb ng lb lg1 (by lia);rw[va,vg] at vp;rw[vb,vg] at vq;have hrn:(dz n d).natAbs=n.natAbs/vv n d:=by unfold dz;rw[tf (Int.gcd_dvd_left n d)];rfl
 have fE:(dJ n d).natAbs=d.natAbs/vv n d:=by unfold dJ;rw[tf (Int.gcd_dvd_right n d)];rfl
 have hdp:=Jv (a:=n) hd;rw[<-hrn] at vp;rw[<-fE] at vq;have aEZ:=au2 n d;have nc:cx (decide (n<0)) (dv lp)=dz n d:=by
  rw[vp];unfold cx;by_cases h0:n<0
  .have:¬0<=dz n d:=fun h1=>by have:=tM (tB Mu) h1;lia
   simp only[h0,yM,xA];lia
  .have:¬dz n d<0:=fun h1=>by have:=Int.mul_neg_of_pos_of_neg Mu h1;lia
   simp only[h0,yH,yC,xm];lia
 have kn':Bd K (dz n d):=kn.le (ach n d);have XH:Bd K (dJ n d):=kd.le (aci n d);have lp1:lp.length<=8000000000:=xi (kA dp np (by rw[vp];exact kn'.r)) hK
 have MU:lq.length<=8000000000:=xi (kA dq nq (by rw[vq];exact XH.r)) hK
 have⟨s,e4,hs⟩:=sD h.jw h.cN (decide (n<0)) hp dp (by lia);rw[nc] at hs;have⟨e5,l5⟩:=W7 (K:=K) h.W8 h.rk (by lia) hs kn'.r;have⟨u,e6,hu⟩:=sD h.jw h.cN yda hq dq (by lia);have BK:cx yda (dv lq)=dJ n d:=by rw[vq];unfold cx;simp only[yC,xm];lia
 rw[BK] at hu;have⟨e7,l7⟩:=W7 (K:=K) h.W8 h.rk (by lia) hu XH.r;obtain⟨sw,sl,rfl,mw,_,_,_⟩:=hs;obtain⟨uw,ul,rfl,huw,_,_,_⟩:=hu;have aEI:0<lq.length:=by
  rcases xj lq.length with e | e
  .rw [yL e] at vq;simp[dv] at vq;lia
  .exact e
 by_cases RZ:lq.length=1
 .obtain ⟨z,rfl⟩:∃z,lq=[z]:=by
   cases lq with
   | nil=>simp at RZ
   | cons z r=>cases r with
    | nil=>exact⟨z,rfl⟩
    | cons y r=>simp at RZ
  have M1:z=dJ n d:=by simp[dv] at vq;lia
  have e8:=hq.bq (i:=0) (by simp);simp only[wG] at e8;by_cases h1:dJ n d=1
  .have hT:ri n d=aV (dz n d):=by unfold ri;rw[yD h1]
   rw[hT];simp only[go_sem,ya,pq,aD,t2,t3,hx.ai,hy.ai,aT,yd,df,show ¬d<0 by lia,yH,e1,hg.ai,hg.shut,e2,hp.ai,hp.cg,an.cg,e3,hq.len,hq.cg,bO.cg,e4,mw.ai,bY,bz,e5,yy,yJ,show ((1:Nat):Int)=(1:Int) from rfl,yM,e8,M1,h1]
  .have hT:ri n d=(aV (dz n d)++[47])++aV (dJ n d):=by unfold ri;rw[yt h1]
   rw[hT]
   simp only[go_sem,ya,pq,aD,t2,t3,hx.ai,hy.ai,aT,yd,df,show ¬d<0 by lia,yH,e1,hg.ai,hg.shut,e2,hp.ai,hp.cg,an.cg,e3,hq.len,hq.ai,hq.cg,bO.cg,e4,mw.ai,bY,bz,e5,yy,yJ,show ((1:Nat):Int)=(1:Int) from rfl,yM,e8,M1,h1,gX (a:=aV (dz n d)) (b:=[47]) (by simp;lia),e6,huw.ai,e7,gX (a:=aV (dz n d)++[47]) (b:=aV (dJ n d)) (by simp;lia)]
 .have h1:¬dJ n d=1:=fun h1=>RZ (by
   have h2:lq.length<=1:=adw dq nq (by rw[vq,h1];decide)
   lia)
  have hT:ri n d=(aV (dz n d)++[47])++aV (dJ n d):=by unfold ri;rw[yt h1]
  rw[hT]
  simp only[go_sem,ya,pq,aD,t2,t3,hx.ai,hy.ai,aT,yd,df,show ¬d<0 by lia,yH,e1,hg.ai,hg.shut,e2,hp.ai,hp.cg,an.cg,e3,hq.len,hq.ai,hq.cg,bO.cg,e4,mw.ai,bY,bz,e5,show ¬(lq.length:Int)=1 by lia,gX (a:=aV (dz n d)) (b:=[47]) (by simp;lia),e6,huw.ai,e7,gX (a:=aV (dz n d)++[47]) (b:=aV (dJ n d)) (by simp;lia)]
def akX(n d:Int):wI (-n) (-d)=wI n d:=by rw[Rat.divInt_neg',yao]
def VF(h:Rm P L){v w:AV}{K:Nat}(hK:K<=8000000000)(hv:lk v n)(hw:lk w d)(kn:Bd K n)(kd:Bd K d)(hd:d≠0):ab P L 280 [v,w] (.str (RT (wI n d))):=by
 have fin:∀{x y:AV} {a b:List Int} {n' d':Int},bi x a->dg a->nz a->dv a=n'.natAbs->bi y b->dg b->nz b->dv b=d'.natAbs->Bd K n'->Bd K d'->0<d'->wI n' d'=wI n d->∀tm,aj tm 2=.ptr 0 0->aj tm 3=.ptr 1 0->
   D P L (.seq (bB pq.body) (bB (aD pq.body))) ⟨[(0,v),(1,w)],[],0,0⟩=FL (.normal,⟨tm,[(1,.cells ycZ ycZ ycZ 2 [.bool (decide (d'<0)),y]),(0,.cells ycZ ycZ ycZ 2 [.bool (decide (n'<0)),x])],2,0⟩)->ab P L 280 [v,w] (.str (RT (wI n d))):=fun {x y a b n' d'} hx ha na va hy hb nb vb kn kd hd hq tm t2 t3 e=>by
  unfold ab;rw[aE h.az8];show gn [.t 4] (D P L (.seq (bB pq.body) (.seq (bB (aD pq.body)) (aD (aD pq.body)))) ⟨[(0,v),(1,w)],[],0,0⟩)=_
  rw[DR,e,iS,<-hq];exact avM h hK hx ha na va hy hb nb vb kn kd hd t2 t3
 have eS:=hv;have YO:=hw;obtain⟨x,a,rfl,hx,ha,na,va⟩:=hv;obtain⟨y,b,rfl,hy,hb,nb,vb⟩:=hw;by_cases h0:d<0
 .have ⟨r,e1,hr⟩:=ag3 (K:=K) h.ahx h.jw h.cN (by lia) eS kn.r;have⟨s,e2,hs⟩:=ag3 (K:=K) h.ahx h.jw h.cN (by lia) YO kd.r;obtain⟨x',a',rfl,zh,Fb,na',va'⟩:=hr;obtain⟨y',b',rfl,Fz,bG,nb',vb'⟩:=hs;simp only[h0,yM] at e2
  refine fin zh Fb na' va' Fz bG nb' vb' kn.neg kd.neg (by lia) (akX n d) _ ?_ ?_ (by
   simp only[go_sem,ya,yb,pq,bB,aD,aQ,hx.pu,hx.ai,hx.one,hy.pu,hy.ai,hy.one,zh.pu,zh.one,Fz.pu,Fz.one,aT,yd,h0,yM,GJ,bY,e1,e2,bz,gj]<;>rfl)<;>simp only[go_sem,ya]
 .refine fin hx ha na va hy hb nb vb kn kd (by lia) rfl _ ?_ ?_ (by simp only[go_sem,ya,yb,pq,bB,aD,aQ,hx.pu,hx.one,hy.pu,hy.one,aT,yd,h0,yH]<;>rfl)<;>simp only[go_sem,ya]
end
end
end VE
end
section
namespace VE
open Go (IntKind)
section
variable {n:Int}{K:Nat}{a:Rat}
def ax6(z:Int)(m:Nat)(h:z.natAbs=m):(z.tdiv 1000000000).natAbs=m/1000000000/\(if z.tmod 1000000000<0 then 0-z.tmod 1000000000 else z.tmod 1000000000)=((m%1000000000:Nat):Int)/\(z<0->z.tdiv 1000000000<=0)/\(0<=z->0<=z.tdiv 1000000000):=by
 rcases Int.lt_or_le z 0 with h0 | h0
 .obtain ⟨n,rfl⟩:∃n:Nat,z= -(n:Int):=⟨z.natAbs,by lia⟩;rw[Int.neg_tdiv,Int.neg_tmod,xP (by lia),xO (by lia)]
  grind
 .grind
section
variable {P:aF}{L:Lib}
def avN{neg:Bool}{N:Nat}(hN:N<=9223372036854775808):
  cZ P L [0,2,3,4] zD (fun k s=>∃(i:Nat) (z:Int) (out:List Int),z.natAbs=k/\out.length=i/\dg out/\dv out+1000000000^i*z.natAbs=N/\(neg=ycZ->z<=0)/\(neg=yda->0<=z)/\i<=3/\
    ((i=0/\s=⟨[(0,aa z),(2,.ptr 0 0),(3,.ah),(4,.bool neg)],[(0,.cells ycZ ycZ ycZ 2 [.bool yda,.ah])],1,0⟩)\/
    (0<i/\s=⟨[(0,aa z),(2,.ptr 0 0),(3,.ax 1 0 i),(4,.bool neg)],[(1,.cells ycZ ycZ yda 1 (out.map aa)),(0,.cells ycZ ycZ ycZ 2 [.bool yda,.ah])],2,0⟩))) (fun ex s'=>∃tm i out,ex=.exit 0/\out.length=i/\i<=3/\dg out/\dv out=N/\aj tm 2=.ptr 0 0/\aj tm 4=.bool neg/\
    ((i=0/\aj tm 3=.ah/\s'=⟨tm,[(0,.cells ycZ ycZ ycZ 2 [.bool yda,.ah])],1,0⟩)\/(0<i/\aj tm 3=.ax 1 0 i/\s'=⟨tm,[(1,.cells ycZ ycZ yda 1 (out.map aa)),(0,.cells ycZ ycZ ycZ 2 [.bool yda,.ah])],2,0⟩))):=by
 apply c6;rintro k s ⟨i,z,out,rfl,hlen,hd,aO,kG,pQ,hi3,hs⟩;by_cases hz:z=0
 .right
  subst hz;have hv:dv out=N:=by simpa using aO
  rcases hs with ⟨h0,rfl⟩ | ⟨h0,rfl⟩
  .simp only [go_sem,zD,yM,yX];exact⟨_,_,rfl,by simp,_,i,out,rfl,hlen,hi3,hd,hv,rfl,rfl,.inl ⟨h0,rfl,rfl⟩⟩
  .simp only [go_sem,zD,yM,yX];exact⟨_,_,rfl,by simp,_,i,out,rfl,hlen,hi3,hd,hv,rfl,rfl,.inr ⟨h0,rfl,rfl⟩⟩
 .left
  obtain⟨m,hm⟩:∃m,z.natAbs=m:=⟨_,rfl⟩;have BR:0<m:=by lia
  rw[hm] at aO;have FB:i<3:=by
   rcases vn i 3 with h | h
   .exact h
   .have e3:i=3:=by lia
    subst e3
    have:=yW (1000000000^3) BR
    lia
  have hmN:m<=9223372036854775808:=by
   have:=ug m (ybM (n:=i) (show 0<1000000000 by decide))
   lia
  have⟨d1,d2,d3,d4⟩:=ax6 z m hm;have eV:=uk m 1000000000;have sF:dg (out++[((m%1000000000:Nat):Int)]):=iv.2 ⟨hd,lY.2 (by lia)⟩;have PA:dv (out++[((m%1000000000:Nat):Int)])+1000000000^(i+1)*(m/1000000000)=N:=by
   rw[nj,hlen,<-aO,xh,xe];have e:1000000000^i*m=1000000000^i*(m%1000000000)+1000000000^i*(1000000000*(m/1000000000)):=by rw[<-xE,eV]
   rw[e];simp only[dv,xV,xC,y5]
   lia
  have Av:IntKind.wrap .i64 (z.tdiv 1000000000)=z.tdiv 1000000000:=wrap64 (by lia) (by lia);have mW: -9223372036854775808<=z.tmod 1000000000/\z.tmod 1000000000<1000000000:=by
   have h1:(z.tmod 1000000000).natAbs<1000000000:=by
    split at d2<;>lia
   lia
  have Bf:(neg=ycZ->z.tdiv 1000000000<=0)/\(neg=yda->0<=z.tdiv 1000000000):=⟨fun h=>d3 (by have:=kG h;lia),fun h=>d4 (pQ h)⟩
  have aH:(z.tdiv 1000000000).natAbs<m:=by rw[d1];lia
  obtain⟨z',dc⟩:∃z',z.tdiv 1000000000=z':=⟨_,rfl⟩;rw[dc] at d1 d3 d4 Av Bf aH;have c9:dv (out++[((m%1000000000:Nat):Int)])+1000000000^(i+1)*z'.natAbs=N:=by rw[d1];exact PA
  generalize m%1000000000=r at*
  by_cases fD:z.tmod 1000000000<0
  .rw [yD fD] at d2;rcases hs with ⟨h0,rfl⟩ | ⟨h0,rfl⟩
   .subst h0;have jR:out=[]:=yL hlen;subst jR
    simp only[go_sem,ya,yb,xq,yz,yk,yi,zD,yH,hz,yY,fC _ _ _ (show (1000000000:Int)≠0 by decide),eK _ _ _ (show (1000000000:Int)≠0 by decide),fD,d2,wrapN (n:=r) (by lia),gV,dc,Av];refine⟨_,z'.natAbs,rfl,by lia,1,z',[]++[(r:Int)],rfl,rfl,sF,c9,Bf.1,Bf.2,by lia,.inr ⟨by lia,?_⟩⟩;simp only[go_sem,ya,yb,ap]<;>rfl
   .simp only [go_sem,ya,yb,yk,yi,zD,yH,hz,yY,fC _ _ _ (show (1000000000:Int)≠0 by decide),fD,d2,wrapN (n:=r) (by lia)]
    rw[fP (ex:=yda) (pu:=ycZ) (cs:=out.map aa) rfl (by rw[yU,hlen,yi]) (by lia) (by lia) (by decide) rfl];simp only[go_sem,ya,yb,eK _ _ _ (show (1000000000:Int)≠0 by decide),dc,Av];refine⟨_,z'.natAbs,rfl,by lia,i+1,z',out++[(r:Int)],rfl,by simp[hlen],sF,c9,Bf.1,Bf.2,by lia,.inr ⟨by lia,?_⟩⟩;rw[xb];simp only[go_sem,ya,yb,ap]<;>rfl
  .rw [yt fD] at d2;rcases hs with ⟨h0,rfl⟩ | ⟨h0,rfl⟩
   .subst h0;have jR:out=[]:=yL hlen;subst jR;simp only[go_sem,ya,yb,xq,yz,yk,yi,zD,yH,hz,yY,fC _ _ _ (show (1000000000:Int)≠0 by decide),eK _ _ _ (show (1000000000:Int)≠0 by decide),d2,show ¬((r:Nat):Int)<0 by lia,gV,dc,Av];refine⟨_,z'.natAbs,rfl,by lia,1,z',[]++[(r:Int)],rfl,rfl,sF,c9,Bf.1,Bf.2,by lia,.inr ⟨by lia,?_⟩⟩;simp only[go_sem,ya,yb,ap]<;>rfl
   .simp only [go_sem,ya,yb,yk,yi,zD,yH,hz,yY,fC _ _ _ (show (1000000000:Int)≠0 by decide),d2,show ¬((r:Nat):Int)<0 by lia]
    rw[fP (ex:=yda) (pu:=ycZ) (cs:=out.map aa) rfl (by rw[yU,hlen,yi]) (by lia) (by lia) (by decide) rfl];simp only[go_sem,ya,yb,eK _ _ _ (show (1000000000:Int)≠0 by decide),dc,Av];refine⟨_,z'.natAbs,rfl,by lia,i+1,z',out++[(r:Int)],rfl,by simp[hlen],sF,c9,Bf.1,Bf.2,by lia,.inr ⟨by lia,?_⟩⟩;rw[xb];simp only[go_sem,ya,yb,ap]<;>rfl
def ady(h: -9223372036854775808<=n/\n<9223372036854775808):n.natAbs<=9223372036854775808:=by lia
def adz(n:Int):cx (decide (n<0)) n.natAbs=n:=by
 unfold cx
 grind
def ax7(h:Rm P L)(hn: -9223372036854775808<=n/\n<9223372036854775808):∃r,ab P L 281 [aa n] r/\lk r n:=by
 have key:=fun s=>avN (P:=P) (L:=L) (neg:=decide (n<0)) (ady hn) n.natAbs s
 unfold ab;rw[aE h.ahv];simp only[go_sem,ya,yb,Qb,aQ];generalize hq:D P L (.loop _ zD) _=q;obtain⟨ex,s,rfl,tm,i,out,rfl,hlen,hi,hd,aO,t2,t4,Ey⟩:=bH hq key (by
  refine⟨0,n,[],rfl,rfl,rfl,by simp[dv],fun h=>by simp at h;lia,fun h=>by simp at h;lia,by lia,.inl ⟨rfl,?_⟩⟩
  simp only[go_sem,ya,yb,ap]<;>rfl)
 rcases Ey with ⟨nR,t3,rfl⟩ | ⟨nR,t3,rfl⟩
 .subst nR;have jR:out=[]:=yL hlen;subst jR;have⟨r,e,hr⟩:=sD h.jw h.cN (decide (n<0)) (show bi .ah [] from zq) hd (by simp);rw[aO,adz] at hr;have bh:=hr;obtain⟨w,l,rfl,hw,_,_,_⟩:=bh;refine⟨_,?_,hr⟩;simp only[go_sem,ya,yb,ap,t2,t3,t4,e,hw.pu,hw.one,bz,gj];rcases hw with ⟨rfl,_⟩ | ⟨e,rfl⟩<;>rfl
 .have hI:=kz yda out;rw[hlen] at hI;have⟨r,e,hr⟩:=sD h.jw h.cN (decide (n<0)) hI hd (by lia);rw[aO,adz] at hr;have bh:=hr;obtain⟨w,l,rfl,hw,_,_,_⟩:=bh;refine⟨_,?_,hr⟩
  simp only[go_sem,ya,yb,ap,t2,t3,t4,fun hp=>kR (hp:=hp) (k:=i) (sz:=1) (cs:=out.map aa) yda (by simp[hlen]) (by decide),e,hw.pu,hw.one,bz,gj];rcases hw with ⟨rfl,_⟩ | ⟨e,rfl⟩<;>rfl
def avO(n:Int):RT (n:Rat)=aV n:=by unfold RT;simp
def ax8(h:Rm P L)(Xa:Has P L 265 P6)(hn: -9223372036854775808<=n/\n<9223372036854775808):ab P L 265 [aa n] (.str (RT (n:Rat))):=by
 have⟨r,e,hr⟩:=ax7 h hn;have⟨e2,_⟩:=W7 (K:=8) h.W8 h.rk (by lia) hr (by have:=ady hn;lia)
 rw[avO];obtain⟨w,l,rfl,hw,_,_,_⟩:=hr;unfold ab at e e2 ⊢;rw[aE Xa];simp only[go_sem,ya,P6,e,hw.ai,bz,bY,e2]
def GK(h:Hq K a):(RT a).length<=2*K+3:=by
 have h1:=Jo h.1;have h2:=Jo h.2;rw[mC] at h2;unfold RT
 grind
def adA{z:Int}(h:Bd K z):(aC z.natAbs).length<=K+1:=by
 have:=Jo (z:=(z.natAbs:Int)) (k:=K) (by unfold Bd at h ⊢;lia)
 rwa[mC] at this
def KO(h:Rm P L)(ka:Hq K a)(hK:K<=8000000000):∃x y,ab P L 274 [.str (RT a)] (.aw [x,y])/\lk x a.num/\lk y (a.den:Int):=by
 have h1:=adA ka.1;have h2:=adA ka.2
 exact ahD h.toRb (n:=a.num) (d:=a.den) (by lia) (by simpa using (by lia:(aC ((a.den:Int)).natAbs).length<=144000000000))
def afY(h:Rm P L){d:Nat}(hl:(TT n d).length<=100000000000)(lU:n=0->d=1):ab P L 262 [.str (TT n d)] (aa (bX n)):=by
 unfold ab;rw[aE h.az6];by_cases h0:n<0
 .have eh:=afW (n:=n) (d:=d) (by lia);rw[O4 h0] at eh ⊢;simp only[go_sem,ya,K7,mG,eh,show (0:Int)<(((TT (-n) d).length+1:Nat):Int) by lia,ET,yM];unfold bX;rw[yD h0]
 .by_cases h1:n=0
  .subst h1
   have:=lU rfl
   subst this;rw[show TT 0 1=[48] by decide];simp only[go_sem,ya,K7,mG,show cW [48] [48]=ycZ from rfl];rfl
  .have eh:=afW (n:=n) (d:=d) h1;have⟨b,u,hb,jf⟩:=arZ (d:=d) h0;rw[hb] at eh ⊢;simp only[go_sem,ya,K7,mG,eh,show (0:Int)<((u.length+1:Nat):Int) by lia,show oh 0 (.str (b::u))=FL (.int .u8 (b:Nat)) from rfl,show ¬((b:Nat):Int)=45 by lia];unfold bX;rw[yt h0,yt h1]
def akq(h:a.num=0):a.den=1:=by simp_all
def PB(h:Rm P L)(ka:Hq K a)(hK:K<=8000000000):ab P L 262 [.str (RT a)] (aa (bX a.num)):=
 afY h (by have:=GK ka;rw[KN] at this;lia) akq
def afZ(h:Rp P L)(ka:Hq K a)(hK:K<=8000000000):ab P L 268 [.str (RT a)] (.str (RT (-a))):=by
 have e:=PB h.toRm ka hK;have hl:=GK ka;have en:(-a).num= -a.num:=rfl;have ed:(-a).den=a.den:=rfl;rw[KN] at hl e ⊢;rw[KN,en,ed];generalize a.num=n at*
 generalize a.den=d at*
 unfold ab at e ⊢;rw[aE h.az9];by_cases h0:n<0
 .have es:bX n= -1:=by unfold bX;rw[yD h0]
  rw[es,O4 h0] at e;rw[O4 h0] at hl ⊢;have hc:iX (45::TT (-n) d) (FL 1) (FL ((TT (-n) d).length+1))=FL (.str (TT (-n) d)):=by rw[mF (s:=45::TT (-n) d) (l:=1) (h:=(TT (-n) d).length+1) (by lia) (by simp)];simp
  simp only[go_sem,ya,La,e,show (-1:Int)<0 by decide,eP,fg,dM,hc]
 .by_cases h1:n=0
  .subst h1;have es:bX 0=0:=rfl;rw[es] at e;simp only[go_sem,ya,La,e,show ¬(0:Int)<0 by decide,yM,Int.neg_zero]
  .have es:bX n=1:=by unfold bX;rw[yt h0,yt h1]
   rw[es] at e
   have:TT (-n) d=45::TT n d:=by rw[O4 (by lia),yao]
   rw[this]
   simp only[go_sem,ya,La,e,show ¬(1:Int)<0 by decide,show ¬(1:Int)=0 by decide,gX (a:=[45]) (b:=TT n d) (by simp;lia),ym,yG]
end
end
end VE
end
section
namespace VE
open Go (IntKind)
section
variable {K M:Nat}{a b:Rat}
def adB(n:Int)(d:Nat):UO ycZ n d=.aw [aa n,aa d,.bool ycZ]:=rfl
def KP{a b:Int}(ha:a.natAbs<1000000000)(hb:b.natAbs<1000000000):(a*b).natAbs<1000000000000000000:=by
 rw[Int.natAbs_mul];exact yP (yai ha hb) (by decide)
section
variable {P:aF}{L:Lib}
def VG(h:Rm P L){a b:Int}(ha: -4000000000000000000<=a/\a<=4000000000000000000)(hb:0<b/\b<=4000000000000000000):ab P L 277 [aa a,aa b] (.str (RT (wI a b))):=by
 rw[adx hb.1];exact ay9 h.az7 h.Ww h.rk ha hb
def PC(h:Rp P L)(ka:Hq K a)(hK:K<=8000000000):∃q:Bool,ab P L 276 [.str (RT a)] (UO q a.num a.den)/\(q=ycZ->a.num.natAbs<1000000000/\a.den<1000000000):=
 aza h.aAb h.CX h.Bq (n:=a.num) (d:=a.den) (by have:=GK ka;rw[KN] at this;lia)
def GY(h:Rn P L)(ka:Hq K a)(kb:Hq M b)(hK:K+M<=8000000000):ab P L 267 [.str (RT a),.str (RT b)] (.str (RT (a*b))):=by
 have⟨q1,e1,b1⟩:=PC h.toRp ka (by lia);have⟨q2,e2,b2⟩:=PC h.toRp kb (by lia);have aAm:=FN a b;by_cases hq:(q1=ycZ/\q2=ycZ)
 .obtain ⟨rfl,rfl⟩:=hq;have⟨R4,Y7⟩:=b1 rfl;have⟨b21,b22⟩:=b2 rfl;have p1:=KP R4 b21;have p2:=KP (a:=(a.den:Int)) (b:=(b.den:Int)) (by lia) (by lia);have e3:=VG h.toRm (a:=a.num*b.num) (b:=(a.den:Int)*b.den) (by lia) (by lia);rw[<-mul_eq] at e3;rw[adB] at e1 e2;unfold ab at e1 e2 e3 ⊢;rw[aE h.ahz]
  simp only[go_sem,ya,K9,e1,e2,wrap64 (n:=a.num*b.num) (by lia) (by lia),wrap64 (n:=(a.den:Int)*(b.den:Int)) (by lia) (by lia),e3]
 .have bO:∃n1 d1 n2 d2,bL P L (D P L) 276 [.str (RT a)]=FL (.aw [aa n1,aa d1,.bool q1])/\bL P L (D P L) 276 [.str (RT b)]=FL (.aw [aa n2,aa d2,.bool q2]):=by
   cases q1<;>cases q2<;>exact⟨_,_,_,_,e1,e2⟩
  have⟨n1,d1,n2,d2,e1,e2⟩:=bO;have⟨x,y,e3,hx,hy⟩:=KO h.toRm ka (by lia);have⟨z,w,e4,hz,hw⟩:=KO h.toRm kb (by lia);have Hn:max K M<=8000000000:=by lia
  have⟨r,e5,hr⟩:=LL (K:=max K M) h.LO h.mi h.jw h.cN Hn hx hz (ka.1.mono (by lia)).r (kb.1.mono (by lia)).r;have⟨s,e6,hs⟩:=LL (K:=max K M) h.LO h.mi h.jw h.cN Hn hy hw (ka.2.mono (by lia)).r (kb.2.mono (by lia)).r;have e7:=VF h.toRm hK hr hs (ka.1.mul kb.1) (ka.2.mul kb.2) (by lia);rw[<-mul_eq] at e7;obtain⟨xw,xl,rfl,eH,_,_,_⟩:=hx;obtain⟨yw,yl,rfl,eI,_,_,_⟩:=hy;obtain⟨zw,zl,rfl,qc,_,_,_⟩:=hz;obtain⟨ww,wl,rfl,qd,_,_,_⟩:=hw;obtain⟨da,rl,rfl,mX,_,_,_⟩:=hr;obtain⟨sw,sl,rfl,mw,_,_,_⟩:=hs;have hb:¬(q1=ycZ/\q2=ycZ):=hq;unfold ab at e3 e4 e5 e6 e7 ⊢;rw[aE h.ahz]
  cases q1 with
  | false=>
   simp only[go_sem,ya,yb,K9,aQ,e1,e2,e3,e4,eH.pu,eH.ai,eH.one,eI.pu,eI.ai,eI.one,qc.pu,qc.ai,qc.one,qd.pu,qd.ai,qd.one,mX.ai,mw.ai,bY,bz,Cc,gj,GJ,e5,e6,e7]
  | true=>
   cases q2 with
   | true=>exact absurd ⟨rfl,rfl⟩ hb
   | false=>
    simp only[go_sem,ya,yb,K9,aQ,e1,e2,e3,e4,eH.pu,eH.ai,eH.one,eI.pu,eI.ai,eI.one,qc.pu,qc.ai,qc.one,qd.pu,qd.ai,qd.one,mX.ai,mw.ai,bY,bz,Cc,gj,GJ,e5,e6,e7]
def Ez(h:Rp P L)(ka:Hq K a)(kb:Hq M b)(hK:K+M+1<=8000000000):ab P L 264 [.str (RT a),.str (RT b)] (.str (RT (a+b))):=by
 have⟨q1,e1,b1⟩:=PC h ka (by lia);have⟨q2,e2,b2⟩:=PC h kb (by lia);have aAm:=FN a b;by_cases hq:(q1=ycZ/\q2=ycZ)
 .obtain ⟨rfl,rfl⟩:=hq;have⟨R4,Y7⟩:=b1 rfl;have⟨b21,b22⟩:=b2 rfl;have p1:=KP (a:=a.num) (b:=(b.den:Int)) (by lia) (by lia);have p2:=KP (a:=b.num) (b:=(a.den:Int)) (by lia) (by lia);have p3:=KP (a:=(a.den:Int)) (b:=(b.den:Int)) (by lia) (by lia);have e3:=VG h.toRm (a:=a.num*b.den+b.num*a.den) (b:=(a.den:Int)*b.den) (by lia) (by lia);rw[<-add_eq] at e3;rw[adB] at e1 e2;unfold ab at e1 e2 e3 ⊢;rw[aE h.ahy]
  simp only[go_sem,ya,K8,e1,e2,wrap64 (n:=a.num*(b.den:Int)) (by lia) (by lia),wrap64 (n:=b.num*(a.den:Int)) (by lia) (by lia),wrap64 (n:=a.num*(b.den:Int)+b.num*(a.den:Int)) (by lia) (by lia),wrap64 (n:=(a.den:Int)*(b.den:Int)) (by lia) (by lia),e3]
 .have bO:∃n1 d1 n2 d2,bL P L (D P L) 276 [.str (RT a)]=FL (.aw [aa n1,aa d1,.bool q1])/\bL P L (D P L) 276 [.str (RT b)]=FL (.aw [aa n2,aa d2,.bool q2]):=by
   cases q1<;>cases q2<;>exact⟨_,_,_,_,e1,e2⟩
  have⟨n1,d1,n2,d2,e1,e2⟩:=bO;have⟨x,y,e3,hx,hy⟩:=KO h.toRm ka (by lia);have⟨z,w,e4,hz,hw⟩:=KO h.toRm kb (by lia);have Hn:max K M<=8000000000:=by lia
  have⟨r,e5,hr⟩:=LL (K:=max K M) h.LO h.mi h.jw h.cN Hn hx hw (ka.1.mono (by lia)).r (kb.2.mono (by lia)).r;have⟨r2,Y8,nM⟩:=LL (K:=max K M) h.LO h.mi h.jw h.cN Hn hz hy (kb.1.mono (by lia)).r (ka.2.mono (by lia)).r;have⟨s,e6,hs⟩:=LL (K:=max K M) h.LO h.mi h.jw h.cN Hn hy hw (ka.2.mono (by lia)).r (kb.2.mono (by lia)).r;have k1:Bd (K+M) (a.num*b.den):=ka.1.mul kb.2;have k2:Bd (K+M) (b.num*a.den):=(kb.1.mul ka.2).mono (by lia);have⟨t,e8,ht⟩:=azY (K:=K+M) h.aAc h.W5 h.pG h.QN h.oC h.jw h.cN (by lia) hr nM k1.r k2.r;have e7:=VF h.toRm hK ht hs (k1.WL k2) ((ka.2.mul kb.2).mono (by lia)) (by lia);rw[<-add_eq] at e7;obtain⟨xw,xl,rfl,eH,_,_,_⟩:=hx;obtain⟨yw,yl,rfl,eI,_,_,_⟩:=hy;obtain⟨zw,zl,rfl,qc,_,_,_⟩:=hz;obtain⟨ww,wl,rfl,qd,_,_,_⟩:=hw;obtain⟨da,rl,rfl,mX,_,_,_⟩:=hr;obtain⟨rw2,rl2,rfl,ahE,_,_,_⟩:=nM
  obtain⟨tw,tl,rfl,htw,_,_,_⟩:=ht;obtain⟨sw,sl,rfl,mw,_,_,_⟩:=hs;have hb:¬(q1=ycZ/\q2=ycZ):=hq;unfold ab at e3 e4 e5 Y8 e6 e7 e8 ⊢;rw[aE h.ahy]
  cases q1 with
  | false=>
   simp only[go_sem,ya,yb,K8,aQ,e1,e2,e3,e4,eH.pu,eH.ai,eH.one,eI.pu,eI.ai,eI.one,qc.pu,qc.ai,qc.one,qd.pu,qd.ai,qd.one,mX.ai,ahE.ai,htw.ai,mw.ai,bY,bz,Cc,gj,GJ,e5,Y8,e8,e6,e7]
  | true=>
   cases q2 with
   | true=>exact absurd ⟨rfl,rfl⟩ hb
   | false=>
    simp only[go_sem,ya,yb,K8,aQ,e1,e2,e3,e4,eH.pu,eH.ai,eH.one,eI.pu,eI.ai,eI.one,qc.pu,qc.ai,qc.one,qd.pu,qd.ai,qd.one,mX.ai,ahE.ai,htw.ai,mw.ai,bY,bz,Cc,gj,GJ,e5,Y8,e8,e6,e7]
def VH(h:Rp P L)(ka:Hq K a)(kb:Hq M b)(hK:K+M+1<=8000000000):ab P L 271 [.str (RT a),.str (RT b)] (.str (RT (a-b))):=by
 have e1:=afZ h kb (by lia);have e2:=Ez h ka kb.neg hK;rw[<-Rat.sub_eq_add_neg] at e2;unfold ab at e1 e2 ⊢;rw[aE h.aAa];simp only[go_sem,ya,We,e1,e2]
def inv_divInt(a:Rat)(h:a≠0):a⁻¹=wI (a.den:Int) a.num:=by
 rw[Rat.inv_def]
def af0(h:Rn P L)(Bx:Has P L 283 EN)(ka:Hq K a)(hK:K<=8000000000)(h0:a≠0):ab P L 283 [.str (RT a)] (.str (RT a⁻¹)):=by
 obtain⟨x,y,e3,hx,hy⟩:=KO h.toRm ka hK;have hn:a.num≠0:=fun e=>h0 (ybN.1 e)
 have e7:=VF h.toRm hK hy hx ka.2 ka.1 hn;rw[<-inv_divInt a h0] at e7;obtain⟨xw,xl,rfl,eH,_,_,_⟩:=hx;obtain⟨yw,yl,rfl,eI,_,_,_⟩:=hy;unfold ab at e3 e7 ⊢;rw[aE Bx];simp only[go_sem,ya,yb,EN,aQ,e3,eH.pu,eH.ai,eH.one,eI.pu,eI.ai,eI.one,bY,Cc,gj,GJ,e7]
def ax9(h:Rn P L)(W9:Has P L 266 P7)(Bx:Has P L 283 EN)(ka:Hq K a)(kb:Hq M b)(hK:K+M<=8000000000)(h0:b≠0):ab P L 266 [.str (RT a),.str (RT b)] (.str (RT (a/b))):=by
 have e1:=af0 h Bx kb (by omega) h0;have e2:=GY h ka kb.inv hK;rw[<-Rat.div_def] at e2;unfold ab at e1 e2 ⊢;rw[aE W9];simp only[go_sem,ya,P7,e1,e2]
def af1(h:Rx P L)(ka:Hq K a)(kb:Hq M b)(hK:K+M<=8000000000)(h0:b≠0):ab P L 266 [.str (RT a),.str (RT b)] (.str (RT (a/b))):=ax9 h.toRn h.W9 h.Bx ka kb hK h0
end
end
end VE
end
section
namespace VE
open Go (IntKind)
section
variable {a b s t:List Nat}{k:Nat}
def abw{P:aF}{L:Lib}(a b c d:VC)(s:St):D P L (.seq a (.seq b (.seq c d))) s=qW P L (D P L (.seq a (.seq b c)) s) d:=by
 have e:=DR (P:=P) (L:=L) b c d;rw[nC,nC]
 cases D P L a s with
 | none=>rfl
 | some q=>
  have⟨ex,st⟩:=q
  cases ex with
  | normal=>rw[iS,iS];exact e st
  | ret=>rfl
  | exit id=>rfl
def pg(h:a≠b):cW a b=yda:=by
 cases hb:cW a b with
 | false=>rfl
 | true=>exact absurd (TQ hb) h
def acA:∀a:List Nat,cW a a=ycZ
 | []=>rfl
 | x::a=>by simp[cW,acA a]
def UX(h:a=b):cW a b=ycZ:=h▸acA a
def anp{i:Nat}(h:i<s.length):dj (s.drop i)=(yE 48 s[i]&&yE s[i] 57&&dj (s.drop (i+1))):=by
 rw[yZ h];rfl
section
variable {P:aF}{L:Lib}
def aAn(h:Has P L 287 Lf)(hl:s.length<9223372036854775808):ab P L 287 [.str s] (.bool (dj s)):=by
 have key:=iA P L [0,3] D9
  (fun k st=>∃i:Nat,st=⟨[(0,.str s),(3,aa i)],[],0,0⟩/\i+k=s.length/\dj (s.drop i)=dj s)
  (fun ex st=>∃tm ct,st=⟨tm,[],ct,0⟩/\((ex=.ret/\aj tm 2=.bool yda/\dj s=yda)\/(ex=.exit 0/\dj s=ycZ))) ?_
 .unfold ab;rw[aE h];simp only[go_sem,Lf];generalize hq:D P L (.loop _ D9) _=q;obtain⟨ex,st,rfl,tm,ct,rfl,h2⟩:=bH hq (key s.length) ⟨0,by simp only[go_sem,ya,ap]<;>rfl,by lia,by simp⟩
  rcases h2 with ⟨rfl,h2,h3⟩ | ⟨rfl,h3⟩
  .simp only [go_sem,h2,h3]
  .simp only [go_sem,ap,h3]
 .rintro k st ⟨i,rfl,hk,hs⟩;by_cases hi:i<s.length
  .rw [anp hi] at hs;by_cases h1:s[i]<48
   .right
    have e:yE 48 s[i]=yda:=by
     cases hb:yE 48 s[i] with
     | false=>rfl
     | true=>have:=yv hb;lia
    rw[e,wU,wU] at hs;simp only[go_sem,ya,D9,show (i:Int)<s.length by lia,sj hi,show ((s[i]:Nat):Int)<48 by lia,yM];exact⟨_,_,rfl,by simp,_,_,rfl,.inl ⟨rfl,rfl,hs.symm⟩⟩
   .by_cases h2:57<s[i]
    .right
     have e:yE s[i] 57=yda:=by
      cases hb:yE s[i] 57 with
      | false=>rfl
      | true=>have:=yv hb;lia
     rw[e,Bool.and_false,wU] at hs;simp only[go_sem,ya,D9,show (i:Int)<s.length by lia,sj hi,show ¬((s[i]:Nat):Int)<48 by lia,yH,show (57:Int)<((s[i]:Nat):Int) by lia];exact⟨_,_,rfl,by simp,_,_,rfl,.inl ⟨rfl,rfl,hs.symm⟩⟩
    .left
     rw[yB (show 48<=s[i] by lia),yB (show s[i]<=57 by lia),wS,wS] at hs;simp only[go_sem,ya,D9,show (i:Int)<s.length by lia,sj hi,show ¬((s[i]:Nat):Int)<48 by lia,yH,show ¬(57:Int)<((s[i]:Nat):Int) by lia];refine⟨_,k-1,rfl,by lia,i+1,?_,by lia,hs⟩;rw[wrap64 (by lia) (by lia)];simp only[go_sem,ya,ap]<;>rfl
  .right
   simp only[go_sem,ya,D9,show ¬(i:Int)<s.length by lia];refine⟨_,_,rfl,by simp,_,_,rfl,.inr ⟨rfl,?_⟩⟩;rw[<-hs,xa (by lia)];rfl
def QP(h:Has P L 273 EL)(Hm:Has P L 287 Lf)(hl:s.length<9223372036854775808):ab P L 273 [.str s] (.bool (dV s)):=by
 have e:=aAn Hm hl;unfold ab at e ⊢;rw[aE h]
 match s,hl,e with
 | [],_,_=>
  simp only[go_sem,ya,EL,yJ,show ((0:Nat):Int)=0 from rfl,yM];rfl
 | [b],_,e=>
  have:dV [b]=dj [b]:=by simp[dV]
  rw[this];simp only[go_sem,ya,EL,yy,yJ,yd,show ¬((1:Nat):Int)=0 by decide,show ¬(1:Int)<((1:Nat):Int) by decide,yH,e]
 | b::c::r,hl,e=>
  have hd:dV (b::c::r)=(dj (b::c::r)&& !(yq b 48)):=by simp[dV]
  rw[hd];have BH:r.length+2<9223372036854775808:=by simpa using hl
  by_cases hb:b=48
  .subst hb;simp only[go_sem,ya,EL,yy,show ¬((r.length+1+1:Nat):Int)=0 by lia,yH,show (1:Int)<((r.length+1+1:Nat):Int) by lia,show oh 0 (.str (48::c::r))=FL (.int .u8 48) from rfl,yM]
   simp
  .have:yq b 48=yda:=gW hb
   rw[this,yY,uO];simp only[go_sem,ya,EL,yy,show ¬((r.length+1+1:Nat):Int)=0 by lia,yH,show (1:Int)<((r.length+1+1:Nat):Int) by lia,show oh 0 (.str (b::c::r))=FL (.int .u8 (b:Nat)) from rfl,show ¬((b:Nat):Int)=48 by lia,e]
def acB(h:k<=s.length):iX s (FL 0) (FL k)=FL (.str (s.take k)):=by
 rw[mF (by lia) h,ye]
def Od(h:k<=s.length):iX s (FL k) (FL s.length)=FL (.str (s.drop k)):=by
 rw[mF h (yu _),xN]
def avP(h:Rm P L)(hk:k=bT t)(hl:t.length<9223372036854775808)(hp:dV (t.take k)=ycZ){tm:Env}(t3:aj tm 3=.str t)(t4:aj tm 4=aa k):
  gn [.t 2] (D P L (aD (aD (aD (aD (aD dw.body))))) ⟨tm,[],0,0⟩)=FL (aa (
   if k<t.length/\(dV (t.drop (k+1))=yda\/t.drop (k+1)=[48]\/t.drop (k+1)=[49]) then 1
   else if 600<k\/600<t.length-k-1 then 4
   else if k<t.length/\wJ (fZ (t.take k)) (fZ (t.drop (k+1)))≠1 then 1
   else 0)):=by
 have YW:k<=t.length:=by rw[hk];exact Jm t
 have e3:=QP h.QO h.Hm (s:=t.drop (k+1)) (by rw[xY];lia)
 unfold ab at e3;have DD:(k:Int)+1=((k+1:Nat):Int):=rfl;by_cases hs:k<t.length
 .have c2:=Od (s:=t) (k:=k+1) (by lia);have lD:=Zy t (by lia);rw[<-hk] at lD;have MW:(t.drop (k+1)).length=t.length-k-1:=by rw[xY];lia
  have hlp:(t.take k).length=k:=by rw[yT];lia
  generalize hqe:t.drop (k+1)=q at*
  generalize hpe:t.take k=p at*
  cases hd:dV q with
  | false=>
   rw[yD ⟨hs,.inl rfl⟩];rw[hd] at e3
   simp only[go_sem,ya,dw,aD,t3,t4,show (k:Int)<(t.length:Int) by lia,yM,DD,wrapN (n:=k+1) (by lia),eP,fg,dM,c2,e3,yY]
  | true=>
   rw[hd] at e3;by_cases kI:q=[48]
   .rw [yD ⟨hs,.inr (.inl kI)⟩]
    simp only[go_sem,ya,dw,aD,t3,t4,show (k:Int)<(t.length:Int) by lia,yM,DD,wrapN (n:=k+1) (by lia),eP,fg,dM,c2,e3,yX,mG,UX kI]
   .by_cases p6:q=[49]
    .rw [yD ⟨hs,.inr (.inr p6)⟩]
     simp only[go_sem,ya,dw,aD,t3,t4,show (k:Int)<(t.length:Int) by lia,yM,DD,wrapN (n:=k+1) (by lia),eP,fg,dM,c2,e3,yX,mG,pg kI,UX p6]
    .rw [yt (by simp only[hs,tP,ybi,yct];exact fun e=>e.elim kI p6)]
     by_cases Dd:600<k
     .rw [yD (.inl Dd)]
      simp only[go_sem,ya,dw,aD,t3,t4,show (k:Int)<(t.length:Int) by lia,yM,DD,wrapN (n:=k+1) (by lia),eP,fg,dM,c2,e3,yX,mG,pg kI,pg p6,show (600:Int)<(k:Int) by lia]
     .by_cases aAo:600<t.length-k-1
      .rw [yD (.inr aAo)]
       simp only[go_sem,ya,dw,aD,t3,t4,show (k:Int)<(t.length:Int) by lia,yM,DD,wrapN (n:=k+1) (by lia),eP,fg,dM,c2,e3,yX,mG,pg kI,pg p6,show ¬(600:Int)<(k:Int) by lia,yH,show (t.length:Int)-(k:Int)=((t.length-k:Nat):Int) by lia,wrapN (n:=t.length-k) (by lia),show ((t.length-k:Nat):Int)-1=((t.length-k-1:Nat):Int) by lia,wrapN (n:=t.length-k-1) (by lia),show (600:Int)<((t.length-k-1:Nat):Int) by lia]
      .rw [yt (by lia)];have zg:=FW _ rfl hp;have p9:=FW _ rfl hd;have ij:fZ q≠0:=fun e=>kI (by rw[<-p9,e];rfl)
       have rN:fZ q≠1:=fun e=>p6 (by rw[<-p9,e];rfl)
       generalize fZ p=n at*
       generalize fZ q=d at*
       have hT:TT (n:Int) d=t:=by
        unfold TT;rw[mC,yt rN,zg,p9];exact lD.symm
       have⟨x,y,e4,hx,hy⟩:=ahD h.toRb (n:=(n:Int)) (d:=d) (by rw[wv,zg];lia) (by rw[p9];lia)
       rw[hT] at e4;obtain⟨xw,xl,rfl,eH,dx,nx,vx⟩:=hx;obtain⟨yw,yl,rfl,eI,dy,ny,vy⟩:=hy;rw[wv] at vx vy;have rL:n<10^p.length:=by rw[<-zg];exact JH n
       have Y9:d<10^q.length:=by rw[<-p9];exact JH d
       obtain⟨K,hK⟩:∃K:Nat,K=600:=⟨_,rfl⟩;have RL:∀{m j:Nat},m<10^j->j<=K->m<1000000000^K:=fun {m j} h1 h2=>
        yP h1 (xi (y9 (by decide) h2) (ub (by decide) K))
       have lxl:=kA dx nx (by rw[vx];exact RL rL (by lia))
       have lyl:=kA dy ny (by rw[vy];exact RL Y9 (by lia))
       have⟨g,lg,e5,hg,dgg,ngg,vg⟩:=afV h.ahu h.LM h.mi h.pG h.rq h.cN h.sG eH eI dx dy nx ny (by lia) (by lia);rw[vx,vy] at vg;have Mu:0<wJ n d:=Nat.gcd_pos_of_pos_right _ (by lia);unfold ab at e4 e5;by_cases Xb:lg.length=1
       .obtain ⟨z,rfl⟩:∃z,lg=[z]:=by
         cases lg with
         | nil=>simp at Xb
         | cons z r=>cases r with
          | nil=>exact⟨z,rfl⟩
          | cons y r=>simp at Xb
        have gz:=lY.1 dgg;have M1:z=(wJ n d:Nat):=by simp[dv] at vg;lia
        have e8:=hg.bq (i:=0) (by simp);simp only[wG] at e8;by_cases jd:wJ n d=1
        .rw [yt (by simp[jd])]
         simp only[go_sem,ya,yb,dw,aD,t3,t4,show (k:Int)<(t.length:Int) by lia,yM,DD,wrapN (n:=k+1) (by lia),eP,fg,dM,c2,e3,yX,mG,pg kI,pg p6,show ¬(600:Int)<(k:Int) by lia,yH,show (t.length:Int)-(k:Int)=((t.length-k:Nat):Int) by lia,wrapN (n:=t.length-k) (by lia),show ((t.length-k:Nat):Int)-1=((t.length-k-1:Nat):Int) by lia,wrapN (n:=t.length-k-1) (by lia),show ¬(600:Int)<((t.length-k-1:Nat):Int) by lia,e4,aQ,eH.pu,eH.ai,eH.one,eI.pu,eI.ai,eI.one,gj,aT,yd,df,e5,hg.len,hg.shut,yy,yJ,show ((1:Nat):Int)=(1:Int) from rfl,yX,e8,M1,jd]
        .rw [yD ⟨hs,jd⟩]
         simp only[go_sem,ya,yb,dw,aD,t3,t4,show (k:Int)<(t.length:Int) by lia,yM,DD,wrapN (n:=k+1) (by lia),eP,fg,dM,c2,e3,yX,mG,pg kI,pg p6,show ¬(600:Int)<(k:Int) by lia,yH,show (t.length:Int)-(k:Int)=((t.length-k:Nat):Int) by lia,wrapN (n:=t.length-k) (by lia),show ((t.length-k:Nat):Int)-1=((t.length-k-1:Nat):Int) by lia,wrapN (n:=t.length-k-1) (by lia),show ¬(600:Int)<((t.length-k-1:Nat):Int) by lia,e4,aQ,eH.pu,eH.ai,eH.one,eI.pu,eI.ai,eI.one,gj,aT,yd,df,e5,hg.len,hg.shut,yy,yJ,show ((1:Nat):Int)=(1:Int) from rfl,yX,e8,M1,show ¬((wJ n d:Nat):Int)=1 by lia,yY]
       .have jd:wJ n d≠1:=fun e=>Xb (by
         have h1:lg.length<=1:=adw dgg ngg (by lia);have h2:0<lg.length:=by
          rcases xj lg.length with h0 | h0
          .rw [yL h0] at vg;simp[dv] at vg;lia
          .exact h0
         lia)
        rw[yD ⟨hs,jd⟩]
        simp only[go_sem,ya,yb,dw,aD,t3,t4,show (k:Int)<(t.length:Int) by lia,yM,DD,wrapN (n:=k+1) (by lia),eP,fg,dM,c2,e3,yX,mG,pg kI,pg p6,show ¬(600:Int)<(k:Int) by lia,yH,show (t.length:Int)-(k:Int)=((t.length-k:Nat):Int) by lia,wrapN (n:=t.length-k) (by lia),show ((t.length-k:Nat):Int)-1=((t.length-k-1:Nat):Int) by lia,wrapN (n:=t.length-k-1) (by lia),show ¬(600:Int)<((t.length-k-1:Nat):Int) by lia,e4,aQ,eH.pu,eH.ai,eH.one,eI.pu,eI.ai,eI.one,gj,aT,yd,df,e5,hg.len,hg.shut,show ¬(lg.length:Int)=1 by lia,yY]
 .have hkt:k=t.length:=by lia
  rw[yt (by lia)];by_cases Dd:600<k
  .rw [yD (.inl Dd)];simp only[go_sem,ya,dw,aD,t3,t4,show ¬(k:Int)<(t.length:Int) by lia,yH,show (600:Int)<(k:Int) by lia,yM]
  .rw [yt (by lia),yt (by lia)]
   simp only[go_sem,ya,dw,aD,t3,t4,show ¬(k:Int)<(t.length:Int) by lia,yH,show ¬(600:Int)<(k:Int) by lia,show (t.length:Int)-(k:Int)=((t.length-k:Nat):Int) by lia,wrapN (n:=t.length-k) (by lia),show ((t.length-k:Nat):Int)-1= -1 by lia,show IntKind.wrap .i64 (-1)= -1 by rfl,show ¬(600:Int)<(-1:Int) by lia]
def aeo(h:Rm P L){b:Nat}{r:List Nat}{neg:Bool}(fD:decide (((b:Nat):Int)=45)=neg)(hl:t.length<9223372036854775808){tm:Env}(t0:aj tm 0=.str (b::r))(t3:aj tm 3=.str t):
  gn [.t 2] (D P L (aD (aD (aD dw.body))) ⟨tm,[],0,0⟩)=FL (aa (Bu neg t)):=by
 obtain⟨k,hk⟩:∃k,k=bT t:=⟨_,rfl⟩;have YW:k<=t.length:=by rw[hk];exact Jm t
 have e1:=Hg h.CX (s:=t) (by lia);have e2:=QP h.QO h.Hm (s:=t.take k) (by rw[yT];lia)
 have e3:=QP h.QO h.Hm (s:=t.drop (k+1)) (by rw[xY];lia)
 unfold Bu;rw[<-hk] at e1 ⊢;have c1:=acB YW;have hI:oh 0 (.str (b::r))=FL (.int .u8 (b:Nat)):=rfl;unfold ab at e1 e2 e3;generalize hp:t.take k=p at*
 generalize hq:t.drop (k+1)=q at*
 cases hd:dV p with
 | false=>
  rw[yD (.inl rfl)];rw[hd] at e2;simp only[go_sem,ya,dw,aD,t3,e1,eP,fg,dM,c1,e2,yY]
 | true=>
  rw[hd] at e2;by_cases hz:neg=ycZ/\p=[48]
  .rw [yD (.inr hz)];have⟨z1,z2⟩:=hz;rw[z1] at fD;have hb:=of_decide_eq_true fD;subst z2;simp only[go_sem,ya,dw,aD,t0,t3,e1,eP,fg,dM,c1,e2,yX,hI,hb,yM,mG,show cW [48] [48]=ycZ from rfl]
  .rw [yt (by simp only[ybi,yct];exact hz)]
   have fin:∀tm',aj tm' 3=.str t->aj tm' 4=aa k->D P L (.seq (bB (aD (aD (aD dw.body)))) (bB (aD (aD (aD (aD dw.body)))))) ⟨tm,[],0,0⟩=FL (.normal,⟨tm',[],0,0⟩)->gn [.t 2] (D P L (aD (aD (aD dw.body))) ⟨tm,[],0,0⟩)=FL (aa (
     if k<t.length/\(dV q=yda\/q=[48]\/q=[49]) then 1
     else if 600<k\/600<t.length-k-1 then 4
     else if k<t.length/\wJ (fZ p) (fZ q)≠1 then 1
     else 0)):=fun tm' f3 f4 e=>by
    show gn [.t 2] (D P L (.seq (bB (aD (aD (aD dw.body)))) (.seq (bB (aD (aD (aD (aD dw.body))))) (aD (aD (aD (aD (aD dw.body))))))) ⟨tm,[],0,0⟩)=_
    rw[DR,e,iS,<-hp,<-hq];exact avP h hk hl (by rw[hp];exact hd) f3 f4
   by_cases hb:((b:Nat):Int)=45
   .have aAp:p≠[48]:=fun e=>hz ⟨by rw[<-fD];exact y8 hb,e⟩
    refine fin _ ?_ ?_ (by simp only[go_sem,ya,dw,bB,aD,t0,t3,e1,eP,fg,dM,c1,e2,yX,hI,hb,yM,mG,pg aAp]<;>rfl)<;>simp only[go_sem,ya,t3]
   .refine fin _ ?_ ?_ (by simp only[go_sem,ya,dw,bB,aD,t0,t3,e1,eP,fg,dM,c1,e2,yX,hI,hb,yH]<;>rfl)<;>simp only[go_sem,ya,t3]
def aAq(h:Rm P L)(hl:s.length<9223372036854775808):ab P L 263 [.str s] (aa (ik s)):=by
 unfold ab;rw[aE h.aAg]
 cases s with
 | nil=>
  have e1:=Hg h.CX (s:=[]) (by simp);have e2:=QP h.QO h.Hm (s:=[]) (by simp);unfold ab at e1 e2;have hc:iX [] (FL 0) (FL 0)=FL (.str []):=rfl;simp only[go_sem,ya,dw,yJ,show ¬(0:Int)<((0:Nat):Int) by decide,yH,e1,bT,eP,fg,dM,hc,e2,show dV []=yda from rfl,yY];rfl
 | cons b t=>
  have BH:t.length+1<9223372036854775808:=by simpa using hl
  have hI:oh 0 (.str (b::t))=FL (.int .u8 (b:Nat)):=rfl;by_cases hb:b=45
  .subst hb;have fin:∀tm',aj tm' 0=.str (45::t)->aj tm' 3=.str t->D P L (.seq (bB dw.body) (.seq (bB (aD dw.body)) (bB (aD (aD dw.body))))) ⟨[(0,.str (45::t))],[],0,0⟩=FL (.normal,⟨tm',[],0,0⟩)->gn [.t 2] (D P L dw.body ⟨[(0,.str (45::t))],[],0,0⟩)=FL (aa (ik (45::t))):=fun tm' f0 f3 e=>by
    show gn [.t 2] (D P L (.seq (bB dw.body) (.seq (bB (aD dw.body)) (.seq (bB (aD (aD dw.body))) (aD (aD (aD dw.body)))))) ⟨[(0,.str (45::t))],[],0,0⟩)=_
    rw[abw,e,iS]
    exact aeo h (b:=45) rfl (by lia) f0 f3
   have hc:iX (45::t) (FL 1) (FL (t.length+1))=FL (.str t):=by
    have:=Od (s:=45::t) (k:=1) (by simp)
    simpa using this
   refine fin _ ?_ ?_ (by simp only[go_sem,ya,dw,bB,aD,yy,show (0:Int)<((t.length+1:Nat):Int) by lia,yM,ET,eP,fg,dM,hc]<;>rfl)<;>simp only[go_sem,ya]
  .have fin:∀tm',aj tm' 0=.str (b::t)->aj tm' 3=.str (b::t)->D P L (.seq (bB dw.body) (.seq (bB (aD dw.body)) (bB (aD (aD dw.body))))) ⟨[(0,.str (b::t))],[],0,0⟩=FL (.normal,⟨tm',[],0,0⟩)->gn [.t 2] (D P L dw.body ⟨[(0,.str (b::t))],[],0,0⟩)=FL (aa (ik (b::t))):=fun tm' f0 f3 e=>by
    show gn [.t 2] (D P L (.seq (bB dw.body) (.seq (bB (aD dw.body)) (.seq (bB (aD (aD dw.body))) (aD (aD (aD dw.body)))))) ⟨[(0,.str (b::t))],[],0,0⟩)=_
    rw[abw,e,iS]
    have:=aeo h (b:=b) (neg:=yda) (yQ (by lia)) (by simpa using hl) f0 f3
    rw[this];simp only[ik,yt hb]
   refine fin _ ?_ ?_ (by simp only[go_sem,ya,dw,bB,aD,yy,show (0:Int)<((t.length+1:Nat):Int) by lia,yM,hI,show ¬((b:Nat):Int)=45 by lia]<;>rfl)<;>simp only[go_sem,ya]
end
end
end VE
end
section
namespace VE
open Go (IntKind)
def eJ(v:AV)(l:List (List Nat)):Prop:=cz v (l.map AV.str)
section
variable {v:AV}{l:List (List Nat)}
def eJ.len(h:eJ v l){hp:Hp}:kB hp 1 v=FL (.int .i64 (l.length:Nat)):=by
 have:=cz.len (hp:=hp) h
 grind
def eJ.pu(h:eJ v l):aX v=ycZ:=cz.pu h
def eJ.ai(h:eJ v l)(n:Nat){hp:Hp}:freeze (n+1) hp v=FL (v,hp):=cz.ai h n
def eJ.cg(h:eJ v l):VE.cg v=v:=cz.cg h
def eJ.bq(h:eJ v l){i:Nat}(hi:i<l.length):jm 1 i v=FL (.bN (.str l[i]::(l.map AV.str).drop (i+1))):=by
 have:=cz.bq h (i:=i) (by simpa using hi)
 grind
def JJ(e:Bool)(l:List (List Nat)):eJ (.au e l.length (l.map AV.str)) l:=by
 have:=Ga e (l.map AV.str)
 rwa[yU] at this
end
section
variable {P:aF}{L:Lib}
def ar1(h:Rm P L){a:Rat}{K:Nat}(ka:Hq K a)(hK:K<=4000000000):bL P L (D P L) 284 [.str (RT a)]=FL (.str (aV a.num))/\bL P L (D P L) 285 [.str (aV a.num)]=FL (.str (aC a.num.natAbs))/\bL P L (D P L) 286 [.str (RT a)]=FL (.str (aC a.den)):=by
 have hl:=GK ka;have e0:=Hg h.CX (s:=RT a) (by lia);have mR:bT (RT a)=(aV a.num).length/\(RT a).take (aV a.num).length=aV a.num:=by
  unfold RT;by_cases hd:a.den=1
  .rw [yD hd,xT]
   have:=Nq a.num []
   rw[xT] at this;exact⟨by rw[this];simp[bT],xN⟩
  .rw [yt hd];exact⟨by rw[Nq];simp[bT],tK⟩
 have⟨eC,Ao⟩:=mR;rw[eC] at e0;have hlen:(aV a.num).length<=(RT a).length:=by unfold RT;simp
 have e1:bL P L (D P L) 284 [.str (RT a)]=FL (.str (aV a.num)):=by
  rw[aE h.aAh]
  have:=acB (s:=RT a) hlen
  simp only[go_sem,ya,Wf,e0,eP,fg,dM,this,Ao]
 have hT:aV a.num=TT a.num 1:=by unfold TT;simp
 have e2:bL P L (D P L) 285 [.str (aV a.num)]=FL (.str (aC a.num.natAbs)):=by
  have e:=afY h (n:=a.num) (d:=1) (by rw[<-hT];lia) (fun _=>rfl)
  rw[<-hT] at e;rw[aE h.aAi];by_cases h0:a.num<0
  .have es:bX a.num= -1:=by unfold bX;rw[yD h0]
   rw[es] at e;rw[nX h0] at e ⊢;have hc:=Od (s:=45::aC a.num.natAbs) (k:=1) (by simp);simp only[List.drop_succ_cons,ye,yy] at hc;simp only[go_sem,ya,Qc,e,show (-1:Int)<0 by decide,eP,fg,dM,hc]
  .have es:¬bX a.num<0:=by unfold bX;rw[yt h0];split<;>decide
   have hi:aV a.num=aC a.num.natAbs:=by
    obtain⟨m,hm⟩:∃m:Nat,a.num=m:=⟨a.num.toNat,by lia⟩;rw[hm,mC,wv]
   simp only[go_sem,ya,Qc,e,es];rw[hi]
 have e3:bL P L (D P L) 286 [.str (RT a)]=FL (.str (aC a.den)):=by
  rw[aE h.aAj];by_cases hd:a.den=1
  .have hR:(RT a).length=(aV a.num).length:=by unfold RT;rw[yD hd];simp
   rw[hd,show aC 1=[49] by decide];simp only[go_sem,ya,Qd,e0,show ((aV a.num).length:Int)=((RT a).length:Int) by lia,yM]
  .have hR:RT a=(aV a.num++[47])++aC a.den:=by unfold RT;rw[yt hd];simp
   have hRl:(RT a).length=(aV a.num).length+1+(aC a.den).length:=by rw[hR];simp;lia
   have hc:=Od (s:=RT a) (k:=(aV a.num).length+1) (by lia);have jW:(RT a).drop ((aV a.num).length+1)=aC a.den:=by
    rw[hR,show (aV a.num).length+1=(aV a.num++[47]).length by simp,tL]
   rw[jW] at hc
   simp only[go_sem,ya,Qd,e0,show ¬((aV a.num).length:Int)=((RT a).length:Int) by lia,show ((aV a.num).length:Int)+1=(((aV a.num).length+1:Nat):Int) from rfl,wrapN (n:=(aV a.num).length+1) (by lia),eP,fg,dM,hc]
 exact⟨e1,e2,e3⟩
def aya(h:Rl P L){a:Rat}{K:Nat}(ka:Hq K a)(hK:K<=4000000000):ab P L 269 [.str (RT a)] (aa (if LG a=ycZ then 4 else 0)):=by
 obtain⟨e1,e2,e3⟩:=ar1 h.toRm ka hK;unfold ab;rw[aE h.aAk];unfold LG LN;rw[wv];by_cases h1:600<(aC a.num.natAbs).length
 .rw [y8 h1,vN,yD rfl];simp only[go_sem,ya,Lb,e1,e2,show (600:Int)<((aC a.num.natAbs).length:Int) by omega,yM]
 .by_cases h2:600<(aC a.den).length
  .rw [y8 h2,Bool.or_true,yD rfl];simp only[go_sem,ya,Lb,e1,e2,show ¬(600:Int)<((aC a.num.natAbs).length:Int) by omega,yH,e3,show (600:Int)<((aC a.den).length:Int) by omega]
  .rw [yQ h1,yQ h2,Bool.or_self,yt (by decide)];simp only[go_sem,ya,Lb,e1,e2,show ¬(600:Int)<((aC a.num.natAbs).length:Int) by omega,yH,e3,show ¬(600:Int)<((aC a.den).length:Int) by omega]
end
end VE
end
section
namespace VE
open Go (IntKind)
open Classical in
noncomputable def bl(s:List Nat):Rat:=if h:ik s=0 then Classical.choose (avt h) else 0
def Oe{s:List Nat}(h:ik s=0):s=RT (bl s)/\(aC (bl s).num.natAbs).length<=600/\(aC (bl s).den).length<=600:=by
 unfold bl
 grind
def abx{z:Int}{k M:Nat}(h:(aC z.natAbs).length<=k)(hM:4*k<=M):Bd M z:=by
 have h1:=JH z.natAbs;have h2:=JI (aC z.natAbs).length;have h3:(2:Nat)^(4*(aC z.natAbs).length)<=2^M:=y9 (by decide) (by lia);exact yP h1 (xi h2 h3)
def OI{s:List Nat}(h:ik s=0){M:Nat}(hM:2400<=M):Hq M (bl s):=by
 have⟨_,h1,h2⟩:=Oe h
 exact⟨abx h1 (by lia),abx (z:=((bl s).den:Int)) (by rw[wv];exact h2) (by lia)⟩
noncomputable def ahF(s:List Nat)(least:Int):Int:=if ik s=0 then (if bX (bl s).num<least then 3 else 0) else ik s
instance (k:Nat) (z:Int):Decidable (Bd k z):=inferInstanceAs (Decidable (z.natAbs<2^k))
def aAr:RT 0=[48]:=by decide
def aAs:RT 1=[49]:=by decide
def Xc:Hq 2 0:=⟨by decide,by decide⟩
def aAt:Hq 2 1:=⟨by decide,by decide⟩
def ar2{a:Rat}(h:RT a=[48]):a=0:=by
 unfold RT at h;have hp:=AQ a.den;by_cases hd:a.den=1
 .rw [yD hd,xT] at h;by_cases h0:a.num<0
  .rw [nX h0] at h;simp at h
  .obtain ⟨m,hm⟩:∃m:Nat,a.num=m:=⟨a.num.toNat,by lia⟩;rw[hm,mC] at h;have hv:=DP m;rw[h] at hv;have hv:FL 0=FL m:=hv
   have:m=0:=by simp_all
   simp_all
 .rw [yt hd] at h;have hl:=congrArg wb h
  grind
def avQ(a:Rat):cW (RT a) [48]=decide (a=0):=by
 by_cases h:a=0
 .subst h;exact UX aAr
 .rw [yQ h];exact pg (fun e=>h (ar2 e))
section
variable {P:aF}{L:Lib}
def aAu(h:Rp P L)(sH:Has P L 315 EO){a b:Rat}{K M:Nat}(ka:Hq K a)(kb:Hq M b)(hK:K+M+1<=8000000000):ab P L 315 [.str (RT a),.str (RT b)] (aa (bX (a-b).num)):=by
 have e1:=VH h ka kb hK;have e2:=PB h.toRm (ka.sub kb) hK;unfold ab at e1 e2 ⊢;rw[aE sH];simp only[go_sem,ya,EO,e1,e2]
end
end VE
end
section
namespace VE
open Go (IntKind)
def ZZ(q:Rat):q.num<0↔q<0:=by
 have h:=@yca q
 grind
def ar3(a b:Rat):bX (a-b).num=rn a b:=by
 unfold bX rn;by_cases h1:a<b
 .rw [yD ((ZZ _).2 (by grind)),yD h1]
 .rw [yt (fun e=>h1 (by have:=(ZZ _).1 e;grind)),yt h1]
  by_cases h2:a=b
  .subst h2;rw[yD (by rw[Rat.sub_self];rfl),yD rfl]
  .rw [yt (fun e=>h2 (by have:=ybN.1 e;grind)),yt h2]
def avR(hs h:Rat):Bool:=decide (hs=0)||decide (h<hs)
end VE
end
section
namespace VE
open Go (IntKind)
section
variable {s1 s2 s3 s4:Int}{w1 w2 w3 w4:AV}{l1 l2 l3 l4:List Nat}
def iC(a b c d:AV)(r:List AV):fT 4 ycZ (a::b::c::d::r)=FL (.agg [a,b,c,d]):=rfl
end
end VE
end
section
namespace VE
open Go (IntKind)
structure F4(c1 c2 c3 c4:AV):Prop where
 ai:∀(n:Nat) (hp:Hp),freeze (n+20) hp (.agg [c1,c2,c3,c4])=FL (.agg [c1,c2,c3,c4],hp)
 eA:∀hp:Hp,result hp (.agg [c1,c2,c3,c4])=FL (.agg [c1,c2,c3,c4])
 st:∀(hp:Hp) (ct id:Nat) (a b c d:AV),fy hp ct id 0 4 [c1,c2,c3,c4] (FL (.cells ycZ ycZ ycZ 4 [a,b,c,d]))=FL (.aw [],aW hp id (.cells ycZ ycZ ycZ 4 [c1,c2,c3,c4]),ct)
 bx:∀ct:Nat,lH ct 4 [c1,c2,c3,c4]=FL (.ptr ct 0,.cells ycZ ycZ ycZ 4 [c1,c2,c3,c4])
 o1:er c1=ycZ
 o2:er c2=ycZ
 o3:er c3=ycZ
 o4:er c4=ycZ
 pu:aX (.agg [c1,c2,c3,c4])=ycZ
 z1:∀(n:Nat) (hp:Hp),freeze (n+1) hp c1=FL (c1,hp)
 z2:∀(n:Nat) (hp:Hp),freeze (n+1) hp c2=FL (c2,hp)
 z3:∀(n:Nat) (hp:Hp),freeze (n+1) hp c3=FL (c3,hp)
 z4:∀(n:Nat) (hp:Hp),freeze (n+1) hp c4=FL (c4,hp)
def bM.gen{v:AV}{a:Rat}(h:bM v a):∃c1 c2 c3 c4,v=.agg [c1,c2,c3,c4]/\F4 c1 c2 c3 c4:=by
 obtain⟨s1,w1,s2,w2,rfl,h1,h2⟩:=h;have⟨l1,u1⟩:=h1.aK;have⟨l2,u2⟩:=h2.aK;refine⟨_,_,_,_,rfl,fun n hp=>?_,kX u1 u2,fun hp ct id a b c d=>kW u1 u2 hp ct id a b c d,fun ct=>by simp only[go_sem,yb,aQ,u1.pu,u1.one,u2.pu,u2.one],rfl,u1.one,rfl,u2.one,by simp[aX,aG,u1.pu,u2.pu],fun _ _=>rfl,fun n _=>u1.ai n,fun _ _=>rfl,fun n _=>u2.ai n⟩;exact bY _ _ (by simp only[go_sem,u1.ai,u2.ai])
def adC{a b:Int}:bS [a,b]=0↔a=0/\b=0:=by
 simp only[bS]
 grind
def ar4{a b c:Int}:bS [a,b,c]=0↔a=0/\b=0/\c=0:=by
 simp only[bS];by_cases h:a=0<;>by_cases h2:b=0<;>by_cases h3:c=0<;>simp[h,h2,h3]
end VE
end
section
namespace VE
open Go (IntKind)
def ayb(n k:Nat)(h:n<k)(h0:k≠0):Hq k ((2:Rat)^n):=by
 refine⟨?_,?_⟩
 .rw [ycP];unfold Bd;show ((2:Int)^n).natAbs<_
  rw[Int.natAbs_pow];exact vC (by decide) h
 .rw [ycQ];unfold Bd;show (((1:Nat)^n:Nat):Int).natAbs<_
  rw[Nat.one_pow];exact vY h0
def acC(k:Nat){z:Int}(h:Bd k z)(h0:k≠0):Hq k ((z:Int):Rat):=⟨by rw[uL];exact h,by rw[uM];exact vY h0⟩
def af2(k j:Nat){s:Bool}{M:Nat}(h:M<2^j)(hj:j<=k):Bd k (bJ s M):=by
 unfold Bd bJ
 have:(if s=ycZ then -(M:Int) else (M:Int)).natAbs=M:=by split<;>omega
 rw[this];exact yP h (y9 (by decide) hj)
def kJ(s:Bool)(M:Nat):Rat:=((bJ s M:Int):Rat)*p2 (-149)
section
variable {P:aF}{L:Lib}
def ahG(h:Fr' P L)(sE:Has P L 155 EK)(Ho:Has P L 241 K6){v:AV}{a:Rat}{K k:Nat}(hv:bM v a)(ka:Hq K a)(hK:K*k+1<=30000000000)(hk:k<9223372036854775808):∃r,ab P L 241 [v,aa k] r/\bM r (a^k):=by
 obtain⟨s1,w1,s2,w2,rfl,h1,h2⟩:=hv;obtain⟨l1,u1⟩:=h1.aK;obtain⟨l2,u2⟩:=h2.aK;obtain⟨n,e1,hn⟩:=WS h.toNu sE ⟨s1,w1,rfl,h1⟩ ka.1 hK hk;obtain⟨d,e2,hd⟩:=WS h.toNu sE ⟨s2,w2,rfl,h2⟩ ka.2 hK hk;obtain⟨s3,w3,rfl,h3⟩:=hn;obtain⟨s4,w4,rfl,h4⟩:=hd;obtain⟨l3,u3⟩:=h3.aK;obtain⟨l4,u4⟩:=h4.aK;refine⟨.agg [aa s3,w3,aa s4,w4],?_,s3,w3,s4,w4,rfl,by rw[ycP];exact h3,by rw[ycQ,Int.natCast_pow];exact h4⟩
 unfold ab at e1 e2;unfold ab;rw[aE Ho];simp only[go_sem,ya,yb,K6,aQ,u1.pu,u1.ai,u1.one,u2.pu,u2.ai,u2.one,u3.one,u4.one,aT,yd,ss,CM,bY,e1,e2,bz,DY,DZ,kW u3 u4,cI,cJ,ye,gH,kX u3 u4]
def O5:Hq 2 (2:Rat):=⟨by unfold Bd;decide,by unfold Bd;decide⟩
def aAv(h:Fr' P L)(sE:Has P L 155 EK)(Ho:Has P L 241 K6)(QQ:Has P L 228 K4){k:Int}(hk: -100000<=k/\k<=100000):∃r,ab P L 228 [aa k] r/\bM r (p2 k):=by
 obtain⟨t,e1,ht⟩:=Fu h (z:=2) (by decide) (by decide);have ht:bM t (2:Rat):=ht;have un:=zu;obtain⟨t1,t2,t3,t4,rfl,ft⟩:=ht.gen;by_cases c:k<0
 .obtain ⟨n,hn⟩:∃n:Nat,k= -(n:Int):=⟨k.natAbs,by omega⟩;obtain⟨q,e2,hq⟩:=ahG h sE Ho ht O5 (k:=n) (by omega) (by omega);have kq:Hq 100001 ((2:Rat)^n):=ayb n 100001 (by omega) (by decide);have h0:(2:Rat)^n≠0:=by
   have:=VB n
   rwa[show p2 n=(2:Rat)^n from tp _ _] at this
  obtain⟨r,e3,hr⟩:=m73 h hq h0 kq (by decide);obtain⟨q1,q2,q3,q4,rfl,fq⟩:=hq.gen;have hp:((2:Rat)^n)⁻¹=p2 k:=by
   rw[hn];unfold p2;rw[ycA,tp]
  rw[hp] at hr;have bh:=hr;obtain⟨s1,w1,s2,w2,rfl,k1,k2⟩:=hr;obtain⟨l1,u1⟩:=k1.aK;obtain⟨l2,u2⟩:=k2.aK;refine⟨_,?_,bh⟩;have wn:IntKind.wrap .i64 (0-k)=(n:Int):=by rw[wrap64 (by omega) (by omega)];omega
  unfold ab at e1 e2 e3;unfold ab;rw[aE QQ];simp only[go_sem,ya,yb,K4,aQ,c,yM,e1,ft.ai,wn,e2,fq.ai,e3,bz,kW u1 u2,cI,cJ,ye,gH,kX u1 u2]
 .obtain ⟨n,hn⟩:∃n:Nat,k=(n:Int):=⟨k.natAbs,by omega⟩;subst hn;obtain⟨r,e2,hr⟩:=ahG h sE Ho ht O5 (k:=n) (by omega) (by omega);have hp:(2:Rat)^n=p2 n:=(tp _ _).symm;rw[hp] at hr;have bh:=hr;obtain⟨s1,w1,s2,w2,rfl,k1,k2⟩:=hr;obtain⟨l1,u1⟩:=k1.aK;obtain⟨l2,u2⟩:=k2.aK;refine⟨_,?_,bh⟩;unfold ab at e1 e2;unfold ab;rw[aE QQ];simp only[go_sem,ya,yb,K4,aQ,c,yH,e1,ft.ai,e2,bz,kW u1 u2,cI,cJ,ye,gH,kX u1 u2]
end
end VE
end
section
namespace VE
open Go (IntKind)
section
variable {s:Bool}{M:Nat}
def qw(b:Nat):refs (.av .f32 b)=[]:=rfl
def qM(f:Nat->Option Nat)(b:Nat):br f (.av .f32 b)=.av .f32 b:=rfl
def nm(n:Nat)(hp:Hp)(b:Nat):freeze (n+1) hp (.av .f32 b)=FL (.av .f32 b,hp):=rfl
structure Fx(P:aF)(L:Lib):Prop extends Fr' P L where
 sE:Has P L 155 EK
 QQ:Has P L 228 K4
 aAw:Has P L 232 nG
 Ho:Has P L 241 K6
def rS:Hp:=[(0,.cells ycZ ycZ ycZ 4 [.int .i64 0,.ah,.int .i64 0,.ah])]
section
variable {P:aF}{L:Lib}
def avS(hM:M<2^277):
  cZ P L [0,2,3] J5 (fun d st=>∃(b:Nat) (N:Nat) (k:Nat),d=N/\Fl b s N/\N*2^k=M/\(M=0->k=0)/\st=⟨[(0,.av .f32 b),(2,.ptr 0 0),(3,aa k)],rS,1,0⟩) (fun ex s'=>∃tm ct b N,∃k:Nat,s'=⟨tm,rS,ct,0⟩/\ex=.exit 0/\Fl b s N/\N*2^k=M/\N<2^173/\k<277/\aj tm 0=.av .f32 b/\aj tm 2=.ptr 0 0/\aj tm 3=aa k):=by
 apply c6;rintro d st ⟨b,N,k,hd,hN,hq,hz,rfl⟩;have hk:k<277:=by
  by_cases h0:M=0
  .rw [hz h0];decide
  .have N0:0<N:=by
    rcases xj N with q | q
    .rw [q,wq] at hq;exact absurd hq.symm h0
    .exact q
   have h1:2^k<=N*2^k:=ug _ N0;exact ahn k 277 (wh (by rw[hq] at h1;exact h1) hM)
 obtain⟨a,e1,ha⟩:=axZ hN;have e2:=afO ha afR;have hc:(bJ yda (2^173)<=bJ yda N)↔2^173<=N:=ycB;unfold rS;by_cases c:2^173<=N
 .left
  obtain⟨b',e3,bG⟩:=aek hN (hN.even c);have Aq:=hN.even c;rw[y8 (hc.2 c)] at e2;have wk:IntKind.wrap .i64 ((k:Int)+1)=((k+1:Nat):Int):=wrap64 (by omega) (by omega);simp only[go_sem,ya,J5,afQ,Eg,e1,e2,e3,wk];have pH:0<2^k:=xg _;have p7:M≠0:=fun q=>by
   rw[q] at hq
   have:=vt (show 0<N by omega) pH
   omega
  refine⟨_,N/2,rfl,by omega,b',N/2,k+1,rfl,bG,by rw[xh,xn (2^k),<-xe,show N/2*2=N by omega,hq],fun q=>absurd q p7,?_⟩;simp only[go_sem,ya,yb,ap,qw,qM]<;>rfl
 .right
  rw[yQ (fun q=>c (hc.1 q))] at e2;simp only[go_sem,ya,J5,afQ,Eg,e1,e2];exact⟨_,_,rfl,by simp,_,_,b,N,k,rfl,rfl,hN,hq,by omega,hk,by simp only[go_sem,ya],by simp only[go_sem,ya],by simp only[go_sem,ya]⟩
def avT:
  cZ P L [0,2,3] J6 (fun d st=>∃(b:Nat) (N:Nat) (j:Nat) (k:Int),d+j=149/\Fl b s N/\2^j∣N/\N<2^173/\(N:Rat)*p2 k=(M:Rat)/\-149<=k+j/\k+j<=277/\st=⟨[(0,.av .f32 b),(2,.ptr 0 0),(3,aa k)],rS,1,0⟩) (fun ex s'=>∃tm ct b N,∃k:Int,s'=⟨tm,rS,ct,0⟩/\ex=.exit 2/\Fl b s N/\N%2^149=0/\N<2^173/\(N:Rat)*p2 k=(M:Rat)/\-298<=k/\k<=277/\aj tm 0=.av .f32 b/\aj tm 2=.ptr 0 0/\aj tm 3=aa k):=by
 apply c6;rintro d st ⟨b,N,j,k,hd,hN,hj,aH,hq,k1,k2,rfl⟩;have ru:N<2^200:=vD aH (by decide);have e1:=OG hN ru;have hn:N/2^149<2^24:=by rw[xB (xg _),<-xD];exact aH
 have ha:(bJ s (N/2^149)).natAbs=N/2^149:=by unfold bJ;split<;>omega
 obtain⟨c,e2,hc⟩:=adv (n:=bJ s (N/2^149)) (by omega);rw[ha] at hc;have e3:=afP hN hc;have eV:=xQ N (2^149);have hw:(bJ s N=bJ (decide (bJ s (N/2^149)<0)) (N/2^149*2^149))↔N%2^149=0:=by
  have Za:N/2^149=0->N/2^149*2^149=0:=fun h=>by rw[h,wq]
  generalize hQ:N/2^149=q at*
  generalize hR:N%2^149=r at*
  rw[xn] at eV;generalize q*2^149=X at*
  unfold bJ
  cases s with
  | false=>
   have:decide ((if yda=ycZ then -(q:Int) else (q:Int))<0)=yda:=yQ (by simp)
   rw[this];simp;omega
  | true=>
   rw[yD rfl,yD rfl];by_cases q0:q=0
   .have hX:=Za q0
    have:decide (-(q:Int)<0)=yda:=yQ (by omega)
    rw[this,yt (by decide)];omega
   .have:decide (-(q:Int)<0)=ycZ:=y8 (by omega)
    rw[this,yD rfl];omega
 unfold rS;by_cases w:N%2^149=0
 .right
  rw[y8 (hw.2 w)] at e3;simp only[go_sem,ya,J6,e1,e2,e3,yX];have aEJ:j<=149:=by omega
  exact⟨_,_,rfl,by simp,_,_,b,N,k,rfl,rfl,hN,w,aH,hq,by omega,by omega,by simp only[go_sem,ya],by simp only[go_sem,ya],by simp only[go_sem,ya]⟩
 .left
  rw[yQ (fun q=>w (hw.1 q))] at e3;have aAx:N<2^172:=by
   by_cases q:N<2^172
   .exact q
   .exact absurd (hN.whole (by omega)) w
  obtain⟨b',e4,bG⟩:=aej hN (vD aH (ahm 173 276 (by decide)));have Mf:j<149:=by
   rcases vn j 149 with q | q
   .exact q
   .have:j=149:=by omega
    subst this;exact absurd (yaO hj) w
  have wk:IntKind.wrap .i64 (k-1)=k-1:=wrap64 (by omega) (by omega);simp only[go_sem,ya,J6,e1,e2,e3,yY,e4,wk];refine⟨_,d-1,rfl,by omega,b',2*N,j+1,k-1,by omega,bG,by rw[xh,xn (2^j)];exact ybc 2 hj,by omega,?_,by omega,by omega,?_⟩
  .rw [<-hq,xL]
   have:p2 k=p2 1*p2 (k-1):=by rw[<-lE,show 1+(k-1)=k by omega]
   rw[this,Bw];show (2:Rat)*(N:Rat)*p2 (k-1)=(N:Rat)*(2*p2 (k-1))
   grind
  .simp only [go_sem,ya,yb,ap,qw,qM]<;>rfl
def aep{N:Nat}{k:Int}(h:(N:Rat)*p2 k=(M:Rat))(hw:N%2^149=0):((bJ s (N/2^149):Int):Rat)*p2 k=kJ s M:=by
 have e:N=N/2^149*2^149:=by have:=xQ N (2^149);omega
 have h1:((N/2^149:Nat):Rat)*p2 149=(N:Rat):=by
  conv=>rhs;rw[e,xL,<-mI]
  rfl
 generalize N/2^149=n at h1;have h2:((n:Nat):Rat)*p2 k=(M:Rat)*p2 (-149):=by
  rw[<-h,<-h1]
  have:p2 149*p2 (-149)=1:=by rw[<-lE];exact E1
  have h3:(n:Rat)*p2 149*p2 k*p2 (-149)=(n:Rat)*p2 k*(p2 149*p2 (-149)):=by grind
  rw[h3,this,vK]
 unfold kJ bJ;have c1:(((n:Nat):Int):Rat)=(n:Rat):=rfl;have c2:(((M:Nat):Int):Rat)=(M:Rat):=rfl
 cases s with
 | true=>rw[yD rfl,yD rfl,uK,uK,c1,c2];grind
 | false=>rw[yt (by decide),yt (by decide),c1,c2];exact h2
def af3(k:Int):Hq (k.natAbs+2) (p2 k):=by
 by_cases c:0<=k
 .obtain ⟨n,rfl⟩:∃n:Nat,k=n:=⟨k.natAbs,by omega⟩;rw[show p2 (n:Int)=((2^n:Nat):Int) from mI n];exact⟨by rw[uL];unfold Bd;rw[wv];exact vC (by decide) (by omega),by rw[uM];unfold Bd;exact vY (by omega)⟩
 .obtain ⟨n,rfl⟩:∃n:Nat,k= -(n:Int):=⟨k.natAbs,by omega⟩
  have:p2 (-(n:Int))=(p2 n)⁻¹:=by unfold p2;rw[ycA]
  rw[this];refine Hq.inv ?_;rw[show p2 (n:Int)=((2^n:Nat):Int) from mI n];exact⟨by rw[uL];unfold Bd;rw[wv];exact vC (by decide) (by omega),by rw[uM];unfold Bd;exact vY (by omega)⟩
def Xd(k:Int)(hk:k.natAbs<=900):Hq 1001 (p2 k):=(af3 k).mono (by omega)
def aAy(h:Fx P L){b:Nat}(hb:Fl b s M):∃r,ab P L 232 [.av .f32 b] r/\bM r (kJ s M):=by
 have key:∀(b' N:Nat) (k:Int) (tm:Env) (ct:Nat),Fl b' s N->N%2^149=0->N<2^173->(N:Rat)*p2 k=(M:Rat)-> -298<=k->k<=277->aj tm 0=.av .f32 b'->aj tm 2=.ptr 0 0->aj tm 3=aa k->∃r,gn nG.eA (D P L (Ba 3 nG.body) ⟨[(0,.av .f32 b'),(2,.ptr 0 0),(3,aa k)],rS,1,0⟩)=FL r/\bM r (kJ s M):=by
  intro b' N k tm ct hN hw aH hq k1 k2 _ _ _;have e1:=OG hN (vD aH (by decide));have hn:N/2^149<2^24:=by rw[xB (xg _),<-xD];exact aH
  have ha:(bJ s (N/2^149)).natAbs=N/2^149:=by unfold bJ;split<;>omega
  have hx:=aep (s:=s) hq hw;generalize bJ s (N/2^149)=z at*
  obtain⟨u,e2,hu⟩:=Fu h.toFr' (z:=z) (by omega) (by omega);obtain⟨v,e3,hv⟩:=aAv h.toFr' h.sE h.Ho h.QQ (k:=k) (by omega);have ku:Hq 25 ((z:Int):Rat):=⟨by rw[uL];unfold Bd;omega,by rw[uM];unfold Bd;decide⟩
  obtain⟨r,e4,hr⟩:=HU h.toFr' hu hv (ku.mono (show 25<=1001 by decide)) (Xd k (by omega)) (by decide);rw[hx] at hr;have bh:=hr;obtain⟨u1,u2,u3,u4,rfl,fu⟩:=hu.gen;obtain⟨v1,v2,v3,v4,rfl,fv'⟩:=hv.gen;obtain⟨r1,r2,r3,r4,rfl,fr⟩:=hr.gen;refine⟨_,?_,bh⟩;unfold ab at e2 e3 e4;unfold rS;simp only[go_sem,ya,nG,Ba,aD,e1,e2,fu.ai,e3,fv'.ai,e4,fr.eA,fr.st,bz,cI,cJ,ye,gH]
 have l1:=avS (P:=P) (L:=L) (s:=s) hb.lt M;unfold ab;rw[aE h.aAw];have cut:nG.body=.seq (bB nG.body) (.seq (bB (Ba 0 nG.body)) (.seq (bB (Ba 1 nG.body)) (.seq (bB (Ba 2 nG.body)) (Ba 3 nG.body)))):=rfl;show ∃r,gn nG.eA (D P L nG.body _)=FL r/\_
 rw[cut];generalize Ba 3 nG.body=T at key ⊢;simp only[go_sem,yb,nG,Ba,aD,bB,aQ];generalize hq:D P L (.loop _ J5) _=q;obtain⟨ex,st,rfl,tm,ct,b',N,k,rfl,rfl,hN,Zb,aH,hk,t0,t2,t3⟩:=bH hq l1 ⟨b,M,0,rfl,hb,by rw[vP,yi],fun _=>rfl,by unfold rS;simp only[go_sem,ya,yb,ap,qw,qM]<;>rfl⟩
 unfold rS;simp only[go_sem,yb,ap,t0,t2,t3,qw,qM];generalize hq:D P L (.loop _ J6) _=q;have l2:=avT (P:=P) (L:=L) (s:=s) (M:=M) 149;obtain⟨ex,st,rfl,tm,ct,b2,N2,k2,rfl,rfl,Zc,hw,ru,Ax,k3,k4,u0,u2,u3⟩:=bH hq l2 ⟨b',N,0,k,rfl,hN,by rw[vP];exact ycR N,aH,by rw[<-Zb,xL,mI],by omega,by omega,by unfold rS;simp only[go_sem,ya,yb,ap,qw,qM]<;>rfl⟩
 unfold rS;simp only[go_sem,yb,ap,u0,u2,u3,qw,qM];exact key b2 N2 k2 tm ct Zc hw ru Ax k3 k4 u0 u2 u3
end
end
end VE
end
section
namespace VE
open Go (IntKind)
section
variable {a b c d:AV}{cs:List AV}{l:List Rat}{x:Rat}
def QL:List AV->List Rat->Prop
 | [],[]=>True
 | a::b::c::d::r,x::l=>bM (.agg [a,b,c,d]) x/\QL r l
 | _,_=>False
def QL.nil:QL [] []:=trivial
def QL.cons{r:List AV}(h1:bM (.agg [a,b,c,d]) x)(h2:QL r l):QL (a::b::c::d::r) (x::l):=⟨h1,h2⟩
def QL.inv(h:QL cs (x::l)):∃a b c d r,cs=a::b::c::d::r/\bM (.agg [a,b,c,d]) x/\QL r l:=by
 match cs,h with
 | a::b::c::d::r,h=>exact⟨a,b,c,d,r,rfl,h.1,h.2⟩
def QL.Xe(h:QL cs []):cs=[]:=by
 match cs,h with
 | [],_=>rfl
 | [_],h=>exact h.elim
 | [_,_],h=>exact h.elim
 | [_,_,_],h=>exact h.elim
 | _::_::_::_::_,h=>exact h.elim
def QL.len:∀{l:List Rat} {cs:List AV},QL cs l->cs.length=l.length*4
 | [],_,h=>by rw[h.Xe];rfl
 | x::l,cs,h=>by
  obtain⟨a,b,c,d,r,rfl,_,h2⟩:=h.inv
  have:=h2.len
  grind
def F4.R5{c1 c2 c3 c4:AV}(g:F4 c1 c2 c3 c4):aX c1=ycZ/\aX c2=ycZ/\aX c3=ycZ/\aX c4=ycZ:=by
 have:=g.pu
 simpa only[aX,aG,uO,yf] using this
def bM.f4(h:bM (.agg [a,b,c,d]) x):F4 a b c d:=by
 have⟨_,_,_,_,e,g⟩:=h.gen
 grind
def QL.pu:∀{l:List Rat} {cs:List AV},QL cs l->aG cs=ycZ
 | [],_,h=>by rw[h.Xe];rfl
 | x::l,cs,h=>by
  obtain⟨a,b,c,d,r,rfl,h1,h2⟩:=h.inv;have⟨p1,p2,p3,p4⟩:=h1.f4.R5;simp only[aG,p1,p2,p3,p4,h2.pu,wL]
def QL.db:∀{l m:List Rat} {cs ds:List AV},QL cs l->QL ds m->QL (cs++ds) (l++m)
 | [],m,cs,ds,h,k=>by rw[h.Xe];exact k
 | x::l,m,cs,ds,h,k=>by
  obtain⟨a,b,c,d,r,rfl,h1,h2⟩:=h.inv;exact⟨h1,h2.db k⟩
def QL.snoc(h:QL cs l)(k:bM (.agg [a,b,c,d]) x):QL (cs++[a,b,c,d]) (l++[x]):=h.db ⟨k,trivial⟩
def QL.get:∀{l:List Rat} {cs:List AV} {i:Nat},QL cs l->∀(hi:i<l.length),∃a b c d r,cs.drop (i*4)=a::b::c::d::r/\bM (.agg [a,b,c,d]) l[i]
 | [],_,i,_,hi=>absurd hi (Nat.not_lt_zero i)
 | x::l,cs,0,h,hi=>by
  obtain⟨a,b,c,d,r,rfl,h1,_⟩:=h.inv
  grind
 | x::l,cs,i+1,h,hi=>by
  obtain⟨a,b,c,d,r,rfl,_,h2⟩:=h.inv;have⟨a',b',c',d',r',e,k⟩:=h2.get (i:=i) (by simpa using hi)
  grind
def jS(v:AV)(l:List Rat):Prop:=(v=.ah/\l=[])\/∃e cs,v=.au e l.length cs/\QL cs l
section
variable {v:AV}{l:List Rat}{hp:Hp}
def jS.len(h:jS v l){hp:Hp}:kB hp 1 v=FL (.int .i64 (l.length:Nat)):=by
 rcases h with ⟨rfl,rfl⟩ | ⟨e,cs,rfl,h⟩<;>rfl
def jS.pu(h:jS v l):aX v=ycZ:=by
 rcases h with ⟨rfl,rfl⟩ | ⟨e,cs,rfl,h⟩<;>rfl
def jS.ai(h:jS v l)(n:Nat){hp:Hp}:freeze (n+1) hp v=FL (v,hp):=by
 rcases h with ⟨rfl,rfl⟩ | ⟨e,cs,rfl,h⟩<;>rfl
def jS.bq(h:jS v l){i:Nat}(hi:i<l.length):∃a b c d r,jm 4 i v=FL (.bN (a::b::c::d::r))/\bM (.agg [a,b,c,d]) l[i]:=by
 rcases h with ⟨rfl,rfl⟩ | ⟨e,cs,rfl,h⟩
 .grind
 .have ⟨a,b,c,d,r,e1,e2⟩:=h.get hi;refine⟨a,b,c,d,r,?_,e2⟩;rw[Uk e _ hi,e1]
def TR(e:Bool)(h:QL cs l):jS (.au e l.length cs) l:=.inr ⟨e,cs,rfl,h⟩
end
def Hr(hp:Hp)(cs:List AV):gJ hp 4 ycZ (.bN cs)=fT 4 ycZ cs:=rfl
def fp(s:Rat)(l:List Rat):Rat:=l.foldl (·+·) s
def Td{s:Rat}{i:Nat}(h:i<l.length):fp s (l.take (i+1))=fp s (l.take i)+l[i]:=by
 rw[xK h];simp only[fp,List.foldl_append,List.foldl_cons,List.foldl_nil]
def aeq{K:Nat}:∀{l:List Rat} {s:Rat} {M:Nat},Hq M s->(∀x,x∈l->Hq K x)->Hq (M+l.length*(K+1)) (fp s l)
 | [],s,M,hs,_=>by simpa[fp] using hs
 | x::l,s,M,hs,hl=>by
  have:=aeq (l:=l) (hs.add (hl x List.mem_cons_self)) (fun y hy=>hl y (List.mem_cons_of_mem _ hy))
  refine Hq.mono (m:=M+(x::l).length*(K+1)) this ?_;simp only[yy,xH];lia
def OJ{K M:Nat}{s:Rat}(hs:Hq M s)(hl:∀x,x∈l->Hq K x)(i:Nat):Hq (M+l.length*(K+1)) (fp s (l.take i)):=
 (aeq hs (fun x hx=>hl x (List.mem_of_mem_take hx))).mono (by rw[yT];have:=yI (K+1) (Nat.min_le_right i l.length);lia)
end
end VE
end
section
namespace VE
open Go (IntKind)
section
variable {P:aF}{L:Lib}
def ahH(h:Ck P L){s:List Nat}(h0:ik s=0):∃r,ab P L 62 [.str s] r/\bM r (bl s):=by
 have⟨hR,_⟩:=Oe h0;have kr:=OI h0 (yu 2400);have hl:=GK kr;have⟨r,e,hr⟩:=m62 h.toTx (a:=bl s) (by lia);rw[<-hR] at e;exact⟨r,e,hr⟩
end
end VE
end
section
namespace VE
open Go (IntKind)
def ar5(a b:Rat):decide (rn a b<0)=decide (a<b):=by
 unfold rn;by_cases h1:a<b
 .simp [h1]
 .by_cases h2:a=b<;>simp[h1,h2]
def adD(a b:Rat):decide (0<rn a b)=decide (b<a):=by
 unfold rn;by_cases h1:a<b
 .have:¬b<a:=by grind
  simp[h1,this]
 .by_cases h2:a=b
  .subst h2;simp[tV]
  .have:b<a:=by grind
   simp[h1,h2,this]
def adE(a b:Rat):decide (0<=rn a b)=decide (b<=a):=by
 unfold rn;by_cases h1:a<b
 .have:¬b<=a:=by grind
  simp[h1,this]
 .by_cases h2:a=b
  .subst h2;simp[tV]
  .have:b<=a:=by grind
   simp[h1,h2,this]
def Da:dH (.int .i64 1)=FL 1:=rfl
end VE
end
section
namespace VE
open Go (IntKind)
section
variable {P:aF}{L:Lib}
def af4(h:Rp P L)(sH:Has P L 315 EO){a b:Rat}{K M:Nat}(ka:Hq K a)(kb:Hq M b)(hK:K+M+1<=8000000000):ab P L 315 [.str (RT a),.str (RT b)] (aa (rn a b)):=by
 have:=aAu h sH ka kb hK
 rwa[ar3] at this
def aAz(h:Rp P L)(sH:Has P L 315 EO)(Hs:Has P L 449 Hc){a b:Rat}{K:Nat}(ka:Hq K a)(kb:Hq K b)(hK:K<=1000000000):ab P L 449 [.str (RT a),.str (RT b)] (.str (RT (if a<b then b else a))):=by
 have e1:=af4 h sH ka kb (by omega);unfold ab at e1 ⊢;rw[aE Hs];by_cases hb:a<b
 .rw [yD hb];simp only[go_sem,ya,Hc,e1,adE,yQ (show ¬b<=a from ybp.2 hb)]
 .rw [yt hb];simp only[go_sem,ya,Hc,e1,adE,y8 (show b<=a from Rat.not_lt.1 hb)]
end
end VE
end
section
namespace VE
open Go (IntKind)
def pw(b:Rat):Nat->Rat
 | 0=>1
 | n+1=>pw b n*b
def aer(b:Rat)(m:Nat):∀n,pw b (m+n)=pw b m*pw b n
 | 0=>by rw[y5,pw,vK]
 | n+1=>by rw[<-uI,pw,pw,aer b m n,vE]
def KQ{b:Rat}{K:Nat}(h:Hq K b):∀n,Hq (K*n+2) (pw b n)
 | 0=>aAt.mono (by omega)
 | n+1=>((KQ h n).mul h).mono (by rw[Nat.mul_succ];omega)
section
variable {P:aF}{L:Lib}
def avU(h:Rn P L){b:Rat}{K k0:Nat}(hb:Hq K b)(hK:K*k0<=1000000000):
  cZ P L [0,1,5] Gt (fun m st=>∃i e o:Nat,st=⟨[(0,.str (RT (pw b i))),(1,aa e),(5,.str (RT (pw b o)))],[],0,0⟩/\o+i*e=k0/\e<9223372036854775808/\e=m) (fun ex st'=>∃tm ct,st'=⟨tm,[],ct,0⟩/\ex=.exit 0/\aj tm 5=.str (RT (pw b k0))):=by
 apply c6;rintro m st ⟨i,e,o,rfl,ho,he,rfl⟩;by_cases h0:0<e
 .left
  have hi:i<=k0:=by have:=yaJ i h0;omega
  have ki:K*i<=1000000000:=xi (yW K hi) hK;have ko:K*o<=1000000000:=xi (yW K (show o<=k0 by omega)) hK;have e1:=GY h (KQ hb i) (KQ hb i) (by omega);have e2:=GY h (KQ hb o) (KQ hb i) (by omega);rw[<-aer] at e1 e2;have r2:(e:Int).tmod 2=((e%2:Nat):Int):=rfl;have q2:(e:Int).tdiv 2=((e/2:Nat):Int):=rfl;have d0:(2:Int)≠0:=by decide
  have hs:e=2*(e/2)+e%2:=by omega
  have hm:e%2<2:=by omega
  unfold ab at e1 e2;generalize e/2=f at*
  generalize e%2=g at*
  have w1:IntKind.wrap .i64 (g:Int)=g:=wrap64 (by omega) (by omega);have w2:IntKind.wrap .i64 (f:Int)=f:=wrap64 (by omega) (by omega);by_cases h1:g=1
  .have d1:decide ((g:Int)=1)=ycZ:=y8 (by omega);simp only[go_sem,ya,Gt,show (0:Int)<(e:Int) by omega,yM,fC _ _ _ d0,eK _ _ _ d0,r2,q2,w2,d1,e1,e2];refine⟨_,f,rfl,by omega,i+i,f,o+i,by simp only[go_sem,ya,ap],?_,by omega,rfl⟩;rw[<-ho,hs,h1];grind
  .have d1:decide ((g:Int)=1)=yda:=yQ (by omega);simp only[go_sem,ya,Gt,show (0:Int)<(e:Int) by omega,yM,fC _ _ _ d0,eK _ _ _ d0,r2,q2,w2,d1,e1];refine⟨_,f,rfl,by omega,i+i,f,o,by simp only[go_sem,ya,ap],?_,by omega,rfl⟩;have hg:g=0:=by omega
   rw[<-ho,hs,hg];grind
 .right
  obtain rfl:e=0:=by omega
  obtain rfl:o=k0:=by omega
  simp only[go_sem,ya,Gt,show ¬(0:Int)<((0:Nat):Int) by omega,yH];exact⟨_,_,rfl,by simp,_,_,rfl,rfl,by simp only[go_sem,ya]⟩
def ahI(h:Rn P L)(E2:Has P L 389 Hb){b:Rat}{K k:Nat}(hb:Hq K b)(hK:K*k<=1000000000)(hk:k<9223372036854775808):ab P L 389 [.str (RT b),aa k] (.str (RT (pw b k))):=by
 unfold ab;rw[aE E2];simp only[go_sem,ya,Hb,show ¬(k:Int)<0 by omega,yH];generalize hq:D P L (.loop _ Gt) _=q;obtain⟨ex,st,rfl,tm,ct,rfl,rfl,t5⟩:=bH hq (avU h hb hK k) ⟨1,k,0,by simp only[go_sem,ya,ap,pw,ybd,aAs],by omega,hk,rfl⟩;simp only[go_sem,ap,t5]
def ayc(h:Rn P L)(Bx:Has P L 283 EN)(E2:Has P L 389 Hb){b:Rat}{K k:Nat}(hb:Hq K b)(hK:K*k<=1000000000)(hk:k<9223372036854775808)(k0:0<k)(b0:b≠0)(hK2:K<=1000000000):ab P L 389 [.str (RT b),aa (-(k:Int))] (.str (RT (pw b⁻¹ k))):=by
 have e1:=af0 h Bx hb (by omega) b0;have e2:=ahI h E2 (hb.inv) hK hk;unfold ab at e1 e2 ⊢;rw[aE E2];have w:IntKind.wrap .i64 (0 - -(k:Int))=k:=by rw[show (0:Int) - -(k:Int)=k by omega];exact wrap64 (by omega) (by omega)
 simp only[go_sem,ya,Hb,show -(k:Int)<0 by omega,yM,e1,w,e2]
end
end VE
end
section
namespace VE
open Go (IntKind)
open Ieee
section
variable {s:Bool}{M:Nat}
structure Fy0(P:aF)(L:Lib):Prop extends Rn P L where
 Xa:Has P L 265 P6
 Bx:Has P L 283 EN
 E2:Has P L 389 Hb
structure Fy(P:aF)(L:Lib):Prop extends Fy0 P L where
 ahJ:Has P L 429 Qh
 Xf:Has P L 430 Qi
def avV{b:Nat}(h:Fl b ycZ M)(h0:M≠0):∃b',binOp .sub (.av .f32 0) (.av .f32 b)=FL (.av .f32 b')/\Fl b' yda M:=by
 obtain⟨m,e,h1,rfl⟩:=h.ex;obtain⟨b1,b2,b3,b4⟩:=h1.b;have m0:m≠0:=fun q=>h0 (by unfold dL;rw[q,wq])
 obtain⟨m',e',k1,k2,k3⟩:=IX (n:=m) (k:=e) m0 b2 b1 b4 (m0:=dL m e) (e0:= -149) yda (by
  rw[zy b1]
  have:p2 149*p2 (-149)=1:=by rw[<-lE];exact E1
  rw[vE,this,vK])
 have e1:single.sub 0 b=FL (single.write (.number yda (dL m e) (-149))):=by
  unfold Format.sub;rw[h1.read,show single.read 0=.number yda 0 (-149) by decide];show FL (single.write (.number (if signed yda 0 ((-149:Int)-min (-149) e).toNat+signed (!ycZ) m (e-min (-149) e).toNat=0 then yda&&(!ycZ) else decide (signed yda 0 ((-149:Int)-min (-149) e).toNat+signed (!ycZ) m (e-min (-149) e).toNat<0)) (signed yda 0 ((-149:Int)-min (-149) e).toNat+signed (!ycZ) m (e-min (-149) e).toNat).natAbs (min (-149) e)))=_
  have hm:min (-149) e= -149:=by omega
  have hs:signed yda 0 ((-149:Int)-min (-149) e).toNat+signed (!ycZ) m (e-min (-149) e).toNat=(dL m e:Nat):=by
   rw[hm];unfold signed dL;simp only[yX,yC,xm,uA,wq];rw[show e - -149=e+149 by omega];simp
  rw[hs,hm,yt (by omega),wv,yQ (by omega)]
 refine⟨_,?_,m',e',k1,(arL k1.b.1 b1 k3).symm⟩;show (match single.sub 0 b with | some b=>FL (AV.av .f32 b) | none=>FM)=_
 rw[e1]
def af5:∀k,pw 2 k=p2 k
 | 0=>by rw[show ((0:Nat):Int)=0 from rfl,E1];rfl
 | k+1=>by
  have ih:=af5 k;rw[show ((k+1:Nat):Int)=(k:Int)+1 from rfl,lE,Bw,<-ih];show _=_
  simp only[pw]
def avW(k:Nat):pw (2:Rat)⁻¹ k=p2 (-(k:Int)):=by
 have:∀k,pw (2:Rat)⁻¹ k*p2 k=1:=fun k=>by
  induction k with
  | zero=>rw[show ((0:Nat):Int)=0 from rfl,E1];simp[pw]
  | succ k ih=>
   rw[show ((k+1:Nat):Int)=(k:Int)+1 from rfl,lE,Bw];have h2:(2:Rat)⁻¹*2=1:=Rat.inv_mul_cancel _ (by decide);simp only[pw]
   have:pw (2:Rat)⁻¹ k*2⁻¹*(p2 k*2)=(pw (2:Rat)⁻¹ k*p2 k)*((2:Rat)⁻¹*2):=by grind
   rw[this,ih,h2,ybd]
 have h1:=this k;have h2:=UW (k:Int);have h3:pw (2:Rat)⁻¹ k*p2 k*p2 (-(k:Int))=p2 (-(k:Int)):=by rw[h1,ybd]
 rw[vE,yaz (p2 k),h2,vK] at h3;exact h3
section
variable {P:aF}{L:Lib}
def avX(hs:s=ycZ->M=0)(hM:M<2^277):
  cZ P L [0,4] Kh (fun d st=>∃(b:Nat) (N:Nat) (k:Nat),d=N/\Fl b s N/\N*2^k=M/\(M=0->k=0)/\st=⟨[(0,.av .f32 b),(4,aa k)],[],0,0⟩) (fun ex s'=>∃tm ct b N,∃k:Nat,s'=⟨tm,[],ct,0⟩/\ex=.exit 0/\Fl b s N/\N*2^k=M/\N<2^173/\k<277/\aj tm 0=.av .f32 b/\aj tm 4=aa k):=by
 apply c6;rintro d st ⟨b,N,k,hd,hN,hq,hz,rfl⟩;have pH:0<2^k:=xg _;have hk:k<277:=by
  by_cases h0:M=0
  .rw [hz h0];decide
  .have N0:0<N:=by
    rcases xj N with q | q
    .rw [q,wq] at hq;exact absurd hq.symm h0
    .exact q
   have h1:2^k<=N*2^k:=ug _ N0;exact ahn k 277 (wh (by rw[hq] at h1;exact h1) hM)
 have e2:=afO hN afR;have hsN:bJ s N=N:=by
  cases s with
  | false=>rfl
  | true=>
   have p7:=hs rfl
   have:N=0:=by
    rcases xj N with q | q
    .exact q
    .have:=vt q pH;omega
   subst this;rfl
 have hc:(bJ yda (2^173)<=bJ s N)↔2^173<=N:=by rw[hsN];exact ycB
 by_cases c:2^173<=N
 .left
  have Aq:=hN.even c;obtain⟨b',e3,bG⟩:=aek hN Aq;rw[y8 (hc.2 c)] at e2;have wk:IntKind.wrap .i64 ((k:Int)+1)=((k+1:Nat):Int):=wrap64 (by omega) (by omega);simp only[go_sem,ya,Kh,e2,e3,wk];have p7:M≠0:=fun q=>by
   have:=vt (show 0<N by omega) pH
   omega
  refine⟨_,N/2,rfl,by omega,b',N/2,k+1,rfl,bG,by rw[xh,xn (2^k),<-xe,show N/2*2=N by omega,hq],fun q=>absurd q p7,?_⟩;simp only[go_sem,ya,ap,qw,qM]<;>rfl
 .right
  rw[yQ (fun q=>c (hc.1 q))] at e2;simp only[go_sem,Kh,e2];exact⟨_,_,rfl,by simp,_,_,b,N,k,rfl,rfl,hN,hq,by omega,hk,by simp only[go_sem,ya],by simp only[go_sem,ya]⟩
def anq{N:Nat}:(bJ s N=bJ (decide (bJ s (N/2^149)<0)) (N/2^149*2^149))↔N%2^149=0:=by
 have eV:=xQ N (2^149);have Za:N/2^149=0->N/2^149*2^149=0:=fun h=>by rw[h,wq]
 generalize hQ:N/2^149=q at*
 generalize hR:N%2^149=r at*
 rw[xn] at eV;generalize q*2^149=X at*
 unfold bJ
 cases s with
 | false=>
  have:decide ((if yda=ycZ then -(q:Int) else (q:Int))<0)=yda:=yQ (by simp)
  rw[this];simp;omega
 | true=>
  rw[yD rfl,yD rfl];by_cases q0:q=0
  .have hX:=Za q0
   have:decide (-(q:Int)<0)=yda:=yQ (by omega)
   rw[this,yt (by decide)];omega
  .have:decide (-(q:Int)<0)=ycZ:=y8 (by omega)
   rw[this,yD rfl];omega
def avY:
  cZ P L [0,4] Ki (fun d st=>∃(b:Nat) (N:Nat) (j:Nat) (k:Int),d+j=149/\Fl b s N/\2^j∣N/\N<2^173/\(N:Rat)*p2 k=(M:Rat)/\-149<=k+j/\k+j<=277/\st=⟨[(0,.av .f32 b),(4,aa k)],[],0,0⟩) (fun ex s'=>∃tm ct b N,∃k:Int,s'=⟨tm,[],ct,0⟩/\ex=.exit 2/\Fl b s N/\N%2^149=0/\N<2^173/\(N:Rat)*p2 k=(M:Rat)/\-298<=k/\k<=277/\aj tm 0=.av .f32 b/\aj tm 4=aa k):=by
 apply c6;rintro d st ⟨b,N,j,k,hd,hN,hj,aH,hq,k1,k2,rfl⟩;have ru:N<2^200:=vD aH (by decide);have e1:=OG hN ru;have hn:N/2^149<2^24:=by rw[xB (xg _),<-xD];exact aH
 have ha:(bJ s (N/2^149)).natAbs=N/2^149:=by unfold bJ;split<;>omega
 obtain⟨c,e2,hc⟩:=adv (n:=bJ s (N/2^149)) (by omega);rw[ha] at hc;have e3:=afP hN hc;have hw:=anq (s:=s) (N:=N);by_cases w:N%2^149=0
 .right
  rw[y8 (hw.2 w)] at e3;simp only[go_sem,ya,Ki,e1,e2,e3,yX];exact⟨_,_,rfl,by simp,_,_,b,N,k,rfl,rfl,hN,w,aH,hq,by omega,by omega,by simp only[go_sem,ya],by simp only[go_sem,ya]⟩
 .left
  rw[yQ (fun q=>w (hw.1 q))] at e3;have aAx:N<2^172:=by
   by_cases q:N<2^172
   .exact q
   .exact absurd (hN.whole (by omega)) w
  obtain⟨b',e4,bG⟩:=aej hN (vD aH (ahm 173 276 (by decide)));have Mf:j<149:=by
   rcases vn j 149 with q | q
   .exact q
   .have:j=149:=by omega
    subst this;exact absurd (yaO hj) w
  have wk:IntKind.wrap .i64 (k-1)=k-1:=wrap64 (by omega) (by omega);simp only[go_sem,ya,Ki,e1,e2,e3,yY,e4,wk];refine⟨_,d-1,rfl,by omega,b',2*N,j+1,k-1,by omega,bG,by rw[xh,xn (2^j)];exact ybc 2 hj,by omega,?_,by omega,by omega,?_⟩
  .rw [<-hq,xL]
   have:p2 k=p2 1*p2 (k-1):=by rw[<-lE,show 1+(k-1)=k by omega]
   rw[this,Bw];show (2:Rat)*(N:Rat)*p2 (k-1)=(N:Rat)*(2*p2 (k-1))
   grind
  .simp only [go_sem,ya,ap,qw,qM]<;>rfl
def aAA(Xf:Has P L 430 Qi){b:Nat}(hb:Fl b s M)(hs:s=ycZ->M=0):∃(n:Nat) (k:Int),ab P L 430 [.av .f32 b] (.aw [aa n,aa k])/\n<2^24/\-298<=k/\k<=277/\((n:Nat):Rat)*p2 k=kJ s M:=by
 have l1:=avX (P:=P) (L:=L) hs hb.lt M;unfold ab;rw[aE Xf];simp only[go_sem,Qi];generalize hq:D P L (.loop _ Kh) _=q;obtain⟨ex,st,rfl,tm,ct,b',N,k,rfl,rfl,hN,Zb,aH,hk,t0,t4⟩:=bH hq l1 ⟨b,M,0,rfl,hb,by rw[vP,yi],fun _=>rfl,by simp only[go_sem,ya,ap,qw,qM]<;>rfl⟩
 simp only[go_sem,ap,t0,t4,qw,qM];generalize hq:D P L (.loop _ Ki) _=q;have l2:=avY (P:=P) (L:=L) (s:=s) (M:=M) 149;obtain⟨ex,st,rfl,tm,ct,b2,N2,k2,rfl,rfl,Zc,hw,ru,Ax,k3,k4,u0,u4⟩:=bH hq l2 ⟨b',N,0,k,rfl,hN,by rw[vP];exact ycR N,aH,by rw[<-Zb,xL,mI],by omega,by omega,by simp only[go_sem,ya,ap,qw,qM]<;>rfl⟩
 have e1:=OG Zc (vD ru (by decide));have hn:N2/2^149<2^24:=by rw[xB (xg _),<-xD];exact ru
 have hx:=aep (s:=s) Ax hw;have nc:bJ s (N2/2^149)=(N2/2^149:Nat):=by
  cases s with
  | false=>rfl
  | true=>
   have p7:=hs rfl
   have:N2=0:=by
    rw[p7] at Ax;have hp:=VB k2;have h0:((N2:Nat):Rat)*p2 k2=0:=Ax;rcases Rat.mul_eq_zero.1 h0 with q | q
    .exact_mod_cast q
    .exact absurd q hp
   subst this;rfl
 rw[nc] at hx e1;refine⟨N2/2^149,k2,?_,hn,k3,k4,hx⟩;simp only[go_sem,ya,ap,u0,u4,qw,qM,e1];rfl
end
end
end VE
end
section
namespace VE
open Go (IntKind)
section
variable {s:Bool}{M b:Nat}
def avZ:RT (2:Rat)=[50]:=by decide
def VI(h:Fl b s M):Hq 2500 (kJ s M):=by
 have hM:=h.lt;have k1:Hq 278 (((bJ s M:Int)):Rat):=acC 278 (af2 278 277 hM (by decide)) (by decide);exact (k1.mul (Xd (-149) (by decide))).mono (by decide)
def ar6(M:Nat):kJ ycZ M= -kJ yda M:=by
 unfold kJ bJ;rw[yD rfl,yt (by decide),uK];grind
section
variable {P:aF}{L:Lib}
def ayd(h:Fy0 P L){k:Int}(h1: -300<=k)(h2:k<=300):ab P L 389 [.str [50],aa k] (.str (RT (p2 k))):=by
 rw[<-avZ];by_cases c:k<0
 .obtain ⟨n,rfl⟩:∃n:Nat,k= -(n:Int):=⟨k.natAbs,by omega⟩
  have:=ayc h.toRn h.Bx h.E2 O5 (k:=n) (by omega) (by omega) (by omega) (by decide) (by decide)
  rwa[avW] at this
 .obtain ⟨n,rfl⟩:∃n:Nat,k=n:=⟨k.natAbs,by omega⟩
  have:=ahI h.toRn h.E2 O5 (k:=n) (by omega) (by omega)
  rwa[af5] at this
def aes(h:Fy P L)(hb:Fl b s M)(hs:s=ycZ->M=0):ab P L 429 [.av .f32 b] (.str (RT (kJ s M))):=by
 obtain⟨n,k,e1,hn,k1,k2,hq⟩:=aAA h.Xf hb hs;have e0:=afN hb Fl.zero;have aH:¬bJ s M<bJ yda 0:=by
  cases s with
  | false=>show ¬(M:Int)<0;omega
  | true=>rw[hs rfl];decide
 rw[yQ aH] at e0;have e2:=ax8 h.toRm h.Xa (n:=(n:Int)) (by omega);have e3:=ayd h.toFy0 (k:=k) (by omega) (by omega);have kn:Hq 25 (((n:Int):Int):Rat):=⟨by rw[uL];unfold Bd;rw[wv];omega,by rw[uM];unfold Bd;decide⟩
 have e4:=GY h.toRn kn (Xd k (by omega)) (by decide);have bO:(((n:Nat):Int):Rat)*p2 k=kJ s M:=hq;rw[bO] at e4;unfold ab at e1 e2 e3 e4;unfold ab;rw[aE h.ahJ];simp only[go_sem,ya,Qh,e0,nm,e1,TH,SF,S8,e2,e3,e4]
def aAB(h:Fy P L)(hb:Fl b s M):ab P L 429 [.av .f32 b] (.str (RT (kJ s M))):=by
 by_cases hs:s=ycZ->M=0
 .exact aes h hb hs
 .have mV:s=ycZ:=Classical.byContradiction fun q=>hs fun q'=>absurd q' q
  have hM:M≠0:=fun q=>hs fun _=>q
  subst mV;obtain⟨b',e1,bG⟩:=avV hb hM;have e2:=aes h bG (fun q=>by cases q);have e3:=afZ h.toRp (VI bG) (by decide);rw[<-ar6] at e3;have e0:=afN hb Fl.zero;have aH:bJ ycZ M<bJ yda 0:=by show -(M:Int)<0;omega
  rw[y8 aH] at e0;unfold ab at e2 e3;unfold ab;rw[aE h.ahJ];simp only[go_sem,ya,Qh,e0,e1,nm,e2,e3]
end
end
end VE
end
section
namespace VE
open Go (IntKind)
section
variable {tm:Env}{hp:Hp}
section
variable {P:aF}{L:Lib}
def QR(tm:Env)(hp:Hp)(s:AV)(rs:List (Nat×Bool×Nat))(q:gB):gB:=match q with | some (v,an,aU)=>bif zN tm s rs||oT tm hp an rs then FL (v,an,aU) else FM | none=>FM
def O6{f:cl}{ct:Nat}(rs:List (Nat×Bool×Nat))(sz b:Nat)(x v:X):aY P L f tm hp ct (.lJ rs sz b x v)=QR tm hp (ay tm x) rs (cp tm hp ct (.db sz b x v)):=rfl
def TS{an:Hp}{s:AV}{rs:List (Nat×Bool×Nat)}{v:AV}{aU:Nat}(h:zN tm s rs=ycZ):QR tm hp s rs (FL (v,an,aU))=FL (v,an,aU):=by simp only[QR,h,vN,yx]
def O7{f:cl}{ct:Nat}(n sz:Nat)(z:List AV)(ps:List (Nat×Nat×X)):aY P L f tm hp ct (.mT n sz z ps)=rd hp ct (bg tm hp (.mT n sz z ps)):=rfl
end
end
end VE
end
section
namespace VE
open Go (IntKind)
def lyT(w:AV)(hh sc st ox oy wx wy:List Nat):AV:=.agg [w,.str hh,.str sc,.str st,.str ox,.str oy,.str wx,.str wy]
noncomputable def aAC(s:List (List Int))(hh sc st ox oy wx wy:List Nat):Int:=bS [amw s,ahF hh 0,ahF sc 1,ik st,bS [ik ox,ik oy],bS [ik wx,ik wy]]
def akY{a:Int}{l:List Int}:bS (a::l)=0↔a=0/\bS l=0:=by
 simp only[bS]
 grind
end VE
end
section
namespace VE
open Go (IntKind)
open Ieee
def alQ(q:Rat):0<=bX q.num↔0<=q:=by
 rw[<-yca];unfold bX;constructor
 .intro h;split at h<;>omega
 .intro h;split
  .omega
  .split<;>omega
def FR(q:Rat):bX q.num<0↔q<0:=by
 have h:=alQ q;constructor
 .intro c;exact ybp.1 fun q'=>by have:=h.2 q';omega
 .intro c;exact Int.not_le.1 fun q'=>absurd (h.1 q') (ybp.2 c)
end VE
end
section
namespace VE
open Go (IntKind)
open Ieee
def gA(b:Nat):Bool:=match single.read b with
 | .number .. =>ycZ
 | _=>yda
def z6:List AV->Option AV
 | [.av .f32 b]=>FL (.bool (gA b))
 | _=>FM
def Fl.fin{b M:Nat}{s:Bool}(h:Fl b s M):gA b=ycZ:=by
 obtain⟨m,e,h1,_⟩:=h.ex;unfold gA;rw[h1.read]
def av0{b:Nat}(hb:b<4294967296):(∃s M,Fl b s M)\/gA b=yda:=by
 rcases avy (f:=single) (b:=b) hb (by decide) with ⟨s,m,e,h⟩ | h
 .exact .inl ⟨s,_,⟨m,e,h,rfl⟩⟩
 .right
  unfold gA
  cases hr:single.read b with
  | number s m e=>exact absurd hr (h s m e)
  | _=>rfl
abbrev dO(l:List Nat):List AV:=l.map (.av .f32)
end VE
end
section
namespace VE
open Go
open Ieee
def adF{b m:Nat}{s:Bool}{e:Int}(h:single.read b=.number s m e):single.sub b b=FL 0:=by
 unfold Format.sub;rw[h];show FL (single.write (.number (if signed s m (e-min e e).toNat+signed (!s) m (e-min e e).toNat=0 then s&& !s else decide (signed s m (e-min e e).toNat+signed (!s) m (e-min e e).toNat<0)) (signed s m (e-min e e).toNat+signed (!s) m (e-min e e).toNat).natAbs (min e e)))=FL 0
 have h0:signed s m (e-min e e).toNat+signed (!s) m (e-min e e).toNat=0:=by
  unfold signed;cases s<;>simp<;>omega
 rw[h0,yD rfl];have hs:(s&& !s)=yda:=by cases s<;>rfl
 rw[hs];rfl
def ar7{b:Nat}(h:∀s m e,single.read b≠.number s m e):single.sub b b=FM:=by
 unfold Format.sub
 cases hr:single.read b with
 | number s m e=>exact absurd hr (h s m e)
 | infinity s=>cases s<;>rfl
 | nan s t=>rfl
def ar8{x:Nat}(hx:x<8388607)(t:Nat):single.order (t%2*2147483648+2139095040+1+x) 0=FM:=by
 have hm:(t%2*2147483648+2139095040+1+x)%2147483648=2139095041+x:=by omega
 have hr:∃s n,single.read (t%2*2147483648+2139095040+1+x)=.nan s n:=by
  unfold Format.read;simp only[show single.signWeight=2147483648 from rfl,show single.binade=8388608 from rfl,show single.infRung=2139095040 from rfl];rw[hm,yt (by omega),yt (by omega),yt (by omega)];exact⟨_,_,rfl⟩
 obtain⟨s,n,hr⟩:=hr;unfold Format.order;rw[hr];rfl
def adG(P:Program)(b:Nat)(w:yj):∃r w1,(∀t,(wa .sub t (.float .f32 b) (.float .f32 b)).run P w=.ok (.float .f32 r) w1)/\Calm w w1/\(∀t w',(wa .eql t (.float .f32 r) (.float .f32 0)).run P w'=.ok (.bool (gA b)) w'):=by
 by_cases h:∃s m e,single.read b=.number s m e
 .obtain ⟨s,m,e,h⟩:=h;have h1:FloatKind.f32.format.sub b b=FL 0:=adF h;refine⟨0,w,fun t=>?_,Calm.refl,fun t w'=>?_⟩
  .simp [wa,Op.floatArith,h1]
  .have:gA b=ycZ:=by unfold gA;rw[h]
   rw[this];rfl
 .have h':∀s m e,single.read b≠.number s m e:=fun s m e q=>h ⟨s,m,e,q⟩
  have h1:FloatKind.f32.format.sub b b=FM:=ar7 h';obtain⟨t0,Y1⟩:∃t0,t0=w.tape w.drawn (.nanBits .f32 b b):=⟨_,rfl⟩;refine⟨(Question.nanBits .f32 b b).cut t0,w.drew,fun t=>?_,⟨rfl,rfl,rfl,yu _,fun _ _=>rfl⟩,fun t w'=>?_⟩
  .rw [Y1];simp[wa,Op.floatArith,h1,Question.forced]
  .have:gA b=yda:=by
    unfold gA
    cases hr:single.read b with
    | number s m e=>exact absurd hr (h' s m e)
    | _=>rfl
   rw[this];have hc:=ar8 (x:=t0/2%8388607) (xG _ (by decide)) t0;have kH:FloatKind.f32.format.order ((Question.nanBits .f32 b b).cut t0) 0=FM:=hc;simp[wa,Op.floatCmp,kH]
variable {O:bA}
def adH{n:Nat}(fM:∀args w,(callFunc (O.ae n) args).run O.P w=.ok (.enter (O.ae n) args) w)(hc:∀(b:Nat) (w:yj),wz O.P (O.ae n) #[.float .f32 b] w fun e w'=>e=.returned (.bool (gA b))/\Calm w w'):∀aq r,z6 aq=FL r->et O n aq r:=by
 intro aq r h;unfold z6 at h
 split at h
 .rename_i b;simp only[yc] at h;subst h;refine oR abU fM ?_;intro w S args hg dN;obtain⟨u,rfl,h1⟩:=Ev dN;simp only[af] at h1;subst h1;refine (hc b w).mono ?_;rintro e w' ⟨rfl,h2⟩;exact⟨_,rfl,h2,fun S=>by simp only[af]⟩
 .cases h
end VE
end
section
namespace Go.Proofs
open Go.RowKit
def Tryz.QS(b:Nat)(w:yj):wz Tryz.prog 78 #[.float .f32 b] w fun e w'=>e=.returned (.bool (VE.gA b))/\VE.Calm w w':=by
 obtain⟨r,w1,h1,h2,h3⟩:=VE.adG Tryz.prog b w
 go_enter Tryz.func78,Tryz.ntmps78
 go_wp2_with (simp only[h1,h3])
 go_ret
 exact⟨rfl,h2⟩
def Tryz.aAD(b:Nat)(w:yj):wz Tryz.prog 148 #[.float .f32 b] w fun e w'=>e=.returned (.bool (VE.gA b))/\VE.Calm w w':=by
 obtain⟨r,w1,h1,h2,h3⟩:=VE.adG Tryz.prog b w
 go_enter Tryz.func148,Tryz.ntmps148
 go_wp2_with (simp only[h1,h3])
 go_ret
 exact⟨rfl,h2⟩
end Go.Proofs
end
