import Ieee.Arith
import Derived.OwnWalk
import Derived.WalkKit
import Derived.Test.YtebpicijmcnecaaGreatDoorWaq
set_option linter.all false
set_option maxRecDepth 100000
open Bool renaming and_eq_true->ye,and_self->wG,and_true->uf,false_and->wW,false_eq_true->yD,false_or->vL,not_false->xj,not_true->xp,toNat_false->ybT,true_and->wM,true_eq_false->ybC,true_or->uI,xor_false->ycd
open Go renaming DataW->xP,Field->uk,FloatKind->wm,IntKind->xg,MemPlace->wN,Program->xy,TypeId->yA,Value->yh,World->yk,binOp->xX
open Int renaming add_zero->ycP,gcd->vz,le_of_lt->tJ,le_refl->ydc,lt_trichotomy->yav,mul_add->yde,mul_le_mul->ycp,mul_le_mul_of_nonneg_left->vP,mul_nonneg->yab,natAbs_ediv_of_dvd->th,natAbs_natCast->wX,natCast_add->tr,natCast_mul->xZ,natCast_nonneg->yaR,neg_neg->yaM,ofNat_eq_natCast->yby,ofNat_lt->tI,pow_pos->ydf,pow_succ->yaw,sub_self->ycS,tdiv_eq_ediv_of_nonneg->wg,tmod_eq_emod_of_nonneg->we,toNat_natCast->wi,toNat_of_nonneg->vK
open Int.ofNat renaming inj->yaF
open List renaming append_assoc->xK,append_nil->wL,cons_append->yB,drop->uB,drop_drop->vQ,drop_eq_getElem_cons->yW,drop_eq_nil_of_le->xh,drop_left->yaS,drop_zero->yg,eq_nil_of_length_eq_zero->yQ,flatMap_def->ybU,getD_eq_getElem?_getD->yS,getElem?_eq_getElem->xb,getElem_cons_zero->wq,length_append->yJ,length_cons->yv,length_drop->xU,length_map->xi,length_nil->yI,length_pos_iff->tj,length_take->yR,mapM_cons->uU,map_append->xG,map_cons->xe,map_nil->ve,map_set->ycJ,mem_cons->wB,mem_map->vM,nil_append->yL,replicate->yE,set_eq_of_length_le->yaZ,set_eq_take_append_cons_drop->uC,take_append_drop->wb,take_left->yaa,take_length->xQ,take_of_length_le->yK,take_set->ybb,take_succ_eq_append_getElem->xv
open List.cons renaming injEq->vX
open Nat renaming add_assoc->tY,add_comm->ycb,add_mod_left->ybY,add_mul->xY,add_zero->yZ,beq->yo,ble->yC,ble_eq_true_of_le->yy,blt->yM,div_add_mod->xT,div_eq_of_lt->xR,div_le_self->vD,div_lt_iff_lt_mul->xO,div_pos->ydd,eq_of_beq_eq_true->yf,eq_zero_or_pos->xx,gcd->wK,gcd_comm->yao,le_log2->ydb,le_mul_of_pos_left->ybj,le_of_ble_eq_true->yt,le_of_lt_succ->ud,le_of_not_lt->ybW,le_refl->yx,le_trans->xu,log2->yco,log2_lt->ybx,lt_log2_self->ybZ,lt_of_le_of_lt->wA,lt_of_lt_of_le->yG,lt_trans->uo,min_eq_left->xF,mod_add_div->tq,mod_eq_of_lt->yU,mod_lt->xD,mul_add->xL,mul_add_div->yar,mul_add_mod->yas,mul_assoc->xm,mul_comm->xA,mul_div_cancel->uZ,mul_le_mul->xC,mul_le_mul_left->xa,mul_le_mul_right->yT,mul_lt_mul''->yaE,mul_lt_mul_of_pos_right->xV,mul_mod_left->tA,mul_one->yj,mul_pos->vO,mul_zero->xH,ne_of_gt->tH,not_lt_zero->yaq,one_lt_two_pow->uh,one_mul->yaU,one_shiftLeft->ybS,pos_of_ne_zero->yam,pow_add->xM,pow_le_pow_left->um,pow_le_pow_right->xd,pow_lt_pow_iff_right->uv,pow_lt_pow_right->vE,pow_mul->yaL,pow_succ->xq,pow_zero->uP,reduceAdd->yb,reduceEqDiff->ya,reduceLT->yq,reduceLeDiff->yi,reduceMul->xk,shiftLeft_eq->tz,succ_mul->ycQ,two_pow_pos->xt,zero_add->yd,zero_le->tD,zero_mul->vt
open Option renaming bind_eq_bind->ue,bind_some->wE,map_eq_some_iff->wS,pure_def->vh
open Option.some renaming injEq->yc
open Prod.mk renaming injEq->ym
open Rat renaming den_intCast->tS,den_pow->ydh,divInt->wU,intCast_neg->tQ,lt_irrefl->yap,mul_assoc->ux,mul_comm->ycR,mul_lt_mul_right->uM,mul_one->uL,natCast_mul->xS,not_le->ybD,num_intCast->tR,num_nonneg->ycq,num_pow->ydg,sub_eq_add_neg->yaT,zpow_natCast->tB,zpow_neg->ycT
open Option renaming some->F5,none->F6
open Bool renaming true->ydo,false->ydp
section
namespace VE
open Go (IntKind)
def alV:∀(cs:List AV) (l:List Nat),Ae cs=F5 l->cs=l.map uc/\lo 18446744073709551616 l:=by
 intro cs
 induction cs with
 | nil=>
  intro l h;simp only[Ae,yc] at h;subst h;exact⟨rfl,fun _ h=>by cases h⟩
 | cons c cs ih=>
  intro l h;unfold Ae at h
  split at h
  .grind
  .rename_i d r zE;cases zE
   cases hb:yM d 18446744073709551616 with
   | false=>rw[hb] at h;cases h
   | true=>
    rw[hb] at h
    cases hw:Ae cs with
    | none=>rw[hw] at h;cases h
    | some l'=>
     rw[hw] at h;cases h;have⟨k1,k2⟩:=ih l' hw;refine⟨by rw[k1];rfl,fun x hx=>?_⟩
     rcases wB.1 hx with rfl | hx
     .simp_all
     .exact k2 x hx
  .cases h
def aa7:∀{l:List Nat},C1 l=ydo->iD l
 | [],h=>by cases h
 | [a],h=>by
  have h0:a≠0:=fun e=>by subst e;cases h
  exact Ga h0 []
 | a::b::r,h=>by
  have h1:ej (b::r)=b::r:=aa7 (l:=b::r) h;show ej (a::(b::r))=_
  simp only[ej] at h1 ⊢;rw[h1]
section
variable {P:aF}{L:Lib}
def arP(h:Has P L 99 FH)(WU:L.pure 135=F5 KX){s:Int}(hs:CX s=ydo):bW P L (D P L) 99 [.agg [aa s,.af]]=F5 (.str (bf s)):=by
 have e1:bW P L (D P L) 135 [aa s]=F5 (.str (bf s)):=by
  rw[kH WU];show (bif CX s then F5 (AV.str (bf s)) else F6)=_
  rw[hs];rfl
 rw[aG h];simp only[go_sem,ya,yb,FH,aO,bg,yd,cO,iO,eH,e1]
end
section
open Go
variable {O:bq}
def ano(hO:iK O)(hN:Nu O.prog O.aI)(WU:O.aI.pure 135=F5 KX)(Fk:O.aI.pure 138=F5 Cj)(BN:O.aI.pure 139=F5 Cy)(H7:Has O.prog O.aI 99 FH){fn:Func}{c:Code}(mH:O.P.funcs[O.ab 99]? =F5 fn)(kz:fn.body=F5 c)(Rg:fn.ntmps=69)(WR:QD 5 c)(ht:Uz O.P c):∀aq r,OJ aq=F5 r->eD O 99 aq r:=by
 intro aq r h;unfold OJ at h
 split at h
 .rename_i s
  cases hs:CX s with
  | false=>rw[hs] at h;cases h
  | true=>
   rw[hs] at h;cases h;have⟨k,hk⟩:=ad0 (arP (P:=O.prog) (L:=O.aI) H7 WU hs);exact sound hO hk
 .rename_i s e n cs
  cases hw:Ae cs with
  | none=>rw[hw] at h;cases h
  | some l=>
   rw[hw] at h;simp only at h
   cases hb:(yo l.length n&&(yC n 4000000000&&(C1 l&&yC 9223372036854775808 (AB l)))) with
   | false=>rw[hb] at h;cases h
   | true=>
    rw[hb] at h;simp only[ye] at hb;have⟨h1,h2,h3,h4⟩:=hb;obtain⟨rfl,aZ⟩:=alV cs l hw;have h1:=yf h1;subst h1;have h2:=yt h2;have h4:=yt h4;have h3:=aa7 h3;rw[Ux] at h4 h;have aM:=nR aZ;have key:=fun (s z:Int) (hz:z.natAbs=bv 18446744073709551616 l) (hs:s=if z<0 then -1 else 1)=>
     apv hO hN Fk BN H7.code mH kz Rg WR ht (s:=s) (z:=z) (e:=e) (l:=l) (.inr ⟨e,l,rfl,aZ,h3,hz.symm,hs,by lia⟩) (by lia) h2 (by lia)
    split at h
    .cases h
     have:=key 1 (bv 18446744073709551616 l:Nat) (by simp) (by rw[yp (by lia)])
     exact this
    .cases h
     have:=key (-1) (-(bv 18446744073709551616 l:Nat):Int) (by simp) (by rw[yz (by lia)])
     rw[mO (by lia)] at this
     grind
    .cases h
 .cases h
end
end VE
end
section
namespace VE
open Go
def O4(L:Lib)(n:Nat)(sp:List AV->Option AV):Lib:=⟨fun i=>bif yo i n then F5 sp else L.pure i,L.heap⟩
def aa8{O:bq}(hO:iK O){n:Nat}{sp:List AV->Option AV}(h:∀aq r,sp aq=F5 r->eD O n aq r):iK (O.zY (O4 O.aI n sp)) where
 hint:=hO.hint
 mixed:=hO.mixed
 prog:=hO.prog
 aI i Rv aq r hi hs:=by
  show eD O i aq r
  simp only[O4] at hi
  cases hb:yo i n with
  | true=>
   simp_all
  | false=>
   rw[hb] at hi;exact hO.aI i Rv aq r hi hs
 G6 i Rv hp ct aq v an aH hi hs:=aaO (hO.G6 i Rv hp ct aq v an aH hi hs)
end VE
end
section
namespace VE
open Go (IntKind)
def J4(n:Nat):10^n<=2^(4*n):=by
 rw[yaL];exact um (by decide) n
def Tt{b:Nat}{r:List Nat}(h:du (b::r)=ydo):48<=b/\b<=57:=by
 simp only[du,ye] at h
 simp_all
section
variable {P:aF}{L:Lib}
def aee(h:Tx P L){ds:List Nat}{N:Nat}(hD:cL ds 0=F5 N)(hl:ds.length<=4000000000){neg:Bool}{o1 o2:AV}:
  ew P L [0,2,3,4] Gz (fun m st=>∃(pre rest:List Nat) (a:Nat) (s:Int) (w:AV),st=⟨[(0,.str rest),(2,.ptr 0 0),(3,.bool neg),(4,.ptr 1 0)],[(1,.cells ydo ydo ydo 2 [aa s,w]),(0,.cells ydo ydo ydo 2 [o1,o2])],2,0⟩/\ds=pre++rest/\cL pre 0=F5 a/\dH s w a/\rest.length=m) (fun ex st'=>∃tm s w,st'=⟨tm,[(1,.cells ydo ydo ydo 2 [aa s,w]),(0,.cells ydo ydo ydo 2 [o1,o2])],2,0⟩/\ex=.exit 0/\aj tm 2=.ptr 0 0/\aj tm 3=.bool neg/\aj tm 4=.ptr 1 0/\dH s w N):=by
 apply eE;rintro m st ⟨pre,rest,a,s,w,rfl,FT,eN,hn,rfl⟩;have⟨l1,u1⟩:=hn.aK;have kP:=hD;rw[FT,JQ,eN] at kP;have kP:cL rest a=F5 N:=kP;have hlen:pre.length+rest.length<=4000000000:=by rw[FT,yJ] at hl;exact hl
 by_cases h0:rest.length=0
 .right
  have hr:rest=[]:=yQ h0;subst hr
  have:a=N:=by simpa[cL] using kP
  subst this;simp only[go_sem,Gz,yI,show ¬(0:Int)<((0:Nat):Int) by lia];exact⟨_,_,rfl,by simp,_,s,w,rfl,rfl,rfl,rfl,rfl,hn⟩
 .left
  obtain⟨n,AN⟩:∃n,n=min 18 rest.length:=⟨_,rfl⟩;have agm:(if (rest.length:Int)<18 then (rest.length:Int) else 18)=(n:Int):=by split<;>lia
  have ki:rest.take n++rest.drop n=rest:=wb n rest;obtain⟨a',FA⟩:∃a',cL (rest.take n) a=F5 a':=by
   rw[<-ki,JQ] at kP
   cases hq:cL (rest.take n) a with
   | none=>rw[hq] at kP;cases kP
   | some a'=>exact⟨a',rfl⟩
  obtain⟨v,hv⟩:∃v,cL (rest.take n) 0=F5 v:=by
   have:∀(l:List Nat) (x y b:Nat),cL l x=F5 y->∃z,cL l b=F5 z:=by
    intro l
    induction l with
    | nil=>intro x y b _;exact⟨b,rfl⟩
    | cons c l ih=>
     intro x y b hh;simp only[cL] at hh ⊢
     cases hb:(yC 48 c&&yC c 57) with
     | false=>rw[hb] at hh;cases hh
     | true=>rw[hb] at hh;exact ih _ _ _ hh
   exact this _ _ _ 0 FA
  have ahe:=apt (a:=a) hv;have YE:(rest.take n).length=n:=by rw[yR];lia
  rw[YE,FA,yc] at ahe;have WV:=Uy hv;rw[YE] at WV;have aFC:v<1000000000000000000:=yG WV (xd (n:=10) (by decide) (show n<=18 by lia));have e1:=arM (P:=P) h.WL (f:=D P L) (s:=rest.take n) (by lia) (by lia) hv;have⟨t1,t2⟩:=Fi h.toNu (z:=10) (by decide) (by decide);have⟨t3,t4⟩:=Fi h.toNu (z:=(v:Int)) (by lia) (by lia);have⟨p,e2,hp⟩:=WO h.toNu h.zf t2 (K:=4) (k:=n) (by unfold Bd;decide) (by lia) (by lia)
  have halt:=Uy eN;have ba:Bd (4*pre.length) (a:Int):=yG halt (J4 _);have bp:Bd (4*n+1) ((10:Int)^n):=Bd.pow (k:=4) (by unfold Bd;decide) n
  have⟨q,e3,hq⟩:=AA h.toNu (v:=.agg [aa s,w]) ⟨s,w,rfl,hn⟩ hp (K:=4*pre.length+4*n+1) (ba.mono (by lia)) (bp.mono (by lia)) (by lia);have bv':Bd (4*n) (v:Int):=yG WV (J4 _);have⟨r,e4,hr⟩:=LW h.toNu hq t4 (K:=4*pre.length+4*n+1) ((ba.mul bp).mono (by lia)) (bv'.mono (by lia)) (by lia);have aP:(a:Int)*10^n+(v:Int)=(a':Int):=by
   rw[ahe]
   simp
  rw[aP] at hr;obtain⟨s2,w2,rfl,h2⟩:=hp;obtain⟨s3,w3,rfl,h3⟩:=hq;obtain⟨s4,w4,rfl,h4⟩:=hr;have⟨l2,u2⟩:=h2.aK;have⟨l3,u3⟩:=h3.aK;have⟨l4,u4⟩:=h4.aK;have un:=zX;have c1:jj rest (F5 0) (F5 n)=F5 (.str (rest.take n)):=by rw[mP (by lia) (by lia),yg]
  have c2:jj rest (F5 n) (F5 rest.length)=F5 (.str (rest.drop n)):=by rw[mP (by lia) (by lia),xQ]
  simp only[go_sem,ya,Gz,show (0:Int)<(rest.length:Nat) by lia,ad5,ab2,agm,fy,fS,eC,c1,c2,e1,bY,t1,t3,cm,u1.ai,u2.ai,u3.ai,un.ai,e2,e3,e4,bi,bY,yg,ep u4];refine⟨_,(rest.drop n).length,rfl,by rw[xU];lia,pre++rest.take n,rest.drop n,a',s4,w4,by simp only[go_sem,ya,yb,az],by rw[xK,ki];exact FT,by rw[JQ,eN];exact FA,h4,rfl⟩
def Tu{b:Nat}{r:List Nat}(h:48<=b):iq [45] (b::r)=ydp:=by
 show (yo 45 b&&ydo)=ydp
 rw[gF (by lia)];rfl
def L2(h:Tx P L){z:Int}(hz:(bf z).length<=4000000000):∃r,ah P L 110 [.str (bf z)] r/\cD r z:=by
 have hN:=Ba z.natAbs;have un:=zX;have zt:(aA z.natAbs).length<=4000000000:=by
  by_cases h0:z<0
  .rw [mO h0] at hz;simp at hz;lia
  .rw [<-pP,yp h0] at hz;simpa using hz
 have ba:Bd (4*(aA z.natAbs).length) (z.natAbs:Int):=yG (Uy hN) (J4 _);by_cases h0:z<0
 .have hs:bf z=45::aA z.natAbs:=mO h0;have e1:bW P L (D P L) 152 [.str (45::aA z.natAbs),.str [45]]=F5 (.bool ydo):=by rw[kH h.ag9];rfl
  have e2:bW P L (D P L) 153 [.str (45::aA z.natAbs),.str [45]]=F5 (.str (aA z.natAbs)):=by rw[kH h.WK];rfl
  have jY:∃s w r,ah P L 110 [.str (bf z)] r/\dH s w (z.natAbs:Int)/\ah P L 147 [.agg [aa s,w]] r/\cD r (-(z.natAbs:Int)):=by
   rw[hs];unfold ah;rw[aG h.ahb];simp only[go_sem,ya,yb,PY,aO,e1,e2,un.pu,un.one,ep un];generalize hq:D P L (.loop _ Gz) _=q;obtain⟨ex,st,rfl,tm,s,w,rfl,rfl,t2,t3,t4,h5⟩:=bQ hq (aee (P:=P) (L:=L) h hN zt (neg:=ydo) (o1:=.int .i64 0) (o2:=.af) (aA z.natAbs).length) ⟨[],aA z.natAbs,0,0,.af,by simp only[go_sem,ya,yb,az]<;>rfl,rfl,rfl,.inl ⟨rfl,rfl,by decide,by decide⟩,rfl⟩
   have⟨l5,u5⟩:=h5.aK;have⟨r,e3,hr⟩:=Ht h.toNu (v:=.agg [aa s,w]) ⟨s,w,rfl,h5⟩ (K:=4*(aA z.natAbs).length) ba (by lia);have bB:=hr;obtain⟨s6,w6,rfl,h6⟩:=hr;have⟨l6,u6⟩:=h6.aK;refine⟨s,w,_,?_,h5,e3,bB⟩;simp only[go_sem,ya,yb,az,t2,t3,t4,bY,cm,u5.ai,e3,bi,cJ,cK,bY,yg,oQ u6,ep u6]
  have⟨s,w,r,g1,_,_,g2⟩:=jY;rw[show -((z.natAbs:Nat):Int)=z by lia] at g2;exact⟨r,g1,g2⟩
 .have hs:bf z=aA z.natAbs:=by rw[<-pP,yp h0];rfl
  have⟨b,r0,hb,fV,fQ⟩:=Gd z.natAbs;have e1:bW P L (D P L) 152 [.str (aA z.natAbs),.str [45]]=F5 (.bool ydp):=by
   rw[kH h.ag9,hb];show F5 (AV.bool (iq [45] (b::r0)))=_
   rw[Tu fV]
  have e2:bW P L (D P L) 153 [.str (aA z.natAbs),.str [45]]=F5 (.str (aA z.natAbs)):=by
   rw[kH h.WK,hb];show F5 (AV.str (bif iq [45] (b::r0) then _ else _))=_
   rw[Tu fV];rfl
  have jY:∃s w,ah P L 110 [.str (bf z)] (.agg [aa s,w])/\dH s w (z.natAbs:Int):=by
   rw[hs];unfold ah;rw[aG h.ahb];simp only[go_sem,ya,yb,PY,aO,e1,e2,un.pu,un.one,ep un];generalize hq:D P L (.loop _ Gz) _=q;obtain⟨ex,st,rfl,tm,s,w,rfl,rfl,t2,t3,t4,h5⟩:=bQ hq (aee (P:=P) (L:=L) h hN zt (neg:=ydp) (o1:=.int .i64 0) (o2:=.af) (aA z.natAbs).length) ⟨[],aA z.natAbs,0,0,.af,by simp only[go_sem,ya,yb,az]<;>rfl,rfl,rfl,.inl ⟨rfl,rfl,by decide,by decide⟩,rfl⟩
   have⟨l5,u5⟩:=h5.aK;refine⟨s,w,?_,h5⟩;simp only[go_sem,ya,yb,az,t2,t3,t4,bY,cJ,cK,bY,yg,oQ u5,ep u5]
  have⟨s,w,g1,g2⟩:=jY;rw[show ((z.natAbs:Nat):Int)=z by lia] at g2;exact⟨_,g1,s,w,rfl,g2⟩
def JH(b:Nat)(r:List Nat)(c:Nat):iq [c] (b::r)=yo c b:=by
 show (yo c b&&ydo)=_
 grind
def ZD:∀(l r:List Nat) (k:Nat),(∀x,x∈l->x≠47)->nM [47] (l++47::r) k=F5 (k+l.length)
 | [],r,k,_=>by
  show (bif iq [47] (47::r) then F5 k else _)=_
  rw[JH];rfl
 | b::l,r,k,h=>by
  show (bif iq [47] (b::(l++47::r)) then F5 k else nM [47] (l++47::r) (k+1))=_
  rw[JH,gF (fun e=>h b (by simp) e.symm),yO,ZD l r (k+1) (fun x hx=>h x (by simp[hx])),yv]
  grind
def index_none:∀(l:List Nat) (k:Nat),(∀x,x∈l->x≠47)->nM [47] l k=F6
 | [],k,_=>rfl
 | b::l,k,h=>by
  show (bif iq [47] (b::l) then F5 k else nM [47] l (k+1))=_
  rw[JH,gF (fun e=>h b (by simp) e.symm),yO,index_none l (k+1) (fun x hx=>h x (by simp[hx]))]
def acg:∀{l:List Nat},du l=ydo->∀x,x∈l->48<=x/\x<=57
 | [],_,x,hx=>by simp at hx
 | b::l,h,x,hx=>by
  have h1:=Tt h;simp only[du,ye] at h;rcases wB.1 hx with rfl | hx
  .grind
  .exact acg h.2 x hx
def akp(z:Int):∀x,x∈bf z->x≠47:=fun x hx=>by
 rw[<-pP] at hx;rcases List.mem_append.1 hx with h | h
 .grind
 .have:=acg (A9 _) x h;lia
def m62(h:Tx P L){a:Rat}(hl:(RT a).length<4000000000):∃r,ah P L 62 [.str (RT a)] r/\bH r a:=by
 have HP:=akp a.num;unfold RT at hl ⊢;by_cases hd:a.den=1
 .rw [yz hd,wL] at hl ⊢;have⟨p,e1,hp⟩:=L2 h (z:=a.num) (by lia);have⟨r,e2,hr⟩:=WJ h.toFr' hp;rw[<-Uw a hd] at hr;have bB:=hr;obtain⟨s1,w1,rfl,h1⟩:=hp;obtain⟨s2,w2,s3,w3,rfl,h2,h3⟩:=hr;have⟨l1,u1⟩:=h1.aK;have⟨l2,u2⟩:=h2.aK;have⟨l3,u3⟩:=h3.aK;have e0:bW P L (D P L) 109 [.str (bf a.num),.str [47]]=F5 (.aw [.str (bf a.num),.str [],.bool ydp]):=by
   rw[kH h.WM];show (bif yM (bf a.num).length 4294967281 then (match nM [47] (bf a.num) 0 with | some i=>_ | none=>F5 (AV.aw [.str (bf a.num),.str [],.bool ydp])) else F6)=_
   rw[mv (by lia),index_none _ _ HP];rfl
  refine⟨_,?_,bB⟩;unfold ah;rw[aG h.RX];simp only[go_sem,ya,yb,Rx,aO,e0,e1,bi,u1.ai,cm,e2,lf u2 u3,cJ,cK,yg,gS,lh u2 u3]
 .rw [yp hd] at hl ⊢;simp only[yJ,yv] at hl;have⟨p,e1,hp⟩:=L2 h (z:=a.num) (by lia);have⟨q,e2,hq⟩:=L2 h (z:=(a.den:Int)) (by rw[nG];lia)
  rw[nG] at e2;obtain⟨s1,w1,rfl,h1⟩:=hp;obtain⟨s2,w2,rfl,h2⟩:=hq;have⟨l1,u1⟩:=h1.aK;have⟨l2,u2⟩:=h2.aK;have e0:bW P L (D P L) 109 [.str (bf a.num++47::aA a.den),.str [47]]=F5 (.aw [.str (bf a.num),.str (aA a.den),.bool ydo]):=by
   rw[kH h.WM];show (bif yM (bf a.num++47::aA a.den).length 4294967281 then (match nM [47] (bf a.num++47::aA a.den) 0 with | some i=>F5 (AV.aw [.str ((bf a.num++47::aA a.den).take i),.str ((bf a.num++47::aA a.den).drop (i+1)),.bool ydo]) | none=>_) else F6)=_
   rw[mv (by simp;lia),ZD _ _ _ HP]
   simp only[yd,yu,yaa];rw[show (bf a.num).length+1=(bf a.num++[47]).length by simp,show bf a.num++47::aA a.den=(bf a.num++[47])++aA a.den by simp,yaS]
  refine⟨.agg [aa s1,w1,aa s2,w2],?_,s1,w1,s2,w2,rfl,h1,h2⟩;unfold ah;rw[aG h.RX];simp only[go_sem,ya,yb,Rx,aO,e0,e1,e2,bi,u1.one,u2.one,Eo,Ep,lf u1 u2,cJ,cK,yg,gS,lh u1 u2]
end
end VE
end
section
namespace VE
open Go (IntKind)
def dQ(p:List Nat):Bool:=du p&&(match p with | []=>ydp | b::r=> !(yo b 48)||r.isEmpty)
def fN(p:List Nat):Nat:=(cL p 0).getD 0
def n5(neg:Bool)(t:List Nat):Int:=
 if dQ (t.take (bS t))=ydp\/(neg=ydo/\t.take (bS t)=[48]) then 1
 else if bS t<t.length/\(dQ (t.drop (bS t+1))=ydp\/t.drop (bS t+1)=[48]\/t.drop (bS t+1)=[49]) then 1
 else if 600<bS t\/600<t.length-bS t-1 then 4
 else if bS t<t.length/\wK (fN (t.take (bS t))) (fN (t.drop (bS t+1)))≠1 then 1
 else 0
def cI:List Nat->Int
 | []=>n5 ydp []
 | b::t=>if b=45 then n5 ydo t else n5 ydp (b::t)
def ach:∀{p:List Nat} (a:Nat),du p=ydo->∃n,cL p a=F5 n
 | [],a,_=>⟨a,rfl⟩
 | b::r,a,h=>by
  have h':=h;simp only[du,ye] at h';have⟨n,hn⟩:=ach (p:=r) (10*a+(b-48)) h'.2;exact⟨n,by simp only[cL,h'.1.1,h'.1.2,wG,yu];exact hn⟩
def Ge:∀(k:Nat) {p:List Nat},p.length=k->dQ p=ydo->aA (fN p)=p:=by
 intro k
 induction k with
 | zero=>intro p hl h;rw[yQ hl] at h;simp[dQ] at h
 | succ k ih=>
  intro p hl h;rcases snoc p with rfl | ⟨m,a,rfl⟩
  .grind
  .simp only [dQ,ye,Nt] at h;have⟨⟨h1,h2⟩,h3⟩:=h;simp only[du,ye] at h2;have ha1:=yt h2.1.1;have ha2:=yt h2.1.2;have⟨n,hn⟩:=ach 0 h1;have hv:fN (m++[a])=10*n+(a-48):=by
    unfold fN;rw[JQ,hn];simp only[wE,cL,h2.1.1,h2.1.2,wG,yu,Option.getD_some]
   cases m with
   | nil=>
    have:n=0:=by simpa[cL] using hn.symm
    rw[hv,pO (by lia)]
    simp;lia
   | cons b r=>
    have hd:dQ (b::r)=ydo:=by
     simp only[dQ,h1,wM]
     cases r with
     | nil=>simp
     | cons c r=>simp at h3 ⊢;exact h3
    have hm:=ih (p:=b::r) (by simpa using hl) hd;have hnv:fN (b::r)=n:=by unfold fN;rw[hn];rfl
    rw[hnv] at hm;have zy:n≠0:=fun e=>by
     rw[pO (by lia)] at hm
     simp_all
    rw[hv,rk (by lia),show (10*n+(a-48))/10=n by lia,show 48+(10*n+(a-48))%10=a by lia,hm]
def Zc(t:List Nat):bS t<t.length->t=t.take (bS t)++47::t.drop (bS t+1):=by
 induction t with
 | nil=>simp
 | cons b r ih=>
  intro h;simp only[bS] at h ⊢
  grind
def aa9{n:Int}{d:Nat}(hd:0<d)(hg:wK n.natAbs d=1):∃r:Rat,r.num=n/\r.den=d:=⟨⟨n,d,by lia,hg⟩,rfl,rfl⟩
def avB{s:List Nat}(h:cI s=0):∃r:Rat,s=RT r/\(aA r.num.natAbs).length<=600/\(aA r.den).length<=600:=by
 have key:∀(neg:Bool) (t:List Nat),n5 neg t=0->∃r:Rat,(if neg=ydo then [45] else [])++t=RT r/\(aA r.num.natAbs).length<=600/\(aA r.den).length<=600:=by
  intro neg t h;unfold n5 at h
  split at h
  .grind
  rename_i h1
  split at h
  .grind
  rename_i h2
  split at h
  .grind
  rename_i h3
  split at h
  .grind
  rename_i h4;have hle:=JF t;have hp:dQ (t.take (bS t))=ydo:=by
   cases hb:dQ (t.take (bS t)) with
   | true=>rfl
   | false=>exact absurd (.inl hb) h1
  have zL:=Ge _ rfl hp;generalize hn:fN (t.take (bS t))=n at*
  have ax2:neg=ydo->n≠0:=fun hh e=>by
   subst e;exact h1 (.inr ⟨hh,by rw[<-zL];rfl⟩)
  have hint:(if neg=ydo then [45] else [])++aA n=bf (if neg=ydo then -(n:Int) else n):=by
   cases neg with
   | true=>
    have:=ax2 rfl
    simp only[xJ];rw[mO (by lia)]
    simp
   | false=>simp[nG]
  have WW:(if neg=ydo then -(n:Int) else n).natAbs=n:=by split<;>lia
  have hln:(aA n).length<=600:=by rw[zL,yR];lia
  by_cases hs:bS t<t.length
  .have hq:dQ (t.drop (bS t+1))=ydo:=by
    cases hb:dQ (t.drop (bS t+1)) with
    | true=>rfl
    | false=>exact absurd ⟨hs,.inl hb⟩ h2
   have qZ:=Ge _ rfl hq;have hg:wK n (fN (t.drop (bS t+1)))=1:=by
    grind
   have lI:=Zc t hs;have M5:(t.drop (bS t+1)).length<=600:=by rw[xU];lia
   rw[<-qZ] at lI M5;have gP:fN (t.drop (bS t+1))≠0:=fun e=>by
    rw[e] at qZ;exact h2 ⟨hs,.inr (.inl (by rw[<-qZ];rfl))⟩
   have so:fN (t.drop (bS t+1))≠1:=fun e=>by
    rw[e] at qZ;exact h2 ⟨hs,.inr (.inr (by rw[<-qZ];rfl))⟩
   generalize fN (t.drop (bS t+1))=d at*
   have⟨r,et,od⟩:=aa9 (n:=if neg=ydo then -(n:Int) else n) (d:=d) (by lia) (by rw[WW];exact hg)
   refine⟨r,?_,by rw[et,WW];exact hln,by rw[od];exact M5⟩
   unfold RT;rw[et,od,yp so,<-hint,xK]
   congr 1
   rw[zL];exact lI
  .have ht:t.take (bS t)=t:=yK (by lia);rw[ht] at zL;have⟨r,et,od⟩:=aa9 (n:=if neg=ydo then -(n:Int) else n) (d:=1) (by lia) (Nat.gcd_one_right _);refine⟨r,?_,by rw[et,WW];exact hln,by rw[od];decide⟩
   unfold RT;rw[et,od,yz rfl,<-hint,wL,zL]
 cases s with
 | nil=>exact absurd h (by decide)
 | cons b t=>
  simp only[cI] at h
  split at h
  .rename_i hb;subst hb;exact key ydo t h
  .exact key ydp (b::t) h
end VE
end
section
namespace VE
namespace Nd
structure Ord(n:Nat)(l:List Int):Prop where
 len:l.length=n
 rX:∀a,a<n->0<=l.getD a 0/\l.getD a 0<n
 inj:∀a b,a<n->b<n->l.getD a 0=l.getD b 0->a=b
end Nd
end VE
end
section
namespace VE
namespace Nd
open Go (IntKind)
section
variable {P:aF}{L:Lib}
abbrev ah(P:aF)(L:Lib)(f:Nat)(aq:List AV)(r:AV):Prop:=bW P L (D P L) f aq=F5 r
def stS{hp:Hp}{ct id o:Nat}{v:Int}{ex:Bool}{l:List Int}(h:o<l.length):gO hp ct id o 1 [.int .i64 v] (F5 (.cells ydo ydo ex 1 (l.map aa)))=F5 (.aw [],aU hp id (.cells ydo ydo ex 1 ((l.set o v).map aa)),ct):=by
 rw[Am (by rfl) (by simp;lia) (by rfl)]
 have:over o [AV.int .i64 v] (l.map aa)=(l.set o v).map aa:=by
  simp only[over,yv,yI,yd];rw[ycJ,uC,yz (by simpa using h)]
  simp
 rw[this];rfl
def BO(h:Has P L 124 Hd)(b:Bool)(n:Int):ah P L 124 [.bool b,aa n] (aa (if b=ydo then n else 0)):=by
 unfold ah;rw[aG h]
 cases b with
 | true=>simp only[go_sem,ya,Hd,xJ]
 | false=>simp only[go_sem,ya,Hd];rfl
def az7(h:Has P L 125 P0){v:AV}{l:List Int}(hv:bk v l)(hl:l.length<=1000000):ah P L 125 [v] (aa (bF l)):=by
 unfold ah;rw[aG h];simp only[go_sem,ya,P0,hv.len];have key:=Of (P:=P) (L:=L) (live:=[5,6,7]) (a:=OT)
  (I:=fun k s=>∃tm ct i,s=⟨tm,[],ct,0⟩/\aj tm 5=v/\aj tm 6=aa l.length/\aj tm 7=aa (i:Nat)/\i+k=l.length/\bF (l.drop i)=bF l)
  (Q:=fun ex s=>∃tm,s=⟨tm,[],0,0⟩/\((ex=.ret/\aj tm 2=aa (bF l))\/(ex=.exit 0/\bF l=0))) ?_ l.length
 .generalize hq:D P L (.loop _ OT) _=q;obtain⟨ex,s,rfl,tm,rfl,h2⟩:=bQ hq key ⟨_,_,0,rfl,rfl,rfl,rfl,by lia,rfl⟩;rcases h2 with ⟨rfl,h2⟩ | ⟨rfl,h2⟩
  .simp only [go_sem,h2]
  .rw [h2];simp only[go_sem]
 .rintro k s ⟨tm,ct,i,rfl,h5,h6,h7,hk,hf⟩;rw[Sv (by simp only[go_sem,h5,h6,h7,hv.pu])];simp only[go_sem,ya,h5,h6,h7,OT];by_cases hi:i<l.length
  .have c9:(i:Int)<l.length:=by lia
   rw[SD hi] at hf;by_cases hz:l[i]=0
   .left
    simp only[go_sem,ya,c9,hv.bj hi,hz];refine⟨_,k-1,rfl,by lia,_,_,i+1,rfl,?_⟩;rw[wrap64 (by lia) (by lia)];rw[yz hz] at hf;simp only[go_sem,ya];exact⟨trivial,trivial,rfl,by lia,hf⟩
   .right
    simp only[go_sem,ya,c9,hv.bj hi,hz];rw[yp hz] at hf;refine⟨_,_,rfl,by simp,_,rfl,.inl ⟨rfl,?_⟩⟩;simp only[go_sem,hf]
  .right
   have c9:¬(i:Int)<l.length:=by lia
   simp only[go_sem,c9];refine⟨_,_,rfl,by simp,_,rfl,.inr ⟨rfl,?_⟩⟩;rw[<-hf,xh (by lia)];rfl
end
end Nd
end VE
end
section
namespace VE
open Go (IntKind)
section
variable {a b p:List Nat}
def aci(i:Nat):Hc i [48,49,50,51,52,53,54,55,56,57]=(yC 48 i&&yC i 57):=by
 by_cases h:48<=i/\i<=57
 .have ⟨h1,h2⟩:=h;obtain⟨k,rfl⟩:∃k,i=48+k:=⟨i-48,by lia⟩;rcases (show k=0\/k=1\/k=2\/k=3\/k=4\/k=5\/k=6\/k=7\/k=8\/k=9 by lia) with rfl | rfl | rfl | rfl | rfl | rfl | rfl | rfl | rfl | rfl<;>rfl
 .have e:(yC 48 i&&yC i 57)=ydp:=by
   cases h1:yC 48 i with
   | false=>rfl
   | true=>
    cases h2:yC i 57 with
    | false=>rfl
    | true=>exact absurd ⟨yt h1,yt h2⟩ h
  rw[e];have ne:∀c,48<=c->c<=57->yo c i=ydp:=fun c h1 h2=>gF (by lia)
  simp only[Hc,ne 48 (by decide) (by decide),ne 49 (by decide) (by decide),ne 50 (by decide) (by decide),ne 51 (by decide) (by decide),ne 52 (by decide) (by decide),ne 53 (by decide) (by decide),ne 54 (by decide) (by decide),ne 55 (by decide) (by decide),ne 56 (by decide) (by decide),ne 57 (by decide) (by decide),yO]
def Tv:∀l:List Nat,mu [48,49,50,51,52,53,54,55,56,57] l=[]↔du l=ydo
 | []=>by simp[mu,du]
 | b::r=>by
  simp only[mu,du,aci]
  cases hb:(yC 48 b&&yC b 57) with
  | true=>simp only[yu,wM];exact Tv r
  | false=>simp
def Oj:∀l:List Nat,du l.reverse=du l
 | []=>rfl
 | b::r=>by rw[List.reverse_cons,Nt,Oj r];simp[du,Bool.and_comm]
def Zf:∀l:List Nat,du l=ydp->du (mu [48,49,50,51,52,53,54,55,56,57] l)=ydp
 | [],h=>by simp[du] at h
 | b::r,h=>by
  simp only[mu,aci]
  cases hb:(yC 48 b&&yC b 57) with
  | true=>
   simp only[du,hb,wM] at h;exact Zf r h
  | false=>simp only[yO];exact h
def apz(p:List Nat):c6 (mu [48,49,50,51,52,53,54,55,56,57] (mu [48,49,50,51,52,53,54,55,56,57] p.reverse).reverse) []=du p:=by
 cases hd:du p with
 | true=>
  have h1:=(Tv p.reverse).2 (by rw[Oj];exact hd)
  rw[h1];rfl
 | false=>
  have h1:=Zf p.reverse (by rw[Oj];exact hd)
  have h2:du (mu [48,49,50,51,52,53,54,55,56,57] p.reverse).reverse=ydp:=by rw[Oj];exact h1
  cases hq:mu [48,49,50,51,52,53,54,55,56,57] (mu [48,49,50,51,52,53,54,55,56,57] p.reverse).reverse with
  | nil=>have:=(Tv _).1 hq;rw[h2] at this;exact absurd this (by decide)
  | cons b r=>rfl
def Zg:∀(t:List Nat) (k:Nat),nM [47] t k=if bS t<t.length then F5 (k+bS t) else F6
 | [],k=>by simp[nM,iq,bS]
 | b::r,k=>by
  by_cases hb:b=47
  .subst hb;have e:bS (47::r)=0:=by simp[bS]
   rw[e,yz (by simp)];rfl
  .have e:bS (b::r)=bS r+1:=by simp[bS,hb]
   have hp:iq [47] (b::r)=ydp:=by rw[JH];exact gF (fun e=>hb e.symm)
   rw[e,nM,hp,yO,Zg r (k+1)]
   grind
def Er(a b:List Nat):binOp .neq (.str a) (.str b)=F5 (.bool (!(c6 a b))):=rfl
structure Ck(P:aF)(L:Lib):Prop extends Tx P L where
 az8:L.pure 128=F5 NE
 az9:L.pure 162=F5 trimS
 h86:Has P L 86 fD
 Fm:Has P L 124 Hd
 aAa:Has P L 125 P0
 aAb:Has P L 129 He
section
variable {P:aF}{L:Lib}
def BO(h:Has P L 124 Hd)(b:Bool)(n:Int):ah P L 124 [.bool b,aa n] (aa (if b=ydo then n else 0)):=Nd.BO h b n
def ahf(h:Ck P L)(hl:p.length<=4000000000):ah P L 129 [.str p] (.bool (dQ p)):=by
 have e1:bW P L (D P L) 162 [.str p,.str [48,49,50,51,52,53,54,55,56,57]]=F5 (.str (mu [48,49,50,51,52,53,54,55,56,57] (mu [48,49,50,51,52,53,54,55,56,57] p.reverse).reverse)):=by
  rw[kH h.az9];show (bif Gy [48,49,50,51,52,53,54,55,56,57]&&(yM p.length 4294967281&&yM 10 4294967281) then _ else F6)=_
  rw[mv (by lia)];rfl
 have e2:=apz p;unfold ah;rw[aG h.aAb]
 match p,e1,e2 with
 | [],_,_=>
  simp only[go_sem,ya,He,Er,show c6 [] []=ydo from rfl,xp];rfl
 | b::r,e1,e2=>
  have hI:oP 0 (.str (b::r))=F5 (.int .u8 (b:Nat)):=rfl;have h0:c6 (b::r) []=ydp:=rfl;have hd:dQ (b::r)=(du (b::r)&&(!(yo b 48)||r.isEmpty)):=rfl;rw[hd]
  cases mI:du (b::r) with
  | false=>
   rw[mI] at e2;simp only[go_sem,ya,He,Er,h0,xj,e1,nJ,e2,wW]
  | true=>
   rw[mI] at e2;by_cases hb:b=48
   .subst hb;have e3:c6 (48::r) [48]=r.isEmpty:=by
     cases r with
     | nil=>rfl
     | cons c r=>rfl
    have XJ:oP 0 (.str (48::r))=F5 (.int .u8 48):=rfl;simp only[go_sem,ya,He,Er,h0,xj,e1,nJ,e2,XJ,yN,xp,e3];rfl
   .have:yo b 48=ydp:=gF hb
    rw[this];simp only[go_sem,ya,He,Er,h0,xj,e1,nJ,e2,hI,show ¬((b:Nat):Int)=48 by lia,yP,xj];rfl
def aAc(h:Ck P L)(s:List Nat):bW P L (D P L) 128 [.str s,.str [45]]=F5 (if s.head? =F5 45 then .aw [.str s.tail,.bool ydo] else .aw [.str s,.bool ydp]):=by
 rw[kH h.az8];show F5 (bif iq [45] s then AV.aw [.str (s.drop 1),.bool ydo] else .aw [.str s,.bool ydp])=_
 cases s with
 | nil=>rfl
 | cons b r=>
  by_cases hb:b=45
  .subst hb;rfl
  .have:iq [45] (b::r)=ydp:=by rw[JH];exact gF (fun e=>hb e.symm)
   grind
def aAd(h:Ck P L){t:List Nat}(hl:t.length<=4000000000):bW P L (D P L) 109 [.str t,.str [47]]=F5 (.aw [.str (t.take (bS t)),.str (t.drop (bS t+1)),.bool (decide (bS t<t.length))]):=by
 rw[kH h.WM];show (bif yM t.length 4294967281 then (match nM [47] t 0 with | some i=>F5 (AV.aw [.str (t.take i),.str (t.drop (i+1)),.bool ydo]) | none=>F5 (AV.aw [.str t,.str [],.bool ydp])) else F6)=_
 rw[mv (by lia),Zg];by_cases hs:bS t<t.length
 .grind
 .rw [yp hs,yY hs,yK (by lia),xh (by lia)];rfl
def alW{P:aF}{L:Lib}(a b c d:VC)(s:St):D P L (.seq a (.seq b (.seq c d))) s=rK P L (D P L (.seq a (.seq b c)) s) d:=by
 have e:=Ei (P:=P) (L:=L) b c d;rw[nS,nS]
 cases D P L a s with
 | none=>rfl
 | some q=>
  have⟨ex,st⟩:=q
  cases ex with
  | normal=>rw[jb,jb];exact e st
  | ret=>rfl
  | exit id=>rfl
def anp{P:aF}{L:Lib}(a b c d f:VC)(s:St):D P L (.seq a (.seq b (.seq c (.seq d f)))) s=rK P L (D P L (.seq a (.seq b (.seq c d))) s) f:=by
 have e:=alW (P:=P) (L:=L) b c d f;rw[nS,nS]
 cases D P L a s with
 | none=>rfl
 | some q=>
  have⟨ex,st⟩:=q
  cases ex with
  | normal=>rw[jb,jb];exact e st
  | ret=>rfl
  | exit id=>rfl
def OK(h:a=b):c6 a b=ydo:=by
 subst h
 induction a with
 | nil=>rfl
 | cons x a ih=>simp[c6,ih]
def UA(h:a≠b):c6 a b=ydp:=by
 cases hb:c6 a b with
 | false=>rfl
 | true=>
  exact absurd (by
   clear h;revert b
   induction a with
   | nil=>intro b hb;cases b with | nil=>rfl | cons y b=>simp[c6] at hb
   | cons x a ih=>
    intro b hb
    cases b with
    | nil=>simp[c6] at hb
    | cons y b=>
     simp only[c6,ye] at hb
     rw[yf hb.1,ih hb.2]) h
def ax3(h:Ck P L){q:List Nat}{ok found:Bool}(lp:p.length<=1000000000)(lq:q.length<=1000000000)(kC:ok=ydo->dQ p=ydo/\(found=ydo->dQ q=ydo)){tm:Env}(t5:aj tm 5=.str p)(t6:aj tm 6=.str q)(t7:aj tm 7=.bool found)(t8:aj tm 8=.bool ok):
  gJ [.t 2] (D P L (aC (aC (aC (aC (aC fD.body))))) ⟨tm,[],0,0⟩)=F5 (aa (
   if ok=ydp then 1
   else if 600<p.length\/600<q.length then 4
   else if found=ydo/\wK (fN p) (fN q)≠1 then 1
   else 0)):=by
 have w1:=BO h.Fm (!ok) 1;have Ca:∀a b:Int,ah P L 125 [.ap ydo 2 [aa a,aa b]] (aa (bF [a,b])):=fun a b=>Nd.az7 h.aAa (lF ydo [a,b]) (by simp)
 cases ok with
 | false=>
  have f1:=Ca 1 0;have f2:=Ca 1 4;have w2:=BO h.Fm ydp 4;have w3:=BO h.Fm ydo 4;simp only[xj,xJ,yD,xz] at w1 w2 w3;rw[show bF [1,0]=1 by decide] at f1;rw[show bF [1,4]=1 by decide] at f2;unfold ah at w1 w2 w3 f1 f2;by_cases h1:600<p.length
  .simp only [go_sem,ya,yb,yq,yi,yj,fD,aC,show ¬(1:Int)=0 by decide,xj,t5,t8,xj,w1,show (600:Int)<(p.length:Int) by lia,yN,w3,f2,yP]
   simp
  .by_cases h2:600<q.length
   .simp only [go_sem,ya,yb,yq,yi,yj,fD,aC,show ¬(1:Int)=0 by decide,xj,t5,t6,t8,xj,w1,show ¬(600:Int)<(p.length:Int) by lia,show (600:Int)<(q.length:Int) by lia,yN,yP,w3,f2]
    simp
   .simp only [go_sem,ya,yb,yq,yi,yj,fD,aC,show ¬(1:Int)=0 by decide,xj,t5,t6,t8,xj,w1,show ¬(600:Int)<(p.length:Int) by lia,show ¬(600:Int)<(q.length:Int) by lia,yP,w2,f1]
    simp
 | true=>
  have⟨hp,hq⟩:=kC rfl;have f1:=Ca 0 0;have f2:=Ca 0 4;have w2:=BO h.Fm ydp 4;have w3:=BO h.Fm ydo 4;have w4:=BO h.Fm ydp 1;have w5:=BO h.Fm ydo 1;simp only[xp,xJ,yD,xz] at w1 w2 w3 w4 w5;rw[show bF [0,0]=0 by decide] at f1;rw[show bF [0,4]=4 by decide] at f2;unfold ah at w1 w2 w3 w4 w5 f1 f2;rw[yp (by decide)];by_cases h1:600<p.length
  .rw [yz (.inl h1)];simp only[go_sem,ya,yb,yq,yi,yj,fD,aC,show ¬(4:Int)=0 by decide,xj,t5,t8,xp,w1,show (600:Int)<(p.length:Int) by lia,yN,w3,f2,yP]
  .by_cases h2:600<q.length
   .rw [yz (.inr h2)];simp only[go_sem,ya,yb,yq,yi,yj,fD,aC,show ¬(4:Int)=0 by decide,xj,t5,t6,t8,xp,w1,show ¬(600:Int)<(p.length:Int) by lia,show (600:Int)<(q.length:Int) by lia,yN,yP,w3,f2]
   .rw [yp (by lia)]
    cases found with
    | false=>
     rw[yp (by simp)];simp only[go_sem,ya,yb,yq,yi,yj,fD,aC,t5,t6,t7,t8,xp,w1,show ¬(600:Int)<(p.length:Int) by lia,show ¬(600:Int)<(q.length:Int) by lia,yN,yP,w2,f1]
    | true=>
     have zL:=Ge _ rfl hp;have qZ:=Ge _ rfl (hq rfl);generalize fN p=n at*
     generalize fN q=d at*
     subst zL;subst qZ;obtain⟨M,hM⟩:∃M:Nat,M=2400:=⟨_,rfl⟩;have bd:∀{m:Nat},(aA m).length<=600->Bd M (m:Int):=fun {m} hm=>by
      have h1:=J0 m;have h2:=J4 (aA m).length;have h3:(2:Nat)^(4*(aA m).length)<=2^M:=xd (by decide) (by lia);unfold Bd;rw[wX];exact yG h1 (xu h2 h3)
     have⟨x,e1,hx⟩:=L2 h.toTx (z:=(n:Int)) (by rw[nG];lia)
     have⟨y,e2,hy⟩:=L2 h.toTx (z:=(d:Int)) (by rw[nG];lia)
     rw[nG] at e1 e2;have kn:=bd (m:=n) (by lia);have kd:=bd (m:=d) (by lia);have⟨g,e3,hg⟩:=ag8 h.toNu hx hy kn kd (by lia);have⟨e4,Xv⟩:=Fi h.toNu (z:=1) (by decide) (by decide);have kg:Bd M ((vz (n:Int) (d:Int):Nat):Int):=by
      rcases xx d with h0 | h0
      .subst h0;simpa using kn
      .exact kd.le (by have:=Nat.gcd_le_right n h0;simpa using this)
     have e5:=ag2 h.toNu hg Xv (K:=M) kg (by unfold Bd;exact uh (by lia)) (by lia)
     have aAe:vz (n:Int) (d:Int)=wK n d:=rfl;rw[aAe] at e5;obtain⟨xs,xw,rfl,q9⟩:=hx;obtain⟨ys,yw,rfl,FU⟩:=hy;obtain⟨gs,gw,rfl,AY⟩:=hg;have⟨l1,u1⟩:=q9.aK;have⟨l2,u2⟩:=FU.aK;have⟨l3,u3⟩:=AY.aK;by_cases jl:wK n d=1
     .rw [yp (by simp[jl])];have hs:bV (((wK n d:Nat):Int)-1)=0:=by rw[jl];rfl
      rw[hs] at e5;simp only[go_sem,ya,yb,yq,yi,yj,fD,aC,t5,t6,t7,t8,xp,w1,show ¬(600:Int)<((aA n).length:Int) by lia,show ¬(600:Int)<((aA d).length:Int) by lia,yN,yP,w2,f1,e1,e2,u1.ai,u2.ai,u3.ai,bi,cm,e3,e4,e5]
     .rw [yz ⟨rfl,jl⟩];obtain⟨c,hc,lm⟩:∃c,bV (((wK n d:Nat):Int)-1)=c/\c≠0:=⟨_,rfl,fun e=>jl (by
       unfold bV at e
       split at e
       .exact absurd e (by decide)
       .split at e
        .lia
        .exact absurd e (by decide))⟩
      rw[hc] at e5;simp only[go_sem,ya,yb,yq,yi,yj,fD,aC,xj,t5,t6,t7,t8,xp,w1,show ¬(600:Int)<((aA n).length:Int) by lia,show ¬(600:Int)<((aA d).length:Int) by lia,yN,yP,w2,f1,e1,e2,u1.ai,u2.ai,u3.ai,bi,cm,e3,e4,e5,lm,xj,w5]
def m86(h:Ck P L){s:List Nat}(hl:s.length<=1000000000):ah P L 86 [.str s] (aa (cI s)):=by
 have key:∀(neg:Bool) (t:List Nat),t.length<=1000000000->bW P L (D P L) 128 [.str s,.str [45]]=F5 (.aw [.str t,.bool neg])->ah P L 86 [.str s] (aa (n5 neg t)):=by
  intro neg t hl e0;have e1:=aAd h (t:=t) (by lia);obtain⟨k,hk⟩:∃k,k=bS t:=⟨_,rfl⟩;have YF:k<=t.length:=by rw[hk];exact JF t
  have e2:=ahf h (p:=t.take k) (by rw[yR];lia)
  have e3:=ahf h (p:=t.drop (k+1)) (by rw[xU];lia)
  have lp:(t.take k).length=k:=by rw[yR];lia
  have lq:(t.drop (k+1)).length=t.length-k-1:=by rw[xU];lia
  unfold n5;rw[<-hk] at e1 ⊢;generalize hp:t.take k=p at*
  generalize hq:t.drop (k+1)=q at*
  obtain⟨DU,AD⟩:∃ok:Bool,ok=(dQ p&&(!neg|| !(c6 p [48]))):=⟨_,rfl⟩;obtain⟨ok,kC⟩:∃ok:Bool,ok=(DU&&(!(decide (k<t.length))||(dQ q&&(!(c6 q [48])&& !(c6 q [49]))))):=⟨_,rfl⟩
  have Qw:(if dQ p=ydp\/(neg=ydo/\p=[48]) then 1
    else if k<t.length/\(dQ q=ydp\/q=[48]\/q=[49]) then 1
    else if 600<k\/600<t.length-k-1 then 4
    else if k<t.length/\wK (fN p) (fN q)≠1 then 1 else 0:Int)=(if ok=ydp then 1
    else if 600<p.length\/600<q.length then 4
    else if decide (k<t.length)=ydo/\wK (fN p) (fN q)≠1 then 1
    else 0):=by
   rw[lp,lq];have a1:(dQ p=ydp\/(neg=ydo/\p=[48]))↔DU=ydp:=by
    rw[AD];cases dQ p<;>cases neg<;>simp
    by_cases e:p=[48]
    .simp [e,OK]
    .simp [e,UA e]
   have a2:ok=ydp↔(DU=ydp\/(k<t.length/\(dQ q=ydp\/q=[48]\/q=[49]))):=by
    rw[kC];by_cases hs:k<t.length
    .simp only [hs,yN,xp,vL,yag];cases DU<;>cases dQ q<;>simp
     by_cases e:q=[48]
     .simp [e,OK]
     .by_cases e':q=[49]
      .simp [e',OK]
      .simp [e,e',UA e,UA e']
    .simp [hs]
   by_cases h1:DU=ydp
   .rw [yz (a1.2 h1),yz (a2.2 (.inl h1))]
   .rw [yp (fun e=>h1 (a1.1 e))];by_cases h2:k<t.length/\(dQ q=ydp\/q=[48]\/q=[49])
    .rw [yz h2,yz (a2.2 (.inr h2))]
    .rw [yp h2,yp (fun e=>(a2.1 e).elim h1 h2)];simp only[vZ]
  rw[Qw];have aAf:ok=ydo->dQ p=ydo/\(decide (k<t.length)=ydo->dQ q=ydo):=fun e=>by
   rw[kC,ye] at e;have⟨e1,e2⟩:=e;rw[AD,ye] at e1;refine⟨e1.1,fun hs=>?_⟩;rw[hs,xp,vL,ye] at e2;exact e2.1
  have tail:∀tm,aj tm 5=.str p->aj tm 6=.str q->aj tm 7=.bool (decide (k<t.length))->aj tm 8=.bool ok->gJ [.t 2] (D P L (aC (aC (aC (aC (aC fD.body))))) ⟨tm,[],0,0⟩)=_:=fun tm t5 t6 t7 t8=>
   ax3 h (by lia) (by lia) aAf t5 t6 t7 t8
  have mid:∀tm,aj tm 5=.str p->aj tm 6=.str q->aj tm 7=.bool (decide (k<t.length))->aj tm 8=.bool DU->
    ∃tm',D P L (bw (aC (aC (aC (aC fD.body))))) ⟨tm,[],0,0⟩=F5 (.normal,⟨tm',[],0,0⟩)/\aj tm' 5=.str p/\aj tm' 6=.str q/\aj tm' 7=.bool (decide (k<t.length))/\aj tm' 8=.bool ok:=fun tm t5 t6 t7 t8=>by
   unfold ah at e3;by_cases hs:k<t.length
   .rw [xf hs] at t7 kC ⊢;simp only[xp,vL] at kC
    cases DU with
    | false=>
     rw[wW] at kC;subst kC;refine⟨_,by simp only[go_sem,ya,fD,bw,aC,t7,t8]<;>rfl,?_⟩
     simp only[go_sem,ya,t5,t6,t7,yag]
    | true=>
     rw[wM] at kC
     cases hd:dQ q with
     | false=>
      rw[hd] at e3 kC;rw[wW] at kC;subst kC;refine⟨_,by simp only[go_sem,ya,fD,bw,aC,t6,t7,t8,e3]<;>rfl,?_⟩
      simp only[go_sem,ya,t5,t6,t7,yag]
     | true=>
      rw[hd] at e3 kC;rw[wM] at kC
      cases kT:c6 q [48] with
      | true=>
       rw[kT,xp,wW] at kC;subst kC;refine⟨_,by simp only[go_sem,ya,fD,bw,aC,t6,t7,t8,e3,Er,kT,xp]<;>rfl,?_⟩
       simp only[go_sem,ya,t5,t6,t7,yag]
      | false=>
       rw[kT,xj,wM] at kC;subst kC;refine⟨_,by simp only[go_sem,ya,fD,bw,aC,t6,t7,t8,e3,Er,kT,xj]<;>rfl,?_⟩
       simp only[go_sem,ya,t5,t6,t7,yag]
   .rw [yY hs] at t7 kC ⊢;simp only[xj,uI,uf] at kC;subst kC;refine⟨_,by simp only[go_sem,fD,bw,aC,t7]<;>rfl,?_⟩
    simp only[go_sem,ya,t5,t6,t7,t8,yag]
  have fin:∀tm,aj tm 5=.str p->aj tm 6=.str q->aj tm 7=.bool (decide (k<t.length))->aj tm 8=.bool DU->
    D P L (.seq (bw fD.body) (.seq (bw (aC fD.body)) (.seq (bw (aC (aC fD.body))) (bw (aC (aC (aC fD.body))))))) ⟨[(0,.str s)],[],0,0⟩=F5 (.normal,⟨tm,[],0,0⟩)->ah P L 86 [.str s] _:=fun tm t5 t6 t7 t8 e=>by
   have⟨tm',e',f5,f6,f7,f8⟩:=mid tm t5 t6 t7 t8;unfold ah;rw[aG h.h86];show gJ [.t 2] (D P L (.seq (bw fD.body) (.seq (bw (aC fD.body)) (.seq (bw (aC (aC fD.body))) (.seq (bw (aC (aC (aC fD.body)))) (.seq (bw (aC (aC (aC (aC fD.body))))) (aC (aC (aC (aC (aC fD.body)))))))))) ⟨[(0,.str s)],[],0,0⟩)=_
   rw[anp,e,jb,nS,e',jb];exact tail tm' f5 f6 f7 f8
  unfold ah at e2
  cases hd:dQ p with
  | false=>
   rw[hd] at e2 AD;rw[wW] at AD;subst AD;refine fin _ ?_ ?_ ?_ ?_ (by simp only[go_sem,ya,fD,bw,aC,e0,e1,e2]<;>rfl)<;>simp only[go_sem,ya]
  | true=>
   rw[hd] at e2 AD
   cases neg with
   | false=>
    simp only[xj,uI] at AD;subst AD;refine fin _ ?_ ?_ ?_ ?_ (by simp only[go_sem,ya,fD,bw,aC,e0,e1,e2,xj]<;>rfl)<;>simp only[go_sem,ya]
   | true=>
    simp only[xp,vL] at AD;subst AD;refine fin _ ?_ ?_ ?_ ?_ (by simp only[go_sem,ya,fD,bw,aC,e0,e1,e2,xp,Er]<;>rfl)<;>simp only[go_sem,ya]
 unfold cI;have e0:=aAc h s
 cases s with
 | nil=>exact key ydp [] (by simp) e0
 | cons b r=>
  by_cases hb:b=45
  .subst hb;exact key ydo r (by simp at hl;lia) e0
  .simp only [hb,xz];rw[yp (by simpa using hb)] at e0;exact key ydp (b::r) hl e0
end
end
end VE
end
section
namespace VE
open Go (IntKind)
section
variable {v:AV}{z:Int}{K:Nat}
def LN(z:Int):Bool:=decide (600<(aA z.natAbs).length)
def LG(r:Rat):Bool:=LN r.num||LN (r.den:Int)
def S4{m B k:Nat}(hB:B<=3*k)(hk:0<k)(h:m<2^B):(aA m).length<=k:=by
 obtain⟨j,rfl⟩:∃j,k=j+1:=⟨k-1,by lia⟩;refine zW (yG h (xu (xd (by decide) hB) ?_));rw[yaL];exact um (by decide) _
def UB:∀f n:Nat,eO f n<=f
 | 0,_=>yx _
 | f+1,n=>by
  unfold eO
  cases yo n 0 with
  | true=>exact tD _
  | false=>have:=UB f (n/2);simp only[yO];lia
def avC{P:aF}{L:Lib}{f:cu}(h:L.pure 175=F5 Kh){x:Nat}(hx:x<2^64):bW P L f 175 [uc x]=F5 (aa (eO 64 x:Nat)):=by
 rw[kH h];show (bif yM x (2^64) then _ else F6)=_
 rw[mv hx];rfl
def arQ{V n top low:Nat}(hn:0<n)(h0:0<top)(ht:top<2^64)(hV:V=low+(2^64)^(n-1)*top)(hl:low<(2^64)^(n-1)):V<2^(64*(n-1)+eO 64 top):=by
 have⟨l1,l2,l3⟩:=TY h0 ht;have hle:=UB 64 top;have h1:top<2^eO 64 top:=by
  have e:(2^64:Nat)=2^eO 64 top*2^(64-eO 64 top):=by rw[<-xM,show eO 64 top+(64-eO 64 top)=64 by lia]
  rw[e] at l3;exact Nat.lt_of_mul_lt_mul_right l3
 have h3:=xa ((2^64)^(n-1)) (show top+1<=2^eO 64 top from h1);rw[xM,yaL]
 grind
section
variable {P:aF}{L:Lib}
def apA(K:Nat):2^K<=(2^64)^(K/64+1):=by
 rw[show (2^64:Nat)=2^64 from rfl,<-yaL];exact xd (by decide) (by lia)
def ax4(h:Tx P L)(hv:cD v z)(hz:Bd K z)(hK:K<=4000000000):∃B:Nat,ah P L 172 [v] (aa B)/\z.natAbs<2^B/\B<=K+64:=by
 obtain⟨s,w,rfl,hn⟩:=hv;have⟨l,u⟩:=hn.aK;have⟨r,e1,hr⟩:=BM h.toNu hn;have⟨ws,hw,g,nz',hb⟩:=hr;have hl:ws.length<=K/64+1:=qw nz' hb (yG hz (apA K));unfold ah at e1 ⊢;by_cases h0:ws=[]
 .subst h0;have kv:z.natAbs=0:=by rw[<-hb];rfl
  refine⟨0,?_,by rw[kv];decide,by lia⟩
  rw[aG h.aha];simp only[go_sem,ya,yb,P7,aO,bY,cm,u.pu,u.ai,u.one,e1,hw.len,yI,show ((0:Nat):Int)=0 from rfl,yN]
 .have hp:0<ws.length:=tj.2 h0;have rM:=Oe nz' h0;have FO:=iL (show 0<2^64 by decide) g (ws.length-1);have ei:=hw.bj (i:=ws.length-1) (by lia);have fa:=kI (b:=2^64) (l:=ws) (ws.length-1);have L3:=nR (Cz g (ws.length-1));rw[yR,xF (by lia)] at L3;rw[show ws.length-1+1=ws.length by lia,yK (yx _)] at fa;generalize ws.getD (ws.length-1) 0=top at*
  have e2:=avC (P:=P) (f:=D P L) h.az1 FO;have hle:=UB 64 top;have afF:=arQ hp (yam rM) FO fa L3;rw[hb] at afF;refine⟨64*(ws.length-1)+eO 64 top,?_,afF,by lia⟩;rw[aG h.aha]
  simp only[go_sem,ya,yb,P7,aO,bY,cm,u.pu,u.ai,u.one,e1,hw.len,show ¬(ws.length:Int)=0 by lia,show (ws.length:Int)-1=((ws.length-1:Nat):Int) by lia,wrapN (n:=ws.length-1) (by lia),show (64:Int)*((ws.length-1:Nat):Int)=((64*(ws.length-1):Nat):Int) by lia,wrapN (n:=64*(ws.length-1)) (by lia),ei,e2,show ((64*(ws.length-1):Nat):Int)+((eO 64 top:Nat):Int)=((64*(ws.length-1)+eO 64 top:Nat):Int) from rfl,wrapN (n:=64*(ws.length-1)+eO 64 top) (by lia)]
def aAg(h:Tx P L)(hv:cD v z)(hz:Bd K z)(hK:K<=4000000000):∃B:Nat,ah P L 172 [v] (aa B)/\z.natAbs<2^B/\B<=300000000000:=by
 have⟨B,h1,h2,h3⟩:=ax4 h hv hz hK;exact⟨B,h1,h2,by lia⟩
def anq(z:Int):(if iq [45] (bf z)=ydo then (bf z).drop 1 else bf z)=aA z.natAbs:=by
 by_cases h:z<0
 .rw [mO h];rfl
 .obtain ⟨m,rfl⟩:∃m:Nat,z=m:=⟨z.toNat,by lia⟩;rw[nG];have⟨b,r,hb,h1,_⟩:=Gd m;rw[wX,hb,Tu h1];rfl
def ahg(h:Tx P L)(hv:cD v z)(hz:Bd K z)(hK:K<=4000000000):ah P L 151 [v] (.bool (LN z)):=by
 have⟨B,e1,hB,hBb⟩:=aAg h hv hz hK;have e2:=YC h hv hz hK;obtain⟨s,w,rfl,hn⟩:=hv;have⟨l,u⟩:=hn.aK;have e3:bW P L (D P L) 153 [.str (bf z),.str [45]]=F5 (.str (aA z.natAbs)):=by
  rw[kH h.WK,<-anq];show F5 (AV.str (bif iq [45] (bf z) then (bf z).drop 1 else bf z))=_
  cases iq [45] (bf z)<;>rfl
 unfold ah at e1 e2 ⊢;rw[aG h.az2];unfold LN;by_cases h1:1800<B
 .simp only [go_sem,ya,yb,P3,aO,bY,cm,u.pu,u.ai,u.one,e1,show (1800:Int)<(B:Int) by lia,yN,e2,e3];by_cases h2:600<(aA z.natAbs).length
  .rw [xf h2,xf (by lia)]
  .rw [yY h2,yY (by lia)]
 .have h2:=S4 (k:=600) (by lia) (by decide) hB;rw[yY (by lia)];simp only[go_sem,ya,yb,P3,aO,bY,cm,u.pu,u.ai,u.one,e1,show ¬(1800:Int)<(B:Int) by lia,yP]
def aAh(h:Tx P L){a:Rat}(hv:bH v a)(ka:Hq K a)(hK:K<=4000000000):ah P L 107 [v] (.bool (LG a)):=by
 obtain⟨s1,w1,s2,w2,rfl,h1,h2⟩:=hv;have e1:=ahg h ⟨s1,w1,rfl,h1⟩ ka.1 hK;have e2:=ahg h ⟨s2,w2,rfl,h2⟩ ka.2 hK;have⟨l1,u1⟩:=h1.aK;have⟨l2,u2⟩:=h2.aK;unfold ah at e1 e2 ⊢;rw[aG h.az3];unfold LG
 cases hb:LN a.num with
 | true=>
  rw[hb] at e1;simp only[go_sem,ya,yb,PX,aO,bg,yd,bY,cm,u1.pu,u1.ai,u1.one,u2.pu,u2.one,e1];rfl
 | false=>
  rw[hb] at e1;simp only[go_sem,ya,yb,PX,aO,bg,yd,show uB 2 [aa s1,w1,aa s2,w2]=[aa s2,w2] from rfl,bY,cm,u1.pu,u1.ai,u1.one,u2.pu,u2.ai,u2.one,e1,e2];rfl
end
end
end VE
end
section
namespace VE
section
variable {e:Int}{m:Nat}
def aAi(a b:Nat)(h:a<b):2^a<2^b:=vE (by decide) h
def aAj(a b:Nat)(h:2^a<2^b):a<b:=(uv (by decide)).1 h
def avD(m a b c:Nat)(h:m<2^a)(hc:a+b=c):m*2^b<2^c:=by
 subst hc;rw[xM];exact xV h (xt _)
def avE(m a b c:Nat)(h:2^a<=m)(hc:c<=a+b):2^c<=m*2^b:=
 xu (xd (by decide) hc) (by rw[xM];exact yT _ h)
open Ieee
def p2(e:Int):Rat:=(2:Rat)^e
def nP(a b:Int):p2 (a+b)=p2 a*p2 b:=Rat.zpow_add (by decide) a b
def U2(e:Int):0<p2 e:=Rat.zpow_pos (by decide)
def afG(e:Int):p2 e≠0:=fun h=>by have:=U2 e;rw[h] at this;exact absurd this (by decide)
def mS(n:Nat):p2 n=((2^n:Nat):Rat):=by
 unfold p2;rw[tB,Rat.natCast_pow];rfl
def L4:p2 0=1:=by have:=mS 0;simpa using this
def Hw:p2 1=2:=by have:=mS 1;simpa using this
def aef(e:Int):p2 (-e)*p2 e=1:=by rw[<-nP,show -e+e=0 by omega,L4]
structure Can(f:Format)(m:Nat)(e:Int):Prop where
 lp:f.leastPlace<=e
 lt:m<2^(f.fractionBits+1)
 ge:2^f.fractionBits<=m\/e=f.leastPlace
def fO(f:Format)(m:Nat)(e:Int):Nat:=(e-f.leastPlace).toNat*2^f.fractionBits+m
def aeg(f:Format):f.infRung<f.signWeight:=by
 have h:0<2^f.exponentBits:=xt _;have hb:0<2^f.fractionBits:=xt _;unfold Format.infRung Format.signWeight Format.binade;rw[xM];exact xV (by omega) hb
def anr{f:Format}(h:Can f m e)(s:Bool)(hr:fO f m e<f.infRung):f.read (f.word s (fO f m e))=.number s m e:=by
 have pD:=aeg f;have hb:0<2^f.fractionBits:=xt _;have lp:=h.lp;have lt:=h.lt;have ge:=h.ge;rw[xq] at lt;have gA:(f.word s (fO f m e)/f.signWeight%2==1)=s:=by
  unfold Format.word
  cases s with
  | true=>rw[yz rfl,Nat.add_div_left _ (by omega),xR (by omega)];rfl
  | false=>rw[yp (by decide),xR (by omega)];rfl
 have oZ:f.word s (fO f m e)%f.signWeight=fO f m e:=by
  unfold Format.word
  cases s with
  | true=>rw[yz rfl,ybY,yU (by omega)]
  | false=>rw[yp (by decide),yU (by omega)]
 unfold Format.read;simp only[gA,oZ];obtain⟨d,hd⟩:∃d:Nat,e=f.leastPlace+d:=⟨(e-f.leastPlace).toNat,by omega⟩;have gC:fO f m e=d*2^f.fractionBits+m:=by unfold fO;rw[hd,show (f.leastPlace+(d:Int)-f.leastPlace).toNat=d by omega]
 unfold Format.binade;by_cases c:fO f m e<2^f.fractionBits
 .rw [yz c];have gP:d=0:=by
   rcases ge with ge | ge
   .exfalso
    have:=tD (d*2^f.fractionBits)
    omega
   .omega
  subst gP;rw[vt,yd] at gC;rw[gC,hd,Int.natCast_zero,ycP]
 .rw [yp c,yz hr];have hm:2^f.fractionBits<=m:=by
   rcases ge with ge | ge
   .exact ge
   .have:d=0:=by omega
    subst this;rw[vt,yd] at gC;omega
  obtain⟨x,hx⟩:∃x,m=2^f.fractionBits+x:=⟨m-2^f.fractionBits,by omega⟩;have hdiv:fO f m e/2^f.fractionBits=d+1:=by
   rw[gC,hx,<-tY,<-ycQ,xA,yar hb,xR (by omega)]
  have Fv:fO f m e%2^f.fractionBits=x:=by
   rw[gC,hx,<-tY,<-ycQ,xA,yas,yU (by omega)]
  rw[hdiv,Fv,hx,hd,show d+1-1=d by omega]
def aba{n d:Nat}{neg:Bool}:Toward.even.cut neg (n*2^d) d=n:=by
 unfold Toward.cut;by_cases h0:n=0
 .subst h0
  simp
 .have hl:d<=(n*2^d).log2:=(ydb (tH (vO (by omega) (xt _)))).2 (ybj _ (by omega));have hp:0<2^d:=xt _;rw[xF (by omega),ybS];simp only[tA,uZ _ hp,xH];have h1:decide (2^d<0)=ydp:=by simp
  have h2:((2^d==0):Bool)=ydp:=by simpa using tH hp
  simp[h2]
def Sx{n:Nat}(h:n≠0):∀d,(n*2^d).log2=n.log2+d
 | 0=>by simp
 | d+1=>by
  rw[xq,<-xm,xA (n*2^d) 2,Nat.log2_two_mul (tH (vO (by omega) (xt _))),Sx h d];omega
def Can.last{f:Format}(h:Can f m e)(h0:m≠0):max (e+m.log2-f.fractionBits) f.leastPlace=e:=by
 have lp:=h.lp;have h1:m.log2<f.fractionBits+1:=(ybx h0).2 h.lt;rcases h.ge with g | g
 .have:=(ydb h0).2 g
  omega
 .omega
def apB{f:Format}(h:Can f m e)(h0:m≠0){m0:Nat}{e0:Int}(s:Bool)(hv:(m0:Rat)*p2 e0=(m:Rat)*p2 e):f.nearest s m0 e0=f.word s (min (fO f m e) f.infRung):=by
 have hl:=h.last h0;have lp:=h.lp;by_cases c:e0<=e
 .obtain ⟨d,hd⟩:∃d:Nat,e=e0+d:=⟨(e-e0).toNat,by omega⟩;have hm:m0=m*2^d:=by
   rw[hd,nP,mS] at hv;have h1:(m0:Rat)=((m*2^d:Nat):Rat):=by
    rw[xS];have h2:p2 e0*p2 (-e0)=1:=by rw[ycR];exact aef e0
    have h3:(m0:Rat)*p2 e0*p2 (-e0)=(m:Rat)*(p2 e0*((2^d:Nat):Rat))*p2 (-e0):=congrArg (·*p2 (-e0)) hv;rw[ux,h2,uL] at h3;rw[h3]
    have:(m:Rat)*(p2 e0*((2^d:Nat):Rat))*p2 (-e0)=(m:Rat)*((2^d:Nat):Rat)*(p2 e0*p2 (-e0)):=by grind
    rw[this,h2,uL]
   exact_mod_cast h1
  have FQ:m0≠0:=by rw[hm];exact tH (vO (by omega) (xt _))
  unfold Format.nearest;rw[yp FQ];have rM:max (e0+m0.log2-f.fractionBits) f.leastPlace=e:=by
   rw[hm,Sx h0,<-hl];omega
  dsimp only
  rw[rM];rw[show (e0-e).toNat=0 by omega,Nat.shiftLeft_zero,show (e-e0).toNat=d by omega,hm,aba];rfl
 .obtain ⟨d,hd⟩:∃d:Nat,e0=e+d:=⟨(e0-e).toNat,by omega⟩;have hm:m=m0*2^d:=by
   rw[hd,nP,mS] at hv;have h1:(m:Rat)=((m0*2^d:Nat):Rat):=by
    rw[xS];have h2:p2 e*p2 (-e)=1:=by rw[ycR];exact aef e
    have h3:(m0:Rat)*(p2 e*((2^d:Nat):Rat))*p2 (-e)=(m:Rat)*p2 e*p2 (-e):=congrArg (·*p2 (-e)) hv;have h4:(m:Rat)*p2 e*p2 (-e)=m:=by rw[ux,h2,uL]
    rw[h4] at h3;rw[<-h3]
    have:(m0:Rat)*(p2 e*((2^d:Nat):Rat))*p2 (-e)=(m0:Rat)*((2^d:Nat):Rat)*(p2 e*p2 (-e)):=by grind
    rw[this,h2,uL]
   exact_mod_cast h1
  have FQ:m0≠0:=fun q=>by rw[q,vt] at hm;exact h0 hm
  unfold Format.nearest;rw[yp FQ];have rM:max (e0+m0.log2-f.fractionBits) f.leastPlace=e:=by
   rw[hm,Sx FQ] at hl;rw[<-hl];omega
  dsimp only
  rw[rM];rw[show (e0-e).toNat=d by omega,show (e-e0).toNat=0 by omega,tz,<-hm]
  have:=aba (n:=m) (d:=0) (neg:=s)
  rw[uP,yj] at this;rw[this];rfl
end
end VE
end
section
namespace VE
open Ieee
structure I4(f:Format)(b:Nat)(s:Bool)(m:Nat)(e:Int):Prop where
 can:Can f m e
 lt:fO f m e<f.infRung
 eq:b=f.word s (fO f m e)
def I4.read{f:Format}{b:Nat}{s:Bool}{m:Nat}{e:Int}(h:I4 f b s m e):f.read b=.number s m e:=by
 rw[h.eq];exact anr h.can s h.lt
def sg(s:Bool):Rat:=if s then -1 else 1
def fv(s:Bool)(m:Nat)(e:Int):Rat:=sg s*((m:Rat)*p2 e)
def arR{f:Format}{m:Nat}{e:Int}(h:Can f m e)(he:(e-f.leastPlace).toNat+2<=2^f.exponentBits-1):fO f m e<f.infRung:=by
 have aM:=h.lt;rw[xq] at aM;unfold fO Format.infRung Format.binade
 have:=yT (2^f.fractionBits) he
 rw[xY] at this;omega
def avF{f:Format}{n:Nat}{k:Int}(h0:n≠0)(hn:n<2^(f.fractionBits+1))(hk:f.leastPlace<=k):∃m e,Can f m e/\m≠0/\e<=k/\(m:Rat)*p2 e=(n:Rat)*p2 k:=by
 have hl:=(ybx h0).2 hn;obtain⟨j,hj⟩:∃j:Nat,j=min (f.fractionBits-n.log2) (k-f.leastPlace).toNat:=⟨_,rfl⟩;have h1:2^n.log2<=n:=Nat.log2_self_le h0;have h2:n<2^(n.log2+1):=ybZ;refine⟨n*2^j,k-j,⟨by omega,?_,?_⟩,tH (vO (by omega) (xt _)),by omega,?_⟩
 .have:n*2^j<2^(n.log2+1)*2^j:=xV h2 (xt _)
  rw[<-xM] at this;exact yG this (xd (by decide) (by omega))
 .by_cases c:f.fractionBits-n.log2<=(k-f.leastPlace).toNat
  .left
   have:=yT (2^j) h1
   rw[<-xM,show n.log2+j=f.fractionBits by omega] at this;exact this
  .right;omega
 .rw [xS,<-mS,ux,<-nP,show (j:Int)+(k-j)=k by omega]
def wr{f:Format}{n:Nat}{k:Int}(h0:n≠0)(hn:n<2^(f.fractionBits+1))(hk:f.leastPlace<=k)(qM:(k-f.leastPlace).toNat+2<=2^f.exponentBits-1){m0:Nat}{e0:Int}(s:Bool)(hv:(m0:Rat)*p2 e0=(n:Rat)*p2 k):∃m e,I4 f (f.write (.number s m0 e0)) s m e/\m≠0/\(m:Rat)*p2 e=(n:Rat)*p2 k:=by
 obtain⟨m,e,hc,hm,he,hq⟩:=avF h0 hn hk;have hr:=arR hc (by have:=hc.lp;omega);refine⟨m,e,⟨hc,hr,?_⟩,hm,hq⟩;show f.nearest s m0 e0=_
 rw[apB hc hm s (hv.trans hq.symm),xF (by omega)]
def ax5(f:Format):Can f 0 f.leastPlace:=⟨ydc _,xt _,.inr rfl⟩
def wr0{f:Format}(s:Bool)(e0:Int)(hi:0<f.infRung):I4 f (f.write (.number s 0 e0)) s 0 f.leastPlace:=by
 have hr:fO f 0 f.leastPlace=0:=by unfold fO;rw[ycS];simp
 refine⟨ax5 f,by rw[hr];exact hi,?_⟩
 rw[hr];show f.nearest s 0 e0=_
 unfold Format.nearest;rw[yz rfl]
def avG{f:Format}{b:Nat}(hb:b<2*f.signWeight)(zx:f.binade<=f.infRung):(∃s m e,I4 f b s m e)\/(∀s m e,f.read b≠.number s m e):=by
 have pD:=aeg f;have hp:0<2^f.fractionBits:=xt _;obtain⟨s,r,hr,rfl⟩:∃(s:Bool) (r:Nat),r<f.signWeight/\b=f.word s r:=by
  by_cases c:b<f.signWeight
  .exact ⟨ydp,b,c,by unfold Format.word;rw[yp (by decide)]⟩
  .exact ⟨ydo,b-f.signWeight,by omega,by unfold Format.word;rw[yz rfl];omega⟩
 by_cases c:r<f.infRung
 .left
  by_cases c1:r<2^f.fractionBits
  .have e:fO f r f.leastPlace=r:=by unfold fO;rw[ycS];simp
   exact⟨s,r,f.leastPlace,⟨ydc _,by rw[xq];omega,.inr rfl⟩,by rw[e];exact c,by rw[e]⟩
  .obtain ⟨d,hd⟩:∃d,r/2^f.fractionBits=d+1:=⟨r/2^f.fractionBits-1,by have:=ydd (ybW c1) hp;omega⟩;have hm:=xD r hp;have hq:=xT r (2^f.fractionBits);rw[hd,xL,yj,xA] at hq;have e:fO f (2^f.fractionBits+r%2^f.fractionBits) (f.leastPlace+d)=r:=by
    unfold fO;rw[show (f.leastPlace+(d:Int)-f.leastPlace).toNat=d by omega];omega
   exact⟨s,2^f.fractionBits+r%2^f.fractionBits,f.leastPlace+d,⟨by omega,by rw[xq];omega,.inl (by omega)⟩,by rw[e];exact c,by rw[e]⟩
 .right
  intro s' m e h;unfold Format.read at h;have oZ:f.word s r%f.signWeight=r:=by
   unfold Format.word
   cases s with
   | true=>rw[yz rfl,ybY,yU hr]
   | false=>rw[yp (by decide),yU hr]
  simp only[oZ] at h;rw[yp (by omega),yp c] at h
  split at h<;>cases h
end VE
end
section
namespace VE
open Ieee
section
variable {s:Bool}{e:Int}{m:Nat}
abbrev pH(b:Nat)(s:Bool)(m:Nat)(e:Int):Prop:=I4 single b s m e
def M6:single.leastPlace= -149:=by decide
def pH.b{b:Nat}(h:pH b s m e): -149<=e/\m<16777216/\(8388608<=m\/e= -149)/\e<=104:=by
 have h1:=h.can.lp;have h2:=h.can.lt;have h3:=h.can.ge;have h4:=h.lt;rw[M6] at h1 h3;have h4:(e-single.leastPlace).toNat*8388608+m<2139095040:=h4;rw[M6] at h4;have h2:m<16777216:=h2;have h3:8388608<=m\/e= -149:=h3;exact⟨h1,h2,h3,by omega⟩
def I5{n:Nat}{k:Int}(h0:n≠0)(hn:n<16777216)(hk: -149<=k)(qM:k<=104){m0:Nat}{e0:Int}(s:Bool)(hv:(m0:Rat)*p2 e0=(n:Rat)*p2 k):∃m e,pH (single.write (.number s m0 e0)) s m e/\m≠0/\(m:Rat)*p2 e=(n:Rat)*p2 k:=
 wr (f:=single) h0 hn (by rw[M6];exact hk) (by rw[M6];show _<=255;omega) s hv
def QG(s:Bool)(e0:Int):pH (single.write (.number s 0 e0)) s 0 (-149):=by
 have:=wr0 (f:=single) s e0 (by decide)
 rwa[M6] at this
def afH:single.read 1073741824=.number ydp 8388608 (-22):=by decide
def WX{b:Nat}(h:pH b s m e)(he:e<=103\/m=0):∃b' m' e',single.mul b 1073741824=F5 b'/\pH b' s m' e'/\(m':Rat)*p2 e'=2*((m:Rat)*p2 e):=by
 obtain⟨b1,b2,b3,b4⟩:=h.b;have hr:=h.read;unfold Format.mul;rw[hr,afH];show ∃b' m' e',F5 (single.write (.number (s^^ydp) (m*8388608) (e+ -22)))=F5 b'/\_
 rw[ycd];by_cases h0:m=0
 .subst h0;rw[vt];exact⟨_,_,_,rfl,QG s _,by simp⟩
 .obtain ⟨m',e',k1,k2,k3⟩:=I5 (n:=m) (k:=e+1) h0 b2 (by omega) (by omega) (m0:=m*8388608) (e0:=e+ -22) s (by
   have:((8388608:Nat):Rat)=p2 23:=(mS 23).symm
   rw[xS,this,ux,<-nP,show (23:Int)+(e+ -22)=e+1 by omega])
  exact⟨_,m',e',rfl,k1,by rw[k3,nP,Hw];grind⟩
def WY{b:Nat}(h:pH b s m e)(he: -148<=e\/m%2=0):∃b' m' e',single.div b 1073741824=F5 b'/\pH b' s m' e'/\2*((m':Rat)*p2 e')=(m:Rat)*p2 e:=by
 obtain⟨b1,b2,b3,b4⟩:=h.b;have hr:=h.read;unfold Format.div;rw[hr,afH];have hl:(8388608:Nat).log2=23:=by decide
 have e0:Datum.quotient (single.fractionBits+2) (.number s m e) (.number ydp 8388608 (-22))=F5 (.number (s^^ydp) (2*((m<<<(25+23-m.log2))/8388608)+((m<<<(25+23-m.log2))%8388608 !=0).toNat) (e - -22-(25+23-m.log2:Nat)-1)):=by
  show (if (8388608:Nat)=0 then (if m=0 then F6 else F5 (Datum.infinity (s^^ydp))) else F5 (Datum.number (s^^ydp) (2*((m<<<(25+yco 8388608-m.log2))/8388608)+((m<<<(25+yco 8388608-m.log2))%8388608 !=0).toNat) (e - -22-((25+yco 8388608-m.log2:Nat):Int)-1)))=_
  rw[yp (by decide),hl]
 rw[e0,ycd];show ∃b' m' e',F5 (single.write (.number s _ _))=F5 b'/\_
 by_cases h0:m=0
 .subst h0;simp only[Nat.zero_shiftLeft,Nat.zero_div,Nat.zero_mod,xH];exact⟨_,_,_,rfl,QG s _,by simp⟩
 .have Dp:m.log2<24:=(ybx h0).2 b2;obtain⟨t,ht⟩:∃t,25+23-m.log2=t+23:=⟨25-m.log2,by omega⟩;have kA:m<<<(t+23)=(m*2^t)*8388608:=by rw[tz,xM,<-xm]
  rw[ht,kA,uZ _ (by decide),tA];simp only[bne_self_eq_false,ybT,yZ];have aP:((2*(m*2^t):Nat):Rat)*p2 (e - -22-(t+23:Nat)-1)=(m:Rat)*p2 (e-1):=by
   have:((2:Nat):Rat)=p2 1:=(mS 1).symm
   rw[xS,xS,<-mS,this];have h2:p2 1*((m:Rat)*p2 t)*p2 (e - -22-(t+23:Nat)-1)=(m:Rat)*(p2 1*p2 t*p2 (e - -22-(t+23:Nat)-1)):=by grind
   rw[h2,<-nP,<-nP,show (1:Int)+t+(e - -22-(t+23:Nat)-1)=e-1 by omega]
  have fin:∀{m':Nat} {e':Int},(m':Rat)*p2 e'=(m:Rat)*p2 (e-1)->2*((m':Rat)*p2 e')=(m:Rat)*p2 e:=fun {m' e'} q=>by
   rw[q]
   have:p2 e=p2 1*p2 (e-1):=by rw[<-nP,show 1+(e-1)=e by omega]
   rw[this,Hw];grind
  by_cases c: -148<=e
  .obtain ⟨m',e',k1,k2,k3⟩:=I5 (n:=m) (k:=e-1) h0 b2 (by omega) (by omega) s aP;exact⟨_,m',e',rfl,k1,fin k3⟩
  .have XN:m%2=0:=by omega
   have hm:((m:Nat):Rat)=((m/2:Nat):Rat)*2:=by
    have:m=m/2*2:=by omega
    conv=>lhs;rw[this,xS]
    rfl
   have hq:(m:Rat)*p2 (e-1)=((m/2:Nat):Rat)*p2 e:=by
    have:p2 e=p2 1*p2 (e-1):=by rw[<-nP,show 1+(e-1)=e by omega]
    rw[hm,this,Hw];grind
   obtain⟨m',e',k1,k2,k3⟩:=I5 (n:=m/2) (k:=e) (by omega) (by omega) (by omega) (by omega) s (aP.trans hq);exact⟨_,m',e',rfl,k1,fin (k3.trans hq.symm)⟩
def ofInt{n:Int}(h:n.natAbs<=16777216):∃m e,pH (single.write (.number (n<0) n.natAbs 0)) (n<0) m e/\(m:Rat)*p2 e=(n.natAbs:Rat):=by
 by_cases h0:n.natAbs=0
 .rw [h0];exact⟨0,-149,QG _ _,by simp⟩
 .by_cases h1:n.natAbs<16777216
  .obtain ⟨m,e,k1,k2,k3⟩:=I5 (n:=n.natAbs) (k:=0) h0 h1 (by omega) (by omega) (m0:=n.natAbs) (e0:=0) (n<0) rfl;exact⟨m,e,k1,by rw[k3,L4,uL]⟩
  .have h2:n.natAbs=16777216:=by omega
   obtain⟨m,e,k1,k2,k3⟩:=I5 (n:=8388608) (k:=1) (by decide) (by decide) (by omega) (by omega) (m0:=n.natAbs) (e0:=0) (n<0) (by rw[h2,L4,Hw];decide+kernel)
   exact⟨m,e,k1,by rw[k3,h2,Hw];decide+kernel⟩
def apC(n d:Nat)(s:Bool):Toward.zero.cut s n d=n/2^d:=by
 unfold Toward.cut;simp only[ybS,ybT,yZ];by_cases c:d<=n.log2+2
 .rw [xF c]
 .have h1:n<2^(n.log2+1):=ybZ;rw[Nat.min_eq_right (by omega),xR (uo h1 (vE (by decide) (by omega))),xR (uo h1 (vE (by decide) (by omega)))]
def pH.toInt{b:Nat}(h:pH b s m e):(single.read b).toInt .zero=F5 (if s=ydo then -((m*2^e.toNat/2^(-e).toNat:Nat):Int) else ((m*2^e.toNat/2^(-e).toNat:Nat):Int)):=by
 rw[h.read];unfold Datum.toInt Datum.integral;simp only[apC,tz,signed,uP,yj]
def adm{base:Int}(h:base<=e):((signed s m (e-base).toNat:Int):Rat)*p2 base=fv s m e:=by
 have:p2 e=p2 ((e-base).toNat:Nat)*p2 base:=by rw[<-nP,show ((e-base).toNat:Int)+base=e by omega]
 unfold signed fv sg;rw[this,tz,mS]
 cases s with
 | true=>
  rw[yz rfl,yz rfl,tQ]
  have:(((m*2^(e-base).toNat:Nat):Int):Rat)=(m:Rat)*((2^(e-base).toNat:Nat):Rat):=by rw[<-xS];rfl
  rw[this];grind
 | false=>
  rw[yp (by decide),yp (by decide)]
  have:(((m*2^(e-base).toNat:Nat):Int):Rat)=(m:Rat)*((2^(e-base).toNat:Nat):Rat):=by rw[<-xS];rfl
  rw[this];grind
def arS{x y n:Nat}{t:Bool}{j:Int}(hx:pH x s m e)(hy:pH y t n j):single.order x y=F5 (if fv s m e<fv t n j then .lt else if fv s m e=fv t n j then .eq else .gt):=by
 unfold Format.order;rw[hx.read,hy.read];unfold Datum.order;have h1:=adm (m:=m) (s:=s) (show min e j<=e by omega);have h2:=adm (m:=n) (s:=t) (show min e j<=j by omega);have hp:=U2 (min e j)
 dsimp only
 generalize signed s m (e-min e j).toNat=a at*
 generalize signed t n (j-min e j).toNat=b at*
 rw[<-h1,<-h2]
 congr 1
 have lt_iff:(a:Rat)*p2 (min e j)<(b:Rat)*p2 (min e j)↔a<b:=by
  constructor
  .intro q
   have:=(uM hp).1 q
   exact_mod_cast this
  .intro q;exact (uM hp).2 (by exact_mod_cast q)
 have eq_iff:(a:Rat)*p2 (min e j)=(b:Rat)*p2 (min e j)↔a=b:=by
  constructor
  .intro q;rcases yav a b with c | c | c
   .have:=lt_iff.2 c;rw[q] at this;exact absurd this (yap)
   .exact c
   .have:=(uM hp).2 (show (b:Rat)<a by exact_mod_cast c);rw[q] at this;exact absurd this (yap)
  .intro q;rw[q]
 rcases yav a b with c | c | c
 .rw [yz (lt_iff.2 c)];exact Int.compare_eq_lt.2 c
 .rw [yp (fun q=>by have:=lt_iff.1 q;omega),yz (eq_iff.2 c)];exact Int.compare_eq_eq.2 c
 .rw [yp (fun q=>by have:=lt_iff.1 q;omega),yp (fun q=>by have:=eq_iff.1 q;omega)];exact Int.compare_eq_gt.2 c
end
end VE
end
section
namespace VE
open Ieee
section
variable {s:Bool}{e:Int}{M b m:Nat}
def ef(m:Nat)(e:Int):Nat:=m*2^(e+149).toNat
structure Fl(b:Nat)(s:Bool)(M:Nat):Prop where
 ex:∃m e,pH b s m e/\M=ef m e
def Bk(h: -149<=e):((ef m e:Nat):Rat)=(m:Rat)*p2 e*p2 149:=by
 unfold ef;rw[xS,<-mS,ux,<-nP,show ((e+149).toNat:Int)=e+149 by omega]
def avH:p2 149≠0:=afG 149
def arT{n:Nat}{j:Int}(h1: -149<=e)(h2: -149<=j)(h:(m:Rat)*p2 e=(n:Rat)*p2 j):ef m e=ef n j:=by
 have:((ef m e:Nat):Rat)=((ef n j:Nat):Rat):=by rw[Bk h1,Bk h2,h]
 exact_mod_cast this
def Fl.lt(h:Fl b s M):M<2^277:=by
 obtain⟨m,e,h1,rfl⟩:=h.ex;obtain⟨b1,b2,b3,b4⟩:=h1.b;unfold ef;have h3:2^(e+149).toNat<=2^253:=xd (by decide) (by omega);have h4:=xC (ud (show m<16777215+1 from b2)) h3;exact wA h4 (avD 16777215 24 253 277 (by decide) rfl)
def Fl.WX(h:Fl b s M)(hM:M<2^276):∃b',single.mul b 1073741824=F5 b'/\Fl b' s (2*M):=by
 obtain⟨m,e,h1,rfl⟩:=h.ex;obtain⟨b1,b2,b3,b4⟩:=h1.b;have he:e<=103\/m=0:=by
  by_cases c:e<=103
  .exact .inl c
  .exfalso
   have hm:8388608<=m:=by omega
   unfold ef at hM;have h3:2^253<=2^(e+149).toNat:=xd (by decide) (by omega);have h4:=xC hm h3;have h5:(2:Nat)^275<=8388608*2^253:=avE 8388608 23 253 275 (by decide) (by decide);omega
 obtain⟨b',m',e',k1,k2,k3⟩:=VE.WX h1 he;have YG:=k2.b.1;refine⟨b',k1,m',e',k2,?_⟩
 have:((2*ef m e:Nat):Rat)=((ef m' e':Nat):Rat):=by
  rw[xS,Bk b1,Bk YG,k3];show (2:Rat)*_=_
  grind
 exact_mod_cast this
def Fl.WY(h:Fl b s M)(hM:M%2=0):∃b',single.div b 1073741824=F5 b'/\Fl b' s (M/2):=by
 obtain⟨m,e,h1,rfl⟩:=h.ex;obtain⟨b1,b2,b3,b4⟩:=h1.b;have he: -148<=e\/m%2=0:=by
  by_cases c: -148<=e
  .exact .inl c
  .have:e= -149:=by omega
   subst this;unfold ef at hM;right
   simpa using hM
 obtain⟨b',m',e',k1,k2,k3⟩:=VE.WY h1 he;have YG:=k2.b.1;refine⟨b',k1,m',e',k2,?_⟩
 have:((ef m e:Nat):Rat)=((2*ef m' e':Nat):Rat):=by
  rw[xS,Bk b1,Bk YG,<-k3];show _=(2:Rat)*_
  grind
 have:ef m e=2*ef m' e':=by exact_mod_cast this
 omega
def cp(s:Bool)(M:Nat):Int:=if s then -(M:Int) else M
def afI(h: -149<=e):fv s m e*p2 149=((cp s (ef m e):Int):Rat):=by
 unfold fv sg cp
 cases s with
 | true=>
  rw[yz rfl,yz rfl,tQ]
  have:=Bk (m:=m) h
  have h2:(((ef m e:Nat):Int):Rat)=((ef m e:Nat):Rat):=rfl;rw[h2,this];grind
 | false=>
  rw[yp (by decide),yp (by decide)]
  have:=Bk (m:=m) h
  have h2:(((ef m e:Nat):Int):Rat)=((ef m e:Nat):Rat):=rfl;rw[h2,this];grind
def Fl.ord{x y:Nat}{t:Bool}{N:Nat}(hx:Fl x s M)(hy:Fl y t N):single.order x y=F5 (if cp s M<cp t N then .lt else if cp s M=cp t N then .eq else .gt):=by
 obtain⟨m,e,h1,rfl⟩:=hx.ex;obtain⟨n,j,h2,rfl⟩:=hy.ex;rw[arS h1 h2];have q1:=afI (s:=s) (m:=m) h1.b.1;have q2:=afI (s:=t) (m:=n) h2.b.1;have hp:=U2 149;have lt_iff:fv s m e<fv t n j↔cp s (ef m e)<cp t (ef n j):=by
  rw[<-uM hp,q1,q2];exact Rat.intCast_lt_intCast
 have eq_iff:fv s m e=fv t n j↔cp s (ef m e)=cp t (ef n j):=by
  constructor
  .intro q;rw[q,q2] at q1;exact (Rat.intCast_inj.1 q1).symm
  .intro q
   have:fv s m e*p2 149=fv t n j*p2 149:=by rw[q1,q2,q]
   have h3:=congrArg (·*(p2 149)⁻¹) this;simpa only[ux,Rat.mul_inv_cancel _ avH,uL] using h3
 congr 1
 by_cases c1:cp s (ef m e)<cp t (ef n j)
 .rw [yz c1,yz (lt_iff.2 c1)]
 .rw [yp c1,yp (fun q=>c1 (lt_iff.1 q))];by_cases c2:cp s (ef m e)=cp t (ef n j)
  .rw [yz c2,yz (eq_iff.2 c2)]
  .rw [yp c2,yp (fun q=>c2 (eq_iff.1 q))]
def Fl.ofInt{n:Int}(h:n.natAbs<=16777216):Fl (single.write (.number (n<0) n.natAbs 0)) (n<0) (n.natAbs*2^149):=by
 obtain⟨m,e,k1,k2⟩:=VE.ofInt h;refine⟨m,e,k1,?_⟩;have b1:=k1.b.1
 have:((n.natAbs*2^149:Nat):Rat)=((ef m e:Nat):Rat):=by
  rw[Bk b1,k2,xS,<-mS];rfl
 exact_mod_cast this
def Fl.toInt(h:Fl b s M):(single.read b).toInt .zero=F5 (cp s (M/2^149)):=by
 obtain⟨m,e,h1,rfl⟩:=h.ex;have b1:=h1.b.1;rw[h1.toInt]
 have:m*2^e.toNat/2^(-e).toNat=ef m e/2^149:=by
  unfold ef;by_cases c:0<=e
  .rw [show (-e).toNat=0 by omega,uP,Nat.div_one,show (e+149).toNat=e.toNat+149 by omega,xM,<-xm,uZ _ (xt _)]
  .obtain ⟨d,hd⟩:∃d:Nat,e= -(d:Int):=⟨(-e).toNat,by omega⟩;have jJ:(e+149).toNat+d=149:=by omega
   rw[show e.toNat=0 by omega,uP,yj,show (-e).toNat=d by omega];have hp:0<2^(e+149).toNat:=xt _;rw[<-jJ,xM,xA m,Nat.mul_div_mul_left _ _ hp]
 rw[this];unfold cp;cases s<;>rfl
def Fl.neg(h:Fl b s M):Fl (b^^^2147483648) (!s) M:=by
 obtain⟨m,e,h1,rfl⟩:=h.ex;refine⟨m,e,⟨h1.can,h1.lt,?_⟩,rfl⟩;have hr:fO single m e<2^31:=uo h1.lt (by decide);have sw:single.signWeight=2^31:=by decide
 rw[h1.eq];unfold Format.word;rw[sw];have hx:fO single m e^^^2147483648=2^31+fO single m e:=by
  rw[show (2147483648:Nat)=2^31*1 by decide,Nat.xor_comm]
  have:=Nat.two_pow_add_eq_or_of_lt hr 1
  have h2:=Nat.xor_mod_two_pow (a:=fO single m e) (b:=2^31*1) (n:=31);refine Nat.eq_of_testBit_eq fun i=>?_
  rw[Nat.testBit_xor,show 2^31+fO single m e=2^31*1+fO single m e by omega,Nat.testBit_two_pow_mul_add _ hr,Nat.testBit_two_pow_mul];by_cases c:i<31
  .simp [c,show ¬31<=i by omega]
  .have:Nat.testBit (fO single m e) i=ydp:=Nat.testBit_lt_two_pow (yG hr (xd (by decide) (by omega)))
   simp[c,this,show 31<=i by omega]
 cases s with
 | false=>rw[yp (by decide),hx];rfl
 | true=>
  rw[yz rfl]
  have:(2^31+fO single m e)^^^2147483648=fO single m e:=by rw[<-hx,Nat.xor_assoc,Nat.xor_self,Nat.xor_zero]
  rw[this];rfl
end
end VE
end
section
namespace VE
open Go (IntKind)
open Ieee
section
variable {s:Bool}{M b:Nat}
def Fl.even(h:Fl b s M)(hM:2^173<=M):M%2=0:=by
 obtain⟨m,e,h1,rfl⟩:=h.ex;obtain⟨b1,b2,b3,b4⟩:=h1.b;by_cases c:e<=0
 .exfalso
  unfold ef at hM;have h3:2^(e+149).toNat<=2^149:=xd (by decide) (by omega);have h4:=xC (ud (show m<16777215+1 from b2)) h3;have h5:16777215*(2:Nat)^149<2^173:=by decide
  omega
 .obtain ⟨d,hd⟩:∃d,(e+149).toNat=d+1:=⟨(e+148).toNat,by omega⟩;unfold ef;rw[hd,xq,<-xm,tA]
def Fl.whole(h:Fl b s M)(hM:2^172<=M):M%2^149=0:=by
 obtain⟨m,e,h1,rfl⟩:=h.ex;obtain⟨b1,b2,b3,b4⟩:=h1.b;by_cases c:e<0
 .exfalso
  unfold ef at hM;have h3:2^(e+149).toNat<=2^148:=xd (by decide) (by omega);have h4:=xC (ud (show m<16777215+1 from b2)) h3;have h5:16777215*(2:Nat)^148<2^172:=by decide
  omega
 .obtain ⟨d,hd⟩:∃d,(e+149).toNat=d+149:=⟨e.toNat,by omega⟩;unfold ef;rw[hd,xM,<-xm,tA]
def avI(h:Fl b s M)(hM:M<2^276):∃b',binOp .mul (.ao .f32 b) (.ao .f32 1073741824)=F5 (.ao .f32 b')/\Fl b' s (2*M):=by
 obtain⟨b',k1,k2⟩:=h.WX hM;refine⟨b',?_,k2⟩;show (match single.mul b 1073741824 with | some b=>F5 (AV.ao .f32 b) | none=>F6)=_
 rw[k1]
def avJ(h:Fl b s M)(hM:M%2=0):∃b',binOp .quo (.ao .f32 b) (.ao .f32 1073741824)=F5 (.ao .f32 b')/\Fl b' s (M/2):=by
 obtain⟨b',k1,k2⟩:=h.WY hM;refine⟨b',?_,k2⟩;show (match single.div b 1073741824 with | some b=>F5 (AV.ao .f32 b) | none=>F6)=_
 rw[k1]
section
variable {x y M N:Nat}{s t:Bool}(hx:Fl x s M)(hy:Fl y t N)
include hx hy
theorem ax6:binOp .geq (.ao .f32 x) (.ao .f32 y)=F5 (.bool (decide (cp t N<=cp s M))):=by
 show F5 (AV.bool (single.order x y==F5 .gt||single.order x y==F5 .eq))=_
 rw[hx.ord hy];by_cases c:cp s M<cp t N
 .rw [yz c,yY (by omega)];rfl
 .rw [yp c,xf (by omega)];split<;>rfl
theorem ax7:binOp .neq (.ao .f32 x) (.ao .f32 y)=F5 (.bool (!decide (cp s M=cp t N))):=by
 show F5 (AV.bool (single.order x y !=F5 .eq))=_
 rw[hx.ord hy];by_cases c:cp s M<cp t N
 .rw [yz c,yY (by omega)];rfl
 .rw [yp c];by_cases d:cp s M=cp t N
  .rw [yz d,xf d];rfl
  .rw [yp d,yY d];rfl
end
def afJ(b:Nat):unOp .neg (.ao .f32 b)=F5 (.ao .f32 (b^^^2147483648)):=rfl
def ax8(h:Fl b s M):∃a,max2 (.ao .f32 b) (.ao .f32 (b^^^2147483648))=F5 (.ao .f32 a)/\Fl a ydp M:=by
 have hn:=h.neg;have ho:=h.ord hn
 have e:max2 (.ao .f32 b) (.ao .f32 (b^^^2147483648))=(match single.order b (b^^^2147483648) with
  | none=>F6
  | some .lt=>F5 (.ao .f32 (b^^^2147483648))
  | some .gt=>F5 (.ao .f32 b)
  | some .eq=>F5 (.ao .f32 (if (single.read b).neg then (b^^^2147483648) else b))):=rfl
 rw[e,ho];obtain⟨m,j,h1,hM⟩:=h.ex;have hr:(single.read b).neg=s:=by rw[h1.read];rfl
 cases s with
 | true=>
  by_cases c:cp ydo M<cp (!ydo) M
  .rw [yz c];exact⟨_,rfl,hn⟩
  .have:cp ydo M=cp (!ydo) M:=by
    unfold cp at c ⊢;simp at c ⊢;omega
   rw[yp c,yz this]
   dsimp only
   rw[hr,yz rfl];exact⟨_,rfl,hn⟩
 | false=>
  have c:¬cp ydp M<cp (!ydp) M:=by
   show ¬(M:Int)< -(M:Int)
   omega
  rw[yp c];by_cases d:cp ydp M=cp (!ydp) M
  .rw [yz d]
   dsimp only
   rw[hr,yp (by decide)];exact⟨_,rfl,h⟩
  .rw [yp d];exact⟨_,rfl,h⟩
def adn(h:Fl b s M)(hM:M<2^200):jW (.toInt .i64) (.ao .f32 b)=F5 (.int .i64 (cp s (M/2^149))):=by
 have e:jW (.toInt .i64) (.ao .f32 b)=(match (single.read b).toInt .zero with
  | some n=>if IntKind.min .i64<=n/\n<=IntKind.max .i64 then F5 (.int .i64 n) else F6
  | none=>F6):=rfl
 rw[e,h.toInt];have h1:M/2^149<2^51:=by rw[xO (xt _),<-xM];exact hM
 generalize M/2^149=n at h1
 have:IntKind.min .i64<=cp s n/\cp s n<=IntKind.max .i64:=by
  rw[show IntKind.min .i64= -9223372036854775808 from rfl,show IntKind.max .i64=9223372036854775807 from rfl];unfold cp
  split<;>omega
 exact yz this
def arU{n:Int}(h:n.natAbs<=16777216):∃b,jW (.toFlt .f32) (.int .i64 n)=F5 (.ao .f32 b)/\Fl b (n<0) (n.natAbs*2^149):=
 ⟨_,rfl,Fl.ofInt h⟩
def ax9:Fl 1266679808 ydp (2^173):=⟨8388608,1,⟨⟨by decide,by decide,.inl (by decide)⟩,by decide,by decide⟩,by decide⟩
end
end VE
end
section
namespace VE
open Go (IntKind)
def ans(p s:Nat):p*(s%1000000000)+p*1000000000*(s/1000000000)=p*s:=by
 rw[xm,<-xL,tq]
def JR{l:List Int}{i:Nat}(h:l.length<=i):l.getD i 0=0:=by simp_all
def apD{a b out:List Int}{i c:Nat}{x y:Int}(hx:x=a.getD i 0)(hy:y=b.getD i 0)(h1:0<=x)(h2:0<=y)(hl:out.length=i)(hv:dv out+1000000000^i*c=dv (a.take i)+dv (b.take i)):
  dv (out++[(((x.toNat+y.toNat+c)%1000000000:Nat):Int)])+1000000000^(i+1)*((x.toNat+y.toNat+c)/1000000000)=dv (a.take (i+1))+dv (b.take (i+1)):=by
 rw[rA,rA,oD,hl,<-hx,<-hy];simp only[dv,wi,xH,yZ,xq]
 have:=ans (1000000000^i) (x.toNat+y.toNat+c)
 grind
section
variable {P:aF}{L:Lib}
def avK(pc:Has P L 302 Aw){v w:AV}{a b:List Int}(hv:bk v a)(hw:bk w b)(ha:dg a)(hb:dg b){N:Nat}(la:a.length<=N)(lb:b.length<=N)(lN:N<=20000000000):
  ew P L [0,1,5,6,7] rE (fun k s=>∃(i c:Nat) (out:List Int),2*(N-i)+c=k/\out.length=i/\c<=1/\dg out/\dv out+1000000000^i*c=dv (a.take i)+dv (b.take i)/\i<=N+1/\(i<=N\/c=0)/\
    ((i=0/\s=⟨[(0,v),(1,w),(5,.af),(6,aa c),(7,aa i)],[],0,0⟩)\/
    (0<i/\s=⟨[(0,v),(1,w),(5,.ay 0 0 i),(6,aa c),(7,aa i)],[(0,.cells ydo ydo ydp 1 (out.map aa))],1,0⟩))) (fun ex s'=>∃tm out,ex=.exit 0/\dg out/\dv out=dv a+dv b/\out.length<=N+1/\((out=[]/\aj tm 5=.af/\s'=⟨tm,[],0,0⟩)\/(0<out.length/\aj tm 5=.ay 0 0 out.length/\s'=⟨tm,[(0,.cells ydo ydo ydp 1 (out.map aa))],1,0⟩))):=by
 apply eE;rintro k s ⟨i,c,out,hk,hlen,hc,mI,aP,hi,HO,hs⟩;have e1:=Wu pc hv i;have e2:=Wu pc hw i;unfold ah at e1 e2;have ga:=je ha i;have gb:=je hb i;by_cases AR:i<a.length\/i<b.length\/0<c
 .left
  obtain⟨x,hx⟩:∃x,x=a.getD i 0:=⟨_,rfl⟩;obtain⟨y,hy⟩:∃y,y=b.getD i 0:=⟨_,rfl⟩;rw[<-hx] at e1 ga;rw[<-hy] at e2 gb;have mw:=apD (c:=c) hx hy ga.1 gb.1 hlen aP;obtain⟨s0,qH⟩:∃s0,s0=x.toNat+y.toNat+c:=⟨_,rfl⟩;rw[<-qH] at mw;have Dd:x+y+(c:Int)=(s0:Int):=by lia
  have hs9:s0<2000000000:=by lia
  have hr:((s0:Nat):Int).tmod 1000000000=((s0%1000000000:Nat):Int):=by rw[we (by lia)];rfl
  have hq:((s0:Nat):Int).tdiv 1000000000=((s0/1000000000:Nat):Int):=by rw[wg (by lia)];rfl
  have kS:s0/1000000000<=1:=by lia
  have aya:2*(N-(i+1))+s0/1000000000<k:=by
   by_cases hm:i<N
   .lia
   .have:c=1:=by lia
    have nm:x=0:=by rw[hx];exact JR (by lia)
    have fX:y=0:=by rw[hy];exact JR (by lia)
    subst nm;subst fX
    have:s0=1:=by rw[qH,this];rfl
    subst this
    lia
  have Hx:dg (out++[((s0%1000000000:Nat):Int)]):=ja.2 ⟨mI,mR.2 (by lia)⟩;have VA:(out++[((s0%1000000000:Nat):Int)]).length=i+1:=by simp[hlen]
  have aAk:i+1<=N\/s0/1000000000=0:=by
   by_cases hm:i<N
   .exact .inl hm
   .right
    have:c=1:=by lia
    have nm:x=0:=by rw[hx];exact JR (by lia)
    have fX:y=0:=by rw[hy];exact JR (by lia)
    subst nm;subst fX
    have:s0=1:=by rw[qH,this];rfl
    subst this;rfl
  have fin:∃s',D P L rE s=F5 (.normal,s')/\bE [0,1,5,6,7] s'=⟨[(0,v),(1,w),(5,.ay 0 0 (i+1)),(6,aa (s0/1000000000:Nat)),(7,aa (i+1:Nat))],[(0,.cells ydo ydo ydp 1 ((out++[((s0%1000000000:Nat):Int)]).map aa))],1,0⟩:=by
   have three:((i:Int)<a.length)\/(¬(i:Int)<a.length/\(i:Int)<b.length)\/(¬(i:Int)<a.length/\¬(i:Int)<b.length/\(0:Int)<c):=by lia
   rcases three with t1 | ⟨t1,t2⟩ | ⟨t1,t2,t3⟩
   .rcases hs with ⟨h0,rfl⟩ | ⟨h0,rfl⟩
    .subst h0;have n7:out=[]:=yQ hlen;subst n7
     simp only[go_sem,ya,yb,xk,yq,yi,yj,rE,hv.len,hv.ai,hw.ai,t1,e1,e2,wrap64 (n:=x+y) (by lia) (by lia),Dd,wrap64 (n:=(s0:Int)) (by lia) (by lia),eL _ _ _ (show (1000000000:Int)≠0 by decide),fH _ _ _ (show (1000000000:Int)≠0 by decide),hr,hq,wrap64 (n:=((s0/1000000000:Nat):Int)) (by lia) (by lia),gE];refine⟨_,rfl,?_⟩;rw[wrap64 (by lia) (by lia)];simp only[go_sem,ya,yb,az,av hv.pu,av hw.pu]<;>rfl
    .simp only [go_sem,ya,yb,yi,yj,rE,hv.len,hv.ai,hw.ai,t1,e1,e2,wrap64 (n:=x+y) (by lia) (by lia),Dd,wrap64 (n:=(s0:Int)) (by lia) (by lia),eL _ _ _ (show (1000000000:Int)≠0 by decide),hr]
     rw[dS (ex:=ydp) (pu:=ydo) (cs:=out.map aa) rfl (by rw[xi,hlen,yj]) (by lia) (by lia) (by decide) rfl]
     simp only[go_sem,ya,yb,fH _ _ _ (show (1000000000:Int)≠0 by decide),hq,wrap64 (n:=((s0/1000000000:Nat):Int)) (by lia) (by lia)];refine⟨_,rfl,?_⟩;rw[wrap64 (by lia) (by lia),xG];simp only[go_sem,ya,yb,az,av hv.pu,av hw.pu]<;>rfl
   .rcases hs with ⟨h0,rfl⟩ | ⟨h0,rfl⟩
    .subst h0;have n7:out=[]:=yQ hlen;subst n7
     simp only[go_sem,ya,yb,xk,yq,yi,yj,rE,hv.len,hv.ai,hw.len,hw.ai,t1,t2,e1,e2,wrap64 (n:=x+y) (by lia) (by lia),Dd,wrap64 (n:=(s0:Int)) (by lia) (by lia),eL _ _ _ (show (1000000000:Int)≠0 by decide),fH _ _ _ (show (1000000000:Int)≠0 by decide),hr,hq,wrap64 (n:=((s0/1000000000:Nat):Int)) (by lia) (by lia),gE];refine⟨_,rfl,?_⟩;rw[wrap64 (by lia) (by lia)];simp only[go_sem,ya,yb,az,av hv.pu,av hw.pu]<;>rfl
    .simp only [go_sem,ya,yb,yi,yj,rE,hv.len,hv.ai,hw.len,hw.ai,t1,t2,e1,e2,wrap64 (n:=x+y) (by lia) (by lia),Dd,wrap64 (n:=(s0:Int)) (by lia) (by lia),eL _ _ _ (show (1000000000:Int)≠0 by decide),hr]
     rw[dS (ex:=ydp) (pu:=ydo) (cs:=out.map aa) rfl (by rw[xi,hlen,yj]) (by lia) (by lia) (by decide) rfl]
     simp only[go_sem,ya,yb,fH _ _ _ (show (1000000000:Int)≠0 by decide),hq,wrap64 (n:=((s0/1000000000:Nat):Int)) (by lia) (by lia)];refine⟨_,rfl,?_⟩;rw[wrap64 (by lia) (by lia),xG];simp only[go_sem,ya,yb,az,av hv.pu,av hw.pu]<;>rfl
   .rcases hs with ⟨h0,rfl⟩ | ⟨h0,rfl⟩
    .subst h0;have n7:out=[]:=yQ hlen;subst n7
     simp only[go_sem,ya,yb,xk,yq,yi,yj,rE,hv.len,hv.ai,hw.len,hw.ai,t1,t2,t3,e1,e2,wrap64 (n:=x+y) (by lia) (by lia),Dd,wrap64 (n:=(s0:Int)) (by lia) (by lia),eL _ _ _ (show (1000000000:Int)≠0 by decide),fH _ _ _ (show (1000000000:Int)≠0 by decide),hr,hq,wrap64 (n:=((s0/1000000000:Nat):Int)) (by lia) (by lia),gE];refine⟨_,rfl,?_⟩;rw[wrap64 (by lia) (by lia)];simp only[go_sem,ya,yb,az,av hv.pu,av hw.pu]<;>rfl
    .simp only [go_sem,ya,yb,yi,yj,rE,hv.len,hv.ai,hw.len,hw.ai,t1,t2,t3,e1,e2,wrap64 (n:=x+y) (by lia) (by lia),Dd,wrap64 (n:=(s0:Int)) (by lia) (by lia),eL _ _ _ (show (1000000000:Int)≠0 by decide),hr]
     rw[dS (ex:=ydp) (pu:=ydo) (cs:=out.map aa) rfl (by rw[xi,hlen,yj]) (by lia) (by lia) (by decide) rfl]
     simp only[go_sem,ya,yb,fH _ _ _ (show (1000000000:Int)≠0 by decide),hq,wrap64 (n:=((s0/1000000000:Nat):Int)) (by lia) (by lia)];refine⟨_,rfl,?_⟩;rw[wrap64 (by lia) (by lia),xG];simp only[go_sem,ya,yb,az,av hv.pu,av hw.pu]<;>rfl
  have⟨s',f1,f2⟩:=fin;exact⟨s',_,f1,aya,i+1,s0/1000000000,_,rfl,VA,kS,Hx,mw,by lia,aAk,.inr ⟨by lia,f2⟩⟩
 .right
  have lm:c=0:=by lia
  subst lm;rw[xH,yZ,yK (by lia),yK (by lia)] at aP;rcases hs with ⟨h0,rfl⟩ | ⟨h0,rfl⟩
  .simp only [go_sem,ya,rE,hv.len,hw.len,show ¬(i:Int)<a.length by lia,show ¬(i:Int)<b.length by lia,show ¬(0:Int)<((0:Nat):Int) by lia];exact⟨_,_,rfl,by simp,_,out,rfl,mI,aP,by lia,.inl ⟨yQ (by lia),rfl,rfl⟩⟩
  .simp only [go_sem,ya,rE,hv.len,hw.len,show ¬(i:Int)<a.length by lia,show ¬(i:Int)<b.length by lia,show ¬(0:Int)<((0:Nat):Int) by lia];exact⟨_,_,rfl,by simp,_,out,rfl,mI,aP,by lia,.inr ⟨by lia,by rw[hlen];simp only[go_sem,ya],rfl⟩⟩
def aAl(h:Has P L 295 Lw)(pc:Has P L 302 Aw){v w:AV}{a b:List Int}(hv:bk v a)(hw:bk w b)(ha:dg a)(hb:dg b)(la:a.length<=20000000000)(lb:b.length<=20000000000):
  ∃r out,ah P L 295 [v,w] r/\bk (shut r) out/\dg out/\dv out=dv a+dv b/\out.length<=max a.length b.length+1:=by
 have jY:∃out,ah P L 295 [v,w] (if out=[] then .af else .cM ydp 1 out.length (out.map aa))/\dg out/\dv out=dv a+dv b/\out.length<=max a.length b.length+1:=by
  unfold ah;rw[aG h];simp only[go_sem,Lw];generalize hq:D P L (.loop _ rE) _=q;obtain⟨ex,s,rfl,tm,out,rfl,hd,aP,hl,hs⟩:=bQ hq (avK (P:=P) (L:=L) pc hv hw ha hb (N:=max a.length b.length) (by lia) (by lia) (by lia) (2*(max a.length b.length))) ⟨0,0,[],by lia,rfl,by lia,rfl,by simp[dv],by lia,.inr rfl,.inl ⟨rfl,by simp only[go_sem,ya,az,av hv.pu,av hw.pu]<;>rfl⟩⟩
  refine⟨out,?_,hd,aP,hl⟩;rcases hs with ⟨h0,h5,rfl⟩ | ⟨h0,h5,rfl⟩
  .rw [yz h0];simp only[go_sem,az,h5]
  .rw [yp (by intro e;subst e;simp at h0)];simp only[go_sem,yb,az,h5];exact SW (pR _ _ _) (by simp) (by decide)
 have⟨out,g1,g2,g3,g4⟩:=jY;refine⟨_,out,g1,?_,g2,g3,g4⟩
 split
 .rename_i e;subst e;exact Bg
 .exact lF ydp out
end
end VE
end
section
namespace VE
open Go (IntKind)
section
variable {P:aF}{L:Lib}
def WZ(h:Has P L 296 Av){v w:AV}{a b:List Int}(hv:bk v a)(hw:bk w b)(ha:dg a)(hb:dg b)(na:nz a)(nb:nz b)(la:a.length<=20000000000)(lb:b.length<=20000000000):
  ah P L 296 [v,w] (aa (dW (dv a) (dv b))):=by
 unfold ah;rw[aG h];by_cases hlen:a.length=b.length
 .have key:=jO P L [0,1,5] ED
   (fun k st=>∃j:Nat,st=⟨[(0,v),(1,w),(5,aa ((j:Int)-1))],[],0,0⟩/\j<=a.length/\j=k/\a.drop j=b.drop j)
   (fun ex st=>∃tm ct,st=⟨tm,[],ct,0⟩/\((ex=.ret/\aj tm 4=aa (dW (dv a) (dv b)))\/(ex=.exit 0/\a=b))) ?_
  .simp only [go_sem,ya,Av,hv.len,hw.len,show (a.length:Int)=b.length by lia];generalize hq:D P L (.loop _ ED) _=q;obtain⟨ex,st,rfl,tm,ct,rfl,h2⟩:=bQ hq (key a.length) ⟨a.length,by
    rw[wrap64 (by lia) (by lia)];rw[hlen]
    simp only[go_sem,ya,az,av hv.pu,av hw.pu]<;>rfl,yx _,rfl,by rw[xh (yx _),xh (by lia)]⟩
   rcases h2 with ⟨rfl,h2⟩ | ⟨rfl,h2⟩
   .simp only [go_sem,h2]
   .simp only [go_sem,az];subst h2;simp[dW]
  .rintro k st ⟨j,rfl,hj,rfl,he⟩
   cases j with
   | zero=>
    right
    simp only[go_sem,ya,ED,show ¬(0:Int)<=((0:Nat):Int)-1 by lia];exact⟨_,_,rfl,by simp,_,_,rfl,.inr ⟨rfl,by simpa using he⟩⟩
   | succ i=>
    have h1:i<a.length:=by lia
    have h2:i<b.length:=by lia
    have Dy:=ac7 ha hb h1 h2 he;have aM:=ac7 hb ha h2 h1 he.symm;by_cases c1:a[i]<b[i]
    .right
     simp only[go_sem,ya,ED,show ((i+1:Nat):Int)-1=(i:Int) by lia,show (0:Int)<=(i:Int) by lia,hv.bj h1,hw.bj h2,c1];refine⟨_,_,rfl,by simp,_,_,rfl,.inl ⟨rfl,?_⟩⟩;simp only[go_sem];unfold dW;rw[yz (Dy c1)]
    .by_cases c2:b[i]<a[i]
     .right
      simp only[go_sem,ya,ED,show ((i+1:Nat):Int)-1=(i:Int) by lia,show (0:Int)<=(i:Int) by lia,hv.bj h1,hw.bj h2,c1,c2];refine⟨_,_,rfl,by simp,_,_,rfl,.inl ⟨rfl,?_⟩⟩;simp only[go_sem];unfold dW;rw[yp (by lia),yz (by lia)]
     .left
      simp only[go_sem,ya,ED,show ((i+1:Nat):Int)-1=(i:Int) by lia,show (0:Int)<=(i:Int) by lia,hv.bj h1,hw.bj h2,c1,c2];refine⟨_,i,rfl,by lia,i,?_,by lia,rfl,?_⟩
      .rw [wrap64 (by lia) (by lia)];simp only[go_sem,ya,az,av hv.pu,av hw.pu]<;>rfl
      .rw [yW h1,yW h2,he,show a[i]=b[i] by lia]
 .by_cases c1:a.length<b.length
  .have:=UO ha nb hb c1
   simp only[go_sem,ya,Av,hv.len,hw.len,show ¬(a.length:Int)=b.length by lia,show (a.length:Int)<b.length by lia];unfold dW;rw[yz this]
  .have:=UO hb na ha (show b.length<a.length by lia)
   simp only[go_sem,ya,Av,hv.len,hw.len,show ¬(a.length:Int)=b.length by lia,show ¬(a.length:Int)<b.length by lia];unfold dW;rw[yp (by lia),yz this]
def apE{a b out:List Int}{i c:Nat}{x y z:Int}{c':Nat}(hx:x=a.getD i 0)(hy:y=b.getD i 0)(h1:0<=x)(h2:0<=y)(h3:0<=z)(hz:z=x-y-c+1000000000*c')(hl:out.length=i)(hv:dv out+dv (b.take i)=dv (a.take i)+1000000000^i*c):
  dv (out++[z])+dv (b.take (i+1))=dv (a.take (i+1))+1000000000^(i+1)*c':=by
 rw[rA,rA,oD,hl,<-hx,<-hy];simp only[dv,xH,yZ,xq];have e:z.toNat+y.toNat+c=x.toNat+1000000000*c':=by lia
 grind
end
end VE
end
section
namespace VE
open Go (IntKind)
section
variable {P:aF}{L:Lib}
def avL(pc:Has P L 302 Aw){v w:AV}{a b:List Int}(hv:bk v a)(hw:bk w b)(ha:dg a)(hb:dg b)(la:a.length<=20000000000)(hle:dv b<=dv a)(zK:b.length<=a.length):
  ew P L [0,1,5,6,7] Ab (fun k s=>∃(i c:Nat) (out:List Int),i+k=a.length/\out.length=i/\c<=1/\dg out/\dv out+dv (b.take i)=dv (a.take i)+1000000000^i*c/\
    ((i=0/\s=⟨[(0,v),(1,w),(5,.af),(6,aa c),(7,aa i)],[],0,0⟩)\/
    (0<i/\s=⟨[(0,v),(1,w),(5,.ay 0 0 i),(6,aa c),(7,aa i)],[(0,.cells ydo ydo ydp 1 (out.map aa))],1,0⟩))) (fun ex s'=>∃tm out,ex=.exit 0/\dg out/\dv out+dv b=dv a/\out.length<=20000000000/\((out=[]/\aj tm 5=.af/\s'=⟨tm,[],0,0⟩)\/(0<out.length/\aj tm 5=.ay 0 0 out.length/\s'=⟨tm,[(0,.cells ydo ydo ydp 1 (out.map aa))],1,0⟩))):=by
 apply eE;rintro k s ⟨i,c,out,hk,hlen,hc,mI,aP,hs⟩;have e2:=Wu pc hw i;unfold ah at e2;have ga:=je ha i;have gb:=je hb i;by_cases AR:i<a.length
 .left
  obtain⟨x,hx⟩:∃x,x=a.getD i 0:=⟨_,rfl⟩;obtain⟨y,hy⟩:∃y,y=b.getD i 0:=⟨_,rfl⟩;have q9:a[i]=x:=by rw[hx];simp[yS,xb AR]
  have e1:=hv.bj AR;rw[q9] at e1;rw[<-hx] at ga;rw[<-hy] at e2 gb;obtain⟨z,c',hz,kS,kv,kR,K3⟩:∃(z:Int) (c':Nat),z=x-y-c+1000000000*c'/\c'<=1/\0<=z/\z<1000000000/\((x-y-c<0/\c'=1)\/(¬x-y-c<0/\c'=0)):=by
   by_cases h:x-y-c<0
   .exact ⟨x-y-c+1000000000,1,by lia,by lia,by lia,by lia,.inl ⟨h,rfl⟩⟩
   .exact ⟨x-y-c,0,by lia,by lia,by lia,by lia,.inr ⟨h,rfl⟩⟩
  have mw:=apE hx hy ga.1 gb.1 kv hz hlen aP;have Hx:dg (out++[z]):=ja.2 ⟨mI,mR.2 ⟨kv,kR⟩⟩;have VA:(out++[z]).length=i+1:=by simp[hlen]
  have fin:∃s',D P L Ab s=F5 (.normal,s')/\bE [0,1,5,6,7] s'=⟨[(0,v),(1,w),(5,.ay 0 0 (i+1)),(6,aa c'),(7,aa (i+1:Nat))],[(0,.cells ydo ydo ydp 1 ((out++[z]).map aa))],1,0⟩:=by
   rcases K3 with ⟨gA,rfl⟩ | ⟨gA,rfl⟩
   .have dw:x-y-c+1000000000=z:=by lia
    rcases hs with ⟨h0,rfl⟩ | ⟨h0,rfl⟩
    .subst h0;have n7:out=[]:=yQ hlen;subst n7
     simp only[go_sem,ya,yb,xk,yq,yi,yj,Ab,hv.len,hw.ai,show ((0:Nat):Int)<a.length by lia,e1,e2,wrap64 (n:=x-y) (by lia) (by lia),wrap64 (n:=x-y-(c:Int)) (by lia) (by lia),gA,dw,wrap64 (n:=z) (by lia) (by lia),gE];refine⟨_,rfl,?_⟩;rw[wrap64 (by lia) (by lia)];simp only[go_sem,ya,yb,az,av hv.pu,av hw.pu]<;>rfl
    .simp only [go_sem,ya,yb,yi,yj,Ab,hv.len,hw.ai,show (i:Int)<a.length by lia,e1,e2,wrap64 (n:=x-y) (by lia) (by lia),wrap64 (n:=x-y-(c:Int)) (by lia) (by lia),gA,dw,wrap64 (n:=z) (by lia) (by lia)]
     rw[dS (ex:=ydp) (pu:=ydo) (cs:=out.map aa) rfl (by rw[xi,hlen,yj]) (by lia) (by lia) (by decide) rfl];simp only[go_sem,ya,yb];refine⟨_,rfl,?_⟩;rw[wrap64 (by lia) (by lia),xG];simp only[go_sem,ya,yb,az,av hv.pu,av hw.pu]<;>rfl
   .have dw:x-y-c=z:=by lia
    have gA:¬z<0:=by lia
    rcases hs with ⟨h0,rfl⟩ | ⟨h0,rfl⟩
    .subst h0;have n7:out=[]:=yQ hlen;subst n7
     simp only[go_sem,ya,yb,xk,yq,yi,yj,Ab,hv.len,hw.ai,show ((0:Nat):Int)<a.length by lia,e1,e2,wrap64 (n:=x-y) (by lia) (by lia),dw,wrap64 (n:=z) (by lia) (by lia),gA,gE];refine⟨_,rfl,?_⟩;rw[wrap64 (by lia) (by lia)];simp only[go_sem,ya,yb,az,av hv.pu,av hw.pu]<;>rfl
    .simp only [go_sem,ya,yb,yi,yj,Ab,hv.len,hw.ai,show (i:Int)<a.length by lia,e1,e2,wrap64 (n:=x-y) (by lia) (by lia),dw,wrap64 (n:=z) (by lia) (by lia),gA]
     rw[dS (ex:=ydp) (pu:=ydo) (cs:=out.map aa) rfl (by rw[xi,hlen,yj]) (by lia) (by lia) (by decide) rfl];simp only[go_sem,ya,yb];refine⟨_,rfl,?_⟩;rw[wrap64 (by lia) (by lia),xG];simp only[go_sem,ya,yb,az,av hv.pu,av hw.pu]<;>rfl
  have⟨s',f1,f2⟩:=fin;exact⟨s',k-1,f1,by lia,i+1,c',_,by lia,VA,kS,Hx,mw,.inr ⟨by lia,f2⟩⟩
 .right
  have afK:dv out+dv b=dv a:=by
   rw[yK (by lia),yK (by lia)] at aP;have aM:=kZ mI;rw[hlen] at aM;rcases (show c=0\/c=1 by lia) with rfl | rfl
   .lia
   .lia
  rcases hs with ⟨h0,rfl⟩ | ⟨h0,rfl⟩
  .simp only [go_sem,ya,Ab,hv.len,show ¬(i:Int)<a.length by lia];exact⟨_,_,rfl,by simp,_,out,rfl,mI,afK,by lia,.inl ⟨yQ (by lia),rfl,rfl⟩⟩
  .simp only [go_sem,ya,Ab,hv.len,show ¬(i:Int)<a.length by lia];exact⟨_,_,rfl,by simp,_,out,rfl,mI,afK,by lia,.inr ⟨by lia,by rw[hlen];simp only[go_sem,ya],rfl⟩⟩
def ahh(h:Has P L 297 Lx)(pc:Has P L 302 Aw)(cZ:Has P L 300 mZ){v w:AV}{a b:List Int}(hv:bk v a)(hw:bk w b)(ha:dg a)(hb:dg b)(na:nz a)(nb:nz b)(la:a.length<=20000000000)(hle:dv b<=dv a):
  ∃r out,ah P L 297 [v,w] r/\bk r out/\shut r=r/\dg out/\nz out/\dv out+dv b=dv a:=by
 have zK:b.length<=a.length:=by
  by_cases h:a.length<b.length
  .have:=UO ha nb hb h;lia
  .lia
 unfold ah;rw[aG h];simp only[go_sem,Lx];generalize hq:D P L (.loop _ Ab) _=q;obtain⟨ex,s,rfl,tm,out,rfl,hd,aP,hl,hs⟩:=bQ hq (avL (P:=P) (L:=L) pc hv hw ha hb la hle zK a.length) ⟨0,0,[],by lia,rfl,by lia,rfl,by simp[dv],.inl ⟨rfl,by simp only[go_sem,ya,az,av hv.pu,av hw.pu]<;>rfl⟩⟩
 have iB:=lF ydp out;rcases hs with ⟨h0,h5,rfl⟩ | ⟨h0,h5,rfl⟩
 .subst h0;have⟨r,e1,hr,kA⟩:=C9 cZ (v:=.af) (l:=[]) Bg (by simp);refine⟨r,eh [],?_,hr,kA,rfl,rfl,by rw[Bf];exact aP⟩
  simp only[go_sem,az,h5,e1,kA,hr.dX]
 .have ⟨r,e1,hr,kA⟩:=C9 cZ iB hl;refine⟨r,eh out,?_,hr,kA,Cr hd,Gn out,by rw[Bf];exact aP⟩
  have iU:∀hp:Hp,nc 0 out.length (F5 (ydp,1,out.map aa,hp))=F5 (.ap ydp out.length (out.map aa),hp):=fun hp=>kG ydp (by simp) (by decide)
  simp only[go_sem,yb,az,h5,iU,e1,kA,hr.dX]
end
end VE
end
section
namespace VE
open Go (IntKind)
def DV{hp:Hp}{ct id o:Nat}{v:Int}{ex:Bool}{l:List Int}(h:o<l.length):gO hp ct id o 1 [.int .i64 v] (F5 (.cells ydo ydo ex 1 (l.map aa)))=F5 (.aw [],aU hp id (.cells ydo ydo ex 1 ((l.set o v).map aa)),ct):=by
 rw[Am (by rfl) (by simp;lia) (by rfl)]
 have:over o [AV.int .i64 v] (l.map aa)=(l.set o v).map aa:=by
  simp only[over,yv,yI,yd];rw[ycJ,uC,yz (by simpa using h)]
  simp
 rw[this];rfl
def An{l:List Int}{o:Nat}(h:o<l.length):uB o (l.map aa)=AV.int .i64 (l.getD o 0)::uB (o+1) (l.map aa):=by
 rw[yW (by simpa using h)]
 grind
def sX{v:AV}{l:List Int}(hv:bk v l){i:Nat}(h:i<l.length):ik 1 i v=F5 (.bt (.int .i64 (l.getD i 0)::(l.map aa).drop (i+1))):=by
 rw[hv.bj h]
 grind
def apF{o x y c:Int}(ho:0<=o/\o<1000000000)(hx:0<=x/\x<1000000000)(hy:0<=y/\y<1000000000)(hc:0<=c/\c<1000000000):
  (0<=x*y/\x*y<=999999998000000001)/\0<=o+x*y+c/\o+x*y+c<1000000000000000000:=by
 have h1:=yab hx.1 hy.1;have h2:=ycp (show x<=999999999 by lia) (show y<=999999999 by lia) hy.1 (by decide)
 lia
section
variable {P:aF}{L:Lib}
def avM{v w:AV}{a b:List Int}(hv:bk v a)(hw:bk w b)(ha:dg a)(hb:dg b)(la:a.length<=20000000000)(lb:b.length<=20000000000){n i:Nat}(hn:n=a.length+b.length)(hi:i<a.length){out0:List Int}:
  ew P L [0,1,5,6,7,8] KA (fun k s=>∃(j:Nat) (c:Int) (out:List Int),s=⟨[(0,v),(1,w),(5,.ay 0 0 n),(6,aa i),(7,aa c),(8,aa j)],[(0,.cells ydo ydo ydo 1 (out.map aa))],1,0⟩/\j+k=b.length/\out.length=n/\dg out/\(0<=c/\c<1000000000)/\
    dv out+1000000000^i*1000000000^j*c.toNat=dv out0+1000000000^i*((a.getD i 0).toNat*dv (b.take j))/\(∀m,i+b.length<=m->out.getD m 0=out0.getD m 0)) (fun ex s'=>∃tm c out,s'=⟨tm,[(0,.cells ydo ydo ydo 1 (out.map aa))],1,0⟩/\ex=.exit 2/\aj tm 0=v/\aj tm 1=w/\aj tm 5=.ay 0 0 n/\aj tm 6=aa i/\aj tm 7=aa c/\out.length=n/\dg out/\(0<=c/\c<1000000000)/\
    dv out+1000000000^i*1000000000^b.length*c.toNat=dv out0+1000000000^i*((a.getD i 0).toNat*dv b)/\(∀m,i+b.length<=m->out.getD m 0=out0.getD m 0)):=by
 apply eE;rintro k s ⟨j,c,out,rfl,hk,hlen,hd,hc,aP,eW⟩;by_cases hj:j<b.length
 .left
  obtain⟨x,hx⟩:∃x,x=a.getD i 0:=⟨_,rfl⟩;obtain⟨y,hy⟩:∃y,y=b.getD j 0:=⟨_,rfl⟩;obtain⟨o,ho⟩:∃o,o=out.getD (i+j) 0:=⟨_,rfl⟩;have gx:=je ha i;have gy:=je hb j;have pC:=je hd (i+j);rw[<-hx] at gx;rw[<-hy] at gy;rw[<-ho] at pC;have⟨p1,p2,p3⟩:=apF pC gx gy hc;obtain⟨t,ht⟩:∃t:Nat,o+x*y+c=t:=⟨(o+x*y+c).toNat,by lia⟩;have hr:((t:Nat):Int).tmod 1000000000=((t%1000000000:Nat):Int):=by rw[we (by lia)];rfl
  have hq:((t:Nat):Int).tdiv 1000000000=((t/1000000000:Nat):Int):=by rw[wg (by lia)];rfl
  have e1:=sX hv hi;have e2:=sX hw hj;rw[<-hx] at e1;rw[<-hy] at e2;have e3:=An (l:=out) (o:=i+j) (by lia);rw[<-ho] at e3;have zD:t=o.toNat+x.toNat*y.toNat+c.toNat:=by
   have:((x.toNat*y.toNat:Nat):Int)=x*y:=by rw[xZ,vK gx.1,vK gy.1]
   lia
  have aU:=UP (l:=out) (j:=i+j) (x:=((t%1000000000:Nat):Int)) (by lia);rw[<-ho,wi,xM] at aU;have mw:=aoz (Y:=dv (b.take j)) zD aU (by rw[hx];exact aP)
  simp only[go_sem,ya,yj,KA,hw.len,show (j:Int)<b.length by lia,wrapN (n:=i+j) (by lia),show (i:Int)+(j:Int)=((i+j:Nat):Int) from rfl,dd 0 0 (show i+j<n by lia),yd,e3,e1,e2,wrap64 (n:=x*y) (by lia) (by lia),wrap64 (n:=o+x*y) (by lia) (by lia),ht,wrapN (n:=t) (by lia),eL _ _ _ (show (1000000000:Int)≠0 by decide),fH _ _ _ (show (1000000000:Int)≠0 by decide),hr,hq,wrapN (n:=t/1000000000) (by lia),DV (l:=out) (o:=i+j) (by lia)];refine⟨_,k-1,rfl,by lia,j+1,((t/1000000000:Nat):Int),out.set (i+j) ((t%1000000000:Nat):Int),?_,by lia,by simp[hlen],OX hd (by lia),by lia,?_,fun m hm=>?_⟩
  .rw [wrap64 (by lia) (by lia)];simp only[go_sem,ya,yb,az,av hv.pu,av hw.pu]<;>rfl
  .rw [wi,rA,xq,<-hx,<-hy];exact mw
  .rw [abQ (by lia)];exact eW m hm
 .right
  have:j=b.length:=by lia
  subst this;rw[xQ] at aP;simp only[go_sem,ya,KA,hw.len,show ¬(b.length:Int)<b.length by lia];exact⟨_,_,rfl,by simp,_,c,out,rfl,rfl,rfl,rfl,rfl,rfl,rfl,hlen,hd,hc,aP,eW⟩
end
end VE
end
section
namespace VE
open Go (IntKind)
section
variable {v w:AV}{a b:List Int}
def S5(n:Nat):(yE n [AV.int .i64 0]).flatten=(yE n (0:Int)).map aa:=by simp_all
def arV(b:Bool):Hn ydo (F5 b)=F5 (.bool (!b)):=by cases b<;>rfl
def aaf(n m:Nat):(yE n (0:Int)).getD m 0=0:=by grind
section
variable {P:aF}{L:Lib}
def avN(hv:bk v a)(hw:bk w b)(ha:dg a)(hb:dg b)(la:a.length<=20000000000)(lb:b.length<=20000000000){n:Nat}(hn:n=a.length+b.length):
  ew P L [0,1,5,6] KB (fun k s=>∃(i:Nat) (out:List Int),s=⟨[(0,v),(1,w),(5,.ay 0 0 n),(6,aa i)],[(0,.cells ydo ydo ydo 1 (out.map aa))],1,0⟩/\i+k=a.length/\out.length=n/\dg out/\dv out=dv (a.take i)*dv b/\(∀m,i+b.length<=m->out.getD m 0=0)) (fun ex s'=>∃tm out,s'=⟨tm,[(0,.cells ydo ydo ydo 1 (out.map aa))],1,0⟩/\ex=.exit 0/\aj tm 5=.ay 0 0 n/\out.length=n/\dg out/\dv out=dv a*dv b):=by
 apply eE;rintro k s ⟨i,out,rfl,hk,hlen,hd,aP,eW⟩;by_cases hi:i<a.length
 .left
  simp only[go_sem,ya,KB,hv.len,show (i:Int)<a.length by lia];generalize hq:D P L (.loop _ KA) _=q;obtain⟨ex,s,rfl,tm,c,Az,rfl,rfl,t0,t1,t5,t6,t7,Vx,so,hc,Vy,LP⟩:=bQ hq (avM (P:=P) (L:=L) hv hw ha hb la lb hn hi (out0:=out) b.length) ⟨0,0,out,by simp only[go_sem,ya,yb,az,av hv.pu,av hw.pu]<;>rfl,by lia,hlen,hd,by lia,by simp[dv],fun m _=>rfl⟩
  have hz:Az.getD (i+b.length) 0=0:=by rw[LP _ (yx _),eW _ (yx _)]
  have e3:=An (l:=Az) (o:=i+b.length) (by lia);rw[hz] at e3;have aU:=UP (l:=Az) (j:=i+b.length) (x:=c) (by lia);rw[hz,xM] at aU
  simp only[go_sem,ya,yj,az,t0,t1,t5,t6,t7,hw.len,av hv.pu,av hw.pu,wrapN (n:=i+b.length) (by lia),show (i:Int)+(b.length:Int)=((i+b.length:Nat):Int) from rfl,dd 0 0 (show i+b.length<n by lia),yd,e3,Int.zero_add,wrap64 (n:=c) (by lia) (by lia),DV (l:=Az) (o:=i+b.length) (by lia)];refine⟨_,k-1,rfl,by lia,i+1,Az.set (i+b.length) c,?_,by lia,by simp[Vx],OX so hc,?_,fun m hm=>?_⟩
  .rw [wrap64 (by lia) (by lia)];simp only[go_sem,ya,yb,az,av hv.pu,av hw.pu]<;>rfl
  .rw [rA,xY,<-aP,xm];simp only[Int.toNat_zero,xH,yZ] at aU;rw[aU];exact Vy
  .rw [abQ (by lia),LP m (by lia),eW m (by lia)]
 .right
  have:i=a.length:=by lia
  subst this;rw[xQ] at aP;simp only[go_sem,ya,KB,hv.len,show ¬(a.length:Int)<a.length by lia];exact⟨_,_,rfl,by simp,_,out,rfl,rfl,rfl,hlen,hd,aP⟩
def W0(h:Has P L 293 C4)(cZ:Has P L 300 mZ)(hv:bk v a)(hw:bk w b)(ha:dg a)(hb:dg b)(la:a.length<=8000000000)(lb:b.length<=8000000000):
  ∃r out,ah P L 293 [v,w] r/\bk r out/\shut r=r/\dg out/\nz out/\dv out=dv a*dv b:=by
 obtain⟨n,hn⟩:∃n,n=a.length+b.length:=⟨_,rfl⟩;have cA:∀ct:Nat,BI ct 1 8 [.int .i64 0] (F5 n) (F5 n)=F5 (.ay ct 0 n,.cells ydo ydo ydo 1 ((yE n (0:Int)).map aa)):=fun ct=>by
  rw[KH (sz:=1) (by lia) (by lia) (by rfl) (by rfl),S5];rfl
 unfold ah;rw[aG h]
 simp only[go_sem,ya,yb,C4,hv.len,hw.len,wrapN (n:=n) (by lia),show (a.length:Int)+(b.length:Int)=((a.length+b.length:Nat):Int) from rfl,<-hn,cA];generalize hq:D P L (.loop _ KB) _=q;obtain⟨ex,s,rfl,tm,out,rfl,rfl,t5,hlen,hd,aP⟩:=bQ hq (avN (P:=P) (L:=L) hv hw ha hb (by lia) (by lia) hn a.length) ⟨0,yE n 0,by simp only[go_sem,ya,yb,az,av hv.pu,av hw.pu]<;>rfl,by lia,by simp,abS n,by rw[abR];simp[dv],fun m _=>aaf n m⟩
 have iB:=lF ydo out;rw[hlen] at iB;have⟨r,e1,hr,kA⟩:=C9 cZ iB (by lia);refine⟨r,eh out,?_,hr,kA,Cr hd,Gn out,by rw[Bf];exact aP⟩
 have iU:∀hp:Hp,nc 0 n (F5 (ydo,1,out.map aa,hp))=F5 (.ap ydo n (out.map aa),hp):=fun hp=>kG ydo (by simp[hlen]) (by decide)
 simp only[go_sem,yb,az,t5,iU,e1,kA,hr.dX]
def W1(h:Has P L 278 Qc)(n8:Has P L 293 C4)(lL:Has P L 294 C5)(cZ:Has P L 300 mZ){n m:Int}{K:Nat}(hK:K<=8000000000)(hv:mf v n)(hw:mf w m)(hn:n.natAbs<1000000000^K)(hm:m.natAbs<1000000000^K):
  ∃r,ah P L 278 [v,w] r/\mf r (n*m):=by
 obtain⟨x,a,rfl,hx,ha,na,va⟩:=hv;obtain⟨y,b,rfl,hy,hb,nb,vb⟩:=hw;have la:=xu (kJ ha na (by rw[va];exact hn)) hK
 have lb:=xu (kJ hb nb (by rw[vb];exact hm)) hK
 have⟨z,out,e1,hz,kA,hd,DM,aP⟩:=W0 n8 cZ hx hy ha hb la lb;have lo:out.length<=20000000000:=by
  refine kJ hd DM ?_;rw[aP];have h1:=kZ ha;have h2:=kZ hb;have h3:dv a*dv b<1000000000^a.length*1000000000^b.length:=yaE h1 h2;rw[<-xM] at h3;have hk:∀K,a.length+b.length<=K->dv a*dv b<1000000000^K:=fun K h=>yG h3 (xd (by decide) h)
  exact hk 20000000000 (by lia)
 have⟨r,e2,hr⟩:=BK lL cZ (!(decide (n<0)==decide (m<0))) hz hd lo;have e:cC (!(decide (n<0)==decide (m<0))) (dv out)=n*m:=by
  rw[aP,va,vb];have hnm:((n.natAbs*m.natAbs:Nat):Int)=(n.natAbs:Int)*m.natAbs:=xZ _ _;unfold cC;by_cases h0:n<0<;>by_cases h1:m<0<;>simp only[h0,h1,yN,yP,yah,xp,yD,xz,hnm]
  .rw [show (n.natAbs:Int)= -n by lia,show (m.natAbs:Int)= -m by lia,Int.neg_mul_neg]
  .rw [show (ydo==ydp)=ydp from rfl,xj,yz rfl,show (n.natAbs:Int)= -n by lia,show (m.natAbs:Int)=m by lia,Int.neg_mul,yaM]
  .rw [show (ydp==ydo)=ydp from rfl,xj,yz rfl,show (n.natAbs:Int)=n by lia,show (m.natAbs:Int)= -m by lia,Int.mul_neg,yaM]
  .rw [show (n.natAbs:Int)=n by lia,show (m.natAbs:Int)=m by lia]
 rw[e] at hr;obtain⟨w2,l2,rfl,iY,jJ,iV,BL⟩:=hr;refine⟨_,?_,w2,l2,rfl,iY,jJ,iV,BL⟩;unfold ah at e1 e2 ⊢;rw[aG h];simp only[go_sem,ya,yb,Qc,aO,hx.pu,hx.ai,hx.one,hy.pu,hy.ai,hy.one,hz.ai,hz.shut,iY.pu,iY.one,bg,yd,cO,e1,rL,arV,e2,jg,bi];rcases iY with ⟨rfl,_⟩ | ⟨e,rfl⟩<;>rfl
end
end
end VE
end
section
namespace VE
open Go (IntKind)
def arW(i:Nat)(q:List Int)(x:Int):(yE (i+1) (0:Int)++q).set i x=yE i 0++x::q:=by
 rw[List.replicate_succ',xK,List.set_append_right _ _ (by simp)]
 simp
section
variable {P:aF}{L:Lib}
def avO{v:AV}{a:List Int}(hv:bk v a)(ha:dg a)(la:a.length<=20000000000){d:Nat}(h0:0<d)(h1:d<1000000000):
  ew P L [0,1,6,7,8] KC (fun k s=>∃(j r:Nat) (q:List Int),s=⟨[(0,v),(1,aa d),(6,.ay 0 0 a.length),(7,aa r),(8,aa ((j:Int)-1))],[(0,.cells ydo ydo ydo 1 ((yE j (0:Int)++q).map aa))],1,0⟩/\j=k/\j+q.length=a.length/\r<d/\dg q/\dv (a.drop j)=d*dv q+r) (fun ex s'=>∃tm r q,s'=⟨tm,[(0,.cells ydo ydo ydo 1 (q.map aa))],1,0⟩/\ex=.exit 0/\aj tm 6=.ay 0 0 a.length/\aj tm 7=aa (r:Nat)/\q.length=a.length/\r<d/\dg q/\dv a=d*dv q+r):=by
 apply eE;rintro k s ⟨j,r,q,rfl,rfl,hl,hr,hd,aP⟩
 cases j with
 | zero=>
  right
  simp only[go_sem,ya,KC,show ¬(0:Int)<=((0:Nat):Int)-1 by lia];exact⟨_,_,rfl,by simp,_,r,q,rfl,rfl,rfl,rfl,by lia,hr,hd,aP⟩
 | succ i=>
  left
  have hi:i<a.length:=by lia
  obtain⟨x,hx⟩:∃x,x=a.getD i 0:=⟨_,rfl⟩;have e1:=sX hv hi;have gx:=je ha i;rw[<-hx] at e1 gx;obtain⟨t,ht⟩:∃t:Nat,t=r*1000000000+x.toNat:=⟨_,rfl⟩;have zD:(r:Int)*1000000000+x=(t:Int):=by lia
  have ma:t<d*1000000000:=by
   lia
  have fY:t/d<1000000000:=(xO h0).2 (by rw[xA];exact ma)
  have et:t%d<d:=xD _ h0;have e2:((t:Nat):Int).tdiv d=((t/d:Nat):Int):=by rw[wg (by lia)];rfl
  have e3:((t:Nat):Int).tmod d=((t%d:Nat):Int):=by rw[we (by lia)];rfl
  have MQ:(yE (i+1) (0:Int)++q).length=a.length:=by simp;lia
  have aR:=fun (hp:Hp) (ct id:Nat) (ex:Bool)=>DV (hp:=hp) (ct:=ct) (id:=id) (ex:=ex) (v:=((t/d:Nat):Int)) (l:=yE (i+1) (0:Int)++q) (o:=i) (by rw[MQ];exact hi)
  simp only[arW] at aR
  simp only[go_sem,ya,yj,KC,show ((i+1:Nat):Int)-1=(i:Int) by lia,show (0:Int)<=(i:Int) by lia,wrap64 (n:=(r:Int)*1000000000) (by lia) (by lia),e1,zD,wrapN (n:=t) (by lia),fH _ _ _ (show (d:Int)≠0 by lia),eL _ _ _ (show (d:Int)≠0 by lia),e2,e3,wrapN (n:=t/d) (by lia),dd 0 0 (show i<a.length from hi),yd,aR]
  refine⟨_,i,rfl,by lia,i,t%d,((t/d:Nat):Int)::q,?_,rfl,by simp;lia,et,(ja (a:=[((t/d:Nat):Int)]) (b:=q)).2 ⟨mR.2 ⟨yaR _,tI.2 fY⟩,hd⟩,?_⟩
  .rw [wrap64 (by lia) (by lia)];simp only[go_sem,ya,yb,az,av hv.pu]<;>rfl
  .have kj:a.drop i=x::a.drop (i+1):=by
    rw[yW hi,hx];simp[yS,xb hi]
   rw[kj];simp only[dv,aP,wi];have e:=xT t d;rw[xL,xL d,Nat.mul_left_comm 1000000000 d]
   lia
def ahi(h:Has P L 299 C6)(cZ:Has P L 300 mZ){v:AV}{a:List Int}(hv:bk v a)(ha:dg a)(la:a.length<=20000000000){d:Nat}(h0:0<d)(h1:d<1000000000):
  ∃r q,ah P L 299 [v,aa d] (.aw [r,aa (dv a%d:Nat)])/\bk r q/\shut r=r/\bJ r=r/\dg q/\nz q/\dv q=dv a/d:=by
 obtain⟨n,hn⟩:∃n,n=a.length:=⟨_,rfl⟩;have cA:∀ct:Nat,BI ct 1 8 [.int .i64 0] (F5 n) (F5 n)=F5 (.ay ct 0 n,.cells ydo ydo ydo 1 ((yE n (0:Int)).map aa)):=fun ct=>by
  rw[KH (sz:=1) (by lia) (by lia) (by rfl) (by rfl),S5];rfl
 unfold ah;rw[aG h];simp only[go_sem,ya,yb,C6,hv.len,<-hn,cA];generalize hq:D P L (.loop _ KC) _=q;obtain⟨ex,s,rfl,tm,r,qs,rfl,rfl,t6,t7,hlen,hr,hd,aP⟩:=bQ hq (avO (P:=P) (L:=L) hv ha la h0 h1 a.length) ⟨a.length,0,[],by
  rw[wrap64 (by lia) (by lia),wL,<-hn]
  simp only[go_sem,ya,yb,az,av hv.pu]<;>rfl,rfl,by simp,h0,rfl,by rw[xh (yx _)];simp[dv]⟩
 have iB:=lF ydo qs;rw[hlen] at iB;have⟨w,e1,hw,kA⟩:=C9 cZ iB (by lia);have fR:dv a/d=dv qs/\dv a%d=r:=(Nat.div_mod_unique h0).2 ⟨by lia,hr⟩;refine⟨w,eh qs,?_,hw,kA,hw.bJ,Cr hd,Gn qs,by rw[Bf,fR.1]⟩;have iU:∀hp:Hp,nc 0 a.length (F5 (ydo,1,qs.map aa,hp))=F5 (.ap ydo a.length (qs.map aa),hp):=fun hp=>kG ydo (by simp[hlen]) (by decide)
 rw[fR.2];simp only[go_sem,ya,yb,az,t6,t7,iU,e1,kA];rcases hw with ⟨rfl,_⟩ | ⟨e,rfl⟩<;>rfl
def aAm(h:Has P L 279 Hi)(W2:Has P L 295 Lw)(qC:Has P L 296 Av)(QH:Has P L 297 Lx)(pc:Has P L 302 Aw)(lL:Has P L 294 C5)(cZ:Has P L 300 mZ){v w:AV}{n m:Int}{K:Nat}(hK:K<=8000000000)(hv:mf v n)(hw:mf w m)(hn:n.natAbs<1000000000^K)(hm:m.natAbs<1000000000^K):
  ∃r,ah P L 279 [v,w] r/\mf r (n+m):=by
 obtain⟨x,a,rfl,hx,ha,na,va⟩:=hv;obtain⟨y,b,rfl,hy,hb,nb,vb⟩:=hw;have la:=xu (kJ ha na (by rw[va];exact hn)) hK
 have lb:=xu (kJ hb nb (by rw[vb];exact hm)) hK
 by_cases hs:(decide (n<0)==decide (m<0))=ydo
 .have ⟨z,out,e1,hz,hd,aP,hl⟩:=aAl W2 pc hx hy ha hb (by lia) (by lia);have lo:out.length<=20000000000:=by lia
  have⟨r,e2,hr⟩:=BK lL cZ (decide (n<0)) hz hd lo;have e:cC (decide (n<0)) (dv out)=n+m:=by
   have DW:(n<0)=(m<0):=by simpa using eq_of_beq hs
   rw[aP,va,vb];unfold cC;by_cases h0:n<0
   .have h1:m<0:=DW▸h0;simp only[h0,yN,xJ];lia
   .have h1:¬m<0:=DW▸h0;simp only[h0,yP,yD,xz];lia
  rw[e] at hr;obtain⟨w2,l2,rfl,iY,jJ,iV,BL⟩:=hr;refine⟨_,?_,w2,l2,rfl,iY,jJ,iV,BL⟩;unfold ah at e1 e2 ⊢;rw[aG h];simp only[go_sem,ya,yb,Hi,aO,hx.pu,hx.ai,hx.one,hy.pu,hy.ai,hy.one,hz.ai,iY.pu,iY.one,bg,yd,cO,e1,rL,eH,hs,e2,jg,bi];rcases iY with ⟨rfl,_⟩ | ⟨e,rfl⟩<;>rfl
 .have hs:(decide (n<0)==decide (m<0))=ydp:=by simpa using hs
  have DW:¬((n<0)=(m<0)):=fun e=>by simp[e] at hs
  have ec:=WZ qC hx hy ha hb na nb (by lia) (by lia);by_cases hc:dv a<dv b
  .have eQ:dW (dv a) (dv b)= -1:=by unfold dW;rw[yz hc]
   rw[eQ] at ec;have⟨z,out,e1,hz,kA,hd,DM,aP⟩:=ahh QH pc cZ hy hx hb ha nb na (by lia) (by lia);have lo:out.length<=20000000000:=by
    refine kJ hd DM ?_
    have:=kZ hb
    have hk:∀K,b.length<=K->dv out<1000000000^K:=fun K h=>yG (show dv out<1000000000^b.length by lia) (xd (by decide) h)
    exact hk 20000000000 (by lia)
   have⟨r,e2,hr⟩:=BK lL cZ (decide (m<0)) hz hd lo;have e:cC (decide (m<0)) (dv out)=n+m:=by
    rw[va,vb] at aP;unfold cC;by_cases h0:m<0
    .have h1:¬n<0:=fun h1=>DW (by simp[h0,h1])
     simp only[h0,yN,xJ];lia
    .have h1:n<0:=by
      by_cases h1:n<0
      .exact h1
      .exact absurd (by simp[h0,h1]) DW
     simp only[h0,yP,yD,xz];lia
   rw[e] at hr;obtain⟨w2,l2,rfl,iY,jJ,iV,BL⟩:=hr;refine⟨_,?_,w2,l2,rfl,iY,jJ,iV,BL⟩;unfold ah at e1 e2 ec ⊢;rw[aG h];simp only[go_sem,ya,yb,Hi,aO,hx.pu,hx.ai,hx.one,hy.pu,hy.ai,hy.one,hz.ai,hz.shut,iY.pu,iY.one,bg,yd,cO,e1,rL,eH,hs,ec,show ¬(0:Int)<=-1 by decide,e2,jg,bi];rcases iY with ⟨rfl,_⟩ | ⟨e,rfl⟩<;>rfl
  .have eQ:(0:Int)<=dW (dv a) (dv b):=by unfold dW;rw[yp hc];split<;>decide
   have⟨z,out,e1,hz,kA,hd,DM,aP⟩:=ahh QH pc cZ hx hy ha hb na nb (by lia) (by lia);have lo:out.length<=20000000000:=by
    refine kJ hd DM ?_
    have:=kZ ha
    have hk:∀K,a.length<=K->dv out<1000000000^K:=fun K h=>yG (show dv out<1000000000^a.length by lia) (xd (by decide) h)
    exact hk 20000000000 (by lia)
   have⟨r,e2,hr⟩:=BK lL cZ (decide (n<0)) hz hd lo;have e:cC (decide (n<0)) (dv out)=n+m:=by
    rw[va,vb] at aP;unfold cC;by_cases h0:n<0
    .have h1:¬m<0:=fun h1=>DW (by simp[h0,h1])
     simp only[h0,yN,xJ];lia
    .have h1:m<0:=by
      by_cases h1:m<0
      .exact h1
      .exact absurd (by simp[h0,h1]) DW
     simp only[h0,yP,yD,xz];lia
   rw[e] at hr;obtain⟨w2,l2,rfl,iY,jJ,iV,BL⟩:=hr;refine⟨_,?_,w2,l2,rfl,iY,jJ,iV,BL⟩;unfold ah at e1 e2 ec ⊢;rw[aG h];simp only[go_sem,ya,yb,Hi,aO,hx.pu,hx.ai,hx.one,hy.pu,hy.ai,hy.one,hz.ai,hz.shut,iY.pu,iY.one,bg,yd,cO,e1,rL,eH,hs,ec,eQ,e2,jg,bi];rcases iY with ⟨rfl,_⟩ | ⟨e,rfl⟩<;>rfl
end
end VE
end
section
namespace VE
open Go (IntKind)
section
variable {P:aF}{L:Lib}
def ado{l:List Int}(hd:dg l)(hn:nz l)(h:dv l<1000000000):l.length<=1:=kJ hd hn (by simpa using h)
def aAn(h:Has P L 289 Au)(qC:Has P L 296 Av)(rT:Has P L 299 C6)(cZ:Has P L 300 mZ){v w:AV}{a b:List Int}(hv:bk v a)(hw:bk w b)(ha:dg a)(hb:dg b)(na:nz a)(nb:nz b)(la:a.length<=20000000000)(lb:b.length<=1)(h0:0<dv b):
  ∃q r lq lr,ah P L 289 [v,w] (.aw [q,r])/\bk q lq/\bk r lr/\dg lq/\nz lq/\dg lr/\nz lr/\dv lq=dv a/dv b/\dv lr=dv a%dv b:=by
 have ec:=WZ qC hv hw ha hb na nb la (by lia);by_cases hc:dv a<dv b
 .have eQ:dW (dv a) (dv b)= -1:=by unfold dW;rw[yz hc]
  rw[eQ] at ec;refine⟨.af,v,[],a,?_,Bg,hv,rfl,rfl,ha,na,?_,?_⟩
  .unfold ah;rw[aG h];simp only[go_sem,ya,Au,hv.ai,hw.ai,ec,show (-1:Int)<0 by decide];rcases hv with ⟨rfl,_⟩ | ⟨e,rfl⟩<;>rfl
  .rw [xR hc];rfl
  .rw [yU hc]
 .have eQ:¬dW (dv a) (dv b)<0:=by unfold dW;rw[yp hc];split<;>decide
  have qJ:b.length=1:=by
   rcases xx b.length with e | e
   .rw [yQ e] at h0;simp[dv] at h0
   .lia
  obtain⟨x,rfl⟩:∃x,b=[x]:=by
   cases b with
   | nil=>simp at qJ
   | cons x r=>cases r with
    | nil=>exact⟨x,rfl⟩
    | cons y r=>simp at qJ
  have gx:=mR.1 hb;obtain⟨d,hd⟩:∃d:Nat,x=d:=⟨x.toNat,by lia⟩;subst hd;have hdd:dv [((d:Nat):Int)]=d:=by simp[dv]
  rw[hdd] at h0 hc eQ ec ⊢;have⟨q,lq,e1,hq,hqs,aAo,dq,nq,vq⟩:=ahi rT cZ hv ha la h0 (by lia);have afD:dv a%d<d:=xD _ h0;generalize dv a%d=m at*
  have⟨r,e2,hr,lV⟩:=C9 cZ (lF ydo [(m:Int)]) (by simp);refine⟨q,r,lq,eh [(m:Int)],?_,hq,hr,dq,nq,Cr (mR.2 (by lia)),Gn _,vq,by rw[Bf];simp[dv]⟩;have e3:=hw.bj (i:=0) (by simp);simp only[yv,yI,yd,xe,ve,wq] at e2 e3;unfold ah;rw[aG h];simp only[go_sem,ya,yb,yq,yi,yj,Au,hv.ai,hw.len,hw.ai,ec,eQ,yv,yI,show ((1:Nat):Int)=(1:Int) from rfl,yN,e3,e1,aAo,e2,lV];rcases hq with ⟨rfl,_⟩ | ⟨e,rfl⟩<;>rcases hr with ⟨rfl,_⟩ | ⟨e',rfl⟩<;>rfl
end
end VE
end
section
namespace VE
open Go (IntKind)
section
variable {l post pre qs vs:List Int}{r t:Nat}
def sv:List Int->Int
 | []=>0
 | a::r=>a+1000000000*sv r
def abb:∀(a b:List Int),sv (a++b)=sv a+1000000000^a.length*sv b
 | [],b=>by simp[sv]
 | x::a,b=>by
  simp only[yB,sv,abb a b,yv,yaw,yde]
  grind
def avP(x:Int):sv [x]=x:=by simp[sv]
def GR:∀{l:List Int} {i:Nat} {x:Int},i<l.length->sv (l.set i x)=sv l+1000000000^i*(x-l.getD i 0)
 | [],i,x,h=>by simp at h
 | a::l,0,x,_=>by simp[sv];lia
 | a::l,i+1,x,h=>by
  have ih:=GR (l:=l) (i:=i) (x:=x) (by simpa using h);simp only[List.set_cons_succ,sv,List.getD_cons_succ,ih,yaw,yde]
  grind
def OL(i:Nat):sv (l.take (i+1))=sv (l.take i)+1000000000^i*l.getD i 0:=by
 by_cases h:i<l.length
 .rw [xv h,abb,yR,xF (by lia),avP]
  grind
 .rw [yK (by lia),yK (by lia),JR (by lia),Int.mul_zero,ycP]
def Bz:∀{l:List Int},dg l->sv l=dv l
 | [],_=>rfl
 | a::l,h=>by
  have⟨h1,h2⟩:=ja.1 (show dg ([a]++l) from h);have h1:=mR.1 h1;simp only[sv,dv,Bz h2,tr,xZ]
  lia
section
variable {pre x post:List Int}{i:Nat}
def p8:(pre++x++post).length=pre.length+x.length+post.length:=by grind
def CK(h:i<x.length):(pre++x++post).getD (pre.length+i) 0=x.getD i 0:=by grind
def O5(a:Int)(h:i<x.length):(pre++x++post).set (pre.length+i) a=pre++x.set i a++post:=by simp_all
end
def aeh{i m:Nat}{x:Int}(h:i≠m):(l.set i x).getD m 0=l.getD m 0:=by simp_all
def ant{i:Nat}{x:Int}(h:i<l.length):(l.set i x).getD i 0=x:=by simp_all
abbrev H3(q u:List Int)(f:Int):Hp:=[(2,.cells ydo ydo ydo 1 (q.map aa)),(1,.cells ydo ydo ydp 1 (u.map aa)),(0,.cells ydp ydo ydo 1 [aa f])]
def Ok{live:List Nat}{tm:Env}{ct:Nat}{a b c:List AV}(ht:lH 3 (cd tm live))(hl:(fj (cd tm live)).length<100000):
  bE live ⟨tm,[(2,.cells ydo ydo ydo 1 a),(1,.cells ydo ydo ydp 1 b),(0,.cells ydp ydo ydo 1 c)],ct,3⟩=⟨cd tm live,[(2,.cells ydo ydo ydo 1 a),(1,.cells ydo ydo ydp 1 b),(0,.cells ydp ydo ydo 1 c)],3,3⟩:=
 SH ht ⟨by lia,.inl rfl,by lia,.inl rfl,by lia,.inl rfl,trivial⟩ (by
  have:dO 3 [(2,Obj.cells ydo ydo ydo 1 a),(1,Obj.cells ydo ydo ydp 1 b),(0,Obj.cells ydp ydo ydo 1 c)]=[]:=rfl
  rw[this,yI,yZ];exact hl)
structure gQ(x vs:List Int)(n v1 v2 u0 u1 u2:Nat):Prop where
 n2:2<=n
 nb:n<=20000000000
 lx:x.length=n+1
 lv:vs.length=n
 gx:dg x
 gv:dg vs
 dY:vs.getD (n-1) 0=(v1:Int)
 dM:vs.getD (n-2) 0=(v2:Int)
 h0:x.getD n 0=(u0:Int)
 h1:x.getD (n-1) 0=(u1:Int)
 h2:x.getD (n-2) 0=(u2:Int)
 pos:0<v1
 lt:dv x<1000000000*dv vs
section
variable {x vs:List Int}{n v1 v2 u0 u1 u2:Nat}
def gQ.MR(h:gQ x vs n v1 v2 u0 u1 u2):v1<1000000000:=by have:=je h.gv (n-1);rw[h.dY] at this;lia
def gQ.FL(h:gQ x vs n v1 v2 u0 u1 u2):v2<1000000000:=by have:=je h.gv (n-2);rw[h.dM] at this;lia
def gQ.u0W(h:gQ x vs n v1 v2 u0 u1 u2):u0<1000000000:=by have:=je h.gx n;rw[h.h0] at this;lia
def gQ.MS(h:gQ x vs n v1 v2 u0 u1 u2):u1<1000000000:=by have:=je h.gx (n-1);rw[h.h1] at this;lia
def gQ.MU(h:gQ x vs n v1 v2 u0 u1 u2):u2<1000000000:=by have:=je h.gx (n-2);rw[h.h2] at this;lia
def gQ.parts(h:gQ x vs n v1 v2 u0 u1 u2):∃p vr ur,dv vs=(v1*1000000000+v2)*p+vr/\vr<p/\dv x=((u0*1000000000+u1)*1000000000+u2)*p+ur/\ur<p:=by
 obtain⟨m,hm⟩:∃m,n=m+2:=⟨n-2,by have:=h.n2;lia⟩
 subst hm;have e1:=rA (l:=vs) (m+1);have e2:=rA (l:=vs) m;have f0:=rA (l:=x) (m+2);have f1:=rA (l:=x) (m+1);have f2:=rA (l:=x) m;have dY:vs.getD (m+1) 0=(v1:Int):=h.dY;have dM:vs.getD m 0=(v2:Int):=h.dM;have h0:x.getD (m+2) 0=(u0:Int):=h.h0;have h1:x.getD (m+1) 0=(u1:Int):=h.h1;have h2:x.getD m 0=(u2:Int):=h.h2
 rw[yK (by have:=h.lv;lia),dY,e2,dM] at e1
 rw[yK (by have:=h.lx;lia),h0,f1,h1,f2,h2] at f0
 simp only[wi] at e1 f0;have g1:=kZ (El h.gv m)
 rw[yR,xF (by have:=h.lv;lia)] at g1
 have g2:=kZ (El h.gx m)
 rw[yR,xF (by have:=h.lx;lia)] at g2
 refine⟨1000000000^m,_,_,?_,g1,?_,g2⟩
 .rw [e1,xq,axV]
 .rw [f0,show 1000000000^(m+2)=1000000000^m*1000000000*1000000000 by rw[xq,xq],xq,axW]
def gQ.down(h:gQ x vs n v1 v2 u0 u1 u2)(ht:t*v1+r=u0*1000000000+u1)(hr:r*1000000000+u2<t*v2):dv x/dv vs<=t-1:=by
 have⟨p,vr,ur,h1,h2,h3,h4⟩:=h.parts;exact Z4 h1 h3 h4 ht hr
def gQ.stop(h:gQ x vs n v1 v2 u0 u1 u2)(ma:t<1000000000)(ht:t*v1+r=u0*1000000000+u1)(hr:1000000000<=r\/t*v2<=r*1000000000+u2):t<=dv x/dv vs+1:=by
 have⟨p,vr,ur,h1,h2,h3,h4⟩:=h.parts;exact aaS (by decide) h1 h2 h3 h.pos h.FL ma ht hr
def gQ.first(h:gQ x vs n v1 v2 u0 u1 u2):dv x/dv vs<=(u0*1000000000+u1)/v1:=by
 have⟨p,vr,ur,h1,h2,h3,h4⟩:=h.parts;exact SE h1 h3 h4 h.MU h.pos
def gQ.top(h:gQ x vs n v1 v2 u0 u1 u2):u0<=v1:=by
 have⟨p,vr,ur,h1,h2,h3,h4⟩:=h.parts;exact aaT h1 h3 h2 h.FL h.lt
def gQ.digit(h:gQ x vs n v1 v2 u0 u1 u2):dv x/dv vs<1000000000:=by
 refine (xO ?_).2 h.lt;rcases xx (dv vs) with h0 | h0
 .have:=h.lt;rw[h0] at this;simp at this
 .exact h0
def gQ.small(h:gQ x vs n v1 v2 u0 u1 u2)(ht:t*v1+r=u0*1000000000+u1)(hb:1000000000<=t):r<1000000000:=by
 have h1:=h.top;have h2:=h.MS;have h3:=yT v1 hb
 grind
end
def aAp{u:Nat}(hr:r<1000000000)(hu:u<1000000000):r*1000000000<9223372036854775808/\r*1000000000+u<9223372036854775808:=by lia
section
variable {P:aF}{L:Lib}
def arX{w:AV}{x:List Int}{f:Int}(hw:bk w vs){n v1 v2 u0 u1 u2 M:Nat}(hl:gQ x vs n v1 v2 u0 u1 u2)(hM:M=pre.length+x.length+post.length)(M7:M<=50000000000):
  ew P L [0,1,2,7,9,10] CF (fun k s=>∃t r:Nat,s=⟨[(0,.ay 1 0 M),(1,w),(2,aa pre.length),(7,aa n),(9,aa t),(10,aa r)],H3 qs (pre++x++post) f,3,3⟩/\t*v1+r=u0*1000000000+u1/\r<1000000000/\dv x/dv vs<=t/\t=k) (fun ex s'=>∃tm ct t,s'=⟨tm,H3 qs (pre++x++post) f,ct,3⟩/\((ex=.exit 0/\aj tm 9=aa (t:Nat))\/(ex=.ret/\aj tm 6=aa (t:Nat)))/\ct=3/\t<1000000000/\dv x/dv vs<=t/\t<=dv x/dv vs+1):=by
 apply eE;rintro k s ⟨t,r,rfl,ht,hr,hQ,rfl⟩;have cE:=hl.n2;have sf:=hl.nb;have hlx:=hl.lx;have Hr:=hl.MR;have Wv:=hl.FL;have agP:=hl.MU;have aAq:=hl.u0W;have Qy:=hl.MS;have nd:=hl.pos;have ss:=sX hw (i:=n-2) (by have:=hl.lv;lia)
 have fg:=sX hw (i:=n-1) (by have:=hl.lv;lia)
 rw[hl.dM] at ss;rw[hl.dY] at fg;have AS:=An (l:=pre++x++post) (o:=pre.length+(n-2)) (by rw[p8];lia)
 rw[CK (by lia),hl.h2] at AS;have B3:(n:Int)-2=((n-2:Nat):Int):=by lia
 have su:(n:Int)-1=((n-1:Nat):Int):=by lia
 have M8:(pre.length:Int)+(n:Int)=((pre.length+n:Nat):Int):=rfl;have YH:((pre.length+n:Nat):Int)-2=((pre.length+(n-2):Nat):Int):=by lia
 have aFl:t<=1000000000000000000:=by
  have:=xa t nd
  lia
 have aFm:t*1<=t*v1:=xa t nd;have⟨YI,YJ⟩:=aAp hr agP;by_cases AR:1000000000<=t\/r*1000000000+u2<t*v2
 .have YK:0<t:=by
   rcases xx t with h0 | h0
   .subst h0;lia
   .exact h0
  have h1:(t-1)*v1+(r+v1)=u0*1000000000+u1:=by
   obtain⟨p,rfl⟩:∃p,t=p+1:=⟨t-1,by lia⟩;rw[xY,yaU] at ht;rw[Nat.add_sub_cancel];lia
  have FM:dv x/dv vs<=t-1:=by
   rcases AR with h | h
   .have:=hl.digit;generalize dv x/dv vs=q at*;lia
   .exact hl.down ht h
  have R1:((t:Nat):Int)-1=((t-1:Nat):Int):=by lia
  have stop:1000000000<=r+v1->t-1<1000000000/\t-1<=dv x/dv vs+1:=fun hb=>by
   have aM:t-1<1000000000:=by
    by_cases AJ:1000000000<=t-1
    .have:=hl.small h1 AJ;lia
    .lia
   exact⟨aM,hl.stop aM h1 (.inl hb)⟩
  by_cases hb:1000000000<=t
  .by_cases od:1000000000<=r+v1
   .right
    have⟨s1,s2⟩:=stop od
    simp only[go_sem,ya,CF,H3,show (1000000000:Int)<=(t:Int) by lia,R1,wrapN (n:=t-1) (by lia),su,wrapN (n:=n-1) (by lia),fg,show (r:Int)+(v1:Int)=((r+v1:Nat):Int) from rfl,wrapN (n:=r+v1) (by lia),show (1000000000:Int)<=((r+v1:Nat):Int) by lia];exact⟨_,_,rfl,by simp,_,_,t-1,rfl,.inr ⟨rfl,rfl⟩,rfl,s1,FM,s2⟩
   .left
    simp only[go_sem,ya,CF,H3,show (1000000000:Int)<=(t:Int) by lia,R1,wrapN (n:=t-1) (by lia),su,wrapN (n:=n-1) (by lia),fg,show (r:Int)+(v1:Int)=((r+v1:Nat):Int) from rfl,wrapN (n:=r+v1) (by lia),show ¬(1000000000:Int)<=((r+v1:Nat):Int) by lia];refine⟨_,t-1,rfl,by lia,t-1,r+v1,?_,h1,by lia,FM,rfl⟩;rw[Ok (by simp only[go_sem,ya,yq,nO,oN,nK,nH,nF hw.pu,vU]) (by simp only[go_sem,ya,yb,yq,jL hw.pu])];simp only[go_sem,ya]
  .have DB:=xC (show t<=999999999 by lia) (show v2<=999999999 by lia);have Fo:r*1000000000+u2<t*v2:=AR.resolve_left hb;obtain⟨m,hm⟩:∃m,t*v2=m:=⟨_,rfl⟩;have em:(t:Int)*(v2:Int)=(m:Int):=by rw[<-hm,xZ]
   rw[hm] at Fo DB;have HZ:(r:Int)*1000000000=((r*1000000000:Nat):Int):=by lia
   have DH:((r*1000000000:Nat):Int)+(u2:Int)=((r*1000000000+u2:Nat):Int):=rfl;by_cases od:1000000000<=r+v1
   .right
    have⟨s1,s2⟩:=stop od
    simp only[go_sem,ya,yj,CF,H3,show ¬(1000000000:Int)<=(t:Int) by lia,B3,wrapN (n:=n-2) (by lia),ss,em,wrapN (n:=m) (by lia),HZ,wrapN YI,M8,wrapN (n:=pre.length+n) (by lia),YH,wrapN (n:=pre.length+(n-2)) (by lia),dd 1 0 (show pre.length+(n-2)<M by lia),yd,AS,DH,wrapN YJ,show ((r*1000000000+u2:Nat):Int)<(m:Int) from tI.2 Fo,R1,wrapN (n:=t-1) (by lia),su,wrapN (n:=n-1) (by lia),fg,show (r:Int)+(v1:Int)=((r+v1:Nat):Int) from rfl,wrapN (n:=r+v1) (by lia),show (1000000000:Int)<=((r+v1:Nat):Int) by lia];exact⟨_,_,rfl,by simp,_,_,t-1,rfl,.inr ⟨rfl,rfl⟩,rfl,s1,FM,s2⟩
   .left
    simp only[go_sem,ya,yj,CF,H3,show ¬(1000000000:Int)<=(t:Int) by lia,B3,wrapN (n:=n-2) (by lia),ss,em,wrapN (n:=m) (by lia),HZ,wrapN YI,M8,wrapN (n:=pre.length+n) (by lia),YH,wrapN (n:=pre.length+(n-2)) (by lia),dd 1 0 (show pre.length+(n-2)<M by lia),yd,AS,DH,wrapN YJ,show ((r*1000000000+u2:Nat):Int)<(m:Int) from tI.2 Fo,R1,wrapN (n:=t-1) (by lia),su,wrapN (n:=n-1) (by lia),fg,show (r:Int)+(v1:Int)=((r+v1:Nat):Int) from rfl,wrapN (n:=r+v1) (by lia),show ¬(1000000000:Int)<=((r+v1:Nat):Int) by lia];refine⟨_,t-1,rfl,by lia,t-1,r+v1,?_,h1,by lia,FM,rfl⟩;rw[Ok (by simp only[go_sem,ya,yq,nO,oN,nK,nH,nF hw.pu,vU]) (by simp only[go_sem,ya,yb,yq,jL hw.pu])];simp only[go_sem,ya]
 .right
  have ma:t<1000000000:=Nat.lt_of_not_le fun e=>AR (.inl e)
  have DB:=xC (show t<=999999999 from ud ma) (show v2<=999999999 from ud Wv);have W3:t*v2<=r*1000000000+u2:=ybW fun e=>AR (.inr e)
  have ayb:=hl.stop ma ht (.inr W3);obtain⟨m,hm⟩:∃m,t*v2=m:=⟨_,rfl⟩;have em:(t:Int)*(v2:Int)=(m:Int):=by rw[<-hm,xZ]
  rw[hm] at W3 DB;have HZ:(r:Int)*1000000000=((r*1000000000:Nat):Int):=by lia
  have DH:((r*1000000000:Nat):Int)+(u2:Int)=((r*1000000000+u2:Nat):Int):=rfl
  simp only[go_sem,ya,yj,CF,H3,show ¬(1000000000:Int)<=(t:Int) by lia,B3,wrapN (n:=n-2) (by lia),ss,em,wrapN (n:=m) (by lia),HZ,wrapN YI,M8,wrapN (n:=pre.length+n) (by lia),YH,wrapN (n:=pre.length+(n-2)) (by lia),dd 1 0 (show pre.length+(n-2)<M by lia),yd,AS,DH,wrapN YJ,show ¬((r*1000000000+u2:Nat):Int)<(m:Int) from fun e=>Nat.not_lt_of_le W3 (tI.1 e)];exact⟨_,_,rfl,by simp,_,_,t,rfl,.inl ⟨rfl,rfl⟩,rfl,ma,hQ,ayb⟩
def ayc(h:Has P L 301 BH){w:AV}{x:List Int}{f:Int}(hw:bk w vs){n v1 v2 u0 u1 u2 M:Nat}(hl:gQ x vs n v1 v2 u0 u1 u2)(hM:M=pre.length+x.length+post.length)(M7:M<=50000000000):
  ∃t:Nat,js P L (D P L) (H3 qs (pre++x++post) f) 3 301 [.ay 1 0 M,w,aa pre.length]=F5 (aa t,H3 qs (pre++x++post) f,3)/\t<1000000000/\dv x/dv vs<=t/\t<=dv x/dv vs+1:=by
 have cE:=hl.n2;have sf:=hl.nb;have hlx:=hl.lx;have AT:below 3 w:=nF hw.pu;have Hr:=hl.MR;have aAq:=hl.u0W;have Qy:=hl.MS;have nd:=hl.pos;have fg:=sX hw (i:=n-1) (by have:=hl.lv;lia)
 rw[hl.dY] at fg;have DK:=An (l:=pre++x++post) (o:=pre.length+n) (by rw[p8];lia)
 rw[CK (by lia),hl.h0] at DK;have DL:=An (l:=pre++x++post) (o:=pre.length+(n-1)) (by rw[p8];lia)
 rw[CK (by lia),hl.h1] at DL;have su:(n:Int)-1=((n-1:Nat):Int):=by lia
 have M8:(pre.length:Int)+(n:Int)=((pre.length+n:Nat):Int):=rfl;have pn1:((pre.length+n:Nat):Int)-1=((pre.length+(n-1):Nat):Int):=by lia
 obtain⟨m,hm⟩:∃m,m=u0*1000000000+u1:=⟨_,rfl⟩;have em:(u0:Int)*1000000000=((u0*1000000000:Nat):Int):=by lia
 have em2:((u0*1000000000:Nat):Int)+(u1:Int)=(m:Int):=by lia
 have fR:=xT m v1;have oZ:=xD m nd;have O2:=hl.first;rw[<-hm] at O2;have aFD:m/v1<=m:=vD _ _;have oq:IntKind.wrap .i64 ((m:Int).tdiv (v1:Int))=((m/v1:Nat):Int):=by
  rw[wg (by lia),<-Int.natCast_ediv,wrapN (by lia)]
 have or':(m:Int).tmod (v1:Int)=((m%v1:Nat):Int):=by rw[we (by lia),<-Int.natCast_emod]
 rw[xA] at fR;generalize m/v1=q0 at*
 generalize m%v1=r0 at*
 have jY:∃ex tm t,D P L BH.body ⟨fG 0 [.ay 1 0 M,w,aa pre.length],H3 qs (pre++x++post) f,3,3⟩=F5 (ex,⟨tm,H3 qs (pre++x++post) f,3,3⟩)/\(ex=.normal\/ex=.ret)/\aj tm 6=aa (t:Nat)/\t<1000000000/\dv x/dv vs<=t/\t<=dv x/dv vs+1:=by
  simp only[go_sem,ya,yj,BH,H3,hw.len,hl.lv,M8,wrapN (n:=pre.length+n) (by lia),dd 1 0 (show pre.length+n<M by lia),yd,DK,em,wrapN (n:=u0*1000000000) (by lia),pn1,wrapN (n:=pre.length+(n-1)) (by lia),dd 1 0 (show pre.length+(n-1)<M by lia),DL,em2,wrapN (n:=m) (by lia),su,wrapN (n:=n-1) (by lia),fg,fH _ _ _ (show (v1:Int)≠0 by lia),eL _ _ _ (show (v1:Int)≠0 by lia),oq,or'];generalize om:D P L (.loop _ CF) _=qq;obtain⟨ex,s,rfl,tm,ct,t,rfl,zd,rfl,g1,g2,g3⟩:=bQ om (arX (P:=P) (L:=L) (qs:=qs) (f:=f) hw hl hM M7 q0) ⟨q0,r0,by
   rw[Ok (by simp only[go_sem,ya,yq,nO,oN,nK,nH,AT,vU]) (by simp only[go_sem,ya,yb,yq,jL hw.pu])]
   simp only[go_sem,ya],by lia,by lia,O2,rfl⟩
  rcases zd with ⟨rfl,h9⟩ | ⟨rfl,h6⟩
  .simp only [go_sem,yq,H3,Ok,nO,nK,nH,h9,and_self];exact⟨_,_,t,rfl,.inr rfl,rfl,g1,g2,g3⟩
  .simp only [go_sem];exact⟨_,_,t,rfl,.inr rfl,h6,g1,g2,g3⟩
 have⟨ex,tm,t,g1,g2,g3,g4,g5,g6⟩:=jY;exact⟨t,J3 h g1 g2 (by show jo _ [RV.t 6]=_;rw[Wo,Vw,g3]),g4,g5,g6⟩
end
end
end VE
end
section
namespace VE
open Go (IntKind)
section
variable {p t v x z:Int}{post pre qs vs y:List Int}{n:Nat}
def aAr{bo:Int}(ht:0<=t/\t<1000000000)(hv:0<=v/\v<1000000000)(hb:0<=bo/\bo<1000000000):0<=t*v/\t*v<=999999998000000001/\0<=t*v+bo/\t*v+bo<=999999999000000000:=by
 have h1:=yab ht.1 hv.1;have h2:=ycp (show t<=999999999 by lia) (show v<=999999999 by lia) hv.1 (by decide)
 lia
def aAs(hx:0<=x/\x<1000000000)(hp:0<=p/\p<=999999999000000000):
  (x-p.tmod 1000000000<0->0<=x-p.tmod 1000000000+1000000000/\x-p.tmod 1000000000+1000000000<1000000000/\0<=p.tdiv 1000000000+1/\p.tdiv 1000000000+1<1000000000/\x-p.tmod 1000000000+1000000000+p=x+1000000000*(p.tdiv 1000000000+1))/\
  (¬x-p.tmod 1000000000<0->x-p.tmod 1000000000<1000000000/\0<=p.tdiv 1000000000/\p.tdiv 1000000000<1000000000/\x-p.tmod 1000000000+p=x+1000000000*p.tdiv 1000000000):=by grind
def UC{l:List Int}(h:dg l){i:Nat}(hz:0<=z/\z<1000000000):dg (l.set i z):=OX h hz
def arY{b q bo B4 X Y S:Int}(h2:z+(q*v+bo)=x+b*B4)(h3:Y+q*X=S+p*bo):(Y+p*(z-x))+q*(X+p*v)=S+p*b*B4:=by grind
section
variable {P:aF}{L:Lib}
def arZ{w:AV}{x:List Int}{f:Int}(hw:bk w vs){M m:Nat}(lv:vs.length=n)(hM:M=pre.length+(n+1)+post.length)(M7:M<=50000000000)(gv:dg vs)(ht:0<=t/\t<1000000000):
  ew P L [8,9,10,11,12,13,14,15,16] GH (fun k s=>∃(i:Nat) (bo:Int) (y:List Int),s=⟨[(8,.ay 0 0 1),(9,w),(10,aa n),(11,.ay 1 0 M),(12,.ay 2 0 m),(13,aa pre.length),(14,aa t),(15,aa bo),(16,aa i)],H3 qs (pre++y++post) f,3,0⟩/\i+k=n/\y.length=n+1/\dg y/\(0<=bo/\bo<1000000000)/\
    sv y+t*sv (vs.take i)=sv x+1000000000^i*bo) (fun ex s'=>∃tm bo y,s'=⟨tm,H3 qs (pre++y++post) f,3,0⟩/\ex=.exit 4/\aj tm 8=.ay 0 0 1/\aj tm 9=w/\aj tm 10=aa n/\aj tm 11=.ay 1 0 M/\aj tm 12=.ay 2 0 m/\aj tm 13=aa pre.length/\aj tm 14=aa t/\aj tm 15=aa bo/\y.length=n+1/\dg y/\(0<=bo/\bo<1000000000)/\
    sv y+t*sv vs=sv x+1000000000^n*bo):=by
 apply eE;rintro k s ⟨i,bo,y,rfl,hk,ly,gy,kz,aP⟩;by_cases hi:i<n
 .left
  have zJ:=je gv i;have sA:=je gy i;have ev:=sX hw (i:=i) (by lia);have ey:=An (l:=pre++y++post) (o:=pre.length+i) (by rw[p8];lia)
  rw[CK (by lia)] at ey;have fa:=OL (l:=vs) i;obtain⟨a,ha⟩:∃a,a=vs.getD i 0:=⟨_,rfl⟩;obtain⟨d,hd⟩:∃d,d=y.getD i 0:=⟨_,rfl⟩;rw[<-ha] at zJ ev fa;rw[<-hd] at sA ey;have⟨p1,p2,p3,p4⟩:=aAr ht zJ kz;have⟨s1,s2⟩:=aAs sA ⟨p3,p4⟩;have eN:(i:Int)+(pre.length:Int)=((pre.length+i:Nat):Int):=by lia
  have aR:=fun (hp:Hp) (ct:Nat) (z:Int)=>DV (hp:=hp) (ct:=ct) (id:=1) (v:=z) (ex:=ydp) (l:=pre++y++post) (o:=pre.length+i) (by rw[p8];lia)
  have qu:=fun z=>O5 (pre:=pre) (x:=y) (post:=post) (i:=i) z (by lia)
  have aU:=fun z=>GR (l:=y) (i:=i) (x:=z) (by lia)
  rw[<-hd] at aU;obtain⟨pr,qI⟩:∃pr,pr=t*a+bo:=⟨_,rfl⟩;obtain⟨dm,fR⟩:∃dm,pr.tmod 1000000000=dm:=⟨_,rfl⟩;obtain⟨dq,FR⟩:∃dq,pr.tdiv 1000000000=dq:=⟨_,rfl⟩;have aFE:0<=dm/\dm<1000000000:=by rw[<-fR,we (by lia)];lia
  have aFF:0<=dq/\dq<1000000000:=by rw[<-FR,wg (by lia)];lia
  rw[<-qI,fR,FR] at s1 s2;have key:∀z B4,z+(t*a+bo)=d+1000000000*B4->sv (y.set i z)+t*sv (vs.take (i+1))=sv x+1000000000^(i+1)*B4:=fun z B4 h=>by
   rw[aU,fa,yaw];exact arY h aP
  rw[<-qI] at key;by_cases gA:d-dm<0
  .have ⟨q1,q2,q3,q4,q5⟩:=s1 gA;have kk:=key _ _ q5;obtain⟨dr,kj⟩:∃dr,d-dm=dr:=⟨_,rfl⟩;rw[kj] at gA kk q1 q2
   simp only[go_sem,ya,yj,GH,H3,show (i:Int)<(n:Int) by lia,ev,wrap64 (n:=t*a) (by lia) (by lia),<-qI,wrap64 (n:=pr) (by lia) (by lia),eN,wrapN (n:=pre.length+i) (by lia),dd 1 0 (show pre.length+i<M by lia),yd,ey,eL _ _ _ (show (1000000000:Int)≠0 by decide),fH _ _ _ (show (1000000000:Int)≠0 by decide),fR,FR,kj,wrap64 (n:=dr) (by lia) (by lia),wrap64 (n:=dq) (by lia) (by lia),gA,wrap64 (n:=dr+1000000000) (by lia) (by lia),wrap64 (n:=dq+1) (by lia) (by lia),aR,qu];refine⟨_,k-1,rfl,by lia,i+1,dq+1,y.set i (dr+1000000000),?_,by lia,by simp[ly],UC gy ⟨q1,q2⟩,⟨q3,q4⟩,kk⟩;rw[wrap64 (by lia) (by lia)];simp only[go_sem,ya,yb,az,av hw.pu]<;>rfl
  .have ⟨q2,q3,q4,q5⟩:=s2 gA;have kk:=key _ _ q5;obtain⟨dr,kj⟩:∃dr,d-dm=dr:=⟨_,rfl⟩;rw[kj] at gA kk q2
   simp only[go_sem,ya,yj,GH,H3,show (i:Int)<(n:Int) by lia,ev,wrap64 (n:=t*a) (by lia) (by lia),<-qI,wrap64 (n:=pr) (by lia) (by lia),eN,wrapN (n:=pre.length+i) (by lia),dd 1 0 (show pre.length+i<M by lia),yd,ey,eL _ _ _ (show (1000000000:Int)≠0 by decide),fH _ _ _ (show (1000000000:Int)≠0 by decide),fR,FR,kj,wrap64 (n:=dr) (by lia) (by lia),wrap64 (n:=dq) (by lia) (by lia),gA,aR,qu];refine⟨_,k-1,rfl,by lia,i+1,dq,y.set i dr,?_,by lia,by simp[ly],UC gy ⟨by lia,q2⟩,⟨q3,q4⟩,kk⟩;rw[wrap64 (by lia) (by lia)];simp only[go_sem,ya,yb,az,av hw.pu]<;>rfl
 .right
  have:i=n:=by lia
  subst this;rw[yK (by lia)] at aP;simp only[go_sem,ya,GH,H3,show ¬(i:Int)<(i:Int) by lia];exact⟨_,_,rfl,by simp,_,bo,y,rfl,rfl,rfl,rfl,rfl,rfl,rfl,rfl,rfl,rfl,ly,gy,kz,aP⟩
def ar0{b c c' X Y S:Int}(h2:z+b*c'=x+v+c)(h3:Y+p*c=S+X):(Y+p*(z-x))+p*b*c'=S+(X+p*v):=by grind
def ar1{w:AV}{y0:List Int}{f:Int}(hw:bk w vs){M m:Nat}(lv:vs.length=n)(hM:M=pre.length+(n+1)+post.length)(M7:M<=50000000000)(gv:dg vs){top:Int}:
  ew P L [8,9,10,11,12,13,14,19,20] Kw (fun k s=>∃(i:Nat) (c:Int) (y:List Int),s=⟨[(8,.ay 0 0 1),(9,w),(10,aa n),(11,.ay 1 0 M),(12,.ay 2 0 m),(13,aa pre.length),(14,aa t),(19,aa c),(20,aa i)],H3 qs (pre++y++post) f,3,0⟩/\i+k=n/\y.length=n+1/\dg (y.take n)/\y.getD n 0=top/\(0<=c/\c<=1)/\
    sv y+1000000000^i*c=sv y0+sv (vs.take i)) (fun ex s'=>∃tm c y,s'=⟨tm,H3 qs (pre++y++post) f,3,0⟩/\ex=.exit 6/\aj tm 8=.ay 0 0 1/\aj tm 9=w/\aj tm 10=aa n/\aj tm 11=.ay 1 0 M/\aj tm 12=.ay 2 0 m/\aj tm 13=aa pre.length/\aj tm 14=aa t/\aj tm 19=aa c/\y.length=n+1/\dg (y.take n)/\y.getD n 0=top/\(0<=c/\c<=1)/\
    sv y+1000000000^n*c=sv y0+sv vs):=by
 apply eE;rintro k s ⟨i,c,y,rfl,hk,ly,gy,qv,hc,aP⟩;by_cases hi:i<n
 .left
  have zJ:=je gv i;have sA:=je gy i;have e0:(y.take n).getD i 0=y.getD i 0:=by
   simp[yS,hi]
  rw[e0] at sA;have ev:=sX hw (i:=i) (by lia);have ey:=An (l:=pre++y++post) (o:=pre.length+i) (by rw[p8];lia)
  rw[CK (by lia)] at ey;have fa:=OL (l:=vs) i;obtain⟨a,ha⟩:∃a,a=vs.getD i 0:=⟨_,rfl⟩;obtain⟨d,hd⟩:∃d,d=y.getD i 0:=⟨_,rfl⟩;rw[<-ha] at zJ ev fa;rw[<-hd] at sA ey;have eN:(i:Int)+(pre.length:Int)=((pre.length+i:Nat):Int):=by lia
  have aU:=fun z=>GR (l:=y) (i:=i) (x:=z) (by lia)
  rw[<-hd] at aU;have oZ:(d+a+c).tmod 1000000000=(d+a+c)%1000000000:=we (by lia);have hdiv:(d+a+c).tdiv 1000000000=(d+a+c)/1000000000:=wg (by lia);obtain⟨z,hz⟩:∃z,z=(d+a+c)%1000000000:=⟨_,rfl⟩;obtain⟨c',kS⟩:∃z,z=(d+a+c)/1000000000:=⟨_,rfl⟩;have Xu:z+1000000000*c'=d+a+c:=by lia
  rw[<-hz] at oZ;rw[<-kS] at hdiv;have aR:=fun (hp:Hp) (ct:Nat)=>DV (hp:=hp) (ct:=ct) (id:=1) (v:=z) (ex:=ydp) (l:=pre++y++post) (o:=pre.length+i) (by rw[p8];lia)
  have qu:=O5 (pre:=pre) (x:=y) (post:=post) (i:=i) z (by lia)
  simp only[go_sem,ya,yj,Kw,H3,show (i:Int)<(n:Int) by lia,ev,eN,wrapN (n:=pre.length+i) (by lia),dd 1 0 (show pre.length+i<M by lia),yd,ey,wrap64 (n:=d+a) (by lia) (by lia),wrap64 (n:=d+a+c) (by lia) (by lia),eL _ _ _ (show (1000000000:Int)≠0 by decide),fH _ _ _ (show (1000000000:Int)≠0 by decide),oZ,hdiv,wrap64 (n:=c') (by lia) (by lia),aR,qu];refine⟨_,k-1,rfl,by lia,i+1,c',y.set i z,?_,by lia,by simp[ly],?_,by rw[aeh (by lia)];exact qv,⟨by lia,by lia⟩,?_⟩
  .rw [wrap64 (by lia) (by lia)];simp only[go_sem,ya,yb,az,av hw.pu]<;>rfl
  .rw [ybb];exact UC gy ⟨by lia,by lia⟩
  .rw [aU,fa,yaw];exact ar0 Xu aP
 .right
  have:i=n:=by lia
  subst this;rw[yK (show vs.length<=i by lia)] at aP;simp only[go_sem,ya,Kw,H3,show ¬(i:Int)<(i:Int) by lia];exact⟨_,_,rfl,by simp,_,c,y,rfl,rfl,rfl,rfl,rfl,rfl,rfl,rfl,rfl,rfl,ly,gy,qv,hc,aP⟩
def ar2{A V t:Nat}(hV:0<V)(ly:y.length=n+1)(gy:dg (y.take n))(h:sv y=(A:Int)-t*V)(h1:A/V<=t)(h2:t<=A/V+1):
  (¬y.getD n 0<0->t=A/V/\sv y=((A%V:Nat):Int))/\(y.getD n 0<0->t=A/V+1/\sv y+V=((A%V:Nat):Int)):=by
 have fR:=xT A V;have hm:=xD A hV;have fa:=OL (l:=y) n;rw[yK (by lia),Bz gy] at fa;have L3:=kZ gy;have hp:(0:Int)<1000000000^n:=ydf (by decide);generalize y.getD n 0=top at*
 generalize A/V=Q at*
 have hq:t=Q\/t=Q+1:=by lia
 constructor
 .intro h0;have h3:0<=(1000000000:Int)^n*top:=yab (tJ hp) (by lia);rcases hq with rfl | rfl
  .grind
  .grind
 .intro h0;have h3:(1000000000:Int)^n*top<=-(1000000000^n):=by
   have:=vP (show top<=-1 by lia) (tJ hp)
   grind
  rcases hq with rfl | rfl
  .grind
  .grind
def acj(ly:y.length=n+1)(gy:dg (y.take n))(h0:0<=sv y)(h1:sv y<1000000000^n):y.getD n 0=0/\dg y/\sv y=dv y:=by
 have fa:=OL (l:=y) n;rw[yK (by lia),Bz gy] at fa;have L3:=kZ gy;rw[yR,xF (by lia)] at L3;have hp:(0:Int)<1000000000^n:=ydf (by decide);have G2:((1000000000^n:Nat):Int)=(1000000000:Int)^n:=by simp
 have aFn:(dv (y.take n):Int)<1000000000^n:=by lia
 have ht:y.getD n 0=0:=by
  generalize y.getD n 0=top at*
  rcases yav top 0 with h | h | h
  .have:=vP (show top<=-1 by lia) (tJ hp)
   grind
  .grind
  .have:=vP (show 1<=top by lia) (tJ hp)
   grind
 have hg:dg y:=by
  have e:y=y.take n++[0]:=by
   have h1:y=y.take n++y.drop n:=(wb n y).symm;have h2:y.drop n=[0]:=by
    rw[yW (by lia),xh (by lia)]
    grind
   grind
  rw[e];exact ja.2 ⟨gy,mR.2 ⟨by decide,by decide⟩⟩
 exact⟨ht,hg,Bz hg⟩
end
end
end VE
end
section
namespace VE
open Go (IntKind)
def ar3{l:List Int}{i:Nat}(h:i<l.length):dv (l.drop i)=(l.getD i 0).toNat+1000000000*dv (l.drop (i+1)):=by
 rw[yW h]
 have:l[i]=l.getD i 0:=by simp_all
 rw[this];rfl
def TZ(l:List Int)(i:Nat)(h:i<=l.length):dv l=dv (l.take i)+1000000000^i*dv (l.drop i):=by
 conv=>lhs;rw[<-wb i l]
 rw[oD,yR,xF h]
def ar4{sx sy sV:Int}{p:Int}{bo t:Int}{yn z:Int}{szy:Int}(h1:sy+t*sV=sx+p*bo)(h2:szy=sy+p*(z-yn))(h3:z=yn-bo):szy=sx-t*sV:=by grind
section
variable {P:aF}{L:Lib}
def ar5(zg:Has P L 301 BH){w:AV}{vs:List Int}{f:Int}(hw:bk w vs)(gv:dg vs){n M m:Nat}(lv:vs.length=n)(cE:2<=n)(hnM:n<M)(M7:M<=20000000000)(hm:m=M-n)(dY:0<vs.getD (n-1) 0){U0:Nat}:
  ew P L [8,9,10,11,12,13] Kx (fun k st=>∃(j:Nat) (us qs:List Int),st=⟨[(8,.ay 0 0 1),(9,w),(10,aa n),(11,.ay 1 0 M),(12,.ay 2 0 m),(13,aa ((j:Int)-1))],H3 qs us f,3,0⟩/\j=k/\j<=m/\us.length=M/\qs.length=m/\dg us/\dg qs/\(∀i,i<j->qs.getD i 0=0)/\
    dv us+dv qs*dv vs=U0/\dv (us.drop j)<dv vs) (fun ex st'=>∃tm us qs,st'=⟨tm,H3 qs us f,3,0⟩/\ex=.exit 2/\aj tm 8=.ay 0 0 1/\aj tm 10=aa n/\aj tm 11=.ay 1 0 M/\aj tm 12=.ay 2 0 m/\us.length=M/\qs.length=m/\dg us/\dg qs/\
    dv us+dv qs*dv vs=U0/\dv us<dv vs):=by
 apply eE;rintro k st ⟨j,us,qs,rfl,rfl,hj,lu,lq,gu,gq,hz,aP,qv⟩
 cases j with
 | zero=>
  right
  simp only[go_sem,ya,Kx,H3,show ¬(0:Int)<=((0:Nat):Int)-1 by lia];exact⟨_,_,rfl,by simp,_,us,qs,rfl,rfl,rfl,rfl,rfl,rfl,lu,lq,gu,gq,aP,by simpa using qv⟩
 | succ j=>
  left
  obtain⟨pre,eN⟩:∃p,p=us.take j:=⟨_,rfl⟩;obtain⟨x,hx⟩:∃p,p=(us.drop j).take (n+1):=⟨_,rfl⟩;obtain⟨post,fT⟩:∃p,p=us.drop (j+(n+1)):=⟨_,rfl⟩;have lp:pre.length=j:=by rw[eN,yR];lia
  have lx:x.length=n+1:=by rw[hx,yR,xU];lia
  have lpo:M=pre.length+(n+1)+post.length:=by rw[lp,fT,xU];lia
  have lI:us=pre++x++post:=by
   rw[eN,hx,fT,<-vQ,xK,wb,wb]
  have gpo:dg post:=by
   have:=gu;rw[lI] at this;exact (ja.1 this).2
  have gpx:=by have:=gu;rw[lI] at this;exact (ja.1 this).1
  have gx:dg x:=(ja.1 gpx).2;have Wy:dg pre:=(ja.1 gpx).1;have hA:=ar3 (l:=us) (i:=j) (by lia);have hgj:=je gu j;have Yo:us.drop j=x++post:=by rw[fT,hx,<-vQ,wb]
  have B5:dv (us.drop j)=dv x+1000000000^(n+1)*dv post:=by rw[Yo,oD,lx]
  have MV:=kZ gv;rw[lv] at MV;have aM:dv (us.drop j)<1000000000*dv vs:=by lia
  have hp0:dv post=0:=by
   rcases xx (dv post) with e | e
   .exact e
   .have h1:=xa (1000000000^(n+1)) e;rw[yj,xq] at h1;rw[xq] at B5
    lia
  rw[hp0,xH,yZ] at B5;have M9:=fun (l:List Int) (hl:dg l) (i:Nat)=>je hl i
  obtain⟨v1,fg⟩:∃v:Nat,vs.getD (n-1) 0=v:=⟨(vs.getD (n-1) 0).toNat,by have:=M9 vs gv (n-1);lia⟩
  obtain⟨v2,ss⟩:∃v:Nat,vs.getD (n-2) 0=v:=⟨(vs.getD (n-2) 0).toNat,by have:=M9 vs gv (n-2);lia⟩
  obtain⟨u0,DK⟩:∃v:Nat,x.getD n 0=v:=⟨(x.getD n 0).toNat,by have:=M9 x gx n;lia⟩
  obtain⟨u1,DL⟩:∃v:Nat,x.getD (n-1) 0=v:=⟨(x.getD (n-1) 0).toNat,by have:=M9 x gx (n-1);lia⟩
  obtain⟨u2,AS⟩:∃v:Nat,x.getD (n-2) 0=v:=⟨(x.getD (n-2) 0).toNat,by have:=M9 x gx (n-2);lia⟩
  have hl:gQ x vs n v1 v2 u0 u1 u2:=⟨cE,by lia,lx,lv,gx,gv,fg,ss,DK,DL,AS,by lia,by rw[<-B5];exact aM⟩
  have Qz:=hl.digit;have zH:0<dv vs:=by lia
  have oZ:=xD (dv x) zH;have⟨t,e1,ht1,XM,ht3⟩:=ayc (P:=P) (L:=L) zg hw hl (pre:=pre) (post:=post) (qs:=qs) (f:=f) (M:=M) (by lia) (by lia);rw[<-lI,lp] at e1;have Yq:dv us=dv pre+1000000000^j*dv x:=by
   have:=TZ us j (by lia)
   rw[B5,<-eN] at this;exact this
  have Wz:∀y,dv (pre++y++post)=dv pre+1000000000^j*dv y:=fun y=>by
   rw[xK,oD,oD,hp0,xH,yZ,lp]
  have jX:=aa4 (b:=0) Yq aP;have AT:below 3 w:=nF hw.pu;have aU:=GR (l:=qs) (i:=j) (x:=((dv x/dv vs:Nat):Int)) (by lia);have gq':dg (qs.set j ((dv x/dv vs:Nat):Int)):=OX gq ⟨yaR _,tI.2 Qz⟩;rw[hz j (by lia),Int.sub_zero,Bz gq,Bz gq'] at aU;have aU:dv (qs.set j ((dv x/dv vs:Nat):Int))=dv qs+1000000000^j*(dv x/dv vs):=by
   have G2:((1000000000^j*(dv x/dv vs):Nat):Int)=(1000000000:Int)^j*((dv x/dv vs:Nat):Int):=by rw[xZ];simp
   rw[<-G2] at aU;exact yaF (by rw[yby,yby,aU,tr])
  have fin:∀(s':St) (x':List Int),bE [8,9,10,11,12,13] s'=⟨[(8,.ay 0 0 1),(9,w),(10,aa n),(11,.ay 1 0 M),(12,.ay 2 0 m),(13,aa ((j:Int)-1))],H3 (qs.set j ((dv x/dv vs:Nat):Int)) (pre++x'++post) f,3,0⟩->x'.length=n+1->dg x'->sv x'=((dv x%dv vs:Nat):Int)->
    ∃(j':Nat) (us qs:List Int),bE [8,9,10,11,12,13] s'=⟨[(8,.ay 0 0 1),(9,w),(10,aa n),(11,.ay 1 0 M),(12,.ay 2 0 m),(13,aa ((j':Int)-1))],H3 qs us f,3,0⟩/\j'=j/\j'<=m/\us.length=M/\qs.length=m/\dg us/\dg qs/\(∀i,i<j'->qs.getD i 0=0)/\dv us+dv qs*dv vs=U0/\dv (us.drop j')<dv vs:=fun s' x' hc Yp RP MY=>by
   have ahj:dv x'=dv x%dv vs:=by rw[Bz RP] at MY;exact yaF MY
   refine⟨j,_,_,hc,rfl,by lia,by rw[p8,Yp];lia,by simp[lq],ja.2 ⟨ja.2 ⟨Wy,RP⟩,gpo⟩,gq',fun i hi=>by rw[aeh (by lia)];exact hz i (by lia),?_,?_⟩
   .rw [Wz,ahj,aU];exact jX
   .rw [xK,List.drop_left' lp,oD,hp0,xH,yZ,ahj];exact oZ
  have ahk:=fun (z:Int) (hp:Hp) (ct:Nat)=>DV (hp:=hp) (ct:=ct) (id:=2) (v:=z) (ex:=ydo) (l:=qs) (o:=j) (by lia)
  have svx:=Bz gx;have svv:=Bz gv;simp only[H3] at e1;simp only[go_sem,ya,Kx,H3,show ((j+1:Nat):Int)-1=(j:Int) by lia,show (0:Int)<=(j:Int) by lia,afC,e1];generalize om:D P L (.loop _ GH) _=qq;obtain⟨ex,s,rfl,tm,bo,y,rfl,rfl,t8,t9,t10,t11,t12,t13,t14,t15,ly,gy,kz,hv⟩:=bQ om (arZ (P:=P) (L:=L) (x:=x) (pre:=pre) (post:=post) (qs:=qs) (f:=f) (m:=m) (M:=M) hw lv lpo (by lia) gv (t:=t) (by lia) n) ⟨0,0,x,by
   rw[lI,lp]
   simp only[go_sem,ya,yb,az,av hw.pu]<;>rfl,by lia,lx,gx,by lia,by simp[sv]⟩
  rw[lp] at t13;have hyn:=je gy n;have YL:=An (l:=pre++y++post) (o:=pre.length+n) (by rw[p8];lia)
  rw[CK (by lia),lp] at YL;obtain⟨z,YM⟩:∃z,z=y.getD n 0-bo:=⟨_,rfl⟩;have G8:=fun (hp:Hp) (ct:Nat)=>DV (hp:=hp) (ct:=ct) (id:=1) (v:=z) (ex:=ydp) (l:=pre++y++post) (o:=j+n) (by rw[p8];lia)
  have qu:=O5 (pre:=pre) (x:=y) (post:=post) (i:=n) z (by lia);rw[lp] at qu;rw[qu] at G8;have pk:=GR (l:=y) (i:=n) (x:=z) (by lia);have PU:=ar4 hv pk YM;have DJ:(y.set n z).length=n+1:=by simp[ly]
  have FN:dg ((y.set n z).take n):=by
   have:(y.set n z).take n=y.take n:=by rw[ybb,yaZ (by simp;lia)]
   rw[this];exact El gy n
  rw[svx,svv] at PU;have⟨s0,s1⟩:=ar2 zH DJ FN PU XM ht3;have eg:(y.set n z).getD n 0=z:=ant (by lia);rw[eg] at s0 s1;have YN:=An (l:=pre++y.set n z++post) (o:=pre.length+n) (by rw[p8];lia)
  rw[CK (by lia),lp,eg] at YN;generalize y.set n z=y1 at*
  have hpn:((10^9:Int))=1000000000:=by decide
  by_cases gA:z<0
  .have ⟨f1,f2⟩:=s1 gA
   simp only[go_sem,ya,yb,yj,az,av hw.pu,t8,t9,t10,t11,t12,t13,t14,t15,show (j:Int)+(n:Int)=((j+n:Nat):Int) from rfl,wrapN (n:=j+n) (by lia),dd 1 0 (show j+n<M by lia),yd,YL,<-YM,wrap64 (n:=z) (by lia) (by lia),G8,YN,gA];generalize Fh:D P L (.loop _ Kw) _=Yj;obtain⟨ex,s,rfl,lQ,c,y2,rfl,rfl,t8,t9,t10,t11,t12,t13,t14,t19,Yl,RN,afL,hc,dM⟩:=bQ Fh (ar1 (P:=P) (L:=L) (y0:=y1) (pre:=pre) (post:=post) (qs:=qs) (f:=f) (m:=m) (M:=M) (t:=(t:Int)-1) (top:=z) hw lv lpo (by lia) gv n) ⟨0,0,y1,by
    rw[lp,wrap64 (n:=(t:Int)-1) (by lia) (by lia)]
    simp only[go_sem,ya,yb,az,av hw.pu]<;>rfl,by lia,DJ,FN,eg,by lia,by simp[sv]⟩
   rw[lp] at t13;have ahl:=An (l:=pre++y2++post) (o:=pre.length+n) (by rw[p8];lia)
   rw[CK (by lia),lp,afL] at ahl;have Qx:=fun (hp:Hp) (ct:Nat)=>DV (hp:=hp) (ct:=ct) (id:=1) (v:=z+c) (ex:=ydp) (l:=pre++y2++post) (o:=j+n) (by rw[p8];lia)
   have PC:=O5 (pre:=pre) (x:=y2) (post:=post) (i:=n) (z+c) (by lia);rw[lp] at PC;rw[PC] at Qx;have po:=GR (l:=y2) (i:=n) (x:=z+c) (by lia);rw[afL,show z+c-z=c by lia,dM,svv,f2] at po;have MW:(y2.set n (z+c)).length=n+1:=by simp[Yl]
   have RO:dg ((y2.set n (z+c)).take n):=by
    have:(y2.set n (z+c)).take n=y2.take n:=by rw[ybb,yaZ (by simp;lia)]
    rw[this];exact RN
   have YO:((dv x%dv vs:Nat):Int)<1000000000^n:=by
    have G2:((1000000000^n:Nat):Int)=(1000000000:Int)^n:=by simp
    rw[<-G2];lia
   have⟨g1,g2,g3⟩:=acj MW RO (by rw[po];lia) (by rw[po];exact YO)
   generalize y2.set n (z+c)=y3 at*
   have ft:(t:Int)-1=((dv x/dv vs:Nat):Int):=by rw[f1];lia
   simp only[go_sem,ya,yb,yj,az,av hw.pu,t8,t9,t10,t11,t12,t13,t14,t19,show (j:Int)+(n:Int)=((j+n:Nat):Int) from rfl,wrapN (n:=j+n) (by lia),dd 1 0 (show j+n<M by lia),yd,ahl,wrap64 (n:=z+c) (by lia) (by lia),Qx,dd 2 0 (show j<m by lia),ahk];rw[ft];refine⟨_,j,rfl,by lia,fin _ y3 ?_ MW g2 po⟩;rw[wrap64 (by lia) (by lia)];simp only[go_sem,ya,yb,az,av hw.pu]<;>rfl
  .have ⟨f1,f2⟩:=s0 gA;have YO:((dv x%dv vs:Nat):Int)<1000000000^n:=by
    have G2:((1000000000^n:Nat):Int)=(1000000000:Int)^n:=by simp
    rw[<-G2];lia
   have⟨g1,g2,g3⟩:=acj DJ FN (by rw[f2];lia) (by rw[f2];exact YO)
   simp only[go_sem,ya,yb,yj,az,av hw.pu,t8,t9,t10,t11,t12,t13,t14,t15,show (j:Int)+(n:Int)=((j+n:Nat):Int) from rfl,wrapN (n:=j+n) (by lia),dd 1 0 (show j+n<M by lia),yd,YL,<-YM,wrap64 (n:=z) (by lia) (by lia),G8,YN,gA,dd 2 0 (show j<m by lia),ahk];rw[f1];refine⟨_,j,rfl,by lia,fin _ y1 ?_ DJ g2 f2⟩;rw[wrap64 (by lia) (by lia)];simp only[go_sem,ya,yb,az,av hw.pu]<;>rfl
end
end VE
end
section
namespace VE
open Go (IntKind)
section
variable {P:aF}{L:Lib}
def avQ(h:Has P L 292 BG){n:Nat}(hn:n<1000000000):ah P L 292 [aa n,aa 9] (.str (jC 9 n)):=by
 have key:=jO P L [0,1,5] pZ
  (fun k st=>∃(m:Nat) (s:List Nat),st=⟨[(0,aa m),(1,aa 9),(5,.str s)],[],0,0⟩/\s.length+k=9/\m<10^k/\jC 9 n=jC k m++s)
  (fun ex st=>∃tm ct,st=⟨tm,[],ct,0⟩/\ex=.exit 0/\aj tm 5=.str (jC 9 n)) ?_
 .unfold ah;rw[aG h];simp only[go_sem,BG];generalize hq:D P L (.loop _ pZ) _=q;obtain⟨ex,st,rfl,tm,ct,rfl,rfl,h2⟩:=bQ hq (key 9) ⟨n,[],by simp only[go_sem,ya,az]<;>rfl,rfl,by lia,by simp⟩
  simp only[go_sem,az,h2]
 .rintro k st ⟨m,s,rfl,hk,hm,hs⟩
  cases k with
  | zero=>
   right
   have FQ:m=0:=by simpa using hm
   subst FQ;simp only[go_sem,ya,pZ,show ¬(0:Int)<((0:Nat):Int) by lia,show ¬((s.length:Nat):Int)<9 by lia];refine⟨_,_,rfl,by simp,_,_,rfl,rfl,?_⟩;rw[hs];rfl
  | succ k=>
   left
   have hr:((m:Int)).tmod 10=((m%10:Nat):Int):=by rw[we (by lia)];rfl
   have hq:((m:Int)).tdiv 10=((m/10:Nat):Int):=by rw[wg (by lia)];rfl
   have hd:=Z8 (r:=m%10) (by lia);have Mr:m<10000000000:=yG hm (by simpa using xd (show 0<10 by decide) (show k+1<=10 by lia));have fin:∃s',D P L pZ ⟨[(0,aa m),(1,aa 9),(5,.str s)],[],0,0⟩=F5 (.normal,s')/\bE [0,1,5] s'=⟨[(0,aa (m/10:Nat)),(1,aa 9),(5,.str ([48+m%10]++s))],[],0,0⟩:=by
    by_cases hc:(0:Int)<m
    .simp only [go_sem,ya,yb,pZ,hc,eL _ _ _ (show (10:Int)≠0 by decide),fH _ _ _ (show (10:Int)≠0 by decide),hr,hq,wrapN (n:=m%10+1) (by lia),wrap64 (n:=((m/10:Nat):Int)) (by lia) (by lia),fy,eC,show ((m%10:Nat):Int)+1=((m%10+1:Nat):Int) from rfl,hd,ig (a:=[48+m%10]) (b:=s) (by simp;lia)]
     exact⟨_,rfl,by simp only[go_sem,ya,az]⟩
    .simp only [go_sem,ya,yb,pZ,hc,show ((s.length:Nat):Int)<9 by lia,eL _ _ _ (show (10:Int)≠0 by decide),fH _ _ _ (show (10:Int)≠0 by decide),hr,hq,wrapN (n:=m%10+1) (by lia),wrap64 (n:=((m/10:Nat):Int)) (by lia) (by lia),fy,eC,show ((m%10:Nat):Int)+1=((m%10+1:Nat):Int) from rfl,hd,ig (a:=[48+m%10]) (b:=s) (by simp;lia)]
     exact⟨_,rfl,by simp only[go_sem,ya,az]⟩
   have⟨s',f1,f2⟩:=fin;exact⟨s',k,f1,by lia,m/10,_,f2,by simp;lia,by rw[xq] at hm;lia,by rw[hs];simp[jC]⟩
end
end VE
end
section
namespace VE
open Go (IntKind)
def last_pos{l:List Int}(hd:dg l)(hn:nz l)(h:0<l.length):0<l.getD (l.length-1) 0:=by
 rcases snoc l with rfl | ⟨m,a,rfl⟩
 .grind
 .have e:(m++[a]).getD ((m++[a]).length-1) 0=a:=by simp_all
  have ha:=mR.1 (ja.1 hd).2;by_cases h0:a=0
  .subst h0
   have:=NX m
   have e:=congrArg List.length hn;rw[Jw] at e
   grind
  .lia
section
variable {P:aF}{L:Lib}
def avR(ze:Has P L 292 BG){neg:Bool}{w:AV}{l:List Int}(hw:bk w l)(hd:dg l)(hn:nz l)(hl:l.length<=20000000000):
  ew P L [1,3,4] Ku (fun k s=>∃(j:Nat) (t:List Nat),s=⟨[(1,.ptr 0 0),(3,.str t),(4,aa ((j:Int)-1))],[(0,.cells ydo ydo ydo 2 [.bool neg,w])],1,0⟩/\j=k/\j<l.length/\0<dv (l.drop j)/\t=aA (dv (l.drop j))/\t.length<=9*(l.length-j)) (fun ex s'=>∃tm,s'=⟨tm,[(0,.cells ydo ydo ydo 2 [.bool neg,w])],1,0⟩/\ex=.exit 0/\aj tm 1=.ptr 0 0/\aj tm 3=.str (aA (dv l))/\(aA (dv l)).length<=180000000000):=by
 apply eE;rintro k s ⟨j,t,rfl,rfl,hj,nd,ht,YE⟩
 cases j with
 | zero=>
  right
  rw[yg] at ht;simp only[go_sem,ya,Ku,show ¬(0:Int)<=((0:Nat):Int)-1 by lia];exact⟨_,_,rfl,by simp,_,rfl,rfl,rfl,by rw[<-ht];simp only[go_sem,ya],by rw[<-ht];lia⟩
 | succ i=>
  left
  have hi:i<l.length:=by lia
  obtain⟨x,hx⟩:∃x,x=l.getD i 0:=⟨_,rfl⟩;have e1:=sX hw hi;have gx:=je hd i;rw[<-hx] at e1 gx;obtain⟨m,rfl⟩:∃m:Nat,x=m:=⟨x.toNat,by lia⟩;have e2:=avQ ze (n:=m) (by lia);unfold ah at e2;have hlp:=TW 9 m;have kj:dv (l.drop i)=dv (l.drop (i+1))*10^9+m:=by
   have:l.drop i=(m:Int)::l.drop (i+1):=by
    rw[yW hi,hx];simp[yS,xb hi]
   rw[this];simp only[dv,wi];lia
  have aAt:aA (dv (l.drop i))=t++jC 9 m:=by
   rw[kj,Og 9 _ m nd (by lia),ht]
  simp only[go_sem,ya,Ku,show ((i+1:Nat):Int)-1=(i:Int) by lia,show (0:Int)<=(i:Int) by lia,bg,yd,cO,e1,e2,ig (a:=t) (b:=jC 9 m) (by lia)];refine⟨_,i,rfl,by lia,i,t++jC 9 m,?_,rfl,by lia,by lia,aAt.symm,by simp;lia⟩
  rw[wrap64 (by lia) (by lia)];simp only[go_sem,ya,yb,az]<;>rfl
def ahm(h:Has P L 282 Lt)(ze:Has P L 292 BG){v:AV}{n:Int}{K:Nat}(hK:K<=18000000000)(hv:mf v n)(hn:n.natAbs<1000000000^K):ah P L 282 [v] (.str (bf n))/\(bf n).length<=180000000001:=by
 obtain⟨w,l,rfl,hw,hd,hz,qV⟩:=hv;have hl:=xu (kJ hd hz (by rw[qV];exact hn)) hK
 by_cases h0:l=[]
 .subst h0;have zy:n=0:=by simp[dv] at qV;lia
  subst zy;refine⟨?_,by decide⟩;unfold ah;rw[aG h];simp only[go_sem,ya,yb,Lt,aO,hw.len,hw.pu,hw.one,bg,yd,cO,yI,show ((0:Nat):Int)=(0:Int) from rfl,yN];rfl
 .have nd:0<l.length:=tj.2 h0;obtain⟨x,hx⟩:∃x,x=l.getD (l.length-1) 0:=⟨_,rfl⟩;have e1:=sX hw (show l.length-1<l.length by lia);have gx:=je hd (l.length-1);have gp:=last_pos hd hz nd;rw[<-hx] at e1 gx gp;obtain⟨m,rfl⟩:∃m:Nat,x=m:=⟨x.toNat,by lia⟩;have e2:=Ws ze (n:=m) (by lia);have kj:dv (l.drop (l.length-1))=m:=by
   rw[yW (show l.length-1<l.length by lia),xh (by lia)]
   have:l[l.length-1]=(m:Int):=by rw[hx];simp[yS,xb (show l.length-1<l.length by lia)]
   simp[dv,this]
  have h9:(aA m).length<=9:=zW (k:=8) (by lia);have fin:∀neg:Bool,bW P L (D P L) 282 [.agg [.bool neg,w]]=F5 (.str ((if neg=ydo then [45] else [])++aA (dv l)))/\(aA (dv l)).length<=180000000000:=fun neg=>by
   rw[aG h]
   simp only[go_sem,ya,yb,Lt,aO,hw.len,hw.pu,hw.one,bg,yd,cO,show ¬(l.length:Int)=0 by lia,show (l.length:Int)-1=((l.length-1:Nat):Int) by lia,wrapN (n:=l.length-1) (by lia),e1,e2];generalize hq:D P L (.loop _ Ku) _=q;obtain⟨ex,s,rfl,tm,rfl,rfl,t1,t3,hlen⟩:=bQ hq (avR (P:=P) (L:=L) ze (neg:=neg) hw hd hz (by lia) (l.length-1)) ⟨l.length-1,aA m,by
    rw[show (l.length:Int)-2=((l.length-1:Nat):Int)-1 by lia,wrap64 (by lia) (by lia)]
    simp only[go_sem,ya,yb,az]<;>rfl,rfl,by lia,by rw[kj];lia,by rw[kj],by lia⟩
   refine⟨?_,hlen⟩
   cases neg with
   | true=>
    simp only[go_sem,ya,az,t1,t3,bg,yd,ig (a:=[45]) (b:=aA (dv l)) (by simp;lia),xJ]
   | false=>
    simp only[go_sem,ya,az,t1,t3,bg,yd];rfl
  have⟨f1,f2⟩:=fin (decide (n<0));rw[qV] at f1 f2;simp only[vZ] at f1;rw[pP] at f1;refine⟨f1,?_⟩;rw[<-pP]
  split<;>simp<;>lia
structure Rb(P:aF)(L:Lib):Prop where
 aAu:Has P L 262 Lp
 Fe:Has P L 272 Ls
 ahn:Has P L 274 Qa
 aho:Has P L 275 Qb
 aAv:Has P L 277 E9
 aAw:Has P L 280 qj
 aAx:Has P L 281 We
 ahp:Has P L 282 Lt
 ahq:Has P L 288 Qd
 L5:Has P L 289 Au
 BJ:Has P L 290 Hj
 Wt:Has P L 291 Lv
 ze:Has P L 292 BG
 n8:Has P L 293 C4
 lL:Has P L 294 C5
 W2:Has P L 295 Lw
 qC:Has P L 296 Av
 ahr:Has P L 298 Qe
 rT:Has P L 299 C6
 cZ:Has P L 300 mZ
 pc:Has P L 302 Aw
structure Ras(P:aF)(L:Lib):Prop extends Rb P L where
 ahs:Has P L 264 Lq
 aAy:Has P L 268 Lr
 aAz:Has P L 271 Wc
 aAA:Has P L 276 rO
 W4:Has P L 278 Qc
 aAB:Has P L 279 Hi
 QH:Has P L 297 Lx
end
end VE
end
section
namespace VE
open Go (IntKind)
section
variable {v w:AV}{a b:List Int}
section
variable {P:aF}{L:Lib}
def ar6{vs:List Int}{f:Int}(hv:bk v a)(hw:bk w vs){n:Nat}(la:a.length<=9000000000){A:Nat}:
  ew P L [0,8,9,10,11] Kv (fun k st=>∃us:List Int,st=⟨[(0,v),(8,.ay 0 0 1),(9,w),(10,aa n),(11,.ay 1 0 us.length)],[(1,.cells ydo ydo ydp 1 (us.map aa)),(0,.cells ydp ydo ydo 1 [aa f])],2,0⟩/\us.length+k=a.length+1/\dg us/\dv us=A) (fun ex st'=>∃tm us,st'=⟨tm,[(1,.cells ydo ydo ydp 1 (us.map aa)),(0,.cells ydp ydo ydo 1 [aa f])],2,0⟩/\ex=.exit 0/\aj tm 8=.ay 0 0 1/\aj tm 9=w/\aj tm 10=aa n/\aj tm 11=.ay 1 0 (a.length+1)/\us.length=a.length+1/\dg us/\dv us=A):=by
 apply eE;rintro k st ⟨us,rfl,hk,gu,aP⟩;have ea:((a.length:Nat):Int)+1=((a.length+1:Nat):Int):=rfl;by_cases hi:us.length<a.length+1
 .left
  simp only[go_sem,ya,yb,yi,yj,Kv,hv.len,ea,wrapN (n:=a.length+1) (by lia),show ((us.length:Nat):Int)<((a.length+1:Nat):Int) by lia]
  rw[dS (ex:=ydp) (pu:=ydo) (cs:=us.map aa) rfl (by simp) (by lia) (by lia) (by decide) rfl];refine⟨_,k-1,rfl,by lia,us++[0],?_,by simp;lia,ja.2 ⟨gu,mR.2 (by decide)⟩,by rw[oD];simp[dv,aP]⟩
  rw[xG,yJ];simp only[go_sem,ya,yb,az,av hv.pu,av hw.pu]<;>rfl
 .right
  have hl:us.length=a.length+1:=by lia
  rw[hl]
  simp only[go_sem,ya,Kv,hv.len,ea,wrapN (n:=a.length+1) (by lia),show ¬((a.length+1:Nat):Int)<((a.length+1:Nat):Int) by lia];exact⟨_,_,rfl,by simp,_,us,rfl,rfl,rfl,rfl,rfl,rfl,hl,gu,aP⟩
end
def aei:∀l:List Int,bP (l.map aa)=ydo
 | []=>rfl
 | a::r=>by rw[xe,aaZ,aei r];rfl
def aej:∀l:List Int,aE (l.map aa)=ydo
 | []=>rfl
 | a::r=>by rw[xe,aE,aej r];rfl
def ar7{hp:Hp}{ct:Nat}{e:Bool}{us:List Int}{o:Obj}(h:us.length<=100000000000):
  Fb ((1,.cells ydo ydo ydo 1 [])::(0,o)::hp) ct 1 8 (.ay 1 0 0) (mr ((1,.cells ydo ydo ydo 1 [])::(0,o)::hp) 1 (.ap e us.length (us.map aa)))=F5 (.ay ct 0 us.length,(ct,.cells ydo ydo ydp 1 (us.map aa))::c7 ((1,.cells ydo ydo ydo 1 [])::(0,o)::hp) 1,ct+1):=by
 have h1:mr ((1,.cells ydo ydo ydo 1 [])::(0,o)::hp) 1 (.ap e us.length (us.map aa))=F5 (us.length,us.map aa):=by
  simp[mr]
 rw[h1,dS (cs:=[]) (pu:=ydo) (ex:=ydo) rfl (by simp) (by lia) (by lia) (by decide) (aei us),aej,yd];rfl
def avS{l:List Int}(hd:dg l)(hn:nz l)(h:0<l.length):1000000000^(l.length-1)<=dv l:=Pu hn hd (fun e=>by subst e;simp at h)
def apG{n top f V:Nat}(hf:f=1000000000/(top+1))(YK:0<top)(ht:top<1000000000)(h1:V<1000000000^(n-1)*(top+1))(hn:0<n):0<f/\f<1000000000/\V*f<1000000000^n:=by
 have h2:f*(top+1)<=1000000000:=by rw[hf];exact Nat.div_mul_le_self _ _
 have h3:0<f:=by rw[hf];exact ydd (by lia) (by lia)
 refine⟨h3,?_,?_⟩
 .have:=xa f (show 2<=top+1 by lia)
  lia
 .have e1:=xV h1 h3;have e2:=xa (1000000000^(n-1)) h2;rw[<-xq,show (n-1).succ=n by lia] at e2
  grind
section
variable {P:aF}{L:Lib}
def avT(h:Has P L 289 Au)(n8:Has P L 293 C4)(rT:Has P L 299 C6)(cZ:Has P L 300 mZ)(zg:Has P L 301 BH)(hv:bk v a)(hw:bk w b)(ha:dg a)(hb:dg b)(na:nz a)(nb:nz b)(la:a.length<=8000000000)(lb:2<=b.length)(ec:ah P L 296 [v,w] (aa (dW (dv a) (dv b))))(hc:dv b<=dv a):
  ∃q r lq lr,ah P L 289 [v,w] (.aw [q,r])/\bk q lq/\bk r lr/\dg lq/\nz lq/\dg lr/\nz lr/\dv lq=dv a/dv b/\dv lr=dv a%dv b:=by
 have eQ:¬dW (dv a) (dv b)<0:=by unfold dW;rw[yp (by lia)];split<;>decide
 have ayd:=avS hb nb (by lia);have hba:b.length<=a.length:=by
  have:=kZ ha
  have h1:1000000000^(b.length-1)<1000000000^a.length:=by lia
  have:=(uv (show 1<1000000000 by decide)).1 h1
  lia
 obtain⟨n,hn⟩:∃n,n=b.length:=⟨_,rfl⟩;have aAC:=je hb (n-1);have rM:=last_pos hb nb (by lia);rw[<-hn] at rM;obtain⟨top,qv⟩:∃v:Nat,b.getD (n-1) 0=v:=⟨(b.getD (n-1) 0).toNat,by lia⟩;have aht:=sX hw (i:=n-1) (by lia);rw[qv] at aAC rM aht;have hbt:=rA (l:=b) (n-1);rw[show n-1+1=n by lia,yK (by lia),qv,wi] at hbt;have aye:=kZ (El hb (n-1));rw[yR,xF (by lia)] at aye;obtain⟨f,hf⟩:∃f,f=1000000000/(top+1):=⟨_,rfl⟩;have⟨FV,hfB,hfV⟩:=apG (n:=n) (V:=dv b) hf (by lia) (by lia) (by rw[xL,yj];lia) (by lia)
 have hIf:bk (.ap ydo 1 [aa f]) [(f:Int)]:=lF ydo [(f:Int)];have gf:dg [(f:Int)]:=mR.2 (by lia);have vf:dv [(f:Int)]=f:=by simp[dv]
 have⟨v',vs,e1,eV,hsv,FP,MZ,AU⟩:=W0 n8 cZ hw hIf hb gf (by lia) (by simp);have⟨u',DX,e2,kB,FK,H4,nus,Na⟩:=W0 n8 cZ hv hIf ha gf (by lia) (by simp);rw[vf] at AU Na;have zH:0<dv b:=by have:=Nat.pow_pos (n:=b.length-1) (show 0<1000000000 by decide);lia
 have B6:vs.length=n:=by
  have h1:vs.length<=n:=kJ FP MZ (by rw[AU];exact hfV)
  have h2:dv b<=dv vs:=by rw[AU];exact Nat.le_mul_of_pos_right _ FV
  have h3:=kZ FP;have h4:1000000000^(n-1)<1000000000^vs.length:=by rw[hn];lia
  have:=(uv (show 1<1000000000 by decide)).1 h4
  lia
 have RQ:DX.length<=a.length+1:=by
  refine kJ H4 nus ?_;rw[Na,xq];exact yaE (kZ ha) hfB
 have ahu:0<DX.length:=by
  rcases xx DX.length with e | e
  .have h1:0<dv a*f:=vO (by lia) FV;rw[yQ e] at Na;simp only[dv] at Na;lia
  .exact e
 have dY:0<vs.getD (n-1) 0:=by
  have:=last_pos FP MZ (by lia)
  rwa[B6] at this
 obtain⟨m,hm⟩:∃m,m=a.length+1-n:=⟨_,rfl⟩;have cA:∀ct:Nat,BI ct 1 8 [.int .i64 0] (F5 m) (F5 m)=F5 (.ay ct 0 m,.cells ydo ydo ydo 1 ((yE m (0:Int)).map aa)):=fun ct=>by
  rw[KH (sz:=1) (by lia) (by lia) (by rfl) (by rfl),S5];rfl
 obtain⟨e,rfl⟩:∃e,u'=.ap e DX.length (DX.map aa):=by
  rcases kB with ⟨rfl,h0⟩ | ⟨e,rfl⟩
  .rw [List.map_eq_nil_iff] at h0;rw[h0] at ahu;simp at ahu
  .exact ⟨e,by rw[xi]⟩
 have Vz:∀us:List Int,us.length=a.length+1->dv us=dv a*f->dv (us.drop m)<dv vs:=fun us hl hd=>by
  have e1:=TZ us m (by lia);have e2:=kZ ha;have e3:=xV e2 FV;have e4:1000000000^a.length=1000000000^m*1000000000^(n-1):=by rw[<-xM];congr 1;lia
  rw[<-hd,e4,xm] at e3;have e5:1000000000^m*dv (us.drop m)<1000000000^m*(1000000000^(n-1)*f):=by lia
  refine yG (Nat.lt_of_mul_lt_mul_left e5) ?_;rw[AU,hn];exact yT _ ayd
 have jY:∃us qs,(us.length=a.length+1/\qs.length=m/\dg us/\dg qs/\dv us+dv qs*dv vs=dv a*f/\dv us<dv vs)/\
   ∃q1 r1 lr,bk q1 (eh qs)/\bk r1 lr/\dg lr/\nz lr/\dv lr=dv (us.take n)/f/\ah P L 289 [v,w] (.aw [q1,r1]):=by
  unfold ah at ec e1 e2;unfold ah;rw[aG h];have LU:IntKind.wrap .i64 ((1000000000:Int).tdiv ((top+1:Nat):Int))=(f:Int):=by
   rw[wg (by decide),show (1000000000:Int)/((top+1:Nat):Int)=((1000000000/(top+1):Nat):Int) from rfl,<-hf,wrap64 (by lia) (by lia)]
  simp only[go_sem,ya,yb,yq,yi,yj,Au,hv.ai,hw.len,hw.ai,ec,eQ,show ¬(n:Int)=1 by lia,<-hn,show (n:Int)-1=((n-1:Nat):Int) by lia,wrapN (n:=n-1) (by lia),aht,show ((top:Nat):Int)+1=((top+1:Nat):Int) from rfl,wrapN (n:=top+1) (by lia),fH _ _ _ (show ((top+1:Nat):Int)≠0 by lia),LU,e1,hsv,eV.len,B6,e2,FK,ar7 (us:=DX) (e:=e) (by lia)];generalize zI:D P L (.loop _ Kv) _=q0;obtain⟨ex,st,rfl,tm,us,rfl,rfl,t8,t9,t10,t11,lu,gu,vu⟩:=bQ zI (ar6 (P:=P) (L:=L) (f:=(f:Int)) (n:=n) (A:=dv a*f) hv eV (by lia) (a.length+1-DX.length)) ⟨DX,by
   simp only[go_sem,ya,yb,az,av hv.pu,av eV.pu]<;>rfl,by lia,H4,Na⟩
  have em:((a.length+1:Nat):Int)-(n:Int)=(m:Int):=by lia
  have em1:(m:Int)-1=((m-1:Nat):Int):=by lia
  simp only[go_sem,ya,yb,az,av eV.pu,t8,t9,t10,t11,em,wrapN (n:=m) (by lia),cA,em1,wrapN (n:=m-1) (by lia)];generalize fY:D P L (.loop _ Kx) _=q1;obtain⟨ex,st,rfl,lQ,DY,qs,rfl,rfl,t8,t10,t11,t12,lu1,M2,gu1,gq1,aP,aM⟩:=bQ fY (ar5 (P:=P) (L:=L) zg (f:=(f:Int)) eV FP B6 (by lia) (show n<a.length+1 by lia) (by lia) (by lia) dY (U0:=dv a*f) m) ⟨m,us,yE m 0,by
   rw[show ((m-1:Nat):Int)=(m:Int)-1 by lia]
   simp only[go_sem,ya,yb,az,av eV.pu]<;>rfl,rfl,yx _,lu,by simp,gu,abS m,fun i _=>aaf m i,by rw[abR,vt,yZ,vu],Vz us lu vu⟩
  have oY:∀(hp:Hp) tm (y:X),ak hp 1=F5 (.cells ydo ydo ydp 1 (DY.map aa))->cX tm (a.length+1) (F5 y)=F5 n->fI hp (.sl 1) (.ay 1 0 (a.length+1)) tm F6 (F5 y)=F5 (.ay 1 0 n):=fun hp tm y h1 h2=>ab7 h1 h2 (by lia) (by lia)
  obtain⟨e',M1⟩:∃e',∀hp:Hp,nc 0 n (F5 (ydp,1,DY.map aa,hp))=F5 (.ap e' n ((DY.take n).map aa),hp):=by
   refine⟨ydp&&yM 0 1&&yo n (DY.map aa).length,fun hp=>?_⟩;simp only[nc,yd,yj,slice,yg,<-List.map_take];rw[yy (by simp;lia)]
   rfl
  have ltk:(DY.take n).length=n:=by rw[yR];lia
  have iU:=lF e' (DY.take n);rw[ltk] at iU;have⟨r0,f1,mE,aAD⟩:=C9 cZ iU (by lia);have⟨r1,lr,f2,et,aFG,ayf,dr,nr,vr⟩:=ahi rT cZ mE (Cr (El gu1 n)) (by have:=NX (DY.take n);lia) FV hfB
  have M0:=lF ydo qs;rw[M2] at M0;have⟨q1,f3,fY,aAE⟩:=C9 cZ M0 (by lia);rw[Bf] at vr;unfold ah at f1 f2 f3;refine⟨DY,qs,⟨lu1,M2,gu1,gq1,aP,aM⟩,q1,r1,lr,fY,et,dr,nr,vr,?_⟩;have mb:ik 1 0 (AV.ay 0 0 1)=F5 (.ptr 0 0):=dd 0 0 (show 0<1 by lia)
  simp only[go_sem,ya,yb,az,t8,t10,t11,t12,oY,eC,M1,f1,aAD,mE.ai,mb,f2,ayf,fun hp=>kG (hp:=hp) (k:=m) (sz:=1) (cs:=qs.map aa) ydo (by simp[M2]) (by decide),f3,aAE];rcases fY with ⟨rfl,_⟩ | ⟨_,rfl⟩<;>rcases et with ⟨rfl,_⟩ | ⟨_,rfl⟩<;>rfl
 have⟨us,qs,⟨lu,lq,gu,gq,aP,aM⟩,q1,r1,lr,fY,et,dr,nr,vr,e⟩:=jY;rw[AU] at aP aM;have LU:dv qs=dv a/dv b:=by
  rw[<-Nat.mul_div_mul_right _ _ FV,<-aP,ycb,xA,yar (vO zH FV),xR aM,yZ]
 have RS:dv us=(dv a%dv b)*f:=by
  rw[<-Nat.mul_mod_mul_right,<-aP,ycb,xA (dv qs),yas,yU aM]
 have lI:=TZ us n (by lia);have gP:dv (us.drop n)=0:=by
  rcases xx (dv (us.drop n)) with h0 | h0
  .exact h0
  .have:=xa (1000000000^n) h0
   lia
 rw[gP,xH,yZ] at lI;rw[<-lI,RS,uZ _ FV] at vr;exact⟨q1,r1,_,lr,e,fY,et,Cr gq,Gn _,dr,nr,by rw[Bf,LU],vr⟩
def afM(h:Has P L 289 Au)(n8:Has P L 293 C4)(qC:Has P L 296 Av)(rT:Has P L 299 C6)(cZ:Has P L 300 mZ)(zg:Has P L 301 BH)(hv:bk v a)(hw:bk w b)(ha:dg a)(hb:dg b)(na:nz a)(nb:nz b)(la:a.length<=8000000000)(lb:b.length<=8000000000)(h0:0<dv b):
  ∃q r lq lr,ah P L 289 [v,w] (.aw [q,r])/\bk q lq/\bk r lr/\dg lq/\nz lq/\dg lr/\nz lr/\dv lq=dv a/dv b/\dv lr=dv a%dv b:=by
 by_cases hl:b.length<=1
 .exact aAn h qC rT cZ hv hw ha hb na nb (by lia) hl h0
 have ec:=WZ qC hv hw ha hb na nb (by lia) (by lia);by_cases hc:dv a<dv b
 .unfold ah at ec;have eQ:dW (dv a) (dv b)= -1:=by unfold dW;rw[yz hc]
  rw[eQ] at ec;refine⟨.af,v,[],a,?_,Bg,hv,rfl,rfl,ha,na,?_,?_⟩
  .unfold ah;rw[aG h];simp only[go_sem,ya,Au,hv.ai,hw.ai,ec,show (-1:Int)<0 by decide];rcases hv with ⟨rfl,_⟩ | ⟨e,rfl⟩<;>rfl
  .rw [xR hc];rfl
  .rw [yU hc]
 .exact avT h n8 rT cZ zg hv hw ha hb na nb la (by lia) ec (by lia)
def afN(h:Has P L 275 Qb)(L5:Has P L 289 Au)(n8:Has P L 293 C4)(qC:Has P L 296 Av)(rT:Has P L 299 C6)(cZ:Has P L 300 mZ)(zg:Has P L 301 BH)(hv:bk v a)(hw:bk w b)(ha:dg a)(hb:dg b)(na:nz a)(nb:nz b)(la:a.length<=8000000000)(lb:b.length<=8000000000):
  ∃r l,ah P L 275 [v,w] r/\bk r l/\dg l/\nz l/\dv l=wK (dv a) (dv b):=by
 have key:=jO P L [0,1] Kt
  (fun k st=>∃x y lx ly,st=⟨[(0,x),(1,y)],[],0,0⟩/\bk x lx/\bk y ly/\dg lx/\nz lx/\dg ly/\nz ly/\lx.length<=8000000000/\ly.length<=8000000000/\dv ly=k/\wK (dv lx) (dv ly)=wK (dv a) (dv b))
  (fun ex st=>∃tm ct,st=⟨tm,[],ct,0⟩/\ex=.exit 0/\∃x lx,aj tm 0=x/\bk x lx/\dg lx/\nz lx/\dv lx=wK (dv a) (dv b)) ?_
 .unfold ah;rw[aG h];simp only[go_sem,Qb];generalize hq:D P L (.loop _ Kt) _=q;obtain⟨ex,st,rfl,tm,ct,rfl,rfl,x,lx,h2,hx,dx,nx,vx⟩:=bQ hq (key (dv b)) ⟨v,w,a,b,by simp only[go_sem,ya,az,av hv.pu,av hw.pu]<;>rfl,hv,hw,ha,na,hb,nb,la,lb,rfl,rfl⟩
  refine⟨x,lx,?_,hx,dx,nx,vx⟩;simp only[go_sem,az,h2,hx.dX,av hx.pu]
 .rintro k st ⟨x,y,lx,ly,rfl,hx,hy,dx,nx,dy,ny,llx,lly,rfl,hg⟩;by_cases h0:ly=[]
  .right
   subst h0;simp only[go_sem,ya,Kt,hy.len,yI,show ¬(0:Int)<((0:Nat):Int) by lia];refine⟨_,_,rfl,by simp,_,_,rfl,rfl,x,lx,rfl,hx,dx,nx,?_⟩;rw[<-hg];simp[dv]
  .left
   have hp:0<dv ly:=by
    rcases xx (dv ly) with e | e
    .exact absurd (ac6 ny dy e) h0
    .exact e
   have hl:0<ly.length:=tj.2 h0;have⟨q,r,lq,lr,e1,hq,hr,dq,nq,dr,nr,vq,vr⟩:=afM L5 n8 qC rT cZ zg hx hy dx dy nx ny llx lly hp;have aM:dv lr<dv ly:=by rw[vr];exact xD _ hp
   have hB:=kZ dy;simp only[go_sem,ya,Kt,hx.ai,hy.len,hy.ai,show (0:Int)<ly.length by lia,e1,hq.bJ,hr.bJ];refine⟨_,dv lr,rfl,aM,y,r,ly,lr,?_,hy,hr,dy,ny,dr,nr,by lia,xu (kJ dr nr (uo aM hB)) lly,rfl,?_⟩
   .simp only [go_sem,ya,az,av hy.pu,av hr.pu]<;>rfl
   .rw [<-hg,vr,yao (dv ly),<-Nat.gcd_rec,yao]
end
end
end VE
end
section
namespace VE
open Go (IntKind)
section
variable {P:aF}{L:Lib}
def avU(BJ:Has P L 290 Hj){neg:Bool}{N:Nat}(hN:(aA N).length<=180000000000):
  ew P L [0,2,3,4] Bp (fun k s=>∃(i m:Nat) (out:List Int),m=k/\out.length=i/\dg out/\dv out+1000000000^i*m=N/\(aA m).length+9*i<=180000000000/\
    ((i=0/\s=⟨[(0,.str (aA m)),(2,.ptr 0 0),(3,.bool neg),(4,.af)],[(0,.cells ydo ydo ydo 2 [.bool ydp,.af])],1,0⟩)\/
    (0<i/\s=⟨[(0,.str (aA m)),(2,.ptr 0 0),(3,.bool neg),(4,.ay 1 0 i)],[(1,.cells ydo ydo ydp 1 (out.map aa)),(0,.cells ydo ydo ydo 2 [.bool ydp,.af])],2,0⟩))) (fun ex s'=>∃tm i m out,ex=.exit 0/\m<1000000000/\out.length=i/\dg out/\dv out+1000000000^i*m=N/\i<20000000000/\aj tm 0=.str (aA m)/\aj tm 2=.ptr 0 0/\aj tm 3=.bool neg/\
    ((i=0/\aj tm 4=.af/\s'=⟨tm,[(0,.cells ydo ydo ydo 2 [.bool ydp,.af])],1,0⟩)\/(0<i/\aj tm 4=.ay 1 0 i/\s'=⟨tm,[(1,.cells ydo ydo ydp 1 (out.map aa)),(0,.cells ydo ydo ydo 2 [.bool ydp,.af])],2,0⟩))):=by
 apply eE;rintro k s ⟨i,m,out,rfl,hlen,hd,aP,hl,hs⟩;by_cases hm:1000000000<=m
 .left
  obtain⟨q,hq⟩:∃q,q=m/1000000000:=⟨_,rfl⟩;obtain⟨r,hr⟩:∃r,r=m%1000000000:=⟨_,rfl⟩;have oY:=api hm;rw[<-hq,<-hr] at oY;have j8:=TW 9 r;have hqp:=Bh q;have hlm:(aA m).length=(aA q).length+9:=by rw[oY,yJ,j8]
  have c1:jj (aA m) (F5 (aA q).length) (F5 (aA m).length)=F5 (.str (jC 9 r)):=by
   rw[mP (by lia) (yx _),xQ,oY,yaS]
  have c2:jj (aA m) (F5 0) (F5 (aA q).length)=F5 (.str (aA q)):=by
   rw[mP (by lia) (by lia),yg,oY,yaa]
  have e1:=LO BJ (s:=jC 9 r) (v:=r) (by lia) (by rw[ab5 9 r 0 (by lia)];simp)
  unfold ah at e1;have Hx:dg (out++[(r:Int)]):=ja.2 ⟨hd,mR.2 (by lia)⟩;have afO:dv (out++[(r:Int)])+1000000000^(i+1)*q=N:=by
   rw[oD,hlen,<-aP,xq];have e:=tq m 1000000000;rw[<-hr,<-hq] at e;rw[<-e];simp only[dv,wi,xH,yZ,xL,xm]
   lia
  have PP:((aA m).length:Int)-9=((aA q).length:Int):=by lia
  rcases hs with ⟨h0,rfl⟩ | ⟨h0,rfl⟩
  .subst h0;have n7:out=[]:=yQ hlen;subst n7
   simp only[go_sem,ya,yb,xk,yq,yi,yj,Bp,show (9:Int)<((aA m).length:Int) by lia,PP,wrapN (n:=(aA q).length) (by lia),fy,fS,eC,c1,c2,e1,gE];refine⟨_,q,rfl,by lia,1,q,[]++[(r:Int)],rfl,rfl,Hx,afO,by lia,.inr ⟨by lia,?_⟩⟩;rfl
  .simp only [go_sem,ya,yb,yi,yj,Bp,show (9:Int)<((aA m).length:Int) by lia,PP,wrapN (n:=(aA q).length) (by lia),fy,fS,eC,c1,e1]
   rw[dS (ex:=ydp) (pu:=ydo) (cs:=out.map aa) rfl (by rw[xi,hlen,yj]) (by lia) (by lia) (by decide) rfl]
   simp only[go_sem,ya,yb,fy,fS,eC,PP,wrapN (n:=(aA q).length) (by lia),c2];refine⟨_,q,rfl,by lia,i+1,q,out++[(r:Int)],rfl,by simp[hlen],Hx,afO,by lia,.inr ⟨by lia,?_⟩⟩;rw[xG];simp only[go_sem,ya,yb,az]<;>rfl
 .right
  have h9:(aA m).length<=9:=zW (k:=8) (by lia);have hp0:=Bh m;rcases hs with ⟨h0,rfl⟩ | ⟨h0,rfl⟩
  .simp only [go_sem,Bp,show ¬(9:Int)<((aA m).length:Int) by lia];exact⟨_,_,rfl,by simp,_,i,m,out,rfl,by lia,hlen,hd,aP,by lia,rfl,rfl,rfl,.inl ⟨h0,rfl,rfl⟩⟩
  .simp only [go_sem,Bp,show ¬(9:Int)<((aA m).length:Int) by lia];exact⟨_,_,rfl,by simp,_,i,m,out,rfl,by lia,hlen,hd,aP,by lia,rfl,rfl,rfl,.inr ⟨h0,rfl,rfl⟩⟩
end
end VE
end
section
namespace VE
open Go (IntKind)
section
variable {P:aF}{L:Lib}
def ahv(h:Rb P L){n:Int}(hn:(aA n.natAbs).length<=180000000000):∃r,ah P L 288 [.str (bf n)] r/\mf r n:=by
 obtain⟨u,hu⟩:∃u,u=aA n.natAbs:=⟨_,rfl⟩;have⟨b,t,hb,fV,fQ⟩:=Gd n.natAbs;have hs:bf n=(if n<0 then [45] else [])++u:=by rw[hu,pP]
 have DF:0<u.length:=by rw[hu];exact Bh _
 have zF:u[0]=b:=by
  have:u=b::t:=by rw[hu,hb]
  simp[this]
 have key:∀(s:St),bE [0,2,3,4] s=⟨[(0,.str u),(2,.ptr 0 0),(3,.bool (decide (n<0))),(4,.af)],[(0,.cells ydo ydo ydo 2 [.bool ydp,.af])],1,0⟩->
   ∃ex s',D P L (.loop [0,2,3,4] Bp) s=F5 (ex,s')/\∃tm i m out,ex=.exit 0/\m<1000000000/\out.length=i/\dg out/\dv out+1000000000^i*m=n.natAbs/\i<20000000000/\aj tm 0=.str (aA m)/\aj tm 2=.ptr 0 0/\aj tm 3=.bool (decide (n<0))/\
    ((i=0/\aj tm 4=.af/\s'=⟨tm,[(0,.cells ydo ydo ydo 2 [.bool ydp,.af])],1,0⟩)\/(0<i/\aj tm 4=.ay 1 0 i/\s'=⟨tm,[(1,.cells ydo ydo ydp 1 (out.map aa)),(0,.cells ydo ydo ydo 2 [.bool ydp,.af])],2,0⟩)):=fun s hc=>
  avU (P:=P) (L:=L) h.BJ (neg:=decide (n<0)) hn n.natAbs s ⟨0,n.natAbs,[],rfl,rfl,rfl,by simp[dv],by lia,.inl ⟨rfl,by rw[hc,hu]⟩⟩
 have fin:∀(i m:Nat) (out:List Int),m<1000000000->out.length=i->dg out->dv out+1000000000^i*m=n.natAbs->i<20000000000->∃w l,bW P L (D P L) 294 [.bool (decide (n<0)),.ap ydp (i+1) ((out++[(m:Int)]).map aa)]=F5 (.agg [.bool (decide (n<0)),w])/\bk w l/\dg l/\nz l/\dv l=n.natAbs:=fun i m out h1 h2 h3 h4 h5=>by
  have hv:=lF ydp (out++[(m:Int)]);have hd:dg (out++[(m:Int)]):=ja.2 ⟨h3,mR.2 (by lia)⟩;have aP:dv (out++[(m:Int)])=n.natAbs:=by rw[oD,h2];simp[dv];exact h4
  have⟨r,e,hr⟩:=BK h.lL h.cZ (decide (n<0)) hv hd (by simp;lia)
  have B7:cC (decide (n<0)) (dv (out++[(m:Int)]))=n:=by
   rw[aP];unfold cC;by_cases h0:n<0
   .simp only [h0,yN,xJ];lia
   .simp only [h0,yP,yD,xz];lia
  rw[B7] at hr;obtain⟨w,l,rfl,hw,jJ,iV,dM⟩:=hr;simp only[yJ,List.length_singleton,h2] at e;exact⟨w,l,e,hw,jJ,iV,dM⟩
 unfold ah;rw[hs];by_cases h0:n<0
 .rw [yz h0,aG h.ahq];have lm:jj (45::u) (F5 1) (F5 (u.length+1))=F5 (.str u):=by rw[mP (s:=45::u) (l:=1) (h:=u.length+1) (by lia) (by simp)];simp
  simp only[h0,yN] at key fin ⊢;simp only[go_sem,ya,yb,Qd,aO,show (0:Int)<((u.length+1:Nat):Int) by lia,yB,yL,Fc,yN,fy,fS,eC,lm];generalize hq:D P L (.loop _ Bp) _=q;obtain⟨ex,s,rfl,tm,i,m,out,rfl,hm,hlen,hd,aP,hi,t0,t2,t3,K3⟩:=bQ hq key (by simp only[go_sem,ya,yb,az]<;>rfl)
  have e1:=LO h.BJ (s:=aA m) (v:=m) (by have:=zW (k:=8) (n:=m) (by lia);lia) (Ba m)
  have c9:i<20000000000:=hi;have⟨w,l,e2,hw,jJ,iV,dM⟩:=fin i m out hm hlen hd aP c9;refine⟨_,?_,w,l,rfl,hw,jJ,iV,dM⟩;unfold ah at e1;rcases K3 with ⟨DO,t4,rfl⟩ | ⟨DO,t4,rfl⟩
  .subst DO;have n7:out=[]:=yQ hlen;subst n7;have iU:∀hp:Hp,nc 0 1 (F5 (ydp,1,[AV.int .i64 (m:Int)],hp))=F5 (.ap ydp 1 [AV.int .i64 (m:Int)],hp):=fun hp=>rfl
   simp only[yL,xe,ve,yd] at e2;simp only[go_sem,ya,yb,xk,yq,yi,yj,az,t0,t2,t3,t4,e1,gE,iU,e2,bi,hw.pu,hw.one,jg];rcases hw with ⟨rfl,_⟩ | ⟨e,rfl⟩<;>simp only[h0,yN]<;>rfl
  .simp only [go_sem,ya,yb,yi,yj,az,t0,t2,t3,t4,e1]
   rw[dS (ex:=ydp) (pu:=ydo) (cs:=out.map aa) rfl (by rw[xi,hlen,yj]) (by lia) (by lia) (by decide) rfl];have iU:∀hp:Hp,nc 0 (i+1) (F5 (ydp,1,out.map aa++[AV.int .i64 (m:Int)],hp))=F5 (.ap ydp (i+1) (out.map aa++[AV.int .i64 (m:Int)]),hp):=fun hp=>kG ydp (by simp[hlen]) (by decide)
   simp only[xG,xe,ve] at e2;simp only[go_sem,ya,yb,iU,e2,bi,hw.pu,hw.one,jg,uf];rcases hw with ⟨rfl,_⟩ | ⟨e,rfl⟩<;>simp only[h0,yN]<;>rfl
 .rw [yp h0,aG h.ahq,yL];simp only[h0,yP] at key fin ⊢;simp only[go_sem,ya,yb,Qd,aO,show (0:Int)<(u.length:Int) by lia,sT DF,zF,show ¬((b:Nat):Int)=45 by lia];generalize hq:D P L (.loop _ Bp) _=q;obtain⟨ex,s,rfl,tm,i,m,out,rfl,hm,hlen,hd,aP,hi,t0,t2,t3,K3⟩:=bQ hq key (by simp only[go_sem,ya,yb,az]<;>rfl)
  have e1:=LO h.BJ (s:=aA m) (v:=m) (by have:=zW (k:=8) (n:=m) (by lia);lia) (Ba m)
  have c9:i<20000000000:=hi;have⟨w,l,e2,hw,jJ,iV,dM⟩:=fin i m out hm hlen hd aP c9;refine⟨_,?_,w,l,rfl,hw,jJ,iV,dM⟩;rcases K3 with ⟨DO,t4,rfl⟩ | ⟨DO,t4,rfl⟩
  .subst DO;have n7:out=[]:=yQ hlen;subst n7;have iU:∀hp:Hp,nc 0 1 (F5 (ydp,1,[AV.int .i64 (m:Int)],hp))=F5 (.ap ydp 1 [AV.int .i64 (m:Int)],hp):=fun hp=>rfl
   simp only[yL,xe,ve,yd] at e2;simp only[go_sem,ya,yb,xk,yq,yi,yj,az,t0,t2,t3,t4,e1,gE,iU,e2,bi,hw.pu,hw.one,jg];rcases hw with ⟨rfl,_⟩ | ⟨e,rfl⟩<;>simp only[h0,yP]<;>rfl
  .simp only [go_sem,ya,yb,yi,yj,az,t0,t2,t3,t4,e1]
   rw[dS (ex:=ydp) (pu:=ydo) (cs:=out.map aa) rfl (by rw[xi,hlen,yj]) (by lia) (by lia) (by decide) rfl];have iU:∀hp:Hp,nc 0 (i+1) (F5 (ydp,1,out.map aa++[AV.int .i64 (m:Int)],hp))=F5 (.ap ydp (i+1) (out.map aa++[AV.int .i64 (m:Int)]),hp):=fun hp=>kG ydp (by simp[hlen]) (by decide)
   simp only[xG,xe,ve] at e2;simp only[go_sem,ya,yb,iU,e2,bi,hw.pu,hw.one,jg,uf];rcases hw with ⟨rfl,_⟩ | ⟨e,rfl⟩<;>simp only[h0,yP]<;>rfl
end
end VE
end
section
namespace VE
open Go (IntKind)
def SI(n:Int)(r:List Nat):bS (bf n++r)=(bf n).length+bS r:=by
 rw[<-pP]
 split
 .simp only [yB,yL,bS,yv];rw[yp (by decide),Jq r (A9 _)]
  lia
 .rw [yL];exact Jq r (A9 _)
def T8:∀{a b:List Nat},c6 a b=ydo->a=b
 | [],[],_=>rfl
 | [],_::_,h=>by simp[c6] at h
 | _::_,[],h=>by simp[c6] at h
 | x::a,y::b,h=>by
  simp only[c6,ye] at h;rw[yf h.1,T8 h.2]
def afP{n:Int}{d:Nat}(h:n≠0):c6 (TT n d) [48]=ydp:=by
 cases hb:c6 (TT n d) [48] with
 | false=>rfl
 | true=>
  have e:=T8 hb;unfold TT at e;by_cases h0:n<0
  .rw [mO h0] at e;simp at e
  .obtain ⟨m,rfl⟩:∃m:Nat,n=m:=⟨n.toNat,by lia⟩;rw[nG] at e;have⟨b,r,bI,_,_⟩:=Gd m;rw[bI] at e;simp only[yB,vX,List.append_eq_nil_iff] at e;have hv:=Ba m;rw[bI,e.1,e.2.1] at hv
   have:(F5 0:Option Nat)=F5 m:=hv
   grind
section
variable {P:aF}{L:Lib}
def avV(h:Rb P L):∃r,ah P L 281 [aa 1] r/\mf r 1:=by
 have⟨r,e,hr⟩:=BK h.lL h.cZ ydp (lF ydp [(1:Int)]) (by decide) (by decide);obtain⟨w,l,rfl,hw,hd,hz,hv⟩:=hr;refine⟨_,?_,w,l,rfl,hw,hd,hz,hv⟩;simp only[xe,ve,yv,yI,yd] at e;have iU:∀hp:Hp,nc 0 1 (F5 (ydp,1,[AV.int .i64 1],hp))=F5 (.ap ydp 1 [AV.int .i64 1],hp):=fun hp=>rfl
 unfold ah at e ⊢;rw[aG h.aAx];simp only[go_sem,ya,yb,xk,yq,yi,yj,We,aO,Int.reduceLT,yP,OZ,az,adY,Int.reduceEq,xj,xp,yN,eL _ _ _ (show (1000000000:Int)≠0 by decide),fH _ _ _ (show (1000000000:Int)≠0 by decide),show Int.tmod 1 1000000000=1 from rfl,show Int.tdiv 1 1000000000=0 from rfl,show IntKind.wrap .i64 0=0 from rfl,gE,iU,e,hw.pu,hw.one,bi,jg];rcases hw with ⟨rfl,_⟩ | ⟨e,rfl⟩<;>rfl
def ahw(h:Rb P L){n:Int}{d:Nat}(hn:(aA n.natAbs).length<=144000000000)(hd:(aA d).length<=144000000000):
  ∃x y,ah P L 274 [.str (TT n d)] (.aw [x,y])/\mf x n/\mf y d:=by
 have⟨x,e1,hx⟩:=ahv h (n:=n) (by lia);have hli:(bf n).length<=(aA n.natAbs).length+1:=by rw[<-pP];split<;>simp
 by_cases h1:d=1
 .subst h1;have⟨y,e2,hy⟩:=avV h;have hT:TT n 1=bf n:=by unfold TT;simp
  have hs:=SI n [];rw[wL] at hs;have e3:=LM h.Fe (s:=bf n) (by lia);rw[hs] at e3;refine⟨x,y,?_,hx,hy⟩;obtain⟨xw,xl,rfl,iE,_,_,_⟩:=hx;obtain⟨yw,yl,rfl,iF,_,_,_⟩:=hy;rw[hT];unfold ah at e1 e2 e3 ⊢;rw[aG h.ahn];simp only[go_sem,ya,yb,Qa,aO,e3,bS,yZ,yN,e1,e2,bi,iE.pu,iE.one,iF.pu,iF.one,jg];rcases iE with ⟨rfl,_⟩ | ⟨e,rfl⟩<;>rcases iF with ⟨rfl,_⟩ | ⟨e',rfl⟩<;>rfl
 .have ⟨y,e2,hy⟩:=ahv h (n:=(d:Int)) (by simp;lia)
  rw[nG] at e2;obtain⟨s,qX⟩:∃s,s=TT n d:=⟨_,rfl⟩;have hT:s=bf n++47::aA d:=by rw[qX];unfold TT;rw[yp h1]
  have hs:bS s=(bf n).length:=by rw[hT,SI];rfl
  have hlen:s.length=(bf n).length+(aA d).length+1:=by rw[hT];simp;lia
  have e3:=LM h.Fe (s:=s) (by lia);rw[hs] at e3;have c1:jj s (F5 0) (F5 (bf n).length)=F5 (.str (bf n)):=by
   rw[mP (by lia) (by lia),yg,hT,yaa]
  have c2:jj s (F5 ((bf n).length+1)) (F5 s.length)=F5 (.str (aA d)):=by
   rw[mP (by lia) (yx _),xQ,hT,show bf n++47::aA d=(bf n++[47])++aA d by simp,show (bf n).length+1=(bf n++[47]).length by simp,yaS]
  refine⟨x,y,?_,hx,hy⟩;obtain⟨xw,xl,rfl,iE,_,_,_⟩:=hx;obtain⟨yw,yl,rfl,iF,_,_,_⟩:=hy;rw[<-qX];unfold ah at e1 e2 e3 ⊢;rw[aG h.ahn]
  simp only[go_sem,ya,yb,Qa,aO,e3,show ¬((bf n).length:Int)=(s.length:Int) by lia,fy,fS,eC,c1,wrapN (n:=(bf n).length+1) (by lia),show ((bf n).length:Int)+1=(((bf n).length+1:Nat):Int) from rfl,c2,e1,e2,bi,iE.pu,iE.one,iF.pu,iF.one,jg];rcases iE with ⟨rfl,_⟩ | ⟨e,rfl⟩<;>rcases iF with ⟨rfl,_⟩ | ⟨e',rfl⟩<;>rfl
end
end VE
end
section
namespace VE
open Go (IntKind)
section
variable {d n:Int}{a b:List Int}
def O6{d:Nat}(h:n<0):TT n d=45::TT (-n) d:=by
 have e:bf (-n)=aA n.natAbs:=by
  rw[<-pP,yp (show ¬-n<0 by lia),yL,show (-n).natAbs=n.natAbs by lia]
 unfold TT;rw[mO h,e];rfl
def ar8{d:Nat}(h:¬n<0):∃b u,TT n d=b::u/\48<=b:=by
 have⟨b,r,hb,h1,_⟩:=Gd n.natAbs;refine⟨b,r++(if d=1 then [] else 47::aA d),?_,h1⟩;unfold TT;rw[<-pP,yp h,yL,hb];rfl
def U3(a b:AV)(r:List AV):fU 2 ydo (a::b::r)=F5 (.agg [a,b]):=rfl
def ar9(k:Nat):2^k<=1000000000^k:=um (by decide) k
def Bd.r{k:Nat}{z:Int}(h:Bd k z):z.natAbs<1000000000^k:=yG h (ar9 k)
def K4(r:Rat):RT r=TT r.num r.den:=rfl
def adp(hd:0<d):RT (wU n d)=rQ n d:=by
 have⟨h1,h2⟩:=Sw (a:=n) hd;rw[arI hd,K4,h1]
 congr 1
 exact yaF (show ((wU n d).den:Int)=((dL n d).toNat:Int) by rw[h2];have:=JO (a:=n) hd;unfold dL at this ⊢;lia)
structure Rm(P:aF)(L:Lib):Prop extends Rb P L where
 aAF:Has P L 263 dC
 QI:Has P L 273 E8
 aFH:Has P L 284 agv
 aFI:Has P L 285 agw
 aFJ:Has P L 286 agx
 Hy:Has P L 287 Lu
 zg:Has P L 301 BH
structure Rp(P:aF)(L:Lib):Prop extends Ras P L,Rm P L
section
variable {P:aF}{L:Lib}
def afQ(h:Rm P L){v w:AV}(hv:bk v a)(hw:bk w b)(ha:dg a)(hb:dg b)(na:nz a)(nb:nz b)(la:a.length<=8000000000)(lb:b.length<=8000000000)(h0:0<dv b):
  ∃q r lq lr,ah P L 289 [v,w] (.aw [q,r])/\bk q lq/\bk r lr/\dg lq/\nz lq/\dg lr/\nz lr/\dv lq=dv a/dv b/\dv lr=dv a%dv b:=
 afM h.L5 h.n8 h.qC h.rT h.cZ h.zg hv hw ha hb na nb la lb h0
def avW(h:Rm P L){x y:AV}{K:Nat}(hK:K<=8000000000)(hx:bk x a)(ha:dg a)(na:nz a)(va:dv a=n.natAbs)(hy:bk y b)(hb:dg b)(nb:nz b)(vb:dv b=d.natAbs)(kn:Bd K n)(kd:Bd K d)(hd:0<d){tm:Env}(t2:aj tm 2=.ptr 0 0)(t3:aj tm 3=.ptr 1 0):
  gJ [.t 4] (D P L (aC (aC qj.body)) ⟨tm,[(1,.cells ydo ydo ydo 2 [.bool (decide (d<0)),y]),(0,.cells ydo ydo ydo 2 [.bool (decide (n<0)),x])],2,0⟩)=F5 (.str (RT (wU n d))):=by
 rw[adp hd];have la:=xu (kJ ha na (by rw[va];exact kn.r)) hK
 have lb:=xu (kJ hb nb (by rw[vb];exact kd.r)) hK
 have⟨g,lg,e1,hg,YP,ng,vg⟩:=afN h.aho h.L5 h.n8 h.qC h.rT h.cZ h.zg hx hy ha hb na nb la lb;rw[va,vb,show wK n.natAbs d.natAbs=vz n d from rfl] at vg;have FF:=OE (a:=n) hd;have aAG:vz n d<=d.natAbs:=Int.gcd_le_natAbs_right n (by lia);have lg1:lg.length<=8000000000:=xu (kJ YP ng (by rw[vg];exact wA aAG kd.r)) hK
 have⟨p,p',lp,lp',e2,hp,an,dp,np,dp',np',vp,vp'⟩:=afQ h hx hg ha YP na ng la lg1 (by lia);have⟨q,q',lq,lq',e3,hq,bL,dq,nq,dq',nq',vq,vq'⟩:=afQ h hy hg hb YP nb ng lb lg1 (by lia);rw[va,vg] at vp;rw[vb,vg] at vq;have YQ:(dD n d).natAbs=n.natAbs/vz n d:=by unfold dD;rw[th (Int.gcd_dvd_left n d)];rfl
 have gC:(dL n d).natAbs=d.natAbs/vz n d:=by unfold dL;rw[th (Int.gcd_dvd_right n d)];rfl
 have hdp:=JO (a:=n) hd;rw[<-YQ] at vp;rw[<-gC] at vq;have aFK:=ava n d;have B7:cC (decide (n<0)) (dv lp)=dD n d:=by
  rw[vp];unfold cC;by_cases h0:n<0
  .have:¬0<=dD n d:=fun h1=>by have:=yab (tJ FF) h1;lia
   simp only[h0,yN,xJ];lia
  .have:¬dD n d<0:=fun h1=>by have:=Int.mul_neg_of_pos_of_neg FF h1;lia
   simp only[h0,yP,yD,xz];lia
 have kn':Bd K (dD n d):=kn.le (ab3 n d);have Xr:Bd K (dL n d):=kd.le (ab4 n d);have lp1:lp.length<=8000000000:=xu (kJ dp np (by rw[vp];exact kn'.r)) hK
 have M2:lq.length<=8000000000:=xu (kJ dq nq (by rw[vq];exact Xr.r)) hK
 have⟨s,e4,hs⟩:=BK h.lL h.cZ (decide (n<0)) hp dp (by lia);rw[B7] at hs;have⟨e5,l5⟩:=ahm (K:=K) h.ahp h.ze (by lia) hs kn'.r;have⟨u,e6,hu⟩:=BK h.lL h.cZ ydp hq dq (by lia);have B1:cC ydp (dv lq)=dL n d:=by rw[vq];unfold cC;simp only[yD,xz];lia
 rw[B1] at hu;have⟨e7,l7⟩:=ahm (K:=K) h.ahp h.ze (by lia) hu Xr.r;obtain⟨sw,sl,rfl,pD,_,_,_⟩:=hs;obtain⟨uw,ul,rfl,huw,_,_,_⟩:=hu;have aFo:0<lq.length:=by
  rcases xx lq.length with e | e
  .rw [yQ e] at vq;simp[dv] at vq;lia
  .exact e
 by_cases RZ:lq.length=1
 .obtain ⟨z,rfl⟩:∃z,lq=[z]:=by
   cases lq with
   | nil=>simp at RZ
   | cons z r=>cases r with
    | nil=>exact⟨z,rfl⟩
    | cons y r=>simp at RZ
  have Nb:z=dL n d:=by simp[dv] at vq;lia
  have e8:=hq.bj (i:=0) (by simp);simp only[wq] at e8;by_cases h1:dL n d=1
  .have hT:rQ n d=bf (dD n d):=by unfold rQ;rw[yz h1]
   rw[hT];simp only[go_sem,ya,qj,aC,t2,t3,hx.ai,hy.ai,bg,yd,cO,show ¬d<0 by lia,yP,e1,hg.ai,hg.shut,e2,hp.ai,hp.bJ,an.bJ,e3,hq.len,hq.bJ,bL.bJ,e4,pD.ai,cm,bi,e5,yv,yI,show ((1:Nat):Int)=(1:Int) from rfl,yN,e8,Nb,h1]
  .have hT:rQ n d=(bf (dD n d)++[47])++bf (dL n d):=by unfold rQ;rw[yp h1]
   rw[hT]
   simp only[go_sem,ya,qj,aC,t2,t3,hx.ai,hy.ai,bg,yd,cO,show ¬d<0 by lia,yP,e1,hg.ai,hg.shut,e2,hp.ai,hp.bJ,an.bJ,e3,hq.len,hq.ai,hq.bJ,bL.bJ,e4,pD.ai,cm,bi,e5,yv,yI,show ((1:Nat):Int)=(1:Int) from rfl,yN,e8,Nb,h1,ig (a:=bf (dD n d)) (b:=[47]) (by simp;lia),e6,huw.ai,e7,ig (a:=bf (dD n d)++[47]) (b:=bf (dL n d)) (by simp;lia)]
 .have h1:¬dL n d=1:=fun h1=>RZ (by
   have h2:lq.length<=1:=ado dq nq (by rw[vq,h1];decide)
   lia)
  have hT:rQ n d=(bf (dD n d)++[47])++bf (dL n d):=by unfold rQ;rw[yp h1]
  rw[hT]
  simp only[go_sem,ya,qj,aC,t2,t3,hx.ai,hy.ai,bg,yd,cO,show ¬d<0 by lia,yP,e1,hg.ai,hg.shut,e2,hp.ai,hp.bJ,an.bJ,e3,hq.len,hq.ai,hq.bJ,bL.bJ,e4,pD.ai,cm,bi,e5,show ¬(lq.length:Int)=1 by lia,ig (a:=bf (dD n d)) (b:=[47]) (by simp;lia),e6,huw.ai,e7,ig (a:=bf (dD n d)++[47]) (b:=bf (dL n d)) (by simp;lia)]
def ak6(n d:Int):wU (-n) (-d)=wU n d:=by rw[Rat.divInt_neg',yaM]
def ayg(h:Rm P L){v w:AV}{K:Nat}(hK:K<=8000000000)(hv:mf v n)(hw:mf w d)(kn:Bd K n)(kd:Bd K d)(hd:d≠0):ah P L 280 [v,w] (.str (RT (wU n d))):=by
 have fin:∀{x y:AV} {a b:List Int} {n' d':Int},bk x a->dg a->nz a->dv a=n'.natAbs->bk y b->dg b->nz b->dv b=d'.natAbs->Bd K n'->Bd K d'->0<d'->wU n' d'=wU n d->∀tm,aj tm 2=.ptr 0 0->aj tm 3=.ptr 1 0->
   D P L (.seq (bw qj.body) (bw (aC qj.body))) ⟨[(0,v),(1,w)],[],0,0⟩=F5 (.normal,⟨tm,[(1,.cells ydo ydo ydo 2 [.bool (decide (d'<0)),y]),(0,.cells ydo ydo ydo 2 [.bool (decide (n'<0)),x])],2,0⟩)->ah P L 280 [v,w] (.str (RT (wU n d))):=fun {x y a b n' d'} hx ha na va hy hb nb vb kn kd hd hq tm t2 t3 e=>by
  unfold ah;rw[aG h.aAw];show gJ [.t 4] (D P L (.seq (bw qj.body) (.seq (bw (aC qj.body)) (aC (aC qj.body)))) ⟨[(0,v),(1,w)],[],0,0⟩)=_
  rw[Ei,e,jb,<-hq];exact avW h hK hx ha na va hy hb nb vb kn kd hd t2 t3
 have eV:=hv;have Yz:=hw;obtain⟨x,a,rfl,hx,ha,na,va⟩:=hv;obtain⟨y,b,rfl,hy,hb,nb,vb⟩:=hw;by_cases h0:d<0
 .have ⟨r,e1,hr⟩:=agX (K:=K) h.ahr h.lL h.cZ (by lia) eV kn.r;have⟨s,e2,hs⟩:=agX (K:=K) h.ahr h.lL h.cZ (by lia) Yz kd.r;obtain⟨x',a',rfl,q9,FA,na',va'⟩:=hr;obtain⟨y',b',rfl,FU,bI,nb',vb'⟩:=hs;simp only[h0,yN] at e2
  refine fin q9 FA na' va' FU bI nb' vb' kn.neg kd.neg (by lia) (ak6 n d) _ ?_ ?_ (by
   simp only[go_sem,ya,yb,qj,bw,aC,aO,hx.pu,hx.ai,hx.one,hy.pu,hy.ai,hy.one,q9.pu,q9.one,FU.pu,FU.one,bg,yd,h0,yN,U3,cm,e1,e2,bi,jg]<;>rfl)<;>simp only[go_sem,ya]
 .refine fin hx ha na va hy hb nb vb kn kd (by lia) rfl _ ?_ ?_ (by simp only[go_sem,ya,yb,qj,bw,aC,aO,hx.pu,hx.one,hy.pu,hy.one,bg,yd,h0,yP]<;>rfl)<;>simp only[go_sem,ya]
end
end
end VE
end
section
namespace VE
open Go (IntKind)
section
variable {K:Nat}{a:Rat}
section
variable {P:aF}{L:Lib}
def qc(h:Hq K a):(RT a).length<=2*K+3:=by
 have h1:=JG h.1;have h2:=JG h.2;rw[nG] at h2;unfold RT
 grind
def adq{z:Int}(h:Bd K z):(aA z.natAbs).length<=K+1:=by
 have:=JG (z:=(z.natAbs:Int)) (k:=K) (by unfold Bd at h ⊢;lia)
 rwa[nG] at this
def afR(h:Rm P L)(ka:Hq K a)(hK:K<=8000000000):∃x y,ah P L 274 [.str (RT a)] (.aw [x,y])/\mf x a.num/\mf y (a.den:Int):=by
 have h1:=adq ka.1;have h2:=adq ka.2
 exact ahw h.toRb (n:=a.num) (d:=a.den) (by lia) (by simpa using (by lia:(aA ((a.den:Int)).natAbs).length<=144000000000))
def ayh(h:Rm P L){n:Int}{d:Nat}(hl:(TT n d).length<=100000000000)(sC:n=0->d=1):ah P L 262 [.str (TT n d)] (aa (bV n)):=by
 unfold ah;rw[aG h.aAu];by_cases h0:n<0
 .have eK:=afP (n:=n) (d:=d) (by lia);rw[O6 h0] at eK ⊢;simp only[go_sem,ya,Lp,nJ,eK,show (0:Int)<(((TT (-n) d).length+1:Nat):Int) by lia,Fc,yN];unfold bV;rw[yz h0]
 .by_cases h1:n=0
  .subst h1
   have:=sC rfl
   subst this;rw[show TT 0 1=[48] by decide];simp only[go_sem,ya,Lp,nJ,show c6 [48] [48]=ydo from rfl];rfl
  .have eK:=afP (n:=n) (d:=d) h1;have⟨b,u,hb,fV⟩:=ar8 (d:=d) h0;rw[hb] at eK ⊢;simp only[go_sem,ya,Lp,nJ,eK,show (0:Int)<((u.length+1:Nat):Int) by lia,show oP 0 (.str (b::u))=F5 (.int .u8 (b:Nat)) from rfl,show ¬((b:Nat):Int)=45 by lia];unfold bV;rw[yp h0,yp h1]
def akB(h:a.num=0):a.den=1:=by simp_all
def afS(h:Rm P L)(ka:Hq K a)(hK:K<=8000000000):ah P L 262 [.str (RT a)] (aa (bV a.num)):=
 ayh h (by have:=qc ka;rw[K4] at this;lia) akB
def ayi(h:Rp P L)(ka:Hq K a)(hK:K<=8000000000):ah P L 268 [.str (RT a)] (.str (RT (-a))):=by
 have e:=afS h.toRm ka hK;have hl:=qc ka;have en:(-a).num= -a.num:=rfl;have ed:(-a).den=a.den:=rfl;rw[K4] at hl e ⊢;rw[K4,en,ed];generalize a.num=n at*
 generalize a.den=d at*
 unfold ah at e ⊢;rw[aG h.aAy];by_cases h0:n<0
 .have es:bV n= -1:=by unfold bV;rw[yz h0]
  rw[es,O6 h0] at e;rw[O6 h0] at hl ⊢;have hc:jj (45::TT (-n) d) (F5 1) (F5 ((TT (-n) d).length+1))=F5 (.str (TT (-n) d)):=by rw[mP (s:=45::TT (-n) d) (l:=1) (h:=(TT (-n) d).length+1) (by lia) (by simp)];simp
  simp only[go_sem,ya,Lr,e,show (-1:Int)<0 by decide,fy,fS,eC,hc]
 .by_cases h1:n=0
  .subst h1;have es:bV 0=0:=rfl;rw[es] at e;simp only[go_sem,ya,Lr,e,show ¬(0:Int)<0 by decide,yN,Int.neg_zero]
  .have es:bV n=1:=by unfold bV;rw[yp h0,yp h1]
   rw[es] at e
   have:TT (-n) d=45::TT n d:=by rw[O6 (by lia),yaM]
   rw[this]
   simp only[go_sem,ya,Lr,e,show ¬(1:Int)<0 by decide,show ¬(1:Int)=0 by decide,ig (a:=[45]) (b:=TT n d) (by simp;lia),yB,yL]
end
end
end VE
end
section
namespace VE
open Go (IntKind)
def asa(n:Int)(d:Nat):UU ydo n d=.aw [aa n,aa d,.bool ydo]:=rfl
def VB{a b:Int}(ha:a.natAbs<1000000000)(hb:b.natAbs<1000000000):(a*b).natAbs<1000000000000000000:=by
 rw[Int.natAbs_mul];exact yG (yaE ha hb) (by decide)
section
variable {P:aF}{L:Lib}
def ayj(h:Rm P L){a b:Int}(ha: -4000000000000000000<=a/\a<=4000000000000000000)(hb:0<b/\b<=4000000000000000000):ah P L 277 [aa a,aa b] (.str (RT (wU a b))):=by
 rw[adp hb.1];exact azv h.aAv h.Wt h.ze ha hb
def afT(h:Rp P L){a:Rat}{K:Nat}(ka:Hq K a)(hK:K<=8000000000):∃q:Bool,ah P L 276 [.str (RT a)] (UU q a.num a.den)/\(q=ydo->a.num.natAbs<1000000000/\a.den<1000000000):=
 azw h.aAA h.Fe h.BJ (n:=a.num) (d:=a.den) (by have:=qc ka;rw[K4] at this;lia)
def ayk(h:Rp P L){a b:Rat}{K M:Nat}(ka:Hq K a)(kb:Hq M b)(hK:K+M+1<=8000000000):ah P L 264 [.str (RT a),.str (RT b)] (.str (RT (a+b))):=by
 have⟨q1,e1,b1⟩:=afT h ka (by lia);have⟨q2,e2,b2⟩:=afT h kb (by lia);have aFL:=Js a b;by_cases hq:(q1=ydo/\q2=ydo)
 .obtain ⟨rfl,rfl⟩:=hq;have⟨b11,b12⟩:=b1 rfl;have⟨b21,b22⟩:=b2 rfl;have p1:=VB (a:=a.num) (b:=(b.den:Int)) (by lia) (by lia);have p2:=VB (a:=b.num) (b:=(a.den:Int)) (by lia) (by lia);have p3:=VB (a:=(a.den:Int)) (b:=(b.den:Int)) (by lia) (by lia);have e3:=ayj h.toRm (a:=a.num*b.den+b.num*a.den) (b:=(a.den:Int)*b.den) (by lia) (by lia);rw[<-add_eq] at e3;rw[asa] at e1 e2;unfold ah at e1 e2 e3 ⊢;rw[aG h.ahs]
  simp only[go_sem,ya,Lq,e1,e2,wrap64 (n:=a.num*(b.den:Int)) (by lia) (by lia),wrap64 (n:=b.num*(a.den:Int)) (by lia) (by lia),wrap64 (n:=a.num*(b.den:Int)+b.num*(a.den:Int)) (by lia) (by lia),wrap64 (n:=(a.den:Int)*(b.den:Int)) (by lia) (by lia),e3]
 .have bL:∃n1 d1 n2 d2,bW P L (D P L) 276 [.str (RT a)]=F5 (.aw [aa n1,aa d1,.bool q1])/\bW P L (D P L) 276 [.str (RT b)]=F5 (.aw [aa n2,aa d2,.bool q2]):=by
   cases q1<;>cases q2<;>exact⟨_,_,_,_,e1,e2⟩
  have⟨n1,d1,n2,d2,e1,e2⟩:=bL;have⟨x,y,e3,hx,hy⟩:=afR h.toRm ka (by lia);have⟨z,w,e4,hz,hw⟩:=afR h.toRm kb (by lia);have W5:max K M<=8000000000:=by lia
  have⟨r,e5,hr⟩:=W1 (K:=max K M) h.W4 h.n8 h.lL h.cZ W5 hx hw (ka.1.mono (by lia)).r (kb.2.mono (by lia)).r;have⟨r2,YR,od⟩:=W1 (K:=max K M) h.W4 h.n8 h.lL h.cZ W5 hz hy (kb.1.mono (by lia)).r (ka.2.mono (by lia)).r;have⟨s,e6,hs⟩:=W1 (K:=max K M) h.W4 h.n8 h.lL h.cZ W5 hy hw (ka.2.mono (by lia)).r (kb.2.mono (by lia)).r;have k1:Bd (K+M) (a.num*b.den):=ka.1.mul kb.2;have k2:Bd (K+M) (b.num*a.den):=(kb.1.mul ka.2).mono (by lia);have⟨t,e8,ht⟩:=aAm (K:=K+M) h.aAB h.W2 h.qC h.QH h.pc h.lL h.cZ (by lia) hr od k1.r k2.r;have e7:=ayg h.toRm hK ht hs (k1.WI k2) ((ka.2.mul kb.2).mono (by lia)) (by lia);rw[<-add_eq] at e7;obtain⟨xw,xl,rfl,iE,_,_,_⟩:=hx;obtain⟨yw,yl,rfl,iF,_,_,_⟩:=hy;obtain⟨zw,zl,rfl,I6,_,_,_⟩:=hz;obtain⟨ww,wl,rfl,I7,_,_,_⟩:=hw;obtain⟨dG,rl,rfl,zq,_,_,_⟩:=hr;obtain⟨rw2,rl2,rfl,ahx,_,_,_⟩:=od
  obtain⟨tw,tl,rfl,htw,_,_,_⟩:=ht;obtain⟨sw,sl,rfl,pD,_,_,_⟩:=hs;have hb:¬(q1=ydo/\q2=ydo):=hq;unfold ah at e3 e4 e5 YR e6 e7 e8 ⊢;rw[aG h.ahs]
  cases q1 with
  | false=>
   simp only[go_sem,ya,yb,Lq,aO,e1,e2,e3,e4,iE.pu,iE.ai,iE.one,iF.pu,iF.ai,iF.one,I6.pu,I6.ai,I6.one,I7.pu,I7.ai,I7.one,zq.ai,ahx.ai,htw.ai,pD.ai,cm,bi,JD,jg,U3,e5,YR,e8,e6,e7]
  | true=>
   cases q2 with
   | true=>exact absurd ⟨rfl,rfl⟩ hb
   | false=>
    simp only[go_sem,ya,yb,Lq,aO,e1,e2,e3,e4,iE.pu,iE.ai,iE.one,iF.pu,iF.ai,iF.one,I6.pu,I6.ai,I6.one,I7.pu,I7.ai,I7.one,zq.ai,ahx.ai,htw.ai,pD.ai,cm,bi,JD,jg,U3,e5,YR,e8,e6,e7]
def ayl(h:Rp P L){a b:Rat}{K M:Nat}(ka:Hq K a)(kb:Hq M b)(hK:K+M+1<=8000000000):ah P L 271 [.str (RT a),.str (RT b)] (.str (RT (a-b))):=by
 have e1:=ayi h kb (by lia);have e2:=ayk h ka kb.neg hK;rw[<-yaT] at e2;unfold ah at e1 e2 ⊢;rw[aG h.aAz];simp only[go_sem,ya,Wc,e1,e2]
end
end VE
end
section
namespace VE
open Go (IntKind)
section
variable {a b s t:List Nat}{k:Nat}
def abc{P:aF}{L:Lib}(a b c d:VC)(s:St):D P L (.seq a (.seq b (.seq c d))) s=rK P L (D P L (.seq a (.seq b c)) s) d:=by
 have e:=Ei (P:=P) (L:=L) b c d;rw[nS,nS]
 cases D P L a s with
 | none=>rfl
 | some q=>
  have⟨ex,st⟩:=q
  cases ex with
  | normal=>rw[jb,jb];exact e st
  | ret=>rfl
  | exit id=>rfl
def rF(h:a≠b):c6 a b=ydp:=by
 cases hb:c6 a b with
 | false=>rfl
 | true=>exact absurd (T8 hb) h
def ack:∀a:List Nat,c6 a a=ydo
 | []=>rfl
 | x::a=>by simp[c6,ack a]
def aek(h:a=b):c6 a b=ydo:=h▸ack a
def anu{i:Nat}(h:i<s.length):du (s.drop i)=(yC 48 s[i]&&yC s[i] 57&&du (s.drop (i+1))):=by
 rw[yW h];rfl
section
variable {P:aF}{L:Lib}
def aAH(h:Has P L 287 Lu)(hl:s.length<9223372036854775808):ah P L 287 [.str s] (.bool (du s)):=by
 have key:=jO P L [0,3] EC
  (fun k st=>∃i:Nat,st=⟨[(0,.str s),(3,aa i)],[],0,0⟩/\i+k=s.length/\du (s.drop i)=du s)
  (fun ex st=>∃tm ct,st=⟨tm,[],ct,0⟩/\((ex=.ret/\aj tm 2=.bool ydp/\du s=ydp)\/(ex=.exit 0/\du s=ydo))) ?_
 .unfold ah;rw[aG h];simp only[go_sem,Lu];generalize hq:D P L (.loop _ EC) _=q;obtain⟨ex,st,rfl,tm,ct,rfl,h2⟩:=bQ hq (key s.length) ⟨0,by simp only[go_sem,ya,az]<;>rfl,by lia,by simp⟩
  rcases h2 with ⟨rfl,h2,h3⟩ | ⟨rfl,h3⟩
  .simp only [go_sem,h2,h3]
  .simp only [go_sem,az,h3]
 .rintro k st ⟨i,rfl,hk,hs⟩;by_cases hi:i<s.length
  .rw [anu hi] at hs;by_cases h1:s[i]<48
   .right
    have e:yC 48 s[i]=ydp:=by
     cases hb:yC 48 s[i] with
     | false=>rfl
     | true=>have:=yt hb;lia
    rw[e,wW,wW] at hs;simp only[go_sem,ya,EC,show (i:Int)<s.length by lia,sT hi,show ((s[i]:Nat):Int)<48 by lia,yN];exact⟨_,_,rfl,by simp,_,_,rfl,.inl ⟨rfl,rfl,hs.symm⟩⟩
   .by_cases h2:57<s[i]
    .right
     have e:yC s[i] 57=ydp:=by
      cases hb:yC s[i] 57 with
      | false=>rfl
      | true=>have:=yt hb;lia
     rw[e,Bool.and_false,wW] at hs;simp only[go_sem,ya,EC,show (i:Int)<s.length by lia,sT hi,show ¬((s[i]:Nat):Int)<48 by lia,yP,show (57:Int)<((s[i]:Nat):Int) by lia];exact⟨_,_,rfl,by simp,_,_,rfl,.inl ⟨rfl,rfl,hs.symm⟩⟩
    .left
     rw[yy (show 48<=s[i] by lia),yy (show s[i]<=57 by lia),wM,wM] at hs;simp only[go_sem,ya,EC,show (i:Int)<s.length by lia,sT hi,show ¬((s[i]:Nat):Int)<48 by lia,yP,show ¬(57:Int)<((s[i]:Nat):Int) by lia];refine⟨_,k-1,rfl,by lia,i+1,?_,by lia,hs⟩;rw[wrap64 (by lia) (by lia)];simp only[go_sem,ya,az]<;>rfl
  .right
   simp only[go_sem,ya,EC,show ¬(i:Int)<s.length by lia];refine⟨_,_,rfl,by simp,_,_,rfl,.inr ⟨rfl,?_⟩⟩;rw[<-hs,xh (by lia)];rfl
def QJ(h:Has P L 273 E8)(Hy:Has P L 287 Lu)(hl:s.length<9223372036854775808):ah P L 273 [.str s] (.bool (dQ s)):=by
 have e:=aAH Hy hl;unfold ah at e ⊢;rw[aG h]
 match s,hl,e with
 | [],_,_=>
  simp only[go_sem,ya,E8,yI,show ((0:Nat):Int)=0 from rfl,yN];rfl
 | [b],_,e=>
  have:dQ [b]=du [b]:=by simp[dQ]
  rw[this];simp only[go_sem,ya,E8,yv,yI,yd,show ¬((1:Nat):Int)=0 by decide,show ¬(1:Int)<((1:Nat):Int) by decide,yP,e]
 | b::c::r,hl,e=>
  have hd:dQ (b::c::r)=(du (b::c::r)&& !(yo b 48)):=by simp[dQ]
  rw[hd];have BZ:r.length+2<9223372036854775808:=by simpa using hl
  by_cases hb:b=48
  .subst hb;simp only[go_sem,ya,E8,yv,show ¬((r.length+1+1:Nat):Int)=0 by lia,yP,show (1:Int)<((r.length+1+1:Nat):Int) by lia,show oP 0 (.str (48::c::r))=F5 (.int .u8 48) from rfl,yN]
   simp
  .have:yo b 48=ydp:=gF hb
   rw[this,xj,uf];simp only[go_sem,ya,E8,yv,show ¬((r.length+1+1:Nat):Int)=0 by lia,yP,show (1:Int)<((r.length+1+1:Nat):Int) by lia,show oP 0 (.str (b::c::r))=F5 (.int .u8 (b:Nat)) from rfl,show ¬((b:Nat):Int)=48 by lia,e]
def apH(h:k<=s.length):jj s (F5 0) (F5 k)=F5 (.str (s.take k)):=by
 rw[mP (by lia) h,yg]
def acm(h:k<=s.length):jj s (F5 k) (F5 s.length)=F5 (.str (s.drop k)):=by
 rw[mP h (yx _),xQ]
def avX(h:Rm P L)(hk:k=bS t)(hl:t.length<9223372036854775808)(hp:dQ (t.take k)=ydo){tm:Env}(t3:aj tm 3=.str t)(t4:aj tm 4=aa k):
  gJ [.t 2] (D P L (aC (aC (aC (aC (aC dC.body))))) ⟨tm,[],0,0⟩)=F5 (aa (
   if k<t.length/\(dQ (t.drop (k+1))=ydp\/t.drop (k+1)=[48]\/t.drop (k+1)=[49]) then 1
   else if 600<k\/600<t.length-k-1 then 4
   else if k<t.length/\wK (fN (t.take k)) (fN (t.drop (k+1)))≠1 then 1
   else 0)):=by
 have YF:k<=t.length:=by rw[hk];exact JF t
 have e3:=QJ h.QI h.Hy (s:=t.drop (k+1)) (by rw[xU];lia)
 unfold ah at e3;have DZ:(k:Int)+1=((k+1:Nat):Int):=rfl;by_cases hs:k<t.length
 .have c2:=acm (s:=t) (k:=k+1) (by lia);have lI:=Zc t (by lia);rw[<-hk] at lI;have M5:(t.drop (k+1)).length=t.length-k-1:=by rw[xU];lia
  have hlp:(t.take k).length=k:=by rw[yR];lia
  generalize hqe:t.drop (k+1)=q at*
  generalize hpe:t.take k=p at*
  cases hd:dQ q with
  | false=>
   rw[yz ⟨hs,.inl rfl⟩];rw[hd] at e3
   simp only[go_sem,ya,dC,aC,t3,t4,show (k:Int)<(t.length:Int) by lia,yN,DZ,wrapN (n:=k+1) (by lia),fy,fS,eC,c2,e3,xj]
  | true=>
   rw[hd] at e3;by_cases kT:q=[48]
   .rw [yz ⟨hs,.inr (.inl kT)⟩]
    simp only[go_sem,ya,dC,aC,t3,t4,show (k:Int)<(t.length:Int) by lia,yN,DZ,wrapN (n:=k+1) (by lia),fy,fS,eC,c2,e3,xp,nJ,aek kT]
   .by_cases qY:q=[49]
    .rw [yz ⟨hs,.inr (.inr qY)⟩]
     simp only[go_sem,ya,dC,aC,t3,t4,show (k:Int)<(t.length:Int) by lia,yN,DZ,wrapN (n:=k+1) (by lia),fy,fS,eC,c2,e3,xp,nJ,rF kT,aek qY]
    .rw [yp (by simp only[hs,yag,ybC,ycK];exact fun e=>e.elim kT qY)]
     by_cases Dp:600<k
     .rw [yz (.inl Dp)]
      simp only[go_sem,ya,dC,aC,t3,t4,show (k:Int)<(t.length:Int) by lia,yN,DZ,wrapN (n:=k+1) (by lia),fy,fS,eC,c2,e3,xp,nJ,rF kT,rF qY,show (600:Int)<(k:Int) by lia]
     .by_cases aAI:600<t.length-k-1
      .rw [yz (.inr aAI)]
       simp only[go_sem,ya,dC,aC,t3,t4,show (k:Int)<(t.length:Int) by lia,yN,DZ,wrapN (n:=k+1) (by lia),fy,fS,eC,c2,e3,xp,nJ,rF kT,rF qY,show ¬(600:Int)<(k:Int) by lia,yP,show (t.length:Int)-(k:Int)=((t.length-k:Nat):Int) by lia,wrapN (n:=t.length-k) (by lia),show ((t.length-k:Nat):Int)-1=((t.length-k-1:Nat):Int) by lia,wrapN (n:=t.length-k-1) (by lia),show (600:Int)<((t.length-k-1:Nat):Int) by lia]
      .rw [yp (by lia)];have zL:=Ge _ rfl hp;have qZ:=Ge _ rfl hd;have gP:fN q≠0:=fun e=>kT (by rw[<-qZ,e];rfl)
       have so:fN q≠1:=fun e=>qY (by rw[<-qZ,e];rfl)
       generalize fN p=n at*
       generalize fN q=d at*
       have hT:TT (n:Int) d=t:=by
        unfold TT;rw[nG,yp so,zL,qZ];exact lI.symm
       have⟨x,y,e4,hx,hy⟩:=ahw h.toRb (n:=(n:Int)) (d:=d) (by rw[wX,zL];lia) (by rw[qZ];lia)
       rw[hT] at e4;obtain⟨xw,xl,rfl,iE,dx,nx,vx⟩:=hx;obtain⟨yw,yl,rfl,iF,dy,ny,vy⟩:=hy;rw[wX] at vx vy;have sf:n<10^p.length:=by rw[<-zL];exact J0 n
       have YS:d<10^q.length:=by rw[<-qZ];exact J0 d
       obtain⟨K,hK⟩:∃K:Nat,K=600:=⟨_,rfl⟩;have RL:∀{m j:Nat},m<10^j->j<=K->m<1000000000^K:=fun {m j} h1 h2=>
        yG h1 (xu (xd (by decide) h2) (um (by decide) K))
       have lxl:=kJ dx nx (by rw[vx];exact RL sf (by lia))
       have lyl:=kJ dy ny (by rw[vy];exact RL YS (by lia))
       have⟨g,lg,e5,hg,dgg,ngg,vg⟩:=afN h.aho h.L5 h.n8 h.qC h.rT h.cZ h.zg iE iF dx dy nx ny (by lia) (by lia);rw[vx,vy] at vg;have FF:0<wK n d:=Nat.gcd_pos_of_pos_right _ (by lia);unfold ah at e4 e5;by_cases W6:lg.length=1
       .obtain ⟨z,rfl⟩:∃z,lg=[z]:=by
         cases lg with
         | nil=>simp at W6
         | cons z r=>cases r with
          | nil=>exact⟨z,rfl⟩
          | cons y r=>simp at W6
        have gz:=mR.1 dgg;have Nb:z=(wK n d:Nat):=by simp[dv] at vg;lia
        have e8:=hg.bj (i:=0) (by simp);simp only[wq] at e8;by_cases jl:wK n d=1
        .rw [yp (by simp[jl])]
         simp only[go_sem,ya,yb,dC,aC,t3,t4,show (k:Int)<(t.length:Int) by lia,yN,DZ,wrapN (n:=k+1) (by lia),fy,fS,eC,c2,e3,xp,nJ,rF kT,rF qY,show ¬(600:Int)<(k:Int) by lia,yP,show (t.length:Int)-(k:Int)=((t.length-k:Nat):Int) by lia,wrapN (n:=t.length-k) (by lia),show ((t.length-k:Nat):Int)-1=((t.length-k-1:Nat):Int) by lia,wrapN (n:=t.length-k-1) (by lia),show ¬(600:Int)<((t.length-k-1:Nat):Int) by lia,e4,aO,iE.pu,iE.ai,iE.one,iF.pu,iF.ai,iF.one,jg,bg,yd,cO,e5,hg.len,hg.shut,yv,yI,show ((1:Nat):Int)=(1:Int) from rfl,xp,e8,Nb,jl]
        .rw [yz ⟨hs,jl⟩]
         simp only[go_sem,ya,yb,dC,aC,t3,t4,show (k:Int)<(t.length:Int) by lia,yN,DZ,wrapN (n:=k+1) (by lia),fy,fS,eC,c2,e3,xp,nJ,rF kT,rF qY,show ¬(600:Int)<(k:Int) by lia,yP,show (t.length:Int)-(k:Int)=((t.length-k:Nat):Int) by lia,wrapN (n:=t.length-k) (by lia),show ((t.length-k:Nat):Int)-1=((t.length-k-1:Nat):Int) by lia,wrapN (n:=t.length-k-1) (by lia),show ¬(600:Int)<((t.length-k-1:Nat):Int) by lia,e4,aO,iE.pu,iE.ai,iE.one,iF.pu,iF.ai,iF.one,jg,bg,yd,cO,e5,hg.len,hg.shut,yv,yI,show ((1:Nat):Int)=(1:Int) from rfl,xp,e8,Nb,show ¬((wK n d:Nat):Int)=1 by lia,xj]
       .have jl:wK n d≠1:=fun e=>W6 (by
         have h1:lg.length<=1:=ado dgg ngg (by lia);have h2:0<lg.length:=by
          rcases xx lg.length with h0 | h0
          .rw [yQ h0] at vg;simp[dv] at vg;lia
          .exact h0
         lia)
        rw[yz ⟨hs,jl⟩]
        simp only[go_sem,ya,yb,dC,aC,t3,t4,show (k:Int)<(t.length:Int) by lia,yN,DZ,wrapN (n:=k+1) (by lia),fy,fS,eC,c2,e3,xp,nJ,rF kT,rF qY,show ¬(600:Int)<(k:Int) by lia,yP,show (t.length:Int)-(k:Int)=((t.length-k:Nat):Int) by lia,wrapN (n:=t.length-k) (by lia),show ((t.length-k:Nat):Int)-1=((t.length-k-1:Nat):Int) by lia,wrapN (n:=t.length-k-1) (by lia),show ¬(600:Int)<((t.length-k-1:Nat):Int) by lia,e4,aO,iE.pu,iE.ai,iE.one,iF.pu,iF.ai,iF.one,jg,bg,yd,cO,e5,hg.len,hg.shut,show ¬(lg.length:Int)=1 by lia,xj]
 .have hkt:k=t.length:=by lia
  rw[yp (by lia)];by_cases Dp:600<k
  .rw [yz (.inl Dp)];simp only[go_sem,ya,dC,aC,t3,t4,show ¬(k:Int)<(t.length:Int) by lia,yP,show (600:Int)<(k:Int) by lia,yN]
  .rw [yp (by lia),yp (by lia)]
   simp only[go_sem,ya,dC,aC,t3,t4,show ¬(k:Int)<(t.length:Int) by lia,yP,show ¬(600:Int)<(k:Int) by lia,show (t.length:Int)-(k:Int)=((t.length-k:Nat):Int) by lia,wrapN (n:=t.length-k) (by lia),show ((t.length-k:Nat):Int)-1= -1 by lia,show IntKind.wrap .i64 (-1)= -1 by rfl,show ¬(600:Int)<(-1:Int) by lia]
def ael(h:Rm P L){b:Nat}{r:List Nat}{neg:Bool}(gA:decide (((b:Nat):Int)=45)=neg)(hl:t.length<9223372036854775808){tm:Env}(t0:aj tm 0=.str (b::r))(t3:aj tm 3=.str t):
  gJ [.t 2] (D P L (aC (aC (aC dC.body))) ⟨tm,[],0,0⟩)=F5 (aa (n5 neg t)):=by
 obtain⟨k,hk⟩:∃k,k=bS t:=⟨_,rfl⟩;have YF:k<=t.length:=by rw[hk];exact JF t
 have e1:=LM h.Fe (s:=t) (by lia);have e2:=QJ h.QI h.Hy (s:=t.take k) (by rw[yR];lia)
 have e3:=QJ h.QI h.Hy (s:=t.drop (k+1)) (by rw[xU];lia)
 unfold n5;rw[<-hk] at e1 ⊢;have c1:=apH YF;have hI:oP 0 (.str (b::r))=F5 (.int .u8 (b:Nat)):=rfl;unfold ah at e1 e2 e3;generalize hp:t.take k=p at*
 generalize hq:t.drop (k+1)=q at*
 cases hd:dQ p with
 | false=>
  rw[yz (.inl rfl)];rw[hd] at e2;simp only[go_sem,ya,dC,aC,t3,e1,fy,fS,eC,c1,e2,xj]
 | true=>
  rw[hd] at e2;by_cases hz:neg=ydo/\p=[48]
  .rw [yz (.inr hz)];have⟨z1,z2⟩:=hz;rw[z1] at gA;have hb:=of_decide_eq_true gA;subst z2;simp only[go_sem,ya,dC,aC,t0,t3,e1,fy,fS,eC,c1,e2,xp,hI,hb,yN,nJ,show c6 [48] [48]=ydo from rfl]
  .rw [yp (by simp only[ybC,ycK];exact hz)]
   have fin:∀tm',aj tm' 3=.str t->aj tm' 4=aa k->D P L (.seq (bw (aC (aC (aC dC.body)))) (bw (aC (aC (aC (aC dC.body)))))) ⟨tm,[],0,0⟩=F5 (.normal,⟨tm',[],0,0⟩)->gJ [.t 2] (D P L (aC (aC (aC dC.body))) ⟨tm,[],0,0⟩)=F5 (aa (
     if k<t.length/\(dQ q=ydp\/q=[48]\/q=[49]) then 1
     else if 600<k\/600<t.length-k-1 then 4
     else if k<t.length/\wK (fN p) (fN q)≠1 then 1
     else 0)):=fun tm' f3 f4 e=>by
    show gJ [.t 2] (D P L (.seq (bw (aC (aC (aC dC.body)))) (.seq (bw (aC (aC (aC (aC dC.body))))) (aC (aC (aC (aC (aC dC.body))))))) ⟨tm,[],0,0⟩)=_
    rw[Ei,e,jb,<-hp,<-hq];exact avX h hk hl (by rw[hp];exact hd) f3 f4
   by_cases hb:((b:Nat):Int)=45
   .have aAJ:p≠[48]:=fun e=>hz ⟨by rw[<-gA];exact xf hb,e⟩
    refine fin _ ?_ ?_ (by simp only[go_sem,ya,dC,bw,aC,t0,t3,e1,fy,fS,eC,c1,e2,xp,hI,hb,yN,nJ,rF aAJ]<;>rfl)<;>simp only[go_sem,ya,t3]
   .refine fin _ ?_ ?_ (by simp only[go_sem,ya,dC,bw,aC,t0,t3,e1,fy,fS,eC,c1,e2,xp,hI,hb,yP]<;>rfl)<;>simp only[go_sem,ya,t3]
def W7(h:Rm P L)(hl:s.length<9223372036854775808):ah P L 263 [.str s] (aa (cI s)):=by
 unfold ah;rw[aG h.aAF]
 cases s with
 | nil=>
  have e1:=LM h.Fe (s:=[]) (by simp);have e2:=QJ h.QI h.Hy (s:=[]) (by simp);unfold ah at e1 e2;have hc:jj [] (F5 0) (F5 0)=F5 (.str []):=rfl;simp only[go_sem,ya,dC,yI,show ¬(0:Int)<((0:Nat):Int) by decide,yP,e1,bS,fy,fS,eC,hc,e2,show dQ []=ydp from rfl,xj];rfl
 | cons b t=>
  have BZ:t.length+1<9223372036854775808:=by simpa using hl
  have hI:oP 0 (.str (b::t))=F5 (.int .u8 (b:Nat)):=rfl;by_cases hb:b=45
  .subst hb;have fin:∀tm',aj tm' 0=.str (45::t)->aj tm' 3=.str t->D P L (.seq (bw dC.body) (.seq (bw (aC dC.body)) (bw (aC (aC dC.body))))) ⟨[(0,.str (45::t))],[],0,0⟩=F5 (.normal,⟨tm',[],0,0⟩)->gJ [.t 2] (D P L dC.body ⟨[(0,.str (45::t))],[],0,0⟩)=F5 (aa (cI (45::t))):=fun tm' f0 f3 e=>by
    show gJ [.t 2] (D P L (.seq (bw dC.body) (.seq (bw (aC dC.body)) (.seq (bw (aC (aC dC.body))) (aC (aC (aC dC.body)))))) ⟨[(0,.str (45::t))],[],0,0⟩)=_
    rw[abc,e,jb]
    exact ael h (b:=45) rfl (by lia) f0 f3
   have hc:jj (45::t) (F5 1) (F5 (t.length+1))=F5 (.str t):=by
    have:=acm (s:=45::t) (k:=1) (by simp)
    simpa using this
   refine fin _ ?_ ?_ (by simp only[go_sem,ya,dC,bw,aC,yv,show (0:Int)<((t.length+1:Nat):Int) by lia,yN,Fc,fy,fS,eC,hc]<;>rfl)<;>simp only[go_sem,ya]
  .have fin:∀tm',aj tm' 0=.str (b::t)->aj tm' 3=.str (b::t)->D P L (.seq (bw dC.body) (.seq (bw (aC dC.body)) (bw (aC (aC dC.body))))) ⟨[(0,.str (b::t))],[],0,0⟩=F5 (.normal,⟨tm',[],0,0⟩)->gJ [.t 2] (D P L dC.body ⟨[(0,.str (b::t))],[],0,0⟩)=F5 (aa (cI (b::t))):=fun tm' f0 f3 e=>by
    show gJ [.t 2] (D P L (.seq (bw dC.body) (.seq (bw (aC dC.body)) (.seq (bw (aC (aC dC.body))) (aC (aC (aC dC.body)))))) ⟨[(0,.str (b::t))],[],0,0⟩)=_
    rw[abc,e,jb]
    have:=ael h (b:=b) (neg:=ydp) (yY (by lia)) (by simpa using hl) f0 f3
    rw[this];simp only[cI,yp hb]
   refine fin _ ?_ ?_ (by simp only[go_sem,ya,dC,bw,aC,yv,show (0:Int)<((t.length+1:Nat):Int) by lia,yN,hI,show ¬((b:Nat):Int)=45 by lia]<;>rfl)<;>simp only[go_sem,ya]
end
end
end VE
end
section
namespace VE
open Go (IntKind)
section
variable {l:List (List Nat)}
def nn(v:AV)(l:List (List Nat)):Prop:=cF v (l.map AV.str)
section
variable {v:AV}{l:List (List Nat)}
def nn.len(h:nn v l){hp:Hp}:iM hp 1 v=F5 (.int .i64 (l.length:Nat)):=by
 have:=cF.len (hp:=hp) h
 grind
def nn.pu(h:nn v l):aV v=ydo:=cF.pu h
def nn.bJ(h:nn v l):VE.bJ v=v:=cF.bJ h
def nn.bj(h:nn v l){i:Nat}(hi:i<l.length):ik 1 i v=F5 (.bt (.str l[i]::(l.map AV.str).drop (i+1))):=by
 have:=cF.bj h (i:=i) (by simpa using hi)
 grind
def adr(e:Bool)(l:List (List Nat)):nn (.ap e l.length (l.map AV.str)) l:=by
 have:=Gp e (l.map AV.str)
 rwa[xi] at this
end
section
variable {P:aF}{L:Lib}
def anv{i:Nat}(h:i<l.length):bF ((l.drop i).map cI)=if cI l[i]=0 then bF ((l.drop (i+1)).map cI) else cI l[i]:=by
 rw[yW h];rfl
def aym(h:Rm P L)(Dg:Has P L 261 Hh){v:AV}(hv:nn v l)(hl:l.length<=1000000)(hs:∀s,s∈l->s.length<9223372036854775808):ah P L 261 [v] (aa (bF (l.map cI))):=by
 have key:=jO P L [0,3] GF
  (fun k st=>∃i:Nat,st=⟨[(0,v),(3,aa i)],[],0,0⟩/\i+k=l.length/\bF ((l.drop i).map cI)=bF (l.map cI))
  (fun ex st=>∃tm ct,st=⟨tm,[],ct,0⟩/\((ex=.ret/\aj tm 2=aa (bF (l.map cI)))\/(ex=.exit 0/\bF (l.map cI)=0))) ?_
 .unfold ah;rw[aG Dg];simp only[go_sem,Hh];generalize hq:D P L (.loop _ GF) _=q;obtain⟨ex,st,rfl,tm,ct,rfl,h2⟩:=bQ hq (key l.length) ⟨0,by simp only[go_sem,ya,az,av hv.pu]<;>rfl,by lia,by simp⟩
  rcases h2 with ⟨rfl,h2⟩ | ⟨rfl,h3⟩
  .simp only [go_sem,h2]
  .simp only [go_sem,az,h3]
 .rintro k st ⟨i,rfl,hk,hd⟩;by_cases hi:i<l.length
  .rw [anv hi] at hd;have e1:=W7 h (hs l[i] (List.getElem_mem hi));have ev:=hv.bj hi;unfold ah at e1;by_cases h1:cI l[i]=0
   .left
    rw[yz h1] at hd;rw[h1] at e1;simp only[go_sem,ya,GF,hv.len,show (i:Int)<l.length by lia,ev,e1,yN,xp];refine⟨_,k-1,rfl,by lia,i+1,?_,by lia,hd⟩;rw[wrap64 (by lia) (by lia)];simp only[go_sem,ya,az,av hv.pu]<;>rfl
   .right
    rw[yp h1] at hd;simp only[go_sem,ya,GF,hv.len,show (i:Int)<l.length by lia,ev,e1,h1,yP,xj];refine⟨_,_,rfl,by simp,_,_,rfl,.inl ⟨rfl,?_⟩⟩;rw[<-hd];simp only[go_sem]
  .right
   simp only[go_sem,ya,GF,hv.len,show ¬(i:Int)<l.length by lia];refine⟨_,_,rfl,by simp,_,_,rfl,.inr ⟨rfl,?_⟩⟩;rw[<-hd,xh (by lia)];rfl
def ayn(h:Rm P L)(Dg:Has P L 261 Hh){v:AV}(hv:nn v l)(hl:l.length<=1000000)(hs:∀s,s∈l->s.length<=1000000000):ah P L 261 [v] (aa (bF (l.map cI))):=aym h Dg hv hl (fun s h=>by have:=hs s h;lia)
end
end
end VE
end
section
namespace VE
open Go (IntKind)
open Classical in
noncomputable def cf(s:List Nat):Rat:=if h:cI s=0 then Classical.choose (avB h) else 0
def JS{s:List Nat}(h:cI s=0):s=RT (cf s)/\(aA (cf s).num.natAbs).length<=600/\(aA (cf s).den).length<=600:=by
 unfold cf
 grind
def abd{z:Int}{k M:Nat}(h:(aA z.natAbs).length<=k)(hM:4*k<=M):Bd M z:=by
 have h1:=J0 z.natAbs;have h2:=J4 (aA z.natAbs).length;have h3:(2:Nat)^(4*(aA z.natAbs).length)<=2^M:=xd (by decide) (by lia);exact yG h1 (xu h2 h3)
def OM{s:List Nat}(h:cI s=0){M:Nat}(hM:2400<=M):Hq M (cf s):=by
 have⟨_,h1,h2⟩:=JS h
 exact⟨abd h1 (by lia),abd (z:=((cf s).den:Int)) (by rw[wX];exact h2) (by lia)⟩
noncomputable def ahy(s:List Nat)(least:Int):Int:=if cI s=0 then (if bV (cf s).num<least then 3 else 0) else cI s
abbrev Nc(x y:List Nat):AV:=.agg [.str x,.str y]
abbrev R2(a b:Rat):AV:=.agg [.str (RT a),.str (RT b)]
instance (k:Nat) (z:Int):Decidable (Bd k z):=inferInstanceAs (Decidable (z.natAbs<2^k))
def ahz:Hq 2 0:=⟨by decide,by decide⟩
section
variable {P:aF}{L:Lib}
def aAK(h:Rp P L)(mA:Has P L 315 C7){a b:Rat}{K M:Nat}(ka:Hq K a)(kb:Hq M b)(hK:K+M+1<=8000000000):ah P L 315 [.str (RT a),.str (RT b)] (aa (bV (a-b).num)):=by
 have e1:=ayl h ka kb hK;have e2:=afS h.toRm (ka.sub kb) hK;unfold ah at e1 e2 ⊢;rw[aG mA];simp only[go_sem,ya,C7,e1,e2]
end
end VE
end
section
namespace VE
open Go (IntKind)
def ZE(q:Rat):q.num<0↔q<0:=by
 have h:=@ycq q
 grind
def ads(a b:Rat):bV (a-b).num=rS a b:=by
 unfold bV rS;by_cases h1:a<b
 .rw [yz ((ZE _).2 (by grind)),yz h1]
 .rw [yp (fun e=>h1 (by have:=(ZE _).1 e;grind)),yp h1]
  by_cases h2:a=b
  .subst h2;rw[yz (by rw[Rat.sub_self];rfl),yz rfl]
  .rw [yp (fun e=>h2 (by have:=Rat.num_eq_zero.1 e;grind)),yp h2]
def avY(hs h:Rat):Bool:=decide (hs=0)||decide (h<hs)
end VE
end
section
namespace VE
open Go (IntKind)
section
variable {s1 s2 s3 s4:Int}{w1 w2 w3 w4:AV}{l1 l2 l3 l4:List Nat}
def ON{tm:Env}{a b c d x y z w:AV}{x' y' z' w':AV}{r:List (Nat×Nat×X)}(h1:db a=ydo)(h2:db b=ydo)(h3:db c=ydo)(h4:db d=ydo):fJ tm [x',y',z',w',x,y,z,w] 0 4 [a,b,c,d] r=fill tm [a,b,c,d,x,y,z,w] r:=by
 rw[nI (by rfl) (by simp) (by simp[bP,h1,h2,h3,h4])];rfl
def OO{tm:Env}{a b c d x y z w:AV}{x' y' z' w':AV}{r:List (Nat×Nat×X)}(h1:db a=ydo)(h2:db b=ydo)(h3:db c=ydo)(h4:db d=ydo):fJ tm [x,y,z,w,x',y',z',w'] 4 4 [a,b,c,d] r=fill tm [x,y,z,w,a,b,c,d] r:=by
 rw[nI (by rfl) (by simp) (by simp[bP,h1,h2,h3,h4])];rfl
def eS(a b c d:AV)(r:List AV):fU 4 ydo (a::b::c::d::r)=F5 (.agg [a,b,c,d]):=rfl
end
end VE
end
section
namespace VE
open Go (IntKind)
structure F4(c1 c2 c3 c4:AV):Prop where
 ai:∀(n:Nat) (hp:Hp),freeze (n+20) hp (.agg [c1,c2,c3,c4])=F5 (.agg [c1,c2,c3,c4],hp)
 dX:∀hp:Hp,result hp (.agg [c1,c2,c3,c4])=F5 (.agg [c1,c2,c3,c4])
 st:∀(hp:Hp) (ct id:Nat) (a b c d:AV),gO hp ct id 0 4 [c1,c2,c3,c4] (F5 (.cells ydo ydo ydo 4 [a,b,c,d]))=F5 (.aw [],aU hp id (.cells ydo ydo ydo 4 [c1,c2,c3,c4]),ct)
 bx:∀ct:Nat,oX ct 4 [c1,c2,c3,c4]=F5 (.ptr ct 0,.cells ydo ydo ydo 4 [c1,c2,c3,c4])
 o1:db c1=ydo
 o2:db c2=ydo
 o3:db c3=ydo
 o4:db c4=ydo
 pu:aV (.agg [c1,c2,c3,c4])=ydo
 z1:∀(n:Nat) (hp:Hp),freeze (n+1) hp c1=F5 (c1,hp)
 z2:∀(n:Nat) (hp:Hp),freeze (n+1) hp c2=F5 (c2,hp)
 z3:∀(n:Nat) (hp:Hp),freeze (n+1) hp c3=F5 (c3,hp)
 z4:∀(n:Nat) (hp:Hp),freeze (n+1) hp c4=F5 (c4,hp)
def bH.gen{v:AV}{a:Rat}(h:bH v a):∃c1 c2 c3 c4,v=.agg [c1,c2,c3,c4]/\F4 c1 c2 c3 c4:=by
 obtain⟨s1,w1,s2,w2,rfl,h1,h2⟩:=h;have⟨l1,u1⟩:=h1.aK;have⟨l2,u2⟩:=h2.aK;refine⟨_,_,_,_,rfl,fun n hp=>?_,lh u1 u2,fun hp ct id a b c d=>lf u1 u2 hp ct id a b c d,fun ct=>by simp only[go_sem,yb,aO,u1.pu,u1.one,u2.pu,u2.one],rfl,u1.one,rfl,u2.one,by simp[aV,aE,u1.pu,u2.pu],fun _ _=>rfl,fun n _=>u1.ai n,fun _ _=>rfl,fun n _=>u2.ai n⟩;exact cm _ _ (by simp only[go_sem,u1.ai,u2.ai])
def adt{a b:Int}:bF [a,b]=0↔a=0/\b=0:=by
 simp only[bF]
 grind
def asb{a b c:Int}:bF [a,b,c]=0↔a=0/\b=0/\c=0:=by
 simp only[bF];by_cases h:a=0<;>by_cases h2:b=0<;>by_cases h3:c=0<;>simp[h,h2,h3]
end VE
end
section
namespace VE
open Go (IntKind)
def ayo(n k:Nat)(h:n<k)(h0:k≠0):Hq k ((2:Rat)^n):=by
 refine⟨?_,?_⟩
 .rw [ydg];unfold Bd;show ((2:Int)^n).natAbs<_
  rw[Int.natAbs_pow];exact vE (by decide) h
 .rw [ydh];unfold Bd;show (((1:Nat)^n:Nat):Int).natAbs<_
  rw[Nat.one_pow];exact uh h0
def acn(k:Nat){z:Int}(h:Bd k z)(h0:k≠0):Hq k ((z:Int):Rat):=⟨by rw[tR];exact h,by rw[tS];exact uh h0⟩
def afU(k j:Nat){s:Bool}{M:Nat}(h:M<2^j)(hj:j<=k):Bd k (cp s M):=by
 unfold Bd cp
 have:(if s=ydo then -(M:Int) else (M:Int)).natAbs=M:=by split<;>omega
 rw[this];exact yG h (xd (by decide) hj)
def mg(s:Bool)(M:Nat):Rat:=((cp s M:Int):Rat)*p2 (-149)
section
variable {P:aF}{L:Lib}
def ahA(h:Fr' P L)(zf:Has P L 155 E7)(Hz:Has P L 241 Lo){v:AV}{a:Rat}{K k:Nat}(hv:bH v a)(ka:Hq K a)(hK:K*k+1<=30000000000)(hk:k<9223372036854775808):∃r,ah P L 241 [v,aa k] r/\bH r (a^k):=by
 obtain⟨s1,w1,s2,w2,rfl,h1,h2⟩:=hv;obtain⟨l1,u1⟩:=h1.aK;obtain⟨l2,u2⟩:=h2.aK;obtain⟨n,e1,hn⟩:=WO h.toNu zf ⟨s1,w1,rfl,h1⟩ ka.1 hK hk;obtain⟨d,e2,hd⟩:=WO h.toNu zf ⟨s2,w2,rfl,h2⟩ ka.2 hK hk;obtain⟨s3,w3,rfl,h3⟩:=hn;obtain⟨s4,w4,rfl,h4⟩:=hd;obtain⟨l3,u3⟩:=h3.aK;obtain⟨l4,u4⟩:=h4.aK;refine⟨.agg [aa s3,w3,aa s4,w4],?_,s3,w3,s4,w4,rfl,by rw[ydg];exact h3,by rw[ydh,Int.natCast_pow];exact h4⟩
 unfold ah at e1 e2;unfold ah;rw[aG Hz];simp only[go_sem,ya,yb,Lo,aO,u1.pu,u1.ai,u1.one,u2.pu,u2.ai,u2.one,u3.one,u4.one,bg,yd,sW,C0,cm,e1,e2,bi,Eo,Ep,lf u3 u4,cJ,cK,yg,gS,lh u3 u4]
def aem:Hq 2 (2:Rat):=⟨by unfold Bd;decide,by unfold Bd;decide⟩
def aAL(h:Fr' P L)(zf:Has P L 155 E7)(Hz:Has P L 241 Lo)(QK:Has P L 228 Lm){k:Int}(hk: -100000<=k/\k<=100000):∃r,ah P L 228 [aa k] r/\bH r (p2 k):=by
 obtain⟨t,e1,ht⟩:=DP h (z:=2) (by decide) (by decide);have ht:bH t (2:Rat):=ht;have un:=zX;obtain⟨t1,t2,t3,t4,rfl,ft⟩:=ht.gen;by_cases c:k<0
 .obtain ⟨n,hn⟩:∃n:Nat,k= -(n:Int):=⟨k.natAbs,by omega⟩;obtain⟨q,e2,hq⟩:=ahA h zf Hz ht aem (k:=n) (by omega) (by omega);have kq:Hq 100001 ((2:Rat)^n):=ayo n 100001 (by omega) (by decide);have h0:(2:Rat)^n≠0:=by
   have:=afG n
   rwa[show p2 n=(2:Rat)^n from tB _ _] at this
  obtain⟨r,e3,hr⟩:=m73 h hq h0 kq (by decide);obtain⟨q1,q2,q3,q4,rfl,fq⟩:=hq.gen;have hp:((2:Rat)^n)⁻¹=p2 k:=by
   rw[hn];unfold p2;rw[ycT,tB]
  rw[hp] at hr;have bB:=hr;obtain⟨s1,w1,s2,w2,rfl,k1,k2⟩:=hr;obtain⟨l1,u1⟩:=k1.aK;obtain⟨l2,u2⟩:=k2.aK;refine⟨_,?_,bB⟩;have wn:IntKind.wrap .i64 (0-k)=(n:Int):=by rw[wrap64 (by omega) (by omega)];omega
  unfold ah at e1 e2 e3;unfold ah;rw[aG QK];simp only[go_sem,ya,yb,Lm,aO,c,yN,e1,ft.ai,wn,e2,fq.ai,e3,bi,lf u1 u2,cJ,cK,yg,gS,lh u1 u2]
 .obtain ⟨n,hn⟩:∃n:Nat,k=(n:Int):=⟨k.natAbs,by omega⟩;subst hn;obtain⟨r,e2,hr⟩:=ahA h zf Hz ht aem (k:=n) (by omega) (by omega);have hp:(2:Rat)^n=p2 n:=(tB _ _).symm;rw[hp] at hr;have bB:=hr;obtain⟨s1,w1,s2,w2,rfl,k1,k2⟩:=hr;obtain⟨l1,u1⟩:=k1.aK;obtain⟨l2,u2⟩:=k2.aK;refine⟨_,?_,bB⟩;unfold ah at e1 e2;unfold ah;rw[aG QK];simp only[go_sem,ya,yb,Lm,aO,c,yP,e1,ft.ai,e2,bi,lf u1 u2,cJ,cK,yg,gS,lh u1 u2]
end
end VE
end
section
namespace VE
open Go (IntKind)
section
variable {s:Bool}{M:Nat}
def Gj(b:Nat):refs (.ao .f32 b)=[]:=rfl
def Gr(f:Nat->Option Nat)(b:Nat):br f (.ao .f32 b)=.ao .f32 b:=rfl
def z7(n:Nat)(hp:Hp)(b:Nat):freeze (n+1) hp (.ao .f32 b)=F5 (.ao .f32 b,hp):=rfl
structure Fx(P:aF)(L:Lib):Prop extends Fr' P L where
 zf:Has P L 155 E7
 QK:Has P L 228 Lm
 aAM:Has P L 232 nW
 Hz:Has P L 241 Lo
def sD:Hp:=[(0,.cells ydo ydo ydo 4 [.int .i64 0,.af,.int .i64 0,.af])]
section
variable {P:aF}{L:Lib}
def avZ(hM:M<2^277):
  ew P L [0,2,3] Kr (fun d st=>∃(b:Nat) (N:Nat) (k:Nat),d=N/\Fl b s N/\N*2^k=M/\(M=0->k=0)/\st=⟨[(0,.ao .f32 b),(2,.ptr 0 0),(3,aa k)],sD,1,0⟩) (fun ex s'=>∃tm ct b N,∃k:Nat,s'=⟨tm,sD,ct,0⟩/\ex=.exit 0/\Fl b s N/\N*2^k=M/\N<2^173/\k<277/\aj tm 0=.ao .f32 b/\aj tm 2=.ptr 0 0/\aj tm 3=aa k):=by
 apply eE;rintro d st ⟨b,N,k,hd,hN,hq,hz,rfl⟩;have hk:k<277:=by
  by_cases h0:M=0
  .rw [hz h0];decide
  .have N0:0<N:=by
    rcases xx N with q | q
    .rw [q,vt] at hq;exact absurd hq.symm h0
    .exact q
   have h1:2^k<=N*2^k:=ybj _ N0;exact aAj k 277 (wA (by rw[hq] at h1;exact h1) hM)
 obtain⟨a,e1,ha⟩:=ax8 hN;have e2:=ax6 ha ax9;have hc:(cp ydp (2^173)<=cp ydp N)↔2^173<=N:=Int.ofNat_le;unfold sD;by_cases c:2^173<=N
 .left
  obtain⟨b',e3,bI⟩:=avJ hN (hN.even c);have DA:=hN.even c;rw[xf (hc.2 c)] at e2;have wk:IntKind.wrap .i64 ((k:Int)+1)=((k+1:Nat):Int):=wrap64 (by omega) (by omega);simp only[go_sem,ya,Kr,afJ,jf,e1,e2,e3,wk];have nd:0<2^k:=xt _;have B8:M≠0:=fun q=>by
   rw[q] at hq
   have:=vO (show 0<N by omega) nd
   omega
  refine⟨_,N/2,rfl,by omega,b',N/2,k+1,rfl,bI,by rw[xq,xA (2^k),<-xm,show N/2*2=N by omega,hq],fun q=>absurd q B8,?_⟩;simp only[go_sem,ya,yb,az,Gj,Gr]<;>rfl
 .right
  rw[yY (fun q=>c (hc.1 q))] at e2;simp only[go_sem,ya,Kr,afJ,jf,e1,e2];exact⟨_,_,rfl,by simp,_,_,b,N,k,rfl,rfl,hN,hq,by omega,hk,by simp only[go_sem,ya],by simp only[go_sem,ya],by simp only[go_sem,ya]⟩
def av0:
  ew P L [0,2,3] Ks (fun d st=>∃(b:Nat) (N:Nat) (j:Nat) (k:Int),d+j=149/\Fl b s N/\2^j∣N/\N<2^173/\(N:Rat)*p2 k=(M:Rat)/\-149<=k+j/\k+j<=277/\st=⟨[(0,.ao .f32 b),(2,.ptr 0 0),(3,aa k)],sD,1,0⟩) (fun ex s'=>∃tm ct b N,∃k:Int,s'=⟨tm,sD,ct,0⟩/\ex=.exit 2/\Fl b s N/\N%2^149=0/\N<2^173/\(N:Rat)*p2 k=(M:Rat)/\-298<=k/\k<=277/\aj tm 0=.ao .f32 b/\aj tm 2=.ptr 0 0/\aj tm 3=aa k):=by
 apply eE;rintro d st ⟨b,N,j,k,hd,hN,hj,aM,hq,k1,k2,rfl⟩;have Fo:N<2^200:=uo aM (by decide);have e1:=adn hN Fo;have hn:N/2^149<2^24:=by rw[xO (xt _),<-xM];exact aM
 have ha:(cp s (N/2^149)).natAbs=N/2^149:=by unfold cp;split<;>omega
 obtain⟨c,e2,hc⟩:=arU (n:=cp s (N/2^149)) (by omega);rw[ha] at hc;have e3:=ax7 hN hc;have fR:=xT N (2^149);have hw:(cp s N=cp (decide (cp s (N/2^149)<0)) (N/2^149*2^149))↔N%2^149=0:=by
  have hX0:N/2^149=0->N/2^149*2^149=0:=fun h=>by rw[h,vt]
  generalize hQ:N/2^149=q at*
  generalize hR:N%2^149=r at*
  rw[xA] at fR;generalize q*2^149=X at*
  unfold cp
  cases s with
  | false=>
   have:decide ((if ydp=ydo then -(q:Int) else (q:Int))<0)=ydp:=yY (by simp)
   rw[this];simp;omega
  | true=>
   rw[yz rfl,yz rfl];by_cases q0:q=0
   .have hX:=hX0 q0
    have:decide (-(q:Int)<0)=ydp:=yY (by omega)
    rw[this,yp (by decide)];omega
   .have:decide (-(q:Int)<0)=ydo:=xf (by omega)
    rw[this,yz rfl];omega
 unfold sD;by_cases w:N%2^149=0
 .right
  rw[xf (hw.2 w)] at e3;simp only[go_sem,ya,Ks,e1,e2,e3,xp];have aFp:j<=149:=by omega
  exact⟨_,_,rfl,by simp,_,_,b,N,k,rfl,rfl,hN,w,aM,hq,by omega,by omega,by simp only[go_sem,ya],by simp only[go_sem,ya],by simp only[go_sem,ya]⟩
 .left
  rw[yY (fun q=>w (hw.1 q))] at e3;have aFM:N<2^172:=by
   by_cases q:N<2^172
   .exact q
   .exact absurd (hN.whole (by omega)) w
  obtain⟨b',e4,bI⟩:=avI hN (uo aM (aAi 173 276 (by decide)));have Rc:j<149:=by
   rcases Nat.lt_or_ge j 149 with q | q
   .exact q
   .have:j=149:=by omega
    subst this;exact absurd (Nat.mod_eq_zero_of_dvd hj) w
  have wk:IntKind.wrap .i64 (k-1)=k-1:=wrap64 (by omega) (by omega);simp only[go_sem,ya,Ks,e1,e2,e3,xj,e4,wk];refine⟨_,d-1,rfl,by omega,b',2*N,j+1,k-1,by omega,bI,by rw[xq,xA (2^j)];exact Nat.mul_dvd_mul_left 2 hj,by omega,?_,by omega,by omega,?_⟩
  .rw [<-hq,xS]
   have:p2 k=p2 1*p2 (k-1):=by rw[<-nP,show 1+(k-1)=k by omega]
   rw[this,Hw];show (2:Rat)*(N:Rat)*p2 (k-1)=(N:Rat)*(2*p2 (k-1))
   grind
  .simp only [go_sem,ya,yb,az,Gj,Gr]<;>rfl
def av1{N:Nat}{k:Int}(h:(N:Rat)*p2 k=(M:Rat))(hw:N%2^149=0):((cp s (N/2^149):Int):Rat)*p2 k=mg s M:=by
 have e:N=N/2^149*2^149:=by have:=xT N (2^149);omega
 have h1:((N/2^149:Nat):Rat)*p2 149=(N:Rat):=by
  conv=>rhs;rw[e,xS,<-mS]
  rfl
 generalize N/2^149=n at h1;have h2:((n:Nat):Rat)*p2 k=(M:Rat)*p2 (-149):=by
  rw[<-h,<-h1]
  have:p2 149*p2 (-149)=1:=by rw[<-nP];exact L4
  have h3:(n:Rat)*p2 149*p2 k*p2 (-149)=(n:Rat)*p2 k*(p2 149*p2 (-149)):=by grind
  rw[h3,this,uL]
 unfold mg cp;have c1:(((n:Nat):Int):Rat)=(n:Rat):=rfl;have c2:(((M:Nat):Int):Rat)=(M:Rat):=rfl
 cases s with
 | true=>rw[yz rfl,yz rfl,tQ,tQ,c1,c2];grind
 | false=>rw[yp (by decide),yp (by decide),c1,c2];exact h2
def afV(k:Int):Hq (k.natAbs+2) (p2 k):=by
 by_cases c:0<=k
 .obtain ⟨n,rfl⟩:∃n:Nat,k=n:=⟨k.natAbs,by omega⟩;rw[show p2 (n:Int)=((2^n:Nat):Int) from mS n];exact⟨by rw[tR];unfold Bd;rw[wX];exact vE (by decide) (by omega),by rw[tS];unfold Bd;exact uh (by omega)⟩
 .obtain ⟨n,rfl⟩:∃n:Nat,k= -(n:Int):=⟨k.natAbs,by omega⟩
  have:p2 (-(n:Int))=(p2 n)⁻¹:=by unfold p2;rw[ycT]
  rw[this];refine Hq.inv ?_;rw[show p2 (n:Int)=((2^n:Nat):Int) from mS n];exact⟨by rw[tR];unfold Bd;rw[wX];exact vE (by decide) (by omega),by rw[tS];unfold Bd;exact uh (by omega)⟩
def ahB(k:Int)(hk:k.natAbs<=900):Hq 1001 (p2 k):=(afV k).mono (by omega)
def aAN(h:Fx P L){b:Nat}(hb:Fl b s M):∃r,ah P L 232 [.ao .f32 b] r/\bH r (mg s M):=by
 have key:∀(b' N:Nat) (k:Int) (tm:Env) (ct:Nat),Fl b' s N->N%2^149=0->N<2^173->(N:Rat)*p2 k=(M:Rat)-> -298<=k->k<=277->aj tm 0=.ao .f32 b'->aj tm 2=.ptr 0 0->aj tm 3=aa k->∃r,gJ nW.dX (D P L (Bx 3 nW.body) ⟨[(0,.ao .f32 b'),(2,.ptr 0 0),(3,aa k)],sD,1,0⟩)=F5 r/\bH r (mg s M):=by
  intro b' N k tm ct hN hw aM hq k1 k2 _ _ _;have e1:=adn hN (uo aM (by decide));have hn:N/2^149<2^24:=by rw[xO (xt _),<-xM];exact aM
  have ha:(cp s (N/2^149)).natAbs=N/2^149:=by unfold cp;split<;>omega
  have hx:=av1 (s:=s) hq hw;generalize cp s (N/2^149)=z at*
  obtain⟨u,e2,hu⟩:=DP h.toFr' (z:=z) (by omega) (by omega);obtain⟨v,e3,hv⟩:=aAL h.toFr' h.zf h.Hz h.QK (k:=k) (by omega);have ku:Hq 25 ((z:Int):Rat):=⟨by rw[tR];unfold Bd;omega,by rw[tS];unfold Bd;decide⟩
  obtain⟨r,e4,hr⟩:=DQ h.toFr' hu hv (ku.mono (show 25<=1001 by decide)) (ahB k (by omega)) (by decide);rw[hx] at hr;have bB:=hr;obtain⟨u1,u2,u3,u4,rfl,fu⟩:=hu.gen;obtain⟨v1,v2,v3,v4,rfl,fv'⟩:=hv.gen;obtain⟨r1,r2,r3,r4,rfl,fr⟩:=hr.gen;refine⟨_,?_,bB⟩;unfold ah at e2 e3 e4;unfold sD;simp only[go_sem,ya,nW,Bx,aC,e1,e2,fu.ai,e3,fv'.ai,e4,fr.dX,fr.st,bi,cJ,cK,yg,gS]
 have l1:=avZ (P:=P) (L:=L) (s:=s) hb.lt M;unfold ah;rw[aG h.aAM];have cut:nW.body=.seq (bw nW.body) (.seq (bw (Bx 0 nW.body)) (.seq (bw (Bx 1 nW.body)) (.seq (bw (Bx 2 nW.body)) (Bx 3 nW.body)))):=rfl;show ∃r,gJ nW.dX (D P L nW.body _)=F5 r/\_
 rw[cut];generalize Bx 3 nW.body=T at key ⊢;simp only[go_sem,yb,nW,Bx,aC,bw,aO];generalize hq:D P L (.loop _ Kr) _=q;obtain⟨ex,st,rfl,tm,ct,b',N,k,rfl,rfl,hN,hNk,aM,hk,t0,t2,t3⟩:=bQ hq l1 ⟨b,M,0,rfl,hb,by rw[uP,yj],fun _=>rfl,by unfold sD;simp only[go_sem,ya,yb,az,Gj,Gr]<;>rfl⟩
 unfold sD;simp only[go_sem,yb,az,t0,t2,t3,Gj,Gr];generalize hq:D P L (.loop _ Ks) _=q;have l2:=av0 (P:=P) (L:=L) (s:=s) (M:=M) 149;obtain⟨ex,st,rfl,tm,ct,b2,N2,k2,rfl,rfl,hN2,hw,Fo,DI,k3,k4,u0,u2,u3⟩:=bQ hq l2 ⟨b',N,0,k,rfl,hN,by rw[uP];exact Nat.one_dvd N,aM,by rw[<-hNk,xS,mS],by omega,by omega,by unfold sD;simp only[go_sem,ya,yb,az,Gj,Gr]<;>rfl⟩
 unfold sD;simp only[go_sem,yb,az,u0,u2,u3,Gj,Gr];exact key b2 N2 k2 tm ct hN2 hw Fo DI k3 k4 u0 u2 u3
end
end
end VE
end
section
namespace VE
open Go (IntKind)
section
variable {a b c d:AV}{cs:List AV}{l:List Rat}{x:Rat}
def QL:List AV->List Rat->Prop
 | [],[]=>True
 | a::b::c::d::r,x::l=>bH (.agg [a,b,c,d]) x/\QL r l
 | _,_=>False
def QL.nil:QL [] []:=trivial
def QL.cons{r:List AV}(h1:bH (.agg [a,b,c,d]) x)(h2:QL r l):QL (a::b::c::d::r) (x::l):=⟨h1,h2⟩
def QL.inv(h:QL cs (x::l)):∃a b c d r,cs=a::b::c::d::r/\bH (.agg [a,b,c,d]) x/\QL r l:=by
 match cs,h with
 | a::b::c::d::r,h=>exact⟨a,b,c,d,r,rfl,h.1,h.2⟩
def QL.W8(h:QL cs []):cs=[]:=by
 match cs,h with
 | [],_=>rfl
 | [_],h=>exact h.elim
 | [_,_],h=>exact h.elim
 | [_,_,_],h=>exact h.elim
 | _::_::_::_::_,h=>exact h.elim
def QL.len:∀{l:List Rat} {cs:List AV},QL cs l->cs.length=l.length*4
 | [],_,h=>by rw[h.W8];rfl
 | x::l,cs,h=>by
  obtain⟨a,b,c,d,r,rfl,_,h2⟩:=h.inv
  have:=h2.len
  grind
def F4.I8{c1 c2 c3 c4:AV}(g:F4 c1 c2 c3 c4):aV c1=ydo/\aV c2=ydo/\aV c3=ydo/\aV c4=ydo:=by
 have:=g.pu
 simpa only[aV,aE,uf,ye] using this
def bH.f4(h:bH (.agg [a,b,c,d]) x):F4 a b c d:=by
 have⟨_,_,_,_,e,g⟩:=h.gen
 grind
def QL.pu:∀{l:List Rat} {cs:List AV},QL cs l->aE cs=ydo
 | [],_,h=>by rw[h.W8];rfl
 | x::l,cs,h=>by
  obtain⟨a,b,c,d,r,rfl,h1,h2⟩:=h.inv;have⟨p1,p2,p3,p4⟩:=h1.f4.I8;simp only[aE,p1,p2,p3,p4,h2.pu,wG]
def QL.cQ:∀{l m:List Rat} {cs ds:List AV},QL cs l->QL ds m->QL (cs++ds) (l++m)
 | [],m,cs,ds,h,k=>by rw[h.W8];exact k
 | x::l,m,cs,ds,h,k=>by
  obtain⟨a,b,c,d,r,rfl,h1,h2⟩:=h.inv;exact⟨h1,h2.cQ k⟩
def QL.snoc(h:QL cs l)(k:bH (.agg [a,b,c,d]) x):QL (cs++[a,b,c,d]) (l++[x]):=h.cQ ⟨k,trivial⟩
def QL.get:∀{l:List Rat} {cs:List AV} {i:Nat},QL cs l->∀(hi:i<l.length),∃a b c d r,cs.drop (i*4)=a::b::c::d::r/\bH (.agg [a,b,c,d]) l[i]
 | [],_,i,_,hi=>absurd hi (yaq i)
 | x::l,cs,0,h,hi=>by
  obtain⟨a,b,c,d,r,rfl,h1,_⟩:=h.inv
  grind
 | x::l,cs,i+1,h,hi=>by
  obtain⟨a,b,c,d,r,rfl,_,h2⟩:=h.inv;have⟨a',b',c',d',r',e,k⟩:=h2.get (i:=i) (by simpa using hi)
  grind
def jD(v:AV)(l:List Rat):Prop:=(v=.af/\l=[])\/∃e cs,v=.ap e l.length cs/\QL cs l
section
variable {v:AV}{l:List Rat}{hp:Hp}
def jD.len(h:jD v l){hp:Hp}:iM hp 1 v=F5 (.int .i64 (l.length:Nat)):=by
 rcases h with ⟨rfl,rfl⟩ | ⟨e,cs,rfl,h⟩<;>rfl
def jD.pu(h:jD v l):aV v=ydo:=by
 rcases h with ⟨rfl,rfl⟩ | ⟨e,cs,rfl,h⟩<;>rfl
def jD.ai(h:jD v l)(n:Nat){hp:Hp}:freeze (n+1) hp v=F5 (v,hp):=by
 rcases h with ⟨rfl,rfl⟩ | ⟨e,cs,rfl,h⟩<;>rfl
def jD.bj(h:jD v l){i:Nat}(hi:i<l.length):∃a b c d r,ik 4 i v=F5 (.bt (a::b::c::d::r))/\bH (.agg [a,b,c,d]) l[i]:=by
 rcases h with ⟨rfl,rfl⟩ | ⟨e,cs,rfl,h⟩
 .grind
 .have ⟨a,b,c,d,r,e1,e2⟩:=h.get hi;refine⟨a,b,c,d,r,?_,e2⟩;rw[OD e _ hi,e1]
def Ol(e:Bool)(h:QL cs l):jD (.ap e l.length cs) l:=.inr ⟨e,cs,rfl,h⟩
end
def HA(hp:Hp)(cs:List AV):gU hp 4 ydo (.bt cs)=fU 4 ydo cs:=rfl
def qD(s:Rat)(l:List Rat):Rat:=l.foldl (·+·) s
def anw{s:Rat}{i:Nat}(h:i<l.length):qD s (l.take (i+1))=qD s (l.take i)+l[i]:=by
 rw[xv h];simp only[qD,List.foldl_append,List.foldl_cons,List.foldl_nil]
def aen{K:Nat}:∀{l:List Rat} {s:Rat} {M:Nat},Hq M s->(∀x,x∈l->Hq K x)->Hq (M+l.length*(K+1)) (qD s l)
 | [],s,M,hs,_=>by simpa[qD] using hs
 | x::l,s,M,hs,hl=>by
  have:=aen (l:=l) (hs.add (hl x List.mem_cons_self)) (fun y hy=>hl y (List.mem_cons_of_mem _ hy))
  refine Hq.mono (m:=M+(x::l).length*(K+1)) this ?_;simp only[yv,xY];lia
def asd{K M:Nat}{s:Rat}(hs:Hq M s)(hl:∀x,x∈l->Hq K x)(i:Nat):Hq (M+l.length*(K+1)) (qD s (l.take i)):=
 (aen hs (fun x hx=>hl x (List.mem_of_mem_take hx))).mono (by rw[yR];have:=yT (K+1) (Nat.min_le_right i l.length);lia)
end
end VE
end
section
namespace VE
open Go (IntKind)
section
variable {K:Nat}{r:Rat}
def Gk{a b:Nat}(h:aA a=aA b):a=b:=by
 have h1:=Ba a;rw[h,Ba b] at h1
 grind
def adu:∀(k n:Nat),n<k->n≠0->∃b r,aA n=b::r/\b≠48
 | 0,n,h,_=>absurd h (yaq n)
 | k+1,n,h,h0=>by
  by_cases h1:n<10
  .exact ⟨48+n,[],pO h1,by lia⟩
  .have ⟨b,r,e,hb⟩:=adu k (n/10) (by lia) (by lia);exact⟨b,r++[48+n%10],by rw[rk (by lia),e];rfl,hb⟩
def aco(n:Nat):dQ (aA n)=ydo:=by
 unfold dQ;rw[A9,wM];by_cases h0:n=0
 .subst h0;decide
 .have ⟨b,r,e,hb⟩:=adu (n+1) n (by lia) h0;rw[e]
  have:yo b 48=ydp:=by
   cases hq:yo b 48 with
   | false=>rfl
   | true=>exact absurd (yf hq) hb
  simp[this]
def acp(n:Nat):fN (aA n)=n:=by unfold fN;rw[Ba];rfl
def Om{z:Int}(h:¬z<0):bf z=aA z.natAbs:=by
 obtain⟨m,rfl⟩:∃m:Nat,z=m:=⟨z.toNat,by lia⟩;rw[nG,wX]
def PD(r:Rat):RT r=bf r.num++jV r.den:=rfl
def acq(r:Rat):bS (RT r)=(bf r.num).length:=by rw[PD,SI,SX];rfl
def aeo(h1:(aA r.num.natAbs).length<=600)(h2:(aA r.den).length<=600):cI (RT r)=0:=by
 have key:∀neg:Bool,(neg=ydo->r.num.natAbs≠0)->n5 neg (aA r.num.natAbs++jV r.den)=0:=by
  intro neg gA;have hco:wK r.num.natAbs r.den=1:=r.reduced;have gP:r.den≠0:=r.den_nz;generalize r.num.natAbs=m at*
  generalize r.den=d at*
  have hs:bS (aA m++jV d)=(aA m).length:=by rw[Jq _ (A9 m),SX];rfl
  have c1:¬((ydo=ydp)\/(neg=ydo/\aA m=[48])):=by
   rintro (h | ⟨h,h'⟩)
   .grind
   .exact gA h (Gk (h'.trans (by decide)))
  unfold n5;rw[hs,yaa,aco,yp c1];by_cases hd:d=1
  .have hr:jV d=[]:=yz hd
   grind
  .have hr:jV d=47::aA d:=yp hd;have kj:(aA m++jV d).drop ((aA m).length+1)=aA d:=by
    simp_all
   have hl:(aA m++jV d).length=(aA m).length+1+(aA d).length:=by grind
   rw[kj,hl,aco,acp,acp];have n0:aA d≠[48]:=fun e=>gP (Gk (e.trans (by decide)))
   have n1:aA d≠[49]:=fun e=>hd (Gk (e.trans (by decide)))
   grind
 rw[PD];by_cases h0:r.num<0
 .rw [mO h0];show (if 45=45 then n5 ydo (aA r.num.natAbs++jV r.den) else n5 ydp (45::(aA r.num.natAbs++jV r.den)))=0
  grind
 .rw [Om h0];have k:=key ydp (fun h=>by cases h);have hp:=Bh r.num.natAbs;have mI:=A9 r.num.natAbs
  cases hq:aA r.num.natAbs with
  | nil=>rw[hq] at hp;simp at hp
  | cons b t=>
   rw[hq] at k mI
   have:=Tt mI
   show (if b=45 then n5 ydo (t++jV r.den) else n5 ydp (b::(t++jV r.den)))=0
   grind
def apI{a b:Int}(h:bf a=bf b):a=b:=by
 have hd:∀{z w:Int},z<0->¬w<0->bf z≠bf w:=by
  intro z w h1 h2 e;rw[mO h1,Om h2] at e
  have:=A9 w.natAbs
  rw[<-e] at this
  have:=Tt this
  omega
 by_cases h1:a<0<;>by_cases h2:b<0
 .rw [mO h1,mO h2,vX] at h
  have:=Gk h.2
  omega
 .grind
 .grind
 .rw [Om h1,Om h2] at h
  have:=Gk h
  omega
def av2{a b:Rat}(h:RT a=RT b):a=b:=by
 have hs:=acq a;rw[h,acq b] at hs;rw[PD,PD] at h;obtain⟨h1,h2⟩:=List.append_inj h hs.symm;refine Rat.ext (apI h1) ?_;unfold jV at h2;by_cases ha:a.den=1<;>by_cases hb:b.den=1
 .grind
 .grind
 .grind
 .rw [yp ha,yp hb,vX] at h2;exact Gk h2.2
def apJ(h1:(aA r.num.natAbs).length<=600)(h2:(aA r.den).length<=600):cf (RT r)=r:=(av2 (JS (aeo h1 h2)).1).symm
def KM(h:Hq K r)(hK:K<=1800):(aA r.num.natAbs).length<=600/\(aA r.den).length<=600:=by
 refine⟨S4 (B:=K) hK (by decide) h.1,S4 (B:=K) hK (by decide) ?_⟩
 have:=h.2
 unfold Bd at this
 grind
def KN(h:Hq K r)(hK:K<=1800):cI (RT r)=0:=aeo (KM h hK).1 (KM h hK).2
def VD(h:Hq K r)(hK:K<=1800):cf (RT r)=r:=apJ (KM h hK).1 (KM h hK).2
def VF(h:Hq K r)(hK:K<=1800):LG r=ydp:=by
 obtain⟨h1,h2⟩:=KM h hK;unfold LG LN
 grind
end
end VE
end
section
namespace VE
open Go (IntKind)
section
variable {P:aF}{L:Lib}
def ahC(h:Ck P L){s:List Nat}(h0:cI s=0):∃r,ah P L 62 [.str s] r/\bH r (cf s):=by
 have⟨hR,_⟩:=JS h0;have kr:=OM h0 (yx 2400);have hl:=qc kr;have⟨r,e,hr⟩:=m62 h.toTx (a:=cf s) (by lia);rw[<-hR] at e;exact⟨r,e,hr⟩
end
end VE
end
section
namespace VE
open Go (IntKind)
def ase(a b:Rat):decide (rS a b<0)=decide (a<b):=by
 unfold rS;by_cases h1:a<b
 .simp [h1]
 .by_cases h2:a=b<;>simp[h1,h2]
def UD(a b:Rat):decide (0<rS a b)=decide (b<a):=by
 unfold rS;by_cases h1:a<b
 .have:¬b<a:=by grind
  simp[h1,this]
 .by_cases h2:a=b
  .subst h2;simp[yap]
  .have:b<a:=by grind
   simp[h1,h2,this]
def J5(a b:Rat):decide (rS a b<=0)=decide (a<=b):=by
 unfold rS;by_cases h1:a<b
 .have:a<=b:=Rat.le_of_lt h1
  simp[h1,this]
 .by_cases h2:a=b
  .subst h2;simp[yap]
  .have:¬a<=b:=by grind
   simp[h1,h2,this]
def Dl:dt (.int .i64 1)=F5 1:=rfl
end VE
end
section
namespace VE
open Go (IntKind)
noncomputable def R3(a b:List Nat):Int:=if bF [cI a,cI b]≠0 then bF [cI a,cI b] else if cf b<cf a then 11 else 0
end VE
end
section
namespace VE
open Go (IntKind)
def QM(a b x:Rat):Bool:=decide (a<=x)&&decide (x<=b)
section
variable {P:aF}{L:Lib}
def K5(h:Rp P L)(mA:Has P L 315 C7){a b:Rat}{K M:Nat}(ka:Hq K a)(kb:Hq M b)(hK:K+M+1<=8000000000):ah P L 315 [.str (RT a),.str (RT b)] (aa (rS a b)):=by
 have:=aAK h mA ka kb hK
 rwa[ads] at this
def ahD(h:Rp P L)(Dg:Has P L 261 Hh)(mA:Has P L 315 C7)(QN:Has P L 419 Hk){a b:List Nat}(la:a.length<=1000000000)(lb:b.length<=1000000000):ah P L 419 [Nc a b] (aa (R3 a b)):=by
 have e1:=ayn h.toRm Dg (adr ydo [a,b]) (by simp) (fun t ht=>by simp at ht;rcases ht with rfl | rfl<;>assumption)
 simp only[yv,yI,yd,yb,xe,ve] at e1;unfold R3 Nc;unfold ah at e1 ⊢;rw[aG QN];by_cases h0:bF [cI a,cI b]=0
 .obtain ⟨c1,c2⟩:=adt.1 h0;have e2:=K5 h mA (OM c1 (yx 2400)) (OM c2 (yx 2400)) (by decide);rw[<-(JS c1).1,<-(JS c2).1] at e2;unfold ah at e2;rw[h0] at e1 ⊢;by_cases hb:cf b<cf a
  .simp only [go_sem,ya,yb,yq,yi,yj,Hk,aO,bg,yd,cO,yg,e1,e2,UD,hb,yN,ycs,tV,xz,xJ]
  .simp only [go_sem,ya,yb,yq,yi,yj,Hk,aO,bg,yd,cO,yg,e1,e2,UD,hb,yN,yP,ycs,tV,xz]
 .rw [yz h0];simp only[go_sem,ya,yb,yq,yi,yj,Hk,aO,bg,yd,cO,yg,e1,h0,yP]
def ahE(h:Rp P L)(mA:Has P L 315 C7)(QO:Has P L 424 Ly){a b x:Rat}{K:Nat}(ka:Hq K a)(kb:Hq K b)(kx:Hq K x)(hK:K<=1000000000):ah P L 424 [R2 a b,.str (RT x)] (.bool (QM a b x)):=by
 have e1:=K5 h mA ka kx (by omega);have e2:=K5 h mA kx kb (by omega);unfold QM;unfold ah at e1 e2 ⊢;rw[aG QO];by_cases h1:a<=x
 .simp only [go_sem,ya,yb,Ly,aO,bg,yd,cO,yg,e1,e2,J5,h1,yN,wM]
 .simp only [go_sem,ya,yb,Ly,aO,bg,yd,yg,e1,J5,h1,yP,wW]
end
end VE
end
section
namespace VE
open Go (IntKind)
section
variable {P:aF}{L:Lib}
def asf(q:Rat):decide (bV q.num<=0)=decide (q<=0):=by
 have h:=J5 q 0
 rwa[<-ads,yaT,Rat.neg_zero,Rat.add_zero] at h
end
end VE
end
section
namespace VE
open Go (IntKind)
section
variable {P:aF}{L:Lib}{a b c d:Rat}{K:Nat}
def ahF(QP:Has P L 219 P9)(s:List Nat):ah P L 219 [.str s] (Nc s s):=by
 unfold Nc;unfold ah;rw[aG QP];simp only[go_sem,ya,yb,yi,P9,aO,yd,jg];rfl
end
end VE
end
section
namespace VE
open Go (IntKind)
def av3:RT (2:Rat)=[50]:=by decide
def afW{b:Nat}{s:Bool}{M:Nat}(h:Fl b s M):Hq 2500 (mg s M):=by
 have hM:=h.lt;have k1:Hq 278 (((cp s M:Int)):Rat):=acn 278 (afU 278 277 hM (by decide)) (by decide);exact (k1.mul (ahB (-149) (by decide))).mono (by decide)
end VE
end
section
namespace VE
open Go (IntKind)
section
variable {tm:Env}{hp:Hp}
section
variable {P:aF}{L:Lib}
def QQ(tm:Env)(hp:Hp)(s:AV)(rs:List (Nat×Bool×Nat))(q:gL):gL:=match q with | some (v,an,aH)=>bif Aq tm s rs||pU tm hp an rs then F5 (v,an,aH) else F6 | none=>F6
def O7{f:cu}{ct:Nat}(rs:List (Nat×Bool×Nat))(sz b:Nat)(x v:X):aX P L f tm hp ct (.lO rs sz b x v)=QQ tm hp (ax tm x) rs (cx tm hp ct (.cQ sz b x v)):=rfl
def T9{an:Hp}{s:AV}{rs:List (Nat×Bool×Nat)}{v:AV}{aH:Nat}(h:Aq tm s rs=ydo):QQ tm hp s rs (F5 (v,an,aH))=F5 (v,an,aH):=by simp only[QQ,h,uI,yu]
def O8{f:cu}{ct:Nat}(n sz:Nat)(z:List AV)(ps:List (Nat×Nat×X)):aX P L f tm hp ct (.ni n sz z ps)=rd hp ct (bh tm hp (.ni n sz z ps)):=rfl
end
end
end VE
end
section
namespace VE
open Go (IntKind)
section
variable {P:aF}{L:Lib}
def abe{b x:Nat}{H:Hp}(hx:x<b):∀{ahG:Hp},(∀p,p∈ahG->b<=p.1)->ak (ahG++H) x=ak H x
 | [],_=>rfl
 | (id,o)::r,h=>by
  have:=h (id,o) (by simp)
  simp only[yB];rw[ak,gF (by simp only at this;omega),yO,abe hx (fun p hp=>h p (by simp[hp]))]
end
end VE
end
section
namespace VE
open Go (IntKind)
def lyT(w:AV)(hh sc st ox oy wx wy:List Nat):AV:=.agg [w,.str hh,.str sc,.str st,.str ox,.str oy,.str wx,.str wy]
noncomputable def aAO(s:List (List Int))(hh sc st ox oy wx wy:List Nat):Int:=bF [amC s,ahy hh 0,ahy sc 1,cI st,bF [cI ox,cI oy],bF [cI wx,cI wy]]
def ak7{a:Int}{l:List Int}:bF (a::l)=0↔a=0/\bF l=0:=by
 simp only[bF]
 grind
end VE
end
section
namespace VE
open Go (IntKind)
open Ieee
def alX(q:Rat):0<=bV q.num↔0<=q:=by
 rw[<-ycq];unfold bV;constructor
 .intro h;split at h<;>omega
 .intro h;split
  .omega
  .split<;>omega
def Jx(q:Rat):bV q.num<0↔q<0:=by
 have h:=alX q;constructor
 .intro c;exact ybD.1 fun q'=>by have:=h.2 q';omega
 .intro c;exact Int.not_le.1 fun q'=>absurd (h.1 q') (ybD.2 c)
def anx(q:Rat):(-q).num= -q.num:=rfl
def alY(q:Rat):0<bV q.num↔0<q:=by
 have h:=Jx (-q);rw[anx] at h;have h2:0<bV q.num↔bV (-q.num)<0:=by
  unfold bV;constructor
  .intro c;split at c
   .omega
   .split at c
    .omega
    .rw [yz (by omega)];decide
  .intro c;split at c
   .rw [yp (by omega),yp (by omega)];decide
   .split at c<;>omega
 rw[h2,h];constructor
 .intro c;grind
 .intro c;grind
end VE
end
section
namespace VE
open Go (IntKind)
open Ieee
def gB(b:Nat):Bool:=match single.read b with
 | .number .. =>ydo
 | _=>ydp
def HB:List AV->Option AV
 | [.ao .f32 b]=>F5 (.bool (gB b))
 | _=>F6
def Fl.fin{b M:Nat}{s:Bool}(h:Fl b s M):gB b=ydo:=by
 obtain⟨m,e,h1,_⟩:=h.ex;unfold gB;rw[h1.read]
def av4{b:Nat}(hb:b<4294967296):(∃s M,Fl b s M)\/gB b=ydp:=by
 rcases avG (f:=single) (b:=b) hb (by decide) with ⟨s,m,e,h⟩ | h
 .exact .inl ⟨s,_,⟨m,e,h,rfl⟩⟩
 .right
  unfold gB
  cases hr:single.read b with
  | number s m e=>exact absurd hr (h s m e)
  | _=>rfl
abbrev fp(l:List Nat):List AV:=l.map (.ao .f32)
end VE
end
section
namespace VE
open Go
open Ieee
def adv{b m:Nat}{s:Bool}{e:Int}(h:single.read b=.number s m e):single.sub b b=F5 0:=by
 unfold Format.sub;rw[h];show F5 (single.write (.number (if signed s m (e-min e e).toNat+signed (!s) m (e-min e e).toNat=0 then s&& !s else decide (signed s m (e-min e e).toNat+signed (!s) m (e-min e e).toNat<0)) (signed s m (e-min e e).toNat+signed (!s) m (e-min e e).toNat).natAbs (min e e)))=F5 0
 have h0:signed s m (e-min e e).toNat+signed (!s) m (e-min e e).toNat=0:=by
  unfold signed;cases s<;>simp<;>omega
 rw[h0,yz rfl];have hs:(s&& !s)=ydp:=by cases s<;>rfl
 rw[hs];rfl
def asg{b:Nat}(h:∀s m e,single.read b≠.number s m e):single.sub b b=F6:=by
 unfold Format.sub
 cases hr:single.read b with
 | number s m e=>exact absurd hr (h s m e)
 | infinity s=>cases s<;>rfl
 | nan s t=>rfl
def ash{x:Nat}(hx:x<8388607)(t:Nat):single.order (t%2*2147483648+2139095040+1+x) 0=F6:=by
 have hm:(t%2*2147483648+2139095040+1+x)%2147483648=2139095041+x:=by omega
 have hr:∃s n,single.read (t%2*2147483648+2139095040+1+x)=.nan s n:=by
  unfold Format.read;simp only[show single.signWeight=2147483648 from rfl,show single.binade=8388608 from rfl,show single.infRung=2139095040 from rfl];rw[hm,yp (by omega),yp (by omega),yp (by omega)];exact⟨_,_,rfl⟩
 obtain⟨s,n,hr⟩:=hr;unfold Format.order;rw[hr];rfl
def asj(P:xy)(b:Nat)(w:yk):∃r w1,(∀t,(xX .sub t (.float .f32 b) (.float .f32 b)).run P w=.ok (.float .f32 r) w1)/\Calm w w1/\(∀t w',(xX .eql t (.float .f32 r) (.float .f32 0)).run P w'=.ok (.bool (gB b)) w'):=by
 by_cases h:∃s m e,single.read b=.number s m e
 .obtain ⟨s,m,e,h⟩:=h;have h1:FloatKind.f32.format.sub b b=F5 0:=adv h;refine⟨0,w,fun t=>?_,Calm.refl,fun t w'=>?_⟩
  .simp [xX,Op.floatArith,h1]
  .have:gB b=ydo:=by unfold gB;rw[h]
   rw[this];rfl
 .have h':∀s m e,single.read b≠.number s m e:=fun s m e q=>h ⟨s,m,e,q⟩
  have h1:FloatKind.f32.format.sub b b=F6:=asg h';obtain⟨t0,YK⟩:∃t0,t0=w.tape w.drawn (.nanBits .f32 b b):=⟨_,rfl⟩;refine⟨(Question.nanBits .f32 b b).cut t0,w.drew,fun t=>?_,⟨rfl,rfl,rfl,yx _,fun _ _=>rfl⟩,fun t w'=>?_⟩
  .rw [YK];simp[xX,Op.floatArith,h1,Question.forced]
  .have:gB b=ydp:=by
    unfold gB
    cases hr:single.read b with
    | number s m e=>exact absurd hr (h' s m e)
    | _=>rfl
   rw[this];have hc:=ash (x:=t0/2%8388607) (xD _ (by decide)) t0;have kS:FloatKind.f32.format.order ((Question.nanBits .f32 b b).cut t0) 0=F6:=hc;simp[xX,Op.floatCmp,kS]
variable {O:bq}
def asl{n:Nat}(fM:∀args w,(callFunc (O.ab n) args).run O.P w=.ok (.enter (O.ab n) args) w)(hc:∀(b:Nat) (w:yk),Calls O.P (O.ab n) #[.float .f32 b] w fun e w'=>e=.returned (.bool (gB b))/\Calm w w'):∀aq r,HB aq=F5 r->eD O n aq r:=by
 intro aq r h;unfold HB at h
 split at h
 .rename_i b;simp only[yc] at h;subst h;refine pQ abE fM ?_;intro w S args hg dT;obtain⟨u,rfl,h1⟩:=EX dT;simp only[ae] at h1;subst h1;refine (hc b w).mono ?_;rintro e w' ⟨rfl,h2⟩;exact⟨_,rfl,h2,fun S=>by simp only[ae]⟩
 .cases h
end VE
end
section
namespace Go.Proofs
open Go.RowKit
def Tryz.aAP(b:Nat)(w:yk):Calls Tryz.prog 148 #[.float .f32 b] w fun e w'=>e=.returned (.bool (VE.gB b))/\VE.Calm w w':=by
 obtain⟨r,w1,h1,h2,h3⟩:=VE.asj Tryz.prog b w
 go_enter Tryz.func148,Tryz.ntmps148
 go_wp2_with (simp only[h1,h3])
 go_ret
 exact⟨rfl,h2⟩
end Go.Proofs
end
section
namespace VE
open Go
section
variable {H:Type}{enc:yA×yh->H}{P:xy}{w:yk}{base:Nat}{sp:Nat->Bool}{held:Bool}
def mapM_mem{α β:Type}{f:α->Option β}:∀{l:List α} {r:List β},l.mapM f=F5 r->∀y,y∈r->∃x,f x=F5 y
 | [],r,h,y,hy=>by simp only[List.mapM_nil,vh,yc] at h;subst h;cases hy
 | x::l,r,h,y,hy=>by
  rw[uU] at h
  cases h1:f x with
  | none=>simp[h1] at h
  | some z=>
   cases h2:l.mapM f with
   | none=>simp[h1,h2] at h
   | some zs=>
    simp only[h1,h2,wE,ue,vh,yc] at h;subst h;rcases wB.1 hy with rfl | hy
    .grind
    .exact mapM_mem h2 y hy
def Rd(enc:yA×yh->H)(P:xy)(w:yk)(base:Nat)(sp:Nat->Bool)(held:Bool)(t:yA)(d:xP H):Prop:=∃bm cs ps,DataW.trod enc P w base sp held bm t cs=F5 (d,ps)
def av5{t:yA}{k:xg}{d:xP H}{n:Nat}(ht:P.underlying t=F5 (.int k))(h:Rd enc P w base sp held t d):∃z,cS P (n+1) t d=[.int k z]/\(Lit.int k z).wf=ydo:=by
 obtain⟨bm,cs,ps,h⟩:=h
 cases bm with
 | zero=>simp[DataW.trod] at h
 | succ bm=>
  unfold DataW.trod at h
  split at h
  all_goals first
   | (rename_i hu;rw[ht] at hu;cases hu;done)
   | skip
  .rename_i k1 k2 z hu;rw[ht] at hu;injection hu with hu
   injection hu with hu
   subst hu
   split at h
   .rename_i hk;obtain⟨rfl,rfl⟩:=h;exact⟨z,by simp only[cS,ht],hk.2⟩
   .cases h
  grind
def apK{t e:yA}{d:xP H}{n:Nat}(ht:P.underlying t=F5 (.slice e))(h:Rd enc P w base sp held t d):
  cS P (n+1) t d=[.af]\/∃(x:Bool) (kY:List (xP H)),cS P (n+1) t d=[.ap x kY.length (kY.flatMap fun y=>cS P n e y)]/\∀y,y∈kY->Rd enc P w base sp held e y:=by
 obtain⟨bm,cs,ps,h⟩:=h
 cases bm with
 | zero=>simp[DataW.trod] at h
 | succ bm=>
  unfold DataW.trod at h
  split at h
  all_goals first
   | (rename_i hu;rw[ht] at hu;cases hu;done)
   | skip
  .simp only [yc,ym] at h;obtain⟨rfl,rfl⟩:=h;exact .inl (by simp only[cS,ht])
  .rename_i e' a len cap hu;rw[ht] at hu;injection hu with hu
   injection hu with hu
   subst hu;simp only at h
   split at h
   case isFalse=>cases h
   cases h1:(List.range len).mapM fun i=>(w.cells? base (a.add (i*P.cellsOf e)) (P.cellsOf e)).bind (DataW.trod enc P w base sp held bm e) with
   | none=>rw[h1] at h;simp at h
   | some kY=>
    rw[h1] at h;obtain⟨rest,_,h⟩:=wS.1 h;obtain⟨rfl,rfl⟩:=h;refine .inr ⟨(rest.map (·.1)).isEmpty,kY.map (·.1),by simp only[cS,ht,xi],?_⟩;intro y hy;obtain⟨p,hp,rfl⟩:=vM.1 hy;obtain⟨i,hi⟩:=mapM_mem h1 p hp;obtain⟨dF,_,Dq⟩:=Option.bind_eq_some_iff.1 hi;exact⟨bm,dF,p.2,Dq⟩
  grind
def anz{t:yA}{fs:Array uk}{d:xP H}{n:Nat}(ht:P.underlying t=F5 (.struct fs))(h:Rd enc P w base sp held t d):
  ∃ds:List (xP H),ds.length=fs.toList.length/\cS P (n+1) t d=(fs.toList.zip ds).flatMap (fun x=>cS P n x.1.type x.2)/\∀i (h1:i<fs.toList.length) (h2:i<ds.length),Rd enc P w base sp held fs.toList[i].type ds[i]:=by
 obtain⟨bm,cs,ps,h⟩:=h
 cases bm with
 | zero=>simp[DataW.trod] at h
 | succ bm=>
  unfold DataW.trod at h
  split at h
  all_goals first
   | (rename_i hu;rw[ht] at hu;cases hu;done)
   | (cases h;done)
   | skip
  rename_i cs x1 MN fs' hu;rw[ht] at hu;injection hu with hu
  injection hu with hu
  subst hu
  split at h
  case isFalse=>cases h
  obtain⟨xs,h1,h⟩:=wS.1 h;obtain⟨rfl,rfl⟩:=h;refine⟨xs.map (·.1),by simp[NW h1],by simp only[cS,ht],?_⟩;have key:∀{r:List uk} {xs:List (xP H×List wN)},r.mapM (fun f=>DataW.trod enc P w base sp held bm f.type ((cs.drop f.offset).take (P.cellsOf f.type)))=F5 xs->
    ∀i (h1:i<r.length) (h2:i<(xs.map (·.1)).length),Rd enc P w base sp held r[i].type (xs.map (·.1))[i]:=by
   intro r
   induction r with
   | nil=>intro xs h i h1;exact absurd h1 (yaq i)
   | cons f r ih=>
    intro xs h i h1 h2;rw[uU] at h
    cases g1:DataW.trod enc P w base sp held bm f.type ((cs.drop f.offset).take (P.cellsOf f.type)) with
    | none=>simp[g1] at h
    | some x=>
     cases g2:r.mapM (fun f=>DataW.trod enc P w base sp held bm f.type ((cs.drop f.offset).take (P.cellsOf f.type))) with
     | none=>simp[g1,g2] at h
     | some ys=>
      simp only[g1,g2,wE,ue,vh,yc] at h;subst h
      cases i with
      | zero=>exact⟨bm,_,x.2,g1⟩
      | succ i=>exact ih g2 i (by simpa using h1) (by simpa using h2)
  exact key h1
def apL{t e:yA}{k:Nat}{d:xP H}{n:Nat}(ht:P.underlying t=F5 (.array k e))(h:Rd enc P w base sp held t d):
  ∃ds:List (xP H),ds.length=k/\cS P (n+1) t d=ds.flatMap (fun x=>cS P n e x)/\∀y,y∈ds->Rd enc P w base sp held e y:=by
 obtain⟨bm,cs,ps,h⟩:=h
 cases bm with
 | zero=>simp[DataW.trod] at h
 | succ bm=>
  unfold DataW.trod at h
  split at h
  all_goals first
   | (rename_i hu;rw[ht] at hu;cases hu;done)
   | (cases h;done)
   | skip
  rename_i cs x1 MN k' e' hu;rw[ht] at hu;injection hu with hu
  injection hu with zF B1
  subst zF;subst B1
  split at h
  case isFalse=>cases h
  obtain⟨xs,h1,h⟩:=wS.1 h;obtain⟨rfl,rfl⟩:=h;refine⟨xs.map (·.1),by simp[NW h1],by simp only[cS,ht],fun y hy=>?_⟩;obtain⟨p,hp,rfl⟩:=vM.1 hy;obtain⟨i,hi⟩:=mapM_mem h1 p hp;exact⟨bm,_,p.2,hi⟩
end
end VE
end
section
namespace VE
open Go
inductive Ty
 | int (k:xg)
 | ao (k:wm)
 | bool
 | str
 | sl (e:Ty)
 | nil
 | cat (a b:Ty)
 | ar (n:Nat) (e:Ty)
def rb:Ty->List AV->Prop
 | .int k,l=>∃z,l=[.int k z]/\(Lit.int k z).wf=ydo
 | .ao k,l=>∃b,l=[.ao k b]/\(Lit.float k b).wf=ydo
 | .bool,l=>∃b,l=[.bool b]
 | .str,l=>∃s:List Nat,l=[.str s]/\s.length<9223372036854775808/\∀c,c∈s->c<256
 | .sl e,l=>l=[.af]\/∃(x:Bool) (ps:List (List AV)),l=[.ap x ps.length ps.flatten]/\∀p,p∈ps->rb e p
 | .nil,l=>l=[]
 | .cat a b,l=>∃x y,l=x++y/\rb a x/\rb b y
 | .ar n e,l=>∃ps:List (List AV),ps.length=n/\l=ps.flatten/\∀p,p∈ps->rb e p
def oR:List (Option Ty)->Option Ty
 | []=>F5 .nil
 | some a::r=>match oR r with
  | some b=>F5 (.cat a b)
  | none=>F6
 | none::_=>F6
def gW(P:xy):Nat->yA->Option Ty
 | 0,_=>F6
 | n+1,t=>
  match P.underlying t with
  | some .bool=>F5 .bool
  | some (.int k)=>F5 (.int k)
  | some (.float k)=>F5 (.ao k)
  | some .string=>F5 .str
  | some (.slice e)=>(gW P n e).map .sl
  | some (.struct fs)=>oR (fs.toList.map fun f=>gW P n f.type)
  | some (.array k e)=>(gW P n e).map (.ar k)
  | _=>F6
section
variable {H:Type}{enc:yA×yh->H}{P:xy}{w:yk}{base:Nat}{sp:Nat->Bool}{held:Bool}
def av6{t:yA}{k:wm}{d:xP H}{n:Nat}(ht:P.underlying t=F5 (.float k))(h:Rd enc P w base sp held t d):∃b,cS P (n+1) t d=[.ao k b]/\(Lit.float k b).wf=ydo:=by
 obtain⟨bm,cs,ps,h⟩:=h
 cases bm with
 | zero=>simp[DataW.trod] at h
 | succ bm=>
  unfold DataW.trod at h
  split at h
  all_goals first
   | (rename_i hu;rw[ht] at hu;cases hu;done)
   | skip
  .rename_i k1 k2 z hu;rw[ht] at hu;injection hu with hu
   injection hu with hu
   subst hu
   split at h
   .rename_i hw;obtain⟨rfl,rfl⟩:=h;exact⟨z,by simp only[cS,ht],hw.2⟩
   .cases h
  grind
def asm{t:yA}{d:xP H}{n:Nat}(ht:P.underlying t=F5 .bool)(h:Rd enc P w base sp held t d):∃b,cS P (n+1) t d=[.bool b]:=by
 obtain⟨bm,cs,ps,h⟩:=h
 cases bm with
 | zero=>simp[DataW.trod] at h
 | succ bm=>
  unfold DataW.trod at h
  split at h
  all_goals first
   | (rename_i hu;rw[ht] at hu;cases hu;done)
   | skip
  .simp only [yc,ym] at h;obtain⟨rfl,rfl⟩:=h;rename_i b _;exact⟨b,by simp only[cS,ht]⟩
  grind
def av7{t:yA}{d:xP H}{n:Nat}(ht:P.underlying t=F5 .string)(h:Rd enc P w base sp held t d):
  ∃s:List Nat,cS P (n+1) t d=[.str s]/\s.length<9223372036854775808/\∀c,c∈s->c<256:=by
 obtain⟨bm,cs,ps,h⟩:=h
 cases bm with
 | zero=>simp[DataW.trod] at h
 | succ bm=>
  unfold DataW.trod at h
  split at h
  all_goals first
   | (rename_i hu;rw[ht] at hu;cases hu;done)
   | skip
  .rename_i s hu
   split at h
   .rename_i hs;obtain⟨rfl,rfl⟩:=h;refine⟨_,by simp only[cS,ht];rfl,?_,fun c hc=>?_⟩
    .simp only [xi,Array.length_toList];have h1:s.size<=9223372036854775807:=hs;have h2:s.data.size=s.size:=rfl;omega
    .obtain ⟨b,_,rfl⟩:=vM.1 hc;exact b.toNat_lt
   .cases h
  grind
def aag{n:Nat}(ih:∀{t:yA} {T:Ty} {d:xP H},gW P n t=F5 T->Rd enc P w base sp held t d->rb T (cS P n t d)):
  ∀(fs:List uk) (ds:List (xP H)) (T:Ty),oR (fs.map fun f=>gW P n f.type)=F5 T->ds.length=fs.length->(∀i (h1:i<fs.length) (h2:i<ds.length),Rd enc P w base sp held fs[i].type ds[i])->
   rb T ((fs.zip ds).flatMap fun x=>cS P n x.1.type x.2)
 | [],ds,T,hT,_,_=>by
  simp only[ve,oR,yc] at hT;subst hT;simp[rb]
 | f::fs,[],T,_,hl,_=>by simp at hl
 | f::fs,d::ds,T,hT,hl,hr=>by
  simp only[xe] at hT
  cases h1:gW P n f.type with
  | none=>simp[h1,oR] at hT
  | some a=>
   cases h2:oR (fs.map fun f=>gW P n f.type) with
   | none=>simp[h1,h2,oR] at hT
   | some b=>
    simp only[h1,h2,oR,yc] at hT;subst hT;exact⟨_,_,rfl,ih h1 (hr 0 (by simp) (by simp)),aag ih fs ds b h2 (by simpa using hl) (fun i h1 h2=>hr (i+1) (by simpa using h1) (by simpa using h2))⟩
def aep:∀(n:Nat) {t:yA} {T:Ty} {d:xP H},gW P n t=F5 T->Rd enc P w base sp held t d->rb T (cS P n t d)
 | 0,t,T,d,hT,_=>by simp[gW] at hT
 | n+1,t,T,d,hT,hr=>by
  have ih:=@aep n
  cases hu:P.underlying t with
  | none=>simp[gW,hu] at hT
  | some u=>
   cases u with
   | slice e=>
    simp only[gW,hu] at hT;obtain⟨E,hE,rfl⟩:=wS.1 hT
    rcases apK (n:=n) hu hr with h | ⟨x,kY,h,hm⟩
    .exact .inl h
    .refine .inr ⟨x,kY.map (cS P n e),by rw[h,xi,ybU],fun p hp=>?_⟩
     grind
   | struct fs=>
    simp only[gW,hu] at hT;obtain⟨ds,e1,e2,e3⟩:=anz (n:=n) hu hr;rw[e2];exact aag ih fs.toList ds T hT e1 e3
   | array k e=>
    simp only[gW,hu] at hT;obtain⟨E,hE,rfl⟩:=wS.1 hT;obtain⟨ds,e1,e2,e3⟩:=apL (n:=n) hu hr;refine⟨ds.map (cS P n e),by simp[e1],by rw[e2,ybU],fun p hp=>?_⟩
    grind
   | int k=>
    simp only[gW,hu,yc] at hT;subst hT;exact av5 hu hr
   | float k=>
    simp only[gW,hu,yc] at hT;subst hT;exact av6 hu hr
   | bool=>
    simp only[gW,hu,yc] at hT;subst hT;exact asm hu hr
   | string=>
    simp only[gW,hu,yc] at hT;subst hT;exact av7 hu hr
   | _=>simp[gW,hu] at hT
def HC:Ty->List AV->AV
 | .nil,l | .cat _ _,l | .ar _ _,l=>.agg l
 | _,l=>l.headD .undef
def anA:∀{l:List (Option Ty)} {T:Ty},oR l=F5 T->∀x,HC T x=.agg x
 | [],T,h=>by simp only[oR,yc] at h;subst h;exact fun _=>rfl
 | none::r,T,h=>by simp[oR] at h
 | some a::r,T,h=>by
  cases h1:oR r with
  | none=>simp[oR,h1] at h
  | some b=>
   simp only[oR,h1,yc] at h;subst h;exact fun _=>rfl
def ayp{n:Nat}{t:yA}{T:Ty}{d:xP H}(hT:gW P n t=F5 T):mV P n t d=HC T (cS P n t d):=by
 cases n with
 | zero=>simp[gW] at hT
 | succ n=>
  cases hu:P.underlying t with
  | none=>simp[gW,hu] at hT
  | some u=>
   cases u with
   | slice e=>
    simp only[gW,hu] at hT;obtain⟨E,hE,rfl⟩:=wS.1 hT;simp only[mV,hu,HC]
   | struct fs=>
    simp only[gW,hu] at hT;rw[anA hT];simp only[mV,hu]
   | array k e=>
    simp only[gW,hu] at hT;obtain⟨E,hE,rfl⟩:=wS.1 hT;simp only[mV,hu,HC]
   | _=>
    simp only[gW,hu,yc,reduceCtorEq] at hT<;>
    (subst hT
     simp only[mV,hu,HC])
def K6:List Ty->List (List AV)->List AV
 | T::Ts,l::ls=>HC T l::K6 Ts ls
 | _,_=>[]
def acr{n:Nat}:∀{ts:List yA} {Ts:List Ty} {vs:List yh} {ds:List (xP H)} {ps:List wN},(ts.map (gW P n))=Ts.map F5->DataW.TrodAll enc P w base sp held ts vs ds ps->
  ∃ls,jB rb Ts ls/\Br P n ts ds=K6 Ts ls/\ds.length=ts.length
 | [],[],[],[],ps,_,_=>⟨[],trivial,rfl,rfl⟩
 | t::ts,T::Ts,v::vs,d::ds,ps,hT,⟨p,q,⟨bm,h1⟩,h2,_⟩=>by
  simp only[xe,vX] at hT;have⟨ls,k1,k2,k3⟩:=acr hT.2 h2;exact⟨cS P n t d::ls,⟨aep n hT.1 ⟨bm,_,_,h1⟩,k1⟩,by simp only[Br,K6,k2,ayp hT.1],by simp[k3]⟩
 | [],_::_,_,_,_,h,_=>by simp at h
 | _::_,[],_,_,_,h,_=>by simp at h
 | [],[],_::_,_,_,_,h=>by simp[DataW.TrodAll] at h
 | [],[],[],_::_,_,_,h=>by simp[DataW.TrodAll] at h
 | _::_,_,[],_,_,_,h=>by simp[DataW.TrodAll] at h
 | _::_,_,_::_,[],_,_,h=>by simp[DataW.TrodAll] at h
def av8{α β:Type}{p:α->β->Prop}{a:α}:∀{l:List β},jB p [a] l->∃x,l=[x]/\p a x
 | [x],h=>⟨x,rfl,h.1⟩
 | [],h=>h.elim
 | _::_::_,h=>h.2.elim
def av9{α β:Type}{p:α->β->Prop}{a b:α}:∀{l:List β},jB p [a,b] l->∃x y,l=[x,y]/\p a x/\p b y
 | x::l,h=>let ⟨y,h1,h2⟩:=av8 h.2;⟨x,y,by rw[h1],h.1,h2⟩
 | [],h=>h.elim
def awa{α β:Type}{p:α->β->Prop}{a b c:α}:∀{l:List β},jB p [a,b,c] l->∃x y z,l=[x,y,z]/\p a x/\p b y/\p c z
 | x::l,h=>let ⟨y,z,h1,h2,h3⟩:=av9 h.2;⟨x,y,z,by rw[h1],h.1,h2,h3⟩
 | [],h=>h.elim
end
end VE
end
section
namespace VE
open Go (IntKind)
def Sy{lv:List Nat}{tm tm':Env}{hp:Hp}{c c' b:Nat}(hk:cd tm lv=cd tm' lv):bE lv ⟨tm,hp,c,b⟩=bE lv ⟨tm',hp,c',b⟩:=by
 simp only[bE,hk]
def dN(C R S:Nat):AV:=.bt [aa C,aa R,aa S]
def QR(l C R S k:Nat):Env:=[(0,.fn (.y l) [] []),(1,dN C R S),(8,aa ((C*R:Nat):Int)),(9,aa k)]
def KO(cs:List AV):CQ 0 (.bt cs)=F5 (.bt cs):=rfl
def aeq(a:AV)(cs:List AV):CQ 1 (.bt (a::cs))=F5 (.bt cs):=by
 show (bif yC 1 (cs.length+1) then F5 (AV.bt cs) else F6)=_
 rw[yy (by omega),yu]
def O9(a b:AV)(cs:List AV):CQ 2 (.bt (a::b::cs))=F5 (.bt cs):=by
 show (bif yC 2 (cs.length+1+1) then F5 (AV.bt cs) else F6)=_
 rw[yy (by omega),yu]
def W9{P:aF}{L:Lib}{f:cu}{hp:Hp}{ct l:Nat}{xs:List AV}:eR P L f hp ct .heap (.fn (.y l) [] []) xs=ie f hp ct l xs:=rfl
end VE
end
section
namespace VE
open Go (IntKind)
section
variable {lv ps:List Nat}
def aah{f:Nat->Option Nat}:∀{E:Env},qg E=ydo->gn f E=E
 | [],_=>rfl
 | (i,v)::r,h=>by
  simp only[qg,ye] at h;simp only[gn,JM _ h.1]
  rw[aah (E:=r) h.2]
def PE(B l:Nat)(hp:Hp):List Nat:=reach hp B 100000 (l::dO B hp) []
def mB(B l:Nat)(hp:Hp):Hp×Nat:=(eY hp (ij B (PE B l hp)) (PE B l hp) B (gj B (ij B (PE B l hp)) hp),B+(PE B l hp).length)
def abf{tm rest:Env}{hp:Hp}{ct B l:Nat}(hk:cd tm lv=(0,.fn (.y l) [] [])::rest)(hr:qg rest=ydo)(hl:l<B):
  bE lv ⟨tm,hp,ct,B⟩=⟨(0,.fn (.y l) [] [])::rest,(mB B l hp).1,(mB B l hp).2,B⟩:=by
 have e:fj ((0,AV.fn (.y l) [] [])::rest)=[l]:=by
  rw[Z7,SU hr];rfl
 have e2:∀f:Nat->Option Nat,f l=F5 l->gn f ((0,AV.fn (.y l) [] [])::rest)=(0,.fn (.y l) [] [])::rest:=fun f hf=>by
  simp only[gn,br,hf,dP];rw[aah hr]
 simp only[bE,hk,e,yB,yL];rw[e2 _ (by simp only[ij,oM hl,yu])];rfl
def Eg{tm rest:Env}{hp H:Hp}{ct B l c:Nat}(hk:cd tm lv=(0,.fn (.y l) [] [])::rest)(hr:qg rest=ydo)(hl:l<B)(h:mB B l hp=(H,c)):
  bE lv ⟨tm,hp,ct,B⟩=⟨(0,.fn (.y l) [] [])::rest,H,c,B⟩:=by
 rw[abf hk hr hl,h]
def iZ(a b:Nat):AV:=.bt [aa a,aa b]
def KP(l C R S a b k:Nat):Env:=[(0,.fn (.y l) [] []),(1,dN C R S),(2,iZ a b),(7,aa S),(8,aa k)]
def U4(l C R S a b k i:Nat):Env:=[(0,.fn (.y l) [] []),(1,dN C R S),(2,iZ a b),(4,aa k),(7,aa S),(8,aa k),(12,aa S),(13,aa i)]
def R4(S a b k i:Nat):List AV:=[.agg [aa i,aa k],.agg [aa ((a*S+i:Nat):Int),aa ((b*S+k:Nat):Int)]]
structure Rnd(Inv:Nat->Hp->Nat->Prop)(B l:Nat):Prop where
 y:∀{j H c},Inv j H c->mB B l H=(H,c)
 z:∀{j H c},Inv j H c->∀tm ct,bE [] ⟨tm,H,ct,B⟩=⟨[],H,c,B⟩
 l:∀{j H c},Inv j H c->∃tm p a b,ak H l=F5 (.lp tm p a b 0 .none)
section
variable {P:aF}{L:Lib}
def afX(L6:Has P L 719 LF){f:X}{as_ body:VC}{s:St}{C R S a b:Nat}(hS:S<=8)(ha:a<=8)(hb:b<=8)(hf:ax s.tm f=.fn (.f 719) [] [dN C R S,iZ a b]){Inv:Nat->Hp->Nat->Prop}(hI:Rnd Inv (s.ct+1) s.ct)(h0:∃H c,mB (s.ct+1) s.ct ((s.ct,.lp s.tm ps as_ body 0 .none)::s.hp)=(H,c)/\Inv 0 H c)(hr:∀k i H c,k<S->i<S->Inv (k*S+i) H c->∃hp aH H' c',ie (D P L) H c s.ct (R4 S a b k i)=F5 (.bool ydo,hp,aH)/\mB (s.ct+1) s.ct hp=(H',c')/\Inv (k*S+i+1) H' c'):
  ∃H c,Inv (S*S) H c/\D P L (.rf f ps as_ body) s=F5 (.normal,⟨s.tm,c7 H s.ct,c,s.base⟩):=by
 have aAQ:∀k,k<S->_:=fun k hk=>jO P L [0,1,2,4,7,8,12,13] KE
  (fun d st=>∃i H c,i+d=S/\Inv (k*S+i) H c/\st=⟨U4 s.ct C R S a b k i,H,c,s.ct+1⟩)
  (fun ex st=>ex=.exit 2/\∃tm ct H c,Inv (k*S+S) H c/\st=⟨tm,H,ct,s.ct+1⟩/\cd tm [0,1,2,7,8]=KP s.ct C R S a b k) (by
  rintro d st ⟨i,H,c,hid,bZ,rfl⟩;by_cases hi:i<S
  .left
   obtain⟨hp,aH,H',c',e,AZ,Fp⟩:=hr k i H c hk hi bZ;have b1:a*S<=64:=xC ha hS;have b2:b*S<=64:=xC hb hS;have m1:(a:Int)*(S:Int)=((a*S:Nat):Int):=by rw[xZ]
   have m2:(b:Int)*(S:Int)=((b*S:Nat):Int):=by rw[xZ]
   have a1:((a*S:Nat):Int)+(i:Int)=((a*S+i:Nat):Int):=by rw[tr]
   have a2:((b*S:Nat):Int)+(k:Int)=((b*S+k:Nat):Int):=by rw[tr]
   unfold R4 at e
   simp only[go_sem,ya,yb,yi,KE,U4,dN,iZ,KO,aeq,O9,show (i:Int)<S by omega,m1,m2,wrap64 (n:=((a*S:Nat):Int)) (by omega) (by omega),wrap64 (n:=((b*S:Nat):Int)) (by omega) (by omega),a1,a2,wrap64 (n:=((a*S+i:Nat):Int)) (by omega) (by omega),wrap64 (n:=((b*S+k:Nat):Int)) (by omega) (by omega),W9,e];refine⟨_,d-1,rfl,by omega,i+1,H',c',by omega,Fp,?_⟩;rw[wrap64 (by omega) (by omega)];exact Eg (by simp only[go_sem,ya]<;>rfl) rfl (by omega) AZ
  .right
   have his:i=S:=by omega
   subst his;simp only[go_sem,ya,KE,U4,dN,iZ,show ¬(i:Int)<i by omega]
   exact⟨_,_,rfl,by simp,rfl,_,_,H,c,bZ,rfl,by simp only[go_sem,ya,KP,dN,iZ]<;>rfl⟩)
 have aAR:=jO P L [0,1,2,7,8] KF
  (fun d st=>∃k H c,k+d=S/\Inv (k*S) H c/\st=⟨KP s.ct C R S a b k,H,c,s.ct+1⟩)
  (fun ex st=>ex=.exit 0/\∃tm ct H c,Inv (S*S) H c/\st=⟨tm,H,ct,s.ct+1⟩) (by
  rintro d st ⟨k,H,c,YT,bZ,rfl⟩;by_cases hk:k<S
  .left
   have hm:(k+1)*S=k*S+S:=by rw[xY,yaU]
   simp only[go_sem,ya,KF,KP,dN,iZ,O9,show (k:Int)<S by omega];generalize hq:D P L (.loop _ KE) _=q;obtain⟨ex,st,rfl,rfl,tm,ct,H',c',Fp,rfl,og⟩:=bQ hq (aAQ k hk S) ⟨0,H,c,by omega,bZ,Eg (by simp only[go_sem,ya]<;>rfl) rfl (by omega) (hI.y bZ)⟩
   have hcp:=fun ct=>Eg (lv:=[0,1,2,7,8]) (ct:=ct) og rfl (Nat.lt_succ_self _) (hI.y Fp)
   simp only[go_sem,ya,hcp];refine⟨_,d-1,rfl,by omega,k+1,H',c',by omega,by rw[hm];exact Fp,?_⟩
   rw[wrap64 (by omega) (by omega)];exact Eg (by simp only[go_sem,ya,dN,iZ]<;>rfl) rfl (by omega) (hI.y Fp)
  .right
   have pn:k=S:=by omega
   subst pn;simp only[go_sem,ya,KF,KP,dN,iZ,show ¬(k:Int)<k by omega]
   exact⟨_,_,rfl,by simp,rfl,_,_,H,c,bZ,rfl⟩)
 obtain⟨H0,c0,YU,YV⟩:=h0;have hb:∃tm H c,Inv (S*S) H c/\D P L LF.body ⟨fG 0 [.fn (.y s.ct) [] [],dN C R S,iZ a b],(s.ct,.lp s.tm ps as_ body 0 .none)::s.hp,s.ct+1,s.ct+1⟩=F5 (.normal,⟨tm,H,c,s.ct+1⟩):=by
  simp only[go_sem,ya,LF,dN,iZ,O9];generalize hq:D P L (.loop _ KF) _=q;obtain⟨ex,st,rfl,rfl,tm,ct,H,c,bZ,rfl⟩:=bQ hq (aAR S) ⟨0,H0,c0,by omega,by rw[vt];exact YV,Eg (by simp only[go_sem,ya,dN,iZ]<;>rfl) rfl (by omega) YU⟩
  refine⟨[],H,c,bZ,?_⟩;simp only[go_sem];exact congrArg (fun x=>F5 (Ex.normal,x)) (hI.z bZ _ _)
 obtain⟨tm,H,c,bZ,hD⟩:=hb;obtain⟨gM,p,a',b',hl⟩:=hI.l bZ;exact⟨H,c,bZ,afB hf L6.heap (J3 L6 hD (.inl rfl) rfl) hl (by decide)⟩
def awb(HE:Has P L 718 Hm){f:X}{as_ body:VC}{s:St}{C R S:Nat}(hC:C<=8)(hR:R<=8)(hf:ax s.tm f=.fn (.f 718) [] [dN C R S]){Inv:Nat->Hp->Nat->Prop}{Bad:Hp->Nat->Prop}(hI:Rnd Inv (s.ct+1) s.ct)(h0:∃H c,mB (s.ct+1) s.ct ((s.ct,.lp s.tm ps as_ body 0 .none)::s.hp)=(H,c)/\Inv 0 H c)(hr:∀k H c,k<C*R->Inv k H c->(∃hp aH H' c',ie (D P L) H c s.ct [aa k,.agg [aa ((k%C:Nat):Int),aa ((k/C:Nat):Int)]]=F5 (.bool ydo,hp,aH)/\mB (s.ct+1) s.ct hp=(H',c')/\Inv (k+1) H' c')\/
   ∃hp aH tm p a b,ie (D P L) H c s.ct [aa k,.agg [aa ((k%C:Nat):Int),aa ((k/C:Nat):Int)]]=F5 (.bool ydp,hp,aH)/\ak hp s.ct=F5 (.lp tm p a b 2 .ret)/\Bad hp aH):
  (∃H c,Inv (C*R) H c/\D P L (.rf f ps as_ body) s=F5 (.normal,⟨s.tm,c7 H s.ct,c,s.base⟩))\/∃hp aH,Bad hp aH/\D P L (.rf f ps as_ body) s=F5 (.ret,⟨s.tm,c7 hp s.ct,aH,s.base⟩):=by
 have hCR:C*R<=64:=xC hC hR;have key:=jO P L [0,1,8,9] GJ
  (fun d st=>∃k H c,k+d=C*R/\Inv k H c/\st=⟨QR s.ct C R S k,H,c,s.ct+1⟩)
  (fun ex st=>(ex=.exit 0/\∃tm ct H c,Inv (C*R) H c/\st=⟨tm,H,ct,s.ct+1⟩)\/(ex=.ret/\∃tm hp aH tm' p a b,st=⟨tm,hp,aH,s.ct+1⟩/\ak hp s.ct=F5 (.lp tm' p a b 2 .ret)/\Bad hp aH)) (by
  rintro d st ⟨k,H,c,YT,bZ,rfl⟩;by_cases hk:k<C*R
  .have lm:0<C:=yam (fun h=>by rw[h,vt] at hk;omega);have h1:(k:Int).tmod (C:Int)=((k%C:Nat):Int):=(Int.ofNat_tmod k C).symm;have h2:(k:Int).tdiv (C:Int)=((k/C:Nat):Int):=(Int.ofNat_tdiv k C).symm;have h3:k%C<C:=xD _ lm;have h4:k/C<=k:=vD _ _;have hr:=hr k H c hk bZ;generalize ha:k%C=a' at*
   generalize bI:k/C=b' at*
   have zM:(C:Int)≠0:=by omega
   rcases hr with ⟨hp,aH,H',c',e,AZ,Fp⟩ | ⟨hp,aH,tm',p,a,b,e,hg,hB⟩
   .left
    simp only[go_sem,ya,yb,yi,GJ,QR,dN,KO,show (k:Int)<((C*R:Nat):Int) by omega,eL _ _ _ zM,fH _ _ _ zM,h1,h2,wrap64 (n:=(b':Int)) (by omega) (by omega),W9,e];refine⟨_,d-1,rfl,by omega,k+1,H',c',by omega,Fp,?_⟩;rw[wrap64 (by omega) (by omega)];exact Eg (by simp only[go_sem,ya]<;>rfl) rfl (by omega) AZ
   .right
    simp only[go_sem,ya,yb,yi,GJ,QR,dN,KO,show (k:Int)<((C*R:Nat):Int) by omega,eL _ _ _ zM,fH _ _ _ zM,h1,h2,wrap64 (n:=(b':Int)) (by omega) (by omega),W9,e];exact⟨_,_,rfl,by simp,.inr ⟨rfl,_,hp,aH,tm',p,a,b,rfl,hg,hB⟩⟩
  .right
   have pg:k=C*R:=by omega
   subst pg;simp only[go_sem,ya,GJ,QR,dN,show ¬((C*R:Nat):Int)<((C*R:Nat):Int) by omega]
   exact⟨_,_,rfl,by simp,.inl ⟨rfl,_,_,H,c,bZ,rfl⟩⟩)
 obtain⟨H0,c0,YU,YV⟩:=h0;have hb:∃ex st,D P L Hm.body ⟨fG 0 [.fn (.y s.ct) [] [],dN C R S],(s.ct,.lp s.tm ps as_ body 0 .none)::s.hp,s.ct+1,s.ct+1⟩=F5 (ex,st)/\((ex=.normal/\∃tm H c,Inv (C*R) H c/\st=⟨tm,H,c,s.ct+1⟩)\/(ex=.ret/\∃tm hp aH tm' p a b,st=⟨tm,hp,aH,s.ct+1⟩/\ak hp s.ct=F5 (.lp tm' p a b 2 .ret)/\Bad hp aH)):=by
  have hcr:(C:Int)*(R:Int)=((C*R:Nat):Int):=by rw[xZ]
  simp only[go_sem,ya,Hm,dN,KO,aeq,hcr,wrap64 (n:=((C*R:Nat):Int)) (by omega) (by omega)];generalize hq:D P L (.loop _ GJ) _=q;obtain⟨ex,st,rfl,hh⟩:=bQ hq (key (C*R)) ⟨0,H0,c0,by omega,YV,Eg (by simp only[go_sem,ya,dN]<;>rfl) rfl (by omega) YU⟩
  rcases hh with ⟨rfl,tm,ct,H,c,bZ,rfl⟩ | ⟨rfl,hh⟩
  .refine ⟨.normal,⟨[],H,c,s.ct+1⟩,?_,.inl ⟨rfl,_,H,c,bZ,rfl⟩⟩;simp only[go_sem];exact congrArg (fun x=>F5 (Ex.normal,x)) (hI.z bZ _ _)
  .exact ⟨_,_,rfl,.inr ⟨rfl,hh⟩⟩
 obtain⟨ex,st,hD,hh⟩:=hb;have zd:∀s':St,jo s' Hm.dX=F5 (.aw []):=fun _=>rfl
 rcases hh with ⟨rfl,tm,H,c,bZ,rfl⟩ | ⟨rfl,tm,hp,aH,tm',p,a,b,rfl,hg,hB⟩
 .left
  obtain⟨gM,p,a,b,hl⟩:=hI.l bZ;exact⟨H,c,bZ,afB hf HE.heap (J3 HE hD (.inl rfl) (zd _)) hl (by decide)⟩
 .right
  refine⟨hp,aH,hB,?_⟩;have h3:=J3 HE hD (.inr rfl) (zd _);rw[lK];simp only[bz,hf,HE.heap,yL,h3,hg,gF (show (2:Nat)≠1 by decide),yO]
end
end
end VE
end
