import Derived.OwnWalk
import Derived.WalkKit
import Derived.Test.YtabhmepaflffeaaGreatDoorXas
set_option linter.all false
set_option maxRecDepth 100000
open BitVec renaming ofInt->xO,toNat_and->yas,toNat_not->ybC,toNat_ofInt->vO
open Bool renaming and_eq_true->yf,and_self->vh,false_and->ve,false_or->vI,not_false->yM,not_true->yL,or_eq_true->vU,true_and->wE,true_or->uH
open Classical renaming propDecidable->tj
open Go renaming Calls->wz,DataW->xU,Field->uj,FloatKind->xX,IntKind->xg,MemPlace->wQ,Program->xp,TypeId->yB,Value->ym,World->yo,binOp->xZ
open Go.FloatKind renaming f32->yaX
open Ieee renaming single->tZ
open Int renaming lt_trichotomy->uQ,natAbs_natCast->xV,natCast_add->ybn,natCast_mul->xD,not_le->ydz,reduceEq->yaN,toNat_of_nonneg->xW
open List renaming any_append->yaK,any_eq_false->ybL,any_eq_true->ybZ,append_assoc->xt,cons_append->yI,drop->vP,drop_drop->vS,drop_eq_getElem_cons->yX,drop_eq_nil_of_le->y9,drop_left->yar,drop_succ_cons->yk,drop_zero->ye,eq_nil_of_length_eq_zero->yE,filter_eq_nil_iff->yaf,flatMap_def->ybY,getD_eq_getElem?_getD->yV,getElem?_eq_getElem->xn,getElem?_set->ybE,getElem_append_left->tC,getElem_append_right->tp,getElem_cons_succ->uk,getElem_cons_zero->vB,getElem_map->vm,getElem_mem->xA,getElem_range->yal,length->uy,length_append->yO,length_cons->yH,length_map->y5,length_nil->yR,length_replicate->wB,length_set->ycd,length_take->yU,mapM_cons->ta,map_append->xu,map_cons->xb,map_nil->wO,mem_append->wD,mem_cons->we,mem_cons_of_mem->xr,mem_cons_self->xJ,mem_iff_getElem->ybo,mem_map->wW,mem_range'_1->ybJ,mem_singleton->vT,nil_append->yN,nodup_cons->uP,nodup_range'->ybK,range->wq,range'->xT,range_eq_range'->yap,replicate->yj,replicate_succ->wG,take->ydA,take_of_length_le->yK,take_succ_eq_append_getElem->xm,zipWith->uI
open List.cons renaming injEq->uA
open Nat renaming add_comm->yay,add_mul->xS,add_zero->yY,and_two_pow_sub_one_eq_mod->yaD,beq->yu,beq_refl->wL,ble->yG,ble_eq_true_of_le->yy,div_add_mod->xE,div_lt_of_lt_mul->uN,le_refl->yz,lt_of_lt_of_le->yF,min_eq_left->xo,mod_eq_of_lt->yQ,mod_lt->xq,mul_comm->xd,mul_le_mul->y8,mul_le_mul_right->yT,mul_one->yg,ne_of_gt->uR,not_lt_zero->yam,one_mul->tM,pos_of_ne_zero->vW,pow_add->xB,reduceAdd->yb,reduceEqDiff->ya,reduceLT->yv,reduceLeDiff->yh,reduceMul->xy,two_pow_pos->xe,zero_add->yd,zero_mul->wo
open Option renaming bind_eq_bind->ug,bind_some->wM,getD_some->wV,map_eq_some_iff->wT,pure_def->vt
open Option.some renaming injEq->yc
open Prod.mk renaming injEq->yr
open Rat renaming den_intCast->vz,divInt->wN,divInt_eq_div->ybX,div_def->ybv,intCast_lt_intCast->uS,le_of_lt->uT,lt_irrefl->tk,mul_assoc->wv,mul_eq_zero->yco,mul_le_mul_of_nonneg_left->uM,mul_le_mul_of_nonneg_right->uF,mul_lt_mul_right->wK,mul_one->wJ,natCast_le_natCast->vR,natCast_lt_natCast->tP,natCast_mul->xI,not_le->tc,not_lt->uC,num_intCast->vL,num_nonneg->ycz,one_mul->tn,zero_mul->ydd
open Option renaming some->GR,none->GS
open Bool renaming true->ydB,false->ydC
section
namespace VE
open Go (IntKind)
section
variable {P:aE}{L:Lib}
def aim(h:Tx P L){v:AV}{z:Int}{K:Nat}(hv:cC v z)(hz:Bd K z)(hK:K<=4000000000)(gE:z≠0):∃B:Nat,ab P L 172 [v] (aa B)/\z.natAbs<2^B/\0<B/\2^(B-1)<=z.natAbs/\B<=K+64:=by
 obtain⟨s,w,rfl,hn⟩:=hv;obtain⟨l,u⟩:=hn.aH;obtain⟨r,e1,hr⟩:=A9 h.toNu hn;obtain⟨ws,hw,g,Og,hb⟩:=hr;have hl:ws.length<=K/64+1:=pV Og hb (yF hz (aeF K));unfold ab at e1 ⊢;by_cases h0:ws=[]
 .subst h0;exact absurd (show z.natAbs=0 by rw[<-hb];rfl) (by omega)
 .have hp:0<ws.length:=List.length_pos_iff.2 h0;have oA:=Kv Og h0;have Ar:=iW (show 0<18446744073709551616 by decide) g (ws.length-1);have ei:=hw.bk (i:=ws.length-1) (by omega);have eU:=kH (b:=18446744073709551616) (l:=ws) (ws.length-1);have DU:=nH (BS g (ws.length-1));rw[yU,xo (by omega)] at DU;rw[show ws.length-1+1=ws.length by omega,yK (yz _)] at eU;generalize ws.getD (ws.length-1) 0=top at*
  have e2:=agw (P:=P) (f:=D P L) h.ajG Ar;have hle:=Qc 64 top;have FF:=afJ hp (vW oA) Ar eU DU;obtain⟨q1,q2,q3⟩:=UU 64 top Ar;obtain⟨q4,q5⟩:=q3 (vW oA);have aY:2^(64*(ws.length-1)+dW 64 top-1)<=z.natAbs:=by
   rw[show 64*(ws.length-1)+dW 64 top-1=64*(ws.length-1)+(dW 64 top-1) by omega,xB,Nat.pow_mul,<-hb,eU];exact Nat.le_trans (Nat.mul_le_mul_left _ q5) (Nat.le_add_left _ _)
  rw[hb] at FF;refine⟨64*(ws.length-1)+dW 64 top,?_,FF,by omega,aY,by omega⟩;rw[aB h.Y9]
  simp only[go_sem,ya,yb,Mr,aT,cd,bS,u.pu,u.ai,u.one,e1,hw.len,show ¬(ws.length:Int)=0 by omega,show (ws.length:Int)-1=((ws.length-1:Nat):Int) by omega,wrapN (n:=ws.length-1) (by omega),show (64:Int)*((ws.length-1:Nat):Int)=((64*(ws.length-1):Nat):Int) by omega,wrapN (n:=64*(ws.length-1)) (by omega),ei,e2,show ((64*(ws.length-1):Nat):Int)+((dW 64 top:Nat):Int)=((64*(ws.length-1)+dW 64 top:Nat):Int) from rfl,wrapN (n:=64*(ws.length-1)+dW 64 top) (by omega)]
def aDJ(h:Fr' P L)(M8:Has P L 150 Mn)(M9:Has P L 229 Ia){v:AV}{y:Rat}(hv:b8 v y)(ky:Hq 5000 y)(h0:0<=y)(aG:y<16777216):ab P L 229 [v] (aa (nR y)):=by
 have nj:=Vv h0;have aDH:=VZ h0 aG;have hR:nR y=if fG<y-(y.floor.toNat:Rat)\/(y-(y.floor.toNat:Rat)=fG/\y.floor.toNat%2=1) then y.floor.toNat+1 else y.floor.toNat:=rfl
 obtain⟨r,e1,hr⟩:=aCQ h hv ky (by decide);rw[<-nj] at hr;generalize y.floor.toNat=n at*
 have e2:=aDD M8 hr (by omega) (by omega);obtain⟨q,e3,hq⟩:=Sz h hr;have kn:Hq 25 (((n:Nat):Int):Rat):=Qx (n:=n) (by omega) (by decide);obtain⟨d,e4,hd⟩:=m50 h hv hq ky (kn.mono (by decide)) (by decide);obtain⟨o1,i1⟩:=Cr h.toNu (z:=1) (by decide) (by decide);obtain⟨o2,i2⟩:=Cr h.toNu (z:=2) (by decide) (by decide);obtain⟨hf,e5,hh⟩:=Sy h i1 i2 (by decide) (K:=2) (by unfold Bd;decide) (by unfold Bd;decide) (by decide)
 have ah4:wN 1 2=fG:=by decide+kernel
 rw[ah4] at hh;have kd:Hq 6000 (y-(((n:Nat):Int):Rat)):=(ky.sub kn).mono (by decide);have e6:=m71 h hd hh kd (Zo.mono (by decide)) (by decide);have sL:(((n:Nat):Int):Rat)=(n:Rat):=rfl;have r2:Int.tmod (n:Int) 2=((n%2:Nat):Int):=by rw[Int.tmod_eq_emod_of_nonneg (by omega)];omega
 have w1:IntKind.wrap .i64 ((n:Int)+1)=((n+1:Nat):Int):=wrap64 (by omega) (by omega);have w0:IntKind.wrap .i64 ((n:Int)+((n%2:Nat):Int))=((n+n%2:Nat):Int):=wrap64 (by omega) (by omega);obtain⟨v1,v2,v3,v4,rfl,iq⟩:=hv.gen;obtain⟨d1,d2,d3,d4,rfl,fd⟩:=hd.gen;obtain⟨h1,h2,h3,h4,rfl,fh⟩:=hh.gen;obtain⟨q1,q2,q3,q4,rfl,fq⟩:=hq.gen;obtain⟨s,w,rfl,hn⟩:=hr;obtain⟨l,u⟩:=hn.aH;unfold ab at e1 e2 e3 e4 e5 e6 o1 o2;have un:=zJ
 rcases (show y-(n:Rat)<fG\/y-(n:Rat)=fG\/fG<y-(n:Rat) by
  by_cases a:y-(n:Rat)<fG
  .exact .inl a
  .by_cases b:y-(n:Rat)=fG
   .exact .inr (.inl b)
   .exact .inr (.inr (Rat.lt_of_le_of_ne (uC.1 a) (fun c=>b c.symm)))) with c | c | c
 .have ef:nR y=n:=by
   rw[hR,yq];rintro (q | ⟨q,_⟩)<;>grind
  have hc:sT (y-(((n:Nat):Int):Rat)) fG= -1:=by unfold sT;rw[sL,yC c]
  rw[hc] at e6;rw[ef];unfold ab;rw[aB M9];simp only[go_sem,ya,yb,Ia,aT,iq.ai,iq.o1,iq.o2,iq.o3,iq.o4,e1,u.ai,e2,e3,fq.ai,e4,fd.ai,fh.ai,o1,o2,e5,e6,bS,bz,iA,iw,iz,cd,ye,dP u,yd,eC,ye,yaN,yt]
 .have hc:sT (y-(((n:Nat):Int):Rat)) fG=0:=by unfold sT;rw[sL,yq (by rw[c];exact tk),yC c]
  have ef:nR y=n+n%2:=by
   rw[hR];by_cases q:n%2=1
   .rw [yC (.inr ⟨c,q⟩),q]
   .rw [yq (by rintro (x | ⟨_,x⟩)<;>grind)];omega
  rw[hc] at e6;rw[ef];unfold ab;rw[aB M9];simp only[go_sem,ya,yb,Ia,aT,iq.ai,iq.o1,iq.o2,iq.o3,iq.o4,e1,u.ai,e2,e3,fq.ai,e4,fd.ai,fh.ai,o1,o2,e5,e6,bS,bz,iA,iw,iz,cd,ye,dP u,yd,eC,ye,yaN,yt,yp,fM _ _ _ (show (2:Int)≠0 by decide),r2,w0]
 .have ef:nR y=n+1:=by rw[hR,yC (.inl c)]
  have hc:sT (y-(((n:Nat):Int):Rat)) fG=1:=by
   unfold sT;rw[sL,yq (by intro x;grind),yq (by intro x;grind)]
  rw[hc] at e6;rw[ef];unfold ab;rw[aB M9];simp only[go_sem,ya,yb,Ia,aT,iq.ai,iq.o1,iq.o2,iq.o3,iq.o4,e1,u.ai,e2,e3,fq.ai,e4,fd.ai,fh.ai,o1,o2,e5,e6,bS,bz,iA,iw,iz,cd,ye,dP u,yd,eC,ye,yp,w1]
end
open Ieee
section
variable {e:Int}{m x:Nat}
def KB{f:Format}{y n:Nat}{s t:Bool}{j:Int}(hx:oX f x s m e)(hy:oX f y t n j):f.order x y=GR (if fv s m e<fv t n j then .lt else if fv s m e=fv t n j then .eq else .gt):=by
 unfold Format.order;rw[hx.read,hy.read];unfold Datum.order;have h1:=Qd (m:=m) (s:=s) (show min e j<=e by omega);have h2:=Qd (m:=n) (s:=t) (show min e j<=j by omega);have hp:=nD (min e j)
 dsimp only
 generalize signed s m (e-min e j).toNat=a at*
 generalize signed t n (j-min e j).toNat=b at*
 rw[<-h1,<-h2]
 congr 1
 have lt_iff:(a:Rat)*p2 (min e j)<(b:Rat)*p2 (min e j)↔a<b:=by
  rw[wK hp];exact uS
 have eq_iff:(a:Rat)*p2 (min e j)=(b:Rat)*p2 (min e j)↔a=b:=by
  constructor
  .intro q;rcases uQ a b with c | c | c
   .have:=lt_iff.2 c;rw[q] at this;exact absurd this (tk)
   .exact c
   .have:=(wK hp).2 (uS.2 c);rw[q] at this;exact absurd this (tk)
  .intro q;rw[q]
 rcases uQ a b with c | c | c
 .rw [yC (lt_iff.2 c)];exact Int.compare_eq_lt.2 c
 .rw [yq (fun q=>by have:=lt_iff.1 q;omega),yC (eq_iff.2 c)];exact Int.compare_eq_eq.2 c
 .rw [yq (fun q=>by have:=lt_iff.1 q;omega),yq (fun q=>by have:=eq_iff.1 q;omega)];exact Int.compare_eq_gt.2 c
structure Dn(b m:Nat)(e:Int):Prop where
 is:oX double b ydC m e
 nm:4503599627370496<=m
def BD:double.leastPlace= -1074:=by decide
def Dn.b{b:Nat}(h:Dn b m e): -1074<=e/\m<9007199254740992/\e<=971:=by
 have h1:=h.is.can.lp;have h2:=h.is.can.lt;have h4:=h.is.lt;have h3:=h.nm;rw[BD] at h1;have h4:(e-double.leastPlace).toNat*4503599627370496+m<9218868437227405312:=h4;rw[BD] at h4;exact⟨h1,h2,by omega⟩
def Dn.bits{b:Nat}(h:Dn b m e):b=(e+1075).toNat*4503599627370496+(m-4503599627370496):=by
 have hb:=h.b;have hn:=h.nm
 have:=h.is.eq
 rw[this];show (e-double.leastPlace).toNat*4503599627370496+m=_
 rw[BD];obtain⟨t,ht⟩:∃t:Nat,e=(t:Int)-1074:=⟨(e+1074).toNat,by omega⟩;rw[show (e - -1074).toNat=t by omega,show (e+1075).toNat=t+1 by omega];omega
def Dn.mk'(h1: -1074<=e)(h2:e<=971)(h3:4503599627370496<=m)(h4:m<9007199254740992):Dn ((e+1075).toNat*4503599627370496+(m-4503599627370496)) m e:=by
 refine⟨⟨⟨by rw[BD];exact h1,h4,.inl h3⟩,?_,?_⟩,h3⟩
 .show (e-double.leastPlace).toNat*4503599627370496+m<9218868437227405312
  rw[BD];omega
 .show _=(e-double.leastPlace).toNat*4503599627370496+m
  rw[BD];obtain⟨t,ht⟩:∃t:Nat,e=(t:Int)-1074:=⟨(e+1074).toNat,by omega⟩;rw[show (e - -1074).toNat=t by omega,show (e+1075).toNat=t+1 by omega];omega
def an0(h:x<2^63):x&&&(2^63*1+(2^52-1))=x%2^52:=by
 refine Nat.eq_of_testBit_eq fun i=>?_
 rw[Nat.testBit_and,Nat.testBit_mod_two_pow,Nat.testBit_two_pow_mul_add _ (show 2^52-1<2^63 by decide)];by_cases c:i<63
 .rw [yC c,Nat.testBit_two_pow_sub_one,Bool.and_comm]
 .have:Nat.testBit x i=ydC:=Nat.testBit_lt_two_pow (yF h (Nat.pow_le_pow_right (by decide) (by omega)))
  rw[this];simp
def aoJ(h:x<9223372036854775808):binOp .andNot (.int .u64 (x:Int)) (.int .u64 9218868437227405312)=GR (.int .u64 ((x%4503599627370496:Nat):Int)):=by
 show GR (AV.int .u64 (IntKind.wrap .u64 ((xO 64 (x:Int)&&&~~~(xO 64 9218868437227405312)).toNat:Int)))=_
 rw[yas,ybC,vO,vO];rw[show ((x:Int)%((2^64:Nat):Int)).toNat=x by omega,show ((9218868437227405312:Int)%((2^64:Nat):Int)).toNat=9218868437227405312 by decide];rw[show 2^64-1-9218868437227405312=2^63*1+(2^52-1) by decide,an0 (show x<2^63 from h)]
 have:x%2^52<18446744073709551616:=Nat.lt_of_le_of_lt (Nat.mod_le _ _) (by omega)
 rw[wrapM,yQ this]
def an1(h:x<9223372036854775808):binOp .andNot (.int .u64 (x:Int)) (.int .u64 9223372036854775808)=GR (.int .u64 (x:Int)):=by
 show GR (AV.int .u64 (IntKind.wrap .u64 ((xO 64 (x:Int)&&&~~~(xO 64 9223372036854775808)).toNat:Int)))=_
 rw[yas,ybC,vO,vO];rw[show ((x:Int)%((2^64:Nat):Int)).toNat=x by omega,show ((9223372036854775808:Int)%((2^64:Nat):Int)).toNat=9223372036854775808 by decide];rw[show 2^64-1-9223372036854775808=2^63-1 by decide,yaD,yQ (show x<2^63 from h)];rw[wrapM,yQ (by omega)]
def asy(h:x<2048):binOp .and (.int .i64 (x:Int)) (.int .i64 2047)=GR (.int .i64 (x:Int)):=by
 show GR (AV.int .i64 (IntKind.wrap .i64 ((xO 64 (x:Int)&&&xO 64 2047).toNat:Int)))=_
 rw[yas,vO,vO];rw[show ((x:Int)%((2^64:Nat):Int)).toNat=x by omega,show ((2047:Int)%((2^64:Nat):Int)).toNat=2^11-1 by decide,yaD,yQ (show x<2^11 from h)];rw[wrap64 (by omega) (by omega)]
structure Fl'(P:aE)(L:Lib):Prop where
 akd:Has P L 230 RJ
 ake:Has P L 243 RL
 aDK:Has P L 245 Yt
 aDL:Has P L 246 Yu
 aDM:Has P L 247 Yv
 aDN:L.pure 248=GR PC
 aDO:L.pure 251=GR OM
 aDP:Has P L 252 Yw
def zO(n:Nat)(hp:Hp)(b:Nat):freeze (n+1) hp (.an .f64 b)=GR (.an .f64 b,hp):=rfl
def aqn(b:Nat):bN (.an .f64 b)=.an .f64 b:=rfl
def AH(b:Nat):shut (.an .f64 b)=.an .f64 b:=rfl
section
variable {P:aE}{L:Lib}
def akf(h:Fl' P L)(b:Nat):ab P L 248 [.an .f64 b] (.int .u64 b):=by
 unfold ab;rw[jY h.aDN];rfl
def akg(h:Fl' P L){b:Nat}(hb:b<18446744073709551616):ab P L 251 [.int .u64 b] (.an .f64 b):=by
 unfold ab;rw[jY h.aDO];rfl
def akh(h:Fl' P L){b:Nat}(hb:Dn b m e):ab P L 252 [.an .f64 b] (.an .f64 b):=by
 have hx:b<9223372036854775808:=by
  have h1:=hb.bits;have h2:=hb.b;have h3:=hb.nm;omega
 have e1:=akf h b;have e2:=an1 hx;have e3:=akg h (b:=b) (by omega);unfold ab at e1 e3;unfold ab;rw[aB h.aDP];simp only[go_sem,ya,Yw,zO,e1,e2,e3];rfl
def Dn.pos{b:Nat}(h:Dn b m e):fv ydC m e=(m:Rat)*p2 e:=by unfold fv sg;rw[yq (by decide),tn]
def maxD:oX double 9218868437227405311 ydC 9007199254740991 971:=⟨⟨by decide,by decide,.inl (by decide)⟩,by decide,by decide⟩
def minD:oX double 4503599627370496 ydC 4503599627370496 (-1074):=⟨⟨by decide,by decide,.inl (by decide)⟩,by decide,by decide⟩
def Q9:oX double 0 ydC 0 (-1074):=⟨⟨by decide,by decide,.inr (by decide)⟩,by decide,by decide⟩
def Dn.SK{b:Nat}(h:Dn b m e)(h1:1<=(m:Rat)*p2 e)(h2:(m:Rat)*p2 e<=16777216):
  binOp .eql (.an .f64 b) (.an .f64 0)=GR (.bool ydC)/\binOp .gtr (.an .f64 b) (.an .f64 9218868437227405311)=GR (.bool ydC)/\binOp .neq (.an .f64 b) (.an .f64 b)=GR (.bool ydC)/\binOp .lss (.an .f64 b) (.an .f64 4503599627370496)=GR (.bool ydC):=by
 have hp:=h.pos;have oz:=KB h.is Q9;have om:=KB h.is maxD;have oo:=KB h.is h.is;have on:=KB h.is minD;have z:fv ydC 0 (-1074)=0:=by unfold fv;simp
 have mx:fv ydC 9007199254740991 971>16777216:=by
  unfold fv sg;rw[yq (by decide),tn,show p2 971=((2^971:Nat):Rat) from fP 971,<-xI]
  have:((16777216:Nat):Rat)<((9007199254740991*2^971:Nat):Rat):=by
   rw[tP];exact auM 16777216 9007199254740991 971 (by decide)
  exact this
 have mn:fv ydC 4503599627370496 (-1074)<1:=by
  unfold fv sg;rw[yq (by decide),tn];have e1:((4503599627370496:Nat):Rat)=p2 52:=(fP 52).symm;rw[e1,<-eY];have h3:=HK 1022;have h4:(1:Rat)<p2 1022:=by
   exact ayl 1022 (by decide)
  rw[show (52:Int)+ -1074= -1022 by decide];refine tc.1 fun q=>?_
  have h5:1*p2 1022<=p2 (-1022)*p2 1022:=uF q (uT (nD _));rw[h3,tn] at h5;exact absurd h4 (uC.2 h5)
 rw[hp] at oz om oo on;refine⟨?_,?_,?_,?_⟩
 .show GR (AV.bool (double.order b 0==GR .eq))=_
  rw[oz,z,yq (by grind),yq (by grind)];rfl
 .show GR (AV.bool (double.order b 9218868437227405311==GR .gt))=_
  rw[om,yC (by grind)];rfl
 .show GR (AV.bool (double.order b b !=GR .eq))=_
  rw[oo,yq (by grind),yC rfl];rfl
 .show GR (AV.bool (double.order b 4503599627370496==GR .lt))=_
  rw[on,yq (by grind)]
  split<;>rfl
def aDQ(h:Fl' P L){b:Nat}(hb:Dn b m e)(h1:1<=(m:Rat)*p2 e)(h2:(m:Rat)*p2 e<=16777216):ab P L 245 [.an .f64 b,.int .i64 0] (.bool ydC):=by
 obtain⟨_,c2,_,_⟩:=hb.SK h1 h2;have e1:=akh h hb;unfold ab at e1;unfold ab;rw[aB h.aDK];simp only[go_sem,ya,Yt,zO,AH,e1,c2,yp]
def aDR(h:Fl' P L){b:Nat}(hb:Dn b m e)(h1:1<=(m:Rat)*p2 e)(h2:(m:Rat)*p2 e<=16777216):ab P L 246 [.an .f64 b] (.bool ydC):=by
 obtain⟨_,_,c3,_⟩:=hb.SK h1 h2;unfold ab;rw[aB h.aDL];simp only[go_sem,ya,Yu,c3]
def aDS(h:Fl' P L){b:Nat}(hb:Dn b m e)(h1:1<=(m:Rat)*p2 e)(h2:(m:Rat)*p2 e<=16777216):ab P L 247 [.an .f64 b] (.av [.an .f64 b,aa 0]):=by
 obtain⟨_,_,_,c4⟩:=hb.SK h1 h2;have e1:=akh h hb;unfold ab at e1;unfold ab;rw[aB h.aDM];simp only[go_sem,ya,Yv,zO,AH,e1,c4];rfl
def aDT:binOp .shr (.int .u64 (x:Int)) (.int .u64 52)=GR (.int .u64 ((x/4503599627370496:Nat):Int)):=by
 rw[ago];show GR (AV.int .u64 ((x:Int).fdiv 4503599627370496))=_
 rw[Int.fdiv_eq_ediv_of_nonneg _ (by decide)];rfl
def aDU(h:x<2048):binOp .shl (.int .u64 (x:Int)) (.int .u64 52)=GR (.int .u64 ((x*4503599627370496:Nat):Int)):=by
 rw[agn];show GR (AV.int .u64 (IntKind.wrap .u64 ((x:Int)*4503599627370496)))=_
 have:(x:Int)*4503599627370496=((x*4503599627370496:Nat):Int):=by rw[xD];rfl
 rw[this,wrapM,yQ (by omega)]
def au8{F E:Nat}(h:F<4503599627370496):F|||E*4503599627370496=E*4503599627370496+F:=by
 have:=Nat.two_pow_add_eq_or_of_lt (i:=52) (b:=F) h E
 rw[Nat.or_comm,xd E];exact this.symm
def aDV:double.read 4607182418800017408=.number ydC 4503599627370496 (-52):=by decide
def aDW{y:Nat}(hr:double.read y=.number ydC m e):binOp .mul (.an .f64 4607182418800017408) (.an .f64 y)=GR (.an .f64 (double.write (.number ydC (4503599627370496*m) (-52+e)))):=by
 have:double.mul 4607182418800017408 y=GR (double.write (.number ydC (4503599627370496*m) (-52+e))):=by
  unfold Format.mul;rw[aDV,hr];rfl
 show (match double.mul 4607182418800017408 y with | some b=>GR (AV.an .f64 b) | none=>GS)=_
 rw[this]
def aDX(h:Fl' P L){b:Nat}{k:Int}(hb:Dn b m e)(he1: -52<=e)(he2:e<=-28)(h1:1<=(m:Rat)*p2 e)(h2:(m:Rat)*p2 e<=16777216)(gC: -149<=k)(jG:k<=104):∃r m' e',ab P L 243 [.an .f64 b,aa k] (.an .f64 r)/\oX double r ydC m' e'/\(m':Rat)*p2 e'=(m:Rat)*p2 (e+k):=by
 obtain⟨c1,_,_,_⟩:=hb.SK h1 h2;have e1:=aDQ h hb h1 h2;have e2:=aDR h hb h1 h2;have e3:=aDS h hb h1 h2;have e4:=akf h b;obtain⟨_,b2,_⟩:=hb.b;have hn:=hb.nm;have FF:=hb.bits;obtain⟨E,hE⟩:∃E:Nat,(E:Int)=e+1075:=⟨(e+1075).toNat,by omega⟩;obtain⟨F,hF⟩:∃F,m=4503599627370496+F:=⟨m-4503599627370496,by omega⟩;have hx:b=E*4503599627370496+F:=by rw[FF,show (e+1075).toNat=E by omega,hF];omega
 have hdiv:b/4503599627370496=E:=by omega
 have nM:b%4503599627370496=F:=by omega
 have q1:=aDT (x:=b);rw[hdiv] at q1;have q2:=asy (x:=E) (by omega);have q3:=aoJ (x:=b) (by omega);rw[nM] at q3;obtain⟨G,hG⟩:∃G:Nat,(G:Int)=e+k+1075:=⟨(e+k+1075).toNat,by omega⟩;have q4:=aDU (x:=G) (by omega);have q5:=TQ (a:=F) (b:=G*4503599627370496) (by omega) (by omega);rw[au8 (by omega)] at q5;have hD:=Dn.mk' (m:=m) (e:=e+k) (by omega) (by omega) hn b2;rw[show (e+k+1075).toNat=G by omega,show m-4503599627370496=F by omega] at hD;have hyl:G*4503599627370496+F<18446744073709551616:=by omega
 obtain⟨Y,hY⟩:∃Y,Y=G*4503599627370496:=⟨_,rfl⟩;rw[<-hY] at q4 q5 hD hyl;obtain⟨y,hy⟩:∃y,y=Y+F:=⟨_,rfl⟩;rw[<-hy] at q5 hD hyl;have q6:=akg h (b:=y) hyl;obtain⟨m',e',k1,k2,k3⟩:=wr (f:=double) (n:=m) (k:=e+k) (by omega) (show m<9007199254740992 from b2) (by rw[BD];omega) (by rw[BD];show _<=2047;omega) (m0:=4503599627370496*m) (e0:= -52+(e+k)) ydC (by
  have:((4503599627370496:Nat):Rat)=p2 52:=(fP 52).symm
  rw[xI,this];have h3:p2 52*(m:Rat)*p2 (-52+(e+k))=(m:Rat)*(p2 52*p2 (-52+(e+k))):=by grind
  rw[h3,<-eY,show (52:Int)+(-52+(e+k))=e+k by omega])
 have q7:=aDW hD.is.read;refine⟨_,m',e',?_,k1,k3⟩;have w0:IntKind.wrap .i64 (k+0)=k:=by rw[Int.add_zero];exact wrap64 (by omega) (by omega)
 have w1:IntKind.wrap .i64 ((E:Nat):Int)=(E:Int):=wrap64 (by omega) (by omega);have w2:IntKind.wrap .i64 ((E:Int)-1023)=(E:Int)-1023:=wrap64 (by omega) (by omega);have w3:IntKind.wrap .i64 (k+((E:Int)-1023))=k+((E:Int)-1023):=wrap64 (by omega) (by omega);have w4:IntKind.wrap .i64 (k+((E:Int)-1023)+1023)=(G:Int):=by rw[wrap64 (by omega) (by omega)];omega
 have w5:IntKind.wrap .u64 (G:Int)=(G:Int):=by rw[wrapM,yQ (by omega)]
 have cv1:iC (.toInt .i64) (.int .u64 (E:Int))=GR (.int .i64 (E:Int)):=by show GR (AV.int .i64 (IntKind.wrap .i64 (E:Int)))=_;rw[w1]
 have cv2:iC (.toInt .u64) (.int .i64 (G:Int))=GR (.int .u64 (G:Int)):=by show GR (AV.int .u64 (IntKind.wrap .u64 (G:Int)))=_;rw[w5]
 unfold ab at e1 e2 e3 e4 q6;unfold ab;rw[aB h.ake];simp only[go_sem,ya,RL,zO,c1,e1,e2,e3,iA,iw,iz,aqn,AH,w0,e4,q1,cv1,q2,w2,w3,show ¬k+((E:Int)-1023)< -1075 by omega,show ¬(1023:Int)<k+((E:Int)-1023) by omega,show ¬k+((E:Int)-1023)< -1022 by omega,yt,q3,w4,cv2,q4,q5,q6,q7];rfl
def aDY(h:Fl' P L){b:Nat}{k:Int}(hb:Dn b m e)(he1: -52<=e)(he2:e<=-28)(h1:1<=(m:Rat)*p2 e)(h2:(m:Rat)*p2 e<=16777216)(gC: -149<=k)(jG:k<=104):∃r m' e',ab P L 230 [.an .f64 b,aa k] (.an .f64 r)/\oX double r ydC m' e'/\(m':Rat)*p2 e'=(m:Rat)*p2 (e+k):=by
 obtain⟨r,m',e',q1,q2,q3⟩:=aDX h hb he1 he2 h1 h2 gC jG;refine⟨r,m',e',?_,q2,q3⟩;unfold ab at q1;unfold ab;rw[aB h.akd];simp only[go_sem,ya,RJ,zO,q1,AH];rfl
end
end
end VE
end
section
namespace VE
open Go (IntKind)
open Ieee
section
variable {k:Int}{n:Nat}
def ayU(h0:n≠0)(hn:n<=16777216):∃b m e,iC (.toFlt .f64) (.int .i64 (n:Int))=GR (.an .f64 b)/\Dn b m e/\-52<=e/\e<=-28/\(m:Rat)*p2 e=(n:Rat):=by
 have hl:n.log2<25:=(Nat.log2_lt h0).2 (by omega);have h1:2^n.log2<=n:=Nat.log2_self_le h0;have h2:n<2^(n.log2+1):=Nat.lt_log2_self;obtain⟨j,hj⟩:∃j:Nat,n.log2+j=52:=⟨52-n.log2,by omega⟩;have zj:2^52<=n*2^j:=by
  have:=yT (2^j) h1
  rwa[<-xB,hj] at this
 have NH:n*2^j<2^53:=by
  have:=Nat.mul_lt_mul_of_pos_right h2 (xe j)
  rwa[<-xB,show n.log2+1+j=53 by omega] at this
 have hc:Can double (n*2^j) (-(j:Int)):=⟨by rw[BD];omega,NH,.inl zj⟩;have hr:=afK hc (by rw[BD];show _<=2047;omega)
 have hv:(n:Rat)*p2 0=((n*2^j:Nat):Rat)*p2 (-(j:Int)):=by
  rw[xI,<-fP,pW,wv,<-eY,show (j:Int)+ -(j:Int)=0 by omega,pW]
 have zt:n*2^j≠0:=uR (yF (by decide) zj);have hw:=aeG hc zt ydC hv;rw[xo (by omega)] at hw;refine⟨double.write (.number ydC n 0),n*2^j,-(j:Int),?_,⟨⟨hc,hr,hw⟩,zj⟩,by omega,by omega,by rw[<-hv,pW,wJ]⟩;show GR (AV.an .f64 (double.write (.number (decide ((n:Int)<0)) (n:Int).natAbs 0)))=_
 rw[yJ (by omega),xV]
def asz:iC (.toFlt .f64) (.int .i64 0)=GR (.an .f64 0):=by
 show GR (AV.an .f64 (double.write (.number ydC 0 0)))=_
 rw[show double.write (.number ydC 0 0)=0 by decide]
def agI{r m:Nat}{e:Int}(hr:oX double r ydC m e)(hn:n<=16777216)(gC: -149<=k)(jG:k<=104)(EC:n=16777216->k<104)(hv:(m:Rat)*p2 e=(n:Rat)*p2 k):∃b,iC (.toFlt .f32) (.an .f64 r)=GR (.an .f32 b)/\Fl b ydC (n*2^(149+k).toNat):=by
 have e0:iC (.toFlt .f32) (.an .f64 r)=(match double.read r with
  | .number sg m e=>if (single.read (single.write (.number sg m e))).isInfinity then GS else GR (.an .f32 (single.write (.number sg m e)))
  | _=>GS):=rfl
 have hsc:∀{m':Nat} {e':Int},-149<=e'->(m':Rat)*p2 e'=(n:Rat)*p2 k->n*2^(149+k).toNat=cV m' e':=fun {m' e'} h1 h2=>by
  have h3:=Ww (m:=m') (n:=n) h1 gC h2;rw[h3];unfold cV;rw[Int.add_comm]
 have fin:∀{m':Nat} {e':Int},oY (single.write (.number ydC m e)) ydC m' e'->(m':Rat)*p2 e'=(n:Rat)*p2 k->∃b,iC (.toFlt .f32) (.an .f64 r)=GR (.an .f32 b)/\Fl b ydC (n*2^(149+k).toNat):=fun {m' e'} h1 h2=>by
  refine⟨_,?_,m',e',h1,hsc h1.b.1 h2⟩;rw[e0,hr.read]
  dsimp only
  rw[h1.read];rfl
 by_cases n0:n=0
 .subst n0;have hm:m=0:=by
   have h1:(m:Rat)*p2 e=0:=by rw[hv];simp
   rcases yco.1 h1 with q | q
   .exact_mod_cast q
   .exact absurd q (L8 e)
  subst hm;exact fin (SD ydC e) (by simp)
 .by_cases c:n<16777216
  .obtain ⟨m',e',k1,_,k3⟩:=CT (n:=n) (k:=k) n0 c gC jG ydC hv;exact fin k1 k3
  .have et:n=16777216:=by omega
   have hk3:=EC et;have de:(n:Rat)*p2 k=((8388608:Nat):Rat)*p2 (k+1):=by
    rw[et,eY,sU]
    have:((16777216:Nat):Rat)=((8388608:Nat):Rat)*2:=by decide+kernel
    rw[this];grind
   obtain⟨m',e',k1,_,k3⟩:=CT (n:=8388608) (k:=k+1) (by decide) (by decide) (by omega) (by omega) ydC (hv.trans de);exact fin k1 (k3.trans de.symm)
section
variable {P:aE}{L:Lib}
def ayV(h:Fl' P L):ab P L 230 [.an .f64 0,aa k] (.an .f64 0):=by
 have c0:binOp .eql (.an .f64 0) (.an .f64 0)=GR (.bool ydB):=by
  show GR (AV.bool (double.order 0 0==GR .eq))=_
  rw[KB Q9 Q9,yq tk,yC rfl];rfl
 have e1:ab P L 243 [.an .f64 0,aa k] (.an .f64 0):=by
  unfold ab;rw[aB h.ake];simp only[go_sem,ya,RL,c0];rfl
 unfold ab at e1;unfold ab;rw[aB h.akd];simp only[go_sem,ya,RJ,zO,e1,AH];rfl
def aDZ(h:Fl' P L)(hn:n<=16777216)(gC: -149<=k)(jG:k<=104)(EC:n=16777216->k<104):∃b r c,iC (.toFlt .f64) (.int .i64 (n:Int))=GR (.an .f64 b)/\ab P L 230 [.an .f64 b,aa k] (.an .f64 r)/\iC (.toFlt .f32) (.an .f64 r)=GR (.an .f32 c)/\Fl c ydC (n*2^(149+k).toNat):=by
 by_cases n0:n=0
 .subst n0;obtain⟨c,e1,hc⟩:=agI Q9 (n:=0) (k:=k) hn gC jG EC (by simp);exact⟨0,0,c,asz,ayV h,e1,hc⟩
 .obtain ⟨b,m,e,q1,q2,q3,q4,q5⟩:=ayU n0 hn;have h1:(1:Rat)<=(m:Rat)*p2 e:=by
   rw[q5]
   have:((1:Nat):Rat)<=((n:Nat):Rat):=vR.2 (by omega)
   exact this
  have h2:(m:Rat)*p2 e<=16777216:=by
   rw[q5]
   have:((n:Nat):Rat)<=((16777216:Nat):Rat):=vR.2 hn
   exact this
  obtain⟨r,m',e',k1,k2,k3⟩:=aDY h q2 q3 q4 h1 h2 gC jG;obtain⟨c,e1,hc⟩:=agI k2 (n:=n) (k:=k) hn gC jG EC (by rw[k3,eY,<-wv,q5]);exact⟨b,r,c,q1,k1,e1,hc⟩
end
end
end VE
end
section
namespace VE
open Go (IntKind)
open Ieee
def Rc{a b:Int}(h:a<=b):p2 a<=p2 b:=by
 obtain⟨d,rfl⟩:∃d:Nat,b=a+d:=⟨(b-a).toNat,by omega⟩;rw[eY,fP];have h1:(1:Rat)<=((2^d:Nat):Rat):=by
  have:((1:Nat):Rat)<=((2^d:Nat):Rat):=vR.2 (xe d)
  exact this
 have:=uM h1 (uT (nD a))
 rwa[wJ] at this
def aBc{a b:Int}(h:p2 a<p2 b):a<b:=ydz.1 fun q=>absurd (Rc q) (tc.2 h)
def aeP(a:Rat):(dH a).num=(a.num.natAbs:Nat)/\(dH a).den=a.den:=by
 unfold dH;by_cases c:a<0
 .have:a.num<0:=ydz.1 fun q=>absurd (ycz.1 q) (tc.2 c)
  rw[yC c,Vu];exact⟨by omega,rfl⟩
 .have:0<=a.num:=ycz.2 (uC.1 c)
  rw[yq c];exact⟨by omega,rfl⟩
def afS(a:Rat):0<=dH a:=by
 unfold dH
 split<;>grind
def asA(a:Rat):dH a*(a.den:Rat)=(a.num.natAbs:Rat):=by
 have h:=aeP a;have e0:((dH a).num:Rat)/(((dH a).den:Int):Rat)=dH a:=by rw[<-ybX];exact Rat.num_divInt_den _
 have h0:(((dH a).den:Int):Rat)≠0:=fun e=>by
  have:((dH a).den:Int)=0:=by exact_mod_cast e
  have:=(dH a).den_nz
  omega
 have h1:dH a*(((dH a).den:Int):Rat)=((dH a).num:Rat):=by
  conv=>lhs;lhs;rw[<-e0]
  rw[ybv,wv,Rat.inv_mul_cancel _ h0,wJ]
 rw[h.1,h.2] at h1;exact h1
def ant{a:Rat}{B C:Nat}(h1:2^(B-1)<=a.num.natAbs)(hB:0<B)(h2:a.num.natAbs<2^B)(h3:2^(C-1)<=a.den)(hC:0<C)(h4:a.den<2^C):p2 ((B:Int)-C-24+23)<=dH a/\dH a<p2 ((B:Int)-C-24+25):=by
 have hm:=asA a;have hn:=afS a;have c1:p2 ((B:Int)-1)<=(a.num.natAbs:Rat):=by
  rw[show (B:Int)-1=((B-1:Nat):Int) by omega,fP];exact vR.2 h1
 have c2:(a.num.natAbs:Rat)<p2 B:=by rw[fP];exact tP.2 h2
 have c3:p2 ((C:Int)-1)<=(a.den:Rat):=by
  rw[show (C:Int)-1=((C-1:Nat):Int) by omega,fP];exact vR.2 h3
 have c4:(a.den:Rat)<p2 C:=by rw[fP];exact tP.2 h4
 rw[<-hm] at c1 c2;constructor
 .have h5:p2 ((B:Int)-1)<=dH a*p2 C:=Rat.le_trans c1 (uM (uT c4) hn);have h6:=uF h5 (uT (nD (-(C:Int))));rw[wv,<-eY,<-eY,show (C:Int)+ -(C:Int)=0 by omega,pW,wJ,show (B:Int)-1+ -(C:Int)=(B:Int)-C-24+23 by omega] at h6;exact h6
 .have h5:dH a*p2 ((C:Int)-1)<p2 B:=by
   have:=uM c3 hn
   grind
  have h6:=(wK (nD (-((C:Int)-1)))).2 h5;rw[wv,<-eY,<-eY,show (C:Int)-1+ -((C:Int)-1)=0 by omega,pW,wJ,show (B:Int)+ -((C:Int)-1)=(B:Int)-C-24+25 by omega] at h6;exact h6
def aBd{A:Rat}{k:Int}(h1:p2 (k+23)<=A)(h2:A<p2 (k+24)):KP A (max k (-149))/\(max k (-149)<=104->A<p2 128)/\(104<max k (-149)->p2 128<=A):=by
 have e24:(16777216:Rat)=p2 24:=(fP 24).symm;have e23:(8388608:Rat)=p2 23:=(fP 23).symm;refine⟨⟨by omega,?_,?_⟩,fun h=>?_,fun h=>?_⟩
 .rw [e24];have h3:A<p2 (max k (-149)+24):=by
   have:=Rc (show k+24<=max k (-149)+24 by omega)
   grind
  have h4:=(wK (nD (-(max k (-149))))).2 h3
  rwa[<-eY,show max k (-149)+24+ -(max k (-149))=24 by omega] at h4
 .by_cases c:k< -149
  .right;omega
  .left
   rw[e23];have h4:=uF h1 (uT (nD (-(max k (-149)))))
   rwa[<-eY,show k+23+ -(max k (-149))=23 by omega] at h4
 .have:=Rc (show k+24<=128 by omega)
  grind
 .have:=Rc (show (128:Int)<=k+23 by omega)
  grind
end VE
end
section
namespace VE
open Go (IntKind)
open Ieee
def asB(a b:Rat):0<=sT a b↔b<=a:=by
 unfold sT;by_cases c:a<b
 .rw [yC c];exact⟨fun h=>absurd h (by decide),fun h=>absurd c (uC.2 h)⟩
 .rw [yq c];refine⟨fun _=>uC.1 c,fun _=>?_⟩
  split<;>decide
structure Fnp(P:aE)(L:Lib):Prop extends Ck P L,Fl' P L where
 M8:Has P L 150 Mn
 aki:Has P L 202 fR
 F7:Has P L 228 H9
 M9:Has P L 229 Ia
 Cv:Has P L 241 Ib
section
variable {P:aE}{L:Lib}
def ayW(h:Fnp P L){A:Rat}(kA:Hq 2600 A){c1 c2 c3 c4 x1 x2 x3 x4:AV}(hc:b8 (.agg [c1,c2,c3,c4]) A)(fc:F4 c1 c2 c3 c4){k0:Int}(Bo: -5000<=k0/\k0<=5000)(hA:A<p2 (k0+25)):
  cG P L [5,6,7] Lc (fun d st=>∃(k:Int),k+d=k0+1/\k0<=k/\p2 (k+23)<=A/\st=⟨[(5,.ptr 0 0),(6,.ptr 1 0),(7,aa k)],[(1,.cells ydB ydB ydB 4 [c1,c2,c3,c4]),(0,.cells ydB ydB ydB 4 [x1,x2,x3,x4])],2,0⟩) (fun ex s'=>∃tm ct,∃k:Int,s'=⟨tm,[(1,.cells ydB ydB ydB 4 [c1,c2,c3,c4]),(0,.cells ydB ydB ydB 4 [x1,x2,x3,x4])],ct,0⟩/\ex=.exit 0/\k0<=k/\k<=k0+1/\p2 (k+23)<=A/\A<p2 (k+24)/\ak tm 5=.ptr 0 0/\ak tm 6=.ptr 1 0/\ak tm 7=aa k):=by
 apply cI;rintro d st ⟨k,hd,hk,aY,rfl⟩;obtain⟨v,e1,hv⟩:=Zq h.toFr' h.rk h.Cv h.F7 (k:=k+24) (by omega);have kv:Hq 6000 (p2 (k+24)):=(X2 _).mono (by omega);have e2:=m71 h.toFr' hc hv (kA.mono (show 2600<=6000 by decide)) kv (by decide);obtain⟨v1,v2,v3,v4,rfl,iq⟩:=hv.gen;have wk:IntKind.wrap .i64 (k+24)=k+24:=wrap64 (by omega) (by omega);have hg:=asB A (p2 (k+24));unfold ab at e1 e2;by_cases c:p2 (k+24)<=A
 .left
  have aG:=aBc (show p2 (k+24)<p2 (k0+25) by grind);have wk1:IntKind.wrap .i64 (k+1)=k+1:=wrap64 (by omega) (by omega);simp only[go_sem,ya,Lc,eC,ye,wk,fc.ai,iq.ai,e1,e2,bz,hg.2 c,yp,wk1];refine⟨_,d-1,rfl,by omega,k+1,by omega,by omega,by rw[show k+1+23=k+24 by omega];exact c,?_⟩
  simp only[go_sem,ya,yb,aq]<;>rfl
 .right
  simp only[go_sem,ya,Lc,eC,ye,wk,fc.ai,iq.ai,e1,e2,bz,show ¬0<=sT A (p2 (k+24)) from fun q=>c (hg.1 q),yt];exact⟨_,_,rfl,by simp,_,_,k,rfl,rfl,hk,by omega,aY,tc.1 c,by simp only[go_sem,ya],by simp only[go_sem,ya],by simp only[go_sem,ya]⟩
end
end VE
end
section
namespace VE
open Go (IntKind)
open Ieee
section
variable {P:aE}{L:Lib}
def ayX(h:Fnp P L){a:Rat}(kA:Hq 2600 (dH a)){c1 c2 c3 c4 x1 x2 x3 x4:AV}(hc:b8 (.agg [c1,c2,c3,c4]) (dH a))(fc:F4 c1 c2 c3 c4)(hx:b8 (.agg [x1,x2,x3,x4]) a)(fx:F4 x1 x2 x3 x4){k:Int}(hk: -5100<=k/\k<=5100)(aY:p2 (k+23)<=dH a)(hZ:dH a<p2 (k+24)):
  ∃o,NF (dH a) o/\(match o with
   | none=>fS fR.dC (D P L (cJ 6 fR.body) ⟨[(5,.ptr 0 0),(6,.ptr 1 0),(7,aa k)],[(1,.cells ydB ydB ydB 4 [c1,c2,c3,c4]),(0,.cells ydB ydB ydB 4 [x1,x2,x3,x4])],2,0⟩)=GR (.av [.an .f32 0,aa 4])
   | some M=>∃b,Fl b (lC a M) M/\fS fR.dC (D P L (cJ 6 fR.body) ⟨[(5,.ptr 0 0),(6,.ptr 1 0),(7,aa k)],[(1,.cells ydB ydB ydB 4 [c1,c2,c3,c4]),(0,.cells ydB ydB ydB 4 [x1,x2,x3,x4])],2,0⟩)=GR (.av [.an .f32 b,aa 0])):=by
 obtain⟨K1,K2,K3⟩:=aBd aY hZ;have Ce:(if (-149:Int)>k then (-149:Int) else k)=max k (-149):=by split<;>omega
 generalize qd:max k (-149)=j at*
 by_cases cj:104<j
 .refine ⟨GS,.inl ⟨K3 cj,rfl⟩,?_⟩;simp only[go_sem,ya,fR,cJ,aI,fB,fL,Ce,cj,yp];rfl
 .have hA:=K2 (by omega);have Gf:=K1.lo;have hA0:=afS a;have ia:0<=dH a*p2 (-j):=Rat.mul_nonneg hA0 (uT (nD _));have ylt:=K1.lt;have wn:IntKind.wrap .i64 (0-j)= -j:=by rw[show (0:Int)-j= -j by omega];exact wrap64 (by omega) (by omega)
  obtain⟨u,e1,hu⟩:=Zq h.toFr' h.rk h.Cv h.F7 (k:= -j) (by omega);have ku:Hq 1001 (p2 (-j)):=Cw _ (by omega);obtain⟨v,e2,hv⟩:=m49 h.toFr' hc hu kA (ku.mono (show 1001<=2600 by decide)) (by decide);have ky:Hq 5000 (dH a*p2 (-j)):=(kA.mul ku).mono (by decide);have e3:=aDJ h.toFr' h.M8 h.M9 hv ky ia ylt;have nle:=ail ia ylt;have GI:∀{o:Option Nat},((nR (dH a*p2 (-j))=16777216/\j=104/\o=GS)\/(¬(nR (dH a*p2 (-j))=16777216/\j=104)/\o=GR (nR (dH a*p2 (-j))*2^(149+j).toNat)))->NF (dH a) o:=fun q=>.inr ⟨hA,j,K1,by omega,q⟩
  obtain⟨u1,u2,u3,u4,rfl,fu⟩:=hu.gen;obtain⟨v1,v2,v3,v4,rfl,iq⟩:=hv.gen;have e4:=ajF h.toFr' hx;have zu:=EQ a;unfold ab at e1 e2 e3 e4;generalize nR (dH a*p2 (-j))=n at*
  by_cases z:n=16777216/\j=104
  .obtain ⟨z1,z2⟩:=z;have hz:((n:Nat):Int)=16777216:=by omega
   refine⟨GS,GI (.inl ⟨z1,z2,rfl⟩),?_⟩;subst z2;simp only[go_sem,ya,fR,cJ,aI,fB,fL,Ce,cj,yt,eC,ye,fc.ai,wn,e1,bz,fu.ai,e2,iq.ai,e3,hz,yp];rfl
  .obtain ⟨b,r,c,q1,q2,q3,q4⟩:=aDZ (P:=P) (L:=L) h.toFl' (n:=n) (k:=j) nle Gf (by omega) (fun x=>by omega);have BA:n*2^(149+j).toNat≠0↔0<n:=by
    have:=xe (149+j).toNat
    constructor
    .intro x;exact vW fun y=>x (by rw[y,wo])
    .intro x;exact uR (Nat.mul_pos x this)
   unfold ab at q2;by_cases s1:a<0/\0<n
   .have hs:=zu.2 s1.1;refine⟨GR _,GI (.inr ⟨z,rfl⟩),c^^^2147483648,?_,?_⟩
    .rw [show lC a (n*2^(149+j).toNat)=ydB by unfold lC;rw[yZ s1.1,yZ (BA.2 s1.2)];rfl]
     exact q4.neg
    .by_cases z1:n=16777216
     .have hz:((n:Nat):Int)=16777216:=by omega
      have z2:¬j=104:=fun x=>z ⟨z1,x⟩
      rw[hz] at q1;simp only[go_sem,ya,fR,cJ,aI,fB,fL,Ce,cj,yt,eC,ye,fc.ai,wn,e1,bz,fu.ai,e2,iq.ai,e3,hz,z2,yp,q1,zO,q2,AH,q3,fx.ai,e4,hs,show (0:Int)<16777216 by decide,Q5];rfl
     .simp only [go_sem,ya,fR,cJ,aI,fB,fL,Ce,cj,yt,eC,ye,fc.ai,wn,e1,bz,fu.ai,e2,iq.ai,e3,show ¬((n:Nat):Int)=16777216 by omega,q1,zO,q2,AH,q3,fx.ai,e4,hs,show (0:Int)<(n:Int) by omega,yp,Q5];rfl
   .refine ⟨GR _,GI (.inr ⟨z,rfl⟩),c,?_,?_⟩
    .rw [show lC a (n*2^(149+j).toNat)=ydC by
      unfold lC;by_cases x:a<0
      .rw [yJ (fun y=>s1 ⟨x,BA.1 y⟩),Bool.and_false]
      .rw [yJ x];rfl]
     exact q4
    .by_cases x:a<0
     .have hs:=zu.2 x;have n0:¬(0:Int)<(n:Int):=fun y=>s1 ⟨x,by omega⟩
      simp only[go_sem,ya,fR,cJ,aI,fB,fL,Ce,cj,yt,eC,ye,fc.ai,wn,e1,bz,fu.ai,e2,iq.ai,e3,show ¬((n:Nat):Int)=16777216 by omega,q1,zO,q2,AH,q3,fx.ai,e4,hs,n0,yp];rfl
     .have hs:¬b7 a.num<0:=fun y=>x (zu.1 y)
      by_cases z1:n=16777216
      .have hz:((n:Nat):Int)=16777216:=by omega
       have z2:¬j=104:=fun x=>z ⟨z1,x⟩
       rw[hz] at q1;simp only[go_sem,ya,fR,cJ,aI,fB,fL,Ce,cj,yt,eC,ye,fc.ai,wn,e1,bz,fu.ai,e2,iq.ai,e3,hz,z2,yp,q1,zO,q2,AH,q3,fx.ai,e4,hs];rfl
      .simp only [go_sem,ya,fR,cJ,aI,fB,fL,Ce,cj,yt,eC,ye,fc.ai,wn,e1,bz,fu.ai,e2,iq.ai,e3,show ¬((n:Nat):Int)=16777216 by omega,q1,zO,q2,AH,q3,fx.ai,e4,hs];rfl
end
end VE
end
section
namespace VE
open Go (IntKind)
open Ieee
def aD0:NF 0 (GR 0):=by
 refine .inr ⟨nD 128,-149,⟨by omega,by rw[ydd];decide,.inr rfl⟩,by omega,.inr ⟨fun q=>absurd q.2 (by decide),?_⟩⟩
 rw[ydd,aeO Rat.le_refl (by decide+kernel),wo]
section
variable {P:aE}{L:Lib}
def aD1(h:Fnp P L){a:Rat}(ka:Hq 2600 a)(hc:Oe (RT a)=0):∃o,NF (dH a) o/\(match o with
  | none=>ab P L 202 [.str (RT a)] (.av [.an .f32 0,aa 4])
  | some M=>∃b,Fl b (lC a M) M/\ab P L 202 [.str (RT a)] (.av [.an .f32 b,aa 0])):=by
 have hlen:=HM ka;have e1:=m86 h.toCk (s:=RT a) (by omega);rw[hc] at e1;obtain⟨x,e2,hx⟩:=m62 h.toTx (a:=a) (by omega);have e3:=ajF h.toFr' hx;have BB:=hx;obtain⟨s1,w1,s2,w2,rfl,k1,k2⟩:=hx;have fx:F4 (aa s1) w1 (aa s2) w2:=by
  obtain⟨_,_,_,_,e,g⟩:=b8.gen BB;simp only[AV.agg.injEq,uA,vN] at e;obtain⟨rfl,rfl,rfl,rfl⟩:=e;exact g
 obtain⟨l1,u1⟩:=k1.aH;obtain⟨l2,u2⟩:=k2.aH;by_cases h0:a=0
 .subst h0;have hs:b7 (0:Rat).num=0:=by decide
  rw[hs] at e3;refine⟨GR 0,by rw[show dH 0=0 by unfold dH;rw[yq tk]];exact aD0,0,by rw[show lC 0 0=ydC by unfold lC;simp];exact Fl.zero,?_⟩
  unfold ab at e1 e2 e3;unfold ab;rw[aB h.aki];simp only[go_sem,ya,yb,fR,e1,yp,yL,e2,aT,fx.st,fx.ai,bz,eC,ye,e3];rfl
 .have hz:(a.num.natAbs:Int)≠0:=by
   intro q;have hn:a.num=0:=by omega
   exact h0 (Rat.num_eq_zero.1 hn)
  have JY:¬b7 a.num=0:=fun q=>h0 ((acM a).1 q)
  have rS:=aeP a;obtain⟨r,e4,hr⟩:=Y1 h.toNu (z:=a.num) ⟨s1,w1,rfl,k1⟩ ka.1 (by decide);obtain⟨s3,w3,rfl,k3⟩:=hr;obtain⟨l3,u3⟩:=k3.aH;have hS:b8 (.agg [aa s3,w3,aa s2,w2]) (dH a):=⟨s3,w3,s2,w2,rfl,by rw[rS.1];exact k3,by rw[rS.2];exact k2⟩
  have fs:F4 (aa s3) w3 (aa s2) w2:=by
   obtain⟨_,_,_,_,e,g⟩:=b8.gen hS;simp only[AV.agg.injEq,uA,vN] at e;obtain⟨rfl,rfl,rfl,rfl⟩:=e;exact g
  have kA:Hq 2600 (dH a):=⟨by rw[rS.1];unfold Bd;rw[xV];exact ka.1,by rw[rS.2];exact ka.2⟩
  obtain⟨B,e5,b1,b2,b3,b4⟩:=aim h.toTx (z:=(a.num.natAbs:Int)) ⟨s3,w3,rfl,k3⟩ (K:=2600) (by unfold Bd;rw[xV];exact ka.1) (by decide) hz
  obtain⟨C,e6,d1,d2,d3,d4⟩:=aim h.toTx (z:=(a.den:Int)) ⟨s2,w2,rfl,k2⟩ ka.2 (by decide) (by have:=a.den_nz;omega);rw[xV] at b1 b3 d1 d3;obtain⟨g1,g2⟩:=ant b3 b2 b1 d3 d2 d1;have wk1:IntKind.wrap .i64 ((B:Int)-C)=(B:Int)-C:=wrap64 (by omega) (by omega);have wk2:IntKind.wrap .i64 ((B:Int)-C-24)=(B:Int)-C-24:=wrap64 (by omega) (by omega);have lp:=ayW (P:=P) (L:=L) h kA hS fs (x1:=aa s1) (x2:=w1) (x3:=aa s2) (x4:=w2) (k0:=(B:Int)-C-24) (by omega) g2 1;have go:=fun k hk lo hi=>ayX h kA hS fs BB fx (k:=k) hk lo hi
  suffices hh:∃k:Int,(-5100<=k/\k<=5100)/\p2 (k+23)<=dH a/\dH a<p2 (k+24)/\fS fR.dC (D P L fR.body ⟨fw 0 [.str (RT a)],[],0,0⟩)=fS fR.dC (D P L (cJ 6 fR.body) ⟨[(5,.ptr 0 0),(6,.ptr 1 0),(7,aa k)],[(1,.cells ydB ydB ydB 4 [aa s3,w3,aa s2,w2]),(0,.cells ydB ydB ydB 4 [aa s1,w1,aa s2,w2])],2,0⟩) by
   obtain⟨k,hk,lo,hi,hq⟩:=hh;have fin:∀{r:AV},fS fR.dC (D P L fR.body ⟨fw 0 [.str (RT a)],[],0,0⟩)=GR r->ab P L 202 [.str (RT a)] r:=fun q=>by
    unfold ab;rw[aB h.aki];exact q
   obtain⟨o,ho,hm⟩:=go k hk lo hi;refine⟨o,ho,?_⟩
   cases o with
   | none=>exact fin (hq.trans hm)
   | some M=>
    obtain⟨b,hb,hm⟩:=hm;exact⟨b,hb,fin (hq.trans hm)⟩
  unfold ab at e1 e2 e3 e4 e5 e6;have cut:fR.body=.seq (bD fR.body) (.seq (bD (cJ 0 fR.body)) (.seq (bD (cJ 1 fR.body)) (.seq (bD (cJ 2 fR.body)) (.seq (bD (cJ 3 fR.body)) (.seq (bD (cJ 4 fR.body)) (.seq (bD (cJ 5 fR.body)) (cJ 6 fR.body))))))):=rfl;rw[cut];generalize cJ 6 fR.body=T;simp only[go_sem,ya,yb,fR,cJ,aI,bD,e1,yp,yL,e2,aT,fx.st,fx.ai,bz,eC,ye,e3,JY,yt,aP,yd,qV,AX,bS,u1.ai,u2.ai,u2.one,u3.ai,u3.one,e4,Dl,Dm,fs.st,e5,e6,wk1,wk2];generalize hq:D P L (.loop _ Lc) _=q;obtain⟨ex,st,rfl,tm,ct,k,rfl,rfl,q1,q2,q3,q4,t5,t6,t7⟩:=bt hq lp ⟨(B:Int)-C-24,by omega,by omega,g1,by simp only[go_sem,ya,yb,aq]<;>rfl⟩
  refine⟨k,by omega,q3,q4,?_⟩;simp only[go_sem,ya,yb,aq,t5,t6,t7]
end
end VE
end
section
namespace VE
open Go (IntKind)
open Ieee
def gX(b:Nat):Bool:=match single.read b with
 | .number .. =>ydB
 | _=>ydC
def Bg:List AV->Option AV
 | [.an .f32 b]=>GR (.bool (gX b))
 | _=>GS
def Fl.fin{b M:Nat}{s:Bool}(h:Fl b s M):gX b=ydB:=by
 obtain⟨m,e,h1,_⟩:=h.ex;unfold gX;rw[h1.read]
def ayY{b:Nat}(hb:b<4294967296):(∃s M,Fl b s M)\/gX b=ydC:=by
 rcases ayn (f:=single) (b:=b) hb (by decide) with ⟨s,m,e,h⟩ | h
 .exact .inl ⟨s,_,⟨m,e,h,rfl⟩⟩
 .right
  unfold gX
  cases hr:single.read b with
  | number s m e=>exact absurd hr (h s m e)
  | _=>rfl
def Fl.pz{b:Nat}(h:Fl b ydC 0):b=0:=by
 obtain⟨m,e,h1,h2⟩:=h.ex;have hm:m=0:=by
  unfold cV at h2;rcases Nat.mul_eq_zero.1 h2.symm with q | q
  .exact q
  .exact absurd q (uR (xe _))
 subst hm;obtain⟨b1,b2,b3,b4⟩:=h1.b;have he:e= -149:=by omega
 subst he;rw[h1.eq];decide
abbrev dB(l:List Nat):List AV:=l.map (.an .f32)
end VE
end
section
namespace VE
open Go
open Ieee
def afT{b m:Nat}{s:Bool}{e:Int}(h:single.read b=.number s m e):single.sub b b=GR 0:=by
 unfold Format.sub;rw[h];show GR (single.write (.number (if signed s m (e-min e e).toNat+signed (!s) m (e-min e e).toNat=0 then s&& !s else decide (signed s m (e-min e e).toNat+signed (!s) m (e-min e e).toNat<0)) (signed s m (e-min e e).toNat+signed (!s) m (e-min e e).toNat).natAbs (min e e)))=GR 0
 have h0:signed s m (e-min e e).toNat+signed (!s) m (e-min e e).toNat=0:=by
  unfold signed;cases s<;>simp<;>omega
 rw[h0,yC rfl];have hs:(s&& !s)=ydC:=by cases s<;>rfl
 rw[hs];rfl
def au9{b:Nat}(h:∀s m e,single.read b≠.number s m e):single.sub b b=GS:=by
 unfold Format.sub
 cases hr:single.read b with
 | number s m e=>exact absurd hr (h s m e)
 | infinity s=>cases s<;>rfl
 | nan s t=>rfl
def ava{x:Nat}(hx:x<8388607)(t:Nat):single.order (t%2*2147483648+2139095040+1+x) 0=GS:=by
 have hm:(t%2*2147483648+2139095040+1+x)%2147483648=2139095041+x:=by omega
 have hr:∃s n,single.read (t%2*2147483648+2139095040+1+x)=.nan s n:=by
  unfold Format.read;simp only[show single.signWeight=2147483648 from rfl,show single.binade=8388608 from rfl,show single.infRung=2139095040 from rfl];rw[hm,yq (by omega),yq (by omega),yq (by omega)];exact⟨_,_,rfl⟩
 obtain⟨s,n,hr⟩:=hr;unfold Format.order;rw[hr];rfl
def afU(P:xp)(b:Nat)(w:yo):∃r w1,(∀t,(xZ .sub t (.float .f32 b) (.float .f32 b)).run P w=.ok (.float .f32 r) w1)/\Calm w w1/\(∀t w',(xZ .eql t (.float .f32 r) (.float .f32 0)).run P w'=.ok (.bool (gX b)) w'):=by
 by_cases h:∃s m e,single.read b=.number s m e
 .obtain ⟨s,m,e,h⟩:=h;have h1:FloatKind.f32.format.sub b b=GR 0:=afT h;refine⟨0,w,fun t=>?_,Calm.refl,fun t w'=>?_⟩
  .simp [xZ,Op.floatArith,h1]
  .have:gX b=ydB:=by unfold gX;rw[h]
   rw[this];rfl
 .have h':∀s m e,single.read b≠.number s m e:=fun s m e q=>h ⟨s,m,e,q⟩
  have h1:FloatKind.f32.format.sub b b=GS:=au9 h';obtain⟨t0,ht0⟩:∃t0,t0=w.tape w.drawn (.nanBits .f32 b b):=⟨_,rfl⟩;refine⟨(Question.nanBits .f32 b b).cut t0,w.drew,fun t=>?_,⟨rfl,rfl,rfl,yz _,fun _ _=>rfl⟩,fun t w'=>?_⟩
  .rw [ht0];simp[xZ,Op.floatArith,h1,Question.forced]
  .have:gX b=ydC:=by
    unfold gX
    cases hr:single.read b with
    | number s m e=>exact absurd hr (h' s m e)
    | _=>rfl
   rw[this];have hc:=ava (x:=t0/2%8388607) (xq _ (by decide)) t0;have iN:FloatKind.f32.format.order ((Question.nanBits .f32 b b).cut t0) 0=GS:=hc;simp[xZ,Op.floatCmp,iN]
variable {O:bE}
def afV{n:Nat}(gA:∀args w,(callFunc (O.ae n) args).run O.P w=.ok (.enter (O.ae n) args) w)(hc:∀(b:Nat) (w:yo),wz O.P (O.ae n) #[.float .f32 b] w fun e w'=>e=.returned (.bool (gX b))/\Calm w w'):∀ax r,Bg ax=GR r->eR O n ax r:=by
 intro ax r h;unfold Bg at h
 split at h
 .rename_i b;simp only[yc] at h;subst h;refine qG ad5 gA ?_;intro w S args hg er;obtain⟨u,rfl,h1⟩:=FD er;simp only[af] at h1;subst h1;refine (hc b w).mono ?_;rintro e w' ⟨rfl,h2⟩;exact⟨_,rfl,h2,fun S=>by simp only[af]⟩
 .cases h
end VE
end
section
namespace Go.Proofs
open Go.RowKit
def Tryz.aD2(b:Nat)(w:yo):wz Tryz.prog 142 #[.float .f32 b] w fun e w'=>e=.returned (.bool (VE.gX b))/\VE.Calm w w':=by
 obtain⟨r,w1,h1,h2,h3⟩:=VE.afU Tryz.prog b w
 go_enter Tryz.func142,Tryz.ntmps142
 go_wp2_with (simp only[h1,h3])
 go_ret
 exact⟨rfl,h2⟩
def Tryz.aD3(b:Nat)(w:yo):wz Tryz.prog 130 #[.float .f32 b] w fun e w'=>e=.returned (.bool (VE.gX b))/\VE.Calm w w':=by
 obtain⟨r,w1,h1,h2,h3⟩:=VE.afU Tryz.prog b w
 go_enter Tryz.func130,Tryz.ntmps130
 go_wp2_with (simp only[h1,h3])
 go_ret
 exact⟨rfl,h2⟩
end Go.Proofs
end
section
namespace VE
open Go
section
variable {H:Type}{enc:yB×ym->H}{P:xp}{w:yo}{base:Nat}{sp:Nat->Bool}{held:Bool}
def mapM_mem{α β:Type}{f:α->Option β}:∀{l:List α} {r:List β},l.mapM f=GR r->∀y,y∈r->∃x,f x=GR y
 | [],r,h,y,hy=>by simp only[List.mapM_nil,vt,yc] at h;subst h;cases hy
 | x::l,r,h,y,hy=>by
  rw[ta] at h
  cases h1:f x with
  | none=>simp[h1] at h
  | some z=>
   cases h2:l.mapM f with
   | none=>simp[h1,h2] at h
   | some zs=>
    simp only[h1,h2,wM,ug,vt,yc] at h;subst h;rcases we.1 hy with rfl | hy
    .grind
    .exact mapM_mem h2 y hy
def Rd(enc:yB×ym->H)(P:xp)(w:yo)(base:Nat)(sp:Nat->Bool)(held:Bool)(t:yB)(d:xU H):Prop:=∃bw cs ps,DataW.trod enc P w base sp held bw t cs=GR (d,ps)
def ayZ{t:yB}{k:xg}{d:xU H}{n:Nat}(ht:P.underlying t=GR (.int k))(h:Rd enc P w base sp held t d):∃z,df P (n+1) t d=[.int k z]/\(Lit.int k z).wf=ydB:=by
 obtain⟨bw,cs,ps,h⟩:=h
 cases bw with
 | zero=>simp[DataW.trod] at h
 | succ bw=>
  unfold DataW.trod at h
  split at h
  all_goals first
   | (rename_i hu;rw[ht] at hu;cases hu;done)
   | skip
  .rename_i k1 k2 z hu;rw[ht] at hu;injection hu with hu
   injection hu with hu
   subst hu
   split at h
   .rename_i hk;obtain⟨rfl,rfl⟩:=h;exact⟨z,by simp only[df,ht],hk.2⟩
   .cases h
  grind
def asC{t e:yB}{d:xU H}{n:Nat}(ht:P.underlying t=GR (.slice e))(h:Rd enc P w base sp held t d):
  df P (n+1) t d=[.aj]\/∃(x:Bool) (lJ:List (xU H)),df P (n+1) t d=[.au x lJ.length (lJ.flatMap fun y=>df P n e y)]/\∀y,y∈lJ->Rd enc P w base sp held e y:=by
 obtain⟨bw,cs,ps,h⟩:=h
 cases bw with
 | zero=>simp[DataW.trod] at h
 | succ bw=>
  unfold DataW.trod at h
  split at h
  all_goals first
   | (rename_i hu;rw[ht] at hu;cases hu;done)
   | skip
  .simp only [yc,yr] at h;obtain⟨rfl,rfl⟩:=h;exact .inl (by simp only[df,ht])
  .rename_i e' a len cap hu;rw[ht] at hu;injection hu with hu
   injection hu with hu
   subst hu;simp only at h
   split at h
   case isFalse=>cases h
   cases h1:(wq len).mapM fun i=>(w.cells? base (a.add (i*P.cellsOf e)) (P.cellsOf e)).bind (DataW.trod enc P w base sp held bw e) with
   | none=>rw[h1] at h;simp at h
   | some lJ=>
    rw[h1] at h;obtain⟨rest,_,h⟩:=wT.1 h;obtain⟨rfl,rfl⟩:=h;refine .inr ⟨(rest.map (·.1)).isEmpty,lJ.map (·.1),by simp only[df,ht,y5],?_⟩;intro y hy;obtain⟨p,hp,rfl⟩:=wW.1 hy;obtain⟨i,hi⟩:=mapM_mem h1 p hp;obtain⟨dJ,_,iG⟩:=Option.bind_eq_some_iff.1 hi;exact⟨bw,dJ,p.2,iG⟩
  grind
def aqo{t:yB}{fs:Array uj}{d:xU H}{n:Nat}(ht:P.underlying t=GR (.struct fs))(h:Rd enc P w base sp held t d):
  ∃ds:List (xU H),ds.length=fs.toList.length/\df P (n+1) t d=(fs.toList.zip ds).flatMap (fun x=>df P n x.1.type x.2)/\∀i (h1:i<fs.toList.length) (h2:i<ds.length),Rd enc P w base sp held fs.toList[i].type ds[i]:=by
 obtain⟨bw,cs,ps,h⟩:=h
 cases bw with
 | zero=>simp[DataW.trod] at h
 | succ bw=>
  unfold DataW.trod at h
  split at h
  all_goals first
   | (rename_i hu;rw[ht] at hu;cases hu;done)
   | (cases h;done)
   | skip
  rename_i cs x1 NU fs' hu;rw[ht] at hu;injection hu with hu
  injection hu with hu
  subst hu
  split at h
  case isFalse=>cases h
  obtain⟨xs,h1,h⟩:=wT.1 h;obtain⟨rfl,rfl⟩:=h;refine⟨xs.map (·.1),by simp[Pj h1],by simp only[df,ht],?_⟩;have key:∀{r:List uj} {xs:List (xU H×List wQ)},r.mapM (fun f=>DataW.trod enc P w base sp held bw f.type ((cs.drop f.offset).take (P.cellsOf f.type)))=GR xs->
    ∀i (h1:i<r.length) (h2:i<(xs.map (·.1)).length),Rd enc P w base sp held r[i].type (xs.map (·.1))[i]:=by
   intro r
   induction r with
   | nil=>intro xs h i h1;exact absurd h1 (yam i)
   | cons f r ih=>
    intro xs h i h1 h2;rw[ta] at h
    cases g1:DataW.trod enc P w base sp held bw f.type ((cs.drop f.offset).take (P.cellsOf f.type)) with
    | none=>simp[g1] at h
    | some x=>
     cases g2:r.mapM (fun f=>DataW.trod enc P w base sp held bw f.type ((cs.drop f.offset).take (P.cellsOf f.type))) with
     | none=>simp[g1,g2] at h
     | some ys=>
      simp only[g1,g2,wM,ug,vt,yc] at h;subst h
      cases i with
      | zero=>exact⟨bw,_,x.2,g1⟩
      | succ i=>exact ih g2 i (by simpa using h1) (by simpa using h2)
  exact key h1
def asD{t e:yB}{k:Nat}{d:xU H}{n:Nat}(ht:P.underlying t=GR (.array k e))(h:Rd enc P w base sp held t d):
  ∃ds:List (xU H),ds.length=k/\df P (n+1) t d=ds.flatMap (fun x=>df P n e x)/\∀y,y∈ds->Rd enc P w base sp held e y:=by
 obtain⟨bw,cs,ps,h⟩:=h
 cases bw with
 | zero=>simp[DataW.trod] at h
 | succ bw=>
  unfold DataW.trod at h
  split at h
  all_goals first
   | (rename_i hu;rw[ht] at hu;cases hu;done)
   | (cases h;done)
   | skip
  rename_i cs x1 NU k' e' hu;rw[ht] at hu;injection hu with hu
  injection hu with Am CK
  subst Am;subst CK
  split at h
  case isFalse=>cases h
  obtain⟨xs,h1,h⟩:=wT.1 h;obtain⟨rfl,rfl⟩:=h;refine⟨xs.map (·.1),by simp[Pj h1],by simp only[df,ht],fun y hy=>?_⟩;obtain⟨p,hp,rfl⟩:=wW.1 hy;obtain⟨i,hi⟩:=mapM_mem h1 p hp;exact⟨bw,_,p.2,hi⟩
end
end VE
end
section
namespace VE
open Go
inductive Ty
 | int (k:xg)
 | an (k:xX)
 | bool
 | str
 | sl (e:Ty)
 | nil
 | cat (a b:Ty)
 | ar (n:Nat) (e:Ty)
def mb:Ty->List AV->Prop
 | .int k,l=>∃z,l=[.int k z]/\(Lit.int k z).wf=ydB
 | .an k,l=>∃b,l=[.an k b]/\(Lit.float k b).wf=ydB
 | .bool,l=>∃b,l=[.bool b]
 | .str,l=>∃s:List Nat,l=[.str s]/\s.length<9223372036854775808/\∀c,c∈s->c<256
 | .sl e,l=>l=[.aj]\/∃(x:Bool) (ps:List (List AV)),l=[.au x ps.length ps.flatten]/\∀p,p∈ps->mb e p
 | .nil,l=>l=[]
 | .cat a b,l=>∃x y,l=x++y/\mb a x/\mb b y
 | .ar n e,l=>∃ps:List (List AV),ps.length=n/\l=ps.flatten/\∀p,p∈ps->mb e p
def pO:List (Option Ty)->Option Ty
 | []=>GR .nil
 | some a::r=>match pO r with
  | some b=>GR (.cat a b)
  | none=>GS
 | none::_=>GS
def iE(P:xp):Nat->yB->Option Ty
 | 0,_=>GS
 | n+1,t=>
  match P.underlying t with
  | some .bool=>GR .bool
  | some (.int k)=>GR (.int k)
  | some (.float k)=>GR (.an k)
  | some .string=>GR .str
  | some (.slice e)=>(iE P n e).map .sl
  | some (.struct fs)=>pO (fs.toList.map fun f=>iE P n f.type)
  | some (.array k e)=>(iE P n e).map (.ar k)
  | _=>GS
section
variable {H:Type}{enc:yB×ym->H}{P:xp}{w:yo}{base:Nat}{sp:Nat->Bool}{held:Bool}
def ay0{t:yB}{k:xX}{d:xU H}{n:Nat}(ht:P.underlying t=GR (.float k))(h:Rd enc P w base sp held t d):∃b,df P (n+1) t d=[.an k b]/\(Lit.float k b).wf=ydB:=by
 obtain⟨bw,cs,ps,h⟩:=h
 cases bw with
 | zero=>simp[DataW.trod] at h
 | succ bw=>
  unfold DataW.trod at h
  split at h
  all_goals first
   | (rename_i hu;rw[ht] at hu;cases hu;done)
   | skip
  .rename_i k1 k2 z hu;rw[ht] at hu;injection hu with hu
   injection hu with hu
   subst hu
   split at h
   .rename_i hw;obtain⟨rfl,rfl⟩:=h;exact⟨z,by simp only[df,ht],hw.2⟩
   .cases h
  grind
def avb{t:yB}{d:xU H}{n:Nat}(ht:P.underlying t=GR .bool)(h:Rd enc P w base sp held t d):∃b,df P (n+1) t d=[.bool b]:=by
 obtain⟨bw,cs,ps,h⟩:=h
 cases bw with
 | zero=>simp[DataW.trod] at h
 | succ bw=>
  unfold DataW.trod at h
  split at h
  all_goals first
   | (rename_i hu;rw[ht] at hu;cases hu;done)
   | skip
  .simp only [yc,yr] at h;obtain⟨rfl,rfl⟩:=h;rename_i b _;exact⟨b,by simp only[df,ht]⟩
  grind
def ay1{t:yB}{d:xU H}{n:Nat}(ht:P.underlying t=GR .string)(h:Rd enc P w base sp held t d):
  ∃s:List Nat,df P (n+1) t d=[.str s]/\s.length<9223372036854775808/\∀c,c∈s->c<256:=by
 obtain⟨bw,cs,ps,h⟩:=h
 cases bw with
 | zero=>simp[DataW.trod] at h
 | succ bw=>
  unfold DataW.trod at h
  split at h
  all_goals first
   | (rename_i hu;rw[ht] at hu;cases hu;done)
   | skip
  .rename_i s hu
   split at h
   .rename_i hs;obtain⟨rfl,rfl⟩:=h;refine⟨_,by simp only[df,ht];rfl,?_,fun c hc=>?_⟩
    .simp only [y5,Array.length_toList];have h1:s.size<=9223372036854775807:=hs;have h2:s.data.size=s.size:=rfl;omega
    .obtain ⟨b,_,rfl⟩:=wW.1 hc;exact b.toNat_lt
   .cases h
  grind
def acN{n:Nat}(ih:∀{t:yB} {T:Ty} {d:xU H},iE P n t=GR T->Rd enc P w base sp held t d->mb T (df P n t d)):
  ∀(fs:List uj) (ds:List (xU H)) (T:Ty),pO (fs.map fun f=>iE P n f.type)=GR T->ds.length=fs.length->(∀i (h1:i<fs.length) (h2:i<ds.length),Rd enc P w base sp held fs[i].type ds[i])->
   mb T ((fs.zip ds).flatMap fun x=>df P n x.1.type x.2)
 | [],ds,T,hT,_,_=>by
  simp only[wO,pO,yc] at hT;subst hT;simp[mb]
 | f::fs,[],T,_,hl,_=>by simp at hl
 | f::fs,d::ds,T,hT,hl,hr=>by
  simp only[xb] at hT
  cases h1:iE P n f.type with
  | none=>simp[h1,pO] at hT
  | some a=>
   cases h2:pO (fs.map fun f=>iE P n f.type) with
   | none=>simp[h1,h2,pO] at hT
   | some b=>
    simp only[h1,h2,pO,yc] at hT;subst hT;exact⟨_,_,rfl,ih h1 (hr 0 (by simp) (by simp)),acN ih fs ds b h2 (by simpa using hl) (fun i h1 h2=>hr (i+1) (by simpa using h1) (by simpa using h2))⟩
def agJ:∀(n:Nat) {t:yB} {T:Ty} {d:xU H},iE P n t=GR T->Rd enc P w base sp held t d->mb T (df P n t d)
 | 0,t,T,d,hT,_=>by simp[iE] at hT
 | n+1,t,T,d,hT,hr=>by
  have ih:=@agJ n
  cases hu:P.underlying t with
  | none=>simp[iE,hu] at hT
  | some u=>
   cases u with
   | slice e=>
    simp only[iE,hu] at hT;obtain⟨E,hE,rfl⟩:=wT.1 hT
    rcases asC (n:=n) hu hr with h | ⟨x,lJ,h,hm⟩
    .exact .inl h
    .refine .inr ⟨x,lJ.map (df P n e),by rw[h,y5,ybY],fun p hp=>?_⟩
     grind
   | struct fs=>
    simp only[iE,hu] at hT;obtain⟨ds,e1,e2,e3⟩:=aqo (n:=n) hu hr;rw[e2];exact acN ih fs.toList ds T hT e1 e3
   | array k e=>
    simp only[iE,hu] at hT;obtain⟨E,hE,rfl⟩:=wT.1 hT;obtain⟨ds,e1,e2,e3⟩:=asD (n:=n) hu hr;refine⟨ds.map (df P n e),by simp[e1],by rw[e2,ybY],fun p hp=>?_⟩
    grind
   | int k=>
    simp only[iE,hu,yc] at hT;subst hT;exact ayZ hu hr
   | float k=>
    simp only[iE,hu,yc] at hT;subst hT;exact ay0 hu hr
   | bool=>
    simp only[iE,hu,yc] at hT;subst hT;exact avb hu hr
   | string=>
    simp only[iE,hu,yc] at hT;subst hT;exact ay1 hu hr
   | _=>simp[iE,hu] at hT
def Iw:Ty->List AV->AV
 | .nil,l | .cat _ _,l | .ar _ _,l=>.agg l
 | _,l=>l.headD .undef
def aqp:∀{l:List (Option Ty)} {T:Ty},pO l=GR T->∀x,Iw T x=.agg x
 | [],T,h=>by simp only[pO,yc] at h;subst h;exact fun _=>rfl
 | none::r,T,h=>by simp[pO] at h
 | some a::r,T,h=>by
  cases h1:pO r with
  | none=>simp[pO,h1] at h
  | some b=>
   simp only[pO,h1,yc] at h;subst h;exact fun _=>rfl
def aBe{n:Nat}{t:yB}{T:Ty}{d:xU H}(hT:iE P n t=GR T):nG P n t d=Iw T (df P n t d):=by
 cases n with
 | zero=>simp[iE] at hT
 | succ n=>
  cases hu:P.underlying t with
  | none=>simp[iE,hu] at hT
  | some u=>
   cases u with
   | slice e=>
    simp only[iE,hu] at hT;obtain⟨E,hE,rfl⟩:=wT.1 hT;simp only[nG,hu,Iw]
   | struct fs=>
    simp only[iE,hu] at hT;rw[aqp hT];simp only[nG,hu]
   | array k e=>
    simp only[iE,hu] at hT;obtain⟨E,hE,rfl⟩:=wT.1 hT;simp only[nG,hu,Iw]
   | _=>
    simp only[iE,hu,yc,reduceCtorEq] at hT<;>
    (subst hT
     simp only[nG,hu,Iw])
def Mc:List Ty->List (List AV)->List AV
 | T::Ts,l::ls=>Iw T l::Mc Ts ls
 | _,_=>[]
def aeQ{n:Nat}:∀{ts:List yB} {Ts:List Ty} {vs:List ym} {ds:List (xU H)} {ps:List wQ},(ts.map (iE P n))=Ts.map GR->DataW.TrodAll enc P w base sp held ts vs ds ps->
  ∃ls,eN mb Ts ls/\B3 P n ts ds=Mc Ts ls/\ds.length=ts.length
 | [],[],[],[],ps,_,_=>⟨[],trivial,rfl,rfl⟩
 | t::ts,T::Ts,v::vs,d::ds,ps,hT,⟨p,q,⟨bw,h1⟩,h2,_⟩=>by
  simp only[xb,uA] at hT;have⟨ls,k1,k2,k3⟩:=aeQ hT.2 h2;exact⟨df P n t d::ls,⟨agJ n hT.1 ⟨bw,_,_,h1⟩,k1⟩,by simp only[B3,Mc,k2,aBe hT.1],by simp[k3]⟩
 | [],_::_,_,_,_,h,_=>by simp at h
 | _::_,[],_,_,_,h,_=>by simp at h
 | [],[],_::_,_,_,_,h=>by simp[DataW.TrodAll] at h
 | [],[],[],_::_,_,_,h=>by simp[DataW.TrodAll] at h
 | _::_,_,[],_,_,_,h=>by simp[DataW.TrodAll] at h
 | _::_,_,_::_,[],_,_,h=>by simp[DataW.TrodAll] at h
def ay2{α β:Type}{p:α->β->Prop}{a:α}:∀{l:List β},eN p [a] l->∃x,l=[x]/\p a x
 | [x],h=>⟨x,rfl,h.1⟩
 | [],h=>h.elim
 | _::_::_,h=>h.2.elim
def ay3{α β:Type}{p:α->β->Prop}{a b:α}:∀{l:List β},eN p [a,b] l->∃x y,l=[x,y]/\p a x/\p b y
 | x::l,h=>let ⟨y,h1,h2⟩:=ay2 h.2;⟨x,y,by rw[h1],h.1,h2⟩
 | [],h=>h.elim
def ay4{α β:Type}{p:α->β->Prop}{a b c:α}:∀{l:List β},eN p [a,b,c] l->∃x y z,l=[x,y,z]/\p a x/\p b y/\p c z
 | x::l,h=>let ⟨y,z,h1,h2,h3⟩:=ay3 h.2;⟨x,y,z,by rw[h1],h.1,h2,h3⟩
 | [],h=>h.elim
end
end VE
end
section
namespace VE
open Go (IntKind)
def nA{lv:List Nat}{tm tm':Env}{hp:Hp}{c c' b:Nat}(hk:bF tm lv=bF tm' lv):bH lv ⟨tm,hp,c,b⟩=bH lv ⟨tm',hp,c',b⟩:=by
 simp only[bH,hk]
def fo(C R S:Nat):AV:=.bC [aa C,aa R,aa S]
def SL(l C R S k:Nat):Env:=[(0,.fn (.y l) [] []),(1,fo C R S),(8,aa ((C*R:Nat):Int)),(9,aa k)]
def LL(cs:List AV):B4 0 (.bC cs)=GR (.bC cs):=rfl
def agK(a:AV)(cs:List AV):B4 1 (.bC (a::cs))=GR (.bC cs):=by
 show (bif yG 1 (cs.length+1) then GR (AV.bC cs) else GS)=_
 rw[yy (by omega),yx]
def Qy(a b:AV)(cs:List AV):B4 2 (.bC (a::b::cs))=GR (.bC cs):=by
 show (bif yG 2 (cs.length+1+1) then GR (AV.bC cs) else GS)=_
 rw[yy (by omega),yx]
def Zv{P:aE}{L:Lib}{f:cp}{hp:Hp}{ct l:Nat}{xs:List AV}:fA P L f hp ct .heap (.fn (.y l) [] []) xs=kG f hp ct l xs:=rfl
section
variable {lv ps:List Nat}
def acO{f:Nat->Option Nat}:∀{E:Env},qU E=ydB->gj f E=E
 | [],_=>rfl
 | (i,v)::r,h=>by
  simp only[qU,yf] at h;simp only[gj,Kw _ h.1]
  rw[acO (E:=r) h.2]
def Re(B l:Nat)(hp:Hp):List Nat:=reach hp B 100000 (l::cE B hp) []
def z8(B l:Nat)(hp:Hp):Hp×Nat:=(ep hp (iZ B (Re B l hp)) (Re B l hp) B (fZ B (iZ B (Re B l hp)) hp),B+(Re B l hp).length)
def adH{tm rest:Env}{hp:Hp}{ct B l:Nat}(hk:bF tm lv=(0,.fn (.y l) [] [])::rest)(hr:qU rest=ydB)(hl:l<B):
  bH lv ⟨tm,hp,ct,B⟩=⟨(0,.fn (.y l) [] [])::rest,(z8 B l hp).1,(z8 B l hp).2,B⟩:=by
 have e:dw ((0,AV.fn (.y l) [] [])::rest)=[l]:=by
  rw[acB,UT hr];rfl
 have e2:∀f:Nat->Option Nat,f l=GR l->gj f ((0,AV.fn (.y l) [] [])::rest)=(0,.fn (.y l) [] [])::rest:=fun f hf=>by
  simp only[gj,bn,hf,dA];rw[acO hr]
 simp only[bH,hk,e,yI,yN];rw[e2 _ (by simp only[iZ,pK hl,yx])];rfl
def ER{tm rest:Env}{hp H:Hp}{ct B l c:Nat}(hk:bF tm lv=(0,.fn (.y l) [] [])::rest)(hr:qU rest=ydB)(hl:l<B)(h:z8 B l hp=(H,c)):
  bH lv ⟨tm,hp,ct,B⟩=⟨(0,.fn (.y l) [] [])::rest,H,c,B⟩:=by
 rw[adH hk hr hl,h]
def nv(a b:Nat):AV:=.bC [aa a,aa b]
def LM(l C R S a b k:Nat):Env:=[(0,.fn (.y l) [] []),(1,fo C R S),(2,nv a b),(7,aa S),(8,aa k)]
def Xf(l C R S a b k i:Nat):Env:=[(0,.fn (.y l) [] []),(1,fo C R S),(2,nv a b),(4,aa k),(7,aa S),(8,aa k),(12,aa S),(13,aa i)]
def Uf(S a b k i:Nat):List AV:=[.agg [aa i,aa k],.agg [aa ((a*S+i:Nat):Int),aa ((b*S+k:Nat):Int)]]
structure Rnd(Inv:Nat->Hp->Nat->Prop)(B l:Nat):Prop where
 y:∀{j H c},Inv j H c->z8 B l H=(H,c)
 z:∀{j H c},Inv j H c->∀tm ct,bH [] ⟨tm,H,ct,B⟩=⟨[],H,c,B⟩
 l:∀{j H c},Inv j H c->∃tm p a b,ah H l=GR (.lp tm p a b 0 .none)
section
variable {P:aE}{L:Lib}
def aBf(SM:Has P L 719 MN){f:X}{as_ body:VC}{s:St}{C R S a b:Nat}(hS:S<=8)(ha:a<=8)(hb:b<=8)(hf:az s.tm f=.fn (.f 719) [] [fo C R S,nv a b]){Inv:Nat->Hp->Nat->Prop}(hI:Rnd Inv (s.ct+1) s.ct)(h0:∃H c,z8 (s.ct+1) s.ct ((s.ct,.lp s.tm ps as_ body 0 .none)::s.hp)=(H,c)/\Inv 0 H c)(hr:∀k i H c,k<S->i<S->Inv (k*S+i) H c->∃hp aQ H' c',kG (D P L) H c s.ct (Uf S a b k i)=GR (.bool ydB,hp,aQ)/\z8 (s.ct+1) s.ct hp=(H',c')/\Inv (k*S+i+1) H' c'):
  ∃H c,Inv (S*S) H c/\D P L (.rf f ps as_ body) s=GR (.normal,⟨s.tm,cS H s.ct,c,s.base⟩):=by
 have Na:∀k,k<S->_:=fun k hk=>iX P L [0,1,2,4,7,8,12,13] LB
  (fun d st=>∃i H c,i+d=S/\Inv (k*S+i) H c/\st=⟨Xf s.ct C R S a b k i,H,c,s.ct+1⟩)
  (fun ex st=>ex=.exit 2/\∃tm ct H c,Inv (k*S+S) H c/\st=⟨tm,H,ct,s.ct+1⟩/\bF tm [0,1,2,7,8]=LM s.ct C R S a b k) (by
  rintro d st ⟨i,H,c,hid,cA,rfl⟩;by_cases hi:i<S
  .left
   obtain⟨hp,aQ,H',c',e,gF,F9⟩:=hr k i H c hk hi cA;have b1:a*S<=64:=y8 ha hS;have b2:b*S<=64:=y8 hb hS;have m1:(a:Int)*(S:Int)=((a*S:Nat):Int):=by rw[xD]
   have m2:(b:Int)*(S:Int)=((b*S:Nat):Int):=by rw[xD]
   have a1:((a*S:Nat):Int)+(i:Int)=((a*S+i:Nat):Int):=by rw[ybn]
   have a2:((b*S:Nat):Int)+(k:Int)=((b*S+k:Nat):Int):=by rw[ybn]
   unfold Uf at e
   simp only[go_sem,ya,yb,yh,LB,Xf,fo,nv,LL,agK,Qy,show (i:Int)<S by omega,m1,m2,wrap64 (n:=((a*S:Nat):Int)) (by omega) (by omega),wrap64 (n:=((b*S:Nat):Int)) (by omega) (by omega),a1,a2,wrap64 (n:=((a*S+i:Nat):Int)) (by omega) (by omega),wrap64 (n:=((b*S+k:Nat):Int)) (by omega) (by omega),Zv,e];refine⟨_,d-1,rfl,by omega,i+1,H',c',by omega,F9,?_⟩;rw[wrap64 (by omega) (by omega)];exact ER (by simp only[go_sem,ya]<;>rfl) rfl (by omega) gF
  .right
   have his:i=S:=by omega
   subst his;simp only[go_sem,ya,LB,Xf,fo,nv,show ¬(i:Int)<i by omega]
   exact⟨_,_,rfl,by simp,rfl,_,_,H,c,cA,rfl,by simp only[go_sem,ya,LM,fo,nv]<;>rfl⟩)
 have Zw:=iX P L [0,1,2,7,8] LC
  (fun d st=>∃k H c,k+d=S/\Inv (k*S) H c/\st=⟨LM s.ct C R S a b k,H,c,s.ct+1⟩)
  (fun ex st=>ex=.exit 0/\∃tm ct H c,Inv (S*S) H c/\st=⟨tm,H,ct,s.ct+1⟩) (by
  rintro d st ⟨k,H,c,hkd,cA,rfl⟩;by_cases hk:k<S
  .left
   have hm:(k+1)*S=k*S+S:=by rw[xS,tM]
   simp only[go_sem,ya,LC,LM,fo,nv,Qy,show (k:Int)<S by omega];generalize hq:D P L (.loop _ LB) _=q;obtain⟨ex,st,rfl,rfl,tm,ct,H',c',F9,rfl,ew⟩:=bt hq (Na k hk S) ⟨0,H,c,by omega,cA,ER (by simp only[go_sem,ya]<;>rfl) rfl (by omega) (hI.y cA)⟩
   have hcp:=fun ct=>ER (lv:=[0,1,2,7,8]) (ct:=ct) ew rfl (Nat.lt_succ_self _) (hI.y F9)
   simp only[go_sem,ya,hcp];refine⟨_,d-1,rfl,by omega,k+1,H',c',by omega,by rw[hm];exact F9,?_⟩
   rw[wrap64 (by omega) (by omega)];exact ER (by simp only[go_sem,ya,fo,nv]<;>rfl) rfl (by omega) (hI.y F9)
  .right
   have qc:k=S:=by omega
   subst qc;simp only[go_sem,ya,LC,LM,fo,nv,show ¬(k:Int)<k by omega]
   exact⟨_,_,rfl,by simp,rfl,_,_,H,c,cA,rfl⟩)
 obtain⟨H0,c0,h01,h02⟩:=h0;have hb:∃tm H c,Inv (S*S) H c/\D P L MN.body ⟨fw 0 [.fn (.y s.ct) [] [],fo C R S,nv a b],(s.ct,.lp s.tm ps as_ body 0 .none)::s.hp,s.ct+1,s.ct+1⟩=GR (.normal,⟨tm,H,c,s.ct+1⟩):=by
  simp only[go_sem,ya,MN,fo,nv,Qy];generalize hq:D P L (.loop _ LC) _=q;obtain⟨ex,st,rfl,rfl,tm,ct,H,c,cA,rfl⟩:=bt hq (Zw S) ⟨0,H0,c0,by omega,by rw[wo];exact h02,ER (by simp only[go_sem,ya,fo,nv]<;>rfl) rfl (by omega) h01⟩
  refine⟨[],H,c,cA,?_⟩;simp only[go_sem];exact congrArg (fun x=>GR (Ex.normal,x)) (hI.z cA _ _)
 obtain⟨tm,H,c,cA,hD⟩:=hb;obtain⟨jC,p,a',b',hl⟩:=hI.l cA;exact⟨H,c,cA,ah0 hf SM.heap (KN SM hD (.inl rfl) rfl) hl (by decide)⟩
def ay5(Ix:Has P L 718 Ik){f:X}{as_ body:VC}{s:St}{C R S:Nat}(hC:C<=8)(hR:R<=8)(hf:az s.tm f=.fn (.f 718) [] [fo C R S]){Inv:Nat->Hp->Nat->Prop}{Bad:Hp->Nat->Prop}(hI:Rnd Inv (s.ct+1) s.ct)(h0:∃H c,z8 (s.ct+1) s.ct ((s.ct,.lp s.tm ps as_ body 0 .none)::s.hp)=(H,c)/\Inv 0 H c)(hr:∀k H c,k<C*R->Inv k H c->(∃hp aQ H' c',kG (D P L) H c s.ct [aa k,.agg [aa ((k%C:Nat):Int),aa ((k/C:Nat):Int)]]=GR (.bool ydB,hp,aQ)/\z8 (s.ct+1) s.ct hp=(H',c')/\Inv (k+1) H' c')\/
   ∃hp aQ tm p a b,kG (D P L) H c s.ct [aa k,.agg [aa ((k%C:Nat):Int),aa ((k/C:Nat):Int)]]=GR (.bool ydC,hp,aQ)/\ah hp s.ct=GR (.lp tm p a b 2 .ret)/\Bad hp aQ):
  (∃H c,Inv (C*R) H c/\D P L (.rf f ps as_ body) s=GR (.normal,⟨s.tm,cS H s.ct,c,s.base⟩))\/∃hp aQ,Bad hp aQ/\D P L (.rf f ps as_ body) s=GR (.ret,⟨s.tm,cS hp s.ct,aQ,s.base⟩):=by
 have hCR:C*R<=64:=y8 hC hR;have key:=iX P L [0,1,8,9] HC
  (fun d st=>∃k H c,k+d=C*R/\Inv k H c/\st=⟨SL s.ct C R S k,H,c,s.ct+1⟩)
  (fun ex st=>(ex=.exit 0/\∃tm ct H c,Inv (C*R) H c/\st=⟨tm,H,ct,s.ct+1⟩)\/(ex=.ret/\∃tm hp aQ tm' p a b,st=⟨tm,hp,aQ,s.ct+1⟩/\ah hp s.ct=GR (.lp tm' p a b 2 .ret)/\Bad hp aQ)) (by
  rintro d st ⟨k,H,c,hkd,cA,rfl⟩;by_cases hk:k<C*R
  .have ma:0<C:=vW (fun h=>by rw[h,wo] at hk;omega);have h1:(k:Int).tmod (C:Int)=((k%C:Nat):Int):=(Int.ofNat_tmod k C).symm;have h2:(k:Int).tdiv (C:Int)=((k/C:Nat):Int):=(Int.ofNat_tdiv k C).symm;have h3:k%C<C:=xq _ ma;have h4:k/C<=k:=Nat.div_le_self _ _;have hr:=hr k H c hk cA;generalize ha:k%C=a' at*
   generalize aS:k/C=b' at*
   have GJ:(C:Int)≠0:=by omega
   rcases hr with ⟨hp,aQ,H',c',e,gF,F9⟩ | ⟨hp,aQ,tm',p,a,b,e,hg,hB⟩
   .left
    simp only[go_sem,ya,yb,yh,HC,SL,fo,LL,show (k:Int)<((C*R:Nat):Int) by omega,fM _ _ _ GJ,eP _ _ _ GJ,h1,h2,wrap64 (n:=(b':Int)) (by omega) (by omega),Zv,e];refine⟨_,d-1,rfl,by omega,k+1,H',c',by omega,F9,?_⟩;rw[wrap64 (by omega) (by omega)];exact ER (by simp only[go_sem,ya]<;>rfl) rfl (by omega) gF
   .right
    simp only[go_sem,ya,yb,yh,HC,SL,fo,LL,show (k:Int)<((C*R:Nat):Int) by omega,fM _ _ _ GJ,eP _ _ _ GJ,h1,h2,wrap64 (n:=(b':Int)) (by omega) (by omega),Zv,e];exact⟨_,_,rfl,by simp,.inr ⟨rfl,_,hp,aQ,tm',p,a,b,rfl,hg,hB⟩⟩
  .right
   have p8:k=C*R:=by omega
   subst p8;simp only[go_sem,ya,HC,SL,fo,show ¬((C*R:Nat):Int)<((C*R:Nat):Int) by omega]
   exact⟨_,_,rfl,by simp,.inl ⟨rfl,_,_,H,c,cA,rfl⟩⟩)
 obtain⟨H0,c0,h01,h02⟩:=h0;have hb:∃ex st,D P L Ik.body ⟨fw 0 [.fn (.y s.ct) [] [],fo C R S],(s.ct,.lp s.tm ps as_ body 0 .none)::s.hp,s.ct+1,s.ct+1⟩=GR (ex,st)/\((ex=.normal/\∃tm H c,Inv (C*R) H c/\st=⟨tm,H,c,s.ct+1⟩)\/(ex=.ret/\∃tm hp aQ tm' p a b,st=⟨tm,hp,aQ,s.ct+1⟩/\ah hp s.ct=GR (.lp tm' p a b 2 .ret)/\Bad hp aQ)):=by
  have hcr:(C:Int)*(R:Int)=((C*R:Nat):Int):=by rw[xD]
  simp only[go_sem,ya,Ik,fo,LL,agK,hcr,wrap64 (n:=((C*R:Nat):Int)) (by omega) (by omega)];generalize hq:D P L (.loop _ HC) _=q;obtain⟨ex,st,rfl,hh⟩:=bt hq (key (C*R)) ⟨0,H0,c0,by omega,h02,ER (by simp only[go_sem,ya,fo]<;>rfl) rfl (by omega) h01⟩
  rcases hh with ⟨rfl,tm,ct,H,c,cA,rfl⟩ | ⟨rfl,hh⟩
  .refine ⟨.normal,⟨[],H,c,s.ct+1⟩,?_,.inl ⟨rfl,_,H,c,cA,rfl⟩⟩;simp only[go_sem];exact congrArg (fun x=>GR (Ex.normal,x)) (hI.z cA _ _)
  .exact ⟨_,_,rfl,.inr ⟨rfl,hh⟩⟩
 obtain⟨ex,st,hD,hh⟩:=hb;have oK:∀s':St,jU s' Ik.dC=GR (.av []):=fun _=>rfl
 rcases hh with ⟨rfl,tm,H,c,cA,rfl⟩ | ⟨rfl,tm,hp,aQ,tm',p,a,b,rfl,hg,hB⟩
 .left
  obtain⟨jC,p,a,b,hl⟩:=hI.l cA;exact⟨H,c,cA,ah0 hf Ix.heap (KN Ix hD (.inl rfl) (oK _)) hl (by decide)⟩
 .right
  refine⟨hp,aQ,hB,?_⟩;have h3:=KN Ix hD (.inr rfl) (oK _);rw[mw];simp only[bI,hf,Ix.heap,yN,h3,hg,iB (show (2:Nat)≠1 by decide),yS]
end
end
def UI{B:Nat}{H:Hp}:∀{J:Hp},(∀p,p∈J->B<=p.1)->cE B (J++H)=cE B H
 | [],_=>rfl
 | (id,o)::r,h=>by
  have:=h (id,o) (by simp)
  rw[yI,cE,zR (by simpa using this),yS,UI fun p hp=>h p (by simp[hp])]
def adI{B:Nat}{f:Nat->Option Nat}{H:Hp}:∀{J:Hp},(∀p,p∈J->B<=p.1)->fZ B f (J++H)=fZ B f H
 | [],_=>rfl
 | (id,o)::r,h=>by
  have:=h (id,o) (by simp)
  rw[yI,fZ,zR (by simpa using this),yS,adI fun p hp=>h p (by simp[hp])]
def anh{live:List Nat}{tm:Env}{B ct:Nat}{J old:Hp}{rs:List (List AV)}(hJ:∀p,p∈J->B+rs.length<=p.1)(ht:gS B (bF tm live))(ho:iY B (B+rs.length) old)(hl:(dw (bF tm live)).length+(cE B old).length<100000)(hr:(cE B old).filter (fun x=> !Nat.blt x B)=xT B rs.length):bH live ⟨tm,J++(ij B rs++old),ct,B⟩=⟨bF tm live,ij B rs++old,B+rs.length,B⟩:=by
 have hJ':∀p,p∈J->B<=p.1:=fun p hp=>by have:=hJ p hp;omega
 have my:∀i (h:i<rs.length),ah (J++(ij B rs++old)) (B+i)=GR (.cells ydB ydB ydB 1 (rs.reverse[i]'(by simpa using h))):=fun i h=>by
  rw[adF (b:=B+rs.length) (by omega) hJ];exact Vq h
 have QI:reach (J++(ij B rs++old)) B 100000 (dw (bF tm live)++cE B (J++(ij B rs++old))) []=xT B rs.length:=by
  have:=Pa (hp:=J++(ij B rs++old)) (B:=B) (R:=rs.length) (fun i hi=>⟨_,_,_,_,my i hi⟩) (dw (bF tm live)++cE B (J++(ij B rs++old))) 100000 0 (by rw[UI hJ',J6,yO];exact hl) (Nat.zero_le _) (by
   rw[List.filter_append,UI hJ',J6,hr,yaf.2 (fun x hx=>by
    have:=OS ht x hx
    simp[pK this])]
   simp)
  simpa using this
 have hid:∀x,x<B+rs.length->iZ B (xT B rs.length) x=GR x:=fun x hx=>ab4 hx
 have hn:=UY (hp:=J++(ij B rs++old)) (f:=iZ B (xT B rs.length)) rs.reverse B old (fun i hi=>my i (by simpa using hi));rw[List.length_reverse] at hn;simp only[bH,QI,adI hJ',UX,UG hid ho,hn,Vp,List.length_range']
 rw[Kg (n:=B) (fun x hx=>hid x (by omega)) ht]
def cQ(B:Nat)(s:List Nat):Nat->Option Nat:=iZ B s
def qu(B:Nat)(hp:Hp):Nat->List Nat->List Nat->List Nat:=reach hp B
def cmB(B:Nat)(hp:Hp)(s:List Nat):Hp×Nat:=(ep hp (cQ B s) s B (fZ B (cQ B s) hp),B+s.length)
def ay6(B:Nat)(hp:Hp)(s:List Nat):cmB B hp s=(ep hp (cQ B s) s B (fZ B (cQ B s) hp),B+s.length):=rfl
def asE(B:Nat):cE B []=[]:=rfl
def qR{B id:Nat}(o:Obj)(r:Hp)(h:id<B):cE B ((id,o)::r)=dz o++cE B r:=by rw[cE,pK h,yx]
def LO{B id:Nat}(o:Obj)(r:Hp)(h:B<=id):cE B ((id,o)::r)=cE B r:=by rw[cE,zR h,yS]
def SN(B:Nat)(hp:Hp)(n id:Nat)(dh seen:List Nat)(q:Option Obj):List Nat:=match q with | some o=>qu B hp n (dz o++dh) (seen++[id]) | none=>qu B hp n dh seen
def SO(B:Nat)(hp:Hp)(n id:Nat)(dh seen:List Nat)(b:Bool):List Nat:=bif b then qu B hp n dh seen else SN B hp n id dh seen (ah hp id)
def afW(B:Nat)(hp:Hp)(n:Nat)(seen:List Nat):qu B hp (n+1) [] seen=seen:=rfl
def ain{B id:Nat}(hp:Hp)(n:Nat)(dh seen:List Nat)(h:id<B):qu B hp (n+1) (id::dh) seen=qu B hp n dh seen:=by
 simp only[qu,reach,pK h,uH,yx]
def aBg{B id:Nat}(hp:Hp)(n:Nat)(dh seen:List Nat)(h:B<=id):qu B hp (n+1) (id::dh) seen=SO B hp n id dh seen (jt id seen):=by
 simp only[qu,reach,zR h,vI,SO,SN]
 cases jt id seen with
 | true=>rfl
 | false=>simp only[yS];cases ah hp id<;>rfl
def ay7(B:Nat)(hp:Hp)(n id:Nat)(dh seen:List Nat):SO B hp n id dh seen ydB=qu B hp n dh seen:=rfl
def ay8(B:Nat)(hp:Hp)(n id:Nat)(dh seen:List Nat):SO B hp n id dh seen ydC=SN B hp n id dh seen (ah hp id):=rfl
def ay9(B:Nat)(hp:Hp)(n id:Nat)(dh seen:List Nat)(o:Obj):SN B hp n id dh seen (GR o)=qu B hp n (dz o++dh) (seen++[id]):=rfl
def aio{B id:Nat}(s:List Nat)(h:id<B):cQ B s id=GR id:=by simp only[cQ,iZ,pK h,yx]
def aBh{B id:Nat}(s:List Nat)(h:B<=id):cQ B s id=gV id s B:=by simp only[cQ,iZ,zR h,yS]
def asF(B:Nat)(f:Nat->Option Nat):fZ B f []=[]:=rfl
def agL{B id:Nat}(f:Nat->Option Nat)(o:Obj)(r:Hp)(h:id<B):fZ B f ((id,o)::r)=(id,dY f o)::fZ B f r:=by rw[fZ,pK h,yx]
def aza{B id:Nat}(f:Nat->Option Nat)(o:Obj)(r:Hp)(h:B<=id):fZ B f ((id,o)::r)=fZ B f r:=by rw[fZ,zR h,yS]
section
variable (B:Nat)(s:List Nat)
def avc:gj (cQ B s) []=[]:=rfl
def asG(i:Nat)(v:AV)(r:Env):gj (cQ B s) ((i,v)::r)=(i,bn (cQ B s) v)::gj (cQ B s) r:=rfl
def azb(k:xg)(n:Int):bn (cQ B s) (.int k n)=.int k n:=rfl
def avd(b:Bool):bn (cQ B s) (.bool b)=.bool b:=rfl
def azc(t:List Nat):bn (cQ B s) (.str t)=.str t:=rfl
def azd(k:xX)(b:Nat):bn (cQ B s) (.an k b)=.an k b:=rfl
def aze(k:xX)(a b:Nat):bn (cQ B s) (.dI k a b)=.dI k a b:=rfl
def ave:bn (cQ B s) .aj=.aj:=rfl
def avf:bn (cQ B s) .fQ=.fQ:=rfl
def avg:bn (cQ B s) .gU=.gU:=rfl
def avh:bn (cQ B s) .ll=.ll:=rfl
def azf(e:Bool)(n:Nat)(cs:List AV):bn (cQ B s) (.au e n cs)=.au e n cs:=rfl
def avi(cs:List AV):bn (cQ B s) (.bC cs)=.bC cs:=rfl
def avj(a b:List AV):bn (cQ B s) (.kj a b)=.kj a b:=rfl
def asH:bn (cQ B s) .undef=.undef:=rfl
def azg(id o:Nat):bn (cQ B s) (.ptr id o)=QZ o (cQ B s id):=by cases h:cQ B s id<;>simp[bn,QZ,h]
def azh(id o n:Nat):bn (cQ B s) (.ay id o n)=Q0 o n (cQ B s id):=by cases h:cQ B s id<;>simp[bn,Q0,h]
def aBi(g:Nat)(a b:List AV):bn (cQ B s) (.fn (.f g) a b)=.fn (.f g) (dA (cQ B s) a) (dA (cQ B s) b):=rfl
def azi(cs:List AV):bn (cQ B s) (.agg cs)=.agg (dA (cQ B s) cs):=rfl
def azj(cs:List AV):bn (cQ B s) (.av cs)=.av (dA (cQ B s) cs):=rfl
def avk:dA (cQ B s) []=[]:=rfl
def asI(v:AV)(r:List AV):dA (cQ B s) (v::r)=bn (cQ B s) v::dA (cQ B s) r:=rfl
def Zx(hp:Hp)(r:List Nat)(k:Nat)(acc:Hp)(q:Option Obj):Hp:=match q with | some o=>ep hp (cQ B s) r (k+1) ((k,dY (cQ B s) o)::acc) | none=>ep hp (cQ B s) r (k+1) acc
def avl(hp:Hp)(k:Nat)(acc:Hp):ep hp (cQ B s) [] k acc=acc:=rfl
def asJ(hp:Hp)(id:Nat)(r:List Nat)(k:Nat)(acc:Hp):ep hp (cQ B s) (id::r) k acc=Zx B s hp r k acc (ah hp id):=by
 simp only[ep,Zx];cases ah hp id<;>rfl
def azk(hp:Hp)(r:List Nat)(k:Nat)(acc:Hp)(o:Obj):Zx B s hp r k acc (GR o)=ep hp (cQ B s) r (k+1) ((k,dY (cQ B s) o)::acc):=rfl
end
def aqq:refs .fQ=[]:=rfl
def aqr:refs .gU=[]:=rfl
def aqs:refs .ll=[]:=rfl
def aqt(a b:List AV):refs (.kj a b)=[]:=rfl
def asK(cs:List AV):refs (.av cs)=fY cs:=rfl
def asL(k:xX)(a b:Nat):refs (.dI k a b)=[]:=rfl
def avm(k:xX)(b:Nat):refs (.an k b)=[]:=rfl
attribute [go_sem] ay6 asE qR LO afW ain aBg ay7 ay8 ay9 aio aBh asF agL aza avc asG azb avd azc azd aze ave avf avg avh azf avi avj asH azg azh aBi azi azj avk asI avl asJ azk aqq aqr aqs aqt asK asL avm
def PL{B l:Nat}{J old:Hp}(hJ:∀p,p∈J->B<=p.1)(ho:iY B B old)(hl:l<B)(hn:(cE B old).length<=90000):z8 B l (J++old)=(old,B):=by
 have h:=anh (live:=[0]) (tm:=[(0,.fn (.y l) [] [])]) (ct:=0) (rs:=[]) (by simpa using hJ) (show gS B [(0,AV.fn (.y l) [] [])] from⟨⟨hl,rfl,rfl⟩,trivial⟩) (by simpa using ho) (show [l].length+_<100000 by simp only[yH,yR];omega) (by
  rw[yaf.2 (fun x hx=>by have:=EP (yz B) ho x hx;simp[pK this])]
  rfl)
 have h2:=adH (lv:=[0]) (tm:=[(0,.fn (.y l) [] [])]) (hp:=J++old) (ct:=0) (B:=B) (l:=l) rfl rfl hl;simp only[ij,yN,yR,yY] at h;rw[h] at h2;injection h2 with _ h3 h4
 exact Prod.ext h3.symm h4.symm
def iP(k:Nat)(v:AV)(ps:List (List AV)):Prop:=((v=.aj/\ps=[])\/∃e,v=.au e ps.length ps.flatten)/\∀p,p∈ps->p.length=k
section
variable {k:Nat}{v:AV}{ps:List (List AV)}{hp:Hp}
def iP.len(h:iP k v ps){hp:Hp}:jr hp 1 v=GR (.int .i64 (ps.length:Nat)):=by
 rcases h.1 with ⟨rfl,rfl⟩ | ⟨e,rfl⟩<;>rfl
def iP.pu(h:iP k v ps):aX v=ydB:=by
 rcases h.1 with ⟨rfl,rfl⟩ | ⟨e,rfl⟩<;>rfl
def iP.ai(h:iP k v ps)(n:Nat){hp:Hp}:freeze (n+1) hp v=GR (v,hp):=by
 rcases h.1 with ⟨rfl,rfl⟩ | ⟨e,rfl⟩<;>rfl
def iP.one(h:iP k v ps):dN v=ydB:=by
 rcases h.1 with ⟨rfl,rfl⟩ | ⟨e,rfl⟩<;>rfl
def adJ:∀{ps:List (List AV)},(∀p,p∈ps->p.length=k)->ps.flatten.length=ps.length*k
 | [],_=>by simp
 | p::ps,h=>by
  have:=adJ (ps:=ps) (fun q hq=>h q (xr _ hq))
  grind
def adK:∀{ps:List (List AV)} {i:Nat},(∀p,p∈ps->p.length=k)->∀(hi:i<ps.length),∃rest,ps.flatten.drop (i*k)=ps[i]++rest
 | [],i,_,hi=>absurd hi (yam i)
 | p::ps,0,h,_=>⟨ps.flatten,by simp⟩
 | p::ps,i+1,h,hi=>by
  have⟨rest,e⟩:=adK (ps:=ps) (i:=i) (fun q hq=>h q (xr _ hq)) (by simpa using hi);refine⟨rest,?_⟩;rw[show (i+1)*k=p.length+i*k by rw[h p xJ,xS];lia,List.flatten_cons,<-vS,yar,e]
  rfl
def iP.bk(h:iP k v ps){i:Nat}(hi:i<ps.length):∃rest,jq k i v=GR (.bC (ps[i]++rest)):=by
 obtain⟨rest,e⟩:=adK h.2 hi;refine⟨rest,?_⟩;rcases h.1 with ⟨rfl,rfl⟩ | ⟨b,rfl⟩
 .grind
 .rw [P2 b _ hi,e]
def asM:iP k .aj []:=⟨.inl ⟨rfl,rfl⟩,fun _ h=>by cases h⟩
def Wz(e:Bool)(h:∀p,p∈ps->p.length=k):iP k (.au e ps.length ps.flatten) ps:=⟨.inr ⟨e,rfl⟩,h⟩
end
structure Lay where
 w:AV
 s:List (List Int)
 hh:List Nat
 sc:List Nat
 st:List Nat
 ox:List Nat
 oy:List Nat
 wx:List Nat
 wy:List Nat
def Lay.cs(a:Lay):List AV:=[a.w,.str a.hh,.str a.sc,.str a.st,.str a.ox,.str a.oy,.str a.wx,.str a.wy]
def Lay.T(a:Lay):AV:=lyT a.w a.hh a.sc a.st a.ox a.oy a.wx a.wy
def U3{α:Type}{f:α->Int}:∀{l:List α},bP (l.map f)=0->∀a,a∈l->f a=0
 | [],_,_,h=>by cases h
 | x::l,h,a,ha=>by
  rw[xb,anZ] at h;rcases we.1 ha with rfl | ha
  .grind
  .exact U3 h.2 a ha
section
variable {P:aE}{L:Lib}
def Nb(h:Has P L 677 Sb){v:AV}{l:List Int}(hv:bB v l)(hl:l.length<=1000000):ab P L 677 [v] (aa (bP l)):=by
 unfold ab;rw[aB h];simp only[go_sem,ya,Sb,hv.len];have key:=PE (P:=P) (L:=L) (live:=[5,6,7]) (a:=Qo)
  (I:=fun k s=>∃tm ct i,s=⟨tm,[],ct,0⟩/\ak tm 5=v/\ak tm 6=aa l.length/\ak tm 7=aa (i:Nat)/\i+k=l.length/\bP (l.drop i)=bP l)
  (Q:=fun ex s=>∃tm,s=⟨tm,[],0,0⟩/\((ex=.ret/\ak tm 2=aa (bP l))\/(ex=.exit 0/\bP l=0))) ?_ l.length
 .generalize hq:D P L (.loop _ Qo) _=q;obtain⟨ex,s,rfl,tm,rfl,h2⟩:=bt hq key ⟨_,_,0,rfl,rfl,rfl,rfl,by omega,rfl⟩;rcases h2 with ⟨rfl,h2⟩ | ⟨rfl,h2⟩
  .simp only [go_sem,h2]
  .rw [h2];simp only[go_sem]
 .rintro k s ⟨tm,ct,i,rfl,h5,h6,h7,hk,hf⟩;rw[OO (by simp only[go_sem,h5,h6,h7,hv.pu])];simp only[go_sem,ya,h5,h6,h7,Qo];by_cases hi:i<l.length
  .have b6:(i:Int)<l.length:=by omega
   rw[UE hi] at hf;by_cases hz:l[i]=0
   .left
    simp only[go_sem,ya,b6,hv.bk hi,hz];refine⟨_,k-1,rfl,by omega,_,_,i+1,rfl,?_⟩;rw[wrap64 (by omega) (by omega)];rw[yC hz] at hf;simp only[go_sem,ya];exact⟨trivial,trivial,rfl,by omega,hf⟩
   .right
    simp only[go_sem,ya,b6,hv.bk hi,hz];rw[yq hz] at hf;refine⟨_,_,rfl,by simp,_,rfl,.inl ⟨rfl,?_⟩⟩;simp only[go_sem,hf]
  .right
   have b6:¬(i:Int)<l.length:=by omega
   simp only[go_sem,b6];refine⟨_,_,rfl,by simp,_,rfl,.inr ⟨rfl,?_⟩⟩;rw[<-hf,y9 (by omega)];rfl
def DW(h:Has P L 692 Ij)(b:Bool)(n:Int):ab P L 692 [.bool b,aa n] (aa (if b=ydB then n else 0)):=by
 unfold ab;rw[aB h]
 cases b with
 | true=>simp only[go_sem,ya,Ij,xN]
 | false=>simp only[go_sem,ya,Ij];rfl
def Nc(h:Has P L 676 Ii)(pX:Has P L 692 Ij)(n lo hi:Int):ab P L 676 [aa n,aa lo,aa hi] (aa (if n<lo\/hi<n then 3 else 0)):=by
 unfold ab;rw[aB h];by_cases h1:n<lo
 .simp only [go_sem,ya,Ii,h1,true_or,xN,DW pX]
 .by_cases h2:hi<n
  .simp only [go_sem,ya,Ii,h1,h2,or_true,xN,DW pX]
  .simp only [go_sem,ya,Ii,h1,h2,or_self,xv,DW pX];rfl
def SP(h:Has P L 647 MK){v:AV}{l:List Int}(hv:bB v l)(hl:l.length<=1000000):ab P L 647 [v] (aa (bP l)):=by
 unfold ab;rw[aB h];simp only[go_sem,MK];have key:=PE (P:=P) (L:=L) (live:=[0,3]) (a:=Qn)
  (I:=fun k s=>∃tm ct i,s=⟨tm,[],ct,0⟩/\ak tm 0=v/\ak tm 3=aa (i:Nat)/\i+k=l.length/\bP (l.drop i)=bP l)
  (Q:=fun ex s=>∃tm,s=⟨tm,[],0,0⟩/\((ex=.ret/\ak tm 2=aa (bP l))\/(ex=.exit 0/\bP l=0))) ?_ l.length
 .generalize hq:D P L (.loop _ Qn) _=q;obtain⟨ex,s,rfl,tm,rfl,h2⟩:=bt hq key ⟨_,_,0,rfl,rfl,rfl,by omega,rfl⟩;rcases h2 with ⟨rfl,h2⟩ | ⟨rfl,h2⟩
  .simp only [go_sem,h2]
  .rw [h2];simp only[go_sem]
 .rintro k s ⟨tm,ct,i,rfl,h0,h3,hk,hf⟩;rw[OO (by simp only[go_sem,h0,h3,hv.pu])];simp only[go_sem,ya,h0,h3,Qn,hv.len];by_cases hi:i<l.length
  .have b6:(i:Int)<l.length:=by omega
   rw[UE hi] at hf;by_cases hz:l[i]=0
   .left
    simp only[go_sem,ya,b6,hv.bk hi,hz];refine⟨_,k-1,rfl,by omega,_,_,i+1,rfl,?_⟩;rw[wrap64 (by omega) (by omega)];rw[yC hz] at hf;simp only[go_sem,ya];exact⟨trivial,rfl,by omega,hf⟩
   .right
    simp only[go_sem,ya,b6,hv.bk hi,hz];rw[yq hz] at hf;refine⟨_,_,rfl,by simp,_,rfl,.inl ⟨rfl,?_⟩⟩;simp only[go_sem,hf]
  .right
   have b6:¬(i:Int)<l.length:=by omega
   simp only[go_sem,b6];refine⟨_,_,rfl,by simp,_,rfl,.inr ⟨rfl,?_⟩⟩;rw[<-hf,y9 (by omega)];rfl
end
def i4R(e:Int):Int:=if e%4=0 then 1 else if e%4=2 then -1 else 0
def i4I(e:Int):Int:=if e%4=1 then 1 else if e%4=3 then -1 else 0
def aD4{z:Int}(h:z.natAbs<2^40):Hq 40 (z:Rat):=by
 refine⟨?_,?_⟩
 .rw [vL];unfold Bd;omega
 .rw [vz];unfold Bd;decide
open Ieee
def azl:binOp .quo (.an .f32 1065353216) (.an .f32 0)=GR (.an .f32 2139095040):=by
 have:single.div 1065353216 0=GR 2139095040:=by decide+kernel
 show (match single.div 1065353216 0 with | some b=>GR (AV.an .f32 b) | none=>GS)=_
 rw[this]
def aD5:binOp .eql (.an .f32 0) (.an .f32 0)=GR (.bool ydB):=by
 have ez:=Q4 Fl.zero Fl.zero
 rwa[yZ rfl] at ez
end VE
end
section
namespace VE
open Go (IntKind)
section
variable {s:Bool}{M b:Nat}
def azm(hb:Fl b s M):binOp .sub (.an .f32 b) (.an .f32 b)=GR (.an .f32 0):=by
 have hf:=hb.fin;unfold gX at hf
 cases hr:tZ.read b with
 | number s m e=>
  have h1:yaX.format.sub b b=GR 0:=afT hr;simp[binOp,QE,h1]
 | _=>rw[hr] at hf;cases hf
def aD6:binOp .eql (.an .f32 0) (.an .f32 0)=GR (.bool ydB):=by rfl
section
variable {P:aE}{L:Lib}
def aBj(Nf:Has P L 231 Ms)(hb:Fl b s M):ab P L 231 [.an .f32 b] (.bool ydB):=by
 unfold ab;rw[aB Nf];simp only[go_sem,ya,Ms,azm hb,aD6]
 first | done | rfl
def aBk(hx:Fx P L)(ht:Tx P L)(Nf:Has P L 231 Ms)(Zy:Has P L 203 RI)(hb:Fl b s M):ab P L 203 [.an .f32 b] (.av [.str (RT (lB s M)),aa 0]):=by
 have e1:=aBj Nf hb;obtain⟨r,e2,hr⟩:=aDz hx hb;have e3:=m46 ht hr (X3 hb) (by decide);obtain⟨v1,v2,v3,v4,rfl,fv⟩:=hr.gen;unfold ab at e1 e2 e3;unfold ab;rw[aB Zy];simp only[go_sem,ya,RI,zN,e1,e2,e3,fv.ai,bz,yL];rfl
def aD7(ht:Tx P L)(Zz:Has P L 685 Sg)(hb:Fl b s M)(e1:ab P L 203 [.an .f32 b] (.av [.str (RT (lB s M)),aa 0])):∃r,ab P L 685 [.an .f32 b] r/\b8 r (lB s M):=by
 have hl:=HM (X3 hb);obtain⟨r,e2,hr⟩:=m62 ht (a:=lB s M) (by omega);have bO:=hr;obtain⟨v1,v2,v3,v4,rfl,fv⟩:=hr.gen;refine⟨_,?_,bO⟩;unfold ab at e1 e2 ⊢;rw[aB Zz];simp only[go_sem,ya,yb,Sg,aT,zN,e1,iA,iw,iz,e2,bz,fv.st,dL,dO,ye,sC,fv.dC]
end
structure Exc(P:aE)(L:Lib):Prop extends Fx P L,Tx P L where
 Zy:Has P L 203 RI
 Nf:Has P L 231 Ms
 Zz:Has P L 685 Sg
end
def PM(id:Nat):refs (.map id)=[id]:=rfl
def aip(q:Option Nat):AV:=match q with | some j=>.map j | none=>.undef
def WA(s:List Nat)(id:Nat):bn (pos s) (.map id)=aip (gV id s 0):=rfl
def WB(j:Nat):aip (GR j)=.map j:=rfl
def eN.snoc{α β:Type}{p:α->β->Prop}:∀{l:List α} {m:List β} {a:α} {b:β},eN p l m->p a b->eN p (l++[a]) (m++[b])
 | [],[],_,_,_,h=>⟨h,trivial⟩
 | _::_,_::_,_,_,h,k=>⟨h.1,eN.snoc h.2 k⟩
def bi{β:Type}(p:AV->β->Prop)(v:AV)(M:List β):Prop:=∃rows,cB v rows/\eN p rows M
section
variable {β:Type}{p:AV->β->Prop}{v:AV}{s:List β}
def bi.len(h:bi p v s){hp:Hp}:jr hp 1 v=GR (.int .i64 (s.length:Nat)):=by
 have⟨rows,h1,h2⟩:=h;rw[<-h2.len];exact h1.len
def bi.pu(h:bi p v s):aX v=ydB:=by have⟨rows,h1,h2⟩:=h;exact h1.pu
def bi.ai(h:bi p v s)(n:Nat){hp:Hp}:freeze (n+1) hp v=GR (v,hp):=by have⟨rows,h1,h2⟩:=h;exact h1.ai n
def bi.shut(h:bi p v s):VE.shut v=v:=by obtain⟨rows,h1,h2⟩:=h;exact h1.shut
def bi.bN(h:bi p v s):VE.bN v=v:=by obtain⟨rows,h1,h2⟩:=h;exact h1.bN
def bi.one(h:bi p v s):dN v=ydB:=by have⟨rows,h1,h2⟩:=h;exact h1.one
def bi.cells(h:bi p v s):cellsOf v=[v]:=by have⟨rows,h1,h2⟩:=h;exact h1.cells
def bi.bk(h:bi p v s){i:Nat}(hi:i<s.length):∃r rest,p r s[i]/\jq 1 i v=GR (.bC (r::rest)):=by
 have⟨rows,h1,h2⟩:=h;have b6:i<rows.length:=by rw[h2.len];exact hi
 exact⟨_,_,h2.get b6 hi,h1.bk b6⟩
def Kr:bi p .aj []:=⟨[],AG,trivial⟩
def Df(e:Bool){rows:List AV}(h:eN p rows s):bi p (.au e s.length rows) s:=by
 have:=KL e rows
 rw[h.len] at this;exact⟨rows,this,h⟩
end
def oV(id:Nat):Nat->AV
 | 0=>.aj
 | n+1=>.ay id 0 (n+1)
def oH(id z:Nat)(cs:List AV)(r:Hp):Nat->Hp
 | 0=>r
 | _+1=>(id,.cells ydB ydB ydC z cs)::r
def oC(id:Nat):Nat->Nat
 | 0=>id
 | _+1=>id+1
def pz(p:Int):Int×Int:=(i4R p,i4I p)
def Cz(f:Nat->Nat->Int)(n A B:Nat):Int:=Sp (fun a=>Sp (fun b=>f a b) n) A+Sp (fun b=>f A b) B
def asP{α:Type}{p:α->Bool}{l:List α}{i:Nat}(h:i<l.length):(l.drop i).all p=(p l[i]&&(l.drop (i+1)).all p):=by
 rw[yX h,List.all_cons]
def Uz{α:Type}{f:α->Int}{l:List α}{i:Nat}(h:i<l.length):bP ((l.drop i).map f)=if f l[i]=0 then bP ((l.drop (i+1)).map f) else f l[i]:=by
 rw[yX h,xb,bP]
section
variable {P:aE}{L:Lib}
def aD8(h:Fr' P L)(Ng:Has P L 720 MO){v w:AV}{s:Rat}{l:List Rat}{K M:Nat}(hv:b8 v s)(hw:nO w l)(ks:Hq M s)(kl:∀x,x∈l->Hq K x)(hl:l.length<=1000000)(hK:M+l.length*(K+1)+K<=1000000000):∃r,ab P L 720 [w,v,.fn (.f 74) [] []] r/\b8 r (je s l):=by
 have key:=iX P L [2,4,6,9,10,11] LD
  (fun k st=>∃i:Nat,i+k=l.length/\∃c1 c2 c3 c4,b8 (.agg [c1,c2,c3,c4]) (je s (l.take i))/\st=⟨[(2,.fn (.f 74) [] []),(4,.ptr 0 0),(6,.ptr 1 0),(9,w),(10,aa l.length),(11,aa i)],[(1,.cells ydB ydB ydB 4 [.int .i64 0,.aj,.int .i64 0,.aj]),(0,.cells ydB ydB ydB 4 [c1,c2,c3,c4])],2,0⟩)
  (fun ex st=>∃tm hp ct c1 c2 c3 c4,b8 (.agg [c1,c2,c3,c4]) (je s l)/\st=⟨tm,hp,ct,0⟩/\ex=.exit 0/\ak tm 4=.ptr 0 0/\ak tm 6=.ptr 1 0/\ah hp 0=GR (.cells ydB ydB ydB 4 [c1,c2,c3,c4])/\ah hp 1=GR (.cells ydB ydB ydB 4 [.int .i64 0,.aj,.int .i64 0,.aj])) ?_
 .have fO:=hv;obtain⟨v1,v2,v3,v4,rfl,gv⟩:=hv.gen;unfold ab;rw[aB Ng];simp only[go_sem,ya,yb,MO,gv.bx,aT,hw.len];generalize hq:D P L (.loop _ LD) _=q;obtain⟨ex,st,rfl,tm,hp,ct,c1,c2,c3,c4,h1,rfl,rfl,t4,t6,g0,g1⟩:=bt hq (key l.length) ⟨0,by omega,v1,v2,v3,v4,by simpa[je] using fO,by simp only[go_sem,ya,yb,aq,aD hw.pu]<;>rfl⟩
  have g:=h1.f4;refine⟨_,?_,h1⟩;simp only[go_sem,ya,yb,aq,t4,t6,g0,g1,sC,g.st,dL,dO,ye];exact g.dC _
 .rintro k st ⟨i,hk,c1,c2,c3,c4,hs,rfl⟩;by_cases hi:i<l.length
  .left
   obtain⟨a,b,c,d,r,e1,hx⟩:=hw.bk hi;obtain⟨y,e2,hy⟩:=m74 h hs hx (K:=M+l.length*(K+1)+K) ((au6 ks kl i).mono (by omega)) ((kl _ (xA hi)).mono (by omega)) (by omega);rw[<-aqk hi] at hy;have GG:=hy;obtain⟨y1,y2,y3,y4,rfl,gy⟩:=hy.gen;have gs:=hs.f4;have gx:=hx.f4;unfold ab at e2;simp only[go_sem,ya,yb,LD,show (i:Int)<l.length by omega,e1,aDA,sC,aT,gx.st,e2,gs.ai,gx.ai,gy.st,bz,ye];refine⟨_,k-1,rfl,by omega,i+1,by omega,y1,y2,y3,y4,GG,?_⟩;rw[wrap64 (by omega) (by omega)];simp only[go_sem,ya,yb,aq,aD hw.pu]<;>rfl
  .right
   simp only[go_sem,ya,LD,show ¬(i:Int)<l.length by omega];rw[yK (by omega)] at hs;exact⟨_,_,rfl,by simp,_,_,_,c1,c2,c3,c4,hs,rfl,rfl,by simp only[go_sem,ya],by simp only[go_sem,ya],by simp only[go_sem,ya],by simp only[go_sem]⟩
def aD9(h:Fr' P L)(Ng:Has P L 720 MO)(ZA:Has P L 674 Sa){w:AV}{l:List Rat}{K:Nat}(hw:nO w l)(kl:∀x,x∈l->Hq K x)(hl:l.length<=1000000)(hK:40+l.length*(K+1)+K<=1000000000):∃r,ab P L 674 [w] r/\b8 r (je 0 l):=by
 obtain⟨z,e0,hz⟩:=Ob h (z:=0) (by omega) (by omega);have hz:b8 z 0:=hz;obtain⟨r,e1,hr⟩:=aD8 h Ng hz hw (aD4 (z:=0) (by decide)) kl hl hK;obtain⟨z1,z2,z3,z4,rfl,gz⟩:=hz.gen;have bO:=hr;obtain⟨r1,r2,r3,r4,rfl,gr⟩:=hr.gen;refine⟨_,?_,bO⟩;unfold ab at e0 e1 ⊢;rw[aB ZA];simp only[go_sem,ya,yb,Sa,aT,hw.ai,e0,gz.ai,bz,e1,gr.st,dL,dO,ye,sC];exact gr.dC _
end
section
variable {v:AV}{F:List (List Nat)}{l r:List Nat}
def bQ(v:AV)(r:List Nat):Prop:=cB v (dB r)
def KC{i:Nat}(h:i<l.length):(dB l)[i]'(by simpa using h)=.an .f32 l[i]:=by simp[dB]
def sY(r:List Nat):Bool:=r.any fun b=> !gX b
def nV(n:Nat)(r:List Nat):Int:=bP [if r.length=n then 0 else 2,if sY r=ydB then 1 else 0]
def gL(n m:Nat)(F:List (List Nat)):Int:=if F.length=n then bP (F.map (nV m)) else 2
def iQ(z lo hi:Int):Int:=if z<lo\/hi<z then 3 else 0
def mz(C R S:Int):Int:=bP [iQ C 1 8,iQ R 1 8,iQ S 2 8]
def KO{C R S:Int}(h:mz C R S=0):(1<=C/\C<=8)/\(1<=R/\R<=8)/\2<=S/\S<=8:=by
 obtain⟨h1,h2,h3⟩:=au5.1 h;unfold iQ at h1 h2 h3;refine⟨?_,?_,?_⟩
 .by_cases c:C<1\/8<C
  .rw [yC c] at h1;exact absurd h1 (by decide)
  .omega
 .by_cases c:R<1\/8<R
  .rw [yC c] at h2;exact absurd h2 (by decide)
  .omega
 .by_cases c:S<2\/8<S
  .rw [yC c] at h3;exact absurd h3 (by decide)
  .omega
def Ug(C R S:Int)(F:List (List Nat)):Int:=if mz C R S=0 then gL (R.toNat*S.toNat) (C.toNat*S.toNat) F else mz C R S
structure Frc(P:aE)(L:Lib):Prop where
 aEa:L.pure 753=GR Bg
 aEb:Has P L 641 Yy
 aEc:Has P L 643 R3
 aEd:Has P L 670 R7
 Nh:Has P L 676 Ii
 Ni:Has P L 677 Sb
 pX:Has P L 692 Ij
 aEe:Has P L 716 YF
 ZB:Has P L 717 Sh
 SQ:Has P L 741 MP
 aEf:Has P L 742 YI
 SR:Has P L 752 MQ
section
variable {P:aE}{L:Lib}
def aEg(h:L.pure 753=GR Bg)(b:Nat):ab P L 753 [.an .f32 b] (.bool (gX b)):=by
 unfold ab;simp only[bZ,h,Bg]
def aEh(h:Frc P L)(b:Nat):ab P L 742 [.an .f32 b] (.bool (!gX b)):=by
 have e:=aEg (P:=P) h.aEa b;unfold ab at e;unfold ab;rw[aB h.aEf];simp only[go_sem,ya,YI,zN,e]
def akj(h:Has P L 752 MQ)(hv:cB v (dB l))(hl:l.length<=1000000){g:Nat}{p:Nat->Bool}(hg:∀x,ab P L g [.an .f32 x] (.bool (p x))):∃n:Int,ab P L 752 [v,.fn (.f g) [] []] (aa n)/\decide (0<=n)=l.any p:=by
 have hlen:(dB l).length=l.length:=by simp
 have key:=iX P L [0,1,7,8] HF
  (fun k s=>∃i:Nat,i+k=l.length/\(l.drop i).any p=l.any p/\s=⟨[(0,v),(1,.fn (.f g) [] []),(7,aa l.length),(8,aa i)],[],0,0⟩)
  (fun ex s=>∃tm hp ct,s=⟨tm,hp,ct,0⟩/\((∃n:Int,ex=.ret/\ak tm 4=aa n/\0<=n/\l.any p=ydB)\/(ex=.exit 0/\l.any p=ydC))) ?_
 .unfold ab;rw[aB h];simp only[go_sem,ya,MQ,hv.len,hlen];generalize hq:D P L (.loop _ HF) _=q;obtain⟨ex,s,rfl,tm,hp,ct,rfl,h2⟩:=bt hq (key l.length) ⟨0,by omega,rfl,by simp only[go_sem,ya,aq,aD hv.pu]<;>rfl⟩
  rcases h2 with ⟨n,rfl,h2,h3,h4⟩ | ⟨rfl,h2⟩
  .exact ⟨n,by simp only[go_sem,h2]<;>rfl,by rw[h4];simpa using h3⟩
  .exact ⟨-1,by simp only[go_sem,aq]<;>rfl,by rw[h2];decide⟩
 .rintro k s ⟨i,hk,hf,rfl⟩;by_cases hi:i<l.length
  .have b6:(i:Int)<l.length:=by omega
   have e1:=hv.bk (i:=i) (by simpa using hi);rw[KC hi] at e1;have e2:=hg l[i];unfold ab at e2;rw[G7 hi] at hf
   cases eG:p l[i] with
   | false=>
    left
    rw[eG] at e2;simp only[go_sem,ya,HF,b6,e1,zN,e2];rw[eG,vI] at hf;refine⟨_,k-1,rfl,by omega,i+1,by omega,hf,?_⟩;rw[wrap64 (by omega) (by omega)];simp only[go_sem,ya,aq,aD hv.pu]<;>rfl
   | true=>
    right
    rw[eG] at e2;simp only[go_sem,ya,HF,b6,e1,zN,e2];refine⟨_,_,rfl,by simp,_,_,_,rfl,.inl ⟨i,rfl,?_,by omega,?_⟩⟩
    .simp only [go_sem]
    .rw [<-hf,eG,uH]
  .right
   simp only[go_sem,ya,HF,show ¬(i:Int)<l.length by omega];refine⟨_,_,rfl,by simp,_,_,_,rfl,.inr ⟨rfl,?_⟩⟩;rw[<-hf,y9 (by omega)];rfl
def aEi(ZB:Has P L 717 Sh){M:List (List Nat)}(hv:bi bQ v M)(hl:M.length<=1000000){g:Nat}{cap:List AV}(hc:aF cap=ydB)(hz:∀(n:Nat) (hp:Hp),cD (n+900) hp cap=GR (cap,hp)){f:List Nat->Int}(hg:∀w a,a∈M->bQ w a->ab P L g (w::cap) (aa (f a))):ab P L 717 [v,.fn (.f g) [] cap] (aa (bP (M.map f))):=by
 have pf:aX (.fn (.f g) [] cap)=ydB:=by simp[aX,aF,hc]
 have key:=iX P L [1,8,9,10] Qp
  (fun k s=>∃i:Nat,s=⟨[(1,.fn (.f g) [] cap),(8,v),(9,aa M.length),(10,aa i)],[],0,0⟩/\i+k=M.length/\bP ((M.drop i).map f)=bP (M.map f))
  (fun ex s=>∃tm ct,s=⟨tm,[],ct,0⟩/\((ex=.ret/\ak tm 4=aa (bP (M.map f)))\/(ex=.exit 0/\bP (M.map f)=0))) ?_
 .unfold ab;rw[aB ZB];simp only[go_sem,ya,Sh,hv.len];generalize hq:D P L (.loop _ Qp) _=q;obtain⟨ex,s,rfl,tm,ct,rfl,h2⟩:=bt hq (key M.length) ⟨0,by simp only[go_sem,ya,aq,aD hv.pu,aD pf]<;>rfl,by omega,by simp⟩
  rcases h2 with ⟨rfl,h2⟩ | ⟨rfl,h2⟩
  .simp only [go_sem,h2]
  .rw [h2];simp only[go_sem,aq]
 .rintro k s ⟨i,rfl,hk,hf⟩;simp only[go_sem,ya,Qp];by_cases hi:i<M.length
  .have b6:(i:Int)<M.length:=by omega
   obtain⟨r,rest,hr,e0⟩:=hv.bk hi;have e1:=hg r _ (xA hi) hr;unfold ab at e1;rw[yX hi,xb] at hf;simp only[bP] at hf;by_cases eG:f M[i]=0
   .left
    rw[eG] at e1;simp only[go_sem,ya,b6,e0,hr.ai,hz,e1];refine⟨_,k-1,rfl,by omega,i+1,?_,by omega,by rw[yC eG] at hf;exact hf⟩
    rw[wrap64 (by omega) (by omega)];simp only[go_sem,ya,aq,aD hv.pu,aD pf]<;>rfl
   .right
    simp only[go_sem,ya,b6,e0,hr.ai,hz,e1,eG];rw[yq eG] at hf;refine⟨_,_,rfl,by simp,_,_,rfl,.inl ⟨rfl,?_⟩⟩;simp only[go_sem,hf]
  .right
   have b6:¬(i:Int)<M.length:=by omega
   simp only[go_sem,b6];refine⟨_,_,rfl,by simp,_,_,rfl,.inr ⟨rfl,?_⟩⟩;rw[<-hf,y9 (by omega)];rfl
def aEj(h:Frc P L)(hv:bQ v r)(hl:r.length<=1000000):ab P L 741 [v,.fn (.f 742) [] []] (.bool (sY r)):=by
 obtain⟨n,e1,e2⟩:=akj h.SR hv hl (g:=742) (p:=fun b=> !gX b) (fun x=>aEh h x);have e2:decide (0<=n)=sY r:=e2;have hv:cB v (dB r):=hv;unfold ab at e1 ⊢;rw[aB h.SQ];simp only[go_sem,ya,MP,hv.ai,e1,e2]
def fN(a b c:Int)(ct:Nat):mY ct 3 [aa a,aa b,aa c]=GR (.ptr ct 0,.cells ydB ydB ydB 3 [aa a,aa b,aa c]):=rfl
def sD(a b c:Int):gY 3 ydB [aa a,aa b,aa c]=GR (.agg [aa a,aa b,aa c]):=rfl
def aEk(h:Frc P L){w:AV}{C R S:Nat}(hC:C<=8)(hS:S<=8)(hw:bQ w r)(hl:r.length<=1000000):ab P L 716 [w,fo C R S] (aa (nV (C*S) r)):=by
 have e1:=aEj h hw hl;have hw:cB w (dB r):=hw;have hlen:(dB r).length=r.length:=by simp
 have b1:C*S<=64:=y8 hC hS;have m1:(C:Int)*(S:Int)=((C*S:Nat):Int):=by rw[xD]
 have e2:=DW h.pX (!decide ((r.length:Int)=((C*S:Nat):Int))) 2;have q:decide ((r.length:Int)=((C*S:Nat):Int))=decide (r.length=C*S):=decide_eq_decide.2 (by omega);rw[q] at e2;rw[show (if (!decide (r.length=C*S))=ydB then (2:Int) else 0)=(if r.length=C*S then 0 else 2) by by_cases e:r.length=C*S<;>simp[e]] at e2
 have e3:=DW h.pX (sY r) 1;have e4:=Nb h.Ni (jn ydB [if r.length=C*S then 0 else 2,if sY r=ydB then 1 else 0]) (by simp);simp only[yH,yR,yd,yb,xb,wO] at e4;unfold ab at e1 e2 e3 e4 ⊢;rw[aB h.aEe];unfold nV
 simp only[go_sem,ya,yb,yv,yh,yg,YF,fo,LL,Qy,hw.len,hw.ai,hlen,m1,wrap64 (n:=((C*S:Nat):Int)) (by omega) (by omega),q,e1,e2,e3,e4]
def Nj(h:Frc P L){C R S:Nat}(hC:C<=8)(hR:R<=8)(hS:S<=8)(hv:bi bQ v F)(hl:F.length<=1000000)(hr:∀r,r∈F->r.length<=1000000):ab P L 670 [.agg [aa C,aa R,aa S],v] (aa (gL (R*S) (C*S) F)):=by
 have e1:=aEi h.ZB hv hl (g:=716) (cap:=[fo C R S]) rfl (fun n hp=>rfl) (f:=nV (C*S)) (fun w r bO hw=>aEk h hC hS hw (hr r bO));have b1:R*S<=64:=y8 hR hS;have m1:(R:Int)*(S:Int)=((R*S:Nat):Int):=by rw[xD]
 unfold ab at e1 ⊢;rw[aB h.aEd];unfold fo at e1;unfold gL;by_cases hn:F.length=R*S
 .rw [yC hn]
  simp only[go_sem,ya,R7,fN,aP,yd,ye,yk,hv.len,hv.ai,m1,wrap64 (n:=((R*S:Nat):Int)) (by omega) (by omega),hn,yp,e1]
 .rw [yq hn]
  simp only[go_sem,ya,R7,fN,aP,yd,ye,yk,hv.len,m1,wrap64 (n:=((R*S:Nat):Int)) (by omega) (by omega),show ¬(F.length:Int)=((R*S:Nat):Int) by omega,yt]
def ZC(h:Frc P L)(C R S:Int):ab P L 641 [.agg [aa C,aa R,aa S]] (aa (mz C R S)):=by
 have e1:=Nc h.Nh h.pX C 1 8;have e2:=Nc h.Nh h.pX R 1 8;have e3:=Nc h.Nh h.pX S 2 8;have e4:=Nb h.Ni (jn ydB [iQ C 1 8,iQ R 1 8,iQ S 2 8]) (by simp);simp only[yH,yR,yd,yb,xb,wO] at e4;unfold ab at e1 e2 e3 e4 ⊢;rw[aB h.aEb];unfold iQ at e4;unfold mz iQ;simp only[go_sem,ya,yb,yv,yh,yg,Yy,fN,aP,yd,ye,yk,e1,e2,e3,e4]
def aEl(h:Frc P L){C R S:Int}(hv:bi bQ v F)(hl:F.length<=1000000)(hr:∀r,r∈F->r.length<=1000000):ab P L 643 [.agg [aa C,aa R,aa S],v] (aa (Ug C R S F)):=by
 have e1:=ZC h C R S;have fz:∀(n:Nat) (hp:Hp),freeze (n+20) hp (.agg [aa C,aa R,aa S])=GR (.agg [aa C,aa R,aa S],hp):=fun n hp=>bS _ _ (by simp only[go_sem])
 unfold ab;rw[aB h.aEc];unfold Ug;by_cases h0:mz C R S=0
 .rw [yC h0];obtain⟨⟨a1,a2⟩,⟨b1,b2⟩,c1,c2⟩:=KO h0;have e2:=Nj h (C:=C.toNat) (R:=R.toNat) (S:=S.toNat) (by omega) (by omega) (by omega) hv hl hr;rw[xW (by omega),xW (by omega),xW (by omega)] at e2;rw[h0] at e1;unfold ab at e1 e2;simp only[go_sem,ya,yb,R3,fN,ye,sD,fz,e1,hv.ai,e2]
 .rw [yq h0];unfold ab at e1;simp only[go_sem,ya,yb,R3,fN,ye,sD,fz,e1,h0]
end
end
open Ieee
def azn{b:Nat}{s:Bool}{M:Nat}(h:Fl b s M):Hq 429 (lB s M):=by
 have hM:=h.lt;have k1:Hq 278 (((bj s M:Int)):Rat):=aeJ 278 (X1 278 277 hM (by decide)) (by decide);exact (k1.mul (X2 (-149))).mono (by decide)
end VE
end
section
namespace VE
open Go (IntKind)
section
variable {F:List (List Nat)}{b m n:Nat}
noncomputable def fq(b:Nat):Rat:=match tZ.read b with
 | .number s m e=>lB s (cV m e)
 | _=>0
def aBl{M:Nat}{s:Bool}(h:Fl b s M):fq b=lB s M:=by
 obtain⟨m,e,h1,h2⟩:=h.ex;unfold fq;rw[h1.read,h2]
def Rg(hb:b<4294967296)(hf:gX b=ydB):∃s M,Fl b s M/\fq b=lB s M:=by
 rcases ayY hb with ⟨s,M,h⟩ | h
 .exact ⟨s,M,h,aBl h⟩
 .rw [hf] at h;cases h
def aEm(hb:b<4294967296)(hf:gX b=ydB):Hq 429 (fq b):=by
 obtain⟨s,M,h,e⟩:=Rg hb hf;rw[e];exact azn h
structure jI(F:List (List Nat))(n m:Nat):Prop where
 len:F.length=n
 row:∀r,r∈F->r.length=m
 fin:∀r,r∈F->∀b,b∈r->gX b=ydB/\b<4294967296
noncomputable def oZ(F:List (List Nat))(c r:Nat):Rat:=fq ((F.getD r []).getD c 0)
def agM{r:List Nat}(h:nV n r=0):r.length=n/\∀b,b∈r->gX b=ydB:=by
 unfold nV at h;obtain⟨h1,h2⟩:=au4.1 h;have h3:r.length=n:=by
  by_cases c:r.length=n
  .exact c
  .rw [yq c] at h1;exact absurd h1 (by decide)
 refine⟨h3,fun b hb=>?_⟩
 cases hf:gX b with
 | true=>rfl
 | false=>
  have:sY r=ydB:=by
   unfold sY;rw[ybZ];exact⟨b,hb,by rw[hf];rfl⟩
  rw[yC this] at h2;exact absurd h2 (by decide)
def WC(h:gL n m F=0)(hb:∀r,r∈F->∀b,b∈r->b<4294967296):jI F n m:=by
 unfold gL at h;by_cases c:F.length=n
 .rw [yC c] at h
  have:=U3 h
  exact⟨c,fun r hr=>(agM (this r hr)).1,fun r hr b aS=>⟨(agM (this r hr)).2 b aS,hb r hr b aS⟩⟩
 .rw [yq c] at h;exact absurd h (by decide)
def jI.at{c r:Nat}(h:jI F n m)(hr:r<n)(hc:c<m):∃(h1:r<F.length) (h2:c<F[r].length),oZ F c r=fq (F[r][c])/\gX (F[r][c])=ydB/\F[r][c]<4294967296:=by
 have h1:r<F.length:=by rw[h.len];exact hr
 have h2:c<F[r].length:=by rw[h.row _ (xA h1)];exact hc
 refine⟨h1,h2,?_,h.fin _ (xA h1) _ (xA h2)⟩;unfold oZ;simp only[yV,xn h1,xn h2,wV]
def jI.H{c r:Nat}(h:jI F n m)(hr:r<n)(hc:c<m):Hq 429 (oZ F c r):=by
 obtain⟨_,_,e,f1,f2⟩:=h.at hr hc;rw[e];exact aEm f2 f1
def akk(S i:Nat):Rat:=((2*(i:Int)+1-(S:Int):Int):Rat)/((2:Int):Rat)
def jf(ct:Nat)(a b:Int):mY ct 2 [aa a,aa b]=GR (.ptr ct 0,.cells ydB ydB ydB 2 [aa a,aa b]):=rfl
section
variable {P:aE}{L:Lib}
def aBm(h:Exc P L)(hb:b<4294967296)(hf:gX b=ydB):∃r,ab P L 685 [.an .f32 b] r/\b8 r (fq b):=by
 obtain⟨s,M,aS,e⟩:=Rg hb hf;rw[e];exact aD7 h.toTx h.Zz aS (aBk h.toFx h.toTx h.Nf h.Zy aS)
end
end
def psQ(f:Nat->Rat):Nat->Rat
 | 0=>0
 | n+1=>psQ f n+f n
section
variable {c1 c2 c3 c4:AV}(h:F4 c1 c2 c3 c4)(hp:Hp)(ct id:Nat)(a1 a2 a3 a4 a5 a6 a7 a8 a9 a10 a11 a12:AV)
include h
theorem F4.p:aF [c1,c2,c3,c4]=ydB:=by have:=h.pu;simpa[aX] using this
theorem F4.o:cf [c1,c2,c3,c4]=ydB:=by simp[cf,h.o1,h.o2,h.o3,h.o4]
end
structure Mom(P:aE)(L:Lib):Prop extends Fr' P L where
 SM:Has P L 719 MN
 aEn:Has P L 673 YB
 aJd:Has P L 724 ai7
 aJe:Has P L 725 ai8
def jy(hp:Hp)(ct id:Nat)(a b:Int)(x y:AV):iM hp ct id 0 2 [aa a,aa b] (GR (.cells ydB ydB ydB 2 [x,y]))=GR (.av [],aJ hp id (.cells ydB ydB ydB 2 [aa a,aa b]),ct):=rfl
def ZD(n:Nat)(hp:Hp)(a b:Int):freeze (n+20) hp (.agg [aa a,aa b])=GR (.agg [aa a,aa b],hp):=bS _ _ (by simp only[go_sem])
def Aa(n:Nat)(hp:Hp)(a b c:Int):freeze (n+20) hp (.agg [aa a,aa b,aa c])=GR (.agg [aa a,aa b,aa c],hp):=bS _ _ (by simp only[go_sem])
section
variable {P:aE}{L:Lib}
def Qz{S k i:Nat}(hi:i<S):(k*S+i)%S=i:=by rw[xd,Nat.mul_add_mod,yQ hi]
def QA{S k i:Nat}(hi:i<S):(k*S+i)/S=k:=by rw[xd,Nat.mul_add_div (by omega),Nat.div_eq_of_lt hi,yY]
def HT{C S a i:Nat}(ha:a<C)(hi:i<S):a*S+i<C*S:=by
 have:=yT S (show a+1<=C by omega)
 rw[xS,tM] at this;omega
end
section
variable {P:aE}{L:Lib}
def hF(vs mc:List AV):Hp:=[(1,.cells ydB ydB ydB 4 mc),(0,.cells ydB ydB ydB 4 vs)]
end
structure Cen(P:aE)(L:Lib):Prop extends Mom P L,Tx P L where
 aEo:Has P L 672 R9
 aJf:Has P L 686 ai0
 aJg:Has P L 688 ai2
 Ix:Has P L 718 Ik
 aJh:Has P L 122 aiQ
 aJi:Has P L 123 aiR
 aJj:Has P L 160 aiS
section
variable {P:aE}{L:Lib}
def aEp(h:Has P L 672 R9)(C R S:Nat):ab P L 672 [.agg [aa C,aa R,aa S]] (.fn (.f 718) [] [fo C R S]):=by
 unfold ab;rw[aB h];simp only[go_sem,ya,yb,R9,fN]
 first | done | rfl
end
section
variable {P:aE}{L:Lib}
def avn{C R k:Nat}(h:k<C*R):k%C<C/\k/C<R:=by
 have h0:0<C:=vW (fun e=>by rw[e,wo] at h;omega);exact⟨xq _ h0,uN h⟩
end
def pnQ(a:Rat):Rat:=if a<0 then 0 else a
structure aEq(C R S:Int)(c r s:Nat):Prop where
 hC:C=c
 hR:R=r
 hS:S=s
 c1:1<=c
 c8:c<=8
 r1:1<=r
 r8:r<=8
 s2:2<=s
 s8:s<=8
def aEr{C R S:Int}(h:mz C R S=0):aEq C R S C.toNat R.toNat S.toNat:=by
 obtain⟨⟨a1,a2⟩,⟨b1,b2⟩,d1,d2⟩:=KO h;exact⟨by omega,by omega,by omega,by omega,by omega,by omega,by omega,by omega,by omega⟩
structure Ctd(P:aE)(L:Lib):Prop extends Cen P L,Frc P L,Exc P L,Ck P L where
 aJk:Has P L 654 aiX
 aJl:Has P L 655 aiY
 aJm:Has P L 687 ai1
 aJn:Has P L 689 ai3
 aJo:Has P L 690 ai4
 aJp:Has P L 691 ai5
def bU(C R S:Nat)(v:AV):Env:=[(20,.fn (.f 718) [] [fo C R S]),(19,.agg [aa C,aa R,aa S]),(7,.ptr 2 0),(17,.bool ydC),(16,.int .i64 0),(6,.int .i64 0),(15,.int .i64 0),(14,v),(13,.agg [aa C,aa R,aa S]),(5,.int .i64 0),(4,.aj),(3,.ptr 1 0),(2,.ptr 0 0),(0,.agg [aa C,aa R,aa S]),(1,v)]
def n5(id:Nat)(o:Obj)(j:Nat):∀hp:Hp,ah (aJ hp id o) j=if j=id then (ah hp id).map (fun _=>o) else ah hp j
 | []=>by by_cases h:j=id<;>simp[aJ,ah,h]
 | (i,u)::r=>by
  have ih:=n5 id o j r;by_cases h1:i=id
  .subst h1;rw[PD];by_cases h2:j=i
   .subst h2;rw[yC rfl,jW,jW];rfl
   .rw [yq h2,eK _ _ (fun e=>h2 e.symm),eK _ _ (fun e=>h2 e.symm)]
  .rw [qD _ _ _ h1];by_cases h2:j=i
   .subst h2;rw[yq h1,jW,jW]
   .rw [eK _ _ (fun e=>h2 e.symm),ih,eK _ _ h1,eK _ _ (fun e=>h2 e.symm)]
def asQ{hp:Hp}{id:Nat}{u:Obj}(h:ah hp id=GR u)(o:Obj)(j:Nat):ah (aJ hp id o) j=if j=id then GR o else ah hp j:=by
 rw[n5,h];rfl
def Kh(id j:Nat):∀hp:Hp,ah (cS hp id) j=if j=id then GS else ah hp j
 | []=>by split<;>rfl
 | (i,u)::r=>by
  have ih:=Kh id j r;by_cases h1:i=id
  .subst h1;rw[VR,ih];by_cases h2:j=i
   .grind
   .rw [yq h2,yq h2,eK _ _ (fun e=>h2 e.symm)]
  .rw [Po _ _ h1];by_cases h2:j=i
   .subst h2;rw[yq h1,jW,jW]
   .rw [eK _ _ (fun e=>h2 e.symm),ih,eK _ _ (fun e=>h2 e.symm)]
def aeR(i:Nat):∀l:List Nat,jt i l=ydB↔i∈l
 | []=>by simp[jt]
 | j::r=>by
  by_cases h:j=i
  .subst h;simp[aen]
  .rw [adt _ h,aeR i r]
   grind
def aeS{i:Nat}{l:List Nat}(h:i∉l):jt i l=ydC:=by
 cases hq:jt i l with
 | false=>rfl
 | true=>exact absurd ((aeR i l).1 hq) h
def WD(hp:Hp):∀(ids seen dh:List Nat) (n:Nat),ids.length<n->(∀i,i∈ids->∃o,ah hp i=GR o/\dz o=[])->ids.Nodup->(∀i,i∈ids->i∉seen)->jR hp n (ids++dh) seen=jR hp (n-ids.length) dh (seen++ids)
 | [],seen,dh,n,_,_,_,_=>by simp
 | i::ids,seen,dh,0,h,_,_,_=>by simp at h
 | i::ids,seen,dh,n+1,h,h1,h2,h3=>by
  obtain⟨o,g,e⟩:=h1 i xJ;have hn:=uP.1 h2
  rw[yI,kX,aeS (h3 i xJ),lF,g,lG,e,yN,WD hp ids (seen++[i]) dh n (by simpa using h) (fun j hj=>h1 j (xr _ hj)) hn.2 (fun j hj hm=>by
   rcases wD.1 hm with hm | hm
   .grind
   .simp only [vT] at hm
    subst hm;exact hn.1 hj)]
  grind
def afX(hp:Hp){n:Nat}(h:0<n)(seen:List Nat):jR hp n [] seen=seen:=by
 obtain⟨m,rfl⟩:∃m,n=m+1:=⟨n-1,by lia⟩;exact afE hp m seen
def V1(hp:Hp)(f:Nat->Option Nat):∀(seen:List Nat) (k:Nat) (acc:Hp) (j:Nat),j<k->ah (ep hp f seen k acc) j=ah acc j
 | [],k,acc,j,_=>rfl
 | id::r,k,acc,j,h=>by
  rw[ep]
  cases ah hp id with
  | none=>exact V1 hp f r (k+1) acc j (by omega)
  | some o=>
   rw[V1 hp f r (k+1) _ j (by omega),eK _ _ (by omega)]
def U4(hp:Hp)(f:Nat->Option Nat):∀(seen:List Nat) (k:Nat) (acc:Hp) (j:Nat) (h:j<seen.length) (o:Obj),ah hp seen[j]=GR o->ah (ep hp f seen k acc) (k+j)=GR (dY f o)
 | id::r,k,acc,0,_,o,ho=>by
  simp only[vB] at ho;rw[ep];simp only[ho];show ah (ep hp f r (k+1) ((k,dY f o)::acc)) k=_
  rw[V1 hp f r (k+1) _ k (by omega),jW]
 | id::r,k,acc,j+1,h,o,ho=>by
  have:=fun Cg=>U4 hp f r (k+1) Cg j (by simpa using h) o ho
  rw[ep,show k+(j+1)=k+1+j by omega]
  cases ah hp id with
  | none=>exact this _
  | some u=>exact this _
def KQ:∀(seen:List Nat) (k j:Nat) (h:j<seen.length),seen.Nodup->gV seen[j] seen k=GR (k+j)
 | s::r,k,0,_,_=>by simp only[vB,yY];exact afG s r k
 | s::r,k,j+1,h,hn=>by
  have hn:=uP.1 hn;have hj:j<r.length:=by simp_all
  simp only[uk];rw[aeo _ _ (fun e=>hn.1 (by rw[e];exact xA hj)),KQ r (k+1) j hj hn.2]
  grind
def anu{live:List Nat}{tm:Env}{hp:Hp}{ct:Nat}{seen:List Nat}(hr:jR hp 100000 (dw (bF tm live)) []=seen):
  ∃ap,bH live ⟨tm,hp,ct,0⟩=⟨gj (pos seen) (bF tm live),ap,seen.length,0⟩/\∀j (h:j<seen.length) o,ah hp seen[j]=GR o->ah ap j=GR (dY (pos seen) o):=by
 refine⟨ep hp (pos seen) seen 0 [],by rw[aq,hr,Wn],fun j h o ho=>?_⟩
 have:=U4 hp (pos seen) seen 0 [] j h o ho
 grind
def SS(hp:Hp)(ct sz:Nat)(q:Option (Nat×List AV))(d:AV):gZ:=
 match q,d with
 | some (m,new),.ay id o n=>
  match ah hp id with
  | some (.cells ydB pu ex z cs)=>
   bif yu z sz&&(yG (o+n*sz) cs.length&&cf new) then
    GR (.int .i64 (min m n:Nat),aJ hp id (.cells ydB (pu&&aF new) ex z (over o (new.take (min m n*sz)) cs)),ct)
   else GS
  | _=>GS
 | _,_=>GS
def agN{P:aE}{L:Lib}{f:cp}{tm:Env}{hp:Hp}{ct:Nat}(sz:Nat)(d s:X):bc P L f tm hp ct (.p7 sz d s)=SS hp ct sz (pE hp sz (az tm s)) (az tm d):=by
 show cx tm hp ct (.p7 sz d s)=_
 simp only[cx,SS]
 cases pE hp sz (az tm s) with
 | none=>rfl
 | some q=>have⟨m,new⟩:=q;cases az tm d<;>rfl
def afY{hp:Hp}{ct id n:Nat}{ex:Bool}{cs new:List AV}(hg:ah hp id=GR (.cells ydB ydB ex 1 cs))(hl:cs.length=n)(hn:new.length=n)(ho:cf new=ydB)(ap:aF new=ydB):SS hp ct 1 (GR (n,new)) (.ay id 0 n)=GR (.int .i64 n,aJ hp id (.cells ydB ydB ex 1 new),ct):=by
 have e:over 0 (new.take (min n n*1)) cs=new:=by
  simp only[over,List.take_zero,yN,yd]
  grind
 simp only[SS,hg,wL,yd,yg,hl,yy (yz n),ho,vh,yx,ap,Nat.min_self]
 grind
def js(a:Nat)(ids pl:List Nat):List Nat:=a::(ids++pl)
abbrev wd{β:Type}(M:List (List β)):Nat:=(M.getD 0 []).length
abbrev z4:List AV:=[AV.int .i64 0,.aj,.int .i64 0,.aj]
section
variable {tm tm':Env}{cs:List AV}{W ids live pl:List Nat}{a ct i n:Nat}
def gP(ids W:List Nat):List AV:=uI (fun i w=>AV.ay i 0 w) ids W
def gQ(ids W:List Nat)(r:Nat):List AV:=gP ids W++yj r .aj
def avo(h:ids.length=W.length):(gP ids W).length=W.length:=by simp[gP,h]
def aeT{w:Nat}(h:ids.length=W.length):gP (ids++[i]) (W++[w])=gP ids W++[.ay i 0 w]:=by
 unfold gP;rw[List.zipWith_append h];rfl
def acP:∀r:Nat,fY (yj r AV.aj)=[]
 | 0=>rfl
 | r+1=>by rw[wG,fY,acP r];rfl
def Pq(r:Nat):∀{ids W:List Nat},ids.length=W.length->fY (gQ ids W r)=ids
 | [],[],_=>acP r
 | i::ids,w::W,h=>by
  have ih:=Pq r (ids:=ids) (W:=W) (by simpa using h);have e:gQ (i::ids) (w::W) r=.ay i 0 w::gQ ids W r:=rfl;rw[e,fY,ih];rfl
 | [],_::_,h=>by simp at h
 | _::_,[],h=>by simp at h
def adL(f:Nat->Option Nat):∀r:Nat,dA f (yj r AV.aj)=yj r .aj
 | 0=>rfl
 | r+1=>by rw[wG,dA,adL f r];rfl
def V2{f:Nat->Option Nat}(r:Nat):∀{ids W:List Nat} (k:Nat),ids.length=W.length->(∀i (h:i<ids.length),f ids[i]=GR (k+i))->dA f (gQ ids W r)=gQ (xT k ids.length) W r
 | [],[],_,_,_=>adL f r
 | i::ids,w::W,k,h,hf=>by
  have h0:=hf 0 (by simp);simp only[vB,yY] at h0;have ih:=V2 (f:=f) r (ids:=ids) (W:=W) (k+1) (by simpa using h) (fun j hj=>by
   have:=hf (j+1) (by simpa using hj)
   simp only[uk] at this
   rw[this];congr 1;lia)
  have e:gQ (i::ids) (w::W) r=.ay i 0 w::gQ ids W r:=rfl;rw[e,dA,ih,yH,List.range'_succ];simp only[bn,h0];rfl
 | [],_::_,_,h,_=>by simp at h
 | _::_,[],_,h,_=>by simp at h
def Vx{sz:Nat}{y:Bool}(hs:0<sz):∀(ids W:List Nat) (T:List (List AV)) (hp:Hp) (n:Nat),ids.length+4<=n->ids.length=T.length->W.length=T.length->(∀i (h1:i<ids.length) (h2:i<T.length) (h3:i<W.length),T[i].length=W[i]*sz/\∃rw,ah hp ids[i]=GR (.cells rw ydB y sz T[i]))->
  ∃ap,cD n hp (gP ids W)=GR (uI (fun w r=>.au y w r) W T,ap)/\∀j,j∉ids->ah ap j=ah hp j
 | [],[],[],hp,n+1,_,_,_,_=>⟨hp,rfl,fun _ _=>rfl⟩
 | [],_,[],hp,0,h,_,_,_=>by simp at h
 | [],_,_::_,_,_,_,h,_,_=>by simp at h
 | [],_::_,[],_,_,_,_,h,_=>by simp at h
 | _::_,_,[],_,_,_,h,_,_=>by simp at h
 | _::_,[],_::_,_,_,_,_,h,_=>by simp at h
 | i::ids,w::W,r::T,hp,n+1,hn,hl,hW,h=>by
  obtain⟨l0,cP,g0⟩:=h 0 (by simp) (by simp) (by simp);simp only[vB] at l0 g0;simp only[yH] at hn hl hW;obtain⟨m,rfl⟩:∃m,n=m+1+1:=⟨n-2,by omega⟩;have hz:zF (m+1) hp i=GR (y,sz,r,if cP=ydB then aJ hp i (.cells ydC ydB y sz r) else hp):=by
   rw[E3,g0];cases cP<;>rfl
  have aBn:∃aZ,(if cP=ydB then aJ hp i (.cells ydC ydB y sz r) else hp)=aZ/\∀j,ah aZ j=if j=i then GR (.cells (if cP=ydB then ydC else cP) ydB y sz r) else ah hp j:=by
   refine⟨_,rfl,fun j=>?_⟩
   cases cP with
   | true=>simp only[xN];rw[asQ g0]
   | false=>
    simp only[Bool.false_eq_true,xv]
    split
    .rename_i e;rw[e,g0]
    .rfl
  obtain⟨aZ,e1,g1⟩:=aBn;rw[e1] at hz;obtain⟨ap,e2,g2⟩:=Vx hs ids W T aZ (m+1+1) (by omega) (by omega) (by omega) (fun k h1 h2 h3=>by
   obtain⟨a,rw2,b⟩:=h (k+1) (by simpa using h1) (by simpa using h2) (by simpa using h3);simp only[uk] at a b;refine⟨a,?_⟩;rw[g1]
   split
   .rename_i e;rw[e,g0] at b;simp only[yc,Obj.cells.injEq] at b;exact⟨_,by rw[b.2.2.2.2]⟩
   .exact ⟨rw2,b⟩)
  refine⟨ap,?_,fun j hj=>?_⟩
  .have e:gP (i::ids) (w::W)=.ay i 0 w::gP ids W:=rfl;rw[e,adq,Wm,hz,jX y l0 hs,agf,e2,agh];rfl
  .simp only [we,not_or] at hj;rw[g2 j hj.2,g1,yq hj.1]
def gT(T:List (List AV))(i:Nat):List AV:=T.getD i []
def DH{T:List (List AV)}(h:i<T.length):gT T i=T[i]:=by
 simp[gT,yV,xn h]
def kO(n:Nat):List Nat:=(wq n).map (·+1)
def BQ(n:Nat):(kO n).length=n:=by simp[kO]
def U5(n:Nat):kO n=xT 1 n:=by
 unfold kO;rw[List.range'_eq_map_range]
 grind
def V3(h:i<(kO n).length):(kO n)[i]=i+1:=by simp[kO]
def V4:i∈kO n↔0<i/\i<=n:=by
 rw[U5,ybJ];lia
structure zA(hp:Hp)(x y:Bool)(sz:Nat)(W:List Nat)(T:List (List AV))(r:Nat):Prop where
 l:W.length=T.length
 m:ah hp 0=GR (.cells ydB ydC x 1 (gQ (kO T.length) W r))
 r:∀i,i<T.length->ah hp (i+1)=GR (.cells ydB ydB y sz (gT T i))
section
variable {hp:Hp}{x y:Bool}{sz:Nat}{W:List Nat}{T:List (List AV)}{r:Nat}
def zA.ai(h:zA hp x y sz W T 0)(hs:0<sz)(hw:∀i (h1:i<T.length) (h2:i<W.length),T[i].length=W[i]*sz)(hn:T.length+4<=n):
  ∃ap,cD n hp (gQ (kO T.length) W 0)=GR (uI (fun w r=>.au y w r) W T,ap)/\∀j,(∀i,i<T.length->j≠i+1)->ah ap j=ah hp j:=by
 have e0:gQ (kO T.length) W 0=gP (kO T.length) W:=by unfold gQ;simp
 rw[e0];obtain⟨aZ,e1,g1⟩:=Vx hs (kO T.length) W T hp n (by rw[BQ];exact hn) (BQ _) h.l (fun i h1 h2 h3=>by
  refine⟨hw i h2 h3,ydB,?_⟩;rw[V3]
  have:=h.r i h2
  rwa[DH h2] at this)
 refine⟨aZ,e1,fun j hj=>g1 j fun hm=>?_⟩
 have:=V4.1 hm
 exact hj (j-1) (by omega) (by omega)
def agO{hp ap:Hp}{id s:Nat}{cP ex:Bool}{dJ:List AV}(h:cD n hp cs=GR (dJ,ap)):Cn n id hp (GR (.cells cP ydC ex s cs))=GR (ex,s,dJ,aJ ap id (.cells ydC ydC ex s cs)):=by
 simp[Cn,h]
def zA.Cn(h:zA hp x y sz W T 0)(hs:0<sz)(hw:∀i (h1:i<T.length) (h2:i<W.length),T[i].length=W[i]*sz)(hn:T.length+4<=n):
  ∃ap,VE.Cn n 0 hp (GR (.cells ydB ydC x 1 (gQ (kO T.length) W 0)))=GR (x,1,uI (fun w r=>.au y w r) W T,ap):=by
 obtain⟨aZ,e,_⟩:=h.ai hs hw hn;exact⟨_,agO e⟩
def aBo{cP ex:Bool}{cells:List AV}(hm:ah hp a=GR (.cells cP ydC ex 1 cells))(hc:fY cells=ids)(hr:∀i,i∈ids->∃o,ah hp i=GR o/\dz o=[])(aZ:∀i,i∈pl->∃o,ah hp i=GR o/\dz o=[])(hn:(js a ids pl).Nodup)(hl:ids.length+pl.length<90000):jR hp 100000 (a::pl) []=js a ids pl:=by
 have ef:=uP.1 hn;have bL:∀i,i∈ids++pl->i∉[a]:=fun i hi hm=>by
  simp only[vT] at hm;subst hm;exact ef.1 hi
 rw[show (100000:Nat)=99999+1 from rfl,kX,aem,lF,hm,lG,P3,hc,yN]
 have:ids++pl=(ids++pl)++[]:=by simp
 rw[this,WD hp (ids++pl) [a] [] 99999 (by rw[yO];lia) (fun i hi=>by
  rcases wD.1 hi with h | h
  .exact hr i h
  .exact aZ i h) ef.2 bL,afX hp (by rw[yO];lia)]
 rfl
def agP(hE:dw (bF tm live)=a::pl)(hm:ah hp a=GR (.cells ydB ydC x 1 (gQ ids W r)))(hl:ids.length=T.length)(hW:W.length=T.length)(hr:∀i (h:i<ids.length),ah hp ids[i]=GR (.cells ydB ydB y sz (gT T i)))(hM:T.length<=10000)(hn:(js a ids pl).Nodup)(aZ:∀i,i∈pl->∃o,ah hp i=GR o/\dz o=[])(rA:pl.length<=1000)(hT:∀S,gV a S 0=GR 0->(∀j (h:j<pl.length),gV pl[j] S 0=GR (T.length+1+j))->gj (pos S) (bF tm live)=tm'):
  ∃ap,bH live ⟨tm,hp,ct,0⟩=⟨tm',ap,1+(T.length+pl.length),0⟩/\zA ap x y sz W T r/\∀j (h:j<pl.length) rw ex z cs,ah hp pl[j]=GR (.cells rw ydB ex z cs)->ah ap (T.length+1+j)=GR (.cells rw ydB ex z cs):=by
 have Iy:∀i,i∈ids->∃o,ah hp i=GR o/\dz o=[]:=fun i hi=>by
  obtain⟨k,hk,rfl⟩:=ybo.1 hi;exact⟨_,hr k hk,rfl⟩
 have hR:=aBo (pl:=pl) hm (Pq r (by lia)) Iy aZ hn (by lia);rw[<-hE] at hR;have⟨ap,e,g⟩:=anu (ct:=ct) hR;have ls:(js a ids pl).length=1+(ids.length+pl.length):=by simp[js];lia
 have s0:∀h:0<(js a ids pl).length,(js a ids pl)[0]=a:=fun _=>rfl
 have sI:∀i (h:i<ids.length) (h2:i+1<(js a ids pl).length),(js a ids pl)[i+1]=ids[i]:=fun i h h2=>by
  simp[js,tC h]
 have sP:∀j (h:j<pl.length) (h2:T.length+1+j<(js a ids pl).length),(js a ids pl)[T.length+1+j]=pl[j]:=fun j h h2=>by
  have:T.length+1+j=(ids.length+j)+1:=by lia
  simp only[js,this,uk];rw[tp (by lia)]
  simp
 have pI:∀i (h:i<ids.length),pos (js a ids pl) ids[i]=GR (1+i):=fun i h=>by
  have:=KQ (js a ids pl) 0 (i+1) (by lia) hn
  rw[sI i h (by lia)] at this;rw[pos_eq,this];congr 1;lia
 have q3:gV a (js a ids pl) 0=GR 0:=by
  have:=KQ (js a ids pl) 0 0 (by lia) hn
  rw[s0] at this;exact this
 have q4:∀j (h:j<pl.length),gV pl[j] (js a ids pl) 0=GR (T.length+1+j):=fun j hj=>by
  have:=KQ (js a ids pl) 0 (T.length+1+j) (by lia) hn
  rw[sP j hj (by lia),yd] at this;exact this
 refine⟨ap,by rw[e,hT _ q3 q4,ls,hl],⟨hW,?_,fun i hi=>?_⟩,fun j hj cP ex z cs ho=>?_⟩
 .have:=g 0 (by lia) _ (by rw[s0];exact hm)
  rw[this];have e2:dY (pos (js a ids pl)) (.cells ydB ydC x 1 (gQ ids W r))=.cells ydB ydC x 1 (dA (pos (js a ids pl)) (gQ ids W r)):=rfl;rw[e2,V2 r 1 (by lia) pI,hl,<-U5]
 .have:=g (i+1) (by lia) _ (by rw[sI i (by lia)];exact hr i (by lia))
  rw[this];rfl
 .have:=g (T.length+1+j) (by lia) _ (by rw[sP j hj (by lia)];exact ho)
  rw[this];rfl
def aoK(hp:pl.Nodup)(h:∀i,i∈pl->n<i):(js 0 (kO n) pl).Nodup:=by
 unfold js;refine uP.2 ⟨fun q=>?_,?_⟩
 .rcases wD.1 q with q | q
  .have:=V4.1 q;lia
  .have:=h 0 q;lia
 .refine List.nodup_append.2 ⟨by rw[U5];exact ybK,hp,fun a ha b hb e=>?_⟩
  have h1:=V4.1 ha;have h2:=h b hb
  lia
def zA.comp(h:zA hp x y sz W T r)(hE:dw (bF tm live)=[0])(hM:T.length<=10000)(hT:∀S,gV 0 S 0=GR 0->gj (pos S) (bF tm live)=tm'):∃ap,bH live ⟨tm,hp,ct,0⟩=⟨tm',ap,1+T.length,0⟩/\zA ap x y sz W T r:=by
 obtain⟨ap,e,g,_⟩:=agP (ct:=ct) (pl:=[]) hE h.m (BQ _) h.l (fun i hi=>by
  rw[V3];rw[BQ] at hi;exact h.r i hi) hM (aoK List.nodup_nil (fun _ q=>by cases q)) (fun _ q=>by cases q) (by simp) (fun S q _=>hT S q)
 exact⟨ap,e,g⟩
def avp{hp0:Hp}{x0:Bool}{b w r0:Nat}(h:zA hp0 x0 y sz W T r0)(hi:T.length=i)(hE:dw (bF tm live)=[a])(hb:i<b)(rS:a≠b)(ha:a=0\/i<a)(hm:ah hp a=GR (.cells ydB ydC x 1 (gP (kO i) W++ .ay b 0 w::yj r .aj)))(hr:∀j,j<i->ah hp (j+1)=ah hp0 (j+1))(hc:ah hp b=GR (.cells ydB ydB y sz cs))(hM:i<=1000)(hT:∀S,gV a S 0=GR 0->gj (pos S) (bF tm live)=tm'):∃ap,bH live ⟨tm,hp,ct,0⟩=⟨tm',ap,1+(i+1),0⟩/\zA ap x y sz (W++[w]) (T++[cs]) r:=by
 have Iy:∀j (h:j<(kO i++[b]).length),(kO i++[b])[j]=if j<i then j+1 else b:=fun j h=>by
  by_cases hj:j<i
  .rw [yC hj,tC (by rw[BQ];exact hj),V3]
  .rw [yq hj,tp (by rw[BQ];omega)];simp
 have li:(kO i++[b]).length=i+1:=by simp[BQ]
 have lW:W.length=i:=by rw[h.l,hi]
 obtain⟨ap,e,g,_⟩:=agP (hp:=hp) (x:=x) (y:=y) (sz:=sz) (r:=r) (T:=T++[cs]) (W:=W++[w]) (ct:=ct) (pl:=[]) (ids:=kO i++[b]) hE (by
  rw[hm];unfold gQ;rw[aeT (by rw[BQ,lW]),xt];rfl) (by rw[li];simp[hi]) (by simp[lW,hi]) (fun j hj=>by
  rw[Iy j hj];rw[li] at hj;by_cases IL:j<i
  .rw [yC IL,hr j IL,h.r j (by omega),DH (by omega),DH (by simp;omega),tC]
  .have ZE:j=i:=by omega
   subst ZE;rw[yq (by omega),hc,DH (by simp;omega),tp (by omega)];simp[hi]) (by simp;omega) (by
  unfold js;rw[List.append_nil];refine uP.2 ⟨fun hx=>?_,?_⟩
  .obtain ⟨j,hj,e⟩:=ybo.1 hx;rw[Iy j hj] at e;rw[li] at hj;split at e<;>omega
  .unfold List.Nodup;rw[List.pairwise_iff_getElem];intro u v hu hv huv;rw[Iy u hu,Iy v hv];rw[li] at hu hv
   split<;>split<;>omega) (fun _ q=>by cases q) (by simp) (fun S q _=>hT S q)
 exact⟨ap,by rw[e];simp[hi],g⟩
end
end
def afZ:∀r:List Nat,aF (dB r)=ydB
 | []=>rfl
 | b::r=>by
  have:=afZ r
  simpa[dB,aF,aX] using this
def aeU:∀r:List Nat,cf (dB r)=ydB
 | []=>rfl
 | b::r=>by
  have:=aeU r
  simpa[dB,cf,dN] using this
def bQ.src{w:AV}{r:List Nat}(h:bQ w r)(hp:Hp):sq hp 1 w=GR (r.length,dB r):=by
 have hl:(dB r).length=r.length:=by simp
 rcases h with ⟨rfl,h⟩ | ⟨e,rfl⟩
 .rw [h] at hl;simp only[yR] at hl;rw[h,<-hl];rfl
 .show (bif yu (dB r).length ((dB r).length*1) then GR ((dB r).length,dB r) else GS)=_
  rw[yg,wL,yx,hl]
section
variable {P:aE}{L:Lib}
def GK(F:List (List Nat)):List AV:=F.map fun r=>.au ydC r.length (dB r)
def af0:∀F:List (List Nat),eN bQ (GK F) F
 | []=>trivial
 | r::F=>⟨.inr ⟨ydC,by
   have hl:(dB r).length=r.length:=by simp
   rw[hl]⟩,af0 F⟩
def af1:∀F:List (List Nat),uI (fun w r=>AV.au ydC w r) (F.map uy) (F.map dB)=GK F
 | []=>rfl
 | a::F=>by
  have:=af1 F
  rw[xb,xb,List.zipWith_cons_cons,this];rfl
def ZF(Ga:Has P L 639 MG){v:AV}{F:List (List Nat)}(hv:bi bQ v F)(hl:F.length<=900)(hr:∀r,r∈F->r.length<=1000000):∃w,ab P L 639 [v] w/\bi bQ w F/\shut w=w:=by
 have key:cG P L [3,6,7,8] Fh (fun d st=>∃i:Nat,i+d=F.length/\((i=0/\st=⟨[(3,.aj),(6,v),(7,aa F.length),(8,aa i)],[],0,0⟩)\/(0<i/\∃hp,st=⟨[(3,.ay 0 0 i),(6,v),(7,aa F.length),(8,aa i)],hp,1+i,0⟩/\zA hp ydC ydC 1 ((F.take i).map uy) ((F.take i).map dB) 0))) (fun ex s'=>∃tm hp ct,s'=⟨tm,hp,ct,0⟩/\ex=.exit 0/\((F=[]/\ak tm 3=.aj/\hp=[])\/(0<F.length/\ak tm 3=.ay 0 0 F.length/\zA hp ydC ydC 1 (F.map uy) (F.map dB) 0))):=by
  apply cI;rintro d st ⟨i,hid,aR⟩;by_cases hi:i<F.length
  .left
   obtain⟨w,rest,my,e0⟩:=hv.bk hi;have sM:=bQ.src my;have my:cB w (dB F[i]):=my;have NT:=hr _ (xA hi);have w4:IntKind.wrap .i64 ((i:Int)+1)=((i+1:Nat):Int):=wrap64 (by omega) (by omega);have mM:(i:Int)<F.length:=by omega
   have hap:=fun (hp:Hp) (ct id:Nat) (hg:ah hp id=GR (.cells ydB ydB ydB 1 []))=>gR (ct:=ct) (by':=4) (new:=dB F[i]) (m:=F[i].length) (n:=0) hg rfl (by omega) (by omega) (by decide) (aeU _)
   simp only[afZ,vh,yd,yN] at hap;rcases aR with ⟨EB,rfl⟩ | ⟨EB,hp,rfl,hM⟩
   .subst EB;simp only[go_sem,ya,yb,xy,yv,yh,yg,Fh,mM,e0,sM,cM,hap,jm,w4];refine⟨_,d-1,rfl,by omega,1,by omega,.inr ⟨by omega,?_⟩⟩;have e1:F.take 1=[F[0]]:=by
     rw[show (1:Nat)=0+1 from rfl,xm hi];rfl
    rw[e1];refine⟨[(1,.cells ydB ydB ydC 1 (dB F[0])),(0,.cells ydB ydC ydC 1 [.ay 1 0 F[0].length])],by simp only[go_sem,ya,yb,aq,aD hv.pu]<;>rfl,⟨rfl,rfl,fun k hk=>?_⟩⟩
    have:k=0:=by simpa using hk
    subst this;rfl
   .have lT:((F.take i).map dB).length=i:=by rw[y5,yU,xo (by omega)]
    have lW:((F.take i).map uy).length=i:=by rw[y5,yU,xo (by omega)]
    have g0:=hM.m;rw[lT] at g0;have gr:=hM.r;rw[lT] at gr;simp only[go_sem,ya,yb,yh,yg,Fh,mM,e0,sM,cM,hap]
    rw[gR (sz:=1) (ex:=ydC) (pu:=ydC) (cs:=gQ (kO i) ((F.take i).map uy) 0) (by rw[eK _ _ (by omega),eK _ _ (by omega),Kh,yq (by omega)];exact g0) (by simp[gQ,gP,BQ];omega) (by omega) (by omega) (by decide) (by simp only[go_sem])]
    simp only[go_sem,ya,w4];refine⟨_,d-1,rfl,by omega,i+1,by omega,.inr ⟨by omega,?_⟩⟩;rw[xm hi,xu,xu]
    refine avp (x:=ydC) (r:=0) hM lT (a:=1+i+1+1+1) (b:=1+i+1) (by simp only[go_sem,ya,mQ hv.pu]<;>rfl) (by omega) (by omega) (by omega) (by rw[jW];simp[gQ]) (fun j hj=>?_) ?_ (by omega) (fun S q=>by simp only[go_sem,ya,q,Kw _ hv.pu]<;>rfl)
    .rw [eK _ _ (by omega),eK _ _ (by omega),eK _ _ (by omega),Kh,yq (by omega),Kh,yq (by omega)]
    .rw [eK _ _ (by omega),eK _ _ (by omega),jW]
  .right
   have:i=F.length:=by omega
   subst this;rcases aR with ⟨EB,rfl⟩ | ⟨EB,hp,rfl,hM⟩
   .simp only [go_sem,ya,Fh,show ¬(F.length:Int)<F.length by omega];exact⟨_,_,rfl,by simp,_,_,_,rfl,rfl,.inl ⟨List.length_eq_zero_iff.1 EB,by simp only[go_sem,ya],rfl⟩⟩
   .simp only [go_sem,ya,Fh,show ¬(F.length:Int)<F.length by omega];rw[List.take_length] at hM;exact⟨_,_,rfl,by simp,_,_,_,rfl,rfl,.inr ⟨EB,by simp only[go_sem,ya],hM⟩⟩
 unfold ab;rw[aB Ga];simp only[go_sem,ya,MG,hv.len];generalize hq:D P L (.loop _ Fh) _=q;obtain⟨ex,st,rfl,tm,hp,ct,rfl,rfl,hh⟩:=bt hq (key F.length) ⟨0,by omega,.inl ⟨rfl,by simp only[go_sem,ya,aq,aD hv.pu]<;>rfl⟩⟩
 rcases hh with ⟨rfl,t3,rfl⟩ | ⟨h0,t3,hM⟩
 .refine ⟨.aj,?_,Kr,rfl⟩;simp only[go_sem,aq,t3]
 .obtain ⟨aZ,e1,Uh⟩:=hM.comp (live:=[3]) (tm:=tm) (tm':=[(3,.ay 0 0 F.length)]) (ct:=ct) (by simp only[go_sem,t3]) (by rw[y5];omega) (fun S q=>by simp only[go_sem,t3,q]);obtain⟨jB,ez⟩:=Uh.Cn (n:=998) (by decide) (fun i h1 h2=>by simp) (by rw[y5];omega);have eT:=af1 F;have hm:=Uh.m;rw[y5] at hm ez;rw[eT] at ez;have hlen:(GK F).length=F.length:=by simp[GK]
  have oK:result aZ (.ay 0 0 F.length)=GR (.au ydC F.length (GK F)):=by
   have e2:zP deep aZ (.ay 0 0 F.length)=freeze deep aZ (.ay 0 0 F.length):=by simp only[zP,hm]
   have e3:freeze (999+1) aZ (.ay 0 0 F.length)=GR (.au ydC F.length (GK F),jB):=by
    rw[Wm,E3,hm,ez];exact jX ydC (by rw[hlen,yg]) (by decide)
   simp only[result,e2];show (match freeze (999+1) aZ (.ay 0 0 F.length) with | some (v',_)=>GR v' | none=>GS)=_
   rw[e3]
  refine⟨.au ydC F.length (GK F),?_,Df ydC (af0 F),rfl⟩;simp only[go_sem,e1,oK]
end
def Ol(C R S:Int):Bool:=decide (C<=3\/8<C)&&(decide (R<=3\/8<R)&&decide (S<=4\/8<S))
def FH(F:List (List Nat)):Bool:=F.all fun r=>decide (r.length<=14)
def zB(F:List (List Nat)):Bool:=decide (F.length<=14)&&FH F
def Xg{F:List (List Nat)}(h:zB F=ydB):F.length<=14/\∀r,r∈F->r.length<=14:=by
 unfold zB FH at h;rw[yf] at h;exact⟨of_decide_eq_true h.1,fun r hr=>of_decide_eq_true (List.all_eq_true.1 h.2 r hr)⟩
structure Rfc(P:aE)(L:Lib):Prop where
 aEs:L.pure 427=GR Bg
 Nk:Has P L 642 R2
 akl:Has P L 644 MI
 DX:Has P L 647 MK
 aEt:Has P L 648 Yz
 Cx:Has P L 678 ML
 aEu:Has P L 680 Sc
section
variable {P:aE}{L:Lib}
def SU(h:Has P L 636 ME){v:AV}{F:List (List Nat)}(hv:bi bQ v F):ab P L 636 [v] (.bool (zB F)):=by
 unfold ab;rw[aB h];unfold zB;by_cases h9:F.length<=14
 .have key:=iX P L [0,3] Hv
   (fun k st=>∃i:Nat,i+k=F.length/\FH (F.drop i)=FH F/\st=⟨[(0,v),(3,aa i)],[],0,0⟩)
   (fun ex st=>∃tm hp ct,st=⟨tm,hp,ct,0⟩/\((ex=.ret/\ak tm 2=.bool ydC/\FH F=ydC)\/(ex=.exit 0/\FH F=ydB))) (by
   rintro k st ⟨i,hk,hf,rfl⟩;by_cases hi:i<F.length
   .obtain ⟨w,rest,hw,e1⟩:=hv.bk hi;have hw:cB w (dB F[i]):=hw;have hlen:(dB F[i]).length=F[i].length:=by simp
    unfold FH at hf;rw[asP hi] at hf;by_cases h1:F[i].length<=14
    .left
     rw[yZ h1,wE] at hf;simp only[go_sem,ya,Hv,hv.len,show (i:Int)<F.length by omega,e1,hw.len,hlen,show ¬(14:Int)<F[i].length by omega,yt];refine⟨_,k-1,rfl,by omega,i+1,by omega,hf,?_⟩;rw[wrap64 (by omega) (by omega)];simp only[go_sem,ya,aq,aD hv.pu]<;>rfl
    .right
     rw[yJ h1,ve] at hf;simp only[go_sem,ya,Hv,hv.len,show (i:Int)<F.length by omega,e1,hw.len,hlen,show (14:Int)<F[i].length by omega];exact⟨_,_,rfl,by simp,_,_,_,rfl,.inl ⟨rfl,by simp only[go_sem],hf.symm⟩⟩
   .right
    simp only[go_sem,ya,Hv,hv.len,show ¬(i:Int)<F.length by omega];refine⟨_,_,rfl,by simp,_,_,_,rfl,.inr ⟨rfl,?_⟩⟩
    rw[<-hf,y9 (by omega)];rfl)
  rw[yZ h9,wE];simp only[go_sem,ya,ME,hv.len,show ¬(14:Int)<F.length by omega,yt];generalize hq:D P L (.loop _ Hv) _=q;obtain⟨ex,st,rfl,tm,hp,ct,rfl,h3⟩:=bt hq (key F.length) ⟨0,by omega,rfl,by simp only[go_sem,ya,aq,aD hv.pu]<;>rfl⟩
  rcases h3 with ⟨rfl,h3,h4⟩ | ⟨rfl,h4⟩
  .rw [h4];simp only[go_sem,h3]
  .rw [h4];simp only[go_sem,aq]
 .rw [yJ h9,ve];simp only[go_sem,ya,ME,hv.len,show (14:Int)<F.length by omega]
def akm(h:Has P L 634 R1)(C R S:Int):ab P L 634 [.agg [aa C,aa R,aa S]] (.bool (Ol C R S)):=by
 unfold ab;rw[aB h];unfold Ol;by_cases c1:C<=3<;>by_cases c2:8<C<;>by_cases r1:R<=3<;>by_cases r2:8<R<;>by_cases s1:S<=4<;>by_cases s2:8<S<;>simp only[go_sem,ya,R1,fN,aP,yd,ye,yk,c1,c2,r1,r2,s1,s2,yp,yt,wE,ve,or_true,true_or,or_self]
def Nl(h:Has P L 678 ML)(n lo hi:Int):ab P L 678 [aa n,aa lo,aa hi] (aa (iQ n lo hi)):=by
 unfold ab;rw[aB h];unfold iQ;by_cases c1:n<lo<;>by_cases c2:hi<n<;>simp only[go_sem,ya,ML,c1,c2,yp,yt,or_self,or_true,true_or,xN,xv]
def X5(Nk:Has P L 642 R2)(DX:Has P L 647 MK)(Cx:Has P L 678 ML)(C R S:Int):ab P L 642 [.agg [aa C,aa R,aa S]] (aa (mz C R S)):=by
 have e1:=Nl Cx C 1 8;have e2:=Nl Cx R 1 8;have e3:=Nl Cx S 2 8;have e4:=SP DX (jn ydB [iQ C 1 8,iQ R 1 8,iQ S 2 8]) (by simp);simp only[yH,yR,yd,yb,xb,wO] at e4;unfold ab at e1 e2 e3 e4 ⊢;rw[aB Nk];unfold mz;simp only[go_sem,ya,yb,yv,yh,yg,R2,fN,aP,yd,ye,yk,e1,e2,e3,e4]
def aEv(h:Rfc P L)(C R S:Int):ab P L 642 [.agg [aa C,aa R,aa S]] (aa (mz C R S)):=X5 h.Nk h.DX h.Cx C R S
end
section
variable {v:AV}{F:List (List Nat)}
section
variable {P:aE}{L:Lib}
def aEw(h:L.pure 427=GR Bg)(b:Nat):ab P L 427 [.an .f32 b] (.bool (gX b)):=by
 unfold ab;simp only[bZ,h,Bg]
def azo(h:Rfc P L){w:AV}{r:List Nat}{m i:Nat}(hv:bi bQ v F)(hi:i<F.length)(hr:F[i]=r)(hl:r.length<=1000000):
  cG P L [0,2,7,8] Hz (fun d st=>∃k,k+d=r.length/\sY (r.drop k)=sY r/\st=⟨[(0,v),(2,aa m),(7,aa i),(8,aa k)],[],0,0⟩) (fun ex s'=>∃tm ct,s'=⟨tm,[],ct,0⟩/\((ex=.ret/\ak tm 6=aa 1/\sY r=ydB)\/(ex=.exit 2/\sY r=ydC/\bF tm [0,2,7]=[(0,v),(2,aa m),(7,aa i)]))):=by
 apply cI;rintro d st ⟨k,hk,hf,rfl⟩;obtain⟨x,rest,hx,e0⟩:=hv.bk hi;rw[hr] at hx;have hx:cB x (dB r):=hx;have hlen:(dB r).length=r.length:=by simp
 by_cases Bn:k<r.length
 .have e1:=hx.bk (i:=k) (by simpa using Bn);rw[KC Bn] at e1;have e2:=aEw (P:=P) h.aEs r[k];unfold sY at hf;rw[G7 Bn] at hf;unfold ab at e2
  cases hz:gX r[k] with
  | true=>
   left
   rw[hz] at e2 hf;simp only[go_sem,ya,Hz,e0,hx.len,hlen,show (k:Int)<r.length by omega,e1,zN,e2,yL];refine⟨_,d-1,rfl,by omega,k+1,by omega,hf,?_⟩;rw[wrap64 (by omega) (by omega)];simp only[go_sem,ya,aq,aD hv.pu]<;>rfl
  | false=>
   right
   rw[hz] at e2 hf;simp only[go_sem,ya,Hz,e0,hx.len,hlen,show (k:Int)<r.length by omega,e1,zN,e2,yM];exact⟨_,_,rfl,by simp,_,_,rfl,.inl ⟨rfl,by simp only[go_sem],hf.symm⟩⟩
 .right
  simp only[go_sem,ya,Hz,e0,hx.len,hlen,show ¬(k:Int)<r.length by omega];refine⟨_,_,rfl,by simp,_,_,rfl,.inr ⟨rfl,?_,by simp only[go_sem,ya]⟩⟩;rw[<-hf,y9 (by omega)];rfl
def aEx(h:Rfc P L){n m:Nat}(hv:bi bQ v F)(hl:F.length<=1000000)(hr:∀r,r∈F->r.length<=1000000):ab P L 680 [v,aa n,aa m] (aa (gL n m F)):=by
 unfold ab;rw[aB h.aEu];unfold gL;by_cases hn:F.length=n
 .rw [yC hn];have key:=iX P L [0,2,7] HA
   (fun d st=>∃i:Nat,i+d=F.length/\bP ((F.drop i).map (nV m))=bP (F.map (nV m))/\st=⟨[(0,v),(2,aa m),(7,aa i)],[],0,0⟩)
   (fun ex st=>∃tm ct,st=⟨tm,[],ct,0⟩/\((ex=.ret/\ak tm 6=aa (bP (F.map (nV m))))\/(ex=.exit 0/\bP (F.map (nV m))=0))) (by
   rintro d st ⟨i,hd,hf,rfl⟩;by_cases hi:i<F.length
   .obtain ⟨x,rest,hx,e0⟩:=hv.bk hi;have NT:=hr _ (xA hi);have Na:=azo h (v:=v) (w:=v) (m:=m) hv hi rfl NT;have hx:cB x (dB F[i]):=hx;have hlen:(dB F[i]).length=F[i].length:=by simp
    rw[Uz hi] at hf;by_cases h1:F[i].length=m
    .have Ge:(F[i].length:Int)=m:=by omega
     simp only[go_sem,ya,HA,hv.len,show (i:Int)<F.length by omega,e0,hx.len,hlen,Ge,yp,yL];generalize hq:D P L (.loop _ Hz) _=q;obtain⟨ex,st,rfl,tm,ct,rfl,hh⟩:=bt hq (Na F[i].length) ⟨0,by omega,rfl,by simp only[go_sem,ya,aq,aD hv.pu]<;>rfl⟩
     rcases hh with ⟨rfl,g1,g2⟩ | ⟨rfl,g1,g2⟩
     .right
      have hE:nV m F[i]=1:=by unfold nV;rw[yC h1,g2];rfl
      rw[hE,yq (by decide)] at hf;simp only[go_sem];exact⟨_,_,rfl,by simp,_,_,rfl,.inl ⟨rfl,by rw[g1,hf]⟩⟩
     .left
      have hE:nV m F[i]=0:=by unfold nV;rw[yC h1,g1];rfl
      rw[hE,yC rfl] at hf;have cL:∀ct,bH [0,2,7] ⟨tm,[],ct,0⟩=⟨[(0,v),(2,aa m),(7,aa i)],[],0,0⟩:=fun ct=>by
       rw[OO (by rw[g2];simp only[go_sem,hv.pu]),g2]
      simp only[go_sem,ya,cL];refine⟨_,d-1,rfl,by omega,i+1,by omega,hf,?_⟩;rw[wrap64 (by omega) (by omega)];simp only[go_sem,ya,aq,aD hv.pu]<;>rfl
    .right
     have hE:nV m F[i]=2:=by unfold nV;rw[yq h1];rfl
     rw[hE,yq (by decide)] at hf;have Ge:¬(F[i].length:Int)=m:=by omega
     simp only[go_sem,ya,HA,hv.len,show (i:Int)<F.length by omega,e0,hx.len,hlen,Ge,yt,yM];exact⟨_,_,rfl,by simp,_,_,rfl,.inl ⟨rfl,by rw[<-hf];simp only[go_sem]⟩⟩
   .right
    simp only[go_sem,ya,HA,hv.len,show ¬(i:Int)<F.length by omega];refine⟨_,_,rfl,by simp,_,_,rfl,.inr ⟨rfl,?_⟩⟩
    rw[<-hf,y9 (by omega)];rfl)
  have ef:(F.length:Int)=n:=by omega
  simp only[go_sem,ya,Sc,hv.len,ef,yp,yL];generalize hq:D P L (.loop _ HA) _=q;obtain⟨ex,st,rfl,tm,ct,rfl,hh⟩:=bt hq (key F.length) ⟨0,by omega,rfl,by simp only[go_sem,ya,aq,aD hv.pu]<;>rfl⟩
  rcases hh with ⟨rfl,h2⟩ | ⟨rfl,h2⟩
  .simp only [go_sem,h2]
  .rw [h2];simp only[go_sem,aq]
 .rw [yq hn];have ef:¬(F.length:Int)=n:=by omega
  simp only[go_sem,ya,Sc,hv.len,ef,yt,yM]
def SV(h:Rfc P L){C R S:Nat}(hC:C<=8)(hR:R<=8)(hS:S<=8)(hv:bi bQ v F)(hl:F.length<=1000000)(hr:∀r,r∈F->r.length<=1000000):ab P L 648 [.agg [aa C,aa R,aa S],v] (aa (gL (R*S) (C*S) F)):=by
 have e1:=aEx h (n:=R*S) (m:=C*S) hv hl hr;have b1:R*S<=64:=y8 hR hS;have b2:C*S<=64:=y8 hC hS;have m1:(R:Int)*(S:Int)=((R*S:Nat):Int):=by rw[xD]
 have m2:(C:Int)*(S:Int)=((C*S:Nat):Int):=by rw[xD]
 unfold ab at e1 ⊢;rw[aB h.aEt]
 simp only[go_sem,ya,Yz,fN,aP,yd,ye,yk,hv.ai,m1,m2,wrap64 (n:=((R*S:Nat):Int)) (by omega) (by omega),wrap64 (n:=((C*S:Nat):Int)) (by omega) (by omega),e1]
def aEy(h:Rfc P L){C R S:Int}(hv:bi bQ v F)(hl:F.length<=1000000)(hr:∀r,r∈F->r.length<=1000000):ab P L 644 [.agg [aa C,aa R,aa S],v] (aa (Ug C R S F)):=by
 have e1:=aEv h C R S;have fz:=Aa;unfold ab;rw[aB h.akl];unfold Ug;by_cases h0:mz C R S=0
 .rw [yC h0];obtain⟨⟨a1,a2⟩,⟨b1,b2⟩,c1,c2⟩:=KO h0;have e2:=SV h (C:=C.toNat) (R:=R.toNat) (S:=S.toNat) (by omega) (by omega) (by omega) hv hl hr;rw[xW (by omega),xW (by omega),xW (by omega)] at e2;rw[h0] at e1;unfold ab at e1 e2;simp only[go_sem,ya,yb,MI,fN,ye,sD,fz,e1,hv.ai,e2]
 .rw [yq h0];unfold ab at e1;simp only[go_sem,ya,yb,MI,fN,ye,sD,fz,e1,h0]
end
end
def Me(ids W:List Nat):gQ ids W 0=gP ids W:=by unfold gQ;simp
def aeV{b n:Nat}{H:Hp}{j:Nat}(h:iY b n H)(hj:b<=j):cS H j=H:=by
 induction H with
 | nil=>rfl
 | cons p r ih=>
  obtain⟨i,o⟩:=p
  have:=h.1
  rw[Po _ _ (by omega),ih h.2.2]
def aqu(s:Rat)(l:List Rat)(x:Rat):je s (l++[x])=je s l+x:=by
 induction l generalizing s with
 | nil=>rfl
 | cons y l ih=>exact ih (s+y)
def cX(p:Nat->Nat->Rat)(S t:Nat):Rat:=akk S (t%S)*p (t%S) (t/S)
def cY(p:Nat->Nat->Rat)(S t:Nat):Rat:=akk S (t/S)*p (t%S) (t/S)
section
variable {P:aE}{L:Lib}
def WE(h:Fy P L){v:AV}{F:List (List Nat)}{n m c r:Nat}(hv:bi bQ v F)(hF:jI F n m)(hc:c<m)(hr:r<n):∃w rest bits,jq 1 r v=GR (.bC (w::rest))/\(∃Rh,jq 1 c w=GR (.bC (.an .f32 bits::Rh)))/\ab P L 429 [.an .f32 bits] (.str (RT (oZ F c r))):=by
 obtain⟨bO,iN,e,f1,f2⟩:=hF.at hr hc;obtain⟨w,rest,hw,e0⟩:=hv.bk bO;have hw:cB w (dB F[r]):=hw;have e1:=hw.bk (i:=c) (by simpa using iN);rw[KC iN] at e1;obtain⟨s,M,hb,eq⟩:=Rg f2 f1
 have:=aDF h hb
 rw[<-eq,<-e] at this;exact⟨w,rest,_,e0,⟨_,e1⟩,this⟩
end
abbrev akn:Ty:=.cat (.int .i64) (.cat (.int .i64) (.cat (.int .i64) .nil))
abbrev Iz:Ty:=.sl (.an .f32)
def asR{l:List AV}(h:mb akn l):∃c r s:Int,l=[aa c,aa r,aa s]:=by
 obtain⟨_,_,rfl,⟨c,rfl,_⟩,_,_,rfl,⟨r,rfl,_⟩,_,_,rfl,⟨s,rfl,_⟩,rfl⟩:=h;exact⟨c,r,s,rfl⟩
def azp{b:Nat}(h:(Go.Lit.float yaX b).wf=ydB):b<4294967296:=by
 simp only[Go.Lit.wf,xj] at h;exact h
def adM:∀{ps:List (List AV)},(∀p,p∈ps->mb (.an .f32) p)->∃l:List Nat,l.length=ps.length/\ps.flatten=dB l/\∀b,b∈l->b<4294967296
 | [],_=>⟨[],rfl,rfl,fun _ h=>by cases h⟩
 | p::ps,h=>by
  obtain⟨b,rfl,hb⟩:=h p xJ;obtain⟨l,h1,h2,h3⟩:=adM (ps:=ps) (fun q hq=>h q (xr _ hq));refine⟨b::l,by simp[h1],by simp[h2,dB],fun q hq=>?_⟩;rcases we.1 hq with rfl | hq
  .exact azp hb
  .exact h3 q hq
def asS{l:List AV}(h:mb Iz l):∃(v:AV) (m:List Nat),l=[v]/\bQ v m/\∀b,b∈m->b<4294967296:=by
 rcases h with rfl | ⟨x,ps,rfl,h⟩
 .exact ⟨_,[],rfl,AG,fun _ h=>by cases h⟩
 .obtain ⟨m,h1,h2,h3⟩:=adM h;refine⟨_,m,rfl,?_,h3⟩;rw[h2,<-h1]
  have:=KL x (dB m)
  rwa[show (dB m).length=m.length by simp[dB]] at this
def aeW:∀{ps:List (List AV)},(∀p,p∈ps->mb Iz p)->∃M:List (List Nat),M.length=ps.length/\eN bQ ps.flatten M/\∀r,r∈M->∀b,b∈r->b<4294967296
 | [],_=>⟨[],rfl,trivial,fun _ h=>by cases h⟩
 | p::ps,h=>by
  obtain⟨v,m,rfl,hv,hm⟩:=asS (h p xJ);obtain⟨M,h1,h2,h3⟩:=aeW (ps:=ps) (fun q hq=>h q (xr _ hq))
  exact⟨m::M,by simp[h1],⟨hv,h2⟩,fun q hq=>by
   rcases we.1 hq with rfl | hq
   .exact hm
   .exact h3 q hq⟩
def WG{l:List AV}(h:mb (.sl Iz) l):∃(v:AV) (M:List (List Nat)),l=[v]/\bi bQ v M/\∀r,r∈M->∀b,b∈r->b<4294967296:=by
 rcases h with rfl | ⟨x,ps,rfl,h⟩
 .exact ⟨_,[],rfl,Kr,fun _ h=>by cases h⟩
 .obtain ⟨M,h1,h2,h3⟩:=aeW h;refine⟨_,M,rfl,?_,h3⟩;rw[<-h1];exact Df x h2
def lsT(p:Nat->Nat->Rat)(e:Rat)(S t:Nat):Rat:=pnQ (p (t%S) (t/S)-e)
def bG(C R S:Int):Obj:=.cells ydB ydB ydB 3 [aa C,aa R,aa S]
def z4M:List AV:=[.int .i64 0,.aj,.int .i64 0,.aj]
def DY(E:Env)(hp:Hp)(B:Nat)(s:List Nat):St:=⟨gj (cQ B s) E,ep hp (cQ B s) s B (fZ B (cQ B s) hp),B+s.length,B⟩
def EW(lv:List Nat)(tm:Env)(hp:Hp)(ct B:Nat):bH lv ⟨tm,hp,ct,B⟩=DY (bF tm lv) hp B (qu B hp 100000 (dw (bF tm lv)++cE B hp) []):=rfl
def aeX{B:Nat}{hp:Hp}{seen:List Nat}:∀{r:List Nat} {k:Nat},(∀x,x∈r->x<B)->qu B hp (r.length+1+k) r seen=seen
 | [],k,_=>by rw[yR,yd,yay];exact afW _ _ _ _
 | x::r,k,h=>by
  rw[yH,show r.length+1+1+k=(r.length+1+k)+1 by omega,ain _ _ _ _ (h x (by simp))];exact aeX fun y hy=>h y (by simp[hy])
def Cy(v:AV)(l:List (Int×Int)):Prop:=iP 2 v (l.map fun p=>[aa p.1,aa p.2])
section
variable {P:aE}{L:Lib}
def GJ(C R S m:Int)(v w q:AV)(pu:Bool):Hp:=[(6,.cells ydB pu ydB 1 [q]),(5,.cells ydC ydB ydB 1 [aa 0,aa 0]),(4,.cells ydC ydB ydB 1 [aa 0,aa 0]),(3,.cells ydB ydB ydB 1 [aa m]),(2,.cells ydB ydB ydB 1 [w]),(1,.cells ydB ydB ydB 1 [v]),(0,.cells ydB ydB ydB 3 [aa C,aa R,aa S])]
end
end VE
end
section
set_option maxHeartbeats 4000000
namespace VE
open Go (IntKind)
section
variable {v:AV}{r:List Nat}
def Om(b:Nat):Bool:=tZ.order b 0==GR .gt
def QB(b:Nat):binOp .gtr (.an .f32 b) (.an .f32 0)=GR (.bool (Om b)):=rfl
def BE(r:List Nat):Bool:=r.any fun b=> !Om b
def lz(F:List (List Nat)):Bool:=F.any BE
def pP(q p:Int×Int):Bool:=decide (q.2<p.2)||(decide (p.2=q.2)&&decide (q.1<p.1))
def BF(W H:Nat)(B:List (Int×Int))(i:Nat):Int:=bP [iQ (B.getD i (0,0)).1 0 (W-1),iQ (B.getD i (0,0)).2 0 (H-1),if (decide (0<i)&& !pP (B.getD (i-1) (0,0)) (B.getD i (0,0)))=ydB then 11 else 0]
def Ab(W H:Nat)(B:List (Int×Int)):Int:=bP ((wq B.length).map (BF W H B))
def As(W H:Nat)(Dk F:List (List Nat)):Int:=bP [gL H W Dk,gL H W F]
def pc(F:List (List Nat))(n:Nat):Int:=bP [if lz F=ydB then 6 else 0,if 256<n then 5 else 0]
def BG(W H:Nat)(Dk F:List (List Nat))(B:List (Int×Int)):Int:=if As W H Dk F=0 then (if pc F B.length=0 then Ab W H B else pc F B.length) else As W H Dk F
def nd(C R S:Int)(Dk F:List (List Nat))(B:List (Int×Int)):Int:=if mz C R S=0 then BG (C.toNat*S.toNat) (R.toNat*S.toNat) Dk F B else mz C R S
structure Cmr(P:aE)(L:Lib):Prop extends Frc P L where
 aEz:Has P L 645 R4
 di:Has P L 679 MM
 aEA:Has P L 722 YG
 aEB:Has P L 723 YH
 aEC:Has P L 744 Sj
 aED:Has P L 745 Sk
def bg(d f b:AV):Obj:=.cells ydB ydB ydB 3 [d,f,b]
def Ui{d f b:AV}(h1:aX d=ydB/\dN d=ydB)(h2:aX f=ydB/\dN f=ydB)(h3:aX b=ydB/\dN b=ydB)(ct:Nat):mY ct 3 [d,f,b]=GR (.ptr ct 0,bg d f b):=by
 rw[aT (n:=3) rfl (by simp only[cf,h1.2,h2.2,h3.2];rfl)]
 simp only[aF,h1.1,h2.1,h3.1,bg];rfl
def lU(bv:AV)(n i:Nat):Env:=[(2,.ptr 0 0),(3,.ptr 1 0),(42,bv),(43,aa n),(44,aa i)]
def di(C R S:Int)(d f bv:AV):Hp:=[(1,bg d f bv),(0,bG C R S)]
section
variable {P:aE}{L:Lib}
def aEE(h:Has P L 744 Sj)(b:Nat):ab P L 744 [.an .f32 b] (.bool (!Om b)):=by
 unfold ab;rw[aB h];simp only[go_sem,ya,Sj,QB]
def aBp(SQ:Has P L 741 MP)(SR:Has P L 752 MQ)(hv:bQ v r)(hl:r.length<=1000000){g:Nat}{p:Nat->Bool}(hg:∀x,ab P L g [.an .f32 x] (.bool (p x))):ab P L 741 [v,.fn (.f g) [] []] (.bool (r.any p)):=by
 obtain⟨n,e1,e2⟩:=akj SR hv hl (g:=g) (p:=p) hg;have hv:cB v (dB r):=hv;unfold ab at e1 ⊢;rw[aB SQ];simp only[go_sem,ya,MP,hv.ai,e1,e2]
def aEF(h:Cmr P L)(hv:bQ v r)(hl:r.length<=1000000):ab P L 722 [v] (.bool (BE r)):=by
 have e:=aBp h.SQ h.SR hv hl (g:=744) (fun x=>aEE h.aEC x);have hv:cB v (dB r):=hv;unfold ab at e ⊢;rw[aB h.aEA];simp only[go_sem,ya,YG,hv.ai,e,BE]
def aEG(h:Has P L 745 Sk){M:List (List Nat)}(hv:bi bQ v M)(hl:M.length<=1000000){g:Nat}{p:List Nat->Bool}(hg:∀w a,a∈M->bQ w a->ab P L g [w] (.bool (p a))):∃n:Int,ab P L 745 [v,.fn (.f g) [] []] (aa n)/\decide (0<=n)=M.any p:=by
 have key:=iX P L [0,1,7,8] HE
  (fun k s=>∃i:Nat,i+k=M.length/\(M.drop i).any p=M.any p/\s=⟨[(0,v),(1,.fn (.f g) [] []),(7,aa M.length),(8,aa i)],[],0,0⟩)
  (fun ex s=>∃tm hp ct,s=⟨tm,hp,ct,0⟩/\((∃n:Int,ex=.ret/\ak tm 4=aa n/\0<=n/\M.any p=ydB)\/(ex=.exit 0/\M.any p=ydC))) ?_
 .unfold ab;rw[aB h];simp only[go_sem,ya,Sk,hv.len];generalize hq:D P L (.loop _ HE) _=q;obtain⟨ex,s,rfl,tm,hp,ct,rfl,h2⟩:=bt hq (key M.length) ⟨0,by omega,rfl,by simp only[go_sem,ya,aq,aD hv.pu]<;>rfl⟩
  rcases h2 with ⟨n,rfl,h2,h3,h4⟩ | ⟨rfl,h2⟩
  .exact ⟨n,by simp only[go_sem,h2]<;>rfl,by rw[h4];simpa using h3⟩
  .exact ⟨-1,by simp only[go_sem,aq]<;>rfl,by rw[h2];decide⟩
 .rintro k s ⟨i,hk,hf,rfl⟩;by_cases hi:i<M.length
  .have b6:(i:Int)<M.length:=by omega
   obtain⟨r,rest,hr,e1⟩:=hv.bk hi;have e2:=hg r _ (xA hi) hr;unfold ab at e2;rw[G7 hi] at hf
   cases eG:p M[i] with
   | false=>
    left
    rw[eG] at e2;simp only[go_sem,ya,HE,b6,e1,hr.ai,e2];rw[eG,vI] at hf;refine⟨_,k-1,rfl,by omega,i+1,by omega,hf,?_⟩;rw[wrap64 (by omega) (by omega)];simp only[go_sem,ya,aq,aD hv.pu]<;>rfl
   | true=>
    right
    rw[eG] at e2;simp only[go_sem,ya,HE,b6,e1,hr.ai,e2];refine⟨_,_,rfl,by simp,_,_,_,rfl,.inl ⟨i,rfl,?_,by omega,?_⟩⟩
    .simp only [go_sem]
    .rw [<-hf,eG,uH]
  .right
   simp only[go_sem,ya,HE,show ¬(i:Int)<M.length by omega];refine⟨_,_,rfl,by simp,_,_,_,rfl,.inr ⟨rfl,?_⟩⟩;rw[<-hf,y9 (by omega)];rfl
def aEH(h:Cmr P L){F:List (List Nat)}(hv:bi bQ v F)(hl:F.length<=1000000)(hr:∀r,r∈F->r.length<=1000000):ab P L 723 [v,.fn (.f 722) [] []] (.bool (lz F)):=by
 obtain⟨n,e1,e2⟩:=aEG h.aED hv hl (g:=722) (p:=BE) (fun w a ha hw=>aEF h hw (hr a ha));have e2:decide (0<=n)=lz F:=e2;unfold ab at e1 ⊢;rw[aB h.aEB];simp only[go_sem,ya,YH,hv.ai,e1,e2]
def PN{α:Type}{l:List α}{i:Nat}{d:α}(h:i<l.length):l.getD i d=l[i]:=by simp[yV,h]
def azq(h:Cmr P L){C R S:Nat}{d f bv:AV}{B:List (Int×Int)}(hb:Cy bv B)(hl:B.length<=1000000)(hC:C<=8)(hR:R<=8)(hS:S<=8):
  cG P L [2,3,42,43,44] kZ (fun n st=>∃i,i+n=B.length/\bP (((wq B.length).drop i).map (BF (C*S) (R*S) B))=Ab (C*S) (R*S) B/\st=⟨lU bv B.length i,di C R S d f bv,2,0⟩) (fun ex s'=>∃tm hp ct,s'=⟨tm,hp,ct,0⟩/\((ex=.ret/\ak tm 4=aa (Ab (C*S) (R*S) B))\/(ex=.exit 0/\Ab (C*S) (R*S) B=0))):=by
 apply cI;rintro n st ⟨i,cA,hf,rfl⟩;have aS:iP 2 bv (B.map fun p=>[aa p.1,aa p.2]):=hb;have At:C*S<=64:=y8 hC hS;have rV:R*S<=64:=y8 hR hS;have m0:(C:Int)*(S:Int)=((C*S:Nat):Int):=by rw[xD]
 have m1:(R:Int)*(S:Int)=((R*S:Nat):Int):=by rw[xD]
 have w0:IntKind.wrap .i64 ((C*S:Nat):Int)=((C*S:Nat):Int):=wrap64 (by omega) (by omega);have w1:IntKind.wrap .i64 ((R*S:Nat):Int)=((R*S:Nat):Int):=wrap64 (by omega) (by omega);have v0:IntKind.wrap .i64 (((C*S:Nat):Int)-1)=((C*S:Nat):Int)-1:=wrap64 (by omega) (by omega);have v1:IntKind.wrap .i64 (((R*S:Nat):Int)-1)=((R*S:Nat):Int)-1:=wrap64 (by omega) (by omega);have wi:IntKind.wrap .i64 ((i:Int)+1)=((i+1:Nat):Int):=wrap64 (by omega) (by omega);by_cases hi:i<B.length
 .have b6:(i:Int)<B.length:=by omega
  obtain⟨rest,e0⟩:=aS.bk (i:=i) (by simpa using hi);rw[vm] at e0;have hj:i-1<B.length:=by omega
  obtain⟨aBq,ir⟩:=aS.bk (i:=i-1) (by simpa using hj);rw[vm] at ir;rw[Uz (by simpa using hi),yal] at hf;have hE:BF (C*S) (R*S) B i=bP [iQ B[i].1 0 (((C*S:Nat):Int)-1),iQ B[i].2 0 (((R*S:Nat):Int)-1),if (decide (0<i)&& !pP B[i-1] B[i])=ydB then 11 else 0]:=by
   unfold BF;rw[PN hi,PN hj]
  have nW:IntKind.wrap .i64 ((i:Int)-1)=(i:Int)-1:=wrap64 (by omega) (by omega);have jS:(if (0:Int)<(i:Int)-1 then (i:Int)-1 else 0)=((i-1:Nat):Int):=by
   split<;>omega
  generalize B[i]=p at*
  generalize B[i-1]=q at*
  obtain⟨p1,p2⟩:=p;obtain⟨q1,q2⟩:=q;have db:bY (aa i)=GR i:=rfl;have iR:bY (aa (i-1:Nat))=GR (i-1):=rfl;have g1:=Nc (P:=P) (L:=L) h.Nh h.pX p1 0 (((C*S:Nat):Int)-1);have g2:=Nc (P:=P) (L:=L) h.Nh h.pX p2 0 (((R*S:Nat):Int)-1);have g3:=DW (P:=P) (L:=L) h.pX (decide (0<i)&& !pP (q1,q2) (p1,p2)) 11;have g4:=Nb (P:=P) (L:=L) h.Ni (jn ydB [iQ p1 0 (((C*S:Nat):Int)-1),iQ p2 0 (((R*S:Nat):Int)-1),if (decide (0<i)&& !pP (q1,q2) (p1,p2))=ydB then 11 else 0]) (by simp);simp only[yH,yR,yd,yb,xb,wO] at g4;simp only at hE e0 ir;rw[<-hE] at g4;have fa:∀(hp:Hp) (n:Nat) (a b c:Int),freeze (n+20) hp (.au ydB 3 [aa a,aa b,aa c])=GR (.au ydB 3 [aa a,aa b,aa c],hp):=fun hp n a b c=>(jn ydB [a,b,c]).ai (n+19)
  have fT:∀(hp:Hp) (a b:AV) (r:List AV),gk hp 2 ydB (.bC (a::b::r))=GR (.agg [a,b]):=fun _ _ _ _=>rfl
  have mA:∀id,sF 2 1 0 (.ptr id 0)=GR (.ptr id 0):=fun _=>rfl
  have mB:∀id,sF 2 1 1 (.ptr id 0)=GR (.ptr id 1):=fun _=>rfl
  simp only[yI,yN] at e0 ir;unfold iQ at g4;unfold ab at g1 g2 g3 g4;generalize BF (C*S) (R*S) B i=be at*
  have go:∀z:Bool,(decide (0<i)&& !pP (q1,q2) (p1,p2))=z->(∃y:Int,ab P L 692 [.bool z,aa 11] (aa y)/\ab P L 677 [.au ydB 3 [aa (if p1<0\/((C*S:Nat):Int)-1<p1 then 3 else 0),aa (if p2<0\/((R*S:Nat):Int)-1<p2 then 3 else 0),aa y]] (aa be)):=fun z hz=>by
   rw[hz] at g3 g4;exact⟨_,g3,g4⟩
  have ED:(be=0/\bP (((wq B.length).drop (i+1)).map (BF (C*S) (R*S) B))=Ab (C*S) (R*S) B)\/(be≠0/\be=Ab (C*S) (R*S) B):=by
   by_cases hz:be=0
   .rw [yC hz] at hf;exact .inl ⟨hz,hf⟩
   .rw [yq hz] at hf;exact .inr ⟨hz,hf⟩
  clear g3 g4 hf;generalize (if p1<0\/((C*S:Nat):Int)-1<p1 then (3:Int) else 0)=y1 at*
  generalize (if p2<0\/((R*S:Nat):Int)-1<p2 then (3:Int) else 0)=y2 at*
  rcases (show (0<i)\/i=0 by omega) with h0 | h0
  .have eV:(i:Int)>0:=by omega
   rcases (show (q2<p2)\/(¬q2<p2/\p2=q2/\q1<p1)\/(¬q2<p2/\p2=q2/\¬q1<p1)\/(¬q2<p2/\p2≠q2) by omega) with hu | ⟨hu,rfl,hw⟩ | ⟨hu,rfl,hw⟩ | ⟨hu,he⟩
   .obtain ⟨y3,g3,g4⟩:=go ydC (by simp[pP,hu,h0]);unfold ab at g3 g4;rcases ED with ⟨rfl,hn⟩ | ⟨bL,hn⟩
    .left
     simp only[go_sem,ya,yb,yv,yh,yg,kZ,lU,di,bg,bG,b6,db,iR,e0,ir,fT,jf,jy,mA,mB,aP,yd,ye,yk,fB,fL,nW,vv,jS,yp,yL,m0,m1,w0,w1,v0,v1,g1,g2,g3,cM,g4,wi,eV,hu];exact⟨_,n-1,rfl,by omega,i+1,by omega,hn,by simp only[go_sem,ya,yb,aq,aD aS.pu]<;>rfl⟩
    .right
     simp only[go_sem,ya,yb,yv,yh,yg,kZ,lU,di,bg,bG,b6,db,iR,e0,ir,fT,jf,jy,mA,mB,aP,yd,ye,yk,fB,fL,nW,vv,jS,yp,yt,yL,yM,m0,m1,w0,w1,v0,v1,g1,g2,g3,cM,g4,eV,hu,bL];exact⟨_,_,rfl,by simp,_,_,_,rfl,.inl ⟨rfl,by simp only[go_sem,hn]⟩⟩
   .obtain ⟨y3,g3,g4⟩:=go ydC (by simp[pP,hu,hw,h0]);unfold ab at g3 g4;rcases ED with ⟨rfl,hn⟩ | ⟨bL,hn⟩
    .left
     simp only[go_sem,ya,yb,yv,yh,yg,kZ,lU,di,bg,bG,b6,db,iR,e0,ir,fT,jf,jy,mA,mB,aP,yd,ye,yk,fB,fL,nW,vv,jS,yp,yt,yL,m0,m1,w0,w1,v0,v1,g1,g2,g3,cM,g4,wi,eV,hu,hw];exact⟨_,n-1,rfl,by omega,i+1,by omega,hn,by simp only[go_sem,ya,yb,aq,aD aS.pu]<;>rfl⟩
    .right
     simp only[go_sem,ya,yb,yv,yh,yg,kZ,lU,di,bg,bG,b6,db,iR,e0,ir,fT,jf,jy,mA,mB,aP,yd,ye,yk,fB,fL,nW,vv,jS,yp,yt,yL,yM,m0,m1,w0,w1,v0,v1,g1,g2,g3,cM,g4,eV,hu,hw,bL];exact⟨_,_,rfl,by simp,_,_,_,rfl,.inl ⟨rfl,by simp only[go_sem,hn]⟩⟩
   .obtain ⟨y3,g3,g4⟩:=go ydB (by simp[pP,hu,hw,h0]);unfold ab at g3 g4;rcases ED with ⟨rfl,hn⟩ | ⟨bL,hn⟩
    .left
     simp only[go_sem,ya,yb,yv,yh,yg,kZ,lU,di,bg,bG,b6,db,iR,e0,ir,fT,jf,jy,mA,mB,aP,yd,ye,yk,fB,fL,nW,vv,jS,yp,yt,yL,yM,m0,m1,w0,w1,v0,v1,g1,g2,g3,cM,g4,wi,eV,hu,hw];exact⟨_,n-1,rfl,by omega,i+1,by omega,hn,by simp only[go_sem,ya,yb,aq,aD aS.pu]<;>rfl⟩
    .right
     simp only[go_sem,ya,yb,yv,yh,yg,kZ,lU,di,bg,bG,b6,db,iR,e0,ir,fT,jf,jy,mA,mB,aP,yd,ye,yk,fB,fL,nW,vv,jS,yp,yt,yM,m0,m1,w0,w1,v0,v1,g1,g2,g3,cM,g4,eV,hu,hw,bL];exact⟨_,_,rfl,by simp,_,_,_,rfl,.inl ⟨rfl,by simp only[go_sem,hn]⟩⟩
   .obtain ⟨y3,g3,g4⟩:=go ydB (by simp[pP,hu,he,h0]);unfold ab at g3 g4;rcases ED with ⟨rfl,hn⟩ | ⟨bL,hn⟩
    .left
     simp only[go_sem,ya,yb,yv,yh,yg,kZ,lU,di,bg,bG,b6,db,iR,e0,ir,fT,jf,jy,mA,mB,aP,yd,ye,yk,fB,fL,nW,vv,jS,yp,yt,yL,yM,m0,m1,w0,w1,v0,v1,g1,g2,g3,cM,g4,wi,eV,hu,he];exact⟨_,n-1,rfl,by omega,i+1,by omega,hn,by simp only[go_sem,ya,yb,aq,aD aS.pu]<;>rfl⟩
    .right
     simp only[go_sem,ya,yb,yv,yh,yg,kZ,lU,di,bg,bG,b6,db,iR,e0,ir,fT,jf,jy,mA,mB,aP,yd,ye,yk,fB,fL,nW,vv,jS,yp,yt,yM,m0,m1,w0,w1,v0,v1,g1,g2,g3,cM,g4,eV,hu,he,bL];exact⟨_,_,rfl,by simp,_,_,_,rfl,.inl ⟨rfl,by simp only[go_sem,hn]⟩⟩
  .have eV:¬(i:Int)>0:=by omega
   rcases (show (q2<p2)\/(¬q2<p2/\p2=q2/\q1<p1)\/(¬q2<p2/\p2=q2/\¬q1<p1)\/(¬q2<p2/\p2≠q2) by omega) with hu | ⟨hu,rfl,hw⟩ | ⟨hu,rfl,hw⟩ | ⟨hu,he⟩
   .obtain ⟨y3,g3,g4⟩:=go ydC (by simp[h0]);unfold ab at g3 g4;rcases ED with ⟨rfl,hn⟩ | ⟨bL,hn⟩
    .left
     simp only[go_sem,ya,yb,yv,yh,yg,kZ,lU,di,bg,bG,b6,db,iR,e0,ir,fT,jf,jy,mA,mB,aP,yd,ye,yk,fB,fL,nW,vv,jS,yp,yt,yL,m0,m1,w0,w1,v0,v1,g1,g2,g3,cM,g4,wi,eV,hu];exact⟨_,n-1,rfl,by omega,i+1,by omega,hn,by simp only[go_sem,ya,yb,aq,aD aS.pu]<;>rfl⟩
    .right
     simp only[go_sem,ya,yb,yv,yh,yg,kZ,lU,di,bg,bG,b6,db,iR,e0,ir,fT,jf,jy,mA,mB,aP,yd,ye,yk,fB,fL,nW,vv,jS,yp,yt,yM,m0,m1,w0,w1,v0,v1,g1,g2,g3,cM,g4,eV,hu,bL];exact⟨_,_,rfl,by simp,_,_,_,rfl,.inl ⟨rfl,by simp only[go_sem,hn]⟩⟩
   .obtain ⟨y3,g3,g4⟩:=go ydC (by simp[h0]);unfold ab at g3 g4;rcases ED with ⟨rfl,hn⟩ | ⟨bL,hn⟩
    .left
     simp only[go_sem,ya,yb,yv,yh,yg,kZ,lU,di,bg,bG,b6,db,iR,e0,ir,fT,jf,jy,mA,mB,aP,yd,ye,yk,fB,fL,nW,vv,jS,yp,yt,yL,m0,m1,w0,w1,v0,v1,g1,g2,g3,cM,g4,wi,eV,hu,hw];exact⟨_,n-1,rfl,by omega,i+1,by omega,hn,by simp only[go_sem,ya,yb,aq,aD aS.pu]<;>rfl⟩
    .right
     simp only[go_sem,ya,yb,yv,yh,yg,kZ,lU,di,bg,bG,b6,db,iR,e0,ir,fT,jf,jy,mA,mB,aP,yd,ye,yk,fB,fL,nW,vv,jS,yp,yt,yM,m0,m1,w0,w1,v0,v1,g1,g2,g3,cM,g4,eV,hu,hw,bL];exact⟨_,_,rfl,by simp,_,_,_,rfl,.inl ⟨rfl,by simp only[go_sem,hn]⟩⟩
   .obtain ⟨y3,g3,g4⟩:=go ydC (by simp[h0]);unfold ab at g3 g4;rcases ED with ⟨rfl,hn⟩ | ⟨bL,hn⟩
    .left
     simp only[go_sem,ya,yb,yv,yh,yg,kZ,lU,di,bg,bG,b6,db,iR,e0,ir,fT,jf,jy,mA,mB,aP,yd,ye,yk,fB,fL,nW,vv,jS,yp,yt,yL,m0,m1,w0,w1,v0,v1,g1,g2,g3,cM,g4,wi,eV,hu,hw];exact⟨_,n-1,rfl,by omega,i+1,by omega,hn,by simp only[go_sem,ya,yb,aq,aD aS.pu]<;>rfl⟩
    .right
     simp only[go_sem,ya,yb,yv,yh,yg,kZ,lU,di,bg,bG,b6,db,iR,e0,ir,fT,jf,jy,mA,mB,aP,yd,ye,yk,fB,fL,nW,vv,jS,yp,yt,yM,m0,m1,w0,w1,v0,v1,g1,g2,g3,cM,g4,eV,hu,hw,bL];exact⟨_,_,rfl,by simp,_,_,_,rfl,.inl ⟨rfl,by simp only[go_sem,hn]⟩⟩
   .obtain ⟨y3,g3,g4⟩:=go ydC (by simp[h0]);unfold ab at g3 g4;rcases ED with ⟨rfl,hn⟩ | ⟨bL,hn⟩
    .left
     simp only[go_sem,ya,yb,yv,yh,yg,kZ,lU,di,bg,bG,b6,db,iR,e0,ir,fT,jf,jy,mA,mB,aP,yd,ye,yk,fB,fL,nW,vv,jS,yp,yt,yL,m0,m1,w0,w1,v0,v1,g1,g2,g3,cM,g4,wi,eV,hu,he];exact⟨_,n-1,rfl,by omega,i+1,by omega,hn,by simp only[go_sem,ya,yb,aq,aD aS.pu]<;>rfl⟩
    .right
     simp only[go_sem,ya,yb,yv,yh,yg,kZ,lU,di,bg,bG,b6,db,iR,e0,ir,fT,jf,jy,mA,mB,aP,yd,ye,yk,fB,fL,nW,vv,jS,yp,yt,yM,m0,m1,w0,w1,v0,v1,g1,g2,g3,cM,g4,eV,hu,he,bL];exact⟨_,_,rfl,by simp,_,_,_,rfl,.inl ⟨rfl,by simp only[go_sem,hn]⟩⟩
 .right
  simp only[go_sem,ya,kZ,lU,show ¬(i:Int)<B.length by omega];refine⟨_,_,rfl,by simp,_,_,_,rfl,.inr ⟨rfl,?_⟩⟩;rw[<-hf,y9 (by simp;omega)];rfl
end
end
section
variable {bv d f:AV}{C R S:Int}{Dk F:List (List Nat)}{H W:Nat}
def ako{b:AV}(h1:∀(n:Nat) {hp:Hp},freeze (n+1) hp d=GR (d,hp))(h2:∀(n:Nat) {hp:Hp},freeze (n+1) hp f=GR (f,hp))(h3:∀(n:Nat) {hp:Hp},freeze (n+1) hp b=GR (b,hp))(n:Nat)(hp:Hp):freeze (n+20) hp (.agg [d,f,b])=GR (.agg [d,f,b],hp):=bS _ _ (by simp only[go_sem,h1,h2,h3])
def lk(a b c:AV):gY 3 ydB [a,b,c]=GR (.agg [a,b,c]):=rfl
def Xh{B:List (Int×Int)}(h:As W H Dk F≠0):BG W H Dk F B=As W H Dk F:=by unfold BG;rw[yq h]
def Xi{B:List (Int×Int)}(h:As W H Dk F=0)(h2:pc F B.length≠0):BG W H Dk F B=pc F B.length:=by unfold BG;rw[yC h,yq h2]
def agQ{B:List (Int×Int)}(h:As W H Dk F=0)(h2:pc F B.length=0):BG W H Dk F B=Ab W H B:=by unfold BG;rw[yC h,yC h2]
structure j9(d f bv:AV)(Dk F:List (List Nat))(B:List (Int×Int)):Prop where
 d:bi bQ d Dk
 f:bi bQ f F
 b:Cy bv B
 dl:Dk.length<=1000000
 dr:∀r,r∈Dk->r.length<=1000000
 fl:F.length<=1000000
 fr:∀r,r∈F->r.length<=1000000
 bl:B.length<=1000000
def j9.bx{B:List (Int×Int)}(h:j9 d f bv Dk F B)(ct:Nat):mY ct 3 [d,f,bv]=GR (.ptr ct 0,bg d f bv):=by
 have aS:iP 2 bv (B.map fun p=>[aa p.1,aa p.2]):=h.b;exact Ui ⟨h.d.pu,h.d.one⟩ ⟨h.f.pu,h.f.one⟩ ⟨aS.pu,aS.one⟩ ct
def j9.fz{B:List (Int×Int)}(h:j9 d f bv Dk F B)(n:Nat)(hp:Hp):freeze (n+20) hp (.agg [d,f,bv])=GR (.agg [d,f,bv],hp):=by
 have aS:iP 2 bv (B.map fun p=>[aa p.1,aa p.2]):=h.b;exact ako (fun n _=>h.d.ai n) (fun n _=>h.f.ai n) (fun n _=>aS.ai n) n hp
def j9.len{B:List (Int×Int)}(h:j9 d f bv Dk F B)(hp:Hp):jr hp 1 bv=GR (.int .i64 (B.length:Nat)):=by
 have aS:iP 2 bv (B.map fun p=>[aa p.1,aa p.2]):=h.b
 have:=aS.len (hp:=hp);rwa[y5] at this
section
variable {P:aE}{L:Lib}
def aEI(h:Cmr P L){C R S:Nat}{B:List (Int×Int)}(hc:j9 d f bv Dk F B)(hC:C<=8)(hR:R<=8)(hS:S<=8):ab P L 679 [.agg [aa C,aa R,aa S],.agg [d,f,bv]] (aa (BG (C*S) (R*S) Dk F B)):=by
 have aS:iP 2 bv (B.map fun p=>[aa p.1,aa p.2]):=hc.b;have e1:=Nj h.toFrc hC hR hS hc.d hc.dl hc.dr;have e2:=Nj h.toFrc hC hR hS hc.f hc.fl hc.fr;have e3:=Nb (P:=P) (L:=L) h.Ni (jn ydB [gL (R*S) (C*S) Dk,gL (R*S) (C*S) F]) (by simp);have e4:=aEH h hc.f hc.fl hc.fr;have e5:=DW (P:=P) (L:=L) h.pX (lz F) 6;have e6:=DW (P:=P) (L:=L) h.pX (decide ((B.length:Int)>256)) 5
 rw[show (if decide ((B.length:Int)>256)=ydB then (5:Int) else 0)=(if 256<B.length then 5 else 0) by
  by_cases e:256<B.length
  .rw [yC e,yZ (show (B.length:Int)>256 by omega)];rfl
  .rw [yq e,yJ (show ¬(B.length:Int)>256 by omega)];rfl] at e6
 have e7:=Nb (P:=P) (L:=L) h.Ni (jn ydB [if lz F=ydB then 6 else 0,if 256<B.length then 5 else 0]) (by simp);simp only[yH,yR,yd,yb,xb,wO] at e3 e7;have key:=azq h (d:=d) (f:=f) hc.b hc.bl hC hR hS;have fz:=Aa;have jJ:=hc.fz;have eh:=hc.bx;have lb:=hc.len;have k1:bP [gL (R*S) (C*S) Dk,gL (R*S) (C*S) F]=As (C*S) (R*S) Dk F:=rfl;have k2:bP [if lz F=ydB then (6:Int) else 0,if 256<B.length then 5 else 0]=pc F B.length:=rfl;have q1:=Xh (W:=C*S) (H:=R*S) (Dk:=Dk) (F:=F) (B:=B);have q2:=Xi (W:=C*S) (H:=R*S) (Dk:=Dk) (F:=F) (B:=B);have q3:=agQ (W:=C*S) (H:=R*S) (Dk:=Dk) (F:=F) (B:=B);rw[k1] at e3;rw[k2] at e7;generalize (if lz F=ydB then (6:Int) else 0)=y1 at*
 generalize (if 256<B.length then (5:Int) else 0)=y2 at*
 generalize gL (R*S) (C*S) Dk=y3 at*
 generalize gL (R*S) (C*S) F=y4 at*
 generalize As (C*S) (R*S) Dk F=z1 at*
 generalize pc F B.length=z2 at*
 generalize BG (C*S) (R*S) Dk F B=z3 at*
 unfold ab at e1 e2 e3 e4 e5 e6 e7;unfold ab;rw[aB h.di];by_cases h1:z1=0
 .subst h1;by_cases h2:z2=0
  .subst h2;have q3:=q3 rfl rfl;simp only[go_sem,ya,yb,yv,yh,yg,MM,fN,eh,bg,ye,sD,fz,aP,yd,yk,hc.d.ai,hc.f.ai,e1,e2,cM,e3,e4,e5,lb,e6,e7];generalize hQ:D P L (.loop _ kZ) _=Q;obtain⟨ex,st,rfl,tm,hp,ct,rfl,hh⟩:=bt hQ (key B.length) ⟨0,by omega,by rw[ye];rfl,by simp only[go_sem,ya,yb,aq,lU,di,bg,bG,aD aS.pu]<;>rfl⟩
   rcases hh with ⟨rfl,t4⟩ | ⟨rfl,t4⟩
   .simp only [go_sem,t4,q3]
   .rw [q3,t4];simp only[go_sem,aq]
  .have q2:=q2 rfl h2;simp only[go_sem,ya,yb,yv,yh,yg,MM,fN,eh,bg,ye,sD,fz,aP,yd,yk,hc.d.ai,hc.f.ai,e1,e2,cM,e3,e4,e5,lb,e6,e7,h2,q2]
 .have q1:=q1 h1;simp only[go_sem,ya,yb,yv,yh,yg,MM,fN,eh,bg,ye,sD,fz,aP,yd,yk,hc.d.ai,hc.f.ai,e1,e2,cM,e3,h1,q1]
def SW(h:Cmr P L){B:List (Int×Int)}(hc:j9 d f bv Dk F B):ab P L 645 [.agg [aa C,aa R,aa S],.agg [d,f,bv]] (aa (nd C R S Dk F B)):=by
 have e1:=ZC h.toFrc C R S;have fz:=Aa;have jJ:=hc.fz;have eh:=hc.bx;unfold ab;rw[aB h.aEz];unfold nd;by_cases h0:mz C R S=0
 .rw [yC h0];obtain⟨⟨a1,a2⟩,⟨b1,b2⟩,c1,c2⟩:=KO h0;have e2:=aEI h (C:=C.toNat) (R:=R.toNat) (S:=S.toNat) hc (by omega) (by omega) (by omega);rw[xW (by omega),xW (by omega),xW (by omega)] at e2;rw[h0] at e1;unfold ab at e1 e2;simp only[go_sem,ya,yb,R4,fN,eh,bg,ye,lk,fz,jJ,e1,e2]
 .rw [yq h0];unfold ab at e1;simp only[go_sem,ya,yb,R4,fN,eh,bg,ye,lk,fz,e1,h0]
end
def HU(Dk F:List (List Nat))(n:Nat):Bool:=zB Dk&&(zB F&&(decide (n<=6)||decide (n=257)))
structure Rcm(P:aE)(L:Lib):Prop extends Rfc P L where
 SX:Has P L 636 ME
 aEJ:Has P L 635 Ih
 akp:Has P L 646 MJ
def Nn(i k:Nat):Env:=[(2,.ptr 0 0),(3,.ptr 1 0),(6,aa i),(7,aa k)]
section
variable {P:aE}{L:Lib}
def akq(h:Rcm P L){B:List (Int×Int)}(hd:bi bQ d Dk)(hf:bi bQ f F)(hb:Cy bv B):ab P L 635 [.agg [d,f,bv]] (.bool (HU Dk F B.length)):=by
 have aS:iP 2 bv (B.map fun p=>[aa p.1,aa p.2]):=hb;have eh:=Ui (d:=d) (f:=f) (b:=bv) ⟨hd.pu,hd.one⟩ ⟨hf.pu,hf.one⟩ ⟨aS.pu,aS.one⟩;have lb:∀hp,jr hp 1 bv=GR (.int .i64 (B.length:Nat)):=fun hp=>by have:=aS.len (hp:=hp);rwa[y5] at this
 have e1:=SU (P:=P) (L:=L) h.SX hd;have e2:=SU (P:=P) (L:=L) h.SX hf;unfold HU;unfold ab at e1 e2;unfold ab;rw[aB h.aEJ]
 cases hD:zB Dk with
 | false=>
  rw[hD] at e1;simp only[go_sem,ya,Ih,eh,bg,aP,yd,ye,hd.ai,e1,ve]
 | true=>
  rw[hD] at e1
  cases hF:zB F with
  | false=>
   rw[hF] at e2;simp only[go_sem,ya,Ih,eh,bg,aP,yd,ye,yk,hd.ai,hf.ai,e1,e2,ve,wE]
  | true=>
   rw[hF] at e2;by_cases h6:B.length<=6
   .simp only [go_sem,ya,Ih,eh,bg,aP,yd,ye,yk,hd.ai,hf.ai,e1,e2,lb,show (B.length:Int)<=6 by omega,yp,h6,wE,uH]
   .rw [show decide (B.length=257)=decide ((B.length:Int)=257) from decide_eq_decide.2 (by omega)];simp only[go_sem,ya,Ih,eh,bg,aP,yd,ye,yk,hd.ai,hf.ai,e1,e2,lb,show ¬(B.length:Int)<=6 by omega,yt,h6,wE,vI]
def azr{r:List Nat}{i:Nat}(hf:bi bQ f F)(hi:i<F.length)(hr:F[i]=r)(hl:r.length<=1000000):
  cG P L [2,3,6,7] Hw (fun n st=>∃k,k+n=r.length/\BE (r.drop k)=BE r/\st=⟨Nn i k,di C R S d f bv,2,0⟩) (fun ex s'=>∃tm,s'=⟨tm,di C R S d f bv,2,0⟩/\((ex=.ret/\ak tm 4=aa 6/\BE r=ydB)\/(ex=.exit 2/\BE r=ydC/\bF tm [2,3,6]=[(2,.ptr 0 0),(3,.ptr 1 0),(6,aa i)]))):=by
 apply cI;rintro n st ⟨k,hk,hq,rfl⟩;obtain⟨x,rest,hx,e0⟩:=hf.bk hi;rw[hr] at hx;have hx:cB x (dB r):=hx;have hlen:(dB r).length=r.length:=by simp
 have db:bY (aa i)=GR i:=rfl;have ask:bY (aa k)=GR k:=rfl;by_cases Bn:k<r.length
 .have e1:=hx.bk (i:=k) (by simpa using Bn);rw[KC Bn] at e1;unfold BE at hq;rw[G7 Bn] at hq
  cases hz:Om r[k] with
  | true=>
   left
   rw[hz] at hq;simp only[go_sem,ya,Hw,Nn,di,bg,bG,aP,yd,ye,yk,db,ask,e0,hx.len,hlen,show (k:Int)<r.length by omega,e1,QB,hz,yL];refine⟨_,n-1,rfl,by omega,k+1,by omega,hq,?_⟩;rw[wrap64 (by omega) (by omega)];simp only[go_sem,ya,yb,aq]<;>rfl
  | false=>
   right
   rw[hz] at hq;simp only[go_sem,ya,Hw,Nn,di,bg,bG,aP,yd,ye,yk,db,ask,e0,hx.len,hlen,show (k:Int)<r.length by omega,e1,QB,hz,yM];exact⟨_,_,rfl,by simp,_,rfl,.inl ⟨rfl,by simp only[go_sem],hq.symm⟩⟩
 .right
  simp only[go_sem,ya,Hw,Nn,di,bg,bG,aP,yd,ye,yk,db,e0,hx.len,hlen,show ¬(k:Int)<r.length by omega];refine⟨_,_,rfl,by simp,_,rfl,.inr ⟨rfl,?_,by simp only[go_sem,ya]⟩⟩;rw[<-hq,y9 (by omega)];rfl
def azs(hf:bi bQ f F)(hl:F.length<=1000000)(hr:∀r,r∈F->r.length<=1000000):
  cG P L [2,3,6] Lx (fun n st=>∃i,i+n=F.length/\lz (F.drop i)=lz F/\st=⟨[(2,.ptr 0 0),(3,.ptr 1 0),(6,aa i)],di C R S d f bv,2,0⟩) (fun ex s'=>∃tm,s'=⟨tm,di C R S d f bv,2,0⟩/\((ex=.ret/\ak tm 4=aa 6/\lz F=ydB)\/(ex=.exit 0/\lz F=ydC/\bF tm [2,3]=[(2,.ptr 0 0),(3,.ptr 1 0)]))):=by
 apply cI;rintro n st ⟨i,cA,hq,rfl⟩;by_cases hi:i<F.length
 .have key:=azr (P:=P) (L:=L) (C:=C) (R:=R) (S:=S) (d:=d) (bv:=bv) hf hi rfl (hr _ (xA hi));unfold lz at hq;rw[G7 hi] at hq;simp only[go_sem,ya,Lx,di,bg,bG,aP,yd,ye,yk,hf.len,show (i:Int)<F.length by omega];generalize hQ:D P L (.loop _ Hw) _=Q;obtain⟨ex,st,rfl,tm,rfl,hh⟩:=bt hQ (key F[i].length) ⟨0,by omega,rfl,by simp only[go_sem,ya,yb,aq,Nn,di,bg,bG]<;>rfl⟩
  rcases hh with ⟨rfl,t4,hz⟩ | ⟨rfl,hz,ew⟩
  .right
   rw[hz,uH] at hq;simp only[go_sem];exact⟨_,_,rfl,by simp,_,rfl,.inl ⟨rfl,t4,hq.symm⟩⟩
  .left
   rw[hz,vI] at hq;have cL:bH [2,3,6] ⟨tm,di C R S d f bv,2,0⟩=⟨[(2,.ptr 0 0),(3,.ptr 1 0),(6,aa i)],di C R S d f bv,2,0⟩:=by
    rw[nA (c':=2) (tm':=[(2,.ptr 0 0),(3,.ptr 1 0),(6,aa i)]) (by rw[ew];rfl)]
    simp only[go_sem,ya,yb,aq,di,bg,bG]<;>rfl
   simp only[go_sem,ya,cL];refine⟨_,n-1,rfl,by omega,i+1,by omega,hq,?_⟩;rw[wrap64 (by omega) (by omega)];simp only[go_sem,ya,yb,aq,di,bg,bG]<;>rfl
 .right
  simp only[go_sem,ya,Lx,di,bg,bG,aP,yd,ye,yk,hf.len,show ¬(i:Int)<F.length by omega];refine⟨_,_,rfl,by simp,_,rfl,.inr ⟨rfl,?_,by simp only[go_sem,ya]⟩⟩;rw[<-hq,y9 (by omega)];rfl
end
end
end VE
end
section
set_option maxHeartbeats 4000000
namespace VE
open Go (IntKind)
def Cc(i:Nat):Env:=[(2,.ptr 0 0),(3,.ptr 1 0),(8,aa i)]
def asT(a b c:Int):bP [a,b,c]=if bP [a,b]=0 then c else bP [a,b]:=by
 unfold bP;by_cases h:a=0
 .rw [yC h,yC h];unfold bP;by_cases h2:b=0
  .rw [yC h2,yC h2];unfold bP;rw[yC rfl];by_cases h3:c=0
   .rw [yC h3,h3];rfl
   .rw [yq h3]
  .rw [yq h2,yq h2,yq h2]
 .rw [yq h,yq h,yq h]
section
variable {P:aE}{L:Lib}
def azt(h:Rcm P L){C R S:Nat}{d f bv:AV}{B:List (Int×Int)}(hb:Cy bv B)(hl:B.length<=1000000)(hC:C<=8)(hR:R<=8)(hS:S<=8):
  cG P L [2,3,8] AO (fun n st=>∃i,i+n=B.length/\bP (((wq B.length).drop i).map (BF (C*S) (R*S) B))=Ab (C*S) (R*S) B/\st=⟨Cc i,di C R S d f bv,2,0⟩) (fun ex s'=>∃tm hp ct,s'=⟨tm,hp,ct,0⟩/\((ex=.ret/\ak tm 4=aa (Ab (C*S) (R*S) B))\/(ex=.exit 4/\Ab (C*S) (R*S) B=0))):=by
 apply cI;rintro n st ⟨i,cA,hf,rfl⟩;have aS:iP 2 bv (B.map fun p=>[aa p.1,aa p.2]):=hb;have lb:∀hp,jr hp 1 bv=GR (.int .i64 (B.length:Nat)):=fun hp=>by have:=aS.len (hp:=hp);rwa[y5] at this
 have At:C*S<=64:=y8 hC hS;have rV:R*S<=64:=y8 hR hS;have m0:(C:Int)*(S:Int)=((C*S:Nat):Int):=by rw[xD]
 have m1:(R:Int)*(S:Int)=((R*S:Nat):Int):=by rw[xD]
 have w0:IntKind.wrap .i64 ((C*S:Nat):Int)=((C*S:Nat):Int):=wrap64 (by omega) (by omega);have w1:IntKind.wrap .i64 ((R*S:Nat):Int)=((R*S:Nat):Int):=wrap64 (by omega) (by omega);have v0:IntKind.wrap .i64 (((C*S:Nat):Int)-1)=((C*S:Nat):Int)-1:=wrap64 (by omega) (by omega);have v1:IntKind.wrap .i64 (((R*S:Nat):Int)-1)=((R*S:Nat):Int)-1:=wrap64 (by omega) (by omega);have wi:IntKind.wrap .i64 ((i:Int)+1)=((i+1:Nat):Int):=wrap64 (by omega) (by omega);by_cases hi:i<B.length
 .have b6:(i:Int)<B.length:=by omega
  obtain⟨rest,e0⟩:=aS.bk (i:=i) (by simpa using hi);rw[vm] at e0;have hj:i-1<B.length:=by omega
  obtain⟨aBq,ir⟩:=aS.bk (i:=i-1) (by simpa using hj);rw[vm] at ir;rw[Uz (by simpa using hi),yal] at hf;have hE:BF (C*S) (R*S) B i=bP [iQ B[i].1 0 (((C*S:Nat):Int)-1),iQ B[i].2 0 (((R*S:Nat):Int)-1),if (decide (0<i)&& !pP B[i-1] B[i])=ydB then 11 else 0]:=by
   unfold BF;rw[PN hi,PN hj]
  generalize B[i]=p at*
  generalize B[i-1]=q at*
  obtain⟨p1,p2⟩:=p;obtain⟨q1,q2⟩:=q;have db:bY (aa i)=GR i:=rfl;have iR:bY (aa (i-1:Nat))=GR (i-1):=rfl;have g1:=Nl (P:=P) (L:=L) h.Cx p1 0 (((C*S:Nat):Int)-1);have g2:=Nl (P:=P) (L:=L) h.Cx p2 0 (((R*S:Nat):Int)-1);have g3:=SP (P:=P) (L:=L) h.DX (jn ydB [iQ p1 0 (((C*S:Nat):Int)-1),iQ p2 0 (((R*S:Nat):Int)-1)]) (by simp);simp only[yH,yR,yd,yb,xb,wO] at g3;simp only at hE e0 ir;rw[asT] at hE;have jk:∀(a b:AV) (r:List AV),sF 2 1 0 (.bC (a::b::r))=GR (.bC (a::b::r)):=fun _ _ _=>rfl
  have mN:∀(a b:AV) (r:List AV),sF 2 1 1 (.bC (a::b::r))=GR (.bC (b::r)):=fun _ _ _=>rfl
  simp only[yI,yN] at e0 ir;unfold iQ at g1 g2 g3 hE;unfold ab at g1 g2 g3;generalize BF (C*S) (R*S) B i=be at*
  generalize (if p1<0\/((C*S:Nat):Int)-1<p1 then (3:Int) else 0)=y1 at*
  generalize (if p2<0\/((R*S:Nat):Int)-1<p2 then (3:Int) else 0)=y2 at*
  generalize bP [y1,y2]=y3 at*
  by_cases hz:y3=0
  .subst hz;rw[yC rfl] at hE;rcases (show (0<i)\/i=0 by omega) with h0 | h0
   .have eV:(i:Int)>0:=by omega
    have wj:IntKind.wrap .i64 ((i:Int)-1)=((i-1:Nat):Int):=by rw[wrap64 (by omega) (by omega)];omega
    rcases (show (p2<q2)\/(¬p2<q2/\p2=q2/\p1<=q1)\/(¬p2<q2/\p2=q2/\¬p1<=q1)\/(¬p2<q2/\p2≠q2) by omega) with hu | ⟨hu,rfl,hw⟩ | ⟨hu,rfl,hw⟩ | ⟨hu,he⟩
    .have cU:be=11:=by rw[hE];rw[yC];simp[pP,h0];omega
     subst cU;rw[yq (by decide)] at hf;right
     simp only[go_sem,ya,yb,yv,yh,yg,AO,Cc,di,bg,bG,aP,yd,ye,yk,lb,b6,db,e0,jk,mN,m0,m1,w0,w1,v0,v1,g1,g2,cM,g3,yp,yt,eV,wj,iR,ir,hu,show ¬((11:Int)=0) by decide];exact⟨_,_,rfl,by simp,_,_,_,rfl,.inl ⟨rfl,by simp only[go_sem,hf]⟩⟩
    .have cU:be=11:=by rw[hE];rw[yC];simp[pP,h0];omega
     subst cU;rw[yq (by decide)] at hf;right
     simp only[go_sem,ya,yb,yv,yh,yg,AO,Cc,di,bg,bG,aP,yd,ye,yk,lb,b6,db,e0,jk,mN,m0,m1,w0,w1,v0,v1,g1,g2,cM,g3,yp,yt,eV,wj,iR,ir,hu,hw,show ¬((11:Int)=0) by decide];exact⟨_,_,rfl,by simp,_,_,_,rfl,.inl ⟨rfl,by simp only[go_sem,hf]⟩⟩
    .have cU:be=0:=by rw[hE];rw[yq];simp[pP,h0];omega
     subst cU;rw[yC rfl] at hf;left
     simp only[go_sem,ya,yb,yv,yh,yg,AO,Cc,di,bg,bG,aP,yd,ye,yk,lb,b6,db,e0,jk,mN,m0,m1,w0,w1,v0,v1,g1,g2,cM,g3,wi,yL,yp,yt,eV,wj,iR,ir,hu,hw];exact⟨_,n-1,rfl,by omega,i+1,by omega,hf,by simp only[go_sem,ya,yb,aq]<;>rfl⟩
    .have cU:be=0:=by rw[hE];rw[yq];simp[pP,h0];omega
     subst cU;rw[yC rfl] at hf;left
     simp only[go_sem,ya,yb,yv,yh,yg,AO,Cc,di,bg,bG,aP,yd,ye,yk,lb,b6,db,e0,jk,mN,m0,m1,w0,w1,v0,v1,g1,g2,cM,g3,wi,yL,yp,yt,eV,wj,iR,ir,hu,he];exact⟨_,n-1,rfl,by omega,i+1,by omega,hf,by simp only[go_sem,ya,yb,aq]<;>rfl⟩
   .have eV:¬(i:Int)>0:=by omega
    have cU:be=0:=by rw[hE];rw[yq];simp[h0]
    subst cU;rw[yC rfl] at hf;left
    simp only[go_sem,ya,yb,yv,yh,yg,AO,Cc,di,bg,bG,aP,yd,ye,yk,lb,b6,db,e0,jk,mN,m0,m1,w0,w1,v0,v1,g1,g2,cM,g3,wi,yL,yp,yt,eV];exact⟨_,n-1,rfl,by omega,i+1,by omega,hf,by simp only[go_sem,ya,yb,aq]<;>rfl⟩
  .rw [yq hz] at hE;subst hE;rw[yq hz] at hf;right
   simp only[go_sem,ya,yb,yv,yh,yg,AO,Cc,di,bg,bG,aP,yd,ye,yk,lb,b6,db,e0,jk,mN,m0,m1,w0,w1,v0,v1,g1,g2,cM,g3,yp,yt,hz];exact⟨_,_,rfl,by simp,_,_,_,rfl,.inl ⟨rfl,by simp only[go_sem,hf]⟩⟩
 .right
  simp only[go_sem,ya,AO,Cc,di,bg,bG,aP,yd,ye,yk,lb,show ¬(i:Int)<B.length by omega];refine⟨_,_,rfl,by simp,_,_,_,rfl,.inr ⟨rfl,?_⟩⟩;rw[<-hf,y9 (by simp;omega)];rfl
def aEK(h:Rcm P L){C R S:Int}{d f bv:AV}{Dk F:List (List Nat)}{B:List (Int×Int)}(hc:j9 d f bv Dk F B):ab P L 646 [.agg [aa C,aa R,aa S],.agg [d,f,bv]] (aa (nd C R S Dk F B)):=by
 have aS:iP 2 bv (B.map fun p=>[aa p.1,aa p.2]):=hc.b;have e1:=X5 (P:=P) (L:=L) h.Nk h.DX h.Cx C R S;have fz:=Aa;have eh:=hc.bx;have lb:=hc.len;unfold nd;by_cases h0:mz C R S=0
 .rw [yC h0];rw[h0] at e1;obtain⟨⟨a1,a2⟩,⟨b1,b2⟩,c1,c2⟩:=KO h0;have e2:=SV h.toRfc (C:=C.toNat) (R:=R.toNat) (S:=S.toNat) (by omega) (by omega) (by omega) hc.d hc.dl hc.dr;have e3:=SV h.toRfc (C:=C.toNat) (R:=R.toNat) (S:=S.toNat) (by omega) (by omega) (by omega) hc.f hc.fl hc.fr;have k1:=azs (P:=P) (L:=L) (C:=(C.toNat:Int)) (R:=(R.toNat:Int)) (S:=(S.toNat:Int)) (d:=d) (bv:=bv) hc.f hc.fl hc.fr;have k2:=azt h (C:=C.toNat) (R:=R.toNat) (S:=S.toNat) (d:=d) (f:=f) hc.b hc.bl (by omega) (by omega) (by omega);have hC:(C.toNat:Int)=C:=xW (by omega);have hR:(R.toNat:Int)=R:=xW (by omega);have hS:(S.toNat:Int)=S:=xW (by omega);rw[hC,hR,hS] at e2 e3 k1 k2;have e4:=SP (P:=P) (L:=L) h.DX (jn ydB [gL (R.toNat*S.toNat) (C.toNat*S.toNat) Dk,gL (R.toNat*S.toNat) (C.toNat*S.toNat) F]) (by simp)
  simp only[yH,yR,yd,yb,xb,wO] at e4;have k3:bP [gL (R.toNat*S.toNat) (C.toNat*S.toNat) Dk,gL (R.toNat*S.toNat) (C.toNat*S.toNat) F]=As (C.toNat*S.toNat) (R.toNat*S.toNat) Dk F:=rfl;have q1:=Xh (W:=C.toNat*S.toNat) (H:=R.toNat*S.toNat) (Dk:=Dk) (F:=F) (B:=B);have q2:=Xi (W:=C.toNat*S.toNat) (H:=R.toNat*S.toNat) (Dk:=Dk) (F:=F) (B:=B);have q3:=agQ (W:=C.toNat*S.toNat) (H:=R.toNat*S.toNat) (Dk:=Dk) (F:=F) (B:=B);rw[k3] at e4;generalize gL (R.toNat*S.toNat) (C.toNat*S.toNat) Dk=y3 at*
  generalize gL (R.toNat*S.toNat) (C.toNat*S.toNat) F=y4 at*
  generalize As (C.toNat*S.toNat) (R.toNat*S.toNat) Dk F=z1 at*
  generalize BG (C.toNat*S.toNat) (R.toNat*S.toNat) Dk F B=z3 at*
  generalize Uj:Ab (C.toNat*S.toNat) (R.toNat*S.toNat) B=z4 at*
  unfold ab at e1 e2 e3 e4;unfold ab;rw[aB h.akp];by_cases h1:z1=0
  .subst h1;simp only[go_sem,ya,yb,yv,yh,yg,MJ,fN,eh,bg,ye,sD,fz,aP,yd,yk,e1,hc.d.ai,hc.f.ai,e2,e3,cM,e4];generalize hQ:D P L (.loop _ Lx) _=Q;obtain⟨ex,st,rfl,tm,rfl,hh⟩:=bt hQ (k1 F.length) ⟨0,by omega,rfl,by simp only[go_sem,ya,yb,aq,di,bg,bG]<;>rfl⟩
   rcases hh with ⟨rfl,t4,hd⟩ | ⟨rfl,hd,ew⟩
   .have q2:=q2 rfl (by unfold pc;rw[hd,yC rfl];unfold bP;rw[yq (by decide)];decide)
    have:pc F B.length=6:=by unfold pc;rw[hd,yC rfl];unfold bP;rw[yq (by decide)]
    rw[this] at q2;simp only[go_sem,t4,q2]
   .have cL:bH [2,3] ⟨tm,di C R S d f bv,2,0⟩=⟨[(2,.ptr 0 0),(3,.ptr 1 0)],di C R S d f bv,2,0⟩:=by
     rw[nA (c':=2) (tm':=[(2,.ptr 0 0),(3,.ptr 1 0)]) (by rw[ew];rfl)]
     simp only[go_sem,ya,yb,aq,di,bg,bG]<;>rfl
    simp only[go_sem,ya,cL];by_cases akr:256<B.length
    .have gF:pc F B.length=5:=by unfold pc;rw[hd,yC akr];rfl
     have q2:=q2 rfl (by rw[gF];decide)
     rw[gF] at q2;simp only[go_sem,di,bg,bG,aP,yd,ye,yk,lb,show (B.length:Int)>256 by omega,q2]
    .have gF:pc F B.length=0:=by unfold pc;rw[hd,yq akr];rfl
     have q3:=q3 rfl gF;simp only[go_sem,di,bg,bG,aP,yd,ye,yk,lb,show ¬(B.length:Int)>256 by omega];generalize hQ:D P L (.loop _ AO) _=Q;obtain⟨ex,st,rfl,tm,hp,ct,rfl,hh⟩:=bt hQ (k2 B.length) ⟨0,by omega,by rw[ye];exact Uj,by simp only[go_sem,ya,yb,aq,Cc,di,bg,bG]<;>rfl⟩
     rcases hh with ⟨rfl,t4⟩ | ⟨rfl,t4⟩
     .simp only [go_sem,t4,q3]
     .rw [q3,t4];simp only[go_sem,aq]
  .have q1:=q1 h1;simp only[go_sem,ya,yb,yv,yh,yg,MJ,fN,eh,bg,ye,sD,fz,aP,yd,yk,e1,hc.d.ai,hc.f.ai,e2,e3,cM,e4,h1,q1]
 .rw [yq h0];unfold ab at e1;unfold ab;rw[aB h.akp];simp only[go_sem,ya,yb,MJ,fN,eh,bg,ye,sD,fz,e1,h0]
end
section
variable {v:AV}{M:List (List Rat)}{a:Rat}
noncomputable def ej(a:Rat):Bool:=@decide (NF (dH a) GS) (tj _)
def aeY(h:NF (dH a) GS):ej a=ydB:=@yZ _ (tj _) h
def aeZ{M:Nat}(h:NF (dH a) (GR M)):ej a=ydC:=@yJ _ (tj _) fun q=>by have:=agG q h;cases this
def iS(x:AV)(a:Rat):Prop:=∃b M,x=.an .f32 b/\Fl b (lC a M) M/\NF (dH a) (GR M)
def azu:binOp .lss (.an .f32 2139095040) (.an .f32 0)=GR (.bool ydC):=by
 have:tZ.order 2139095040 0=GR .gt:=by decide+kernel
 show GR (AV.bool (tZ.order 2139095040 0==GR .lt))=_
 rw[this];rfl
structure Fto(P:aE)(L:Lib):Prop extends Fnp P L where
 aEL:Has P L 675 YC
 aks:Has P L 721 Si
section
variable {P:aE}{L:Lib}
def aEM(h:Fto P L){K:Nat}(hv:b8 v a)(ka:Hq K a)(hK:K<=1800):(ej a=ydB->ab P L 721 [v] (.av [.an .f32 0,aa 4]))/\(ej a=ydC->∃x,iS x a/\ab P L 721 [v] (.av [x,aa 0])):=by
 have e1:=aC6 h.toTx hv ka (by omega);rw[aA9 ka hK] at e1;have e2:=m46 h.toTx hv ka (by omega);obtain⟨o,n1,w1⟩:=aD1 h.toFnp (ka.mono (by omega)) (ayG ka hK);obtain⟨v1,v2,v3,v4,rfl,g⟩:=hv.gen;unfold ab at e1 e2
 cases o with
 | none=>
  have e3:=w1;unfold ab at e3;refine⟨fun _=>?_,fun q=>by rw[aeY n1] at q;cases q⟩;unfold ab;rw[aB h.aks];simp only[go_sem,ya,yb,Si,g.bx,ye,sC,g.ai,e1,yM,e2,e3,iA,iw,iz];rfl
 | some M=>
  obtain⟨b,fb',e3⟩:=w1;unfold ab at e3;refine⟨fun q=>(by rw[aeZ n1] at q;cases q),fun _=>⟨.an .f32 b,⟨b,M,rfl,fb',n1⟩,?_⟩⟩;unfold ab;rw[aB h.aks];simp only[go_sem,ya,yb,Si,g.bx,ye,sC,g.ai,e1,yM,e2,e3,iA,iw,iz];rfl
def aBr(h:Fz P L)(ka:Hq 2600 a):(ej a=ydB->ab P L 388 [.str (RT a)] (.av [.an .f32 0,.bool ydC]))/\(ej a=ydC->∃x,iS x a/\ab P L 388 [.str (RT a)] (.av [x,.bool ydB])):=by
 obtain⟨o,n1,w1⟩:=aDI h ka
 cases o with
 | none=>exact⟨fun _=>w1,fun q=>by rw[aeY n1] at q;cases q⟩
 | some M=>
  obtain⟨b,f1,e3⟩:=w1;exact⟨fun q=>(by rw[aeZ n1] at q;cases q),fun _=>⟨.an .f32 b,⟨b,M,rfl,f1,n1⟩,e3⟩⟩
def akt(SY:Has P L 650 R5){w:AV}(hv:bi (bi iS) v M)(hw:bi (bi iS) w M)(hl:M.length<=1000000)(hr:∀r,r∈M->r.length<=1000000):ab P L 650 [v,w] (.bool ydB):=by
 have key:=iX P L [0,1,5] Lz
  (fun d st=>∃i:Nat,i+d=M.length/\st=⟨[(0,v),(1,w),(5,aa i)],[],0,0⟩)
  (Q:=fun ex st=>∃tm ct,st=⟨tm,[],ct,0⟩/\ex=.exit 0) (by
   rintro d st ⟨i,hid,rfl⟩;by_cases hi:i<M.length
   .left
    obtain⟨r1,aBs,h1,e1⟩:=hv.bk hi;obtain⟨r2,Rh,h2,e2⟩:=hw.bk hi;have NT:=hr _ (xA hi);have db:bY (aa i)=GR i:=rfl;have w1:IntKind.wrap .i64 ((i:Int)+1)=((i+1:Nat):Int):=wrap64 (by omega) (by omega);have ZG:=iX P L [0,1,5,6] Ly
     (fun d st=>∃j:Nat,j+d=M[i].length/\st=⟨[(0,v),(1,w),(5,aa i),(6,aa j)],[],0,0⟩)
     (Q:=fun ex st=>∃tm ct,st=⟨tm,[],ct,0⟩/\ex=.exit 2/\bF tm [0,1,5]=[(0,v),(1,w),(5,aa i)]) (by
      rintro d st ⟨j,hjd,rfl⟩;by_cases hj:j<M[i].length
      .left
       obtain⟨x,q1,hx,e3⟩:=h1.bk hj;obtain⟨y,q2,hy,e4⟩:=h2.bk hj;obtain⟨bx,A,rfl,fx,nx⟩:=hx;obtain⟨by',B,rfl,fy,ny⟩:=hy;have hAB:=agG nx ny;cases hAB;have e5:=XU fx fy;rw[yZ rfl] at e5;have iR:bY (aa j)=GR j:=rfl;have w2:IntKind.wrap .i64 ((j:Int)+1)=((j+1:Nat):Int):=wrap64 (by omega) (by omega);simp only[go_sem,ya,Ly,h1.len,e1,e2,db,iR,show (j:Int)<M[i].length by omega,e3,e4,e5,yL,w2];exact⟨_,d-1,rfl,by omega,j+1,by omega,by simp only[go_sem,ya,aq,aD hv.pu,aD hw.pu]<;>rfl⟩
      .right
       have hjN:j=M[i].length:=by omega
       subst hjN;simp only[go_sem,ya,Ly,h1.len,e1,db,show ¬(M[i].length:Int)<M[i].length by omega]
       exact⟨_,_,rfl,by simp,_,_,rfl,rfl,by simp only[go_sem,ya]<;>rfl⟩) M[i].length
    simp only[go_sem,ya,Lz,hv.len,h1.len,h2.len,db,show (i:Int)<M.length by omega,e1,e2,yp,yL];generalize hQ:D P L (.loop _ Ly) _=Q;obtain⟨ex,st,rfl,tm,ct,rfl,rfl,ew⟩:=bt hQ ZG ⟨0,by omega,by simp only[go_sem,ya,aq,aD hv.pu,aD hw.pu]<;>rfl⟩
    have cL:bH [0,1,5] ⟨tm,[],ct,0⟩=⟨[(0,v),(1,w),(5,aa i)],[],0,0⟩:=by
     rw[nA (c':=ct) (tm':=[(0,v),(1,w),(5,aa i)]) (by rw[ew];rfl)]
     simp only[go_sem,ya,aq,aD hv.pu,aD hw.pu]<;>rfl
    simp only[go_sem,ya,cL,w1];exact⟨_,d-1,rfl,by omega,i+1,by omega,by simp only[go_sem,ya,aq,aD hv.pu,aD hw.pu]<;>rfl⟩
   .right
    have CU:i=M.length:=by omega
    subst CU;simp only[go_sem,ya,Lz,hv.len,show ¬(M.length:Int)<M.length by omega]
    exact⟨_,_,rfl,by simp,_,_,rfl,rfl⟩) M.length
 unfold ab;rw[aB SY];simp only[go_sem,ya,R5,hv.len,hw.len,yp,yL];generalize hQ:D P L (.loop _ Lz) _=Q;obtain⟨ex,st,rfl,tm,ct,rfl,rfl⟩:=bt hQ key ⟨0,by omega,by simp only[go_sem,ya,aq,aD hv.pu,aD hw.pu]<;>rfl⟩
 simp only[go_sem]
def aku(SZ:Has P L 651 R6)(hv:bi (bi iS) v M)(hl:M.length<=1000000)(hr:∀r,r∈M->r.length<=1000000):ab P L 651 [v] (.bool ydB):=by
 have key:=iX P L [0,3] LA
  (fun d st=>∃i:Nat,i+d=M.length/\st=⟨[(0,v),(3,aa i)],[],0,0⟩)
  (Q:=fun ex st=>∃tm ct,st=⟨tm,[],ct,0⟩/\ex=.exit 0) (by
   rintro d st ⟨i,hid,rfl⟩;by_cases hi:i<M.length
   .left
    obtain⟨r1,aBs,h1,e1⟩:=hv.bk hi;have NT:=hr _ (xA hi);have db:bY (aa i)=GR i:=rfl;have w1:IntKind.wrap .i64 ((i:Int)+1)=((i+1:Nat):Int):=wrap64 (by omega) (by omega);have ZG:=iX P L [0,3,4] Hy
     (fun d st=>∃j:Nat,j+d=M[i].length/\st=⟨[(0,v),(3,aa i),(4,aa j)],[],0,0⟩)
     (Q:=fun ex st=>∃tm ct,st=⟨tm,[],ct,0⟩/\ex=.exit 2/\bF tm [0,3]=[(0,v),(3,aa i)]) (by
      rintro d st ⟨j,hjd,rfl⟩;by_cases hj:j<M[i].length
      .left
       obtain⟨x,q1,hx,e3⟩:=h1.bk hj;obtain⟨bx,A,rfl,fx,nx⟩:=hx;have iR:bY (aa j)=GR j:=rfl;have w2:IntKind.wrap .i64 ((j:Int)+1)=((j+1:Nat):Int):=wrap64 (by omega) (by omega);by_cases hA:A=0
       .subst hA;have Ag:lC M[i][j] 0=ydC:=by unfold lC;simp
        rw[Ag] at fx
        have:=fx.pz
        subst this;simp only[go_sem,ya,Hy,h1.len,e1,db,iR,show (j:Int)<M[i].length by omega,e3,aD5,azl,azu,w2];exact⟨_,d-1,rfl,by omega,j+1,by omega,by simp only[go_sem,ya,aq,aD hv.pu]<;>rfl⟩
       .have e5:=Q4 fx Fl.zero;have bL:¬bj (lC M[i][j] A) A=bj ydC 0:=by
         unfold bj
         split<;>simp<;>omega
        rw[yJ bL] at e5;simp only[go_sem,ya,Hy,h1.len,e1,db,iR,show (j:Int)<M[i].length by omega,e3,e5,w2];exact⟨_,d-1,rfl,by omega,j+1,by omega,by simp only[go_sem,ya,aq,aD hv.pu]<;>rfl⟩
      .right
       have hjN:j=M[i].length:=by omega
       subst hjN;simp only[go_sem,ya,Hy,h1.len,e1,db,show ¬(M[i].length:Int)<M[i].length by omega]
       exact⟨_,_,rfl,by simp,_,_,rfl,rfl,by simp only[go_sem,ya]<;>rfl⟩) M[i].length
    simp only[go_sem,ya,LA,hv.len,show (i:Int)<M.length by omega];generalize hQ:D P L (.loop _ Hy) _=Q;obtain⟨ex,st,rfl,tm,ct,rfl,rfl,ew⟩:=bt hQ ZG ⟨0,by omega,by simp only[go_sem,ya,aq,aD hv.pu]<;>rfl⟩
    have cL:bH [0,3] ⟨tm,[],ct,0⟩=⟨[(0,v),(3,aa i)],[],0,0⟩:=by
     rw[nA (c':=ct) (tm':=[(0,v),(3,aa i)]) (by rw[ew];rfl)]
     simp only[go_sem,ya,aq,aD hv.pu]<;>rfl
    simp only[go_sem,ya,cL,w1];exact⟨_,d-1,rfl,by omega,i+1,by omega,by simp only[go_sem,ya,aq,aD hv.pu]<;>rfl⟩
   .right
    have CU:i=M.length:=by omega
    subst CU;simp only[go_sem,ya,LA,hv.len,show ¬(M.length:Int)<M.length by omega]
    exact⟨_,_,rfl,by simp,_,_,rfl,rfl⟩) M.length
 unfold ab;rw[aB SZ];simp only[go_sem,R6];generalize hQ:D P L (.loop _ LA) _=Q;obtain⟨ex,st,rfl,tm,ct,rfl,rfl⟩:=bt hQ key ⟨0,by omega,by simp only[go_sem,ya,aq,aD hv.pu]<;>rfl⟩
 simp only[go_sem]
end
end
section
variable {v:AV}{M:List (List Rat)}{K:Nat}
def fH(i c:Nat)(rows cs:List AV):Hp:=oH (oC 0 i) 1 cs (oH 0 1 rows [] i) c
def PO{α:Type}{p:α->Bool}{l:List α}{c:Nat}(hc:c<l.length):(l.take (c+1)).any p=((l.take c).any p||p l[c]):=by
 rw[xm hc,yaK];simp
def QC{α:Type}{p:α->Bool}{l:List α}{c:Nat}(hc:c<l.length)(h:p l[c]=ydB):l.any p=ydB:=ybZ.2 ⟨_,xA hc,h⟩
def iS.ex{x:AV}{a:Rat}(h:iS x a):∃b,x=.an .f32 b:=by obtain⟨b,_,rfl,_⟩:=h;exact⟨b,rfl⟩
def WH:∀{cs:List AV} {l:List Rat},eN iS cs l->cf cs=ydB/\aF cs=ydB
 | [],_,_=>⟨rfl,rfl⟩
 | x::cs,[],h=>h.elim
 | x::cs,a::l,h=>by
  obtain⟨b,rfl⟩:=h.1.ex;obtain⟨q1,q2⟩:=WH h.2;exact⟨by simp only[cf,q1];rfl,by simp only[aF,q2];rfl⟩
section
variable {P:aE}{L:Lib}
def azv(h:Fto P L){ra:AV}{l:List Rat}(pv:aX v=ydB)(ha:nO ra l)(hl:l.length<=1000)(kl:∀x,x∈l->Hq K x)(hK:K<=1800){i n:Nat}{rows:List AV}:
  cG P L [4,6,7,13,14,15,19,20,21] B1 (fun d st=>∃(c:Nat) (cs:List AV),c+d=l.length/\(l.take c).any ej=ydC/\eN iS cs (l.take c)/\st=⟨[(4,oV 0 i),(6,ra),(7,oV (oC 0 i) c),(13,v),(14,aa n),(15,aa i),(19,ra),(20,aa l.length),(21,aa c)],fH i c rows cs,oC (oC 0 i) c,0⟩) (fun ex s'=>∃tm ct hp,s'=⟨tm,hp,ct,0⟩/\((ex=.ret/\l.any ej=ydB/\ak tm 2=.aj/\ak tm 3=aa 4)\/(ex=.exit 2/\l.any ej=ydC/\∃cs,hp=fH i l.length rows cs/\eN iS cs l/\bF tm [4,6,7,13,14,15]=[(4,oV 0 i),(6,ra),(7,oV (oC 0 i) l.length),(13,v),(14,aa n),(15,aa i)]))):=by
 apply cI;rintro d st ⟨c,cs,hcd,hN,hA,rfl⟩;by_cases hc:c<l.length
 .obtain ⟨x1,x2,x3,x4,rest,e0,hx⟩:=ha.bk hc;have g:=hx.f4;obtain⟨e1,e2⟩:=aEM h hx (kl _ (xA hc)) hK;have Bq:(c:Int)<(l.length:Nat):=by omega
  have Au:bY (aa c)=GR c:=rfl;have wc:IntKind.wrap .i64 ((c:Int)+1)=((c+1:Nat):Int):=wrap64 (by omega) (by omega);have fT:∀(hp:Hp) (a b c d:AV) (r:List AV),gk hp 4 ydB (.bC (a::b::c::d::r))=GR (.agg [a,b,c,d]):=fun _ _ _ _ _ _=>rfl
  cases hb:ej l[c] with
  | true=>
   right
   have e1:=e1 hb;unfold ab at e1;simp only[go_sem,ya,yb,B1,Bq,Au,e0,fT,aT,g.st,ye,sC,g.ai,e1,iA,iw,iz,show ¬(4:Int)=0 by decide];exact⟨_,_,rfl,by simp,_,_,_,rfl,.inl ⟨rfl,QC hc hb,by simp only[go_sem,ya],by simp only[go_sem]⟩⟩
  | false=>
   left
   obtain⟨x,On,e5⟩:=e2 hb;have ZH:=On;obtain⟨b,rfl⟩:=On.ex;unfold ab at e5;have kh:∀tm:Env,lL tm [AV.an .f32 0] 0 1 [.an .f32 b] []=GR [.an .f32 b]:=fun _=>rfl
   have kF:∀(cP pu ex:Bool) (a:AV),Ap 0 1 1 (GR (.cells cP pu ex 1 [a]))=GR (1,[a]):=fun _ _ _ _=>rfl
   have eF:∀b:Nat,cellsOf (.an .f32 b)=[.an .f32 b]:=fun _=>rfl
   have iH:∀b:Nat,bN (.an .f32 b)=.an .f32 b:=fun _=>rfl
   have Oo:(l.take (c+1)).any ej=ydC:=by rw[PO hc,hN,hb];rfl
   have Oq:eN iS (cs++[.an .f32 b]) (l.take (c+1)):=by
    rw[xm hc];exact hA.snoc ZH
   have lc:=hA.len;rw[yU,xo (by omega)] at lc
   cases c with
   | zero=>
    have iG:cs=[]:=yE (by omega);subst iG;cases i
    all_goals
     simp only[oV,oH,oC,fH]
     simp only[go_sem,ya,yb,yg,B1,Bq,Au,e0,fT,aT,g.st,ye,sC,g.ai,e5,iA,iw,iz,iH,eF,kh,cM,mP,mO,kF,jm (sz:=1) (by':=4) (new:=[AV.an .f32 b]) (m:=1) (by decide) (by decide) (by decide) (by decide),wc];refine⟨_,d-1,rfl,by omega,1,[.an .f32 b],by omega,Oo,Oq,?_⟩;simp only[go_sem,ya,yb,aq,aD pv,aD ha.pu]<;>rfl
   | succ c=>
    cases i
    all_goals
     simp only[oV,oH,oC,fH];have lV:=fun (hp:Hp) (ct id:Nat) (hg:ah hp id=GR (.cells ydB ydB ydC 1 cs))=>gR (ct:=ct) (by':=4) (new:=[AV.an .f32 b]) (m:=1) (n:=c+1) hg (by rw[lc,yg]) (by omega) (by omega) (by decide) rfl
     simp only[go_sem,ya,yb,yg,B1,Bq,Au,e0,fT,aT,g.st,ye,sC,g.ai,e5,iA,iw,iz,iH,eF,kh,cM,mP,mO,kF,lV,wc,vh];refine⟨_,d-1,rfl,by omega,c+1+1,cs++[.an .f32 b],by omega,Oo,Oq,?_⟩;simp only[go_sem,ya,aq,aD pv,aD ha.pu]<;>rfl
 .right
  have eF:c=l.length:=by omega
  subst eF;rw[yK (yz _)] at hN hA;simp only[go_sem,ya,B1,show ¬(l.length:Int)<l.length by omega];exact⟨_,_,rfl,by simp,_,_,_,rfl,.inr ⟨rfl,hN,cs,rfl,hA,by simp only[go_sem,ya]<;>rfl⟩⟩
def azw(h:Fto P L)(hv:bi nO v M)(hM:M.length<=1000)(hr:∀r,r∈M->0<r.length/\r.length<=1000/\∀x,x∈r->Hq K x)(hK:K<=1800):
  cG P L [4,13,14,15] Fi (fun d st=>∃(i:Nat) (rows:List AV),i+d=M.length/\((M.take i).any fun r=>r.any ej)=ydC/\eN (bi iS) rows (M.take i)/\st=⟨[(4,oV 0 i),(13,v),(14,aa M.length),(15,aa i)],oH 0 1 rows [] i,oC 0 i,0⟩) (fun ex s'=>∃tm ct hp,s'=⟨tm,hp,ct,0⟩/\((ex=.ret/\(M.any fun r=>r.any ej)=ydB/\ak tm 2=.aj/\ak tm 3=aa 4)\/(ex=.exit 0/\(M.any fun r=>r.any ej)=ydC/\∃rows,hp=oH 0 1 rows [] M.length/\eN (bi iS) rows M/\bF tm [4]=[(4,oV 0 M.length)]))):=by
 apply cI;rintro d st ⟨i,rows,hid,hN,hR,rfl⟩;by_cases hi:i<M.length
 .obtain ⟨ra,rest,jE,e0⟩:=hv.bk hi;obtain⟨h0,h1,h2⟩:=hr _ (xA hi);have key:=azv h hv.pu jE h1 h2 hK (i:=i) (n:=M.length) (rows:=rows);have wi:IntKind.wrap .i64 ((i:Int)+1)=((i+1:Nat):Int):=wrap64 (by omega) (by omega);have mM:(i:Int)<M.length:=by omega
  have db:bY (aa i)=GR i:=rfl;have lR:=hR.len;rw[yU,xo (by omega)] at lR;have FI:∀ex cs,M[i].any ej=ydC->eN iS cs M[i]->((M.take (i+1)).any fun r=>r.any ej)=ydC/\eN (bi iS) (rows++[.au ex M[i].length cs]) (M.take (i+1)):=fun ex cs q1 q2=>by
   rw[PO hi,hN,q1,xm hi];exact⟨rfl,hR.snoc (Df ex q2)⟩
  have oE:M[i].any ej=ydB->(M.any fun r=>r.any ej)=ydB:=fun q=>QC hi q
  generalize M[i]=l at*
  obtain⟨n',ef⟩:∃n',l.length=n'+1:=⟨l.length-1,by omega⟩;have hm:∀ct,zY ct 1 4 [.an .f32 0] (GR (n'+1)) (GR (n'+1))=GR (.ay ct 0 (n'+1),.cells ydB ydB ydB 1 (yj (n'+1) [AV.an .f32 0]).flatten):=fun ct=>Fm (by omega) (by omega) rfl rfl
  have nj:(yj (n'+1) [AV.an .f32 0]).flatten.length=n'+1:=by rw[aeu];simp
  have asn:bY (aa (n'+1:Nat))=GR (n'+1):=rfl;rw[ef] at key FI
  cases hb:l.any ej with
  | true=>
   right
   cases i
   all_goals
    simp only[oV,oH,oC,fH] at key ⊢;simp only[go_sem,ya,yb,Fi,mM,db,e0,jE.len,ef];generalize hQ:D P L (.loop _ B1) _=Q;obtain⟨ex,st,rfl,tm,ct,hp,rfl,hh⟩:=bt hQ (key (n'+1)) ⟨0,[],by omega,by simp,trivial,by simp only[go_sem,ya,yb,aq,aD hv.pu,aD jE.pu]<;>rfl⟩
    rcases hh with ⟨rfl,_,t2,t3⟩ | ⟨_,hf,_⟩
    .simp only [go_sem];exact⟨_,_,rfl,by simp,_,_,_,rfl,.inl ⟨rfl,oE hb,t2,t3⟩⟩
    .rw [hb] at hf;cases hf
  | false=>
   left
   have lV:=fun (hp:Hp) (ct:Nat) (e:Bool) (k:Nat) (cs:List AV) (hg:ah hp 0=GR (.cells ydB ydB ydC 1 rows))=>gR (ct:=ct) (by':=24) (new:=[.au e k cs]) (m:=1) (n:=i) hg (by rw[lR,yg]) (by omega) (by omega) (by decide) rfl
   have kh:∀(tm:Env) (e:Bool) (k:Nat) (cs:List AV),lL tm [AV.aj] 0 1 [.au e k cs] []=GR [.au e k cs]:=fun _ _ _ _=>rfl
   have kF:∀(cP pu ex:Bool) (a:AV),Ap 0 1 1 (GR (.cells cP pu ex 1 [a]))=GR (1,[a]):=fun _ _ _ _=>rfl
   cases i with
   | zero=>
    simp only[oV,oH,oC,fH] at key ⊢;simp only[go_sem,ya,yb,Fi,mM,db,e0,jE.len,ef];generalize hQ:D P L (.loop _ B1) _=Q;obtain⟨ex,st,rfl,tm,ct,hp,rfl,hh⟩:=bt hQ (key (n'+1)) ⟨0,[],by omega,by simp,trivial,by simp only[go_sem,ya,aq,aD hv.pu,aD jE.pu]<;>rfl⟩
    rcases hh with ⟨_,hf,_⟩ | ⟨rfl,_,cs,rfl,iG,ew⟩
    .rw [hb] at hf;cases hf
    .obtain ⟨c1,c2⟩:=WH iG;have pg:=iG.len;rw[ef] at pg;have hc:=fun (hp:Hp) (ct id:Nat) (hg:ah hp id=GR (.cells ydB ydB ydB 1 (yj (n'+1) [AV.an .f32 0]).flatten))=>afY (ct:=ct) hg nj pg c1 c2
     have fa:=fun hp:Hp=>jX (hp:=hp) (k:=n'+1) (sz:=1) (cs:=cs) ydB (by rw[pg,yg]) (by decide)
     obtain⟨q1,q2⟩:=FI ydB cs hb iG;have cL:bH [4,6,7,13,14,15] ⟨tm,[(0,.cells ydB ydB ydC 1 cs)],ct,0⟩=⟨[(4,.aj),(6,ra),(7,.ay 0 0 (n'+1)),(13,v),(14,aa M.length),(15,aa (0:Nat))],[(0,.cells ydB ydB ydC 1 cs)],1,0⟩:=by
      rw[nA (c':=ct) (tm':=[(4,.aj),(6,ra),(7,.ay 0 0 (n'+1)),(13,v),(14,aa M.length),(15,aa (0:Nat))]) (by rw[ew];rfl)]
      simp only[go_sem,ya,yb,aq,aD hv.pu,aD jE.pu]<;>rfl
     simp only[go_sem,ya,yb,xy,yv,yh,yg,cL,jE.len,ef,asn,hm,agN,mO,afD (sz:=1) (n:=n'+1) (by rw[pg,yg]),hc,fa,kh,cM,mP,kF,jm,wi];have lA:rows=[]:=yE lR;subst lA;exact⟨_,d-1,rfl,by omega,1,[.au ydB (n'+1) cs],by omega,q1,q2,by simp only[go_sem,ya,yb,aq,aD hv.pu]<;>rfl⟩
   | succ i=>
    simp only[oV,oH,oC,fH] at key ⊢;simp only[go_sem,ya,yb,Fi,mM,db,e0,jE.len,ef];generalize hQ:D P L (.loop _ B1) _=Q;obtain⟨ex,st,rfl,tm,ct,hp,rfl,hh⟩:=bt hQ (key (n'+1)) ⟨0,[],by omega,by simp,trivial,by simp only[go_sem,ya,yb,aq,aD hv.pu,aD jE.pu]<;>rfl⟩
    rcases hh with ⟨_,hf,_⟩ | ⟨rfl,_,cs,rfl,iG,ew⟩
    .rw [hb] at hf;cases hf
    .obtain ⟨c1,c2⟩:=WH iG;have pg:=iG.len;rw[ef] at pg;have hc:=fun (hp:Hp) (ct id:Nat) (hg:ah hp id=GR (.cells ydB ydB ydB 1 (yj (n'+1) [AV.an .f32 0]).flatten))=>afY (ct:=ct) hg nj pg c1 c2
     have fa:=fun hp:Hp=>jX (hp:=hp) (k:=n'+1) (sz:=1) (cs:=cs) ydB (by rw[pg,yg]) (by decide)
     obtain⟨q1,q2⟩:=FI ydB cs hb iG;have cL:bH [4,6,7,13,14,15] ⟨tm,[(1,.cells ydB ydB ydC 1 cs),(0,.cells ydB ydB ydC 1 rows)],ct,0⟩=⟨[(4,.ay 0 0 (i+1)),(6,ra),(7,.ay 1 0 (n'+1)),(13,v),(14,aa M.length),(15,aa (i+1:Nat))],[(1,.cells ydB ydB ydC 1 cs),(0,.cells ydB ydB ydC 1 rows)],2,0⟩:=by
      rw[nA (c':=ct) (tm':=[(4,.ay 0 0 (i+1)),(6,ra),(7,.ay 1 0 (n'+1)),(13,v),(14,aa M.length),(15,aa (i+1:Nat))]) (by rw[ew];rfl)]
      simp only[go_sem,ya,yb,aq,aD hv.pu,aD jE.pu]<;>rfl
     simp only[go_sem,ya,yb,yg,cL,jE.len,ef,asn,hm,agN,mO,afD (sz:=1) (n:=n'+1) (by rw[pg,yg]),hc,fa,kh,cM,mP,kF,lV,wi];exact⟨_,d-1,rfl,by omega,i+1+1,rows++[.au ydB (n'+1) cs],by omega,q1,q2,by simp only[go_sem,ya,yb,aq,aD hv.pu]<;>rfl⟩
 .right
  have JZ:i=M.length:=by omega
  subst JZ;rw[yK (yz _)] at hN hR;simp only[go_sem,ya,Fi,show ¬(M.length:Int)<M.length by omega];exact⟨_,_,rfl,by simp,_,_,_,rfl,.inr ⟨rfl,hN,rows,rfl,hR,by simp only[go_sem,ya]<;>rfl⟩⟩
def aEN(h:Fto P L)(hv:bi nO v M)(h0:0<M.length)(hM:M.length<=1000)(hr:∀r,r∈M->0<r.length/\r.length<=1000/\∀x,x∈r->Hq K x)(hK:K<=1800):
  ((M.any fun r=>r.any ej)=ydB->ab P L 675 [v] (.av [.aj,aa 4]))/\((M.any fun r=>r.any ej)=ydC->∃rows,ab P L 675 [v] (.av [.c9 ydC 1 M.length rows,aa 0])/\bi (bi iS) (.au ydC M.length rows) M):=by
 have key:=azw h hv hM hr hK;obtain⟨n,hn⟩:∃n,M.length=n+1:=⟨M.length-1,by omega⟩;unfold ab;rw[aB h.aEL];simp only[go_sem,ya,YC,hv.len];generalize hQ:D P L (.loop _ Fi) _=Q;obtain⟨ex,st,rfl,tm,ct,hp,rfl,hh⟩:=bt hQ (key M.length) ⟨0,[],by omega,by simp,trivial,by simp only[go_sem,ya,aq,oV,oH,oC,aD hv.pu]<;>rfl⟩
 rcases hh with ⟨rfl,q,t2,t3⟩ | ⟨rfl,q,rows,rfl,hR,ew⟩
 .refine ⟨fun _=>?_,fun q'=>by rw[q] at q';cases q'⟩;simp only[go_sem,t2,t3]
 .refine ⟨fun q'=>(by rw[q] at q';cases q'),fun _=>⟨rows,?_,Df ydC hR⟩⟩;have lR:=hR.len;rw[hn] at ew lR ⊢;have cL:bH [4] ⟨tm,oH 0 1 rows [] (n+1),ct,0⟩=⟨[(4,.ay 0 0 (n+1))],[(0,.cells ydB ydB ydC 1 rows)],1,0⟩:=by
   rw[nA (c':=ct) (tm':=[(4,.ay 0 0 (n+1))]) (by rw[ew];rfl)]
   simp only[go_sem,yb,aq,oH]<;>rfl
  simp only[go_sem,ya,cL];exact abG rfl (by rw[lR,yg]) (by decide)
end
end
section
variable {v:AV}{M:List (List Rat)}
section
variable {P:aE}{L:Lib}
def azx(h:Fz P L){ra:AV}{l:List Rat}{i:Nat}{rest:List AV}{rows:List AV}(pv:aX v=ydB)(e0:jq 1 i v=GR (.bC (ra::rest)))(ha:BC ra (l.map RT))(hl:l.length<=1000)(kl:∀x,x∈l->Hq 2600 x):
  cG P L [0,4,5,6,7] B2 (fun d st=>∃(c:Nat) (cs:List AV),c+d=l.length/\(l.take c).any ej=ydC/\eN iS cs (l.take c)/\st=⟨[(0,v),(4,oV 0 i),(5,aa i),(6,oV (oC 0 i) c),(7,aa c)],fH i c rows cs,oC (oC 0 i) c,0⟩) (fun ex s'=>∃tm ct hp,s'=⟨tm,hp,ct,0⟩/\((ex=.ret/\l.any ej=ydB/\ak tm 2=.aj/\ak tm 3=aa 4)\/(ex=.exit 2/\l.any ej=ydC/\∃cs,hp=fH i l.length rows cs/\eN iS cs l/\bF tm [0,4,5,6]=[(0,v),(4,oV 0 i),(5,aa i),(6,oV (oC 0 i) l.length)]))):=by
 apply cI;rintro d st ⟨c,cs,hcd,hN,hA,rfl⟩;have hlen:(l.map RT).length=l.length:=by simp
 have db:bY (aa i)=GR i:=rfl;by_cases hc:c<l.length
 .have e1:=ha.bk (i:=c) (by rw[hlen];exact hc)
  rw[vm] at e1;obtain⟨e2,e3⟩:=aBr h (kl _ (xA hc));have Bq:(c:Int)<(l.length:Nat):=by omega
  have Au:bY (aa c)=GR c:=rfl;have wc:IntKind.wrap .i64 ((c:Int)+1)=((c+1:Nat):Int):=wrap64 (by omega) (by omega)
  cases hb:ej l[c] with
  | true=>
   right
   have e2:=e2 hb;unfold ab at e2;simp only[go_sem,ya,B2,db,e0,ha.len,hlen,Bq,Au,e1,e2,iA,iw,iz,yM];exact⟨_,_,rfl,by simp,_,_,_,rfl,.inl ⟨rfl,QC hc hb,by simp only[go_sem,ya],by simp only[go_sem]⟩⟩
  | false=>
   left
   obtain⟨x,On,e5⟩:=e3 hb;have ZH:=On;obtain⟨b,rfl⟩:=On.ex;unfold ab at e5;have kh:∀tm:Env,lL tm [AV.an .f32 0] 0 1 [.an .f32 b] []=GR [.an .f32 b]:=fun _=>rfl
   have kF:∀(cP pu ex:Bool) (a:AV),Ap 0 1 1 (GR (.cells cP pu ex 1 [a]))=GR (1,[a]):=fun _ _ _ _=>rfl
   have eF:∀b:Nat,cellsOf (.an .f32 b)=[.an .f32 b]:=fun _=>rfl
   have iH:∀b:Nat,bN (.an .f32 b)=.an .f32 b:=fun _=>rfl
   have Oo:(l.take (c+1)).any ej=ydC:=by rw[PO hc,hN,hb];rfl
   have Oq:eN iS (cs++[.an .f32 b]) (l.take (c+1)):=by
    rw[xm hc];exact hA.snoc ZH
   have lc:=hA.len;rw[yU,xo (by omega)] at lc
   cases c with
   | zero=>
    have iG:cs=[]:=yE (by omega);subst iG;cases i
    all_goals
     simp only[oV,oH,oC,fH]
     simp only[go_sem,ya,yb,yg,B2,db,e0,ha.len,hlen,Bq,Au,e1,e5,iA,iw,iz,yL,iH,eF,kh,cM,mP,mO,kF,jm (sz:=1) (by':=4) (new:=[AV.an .f32 b]) (m:=1) (by decide) (by decide) (by decide) (by decide),wc];refine⟨_,d-1,rfl,by omega,1,[.an .f32 b],by omega,Oo,Oq,?_⟩;simp only[go_sem,ya,yb,aq,aD pv]<;>rfl
   | succ c=>
    cases i
    all_goals
     simp only[oV,oH,oC,fH];have lV:=fun (hp:Hp) (ct id:Nat) (hg:ah hp id=GR (.cells ydB ydB ydC 1 cs))=>gR (ct:=ct) (by':=4) (new:=[AV.an .f32 b]) (m:=1) (n:=c+1) hg (by rw[lc,yg]) (by omega) (by omega) (by decide) rfl
     simp only[go_sem,ya,yb,yg,B2,db,e0,ha.len,hlen,Bq,Au,e1,e5,iA,iw,iz,yL,iH,eF,kh,cM,mP,mO,kF,lV,wc];refine⟨_,d-1,rfl,by omega,c+1+1,cs++[.an .f32 b],by omega,Oo,Oq,?_⟩;simp only[go_sem,ya,aq,aD pv]<;>rfl
 .right
  have eF:c=l.length:=by omega
  subst eF;rw[yK (yz _)] at hN hA;simp only[go_sem,ya,B2,db,e0,ha.len,hlen,show ¬(l.length:Int)<l.length by omega];exact⟨_,_,rfl,by simp,_,_,_,rfl,.inr ⟨rfl,hN,cs,rfl,hA,by simp only[go_sem,ya]<;>rfl⟩⟩
def azy(h:Fz P L)(hv:bi BC v (M.map fun r=>r.map RT))(hM:M.length<=1000)(hr:∀r,r∈M->0<r.length/\r.length<=1000/\∀x,x∈r->Hq 2600 x):
  cG P L [0,4,5] Fj (fun d st=>∃(i:Nat) (rows:List AV),i+d=M.length/\((M.take i).any fun r=>r.any ej)=ydC/\eN (bi iS) rows (M.take i)/\st=⟨[(0,v),(4,oV 0 i),(5,aa i)],oH 0 1 rows [] i,oC 0 i,0⟩) (fun ex s'=>∃tm ct hp,s'=⟨tm,hp,ct,0⟩/\((ex=.ret/\(M.any fun r=>r.any ej)=ydB/\ak tm 2=.aj/\ak tm 3=aa 4)\/(ex=.exit 0/\(M.any fun r=>r.any ej)=ydC/\∃rows,hp=oH 0 1 rows [] M.length/\eN (bi iS) rows M/\bF tm [4]=[(4,oV 0 M.length)]))):=by
 have EE:(M.map fun r=>r.map RT).length=M.length:=by simp
 apply cI;rintro d st ⟨i,rows,hid,hN,hR,rfl⟩;by_cases hi:i<M.length
 .obtain ⟨ra,rest,jE,e0⟩:=hv.bk (i:=i) (by rw[EE];exact hi)
  rw[vm] at jE;obtain⟨h0,h1,h2⟩:=hr _ (xA hi);have key:=azx h hv.pu e0 jE h1 h2 (rows:=rows);have wi:IntKind.wrap .i64 ((i:Int)+1)=((i+1:Nat):Int):=wrap64 (by omega) (by omega);have mM:(i:Int)<M.length:=by omega
  have lR:=hR.len;rw[yU,xo (by omega)] at lR;have FI:∀ex cs,M[i].any ej=ydC->eN iS cs M[i]->((M.take (i+1)).any fun r=>r.any ej)=ydC/\eN (bi iS) (rows++[.au ex M[i].length cs]) (M.take (i+1)):=fun ex cs q1 q2=>by
   rw[PO hi,hN,q1,xm hi];exact⟨rfl,hR.snoc (Df ex q2)⟩
  have oE:M[i].any ej=ydB->(M.any fun r=>r.any ej)=ydB:=fun q=>QC hi q
  generalize M[i]=l at*
  obtain⟨n',ef⟩:∃n',l.length=n'+1:=⟨l.length-1,by omega⟩;rw[ef] at key FI
  cases hb:l.any ej with
  | true=>
   right
   cases i
   all_goals
    simp only[oV,oH,oC,fH] at key ⊢;simp only[go_sem,ya,yb,Fj,hv.len,EE,mM];generalize hQ:D P L (.loop _ B2) _=Q;obtain⟨ex,st,rfl,tm,ct,hp,rfl,hh⟩:=bt hQ (key (n'+1)) ⟨0,[],by omega,by simp,trivial,by simp only[go_sem,ya,yb,aq,aD hv.pu]<;>rfl⟩
    rcases hh with ⟨rfl,_,t2,t3⟩ | ⟨_,hf,_⟩
    .simp only [go_sem];exact⟨_,_,rfl,by simp,_,_,_,rfl,.inl ⟨rfl,oE hb,t2,t3⟩⟩
    .rw [hb] at hf;cases hf
  | false=>
   left
   have lV:=fun (hp:Hp) (ct:Nat) (e:Bool) (k:Nat) (cs:List AV) (hg:ah hp 0=GR (.cells ydB ydB ydC 1 rows))=>gR (ct:=ct) (by':=24) (new:=[.au e k cs]) (m:=1) (n:=i) hg (by rw[lR,yg]) (by omega) (by omega) (by decide) rfl
   have kh:∀(tm:Env) (e:Bool) (k:Nat) (cs:List AV),lL tm [AV.aj] 0 1 [.au e k cs] []=GR [.au e k cs]:=fun _ _ _ _=>rfl
   have kF:∀(cP pu ex:Bool) (a:AV),Ap 0 1 1 (GR (.cells cP pu ex 1 [a]))=GR (1,[a]):=fun _ _ _ _=>rfl
   cases i with
   | zero=>
    simp only[oV,oH,oC,fH] at key ⊢;simp only[go_sem,ya,yb,Fj,hv.len,EE,mM];generalize hQ:D P L (.loop _ B2) _=Q;obtain⟨ex,st,rfl,tm,ct,hp,rfl,hh⟩:=bt hQ (key (n'+1)) ⟨0,[],by omega,by simp,trivial,by simp only[go_sem,ya,aq,aD hv.pu]<;>rfl⟩
    rcases hh with ⟨_,hf,_⟩ | ⟨rfl,_,cs,rfl,iG,ew⟩
    .rw [hb] at hf;cases hf
    .have pg:=iG.len;rw[ef] at pg;have fa:=fun hp:Hp=>jX (hp:=hp) (k:=n'+1) (sz:=1) (cs:=cs) ydC (by rw[pg,yg]) (by decide)
     obtain⟨q1,q2⟩:=FI ydC cs hb iG;have cL:bH [0,4,5,6] ⟨tm,[(0,.cells ydB ydB ydC 1 cs)],ct,0⟩=⟨[(0,v),(4,.aj),(5,aa (0:Nat)),(6,.ay 0 0 (n'+1))],[(0,.cells ydB ydB ydC 1 cs)],1,0⟩:=by
      rw[nA (c':=ct) (tm':=[(0,v),(4,.aj),(5,aa (0:Nat)),(6,.ay 0 0 (n'+1))]) (by rw[ew];rfl)]
      simp only[go_sem,ya,yb,aq,aD hv.pu]<;>rfl
     simp only[go_sem,ya,yb,xy,yv,yh,yg,cL,fa,kh,cM,mP,mO,kF,jm,wi];have lA:rows=[]:=yE lR;subst lA;exact⟨_,d-1,rfl,by omega,1,[.au ydC (n'+1) cs],by omega,q1,q2,by simp only[go_sem,ya,yb,aq,aD hv.pu]<;>rfl⟩
   | succ i=>
    simp only[oV,oH,oC,fH] at key ⊢;simp only[go_sem,ya,yb,Fj,hv.len,EE,mM];generalize hQ:D P L (.loop _ B2) _=Q;obtain⟨ex,st,rfl,tm,ct,hp,rfl,hh⟩:=bt hQ (key (n'+1)) ⟨0,[],by omega,by simp,trivial,by simp only[go_sem,ya,yb,aq,aD hv.pu]<;>rfl⟩
    rcases hh with ⟨_,hf,_⟩ | ⟨rfl,_,cs,rfl,iG,ew⟩
    .rw [hb] at hf;cases hf
    .have pg:=iG.len;rw[ef] at pg;have fa:=fun hp:Hp=>jX (hp:=hp) (k:=n'+1) (sz:=1) (cs:=cs) ydC (by rw[pg,yg]) (by decide)
     obtain⟨q1,q2⟩:=FI ydC cs hb iG;have cL:bH [0,4,5,6] ⟨tm,[(1,.cells ydB ydB ydC 1 cs),(0,.cells ydB ydB ydC 1 rows)],ct,0⟩=⟨[(0,v),(4,.ay 0 0 (i+1)),(5,aa (i+1:Nat)),(6,.ay 1 0 (n'+1))],[(1,.cells ydB ydB ydC 1 cs),(0,.cells ydB ydB ydC 1 rows)],2,0⟩:=by
      rw[nA (c':=ct) (tm':=[(0,v),(4,.ay 0 0 (i+1)),(5,aa (i+1:Nat)),(6,.ay 1 0 (n'+1))]) (by rw[ew];rfl)]
      simp only[go_sem,ya,yb,aq,aD hv.pu]<;>rfl
     simp only[go_sem,ya,yb,yg,cL,fa,kh,cM,mP,mO,kF,lV,wi];exact⟨_,d-1,rfl,by omega,i+1+1,rows++[.au ydC (n'+1) cs],by omega,q1,q2,by simp only[go_sem,ya,yb,aq,aD hv.pu]<;>rfl⟩
 .right
  have JZ:i=M.length:=by omega
  subst JZ;rw[yK (yz _)] at hN hR;simp only[go_sem,ya,Fj,hv.len,EE,show ¬(M.length:Int)<M.length by omega];exact⟨_,_,rfl,by simp,_,_,_,rfl,.inr ⟨rfl,hN,rows,rfl,hR,by simp only[go_sem,ya]<;>rfl⟩⟩
def aEO(h:Fz P L)(ZI:Has P L 684 Sf)(hv:bi BC v (M.map fun r=>r.map RT))(h0:0<M.length)(hM:M.length<=1000)(hr:∀r,r∈M->0<r.length/\r.length<=1000/\∀x,x∈r->Hq 2600 x):
  ((M.any fun r=>r.any ej)=ydB->ab P L 684 [v] (.av [.aj,aa 4]))/\((M.any fun r=>r.any ej)=ydC->∃rows,ab P L 684 [v] (.av [.c9 ydC 1 M.length rows,aa 0])/\bi (bi iS) (.au ydC M.length rows) M):=by
 have key:=azy h hv hM hr;obtain⟨n,hn⟩:∃n,M.length=n+1:=⟨M.length-1,by omega⟩;unfold ab;rw[aB ZI];simp only[go_sem,Sf];generalize hQ:D P L (.loop _ Fj) _=Q;obtain⟨ex,st,rfl,tm,ct,hp,rfl,hh⟩:=bt hQ (key M.length) ⟨0,[],by omega,by simp,trivial,by simp only[go_sem,ya,aq,oV,oH,oC,aD hv.pu]<;>rfl⟩
 rcases hh with ⟨rfl,q,t2,t3⟩ | ⟨rfl,q,rows,rfl,hR,ew⟩
 .refine ⟨fun _=>?_,fun q'=>by rw[q] at q';cases q'⟩;simp only[go_sem,t2,t3]
 .refine ⟨fun q'=>(by rw[q] at q';cases q'),fun _=>⟨rows,?_,Df ydC hR⟩⟩;have lR:=hR.len;rw[hn] at ew lR ⊢;have cL:bH [4] ⟨tm,oH 0 1 rows [] (n+1),ct,0⟩=⟨[(4,.ay 0 0 (n+1))],[(0,.cells ydB ydB ydC 1 rows)],1,0⟩:=by
   rw[nA (c':=ct) (tm':=[(4,.ay 0 0 (n+1))]) (by rw[ew];rfl)]
   simp only[go_sem,yb,aq,oH]<;>rfl
  simp only[go_sem,ya,cL];exact abG rfl (by rw[lR,yg]) (by decide)
end
end
def LP{α:Type}{l:List α}{i:Nat}(d:α)(h:i<l.length):l.getD i d=l[i]:=by
 rw[yV,xn h,wV]
def V5{n:Nat}(h:n<=4):Hq 3 (((n:Nat):Int):Rat):=⟨by rw[vL];unfold Bd;rw[xV];omega,by rw[vz];unfold Bd;decide⟩
structure Avg(P:aE)(L:Lib):Prop extends Ctd P L,Fto P L where
 aJq:Has P L 668 aiZ
 aJr:Has P L 715 ai6
def me(l:List Rat):List AV:=l.map fun x=>AV.str (RT x)
def af2(l:List Rat):(me l).length=l.length:=by simp[me]
def azz(e:Bool)(l:List Rat):BC (.au e l.length (me l)) (l.map RT):=by
 have:=au3 e (l.map RT)
 rw[y5,List.map_map] at this;exact this
def aBt{C R S x y:Nat}(hS:0<S)(hx:x<C*S)(hy:y<R*S):y/S*C+x/S<C*R/\x%S<S/\y%S<S/\x/S<C/\y/S<R:=by
 have h1:x/S<C:=uN (by rw[xd];exact hx)
 have h2:y/S<R:=uN (by rw[xd];exact hy)
 refine⟨?_,xq _ hS,xq _ hS,h1,h2⟩
 have:=yT C (show y/S+1<=R from h2)
 rw[xS,tM] at this;rw[xd C R];omega
end VE
end
section
set_option maxHeartbeats 4000000
namespace VE
open Go (IntKind)
section
variable {Dk F V:List (List Nat)}{c m n r:Nat}
def du(B:List (Int×Int))(p:Int×Int):Bool:=B.any fun q=>q==p
noncomputable def nP(V Dk F:List (List Nat))(c r:Nat):Rat:=(oZ V c r-oZ Dk c r)/oZ F c r
def azA{b:Nat}(hb:b<4294967296)(hf:gX b=ydB):∃z:Int,fq b=(z:Rat)*p2 (-149)/\Bd 278 z/\(Om b=ydB->0<z):=by
 obtain⟨s,M,h,e⟩:=Rg hb hf;refine⟨bj s M,e,X1 278 277 h.lt (by decide),fun g=>?_⟩;have h1:=aAU h Fl.zero;rw[QB,g] at h1;have h2:ydB=decide (bj ydC 0<bj s M):=by simpa using h1
 exact of_decide_eq_true h2.symm
def WI(hF:jI F n m)(hr:r<n)(hc:c<m):∃z:Int,oZ F c r=(z:Rat)*p2 (-149)/\Bd 278 z/\(lz F=ydC->0<z):=by
 obtain⟨h1,h2,e,f1,f2⟩:=hF.at hr hc;obtain⟨z,e1,e2,e3⟩:=azA f2 f1;refine⟨z,by rw[e,e1],e2,fun hd=>e3 ?_⟩;unfold lz at hd;rw[ybL] at hd
 have:=hd _ (xA h1)
 unfold BE at this;rw[Bool.not_eq_true,ybL] at this
 have:=this _ (xA h2)
 simpa using this
def Xj(hV:jI V n m)(hD:jI Dk n m)(hF:jI F n m)(hd:lz F=ydC)(hr:r<n)(hc:c<m):Hq 300 (nP V Dk F c r)/\oZ F c r≠0:=by
 obtain⟨x,e1,k1,_⟩:=WI hV hr hc;obtain⟨y,e2,k2,_⟩:=WI hD hr hc;obtain⟨z,e3,k3,hz⟩:=WI hF hr hc;have hz:=hz hd;have hp:=L8 (-149);have gE:((z:Int):Rat)≠0:=by exact_mod_cast (show z≠0 by omega)
 refine⟨?_,?_⟩
 .have e:nP V Dk F c r=wN (x-y) z:=by
   unfold nP;rw[e1,e2,e3,ybX,Rat.intCast_sub];generalize p2 (-149)=p at*
   rw[ybv,ybv]
   grind
  rw[e];exact Hq.divInt hz ((k1.sub k2).mono (by decide)) (k3.mono (by decide))
 .rw [e3];intro q;rcases yco.1 q with q | q
  .exact gE q
  .exact hp q
def aiq(a b x y:Int):lm (.ag [1,1]) (.agg [aa a,aa b]) (.agg [aa x,aa y])=GR ((a,b)==(x,y)):=by
 show dE [1,1] [aa a,aa b] [aa x,aa y]=_
 have e:((a,b)==(x,y))=(a==x&&b==y):=by rw[Bool.eq_iff_iff];simp
 rw[e];by_cases h1:a=x<;>by_cases h2:b=y<;>simp[dE,h1,h2]
def air(b:Bool):Il ydC (GR b)=GR (.bool b):=by cases b<;>rfl
structure GL(P:aE)(L:Lib):Prop extends Rx0 P L,Fy P L,Fz P L,Rcm P L where
 aEP:Has P L 649 YA
 SY:Has P L 650 R5
 SZ:Has P L 651 R6
 S3:Has P L 681 Sd
 rq:Has P L 682 YD
 aEQ:Has P L 683 YE
 ZI:Has P L 684 Sf
section
variable {P:aE}{L:Lib}
def akv(S3:Has P L 681 Sd){d f bv:AV}{B:List (Int×Int)}(hc:j9 d f bv Dk F B)(x y:Int):ab P L 681 [.agg [d,f,bv],aa x,aa y] (.bool (du B (x,y))):=by
 have aS:iP 2 bv (B.map fun p=>[aa p.1,aa p.2]):=hc.b;have eh:=hc.bx;have lb:=hc.len;have eW:=hc.bl;have key:=iX P L [1,2,3,7] HB
  (fun n st=>∃i:Nat,i+n=B.length/\du (B.drop i) (x,y)=du B (x,y)/\st=⟨[(1,aa x),(2,aa y),(3,.ptr 0 0),(7,aa i)],[(0,bg d f bv)],1,0⟩)
  (fun ex st=>∃tm hp ct,st=⟨tm,hp,ct,0⟩/\((ex=.ret/\ak tm 6=.bool ydB/\du B (x,y)=ydB)\/(ex=.exit 0/\du B (x,y)=ydC))) (by
  rintro n st ⟨i,cA,hf,rfl⟩;by_cases hi:i<B.length
  .obtain ⟨rest,e0⟩:=aS.bk (i:=i) (by simpa using hi);rw[vm] at e0;unfold du at hf;rw[G7 hi] at hf;have db:bY (aa i)=GR i:=rfl;generalize B[i]=p at*
   obtain⟨p1,p2⟩:=p;simp only[yI,yN] at e0;have fT:∀(hp:Hp) (a b:AV) (r:List AV),gk hp 2 ydB (.bC (a::b::r))=GR (.agg [a,b]):=fun _ _ _ _=>rfl
   have hq:=aiq p1 p2 x y
   cases hz:((p1,p2)==(x,y)) with
   | true=>
    right
    rw[hz] at hf hq;simp only[go_sem,ya,yb,yh,HB,bg,aP,yd,ye,yk,lb,show (i:Int)<B.length by omega,db,e0,fT,hq,air];exact⟨_,_,rfl,by simp,_,_,_,rfl,.inl ⟨rfl,by simp only[go_sem],hf.symm⟩⟩
   | false=>
    left
    rw[hz] at hf hq;simp only[go_sem,ya,yb,yh,HB,bg,aP,yd,ye,yk,lb,show (i:Int)<B.length by omega,db,e0,fT,hq,air];refine⟨_,n-1,rfl,by omega,i+1,by omega,hf,?_⟩;rw[wrap64 (by omega) (by omega)];simp only[go_sem,ya,yb,aq]<;>rfl
  .right
   simp only[go_sem,ya,HB,bg,aP,yd,ye,yk,lb,show ¬(i:Int)<B.length by omega];refine⟨_,_,rfl,by simp,_,_,_,rfl,.inr ⟨rfl,?_⟩⟩
   rw[<-hf,y9 (by omega)];rfl) B.length
 unfold ab;rw[aB S3];simp only[go_sem,yb,Sd,eh];generalize hQ:D P L (.loop _ HB) _=Q;obtain⟨ex,st,rfl,tm,hp,ct,rfl,hh⟩:=bt hQ key ⟨0,by omega,rfl,by simp only[go_sem,ya,yb,aq,bg]<;>rfl⟩
 rcases hh with ⟨rfl,t6,hz⟩ | ⟨rfl,hz⟩
 .rw [hz];simp only[go_sem,t6]
 .rw [hz];simp only[go_sem,aq]
def akw(h:GL P L){d f bv v:AV}{B:List (Int×Int)}(hc:j9 d f bv Dk F B)(hv:bi bQ v V)(hV:jI V n m)(hD:jI Dk n m)(hF:jI F n m)(hd:lz F=ydC)(hr:r<n)(gF:c<m):ab P L 683 [.agg [d,f,bv],v,aa c,aa r] (.str (RT (nP V Dk F c r))):=by
 have eh:=hc.bx;obtain⟨w1,r1,b1,e1,⟨s1,e2⟩,e3⟩:=WE h.toFy hv hV gF hr;obtain⟨w2,r2,b2,e4,⟨s2,e5⟩,e6⟩:=WE h.toFy hc.d hD gF hr;obtain⟨w3,r3,b3,e7,⟨s3,e8⟩,e9⟩:=WE h.toFy hc.f hF gF hr;have k1:=hV.H hr gF;have k2:=hD.H hr gF;have k3:=hF.H hr gF;obtain⟨_,hz⟩:=Xj hV hD hF hd hr gF;have zx:=X0 h.toRp k1 k2 (by decide);have GF:=aij h.toRx0 (k1.sub k2) k3 (by decide) hz;have asr:bY (aa r)=GR r:=rfl;have Au:bY (aa c)=GR c:=rfl;unfold nP;unfold ab at e3 e6 e9 zx GF;generalize RT (oZ V c r)=u1 at*
 generalize RT (oZ Dk c r)=u2 at*
 generalize RT (oZ F c r)=u3 at*
 generalize RT (oZ V c r-oZ Dk c r)=u4 at*
 unfold ab;rw[aB h.aEQ];simp only[go_sem,ya,YE,eh,bg,aP,yd,ye,yk,asr,Au,e1,e2,e4,e5,e7,e8,zN,e3,e6,e9,zx,GF]
end
end
def cK(k n:Nat):List Nat:=xT (k+2) n
def pD(k n:Nat):(cK k n).length=n:=by simp[cK]
def V6{k n i:Nat}(h:i<(cK k n).length):(cK k n)[i]=k+2+i:=by simp[cK]
def EX{k n i:Nat}:i∈cK k n↔k+2<=i/\i<k+2+n:=by unfold cK;rw[ybJ]
structure GM(hp:Hp)(k n:Nat)(p x y:Bool)(sz:Nat)(W:List Nat)(T:List (List AV))(r:Nat):Prop where
 l:W.length=T.length
 b:ah hp k=GR (.cells ydB ydC ydB 1 [.ay (k+1) 0 n])
 m:ah hp (k+1)=GR (.cells ydB p x 1 (gQ (cK k T.length) W r))
 q:0<T.length->p=ydC
 r:∀i,i<T.length->ah hp (k+2+i)=GR (.cells ydB ydB y sz (gT T i))
def UA{hp:Hp}{f:Nat->Option Nat}{b n:Nat}:∀(seen:List Nat) (k:Nat) (acc:Hp),(∀i,i∈seen->∀o,ah hp i=GR o->lH n (dY f o))->k+seen.length<=b->iY b n acc->iY b n (ep hp f seen k acc)
 | [],_,_,_,_,h=>h
 | i::r,k,acc,hs,hk,h=>by
  simp only[yH] at hk;unfold ep
  cases ho:ah hp i with
  | none=>exact UA r (k+1) acc (fun j hj=>hs j (xr _ hj)) (by omega) h
  | some o=>exact UA r (k+1) _ (fun j hj=>hs j (xr _ hj)) (by omega) ⟨by omega,hs i xJ o ho,h⟩
def No(hp:Hp)(f:Nat->Option Nat)(i:Nat):Nat:=match ah hp i with | some o=>(dz (dY f o)).length | none=>0
def U6{hp:Hp}{f:Nat->Option Nat}{B:Nat}:∀(seen:List Nat) (k:Nat) (acc:Hp),k+seen.length<=B->(cE B (ep hp f seen k acc)).length<=(seen.map (No hp f)).sum+(cE B acc).length
 | [],_,_,_=>by simp[ep]
 | i::r,k,acc,hk=>by
  simp only[yH] at hk;unfold ep;simp only[xb,List.sum_cons];have hc:No hp f i=match ah hp i with | some o=>(dz (dY f o)).length | none=>0:=rfl
  cases ho:ah hp i with
  | none=>
   have:=U6 (hp:=hp) (f:=f) r (k+1) acc (B:=B) (by omega)
   rw[ho] at hc;simp only at hc ⊢;omega
  | some o=>
   have:=U6 (hp:=hp) (f:=f) r (k+1) ((k,dY f o)::acc) (B:=B) (by omega)
   rw[qR _ _ (show k<B by omega),yO] at this;rw[ho] at hc;simp only at hc ⊢;omega
def abD{live:List Nat}{tm:Env}{hp:Hp}{ct:Nat}{seen:List Nat}(hr:jR hp 100000 (dw (bF tm live)) []=seen):
  ∃ap,bH live ⟨tm,hp,ct,0⟩=⟨gj (pos seen) (bF tm live),ap,seen.length,0⟩/\(∀j (h:j<seen.length) o,ah hp seen[j]=GR o->ah ap j=GR (dY (pos seen) o))/\((∀i,i∈seen->∀o,ah hp i=GR o->lH seen.length (dY (pos seen) o))->iY seen.length seen.length ap)/\(cE seen.length ap).length<=(seen.map (No hp (pos seen))).sum:=by
 refine⟨ep hp (pos seen) seen 0 [],by rw[aq,hr,Wn],fun j h o ho=>?_,fun h=>UA seen 0 [] h (by omega) trivial,?_⟩
 .have:=U4 hp (pos seen) seen 0 [] j h o ho
  rwa[yd] at this
 .have:=U6 (hp:=hp) (f:=pos seen) seen 0 [] (B:=seen.length) (by omega)
  simpa[cE] using this
def acQ{n:Nat}:∀{a b:List AV},lf n a->lf n b->lf n (a++b)
 | [],_,_,h=>h
 | _::_,_,h1,h2=>⟨h1.1,acQ h1.2 h2⟩
def acR{n r:Nat}:∀{ids W:List Nat},(∀i,i∈ids->i<n)->lf n (gQ ids W r):=by
 intro ids W h;refine acQ ?_ ?_
 .induction ids generalizing W with
  | nil=>cases W<;>trivial
  | cons i ids ih=>
   cases W with
   | nil=>trivial
   | cons w W=>exact⟨h i xJ,ih fun j hj=>h j (xr _ hj)⟩
 .induction r with
  | zero=>trivial
  | succ r ih=>exact⟨trivial,ih⟩
def aoL{l:List AV}{x:AV}{m i:Nat}(h:l.length=i):over i [x] (l++yj (m+1) .aj)=l++x::yj m .aj:=by
 subst h;unfold over;rw[List.take_left,List.length_singleton,wG,<-vS,yar]
 simp
def avq{hp:Hp}{ct a b w i m:Nat}{pu x:Bool}{ids W:List Nat}(hW:W.length=i)(hi:ids.length=i):iM hp ct a i 1 [.ay b 0 w] (GR (.cells ydB pu x 1 (gQ ids W (m+1))))=GR (.av [],aJ hp a (.cells ydB ydC x 1 (gP ids W++ .ay b 0 w::yj m .aj)),ct):=by
 have hl:(gP ids W).length=i:=by rw[avo (by omega),hW]
 unfold gQ
 rw[HQ (new:=[AV.ay b 0 w]) (by rfl) (by rw[yO,hl];simp) (by rfl),aoL hl]
 simp[aF,aX]
def rW(m:Nat):List AV:=(yj m z4M).flatten
def Kb{b n id:Nat}{o:Obj}(ho:lH n o):∀{H:Hp},iY b n H->iY b n (aJ H id o)
 | [],h=>h
 | (j,u)::r,h=>by
  unfold aJ
  cases hj:yu j id with
  | true=>exact⟨h.1,ho,h.2.2⟩
  | false=>exact⟨h.1,h.2.1,Kb ho h.2.2⟩
def J7{B id:Nat}{o u:Obj}(he:dz o=dz u):∀{H:Hp},ah H id=GR u->cE B (aJ H id o)=cE B H
 | [],h=>by cases h
 | (j,w)::r,h=>by
  unfold aJ;by_cases hj:j=id
  .subst hj;rw[jW] at h;cases h;rw[show yu j j=ydB from wL j,yx];by_cases hB:j<B
   .rw [qR _ _ hB,qR _ _ hB,he]
   .rw [LO _ _ (by omega),LO _ _ (by omega)]
  .rw [eK _ _ hj] at h;rw[iB hj,yS];have ih:=J7 (B:=B) he h;by_cases hB:j<B
   .rw [qR _ _ hB,qR _ _ hB,ih]
   .rw [LO _ _ (by omega),LO _ _ (by omega),ih]
def QO:List AV->List (Option Rat)->Prop
 | cs,[]=>cs=[]
 | cs,x::l=>∃a b c d r,cs=a::b::c::d::r/\(∀q,x=GR q->b8 (.agg [a,b,c,d]) q)/\QO r l
def QO.len:∀{l:List (Option Rat)} {cs:List AV},QO cs l->cs.length=l.length*4
 | [],cs,h=>by have h:cs=[]:=h;rw[h];rfl
 | x::l,cs,h=>by
  obtain⟨a,b,c,d,r,rfl,_,h2⟩:=h
  have:=h2.len
  simp only[yH,this];omega
def QO.over:∀{l:List (Option Rat)} {cs:List AV} {i:Nat} {a b c d:AV} {x:Rat},QO cs l->i<l.length->b8 (.agg [a,b,c,d]) x->QO (VE.over (i*4) [a,b,c,d] cs) (l.set i (GR x))
 | [],_,i,_,_,_,_,_,_,hi,_=>absurd hi (yam i)
 | y::l,cs,0,a,b,c,d,x,h,_,hx=>by
  obtain⟨a',b',c',d',r,rfl,_,h2⟩:=h;exact⟨a,b,c,d,r,rfl,fun q e=>(by cases e;exact hx),h2⟩
 | y::l,cs,i+1,a,b,c,d,x,h,hi,hx=>by
  obtain⟨a',b',c',d',r,rfl,h1,h2⟩:=h;have ih:=QO.over (i:=i) h2 (by simpa using hi) hx;have e:VE.over ((i+1)*4) [a,b,c,d] (a'::b'::c'::d'::r)=a'::b'::c'::d'::VE.over (i*4) [a,b,c,d] r:=by
   have s4:∀n,vP (n+4) (a'::b'::c'::d'::r)=vP n r:=fun n=>rfl
   have t4:∀n,ydA (n+4) (a'::b'::c'::d'::r)=a'::b'::c'::d'::ydA n r:=fun n=>rfl
   unfold VE.over;rw[show (i+1)*4=i*4+4 by omega,t4,show i*4+4+[a,b,c,d].length=(i*4+[a,b,c,d].length)+4 by omega,s4];rfl
  rw[e];exact⟨a',b',c',d',_,rfl,h1,ih⟩
def stO{hp:Hp}{ct id i:Nat}{ex:Bool}{r1 r2 r3 r4:AV}{cs:List AV}{l:List (Option Rat)}(h:QO cs l)(hi:i<l.length)(gr:F4 r1 r2 r3 r4):
  iM hp ct id (i*4) 4 [r1,r2,r3,r4] (GR (.cells ydB ydB ex 4 cs))=GR (.av [],aJ hp id (.cells ydB ydB ex 4 (VE.over (i*4) [r1,r2,r3,r4] cs)),ct):=by
 have pr:=gr.pus
 have:=h.len
 rw[HQ (by rfl) (by omega) (by simp[cf,gr.o1,gr.o2,gr.o3,gr.o4])];simp[aF,pr.1,pr.2.1,pr.2.2.1,pr.2.2.2]
def J0(C S x y k j:Nat):Bool:=decide (y/S*C+x/S<k)||(decide (y/S*C+x/S=k)&&decide (y%S*S+x%S<j))
def nf(f:Nat->Nat->Rat)(C R S k j:Nat)(M:List (List (Option Rat))):Prop:=∀x y,x<C*S->y<R*S->J0 C S x y k j=ydB->(M.getD y []).getD x GS=GR (f x y)
def adN{α:Type}{l:List α}{i j:Nat}{a d:α}(hi:i<l.length):(l.set i a).getD j d=if j=i then a else l.getD j d:=by
 rw[yV,ybE];by_cases e:i=j
 .subst e;simp[hi]
 .rw [yq e,yq (fun q=>e q.symm),yV]
def nf.step{f:Nat->Nat->Rat}{C R S la lb i r:Nat}{M:List (List (Option Rat))}(hS:0<S)(rP:la<C)(hi:i<S)(hr:r<S)(h:nf f C R S (lb*C+la) (r*S+i) M)(hy:lb*S+r<M.length)(hx:la*S+i<(M.getD (lb*S+r) []).length):
  nf f C R S (lb*C+la) (r*S+i+1) (M.set (lb*S+r) ((M.getD (lb*S+r) []).set (la*S+i) (GR (f (la*S+i) (lb*S+r))))):=by
 intro x y hxC hyR hw;rw[adN hy];by_cases ey:y=lb*S+r
 .rw [yC ey,adN hx];by_cases ex:x=la*S+i
  .rw [yC ex,ex,ey]
  .rw [yq ex,<-ey];refine h x y hxC hyR ?_;unfold J0 at hw ⊢;rw[vU] at hw ⊢;rcases hw with hw | hw
   .exact .inl hw
   .rw [yf,xj,xj] at hw;refine .inr ?_;rw[yf,xj,xj];refine⟨hw.1,?_⟩;have h1:y/S=lb:=by rw[ey];exact QA hr
    have h2:y%S=r:=by rw[ey];exact Qz hr
    have h3:=hw.1;rw[h1] at h3;have h4:x/S=la:=by omega
    have h5:=xE x S;have h6:=hw.2;rw[h2] at h6 ⊢;rw[h4,xd] at h5;omega
 .rw [yq ey];refine h x y hxC hyR ?_;unfold J0 at hw ⊢;rw[vU] at hw ⊢;rcases hw with hw | hw
  .exact .inl hw
  .rw [yf,xj,xj] at hw;refine .inr ?_;rw[yf,xj,xj];refine⟨hw.1,?_⟩;have hxs:x/S<C:=uN (by rw[xd];exact hxC)
   have h1:y/S=lb:=by
    have a1:(y/S*C+x/S)/C=y/S:=QA hxs;have a2:(lb*C+la)/C=lb:=QA rP;rw[<-a1,hw.1,a2]
   have h2:y%S≠r:=fun q=>ey (by
    have:=xE y S
    rw[h1,q,xd] at this
    exact this.symm)
   have h3:=xq x hS;have h4:=hw.2;have h5:y%S*S+x%S<r*S+i+1:=h4;rcases Nat.lt_or_gt_of_ne h2 with q | q
   .have:=yT S (show y%S+1<=r from q)
    rw[xS,tM] at this;omega
   .have:=yT S (show r+1<=y%S from q)
    rw[xS,tM] at this;omega
def Qg{c B:Nat}(h:c<=B):∀{H:Hp},iY c c H->cE B H=cE c H
 | [],_=>rfl
 | (i,o)::r,hb=>by rw[qR _ _ (by have:=hb.1;omega),qR _ _ hb.1,Qg h hb.2.2]
def nf.next{f:Nat->Nat->Rat}{C R S k:Nat}{M:List (List (Option Rat))}(hS:0<S)(h:nf f C R S k (S*S) M):nf f C R S (k+1) 0 M:=by
 intro x y hx hy hw;refine h x y hx hy ?_;unfold J0 at hw ⊢;rw[vU] at hw ⊢;rcases hw with hw | hw
 .rw [xj] at hw;by_cases e:y/S*C+x/S<k
  .exact .inl (yZ e)
  .refine .inr ?_;rw[yf,xj,xj];refine⟨by omega,?_⟩;exact HT (xq y hS) (xq x hS)
 .rw [yf,xj,xj] at hw;omega
def QO.ql:∀{l:List Rat} {cs:List AV},QO cs (l.map GR)->QL cs l
 | [],cs,h=>by have h:cs=[]:=h;rw[h];trivial
 | x::l,cs,h=>by
  obtain⟨a,b,c,d,r,rfl,h1,h2⟩:=h;exact⟨h1 x rfl,QO.ql h2⟩
def agR:∀m,QO (rW m) (yj m GS)
 | 0=>rfl
 | m+1=>⟨_,_,_,_,rW m,rfl,fun q e=>(by cases e),agR m⟩
end VE
end
section
set_option maxHeartbeats 4000000
namespace VE
open Go (IntKind)
structure Av(P:aE)(L:Lib):Prop extends Avg P L,Cmr P L where
 sZ:Has P L 640 MH
 S4:Has P L 671 R8
 ZA:Has P L 674 Sa
 Ng:Has P L 720 MO
def nX(p:Int×Int):AV:=.agg [aa p.1,aa p.2]
def jK(E:List (Int×Int)):List AV:=E.map nX
def jL(E:List (Int×Int)):List AV:=E.map fun _=>.bool ydB
def BH(E:List (Int×Int))(p:Int×Int):List (Int×Int):=if du E p=ydB then E else E++[p]
def avr(E:List (Int×Int))(p q:Int×Int):du (BH E p) q=(du E q||(p==q)):=by
 unfold BH
 cases h:du E p with
 | true=>
  rw[yC rfl];by_cases e:p=q
  .subst e;rw[h,uH]
  .rw [yaL.2 e,Bool.or_false]
 | false=>
  rw[yq (by decide)];unfold du;rw[yaK]
  simp
def BT:∀E:List (Int×Int),aF (jK E)=ydB/\aF (jL E)=ydB
 | []=>⟨rfl,rfl⟩
 | p::E=>by
  obtain⟨h1,h2⟩:=BT E;exact⟨by show (aX (nX p)&&aF (jK E))=ydB;rw[h1];rfl,by show (aX (.bool ydB)&&aF (jL E))=ydB;rw[h2];rfl⟩
def af3(p q:Int×Int):nF (nX p) (nX q)=GR (p==q):=aiq p.1 p.2 q.1 q.2
def ae0(p q:Int×Int)(E:List (Int×Int)):du (p::E) q=((p==q)||du E q):=rfl
def ae1(p q:Int×Int):(p==q)=(q==p):=by
 by_cases h:p=q
 .rw [h]
 .rw [yaL.2 h,yaL.2 (fun e=>h e.symm)]
def af4(q:Int×Int):∀E:List (Int×Int),sE (nX q) (jK E) (jL E)=GR (if du E q=ydB then GR (.bool ydB) else GS)
 | []=>rfl
 | p::E=>by
  show (match nF (nX q) (nX p) with | some ydB=>GR (GR (AV.bool ydB)) | some ydC=>sE (nX q) (jK E) (jL E) | none=>GS)=_
  rw[af3,af4 q E,ae0,ae1 p q]
  cases h:(q==p) with
  | true=>rfl
  | false=>rfl
def agS(q:Int×Int):∀E:List (Int×Int),pQ (nX q) (.bool ydB) (jK E) (jL E)=GR (jK (BH E q),jL (BH E q))
 | []=>rfl
 | p::E=>by
  show (match nF (nX q) (nX p) with | some ydB=>GR (nX p::jK E,AV.bool ydB::jL E) | some ydC=>(match pQ (nX q) (.bool ydB) (jK E) (jL E) with | some (iF,Gd)=>GR (nX p::iF,AV.bool ydB::Gd) | none=>GS) | none=>GS)=_
  rw[af3,agS q E];have e:BH (p::E) q=if (q==p)=ydB then p::E else p::BH E q:=by
   unfold BH;rw[ae0,ae1 p q]
   cases h:(q==p) with
   | true=>rfl
   | false=>
    rw[vI];by_cases h2:du E q=ydB
    .rw [yC h2,yq (by decide),yC h2]
    .rw [yq h2,yq (by decide),yq h2];rfl
  rw[e]
  cases h:(q==p) with
  | true=>rfl
  | false=>rfl
def muO(kk:Nat)(hp:Hp)(ct id:Nat)(k v:AV)(q:Option Obj):gZ:=match q with
 | some (.mp ydB ks vs)=>bif !lE kk k then GS else match pQ k v ks vs with | some (iF,dS)=>GR (.av [],aJ hp id (.mp ydB iF dS),ct) | none=>GS
 | _=>GS
def muG(kk:Nat)(hp:Hp)(ct:Nat)(m k v:AV):gZ:=match m with | .map id=>muO kk hp ct id k v (ah hp id) | _=>GS
def avt{P:aE}{L:Lib}{f:cp}{tm:Env}{hp:Hp}{ct:Nat}(kk:Nat)(m k v:X):bc P L f tm hp ct (.pZ kk m k v)=muG kk hp ct (az tm m) (az tm k) (az tm v):=by
 show (match az tm m with
  | .map id=>(match ah hp id with
   | some (.mp ydB ks vs)=>bif !lE kk (az tm k) then GS else match pQ (az tm k) (az tm v) ks vs with | some (iF,dS)=>GR (AV.av [],aJ hp id (.mp ydB iF dS),ct) | none=>GS
   | _=>GS)
  | _=>GS)=_
 cases az tm m<;>rfl
def aBu(kk:Nat)(hp:Hp)(ct id:Nat)(k v:AV):muG kk hp ct (.map id) k v=muO kk hp ct id k v (ah hp id):=rfl
def aBv(hp:Hp)(ct id:Nat)(x y:Int)(E:List (Int×Int)):muO 5 hp ct id (.agg [aa x,aa y]) (.bool ydB) (GR (.mp ydB (jK E) (jL E)))=GR (.av [],aJ hp id (.mp ydB (jK (BH E (x,y))) (jL (BH E (x,y)))),ct):=by
 show (match pQ (nX (x,y)) (.bool ydB) (jK E) (jL E) with | some (iF,dS)=>GR (AV.av [],aJ hp id (.mp ydB iF dS),ct) | none=>GS)=_
 rw[agS]
def Ot(kk:Nat)(z k:AV)(q:Option Obj):Option AV:=bif lE kk k then (match q with | some (.mp _ ks vs)=>(match sE k ks vs with | some (GR v)=>GR v | some GS=>GR z | none=>GS) | _=>GS) else GS
def lkG(kk:Nat)(hp:Hp)(z k m:AV):Option AV:=match m with | .map id=>Ot kk z k (ah hp id) | _=>bif lE kk k then (match AS hp k m with | some (GR v)=>GR v | some GS=>GR z | none=>GS) else GS
def KR{P:aE}{L:Lib}{f:cp}{tm:Env}{hp:Hp}{ct:Nat}(kk:Nat)(z:AV)(m k:X):bc P L f tm hp ct (.Gc kk z ydC m k)=rd hp ct (lkG kk hp z (az tm k) (az tm m)):=by
 show rd hp ct (bif lE kk (az tm k) then (match AS hp (az tm k) (az tm m) with | some (GR v)=>GR v | some GS=>GR z | none=>GS) else GS)=_
 congr 1
 cases hm:az tm m<;>try rfl
 rename_i id;show (bif lE kk (az tm k) then (match (match ah hp id with | some (.mp _ ks vs)=>sE (az tm k) ks vs | _=>GS) with | some (GR v)=>GR v | some GS=>GR z | none=>GS) else GS)=Ot kk z (az tm k) (ah hp id)
 unfold Ot
 cases ah hp id with
 | none=>rfl
 | some o=>cases o<;>rfl
def Mf(kk:Nat)(hp:Hp)(z k:AV)(id:Nat):lkG kk hp z k (.map id)=Ot kk z k (ah hp id):=rfl
def X6(b:Bool)(x y:Int)(E:List (Int×Int)):Ot 5 (.bool ydC) (.agg [aa x,aa y]) (GR (.mp b (jK E) (jL E)))=GR (.bool (du E (x,y))):=by
 show (match sE (nX (x,y)) (jK E) (jL E) with | some (GR v)=>GR v | some GS=>GR (AV.bool ydC) | none=>GS)=_
 rw[af4];cases du E (x,y)<;>rfl
def G9(b:Bool)(E:List (Int×Int)):dz (.mp b (jK E) (jL E))=[]:=by
 show fY _++fY _=[]
 rw[EO (BT E).1,EO (BT E).2];rfl
def He(f:Nat->Option Nat)(b:Bool)(E:List (Int×Int)):dY f (.mp b (jK E) (jL E))=.mp b (jK E) (jL E):=by
 show Obj.mp b (dA f _) (dA f _)=_
 rw[ET f (BT E).1,ET f (BT E).2]
def sZ(C R S:Int)(v d f bv:AV)(E:List (Int×Int)):Hp:=[(4,.mp ydB (jK E) (jL E)),(3,.cells ydB ydC ydB 1 [.map 4]),(2,.cells ydB ydB ydB 1 [v]),(1,bg d f bv),(0,bG C R S)]
def S5(bv:AV)(n i:Nat):Env:=[(3,.ptr 0 0),(4,.ptr 1 0),(5,.ptr 2 0),(10,.ptr 3 0),(40,bv),(41,aa n),(42,aa i)]
section
variable {P:aE}{L:Lib}
def akx(h:Exc P L)(S4:Has P L 671 R8){d f bv v:AV}{Dk F V:List (List Nat)}(hv:bi bQ v V)(hd:bi bQ d Dk)(hf:bi bQ f F){n m c r:Nat}(hV:jI V n m)(hD:jI Dk n m)(hF:jI F n m)(eJ:lz F=ydC)(hr:r<n)(hc:c<m):∃x,ab P L 671 [.agg [aa c,aa r],.bC [v],.bC [d,f,bv]] x/\b8 x (nP V Dk F c r):=by
 have px:∀{w:AV} {M:List (List Nat)},bi bQ w M->jI M n m->∃u rest bits Rh x,jq 1 r w=GR (.bC (u::rest))/\jq 1 c u=GR (.bC (.an .f32 bits::Rh))/\ab P L 685 [.an .f32 bits] x/\b8 x (oZ M c r):=fun {w M} hw hM=>by
  obtain⟨bO,iN,e,f1,f2⟩:=hM.at hr hc;obtain⟨u,rest,hu,e0⟩:=hw.bk bO;have hu:cB u (dB M[r]):=hu;have e1:=hu.bk (i:=c) (by simpa using iN);rw[KC iN] at e1;obtain⟨x,e2,hx⟩:=aBm h f2 f1;rw[<-e] at hx;exact⟨u,rest,_,_,x,e0,e1,e2,hx⟩
 obtain⟨u1,r1,b1,s1,x,e1,e2,e3,hx⟩:=px hv hV;obtain⟨u2,r2,b2,s2,y,e4,e5,e6,hy⟩:=px hd hD;obtain⟨u3,r3,b3,s3,z,e7,e8,e9,hz⟩:=px hf hF;have k1:=hV.H hr hc;have k2:=hD.H hr hc;have k3:=hF.H hr hc;obtain⟨_,gE⟩:=Xj hV hD hF eJ hr hc;obtain⟨q,zx,hq⟩:=m50 h.toTx.toFr' hx hy (K:=429) k1 k2 (by decide);obtain⟨t,GF,ht⟩:=m70 h.toTx.toFr' hq hz gE (K:=1000) ((k1.sub k2).mono (by decide)) (k3.mono (by decide)) (by decide);have Ak:b8 t (nP V Dk F c r):=ht;obtain⟨x1,x2,x3,x4,rfl,gx⟩:=hx.gen;obtain⟨y1,y2,y3,y4,rfl,gy⟩:=hy.gen;obtain⟨z1,z2,z3,z4,rfl,gz⟩:=hz.gen;obtain⟨q1,q2,q3,q4,rfl,gq⟩:=hq.gen;obtain⟨t1,t2,t3,t4,rfl,gt⟩:=ht.gen;have asr:bY (aa r)=GR r:=rfl;have Au:bY (aa c)=GR c:=rfl;have ov:∀k (cs:List AV),k<=cs.length->B4 k (.bC cs)=GR (.bC (cs.drop k)):=fun k cs hk=>by
  show (bif yG k cs.length then GR (AV.bC (cs.drop k)) else GS)=_
  rw[yy hk];rfl
 have o0:=ov 0 [d,f,bv] (by simp);have o1:=ov 1 [d,f,bv] (by simp);unfold ab at e3 e6 e9 zx GF;refine⟨_,?_,Ak⟩;unfold ab;rw[aB S4];simp only[go_sem,ya,yb,R8,aT,aP,o0,o1,yd,ye,yk,asr,Au,e1,e2,e4,e5,e7,e8,zN,e3,e6,e9,gx.ai,gy.ai,gz.ai,gq.ai,bz,zx,GF,gt.st,dL,dO,sC,gt.dC]
def azB{C R S:Nat}{d f bv v:AV}{B:List (Int×Int)}(hb:Cy bv B)(hl:B.length<=1000000):
  cG P L [3,4,5,10,40,41,42] Lv (fun n st=>∃i E,i+n=B.length/\(∀q,du E q=du (B.take i) q)/\st=⟨S5 bv B.length i,sZ C R S v d f bv E,5,0⟩) (fun ex s'=>∃tm E,s'=⟨tm,sZ C R S v d f bv E,5,0⟩/\ex=.exit 0/\(∀q,du E q=du B q)/\bF tm [3,4,5,10]=[(3,.ptr 0 0),(4,.ptr 1 0),(5,.ptr 2 0),(10,.ptr 3 0)]):=by
 apply cI;rintro n st ⟨i,E,cA,hE,rfl⟩;have aS:iP 2 bv (B.map fun p=>[aa p.1,aa p.2]):=hb;by_cases hi:i<B.length
 .left
  obtain⟨rest,e0⟩:=aS.bk (i:=i) (by simpa using hi);rw[vm] at e0;have hT:∀q,du (B.take (i+1)) q=(du (B.take i) q||(B[i]==q)):=fun q=>by
   unfold du;rw[xm hi,yaK];simp
  have wi:IntKind.wrap .i64 ((i:Int)+1)=((i+1:Nat):Int):=wrap64 (by omega) (by omega);have db:bY (aa i)=GR i:=rfl;have fT:∀(hp:Hp) (a b:AV) (r:List AV),gk hp 2 ydB (.bC (a::b::r))=GR (.agg [a,b]):=fun _ _ _ _=>rfl
  have mA:∀id,sF 2 1 0 (.ptr id 0)=GR (.ptr id 0):=fun _=>rfl
  have mB:∀id,sF 2 1 1 (.ptr id 0)=GR (.ptr id 1):=fun _=>rfl
  generalize B[i]=p at*
  obtain⟨p1,p2⟩:=p;simp only[yI,yN] at e0;simp only[go_sem,ya,yb,yh,Lv,S5,sZ,bg,bG,show (i:Int)<B.length by omega,db,e0,fT,jf,jy,mA,mB,yd,ye,yk,avt,aBu,aBv,wi];refine⟨_,n-1,rfl,by omega,i+1,BH E (p1,p2),by omega,fun q=>by rw[avr,hE q,hT q],?_⟩;simp only[go_sem,ya,yb,aq,PM,G9,He,WA,WB,aD aS.pu]<;>rfl
 .right
  have CU:i=B.length:=by omega
  subst CU;rw[yK (yz _)] at hE;simp only[go_sem,ya,Lv,S5,show ¬(B.length:Int)<B.length by omega];exact⟨_,_,rfl,by simp,_,E,rfl,rfl,hE,by simp only[go_sem,ya]<;>rfl⟩
end
end VE
end
section
set_option maxHeartbeats 4000000
namespace VE
open Go (IntKind)
section
variable {bv d f v:AV}{p x y:Bool}{hp:Hp}{C R S:Int}{T:List (List AV)}{W live:List Nat}{n r sz:Nat}
def avu{x:Nat}(h:x<n):pos (wq n) x=GR x:=by
 have:=acG (B:=0) (s:=n) (i:=x) (k:=0) h
 rw[yd,<-yap] at this;exact this
def asU{tm:Env}{ct:Nat}(hr:jR hp 100000 (dw (bF tm live)) []=wq n)(hE:gS n (bF tm live))(ho:∀j,j<n->∃o,ah hp j=GR o/\lH n o):
  ∃ap,bH live ⟨tm,hp,ct,0⟩=⟨bF tm live,ap,n,0⟩/\∀j,j<n->ah ap j=ah hp j:=by
 obtain⟨ap,e,g,_,_⟩:=abD (ct:=ct) hr;have hf:∀x,x<n->pos (wq n) x=GR x:=fun x h=>avu h
 refine⟨ap,by rw[e,Kg hf hE,List.length_range],fun j hj=>?_⟩;obtain⟨o,h1,h2⟩:=ho j hj
 have:=g j (by simpa using hj) o (by rw[yal];exact h1)
 rw[this,UW hf h2,h1]
structure Aw(hp:Hp)(C R S:Int)(v d f bv:AV)(E:List (Int×Int)):Prop where
 g0:ah hp 0=GR (bG C R S)
 g1:ah hp 1=GR (.cells ydB ydB ydB 1 [v])
 g2:ah hp 2=GR (.cells ydB ydC ydB 1 [.map 3])
 g3:ah hp 3=GR (.mp ydB (jK E) (jL E))
 g4:ah hp 4=GR (.cells ydB ydC ydB 1 [.fn (.f 671) [] [.ptr 1 0,.ptr 5 0]])
 g5:ah hp 5=GR (bg d f bv)
def Aw.aky{ap:Hp}{E:List (Int×Int)}(h:Aw hp C R S v d f bv E)(e:∀j,j<6->ah ap j=ah hp j):Aw ap C R S v d f bv E:=
 ⟨by rw[e 0 (by omega)];exact h.g0,by rw[e 1 (by omega)];exact h.g1,by rw[e 2 (by omega)];exact h.g2,by rw[e 3 (by omega)];exact h.g3,by rw[e 4 (by omega)];exact h.g4,by rw[e 5 (by omega)];exact h.g5⟩
def asV{k:Nat}(ZU:0<T.length->p=ydC)(hW:W.length=T.length):dz (.cells ydB p x 1 (gQ (cK k T.length) W r))=cK k T.length:=by
 cases p with
 | true=>
  rw[afF]
  cases T with
  | nil=>rfl
  | cons t T=>exact absurd (ZU (by simp)) (by decide)
 | false=>rw[P3,Pq r (by rw[pD];omega)]
def ae2{k:Nat}(hr:∀i,i<T.length->ah hp (k+2+i)=GR (.cells ydB ydB y sz (gT T i))){seen:List Nat}(hn:T.length+1<n)(hs:∀i,i∈seen->i<k+2):jR hp n (cK k T.length++[]) seen=seen++cK k T.length:=by
 rw[WD hp (cK k T.length) _ [] n (by rw[pD];omega) (fun i hi=>by
  have h:=EX.1 hi
  have:=hr (i-(k+2)) (by omega)
  rw[show k+2+(i-(k+2))=i by omega] at this;exact⟨_,this,rfl⟩) ybK (fun i hi hm=>by
  have h:=EX.1 hi
  have:=hs i hm
  omega),afX hp (by rw[pD];omega)]
def Aw.jR{E:List (Int×Int)}(h:Aw hp C R S v d f bv E)(m:GM hp 6 n p x y sz W T r)(hT:T.length<=900):
  VE.jR hp 100000 [0,1,2,4,6] []=[0,1,2,3,4,5,6,7]++cK 6 T.length/\VE.jR hp 100000 [0,2,4,6] []=[0,2,3,4,1,5,6,7]++cK 6 T.length:=by
 have e7:=asV (k:=6) (x:=x) (r:=r) m.q m.l;have r0:dz (bG C R S)=[]:=rfl;have r1:dz (.cells ydB ydB ydB 1 [v])=[]:=rfl;have r2:dz (.cells ydB ydC ydB 1 [.map 3])=[3]:=rfl;have r4:dz (.cells ydB ydC ydB 1 [.fn (.f 671) [] [.ptr 1 0,.ptr 5 0]])=[1,5]:=rfl;have r5:dz (bg d f bv)=[]:=rfl;have r6:dz (.cells ydB ydC ydB 1 [.ay 7 0 n])=[7]:=rfl;have g6:=m.b;have g7:=m.m;have nm:∀(i:Nat) (l:List Nat),i∉l->jt i l=ydC:=fun i l hi=>aeS hi
 have n1:=ae2 (seen:=[0,1,2,3,4,5,6,7]) (n:=99991) m.r (by omega) (by decide);have n2:=ae2 (seen:=[0,2,3,4,1,5,6,7]) (n:=99992) m.r (by omega) (by decide);refine⟨?_,?_⟩
 .rw [<-n1];rw[show (100000:Nat)=99999+1 from rfl,kX,nm 0 _ (by decide),lF,h.g0,lG,r0,yN,yN];rw[show (99999:Nat)=99998+1 from rfl,kX,nm 1 _ (by decide),lF,h.g1,lG,r1,yN];rw[show (99998:Nat)=99997+1 from rfl,kX,nm 2 _ (by decide),lF,h.g2,lG,r2];rw[yI,yN,show (99997:Nat)=99996+1 from rfl,kX,nm 3 _ (by decide),lF,h.g3,lG,G9,yN];rw[show (99996:Nat)=99995+1 from rfl,kX,nm 4 _ (by decide),lF,h.g4,lG,r4];rw[yI,yI,yN,show (99995:Nat)=99994+1 from rfl,kX,show jt 1 ([0]++[1]++[2]++[3]++[4])=ydB from rfl,agk];rw[show (99994:Nat)=99993+1 from rfl,kX,nm 5 _ (by decide),lF,h.g5,lG,r5,yN]
  rw[show (99993:Nat)=99992+1 from rfl,kX,nm 6 _ (by decide),lF,g6,lG,r6];rw[yI,yN,show (99992:Nat)=99991+1 from rfl,kX,nm 7 _ (by decide),lF,g7,lG,e7];rfl
 .rw [<-n2];rw[show (100000:Nat)=99999+1 from rfl,kX,nm 0 _ (by decide),lF,h.g0,lG,r0,yN,yN];rw[show (99999:Nat)=99998+1 from rfl,kX,nm 2 _ (by decide),lF,h.g2,lG,r2];rw[yI,yN,show (99998:Nat)=99997+1 from rfl,kX,nm 3 _ (by decide),lF,h.g3,lG,G9,yN];rw[show (99997:Nat)=99996+1 from rfl,kX,nm 4 _ (by decide),lF,h.g4,lG,r4];rw[yI,yI,yN,show (99996:Nat)=99995+1 from rfl,kX,nm 1 _ (by decide),lF,h.g1,lG,r1,yN];rw[show (99995:Nat)=99994+1 from rfl,kX,nm 5 _ (by decide),lF,h.g5,lG,r5,yN];rw[show (99994:Nat)=99993+1 from rfl,kX,nm 6 _ (by decide),lF,g6,lG,r6]
  rw[yI,yN,show (99993:Nat)=99992+1 from rfl,kX,nm 7 _ (by decide),lF,g7,lG,e7];rfl
def rg8(n:Nat):[0,1,2,3,4,5,6,7]++cK 6 n=wq (8+n):=by
 unfold cK;rw[yap,show [0,1,2,3,4,5,6,7]=xT 0 8 from rfl,List.range'_append_1]
def azC{tm:Env}{ct:Nat}{E:List (Int×Int)}(h:Aw hp C R S v d f bv E)(m:GM hp 6 n p x y sz W T r)(hT:T.length<=900)(hE:dw (bF tm live)=[0,1,2,4,6])(hb:gS 8 (bF tm live)):
  ∃ap,bH live ⟨tm,hp,ct,0⟩=⟨bF tm live,ap,8+T.length,0⟩/\Aw ap C R S v d f bv E/\GM ap 6 n p x y sz W T r:=by
 have hr:=(h.jR m hT).1;rw[rg8,<-hE] at hr;have pu:∀{rw ex:Bool} {z:Nat} {cs:List AV},lH (8+T.length) (.cells rw ydB ex z cs):=.inl rfl;obtain⟨ap,e,g⟩:=asU (ct:=ct) hr (C1 (by omega) hb) (fun j hj=>by
  by_cases h8:j<8
  .match j,h8 with
   | 0,_=>exact⟨_,h.g0,pu⟩
   | 1,_=>exact⟨_,h.g1,pu⟩
   | 2,_=>exact⟨_,h.g2,.inr ⟨by show 3<8+T.length;omega,trivial⟩⟩
   | 3,_=>exact⟨_,h.g3,by
     have pk:∀l:List AV,aF l=ydB->lf (8+T.length) l:=fun l hl=>C2 hl
     exact⟨pk _ (BT E).1,pk _ (BT E).2⟩⟩
   | 4,_=>exact⟨_,h.g4,.inr ⟨⟨trivial,⟨by show 1<8+T.length;omega,⟨by show 5<8+T.length;omega,trivial⟩⟩⟩,trivial⟩⟩
   | 5,_=>exact⟨_,h.g5,pu⟩
   | 6,_=>exact⟨_,m.b,.inr ⟨by show 7<8+T.length;omega,trivial⟩⟩
   | 7,_=>exact⟨_,m.m,.inr (acR fun i hi=>by have:=EX.1 hi;omega)⟩
   | j+8,h8=>omega
  .have:=m.r (j-8) (by omega)
   rw[show 6+2+(j-8)=j by omega] at this
   exact⟨_,this,pu⟩)
 refine⟨ap,e,h.aky (fun j hj=>g j (by omega)),⟨m.l,by rw[g 6 (by omega)];exact m.b,by rw[g 7 (by omega)];exact m.m,m.q,fun i hi=>by rw[g (6+2+i) (by omega)];exact m.r i hi⟩⟩
def AZ(N i:Nat):Env:=[(3,.ptr 0 0),(5,.ptr 1 0),(10,.ptr 2 0),(13,.ptr 4 0),(14,.ptr 6 0),(58,aa N),(59,aa i)]
section
variable {P:aE}{L:Lib}
def azD{V:List (List Nat)}{E:List (Int×Int)}{C R S N m:Nat}(hv:bi bQ v V)(hV:jI V N m)(hN:N<=64)(zt:0<m)(hm:m<=64):
  cG P L [3,5,10,13,14,58,59] Lw (fun n st=>∃i hp,i+n=N/\GM hp 6 N (decide (i=0)) ydB ydB 4 (yj i m) (yj i (rW m)) (N-i)/\Aw hp C R S v d f bv E/\st=⟨AZ N i,hp,8+i,0⟩) (fun ex s'=>∃tm hp ct,s'=⟨tm,hp,ct,0⟩/\ex=.exit 2/\GM hp 6 N (decide (N=0)) ydB ydB 4 (yj N m) (yj N (rW m)) 0/\Aw hp C R S v d f bv E/\bF tm [3,10,13,14]=[(3,.ptr 0 0),(10,.ptr 2 0),(13,.ptr 4 0),(14,.ptr 6 0)]):=by
 apply cI;rintro n st ⟨i,hp,cA,hM,hB,rfl⟩;by_cases hi:i<N
 .left
  have hiV:i<V.length:=by rw[hV.len];exact hi
  obtain⟨u,rest,hu,e0⟩:=hv.bk hiV;have hu:cB u (dB V[i]):=hu;have hlu:(dB V[i]).length=m:=by rw[<-hV.row _ (xA hiV)];simp
  have mM:(i:Int)<(N:Nat):=by omega
  have wi:IntKind.wrap .i64 ((i:Int)+1)=((i+1:Nat):Int):=wrap64 (by omega) (by omega);have db:bY (aa i)=GR i:=rfl;have asm:bY (aa m)=GR m:=rfl;have cy:∀ct,zY ct 4 64 [AV.int .i64 0,.aj,.int .i64 0,.aj] (GR m) (GR m)=GR (.ay ct 0 m,.cells ydB ydB ydB 4 (rW m)):=fun ct=>Fm (by omega) (by omega) rfl rfl
  obtain⟨r,hr⟩:∃r,N-i=r+1:=⟨N-i-1,by omega⟩;have g1:=hB.g1;have gb:=hM.b;have gm:=hM.m;rw[wB,hr] at gm;have gD:=dd (sz:=1) (n:=N) 7 0 hi;have aR:=fun (hp:Hp) (ct:Nat) (b w:Nat)=>avq (hp:=hp) (ct:=ct) (a:=7) (b:=b) (w:=w) (i:=i) (m:=r) (pu:=decide (i=0)) (x:=ydB) (ids:=cK 6 i) (W:=yj i m) (by simp) (pD _ _)
  simp only[go_sem,ya,yb,yg,Lw,AZ,mM,gb,g1,yd,ye,db,e0,hu.len,hlu,asm,cy,gD];rw[eK _ _ (show 8+i≠7 by omega),gm,aR];simp only[go_sem,ya,wi];have sO:∀j,ah (aJ ((8+i,Obj.cells ydB ydB ydB 4 (rW m))::hp) 7 (.cells ydB ydC ydB 1 (gP (cK 6 i) (yj i m)++ .ay (8+i) 0 m::yj r .aj))) j=if j=7 then GR (.cells ydB ydC ydB 1 (gP (cK 6 i) (yj i m)++ .ay (8+i) 0 m::yj r .aj)) else if j=8+i then GR (.cells ydB ydB ydB 4 (rW m)) else ah hp j:=fun j=>by
   rw[n5];by_cases h4:j=7
   .rw [yC h4,yC h4,eK _ _ (show 8+i≠7 by omega),gm];rfl
   .rw [yq h4,yq h4];by_cases h5:j=8+i
    .rw [yC h5,h5,jW]
    .rw [yq h5,eK _ _ (fun q=>h5 q.symm)]
  generalize aJ ((8+i,Obj.cells ydB ydB ydB 4 (rW m))::hp) 7 (.cells ydB ydC ydB 1 (gP (cK 6 i) (yj i m)++ .ay (8+i) 0 m::yj r .aj))=aZ at*
  have hB1:Aw aZ C R S v d f bv E:=hB.aky (fun j hj=>by rw[sO,yq (by omega),yq (by omega)]);have Uh:GM aZ 6 N ydC ydB ydB 4 (yj (i+1) m) (yj (i+1) (rW m)) r:=by
   refine⟨by simp,by rw[sO,yq (by omega),yq (by omega)];exact gb,?_,fun _=>rfl,fun j hj=>?_⟩
   .rw [sO,yC rfl,wB];have hid:cK 6 (i+1)=cK 6 i++[8+i]:=by unfold cK;rw[List.range'_concat];simp
    rw[hid];unfold gQ;rw[List.replicate_succ',aeT (by rw[pD];simp),xt];rfl
   .rw [wB] at hj;by_cases IL:j<i
    .rw [sO,yq (by omega),yq (by omega)]
     have:=hM.r j (by simpa using IL)
     rw[this,DH (by simpa using IL),DH (by simp;omega)]
     simp
    .have ZE:j=i:=by omega
     subst ZE;rw[sO,yq (by omega),yC (by omega),DH (by simp)]
     simp
  obtain⟨jB,q1,q2,q3⟩:=azC (live:=[3,5,10,13,14,58,59]) (tm:=AZ N (i+1)) (ct:=8+i+1) hB1 Uh (by simp;omega) (by simp only[go_sem,ya,AZ]) (by simp only[go_sem,ya,AZ];exact⟨show 0<8 by decide,show 1<8 by decide,show 2<8 by decide,show 4<8 by decide,show 6<8 by decide,trivial,trivial,trivial⟩)
  refine⟨_,n-1,rfl,by omega,i+1,jB,by omega,?_,q2,?_⟩
  .rw [show N-(i+1)=r by omega,yJ (show ¬i+1=0 by omega)];exact q3
  .rw [nA (c':=8+i+1) (tm':=AZ N (i+1)) (by simp only[go_sem,ya,AZ]<;>rfl),q1,wB]
   simp only[go_sem,ya,AZ]<;>rfl
 .right
  have CU:i=N:=by omega
  subst CU;simp only[go_sem,ya,Lw,AZ,show ¬(i:Int)<i by omega];rw[Nat.sub_self] at hM;exact⟨_,_,rfl,by simp,_,_,_,rfl,rfl,hM,hB,by simp only[go_sem,ya]<;>rfl⟩
end
end
end VE
end
section
set_option maxHeartbeats 4000000
namespace VE
open Go (IntKind)
section
variable {bv d f v:AV}{w:Bool}{H:Hp}{C R S:Int}{N c m:Nat}
def GN:AV:=.fn (.f 671) [] [.ptr 4 0,.ptr 5 0]
structure eA(C R S:Int)(v d f bv:AV)(E:List (Int×Int))(N m:Nat)(M:List (List (Option Rat)))(w:Bool)(c:Nat)(H:Hp):Prop where
 g0:ah H 0=GR (bG C R S)
 g1:ah H 1=GR (.cells ydB ydC ydB 1 [.map 2])
 g2:ah H 2=GR (.mp ydB (jK E) (jL E))
 g3:ah H 3=GR (.cells ydB ydC ydB 1 [GN])
 g4:ah H 4=GR (.cells w ydB ydB 1 [v])
 g5:ah H 5=GR (.cells w ydB ydB 3 [d,f,bv])
 gb:ah H 6=GR (.cells ydB ydC ydB 1 [.ay 7 0 N])
 gm:ah H 7=GR (.cells ydB ydC ydB 1 (gP (cK 6 N) (yj N m)))
 gr:∀y,y<N->∃cs,ah H (8+y)=GR (.cells ydB ydB ydB 4 cs)/\QO cs (M.getD y [])
 rM:∀y,y<N->(M.getD y []).length=m
 lM:M.length=N
 bl:iY c c H
 rl:(cE c H).length<=1000
 hc:8+N<=c
def eA.up{E:List (Int×Int)}{M M':List (List (Option Rat))}{w':Bool}{H':Hp}(lo:eA C R S v d f bv E N m M w c H)(h4:ah H' 4=GR (.cells w' ydB ydB 1 [v]))(h5:ah H' 5=GR (.cells w' ydB ydB 3 [d,f,bv]))(hs:∀j,j<8->j≠4->j≠5->ah H' j=ah H j)(hr:∀y,y<N->∃cs,ah H' (8+y)=GR (.cells ydB ydB ydB 4 cs)/\QO cs (M'.getD y []))(rM:∀y,y<N->(M'.getD y []).length=m)(lM:M'.length=N)(bl:iY c c H')(rl:(cE c H').length<=1000):eA C R S v d f bv E N m M' w' c H':=
 ⟨by rw[hs 0 (by omega) (by omega) (by omega)];exact lo.g0,by rw[hs 1 (by omega) (by omega) (by omega)];exact lo.g1,by rw[hs 2 (by omega) (by omega) (by omega)];exact lo.g2,by rw[hs 3 (by omega) (by omega) (by omega)];exact lo.g3,h4,h5,by rw[hs 6 (by omega) (by omega) (by omega)];exact lo.gb,by rw[hs 7 (by omega) (by omega) (by omega)];exact lo.gm,hr,rM,lM,bl,rl,lo.hc⟩
def eA.upd{E:List (Int×Int)}{M:List (List (Option Rat))}(lo:eA C R S v d f bv E N m M w c H){x y:Nat}{q1 q2 q3 q4:AV}{z:Rat}{cs:List AV}(hx:x<m)(hy:y<N)(hz:b8 (.agg [q1,q2,q3,q4]) z)(hg:ah H (8+y)=GR (.cells ydB ydB ydB 4 cs))(hQ:QO cs (M.getD y [])):
  eA C R S v d f bv E N m (M.set y ((M.getD y []).set x (GR z))) w c (aJ H (8+y) (.cells ydB ydB ydB 4 (VE.over (x*4) [q1,q2,q3,q4] cs))):=by
 have bL:∀j,j≠8+y->ah (aJ H (8+y) (.cells ydB ydB ydB 4 (VE.over (x*4) [q1,q2,q3,q4] cs))) j=ah H j:=fun j hj=>by rw[n5,yq hj]
 have hyM:y<M.length:=by rw[lo.lM];exact hy
 have Ou:∀j,j<N->(M.set y ((M.getD y []).set x (GR z))).getD j []=if j=y then (M.getD y []).set x (GR z) else M.getD j []:=fun j hj=>by
  have hjM:j<M.length:=by rw[lo.lM];exact hj
  rw[yV,ybE];by_cases e:y=j
  .subst e;simp[hyM]
  .rw [yq e,yq (fun q=>e q.symm),yV]
 refine lo.up (by rw[bL 4 (by omega)];exact lo.g4) (by rw[bL 5 (by omega)];exact lo.g5) (fun j hj _ _=>bL j (by omega)) (fun j hj=>?_) (fun j hj=>?_) (by rw[ycd];exact lo.lM) (Kb (o:=.cells ydB ydB ydB 4 (VE.over (x*4) [q1,q2,q3,q4] cs)) (Or.inl rfl) lo.bl) ?_
 .rw [Ou j hj];by_cases e:j=y
  .subst e;rw[yC rfl];refine⟨VE.over (x*4) [q1,q2,q3,q4] cs,?_,hQ.over (by rw[lo.rM j hj];exact hx) hz⟩
   rw[n5,yC rfl,hg];rfl
  .rw [yq e,bL (8+j) (by omega)];exact lo.gr j hj
 .rw [Ou j hj];by_cases e:j=y
  .rw [yC e,ycd];exact lo.rM y hy
  .rw [yq e];exact lo.rM j hj
 .rw [J7 (o:=.cells ydB ydB ydB 4 (VE.over (x*4) [q1,q2,q3,q4] cs)) (u:=.cells ydB ydB ydB 4 cs) rfl hg];exact lo.rl
def eA.rcd{E:List (Int×Int)}{id:Nat}{M:List (List (Option Rat))}(lo:eA C R S v d f bv E N m M w c H)(hi:8+N<=id){u o:Obj}(hg:ah H id=GR u)(hr:dz o=dz u)(hb:lH c o):eA C R S v d f bv E N m M w c (aJ H id o)/\ah (aJ H id o) id=GR o:=by
 have bL:∀j,j≠id->ah (aJ H id o) j=ah H j:=fun j hj=>by rw[n5,yq hj]
 refine⟨lo.up (by rw[bL 4 (by omega)];exact lo.g4) (by rw[bL 5 (by omega)];exact lo.g5) (fun j hj _ _=>bL j (by omega)) (fun j hj=>by rw[bL (8+j) (by omega)];exact lo.gr j hj) lo.rM lo.lM (Kb hb lo.bl) (by rw[J7 hr hg];exact lo.rl),by rw[n5,yC rfl,hg];rfl⟩
def V7{J:Hp}{id:Nat}{o:Obj}(h:∀p:Nat×Obj,p∈J->p.1≠id):aJ (J++H) id o=J++aJ H id o:=by
 induction J with
 | nil=>rfl
 | cons p J ih=>
  obtain⟨i,u⟩:=p;rw[yI,qD _ _ _ (h (i,u) xJ),ih (fun q hq=>h q (xr _ hq)),yI]
def KD{J:Hp}{id:Nat}(h:∀p:Nat×Obj,p∈J->p.1≠id):ah (J++H) id=ah H id:=by
 induction J with
 | nil=>rfl
 | cons p J ih=>
  obtain⟨i,u⟩:=p;rw[yI,eK _ _ (h (i,u) xJ),ih (fun q hq=>h q (xr _ hq))]
def eA.ai{E:List (Int×Int)}{M:List (List (Option Rat))}(lo:eA C R S v d f bv E N m M w c H):
  ∃H4 H1,eA C R S v d f bv E N m M ydC c H1/\(∀j,6<=j->ah H1 j=ah H j)/\(∀(J:Hp) (n:Nat),(∀p:Nat×Obj,p∈J->6<=p.1)->freeze (n+20) (J++H) (.ptr 4 0)=GR (.bC [v],J++H4))/\(∀(J:Hp) (n:Nat),(∀p:Nat×Obj,p∈J->6<=p.1)->freeze (n+20) (J++H4) (.ptr 5 0)=GR (.bC [d,f,bv],J++H1)):=by
 have hJ:∀{J:Hp} {id:Nat},id<6->(∀p:Nat×Obj,p∈J->6<=p.1)->∀p:Nat×Obj,p∈J->p.1≠id:=fun hi h p hp=>by have:=h p hp;omega
 cases w with
 | false=>
  refine⟨H,H,lo,fun _ _=>rfl,fun J n h=>?_,fun J n h=>?_⟩
  .have a4:ah (J++H) 4=GR (.cells ydC ydB ydB 1 [v]):=by rw[KD (hJ (by omega) h)];exact lo.g4
   simp only[go_sem,a4,KM,E3,WZ,LF,ye]
  .have a5:ah (J++H) 5=GR (.cells ydC ydB ydB 3 [d,f,bv]):=by rw[KD (hJ (by omega) h)];exact lo.g5
   simp only[go_sem,a5,KM,E3,WZ,LF,ye]
 | true=>
  have e5:ah (aJ H 4 (.cells ydC ydB ydB 1 [v])) 5=ah H 5:=by rw[n5,yq (by omega)]
  have n4:∀j,j≠4->j≠5->ah (aJ (aJ H 4 (.cells ydC ydB ydB 1 [v])) 5 (.cells ydC ydB ydB 3 [d,f,bv])) j=ah H j:=fun j h4 h5=>by rw[n5,yq h5,n5,yq h4]
  refine⟨aJ H 4 (.cells ydC ydB ydB 1 [v]),aJ (aJ H 4 (.cells ydC ydB ydB 1 [v])) 5 (.cells ydC ydB ydB 3 [d,f,bv]),lo.up (by rw[n5,yq (by omega),n5,yC rfl,lo.g4];rfl) (by rw[n5,yC rfl,e5,lo.g5];rfl) (fun j _ h4 h5=>n4 j h4 h5) (fun y hy=>by rw[n4 (8+y) (by omega) (by omega)];exact lo.gr y hy) lo.rM lo.lM (Kb (o:=.cells ydC ydB ydB 3 [d,f,bv]) (Or.inl rfl) (Kb (o:=.cells ydC ydB ydB 1 [v]) (Or.inl rfl) lo.bl)) ?_,fun j hj=>n4 j (by omega) (by omega),fun J n h=>?_,fun J n h=>?_⟩
  .rw [J7 (o:=.cells ydC ydB ydB 3 [d,f,bv]) (u:=.cells ydB ydB ydB 3 [d,f,bv]) rfl (by rw[e5];exact lo.g5),J7 (o:=.cells ydC ydB ydB 1 [v]) (u:=.cells ydB ydB ydB 1 [v]) rfl lo.g4]
   exact lo.rl
  .have a4:ah (J++H) 4=GR (.cells ydB ydB ydB 1 [v]):=by rw[KD (hJ (by omega) h)];exact lo.g4
   have b4:aJ (J++H) 4 (.cells ydC ydB ydB 1 [v])=J++aJ H 4 (.cells ydC ydB ydB 1 [v]):=V7 (hJ (by omega) h);simp only[go_sem,a4,b4,KM,E3,WY,LF,ye]
  .have a5:ah (J++aJ H 4 (.cells ydC ydB ydB 1 [v])) 5=GR (.cells ydB ydB ydB 3 [d,f,bv]):=by rw[KD (hJ (by omega) h),e5];exact lo.g5
   have b5:aJ (J++aJ H 4 (.cells ydC ydB ydB 1 [v])) 5 (.cells ydC ydB ydB 3 [d,f,bv])=J++aJ (aJ H 4 (.cells ydC ydB ydB 1 [v])) 5 (.cells ydC ydB ydB 3 [d,f,bv]):=V7 (hJ (by omega) h);simp only[go_sem,a5,b5,KM,E3,WY,LF,ye]
def bW(A B:VC)(TM:Env)(N:Nat)(la lb:Nat)(st:Nat)(H:Hp):Hp:=(N+10,.lp TM [79,80] A B st .none)::(N+9,.cells ydB ydB ydB 2 [aa la,aa lb])::H
def akz{wr:Nat}(hy:wr<N):gY 1 ydC (vP wr (gP (cK 6 N) (yj N m)))=GR (.ay (wr+8) 0 m):=by
 unfold gP;have hl:wr<(uI (fun i w=>AV.ay i 0 w) (cK 6 N) (yj N m)).length:=by simp[pD];exact hy
 rw[yX hl,List.getElem_zipWith,V6];simp only[List.getElem_replicate,show 6+2+wr=wr+8 by omega];rfl
section
variable {P:aE}{L:Lib}
def azE(h:Av P L){TM:Env}{C R S la lb:Nat}{V Dk F:List (List Nat)}{E:List (Int×Int)}{M:List (List (Option Rat))}(lo:eA C R S v d f bv E N m M w (N+9) H)(hv:bi bQ v V)(hd:bi bQ d Dk)(hf:bi bQ f F)(hV:jI V N m)(hD:jI Dk N m)(hF:jI F N m)(eJ:lz F=ydC)(t10:ak TM 10=.ptr 1 0)(t13:ak TM 13=.ptr 3 0)(t14:ak TM 14=.ptr 6 0)(hN:N<=64)(hm:m<=64){i r wc wr:Nat}(hx:wc<m)(hy:wr<N)(oE:du E ((wc:Int),(wr:Int))=ydC):
  ∃H',eA C R S v d f bv E N m (M.set wr ((M.getD wr []).set wc (GR (nP V Dk F wc wr)))) ydC (N+9) H'/\(∀j,ah H (N+8)=GR j->ah H' (N+8)=GR j)/\∀Ac Bc,∃tm,D P L fX ⟨(19,.ptr (N+12) 0)::(18,.ptr (N+11) 0)::(80,.agg [aa wc,aa wr])::(79,.agg [aa i,aa r])::TM,(N+12,.cells ydB ydB ydB 2 [aa wc,aa wr])::(N+11,.cells ydB ydB ydB 2 [aa i,aa r])::bW Ac Bc TM N la lb 1 H,N+13,N+13⟩=GR (.normal,⟨tm,(N+12,.cells ydB ydB ydB 2 [aa wc,aa wr])::(N+11,.cells ydB ydB ydB 2 [aa i,aa r])::bW Ac Bc TM N la lb 1 H',N+13,N+13⟩):=by
 obtain⟨H4,H1,ph,hk,fa,ZJ⟩:=lo.ai;obtain⟨x,e1,hxq⟩:=akx (bv:=bv) h.toAvg.toCtd.toExc h.S4 hv hd hf hV hD hF eJ hy hx;obtain⟨cs,hg,hQ⟩:=ph.gr wr hy;have gE:=hxq;obtain⟨x1,x2,x3,x4,rfl,gx⟩:=hxq.gen;refine⟨_,ph.upd hx hy gE hg hQ,fun j hj=>by rw[n5,yq (by omega),hk _ (by omega)];exact hj,fun Ac Bc=>?_⟩
 have S6:bY (aa wc)=GR wc:=rfl;have S7:bY (aa wr)=GR wr:=rfl;have S8:=dd (sz:=1) (n:=N) 7 0 hy;have S9:=fun id=>dd (sz:=4) (n:=m) id 0 hx
 have my:=akz (N:=N) (m:=m) hy;have g1:=lo.g1;have g2:=lo.g2;have g3:=lo.g3;have gb:=lo.gb;have gm:=lo.gm;have EF:=X6 ydB (wc:Int) (wr:Int) E;rw[oE] at EF;have Of:ah H1 (wr+8)=GR (.cells ydB ydB ydB 4 cs):=by rw[yay];exact hg
 have aR:=fun (hp:Hp) (ct:Nat)=>stO (hp:=hp) (ct:=ct) (id:=wr+8) (ex:=ydB) hQ (show wc<(M.getD wr []).length by rw[lo.rM wr hy];exact hx) gx
 have hJ:∀p:Nat×Obj,p∈[(N+12,Obj.cells ydB ydB ydB 2 [aa wc,aa wr]),(N+11,.cells ydB ydB ydB 2 [aa i,aa r]),(N+10,.lp TM [79,80] Ac Bc 1 .none),(N+9,.cells ydB ydB ydB 2 [aa la,aa lb])]->6<=p.1:=fun p hp=>by
  simp only[we,List.not_mem_nil,yaA] at hp;rcases hp with rfl | rfl | rfl | rfl<;>simp
 have Np:=fun n=>fa _ n hJ
 have akA:=fun n=>ZJ _ n hJ
 simp only[yI,yN] at Np akA;have J3:=ZD;have d1:¬N+1=wr:=by omega
 have d2:¬N+2=wr:=by omega
 have d3:¬N+3=wr:=by omega
 have d4:¬N+4=wr:=by omega
 unfold ab at e1;unfold bW;rw[yay 8 wr];unfold GN at g3;simp only[go_sem,ya,yg,fX,t10,t13,t14,g1,g2,g3,gb,gm,aP,yd,ye,yk,cd,KR,Mf,EF,yM,S7,S6,S8,my,Np,akA,J3,e1,S9,d1,d2,d3,d4,uO,xG,Of,aR];exact⟨_,rfl⟩
end
end
end VE
end
