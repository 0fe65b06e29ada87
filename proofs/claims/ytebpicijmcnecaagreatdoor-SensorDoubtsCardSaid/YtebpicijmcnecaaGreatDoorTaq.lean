import Derived.Test.YtebpicijmcnecaaGreatDoorTap
set_option linter.all false
set_option maxRecDepth 100000
open BitVec renaming ofInt->wu,ofNat->tE,toNat_ofNat->vZ
open Bool renaming and_self->wL,false_eq_true->yC,not_false->yY,not_true->yX
open Go renaming Code->vA,Func->yaE,World->yj
open Go.Fence renaming wide->ybo
open Int renaming ediv_emod_unique->yae,gcd->vv,gcd_comm->ycw,natAbs_ediv_of_dvd->tf,natCast_mul->xM,pow_zero->yaN,reduceEq->yay
open List renaming append_assoc->xy,drop_zero->ye,length_append->yN,length_cons->yy,length_nil->yJ,map_append->xb,map_map->ybs,map_reverse->yav,nil_append->yG
open Nat renaming add_zero->y5,beq->yq,ble->yE,ble_eq_true_of_le->yB,blt->yO,div_add_mod->xQ,div_eq_of_lt->xW,div_le_self->vI,le_refl->yu,le_trans->xi,lt_of_le_of_lt->wh,lt_of_lt_of_le->yP,mod_eq_of_lt->yS,mod_le->ycX,mod_lt->xG,mul_add->xE,mul_le_mul_left->yW,mul_one->yi,mul_zero->xC,pow_le_pow_left->ub,pow_le_pow_right->y9,pow_pos->ybM,pow_succ->xh,reduceAdd->yb,reduceEqDiff->ya,reduceLT->yz,reduceLeDiff->yk,reduceMul->xq,zero_add->yd
open Rat renaming den_divInt->ybW,divInt->wI,divInt_ofNat->ybG,lt_iff->ycY,num_divInt->ybV,sub_eq_add_neg->ybn
open UInt8 renaming toNat->xk
open Option renaming some->FL,none->FM
open Bool renaming true->ycZ
namespace VE
open Go (IntKind)
variable {P:aF}{L:Lib}
section
variable {v w:AV}{a b:Int}{K:Nat}
def DR{P:aF}{L:Lib}(a b c:VC)(s:St):D P L (.seq a (.seq b c)) s=qW P L (D P L (.seq a b) s) c:=by
 rw[nC,nC]
 cases D P L a s with
 | none=>rfl
 | some q=>
  have⟨ex,st⟩:=q
  cases ex with
  | normal=>rw[iS,iS,nC]
  | ret=>rfl
  | exit id=>rfl
def aee{s s':Int}{w':AV}{l l':List Nat}(h:bP w l)(h':bP w' l')(hp:Hp):result hp (.aw [.agg [aa s,w],.agg [aa s',w']])=FL (.aw [.agg [aa s,w],.agg [aa s',w']]):=by
 rcases h with ⟨rfl,_⟩ | ⟨e,rfl⟩<;>rcases h' with ⟨rfl,_⟩ | ⟨e',rfl⟩<;>rfl
def QH(tm:Env)(hp:Hp)(ct:Nat)(rs:List (Nat×Bool×Nat))(sz:Nat)(p:AV)(new:List AV):gB:=match p with | .ptr id o=>bif jG tm id rs then fy hp ct id o sz new (ak hp id) else FM | _=>FM
def LF(id:Nat):AV->Bool | .ptr j _=> !yq j id | .bN _=>ycZ | _=>false
def GG{P:aF}{L:Lib}(f:cl)(tm:Env)(hp:Hp)(ct:Nat)(rs:List (Nat×Bool×Nat))(sz:Nat)(x v:X):aY P L f tm hp ct (.lI rs sz x v)=QH tm hp ct rs sz (ay tm x) (cellsOf (ay tm v)):=by
 simp only[aY,QH]
 cases hx:ay tm x with
 | ptr id o=>
  rw[aca,hx,afA]
 | _=>rfl
def GH{tm:Env}{hp:Hp}{ct:Nat}{rs:List (Nat×Bool×Nat)}{sz id o:Nat}{new:List AV}(h:jG tm id rs=ycZ):QH tm hp ct rs sz (.ptr id o) new=fy hp ct id o sz new (ak hp id):=by
 simp only[QH,h,yx]
def Gb(tm:Env)(id:Nat):jG tm id []=ycZ:=(rfl)
def F1(tm:Env)(id sz x:Nat)(ag:Bool)(r:List (Nat×Bool×Nat)):jG tm id ((sz,ag,x)::r)=(LF id (aj tm x)&&jG tm id r):=by
 simp only[jG,LF]
 grind
def O2{id j o:Nat}(h:j≠id):LF id (.ptr j o)=ycZ:=by simp only[LF,gW h,yY]
def ag7(h:Nu P L)(hv:cD v a)(hw:cD w b)(ka:Bd K a)(kb:Bd K b)(hK:K<=40000000000):∃r,ab P L 156 [v,w] r/\cD r (a-b):=by
 have⟨n,e1,hn⟩:=Hl h hw kb (by lia);have⟨r,e2,hr⟩:=LD h hv hn ka kb.neg hK;have bh:=hr;obtain⟨s1,w1,rfl,h1⟩:=hv;obtain⟨s2,w2,rfl,h2⟩:=hw;obtain⟨s3,w3,rfl,h3⟩:=hn;obtain⟨s4,w4,rfl,h4⟩:=hr;have⟨l1,u1⟩:=h1.aK;have⟨l2,u2⟩:=h2.aK;have⟨l3,u3⟩:=h3.aK;have⟨l4,u4⟩:=h4.aK;refine⟨_,?_,bh⟩;unfold ab;rw[aE h.azx];simp only[go_sem,ya,yb,Wc,aQ,u1.pu,u1.ai,u1.one,u2.pu,u2.ai,u2.one,u3.ai,bY,e1,e2,bz,cI,cJ,cr,ye,ol u4,eb u4]
def ag8(h:Nu P L)(hv:cD v a)(hw:cD w b)(ka:Bd K a)(kb:Bd K b)(hK:K<=40000000000):ab P L 118 [v,w] (aa (bX (a-b))):=by
 have⟨d,e1,hd⟩:=ag7 h hv hw ka kb hK;have e2:=Hk h hd;obtain⟨s1,w1,rfl,h1⟩:=hv;obtain⟨s2,w2,rfl,h2⟩:=hw;obtain⟨s3,w3,rfl,h3⟩:=hd;have⟨l2,u2⟩:=h2.aK;have⟨l3,u3⟩:=h3.aK;unfold ab;rw[aE h.azw];rcases h1 with ⟨rfl,rfl,a1,a2⟩ | ⟨e,l,rfl,ga,na,va,sa,a1⟩
 .rcases h2 with ⟨rfl,rfl,b1,b2⟩ | ⟨e,l,rfl,gb,nb,vb,sb,b1⟩
  .by_cases c1:s1<s2
   .rw [show bX (s1-s2)= -1 by unfold bX;rw[yD (by lia)]];simp only[go_sem,ya,yb,EJ,aQ,iE,eD,aT,yd,df,c1]
   .by_cases c2:s2<s1
    .rw [show bX (s1-s2)=1 by unfold bX;rw[yt (by lia),yt (by lia)]];simp only[go_sem,ya,yb,EJ,aQ,iE,eD,aT,yd,df,c1,c2]
    .rw [show bX (s1-s2)=0 by unfold bX;rw[yt (by lia),yD (by lia)]];simp only[go_sem,ya,yb,EJ,aQ,iE,eD,aT,yd,df,c1,c2]
  .simp only [go_sem,ya,yb,EJ,aQ,iE,oZ,eD,aT,yd,df,cr,bY,e1,e2,u3.ai,bz]
 .simp only [go_sem,ya,yb,EJ,aQ,u2.pu,u2.ai,u2.one,oZ,eD,aT,yd,df,cr,bY,e1,e2,u3.ai,bz]
def avl(h:Nu P L){s1 s2:Int}{w1 w2:AV}(ha:dD s1 w1 a)(hb:dD s2 w2 b)(ka:Bd K a)(kb:Bd K b)(hK:K<=40000000000):
  ∃r,cD r (a*b)/\∀tm,aj tm 2=.ptr 0 0->aj tm 3=.ptr 1 0->aj tm 4=.ptr 2 0->gn [.cell 4 2 ycZ] (D P L (aD (aD nE.body)) ⟨tm,[(2,.cells ycZ ycZ ycZ 2 [.int .i64 0,.ah]),(1,.cells ycZ ycZ ycZ 2 [aa s2,w2]),(0,.cells ycZ ycZ ycZ 2 [aa s1,w1])],3,0⟩)=FL r:=by
 have⟨l1,u1⟩:=ha.aK;have⟨l2,u2⟩:=hb.aK;have⟨p,e1,hp⟩:=Bs h ha;have⟨q,e2,hq⟩:=Bs h hb;have⟨lp,ic,gp,np,vp⟩:=hp.aK;have⟨lq,pZ,gq,nq,vq⟩:=hq.aK;have Dv:=yP ka (Cu K);have HT:=yP kb (Cu K);have llp:lp.length<=40000000000:=xi (pD np vp Dv) hK;have llq:lq.length<=40000000000:=xi (pD nq vq HT) hK;have⟨o,lj,e3,ho,oH,no,vo⟩:=aze h.azm h.nH h.nI h.ia ic pZ gp gq (by lia) (by lia);have⟨r,e4,hr⟩:=EY h (decide (a<0) !=decide (b<0)) ⟨lj,ho,oH,no,vo⟩ (K:=K+K) (by rw[vp,vq,Nat.pow_add];exact Nat.mul_lt_mul'' Dv HT) (by lia)
 rw[vp,vq,acp] at hr;have bh:=hr;obtain⟨s',w',rfl,jB⟩:=hr;have⟨l',j0⟩:=jB.aK;refine⟨_,bh,fun tm t2 t3 t4=>?_⟩;have Aj:∀x y:Bool,Bo ycZ (FL (x==y))=FL (.bool (x !=y)):=fun x y=>by cases x<;>cases y<;>rfl
 simp only[go_sem,ya,nE,aD,t2,t3,t4,cr,bY,u1.ai,u2.ai,e1,e2,ic.ai,pZ.ai,qX,Aj,e3,ho.ai,ho.shut,e4,bz,cI,cJ,cr,ye,ol j0,eb j0]
def apm{m:Nat}(h:a.natAbs*b.natAbs=m):a*b=if (decide (a<0)==decide (b<0))=ycZ then (m:Int) else 0-(m:Int):=by
 have:=acp (a:=a) (b:=b)
 rw[h] at this;unfold cx at this
 cases hd:(decide (a<0)==decide (b<0)) with
 | true=>simp only[bne,hd,yX,yC,xm] at this;exact this.symm
 | false=>simp only[bne,hd,yY,xA] at this;rw[yt (by decide)];lia
def zX(h:Nu P L)(hv:cD v a)(hw:cD w b)(ka:Bd K a)(kb:Bd K b)(hK:K<=40000000000):∃r,ab P L 100 [v,w] r/\cD r (a*b):=by
 obtain⟨s1,w1,rfl,h1⟩:=hv;obtain⟨s2,w2,rfl,h2⟩:=hw;have⟨l1,u1⟩:=h1.aK;have⟨l2,u2⟩:=h2.aK;have⟨r,hr,tail⟩:=avl h h1 h2 ka kb hK;have fin:∀tm,aj tm 2=.ptr 0 0->aj tm 3=.ptr 1 0->aj tm 4=.ptr 2 0->
   D P L (.seq (bB nE.body) (bB (aD nE.body))) ⟨[(0,.agg [aa s1,w1]),(1,.agg [aa s2,w2])],[],0,0⟩=FL (.normal,⟨tm,[(2,.cells ycZ ycZ ycZ 2 [.int .i64 0,.ah]),(1,.cells ycZ ycZ ycZ 2 [aa s2,w2]),(0,.cells ycZ ycZ ycZ 2 [aa s1,w1])],3,0⟩)->ab P L 100 [.agg [aa s1,w1],.agg [aa s2,w2]] r:=fun tm t2 t3 t4 e=>by
  unfold ab;rw[aE h.QG];show gn [.cell 4 2 ycZ] (D P L (.seq (bB nE.body) (.seq (bB (aD nE.body)) (aD (aD nE.body)))) ⟨[(0,.agg [aa s1,w1]),(1,.agg [aa s2,w2])],[],0,0⟩)=_
  rw[DR,e,iS];exact tail tm t2 t3 t4
 rcases h1 with ⟨rfl,rfl,a1,a2⟩ | ⟨e,l,rfl,ga,na,va,sa,a1⟩
 .rcases h2 with ⟨rfl,rfl,b1,b2⟩ | ⟨e,l,rfl,gb,nb,vb,sb,b1⟩
  .have f1:=WH h a1 a2;have f2:=WH h b1 b2;have f3:=O0 (P:=P) (f:=D P L) h.nI (x:=s1.natAbs) (y:=s2.natAbs) (by lia) (by lia);obtain⟨m,hm⟩:∃m,s1.natAbs*s2.natAbs=m:=⟨_,rfl⟩;rw[hm] at f3;have pN:=apm hm;by_cases cG:m<=9223372036854775807
   .rw [xW (by lia),yS (by lia)] at f3;rw[show (uc 0)=AV.int .u64 0 from rfl] at f3;by_cases hs:(decide (s1<0)==decide (s2<0))=ycZ
    .rw [yD hs] at pN;refine⟨.agg [aa (m:Int),.ah],?_,by rw[pN];exact dD.qv (by lia) (by lia)⟩
     unfold ab;rw[aE h.QG]
     simp only[go_sem,ya,yb,nE,aQ,zF,iE,eD,Kv,qX,aT,yd,df,f1,f2,f3,show (m:Int)<=9223372036854775807 by lia,hs,OZ,wrap64 (n:=(m:Int)) (by lia) (by lia),zx];rfl
    .rw [yt hs] at pN;refine⟨.agg [aa (0-(m:Int)),.ah],?_,by rw[pN];exact dD.qv (by lia) (by lia)⟩
     unfold ab;rw[aE h.QG]
     simp only[go_sem,ya,yb,nE,aQ,zF,iE,eD,Kv,qX,aT,yd,df,f1,f2,f3,show (m:Int)<=9223372036854775807 by lia,hs,OZ,wrap64 (n:=(m:Int)) (by lia) (by lia),wrap64 (n:=0-(m:Int)) (by lia) (by lia),zx];rfl
   .by_cases nR:m/2^64=0
    .rw [nR,yS (by lia)] at f3;rw[show (uc 0)=AV.int .u64 0 from rfl] at f3;refine⟨r,fin _ ?_ ?_ ?_ (by simp only[go_sem,ya,yb,bB,aD,nE,aQ,iE,eD,aT,yd,df,f1,f2,f3,show ¬(m:Int)<=9223372036854775807 by lia]<;>rfl),hr⟩<;>simp only[go_sem,ya]
    .obtain ⟨q,hq⟩:∃q,q=m/2^64:=⟨_,rfl⟩;rw[<-hq] at f3 nR;refine⟨r,fin _ ?_ ?_ ?_ (by simp only[go_sem,ya,yb,bB,aD,nE,aQ,iE,eD,aT,yd,df,f1,f2,f3,show ¬(q:Int)=0 by lia]<;>rfl),hr⟩<;>simp only[go_sem,ya]
  .refine ⟨r,fin _ ?_ ?_ ?_ (by simp only[go_sem,ya,yb,bB,aD,nE,aQ,iE,oZ,eD,aT,yd,df]<;>rfl),hr⟩<;>simp only[go_sem,ya]
 .refine ⟨r,fin _ ?_ ?_ ?_ (by simp only[go_sem,ya,yb,bB,aD,nE,aQ,u2.pu,u2.one,oZ,eD,aT,yd,df]<;>rfl),hr⟩<;>simp only[go_sem,ya]
end
def ane{a b:Int}{q r:Nat}(hb:0<b)(h:q=a.natAbs/b.natAbs)(h2:r=a.natAbs%b.natAbs):
  (cx (decide (a<0)) r<0->a/b=cx (decide (a<0)) q-1/\a%b=cx (decide (a<0)) r+b)/\(¬cx (decide (a<0)) r<0->a/b=cx (decide (a<0)) q/\a%b=cx (decide (a<0)) r):=by
 have eV:=xQ a.natAbs b.natAbs;have aH:r<b.natAbs:=by rw[h2];exact xG _ (by lia)
 unfold cx;by_cases h0:a<0
 .simp only [h0,yM,xA];constructor
  .intro h3;refine (yae hb).2 ⟨?_,by lia,by lia⟩
   grind
  .intro h3;refine (yae hb).2 ⟨?_,by lia,by lia⟩
   grind
 .grind
def avm(h:Nu P L){s1 s2:Int}{w1 w2:AV}{a b:Int}{K:Nat}(ha:dD s1 w1 a)(hb:dD s2 w2 b)(dC:0<b)(ka:Bd K a)(kb:Bd K b)(hK:K<=30000000000):
  ∃q r,cD q (a/b)/\cD r (a%b)/\∀tm,aj tm 2=.ptr 0 0->aj tm 3=.ptr 1 0->aj tm 4=.ptr 2 0->aj tm 5=.ptr 3 0->gn [.cell 4 2 ycZ,.cell 5 2 ycZ] (D P L (aD (aD nF.body)) ⟨tm,[(3,.cells ycZ ycZ ycZ 2 [.int .i64 0,.ah]),(2,.cells ycZ ycZ ycZ 2 [.int .i64 0,.ah]),(1,.cells ycZ ycZ ycZ 2 [aa s2,w2]),(0,.cells ycZ ycZ ycZ 2 [aa s1,w1])],4,0⟩)=FL (.aw [q,r]):=by
 have⟨l1,u1⟩:=ha.aK;have⟨l2,u2⟩:=hb.aK;have⟨p,e1,hp⟩:=Bs h ha;have⟨q,e2,hq⟩:=Bs h hb;have bG:cD (.agg [aa s2,w2]) b:=⟨s2,w2,rfl,hb⟩;have⟨lp,ic,_⟩:=hp.aK;have⟨lq,pZ,_⟩:=hq.aK;have Dv:=yP ka (Cu K);have HT:=yP kb (Cu K);have⟨dq,dr,e3,Ft,jW⟩:=ag2 h.toWd hp hq (by lia) Dv HT (by lia);have⟨MU,uq,_⟩:=Ft.aK;have⟨lr1,ur,_⟩:=jW.aK;have hqk:a.natAbs/b.natAbs<(2^64)^K:=wh (vI _ _) Dv;have RW:a.natAbs%b.natAbs<(2^64)^K:=wh (ycX _ _) Dv;have hqb:a.natAbs/b.natAbs<2^K:=wh (vI _ _) ka;have YL:a.natAbs%b.natAbs<2^K:=wh (ycX _ _) ka;have⟨f1,f2⟩:=ane (a:=a) dC rfl rfl;generalize a.natAbs/b.natAbs=Q at*
 generalize a.natAbs%b.natAbs=R at*
 have⟨vq,e4,hvq⟩:=EY h (decide (a<0)) Ft hqk (by lia);have⟨vr,e5,MH⟩:=EY h (decide (a<0)) jW RW (by lia);have hsq:Bd K (cx (decide (a<0)) Q):=by unfold Bd cx;split<;>lia
 have hsr:Bd K (cx (decide (a<0)) R):=by unfold Bd cx;split<;>lia
 generalize cx (decide (a<0)) R=Rs at*
 have e6:=Hk h MH;have ag9:=hvq;have aha:=MH;obtain⟨s3,w3,rfl,h3⟩:=hvq;obtain⟨s4,w4,rfl,h4⟩:=MH;have⟨l3,u3⟩:=h3.aK;have⟨l4,u4⟩:=h4.aK;by_cases h0:Rs<0
 .have ⟨g1,g2⟩:=f1 h0;have jf:Bd (K+1) 1:=Bd.mono (k:=1) (by unfold Bd;decide) (by lia)
  have⟨o1,o2⟩:=EX h (z:=1) (by decide) (by decide);have⟨vq2,e7,WI⟩:=ag7 h ag9 o2 (K:=K+1) (hsq.mono (by lia)) jf (by lia);have⟨vr2,e8,WJ⟩:=LD h aha bG (K:=K+1) (hsr.mono (by lia)) (kb.mono (by lia)) (by lia);rw[<-g1] at WI;rw[<-g2] at WJ;have mV:bX Rs<0:=by unfold bX;rw[yD h0];decide
  have k1:=WI;have k2:=WJ;obtain⟨s5,w5,rfl,h5⟩:=WI;obtain⟨s6,w6,rfl,h6⟩:=WJ;have⟨l5,u5⟩:=h5.aK;have⟨l6,u6⟩:=h6.aK;refine⟨_,_,k1,k2,fun tm t2 t3 t4 t5=>?_⟩;simp only[go_sem,ya,yb,nF,aD,t2,t3,t4,t5,GG,GH,Gb,F1,O2,wL,aQ,cr,bY,u1.ai,u2.ai,e1,e2,ic.ai,pZ.ai,e3,uq.ai,uq.cg,ur.ai,ur.cg,e4,e5,bz,cI,cJ,cr,ye,eb u3,eb u4,u3.ai,u4.ai,e6,mV,o1,e7,e8,cI,cJ,cr,ye,eb u5,eb u6,aee u5 u6]
 .have ⟨g1,g2⟩:=f2 h0;have mV:¬bX Rs<0:=by unfold bX;rw[yt h0];split<;>decide
  refine⟨_,_,by rw[g1];exact ag9,by rw[g2];exact aha,fun tm t2 t3 t4 t5=>?_⟩
  simp only[go_sem,ya,yb,nF,aD,t2,t3,t4,t5,GG,GH,Gb,F1,O2,wL,aQ,cr,bY,u1.ai,u2.ai,e1,e2,ic.ai,pZ.ai,e3,uq.ai,uq.cg,ur.ai,ur.cg,e4,e5,bz,cI,cJ,cr,ye,eb u3,eb u4,u4.ai,e6,mV,aee u3 u4]
def ahb(h:Nu P L){v w:AV}{a b:Int}{K:Nat}(hv:cD v a)(hw:cD w b)(dC:0<b)(ka:Bd K a)(kb:Bd K b)(hK:K<=30000000000):∃q r,ab P L 164 [v,w] (.aw [q,r])/\cD q (a/b)/\cD r (a%b):=by
 obtain⟨s1,w1,rfl,h1⟩:=hv;obtain⟨s2,w2,rfl,h2⟩:=hw;have⟨l1,u1⟩:=h1.aK;have⟨l2,u2⟩:=h2.aK;have⟨q,r,hq,hr,tail⟩:=avm h h1 h2 dC ka kb hK;have fin:∀tm,aj tm 2=.ptr 0 0->aj tm 3=.ptr 1 0->aj tm 4=.ptr 2 0->aj tm 5=.ptr 3 0->
   D P L (.seq (bB nF.body) (bB (aD nF.body))) ⟨[(0,.agg [aa s1,w1]),(1,.agg [aa s2,w2])],[],0,0⟩=FL (.normal,⟨tm,[(3,.cells ycZ ycZ ycZ 2 [.int .i64 0,.ah]),(2,.cells ycZ ycZ ycZ 2 [.int .i64 0,.ah]),(1,.cells ycZ ycZ ycZ 2 [aa s2,w2]),(0,.cells ycZ ycZ ycZ 2 [aa s1,w1])],4,0⟩)->ab P L 164 [.agg [aa s1,w1],.agg [aa s2,w2]] (.aw [q,r]):=fun tm t2 t3 t4 t5 e=>by
  unfold ab;rw[aE h.WG];show gn [.cell 4 2 ycZ,.cell 5 2 ycZ] (D P L (.seq (bB nF.body) (.seq (bB (aD nF.body)) (aD (aD nF.body)))) ⟨[(0,.agg [aa s1,w1]),(1,.agg [aa s2,w2])],[],0,0⟩)=_
  rw[DR,e,iS];exact tail tm t2 t3 t4 t5
 rcases h1 with ⟨rfl,rfl,a1,a2⟩ | ⟨e,l,rfl,ga,na,va,sa,a1⟩
 .rcases h2 with ⟨rfl,rfl,b1,b2⟩ | ⟨e,l,rfl,gb,nb,vb,sb,b1⟩
  .by_cases hm:s1= -9223372036854775808
   .refine ⟨q,r,fin _ ?_ ?_ ?_ ?_ (by simp only[go_sem,ya,yb,bB,aD,nF,aQ,iE,eD,aT,yd,df,hm]<;>rfl),hq,hr⟩<;>simp only[go_sem,ya]
   .have ⟨f1,f2⟩:=am3 (a:=s1) dC;have bO:s1.tdiv s2=0\/(s1.tdiv s2).natAbs<=s1.natAbs:=.inr (Int.natAbs_tdiv_le_natAbs s1 s2);have ej:=Int.tmod_lt_of_pos s1 dC;have nM:=Int.lt_tmod_of_pos s1 dC;by_cases h0:s1.tmod s2<0
    .have ⟨g1,g2⟩:=f1 h0;rw[g1,g2];refine⟨.agg [aa (s1.tdiv s2-1),.ah],.agg [aa (s1.tmod s2+s2),.ah],?_,dD.qv (by lia) (by lia),dD.qv (by lia) (by lia)⟩;unfold ab;rw[aE h.WG]
     simp only[go_sem,ya,yb,nF,aQ,zF,iE,eD,aT,yd,df,hm,eK _ _ _ (show s2≠0 by lia),fC _ _ _ (show s2≠0 by lia),h0,wrap64 (n:=s1.tdiv s2) (by lia) (by lia),wrap64 (n:=s1.tdiv s2-1) (by lia) (by lia),wrap64 (n:=s1.tmod s2+s2) (by lia) (by lia),zx];rfl
    .have ⟨g1,g2⟩:=f2 h0;rw[g1,g2];refine⟨.agg [aa (s1.tdiv s2),.ah],.agg [aa (s1.tmod s2),.ah],?_,dD.qv (by lia) (by lia),dD.qv (by lia) (by lia)⟩;unfold ab;rw[aE h.WG]
     simp only[go_sem,ya,yb,nF,aQ,zF,iE,eD,aT,yd,df,hm,eK _ _ _ (show s2≠0 by lia),fC _ _ _ (show s2≠0 by lia),h0,wrap64 (n:=s1.tdiv s2) (by lia) (by lia),zx];rfl
  .refine ⟨q,r,fin _ ?_ ?_ ?_ ?_ (by simp only[go_sem,ya,yb,bB,aD,nF,aQ,iE,oZ,eD,aT,yd,df]<;>rfl),hq,hr⟩<;>simp only[go_sem,ya]
 .refine ⟨q,r,fin _ ?_ ?_ ?_ ?_ (by simp only[go_sem,ya,yb,bB,aD,nF,aQ,u2.pu,u2.one,oZ,eD,aT,yd,df]<;>rfl),hq,hr⟩<;>simp only[go_sem,ya]
section
variable {v w:AV}{a b:Int}{l m:List Nat}{K:Nat}
def ahc(h:Nu P L)(hv:cD v a)(hw:cD w b)(dC:0<b)(ka:Bd K a)(kb:Bd K b)(hK:K<=30000000000):∃r,ab P L 148 [v,w] r/\cD r (a/b):=by
 have e1:=Hk h hw;have⟨q,r,e2,hq,hr⟩:=ahb h hv hw dC ka kb hK;have e3:bX b=1:=by unfold bX;rw[yt (by lia),yt (by lia)]
 rw[e3] at e1;have bO:=hq;obtain⟨s1,w1,rfl,h1⟩:=hv;obtain⟨s2,w2,rfl,h2⟩:=hw;obtain⟨s3,w3,rfl,h3⟩:=hq;obtain⟨s4,w4,rfl,h4⟩:=hr;have⟨l1,u1⟩:=h1.aK;have⟨l2,u2⟩:=h2.aK;have⟨l3,u3⟩:=h3.aK;have⟨l4,u4⟩:=h4.aK;refine⟨_,?_,bO⟩;unfold ab;rw[aE h.azy];simp only[go_sem,ya,yb,Wb,Int.reduceLT,yH,aQ,u1.pu,u1.ai,u1.one,u2.pu,u2.ai,u2.one,yd,bY,e1,e2,Cc,cI,cJ,cr,ye,ol u3,eb u3,eb u4]
def avn(h:Nu P L)(G:Nat)(hK:K<=30000000000){o1 o2:AV}:
  cZ P L [2,3,4] JV (fun k s=>∃(x y:Nat) (s1 s2:Int) (w1 w2:AV),s=⟨[(2,.ptr 0 0),(3,.ptr 1 0),(4,.ptr 2 0)],[(2,.cells ycZ ycZ ycZ 2 [o1,o2]),(1,.cells ycZ ycZ ycZ 2 [aa s2,w2]),(0,.cells ycZ ycZ ycZ 2 [aa s1,w1])],3,0⟩/\dD s1 w1 x/\dD s2 w2 y/\Bd K x/\Bd K y/\Nat.gcd x y=G/\y=k) (fun ex s'=>∃tm s1 w1 c1,s'=⟨tm,[(2,.cells ycZ ycZ ycZ 2 [o1,o2]),(1,c1),(0,.cells ycZ ycZ ycZ 2 [aa s1,w1])],3,0⟩/\ex=.exit 0/\aj tm 2=.ptr 0 0/\aj tm 4=.ptr 2 0/\dD s1 w1 G):=by
 apply c6;rintro k s ⟨x,y,s1,s2,w1,w2,rfl,h1,h2,k1,k2,hG,rfl⟩;have⟨l1,u1⟩:=h1.aK;have⟨l2,u2⟩:=h2.aK;have i1:cD (.agg [aa s1,w1]) (x:Int):=⟨s1,w1,rfl,h1⟩;have i2:cD (.agg [aa s2,w2]) (y:Int):=⟨s2,w2,rfl,h2⟩;have e1:=Hk h i2;by_cases fV:y=0
 .right
  subst fV;rw[show bX ((0:Nat):Int)=0 from rfl] at e1;simp only[go_sem,ya,JV,yM,yX,cr,bY,u2.ai,e1];obtain rfl:x=G:=by rw[<-hG,Nat.gcd_zero_right]
  exact⟨_,_,rfl,by simp,_,s1,w1,_,rfl,rfl,rfl,rfl,h1⟩
 .left
  have e3:bX (y:Int)=1:=by unfold bX;rw[yt (by lia),yt (by lia)]
  rw[e3] at e1;have⟨q,r,e2,hq,hr⟩:=ahb h i1 i2 (by lia) k1 k2 hK;obtain⟨s3,w3,rfl,h3⟩:=hq;obtain⟨s4,w4,rfl,h4⟩:=hr;have⟨l3,u3⟩:=h3.aK;have⟨l4,u4⟩:=h4.aK;have aH:=xG x (show 0<y by lia);have kr:Bd K ((x%y:Nat):Int):=k2.le (by lia);simp only[go_sem,ya,yb,JV,GG,GH,Gb,F1,O2,wL,yay,yH,yY,aQ,cr,bY,u1.ai,u2.ai,e1,e2,Cc,cr,ye,eb u2,eb u3,eb u4];refine⟨_,x%y,rfl,aH,y,x%y,s2,s4,w2,w4,?_,h2,h4,k2,kr,by rw[<-hG];exact apb x y fV,rfl⟩
  simp only[go_sem,ya,yb,ap]
def ahd(h:Nu P L)(hv:cD v a)(hw:cD w b)(ka:Bd K a)(kb:Bd K b)(hK:K<=30000000000):∃r,ab P L 130 [v,w] r/\cD r (vv a b:Nat):=by
 have⟨va,e1,ha⟩:=ag6 h hv ka (by lia);have⟨vb,e2,hb⟩:=ag6 h hw kb (by lia);obtain⟨s1,w1,rfl,h1⟩:=hv;obtain⟨s2,w2,rfl,h2⟩:=hw;obtain⟨s3,w3,rfl,h3⟩:=ha;obtain⟨s4,w4,rfl,h4⟩:=hb;have⟨l1,u1⟩:=h1.aK;have⟨l2,u2⟩:=h2.aK;have⟨l3,u3⟩:=h3.aK;have⟨l4,u4⟩:=h4.aK;have jQ:∃s w,ab P L 130 [.agg [aa s1,w1],.agg [aa s2,w2]] (.agg [aa s,w])/\dD s w (vv a b:Nat):=by
  unfold ab;rw[aE h.azz];simp only[go_sem,ya,yb,V9,aQ,u1.pu,u1.ai,u1.one,u2.pu,u2.ai,u2.one,cr,bY,e1,e2,bz,cr,ye,eb u3,eb u4,yd];generalize hq:D P L (.loop _ JV) _=q;obtain⟨ex,s,rfl,tm,s5,w5,c1,rfl,rfl,t2,t4,h5⟩:=bH hq (avn (P:=P) (L:=L) h (vv a b) (K:=K) hK (o1:=.int .i64 0) (o2:=.ah) b.natAbs) ⟨a.natAbs,b.natAbs,s3,s4,w3,w4,by simp only[go_sem,ya,yb,ap],h3,h4,ka,kb,rfl,rfl⟩;have⟨l5,u5⟩:=h5.aK;refine⟨s5,w5,?_,h5⟩;simp only[go_sem,ya,yb,ap,t2,t4,cI,cJ,cr,ye,ol u5,eb u5]
 have⟨s,w,e,hn⟩:=jQ;exact⟨_,e,s,w,rfl,hn⟩
def bM(v:AV)(r:Rat):Prop:=∃s1 w1 s2 w2,v=.agg [aa s1,w1,aa s2,w2]/\dD s1 w1 r.num/\dD s2 w2 (r.den:Int)
def Hq(k:Nat)(r:Rat):Prop:=Bd k r.num/\Bd k (r.den:Int)
def Sl(hb:0<b):(wI a b).num=a/(vv a b:Nat)/\((wI a b).den:Int)=b/(vv a b:Nat):=by
 constructor
 .rw [ybV,Int.sign_eq_one_of_pos hb,Int.one_mul,ycw]
 .rw [ybW,yt (by lia),ycw]
  grind
def Hq.divInt{k:Nat}(hb:0<b)(ka:Bd k a)(kb:Bd k b):Hq k (wI a b):=by
 have⟨h1,h2⟩:=Sl (a:=a) hb;refine⟨ka.le ?_,kb.le ?_⟩
 .rw [h1,tf (Int.gcd_dvd_left a b)];exact vI _ _
 .rw [h2,tf (Int.gcd_dvd_right a b)];exact vI _ _
section
def DY{tm:Env}{a b x y z:AV}{r:List (Nat×Nat×X)}(h1:er a=ycZ)(h2:er b=ycZ):fS tm [x,y,z,w] 0 2 [a,b] r=fill tm [a,b,z,w] r:=by
 rw[qJ (by rfl) (by simp) (by simp[cd,h1,h2])];rfl
def DZ{tm:Env}{a b x y z:AV}{r:List (Nat×Nat×X)}(h1:er a=ycZ)(h2:er b=ycZ):fS tm [x,y,z,w] 2 2 [a,b] r=fill tm [x,y,a,b] r:=by
 rw[qJ (by rfl) (by simp) (by simp[cd,h1,h2])];rfl
def kW{s t:Int}(hv:bP v l)(hw:bP w m)(hp:Hp)(ct id:Nat)(a b x y:AV):fy hp ct id 0 4 [.int .i64 s,v,.int .i64 t,w] (FL (.cells ycZ ycZ ycZ 4 [a,b,x,y]))=FL (.aw [],aW hp id (.cells ycZ ycZ ycZ 4 [.int .i64 s,v,.int .i64 t,w]),ct):=by
 rw[A7 (by rfl) (by simp) (by simp[cd,hv.one,hw.one,adp])];simp[aG,hv.pu,hw.pu,over,ad5]
def kX{s t:Int}(hv:bP v l)(hw:bP w m)(hp:Hp):result hp (.agg [aa s,v,aa t,w])=FL (.agg [aa s,v,aa t,w]):=by
 rcases hv with ⟨rfl,_⟩ | ⟨e,rfl⟩<;>rcases hw with ⟨rfl,_⟩ | ⟨e',rfl⟩<;>rfl
variable {P:aF}{L:Lib}
structure Fr'(P:aF)(L:Lib):Prop extends Nu P L where
 azA:Has P L 101 oz
 YM:Has P L 69 Yc
 azB:Has P L 111 V8
 h98:Has P L 98 RA
 azC:Has P L 108 V7
 azD:Has P L 102 V6
 h74:Has P L 74 My
 YN:Has P L 50 Yb
 p6:Has P L 49 c49
 h73:Has P L 73 Yf
 h70:Has P L 70 Yd
 h71:Has P L 71 Ye
 aER:Has P L 149 agx
def aef(h:Fr' P L){s1 s2:Int}{w1 w2:AV}(h1:dD s1 w1 a)(h2:dD s2 w2 b)(dC:0<b)(ka:Bd K a)(kb:Bd K b)(hK:K<=30000000000):
  ∃r,bM r (wI a b)/\∀tm,aj tm 2=.ptr 0 0->aj tm 3=.ptr 1 0->aj tm 4=.ptr 2 0->gn [.cell 4 4 ycZ] (D P L (aD (aD oz.body)) ⟨tm,[(2,.cells ycZ ycZ ycZ 4 [.int .i64 0,.ah,.int .i64 0,.ah]),(1,.cells ycZ ycZ ycZ 2 [aa s2,w2]),(0,.cells ycZ ycZ ycZ 2 [aa s1,w1])],3,0⟩)=FL r:=by
 have hv:cD (.agg [aa s1,w1]) a:=⟨s1,w1,rfl,h1⟩;have hw:cD (.agg [aa s2,w2]) b:=⟨s2,w2,rfl,h2⟩;have⟨p1,p2⟩:=Sl (a:=a) dC;have hgp:=Oz (a:=a) dC;have hgk:Bd K ((vv a b:Nat):Int):=kb.le (by
  have:=Int.gcd_le_natAbs_right a (show b≠0 by lia)
  lia)
 have⟨g,e2,hg⟩:=ahd h.toNu hv hw ka kb hK;have⟨q1,e4,fX⟩:=ahc h.toNu hv hg hgp ka hgk hK;have⟨q2,e5,Ax⟩:=ahc h.toNu hw hg hgp kb hgk hK;rw[<-p1] at fX;rw[<-p2] at Ax;obtain⟨s3,w3,rfl,h3⟩:=hg;obtain⟨s4,w4,rfl,h4⟩:=fX;obtain⟨s5,w5,rfl,h5⟩:=Ax;have⟨l1,u1⟩:=h1.aK;have⟨l2,u2⟩:=h2.aK;have⟨l3,u3⟩:=h3.aK;have⟨l4,u4⟩:=h4.aK;have⟨l5,u5⟩:=h5.aK;by_cases gK:w2=.ah/\s2=1
 .obtain ⟨rfl,rfl⟩:=gK;have jf:b=1:=by
   rcases h2 with ⟨_,h,_⟩ | ⟨_,_,h,_⟩
   .exact h.symm
   .cases h
  subst jf;rw[Int.gcd_one] at p1 p2;have p1:(wI a 1).num=a:=by rw[p1];exact Int.ediv_one a
  refine⟨.agg [aa s1,w1,aa 1,.ah],⟨s1,w1,1,.ah,rfl,by rw[p1];exact h1,by rw[p2];exact h2⟩,fun tm t2 t3 t4=>?_⟩
  have un:=zu;simp only[go_sem,ya,oz,aD,t2,t3,t4,u1.one,cr,aT,yd,df,iE,eD,DY,DZ,kW u1 un,cI,cJ,ye,gH,kX u1 un]
 .refine ⟨.agg [aa s4,w4,aa s5,w5],⟨s4,w4,s5,w5,rfl,h4,h5⟩,fun tm t2 t3 t4=>?_⟩;rcases u2 with ⟨rfl,_⟩ | ⟨e,rfl⟩
  .simp only [go_sem,ya,yb,oz,aD,t2,t3,t4,aQ,u1.ai,cr,bY,aT,yd,df,iE,eD,show ¬s2=1 from fun e=>gK ⟨rfl,e⟩,e2,e4,e5,bz,cI,cJ,cr,ye,eb u3,u3.ai,u4.one,u5.one,DY,DZ,kW u4 u5,gH,kX u4 u5]
  .simp only [go_sem,ya,yb,oz,aD,t2,t3,t4,aQ,u1.ai,cr,bY,aT,yd,df,oZ,eD,e2,e4,e5,bz,cI,cJ,cr,ye,eb u3,u3.ai,u4.one,u5.one,DY,DZ,kW u4 u5,gH,kX u4 u5]
def WK(h:Fr' P L)(hv:cD v a)(hw:cD w b)(dC:b≠0)(ka:Bd K a)(kb:Bd K b)(hK:K<=30000000000):∃r,ab P L 101 [v,w] r/\bM r (wI a b):=by
 have e1:=Hk h.toNu hw;have eS:=hv;have YO:=hw;obtain⟨s1,w1,rfl,h1⟩:=hv;obtain⟨s2,w2,rfl,h2⟩:=hw;have⟨l1,u1⟩:=h1.aK;have⟨l2,u2⟩:=h2.aK;have fin:∀r t1 t2 v1 v2 tm,(∀tm,aj tm 2=.ptr 0 0->aj tm 3=.ptr 1 0->aj tm 4=.ptr 2 0->gn [.cell 4 4 ycZ] (D P L (aD (aD oz.body)) ⟨tm,[(2,.cells ycZ ycZ ycZ 4 [.int .i64 0,.ah,.int .i64 0,.ah]),(1,.cells ycZ ycZ ycZ 2 [aa t2,v2]),(0,.cells ycZ ycZ ycZ 2 [aa t1,v1])],3,0⟩)=FL r)->aj tm 2=.ptr 0 0->aj tm 3=.ptr 1 0->aj tm 4=.ptr 2 0->
   D P L (.seq (bB oz.body) (bB (aD oz.body))) ⟨[(0,.agg [aa s1,w1]),(1,.agg [aa s2,w2])],[],0,0⟩=FL (.normal,⟨tm,[(2,.cells ycZ ycZ ycZ 4 [.int .i64 0,.ah,.int .i64 0,.ah]),(1,.cells ycZ ycZ ycZ 2 [aa t2,v2]),(0,.cells ycZ ycZ ycZ 2 [aa t1,v1])],3,0⟩)->ab P L 101 [.agg [aa s1,w1],.agg [aa s2,w2]] r:=fun r t1 t2 v1 v2 tm tail k2 k3 k4 e=>by
  unfold ab;rw[aE h.azA];show gn [.cell 4 4 ycZ] (D P L (.seq (bB oz.body) (.seq (bB (aD oz.body)) (aD (aD oz.body)))) ⟨[(0,.agg [aa s1,w1]),(1,.agg [aa s2,w2])],[],0,0⟩)=_
  rw[DR,e,iS];exact tail tm k2 k3 k4
 by_cases hn:b<0
 .have ⟨n1,e2,kG⟩:=Hl h.toNu eS ka (by lia);have⟨n2,e3,dQ⟩:=Hl h.toNu YO kb (by lia);obtain⟨s3,w3,rfl,h3⟩:=kG;obtain⟨s4,w4,rfl,h4⟩:=dQ;have⟨l3,u3⟩:=h3.aK;have⟨l4,u4⟩:=h4.aK;have⟨r,hr,tail⟩:=aef h h3 h4 (by lia) ka.neg kb.neg hK;rw[Rat.neg_divInt_neg] at hr;have hs:bX b<0:=by unfold bX;rw[yD hn];decide
  refine⟨r,fin r _ _ _ _ _ tail ?_ ?_ ?_ (by simp only[go_sem,ya,yb,oz,bB,aD,hs,aQ,u1.pu,u1.ai,u1.one,u2.pu,u2.ai,u2.one,cr,bY,e1,e2,e3,bz,eb u3,eb u4]<;>rfl),hr⟩<;>simp only[go_sem,ya]
 .have ⟨r,hr,tail⟩:=aef h h1 h2 (by lia) ka kb hK;have hs:¬bX b<0:=by unfold bX;rw[yt hn];split<;>decide
  refine⟨r,fin r _ _ _ _ _ tail ?_ ?_ ?_ (by simp only[go_sem,ya,yb,oz,bB,aD,hs,aQ,u1.pu,u1.one,u2.pu,u2.ai,u2.one,cr,bY,e1]<;>rfl),hr⟩<;>simp only[go_sem,ya]
end
end
section
variable {v w:AV}{K k m:Nat}{a b:Rat}
def Hq.mono{r:Rat}(h:Hq k r)(hk:k<=m):Hq m r:=⟨h.1.mono hk,h.2.mono hk⟩
def Hq.neg{r:Rat}(h:Hq k r):Hq k (-r):=⟨h.1.neg,h.2⟩
def add_eq(a b:Rat):a+b=wI (a.num*b.den+b.num*a.den) ((a.den:Int)*b.den):=by
 rw[Rat.add_def',<-ybG,xM]
def mul_eq(a b:Rat):a*b=wI (a.num*b.num) ((a.den:Int)*b.den):=by
 rw[Rat.mul_def',<-ybG,xM]
def acq(a:Rat):0<(a.den:Int):=by have:=a.den_pos;lia
def FN(a b:Rat):0<(a.den:Int)*b.den:=Int.mul_pos (acq a) (acq b)
def Bd.WL{a b:Int}(ha:Bd k a)(hb:Bd k b):Bd (k+1) (a+b):=by
 have:=ha.add hb
 grind
def Hq.add(ha:Hq k a)(hb:Hq m b):Hq (k+m+1) (a+b):=by
 rw[add_eq];refine Hq.divInt (FN a b) ?_ ((ha.2.mul hb.2).mono (by lia));exact (ha.1.mul hb.2).WL ((hb.1.mul ha.2).mono (by lia))
def Hq.mul(ha:Hq k a)(hb:Hq m b):Hq (k+m) (a*b):=by
 rw[mul_eq];exact Hq.divInt (FN a b) (ha.1.mul hb.1) (ha.2.mul hb.2)
def Hq.sub(ha:Hq k a)(hb:Hq m b):Hq (k+m+1) (a-b):=by
 rw[ybn];exact ha.add hb.neg
def Hq.inv(ha:Hq k a):Hq k a⁻¹:=by
 have h1:(a⁻¹).num.natAbs<=a.den:=by
  rw[Rat.num_inv,Int.natAbs_mul]
  grind
 refine⟨ha.2.le (by simpa using h1),?_⟩;unfold Bd;rw[Rat.den_inv]
 split
 .have h2:=ha.2;unfold Bd at h2
  simp_all
 .exact ha.1
def Hq.div(ha:Hq k a)(hb:Hq m b):Hq (k+m) (a/b):=by
 rw[Rat.div_def];exact ha.mul hb.inv
def rn(a b:Rat):Int:=if a<b then -1 else if a=b then 0 else 1
def arC(a b:Rat):bX (a.num*b.den-b.num*a.den)=rn a b:=by
 unfold bX rn;by_cases h:a<b
 .rw [yD h]
  have:=(ycY a b).1 h
  grind
 .rw [yt h];have h1:¬a.num*b.den<b.num*a.den:=fun e=>h ((ycY a b).2 e)
  rw[yt (by lia)];by_cases h2:a=b
  .grind
  .rw [yt h2,yt (by have:¬a.num*b.den=b.num*a.den:=fun e=>h2 (Rat.eq_iff_mul_eq_mul.2 e);lia)]
def Up(a:Rat)(h:a.den=1):a=(a.num:Rat):=by
 have:=Rat.num_divInt_den a
 rw[h] at this;rw[<-this];exact (Rat.ext (by simp[ybV]) (by simp[ybW]))
def CM(a b c d:AV)(r:List AV):fT 2 ycZ (List.drop 2 (a::b::c::d::r))=FL (.agg [c,d]):=rfl
def ss(a b:AV)(r:List AV):fT 2 ycZ (a::b::r)=FL (.agg [a,b]):=rfl
def WM(h:Fr' P L){z:Int}(hv:cD v z):∃r,ab P L 111 [v] r/\bM r (z:Rat):=by
 have⟨o1,o2⟩:=EX h.toNu (z:=1) (by decide) (by decide);obtain⟨s1,w1,rfl,h1⟩:=hv;have⟨l1,u1⟩:=h1.aK;have un:=zu;refine⟨.agg [aa s1,w1,aa 1,.ah],?_,s1,w1,1,.ah,rfl,h1,.inl ⟨rfl,rfl,(by show (-9223372036854775808:Int)<=1;decide),(by show (1:Int)<9223372036854775808;decide)⟩⟩
 unfold ab;rw[aE h.azB];simp only[go_sem,ya,yb,V8,aQ,u1.pu,u1.one,cr,o1,bz,DY,DZ,kW u1 un,cI,cJ,ye,gH,kX u1 un]
def Fu(h:Fr' P L){z:Int}(h1: -9223372036854775808<=z)(h2:z<9223372036854775808):∃r,ab P L 69 [aa z] r/\bM r (z:Rat):=by
 have⟨o1,o2⟩:=EX h.toNu h1 h2;have⟨r,e,hr⟩:=WM h o2;have bh:=hr;obtain⟨s1,w1,s2,w2,rfl,k1,k2⟩:=hr;have⟨l1,u1⟩:=k1.aK;have⟨l2,u2⟩:=k2.aK;refine⟨_,?_,bh⟩;unfold ab;rw[aE h.YM];simp only[go_sem,ya,yb,Yc,aQ,bY,o1,e,bz,kW u1 u2,cI,cJ,ye,gH,kX u1 u2]
def YP(h:Fr' P L)(hv:bM v a):ab P L 98 [v] (.bool (decide (a.den=1))):=by
 obtain⟨s1,w1,s2,w2,rfl,h1,h2⟩:=hv;have⟨l1,u1⟩:=h1.aK;unfold ab;rw[aE h.h98];rcases h2 with ⟨rfl,rfl,b1,b2⟩ | ⟨e,l,rfl,gb,nb,vb,sb,b1⟩
 .have e:decide (((a.den:Nat):Int)=1)=decide (a.den=1):=by simp;lia
  simp only[go_sem,ya,yb,RA,aQ,u1.pu,u1.one,aT,yd,axL,afB,iE,eD,e]
 .have e:decide (a.den=1)=false:=yQ (by lia);rw[e];simp only[go_sem,ya,yb,RA,aQ,u1.pu,u1.one,aT,yd,afB,oZ,eD]
def QI(h:Fr' P L)(hv:bM v a):ab P L 108 [v] (aa (bX a.num)):=by
 obtain⟨s1,w1,s2,w2,rfl,h1,h2⟩:=hv;have⟨l1,u1⟩:=h1.aK;have⟨l2,u2⟩:=h2.aK;have e1:=Hk h.toNu ⟨s1,w1,rfl,h1⟩;unfold ab;rw[aE h.azC];simp only[go_sem,ya,yb,V7,aQ,u1.pu,u1.ai,u1.one,u2.pu,u2.one,aT,yd,ss,bY,e1]
def azE(h:Fr' P L)(hv:bM v a)(ka:Hq K a)(hK:K<=30000000000):∃r,ab P L 102 [v] r/\bM r (-a):=by
 obtain⟨s1,w1,s2,w2,rfl,h1,h2⟩:=hv;have⟨l1,u1⟩:=h1.aK;have⟨l2,u2⟩:=h2.aK;have⟨n,e1,hn⟩:=Hl h.toNu ⟨s1,w1,rfl,h1⟩ ka.1 (by lia);obtain⟨s3,w3,rfl,h3⟩:=hn;have⟨l3,u3⟩:=h3.aK;refine⟨.agg [aa s3,w3,aa s2,w2],?_,s3,w3,s2,w2,rfl,h3,h2⟩;unfold ab;rw[aE h.azD];simp only[go_sem,ya,yb,V6,aQ,u1.pu,u1.ai,u1.one,u2.pu,u2.one,u3.one,aT,yd,ss,CM,bY,e1,bz,DY,DZ,kW u3 u2,cI,cJ,ye,gH,kX u3 u2]
def zf(h:Fr' P L)(hv:bM v a)(hw:bM w b)(ka:Hq K a)(kb:Hq K b)(hK:K<=10000000000):∃r,ab P L 74 [v,w] r/\bM r (a+b):=by
 have i1:=YP h hv;have i2:=YP h hw;obtain⟨s1,w1,s2,w2,rfl,h1,h2⟩:=hv;obtain⟨s3,w3,s4,w4,rfl,h3,h4⟩:=hw;have⟨l1,u1⟩:=h1.aK;have⟨l2,u2⟩:=h2.aK;have⟨l3,u3⟩:=h3.aK;have⟨l4,u4⟩:=h4.aK;have n1:cD (.agg [aa s1,w1]) a.num:=⟨s1,w1,rfl,h1⟩;have n2:cD (.agg [aa s2,w2]) a.den:=⟨s2,w2,rfl,h2⟩;have n3:cD (.agg [aa s3,w3]) b.num:=⟨s3,w3,rfl,h3⟩;have n4:cD (.agg [aa s4,w4]) b.den:=⟨s4,w4,rfl,h4⟩;by_cases Av:a.den=1/\b.den=1
 .have ⟨d1,d2⟩:=Av;have⟨p,e1,hp⟩:=LD h.toNu n1 n3 ka.1 kb.1 (by lia);have⟨r,e2,hr⟩:=WM h hp;have he:((a.num+b.num:Int):Rat)=a+b:=by
   rw[Rat.intCast_add,<-Up a d1,<-Up b d2]
  rw[he] at hr;have bh:=hr;obtain⟨s5,w5,rfl,h5⟩:=hp;obtain⟨s6,w6,s7,w7,rfl,h6,h7⟩:=hr;have⟨l5,u5⟩:=h5.aK;have⟨l6,u6⟩:=h6.aK;have⟨l7,u7⟩:=h7.aK;refine⟨_,?_,bh⟩;rw[d1] at i1;rw[d2] at i2;unfold ab;rw[aE h.h74];simp only[go_sem,ya,yb,My,aQ,u1.pu,u1.ai,u1.one,u2.pu,u2.ai,u2.one,u3.pu,u3.ai,u3.one,u4.pu,u4.ai,u4.one,aT,yd,gH,ss,bY,i1,i2,e1,u5.ai,e2,bz,kW u6 u7,cI,cJ,ye,gH,kX u6 u7]
 .have ⟨p1,e1,aZ⟩:=zX h.toNu n1 n4 ka.1 kb.2 (by lia);have⟨p2,e2,ja⟩:=zX h.toNu n3 n2 kb.1 ka.2 (by lia);have⟨p3,e3,hp3⟩:=LD h.toNu aZ ja (ka.1.mul kb.2) (kb.1.mul ka.2) (by lia);have⟨p4,e4,hp4⟩:=zX h.toNu n2 n4 ka.2 kb.2 (by lia);have⟨r,e5,hr⟩:=WK h hp3 hp4 (by have:=FN a b;lia) ((ka.1.mul kb.2).WL (kb.1.mul ka.2)) ((ka.2.mul kb.2).mono (by lia)) (by lia)
  rw[<-add_eq] at hr;have bh:=hr;obtain⟨s5,w5,rfl,h5⟩:=aZ;obtain⟨s6,w6,rfl,h6⟩:=ja;obtain⟨s7,w7,rfl,h7⟩:=hp3;obtain⟨s8,w8,rfl,h8⟩:=hp4;obtain⟨s9,w9,s10,w10,rfl,h9,iM⟩:=hr;have⟨l5,u5⟩:=h5.aK;have⟨l6,u6⟩:=h6.aK;have⟨l7,u7⟩:=h7.aK;have⟨l8,u8⟩:=h8.aK;have⟨l9,u9⟩:=h9.aK;have⟨l10,rR⟩:=iM.aK;refine⟨_,?_,bh⟩;unfold ab;rw[aE h.h74];by_cases d1:a.den=1
  .rw [d1] at i1;rw[yQ (fun d2=>Av ⟨d1,d2⟩)] at i2;simp only[go_sem,ya,yb,My,aQ,u1.pu,u1.ai,u1.one,u2.pu,u2.ai,u2.one,u3.pu,u3.ai,u3.one,u4.pu,u4.ai,u4.one,aT,yd,gH,ss,CM,bY,i1,i2,e1,e2,u5.ai,u6.ai,e3,e4,u7.ai,u8.ai,e5,bz,kW u9 rR,cI,cJ,ye,gH,kX u9 rR]
  .rw [yQ d1] at i1;simp only[go_sem,ya,yb,My,aQ,u1.pu,u1.ai,u1.one,u2.pu,u2.ai,u2.one,u3.pu,u3.ai,u3.one,u4.pu,u4.ai,u4.one,aT,yd,gH,ss,CM,bY,i1,e1,e2,u5.ai,u6.ai,e3,e4,u7.ai,u8.ai,e5,bz,kW u9 rR,cI,cJ,ye,gH,kX u9 rR]
def m50(h:Fr' P L)(hv:bM v a)(hw:bM w b)(ka:Hq K a)(kb:Hq K b)(hK:K<=10000000000):∃r,ab P L 50 [v,w] r/\bM r (a-b):=by
 have⟨n,e1,hn⟩:=azE h hw kb (by lia);have⟨r,e2,hr⟩:=zf h hv hn ka kb.neg hK;rw[<-ybn] at hr;have bh:=hr;obtain⟨s1,w1,s2,w2,rfl,h1,h2⟩:=hv;obtain⟨s3,w3,s4,w4,rfl,h3,h4⟩:=hw;obtain⟨s5,w5,s6,w6,rfl,h5,h6⟩:=hn;obtain⟨s7,w7,s8,w8,rfl,h7,h8⟩:=hr;have⟨l1,u1⟩:=h1.aK;have⟨l2,u2⟩:=h2.aK;have⟨l3,u3⟩:=h3.aK;have⟨l4,u4⟩:=h4.aK;have⟨l5,u5⟩:=h5.aK;have⟨l6,u6⟩:=h6.aK;have⟨l7,u7⟩:=h7.aK;have⟨l8,u8⟩:=h8.aK;refine⟨_,?_,bh⟩;unfold ab;rw[aE h.YN];simp only[go_sem,ya,yb,Yb,aQ,u1.pu,u1.ai,u1.one,u2.pu,u2.ai,u2.one,u3.pu,u3.ai,u3.one,u4.pu,u4.ai,u4.one,u5.ai,u6.ai,gH,bY,e1,e2,bz,kW u7 u8,cI,cJ,ye,gH,kX u7 u8]
def HU(h:Fr' P L)(hv:bM v a)(hw:bM w b)(ka:Hq K a)(kb:Hq K b)(hK:K<=10000000000):∃r,ab P L 49 [v,w] r/\bM r (a*b):=by
 obtain⟨s1,w1,s2,w2,rfl,h1,h2⟩:=hv;obtain⟨s3,w3,s4,w4,rfl,h3,h4⟩:=hw;have⟨l1,u1⟩:=h1.aK;have⟨l2,u2⟩:=h2.aK;have⟨l3,u3⟩:=h3.aK;have⟨l4,u4⟩:=h4.aK;have⟨p1,e1,aZ⟩:=zX h.toNu (v:=.agg [aa s1,w1]) (w:=.agg [aa s3,w3]) ⟨s1,w1,rfl,h1⟩ ⟨s3,w3,rfl,h3⟩ ka.1 kb.1 (by lia);have⟨p2,e2,ja⟩:=zX h.toNu (v:=.agg [aa s2,w2]) (w:=.agg [aa s4,w4]) ⟨s2,w2,rfl,h2⟩ ⟨s4,w4,rfl,h4⟩ ka.2 kb.2 (by lia);have⟨r,e3,hr⟩:=WK h aZ ja (by have:=FN a b;lia) (ka.1.mul kb.1) (ka.2.mul kb.2) (by lia)
 rw[<-mul_eq] at hr;have bh:=hr;obtain⟨s5,w5,rfl,h5⟩:=aZ;obtain⟨s6,w6,rfl,h6⟩:=ja;obtain⟨s7,w7,s8,w8,rfl,h7,h8⟩:=hr;have⟨l5,u5⟩:=h5.aK;have⟨l6,u6⟩:=h6.aK;have⟨l7,u7⟩:=h7.aK;have⟨l8,u8⟩:=h8.aK;refine⟨_,?_,bh⟩;unfold ab;rw[aE h.p6];simp only[go_sem,ya,yb,c49,aQ,u1.pu,u1.ai,u1.one,u2.pu,u2.ai,u2.one,u3.pu,u3.ai,u3.one,u4.pu,u4.ai,u4.one,u5.ai,u6.ai,aT,yd,ss,CM,bY,e1,e2,e3,bz,kW u7 u8,cI,cJ,ye,gH,kX u7 u8]
def m73(h:Fr' P L)(hv:bM v a)(h0:a≠0)(ka:Hq K a)(hK:K<=10000000000):∃r,ab P L 73 [v] r/\bM r a⁻¹:=by
 obtain⟨s1,w1,s2,w2,rfl,h1,h2⟩:=hv;have⟨l1,u1⟩:=h1.aK;have⟨l2,u2⟩:=h2.aK;have⟨r,e1,hr⟩:=WK h (v:=.agg [aa s2,w2]) (w:=.agg [aa s1,w1]) ⟨s2,w2,rfl,h2⟩ ⟨s1,w1,rfl,h1⟩ (fun e=>h0 (Rat.num_eq_zero.1 e)) ka.2 ka.1 (by lia);rw[<-Rat.inv_def] at hr;have bh:=hr;obtain⟨s7,w7,s8,w8,rfl,h7,h8⟩:=hr;have⟨l7,u7⟩:=h7.aK;have⟨l8,u8⟩:=h8.aK;refine⟨_,?_,bh⟩;unfold ab;rw[aE h.h73];simp only[go_sem,ya,yb,Yf,aQ,u1.pu,u1.ai,u1.one,u2.pu,u2.ai,u2.one,aT,yd,ss,CM,bY,e1,bz,kW u7 u8,cI,cJ,ye,gH,kX u7 u8]
def YQ(h:Fr' P L)(hv:bM v a)(hw:bM w b)(h0:b≠0)(ka:Hq K a)(kb:Hq K b)(hK:K<=10000000000):∃r,ab P L 70 [v,w] r/\bM r (a/b):=by
 have⟨n,e1,hn⟩:=m73 h hw h0 kb hK;have⟨r,e2,hr⟩:=HU h hv hn ka kb.inv hK;have bh:=hr;obtain⟨s1,w1,s2,w2,rfl,h1,h2⟩:=hv;obtain⟨s3,w3,s4,w4,rfl,h3,h4⟩:=hw;obtain⟨s5,w5,s6,w6,rfl,h5,h6⟩:=hn;obtain⟨s7,w7,s8,w8,rfl,h7,h8⟩:=hr;have⟨l1,u1⟩:=h1.aK;have⟨l2,u2⟩:=h2.aK;have⟨l3,u3⟩:=h3.aK;have⟨l4,u4⟩:=h4.aK;have⟨l5,u5⟩:=h5.aK;have⟨l6,u6⟩:=h6.aK;have⟨l7,u7⟩:=h7.aK;have⟨l8,u8⟩:=h8.aK;refine⟨_,?_,bh⟩;unfold ab;rw[aE h.h70];simp only[go_sem,ya,yb,Yd,aQ,u1.pu,u1.ai,u1.one,u2.pu,u2.ai,u2.one,u3.pu,u3.ai,u3.one,u4.pu,u4.ai,u4.one,u5.ai,u6.ai,gH,bY,e1,e2,bz,kW u7 u8,cI,cJ,ye,gH,kX u7 u8]
def m71(h:Fr' P L)(hv:bM v a)(hw:bM w b)(ka:Hq K a)(kb:Hq K b)(hK:K<=10000000000):ab P L 71 [v,w] (aa (rn a b)):=by
 obtain⟨s1,w1,s2,w2,rfl,h1,h2⟩:=hv;obtain⟨s3,w3,s4,w4,rfl,h3,h4⟩:=hw;have⟨l1,u1⟩:=h1.aK;have⟨l2,u2⟩:=h2.aK;have⟨l3,u3⟩:=h3.aK;have⟨l4,u4⟩:=h4.aK;have⟨p1,e1,aZ⟩:=zX h.toNu (v:=.agg [aa s1,w1]) (w:=.agg [aa s4,w4]) ⟨s1,w1,rfl,h1⟩ ⟨s4,w4,rfl,h4⟩ ka.1 kb.2 (by lia);have⟨p2,e2,ja⟩:=zX h.toNu (v:=.agg [aa s3,w3]) (w:=.agg [aa s2,w2]) ⟨s3,w3,rfl,h3⟩ ⟨s2,w2,rfl,h2⟩ kb.1 ka.2 (by lia);have e3:=ag8 h.toNu aZ ja (ka.1.mul kb.2) (kb.1.mul ka.2) (by lia);rw[arC] at e3;obtain⟨s5,w5,rfl,h5⟩:=aZ;obtain⟨s6,w6,rfl,h6⟩:=ja;have⟨l5,u5⟩:=h5.aK;have⟨l6,u6⟩:=h6.aK;unfold ab;rw[aE h.h71];simp only[go_sem,ya,yb,Ye,aQ,u1.pu,u1.ai,u1.one,u2.pu,u2.ai,u2.one,u3.pu,u3.ai,u3.one,u4.pu,u4.ai,u4.one,u5.ai,u6.ai,aT,yd,ss,CM,bY,e1,e2,e3,bz]
end
def zG:List AV->Option (List Nat)
 | []=>FL []
 | .int .u64 (.ofNat d)::r=>bif yO d 18446744073709551616 then (match zG r with | some l=>FL (d::l) | none=>FM) else FM
 | _::_=>FM
def zY:List Nat->Nat
 | []=>0
 | a::r=>a+18446744073709551616*zY r
def CN:List Nat->Bool
 | []=>false
 | [a]=> !yq a 0
 | _::r=>CN r
def OE:List AV->Option AV
 | [.agg [.int .i64 s,.ah]]=>bif CJ s then FL (.str (aV s)) else FM
 | [.agg [.int .i64 s,.au _ n cs]]=>
  match zG cs with
  | some l=>
   bif yq l.length n&&(yE n 4000000000&&(CN l&&yE 9223372036854775808 (zY l))) then
    match s with
    | .ofNat 1=>FL (.str (aC (zY l)))
    | .negSucc 0=>FL (.str (45::aC (zY l)))
    | _=>FM
   else FM
  | none=>FM
 | _=>FM
def aay:∀{l:List Nat},lo (2^64) l->zG (l.map uc)=FL l
 | [],_=>rfl
 | a::l,h=>by
  have h1:=h a (by simp);have h2:=aay (l:=l) (fun x hx=>h x (by simp[hx]));show (bif yO a (2^64) then (match zG (l.map uc) with | some l=>FL (a::l) | none=>FM) else FM)=_
  rw[ma h1,h2];rfl
def Uq:∀l:List Nat,zY l=bv (2^64) l
 | []=>rfl
 | a::l=>by simp only[zY,bv,Uq l]
def acr:∀{l:List Nat},l≠[]->ig l->CN l=ycZ
 | [],h,_=>absurd rfl h
 | [a],_,h=>by
  have:a≠0:=fun e=>by
   subst e;have h:dZ [0]=[0]:=h;simp[dZ] at h
  simp[CN,gW this]
 | a::b::r,_,h=>by
  have h1:ig (b::r):=by
   have h:dZ (a::b::r)=a::b::r:=h;rw[dZ] at h
   grind
  have:=acr (l:=b::r) (by simp) h1
  simpa[CN] using this
structure Tx(P:aF)(L:Lib):Prop extends Fr' P L where
 HV:L.pure 99=FL OE
 azF:L.pure 175=FL JS
 ahe:L.pure 152=FL NA
 WO:L.pure 153=FL Nl
 WQ:L.pure 154=FL KI
 WR:L.pure 109=FL PS
 sE:Has P L 155 EK
 ahf:Has P L 172 P4
 azG:Has P L 151 P0
 azH:Has P L 107 PU
 YR:Has P L 46 Ry
 ahg:Has P L 110 PV
 RX:Has P L 62 Rz
def YS(h:Tx P L){v:AV}{z:Int}{K:Nat}(hv:cD v z)(hz:Bd K z)(hK:K<=4000000000):ab P L 99 [v] (.str (aV z)):=by
 obtain⟨s,w,rfl,hn⟩:=hv;unfold ab;rw[kj h.HV];rcases hn with ⟨rfl,rfl,h1,h2⟩ | ⟨e,l,rfl,g,n,hb,hs,h1⟩
 .show (bif CJ s then FL (AV.str (aV s)) else FM)=_
  have:CJ s=ycZ:=by
   cases s with
   | ofNat k=>exact ma (by have:(Int.ofNat k)=(k:Int):=rfl;lia)
   | negSucc k=>exact ma (by lia)
  grind
 .have lL:l≠[]:=fun e=>by subst e;simp[bv] at hb;lia
  have An:l.length<=4000000000:=xi (pD n hb (yP hz (Cu K))) hK
  show (match zG (l.map uc) with
   | some l'=>bif yq l'.length l.length&&(yE l.length 4000000000&&(CN l'&&yE 9223372036854775808 (zY l'))) then (match s with | .ofNat 1=>FL (AV.str (aC (zY l'))) | .negSucc 0=>FL (.str (45::aC (zY l'))) | _=>FM) else FM
   | none=>FM)=_
  rw[aay g];simp only[Nat.beq_refl,yB An,acr lL n,Uq,hb,yB h1,wL,yx];by_cases h0:z<0
  .rw [yD h0] at hs;subst hs;rw[nX h0];rfl
  .rw [yt h0] at hs;subst hs;obtain⟨m,rfl⟩:∃m:Nat,z=m:=⟨z.toNat,by lia⟩;rfl
def RT(r:Rat):List Nat:=aV r.num++(if r.den=1 then [] else 47::aC r.den)
def Jo{z:Int}{k:Nat}(h:Bd k z):(aV z).length<=k+1:=by
 have h1:∀m:Nat,m<2^k->(aC m).length<=max k 1:=fun m hm=>by
  cases k with
  | zero=>
       have:m=0:=by simpa using hm
       subst this;decide
  | succ k=>
   rw[Nat.max_eq_left (by lia)];exact zt (k:=k) (yP hm (ub (by decide) _))
 by_cases h0:z<0
 .rw [nX h0];unfold Bd at h
  grind
 .obtain ⟨m,rfl⟩:∃m:Nat,z=m:=⟨z.toNat,by lia⟩
  have:=h1 m (by unfold Bd at h;simpa using h)
  rw[mC];lia
def m46(h:Tx P L){v:AV}{a:Rat}{K:Nat}(hv:bM v a)(ka:Hq K a)(hK:K<=4000000000):ab P L 46 [v] (.str (RT a)):=by
 have i1:=YP h.toFr' hv;obtain⟨s1,w1,s2,w2,rfl,h1,h2⟩:=hv;have⟨l1,u1⟩:=h1.aK;have⟨l2,u2⟩:=h2.aK;have e1:=YS h (v:=.agg [aa s1,w1]) ⟨s1,w1,rfl,h1⟩ ka.1 hK;have e2:=YS h (v:=.agg [aa s2,w2]) ⟨s2,w2,rfl,h2⟩ ka.2 hK;have b1:=Jo ka.1;have b2:=Jo ka.2;rw[mC] at e2 b2;unfold ab RT;rw[aE h.YR];by_cases hd:a.den=1
 .rw [yD hd,List.append_nil];rw[hd] at i1;simp only[go_sem,ya,yb,Ry,aQ,u1.pu,u1.ai,u1.one,u2.pu,u2.ai,u2.one,gH,bY,i1,aT,yd,ss,e1]
 .rw [yt hd];rw[yQ hd] at i1;have hc:aV a.num++47::aC a.den=(aV a.num++[47])++aC a.den:=by simp
  rw[hc]
  simp only[go_sem,ya,yb,Ry,aQ,u1.pu,u1.ai,u1.one,u2.pu,u2.ai,u2.one,gH,bY,i1,aT,yd,ss,CM,e1,e2,gX (a:=aV a.num) (b:=[47]) (by simp;lia),gX (a:=aV a.num++[47]) (b:=aC a.den) (by simp;lia)]
def azI{n:Nat}(h:n<9223372036854775808):binOp .and (.int .i64 (n:Int)) (.int .i64 1)=FL (.int .i64 ((n%2:Nat):Int)):=by
 show FL (AV.int .i64 (IntKind.wrap .i64 ((wu 64 (n:Int)&&&wu 64 1).toNat:Int)))=_
 rw[show wu 64 (n:Int)=tE 64 n from BitVec.ofInt_natCast 64 n,show wu 64 1=tE 64 1 from rfl];rw[BitVec.toNat_and,vZ,vZ,show (1%2^64:Nat)=2^1-1 from rfl,Nat.and_two_pow_sub_one_eq_mod,wrapN (by lia)]
 grind
def azJ(n:Nat):binOp .shr (.int .i64 (n:Int)) (.int .u64 1)=FL (.int .i64 ((n/2:Nat):Int)):=by
 show FL (AV.int .i64 ((n:Int).fdiv (2^1)))=_
 grind
def Bd.pow{k:Nat}{z:Int}(h:Bd k z):∀e,Bd (k*e+1) (z^e)
 | 0=>by rw[yaN,xC];unfold Bd;decide
 | e+1=>by
  have ih:=Bd.pow h e;rw[Int.pow_succ];exact (ih.mul h).mono (by rw[xE,yi];lia)
def avo(h:Nu P L)(QG:True){z:Int}{K k0:Nat}(hz:Bd K z)(hK:K*k0+1<=30000000000){o1 o2:AV}:
  cZ P L [1,2,4,5] D5 (fun m st=>∃(k i e:Nat) (s1 s2:Int) (w1 w2:AV),st=⟨[(1,aa k),(2,.ptr 0 0),(4,.ptr 1 0),(5,.ptr 2 0)],[(2,.cells ycZ ycZ ycZ 2 [aa s2,w2]),(1,.cells ycZ ycZ ycZ 2 [o1,o2]),(0,.cells ycZ ycZ ycZ 2 [aa s1,w1])],3,0⟩/\dD s1 w1 (z^i)/\dD s2 w2 (z^e)/\e+i*k=k0/\(0<k->i<=k0)/\k<9223372036854775808/\k=m) (fun ex st'=>∃tm s2 w2 c0,st'=⟨tm,[(2,.cells ycZ ycZ ycZ 2 [aa s2,w2]),(1,.cells ycZ ycZ ycZ 2 [o1,o2]),(0,c0)],3,0⟩/\ex=.exit 0/\aj tm 4=.ptr 1 0/\aj tm 5=.ptr 2 0/\dD s2 w2 (z^k0)):=by
 apply c6;rintro m st ⟨k,i,e,s1,s2,w1,w2,rfl,h1,h2,hk,hi,hkb,rfl⟩;have⟨l1,u1⟩:=h1.aK;have⟨l2,u2⟩:=h2.aK;by_cases E7:k=0
 .right
  subst E7;rw[xC,y5] at hk;subst hk;simp only[go_sem,D5,show ¬(0:Int)<((0:Nat):Int) by lia];exact⟨_,_,rfl,by simp,_,s2,w2,_,rfl,rfl,rfl,rfl,h2⟩
 .left
  have cL:=hi (by lia);have he:e<=k0:=by lia
  have hik:i*1<=i*k:=yW i (by lia);have b1:Bd (K*k0+1) (z^i):=(hz.pow i).mono (by have:=yW K cL;lia)
  have b2:Bd (K*k0+1) (z^e):=(hz.pow e).mono (by have:=yW K he;lia)
  have n1:cD (.agg [aa s1,w1]) (z^i):=⟨s1,w1,rfl,h1⟩;have n2:cD (.agg [aa s2,w2]) (z^e):=⟨s2,w2,rfl,h2⟩;have⟨p,e1,hp⟩:=zX h n2 n1 b2 b1 (by lia);have⟨q,e2,hq⟩:=zX h n1 n1 b1 b1 (by lia);rw[<-Int.pow_add] at hp hq;obtain⟨s3,w3,rfl,h3⟩:=hp;obtain⟨s4,w4,rfl,h4⟩:=hq;have⟨l3,u3⟩:=h3.aK;have⟨l4,u4⟩:=h4.aK;have eV:=xQ k 2;have MV:=azI (n:=k) hkb;have YT:=azJ k;have aEE:(i+i)*(k/2)=i*(2*(k/2)):=by rw[<-Nat.two_mul,Nat.mul_comm 2 i,Nat.mul_assoc]
  by_cases azK:k%2=1
  .rw [azK] at MV eV;have sO:i*k=i*(2*(k/2))+i:=by
    conv=>lhs;rw[<-eV,xE,yi]
   by_cases lf:1<k
   .simp only [go_sem,ya,D5,show (0:Int)<(k:Int) by lia,MV,show ((1:Nat):Int)=1 from rfl,cr,bY,u1.ai,u2.ai,e1,bz,cr,ye,eb u3,eb u4,show (1:Int)<(k:Int) by lia,e2,YT]
    exact⟨_,k/2,rfl,by lia,k/2,i+i,e+i,s4,s3,w4,w3,by simp only[go_sem,ya,yb,ap],h4,h3,by lia,fun h0=>by have:=yW (i+i) h0;lia,by lia,rfl⟩
   .have gK:e+i+i*(k/2)=k0:=by
     have h1:k/2=0:=by lia
     rw[h1] at sO ⊢
     lia
    simp only[go_sem,ya,D5,show (0:Int)<(k:Int) by lia,MV,show ((1:Nat):Int)=1 from rfl,cr,bY,u1.ai,u2.ai,e1,bz,cr,ye,eb u3,show ¬(1:Int)<(k:Int) by lia,YT];exact⟨_,k/2,rfl,by lia,k/2,i,e+i,s1,s3,w1,w3,by simp only[go_sem,ya,yb,ap],h1,h3,gK,fun h0=>by lia,by lia,rfl⟩
  .have Aq:k%2=0:=by lia
   rw[Aq] at MV eV;have sO:i*k=i*(2*(k/2)):=by
    conv=>lhs;rw[<-eV,y5]
   simp only[go_sem,ya,D5,show (0:Int)<(k:Int) by lia,MV,show ((0:Nat):Int)=0 from rfl,yay,cr,bY,u1.ai,bz,cr,ye,eb u4,show (1:Int)<(k:Int) by lia,e2,YT]
   exact⟨_,k/2,rfl,by lia,k/2,i+i,e,s4,s2,w4,w2,by simp only[go_sem,ya,yb,ap],h4,h2,by lia,fun h0=>by have:=yW (i+i) h0;lia,by lia,rfl⟩
def WS(h:Nu P L)(sE:Has P L 155 EK){v:AV}{z:Int}{K k:Nat}(hv:cD v z)(hz:Bd K z)(hK:K*k+1<=30000000000)(hk:k<9223372036854775808):∃r,ab P L 155 [v,aa k] r/\cD r (z^k):=by
 have⟨o1,o2⟩:=EX h (z:=1) (by decide) (by decide);obtain⟨s1,w1,rfl,h1⟩:=hv;have⟨l1,u1⟩:=h1.aK;have un:=zu;have jQ:∃s w,ab P L 155 [.agg [aa s1,w1],aa k] (.agg [aa s,w])/\dD s w (z^k):=by
  unfold ab;rw[aE sE];simp only[go_sem,ya,yb,EK,aQ,u1.pu,u1.one,o1,bz,eb un];generalize hq:D P L (.loop _ D5) _=q;obtain⟨ex,st,rfl,tm,s5,w5,c1,rfl,rfl,t4,t5,h5⟩:=bH hq (avo (P:=P) (L:=L) h trivial hz (k0:=k) hK (o1:=.int .i64 0) (o2:=.ah) k) ⟨k,1,0,s1,1,w1,.ah,by simp only[go_sem,ya,yb,ap],by rw[Int.pow_one];exact h1,.inl ⟨rfl,(yaN z).symm,(by rw[yaN];decide)⟩,by lia,fun h0=>h0,hk,rfl⟩
  have⟨l5,u5⟩:=h5.aK;refine⟨s5,w5,?_,h5⟩;simp only[go_sem,ya,yb,ap,t4,t5,cI,cJ,cr,ye,ol u5,eb u5]
 have⟨s,w,e,hn⟩:=jQ;exact⟨_,e,s,w,rfl,hn⟩
def Jw:∀(l m:List Nat) (a:Nat),cM (l++m) a=(cM l a).bind (fun v=>cM m v)
 | [],m,a=>rfl
 | b::l,m,a=>by
  simp only[List.cons_append,cM]
  cases (yE 48 b&&yE b 57) with
  | true=>exact Jw l m _
  | false=>rfl
def apo:∀{l:List Nat} {a v:Nat},cM l 0=FL v->cM l a=FL (a*10^l.length+v):=by
 intro l
 suffices h:∀{l:List Nat} {a b v:Nat},cM l b=FL v->b*10^l.length<=v/\cM l (a+b)=FL (a*10^l.length+v) by
  intro a v hv
  have:=(h (a:=a) hv).2
  grind
 intro l
 induction l with
 | nil=>intro a b v h;simp[cM] at h ⊢;lia
 | cons c l ih=>
  intro a b v h;simp only[cM] at h ⊢
  cases hb:(yE 48 c&&yE c 57) with
  | false=>rw[hb] at h;cases h
  | true=>
   rw[hb] at h;have⟨h1,h2⟩:=ih (a:=10*a) h;simp only[yy,xh]
   grind
def Ur:∀{l:List Nat} {v:Nat},cM l 0=FL v->v<10^l.length:=by
 suffices h:∀{l:List Nat} {b v:Nat},cM l b=FL v->v<(b+1)*10^l.length by
  grind
 intro l
 induction l with
 | nil=>intro b v h;simp[cM] at h ⊢;lia
 | cons c l ih=>
  intro b v h;simp only[cM] at h
  cases hb:(yE 48 c&&yE c 57) with
  | false=>rw[hb] at h;cases h
  | true=>
   simp only[Bool.and_eq_true] at hb;have hc:=Nat.le_of_ble_eq_true hb.2;have h2:=Nat.mul_le_mul_right (10^l.length) (show 10*b+(c-48)+1<=10*(b+1) by lia)
   grind
def arD(WQ:L.pure 154=FL KI){f:cl}{s:List Nat}{v:Nat}(h0:0<s.length)(h1:s.length<=18)(hv:cM s 0=FL v):bL P L f 154 [.str s]=FL (.aw [.int .i64 v,.undef]):=by
 rw[kj WQ];show (bif yO 0 s.length&&yE s.length 18 then (match cM s 0 with | some n=>FL (AV.aw [.int .i64 n,.undef]) | none=>FM) else FM)=_
 rw[ma h0,yB h1,hv];rfl
def abq:∀j:Nat,iI [48] j++[48]=[48]++iI [48] j
 | 0=>rfl
 | j+1=>by
  show ([48]++iI [48] j)++[48]=[48]++([48]++iI [48] j)
  rw[xy,abq j]
def F2:∀j:Nat,(iI [48] j).length=j
 | 0=>rfl
 | j+1=>by show ([48]++iI [48] j).length=_;rw[yN,F2 j];simp;lia
def anf:∀(k n:Nat),n<10^k->0<k->jv k n=iI [48] (k-(aC n).length)++aC n:=by
 intro k
 induction k with
 | zero=>intro n _ h;lia
 | succ k ih=>
  intro n hn _;rw[jv];by_cases iM:n<10
  .rw [qt iM,yS iM]
   cases k with
   | zero=>rfl
   | succ k=>
    rw[ih (n/10) (by rw[xW iM];exact ybM (by decide)) (by lia),xW iM]
    rw[show aC 0=[48] by decide];rw[abq];rfl
  .have hk:0<k:=by
    grind
   rw[ih (n/10) (by rw[xh] at hn;lia) hk,se iM,xy,yN]
   grind
def ang{m d r:Nat}(hd:d=m/1000000000000000000)(hr:r=m%1000000000000000000):(0<d->aC m=aC d++(iI [48] (18-(aC r).length)++aC r))/\(d=0->aC m=aC r):=by
 have YL:r<10^18:=by lia
 constructor
 .intro h0;rw[<-anf 18 r YL (by decide),<-N8 18 d r h0 YL]
  grind
 .grind
def avp{f:cl}(h:L.pure 138=FL B5){n:Nat}(hn:n<18446744073709551616):bL P L f 138 [uc n,aa 10]=FL (.str (aC n)):=by
 rw[kj h];show (bif yO n 18446744073709551616 then FL (AV.str (aC n)) else FM)=_
 rw[ma hn];rfl
def US{f:cl}(h:L.pure 139=FL Cl){n:Nat}(hn:n<=100):bL P L f 139 [.str [48],aa (n:Nat)]=FL (.str (iI [48] n)):=by
 rw[kj h];show (bif yE n 1099511627776&&yE (1*n) 1099511627776 then FL (AV.str (iI [48] n)) else FM)=_
 rw[yB (by lia),yB (by lia)];rfl
def avq(h:Wd P L)(EZ:L.pure 138=FL B5)(Bt:L.pure 139=FL Cl){neg:Bool}{M K:Nat}(p7:0<M)(hK:K<=4000000000)(hlen:(aC M).length<=300000000000):
  cZ P L [3,4,5,6] qV (fun k s=>∃(m:Nat) (w:AV) (ps:List (List Nat)) (fl:Bool),m=k/\WN w m/\m<18446744073709551616^K/\aC M=(if m=0 then [] else aC m)++ps.reverse.flatten/\((ps=[]->m=M)/\18*ps.length<=(aC M).length+18)/\(m≠0->18*ps.length+(aC m).length=(aC M).length)/\
    ((ps=[]/\s=⟨[(3,.bool neg),(4,w),(5,.ax 0 0 1),(6,.ah)],[(0,.cells fl ycZ ycZ 1 [uc 1000000000000000000])],1,0⟩)\/
    (ps≠[]/\s=⟨[(3,.bool neg),(4,w),(5,.ax 0 0 1),(6,.ax 1 0 ps.length)],[(1,.cells ycZ ycZ false 1 (ps.map .str)),(0,.cells fl ycZ ycZ 1 [uc 1000000000000000000])],2,0⟩))) (fun ex s'=>∃tm ps fl,ex=.exit 0/\ps≠[]/\ps.length<=300000000000/\aC M=ps.reverse.flatten/\aj tm 3=.bool neg/\aj tm 6=.ax 1 0 ps.length/\s'=⟨tm,[(1,.cells ycZ ycZ false 1 (ps.map .str)),(0,.cells fl ycZ ycZ 1 [uc 1000000000000000000])],2,0⟩):=by
 apply c6;rintro k s ⟨m,w,ps,fl,rfl,hw,hmK,BS,ahh,nJ,hs⟩;have⟨lw,uw,gw,nw,vw⟩:=hw;by_cases hm:m=0
 .right
  have lL:lw=[]:=List.eq_nil_of_length_eq_zero (Nat.le_zero.1 (pD (K:=0) nw vw (by rw[hm];decide)))
  subst lL;rw[yD hm,yG] at BS;have eh:ps≠[]:=fun e=>by have:=ahh.1 e;lia
  have RY:ps.length<=300000000000:=by have:=ahh.2;lia
  rcases hs with ⟨h0,_⟩ | ⟨_,rfl⟩
  .exact absurd h0 eh
  .simp only [go_sem,ya,qV,uw.len,yJ,show ¬(0:Int)<((0:Nat):Int) by lia];exact⟨_,_,rfl,by simp,_,ps,fl,rfl,eh,RY,BS,rfl,rfl,rfl⟩
 .left
  have hw:WN w m:=⟨lw,uw,gw,nw,vw⟩;have hB:WN (.au ycZ 1 [uc 1000000000000000000]) 1000000000000000000:=⟨[1000000000000000000],n7 ycZ [1000000000000000000],GC.2 (by decide),by decide,by simp[bv]⟩;have⟨q,r,e1,hq,hr⟩:=ag2 h hw hB (K:=K+1) (by decide) (yP hmK (y9 (by decide) (by lia))) (by rw[xh];have:=ybM (n:=K) (show 0<18446744073709551616 by decide);lia) (by lia)
  have⟨t1,t2⟩:=ang (m:=m) rfl rfl;have eV:=xQ m 1000000000000000000;have hrB:=xG m (show 0<1000000000000000000 by decide);obtain⟨d,hd⟩:∃d,d=m/1000000000000000000:=⟨_,rfl⟩;obtain⟨x,hx⟩:∃x,x=m%1000000000000000000:=⟨_,rfl⟩;rw[<-hd] at hq t1 t2 eV;rw[<-hx] at hr t1 t2 eV hrB;have⟨lq,uq,gq,nq,vq⟩:=hq;have⟨lr,ur,gr,nr,vr⟩:=hr;have XJ:(aC x).length<=18:=zt (k:=17) (by lia);have hxp:=AQ x;have HN:(lr=[]/\x=0)\/lr=[x]:=by
   have h1:lr.length<=1:=pD (K:=1) nr vr (by rw[Nat.pow_one];lia)
   cases lr with
   | nil=>exact .inl ⟨rfl,by rw[<-vr];rfl⟩
   | cons a l=>
    cases l with
    | nil=>rw[Ct] at vr;exact .inr (by rw[vr])
    | cons b l=>simp at h1
  have MW:(lq=[]/\d=0)\/(0<lq.length/\0<d):=by
   cases lq with
   | nil=>exact .inl ⟨rfl,by rw[<-vq];rfl⟩
   | cons a l=>
    refine .inr ⟨by simp,?_⟩;rcases Nat.eq_zero_or_pos d with h0 | h0
    .have:=pD (K:=0) nq vq (by rw[h0];decide)
     simp at this
    .exact h0
  unfold ab at e1;have p8:(0:Int)<(lw.length:Int):=by
   have:lw≠[]:=fun e=>by subst e;simp[bv] at vw;lia
   have:=List.length_pos_iff.2 this
   lia
  have aES:=nJ hm;have hmp:=AQ m;have new:∀t:List Nat,aC m=(if d=0 then [] else aC d)++t->(d≠0->t.length=18)->
    aC M=(if d=0 then [] else aC d)++(ps++[t]).reverse.flatten/\((ps++[t]=[]->d=M)/\18*(ps++[t]).length<=(aC M).length+18)/\(d≠0->18*(ps++[t]).length+(aC d).length=(aC M).length):=fun t h1 h2=>by
   rw[yt hm,h1] at BS;refine⟨by rw[BS];simp,⟨by simp,by simp only[yN,yy,yJ];lia⟩,fun h0=>?_⟩
   have h3:=congrArg List.length h1;rw[yt h0,yN,h2 h0] at h3;simp only[yN,yy,yJ]
   lia
  have C1:d<m:=by lia
  have Dw:WN q d:=⟨lq,uq,gq,nq,vq⟩;have pW:lr=[x]->jm 1 0 r=FL (.bN (.int .u64 x::([]:List AV))):=fun e=>by
   subst e
   have:=ur.bq (i:=0) (by simp)
   simpa using this
  have f1:=avp (P:=P) (f:=D P L) EZ (n:=x) (by lia);have f2:=US (P:=P) (f:=D P L) Bt (n:=18-(aC x).length) (by lia);have WT:(18:Int)-((aC x).length:Int)=((18-(aC x).length:Nat):Int):=by lia
  have aET:18*ps.length<=300000000000:=by lia
  have zl:(iI [48] (18-(aC x).length)++aC x).length=18:=by rw[yN,F2];lia
  obtain⟨z,hz⟩:∃z,z=aC x:=⟨_,rfl⟩;have kI:x=0->z=[48]:=fun e=>by rw[hz,e];decide
  rw[<-hz] at f1 f2 WT XJ hxp zl t1 t2;cases fl
  all_goals
   rcases MW with ⟨rfl,ij⟩ | ⟨RZ,ij⟩
   .have ⟨n1,n2,n3⟩:=new z (by rw[yD ij,yG];exact t2 ij) (fun h=>absurd ij h)
    rcases HN with ⟨rfl,mZ⟩ | rfl
    .have jX:=kI mZ;clear hz;subst jX;rcases hs with ⟨jc,rfl⟩ | ⟨jc,rfl⟩
     .subst jc;simp only[go_sem,ya,yb,xq,yz,yk,yi,qV,uw.len,uw.ai,uq.len,uq.cg,ur.len,ur.cg,p8,e1,yJ,yJ,show ¬(0:Int)<((0:Nat):Int) by lia,gV];refine⟨_,d,rfl,C1,d,q,[]++[[48]],false,rfl,Dw,by lia,n1,n2,n3,.inr ⟨by simp,?_⟩⟩;simp only[go_sem,ya,yb,ap,az uq.pu]<;>rfl
     .simp only [go_sem,ya,yb,yz,yk,yi,qV,uw.len,uw.ai,uq.len,uq.cg,ur.len,ur.cg,p8,e1,yJ,yJ,show ¬(0:Int)<((0:Nat):Int) by lia]
      rw[fP (ex:=false) (pu:=ycZ) (cs:=ps.map .str) rfl (by simp) (by lia) (by lia) (by decide) rfl];simp only[go_sem,ya,yb];refine⟨_,d,rfl,C1,d,q,ps++[[48]],false,rfl,Dw,by lia,n1,n2,n3,.inr ⟨by simp,?_⟩⟩;rw[xb,yN];simp only[go_sem,ya,yb,ap,az uq.pu]<;>rfl
    .rcases hs with ⟨jc,rfl⟩ | ⟨jc,rfl⟩
     .subst jc;simp only[go_sem,ya,yb,xq,yz,yk,yi,qV,uw.len,uw.ai,uq.len,uq.cg,ur.len,ur.cg,p8,e1,yy,yJ,yd,show (0:Int)<((1:Nat):Int) by lia,pW rfl,f1,yJ,show ¬(0:Int)<((0:Nat):Int) by lia,gV];refine⟨_,d,rfl,C1,d,q,[]++[z],false,rfl,Dw,by lia,n1,n2,n3,.inr ⟨by simp,?_⟩⟩;simp only[go_sem,ya,yb,ap,az uq.pu]<;>rfl
     .simp only [go_sem,ya,yb,yz,yk,yi,qV,uw.len,uw.ai,uq.len,uq.cg,ur.len,ur.cg,p8,e1,yy,yJ,yd,show (0:Int)<((1:Nat):Int) by lia,pW rfl,f1,yJ,show ¬(0:Int)<((0:Nat):Int) by lia]
      rw[fP (ex:=false) (pu:=ycZ) (cs:=ps.map .str) rfl (by simp) (by lia) (by lia) (by decide) rfl];simp only[go_sem,ya,yb];refine⟨_,d,rfl,C1,d,q,ps++[z],false,rfl,Dw,by lia,n1,n2,n3,.inr ⟨by simp,?_⟩⟩;rw[xb,yN];simp only[go_sem,ya,yb,ap,az uq.pu]<;>rfl
   .have ⟨n1,n2,n3⟩:=new (iI [48] (18-z.length)++z) (by rw[yt (by lia)];exact t1 ij) (fun _=>zl)
    rcases HN with ⟨rfl,mZ⟩ | rfl
    .have jX:=kI mZ;clear hz;subst jX;rcases hs with ⟨jc,rfl⟩ | ⟨jc,rfl⟩
     .subst jc
      simp only[go_sem,ya,yb,xq,yz,yk,yi,qV,uw.len,uw.ai,uq.len,uq.cg,ur.len,ur.cg,p8,e1,yJ,show ¬(0:Int)<((0:Nat):Int) by lia,show (0:Int)<(lq.length:Int) by lia,show (18:Int)-((1:Nat):Int)=((17:Nat):Int) from rfl,wrapN (n:=17) (by lia),US (P:=P) (f:=D P L) Bt (n:=17) (by lia),gX (a:=iI [48] 17) (b:=[48]) (by rw[F2];decide),gV]
      refine⟨_,d,rfl,C1,d,q,[]++[iI [48] 17++[48]],false,rfl,Dw,by lia,n1,n2,n3,.inr ⟨by simp,?_⟩⟩;simp only[go_sem,ya,yb,ap,az uq.pu]<;>rfl
     .simp only [go_sem,ya,yb,yz,yk,yi,qV,uw.len,uw.ai,uq.len,uq.cg,ur.len,ur.cg,p8,e1,yJ,show ¬(0:Int)<((0:Nat):Int) by lia,show (0:Int)<(lq.length:Int) by lia,show (18:Int)-((1:Nat):Int)=((17:Nat):Int) from rfl,wrapN (n:=17) (by lia),US (P:=P) (f:=D P L) Bt (n:=17) (by lia),gX (a:=iI [48] 17) (b:=[48]) (by rw[F2];decide)]
      rw[fP (ex:=false) (pu:=ycZ) (cs:=ps.map .str) rfl (by simp) (by lia) (by lia) (by decide) rfl];simp only[go_sem,ya,yb];refine⟨_,d,rfl,C1,d,q,ps++[iI [48] 17++[48]],false,rfl,Dw,by lia,n1,n2,n3,.inr ⟨by simp,?_⟩⟩;rw[xb,yN];simp only[go_sem,ya,yb,ap,az uq.pu]<;>rfl
    .rcases hs with ⟨jc,rfl⟩ | ⟨jc,rfl⟩
     .subst jc
      simp only[go_sem,ya,yb,xq,yz,yk,yi,qV,uw.len,uw.ai,uq.len,uq.cg,ur.len,ur.cg,p8,e1,yy,yJ,yd,show (0:Int)<((1:Nat):Int) by lia,pW rfl,f1,show (0:Int)<(lq.length:Int) by lia,WT,wrapN (n:=18-z.length) (by lia),f2,gX (a:=iI [48] (18-z.length)) (b:=z) (by rw[F2];lia),gV]
      refine⟨_,d,rfl,C1,d,q,[]++[iI [48] (18-z.length)++z],false,rfl,Dw,by lia,n1,n2,n3,.inr ⟨by simp,?_⟩⟩;simp only[go_sem,ya,yb,ap,az uq.pu]<;>rfl
     .simp only [go_sem,ya,yb,yz,yk,yi,qV,uw.len,uw.ai,uq.len,uq.cg,ur.len,ur.cg,p8,e1,yy,yJ,yd,show (0:Int)<((1:Nat):Int) by lia,pW rfl,f1,show (0:Int)<(lq.length:Int) by lia,WT,wrapN (n:=18-z.length) (by lia),f2,gX (a:=iI [48] (18-z.length)) (b:=z) (by rw[F2];lia)]
      rw[fP (ex:=false) (pu:=ycZ) (cs:=ps.map .str) rfl (by simp) (by lia) (by lia) (by decide) rfl];simp only[go_sem,ya,yb];refine⟨_,d,rfl,C1,d,q,ps++[iI [48] (18-z.length)++z],false,rfl,Dw,by lia,n1,n2,n3,.inr ⟨by simp,?_⟩⟩;rw[xb,yN];simp only[go_sem,ya,yb,ap,az uq.pu]<;>rfl
def LH:Nat->VC->VC
 | 0,c=>bB c
 | n+1,c=>.seq (bB c) (LH n (aD c))
def Ba:Nat->VC->VC
 | 0,c=>aD c
 | n+1,c=>Ba n (aD c)
def alL(h:Nu P L)(EZ:L.pure 138=FL B5)(Bt:L.pure 139=FL Cl){s z:Int}{e:Bool}{l:List Nat}(hn:dD s (.au e l.length (l.map uc)) z){K:Nat}(jX:0<z.natAbs)(R0:z.natAbs<18446744073709551616^K)(hK:K<=4000000000)(hlen:(aC z.natAbs).length<=300000000000):
  ∃ps:List (List Nat),ps≠[]/\ps.length<=300000000000/\aC z.natAbs=ps.reverse.flatten/\D P L (LH 5 Fi.body) ⟨[(0,.agg [aa s,.au e l.length (l.map uc)])],[],0,0⟩=FL (.normal,⟨[(3,.bool (decide (z<0))),(6,.ax 0 0 ps.length)],[(0,.cells ycZ ycZ false 1 (ps.map .str))],1,0⟩):=by
 have⟨r,e1,hr⟩:=Bs h hn;have bh:=hr;have⟨lr,ur,gr,nr,vr⟩:=hr;simp only[go_sem,ya,yb,yk,yi,Fi,LH,bB,aD,aQ,aT,yd,df,oZ,eD,cr,bY,e1];generalize nQ:D P L (.loop _ qV) _=qq;obtain⟨ex,st,rfl,tm,ps,fl,rfl,eh,RY,BS,t3,t6,rfl⟩:=bH nQ (avq (P:=P) (L:=L) h.toWd EZ Bt (neg:=decide (z<0)) (M:=z.natAbs) (K:=K) jX hK hlen z.natAbs) ⟨z.natAbs,cg r,[],ycZ,rfl,bh,R0,by rw[yt (by lia)];simp,⟨fun _=>rfl,by simp⟩,fun _=>by simp,.inl ⟨rfl,by
  simp only[go_sem,ya,yb,ap,az ur.pu]<;>rfl⟩⟩
 refine⟨ps,eh,RY,BS,?_⟩;simp only[go_sem,yb,ap,t3,t6]
section
open Go
section
variable {aq:List AV}{s:St}
variable {O:bA}
def Bb:Nat->vA->vA
 | 0,.seq _ b=>b
 | n+1,.seq _ b=>Bb n b
 | _,c=>c
def QJ:Nat->vA->Prop
 | 0,.seq _ _=>True
 | n+1,.seq _ b=>QJ n b
 | _,_=>False
def acs(hO:iy O){h:Nat}{c:vA}{l k:Nat}{ex:Ex}{s':St}(hv:D O.prog O.aI (comp O.P (O.hint h) c l k).1 s=FL (ex,s')):CH O h c s ex s':=by
 have⟨n,hn⟩:=Wq hv
 cases n with
 | zero=>rw[JF] at hn;cases hn
 | succ n=>
  exact adb hO n (fun k _=>ZQ hO k) h c l k n (yu _) s ex s' hn
def aeg(hO:iy O){h:Nat}{ro:Option Nat}{lo:Nat}{Q:Exit->Act->yj->Prop}:∀(n:Nat) (c:vA) (l k:Nat),QJ n c->∀(s s1:St),D O.prog O.aI (LH n (comp O.P (O.hint h) c l k).1) s=FL (.normal,s1)->
  ∀(m:Mp) (S:Nat->Prop) (w:yj) (a:Act),AY ro w->bV O m S w s.tm a.tmps->aS O m S w s.hp s.ct->s.base<=s.ct->(O.hint h).n<=a.tmps.size->O.w0.heap.size<=lo->lo<=w.heap.size->Marks lo S w a.defers->
  (∀a' w',eR O m S w s .normal s1 a.tmps.size lo .normal a' w'->(Bb n c).wpIn (WF ro) 0 O.P Q a' w')->c.wpIn (WF ro) 0 O.P Q a w
 | n,c,l,k,hc,s,s1,hv=>by
  intro m S w a cU ht hh hb hn bc fF bZ hQ
  cases c with
  | seq x y=>
   cases n with
   | zero=>
    refine wpIn_seq (wpIn_mono (acs hO (show D O.prog O.aI (comp O.P (O.hint h) x l k).1 s=FL (.normal,s1) from hv) ro lo m S w a cU ht hh hb hn bc fF bZ) ?_);rintro e a' w' hp;have he:e=.normal:=hp.1;subst he;exact hQ a' w' hp
   | succ n=>
    have eS:D O.prog O.aI (.seq (comp O.P (O.hint h) x l k).1 (LH n (comp O.P (O.hint h) y (comp O.P (O.hint h) x l k).2.1 (comp O.P (O.hint h) x l k).2.2).1)) s=FL (.normal,s1):=hv;rw[nC] at eS
    cases hx:D O.prog O.aI (comp O.P (O.hint h) x l k).1 s with
    | none=>rw[hx] at eS;cases eS
    | some q=>
     have⟨ex,st⟩:=q;rw[hx] at eS
     cases ex with
     | ret=>exact absurd eS (by intro h;cases h)
     | exit id=>exact absurd eS (by intro h;cases h)
     | normal=>
      refine wpIn_seq (wpIn_mono (acs hO hx ro lo m S w a cU ht hh hb hn bc fF bZ) ?_);rintro e a' w' ⟨rfl,m',S',k1,k2,k3,k4,k5,k6,k7⟩;refine aeg hO n y _ _ hc st s1 eS m' S' w' a' (NN k5 cU) k1 k2 (by lia) (by lia) bc (xi fF k5.size) k7 ?_;rintro a2 w2 ⟨_,m2,S2,g1,g2,g3,g4,g5,g6,g7⟩;exact hQ a2 w2 ⟨rfl,m2,S2,g1,g2,by lia,by lia,k5.trans (by rw[<-k3];exact g5),by lia,g7⟩
  | _=>cases n<;>exact hc.elim
def avr(hO:iy O){n:Nat}{F:aA}(hF:O.prog n=FL F){fn:yaE}{c:vA}(mv:O.P.funcs[O.ae n]? =FL fn)(jY:fn.body=FL c){hp:Hp}{ct:Nat}(hc:(comp O.P (O.hint n) c 0 0).1=F.body->∀m S w a,bV O m S w (fI 0 aq) a.tmps->aS O m S w hp ct->(O.hint n).n<=a.tmps.size->a.tmps.size=max fn.ntmps aq.length->O.w0.heap.size<=w.heap.size->a.defers=[]->
   c.wpIn (WF FM) 0 O.P (eR O m S w ⟨fI 0 aq,hp,ct,ct⟩ .ret s a.tmps.size w.heap.size) a w){v:AV}(hr:jE s F.eA=FL v):CG O n hp ct aq v s.hp s.ct:=by
 intro m S w args hh eF;have⟨fn',q1,q2,q3⟩:=hO.prog n F hF;rw[mv] at q1;cases q1;have⟨c',q4,q5,q6,q7⟩:=Sp q2;rw[jY] at q4;cases q4;refine .inl ⟨F0 mv (by rw[jY];rfl) q3,?_⟩
 have hlen:aq.length=args.size:=by have:=(gU _ _ eF).symm;simpa using this
 have hw:=hc q5.symm m S w {tmps:=args++Array.replicate (fn.ntmps-args.size) undef,defers:=[]} (aa7 _ eF) hh (by simp;lia) (by simp;lia) hh.gi rfl
 refine callsIn_of_wp_marks (F:=ybo) mv jY trivial (wpIn_mono hw ?_);rintro e a' w' ⟨rfl,m',S',k1,k2,k3,k4,k5,k6,rs,k7,k8,k9⟩;show LeavesInM ybo 0 O.P fn a'.tmps (AN O m S w hp ct v s.hp s.ct) a'.defers .returning w'
 rw[k7];exact SZ q6 hr k4 rs w' k8 k9 hh.gi k2 k1 k5
def apq(hO:iy O){n:Nat}{F:aA}(hF:O.prog n=FL F){fn:yaE}{c:vA}(mv:O.P.funcs[O.ae n]? =FL fn)(jY:fn.body=FL c)(hc:(comp O.P (O.hint n) c 0 0).1=F.body->∀m S w a,bV O m S w (fI 0 aq) a.tmps->aS O m S w [] 0->(O.hint n).n<=a.tmps.size->a.tmps.size=max fn.ntmps aq.length->O.w0.heap.size<=w.heap.size->a.defers=[]->
   c.wpIn (WF FM) 0 O.P (eR O m S w ⟨fI 0 aq,[],0,0⟩ .ret s a.tmps.size w.heap.size) a w){v r:AV}(hv:jE s F.eA=FL v)(hr:result s.hp v=FL r):et O n aq r:=
 Si (avr hO hF mv jY hc hv) hr
end
end
section
open Go
def aaz{ae:Nat->Nat}{m:Mp}{S:Nat->Prop}{w:yj}{b:Nat}:∀{ps:List (List Nat)} {o:Nat},bU ae m S w (ps.map .str) b o->
  ∃ts:List ByteArray,(ts.map fun t=>t.data.toList.map xk)=ps/\∀i (h:i<ts.length),w.cell? ⟨b,o+i,FM⟩=FL (.string ts[i])
 | [],o,_=>⟨[],rfl,fun i h=>absurd h (Nat.not_lt_zero i)⟩
 | p::ps,o,h=>by
  have⟨⟨u,h1,h2⟩,h3⟩:=h;obtain⟨t,rfl,ht⟩:=h2;have⟨ts,k1,k2⟩:=aaz h3;refine⟨t::ts,by rw[List.map_cons,ht,k1],fun i hi=>?_⟩
  cases i with
  | zero=>exact h1
  | succ i=>
   grind
def pE(ts:List ByteArray):List UInt8:=(ts.map fun t=>t.data.toList).flatten
def arE{ts:List ByteArray}{ps:List (List Nat)}(h:(ts.map fun t=>t.data.toList.map xk)=ps):(pE ts.reverse).map xk=ps.reverse.flatten:=by
 subst h;unfold pE;rw[List.map_flatten,ybs,<-yav];rfl
def arG{ts:List ByteArray}{ps:List (List Nat)}(h:(ts.map fun t=>t.data.toList.map xk)=ps):(ts.map (·.size)).sum=ps.reverse.flatten.length:=by
 subst h;rw[List.length_flatten,yav,List.sum_reverse,ybs]
 congr 1
 simp_all
def Us(P:Program)(c:vA):Prop:=∀(Q:Exit->Act->yj->Prop) (a:Act) (w:yj) (neg:Bool) (ts:List ByteArray) (b o cc:Nat),a.tmps.size=69->a.tmps.getD 3 undef=.bool neg->a.tmps.getD 6 undef=.slice (FL ⟨b,o,FM⟩) ts.length cc->
  (∀i (h:i<ts.length),w.cell? ⟨b,o+i,FM⟩=FL (.string ts[i]))->(ts.map (·.size)).sum+1<=140737488355328->ts.length<=cc->ts.length<9223372036854775808->
  (∀a' w',Calm w w'->a'.tmps.size=69->a'.defers=a.defers->a'.tmps.getD 2 undef=.string ⟨((if neg then [45] else [])++pE ts.reverse).toArray⟩->Q .ret a' w')->
  (Bb 5 c).wpIn Fence.wide 0 P Q a w
section
variable {O:bA}
def alM{n K:Nat}(h:n<18446744073709551616^K):(aC n).length<=20*K+1:=by
 refine zt (k:=20*K) (yP h ?_);have h1:(10:Nat)^(20*K)=(10^20)^K:=Nat.pow_mul ..;exact xi (by rw[h1];exact ub (by decide) K) (y9 (by decide) (Nat.le_succ _))
def apr(hO:iy O)(hN:Nu O.prog O.aI)(EZ:O.aI.pure 138=FL B5)(Bt:O.aI.pure 139=FL Cl)(HV:O.prog 99=FL Fi){fn:yaE}{c:vA}(mv:O.P.funcs[O.ae 99]? =FL fn)(jY:fn.body=FL c)(Re:fn.ntmps=69)(WU:QJ 5 c)(ht:Us O.P c){s z:Int}{e:Bool}{l:List Nat}(hn:dD s (.au e l.length (l.map uc)) z)(jX:0<z.natAbs)(hK:l.length<=4000000000)(R0:z.natAbs<18446744073709551616^l.length):
  et O 99 [.agg [aa s,.au e l.length (l.map uc)]] (.str (aV z)):=by
 have hlen:=alM R0;have⟨ps,eh,RY,BS,e1⟩:=alL (P:=O.prog) (L:=O.aI) hN EZ Bt hn jX R0 hK (by lia)
 refine apq hO HV mv jY (s:=⟨[(2,.str (aV z))],[(0,.cells ycZ ycZ false 1 (ps.map .str))],1,0⟩) (v:=.str (aV z)) ?_ rfl rfl;intro axV m S w a htr hh Ap eG hgs Fv;refine aeg hO 5 c 0 0 WU _ _ (by rw[axV];exact e1) m S w a (fun l hl=>by cases hl) htr hh (yu _) Ap hgs (yu _) ⟨[],by rw[Fv];rfl,by simp,by simp⟩ ?_
 rintro a' w' ⟨_,m',S',k1,k2,k3,k4,k5,k6,k7⟩;have r3:=k1 3;have r6:=k1 6;have g3:aj [(3,AV.bool (decide (z<0))),(6,.ax 0 0 ps.length)] 3=.bool (decide (z<0)):=rfl;have g6:aj [(3,AV.bool (decide (z<0))),(6,.ax 0 0 ps.length)] 6=.ax 0 0 ps.length:=rfl;rw[g3] at r3;rw[g6] at r6;simp only[af] at r3 r6;have⟨p,cc,hm,r6,hcc,_⟩:=r6;have⟨p',arr,t,iK,_,_,_,_,_,BB,_⟩:=k2.obj 0 _ p rfl hm;rw[hm] at iK;cases iK;have⟨ts,nL,Et⟩:=aaz BB;have pO:ts.length=ps.length:=by rw[<-nL,List.length_map]
 have C2:=arG nL;rw[<-BS] at C2;have WV:=arE nL;rw[<-BS] at WV;refine ht _ a' w' (decide (z<0)) ts p.b p.o cc ?_ r3 (by rw[pO];exact r6) Et (by lia) (by lia) (by lia) ?_
 .grind
 .intro a2 w2 hc h1 h2 h3;have Mw:=B9 k2 hc (S':=S') (fun _ h=>h) (fun _ h=>.inl h) (fun b hb=>yP (k2.slt b hb) hc.size);refine⟨rfl,m',S',?_,Mw,rfl,Nat.zero_le _,k5.trans (AO k2 hc (fun _ h=>h) (fun _ h=>.inl h)),?_,?_⟩
  .intro i;by_cases hi:i=2
   .subst hi;rw[h3];show af O.ae m' S' w2 (.str (aV z)) _
    simp only[af];refine⟨_,rfl,?_⟩;by_cases h0:z<0
    .rw [nX h0,y8 h0];simp only[xA,xb];rw[WV];rfl
    .obtain ⟨n,rfl⟩:∃n:Nat,z=n:=⟨z.toNat,by lia⟩;rw[yQ h0];simp only[yC,xm,yG];rw[WV];rfl
   .have:aj [(2,AV.str (aV z))] i=.undef:=by
     have hb:yq 2 i=false:=by
      cases hq:yq 2 i with
      | false=>rfl
      | true=>exact absurd (Nat.eq_of_beq_eq_true hq).symm hi
     simp only[aj,hb,yR]
    show af O.ae m' S' w2 (aj [(2,AV.str (aV z))] i) _
    rw[this];simp only[af]
  .rw [h1,eG,Re];simp
  .rw [h2]
   exact Ca k2 (AO (base:=0) k2 hc (fun _ h=>h) (fun _ h=>.inl h)) k7
end
end
end VE
