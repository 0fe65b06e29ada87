import Derived.Test.YtcifahflapielaaGreatDoorWap
set_option linter.all false
set_option maxRecDepth 100000
open BitVec renaming ofInt->wu,ofNat->tA,toNat_ofNat->ua
open Bool renaming and_self->wj,false_eq_true->yL,not_false->xb,not_true->y9
open Go renaming Code->vj,Func->yaD,World->ym
open Go.Fence renaming wide->ybm
open Int renaming ediv_emod_unique->yad,gcd->vh,gcd_comm->ycp,natAbs_ediv_of_dvd->uW,natCast_mul->xk,pow_zero->yaL,reduceEq->yay
open List renaming append_assoc->xJ,drop_zero->yg,length_append->yM,length_cons->yx,length_nil->yN,map_append->xu,map_map->ybq,map_reverse->yav,nil_append->xG
open Nat renaming add_zero->xd,beq->yp,ble->yJ,ble_eq_true_of_le->yB,blt->yP,div_add_mod->wm,div_eq_of_lt->xW,div_le_self->vm,le_refl->yz,le_trans->xn,lt_of_le_of_lt->wB,lt_of_lt_of_le->yR,mod_eq_of_lt->yY,mod_le->ycM,mod_lt->xO,mul_add->xK,mul_le_mul_left->xa,mul_one->yi,mul_zero->xI,pow_le_pow_left->uf,pow_le_pow_right->xe,pow_pos->ybG,pow_succ->xt,reduceAdd->yb,reduceEqDiff->ya,reduceLT->yG,reduceLeDiff->yk,reduceMul->xg,zero_add->yf
open Rat renaming den_divInt->ybP,divInt->wK,divInt_ofNat->ybB,num_divInt->ybO,sub_eq_add_neg->ybl
open UInt8 renaming toNat->xp
open Option renaming some->GW,none->GX
open Bool renaming true->ycN
namespace VE
open Go (IntKind)
variable {P:aG}{L:Lib}
section
variable {v w:AV}{a b:Int}{K:Nat}
def EC{P:aG}{L:Lib}(a b c:VC)(s:St):D P L (.seq a (.seq b c)) s=rN P L (D P L (.seq a b) s) c:=by
 rw[nS,nS]
 cases D P L a s with
 | none=>rfl
 | some q=>
  have⟨ex,st⟩:=q
  cases ex with
  | normal=>rw[iS,iS,nS]
  | ret=>rfl
  | exit id=>rfl
def aeE{s s':Int}{w':AV}{l l':List Nat}(h:bJ w l)(h':bJ w' l')(hp:Hp):result hp (.av [.agg [aa s,w],.agg [aa s',w']])=GW (.av [.agg [aa s,w],.agg [aa s',w']]):=by
 rcases h with ⟨rfl,_⟩ | ⟨e,rfl⟩<;>rcases h' with ⟨rfl,_⟩ | ⟨e',rfl⟩<;>rfl
def Sh(tm:Env)(hp:Hp)(ct:Nat)(rs:List (Nat×Bool×Nat))(sz:Nat)(p:AV)(new:List AV):gL:=match p with | .ptr id o=>bif jA tm id rs then dS hp ct id o sz new (ax hp id) else GX | _=>GX
def Si(id:Nat):AV->Bool | .ptr j _=> !yp j id | .bN _=>ycN | _=>false
def VR{P:aG}{L:Lib}(f:cw)(tm:Env)(hp:Hp)(ct:Nat)(rs:List (Nat×Bool×Nat))(sz:Nat)(x v:X):aZ P L f tm hp ct (.lO rs sz x v)=Sh tm hp ct rs sz (az tm x) (cellsOf (az tm v)):=by
 simp only[aZ,Sh]
 cases hx:az tm x with
 | ptr id o=>
  rw[acY,hx,afS]
 | _=>rfl
def VS{tm:Env}{hp:Hp}{ct:Nat}{rs:List (Nat×Bool×Nat)}{sz id o:Nat}{new:List AV}(h:jA tm id rs=ycN):Sh tm hp ct rs sz (.ptr id o) new=dS hp ct id o sz new (ax hp id):=by
 simp only[Sh,h,yC]
def Vo(tm:Env)(id:Nat):jA tm id []=ycN:=(rfl)
def U1(tm:Env)(id sz x:Nat)(ag:Bool)(r:List (Nat×Bool×Nat)):jA tm id ((sz,ag,x)::r)=(Si id (ai tm x)&&jA tm id r):=by
 simp only[jA,Si]
 grind
def VT{id j o:Nat}(h:j≠id):Si id (.ptr j o)=ycN:=by simp only[Si,iG h,xb]
def ahf(h:Nu P L)(hv:cJ v a)(hw:cJ w b)(ka:Bd K a)(kb:Bd K b)(hK:K<=40000000000):∃r,af P L 156 [v,w] r/\cJ r (a-b):=by
 have⟨n,e1,hn⟩:=IP h hw kb (by lia);have⟨r,e2,hr⟩:=Nt h hv hn ka kb.neg hK;have bR:=hr;obtain⟨s1,w1,rfl,h1⟩:=hv;obtain⟨s2,w2,rfl,h2⟩:=hw;obtain⟨s3,w3,rfl,h3⟩:=hn;obtain⟨s4,w4,rfl,h4⟩:=hr;have⟨l1,u1⟩:=h1.aM;have⟨l2,u2⟩:=h2.aM;have⟨l3,u3⟩:=h3.aM;have⟨l4,u4⟩:=h4.aM;refine⟨_,?_,bR⟩;unfold af;rw[aF h.azG];simp only[go_sem,ya,yb,Xa,aR,u1.pu,u1.ak,u1.one,u2.pu,u2.ak,u2.one,u3.ak,cm,e1,e2,a8,cX,cZ,cA,yg,oK u4,eD u4]
def azJ(h:Nu P L)(hv:cJ v a)(hw:cJ w b)(ka:Bd K a)(kb:Bd K b)(hK:K<=40000000000):af P L 118 [v,w] (aa (cW (a-b))):=by
 have⟨d,e1,hd⟩:=ahf h hv hw ka kb hK;have e2:=IN h hd;obtain⟨s1,w1,rfl,h1⟩:=hv;obtain⟨s2,w2,rfl,h2⟩:=hw;obtain⟨s3,w3,rfl,h3⟩:=hd;have⟨l2,u2⟩:=h2.aM;have⟨l3,u3⟩:=h3.aM;unfold af;rw[aF h.azF];rcases h1 with ⟨rfl,rfl,a1,a2⟩ | ⟨e,l,rfl,ga,na,va,sa,a1⟩
 .rcases h2 with ⟨rfl,rfl,b1,b2⟩ | ⟨e,l,rfl,gb,nb,vb,sb,b1⟩
  .by_cases c1:s1<s2
   .rw [show cW (s1-s2)= -1 by unfold cW;rw[yK (by lia)]];simp only[go_sem,ya,yb,FO,aR,iJ,eP,bH,yf,du,c1]
   .by_cases c2:s2<s1
    .rw [show cW (s1-s2)=1 by unfold cW;rw[yI (by lia),yI (by lia)]];simp only[go_sem,ya,yb,FO,aR,iJ,eP,bH,yf,du,c1,c2]
    .rw [show cW (s1-s2)=0 by unfold cW;rw[yI (by lia),yK (by lia)]];simp only[go_sem,ya,yb,FO,aR,iJ,eP,bH,yf,du,c1,c2]
  .simp only [go_sem,ya,yb,FO,aR,iJ,pR,eP,bH,yf,du,cA,cm,e1,e2,u3.ak,a8]
 .simp only [go_sem,ya,yb,FO,aR,u2.pu,u2.ak,u2.one,pR,eP,bH,yf,du,cA,cm,e1,e2,u3.ak,a8]
def ava(h:Nu P L){s1 s2:Int}{w1 w2:AV}(ha:df s1 w1 a)(hb:df s2 w2 b)(ka:Bd K a)(kb:Bd K b)(hK:K<=40000000000):
  ∃r,cJ r (a*b)/\∀tm,ai tm 2=.ptr 0 0->ai tm 3=.ptr 1 0->ai tm 4=.ptr 2 0->gK [.cell 4 2 ycN] (D P L (aD (aD nU.body)) ⟨tm,[(2,.cells ycN ycN ycN 2 [.int .i64 0,.ab]),(1,.cells ycN ycN ycN 2 [aa s2,w2]),(0,.cells ycN ycN ycN 2 [aa s1,w1])],3,0⟩)=GW r:=by
 have⟨l1,u1⟩:=ha.aM;have⟨l2,u2⟩:=hb.aM;have⟨p,e1,hp⟩:=B0 h ha;have⟨q,e2,hq⟩:=B0 h hb;have⟨lp,ix,gp,np,vp⟩:=hp.aM;have⟨lq,qP,gq,nq,vq⟩:=hq.aM;have D8:=yR ka (C8 K);have Jn:=yR kb (C8 K);have llp:lp.length<=40000000000:=xn (p9 np vp D8) hK;have llq:lq.length<=40000000000:=xn (p9 nq vq Jn) hK;have⟨o,oZ,e3,ho,oY,no,vo⟩:=azn h.azv h.nX h.nY h.iv ix qP gp gq (by lia) (by lia);have⟨r,e4,hr⟩:=F5 h (decide (a<0) !=decide (b<0)) ⟨oZ,ho,oY,no,vo⟩ (K:=K+K) (by rw[vp,vq,Nat.pow_add];exact Nat.mul_lt_mul'' D8 Jn) (by lia)
 rw[vp,vq,ac7] at hr;have bR:=hr;obtain⟨s',w',rfl,n8⟩:=hr;have⟨l',jV⟩:=n8.aM;refine⟨_,bR,fun tm t2 t3 t4=>?_⟩;have AU:∀x y:Bool,IJ ycN (GW (x==y))=GW (.bool (x !=y)):=fun x y=>by cases x<;>cases y<;>rfl
 simp only[go_sem,ya,nU,aD,t2,t3,t4,cA,cm,u1.ak,u2.ak,e1,e2,ix.ak,qP.ak,rO,AU,e3,ho.ak,ho.shut,e4,a8,cX,cZ,cA,yg,oK jV,eD jV]
def apF{m:Nat}(h:a.natAbs*b.natAbs=m):a*b=if (decide (a<0)==decide (b<0))=ycN then (m:Int) else 0-(m:Int):=by
 have:=ac7 (a:=a) (b:=b)
 rw[h] at this;unfold cF at this
 cases hd:(decide (a<0)==decide (b<0)) with
 | true=>simp only[bne,hd,y9,yL,xE] at this;exact this.symm
 | false=>simp only[bne,hd,xb,xS] at this;rw[yI (by decide)];lia
def Dz(h:Nu P L)(hv:cJ v a)(hw:cJ w b)(ka:Bd K a)(kb:Bd K b)(hK:K<=40000000000):∃r,af P L 100 [v,w] r/\cJ r (a*b):=by
 obtain⟨s1,w1,rfl,h1⟩:=hv;obtain⟨s2,w2,rfl,h2⟩:=hw;have⟨l1,u1⟩:=h1.aM;have⟨l2,u2⟩:=h2.aM;have⟨r,hr,tail⟩:=ava h h1 h2 ka kb hK;have fin:∀tm,ai tm 2=.ptr 0 0->ai tm 3=.ptr 1 0->ai tm 4=.ptr 2 0->
   D P L (.seq (bC nU.body) (bC (aD nU.body))) ⟨[(0,.agg [aa s1,w1]),(1,.agg [aa s2,w2])],[],0,0⟩=GW (.normal,⟨tm,[(2,.cells ycN ycN ycN 2 [.int .i64 0,.ab]),(1,.cells ycN ycN ycN 2 [aa s2,w2]),(0,.cells ycN ycN ycN 2 [aa s1,w1])],3,0⟩)->af P L 100 [.agg [aa s1,w1],.agg [aa s2,w2]] r:=fun tm t2 t3 t4 e=>by
  unfold af;rw[aF h.Sg];show gK [.cell 4 2 ycN] (D P L (.seq (bC nU.body) (.seq (bC (aD nU.body)) (aD (aD nU.body)))) ⟨[(0,.agg [aa s1,w1]),(1,.agg [aa s2,w2])],[],0,0⟩)=_
  rw[EC,e,iS];exact tail tm t2 t3 t4
 rcases h1 with ⟨rfl,rfl,a1,a2⟩ | ⟨e,l,rfl,ga,na,va,sa,a1⟩
 .rcases h2 with ⟨rfl,rfl,b1,b2⟩ | ⟨e,l,rfl,gb,nb,vb,sb,b1⟩
  .have f1:=Xy h a1 a2;have f2:=Xy h b1 b2;have f3:=Qo (P:=P) (f:=D P L) h.nY (x:=s1.natAbs) (y:=s2.natAbs) (by lia) (by lia);obtain⟨m,hm⟩:∃m,s1.natAbs*s2.natAbs=m:=⟨_,rfl⟩;rw[hm] at f3;have lT:=apF hm;by_cases jd:m<=9223372036854775807
   .rw [xW (by lia),yY (by lia)] at f3;rw[show (uc 0)=AV.int .u64 0 from rfl] at f3;by_cases hs:(decide (s1<0)==decide (s2<0))=ycN
    .rw [yK hs] at lT;refine⟨.agg [aa (m:Int),.ab],?_,by rw[lT];exact df.q9 (by lia) (by lia)⟩
     unfold af;rw[aF h.Sg]
     simp only[go_sem,ya,yb,nU,aR,Ao,iJ,eP,Ma,rO,bH,yf,du,f1,f2,f3,show (m:Int)<=9223372036854775807 by lia,hs,Qn,wrap64 (n:=(m:Int)) (by lia) (by lia),Ah];rfl
    .rw [yI hs] at lT;refine⟨.agg [aa (0-(m:Int)),.ab],?_,by rw[lT];exact df.q9 (by lia) (by lia)⟩
     unfold af;rw[aF h.Sg]
     simp only[go_sem,ya,yb,nU,aR,Ao,iJ,eP,Ma,rO,bH,yf,du,f1,f2,f3,show (m:Int)<=9223372036854775807 by lia,hs,Qn,wrap64 (n:=(m:Int)) (by lia) (by lia),wrap64 (n:=0-(m:Int)) (by lia) (by lia),Ah];rfl
   .by_cases zS:m/2^64=0
    .rw [zS,yY (by lia)] at f3;rw[show (uc 0)=AV.int .u64 0 from rfl] at f3;refine⟨r,fin _ ?_ ?_ ?_ (by simp only[go_sem,ya,yb,bC,aD,nU,aR,iJ,eP,bH,yf,du,f1,f2,f3,show ¬(m:Int)<=9223372036854775807 by lia]<;>rfl),hr⟩<;>simp only[go_sem,ya]
    .obtain ⟨q,hq⟩:∃q,q=m/2^64:=⟨_,rfl⟩;rw[<-hq] at f3 zS;refine⟨r,fin _ ?_ ?_ ?_ (by simp only[go_sem,ya,yb,bC,aD,nU,aR,iJ,eP,bH,yf,du,f1,f2,f3,show ¬(q:Int)=0 by lia]<;>rfl),hr⟩<;>simp only[go_sem,ya]
  .refine ⟨r,fin _ ?_ ?_ ?_ (by simp only[go_sem,ya,yb,bC,aD,nU,aR,iJ,pR,eP,bH,yf,du]<;>rfl),hr⟩<;>simp only[go_sem,ya]
 .refine ⟨r,fin _ ?_ ?_ ?_ (by simp only[go_sem,ya,yb,bC,aD,nU,aR,u2.pu,u2.one,pR,eP,bH,yf,du]<;>rfl),hr⟩<;>simp only[go_sem,ya]
end
def ant{a b:Int}{q r:Nat}(hb:0<b)(h:q=a.natAbs/b.natAbs)(h2:r=a.natAbs%b.natAbs):
  (cF (decide (a<0)) r<0->a/b=cF (decide (a<0)) q-1/\a%b=cF (decide (a<0)) r+b)/\(¬cF (decide (a<0)) r<0->a/b=cF (decide (a<0)) q/\a%b=cF (decide (a<0)) r):=by
 have fg:=wm a.natAbs b.natAbs;have aH:r<b.natAbs:=by rw[h2];exact xO _ (by lia)
 unfold cF;by_cases h0:a<0
 .simp only [h0,yy,xS];constructor
  .intro h3;refine (yad hb).2 ⟨?_,by lia,by lia⟩
   grind
  .intro h3;refine (yad hb).2 ⟨?_,by lia,by lia⟩
   grind
 .grind
def avb(h:Nu P L){s1 s2:Int}{w1 w2:AV}{a b:Int}{K:Nat}(ha:df s1 w1 a)(hb:df s2 w2 b)(dX:0<b)(ka:Bd K a)(kb:Bd K b)(hK:K<=30000000000):
  ∃q r,cJ q (a/b)/\cJ r (a%b)/\∀tm,ai tm 2=.ptr 0 0->ai tm 3=.ptr 1 0->ai tm 4=.ptr 2 0->ai tm 5=.ptr 3 0->gK [.cell 4 2 ycN,.cell 5 2 ycN] (D P L (aD (aD nV.body)) ⟨tm,[(3,.cells ycN ycN ycN 2 [.int .i64 0,.ab]),(2,.cells ycN ycN ycN 2 [.int .i64 0,.ab]),(1,.cells ycN ycN ycN 2 [aa s2,w2]),(0,.cells ycN ycN ycN 2 [aa s1,w1])],4,0⟩)=GW (.av [q,r]):=by
 have⟨l1,u1⟩:=ha.aM;have⟨l2,u2⟩:=hb.aM;have⟨p,e1,hp⟩:=B0 h ha;have⟨q,e2,hq⟩:=B0 h hb;have bD:cJ (.agg [aa s2,w2]) b:=⟨s2,w2,rfl,hb⟩;have⟨lp,ix,_⟩:=hp.aM;have⟨lq,qP,_⟩:=hq.aM;have D8:=yR ka (C8 K);have Jn:=yR kb (C8 K);have⟨dq,dr,e3,GC,jS⟩:=aha h.toWd hp hq (by lia) D8 Jn (by lia);have⟨OB,uq,_⟩:=GC.aM;have⟨lr1,ur,_⟩:=jS.aM;have hqk:a.natAbs/b.natAbs<(2^64)^K:=wB (vm _ _) D8;have hrk:a.natAbs%b.natAbs<(2^64)^K:=wB (ycM _ _) D8;have hqb:a.natAbs/b.natAbs<2^K:=wB (vm _ _) ka;have Zv:a.natAbs%b.natAbs<2^K:=wB (ycM _ _) ka;have⟨f1,f2⟩:=ant (a:=a) dX rfl rfl;generalize a.natAbs/b.natAbs=Q at*
 generalize a.natAbs%b.natAbs=R at*
 have⟨vq,e4,hvq⟩:=F5 h (decide (a<0)) GC hqk (by lia);have⟨vr,e5,Ok⟩:=F5 h (decide (a<0)) jS hrk (by lia);have hsq:Bd K (cF (decide (a<0)) Q):=by unfold Bd cF;split<;>lia
 have hsr:Bd K (cF (decide (a<0)) R):=by unfold Bd cF;split<;>lia
 generalize cF (decide (a<0)) R=Rs at*
 have e6:=IN h Ok;have ahg:=hvq;have ahh:=Ok;obtain⟨s3,w3,rfl,h3⟩:=hvq;obtain⟨s4,w4,rfl,h4⟩:=Ok;have⟨l3,u3⟩:=h3.aM;have⟨l4,u4⟩:=h4.aM;by_cases h0:Rs<0
 .have ⟨g1,g2⟩:=f1 h0;have jQ:Bd (K+1) 1:=Bd.mono (k:=1) (by unfold Bd;decide) (by lia)
  have⟨o1,o2⟩:=F3 h (z:=1) (by decide) (by decide);have⟨vq2,e7,Xz⟩:=ahf h ahg o2 (K:=K+1) (hsq.mono (by lia)) jQ (by lia);have⟨vr2,e8,XA⟩:=Nt h ahh bD (K:=K+1) (hsr.mono (by lia)) (kb.mono (by lia)) (by lia);rw[<-g1] at Xz;rw[<-g2] at XA;have nn:cW Rs<0:=by unfold cW;rw[yK h0];decide
  have k1:=Xz;have k2:=XA;obtain⟨s5,w5,rfl,h5⟩:=Xz;obtain⟨s6,w6,rfl,h6⟩:=XA;have⟨l5,u5⟩:=h5.aM;have⟨l6,u6⟩:=h6.aM;refine⟨_,_,k1,k2,fun tm t2 t3 t4 t5=>?_⟩;simp only[go_sem,ya,yb,nV,aD,t2,t3,t4,t5,VR,VS,Vo,U1,VT,wj,aR,cA,cm,u1.ak,u2.ak,e1,e2,ix.ak,qP.ak,e3,uq.ak,uq.bA,ur.ak,ur.bA,e4,e5,a8,cX,cZ,cA,yg,eD u3,eD u4,u3.ak,u4.ak,e6,nn,o1,e7,e8,cX,cZ,cA,yg,eD u5,eD u6,aeE u5 u6]
 .have ⟨g1,g2⟩:=f2 h0;have nn:¬cW Rs<0:=by unfold cW;rw[yI h0];split<;>decide
  refine⟨_,_,by rw[g1];exact ahg,by rw[g2];exact ahh,fun tm t2 t3 t4 t5=>?_⟩
  simp only[go_sem,ya,yb,nV,aD,t2,t3,t4,t5,VR,VS,Vo,U1,VT,wj,aR,cA,cm,u1.ak,u2.ak,e1,e2,ix.ak,qP.ak,e3,uq.ak,uq.bA,ur.ak,ur.bA,e4,e5,a8,cX,cZ,cA,yg,eD u3,eD u4,u4.ak,e6,nn,aeE u3 u4]
def ahi(h:Nu P L){v w:AV}{a b:Int}{K:Nat}(hv:cJ v a)(hw:cJ w b)(dX:0<b)(ka:Bd K a)(kb:Bd K b)(hK:K<=30000000000):∃q r,af P L 164 [v,w] (.av [q,r])/\cJ q (a/b)/\cJ r (a%b):=by
 obtain⟨s1,w1,rfl,h1⟩:=hv;obtain⟨s2,w2,rfl,h2⟩:=hw;have⟨l1,u1⟩:=h1.aM;have⟨l2,u2⟩:=h2.aM;have⟨q,r,hq,hr,tail⟩:=avb h h1 h2 dX ka kb hK;have fin:∀tm,ai tm 2=.ptr 0 0->ai tm 3=.ptr 1 0->ai tm 4=.ptr 2 0->ai tm 5=.ptr 3 0->
   D P L (.seq (bC nV.body) (bC (aD nV.body))) ⟨[(0,.agg [aa s1,w1]),(1,.agg [aa s2,w2])],[],0,0⟩=GW (.normal,⟨tm,[(3,.cells ycN ycN ycN 2 [.int .i64 0,.ab]),(2,.cells ycN ycN ycN 2 [.int .i64 0,.ab]),(1,.cells ycN ycN ycN 2 [aa s2,w2]),(0,.cells ycN ycN ycN 2 [aa s1,w1])],4,0⟩)->af P L 164 [.agg [aa s1,w1],.agg [aa s2,w2]] (.av [q,r]):=fun tm t2 t3 t4 t5 e=>by
  unfold af;rw[aF h.Xx];show gK [.cell 4 2 ycN,.cell 5 2 ycN] (D P L (.seq (bC nV.body) (.seq (bC (aD nV.body)) (aD (aD nV.body)))) ⟨[(0,.agg [aa s1,w1]),(1,.agg [aa s2,w2])],[],0,0⟩)=_
  rw[EC,e,iS];exact tail tm t2 t3 t4 t5
 rcases h1 with ⟨rfl,rfl,a1,a2⟩ | ⟨e,l,rfl,ga,na,va,sa,a1⟩
 .rcases h2 with ⟨rfl,rfl,b1,b2⟩ | ⟨e,l,rfl,gb,nb,vb,sb,b1⟩
  .by_cases hm:s1= -9223372036854775808
   .refine ⟨q,r,fin _ ?_ ?_ ?_ ?_ (by simp only[go_sem,ya,yb,bC,aD,nV,aR,iJ,eP,bH,yf,du,hm]<;>rfl),hq,hr⟩<;>simp only[go_sem,ya]
   .have ⟨f1,f2⟩:=anj (a:=s1) dX;have bB:s1.tdiv s2=0\/(s1.tdiv s2).natAbs<=s1.natAbs:=.inr (Int.natAbs_tdiv_le_natAbs s1 s2);have dQ:=Int.tmod_lt_of_pos s1 dX;have lU:=Int.lt_tmod_of_pos s1 dX;by_cases h0:s1.tmod s2<0
    .have ⟨g1,g2⟩:=f1 h0;rw[g1,g2];refine⟨.agg [aa (s1.tdiv s2-1),.ab],.agg [aa (s1.tmod s2+s2),.ab],?_,df.q9 (by lia) (by lia),df.q9 (by lia) (by lia)⟩;unfold af;rw[aF h.Xx]
     simp only[go_sem,ya,yb,nV,aR,Ao,iJ,eP,bH,yf,du,hm,dl _ _ _ (show s2≠0 by lia),fF _ _ _ (show s2≠0 by lia),h0,wrap64 (n:=s1.tdiv s2) (by lia) (by lia),wrap64 (n:=s1.tdiv s2-1) (by lia) (by lia),wrap64 (n:=s1.tmod s2+s2) (by lia) (by lia),Ah];rfl
    .have ⟨g1,g2⟩:=f2 h0;rw[g1,g2];refine⟨.agg [aa (s1.tdiv s2),.ab],.agg [aa (s1.tmod s2),.ab],?_,df.q9 (by lia) (by lia),df.q9 (by lia) (by lia)⟩;unfold af;rw[aF h.Xx]
     simp only[go_sem,ya,yb,nV,aR,Ao,iJ,eP,bH,yf,du,hm,dl _ _ _ (show s2≠0 by lia),fF _ _ _ (show s2≠0 by lia),h0,wrap64 (n:=s1.tdiv s2) (by lia) (by lia),Ah];rfl
  .refine ⟨q,r,fin _ ?_ ?_ ?_ ?_ (by simp only[go_sem,ya,yb,bC,aD,nV,aR,iJ,pR,eP,bH,yf,du]<;>rfl),hq,hr⟩<;>simp only[go_sem,ya]
 .refine ⟨q,r,fin _ ?_ ?_ ?_ ?_ (by simp only[go_sem,ya,yb,bC,aD,nV,aR,u2.pu,u2.one,pR,eP,bH,yf,du]<;>rfl),hq,hr⟩<;>simp only[go_sem,ya]
section
variable {v w:AV}{a b:Int}{l m:List Nat}{K:Nat}
def ahj(h:Nu P L)(hv:cJ v a)(hw:cJ w b)(dX:0<b)(ka:Bd K a)(kb:Bd K b)(hK:K<=30000000000):∃r,af P L 148 [v,w] r/\cJ r (a/b):=by
 have e1:=IN h hw;have⟨q,r,e2,hq,hr⟩:=ahi h hv hw dX ka kb hK;have e3:cW b=1:=by unfold cW;rw[yI (by lia),yI (by lia)]
 rw[e3] at e1;have bB:=hq;obtain⟨s1,w1,rfl,h1⟩:=hv;obtain⟨s2,w2,rfl,h2⟩:=hw;obtain⟨s3,w3,rfl,h3⟩:=hq;obtain⟨s4,w4,rfl,h4⟩:=hr;have⟨l1,u1⟩:=h1.aM;have⟨l2,u2⟩:=h2.aM;have⟨l3,u3⟩:=h3.aM;have⟨l4,u4⟩:=h4.aM;refine⟨_,?_,bB⟩;unfold af;rw[aF h.azH];simp only[go_sem,ya,yb,W9,Int.reduceLT,yA,aR,u1.pu,u1.ak,u1.one,u2.pu,u2.ak,u2.one,yf,cm,e1,e2,CH,cX,cZ,cA,yg,oK u3,eD u3,eD u4]
def avc(h:Nu P L)(G:Nat)(hK:K<=30000000000){o1 o2:AV}:
  bP P L [2,3,4] Lj (fun k s=>∃(x y:Nat) (s1 s2:Int) (w1 w2:AV),s=⟨[(2,.ptr 0 0),(3,.ptr 1 0),(4,.ptr 2 0)],[(2,.cells ycN ycN ycN 2 [o1,o2]),(1,.cells ycN ycN ycN 2 [aa s2,w2]),(0,.cells ycN ycN ycN 2 [aa s1,w1])],3,0⟩/\df s1 w1 x/\df s2 w2 y/\Bd K x/\Bd K y/\Nat.gcd x y=G/\y=k) (fun ex s'=>∃tm s1 w1 c1,s'=⟨tm,[(2,.cells ycN ycN ycN 2 [o1,o2]),(1,c1),(0,.cells ycN ycN ycN 2 [aa s1,w1])],3,0⟩/\ex=.exit 0/\ai tm 2=.ptr 0 0/\ai tm 4=.ptr 2 0/\df s1 w1 G):=by
 apply bQ;rintro k s ⟨x,y,s1,s2,w1,w2,rfl,h1,h2,k1,k2,hG,rfl⟩;have⟨l1,u1⟩:=h1.aM;have⟨l2,u2⟩:=h2.aM;have i1:cJ (.agg [aa s1,w1]) (x:Int):=⟨s1,w1,rfl,h1⟩;have i2:cJ (.agg [aa s2,w2]) (y:Int):=⟨s2,w2,rfl,h2⟩;have e1:=IN h i2;by_cases lj:y=0
 .right
  subst lj;rw[show cW ((0:Nat):Int)=0 from rfl] at e1;simp only[go_sem,ya,Lj,yy,y9,cA,cm,u2.ak,e1];obtain rfl:x=G:=by rw[<-hG,Nat.gcd_zero_right]
  exact⟨_,_,rfl,by simp,_,s1,w1,_,rfl,rfl,rfl,rfl,h1⟩
 .left
  have e3:cW (y:Int)=1:=by unfold cW;rw[yI (by lia),yI (by lia)]
  rw[e3] at e1;have⟨q,r,e2,hq,hr⟩:=ahi h i1 i2 (by lia) k1 k2 hK;obtain⟨s3,w3,rfl,h3⟩:=hq;obtain⟨s4,w4,rfl,h4⟩:=hr;have⟨l3,u3⟩:=h3.aM;have⟨l4,u4⟩:=h4.aM;have aH:=xO x (show 0<y by lia);have kr:Bd K ((x%y:Nat):Int):=k2.le (by lia);simp only[go_sem,ya,yb,Lj,VR,VS,Vo,U1,VT,wj,yay,yA,xb,aR,cA,cm,u1.ak,u2.ak,e1,e2,CH,cA,yg,eD u2,eD u3,eD u4];refine⟨_,x%y,rfl,aH,y,x%y,s2,s4,w2,w4,?_,h2,h4,k2,kr,by rw[<-hG];exact apv x y lj,rfl⟩
  simp only[go_sem,ya,yb,ae]
def ahk(h:Nu P L)(hv:cJ v a)(hw:cJ w b)(ka:Bd K a)(kb:Bd K b)(hK:K<=30000000000):∃r,af P L 130 [v,w] r/\cJ r (vh a b:Nat):=by
 have⟨va,e1,ha⟩:=ahe h hv ka (by lia);have⟨vb,e2,hb⟩:=ahe h hw kb (by lia);obtain⟨s1,w1,rfl,h1⟩:=hv;obtain⟨s2,w2,rfl,h2⟩:=hw;obtain⟨s3,w3,rfl,h3⟩:=ha;obtain⟨s4,w4,rfl,h4⟩:=hb;have⟨l1,u1⟩:=h1.aM;have⟨l2,u2⟩:=h2.aM;have⟨l3,u3⟩:=h3.aM;have⟨l4,u4⟩:=h4.aM;have jL:∃s w,af P L 130 [.agg [aa s1,w1],.agg [aa s2,w2]] (.agg [aa s,w])/\df s w (vh a b:Nat):=by
  unfold af;rw[aF h.azI];simp only[go_sem,ya,yb,W7,aR,u1.pu,u1.ak,u1.one,u2.pu,u2.ak,u2.one,cA,cm,e1,e2,a8,cA,yg,eD u3,eD u4,yf];generalize hq:D P L (.loop _ Lj) _=q;obtain⟨ex,s,rfl,tm,s5,w5,c1,rfl,rfl,t2,t4,h5⟩:=aW hq (avc (P:=P) (L:=L) h (vh a b) (K:=K) hK (o1:=.int .i64 0) (o2:=.ab) b.natAbs) ⟨a.natAbs,b.natAbs,s3,s4,w3,w4,by simp only[go_sem,ya,yb,ae],h3,h4,ka,kb,rfl,rfl⟩;have⟨l5,u5⟩:=h5.aM;refine⟨s5,w5,?_,h5⟩;simp only[go_sem,ya,yb,ae,t2,t4,cX,cZ,cA,yg,oK u5,eD u5]
 have⟨s,w,e,hn⟩:=jL;exact⟨_,e,s,w,rfl,hn⟩
def bE(v:AV)(r:Rat):Prop:=∃s1 w1 s2 w2,v=.agg [aa s1,w1,aa s2,w2]/\df s1 w1 r.num/\df s2 w2 (r.den:Int)
def Hq(k:Nat)(r:Rat):Prop:=Bd k r.num/\Bd k (r.den:Int)
def TJ(hb:0<b):(wK a b).num=a/(vh a b:Nat)/\((wK a b).den:Int)=b/(vh a b:Nat):=by
 constructor
 .rw [ybO,Int.sign_eq_one_of_pos hb,Int.one_mul,ycp]
 .rw [ybP,yI (by lia),ycp]
  grind
def Hq.divInt{k:Nat}(hb:0<b)(ka:Bd k a)(kb:Bd k b):Hq k (wK a b):=by
 have⟨h1,h2⟩:=TJ (a:=a) hb;refine⟨ka.le ?_,kb.le ?_⟩
 .rw [h1,uW (Int.gcd_dvd_left a b)];exact vm _ _
 .rw [h2,uW (Int.gcd_dvd_right a b)];exact vm _ _
section
def EJ{tm:Env}{a b x y z:AV}{r:List (Nat×Nat×X)}(h1:cY a=ycN)(h2:cY b=ycN):lI tm [x,y,z,w] 0 2 [a,b] r=fill tm [a,b,z,w] r:=by
 rw[K1 (by rfl) (by simp) (by simp[bY,h1,h2])];rfl
def EK{tm:Env}{a b x y z:AV}{r:List (Nat×Nat×X)}(h1:cY a=ycN)(h2:cY b=ycN):lI tm [x,y,z,w] 2 2 [a,b] r=fill tm [x,y,a,b] r:=by
 rw[K1 (by rfl) (by simp) (by simp[bY,h1,h2])];rfl
def kT{s t:Int}(hv:bJ v l)(hw:bJ w m)(hp:Hp)(ct id:Nat)(a b x y:AV):dS hp ct id 0 4 [.int .i64 s,v,.int .i64 t,w] (GW (.cells ycN ycN ycN 4 [a,b,x,y]))=GW (.av [],aY hp id (.cells ycN ycN ycN 4 [.int .i64 s,v,.int .i64 t,w]),ct):=by
 rw[zn (by rfl) (by simp) (by simp[bY,hv.one,hw.one,Vl])];simp[aE,hv.pu,hw.pu,over,VM]
def kU{s t:Int}(hv:bJ v l)(hw:bJ w m)(hp:Hp):result hp (.agg [aa s,v,aa t,w])=GW (.agg [aa s,v,aa t,w]):=by
 rcases hv with ⟨rfl,_⟩ | ⟨e,rfl⟩<;>rcases hw with ⟨rfl,_⟩ | ⟨e',rfl⟩<;>rfl
variable {P:aG}{L:Lib}
structure Fr'(P:aG)(L:Lib):Prop extends Nu P L where
 azK:Has P L 101 oN
 Zw:Has P L 69 YW
 azL:Has P L 111 W6
 h98:Has P L 98 SS
 azM:Has P L 108 W5
 azN:Has P L 102 W4
 h74:Has P L 74 N9
 Zx:Has P L 50 YV
 qQ:Has P L 49 c49
 h73:Has P L 73 YY
 h70:Has P L 70 YX
 h71:Has P L 71 c71
 aEL:Has P L 149 agN
def aeF(h:Fr' P L){s1 s2:Int}{w1 w2:AV}(h1:df s1 w1 a)(h2:df s2 w2 b)(dX:0<b)(ka:Bd K a)(kb:Bd K b)(hK:K<=30000000000):
  ∃r,bE r (wK a b)/\∀tm,ai tm 2=.ptr 0 0->ai tm 3=.ptr 1 0->ai tm 4=.ptr 2 0->gK [.cell 4 4 ycN] (D P L (aD (aD oN.body)) ⟨tm,[(2,.cells ycN ycN ycN 4 [.int .i64 0,.ab,.int .i64 0,.ab]),(1,.cells ycN ycN ycN 2 [aa s2,w2]),(0,.cells ycN ycN ycN 2 [aa s1,w1])],3,0⟩)=GW r:=by
 have hv:cJ (.agg [aa s1,w1]) a:=⟨s1,w1,rfl,h1⟩;have hw:cJ (.agg [aa s2,w2]) b:=⟨s2,w2,rfl,h2⟩;have⟨p1,p2⟩:=TJ (a:=a) dX;have hgp:=P4 (a:=a) dX;have hgk:Bd K ((vh a b:Nat):Int):=kb.le (by
  have:=Int.gcd_le_natAbs_right a (show b≠0 by lia)
  lia)
 have⟨g,e2,hg⟩:=ahk h.toNu hv hw ka kb hK;have⟨q1,e4,fE⟩:=ahj h.toNu hv hg hgp ka hgk hK;have⟨q2,e5,ma⟩:=ahj h.toNu hw hg hgp kb hgk hK;rw[<-p1] at fE;rw[<-p2] at ma;obtain⟨s3,w3,rfl,h3⟩:=hg;obtain⟨s4,w4,rfl,h4⟩:=fE;obtain⟨s5,w5,rfl,h5⟩:=ma;have⟨l1,u1⟩:=h1.aM;have⟨l2,u2⟩:=h2.aM;have⟨l3,u3⟩:=h3.aM;have⟨l4,u4⟩:=h4.aM;have⟨l5,u5⟩:=h5.aM;by_cases fO:w2=.ab/\s2=1
 .obtain ⟨rfl,rfl⟩:=fO;have jQ:b=1:=by
   rcases h2 with ⟨_,h,_⟩ | ⟨_,_,h,_⟩
   .exact h.symm
   .cases h
  subst jQ;rw[Int.gcd_one] at p1 p2;have p1:(wK a 1).num=a:=by rw[p1];exact Int.ediv_one a
  refine⟨.agg [aa s1,w1,aa 1,.ab],⟨s1,w1,1,.ab,rfl,by rw[p1];exact h1,by rw[p2];exact h2⟩,fun tm t2 t3 t4=>?_⟩
  have un:=Af;simp only[go_sem,ya,oN,aD,t2,t3,t4,u1.one,cA,bH,yf,du,iJ,eP,EJ,EK,kT u1 un,cX,cZ,yg,fW,kU u1 un]
 .refine ⟨.agg [aa s4,w4,aa s5,w5],⟨s4,w4,s5,w5,rfl,h4,h5⟩,fun tm t2 t3 t4=>?_⟩;rcases u2 with ⟨rfl,_⟩ | ⟨e,rfl⟩
  .simp only [go_sem,ya,yb,oN,aD,t2,t3,t4,aR,u1.ak,cA,cm,bH,yf,du,iJ,eP,show ¬s2=1 from fun e=>fO ⟨rfl,e⟩,e2,e4,e5,a8,cX,cZ,cA,yg,eD u3,u3.ak,u4.one,u5.one,EJ,EK,kT u4 u5,fW,kU u4 u5]
  .simp only [go_sem,ya,yb,oN,aD,t2,t3,t4,aR,u1.ak,cA,cm,bH,yf,du,pR,eP,e2,e4,e5,a8,cX,cZ,cA,yg,eD u3,u3.ak,u4.one,u5.one,EJ,EK,kT u4 u5,fW,kU u4 u5]
def XB(h:Fr' P L)(hv:cJ v a)(hw:cJ w b)(dX:b≠0)(ka:Bd K a)(kb:Bd K b)(hK:K<=30000000000):∃r,af P L 101 [v,w] r/\bE r (wK a b):=by
 have e1:=IN h.toNu hw;have eJ:=hv;have Bc:=hw;obtain⟨s1,w1,rfl,h1⟩:=hv;obtain⟨s2,w2,rfl,h2⟩:=hw;have⟨l1,u1⟩:=h1.aM;have⟨l2,u2⟩:=h2.aM;have fin:∀r t1 t2 v1 v2 tm,(∀tm,ai tm 2=.ptr 0 0->ai tm 3=.ptr 1 0->ai tm 4=.ptr 2 0->gK [.cell 4 4 ycN] (D P L (aD (aD oN.body)) ⟨tm,[(2,.cells ycN ycN ycN 4 [.int .i64 0,.ab,.int .i64 0,.ab]),(1,.cells ycN ycN ycN 2 [aa t2,v2]),(0,.cells ycN ycN ycN 2 [aa t1,v1])],3,0⟩)=GW r)->ai tm 2=.ptr 0 0->ai tm 3=.ptr 1 0->ai tm 4=.ptr 2 0->
   D P L (.seq (bC oN.body) (bC (aD oN.body))) ⟨[(0,.agg [aa s1,w1]),(1,.agg [aa s2,w2])],[],0,0⟩=GW (.normal,⟨tm,[(2,.cells ycN ycN ycN 4 [.int .i64 0,.ab,.int .i64 0,.ab]),(1,.cells ycN ycN ycN 2 [aa t2,v2]),(0,.cells ycN ycN ycN 2 [aa t1,v1])],3,0⟩)->af P L 101 [.agg [aa s1,w1],.agg [aa s2,w2]] r:=fun r t1 t2 v1 v2 tm tail k2 k3 k4 e=>by
  unfold af;rw[aF h.azK];show gK [.cell 4 4 ycN] (D P L (.seq (bC oN.body) (.seq (bC (aD oN.body)) (aD (aD oN.body)))) ⟨[(0,.agg [aa s1,w1]),(1,.agg [aa s2,w2])],[],0,0⟩)=_
  rw[EC,e,iS];exact tail tm k2 k3 k4
 by_cases hn:b<0
 .have ⟨n1,e2,iP⟩:=IP h.toNu eJ ka (by lia);have⟨n2,e3,dh⟩:=IP h.toNu Bc kb (by lia);obtain⟨s3,w3,rfl,h3⟩:=iP;obtain⟨s4,w4,rfl,h4⟩:=dh;have⟨l3,u3⟩:=h3.aM;have⟨l4,u4⟩:=h4.aM;have⟨r,hr,tail⟩:=aeF h h3 h4 (by lia) ka.neg kb.neg hK;rw[Rat.neg_divInt_neg] at hr;have hs:cW b<0:=by unfold cW;rw[yK hn];decide
  refine⟨r,fin r _ _ _ _ _ tail ?_ ?_ ?_ (by simp only[go_sem,ya,yb,oN,bC,aD,hs,aR,u1.pu,u1.ak,u1.one,u2.pu,u2.ak,u2.one,cA,cm,e1,e2,e3,a8,eD u3,eD u4]<;>rfl),hr⟩<;>simp only[go_sem,ya]
 .have ⟨r,hr,tail⟩:=aeF h h1 h2 (by lia) ka kb hK;have hs:¬cW b<0:=by unfold cW;rw[yI hn];split<;>decide
  refine⟨r,fin r _ _ _ _ _ tail ?_ ?_ ?_ (by simp only[go_sem,ya,yb,oN,bC,aD,hs,aR,u1.pu,u1.one,u2.pu,u2.ak,u2.one,cA,cm,e1]<;>rfl),hr⟩<;>simp only[go_sem,ya]
end
end
section
variable {v w:AV}{K k m:Nat}{a b:Rat}
def Hq.mono{r:Rat}(h:Hq k r)(hk:k<=m):Hq m r:=⟨h.1.mono hk,h.2.mono hk⟩
def Hq.neg{r:Rat}(h:Hq k r):Hq k (-r):=⟨h.1.neg,h.2⟩
def add_eq(a b:Rat):a+b=wK (a.num*b.den+b.num*a.den) ((a.den:Int)*b.den):=by
 rw[Rat.add_def',<-ybB,xk]
def mul_eq(a b:Rat):a*b=wK (a.num*b.num) ((a.den:Int)*b.den):=by
 rw[Rat.mul_def',<-ybB,xk]
def ac8(a:Rat):0<(a.den:Int):=by have:=a.den_pos;lia
def GY(a b:Rat):0<(a.den:Int)*b.den:=Int.mul_pos (ac8 a) (ac8 b)
def Bd.XC{a b:Int}(ha:Bd k a)(hb:Bd k b):Bd (k+1) (a+b):=by
 have:=ha.add hb
 grind
def Hq.add(ha:Hq k a)(hb:Hq m b):Hq (k+m+1) (a+b):=by
 rw[add_eq];refine Hq.divInt (GY a b) ?_ ((ha.2.mul hb.2).mono (by lia));exact (ha.1.mul hb.2).XC ((hb.1.mul ha.2).mono (by lia))
def Hq.mul(ha:Hq k a)(hb:Hq m b):Hq (k+m) (a*b):=by
 rw[mul_eq];exact Hq.divInt (GY a b) (ha.1.mul hb.1) (ha.2.mul hb.2)
def Hq.sub(ha:Hq k a)(hb:Hq m b):Hq (k+m+1) (a-b):=by
 rw[ybl];exact ha.add hb.neg
def Hq.inv(ha:Hq k a):Hq k a⁻¹:=by
 have h1:(a⁻¹).num.natAbs<=a.den:=by
  rw[Rat.num_inv,Int.natAbs_mul]
  grind
 refine⟨ha.2.le (by simpa using h1),?_⟩;unfold Bd;rw[Rat.den_inv]
 split
 .have h2:=ha.2;unfold Bd at h2
  simp_all
 .exact ha.1
def Hq.div(ha:Hq k a)(hb:Hq m b):Hq (k+m) (a/b):=by
 rw[Rat.div_def];exact ha.mul hb.inv
def Vp(a:Rat)(h:a.den=1):a=(a.num:Rat):=by
 have:=Rat.num_divInt_den a
 rw[h] at this;rw[<-this];exact (Rat.ext (by simp[ybO]) (by simp[ybP]))
def FE(a b c d:AV)(r:List AV):gZ 2 ycN (List.drop 2 (a::b::c::d::r))=GW (.agg [c,d]):=rfl
def Av(a b:AV)(r:List AV):gZ 2 ycN (a::b::r)=GW (.agg [a,b]):=rfl
def XD(h:Fr' P L){z:Int}(hv:cJ v z):∃r,af P L 111 [v] r/\bE r (z:Rat):=by
 have⟨o1,o2⟩:=F3 h.toNu (z:=1) (by decide) (by decide);obtain⟨s1,w1,rfl,h1⟩:=hv;have⟨l1,u1⟩:=h1.aM;have un:=Af;refine⟨.agg [aa s1,w1,aa 1,.ab],?_,s1,w1,1,.ab,rfl,h1,.inl ⟨rfl,rfl,(by show (-9223372036854775808:Int)<=1;decide),(by show (1:Int)<9223372036854775808;decide)⟩⟩
 unfold af;rw[aF h.azL];simp only[go_sem,ya,yb,W6,aR,u1.pu,u1.one,cA,o1,a8,EJ,EK,kT u1 un,cX,cZ,yg,fW,kU u1 un]
def Cs(h:Fr' P L){z:Int}(h1: -9223372036854775808<=z)(h2:z<9223372036854775808):∃r,af P L 69 [aa z] r/\bE r (z:Rat):=by
 have⟨o1,o2⟩:=F3 h.toNu h1 h2;have⟨r,e,hr⟩:=XD h o2;have bR:=hr;obtain⟨s1,w1,s2,w2,rfl,k1,k2⟩:=hr;have⟨l1,u1⟩:=k1.aM;have⟨l2,u2⟩:=k2.aM;refine⟨_,?_,bR⟩;unfold af;rw[aF h.Zw];simp only[go_sem,ya,yb,YW,aR,cm,o1,e,a8,kT u1 u2,cX,cZ,yg,fW,kU u1 u2]
def Zy(h:Fr' P L)(hv:bE v a):af P L 98 [v] (.bool (decide (a.den=1))):=by
 obtain⟨s1,w1,s2,w2,rfl,h1,h2⟩:=hv;have⟨l1,u1⟩:=h1.aM;unfold af;rw[aF h.h98];rcases h2 with ⟨rfl,rfl,b1,b2⟩ | ⟨e,l,rfl,gb,nb,vb,sb,b1⟩
 .have e:decide (((a.den:Nat):Int)=1)=decide (a.den=1):=by simp;lia
  simp only[go_sem,ya,yb,SS,aR,u1.pu,u1.one,bH,yf,axS,afV,iJ,eP,e]
 .have e:decide (a.den=1)=false:=yW (by lia);rw[e];simp only[go_sem,ya,yb,SS,aR,u1.pu,u1.one,bH,yf,afV,pR,eP]
def azO(h:Fr' P L)(hv:bE v a):af P L 108 [v] (aa (cW a.num)):=by
 obtain⟨s1,w1,s2,w2,rfl,h1,h2⟩:=hv;have⟨l1,u1⟩:=h1.aM;have⟨l2,u2⟩:=h2.aM;have e1:=IN h.toNu ⟨s1,w1,rfl,h1⟩;unfold af;rw[aF h.azM];simp only[go_sem,ya,yb,W5,aR,u1.pu,u1.ak,u1.one,u2.pu,u2.one,bH,yf,Av,cm,e1]
def XE(h:Fr' P L)(hv:bE v a)(ka:Hq K a)(hK:K<=30000000000):∃r,af P L 102 [v] r/\bE r (-a):=by
 obtain⟨s1,w1,s2,w2,rfl,h1,h2⟩:=hv;have⟨l1,u1⟩:=h1.aM;have⟨l2,u2⟩:=h2.aM;have⟨n,e1,hn⟩:=IP h.toNu ⟨s1,w1,rfl,h1⟩ ka.1 (by lia);obtain⟨s3,w3,rfl,h3⟩:=hn;have⟨l3,u3⟩:=h3.aM;refine⟨.agg [aa s3,w3,aa s2,w2],?_,s3,w3,s2,w2,rfl,h3,h2⟩;unfold af;rw[aF h.azN];simp only[go_sem,ya,yb,W4,aR,u1.pu,u1.ak,u1.one,u2.pu,u2.one,u3.one,bH,yf,Av,FE,cm,e1,a8,EJ,EK,kT u3 u2,cX,cZ,yg,fW,kU u3 u2]
def GD(h:Fr' P L)(hv:bE v a)(hw:bE w b)(ka:Hq K a)(kb:Hq K b)(hK:K<=10000000000):∃r,af P L 74 [v,w] r/\bE r (a+b):=by
 have i1:=Zy h hv;have i2:=Zy h hw;obtain⟨s1,w1,s2,w2,rfl,h1,h2⟩:=hv;obtain⟨s3,w3,s4,w4,rfl,h3,h4⟩:=hw;have⟨l1,u1⟩:=h1.aM;have⟨l2,u2⟩:=h2.aM;have⟨l3,u3⟩:=h3.aM;have⟨l4,u4⟩:=h4.aM;have n1:cJ (.agg [aa s1,w1]) a.num:=⟨s1,w1,rfl,h1⟩;have n2:cJ (.agg [aa s2,w2]) a.den:=⟨s2,w2,rfl,h2⟩;have n3:cJ (.agg [aa s3,w3]) b.num:=⟨s3,w3,rfl,h3⟩;have n4:cJ (.agg [aa s4,w4]) b.den:=⟨s4,w4,rfl,h4⟩;by_cases A8:a.den=1/\b.den=1
 .have ⟨d1,d2⟩:=A8;have⟨p,e1,hp⟩:=Nt h.toNu n1 n3 ka.1 kb.1 (by lia);have⟨r,e2,hr⟩:=XD h hp;have he:((a.num+b.num:Int):Rat)=a+b:=by
   rw[Rat.intCast_add,<-Vp a d1,<-Vp b d2]
  rw[he] at hr;have bR:=hr;obtain⟨s5,w5,rfl,h5⟩:=hp;obtain⟨s6,w6,s7,w7,rfl,h6,h7⟩:=hr;have⟨l5,u5⟩:=h5.aM;have⟨l6,u6⟩:=h6.aM;have⟨l7,u7⟩:=h7.aM;refine⟨_,?_,bR⟩;rw[d1] at i1;rw[d2] at i2;unfold af;rw[aF h.h74];simp only[go_sem,ya,yb,N9,aR,u1.pu,u1.ak,u1.one,u2.pu,u2.ak,u2.one,u3.pu,u3.ak,u3.one,u4.pu,u4.ak,u4.one,bH,yf,fW,Av,cm,i1,i2,e1,u5.ak,e2,a8,kT u6 u7,cX,cZ,yg,fW,kU u6 u7]
 .have ⟨p1,e1,bk⟩:=Dz h.toNu n1 n4 ka.1 kb.2 (by lia);have⟨p2,e2,jP⟩:=Dz h.toNu n3 n2 kb.1 ka.2 (by lia);have⟨p3,e3,hp3⟩:=Nt h.toNu bk jP (ka.1.mul kb.2) (kb.1.mul ka.2) (by lia);have⟨p4,e4,hp4⟩:=Dz h.toNu n2 n4 ka.2 kb.2 (by lia);have⟨r,e5,hr⟩:=XB h hp3 hp4 (by have:=GY a b;lia) ((ka.1.mul kb.2).XC (kb.1.mul ka.2)) ((ka.2.mul kb.2).mono (by lia)) (by lia)
  rw[<-add_eq] at hr;have bR:=hr;obtain⟨s5,w5,rfl,h5⟩:=bk;obtain⟨s6,w6,rfl,h6⟩:=jP;obtain⟨s7,w7,rfl,h7⟩:=hp3;obtain⟨s8,w8,rfl,h8⟩:=hp4;obtain⟨s9,w9,s10,w10,rfl,h9,iO⟩:=hr;have⟨l5,u5⟩:=h5.aM;have⟨l6,u6⟩:=h6.aM;have⟨l7,u7⟩:=h7.aM;have⟨l8,u8⟩:=h8.aM;have⟨l9,u9⟩:=h9.aM;have⟨l10,Td⟩:=iO.aM;refine⟨_,?_,bR⟩;unfold af;rw[aF h.h74];by_cases d1:a.den=1
  .rw [d1] at i1;rw[yW (fun d2=>A8 ⟨d1,d2⟩)] at i2;simp only[go_sem,ya,yb,N9,aR,u1.pu,u1.ak,u1.one,u2.pu,u2.ak,u2.one,u3.pu,u3.ak,u3.one,u4.pu,u4.ak,u4.one,bH,yf,fW,Av,FE,cm,i1,i2,e1,e2,u5.ak,u6.ak,e3,e4,u7.ak,u8.ak,e5,a8,kT u9 Td,cX,cZ,yg,fW,kU u9 Td]
  .rw [yW d1] at i1;simp only[go_sem,ya,yb,N9,aR,u1.pu,u1.ak,u1.one,u2.pu,u2.ak,u2.one,u3.pu,u3.ak,u3.one,u4.pu,u4.ak,u4.one,bH,yf,fW,Av,FE,cm,i1,e1,e2,u5.ak,u6.ak,e3,e4,u7.ak,u8.ak,e5,a8,kT u9 Td,cX,cZ,yg,fW,kU u9 Td]
def m50(h:Fr' P L)(hv:bE v a)(hw:bE w b)(ka:Hq K a)(kb:Hq K b)(hK:K<=10000000000):∃r,af P L 50 [v,w] r/\bE r (a-b):=by
 have⟨n,e1,hn⟩:=XE h hw kb (by lia);have⟨r,e2,hr⟩:=GD h hv hn ka kb.neg hK;rw[<-ybl] at hr;have bR:=hr;obtain⟨s1,w1,s2,w2,rfl,h1,h2⟩:=hv;obtain⟨s3,w3,s4,w4,rfl,h3,h4⟩:=hw;obtain⟨s5,w5,s6,w6,rfl,h5,h6⟩:=hn;obtain⟨s7,w7,s8,w8,rfl,h7,h8⟩:=hr;have⟨l1,u1⟩:=h1.aM;have⟨l2,u2⟩:=h2.aM;have⟨l3,u3⟩:=h3.aM;have⟨l4,u4⟩:=h4.aM;have⟨l5,u5⟩:=h5.aM;have⟨l6,u6⟩:=h6.aM;have⟨l7,u7⟩:=h7.aM;have⟨l8,u8⟩:=h8.aM;refine⟨_,?_,bR⟩;unfold af;rw[aF h.Zx];simp only[go_sem,ya,yb,YV,aR,u1.pu,u1.ak,u1.one,u2.pu,u2.ak,u2.one,u3.pu,u3.ak,u3.one,u4.pu,u4.ak,u4.one,u5.ak,u6.ak,fW,cm,e1,e2,a8,kT u7 u8,cX,cZ,yg,fW,kU u7 u8]
def Tf(h:Fr' P L)(hv:bE v a)(hw:bE w b)(ka:Hq K a)(kb:Hq K b)(hK:K<=10000000000):∃r,af P L 49 [v,w] r/\bE r (a*b):=by
 obtain⟨s1,w1,s2,w2,rfl,h1,h2⟩:=hv;obtain⟨s3,w3,s4,w4,rfl,h3,h4⟩:=hw;have⟨l1,u1⟩:=h1.aM;have⟨l2,u2⟩:=h2.aM;have⟨l3,u3⟩:=h3.aM;have⟨l4,u4⟩:=h4.aM;have⟨p1,e1,bk⟩:=Dz h.toNu (v:=.agg [aa s1,w1]) (w:=.agg [aa s3,w3]) ⟨s1,w1,rfl,h1⟩ ⟨s3,w3,rfl,h3⟩ ka.1 kb.1 (by lia);have⟨p2,e2,jP⟩:=Dz h.toNu (v:=.agg [aa s2,w2]) (w:=.agg [aa s4,w4]) ⟨s2,w2,rfl,h2⟩ ⟨s4,w4,rfl,h4⟩ ka.2 kb.2 (by lia);have⟨r,e3,hr⟩:=XB h bk jP (by have:=GY a b;lia) (ka.1.mul kb.1) (ka.2.mul kb.2) (by lia)
 rw[<-mul_eq] at hr;have bR:=hr;obtain⟨s5,w5,rfl,h5⟩:=bk;obtain⟨s6,w6,rfl,h6⟩:=jP;obtain⟨s7,w7,s8,w8,rfl,h7,h8⟩:=hr;have⟨l5,u5⟩:=h5.aM;have⟨l6,u6⟩:=h6.aM;have⟨l7,u7⟩:=h7.aM;have⟨l8,u8⟩:=h8.aM;refine⟨_,?_,bR⟩;unfold af;rw[aF h.qQ];simp only[go_sem,ya,yb,c49,aR,u1.pu,u1.ak,u1.one,u2.pu,u2.ak,u2.one,u3.pu,u3.ak,u3.one,u4.pu,u4.ak,u4.one,u5.ak,u6.ak,bH,yf,Av,FE,cm,e1,e2,e3,a8,kT u7 u8,cX,cZ,yg,fW,kU u7 u8]
def m73(h:Fr' P L)(hv:bE v a)(h0:a≠0)(ka:Hq K a)(hK:K<=10000000000):∃r,af P L 73 [v] r/\bE r a⁻¹:=by
 obtain⟨s1,w1,s2,w2,rfl,h1,h2⟩:=hv;have⟨l1,u1⟩:=h1.aM;have⟨l2,u2⟩:=h2.aM;have⟨r,e1,hr⟩:=XB h (v:=.agg [aa s2,w2]) (w:=.agg [aa s1,w1]) ⟨s2,w2,rfl,h2⟩ ⟨s1,w1,rfl,h1⟩ (fun e=>h0 (Rat.num_eq_zero.1 e)) ka.2 ka.1 (by lia);rw[<-Rat.inv_def] at hr;have bR:=hr;obtain⟨s7,w7,s8,w8,rfl,h7,h8⟩:=hr;have⟨l7,u7⟩:=h7.aM;have⟨l8,u8⟩:=h8.aM;refine⟨_,?_,bR⟩;unfold af;rw[aF h.h73];simp only[go_sem,ya,yb,YY,aR,u1.pu,u1.ak,u1.one,u2.pu,u2.ak,u2.one,bH,yf,Av,FE,cm,e1,a8,kT u7 u8,cX,cZ,yg,fW,kU u7 u8]
def Zz(h:Fr' P L)(hv:bE v a)(hw:bE w b)(h0:b≠0)(ka:Hq K a)(kb:Hq K b)(hK:K<=10000000000):∃r,af P L 70 [v,w] r/\bE r (a/b):=by
 have⟨n,e1,hn⟩:=m73 h hw h0 kb hK;have⟨r,e2,hr⟩:=Tf h hv hn ka kb.inv hK;have bR:=hr;obtain⟨s1,w1,s2,w2,rfl,h1,h2⟩:=hv;obtain⟨s3,w3,s4,w4,rfl,h3,h4⟩:=hw;obtain⟨s5,w5,s6,w6,rfl,h5,h6⟩:=hn;obtain⟨s7,w7,s8,w8,rfl,h7,h8⟩:=hr;have⟨l1,u1⟩:=h1.aM;have⟨l2,u2⟩:=h2.aM;have⟨l3,u3⟩:=h3.aM;have⟨l4,u4⟩:=h4.aM;have⟨l5,u5⟩:=h5.aM;have⟨l6,u6⟩:=h6.aM;have⟨l7,u7⟩:=h7.aM;have⟨l8,u8⟩:=h8.aM;refine⟨_,?_,bR⟩;unfold af;rw[aF h.h70];simp only[go_sem,ya,yb,YX,aR,u1.pu,u1.ak,u1.one,u2.pu,u2.ak,u2.one,u3.pu,u3.ak,u3.one,u4.pu,u4.ak,u4.one,u5.ak,u6.ak,fW,cm,e1,e2,a8,kT u7 u8,cX,cZ,yg,fW,kU u7 u8]
end
def Ap:List AV->Option (List Nat)
 | []=>GW []
 | .int .u64 (.ofNat d)::r=>bif yP d 18446744073709551616 then (match Ap r with | some l=>GW (d::l) | none=>GX) else GX
 | _::_=>GX
def AL:List Nat->Nat
 | []=>0
 | a::r=>a+18446744073709551616*AL r
def Dl:List Nat->Bool
 | []=>false
 | [a]=> !yp a 0
 | _::r=>Dl r
def P9:List AV->Option AV
 | [.agg [.int .i64 s,.ab]]=>bif Di s then GW (.str (aV s)) else GX
 | [.agg [.int .i64 s,.ap _ n cs]]=>
  match Ap cs with
  | some l=>
   bif yp l.length n&&(yJ n 4000000000&&(Dl l&&yJ 9223372036854775808 (AL l))) then
    match s with
    | .ofNat 1=>GW (.str (aC (AL l)))
    | .negSucc 0=>GW (.str (45::aC (AL l)))
    | _=>GX
   else GX
  | none=>GX
 | _=>GX
def abu:∀{l:List Nat},lo (2^64) l->Ap (l.map uc)=GW l
 | [],_=>rfl
 | a::l,h=>by
  have h1:=h a (by simp);have h2:=abu (l:=l) (fun x hx=>h x (by simp[hx]));show (bif yP a (2^64) then (match Ap (l.map uc) with | some l=>GW (a::l) | none=>GX) else GX)=_
  rw[ml h1,h2];rfl
def Vq:∀l:List Nat,AL l=bv (2^64) l
 | []=>rfl
 | a::l=>by simp only[AL,bv,Vq l]
def ac9:∀{l:List Nat},l≠[]->iz l->Dl l=ycN
 | [],h,_=>absurd rfl h
 | [a],_,h=>by
  have:a≠0:=fun e=>by
   subst e;have h:eC [0]=[0]:=h;simp[eC] at h
  simp[Dl,iG this]
 | a::b::r,_,h=>by
  have h1:iz (b::r):=by
   have h:eC (a::b::r)=a::b::r:=h;rw[eC] at h
   grind
  have:=ac9 (l:=b::r) (by simp) h1
  simpa[Dl] using this
structure Tx(P:aG)(L:Lib):Prop extends Fr' P L where
 Jo:L.pure 99=GW P9
 azP:L.pure 175=GW Lg
 ahl:L.pure 152=GW O9
 XF:L.pure 153=GW OW
 XG:L.pure 154=GW Ms
 XH:L.pure 109=GW Rj
 zx:Has P L 155 FP
 ahm:Has P L 172 RD
 azQ:Has P L 151 Rz
 azR:Has P L 107 Ro
 ZA:Has P L 46 SQ
 ahn:Has P L 110 Rr
 Tg:Has P L 62 SR
def ZB(h:Tx P L){v:AV}{z:Int}{K:Nat}(hv:cJ v z)(hz:Bd K z)(hK:K<=4000000000):af P L 99 [v] (.str (aV z)):=by
 obtain⟨s,w,rfl,hn⟩:=hv;unfold af;rw[j8 h.Jo];rcases hn with ⟨rfl,rfl,h1,h2⟩ | ⟨e,l,rfl,g,n,hb,hs,h1⟩
 .show (bif Di s then GW (AV.str (aV s)) else GX)=_
  have:Di s=ycN:=by
   cases s with
   | ofNat k=>exact ml (by have:(Int.ofNat k)=(k:Int):=rfl;lia)
   | negSucc k=>exact ml (by lia)
  grind
 .have lR:l≠[]:=fun e=>by subst e;simp[bv] at hb;lia
  have AZ:l.length<=4000000000:=xn (p9 n hb (yR hz (C8 K))) hK
  show (match Ap (l.map uc) with
   | some l'=>bif yp l'.length l.length&&(yJ l.length 4000000000&&(Dl l'&&yJ 9223372036854775808 (AL l'))) then (match s with | .ofNat 1=>GW (AV.str (aC (AL l'))) | .negSucc 0=>GW (.str (45::aC (AL l'))) | _=>GX) else GX
   | none=>GX)=_
  rw[abu g];simp only[Nat.beq_refl,yB AZ,ac9 lR n,Vq,hb,yB h1,wj,yC];by_cases h0:z<0
  .rw [yK h0] at hs;subst hs;rw[oz h0];rfl
  .rw [yI h0] at hs;subst hs;obtain⟨m,rfl⟩:∃m:Nat,z=m:=⟨z.toNat,by lia⟩;rfl
def RT(r:Rat):List Nat:=aV r.num++(if r.den=1 then [] else 47::aC r.den)
def KJ{z:Int}{k:Nat}(h:Bd k z):(aV z).length<=k+1:=by
 have h1:∀m:Nat,m<2^k->(aC m).length<=max k 1:=fun m hm=>by
  cases k with
  | zero=>
       have:m=0:=by simpa using hm
       subst this;decide
  | succ k=>
   rw[Nat.max_eq_left (by lia)];exact Ae (k:=k) (yR hm (uf (by decide) _))
 by_cases h0:z<0
 .rw [oz h0];unfold Bd at h
  grind
 .obtain ⟨m,rfl⟩:∃m:Nat,z=m:=⟨z.toNat,by lia⟩
  have:=h1 m (by unfold Bd at h;simpa using h)
  rw[mJ];lia
def ZC(h:Tx P L){v:AV}{a:Rat}{K:Nat}(hv:bE v a)(ka:Hq K a)(hK:K<=4000000000):af P L 46 [v] (.str (RT a)):=by
 have i1:=Zy h.toFr' hv;obtain⟨s1,w1,s2,w2,rfl,h1,h2⟩:=hv;have⟨l1,u1⟩:=h1.aM;have⟨l2,u2⟩:=h2.aM;have e1:=ZB h (v:=.agg [aa s1,w1]) ⟨s1,w1,rfl,h1⟩ ka.1 hK;have e2:=ZB h (v:=.agg [aa s2,w2]) ⟨s2,w2,rfl,h2⟩ ka.2 hK;have b1:=KJ ka.1;have b2:=KJ ka.2;rw[mJ] at e2 b2;unfold af RT;rw[aF h.ZA];by_cases hd:a.den=1
 .rw [yK hd,List.append_nil];rw[hd] at i1;simp only[go_sem,ya,yb,SQ,aR,u1.pu,u1.ak,u1.one,u2.pu,u2.ak,u2.one,fW,cm,i1,bH,yf,Av,e1]
 .rw [yI hd];rw[yW hd] at i1;have hc:aV a.num++47::aC a.den=(aV a.num++[47])++aC a.den:=by simp
  rw[hc]
  simp only[go_sem,ya,yb,SQ,aR,u1.pu,u1.ak,u1.one,u2.pu,u2.ak,u2.one,fW,cm,i1,bH,yf,Av,FE,e1,e2,ik (a:=aV a.num) (b:=[47]) (by simp;lia),ik (a:=aV a.num++[47]) (b:=aC a.den) (by simp;lia)]
def azS{n:Nat}(h:n<9223372036854775808):binOp .and (.int .i64 (n:Int)) (.int .i64 1)=GW (.int .i64 ((n%2:Nat):Int)):=by
 show GW (AV.int .i64 (IntKind.wrap .i64 ((wu 64 (n:Int)&&&wu 64 1).toNat:Int)))=_
 rw[show wu 64 (n:Int)=tA 64 n from BitVec.ofInt_natCast 64 n,show wu 64 1=tA 64 1 from rfl];rw[BitVec.toNat_and,ua,ua,show (1%2^64:Nat)=2^1-1 from rfl,Nat.and_two_pow_sub_one_eq_mod,wrapN (by lia)]
 grind
def azT(n:Nat):binOp .shr (.int .i64 (n:Int)) (.int .u64 1)=GW (.int .i64 ((n/2:Nat):Int)):=by
 show GW (AV.int .i64 ((n:Int).fdiv (2^1)))=_
 grind
def Bd.pow{k:Nat}{z:Int}(h:Bd k z):∀e,Bd (k*e+1) (z^e)
 | 0=>by rw[yaL,xI];unfold Bd;decide
 | e+1=>by
  have ih:=Bd.pow h e;rw[Int.pow_succ];exact (ih.mul h).mono (by rw[xK,yi];lia)
def avd(h:Nu P L)(Sg:True){z:Int}{K k0:Nat}(hz:Bd K z)(hK:K*k0+1<=30000000000){o1 o2:AV}:
  bP P L [1,2,4,5] ET (fun m st=>∃(k i e:Nat) (s1 s2:Int) (w1 w2:AV),st=⟨[(1,aa k),(2,.ptr 0 0),(4,.ptr 1 0),(5,.ptr 2 0)],[(2,.cells ycN ycN ycN 2 [aa s2,w2]),(1,.cells ycN ycN ycN 2 [o1,o2]),(0,.cells ycN ycN ycN 2 [aa s1,w1])],3,0⟩/\df s1 w1 (z^i)/\df s2 w2 (z^e)/\e+i*k=k0/\(0<k->i<=k0)/\k<9223372036854775808/\k=m) (fun ex st'=>∃tm s2 w2 c0,st'=⟨tm,[(2,.cells ycN ycN ycN 2 [aa s2,w2]),(1,.cells ycN ycN ycN 2 [o1,o2]),(0,c0)],3,0⟩/\ex=.exit 0/\ai tm 4=.ptr 1 0/\ai tm 5=.ptr 2 0/\df s2 w2 (z^k0)):=by
 apply bQ;rintro m st ⟨k,i,e,s1,s2,w1,w2,rfl,h1,h2,hk,hi,hkb,rfl⟩;have⟨l1,u1⟩:=h1.aM;have⟨l2,u2⟩:=h2.aM;by_cases NV:k=0
 .right
  subst NV;rw[xI,xd] at hk;subst hk;simp only[go_sem,ET,show ¬(0:Int)<((0:Nat):Int) by lia];exact⟨_,_,rfl,by simp,_,s2,w2,_,rfl,rfl,rfl,rfl,h2⟩
 .left
  have dP:=hi (by lia);have he:e<=k0:=by lia
  have hik:i*1<=i*k:=xa i (by lia);have b1:Bd (K*k0+1) (z^i):=(hz.pow i).mono (by have:=xa K dP;lia)
  have b2:Bd (K*k0+1) (z^e):=(hz.pow e).mono (by have:=xa K he;lia)
  have n1:cJ (.agg [aa s1,w1]) (z^i):=⟨s1,w1,rfl,h1⟩;have n2:cJ (.agg [aa s2,w2]) (z^e):=⟨s2,w2,rfl,h2⟩;have⟨p,e1,hp⟩:=Dz h n2 n1 b2 b1 (by lia);have⟨q,e2,hq⟩:=Dz h n1 n1 b1 b1 (by lia);rw[<-Int.pow_add] at hp hq;obtain⟨s3,w3,rfl,h3⟩:=hp;obtain⟨s4,w4,rfl,h4⟩:=hq;have⟨l3,u3⟩:=h3.aM;have⟨l4,u4⟩:=h4.aM;have fg:=wm k 2;have OC:=azS (n:=k) hkb;have ZD:=azT k;have aEy:(i+i)*(k/2)=i*(2*(k/2)):=by rw[<-Nat.two_mul,Nat.mul_comm 2 i,Nat.mul_assoc]
  by_cases azU:k%2=1
  .rw [azU] at OC fg;have zG:i*k=i*(2*(k/2))+i:=by
    conv=>lhs;rw[<-fg,xK,yi]
   by_cases oT:1<k
   .simp only [go_sem,ya,ET,show (0:Int)<(k:Int) by lia,OC,show ((1:Nat):Int)=1 from rfl,cA,cm,u1.ak,u2.ak,e1,a8,cA,yg,eD u3,eD u4,show (1:Int)<(k:Int) by lia,e2,ZD]
    exact⟨_,k/2,rfl,by lia,k/2,i+i,e+i,s4,s3,w4,w3,by simp only[go_sem,ya,yb,ae],h4,h3,by lia,fun h0=>by have:=xa (i+i) h0;lia,by lia,rfl⟩
   .have fO:e+i+i*(k/2)=k0:=by
     have h1:k/2=0:=by lia
     rw[h1] at zG ⊢
     lia
    simp only[go_sem,ya,ET,show (0:Int)<(k:Int) by lia,OC,show ((1:Nat):Int)=1 from rfl,cA,cm,u1.ak,u2.ak,e1,a8,cA,yg,eD u3,show ¬(1:Int)<(k:Int) by lia,ZD];exact⟨_,k/2,rfl,by lia,k/2,i,e+i,s1,s3,w1,w3,by simp only[go_sem,ya,yb,ae],h1,h3,fO,fun h0=>by lia,by lia,rfl⟩
  .have A2:k%2=0:=by lia
   rw[A2] at OC fg;have zG:i*k=i*(2*(k/2)):=by
    conv=>lhs;rw[<-fg,xd]
   simp only[go_sem,ya,ET,show (0:Int)<(k:Int) by lia,OC,show ((0:Nat):Int)=0 from rfl,yay,cA,cm,u1.ak,a8,cA,yg,eD u4,show (1:Int)<(k:Int) by lia,e2,ZD]
   exact⟨_,k/2,rfl,by lia,k/2,i+i,e,s4,s2,w4,w2,by simp only[go_sem,ya,yb,ae],h4,h2,by lia,fun h0=>by have:=xa (i+i) h0;lia,by lia,rfl⟩
def XI(h:Nu P L)(zx:Has P L 155 FP){v:AV}{z:Int}{K k:Nat}(hv:cJ v z)(hz:Bd K z)(hK:K*k+1<=30000000000)(hk:k<9223372036854775808):∃r,af P L 155 [v,aa k] r/\cJ r (z^k):=by
 have⟨o1,o2⟩:=F3 h (z:=1) (by decide) (by decide);obtain⟨s1,w1,rfl,h1⟩:=hv;have⟨l1,u1⟩:=h1.aM;have un:=Af;have jL:∃s w,af P L 155 [.agg [aa s1,w1],aa k] (.agg [aa s,w])/\df s w (z^k):=by
  unfold af;rw[aF zx];simp only[go_sem,ya,yb,FP,aR,u1.pu,u1.one,o1,a8,eD un];generalize hq:D P L (.loop _ ET) _=q;obtain⟨ex,st,rfl,tm,s5,w5,c1,rfl,rfl,t4,t5,h5⟩:=aW hq (avd (P:=P) (L:=L) h trivial hz (k0:=k) hK (o1:=.int .i64 0) (o2:=.ab) k) ⟨k,1,0,s1,1,w1,.ab,by simp only[go_sem,ya,yb,ae],by rw[Int.pow_one];exact h1,.inl ⟨rfl,(yaL z).symm,(by rw[yaL];decide)⟩,by lia,fun h0=>h0,hk,rfl⟩
  have⟨l5,u5⟩:=h5.aM;refine⟨s5,w5,?_,h5⟩;simp only[go_sem,ya,yb,ae,t4,t5,cX,cZ,cA,yg,oK u5,eD u5]
 have⟨s,w,e,hn⟩:=jL;exact⟨_,e,s,w,rfl,hn⟩
def KR:∀(l m:List Nat) (a:Nat),cQ (l++m) a=(cQ l a).bind (fun v=>cQ m v)
 | [],m,a=>rfl
 | b::l,m,a=>by
  simp only[List.cons_append,cQ]
  cases (yJ 48 b&&yJ b 57) with
  | true=>exact KR l m _
  | false=>rfl
def apG:∀{l:List Nat} {a v:Nat},cQ l 0=GW v->cQ l a=GW (a*10^l.length+v):=by
 intro l
 suffices h:∀{l:List Nat} {a b v:Nat},cQ l b=GW v->b*10^l.length<=v/\cQ l (a+b)=GW (a*10^l.length+v) by
  intro a v hv
  have:=(h (a:=a) hv).2
  grind
 intro l
 induction l with
 | nil=>intro a b v h;simp[cQ] at h ⊢;lia
 | cons c l ih=>
  intro a b v h;simp only[cQ] at h ⊢
  cases hb:(yJ 48 c&&yJ c 57) with
  | false=>rw[hb] at h;cases h
  | true=>
   rw[hb] at h;have⟨h1,h2⟩:=ih (a:=10*a) h;simp only[yx,xt]
   grind
def Vr:∀{l:List Nat} {v:Nat},cQ l 0=GW v->v<10^l.length:=by
 suffices h:∀{l:List Nat} {b v:Nat},cQ l b=GW v->v<(b+1)*10^l.length by
  grind
 intro l
 induction l with
 | nil=>intro b v h;simp[cQ] at h ⊢;lia
 | cons c l ih=>
  intro b v h;simp only[cQ] at h
  cases hb:(yJ 48 c&&yJ c 57) with
  | false=>rw[hb] at h;cases h
  | true=>
   simp only[Bool.and_eq_true] at hb;have hc:=Nat.le_of_ble_eq_true hb.2;have h2:=Nat.mul_le_mul_right (10^l.length) (show 10*b+(c-48)+1<=10*(b+1) by lia)
   grind
def arO(XG:L.pure 154=GW Ms){f:cw}{s:List Nat}{v:Nat}(h0:0<s.length)(h1:s.length<=18)(hv:cQ s 0=GW v):bS P L f 154 [.str s]=GW (.av [.int .i64 v,.undef]):=by
 rw[j8 XG];show (bif yP 0 s.length&&yJ s.length 18 then (match cQ s 0 with | some n=>GW (AV.av [.int .i64 n,.undef]) | none=>GX) else GX)=_
 rw[ml h0,yB h1,hv];rfl
def acg:∀j:Nat,iL [48] j++[48]=[48]++iL [48] j
 | 0=>rfl
 | j+1=>by
  show ([48]++iL [48] j)++[48]=[48]++([48]++iL [48] j)
  rw[xJ,acg j]
def G8:∀j:Nat,(iL [48] j).length=j
 | 0=>rfl
 | j+1=>by show ([48]++iL [48] j).length=_;rw[yM,G8 j];simp;lia
def anu:∀(k n:Nat),n<10^k->0<k->jk k n=iL [48] (k-(aC n).length)++aC n:=by
 intro k
 induction k with
 | zero=>intro n _ h;lia
 | succ k ih=>
  intro n hn _;rw[jk];by_cases iO:n<10
  .rw [qY iO,yY iO]
   cases k with
   | zero=>rfl
   | succ k=>
    rw[ih (n/10) (by rw[xW iO];exact ybG (by decide)) (by lia),xW iO]
    rw[show aC 0=[48] by decide];rw[acg];rfl
  .have hk:0<k:=by
    grind
   rw[ih (n/10) (by rw[xt] at hn;lia) hk,zh iO,xJ,yM]
   grind
def anv{m d r:Nat}(hd:d=m/1000000000000000000)(hr:r=m%1000000000000000000):(0<d->aC m=aC d++(iL [48] (18-(aC r).length)++aC r))/\(d=0->aC m=aC r):=by
 have Zv:r<10^18:=by lia
 constructor
 .intro h0;rw[<-anu 18 r Zv (by decide),<-PI 18 d r h0 Zv]
  grind
 .grind
def ave{f:cw}(h:L.pure 138=GW CB){n:Nat}(hn:n<18446744073709551616):bS P L f 138 [uc n,aa 10]=GW (.str (aC n)):=by
 rw[j8 h];show (bif yP n 18446744073709551616 then GW (AV.str (aC n)) else GX)=_
 rw[ml hn];rfl
def VU{f:cw}(h:L.pure 139=GW CV){n:Nat}(hn:n<=100):bS P L f 139 [.str [48],aa (n:Nat)]=GW (.str (iL [48] n)):=by
 rw[j8 h];show (bif yJ n 1099511627776&&yJ (1*n) 1099511627776 then GW (AV.str (iL [48] n)) else GX)=_
 rw[yB (by lia),yB (by lia)];rfl
def avf(h:Wd P L)(F6:L.pure 138=GW CB)(B1:L.pure 139=GW CV){neg:Bool}{M K:Nat}(Be:0<M)(hK:K<=4000000000)(hlen:(aC M).length<=300000000000):
  bP P L [3,4,5,6] rM (fun k s=>∃(m:Nat) (w:AV) (ps:List (List Nat)) (fl:Bool),m=k/\WN w m/\m<18446744073709551616^K/\aC M=(if m=0 then [] else aC m)++ps.reverse.flatten/\((ps=[]->m=M)/\18*ps.length<=(aC M).length+18)/\(m≠0->18*ps.length+(aC m).length=(aC M).length)/\
    ((ps=[]/\s=⟨[(3,.bool neg),(4,w),(5,.aq 0 0 1),(6,.ab)],[(0,.cells fl ycN ycN 1 [uc 1000000000000000000])],1,0⟩)\/
    (ps≠[]/\s=⟨[(3,.bool neg),(4,w),(5,.aq 0 0 1),(6,.aq 1 0 ps.length)],[(1,.cells ycN ycN false 1 (ps.map .str)),(0,.cells fl ycN ycN 1 [uc 1000000000000000000])],2,0⟩))) (fun ex s'=>∃tm ps fl,ex=.exit 0/\ps≠[]/\ps.length<=300000000000/\aC M=ps.reverse.flatten/\ai tm 3=.bool neg/\ai tm 6=.aq 1 0 ps.length/\s'=⟨tm,[(1,.cells ycN ycN false 1 (ps.map .str)),(0,.cells fl ycN ycN 1 [uc 1000000000000000000])],2,0⟩):=by
 apply bQ;rintro k s ⟨m,w,ps,fl,rfl,hw,hmK,Ct,aho,oS,hs⟩;have⟨lw,uw,gw,nw,vw⟩:=hw;by_cases hm:m=0
 .right
  have lR:lw=[]:=List.eq_nil_of_length_eq_zero (Nat.le_zero.1 (p9 (K:=0) nw vw (by rw[hm];decide)))
  subst lR;rw[yK hm,xG] at Ct;have fP:ps≠[]:=fun e=>by have:=aho.1 e;lia
  have Th:ps.length<=300000000000:=by have:=aho.2;lia
  rcases hs with ⟨h0,_⟩ | ⟨_,rfl⟩
  .exact absurd h0 fP
  .simp only [go_sem,ya,rM,uw.len,yN,show ¬(0:Int)<((0:Nat):Int) by lia];exact⟨_,_,rfl,by simp,_,ps,fl,rfl,fP,Th,Ct,rfl,rfl,rfl⟩
 .left
  have hw:WN w m:=⟨lw,uw,gw,nw,vw⟩;have hB:WN (.ap ycN 1 [uc 1000000000000000000]) 1000000000000000000:=⟨[1000000000000000000],oB ycN [1000000000000000000],HW.2 (by decide),by decide,by simp[bv]⟩;have⟨q,r,e1,hq,hr⟩:=aha h hw hB (K:=K+1) (by decide) (yR hmK (xe (by decide) (by lia))) (by rw[xt];have:=ybG (n:=K) (show 0<18446744073709551616 by decide);lia) (by lia)
  have⟨t1,t2⟩:=anv (m:=m) rfl rfl;have fg:=wm m 1000000000000000000;have hrB:=xO m (show 0<1000000000000000000 by decide);obtain⟨d,hd⟩:∃d,d=m/1000000000000000000:=⟨_,rfl⟩;obtain⟨x,hx⟩:∃x,x=m%1000000000000000000:=⟨_,rfl⟩;rw[<-hd] at hq t1 t2 fg;rw[<-hx] at hr t1 t2 fg hrB;have⟨lq,uq,gq,nq,vq⟩:=hq;have⟨lr,ur,gr,nr,vr⟩:=hr;have Yw:(aC x).length<=18:=Ae (k:=17) (by lia);have ZE:=Br x;have On:(lr=[]/\x=0)\/lr=[x]:=by
   have h1:lr.length<=1:=p9 (K:=1) nr vr (by rw[Nat.pow_one];lia)
   cases lr with
   | nil=>exact .inl ⟨rfl,by rw[<-vr];rfl⟩
   | cons a l=>
    cases l with
    | nil=>rw[C7] at vr;exact .inr (by rw[vr])
    | cons b l=>simp at h1
  have OD:(lq=[]/\d=0)\/(0<lq.length/\0<d):=by
   cases lq with
   | nil=>exact .inl ⟨rfl,by rw[<-vq];rfl⟩
   | cons a l=>
    refine .inr ⟨by simp,?_⟩;rcases Nat.eq_zero_or_pos d with h0 | h0
    .have:=p9 (K:=0) nq vq (by rw[h0];decide)
     simp at this
    .exact h0
  unfold af at e1;have iB:(0:Int)<(lw.length:Int):=by
   have:lw≠[]:=fun e=>by subst e;simp[bv] at vw;lia
   have:=List.length_pos_iff.2 this
   lia
  have aEM:=oS hm;have hmp:=Br m;have new:∀t:List Nat,aC m=(if d=0 then [] else aC d)++t->(d≠0->t.length=18)->
    aC M=(if d=0 then [] else aC d)++(ps++[t]).reverse.flatten/\((ps++[t]=[]->d=M)/\18*(ps++[t]).length<=(aC M).length+18)/\(d≠0->18*(ps++[t]).length+(aC d).length=(aC M).length):=fun t h1 h2=>by
   rw[yI hm,h1] at Ct;refine⟨by rw[Ct];simp,⟨by simp,by simp only[yM,yx,yN];lia⟩,fun h0=>?_⟩
   have h3:=congrArg List.length h1;rw[yI h0,yM,h2 h0] at h3;simp only[yM,yx,yN]
   lia
  have DA:d<m:=by lia
  have D9:WN q d:=⟨lq,uq,gq,nq,vq⟩;have qM:lr=[x]->fc 1 0 r=GW (.bN (.int .u64 x::([]:List AV))):=fun e=>by
   subst e
   have:=ur.a6 (i:=0) (by simp)
   simpa using this
  have f1:=ave (P:=P) (f:=D P L) F6 (n:=x) (by lia);have f2:=VU (P:=P) (f:=D P L) B1 (n:=18-(aC x).length) (by lia);have XJ:(18:Int)-((aC x).length:Int)=((18-(aC x).length:Nat):Int):=by lia
  have aEN:18*ps.length<=300000000000:=by lia
  have zl:(iL [48] (18-(aC x).length)++aC x).length=18:=by rw[yM,G8];lia
  obtain⟨z,hz⟩:∃z,z=aC x:=⟨_,rfl⟩;have kI:x=0->z=[48]:=fun e=>by rw[hz,e];decide
  rw[<-hz] at f1 f2 XJ Yw ZE zl t1 t2;cases fl
  all_goals
   rcases OD with ⟨rfl,iA⟩ | ⟨Ti,iA⟩
   .have ⟨n1,n2,n3⟩:=new z (by rw[yK iA,xG];exact t2 iA) (fun h=>absurd iA h)
    rcases On with ⟨rfl,Cm⟩ | rfl
    .have nv:=kI Cm;clear hz;subst nv;rcases hs with ⟨jc,rfl⟩ | ⟨jc,rfl⟩
     .subst jc;simp only[go_sem,ya,yb,xg,yG,yk,yi,rM,uw.len,uw.ak,uq.len,uq.bA,ur.len,ur.bA,iB,e1,yN,yN,show ¬(0:Int)<((0:Nat):Int) by lia,eO];refine⟨_,d,rfl,DA,d,q,[]++[[48]],false,rfl,D9,by lia,n1,n2,n3,.inr ⟨by simp,?_⟩⟩;simp only[go_sem,ya,yb,ae,an uq.pu]<;>rfl
     .simp only [go_sem,ya,yb,yG,yk,yi,rM,uw.len,uw.ak,uq.len,uq.bA,ur.len,ur.bA,iB,e1,yN,yN,show ¬(0:Int)<((0:Nat):Int) by lia]
      rw[dK (ex:=false) (pu:=ycN) (cs:=ps.map .str) rfl (by simp) (by lia) (by lia) (by decide) rfl];simp only[go_sem,ya,yb];refine⟨_,d,rfl,DA,d,q,ps++[[48]],false,rfl,D9,by lia,n1,n2,n3,.inr ⟨by simp,?_⟩⟩;rw[xu,yM];simp only[go_sem,ya,yb,ae,an uq.pu]<;>rfl
    .rcases hs with ⟨jc,rfl⟩ | ⟨jc,rfl⟩
     .subst jc;simp only[go_sem,ya,yb,xg,yG,yk,yi,rM,uw.len,uw.ak,uq.len,uq.bA,ur.len,ur.bA,iB,e1,yx,yN,yf,show (0:Int)<((1:Nat):Int) by lia,qM rfl,f1,yN,show ¬(0:Int)<((0:Nat):Int) by lia,eO];refine⟨_,d,rfl,DA,d,q,[]++[z],false,rfl,D9,by lia,n1,n2,n3,.inr ⟨by simp,?_⟩⟩;simp only[go_sem,ya,yb,ae,an uq.pu]<;>rfl
     .simp only [go_sem,ya,yb,yG,yk,yi,rM,uw.len,uw.ak,uq.len,uq.bA,ur.len,ur.bA,iB,e1,yx,yN,yf,show (0:Int)<((1:Nat):Int) by lia,qM rfl,f1,yN,show ¬(0:Int)<((0:Nat):Int) by lia]
      rw[dK (ex:=false) (pu:=ycN) (cs:=ps.map .str) rfl (by simp) (by lia) (by lia) (by decide) rfl];simp only[go_sem,ya,yb];refine⟨_,d,rfl,DA,d,q,ps++[z],false,rfl,D9,by lia,n1,n2,n3,.inr ⟨by simp,?_⟩⟩;rw[xu,yM];simp only[go_sem,ya,yb,ae,an uq.pu]<;>rfl
   .have ⟨n1,n2,n3⟩:=new (iL [48] (18-z.length)++z) (by rw[yI (by lia)];exact t1 iA) (fun _=>zl)
    rcases On with ⟨rfl,Cm⟩ | rfl
    .have nv:=kI Cm;clear hz;subst nv;rcases hs with ⟨jc,rfl⟩ | ⟨jc,rfl⟩
     .subst jc
      simp only[go_sem,ya,yb,xg,yG,yk,yi,rM,uw.len,uw.ak,uq.len,uq.bA,ur.len,ur.bA,iB,e1,yN,show ¬(0:Int)<((0:Nat):Int) by lia,show (0:Int)<(lq.length:Int) by lia,show (18:Int)-((1:Nat):Int)=((17:Nat):Int) from rfl,wrapN (n:=17) (by lia),VU (P:=P) (f:=D P L) B1 (n:=17) (by lia),ik (a:=iL [48] 17) (b:=[48]) (by rw[G8];decide),eO]
      refine⟨_,d,rfl,DA,d,q,[]++[iL [48] 17++[48]],false,rfl,D9,by lia,n1,n2,n3,.inr ⟨by simp,?_⟩⟩;simp only[go_sem,ya,yb,ae,an uq.pu]<;>rfl
     .simp only [go_sem,ya,yb,yG,yk,yi,rM,uw.len,uw.ak,uq.len,uq.bA,ur.len,ur.bA,iB,e1,yN,show ¬(0:Int)<((0:Nat):Int) by lia,show (0:Int)<(lq.length:Int) by lia,show (18:Int)-((1:Nat):Int)=((17:Nat):Int) from rfl,wrapN (n:=17) (by lia),VU (P:=P) (f:=D P L) B1 (n:=17) (by lia),ik (a:=iL [48] 17) (b:=[48]) (by rw[G8];decide)]
      rw[dK (ex:=false) (pu:=ycN) (cs:=ps.map .str) rfl (by simp) (by lia) (by lia) (by decide) rfl];simp only[go_sem,ya,yb];refine⟨_,d,rfl,DA,d,q,ps++[iL [48] 17++[48]],false,rfl,D9,by lia,n1,n2,n3,.inr ⟨by simp,?_⟩⟩;rw[xu,yM];simp only[go_sem,ya,yb,ae,an uq.pu]<;>rfl
    .rcases hs with ⟨jc,rfl⟩ | ⟨jc,rfl⟩
     .subst jc
      simp only[go_sem,ya,yb,xg,yG,yk,yi,rM,uw.len,uw.ak,uq.len,uq.bA,ur.len,ur.bA,iB,e1,yx,yN,yf,show (0:Int)<((1:Nat):Int) by lia,qM rfl,f1,show (0:Int)<(lq.length:Int) by lia,XJ,wrapN (n:=18-z.length) (by lia),f2,ik (a:=iL [48] (18-z.length)) (b:=z) (by rw[G8];lia),eO]
      refine⟨_,d,rfl,DA,d,q,[]++[iL [48] (18-z.length)++z],false,rfl,D9,by lia,n1,n2,n3,.inr ⟨by simp,?_⟩⟩;simp only[go_sem,ya,yb,ae,an uq.pu]<;>rfl
     .simp only [go_sem,ya,yb,yG,yk,yi,rM,uw.len,uw.ak,uq.len,uq.bA,ur.len,ur.bA,iB,e1,yx,yN,yf,show (0:Int)<((1:Nat):Int) by lia,qM rfl,f1,show (0:Int)<(lq.length:Int) by lia,XJ,wrapN (n:=18-z.length) (by lia),f2,ik (a:=iL [48] (18-z.length)) (b:=z) (by rw[G8];lia)]
      rw[dK (ex:=false) (pu:=ycN) (cs:=ps.map .str) rfl (by simp) (by lia) (by lia) (by decide) rfl];simp only[go_sem,ya,yb];refine⟨_,d,rfl,DA,d,q,ps++[iL [48] (18-z.length)++z],false,rfl,D9,by lia,n1,n2,n3,.inr ⟨by simp,?_⟩⟩;rw[xu,yM];simp only[go_sem,ya,yb,ae,an uq.pu]<;>rfl
def Nv:Nat->VC->VC
 | 0,c=>bC c
 | n+1,c=>.seq (bC c) (Nv n (aD c))
def BJ:Nat->VC->VC
 | 0,c=>aD c
 | n+1,c=>BJ n (aD c)
def alW(h:Nu P L)(F6:L.pure 138=GW CB)(B1:L.pure 139=GW CV){s z:Int}{e:Bool}{l:List Nat}(hn:df s (.ap e l.length (l.map uc)) z){K:Nat}(nv:0<z.natAbs)(Tj:z.natAbs<18446744073709551616^K)(hK:K<=4000000000)(hlen:(aC z.natAbs).length<=300000000000):
  ∃ps:List (List Nat),ps≠[]/\ps.length<=300000000000/\aC z.natAbs=ps.reverse.flatten/\D P L (Nv 5 Gt.body) ⟨[(0,.agg [aa s,.ap e l.length (l.map uc)])],[],0,0⟩=GW (.normal,⟨[(3,.bool (decide (z<0))),(6,.aq 0 0 ps.length)],[(0,.cells ycN ycN false 1 (ps.map .str))],1,0⟩):=by
 have⟨r,e1,hr⟩:=B0 h hn;have bR:=hr;have⟨lr,ur,gr,nr,vr⟩:=hr;simp only[go_sem,ya,yb,yk,yi,Gt,Nv,bC,aD,aR,bH,yf,du,pR,eP,cA,cm,e1];generalize og:D P L (.loop _ rM) _=qq;obtain⟨ex,st,rfl,tm,ps,fl,rfl,fP,Th,Ct,t3,t6,rfl⟩:=aW og (avf (P:=P) (L:=L) h.toWd F6 B1 (neg:=decide (z<0)) (M:=z.natAbs) (K:=K) nv hK hlen z.natAbs) ⟨z.natAbs,bA r,[],ycN,rfl,bR,Tj,by rw[yI (by lia)];simp,⟨fun _=>rfl,by simp⟩,fun _=>by simp,.inl ⟨rfl,by
  simp only[go_sem,ya,yb,ae,an ur.pu]<;>rfl⟩⟩
 refine⟨ps,fP,Th,Ct,?_⟩;simp only[go_sem,yb,ae,t3,t6]
section
open Go
section
variable {aw:List AV}{s:St}
variable {O:bz}
def BK:Nat->vj->vj
 | 0,.seq _ b=>b
 | n+1,.seq _ b=>BK n b
 | _,c=>c
def Sj:Nat->vj->Prop
 | 0,.seq _ _=>True
 | n+1,.seq _ b=>Sj n b
 | _,_=>False
def ada(hO:iH O){h:Nat}{c:vj}{l k:Nat}{ex:Ex}{s':St}(hv:D O.prog O.aI (comp O.P (O.hint h) c l k).1 s=GW (ex,s')):Dg O h c s ex s':=by
 have⟨n,hn⟩:=Xh hv
 cases n with
 | zero=>rw[KY] at hn;cases hn
 | succ n=>
  exact adV hO n (fun k _=>aaL hO k) h c l k n (yz _) s ex s' hn
def aeG(hO:iH O){h:Nat}{ro:Option Nat}{lo:Nat}{Q:Exit->Act->ym->Prop}:∀(n:Nat) (c:vj) (l k:Nat),Sj n c->∀(s s1:St),D O.prog O.aI (Nv n (comp O.P (O.hint h) c l k).1) s=GW (.normal,s1)->
  ∀(m:Mp) (S:Nat->Prop) (w:ym) (a:Act),By ro w->b7 O m S w s.tm a.tmps->aT O m S w s.hp s.ct->s.base<=s.ct->(O.hint h).n<=a.tmps.size->O.w0.heap.size<=lo->lo<=w.heap.size->Marks lo S w a.defers->
  (∀a' w',fe O m S w s .normal s1 a.tmps.size lo .normal a' w'->(BK n c).wpIn (WF ro) 0 O.P Q a' w')->c.wpIn (WF ro) 0 O.P Q a w
 | n,c,l,k,hc,s,s1,hv=>by
  intro m S w a da ht hh hb hn bf fQ cI hQ
  cases c with
  | seq x y=>
   cases n with
   | zero=>
    refine wpIn_seq (wpIn_mono (ada hO (show D O.prog O.aI (comp O.P (O.hint h) x l k).1 s=GW (.normal,s1) from hv) ro lo m S w a da ht hh hb hn bf fQ cI) ?_);rintro e a' w' hp;have he:e=.normal:=hp.1;subst he;exact hQ a' w' hp
   | succ n=>
    have eJ:D O.prog O.aI (.seq (comp O.P (O.hint h) x l k).1 (Nv n (comp O.P (O.hint h) y (comp O.P (O.hint h) x l k).2.1 (comp O.P (O.hint h) x l k).2.2).1)) s=GW (.normal,s1):=hv;rw[nS] at eJ
    cases hx:D O.prog O.aI (comp O.P (O.hint h) x l k).1 s with
    | none=>rw[hx] at eJ;cases eJ
    | some q=>
     have⟨ex,st⟩:=q;rw[hx] at eJ
     cases ex with
     | ret=>exact absurd eJ (by intro h;cases h)
     | exit id=>exact absurd eJ (by intro h;cases h)
     | normal=>
      refine wpIn_seq (wpIn_mono (ada hO hx ro lo m S w a da ht hh hb hn bf fQ cI) ?_);rintro e a' w' ⟨rfl,m',S',k1,k2,k3,k4,k5,k6,k7⟩;refine aeG hO n y _ _ hc st s1 eJ m' S' w' a' (Pn k5 da) k1 k2 (by lia) (by lia) bf (xn fQ k5.size) k7 ?_;rintro a2 w2 ⟨_,m2,S2,g1,g2,g3,g4,g5,g6,g7⟩;exact hQ a2 w2 ⟨rfl,m2,S2,g1,g2,by lia,by lia,k5.trans (by rw[<-k3];exact g5),by lia,g7⟩
  | _=>cases n<;>exact hc.elim
def avg(hO:iH O){n:Nat}{F:aA}(hF:O.prog n=GW F){fn:yaD}{c:vj}(mD:O.P.funcs[O.ah n]? =GW fn)(jT:fn.body=GW c){hp:Hp}{ct:Nat}(hc:(comp O.P (O.hint n) c 0 0).1=F.body->∀m S w a,b7 O m S w (gi 0 aw) a.tmps->aT O m S w hp ct->(O.hint n).n<=a.tmps.size->a.tmps.size=max fn.ntmps aw.length->O.w0.heap.size<=w.heap.size->a.defers=[]->
   c.wpIn (WF GX) 0 O.P (fe O m S w ⟨gi 0 aw,hp,ct,ct⟩ .ret s a.tmps.size w.heap.size) a w){v:AV}(hr:jw s F.eG=GW v):Df O n hp ct aw v s.hp s.ct:=by
 intro m S w args hh eQ;have⟨fn',q1,q2,q3⟩:=hO.prog n F hF;rw[mD] at q1;cases q1;have⟨c',q4,q5,q6,q7⟩:=TO q2;rw[jT] at q4;cases q4;refine .inl ⟨PG mD (by rw[jT];rfl) q3,?_⟩
 have hlen:aw.length=args.size:=by have:=(ij _ _ eQ).symm;simpa using this
 have hw:=hc q5.symm m S w {tmps:=args++Array.replicate (fn.ntmps-args.size) undef,defers:=[]} (abZ _ eQ) hh (by simp;lia) (by simp;lia) hh.gJ rfl
 refine callsIn_of_wp_marks (F:=ybm) mD jT trivial (wpIn_mono hw ?_);rintro e a' w' ⟨rfl,m',S',k1,k2,k3,k4,k5,k6,rs,k7,k8,k9⟩;show LeavesInM ybm 0 O.P fn a'.tmps (Bo O m S w hp ct v s.hp s.ct) a'.defers .returning w'
 rw[k7];exact Uo q6 hr k4 rs w' k8 k9 hh.gJ k2 k1 k5
def apH(hO:iH O){n:Nat}{F:aA}(hF:O.prog n=GW F){fn:yaD}{c:vj}(mD:O.P.funcs[O.ah n]? =GW fn)(jT:fn.body=GW c)(hc:(comp O.P (O.hint n) c 0 0).1=F.body->∀m S w a,b7 O m S w (gi 0 aw) a.tmps->aT O m S w [] 0->(O.hint n).n<=a.tmps.size->a.tmps.size=max fn.ntmps aw.length->O.w0.heap.size<=w.heap.size->a.defers=[]->
   c.wpIn (WF GX) 0 O.P (fe O m S w ⟨gi 0 aw,[],0,0⟩ .ret s a.tmps.size w.heap.size) a w){v r:AV}(hv:jw s F.eG=GW v)(hr:result s.hp v=GW r):eR O n aw r:=
 TF (avg hO hF mD jT hc hv) hr
end
end
section
open Go
def abv{ah:Nat->Nat}{m:Mp}{S:Nat->Prop}{w:ym}{b:Nat}:∀{ps:List (List Nat)} {o:Nat},b5 ah m S w (ps.map .str) b o->
  ∃ts:List ByteArray,(ts.map fun t=>t.data.toList.map xp)=ps/\∀i (h:i<ts.length),w.cell? ⟨b,o+i,GX⟩=GW (.string ts[i])
 | [],o,_=>⟨[],rfl,fun i h=>absurd h (Nat.not_lt_zero i)⟩
 | p::ps,o,h=>by
  have⟨⟨u,h1,h2⟩,h3⟩:=h;obtain⟨t,rfl,ht⟩:=h2;have⟨ts,k1,k2⟩:=abv h3;refine⟨t::ts,by rw[List.map_cons,ht,k1],fun i hi=>?_⟩
  cases i with
  | zero=>exact h1
  | succ i=>
   grind
def qc(ts:List ByteArray):List UInt8:=(ts.map fun t=>t.data.toList).flatten
def arP{ts:List ByteArray}{ps:List (List Nat)}(h:(ts.map fun t=>t.data.toList.map xp)=ps):(qc ts.reverse).map xp=ps.reverse.flatten:=by
 subst h;unfold qc;rw[List.map_flatten,ybq,<-yav];rfl
def arQ{ts:List ByteArray}{ps:List (List Nat)}(h:(ts.map fun t=>t.data.toList.map xp)=ps):(ts.map (·.size)).sum=ps.reverse.flatten.length:=by
 subst h;rw[List.length_flatten,yav,List.sum_reverse,ybq]
 congr 1
 simp_all
def Vs(P:Program)(c:vj):Prop:=∀(Q:Exit->Act->ym->Prop) (a:Act) (w:ym) (neg:Bool) (ts:List ByteArray) (b o cc:Nat),a.tmps.size=69->a.tmps.getD 3 undef=.bool neg->a.tmps.getD 6 undef=.slice (GW ⟨b,o,GX⟩) ts.length cc->
  (∀i (h:i<ts.length),w.cell? ⟨b,o+i,GX⟩=GW (.string ts[i]))->(ts.map (·.size)).sum+1<=140737488355328->ts.length<=cc->ts.length<9223372036854775808->
  (∀a' w',Calm w w'->a'.tmps.size=69->a'.defers=a.defers->a'.tmps.getD 2 undef=.string ⟨((if neg then [45] else [])++qc ts.reverse).toArray⟩->Q .ret a' w')->
  (BK 5 c).wpIn Fence.wide 0 P Q a w
section
variable {O:bz}
def alX{n K:Nat}(h:n<18446744073709551616^K):(aC n).length<=20*K+1:=by
 refine Ae (k:=20*K) (yR h ?_);have h1:(10:Nat)^(20*K)=(10^20)^K:=Nat.pow_mul ..;exact xn (by rw[h1];exact uf (by decide) K) (xe (by decide) (Nat.le_succ _))
def apI(hO:iH O)(hN:Nu O.prog O.aI)(F6:O.aI.pure 138=GW CB)(B1:O.aI.pure 139=GW CV)(Jo:O.prog 99=GW Gt){fn:yaD}{c:vj}(mD:O.P.funcs[O.ah 99]? =GW fn)(jT:fn.body=GW c)(SG:fn.ntmps=69)(XK:Sj 5 c)(ht:Vs O.P c){s z:Int}{e:Bool}{l:List Nat}(hn:df s (.ap e l.length (l.map uc)) z)(nv:0<z.natAbs)(hK:l.length<=4000000000)(Tj:z.natAbs<18446744073709551616^l.length):
  eR O 99 [.agg [aa s,.ap e l.length (l.map uc)]] (.str (aV z)):=by
 have hlen:=alX Tj;have⟨ps,fP,Th,Ct,e1⟩:=alW (P:=O.prog) (L:=O.aI) hN F6 B1 hn nv Tj hK (by lia)
 refine apH hO Jo mD jT (s:=⟨[(2,.str (aV z))],[(0,.cells ycN ycN false 1 (ps.map .str))],1,0⟩) (v:=.str (aV z)) ?_ rfl rfl;intro ax1 m S w a htr hh nt eS hgs GF;refine aeG hO 5 c 0 0 XK _ _ (by rw[ax1];exact e1) m S w a (fun l hl=>by cases hl) htr hh (yz _) nt hgs (yz _) ⟨[],by rw[GF];rfl,by simp,by simp⟩ ?_
 rintro a' w' ⟨_,m',S',k1,k2,k3,k4,k5,k6,k7⟩;have r3:=k1 3;have r6:=k1 6;have g3:ai [(3,AV.bool (decide (z<0))),(6,.aq 0 0 ps.length)] 3=.bool (decide (z<0)):=rfl;have g6:ai [(3,AV.bool (decide (z<0))),(6,.aq 0 0 ps.length)] 6=.aq 0 0 ps.length:=rfl;rw[g3] at r3;rw[g6] at r6;simp only[aj] at r3 r6;have⟨p,cc,hm,r6,Tk,_⟩:=r6;have⟨p',arr,t,hJ,_,_,_,_,_,Cb,_⟩:=k2.obj 0 _ p rfl hm;rw[hm] at hJ;cases hJ;have⟨ts,n7,FA⟩:=abv Cb;have jn:ts.length=ps.length:=by rw[<-n7,List.length_map]
 have zy:=arQ n7;rw[<-Ct] at zy;have XL:=arP n7;rw[<-Ct] at XL;refine ht _ a' w' (decide (z<0)) ts p.b p.o cc ?_ r3 (by rw[jn];exact r6) FA (by lia) (by lia) (by lia) ?_
 .grind
 .intro a2 w2 hc h1 h2 h3;have N6:=CF k2 hc (S':=S') (fun _ h=>h) (fun _ h=>.inl h) (fun b hb=>yR (k2.slt b hb) hc.size);refine⟨rfl,m',S',?_,N6,rfl,Nat.zero_le _,k5.trans (Bp k2 hc (fun _ h=>h) (fun _ h=>.inl h)),?_,?_⟩
  .intro i;by_cases hi:i=2
   .subst hi;rw[h3];show aj O.ah m' S' w2 (.str (aV z)) _
    simp only[aj];refine⟨_,rfl,?_⟩;by_cases h0:z<0
    .rw [oz h0,xo h0];simp only[xS,xu];rw[XL];rfl
    .obtain ⟨n,rfl⟩:∃n:Nat,z=n:=⟨z.toNat,by lia⟩;rw[yW h0];simp only[yL,xE,xG];rw[XL];rfl
   .have:ai [(2,AV.str (aV z))] i=.undef:=by
     have hb:yp 2 i=false:=by
      cases hq:yp 2 i with
      | false=>rfl
      | true=>exact absurd (Nat.eq_of_beq_eq_true hq).symm hi
     simp only[ai,hb,yX]
    show aj O.ah m' S' w2 (ai [(2,AV.str (aV z))] i) _
    rw[this];simp only[aj]
  .rw [h1,eS,SG];simp
  .rw [h2]
   exact CG k2 (Bp (base:=0) k2 hc (fun _ h=>h) (fun _ h=>.inl h)) k7
end
end
end VE
