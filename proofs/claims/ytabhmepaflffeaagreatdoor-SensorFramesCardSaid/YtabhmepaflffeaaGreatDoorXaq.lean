import Derived.Test.YtabhmepaflffeaaGreatDoorXap
set_option linter.all false
set_option maxRecDepth 100000
open BitVec renaming ofInt->xO,ofNat->tS,toNat_ofNat->ui
open Bool renaming and_self->vh,false_eq_true->yD,not_false->yM,not_true->yL
open Go renaming Code->vD,Func->ybc,World->yo
open Go.Fence renaming wide->ybI
open Int renaming ediv_emod_unique->yaz,gcd->vC,gcd_comm->ycU,natAbs_ediv_of_dvd->tx,natCast_mul->xD,pow_zero->ybh,reduceEq->yaN
open List renaming append_assoc->xt,drop_zero->ye,length_append->yO,length_cons->yH,length_nil->yR,map_append->xu,map_map->ycB,map_reverse->yaT,nil_append->yN
open Nat renaming add_zero->yY,beq->yu,ble->yG,ble_eq_true_of_le->yy,blt->yP,div_add_mod->xE,div_eq_of_lt->xP,div_le_self->wU,le_refl->yz,le_trans->y7,lt_of_le_of_lt->xL,lt_of_lt_of_le->yF,mod_eq_of_lt->yQ,mod_le->ydx,mod_lt->xq,mul_add->xH,mul_le_mul_left->yW,mul_one->yg,mul_zero->xF,pow_le_pow_left->tD,pow_le_pow_right->xc,pow_pos->ycm,pow_succ->xh,reduceAdd->yb,reduceEqDiff->ya,reduceLT->yv,reduceLeDiff->yh,reduceMul->xy,zero_add->yd
open Rat renaming den_divInt->ycw,divInt->wN,divInt_ofNat->ycf,lt_iff->ydy,num_divInt->ycv,sub_eq_add_neg->ybH
open UInt8 renaming toNat->xk
open Option renaming some->GR,none->GS
open Bool renaming true->ydB
namespace VE
open Go (IntKind)
variable {P:aE}{L:Lib}
variable{o1 o2 v w1 w2 x:AV}{tm:Env}{hp:Hp}{a s1 s2:Int}{ps:List (List Nat)}{K ct:Nat}
section
variable {v w:AV}{a b:Int}{K:Nat}
def Ky{P:aE}{L:Lib}(a b c:VC)(s:St):D P L (.seq a (.seq b c)) s=zS P L (D P L (.seq a b) s) c:=by
 rw[qS,qS]
 cases D P L a s with
 | none=>rfl
 | some q=>
  have⟨ex,st⟩:=q
  cases ex with
  | normal=>rw[ml,ml,qS]
  | ret=>rfl
  | exit id=>rfl
def ags{s s':Int}{w':AV}{l l':List Nat}(h:bT w l)(h':bT w' l')(hp:Hp):result hp (.av [.agg [aa s,w],.agg [aa s',w']])=GR (.av [.agg [aa s,w],.agg [aa s',w']]):=by
 rcases h with ⟨rfl,_⟩ | ⟨e,rfl⟩<;>rcases h' with ⟨rfl,_⟩ | ⟨e',rfl⟩<;>rfl
def Sw(tm:Env)(hp:Hp)(ct:Nat)(rs:List (Nat×Bool×Nat))(sz:Nat)(p:AV)(new:List AV):gZ:=match p with | .ptr id o=>bif nC tm id rs then iM hp ct id o sz new (ah hp id) else GS | _=>GS
def Sx(id:Nat):AV->Bool | .ptr j _=> !yu j id | .bC _=>ydB | _=>false
def W5{P:aE}{L:Lib}(f:cp)(tm:Env)(hp:Hp)(ct:Nat)(rs:List (Nat×Bool×Nat))(sz:Nat)(x v:X):bc P L f tm hp ct (.mD rs sz x v)=Sw tm hp ct rs sz (az tm x) (cellsOf (az tm v)):=by
 simp only[bc,Sw]
 cases hx:az tm x with
 | ptr id o=>
  rw[aek,hx,ahU]
 | _=>rfl
def W6{rs:List (Nat×Bool×Nat)}{sz id o:Nat}{new:List AV}(h:nC tm id rs=ydB):Sw tm hp ct rs sz (.ptr id o) new=iM hp ct id o sz new (ah hp id):=by
 simp only[Sw,h,yx]
def Wq(tm:Env)(id:Nat):nC tm id []=ydB:=(rfl)
def VW(tm:Env)(id sz x:Nat)(ag:Bool)(r:List (Nat×Bool×Nat)):nC tm id ((sz,ag,x)::r)=(Sx id (ak tm x)&&nC tm id r):=by
 simp only[nC,Sx]
 grind
def W7{id j o:Nat}(h:j≠id):Sx id (.ptr j o)=ydB:=by simp only[Sx,iB h,yM]
def ajz(h:Nu P L)(hv:cC v a)(hw:cC w b)(ka:Bd K a)(kb:Bd K b)(hK:K<=40000000000):∃r,ab P L 156 [v,w] r/\cC r (a-b):=by
 have⟨n,e1,hn⟩:=Is h hw kb (by lia);have⟨r,e2,hr⟩:=MZ h hv hn ka kb.neg hK;have bO:=hr;obtain⟨s1,w1,rfl,h1⟩:=hv;obtain⟨s2,w2,rfl,h2⟩:=hw;obtain⟨s3,w3,rfl,h3⟩:=hn;obtain⟨s4,w4,rfl,h4⟩:=hr;have⟨l1,u1⟩:=h1.aH;have⟨l2,u2⟩:=h2.aH;have⟨l3,u3⟩:=h3.aH;have⟨l4,u4⟩:=h4.aH;refine⟨_,?_,bO⟩;unfold ab;rw[aB h.aCH];simp only[go_sem,ya,yb,Ys,aT,u1.pu,u1.ai,u1.one,u2.pu,u2.ai,u2.one,u3.ai,bS,e1,e2,bz,dL,dO,cd,ye,oB u4,dP u4]
def ajA(h:Nu P L)(hv:cC v a)(hw:cC w b)(ka:Bd K a)(kb:Bd K b)(hK:K<=40000000000):ab P L 118 [v,w] (aa (b7 (a-b))):=by
 have⟨d,e1,hd⟩:=ajz h hv hw ka kb hK;have e2:=Ir h hd;obtain⟨s1,w1,rfl,h1⟩:=hv;obtain⟨s2,w2,rfl,h2⟩:=hw;obtain⟨s3,w3,rfl,h3⟩:=hd;have⟨l2,u2⟩:=h2.aH;have⟨l3,u3⟩:=h3.aH;unfold ab;rw[aB h.aCG];rcases h1 with ⟨rfl,rfl,a1,a2⟩ | ⟨e,l,rfl,ga,na,va,sa,a1⟩
 .rcases h2 with ⟨rfl,rfl,b1,b2⟩ | ⟨e,l,rfl,gb,nb,vb,sb,b1⟩
  .by_cases c1:s1<s2
   .rw [show b7 (s1-s2)= -1 by unfold b7;rw[yC (by lia)]];simp only[go_sem,ya,yb,FR,aT,jb,eQ,aP,yd,dt,c1]
   .by_cases c2:s2<s1
    .rw [show b7 (s1-s2)=1 by unfold b7;rw[yq (by lia),yq (by lia)]];simp only[go_sem,ya,yb,FR,aT,jb,eQ,aP,yd,dt,c1,c2]
    .rw [show b7 (s1-s2)=0 by unfold b7;rw[yq (by lia),yC (by lia)]];simp only[go_sem,ya,yb,FR,aT,jb,eQ,aP,yd,dt,c1,c2]
  .simp only [go_sem,ya,yb,FR,aT,jb,qP,eQ,aP,yd,dt,cd,bS,e1,e2,u3.ai,bz]
 .simp only [go_sem,ya,yb,FR,aT,u2.pu,u2.ai,u2.one,qP,eQ,aP,yd,dt,cd,bS,e1,e2,u3.ai,bz]
def ayd(h:Nu P L)(ha:dU s1 w1 a)(hb:dU s2 w2 b)(ka:Bd K a)(kb:Bd K b)(hK:K<=40000000000):
  ∃r,cC r (a*b)/\∀tm,ak tm 2=.ptr 0 0->ak tm 3=.ptr 1 0->ak tm 4=.ptr 2 0->fS [.cell 4 2 ydB] (D P L (aI (aI oG.body)) ⟨tm,[(2,.cells ydB ydB ydB 2 [.int .i64 0,.aj]),(1,.cells ydB ydB ydB 2 [aa s2,w2]),(0,.cells ydB ydB ydB 2 [aa s1,w1])],3,0⟩)=GR r:=by
 have⟨l1,u1⟩:=ha.aH;have⟨l2,u2⟩:=hb.aH;have⟨p,e1,hp⟩:=A9 h ha;have⟨q,e2,hq⟩:=A9 h hb;have⟨lp,jD,gp,np,vp⟩:=hp.aH;have⟨lq,rQ,gq,nq,vq⟩:=hq.aH;have Er:=yF ka (Dv K);have I0:=yF kb (Dv K);have llp:lp.length<=40000000000:=y7 (pV np vp Er) hK;have llq:lq.length<=40000000000:=y7 (pV nq vq I0) hK;have⟨o,cN,e3,ho,qt,no,vo⟩:=aCo h.aCw h.oL h.oM h.jd jD rQ gp gq (by lia) (by lia);have⟨r,e4,hr⟩:=F2 h (decide (a<0) !=decide (b<0)) ⟨cN,ho,qt,no,vo⟩ (K:=K+K) (by rw[vp,vq,Nat.pow_add];exact Nat.mul_lt_mul'' Er I0) (by lia)
 rw[vp,vq,aex] at hr;have bO:=hr;obtain⟨s',w',rfl,ef⟩:=hr;have⟨l',kV⟩:=ef.aH;refine⟨_,bO,fun tm t2 t3 t4=>?_⟩;have oQ:∀x y:Bool,Il ydB (GR (x==y))=GR (.bool (x !=y)):=fun x y=>by cases x<;>cases y<;>rfl
 simp only[go_sem,ya,oG,aI,t2,t3,t4,cd,bS,u1.ai,u2.ai,e1,e2,jD.ai,rQ.ai,sK,oQ,e3,ho.ai,ho.shut,e4,bz,dL,dO,cd,ye,oB kV,dP kV]
def ase{m:Nat}(h:a.natAbs*b.natAbs=m):a*b=if (decide (a<0)==decide (b<0))=ydB then (m:Int) else 0-(m:Int):=by
 have:=aex (a:=a) (b:=b)
 rw[h] at this;unfold cm at this
 cases hd:(decide (a<0)==decide (b<0)) with
 | true=>simp only[bne,hd,yL,yD,xv] at this;exact this.symm
 | false=>simp only[bne,hd,yM,xN] at this;rw[yq (by decide)];lia
def Ba(h:Nu P L)(hv:cC v a)(hw:cC w b)(ka:Bd K a)(kb:Bd K b)(hK:K<=40000000000):∃r,ab P L 100 [v,w] r/\cC r (a*b):=by
 obtain⟨s1,w1,rfl,h1⟩:=hv;obtain⟨s2,w2,rfl,h2⟩:=hw;have⟨l1,u1⟩:=h1.aH;have⟨l2,u2⟩:=h2.aH;have⟨r,hr,tail⟩:=ayd h h1 h2 ka kb hK;have fin:∀tm,ak tm 2=.ptr 0 0->ak tm 3=.ptr 1 0->ak tm 4=.ptr 2 0->
   D P L (.seq (bD oG.body) (bD (aI oG.body))) ⟨[(0,.agg [aa s1,w1]),(1,.agg [aa s2,w2])],[],0,0⟩=GR (.normal,⟨tm,[(2,.cells ydB ydB ydB 2 [.int .i64 0,.aj]),(1,.cells ydB ydB ydB 2 [aa s2,w2]),(0,.cells ydB ydB ydB 2 [aa s1,w1])],3,0⟩)->ab P L 100 [.agg [aa s1,w1],.agg [aa s2,w2]] r:=fun tm t2 t3 t4 e=>by
  unfold ab;rw[aB h.Cq];show fS [.cell 4 2 ydB] (D P L (.seq (bD oG.body) (.seq (bD (aI oG.body)) (aI (aI oG.body)))) ⟨[(0,.agg [aa s1,w1]),(1,.agg [aa s2,w2])],[],0,0⟩)=_
  rw[Ky,e,ml];exact tail tm t2 t3 t4
 rcases h1 with ⟨rfl,rfl,a1,a2⟩ | ⟨e,l,rfl,ga,na,va,sa,a1⟩
 .rcases h2 with ⟨rfl,rfl,b1,b2⟩ | ⟨e,l,rfl,gb,nb,vb,sb,b1⟩
  .have f1:=Y0 h a1 a2;have f2:=Y0 h b1 b2;have f3:=Qt (P:=P) (f:=D P L) h.oM (x:=s1.natAbs) (y:=s2.natAbs) (by lia) (by lia);obtain⟨m,hm⟩:∃m,s1.natAbs*s2.natAbs=m:=⟨_,rfl⟩;rw[hm] at f3;have rD:=ase hm;by_cases cA:m<=9223372036854775807
   .rw [xP (by lia),yQ (by lia)] at f3;rw[show (uc 0)=AV.int .u64 0 from rfl] at f3;by_cases hs:(decide (s1<0)==decide (s2<0))=ydB
    .rw [yC hs] at rD;refine⟨.agg [aa (m:Int),.aj],?_,by rw[rD];exact dU.r7 (by lia) (by lia)⟩
     unfold ab;rw[aB h.Cq]
     simp only[go_sem,ya,yb,oG,aT,AP,jb,eQ,LI,sK,aP,yd,dt,f1,f2,f3,show (m:Int)<=9223372036854775807 by lia,hs,Qs,wrap64 (n:=(m:Int)) (by lia) (by lia),AJ];rfl
    .rw [yq hs] at rD;refine⟨.agg [aa (0-(m:Int)),.aj],?_,by rw[rD];exact dU.r7 (by lia) (by lia)⟩
     unfold ab;rw[aB h.Cq]
     simp only[go_sem,ya,yb,oG,aT,AP,jb,eQ,LI,sK,aP,yd,dt,f1,f2,f3,show (m:Int)<=9223372036854775807 by lia,hs,Qs,wrap64 (n:=(m:Int)) (by lia) (by lia),wrap64 (n:=0-(m:Int)) (by lia) (by lia),AJ];rfl
   .by_cases eV:m/2^64=0
    .rw [eV,yQ (by lia)] at f3;rw[show (uc 0)=AV.int .u64 0 from rfl] at f3;refine⟨r,fin _ ?_ ?_ ?_ (by simp only[go_sem,ya,yb,bD,aI,oG,aT,jb,eQ,aP,yd,dt,f1,f2,f3,show ¬(m:Int)<=9223372036854775807 by lia]<;>rfl),hr⟩<;>simp only[go_sem,ya]
    .obtain ⟨q,hq⟩:∃q,q=m/2^64:=⟨_,rfl⟩;rw[<-hq] at f3 eV;refine⟨r,fin _ ?_ ?_ ?_ (by simp only[go_sem,ya,yb,bD,aI,oG,aT,jb,eQ,aP,yd,dt,f1,f2,f3,show ¬(q:Int)=0 by lia]<;>rfl),hr⟩<;>simp only[go_sem,ya]
  .refine ⟨r,fin _ ?_ ?_ ?_ (by simp only[go_sem,ya,yb,bD,aI,oG,aT,jb,qP,eQ,aP,yd,dt]<;>rfl),hr⟩<;>simp only[go_sem,ya]
 .refine ⟨r,fin _ ?_ ?_ ?_ (by simp only[go_sem,ya,yb,bD,aI,oG,aT,u2.pu,u2.one,qP,eQ,aP,yd,dt]<;>rfl),hr⟩<;>simp only[go_sem,ya]
end
def aqa{b:Int}{q r:Nat}(hb:0<b)(h:q=a.natAbs/b.natAbs)(h2:r=a.natAbs%b.natAbs):
  (cm (decide (a<0)) r<0->a/b=cm (decide (a<0)) q-1/\a%b=cm (decide (a<0)) r+b)/\(¬cm (decide (a<0)) r<0->a/b=cm (decide (a<0)) q/\a%b=cm (decide (a<0)) r):=by
 have eJ:=xE a.natAbs b.natAbs;have aG:r<b.natAbs:=by rw[h2];exact xq _ (by lia)
 unfold cm;by_cases h0:a<0
 .simp only [h0,yp,xN];constructor
  .intro h3;refine (yaz hb).2 ⟨?_,by lia,by lia⟩
   grind
  .intro h3;refine (yaz hb).2 ⟨?_,by lia,by lia⟩
   grind
 .grind
def aye(h:Nu P L){b:Int}(ha:dU s1 w1 a)(hb:dU s2 w2 b)(cU:0<b)(ka:Bd K a)(kb:Bd K b)(hK:K<=30000000000):
  ∃q r,cC q (a/b)/\cC r (a%b)/\∀tm,ak tm 2=.ptr 0 0->ak tm 3=.ptr 1 0->ak tm 4=.ptr 2 0->ak tm 5=.ptr 3 0->fS [.cell 4 2 ydB,.cell 5 2 ydB] (D P L (aI (aI oI.body)) ⟨tm,[(3,.cells ydB ydB ydB 2 [.int .i64 0,.aj]),(2,.cells ydB ydB ydB 2 [.int .i64 0,.aj]),(1,.cells ydB ydB ydB 2 [aa s2,w2]),(0,.cells ydB ydB ydB 2 [aa s1,w1])],4,0⟩)=GR (.av [q,r]):=by
 have⟨l1,u1⟩:=ha.aH;have⟨l2,u2⟩:=hb.aH;have⟨p,e1,hp⟩:=A9 h ha;have⟨q,e2,hq⟩:=A9 h hb;have aS:cC (.agg [aa s2,w2]) b:=⟨s2,w2,rfl,hb⟩;have⟨lp,jD,_⟩:=hp.aH;have⟨lq,rQ,_⟩:=hq.aH;have Er:=yF ka (Dv K);have I0:=yF kb (Dv K);have⟨dq,dr,e3,Gz,kS⟩:=ajv h.toWd hp hq (by lia) Er I0 (by lia);have⟨Oa,uq,_⟩:=Gz.aH;have⟨lr1,ur,_⟩:=kS.aH;have hqk:a.natAbs/b.natAbs<(2^64)^K:=xL (wU _ _) Er;have hrk:a.natAbs%b.natAbs<(2^64)^K:=xL (ydx _ _) Er;have hqb:a.natAbs/b.natAbs<2^K:=xL (wU _ _) ka;have hrb:a.natAbs%b.natAbs<2^K:=xL (ydx _ _) ka;have⟨f1,f2⟩:=aqa (a:=a) cU rfl rfl;generalize a.natAbs/b.natAbs=Q at*
 generalize a.natAbs%b.natAbs=R at*
 have⟨vq,e4,hvq⟩:=F2 h (decide (a<0)) Gz hqk (by lia);have⟨vr,e5,zm⟩:=F2 h (decide (a<0)) kS hrk (by lia);have hsq:Bd K (cm (decide (a<0)) Q):=by unfold Bd cm;split<;>lia
 have hsr:Bd K (cm (decide (a<0)) R):=by unfold Bd cm;split<;>lia
 generalize cm (decide (a<0)) R=Rs at*
 have e6:=Ir h zm;have ajB:=hvq;have ajC:=zm;obtain⟨s3,w3,rfl,h3⟩:=hvq;obtain⟨s4,w4,rfl,h4⟩:=zm;have⟨l3,u3⟩:=h3.aH;have⟨l4,u4⟩:=h4.aH;by_cases h0:Rs<0
 .have ⟨g1,g2⟩:=f1 h0;have jh:Bd (K+1) 1:=Bd.mono (k:=1) (by unfold Bd;decide) (by lia)
  have⟨o1,o2⟩:=Cr h (z:=1) (by decide) (by decide);have⟨vq2,e7,Y2⟩:=ajz h ajB o2 (K:=K+1) (hsq.mono (by lia)) jh (by lia);have⟨vr2,e8,Y3⟩:=MZ h ajC aS (K:=K+1) (hsr.mono (by lia)) (kb.mono (by lia)) (by lia);rw[<-g1] at Y2;rw[<-g2] at Y3;have iH:b7 Rs<0:=by unfold b7;rw[yC h0];decide
  have k1:=Y2;have k2:=Y3;obtain⟨s5,w5,rfl,h5⟩:=Y2;obtain⟨s6,w6,rfl,h6⟩:=Y3;have⟨l5,u5⟩:=h5.aH;have⟨l6,u6⟩:=h6.aH;refine⟨_,_,k1,k2,fun tm t2 t3 t4 t5=>?_⟩;simp only[go_sem,ya,yb,oI,aI,t2,t3,t4,t5,W5,W6,Wq,VW,W7,vh,aT,cd,bS,u1.ai,u2.ai,e1,e2,jD.ai,rQ.ai,e3,uq.ai,uq.bN,ur.ai,ur.bN,e4,e5,bz,dL,dO,cd,ye,dP u3,dP u4,u3.ai,u4.ai,e6,iH,o1,e7,e8,dL,dO,cd,ye,dP u5,dP u6,ags u5 u6]
 .have ⟨g1,g2⟩:=f2 h0;have iH:¬b7 Rs<0:=by unfold b7;rw[yq h0];split<;>decide
  refine⟨_,_,by rw[g1];exact ajB,by rw[g2];exact ajC,fun tm t2 t3 t4 t5=>?_⟩
  simp only[go_sem,ya,yb,oI,aI,t2,t3,t4,t5,W5,W6,Wq,VW,W7,vh,aT,cd,bS,u1.ai,u2.ai,e1,e2,jD.ai,rQ.ai,e3,uq.ai,uq.bN,ur.ai,ur.bN,e4,e5,bz,dL,dO,cd,ye,dP u3,dP u4,u4.ai,e6,iH,ags u3 u4]
def Y4(h:Nu P L){w:AV}{b:Int}(hv:cC v a)(hw:cC w b)(cU:0<b)(ka:Bd K a)(kb:Bd K b)(hK:K<=30000000000):∃q r,ab P L 164 [v,w] (.av [q,r])/\cC q (a/b)/\cC r (a%b):=by
 obtain⟨s1,w1,rfl,h1⟩:=hv;obtain⟨s2,w2,rfl,h2⟩:=hw;have⟨l1,u1⟩:=h1.aH;have⟨l2,u2⟩:=h2.aH;have⟨q,r,hq,hr,tail⟩:=aye h h1 h2 cU ka kb hK;have fin:∀tm,ak tm 2=.ptr 0 0->ak tm 3=.ptr 1 0->ak tm 4=.ptr 2 0->ak tm 5=.ptr 3 0->
   D P L (.seq (bD oI.body) (bD (aI oI.body))) ⟨[(0,.agg [aa s1,w1]),(1,.agg [aa s2,w2])],[],0,0⟩=GR (.normal,⟨tm,[(3,.cells ydB ydB ydB 2 [.int .i64 0,.aj]),(2,.cells ydB ydB ydB 2 [.int .i64 0,.aj]),(1,.cells ydB ydB ydB 2 [aa s2,w2]),(0,.cells ydB ydB ydB 2 [aa s1,w1])],4,0⟩)->ab P L 164 [.agg [aa s1,w1],.agg [aa s2,w2]] (.av [q,r]):=fun tm t2 t3 t4 t5 e=>by
  unfold ab;rw[aB h.YZ];show fS [.cell 4 2 ydB,.cell 5 2 ydB] (D P L (.seq (bD oI.body) (.seq (bD (aI oI.body)) (aI (aI oI.body)))) ⟨[(0,.agg [aa s1,w1]),(1,.agg [aa s2,w2])],[],0,0⟩)=_
  rw[Ky,e,ml];exact tail tm t2 t3 t4 t5
 rcases h1 with ⟨rfl,rfl,a1,a2⟩ | ⟨e,l,rfl,ga,na,va,sa,a1⟩
 .rcases h2 with ⟨rfl,rfl,b1,b2⟩ | ⟨e,l,rfl,gb,nb,vb,sb,b1⟩
  .by_cases hm:s1= -9223372036854775808
   .refine ⟨q,r,fin _ ?_ ?_ ?_ ?_ (by simp only[go_sem,ya,yb,bD,aI,oI,aT,jb,eQ,aP,yd,dt,hm]<;>rfl),hq,hr⟩<;>simp only[go_sem,ya]
   .have ⟨f1,f2⟩:=ap0 (a:=s1) cU;have bR:s1.tdiv s2=0\/(s1.tdiv s2).natAbs<=s1.natAbs:=.inr (Int.natAbs_tdiv_le_natAbs s1 s2);have fD:=Int.tmod_lt_of_pos s1 cU;have CF:=Int.lt_tmod_of_pos s1 cU;by_cases h0:s1.tmod s2<0
    .have ⟨g1,g2⟩:=f1 h0;rw[g1,g2];refine⟨.agg [aa (s1.tdiv s2-1),.aj],.agg [aa (s1.tmod s2+s2),.aj],?_,dU.r7 (by lia) (by lia),dU.r7 (by lia) (by lia)⟩;unfold ab;rw[aB h.YZ]
     simp only[go_sem,ya,yb,oI,aT,AP,jb,eQ,aP,yd,dt,hm,eP _ _ _ (show s2≠0 by lia),fM _ _ _ (show s2≠0 by lia),h0,wrap64 (n:=s1.tdiv s2) (by lia) (by lia),wrap64 (n:=s1.tdiv s2-1) (by lia) (by lia),wrap64 (n:=s1.tmod s2+s2) (by lia) (by lia),AJ];rfl
    .have ⟨g1,g2⟩:=f2 h0;rw[g1,g2];refine⟨.agg [aa (s1.tdiv s2),.aj],.agg [aa (s1.tmod s2),.aj],?_,dU.r7 (by lia) (by lia),dU.r7 (by lia) (by lia)⟩;unfold ab;rw[aB h.YZ]
     simp only[go_sem,ya,yb,oI,aT,AP,jb,eQ,aP,yd,dt,hm,eP _ _ _ (show s2≠0 by lia),fM _ _ _ (show s2≠0 by lia),h0,wrap64 (n:=s1.tdiv s2) (by lia) (by lia),AJ];rfl
  .refine ⟨q,r,fin _ ?_ ?_ ?_ ?_ (by simp only[go_sem,ya,yb,bD,aI,oI,aT,jb,qP,eQ,aP,yd,dt]<;>rfl),hq,hr⟩<;>simp only[go_sem,ya]
 .refine ⟨q,r,fin _ ?_ ?_ ?_ ?_ (by simp only[go_sem,ya,yb,bD,aI,oI,aT,u2.pu,u2.one,qP,eQ,aP,yd,dt]<;>rfl),hq,hr⟩<;>simp only[go_sem,ya]
section
variable {v w:AV}{a b:Int}{l m:List Nat}{K:Nat}
def ajD(h:Nu P L)(hv:cC v a)(hw:cC w b)(cU:0<b)(ka:Bd K a)(kb:Bd K b)(hK:K<=30000000000):∃r,ab P L 148 [v,w] r/\cC r (a/b):=by
 have e1:=Ir h hw;have⟨q,r,e2,hq,hr⟩:=Y4 h hv hw cU ka kb hK;have e3:b7 b=1:=by unfold b7;rw[yq (by lia),yq (by lia)]
 rw[e3] at e1;have bR:=hq;obtain⟨s1,w1,rfl,h1⟩:=hv;obtain⟨s2,w2,rfl,h2⟩:=hw;obtain⟨s3,w3,rfl,h3⟩:=hq;obtain⟨s4,w4,rfl,h4⟩:=hr;have⟨l1,u1⟩:=h1.aH;have⟨l2,u2⟩:=h2.aH;have⟨l3,u3⟩:=h3.aH;have⟨l4,u4⟩:=h4.aH;refine⟨_,?_,bR⟩;unfold ab;rw[aB h.aCI];simp only[go_sem,ya,yb,Yq,Int.reduceLT,yt,aT,u1.pu,u1.ai,u1.one,u2.pu,u2.ai,u2.one,yd,bS,e1,e2,AF,dL,dO,cd,ye,oB u3,dP u3,dP u4]
def ayf(h:Nu P L)(G:Nat)(hK:K<=30000000000):
  cG P L [2,3,4] K5 (fun k s=>∃(x y:Nat) (s1 s2:Int) (w1 w2:AV),s=⟨[(2,.ptr 0 0),(3,.ptr 1 0),(4,.ptr 2 0)],[(2,.cells ydB ydB ydB 2 [o1,o2]),(1,.cells ydB ydB ydB 2 [aa s2,w2]),(0,.cells ydB ydB ydB 2 [aa s1,w1])],3,0⟩/\dU s1 w1 x/\dU s2 w2 y/\Bd K x/\Bd K y/\Nat.gcd x y=G/\y=k) (fun ex s'=>∃tm s1 w1 c1,s'=⟨tm,[(2,.cells ydB ydB ydB 2 [o1,o2]),(1,c1),(0,.cells ydB ydB ydB 2 [aa s1,w1])],3,0⟩/\ex=.exit 0/\ak tm 2=.ptr 0 0/\ak tm 4=.ptr 2 0/\dU s1 w1 G):=by
 apply cI;rintro k s ⟨x,y,s1,s2,w1,w2,rfl,h1,h2,k1,k2,hG,rfl⟩;have⟨l1,u1⟩:=h1.aH;have⟨l2,u2⟩:=h2.aH;have i1:cC (.agg [aa s1,w1]) (x:Int):=⟨s1,w1,rfl,h1⟩;have i2:cC (.agg [aa s2,w2]) (y:Int):=⟨s2,w2,rfl,h2⟩;have e1:=Ir h i2;by_cases ia:y=0
 .right
  subst ia;rw[show b7 ((0:Nat):Int)=0 from rfl] at e1;simp only[go_sem,ya,K5,yp,yL,cd,bS,u2.ai,e1];obtain rfl:x=G:=by rw[<-hG,Nat.gcd_zero_right]
  exact⟨_,_,rfl,by simp,_,s1,w1,_,rfl,rfl,rfl,rfl,h1⟩
 .left
  have e3:b7 (y:Int)=1:=by unfold b7;rw[yq (by lia),yq (by lia)]
  rw[e3] at e1;have⟨q,r,e2,hq,hr⟩:=Y4 h i1 i2 (by lia) k1 k2 hK;obtain⟨s3,w3,rfl,h3⟩:=hq;obtain⟨s4,w4,rfl,h4⟩:=hr;have⟨l3,u3⟩:=h3.aH;have⟨l4,u4⟩:=h4.aH;have aG:=xq x (show 0<y by lia);have kr:Bd K ((x%y:Nat):Int):=k2.le (by lia);simp only[go_sem,ya,yb,K5,W5,W6,Wq,VW,W7,vh,yaN,yt,yM,aT,cd,bS,u1.ai,u2.ai,e1,e2,AF,cd,ye,dP u2,dP u3,dP u4];refine⟨_,x%y,rfl,aG,y,x%y,s2,s4,w2,w4,?_,h2,h4,k2,kr,by rw[<-hG];exact ar3 x y ia,rfl⟩
  simp only[go_sem,ya,yb,aq]
def ajE(h:Nu P L)(hv:cC v a)(hw:cC w b)(ka:Bd K a)(kb:Bd K b)(hK:K<=30000000000):∃r,ab P L 130 [v,w] r/\cC r (vC a b:Nat):=by
 have⟨va,e1,ha⟩:=Y1 h hv ka (by lia);have⟨vb,e2,hb⟩:=Y1 h hw kb (by lia);obtain⟨s1,w1,rfl,h1⟩:=hv;obtain⟨s2,w2,rfl,h2⟩:=hw;obtain⟨s3,w3,rfl,h3⟩:=ha;obtain⟨s4,w4,rfl,h4⟩:=hb;have⟨l1,u1⟩:=h1.aH;have⟨l2,u2⟩:=h2.aH;have⟨l3,u3⟩:=h3.aH;have⟨l4,u4⟩:=h4.aH;have kM:∃s w,ab P L 130 [.agg [aa s1,w1],.agg [aa s2,w2]] (.agg [aa s,w])/\dU s w (vC a b:Nat):=by
  unfold ab;rw[aB h.aCJ];simp only[go_sem,ya,yb,Yo,aT,u1.pu,u1.ai,u1.one,u2.pu,u2.ai,u2.one,cd,bS,e1,e2,bz,cd,ye,dP u3,dP u4,yd];generalize hq:D P L (.loop _ K5) _=q;obtain⟨ex,s,rfl,tm,s5,w5,c1,rfl,rfl,t2,t4,h5⟩:=bt hq (ayf (P:=P) (L:=L) h (vC a b) (K:=K) hK (o1:=.int .i64 0) (o2:=.aj) b.natAbs) ⟨a.natAbs,b.natAbs,s3,s4,w3,w4,by simp only[go_sem,ya,yb,aq],h3,h4,ka,kb,rfl,rfl⟩;have⟨l5,u5⟩:=h5.aH;refine⟨s5,w5,?_,h5⟩;simp only[go_sem,ya,yb,aq,t2,t4,dL,dO,cd,ye,oB u5,dP u5]
 have⟨s,w,e,hn⟩:=kM;exact⟨_,e,s,w,rfl,hn⟩
def b8(v:AV)(r:Rat):Prop:=∃s1 w1 s2 w2,v=.agg [aa s1,w1,aa s2,w2]/\dU s1 w1 r.num/\dU s2 w2 (r.den:Int)
def Hq(k:Nat)(r:Rat):Prop:=Bd k r.num/\Bd k (r.den:Int)
def Ux(hb:0<b):(wN a b).num=a/(vC a b:Nat)/\((wN a b).den:Int)=b/(vC a b:Nat):=by
 constructor
 .rw [ycv,Int.sign_eq_one_of_pos hb,Int.one_mul,ycU]
 .rw [ycw,yq (by lia),ycU]
  grind
def Hq.divInt{k:Nat}(hb:0<b)(ka:Bd k a)(kb:Bd k b):Hq k (wN a b):=by
 have⟨h1,h2⟩:=Ux (a:=a) hb;refine⟨ka.le ?_,kb.le ?_⟩
 .rw [h1,tx (Int.gcd_dvd_left a b)];exact wU _ _
 .rw [h2,tx (Int.gcd_dvd_right a b)];exact wU _ _
section
def Dl{a b y z:AV}{r:List (Nat×Nat×X)}(h1:dN a=ydB)(h2:dN b=ydB):lL tm [x,y,z,w] 0 2 [a,b] r=fill tm [a,b,z,w] r:=by
 rw[Wl (by rfl) (by simp) (by simp[cf,h1,h2])];rfl
def Dm{a b y z:AV}{r:List (Nat×Nat×X)}(h1:dN a=ydB)(h2:dN b=ydB):lL tm [x,y,z,w] 2 2 [a,b] r=fill tm [x,y,a,b] r:=by
 rw[Wl (by rfl) (by simp) (by simp[cf,h1,h2])];rfl
def lO{s t:Int}(hv:bT v l)(hw:bT w m)(hp:Hp)(ct id:Nat)(a b x y:AV):iM hp ct id 0 4 [.int .i64 s,v,.int .i64 t,w] (GR (.cells ydB ydB ydB 4 [a,b,x,y]))=GR (.av [],aJ hp id (.cells ydB ydB ydB 4 [.int .i64 s,v,.int .i64 t,w]),ct):=by
 rw[HQ (by rfl) (by simp) (by simp[cf,hv.one,hw.one,afB])];simp[aF,hv.pu,hw.pu,over,agi]
def lP{s t:Int}(hv:bT v l)(hw:bT w m)(hp:Hp):result hp (.agg [aa s,v,aa t,w])=GR (.agg [aa s,v,aa t,w]):=by
 rcases hv with ⟨rfl,_⟩ | ⟨e,rfl⟩<;>rcases hw with ⟨rfl,_⟩ | ⟨e',rfl⟩<;>rfl
variable {P:aE}{L:Lib}
structure Fr'(P:aE)(L:Lib):Prop extends Nu P L where
 aCK:Has P L 101 pT
 h69:Has P L 69 c69
 aCL:Has P L 111 Yn
 h98:Has P L 98 TG
 aCM:Has P L 108 Ym
 aCN:Has P L 102 Yl
 h74:Has P L 74 NK
 h50:Has P L 50 c50
 h49:Has P L 49 c49
 h73:Has P L 73 c73
 h70:Has P L 70 c70
 h71:Has P L 71 c71
 aCO:Has P L 149 Yr
def agt(h:Fr' P L)(h1:dU s1 w1 a)(h2:dU s2 w2 b)(cU:0<b)(ka:Bd K a)(kb:Bd K b)(hK:K<=30000000000):
  ∃r,b8 r (wN a b)/\∀tm,ak tm 2=.ptr 0 0->ak tm 3=.ptr 1 0->ak tm 4=.ptr 2 0->fS [.cell 4 4 ydB] (D P L (aI (aI pT.body)) ⟨tm,[(2,.cells ydB ydB ydB 4 [.int .i64 0,.aj,.int .i64 0,.aj]),(1,.cells ydB ydB ydB 2 [aa s2,w2]),(0,.cells ydB ydB ydB 2 [aa s1,w1])],3,0⟩)=GR r:=by
 have hv:cC (.agg [aa s1,w1]) a:=⟨s1,w1,rfl,h1⟩;have hw:cC (.agg [aa s2,w2]) b:=⟨s2,w2,rfl,h2⟩;have⟨p1,p2⟩:=Ux (a:=a) cU;have hgp:=P4 (a:=a) cU;have hgk:Bd K ((vC a b:Nat):Int):=kb.le (by
  have:=Int.gcd_le_natAbs_right a (show b≠0 by lia)
  lia)
 have⟨g,e2,hg⟩:=ajE h.toNu hv hw ka kb hK;have⟨q1,e4,gN⟩:=ajD h.toNu hv hg hgp ka hgk hK;have⟨q2,e5,nU⟩:=ajD h.toNu hw hg hgp kb hgk hK;rw[<-p1] at gN;rw[<-p2] at nU;obtain⟨s3,w3,rfl,h3⟩:=hg;obtain⟨s4,w4,rfl,h4⟩:=gN;obtain⟨s5,w5,rfl,h5⟩:=nU;have⟨l1,u1⟩:=h1.aH;have⟨l2,u2⟩:=h2.aH;have⟨l3,u3⟩:=h3.aH;have⟨l4,u4⟩:=h4.aH;have⟨l5,u5⟩:=h5.aH;by_cases gW:w2=.aj/\s2=1
 .obtain ⟨rfl,rfl⟩:=gW;have jh:b=1:=by
   rcases h2 with ⟨_,h,_⟩ | ⟨_,_,h,_⟩
   .exact h.symm
   .cases h
  subst jh;rw[Int.gcd_one] at p1 p2;have p1:(wN a 1).num=a:=by rw[p1];exact Int.ediv_one a
  refine⟨.agg [aa s1,w1,aa 1,.aj],⟨s1,w1,1,.aj,rfl,by rw[p1];exact h1,by rw[p2];exact h2⟩,fun tm t2 t3 t4=>?_⟩
  have un:=zJ;simp only[go_sem,ya,pT,aI,t2,t3,t4,u1.one,cd,aP,yd,dt,jb,eQ,Dl,Dm,lO u1 un,dL,dO,ye,eC,lP u1 un]
 .refine ⟨.agg [aa s4,w4,aa s5,w5],⟨s4,w4,s5,w5,rfl,h4,h5⟩,fun tm t2 t3 t4=>?_⟩;rcases u2 with ⟨rfl,_⟩ | ⟨e,rfl⟩
  .simp only [go_sem,ya,yb,pT,aI,t2,t3,t4,aT,u1.ai,cd,bS,aP,yd,dt,jb,eQ,show ¬s2=1 from fun e=>gW ⟨rfl,e⟩,e2,e4,e5,bz,dL,dO,cd,ye,dP u3,u3.ai,u4.one,u5.one,Dl,Dm,lO u4 u5,eC,lP u4 u5]
  .simp only [go_sem,ya,yb,pT,aI,t2,t3,t4,aT,u1.ai,cd,bS,aP,yd,dt,qP,eQ,e2,e4,e5,bz,dL,dO,cd,ye,dP u3,u3.ai,u4.one,u5.one,Dl,Dm,lO u4 u5,eC,lP u4 u5]
def Sy(h:Fr' P L)(hv:cC v a)(hw:cC w b)(cU:b≠0)(ka:Bd K a)(kb:Bd K b)(hK:K<=30000000000):∃r,ab P L 101 [v,w] r/\b8 r (wN a b):=by
 have e1:=Ir h.toNu hw;have fO:=hv;have GA:=hw;obtain⟨s1,w1,rfl,h1⟩:=hv;obtain⟨s2,w2,rfl,h2⟩:=hw;have⟨l1,u1⟩:=h1.aH;have⟨l2,u2⟩:=h2.aH;have fin:∀r t1 t2 v1 v2 tm,(∀tm,ak tm 2=.ptr 0 0->ak tm 3=.ptr 1 0->ak tm 4=.ptr 2 0->fS [.cell 4 4 ydB] (D P L (aI (aI pT.body)) ⟨tm,[(2,.cells ydB ydB ydB 4 [.int .i64 0,.aj,.int .i64 0,.aj]),(1,.cells ydB ydB ydB 2 [aa t2,v2]),(0,.cells ydB ydB ydB 2 [aa t1,v1])],3,0⟩)=GR r)->ak tm 2=.ptr 0 0->ak tm 3=.ptr 1 0->ak tm 4=.ptr 2 0->
   D P L (.seq (bD pT.body) (bD (aI pT.body))) ⟨[(0,.agg [aa s1,w1]),(1,.agg [aa s2,w2])],[],0,0⟩=GR (.normal,⟨tm,[(2,.cells ydB ydB ydB 4 [.int .i64 0,.aj,.int .i64 0,.aj]),(1,.cells ydB ydB ydB 2 [aa t2,v2]),(0,.cells ydB ydB ydB 2 [aa t1,v1])],3,0⟩)->ab P L 101 [.agg [aa s1,w1],.agg [aa s2,w2]] r:=fun r t1 t2 v1 v2 tm tail k2 k3 k4 e=>by
  unfold ab;rw[aB h.aCK];show fS [.cell 4 4 ydB] (D P L (.seq (bD pT.body) (.seq (bD (aI pT.body)) (aI (aI pT.body)))) ⟨[(0,.agg [aa s1,w1]),(1,.agg [aa s2,w2])],[],0,0⟩)=_
  rw[Ky,e,ml];exact tail tm k2 k3 k4
 by_cases hn:b<0
 .have ⟨n1,e2,oS⟩:=Is h.toNu fO ka (by lia);have⟨n2,e3,et⟩:=Is h.toNu GA kb (by lia);obtain⟨s3,w3,rfl,h3⟩:=oS;obtain⟨s4,w4,rfl,h4⟩:=et;have⟨l3,u3⟩:=h3.aH;have⟨l4,u4⟩:=h4.aH;have⟨r,hr,tail⟩:=agt h h3 h4 (by lia) ka.neg kb.neg hK;rw[Rat.neg_divInt_neg] at hr;have hs:b7 b<0:=by unfold b7;rw[yC hn];decide
  refine⟨r,fin r _ _ _ _ _ tail ?_ ?_ ?_ (by simp only[go_sem,ya,yb,pT,bD,aI,hs,aT,u1.pu,u1.ai,u1.one,u2.pu,u2.ai,u2.one,cd,bS,e1,e2,e3,bz,dP u3,dP u4]<;>rfl),hr⟩<;>simp only[go_sem,ya]
 .have ⟨r,hr,tail⟩:=agt h h1 h2 (by lia) ka kb hK;have hs:¬b7 b<0:=by unfold b7;rw[yq hn];split<;>decide
  refine⟨r,fin r _ _ _ _ _ tail ?_ ?_ ?_ (by simp only[go_sem,ya,yb,pT,bD,aI,hs,aT,u1.pu,u1.one,u2.pu,u2.ai,u2.one,cd,bS,e1]<;>rfl),hr⟩<;>simp only[go_sem,ya]
end
end
section
variable {v w:AV}{K k m:Nat}{a b:Rat}
def Hq.mono{r:Rat}(h:Hq k r)(hk:k<=m):Hq m r:=⟨h.1.mono hk,h.2.mono hk⟩
def Hq.neg{r:Rat}(h:Hq k r):Hq k (-r):=⟨h.1.neg,h.2⟩
def add_eq(a b:Rat):a+b=wN (a.num*b.den+b.num*a.den) ((a.den:Int)*b.den):=by
 rw[Rat.add_def',<-ycf,xD]
def mul_eq(a b:Rat):a*b=wN (a.num*b.num) ((a.den:Int)*b.den):=by
 rw[Rat.mul_def',<-ycf,xD]
def PI(a:Rat):0<(a.den:Int):=by have:=a.den_pos;lia
def GW(a b:Rat):0<(a.den:Int)*b.den:=Int.mul_pos (PI a) (PI b)
def Bd.Y5{a b:Int}(ha:Bd k a)(hb:Bd k b):Bd (k+1) (a+b):=by
 have:=ha.add hb
 grind
def Hq.add(ha:Hq k a)(hb:Hq m b):Hq (k+m+1) (a+b):=by
 rw[add_eq];refine Hq.divInt (GW a b) ?_ ((ha.2.mul hb.2).mono (by lia));exact (ha.1.mul hb.2).Y5 ((hb.1.mul ha.2).mono (by lia))
def Hq.mul(ha:Hq k a)(hb:Hq m b):Hq (k+m) (a*b):=by
 rw[mul_eq];exact Hq.divInt (GW a b) (ha.1.mul hb.1) (ha.2.mul hb.2)
def Hq.sub(ha:Hq k a)(hb:Hq m b):Hq (k+m+1) (a-b):=by
 rw[ybH];exact ha.add hb.neg
def Hq.inv(ha:Hq k a):Hq k a⁻¹:=by
 have h1:(a⁻¹).num.natAbs<=a.den:=by
  rw[Rat.num_inv,Int.natAbs_mul]
  grind
 refine⟨ha.2.le (by simpa using h1),?_⟩;unfold Bd;rw[Rat.den_inv]
 split
 .have h2:=ha.2;unfold Bd at h2
  simp_all
 .exact ha.1
def Hq.div(ha:Hq k a)(hb:Hq m b):Hq (k+m) (a/b):=by
 rw[Rat.div_def];exact ha.mul hb.inv
def sT(a b:Rat):Int:=if a<b then -1 else if a=b then 0 else 1
def auH(a b:Rat):b7 (a.num*b.den-b.num*a.den)=sT a b:=by
 unfold b7 sT;by_cases h:a<b
 .rw [yC h]
  have:=(ydy a b).1 h
  grind
 .rw [yq h];have h1:¬a.num*b.den<b.num*a.den:=fun e=>h ((ydy a b).2 e)
  rw[yq (by lia)];by_cases h2:a=b
  .grind
  .rw [yq h2,yq (by have:¬a.num*b.den=b.num*a.den:=fun e=>h2 (Rat.eq_iff_mul_eq_mul.2 e);lia)]
def P9(a:Rat)(h:a.den=1):a=(a.num:Rat):=by
 have:=Rat.num_divInt_den a
 rw[h] at this;rw[<-this];exact (Rat.ext (by simp[ycv]) (by simp[ycw]))
def AX(a b c d:AV)(r:List AV):gY 2 ydB (List.drop 2 (a::b::c::d::r))=GR (.agg [c,d]):=rfl
def qV(a b:AV)(r:List AV):gY 2 ydB (a::b::r)=GR (.agg [a,b]):=rfl
def Sz(h:Fr' P L){z:Int}(hv:cC v z):∃r,ab P L 111 [v] r/\b8 r (z:Rat):=by
 have⟨o1,o2⟩:=Cr h.toNu (z:=1) (by decide) (by decide);obtain⟨s1,w1,rfl,h1⟩:=hv;have⟨l1,u1⟩:=h1.aH;have un:=zJ;refine⟨.agg [aa s1,w1,aa 1,.aj],?_,s1,w1,1,.aj,rfl,h1,.inl ⟨rfl,rfl,(by show (-9223372036854775808:Int)<=1;decide),(by show (1:Int)<9223372036854775808;decide)⟩⟩
 unfold ab;rw[aB h.aCL];simp only[go_sem,ya,yb,Yn,aT,u1.pu,u1.one,cd,o1,bz,Dl,Dm,lO u1 un,dL,dO,ye,eC,lP u1 un]
def Ob(h:Fr' P L){z:Int}(h1: -9223372036854775808<=z)(h2:z<9223372036854775808):∃r,ab P L 69 [aa z] r/\b8 r (z:Rat):=by
 have⟨o1,o2⟩:=Cr h.toNu h1 h2;have⟨r,e,hr⟩:=Sz h o2;have bO:=hr;obtain⟨s1,w1,s2,w2,rfl,k1,k2⟩:=hr;have⟨l1,u1⟩:=k1.aH;have⟨l2,u2⟩:=k2.aH;refine⟨_,?_,bO⟩;unfold ab;rw[aB h.h69];simp only[go_sem,ya,yb,c69,aT,bS,o1,e,bz,lO u1 u2,dL,dO,ye,eC,lP u1 u2]
def m98(h:Fr' P L)(hv:b8 v a):ab P L 98 [v] (.bool (decide (a.den=1))):=by
 obtain⟨s1,w1,s2,w2,rfl,h1,h2⟩:=hv;have⟨l1,u1⟩:=h1.aH;unfold ab;rw[aB h.h98];rcases h2 with ⟨rfl,rfl,b1,b2⟩ | ⟨e,l,rfl,gb,nb,vb,sb,b1⟩
 .have e:decide (((a.den:Nat):Int)=1)=decide (a.den=1):=by simp;lia
  simp only[go_sem,ya,yb,TG,aT,u1.pu,u1.one,aP,yd,aAI,ahV,jb,eQ,e]
 .have e:decide (a.den=1)=false:=yJ (by lia);rw[e];simp only[go_sem,ya,yb,TG,aT,u1.pu,u1.one,aP,yd,ahV,qP,eQ]
def ajF(h:Fr' P L)(hv:b8 v a):ab P L 108 [v] (aa (b7 a.num)):=by
 obtain⟨s1,w1,s2,w2,rfl,h1,h2⟩:=hv;have⟨l1,u1⟩:=h1.aH;have⟨l2,u2⟩:=h2.aH;have e1:=Ir h.toNu ⟨s1,w1,rfl,h1⟩;unfold ab;rw[aB h.aCM];simp only[go_sem,ya,yb,Ym,aT,u1.pu,u1.ai,u1.one,u2.pu,u2.one,aP,yd,qV,bS,e1]
def aCP(h:Fr' P L)(hv:b8 v a)(ka:Hq K a)(hK:K<=30000000000):∃r,ab P L 102 [v] r/\b8 r (-a):=by
 obtain⟨s1,w1,s2,w2,rfl,h1,h2⟩:=hv;have⟨l1,u1⟩:=h1.aH;have⟨l2,u2⟩:=h2.aH;have⟨n,e1,hn⟩:=Is h.toNu ⟨s1,w1,rfl,h1⟩ ka.1 (by lia);obtain⟨s3,w3,rfl,h3⟩:=hn;have⟨l3,u3⟩:=h3.aH;refine⟨.agg [aa s3,w3,aa s2,w2],?_,s3,w3,s2,w2,rfl,h3,h2⟩;unfold ab;rw[aB h.aCN];simp only[go_sem,ya,yb,Yl,aT,u1.pu,u1.ai,u1.one,u2.pu,u2.one,u3.one,aP,yd,qV,AX,bS,e1,bz,Dl,Dm,lO u3 u2,dL,dO,ye,eC,lP u3 u2]
def m74(h:Fr' P L)(hv:b8 v a)(hw:b8 w b)(ka:Hq K a)(kb:Hq K b)(hK:K<=10000000000):∃r,ab P L 74 [v,w] r/\b8 r (a+b):=by
 have i1:=m98 h hv;have i2:=m98 h hw;obtain⟨s1,w1,s2,w2,rfl,h1,h2⟩:=hv;obtain⟨s3,w3,s4,w4,rfl,h3,h4⟩:=hw;have⟨l1,u1⟩:=h1.aH;have⟨l2,u2⟩:=h2.aH;have⟨l3,u3⟩:=h3.aH;have⟨l4,u4⟩:=h4.aH;have n1:cC (.agg [aa s1,w1]) a.num:=⟨s1,w1,rfl,h1⟩;have n2:cC (.agg [aa s2,w2]) a.den:=⟨s2,w2,rfl,h2⟩;have n3:cC (.agg [aa s3,w3]) b.num:=⟨s3,w3,rfl,h3⟩;have n4:cC (.agg [aa s4,w4]) b.den:=⟨s4,w4,rfl,h4⟩;by_cases Bw:a.den=1/\b.den=1
 .have ⟨d1,d2⟩:=Bw;have⟨p,e1,hp⟩:=MZ h.toNu n1 n3 ka.1 kb.1 (by lia);have⟨r,e2,hr⟩:=Sz h hp;have he:((a.num+b.num:Int):Rat)=a+b:=by
   rw[Rat.intCast_add,<-P9 a d1,<-P9 b d2]
  rw[he] at hr;have bO:=hr;obtain⟨s5,w5,rfl,h5⟩:=hp;obtain⟨s6,w6,s7,w7,rfl,h6,h7⟩:=hr;have⟨l5,u5⟩:=h5.aH;have⟨l6,u6⟩:=h6.aH;have⟨l7,u7⟩:=h7.aH;refine⟨_,?_,bO⟩;rw[d1] at i1;rw[d2] at i2;unfold ab;rw[aB h.h74];simp only[go_sem,ya,yb,NK,aT,u1.pu,u1.ai,u1.one,u2.pu,u2.ai,u2.one,u3.pu,u3.ai,u3.one,u4.pu,u4.ai,u4.one,aP,yd,eC,qV,bS,i1,i2,e1,u5.ai,e2,bz,lO u6 u7,dL,dO,ye,eC,lP u6 u7]
 .have ⟨p1,e1,aZ⟩:=Ba h.toNu n1 n4 ka.1 kb.2 (by lia);have⟨p2,e2,jB⟩:=Ba h.toNu n3 n2 kb.1 ka.2 (by lia);have⟨p3,e3,hp3⟩:=MZ h.toNu aZ jB (ka.1.mul kb.2) (kb.1.mul ka.2) (by lia);have⟨p4,e4,hp4⟩:=Ba h.toNu n2 n4 ka.2 kb.2 (by lia);have⟨r,e5,hr⟩:=Sy h hp3 hp4 (by have:=GW a b;lia) ((ka.1.mul kb.2).Y5 (kb.1.mul ka.2)) ((ka.2.mul kb.2).mono (by lia)) (by lia)
  rw[<-add_eq] at hr;have bO:=hr;obtain⟨s5,w5,rfl,h5⟩:=aZ;obtain⟨s6,w6,rfl,h6⟩:=jB;obtain⟨s7,w7,rfl,h7⟩:=hp3;obtain⟨s8,w8,rfl,h8⟩:=hp4;obtain⟨s9,w9,s10,w10,rfl,h9,jF⟩:=hr;have⟨l5,u5⟩:=h5.aH;have⟨l6,u6⟩:=h6.aH;have⟨l7,u7⟩:=h7.aH;have⟨l8,u8⟩:=h8.aH;have⟨l9,u9⟩:=h9.aH;have⟨l10,T8⟩:=jF.aH;refine⟨_,?_,bO⟩;unfold ab;rw[aB h.h74];by_cases d1:a.den=1
  .rw [d1] at i1;rw[yJ (fun d2=>Bw ⟨d1,d2⟩)] at i2;simp only[go_sem,ya,yb,NK,aT,u1.pu,u1.ai,u1.one,u2.pu,u2.ai,u2.one,u3.pu,u3.ai,u3.one,u4.pu,u4.ai,u4.one,aP,yd,eC,qV,AX,bS,i1,i2,e1,e2,u5.ai,u6.ai,e3,e4,u7.ai,u8.ai,e5,bz,lO u9 T8,dL,dO,ye,eC,lP u9 T8]
  .rw [yJ d1] at i1;simp only[go_sem,ya,yb,NK,aT,u1.pu,u1.ai,u1.one,u2.pu,u2.ai,u2.one,u3.pu,u3.ai,u3.one,u4.pu,u4.ai,u4.one,aP,yd,eC,qV,AX,bS,i1,e1,e2,u5.ai,u6.ai,e3,e4,u7.ai,u8.ai,e5,bz,lO u9 T8,dL,dO,ye,eC,lP u9 T8]
def m50(h:Fr' P L)(hv:b8 v a)(hw:b8 w b)(ka:Hq K a)(kb:Hq K b)(hK:K<=10000000000):∃r,ab P L 50 [v,w] r/\b8 r (a-b):=by
 have⟨n,e1,hn⟩:=aCP h hw kb (by lia);have⟨r,e2,hr⟩:=m74 h hv hn ka kb.neg hK;rw[<-ybH] at hr;have bO:=hr;obtain⟨s1,w1,s2,w2,rfl,h1,h2⟩:=hv;obtain⟨s3,w3,s4,w4,rfl,h3,h4⟩:=hw;obtain⟨s5,w5,s6,w6,rfl,h5,h6⟩:=hn;obtain⟨s7,w7,s8,w8,rfl,h7,h8⟩:=hr;have⟨l1,u1⟩:=h1.aH;have⟨l2,u2⟩:=h2.aH;have⟨l3,u3⟩:=h3.aH;have⟨l4,u4⟩:=h4.aH;have⟨l5,u5⟩:=h5.aH;have⟨l6,u6⟩:=h6.aH;have⟨l7,u7⟩:=h7.aH;have⟨l8,u8⟩:=h8.aH;refine⟨_,?_,bO⟩;unfold ab;rw[aB h.h50];simp only[go_sem,ya,yb,c50,aT,u1.pu,u1.ai,u1.one,u2.pu,u2.ai,u2.one,u3.pu,u3.ai,u3.one,u4.pu,u4.ai,u4.one,u5.ai,u6.ai,eC,bS,e1,e2,bz,lO u7 u8,dL,dO,ye,eC,lP u7 u8]
def m49(h:Fr' P L)(hv:b8 v a)(hw:b8 w b)(ka:Hq K a)(kb:Hq K b)(hK:K<=10000000000):∃r,ab P L 49 [v,w] r/\b8 r (a*b):=by
 obtain⟨s1,w1,s2,w2,rfl,h1,h2⟩:=hv;obtain⟨s3,w3,s4,w4,rfl,h3,h4⟩:=hw;have⟨l1,u1⟩:=h1.aH;have⟨l2,u2⟩:=h2.aH;have⟨l3,u3⟩:=h3.aH;have⟨l4,u4⟩:=h4.aH;have⟨p1,e1,aZ⟩:=Ba h.toNu (v:=.agg [aa s1,w1]) (w:=.agg [aa s3,w3]) ⟨s1,w1,rfl,h1⟩ ⟨s3,w3,rfl,h3⟩ ka.1 kb.1 (by lia);have⟨p2,e2,jB⟩:=Ba h.toNu (v:=.agg [aa s2,w2]) (w:=.agg [aa s4,w4]) ⟨s2,w2,rfl,h2⟩ ⟨s4,w4,rfl,h4⟩ ka.2 kb.2 (by lia);have⟨r,e3,hr⟩:=Sy h aZ jB (by have:=GW a b;lia) (ka.1.mul kb.1) (ka.2.mul kb.2) (by lia)
 rw[<-mul_eq] at hr;have bO:=hr;obtain⟨s5,w5,rfl,h5⟩:=aZ;obtain⟨s6,w6,rfl,h6⟩:=jB;obtain⟨s7,w7,s8,w8,rfl,h7,h8⟩:=hr;have⟨l5,u5⟩:=h5.aH;have⟨l6,u6⟩:=h6.aH;have⟨l7,u7⟩:=h7.aH;have⟨l8,u8⟩:=h8.aH;refine⟨_,?_,bO⟩;unfold ab;rw[aB h.h49];simp only[go_sem,ya,yb,c49,aT,u1.pu,u1.ai,u1.one,u2.pu,u2.ai,u2.one,u3.pu,u3.ai,u3.one,u4.pu,u4.ai,u4.one,u5.ai,u6.ai,aP,yd,qV,AX,bS,e1,e2,e3,bz,lO u7 u8,dL,dO,ye,eC,lP u7 u8]
def m73(h:Fr' P L)(hv:b8 v a)(h0:a≠0)(ka:Hq K a)(hK:K<=10000000000):∃r,ab P L 73 [v] r/\b8 r a⁻¹:=by
 obtain⟨s1,w1,s2,w2,rfl,h1,h2⟩:=hv;have⟨l1,u1⟩:=h1.aH;have⟨l2,u2⟩:=h2.aH;have⟨r,e1,hr⟩:=Sy h (v:=.agg [aa s2,w2]) (w:=.agg [aa s1,w1]) ⟨s2,w2,rfl,h2⟩ ⟨s1,w1,rfl,h1⟩ (fun e=>h0 (Rat.num_eq_zero.1 e)) ka.2 ka.1 (by lia);rw[<-Rat.inv_def] at hr;have bO:=hr;obtain⟨s7,w7,s8,w8,rfl,h7,h8⟩:=hr;have⟨l7,u7⟩:=h7.aH;have⟨l8,u8⟩:=h8.aH;refine⟨_,?_,bO⟩;unfold ab;rw[aB h.h73];simp only[go_sem,ya,yb,c73,aT,u1.pu,u1.ai,u1.one,u2.pu,u2.ai,u2.one,aP,yd,qV,AX,bS,e1,bz,lO u7 u8,dL,dO,ye,eC,lP u7 u8]
def m70(h:Fr' P L)(hv:b8 v a)(hw:b8 w b)(h0:b≠0)(ka:Hq K a)(kb:Hq K b)(hK:K<=10000000000):∃r,ab P L 70 [v,w] r/\b8 r (a/b):=by
 have⟨n,e1,hn⟩:=m73 h hw h0 kb hK;have⟨r,e2,hr⟩:=m49 h hv hn ka kb.inv hK;have bO:=hr;obtain⟨s1,w1,s2,w2,rfl,h1,h2⟩:=hv;obtain⟨s3,w3,s4,w4,rfl,h3,h4⟩:=hw;obtain⟨s5,w5,s6,w6,rfl,h5,h6⟩:=hn;obtain⟨s7,w7,s8,w8,rfl,h7,h8⟩:=hr;have⟨l1,u1⟩:=h1.aH;have⟨l2,u2⟩:=h2.aH;have⟨l3,u3⟩:=h3.aH;have⟨l4,u4⟩:=h4.aH;have⟨l5,u5⟩:=h5.aH;have⟨l6,u6⟩:=h6.aH;have⟨l7,u7⟩:=h7.aH;have⟨l8,u8⟩:=h8.aH;refine⟨_,?_,bO⟩;unfold ab;rw[aB h.h70];simp only[go_sem,ya,yb,c70,aT,u1.pu,u1.ai,u1.one,u2.pu,u2.ai,u2.one,u3.pu,u3.ai,u3.one,u4.pu,u4.ai,u4.one,u5.ai,u6.ai,eC,bS,e1,e2,bz,lO u7 u8,dL,dO,ye,eC,lP u7 u8]
def m71(h:Fr' P L)(hv:b8 v a)(hw:b8 w b)(ka:Hq K a)(kb:Hq K b)(hK:K<=10000000000):ab P L 71 [v,w] (aa (sT a b)):=by
 obtain⟨s1,w1,s2,w2,rfl,h1,h2⟩:=hv;obtain⟨s3,w3,s4,w4,rfl,h3,h4⟩:=hw;have⟨l1,u1⟩:=h1.aH;have⟨l2,u2⟩:=h2.aH;have⟨l3,u3⟩:=h3.aH;have⟨l4,u4⟩:=h4.aH;have⟨p1,e1,aZ⟩:=Ba h.toNu (v:=.agg [aa s1,w1]) (w:=.agg [aa s4,w4]) ⟨s1,w1,rfl,h1⟩ ⟨s4,w4,rfl,h4⟩ ka.1 kb.2 (by lia);have⟨p2,e2,jB⟩:=Ba h.toNu (v:=.agg [aa s3,w3]) (w:=.agg [aa s2,w2]) ⟨s3,w3,rfl,h3⟩ ⟨s2,w2,rfl,h2⟩ kb.1 ka.2 (by lia);have e3:=ajA h.toNu aZ jB (ka.1.mul kb.2) (kb.1.mul ka.2) (by lia);rw[auH] at e3;obtain⟨s5,w5,rfl,h5⟩:=aZ;obtain⟨s6,w6,rfl,h6⟩:=jB;have⟨l5,u5⟩:=h5.aH;have⟨l6,u6⟩:=h6.aH;unfold ab;rw[aB h.h71];simp only[go_sem,ya,yb,c71,aT,u1.pu,u1.ai,u1.one,u2.pu,u2.ai,u2.one,u3.pu,u3.ai,u3.one,u4.pu,u4.ai,u4.one,u5.ai,u6.ai,aP,yd,qV,AX,bS,e1,e2,e3,bz]
def aCQ(h:Fr' P L)(hv:b8 v a)(ka:Hq K a)(hK:K<=10000000000):∃r,ab P L 149 [v] r/\cC r a.floor:=by
 obtain⟨s1,w1,s2,w2,rfl,h1,h2⟩:=hv;have⟨l1,u1⟩:=h1.aH;have⟨l2,u2⟩:=h2.aH;have⟨q,r,e1,hq,hr⟩:=Y4 h.toNu (v:=.agg [aa s1,w1]) (w:=.agg [aa s2,w2]) ⟨s1,w1,rfl,h1⟩ ⟨s2,w2,rfl,h2⟩ (PI a) ka.1 ka.2 (by lia);rw[<-Rat.floor_def] at hq;have bR:=hq;obtain⟨s3,w3,rfl,h3⟩:=hq;obtain⟨s4,w4,rfl,h4⟩:=hr;have⟨l3,u3⟩:=h3.aH;have⟨l4,u4⟩:=h4.aH;refine⟨_,?_,bR⟩;unfold ab;rw[aB h.aCO];simp only[go_sem,ya,yb,Yr,aT,u1.pu,u1.ai,u1.one,u2.pu,u2.ai,u2.one,aP,yd,qV,AX,bS,e1,AF,dL,dO,ye,oB u3,dP u3,dP u4]
end
def AQ:List AV->Option (List Nat)
 | []=>GR []
 | .int .u64 (.ofNat d)::r=>bif yP d 18446744073709551616 then (match AQ r with | some l=>GR (d::l) | none=>GS) else GS
 | _::_=>GS
def Bb:List Nat->Nat
 | []=>0
 | a::r=>a+18446744073709551616*Bb r
def DG:List Nat->Bool
 | []=>false
 | [a]=> !yu a 0
 | _::r=>DG r
def Qa:List AV->Option AV
 | [.agg [.int .i64 s,.aj]]=>bif DD s then GR (.str (bh s)) else GS
 | [.agg [.int .i64 s,.au _ n cs]]=>
  match AQ cs with
  | some l=>
   bif yu l.length n&&(yG n 4000000000&&(DG l&&yG 9223372036854775808 (Bb l))) then
    match s with
    | .ofNat 1=>GR (.str (aC (Bb l)))
    | .negSucc 0=>GR (.str (45::aC (Bb l)))
    | _=>GS
   else GS
  | none=>GS
 | _=>GS
def acI:∀{l:List Nat},lo (2^64) l->AQ (l.map uc)=GR l
 | [],_=>rfl
 | a::l,h=>by
  have h1:=h a (by simp);have h2:=acI (l:=l) (fun x hx=>h x (by simp[hx]));show (bif yP a (2^64) then (match AQ (l.map uc) with | some l=>GR (a::l) | none=>GS) else GS)=_
  rw[mU h1,h2];rfl
def Wr:∀l:List Nat,Bb l=bv (2^64) l
 | []=>rfl
 | a::l=>by simp only[Bb,bv,Wr l]
def aey:∀{l:List Nat},l≠[]->jj l->DG l=ydB
 | [],h,_=>absurd rfl h
 | [a],_,h=>by
  have:a≠0:=fun e=>by
   subst e;have h:eM [0]=[0]:=h;simp[eM] at h
  simp[DG,iB this]
 | a::b::r,_,h=>by
  have h1:jj (b::r):=by
   have h:eM (a::b::r)=a::b::r:=h;rw[eM] at h
   grind
  have:=aey (l:=b::r) (by simp) h1
  simpa[DG] using this
structure Tx(P:aE)(L:Lib):Prop extends Fr' P L where
 I1:L.pure 99=GR Qa
 ajG:L.pure 175=GR K0
 ajH:L.pure 152=GR O4
 Y6:L.pure 153=GR OP
 Y7:L.pure 154=GR L3
 Y8:L.pure 109=GR Rw
 rk:Has P L 155 FT
 Y9:Has P L 172 Mr
 aCR:Has P L 151 RE
 aCS:Has P L 107 Ry
 h46:Has P L 46 TE
 ajI:Has P L 110 Rz
 T9:Has P L 62 TF
def m99(h:Tx P L){z:Int}(hv:cC v z)(hz:Bd K z)(hK:K<=4000000000):ab P L 99 [v] (.str (bh z)):=by
 obtain⟨s,w,rfl,hn⟩:=hv;unfold ab;rw[jY h.I1];rcases hn with ⟨rfl,rfl,h1,h2⟩ | ⟨e,l,rfl,g,n,hb,hs,h1⟩
 .show (bif DD s then GR (AV.str (bh s)) else GS)=_
  have:DD s=ydB:=by
   cases s with
   | ofNat k=>exact mU (by have:(Int.ofNat k)=(k:Int):=rfl;lia)
   | negSucc k=>exact mU (by lia)
  grind
 .have mE:l≠[]:=fun e=>by subst e;simp[bv] at hb;lia
  have zh:l.length<=4000000000:=y7 (pV n hb (yF hz (Dv K))) hK
  show (match AQ (l.map uc) with
   | some l'=>bif yu l'.length l.length&&(yG l.length 4000000000&&(DG l'&&yG 9223372036854775808 (Bb l'))) then (match s with | .ofNat 1=>GR (AV.str (aC (Bb l'))) | .negSucc 0=>GR (.str (45::aC (Bb l'))) | _=>GS) else GS
   | none=>GS)=_
  rw[acI g];simp only[Nat.beq_refl,yy zh,aey mE n,Wr,hb,yy h1,vh,yx];by_cases h0:z<0
  .rw [yC h0] at hs;subst hs;rw[rZ h0];rfl
  .rw [yq h0] at hs;subst hs;obtain⟨m,rfl⟩:∃m:Nat,z=m:=⟨z.toNat,by lia⟩;rfl
def RT(r:Rat):List Nat:=bh r.num++(if r.den=1 then [] else 47::aC r.den)
def Kp{z:Int}{k:Nat}(h:Bd k z):(bh z).length<=k+1:=by
 have h1:∀m:Nat,m<2^k->(aC m).length<=max k 1:=fun m hm=>by
  cases k with
  | zero=>
       have:m=0:=by simpa using hm
       subst this;decide
  | succ k=>
   rw[Nat.max_eq_left (by lia)];exact zI (k:=k) (yF hm (tD (by decide) _))
 by_cases h0:z<0
 .rw [rZ h0];unfold Bd at h
  grind
 .obtain ⟨m,rfl⟩:∃m:Nat,z=m:=⟨z.toNat,by lia⟩
  have:=h1 m (by unfold Bd at h;simpa using h)
  rw[pC];lia
def m46(h:Tx P L){a:Rat}(hv:b8 v a)(ka:Hq K a)(hK:K<=4000000000):ab P L 46 [v] (.str (RT a)):=by
 have i1:=m98 h.toFr' hv;obtain⟨s1,w1,s2,w2,rfl,h1,h2⟩:=hv;have⟨l1,u1⟩:=h1.aH;have⟨l2,u2⟩:=h2.aH;have e1:=m99 h (v:=.agg [aa s1,w1]) ⟨s1,w1,rfl,h1⟩ ka.1 hK;have e2:=m99 h (v:=.agg [aa s2,w2]) ⟨s2,w2,rfl,h2⟩ ka.2 hK;have b1:=Kp ka.1;have b2:=Kp ka.2;rw[pC] at e2 b2;unfold ab RT;rw[aB h.h46];by_cases hd:a.den=1
 .rw [yC hd,List.append_nil];rw[hd] at i1;simp only[go_sem,ya,yb,TE,aT,u1.pu,u1.ai,u1.one,u2.pu,u2.ai,u2.one,eC,bS,i1,aP,yd,qV,e1]
 .rw [yq hd];rw[yJ hd] at i1;have hc:bh a.num++47::aC a.den=(bh a.num++[47])++aC a.den:=by simp
  rw[hc]
  simp only[go_sem,ya,yb,TE,aT,u1.pu,u1.ai,u1.one,u2.pu,u2.ai,u2.one,eC,bS,i1,aP,yd,qV,AX,e1,e2,iV (a:=bh a.num) (b:=[47]) (by simp;lia),iV (a:=bh a.num++[47]) (b:=aC a.den) (by simp;lia)]
def aCT{n:Nat}(h:n<9223372036854775808):binOp .and (.int .i64 (n:Int)) (.int .i64 1)=GR (.int .i64 ((n%2:Nat):Int)):=by
 show GR (AV.int .i64 (IntKind.wrap .i64 ((xO 64 (n:Int)&&&xO 64 1).toNat:Int)))=_
 rw[show xO 64 (n:Int)=tS 64 n from BitVec.ofInt_natCast 64 n,show xO 64 1=tS 64 1 from rfl];rw[BitVec.toNat_and,ui,ui,show (1%2^64:Nat)=2^1-1 from rfl,Nat.and_two_pow_sub_one_eq_mod,wrapN (by lia)]
 grind
def aCU(n:Nat):binOp .shr (.int .i64 (n:Int)) (.int .u64 1)=GR (.int .i64 ((n/2:Nat):Int)):=by
 show GR (AV.int .i64 ((n:Int).fdiv (2^1)))=_
 grind
def Bd.pow{k:Nat}{z:Int}(h:Bd k z):∀e,Bd (k*e+1) (z^e)
 | 0=>by rw[ybh,xF];unfold Bd;decide
 | e+1=>by
  have ih:=Bd.pow h e;rw[Int.pow_succ];exact (ih.mul h).mono (by rw[xH,yg];lia)
def ayg(h:Nu P L)(Cq:True){z:Int}{k0:Nat}(hz:Bd K z)(hK:K*k0+1<=30000000000):
  cG P L [1,2,4,5] Fa (fun m st=>∃(k i e:Nat) (s1 s2:Int) (w1 w2:AV),st=⟨[(1,aa k),(2,.ptr 0 0),(4,.ptr 1 0),(5,.ptr 2 0)],[(2,.cells ydB ydB ydB 2 [aa s2,w2]),(1,.cells ydB ydB ydB 2 [o1,o2]),(0,.cells ydB ydB ydB 2 [aa s1,w1])],3,0⟩/\dU s1 w1 (z^i)/\dU s2 w2 (z^e)/\e+i*k=k0/\(0<k->i<=k0)/\k<9223372036854775808/\k=m) (fun ex st'=>∃tm s2 w2 c0,st'=⟨tm,[(2,.cells ydB ydB ydB 2 [aa s2,w2]),(1,.cells ydB ydB ydB 2 [o1,o2]),(0,c0)],3,0⟩/\ex=.exit 0/\ak tm 4=.ptr 1 0/\ak tm 5=.ptr 2 0/\dU s2 w2 (z^k0)):=by
 apply cI;rintro m st ⟨k,i,e,s1,s2,w1,w2,rfl,h1,h2,hk,hi,hkb,rfl⟩;have⟨l1,u1⟩:=h1.aH;have⟨l2,u2⟩:=h2.aH;by_cases Bo:k=0
 .right
  subst Bo;rw[xF,yY] at hk;subst hk;simp only[go_sem,Fa,show ¬(0:Int)<((0:Nat):Int) by lia];exact⟨_,_,rfl,by simp,_,s2,w2,_,rfl,rfl,rfl,rfl,h2⟩
 .left
  have b6:=hi (by lia);have he:e<=k0:=by lia
  have hik:i*1<=i*k:=yW i (by lia);have b1:Bd (K*k0+1) (z^i):=(hz.pow i).mono (by have:=yW K b6;lia)
  have b2:Bd (K*k0+1) (z^e):=(hz.pow e).mono (by have:=yW K he;lia)
  have n1:cC (.agg [aa s1,w1]) (z^i):=⟨s1,w1,rfl,h1⟩;have n2:cC (.agg [aa s2,w2]) (z^e):=⟨s2,w2,rfl,h2⟩;have⟨p,e1,hp⟩:=Ba h n2 n1 b2 b1 (by lia);have⟨q,e2,hq⟩:=Ba h n1 n1 b1 b1 (by lia);rw[<-Int.pow_add] at hp hq;obtain⟨s3,w3,rfl,h3⟩:=hp;obtain⟨s4,w4,rfl,h4⟩:=hq;have⟨l3,u3⟩:=h3.aH;have⟨l4,u4⟩:=h4.aH;have eJ:=xE k 2;have Oc:=aCT (n:=k) hkb;have Od:=aCU k;have ah4:(i+i)*(k/2)=i*(2*(k/2)):=by rw[<-Nat.two_mul,Nat.mul_comm 2 i,Nat.mul_assoc]
  by_cases aCV:k%2=1
  .rw [aCV] at Oc eJ;have qd:i*k=i*(2*(k/2))+i:=by
    conv=>lhs;rw[<-eJ,xH,yg]
   by_cases gC:1<k
   .simp only [go_sem,ya,Fa,show (0:Int)<(k:Int) by lia,Oc,show ((1:Nat):Int)=1 from rfl,cd,bS,u1.ai,u2.ai,e1,bz,cd,ye,dP u3,dP u4,show (1:Int)<(k:Int) by lia,e2,Od]
    exact⟨_,k/2,rfl,by lia,k/2,i+i,e+i,s4,s3,w4,w3,by simp only[go_sem,ya,yb,aq],h4,h3,by lia,fun h0=>by have:=yW (i+i) h0;lia,by lia,rfl⟩
   .have gW:e+i+i*(k/2)=k0:=by
     have h1:k/2=0:=by lia
     rw[h1] at qd ⊢
     lia
    simp only[go_sem,ya,Fa,show (0:Int)<(k:Int) by lia,Oc,show ((1:Nat):Int)=1 from rfl,cd,bS,u1.ai,u2.ai,e1,bz,cd,ye,dP u3,show ¬(1:Int)<(k:Int) by lia,Od];exact⟨_,k/2,rfl,by lia,k/2,i,e+i,s1,s3,w1,w3,by simp only[go_sem,ya,yb,aq],h1,h3,gW,fun h0=>by lia,by lia,rfl⟩
  .have Br:k%2=0:=by lia
   rw[Br] at Oc eJ;have qd:i*k=i*(2*(k/2)):=by
    conv=>lhs;rw[<-eJ,yY]
   simp only[go_sem,ya,Fa,show (0:Int)<(k:Int) by lia,Oc,show ((0:Nat):Int)=0 from rfl,yaN,cd,bS,u1.ai,bz,cd,ye,dP u4,show (1:Int)<(k:Int) by lia,e2,Od]
   exact⟨_,k/2,rfl,by lia,k/2,i+i,e,s4,s2,w4,w2,by simp only[go_sem,ya,yb,aq],h4,h2,by lia,fun h0=>by have:=yW (i+i) h0;lia,by lia,rfl⟩
def Za(h:Nu P L)(rk:Has P L 155 FT){z:Int}{k:Nat}(hv:cC v z)(hz:Bd K z)(hK:K*k+1<=30000000000)(hk:k<9223372036854775808):∃r,ab P L 155 [v,aa k] r/\cC r (z^k):=by
 have⟨o1,o2⟩:=Cr h (z:=1) (by decide) (by decide);obtain⟨s1,w1,rfl,h1⟩:=hv;have⟨l1,u1⟩:=h1.aH;have un:=zJ;have kM:∃s w,ab P L 155 [.agg [aa s1,w1],aa k] (.agg [aa s,w])/\dU s w (z^k):=by
  unfold ab;rw[aB rk];simp only[go_sem,ya,yb,FT,aT,u1.pu,u1.one,o1,bz,dP un];generalize hq:D P L (.loop _ Fa) _=q;obtain⟨ex,st,rfl,tm,s5,w5,c1,rfl,rfl,t4,t5,h5⟩:=bt hq (ayg (P:=P) (L:=L) h trivial hz (k0:=k) hK (o1:=.int .i64 0) (o2:=.aj) k) ⟨k,1,0,s1,1,w1,.aj,by simp only[go_sem,ya,yb,aq],by rw[Int.pow_one];exact h1,.inl ⟨rfl,(ybh z).symm,(by rw[ybh];decide)⟩,by lia,fun h0=>h0,hk,rfl⟩
  have⟨l5,u5⟩:=h5.aH;refine⟨s5,w5,?_,h5⟩;simp only[go_sem,ya,yb,aq,t4,t5,dL,dO,cd,ye,oB u5,dP u5]
 have⟨s,w,e,hn⟩:=kM;exact⟨_,e,s,w,rfl,hn⟩
def Kz:∀(l m:List Nat) (a:Nat),cZ (l++m) a=(cZ l a).bind (fun v=>cZ m v)
 | [],m,a=>rfl
 | b::l,m,a=>by
  simp only[List.cons_append,cZ]
  cases (yG 48 b&&yG b 57) with
  | true=>exact Kz l m _
  | false=>rfl
def asf:∀{l:List Nat} {a v:Nat},cZ l 0=GR v->cZ l a=GR (a*10^l.length+v):=by
 intro l
 suffices h:∀{l:List Nat} {a b v:Nat},cZ l b=GR v->b*10^l.length<=v/\cZ l (a+b)=GR (a*10^l.length+v) by
  intro a v hv
  have:=(h (a:=a) hv).2
  grind
 intro l
 induction l with
 | nil=>intro a b v h;simp[cZ] at h ⊢;lia
 | cons c l ih=>
  intro a b v h;simp only[cZ] at h ⊢
  cases hb:(yG 48 c&&yG c 57) with
  | false=>rw[hb] at h;cases h
  | true=>
   rw[hb] at h;have⟨h1,h2⟩:=ih (a:=10*a) h;simp only[yH,xh]
   grind
def Ws:∀{l:List Nat} {v:Nat},cZ l 0=GR v->v<10^l.length:=by
 suffices h:∀{l:List Nat} {b v:Nat},cZ l b=GR v->v<(b+1)*10^l.length by
  grind
 intro l
 induction l with
 | nil=>intro b v h;simp[cZ] at h ⊢;lia
 | cons c l ih=>
  intro b v h;simp only[cZ] at h
  cases hb:(yG 48 c&&yG c 57) with
  | false=>rw[hb] at h;cases h
  | true=>
   simp only[Bool.and_eq_true] at hb;have hc:=Nat.le_of_ble_eq_true hb.2;have h2:=Nat.mul_le_mul_right (10^l.length) (show 10*b+(c-48)+1<=10*(b+1) by lia)
   grind
def auI(Y7:L.pure 154=GR L3){f:cp}{s:List Nat}{v:Nat}(h0:0<s.length)(h1:s.length<=18)(hv:cZ s 0=GR v):bZ P L f 154 [.str s]=GR (.av [.int .i64 v,.undef]):=by
 rw[jY Y7];show (bif yP 0 s.length&&yG s.length 18 then (match cZ s 0 with | some n=>GR (AV.av [.int .i64 n,.undef]) | none=>GS) else GS)=_
 rw[mU h0,yy h1,hv];rfl
def adz:∀j:Nat,jv [48] j++[48]=[48]++jv [48] j
 | 0=>rfl
 | j+1=>by
  show ([48]++jv [48] j)++[48]=[48]++([48]++jv [48] j)
  rw[xt,adz j]
def G8:∀j:Nat,(jv [48] j).length=j
 | 0=>rfl
 | j+1=>by show ([48]++jv [48] j).length=_;rw[yO,G8 j];simp;lia
def aqb:∀(k n:Nat),n<10^k->0<k->kC k n=jv [48] (k-(aC n).length)++aC n:=by
 intro k
 induction k with
 | zero=>intro n _ h;lia
 | succ k ih=>
  intro n hn _;rw[kC];by_cases jF:n<10
  .rw [qC jF,yQ jF]
   cases k with
   | zero=>rfl
   | succ k=>
    rw[ih (n/10) (by rw[xP jF];exact ycm (by decide)) (by lia),xP jF]
    rw[show aC 0=[48] by decide];rw[adz];rfl
  .have hk:0<k:=by
    grind
   rw[ih (n/10) (by rw[xh] at hn;lia) hk,rY jF,xt,yO]
   grind
def aqc{m d r:Nat}(hd:d=m/1000000000000000000)(hr:r=m%1000000000000000000):(0<d->aC m=aC d++(jv [48] (18-(aC r).length)++aC r))/\(d=0->aC m=aC r):=by
 have hrb:r<10^18:=by lia
 constructor
 .intro h0;rw[<-aqb 18 r hrb (by decide),<-PF 18 d r h0 hrb]
  grind
 .grind
def ayh{f:cp}(h:L.pure 138=GR CY){n:Nat}(hn:n<18446744073709551616):bZ P L f 138 [uc n,aa 10]=GR (.str (aC n)):=by
 rw[jY h];show (bif yP n 18446744073709551616 then GR (AV.str (aC n)) else GS)=_
 rw[mU hn];rfl
def W8{f:cp}(h:L.pure 139=GR Di){n:Nat}(hn:n<=100):bZ P L f 139 [.str [48],aa (n:Nat)]=GR (.str (jv [48] n)):=by
 rw[jY h];show (bif yG n 1099511627776&&yG (1*n) 1099511627776 then GR (AV.str (jv [48] n)) else GS)=_
 rw[yy (by lia),yy (by lia)];rfl
def ayi(h:Wd P L)(F3:L.pure 138=GR CY)(Cs:L.pure 139=GR Di){neg:Bool}{M:Nat}(BA:0<M)(hK:K<=4000000000)(hlen:(aC M).length<=300000000000):
  cG P L [3,4,5,6] sJ (fun k s=>∃(m:Nat) (w:AV) (ps:List (List Nat)) (fl:Bool),m=k/\WN w m/\m<18446744073709551616^K/\aC M=(if m=0 then [] else aC m)++ps.reverse.flatten/\((ps=[]->m=M)/\18*ps.length<=(aC M).length+18)/\(m≠0->18*ps.length+(aC m).length=(aC M).length)/\
    ((ps=[]/\s=⟨[(3,.bool neg),(4,w),(5,.ay 0 0 1),(6,.aj)],[(0,.cells fl ydB ydB 1 [uc 1000000000000000000])],1,0⟩)\/
    (ps≠[]/\s=⟨[(3,.bool neg),(4,w),(5,.ay 0 0 1),(6,.ay 1 0 ps.length)],[(1,.cells ydB ydB false 1 (ps.map .str)),(0,.cells fl ydB ydB 1 [uc 1000000000000000000])],2,0⟩))) (fun ex s'=>∃tm ps fl,ex=.exit 0/\ps≠[]/\ps.length<=300000000000/\aC M=ps.reverse.flatten/\ak tm 3=.bool neg/\ak tm 6=.ay 1 0 ps.length/\s'=⟨tm,[(1,.cells ydB ydB false 1 (ps.map .str)),(0,.cells fl ydB ydB 1 [uc 1000000000000000000])],2,0⟩):=by
 apply cI;rintro k s ⟨m,w,ps,fl,rfl,hw,hmK,CR,ajJ,rA,hs⟩;have⟨lw,uw,gw,nw,vw⟩:=hw;by_cases hm:m=0
 .right
  have mE:lw=[]:=List.eq_nil_of_length_eq_zero (Nat.le_zero.1 (pV (K:=0) nw vw (by rw[hm];decide)))
  subst mE;rw[yC hm,yN] at CR;have bL:ps≠[]:=fun e=>by have:=ajJ.1 e;lia
  have Ua:ps.length<=300000000000:=by have:=ajJ.2;lia
  rcases hs with ⟨h0,_⟩ | ⟨_,rfl⟩
  .exact absurd h0 bL
  .simp only [go_sem,ya,sJ,uw.len,yR,show ¬(0:Int)<((0:Nat):Int) by lia];exact⟨_,_,rfl,by simp,_,ps,fl,rfl,bL,Ua,CR,rfl,rfl,rfl⟩
 .left
  have hw:WN w m:=⟨lw,uw,gw,nw,vw⟩;have hB:WN (.au ydB 1 [uc 1000000000000000000]) 1000000000000000000:=⟨[1000000000000000000],pJ ydB [1000000000000000000],HG.2 (by decide),by decide,by simp[bv]⟩;have⟨q,r,e1,hq,hr⟩:=ajv h hw hB (K:=K+1) (by decide) (yF hmK (xc (by decide) (by lia))) (by rw[xh];have:=ycm (n:=K) (show 0<18446744073709551616 by decide);lia) (by lia)
  have⟨t1,t2⟩:=aqc (m:=m) rfl rfl;have eJ:=xE m 1000000000000000000;have hrB:=xq m (show 0<1000000000000000000 by decide);obtain⟨d,hd⟩:∃d,d=m/1000000000000000000:=⟨_,rfl⟩;obtain⟨x,hx⟩:∃x,x=m%1000000000000000000:=⟨_,rfl⟩;rw[<-hd] at hq t1 t2 eJ;rw[<-hx] at hr t1 t2 eJ hrB;have⟨lq,uq,gq,nq,vq⟩:=hq;have⟨lr,ur,gr,nr,vr⟩:=hr;have ZO:(aC x).length<=18:=zI (k:=17) (by lia);have hxp:=BP x;have NW:(lr=[]/\x=0)\/lr=[x]:=by
   have h1:lr.length<=1:=pV (K:=1) nr vr (by rw[Nat.pow_one];lia)
   cases lr with
   | nil=>exact .inl ⟨rfl,by rw[<-vr];rfl⟩
   | cons a l=>
    cases l with
    | nil=>rw[Du] at vr;exact .inr (by rw[vr])
    | cons b l=>simp at h1
  have hlq:(lq=[]/\d=0)\/(0<lq.length/\0<d):=by
   cases lq with
   | nil=>exact .inl ⟨rfl,by rw[<-vq];rfl⟩
   | cons a l=>
    refine .inr ⟨by simp,?_⟩;rcases Nat.eq_zero_or_pos d with h0 | h0
    .have:=pV (K:=0) nq vq (by rw[h0];decide)
     simp at this
    .exact h0
  unfold ab at e1;have Es:(0:Int)<(lw.length:Int):=by
   have:lw≠[]:=fun e=>by subst e;simp[bv] at vw;lia
   have:=List.length_pos_iff.2 this
   lia
  have aI0:=rA hm;have hmp:=BP m;have new:∀t:List Nat,aC m=(if d=0 then [] else aC d)++t->(d≠0->t.length=18)->
    aC M=(if d=0 then [] else aC d)++(ps++[t]).reverse.flatten/\((ps++[t]=[]->d=M)/\18*(ps++[t]).length<=(aC M).length+18)/\(d≠0->18*(ps++[t]).length+(aC d).length=(aC M).length):=fun t h1 h2=>by
   rw[yq hm,h1] at CR;refine⟨by rw[CR];simp,⟨by simp,by simp only[yO,yH,yR];lia⟩,fun h0=>?_⟩
   have h3:=congrArg List.length h1;rw[yq h0,yO,h2 h0] at h3;simp only[yO,yH,yR]
   lia
  have DQ:d<m:=by lia
  have Et:WN q d:=⟨lq,uq,gq,nq,vq⟩;have gD:lr=[x]->jq 1 0 r=GR (.bC (.int .u64 x::([]:List AV))):=fun e=>by
   subst e
   have:=ur.bk (i:=0) (by simp)
   simpa using this
  have f1:=ayh (P:=P) (f:=D P L) F3 (n:=x) (by lia);have f2:=W8 (P:=P) (f:=D P L) Cs (n:=18-(aC x).length) (by lia);have Zb:(18:Int)-((aC x).length:Int)=((18-(aC x).length:Nat):Int):=by lia
  have aI1:18*ps.length<=300000000000:=by lia
  have zl:(jv [48] (18-(aC x).length)++aC x).length=18:=by rw[yO,G8];lia
  obtain⟨z,hz⟩:∃z,z=aC x:=⟨_,rfl⟩;have CS:x=0->z=[48]:=fun e=>by rw[hz,e];decide
  rw[<-hz] at f1 f2 Zb ZO hxp zl t1 t2;cases fl
  all_goals
   rcases hlq with ⟨rfl,fm⟩ | ⟨Ub,fm⟩
   .have ⟨n1,n2,n3⟩:=new z (by rw[yC fm,yN];exact t2 fm) (fun h=>absurd fm h)
    rcases NW with ⟨rfl,jk⟩ | rfl
    .have gE:=CS jk;clear hz;subst gE;rcases hs with ⟨jQ,rfl⟩ | ⟨jQ,rfl⟩
     .subst jQ;simp only[go_sem,ya,yb,xy,yv,yh,yg,sJ,uw.len,uw.ai,uq.len,uq.bN,ur.len,ur.bN,Es,e1,yR,yR,show ¬(0:Int)<((0:Nat):Int) by lia,jm];refine⟨_,d,rfl,DQ,d,q,[]++[[48]],false,rfl,Et,by lia,n1,n2,n3,.inr ⟨by simp,?_⟩⟩;simp only[go_sem,ya,yb,aq,aD uq.pu]<;>rfl
     .simp only [go_sem,ya,yb,yv,yh,yg,sJ,uw.len,uw.ai,uq.len,uq.bN,ur.len,ur.bN,Es,e1,yR,yR,show ¬(0:Int)<((0:Nat):Int) by lia]
      rw[gR (ex:=false) (pu:=ydB) (cs:=ps.map .str) rfl (by simp) (by lia) (by lia) (by decide) rfl];simp only[go_sem,ya,yb];refine⟨_,d,rfl,DQ,d,q,ps++[[48]],false,rfl,Et,by lia,n1,n2,n3,.inr ⟨by simp,?_⟩⟩;rw[xu,yO];simp only[go_sem,ya,yb,aq,aD uq.pu]<;>rfl
    .rcases hs with ⟨jQ,rfl⟩ | ⟨jQ,rfl⟩
     .subst jQ;simp only[go_sem,ya,yb,xy,yv,yh,yg,sJ,uw.len,uw.ai,uq.len,uq.bN,ur.len,ur.bN,Es,e1,yH,yR,yd,show (0:Int)<((1:Nat):Int) by lia,gD rfl,f1,yR,show ¬(0:Int)<((0:Nat):Int) by lia,jm];refine⟨_,d,rfl,DQ,d,q,[]++[z],false,rfl,Et,by lia,n1,n2,n3,.inr ⟨by simp,?_⟩⟩;simp only[go_sem,ya,yb,aq,aD uq.pu]<;>rfl
     .simp only [go_sem,ya,yb,yv,yh,yg,sJ,uw.len,uw.ai,uq.len,uq.bN,ur.len,ur.bN,Es,e1,yH,yR,yd,show (0:Int)<((1:Nat):Int) by lia,gD rfl,f1,yR,show ¬(0:Int)<((0:Nat):Int) by lia]
      rw[gR (ex:=false) (pu:=ydB) (cs:=ps.map .str) rfl (by simp) (by lia) (by lia) (by decide) rfl];simp only[go_sem,ya,yb];refine⟨_,d,rfl,DQ,d,q,ps++[z],false,rfl,Et,by lia,n1,n2,n3,.inr ⟨by simp,?_⟩⟩;rw[xu,yO];simp only[go_sem,ya,yb,aq,aD uq.pu]<;>rfl
   .have ⟨n1,n2,n3⟩:=new (jv [48] (18-z.length)++z) (by rw[yq (by lia)];exact t1 fm) (fun _=>zl)
    rcases NW with ⟨rfl,jk⟩ | rfl
    .have gE:=CS jk;clear hz;subst gE;rcases hs with ⟨jQ,rfl⟩ | ⟨jQ,rfl⟩
     .subst jQ
      simp only[go_sem,ya,yb,xy,yv,yh,yg,sJ,uw.len,uw.ai,uq.len,uq.bN,ur.len,ur.bN,Es,e1,yR,show ¬(0:Int)<((0:Nat):Int) by lia,show (0:Int)<(lq.length:Int) by lia,show (18:Int)-((1:Nat):Int)=((17:Nat):Int) from rfl,wrapN (n:=17) (by lia),W8 (P:=P) (f:=D P L) Cs (n:=17) (by lia),iV (a:=jv [48] 17) (b:=[48]) (by rw[G8];decide),jm]
      refine⟨_,d,rfl,DQ,d,q,[]++[jv [48] 17++[48]],false,rfl,Et,by lia,n1,n2,n3,.inr ⟨by simp,?_⟩⟩;simp only[go_sem,ya,yb,aq,aD uq.pu]<;>rfl
     .simp only [go_sem,ya,yb,yv,yh,yg,sJ,uw.len,uw.ai,uq.len,uq.bN,ur.len,ur.bN,Es,e1,yR,show ¬(0:Int)<((0:Nat):Int) by lia,show (0:Int)<(lq.length:Int) by lia,show (18:Int)-((1:Nat):Int)=((17:Nat):Int) from rfl,wrapN (n:=17) (by lia),W8 (P:=P) (f:=D P L) Cs (n:=17) (by lia),iV (a:=jv [48] 17) (b:=[48]) (by rw[G8];decide)]
      rw[gR (ex:=false) (pu:=ydB) (cs:=ps.map .str) rfl (by simp) (by lia) (by lia) (by decide) rfl];simp only[go_sem,ya,yb];refine⟨_,d,rfl,DQ,d,q,ps++[jv [48] 17++[48]],false,rfl,Et,by lia,n1,n2,n3,.inr ⟨by simp,?_⟩⟩;rw[xu,yO];simp only[go_sem,ya,yb,aq,aD uq.pu]<;>rfl
    .rcases hs with ⟨jQ,rfl⟩ | ⟨jQ,rfl⟩
     .subst jQ
      simp only[go_sem,ya,yb,xy,yv,yh,yg,sJ,uw.len,uw.ai,uq.len,uq.bN,ur.len,ur.bN,Es,e1,yH,yR,yd,show (0:Int)<((1:Nat):Int) by lia,gD rfl,f1,show (0:Int)<(lq.length:Int) by lia,Zb,wrapN (n:=18-z.length) (by lia),f2,iV (a:=jv [48] (18-z.length)) (b:=z) (by rw[G8];lia),jm]
      refine⟨_,d,rfl,DQ,d,q,[]++[jv [48] (18-z.length)++z],false,rfl,Et,by lia,n1,n2,n3,.inr ⟨by simp,?_⟩⟩;simp only[go_sem,ya,yb,aq,aD uq.pu]<;>rfl
     .simp only [go_sem,ya,yb,yv,yh,yg,sJ,uw.len,uw.ai,uq.len,uq.bN,ur.len,ur.bN,Es,e1,yH,yR,yd,show (0:Int)<((1:Nat):Int) by lia,gD rfl,f1,show (0:Int)<(lq.length:Int) by lia,Zb,wrapN (n:=18-z.length) (by lia),f2,iV (a:=jv [48] (18-z.length)) (b:=z) (by rw[G8];lia)]
      rw[gR (ex:=false) (pu:=ydB) (cs:=ps.map .str) rfl (by simp) (by lia) (by lia) (by decide) rfl];simp only[go_sem,ya,yb];refine⟨_,d,rfl,DQ,d,q,ps++[jv [48] (18-z.length)++z],false,rfl,Et,by lia,n1,n2,n3,.inr ⟨by simp,?_⟩⟩;rw[xu,yO];simp only[go_sem,ya,yb,aq,aD uq.pu]<;>rfl
def M0:Nat->VC->VC
 | 0,c=>bD c
 | n+1,c=>.seq (bD c) (M0 n (aI c))
def cJ:Nat->VC->VC
 | 0,c=>aI c
 | n+1,c=>cJ n (aI c)
def aoF(h:Nu P L)(F3:L.pure 138=GR CY)(Cs:L.pure 139=GR Di){s z:Int}{e:Bool}{l:List Nat}(hn:dU s (.au e l.length (l.map uc)) z)(gE:0<z.natAbs)(Uc:z.natAbs<18446744073709551616^K)(hK:K<=4000000000)(hlen:(aC z.natAbs).length<=300000000000):
  ∃ps:List (List Nat),ps≠[]/\ps.length<=300000000000/\aC z.natAbs=ps.reverse.flatten/\D P L (M0 5 Gs.body) ⟨[(0,.agg [aa s,.au e l.length (l.map uc)])],[],0,0⟩=GR (.normal,⟨[(3,.bool (decide (z<0))),(6,.ay 0 0 ps.length)],[(0,.cells ydB ydB false 1 (ps.map .str))],1,0⟩):=by
 have⟨r,e1,hr⟩:=A9 h hn;have bO:=hr;have⟨lr,ur,gr,nr,vr⟩:=hr;simp only[go_sem,ya,yb,yh,yg,Gs,M0,bD,aI,aT,aP,yd,dt,qP,eQ,cd,bS,e1];generalize oW:D P L (.loop _ sJ) _=qq;obtain⟨ex,st,rfl,tm,ps,fl,rfl,bL,Ua,CR,t3,t6,rfl⟩:=bt oW (ayi (P:=P) (L:=L) h.toWd F3 Cs (neg:=decide (z<0)) (M:=z.natAbs) (K:=K) gE hK hlen z.natAbs) ⟨z.natAbs,bN r,[],ydB,rfl,bO,Uc,by rw[yq (by lia)];simp,⟨fun _=>rfl,by simp⟩,fun _=>by simp,.inl ⟨rfl,by
  simp only[go_sem,ya,yb,aq,aD ur.pu]<;>rfl⟩⟩
 refine⟨ps,bL,Ua,CR,?_⟩;simp only[go_sem,yb,aq,t3,t6]
section
open Go
section
variable {ax:List AV}{s:St}
variable {O:bE}
def B9:Nat->vD->vD
 | 0,.seq _ b=>b
 | n+1,.seq _ b=>B9 n b
 | _,c=>c
def SA:Nat->vD->Prop
 | 0,.seq _ _=>True
 | n+1,.seq _ b=>SA n b
 | _,_=>False
def aez(hO:jo O){h:Nat}{c:vD}{l k:Nat}{ex:Ex}{s':St}(hv:D O.prog O.aK (comp O.P (O.hint h) c l k).1 s=GR (ex,s')):DB O h c s ex s':=by
 have⟨n,hn⟩:=YK hv
 cases n with
 | zero=>rw[KJ] at hn;cases hn
 | succ n=>
  exact afq hO n (fun k _=>abW hO k) h c l k n (yz _) s ex s' hn
def agu(hO:jo O){h:Nat}{ro:Option Nat}{lo:Nat}{Q:Exit->Act->yo->Prop}:∀(n:Nat) (c:vD) (l k:Nat),SA n c->∀(s s1:St),D O.prog O.aK (M0 n (comp O.P (O.hint h) c l k).1) s=GR (.normal,s1)->
  ∀(m:Mp) (S:Nat->Prop) (w:yo) (a:Act),BW ro w->cg O m S w s.tm a.tmps->aU O m S w s.hp s.ct->s.base<=s.ct->(O.hint h).n<=a.tmps.size->O.w0.heap.size<=lo->lo<=w.heap.size->Marks lo S w a.defers->
  (∀a' w',fC O m S w s .normal s1 a.tmps.size lo .normal a' w'->(B9 n c).wpIn (WF ro) 0 O.P Q a' w')->c.wpIn (WF ro) 0 O.P Q a w
 | n,c,l,k,hc,s,s1,hv=>by
  intro m S w a dj ht hh hb hn aY fU cy hQ
  cases c with
  | seq x y=>
   cases n with
   | zero=>
    refine wpIn_seq (wpIn_mono (aez hO (show D O.prog O.aK (comp O.P (O.hint h) x l k).1 s=GR (.normal,s1) from hv) ro lo m S w a dj ht hh hb hn aY fU cy) ?_);rintro e a' w' hp;have he:e=.normal:=hp.1;subst he;exact hQ a' w' hp
   | succ n=>
    have fO:D O.prog O.aK (.seq (comp O.P (O.hint h) x l k).1 (M0 n (comp O.P (O.hint h) y (comp O.P (O.hint h) x l k).2.1 (comp O.P (O.hint h) x l k).2.2).1)) s=GR (.normal,s1):=hv;rw[qS] at fO
    cases hx:D O.prog O.aK (comp O.P (O.hint h) x l k).1 s with
    | none=>rw[hx] at fO;cases fO
    | some q=>
     have⟨ex,st⟩:=q;rw[hx] at fO
     cases ex with
     | ret=>exact absurd fO (by intro h;cases h)
     | exit id=>exact absurd fO (by intro h;cases h)
     | normal=>
      refine wpIn_seq (wpIn_mono (aez hO hx ro lo m S w a dj ht hh hb hn aY fU cy) ?_);rintro e a' w' ⟨rfl,m',S',k1,k2,k3,k4,k5,k6,k7⟩;refine agu hO n y _ _ hc st s1 fO m' S' w' a' (Pg k5 dj) k1 k2 (by lia) (by lia) aY (y7 fU k5.size) k7 ?_;rintro a2 w2 ⟨_,m2,S2,g1,g2,g3,g4,g5,g6,g7⟩;exact hQ a2 w2 ⟨rfl,m2,S2,g1,g2,by lia,by lia,k5.trans (by rw[<-k3];exact g5),by lia,g7⟩
  | _=>cases n<;>exact hc.elim
def ayj(hO:jo O){n:Nat}{F:aw}(hF:O.prog n=GR F){fn:ybc}{c:vD}(nn:O.P.funcs[O.ae n]? =GR fn)(kT:fn.body=GR c)(hc:(comp O.P (O.hint n) c 0 0).1=F.body->∀m S w a,cg O m S w (fw 0 ax) a.tmps->aU O m S w hp ct->(O.hint n).n<=a.tmps.size->a.tmps.size=max fn.ntmps ax.length->O.w0.heap.size<=w.heap.size->a.defers=[]->
   c.wpIn (WF GS) 0 O.P (fC O m S w ⟨fw 0 ax,hp,ct,ct⟩ .ret s a.tmps.size w.heap.size) a w)(hr:jU s F.dC=GR v):DA O n hp ct ax v s.hp s.ct:=by
 intro m S w args hh fF;have⟨fn',q1,q2,q3⟩:=hO.prog n F hF;rw[nn] at q1;cases q1;have⟨c',q4,q5,q6,q7⟩:=UC q2;rw[kT] at q4;cases q4;refine .inl ⟨G6 nn (by rw[kT];rfl) q3,?_⟩
 have hlen:ax.length=args.size:=by have:=(jV _ _ fF).symm;simpa using this
 have hw:=hc q5.symm m S w {tmps:=args++Array.replicate (fn.ntmps-args.size) undef,defers:=[]} (adj _ fF) hh (by simp;lia) (by simp;lia) hh.ig rfl
 refine callsIn_of_wp_marks (F:=ybI) nn kT trivial (wpIn_mono hw ?_);rintro e a' w' ⟨rfl,m',S',k1,k2,k3,k4,k5,k6,rs,k7,k8,k9⟩;show LeavesInM ybI 0 O.P fn a'.tmps (BN O m S w hp ct v s.hp s.ct) a'.defers .returning w'
 rw[k7];exact Vi q6 hr k4 rs w' k8 k9 hh.ig k2 k1 k5
def asg(hO:jo O){n:Nat}{F:aw}(hF:O.prog n=GR F){fn:ybc}{c:vD}(nn:O.P.funcs[O.ae n]? =GR fn)(kT:fn.body=GR c)(hc:(comp O.P (O.hint n) c 0 0).1=F.body->∀m S w a,cg O m S w (fw 0 ax) a.tmps->aU O m S w [] 0->(O.hint n).n<=a.tmps.size->a.tmps.size=max fn.ntmps ax.length->O.w0.heap.size<=w.heap.size->a.defers=[]->
   c.wpIn (WF GS) 0 O.P (fC O m S w ⟨fw 0 ax,[],0,0⟩ .ret s a.tmps.size w.heap.size) a w){r:AV}(hv:jU s F.dC=GR v)(hr:result s.hp v=GR r):eR O n ax r:=
 Uw (ayj hO hF nn kT hc hv) hr
end
end
section
open Go
def acJ{ae:Nat->Nat}{m:Mp}{S:Nat->Prop}{w:yo}{b:Nat}:∀{ps:List (List Nat)} {o:Nat},b9 ae m S w (ps.map .str) b o->
  ∃ts:List ByteArray,(ts.map fun t=>t.data.toList.map xk)=ps/\∀i (h:i<ts.length),w.cell? ⟨b,o+i,GS⟩=GR (.string ts[i])
 | [],o,_=>⟨[],rfl,fun i h=>absurd h (Nat.not_lt_zero i)⟩
 | p::ps,o,h=>by
  have⟨⟨u,h1,h2⟩,h3⟩:=h;obtain⟨t,rfl,ht⟩:=h2;have⟨ts,k1,k2⟩:=acJ h3;refine⟨t::ts,by rw[List.map_cons,ht,k1],fun i hi=>?_⟩
  cases i with
  | zero=>exact h1
  | succ i=>
   grind
def rm(ts:List ByteArray):List UInt8:=(ts.map fun t=>t.data.toList).flatten
def auJ{ts:List ByteArray}(h:(ts.map fun t=>t.data.toList.map xk)=ps):(rm ts.reverse).map xk=ps.reverse.flatten:=by
 subst h;unfold rm;rw[List.map_flatten,ycB,<-yaT];rfl
def auK{ts:List ByteArray}(h:(ts.map fun t=>t.data.toList.map xk)=ps):(ts.map (·.size)).sum=ps.reverse.flatten.length:=by
 subst h;rw[List.length_flatten,yaT,List.sum_reverse,ycB]
 congr 1
 simp_all
def Wt(P:Program)(c:vD):Prop:=∀(Q:Exit->Act->yo->Prop) (a:Act) (w:yo) (neg:Bool) (ts:List ByteArray) (b o cc:Nat),a.tmps.size=69->a.tmps.getD 3 undef=.bool neg->a.tmps.getD 6 undef=.slice (GR ⟨b,o,GS⟩) ts.length cc->
  (∀i (h:i<ts.length),w.cell? ⟨b,o+i,GS⟩=GR (.string ts[i]))->(ts.map (·.size)).sum+1<=140737488355328->ts.length<=cc->ts.length<9223372036854775808->
  (∀a' w',Calm w w'->a'.tmps.size=69->a'.defers=a.defers->a'.tmps.getD 2 undef=.string ⟨((if neg then [45] else [])++rm ts.reverse).toArray⟩->Q .ret a' w')->
  (B9 5 c).wpIn Fence.wide 0 P Q a w
section
variable {O:bE}
def aoG{n:Nat}(h:n<18446744073709551616^K):(aC n).length<=20*K+1:=by
 refine zI (k:=20*K) (yF h ?_);have h1:(10:Nat)^(20*K)=(10^20)^K:=Nat.pow_mul ..;exact y7 (by rw[h1];exact tD (by decide) K) (xc (by decide) (Nat.le_succ _))
def ash(hO:jo O)(hN:Nu O.prog O.aK)(F3:O.aK.pure 138=GR CY)(Cs:O.aK.pure 139=GR Di)(I1:O.prog 99=GR Gs){fn:ybc}{c:vD}(nn:O.P.funcs[O.ae 99]? =GR fn)(kT:fn.body=GR c)(Tm:fn.ntmps=69)(Zc:SA 5 c)(ht:Wt O.P c){s z:Int}{e:Bool}{l:List Nat}(hn:dU s (.au e l.length (l.map uc)) z)(gE:0<z.natAbs)(hK:l.length<=4000000000)(Uc:z.natAbs<18446744073709551616^l.length):
  eR O 99 [.agg [aa s,.au e l.length (l.map uc)]] (.str (bh z)):=by
 have hlen:=aoG Uc;have⟨ps,bL,Ua,CR,e1⟩:=aoF (P:=O.prog) (L:=O.aK) hN F3 Cs hn gE Uc hK (by lia)
 refine asg hO I1 nn kT (s:=⟨[(2,.str (bh z))],[(0,.cells ydB ydB false 1 (ps.map .str))],1,0⟩) (v:=.str (bh z)) ?_ rfl rfl;intro aAR m S w a htr hh rJ eZ hgs GB;refine agu hO 5 c 0 0 Zc _ _ (by rw[aAR];exact e1) m S w a (fun l hl=>by cases hl) htr hh (yz _) rJ hgs (yz _) ⟨[],by rw[GB];rfl,by simp,by simp⟩ ?_
 rintro a' w' ⟨_,m',S',k1,k2,k3,k4,k5,k6,k7⟩;have r3:=k1 3;have r6:=k1 6;have g3:ak [(3,AV.bool (decide (z<0))),(6,.ay 0 0 ps.length)] 3=.bool (decide (z<0)):=rfl;have g6:ak [(3,AV.bool (decide (z<0))),(6,.ay 0 0 ps.length)] 6=.ay 0 0 ps.length:=rfl;rw[g3] at r3;rw[g6] at r6;simp only[af] at r3 r6;have⟨p,cc,hm,r6,hcc,_⟩:=r6;have⟨p',arr,t,kD,_,_,_,_,_,jE,_⟩:=k2.obj 0 _ p rfl hm;rw[hm] at kD;cases kD;have⟨ts,zf,FB⟩:=acJ jE;have rE:ts.length=ps.length:=by rw[<-zf,List.length_map]
 have DR:=auK zf;rw[<-CR] at DR;have Zd:=auJ zf;rw[<-CR] at Zd;refine ht _ a' w' (decide (z<0)) ts p.b p.o cc ?_ r3 (by rw[rE];exact r6) FB (by lia) (by lia) (by lia) ?_
 .grind
 .intro a2 w2 hc h1 h2 h3;have NI:=ES k2 hc (S':=S') (fun _ h=>h) (fun _ h=>.inl h) (fun b hb=>yF (k2.slt b hb) hc.size);refine⟨rfl,m',S',?_,NI,rfl,Nat.zero_le _,k5.trans (C9 k2 hc (fun _ h=>h) (fun _ h=>.inl h)),?_,?_⟩
  .intro i;by_cases hi:i=2
   .subst hi;rw[h3];show af O.ae m' S' w2 (.str (bh z)) _
    simp only[af];refine⟨_,rfl,?_⟩;by_cases h0:z<0
    .rw [rZ h0,yZ h0];simp only[xN,xu];rw[Zd];rfl
    .obtain ⟨n,rfl⟩:∃n:Nat,z=n:=⟨z.toNat,by lia⟩;rw[yJ h0];simp only[yD,xv,yN];rw[Zd];rfl
   .have:ak [(2,AV.str (bh z))] i=.undef:=by
     have hb:yu 2 i=false:=by
      cases hq:yu 2 i with
      | false=>rfl
      | true=>exact absurd (Nat.eq_of_beq_eq_true hq).symm hi
     simp only[ak,hb,yS]
    show af O.ae m' S' w2 (ak [(2,AV.str (bh z))] i) _
    rw[this];simp only[af]
  .rw [h1,eZ,Tm];simp
  .rw [h2]
   exact C7 k2 (C9 (base:=0) k2 hc (fun _ h=>h) (fun _ h=>.inl h)) k7
end
end
end VE
