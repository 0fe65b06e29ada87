import Derived.Test.YtabhmepaflffeaaGreatDoorWap
set_option linter.all false
set_option maxRecDepth 100000
open BitVec renaming ofInt->xT,ofNat->tO,toNat_ofNat->ui
open Bool renaming and_self->wg,false_eq_true->yH,not_false->yY,not_true->yO
open Go renaming Code->vB,Func->yaY,World->yo
open Go.Fence renaming wide->ybK
open Int renaming ediv_emod_unique->yat,gcd->vA,gcd_comm->ycS,natAbs_ediv_of_dvd->tv,natCast_mul->xx,pow_zero->ybg,reduceEq->yaG
open List renaming append_assoc->xM,drop_zero->yg,length_append->yW,length_cons->yB,length_nil->yM,map_append->xB,map_map->ycy,map_reverse->yaQ,nil_append->xt
open Nat renaming add_zero->y7,beq->yt,ble->yJ,ble_eq_true_of_le->yz,blt->yQ,div_add_mod->xL,div_eq_of_lt->xU,div_le_self->vD,le_refl->yx,le_trans->xi,lt_of_le_of_lt->xQ,lt_of_lt_of_le->yI,mod_eq_of_lt->yR,mod_le->ydv,mod_lt->xE,mul_add->xJ,mul_le_mul_left->y5,mul_one->yh,mul_zero->xI,pow_le_pow_left->um,pow_le_pow_right->y8,pow_pos->ycl,pow_succ->xp,reduceAdd->yb,reduceEqDiff->ya,reduceLT->yG,reduceLeDiff->yq,reduceMul->xv,zero_add->ye
open Rat renaming den_divInt->ycv,divInt->wW,divInt_ofNat->ycf,lt_iff->ydw,num_divInt->ycu,sub_eq_add_neg->ybJ
open UInt8 renaming toNat->xr
open Option renaming some->Gr,none->Gs
open Bool renaming true->ydy
namespace VE
open Go (IntKind)
variable {P:aF}{L:Lib}
variable{o1 o2 v w1 w2 x:AV}{tm:Env}{hp:Hp}{a s1 s2:Int}{ps:List (List Nat)}{K ct:Nat}
section
variable {v w:AV}{a b:Int}{K:Nat}
def Eu{P:aF}{L:Lib}(a b c:VC)(s:St):D P L (.seq a (.seq b c)) s=r7 P L (D P L (.seq a b) s) c:=by
 rw[nZ,nZ]
 cases D P L a s with
 | none=>rfl
 | some q=>
  have⟨ex,st⟩:=q
  cases ex with
  | normal=>rw[ju,ju,nZ]
  | ret=>rfl
  | exit id=>rfl
def afH{s s':Int}{w':AV}{l l':List Nat}(h:bR w l)(h':bR w' l')(hp:Hp):result hp (.av [.agg [aa s,w],.agg [aa s',w']])=Gr (.av [.agg [aa s,w],.agg [aa s',w']]):=by
 rcases h with ⟨rfl,_⟩ | ⟨e,rfl⟩<;>rcases h' with ⟨rfl,_⟩ | ⟨e',rfl⟩<;>rfl
def RU(tm:Env)(hp:Hp)(ct:Nat)(rs:List (Nat×Bool×Nat))(sz:Nat)(p:AV)(new:List AV):gQ:=match p with | .ptr id o=>bif mA tm id rs then jr hp ct id o sz new (ak hp id) else Gs | _=>Gs
def RW(id:Nat):AV->Bool | .ptr j _=> !yt j id | .bA _=>ydy | _=>false
def V8{P:aF}{L:Lib}(f:cu)(tm:Env)(hp:Hp)(ct:Nat)(rs:List (Nat×Bool×Nat))(sz:Nat)(x v:X):a7 P L f tm hp ct (.mf rs sz x v)=RU tm hp ct rs sz (aB tm x) (cellsOf (aB tm v)):=by
 simp only[a7,RU]
 cases hx:aB tm x with
 | ptr id o=>
  rw[adE,hx,ahb]
 | _=>rfl
def V9{rs:List (Nat×Bool×Nat)}{sz id o:Nat}{new:List AV}(h:mA tm id rs=ydy):RU tm hp ct rs sz (.ptr id o) new=jr hp ct id o sz new (ak hp id):=by
 simp only[RU,h,yy]
def EE(tm:Env)(id:Nat):mA tm id []=ydy:=(rfl)
def Ev(tm:Env)(id sz x:Nat)(ag:Bool)(r:List (Nat×Bool×Nat)):mA tm id ((sz,ag,x)::r)=(RW id (ai tm x)&&mA tm id r):=by
 simp only[mA,RW]
 grind
def zC{id j o:Nat}(h:j≠id):RW id (.ptr j o)=ydy:=by simp only[RW,gW h,yY]
def aiF(h:Nu P L)(hv:cz v a)(hw:cz w b)(ka:Bd K a)(kb:Bd K b)(hK:K<=40000000000):∃r,ab P L 156 [v,w] r/\cz r (a-b):=by
 have⟨n,e1,hn⟩:=HU h hw kb (by lia);have⟨r,e2,hr⟩:=MA h hv hn ka kb.neg hK;have bQ:=hr;obtain⟨s1,w1,rfl,h1⟩:=hv;obtain⟨s2,w2,rfl,h2⟩:=hw;obtain⟨s3,w3,rfl,h3⟩:=hn;obtain⟨s4,w4,rfl,h4⟩:=hr;have⟨l1,u1⟩:=h1.aI;have⟨l2,u2⟩:=h2.aI;have⟨l3,u3⟩:=h3.aI;have⟨l4,u4⟩:=h4.aI;refine⟨_,?_,bQ⟩;unfold ab;rw[aD h.aBS];simp only[go_sem,ya,yb,XA,aQ,u1.pu,u1.ah,u1.one,u2.pu,u2.ah,u2.one,u3.ah,bP,e1,e2,bh,dw,dB,bZ,yg,n7 u4,dC u4]
def aiG(h:Nu P L)(hv:cz v a)(hw:cz w b)(ka:Bd K a)(kb:Bd K b)(hK:K<=40000000000):ab P L 118 [v,w] (aa (bK (a-b))):=by
 have⟨d,e1,hd⟩:=aiF h hv hw ka kb hK;have e2:=HT h hd;obtain⟨s1,w1,rfl,h1⟩:=hv;obtain⟨s2,w2,rfl,h2⟩:=hw;obtain⟨s3,w3,rfl,h3⟩:=hd;have⟨l2,u2⟩:=h2.aI;have⟨l3,u3⟩:=h3.aI;unfold ab;rw[aD h.aBR];rcases h1 with ⟨rfl,rfl,a1,a2⟩ | ⟨e,l,rfl,ga,na,va,sa,a1⟩
 .rcases h2 with ⟨rfl,rfl,b1,b2⟩ | ⟨e,l,rfl,gb,nb,vb,sb,b1⟩
  .by_cases c1:s1<s2
   .rw [show bK (s1-s2)= -1 by unfold bK;rw[yE (by lia)]];simp only[go_sem,ya,yb,Fq,aQ,iM,eI,aX,ye,cP,c1]
   .by_cases c2:s2<s1
    .rw [show bK (s1-s2)=1 by unfold bK;rw[yp (by lia),yp (by lia)]];simp only[go_sem,ya,yb,Fq,aQ,iM,eI,aX,ye,cP,c1,c2]
    .rw [show bK (s1-s2)=0 by unfold bK;rw[yp (by lia),yE (by lia)]];simp only[go_sem,ya,yb,Fq,aQ,iM,eI,aX,ye,cP,c1,c2]
  .simp only [go_sem,ya,yb,Fq,aQ,iM,qd,eI,aX,ye,cP,bZ,bP,e1,e2,u3.ah,bh]
 .simp only [go_sem,ya,yb,Fq,aQ,u2.pu,u2.ah,u2.one,qd,eI,aX,ye,cP,bZ,bP,e1,e2,u3.ah,bh]
def axs(h:Nu P L)(ha:dK s1 w1 a)(hb:dK s2 w2 b)(ka:Bd K a)(kb:Bd K b)(hK:K<=40000000000):
  ∃r,cz r (a*b)/\∀tm,ai tm 2=.ptr 0 0->ai tm 3=.ptr 1 0->ai tm 4=.ptr 2 0->et [.cell 4 2 ydy] (D P L (aA (aA oc.body)) ⟨tm,[(2,.cells ydy ydy ydy 2 [.int .i64 0,.aj]),(1,.cells ydy ydy ydy 2 [aa s2,w2]),(0,.cells ydy ydy ydy 2 [aa s1,w1])],3,0⟩)=Gr r:=by
 have⟨l1,u1⟩:=ha.aI;have⟨l2,u2⟩:=hb.aI;have⟨p,e1,hp⟩:=AQ h ha;have⟨q,e2,hq⟩:=AQ h hb;have⟨lp,jl,gp,np,vp⟩:=hp.aI;have⟨lq,ri,gq,nq,vq⟩:=hq.aI;have D4:=yI ka (C4 K);have D5:=yI kb (C4 K);have llp:lp.length<=40000000000:=xi (po np vp D4) hK;have llq:lq.length<=40000000000:=xi (po nq vq D5) hK;have⟨o,dT,e3,ho,pL,no,vo⟩:=aBz h.aBH h.og h.oh h.iO jl ri gp gq (by lia) (by lia);have⟨r,e4,hr⟩:=FK h (decide (a<0) !=decide (b<0)) ⟨dT,ho,pL,no,vo⟩ (K:=K+K) (by rw[vp,vq,Nat.pow_add];exact Nat.mul_lt_mul'' D4 D5) (by lia)
 rw[vp,vq,adT] at hr;have bQ:=hr;obtain⟨s',w',rfl,dZ⟩:=hr;have⟨l',kG⟩:=dZ.aI;refine⟨_,bQ,fun tm t2 t3 t4=>?_⟩;have A4:∀x y:Bool,Mr ydy (Gr (x==y))=Gr (.bool (x !=y)):=fun x y=>by cases x<;>cases y<;>rfl
 simp only[go_sem,ya,oc,aA,t2,t3,t4,bZ,bP,u1.ah,u2.ah,e1,e2,jl.ah,ri.ah,r9,A4,e3,ho.ah,ho.shut,e4,bh,dw,dB,bZ,yg,n7 kG,dC kG]
def arn{m:Nat}(h:a.natAbs*b.natAbs=m):a*b=if (decide (a<0)==decide (b<0))=ydy then (m:Int) else 0-(m:Int):=by
 have:=adT (a:=a) (b:=b)
 rw[h] at this;unfold cm at this
 cases hd:(decide (a<0)==decide (b<0)) with
 | true=>simp only[bne,hd,yO,yH,xz] at this;exact this.symm
 | false=>simp only[bne,hd,yY,xS] at this;rw[yp (by decide)];lia
def AR(h:Nu P L)(hv:cz v a)(hw:cz w b)(ka:Bd K a)(kb:Bd K b)(hK:K<=40000000000):∃r,ab P L 100 [v,w] r/\cz r (a*b):=by
 obtain⟨s1,w1,rfl,h1⟩:=hv;obtain⟨s2,w2,rfl,h2⟩:=hw;have⟨l1,u1⟩:=h1.aI;have⟨l2,u2⟩:=h2.aI;have⟨r,hr,tail⟩:=axs h h1 h2 ka kb hK;have fin:∀tm,ai tm 2=.ptr 0 0->ai tm 3=.ptr 1 0->ai tm 4=.ptr 2 0->
   D P L (.seq (a8 oc.body) (a8 (aA oc.body))) ⟨[(0,.agg [aa s1,w1]),(1,.agg [aa s2,w2])],[],0,0⟩=Gr (.normal,⟨tm,[(2,.cells ydy ydy ydy 2 [.int .i64 0,.aj]),(1,.cells ydy ydy ydy 2 [aa s2,w2]),(0,.cells ydy ydy ydy 2 [aa s1,w1])],3,0⟩)->ab P L 100 [.agg [aa s1,w1],.agg [aa s2,w2]] r:=fun tm t2 t3 t4 e=>by
  unfold ab;rw[aD h.FJ];show et [.cell 4 2 ydy] (D P L (.seq (a8 oc.body) (.seq (a8 (aA oc.body)) (aA (aA oc.body)))) ⟨[(0,.agg [aa s1,w1]),(1,.agg [aa s2,w2])],[],0,0⟩)=_
  rw[Eu,e,ju];exact tail tm t2 t3 t4
 rcases h1 with ⟨rfl,rfl,a1,a2⟩ | ⟨e,l,rfl,ga,na,va,sa,a1⟩
 .rcases h2 with ⟨rfl,rfl,b1,b2⟩ | ⟨e,l,rfl,gb,nb,vb,sb,b1⟩
  .have f1:=X8 h a1 a2;have f2:=X8 h b1 b2;have f3:=PY (P:=P) (f:=D P L) h.oh (x:=s1.natAbs) (y:=s2.natAbs) (by lia) (by lia);obtain⟨m,hm⟩:∃m,s1.natAbs*s2.natAbs=m:=⟨_,rfl⟩;rw[hm] at f3;have qU:=arn hm;by_cases dl:m<=9223372036854775807
   .rw [xU (by lia),yR (by lia)] at f3;rw[show (uc 0)=AV.int .u64 0 from rfl] at f3;by_cases hs:(decide (s1<0)==decide (s2<0))=ydy
    .rw [yE hs] at qU;refine⟨.agg [aa (m:Int),.aj],?_,by rw[qU];exact dK.rI (by lia) (by lia)⟩
     unfold ab;rw[aD h.FJ]
     simp only[go_sem,ya,yb,oc,aQ,Ay,iM,eI,Lk,r9,aX,ye,cP,f1,f2,f3,show (m:Int)<=9223372036854775807 by lia,hs,PX,wrap64 (n:=(m:Int)) (by lia) (by lia),At];rfl
    .rw [yp hs] at qU;refine⟨.agg [aa (0-(m:Int)),.aj],?_,by rw[qU];exact dK.rI (by lia) (by lia)⟩
     unfold ab;rw[aD h.FJ]
     simp only[go_sem,ya,yb,oc,aQ,Ay,iM,eI,Lk,r9,aX,ye,cP,f1,f2,f3,show (m:Int)<=9223372036854775807 by lia,hs,PX,wrap64 (n:=(m:Int)) (by lia) (by lia),wrap64 (n:=0-(m:Int)) (by lia) (by lia),At];rfl
   .by_cases sY:m/2^64=0
    .rw [sY,yR (by lia)] at f3;rw[show (uc 0)=AV.int .u64 0 from rfl] at f3;refine⟨r,fin _ ?_ ?_ ?_ (by simp only[go_sem,ya,yb,a8,aA,oc,aQ,iM,eI,aX,ye,cP,f1,f2,f3,show ¬(m:Int)<=9223372036854775807 by lia]<;>rfl),hr⟩<;>simp only[go_sem,ya]
    .obtain ⟨q,hq⟩:∃q,q=m/2^64:=⟨_,rfl⟩;rw[<-hq] at f3 sY;refine⟨r,fin _ ?_ ?_ ?_ (by simp only[go_sem,ya,yb,a8,aA,oc,aQ,iM,eI,aX,ye,cP,f1,f2,f3,show ¬(q:Int)=0 by lia]<;>rfl),hr⟩<;>simp only[go_sem,ya]
  .refine ⟨r,fin _ ?_ ?_ ?_ (by simp only[go_sem,ya,yb,a8,aA,oc,aQ,iM,qd,eI,aX,ye,cP]<;>rfl),hr⟩<;>simp only[go_sem,ya]
 .refine ⟨r,fin _ ?_ ?_ ?_ (by simp only[go_sem,ya,yb,a8,aA,oc,aQ,u2.pu,u2.one,qd,eI,aX,ye,cP]<;>rfl),hr⟩<;>simp only[go_sem,ya]
end
def api{b:Int}{q r:Nat}(hb:0<b)(h:q=a.natAbs/b.natAbs)(h2:r=a.natAbs%b.natAbs):
  (cm (decide (a<0)) r<0->a/b=cm (decide (a<0)) q-1/\a%b=cm (decide (a<0)) r+b)/\(¬cm (decide (a<0)) r<0->a/b=cm (decide (a<0)) q/\a%b=cm (decide (a<0)) r):=by
 have eZ:=xL a.natAbs b.natAbs;have aG:r<b.natAbs:=by rw[h2];exact xE _ (by lia)
 unfold cm;by_cases h0:a<0
 .simp only [h0,yv,xS];constructor
  .intro h3;refine (yat hb).2 ⟨?_,by lia,by lia⟩
   grind
  .intro h3;refine (yat hb).2 ⟨?_,by lia,by lia⟩
   grind
 .grind
def axt(h:Nu P L){b:Int}(ha:dK s1 w1 a)(hb:dK s2 w2 b)(dU:0<b)(ka:Bd K a)(kb:Bd K b)(hK:K<=30000000000):
  ∃q r,cz q (a/b)/\cz r (a%b)/\∀tm,ai tm 2=.ptr 0 0->ai tm 3=.ptr 1 0->ai tm 4=.ptr 2 0->ai tm 5=.ptr 3 0->et [.cell 4 2 ydy,.cell 5 2 ydy] (D P L (aA (aA od.body)) ⟨tm,[(3,.cells ydy ydy ydy 2 [.int .i64 0,.aj]),(2,.cells ydy ydy ydy 2 [.int .i64 0,.aj]),(1,.cells ydy ydy ydy 2 [aa s2,w2]),(0,.cells ydy ydy ydy 2 [aa s1,w1])],4,0⟩)=Gr (.av [q,r]):=by
 have⟨l1,u1⟩:=ha.aI;have⟨l2,u2⟩:=hb.aI;have⟨p,e1,hp⟩:=AQ h ha;have⟨q,e2,hq⟩:=AQ h hb;have bE:cz (.agg [aa s2,w2]) b:=⟨s2,w2,rfl,hb⟩;have⟨lp,jl,_⟩:=hp.aI;have⟨lq,ri,_⟩:=hq.aI;have D4:=yI ka (C4 K);have D5:=yI kb (C4 K);have⟨dq,dr,e3,Gd,kC⟩:=aiB h.toWd hp hq (by lia) D4 D5 (by lia);have⟨NE,uq,_⟩:=Gd.aI;have⟨lr1,ur,_⟩:=kC.aI;have hqk:a.natAbs/b.natAbs<(2^64)^K:=xQ (vD _ _) D4;have hrk:a.natAbs%b.natAbs<(2^64)^K:=xQ (ydv _ _) D4;have hqb:a.natAbs/b.natAbs<2^K:=xQ (vD _ _) ka;have NG:a.natAbs%b.natAbs<2^K:=xQ (ydv _ _) ka;have⟨f1,f2⟩:=api (a:=a) dU rfl rfl;generalize a.natAbs/b.natAbs=Q at*
 generalize a.natAbs%b.natAbs=R at*
 have⟨vq,e4,hvq⟩:=FK h (decide (a<0)) Gd hqk (by lia);have⟨vr,e5,Nq⟩:=FK h (decide (a<0)) kC hrk (by lia);have hsq:Bd K (cm (decide (a<0)) Q):=by unfold Bd cm;split<;>lia
 have hsr:Bd K (cm (decide (a<0)) R):=by unfold Bd cm;split<;>lia
 generalize cm (decide (a<0)) R=Rs at*
 have e6:=HT h Nq;have aiH:=hvq;have aiI:=Nq;obtain⟨s3,w3,rfl,h3⟩:=hvq;obtain⟨s4,w4,rfl,h4⟩:=Nq;have⟨l3,u3⟩:=h3.aI;have⟨l4,u4⟩:=h4.aI;by_cases h0:Rs<0
 .have ⟨g1,g2⟩:=f1 h0;have kj:Bd (K+1) 1:=Bd.mono (k:=1) (by unfold Bd;decide) (by lia)
  have⟨o1,o2⟩:=BY h (z:=1) (by decide) (by decide);have⟨vq2,e7,Ya⟩:=aiF h aiH o2 (K:=K+1) (hsq.mono (by lia)) kj (by lia);have⟨vr2,e8,Yb⟩:=MA h aiI bE (K:=K+1) (hsr.mono (by lia)) (kb.mono (by lia)) (by lia);rw[<-g1] at Ya;rw[<-g2] at Yb;have gI:bK Rs<0:=by unfold bK;rw[yE h0];decide
  have k1:=Ya;have k2:=Yb;obtain⟨s5,w5,rfl,h5⟩:=Ya;obtain⟨s6,w6,rfl,h6⟩:=Yb;have⟨l5,u5⟩:=h5.aI;have⟨l6,u6⟩:=h6.aI;refine⟨_,_,k1,k2,fun tm t2 t3 t4 t5=>?_⟩;simp only[go_sem,ya,yb,od,aA,t2,t3,t4,t5,V8,V9,EE,Ev,zC,wg,aQ,bZ,bP,u1.ah,u2.ah,e1,e2,jl.ah,ri.ah,e3,uq.ah,uq.bH,ur.ah,ur.bH,e4,e5,bh,dw,dB,bZ,yg,dC u3,dC u4,u3.ah,u4.ah,e6,gI,o1,e7,e8,dw,dB,bZ,yg,dC u5,dC u6,afH u5 u6]
 .have ⟨g1,g2⟩:=f2 h0;have gI:¬bK Rs<0:=by unfold bK;rw[yp h0];split<;>decide
  refine⟨_,_,by rw[g1];exact aiH,by rw[g2];exact aiI,fun tm t2 t3 t4 t5=>?_⟩
  simp only[go_sem,ya,yb,od,aA,t2,t3,t4,t5,V8,V9,EE,Ev,zC,wg,aQ,bZ,bP,u1.ah,u2.ah,e1,e2,jl.ah,ri.ah,e3,uq.ah,uq.bH,ur.ah,ur.bH,e4,e5,bh,dw,dB,bZ,yg,dC u3,dC u4,u4.ah,e6,gI,afH u3 u4]
def Yc(h:Nu P L){w:AV}{b:Int}(hv:cz v a)(hw:cz w b)(dU:0<b)(ka:Bd K a)(kb:Bd K b)(hK:K<=30000000000):∃q r,ab P L 164 [v,w] (.av [q,r])/\cz q (a/b)/\cz r (a%b):=by
 obtain⟨s1,w1,rfl,h1⟩:=hv;obtain⟨s2,w2,rfl,h2⟩:=hw;have⟨l1,u1⟩:=h1.aI;have⟨l2,u2⟩:=h2.aI;have⟨q,r,hq,hr,tail⟩:=axt h h1 h2 dU ka kb hK;have fin:∀tm,ai tm 2=.ptr 0 0->ai tm 3=.ptr 1 0->ai tm 4=.ptr 2 0->ai tm 5=.ptr 3 0->
   D P L (.seq (a8 od.body) (a8 (aA od.body))) ⟨[(0,.agg [aa s1,w1]),(1,.agg [aa s2,w2])],[],0,0⟩=Gr (.normal,⟨tm,[(3,.cells ydy ydy ydy 2 [.int .i64 0,.aj]),(2,.cells ydy ydy ydy 2 [.int .i64 0,.aj]),(1,.cells ydy ydy ydy 2 [aa s2,w2]),(0,.cells ydy ydy ydy 2 [aa s1,w1])],4,0⟩)->ab P L 164 [.agg [aa s1,w1],.agg [aa s2,w2]] (.av [q,r]):=fun tm t2 t3 t4 t5 e=>by
  unfold ab;rw[aD h.X7];show et [.cell 4 2 ydy,.cell 5 2 ydy] (D P L (.seq (a8 od.body) (.seq (a8 (aA od.body)) (aA (aA od.body)))) ⟨[(0,.agg [aa s1,w1]),(1,.agg [aa s2,w2])],[],0,0⟩)=_
  rw[Eu,e,ju];exact tail tm t2 t3 t4 t5
 rcases h1 with ⟨rfl,rfl,a1,a2⟩ | ⟨e,l,rfl,ga,na,va,sa,a1⟩
 .rcases h2 with ⟨rfl,rfl,b1,b2⟩ | ⟨e,l,rfl,gb,nb,vb,sb,b1⟩
  .by_cases hm:s1= -9223372036854775808
   .refine ⟨q,r,fin _ ?_ ?_ ?_ ?_ (by simp only[go_sem,ya,yb,a8,aA,od,aQ,iM,eI,aX,ye,cP,hm]<;>rfl),hq,hr⟩<;>simp only[go_sem,ya]
   .have ⟨f1,f2⟩:=ao7 (a:=s1) dU;have bI:s1.tdiv s2=0\/(s1.tdiv s2).natAbs<=s1.natAbs:=.inr (Int.natAbs_tdiv_le_natAbs s1 s2);have dS:=Int.tmod_lt_of_pos s1 dU;have oD:=Int.lt_tmod_of_pos s1 dU;by_cases h0:s1.tmod s2<0
    .have ⟨g1,g2⟩:=f1 h0;rw[g1,g2];refine⟨.agg [aa (s1.tdiv s2-1),.aj],.agg [aa (s1.tmod s2+s2),.aj],?_,dK.rI (by lia) (by lia),dK.rI (by lia) (by lia)⟩;unfold ab;rw[aD h.X7]
     simp only[go_sem,ya,yb,od,aQ,Ay,iM,eI,aX,ye,cP,hm,eO _ _ _ (show s2≠0 by lia),eU _ _ _ (show s2≠0 by lia),h0,wrap64 (n:=s1.tdiv s2) (by lia) (by lia),wrap64 (n:=s1.tdiv s2-1) (by lia) (by lia),wrap64 (n:=s1.tmod s2+s2) (by lia) (by lia),At];rfl
    .have ⟨g1,g2⟩:=f2 h0;rw[g1,g2];refine⟨.agg [aa (s1.tdiv s2),.aj],.agg [aa (s1.tmod s2),.aj],?_,dK.rI (by lia) (by lia),dK.rI (by lia) (by lia)⟩;unfold ab;rw[aD h.X7]
     simp only[go_sem,ya,yb,od,aQ,Ay,iM,eI,aX,ye,cP,hm,eO _ _ _ (show s2≠0 by lia),eU _ _ _ (show s2≠0 by lia),h0,wrap64 (n:=s1.tdiv s2) (by lia) (by lia),At];rfl
  .refine ⟨q,r,fin _ ?_ ?_ ?_ ?_ (by simp only[go_sem,ya,yb,a8,aA,od,aQ,iM,qd,eI,aX,ye,cP]<;>rfl),hq,hr⟩<;>simp only[go_sem,ya]
 .refine ⟨q,r,fin _ ?_ ?_ ?_ ?_ (by simp only[go_sem,ya,yb,a8,aA,od,aQ,u2.pu,u2.one,qd,eI,aX,ye,cP]<;>rfl),hq,hr⟩<;>simp only[go_sem,ya]
section
variable {v w:AV}{a b:Int}{l m:List Nat}{K:Nat}
def aiJ(h:Nu P L)(hv:cz v a)(hw:cz w b)(dU:0<b)(ka:Bd K a)(kb:Bd K b)(hK:K<=30000000000):∃r,ab P L 148 [v,w] r/\cz r (a/b):=by
 have e1:=HT h hw;have⟨q,r,e2,hq,hr⟩:=Yc h hv hw dU ka kb hK;have e3:bK b=1:=by unfold bK;rw[yp (by lia),yp (by lia)]
 rw[e3] at e1;have bI:=hq;obtain⟨s1,w1,rfl,h1⟩:=hv;obtain⟨s2,w2,rfl,h2⟩:=hw;obtain⟨s3,w3,rfl,h3⟩:=hq;obtain⟨s4,w4,rfl,h4⟩:=hr;have⟨l1,u1⟩:=h1.aI;have⟨l2,u2⟩:=h2.aI;have⟨l3,u3⟩:=h3.aI;have⟨l4,u4⟩:=h4.aI;refine⟨_,?_,bI⟩;unfold ab;rw[aD h.aBT];simp only[go_sem,ya,yb,Xy,Int.reduceLT,yu,aQ,u1.pu,u1.ah,u1.one,u2.pu,u2.ah,u2.one,ye,bP,e1,e2,Ao,dw,dB,bZ,yg,n7 u3,dC u3,dC u4]
def axu(h:Nu P L)(G:Nat)(hK:K<=30000000000):
  cE P L [2,3,4] KH (fun k s=>∃(x y:Nat) (s1 s2:Int) (w1 w2:AV),s=⟨[(2,.ptr 0 0),(3,.ptr 1 0),(4,.ptr 2 0)],[(2,.cells ydy ydy ydy 2 [o1,o2]),(1,.cells ydy ydy ydy 2 [aa s2,w2]),(0,.cells ydy ydy ydy 2 [aa s1,w1])],3,0⟩/\dK s1 w1 x/\dK s2 w2 y/\Bd K x/\Bd K y/\Nat.gcd x y=G/\y=k) (fun ex s'=>∃tm s1 w1 c1,s'=⟨tm,[(2,.cells ydy ydy ydy 2 [o1,o2]),(1,c1),(0,.cells ydy ydy ydy 2 [aa s1,w1])],3,0⟩/\ex=.exit 0/\ai tm 2=.ptr 0 0/\ai tm 4=.ptr 2 0/\dK s1 w1 G):=by
 apply cI;rintro k s ⟨x,y,s1,s2,w1,w2,rfl,h1,h2,k1,k2,hG,rfl⟩;have⟨l1,u1⟩:=h1.aI;have⟨l2,u2⟩:=h2.aI;have i1:cz (.agg [aa s1,w1]) (x:Int):=⟨s1,w1,rfl,h1⟩;have i2:cz (.agg [aa s2,w2]) (y:Int):=⟨s2,w2,rfl,h2⟩;have e1:=HT h i2;by_cases gS:y=0
 .right
  subst gS;rw[show bK ((0:Nat):Int)=0 from rfl] at e1;simp only[go_sem,ya,KH,yv,yO,bZ,bP,u2.ah,e1];obtain rfl:x=G:=by rw[<-hG,Nat.gcd_zero_right]
  exact⟨_,_,rfl,by simp,_,s1,w1,_,rfl,rfl,rfl,rfl,h1⟩
 .left
  have e3:bK (y:Int)=1:=by unfold bK;rw[yp (by lia),yp (by lia)]
  rw[e3] at e1;have⟨q,r,e2,hq,hr⟩:=Yc h i1 i2 (by lia) k1 k2 hK;obtain⟨s3,w3,rfl,h3⟩:=hq;obtain⟨s4,w4,rfl,h4⟩:=hr;have⟨l3,u3⟩:=h3.aI;have⟨l4,u4⟩:=h4.aI;have aG:=xE x (show 0<y by lia);have kr:Bd K ((x%y:Nat):Int):=k2.le (by lia);simp only[go_sem,ya,yb,KH,V8,V9,EE,Ev,zC,wg,yaG,yu,yY,aQ,bZ,bP,u1.ah,u2.ah,e1,e2,Ao,bZ,yg,dC u2,dC u3,dC u4];refine⟨_,x%y,rfl,aG,y,x%y,s2,s4,w2,w4,?_,h2,h4,k2,kr,by rw[<-hG];exact arc x y gS,rfl⟩
  simp only[go_sem,ya,yb,aq]
def aiK(h:Nu P L)(hv:cz v a)(hw:cz w b)(ka:Bd K a)(kb:Bd K b)(hK:K<=30000000000):∃r,ab P L 130 [v,w] r/\cz r (vA a b:Nat):=by
 have⟨va,e1,ha⟩:=X9 h hv ka (by lia);have⟨vb,e2,hb⟩:=X9 h hw kb (by lia);obtain⟨s1,w1,rfl,h1⟩:=hv;obtain⟨s2,w2,rfl,h2⟩:=hw;obtain⟨s3,w3,rfl,h3⟩:=ha;obtain⟨s4,w4,rfl,h4⟩:=hb;have⟨l1,u1⟩:=h1.aI;have⟨l2,u2⟩:=h2.aI;have⟨l3,u3⟩:=h3.aI;have⟨l4,u4⟩:=h4.aI;have jY:∃s w,ab P L 130 [.agg [aa s1,w1],.agg [aa s2,w2]] (.agg [aa s,w])/\dK s w (vA a b:Nat):=by
  unfold ab;rw[aD h.aBU];simp only[go_sem,ya,yb,Xw,aQ,u1.pu,u1.ah,u1.one,u2.pu,u2.ah,u2.one,bZ,bP,e1,e2,bh,bZ,yg,dC u3,dC u4,ye];generalize hq:D P L (.loop _ KH) _=q;obtain⟨ex,s,rfl,tm,s5,w5,c1,rfl,rfl,t2,t4,h5⟩:=bg hq (axu (P:=P) (L:=L) h (vA a b) (K:=K) hK (o1:=.int .i64 0) (o2:=.aj) b.natAbs) ⟨a.natAbs,b.natAbs,s3,s4,w3,w4,by simp only[go_sem,ya,yb,aq],h3,h4,ka,kb,rfl,rfl⟩;have⟨l5,u5⟩:=h5.aI;refine⟨s5,w5,?_,h5⟩;simp only[go_sem,ya,yb,aq,t2,t4,dw,dB,bZ,yg,n7 u5,dC u5]
 have⟨s,w,e,hn⟩:=jY;exact⟨_,e,s,w,rfl,hn⟩
def bW(v:AV)(r:Rat):Prop:=∃s1 w1 s2 w2,v=.agg [aa s1,w1,aa s2,w2]/\dK s1 w1 r.num/\dK s2 w2 (r.den:Int)
def Hq(k:Nat)(r:Rat):Prop:=Bd k r.num/\Bd k (r.den:Int)
def Tv(hb:0<b):(wW a b).num=a/(vA a b:Nat)/\((wW a b).den:Int)=b/(vA a b:Nat):=by
 constructor
 .rw [ycu,Int.sign_eq_one_of_pos hb,Int.one_mul,ycS]
 .rw [ycv,yp (by lia),ycS]
  grind
def Hq.divInt{k:Nat}(hb:0<b)(ka:Bd k a)(kb:Bd k b):Hq k (wW a b):=by
 have⟨h1,h2⟩:=Tv (a:=a) hb;refine⟨ka.le ?_,kb.le ?_⟩
 .rw [h1,tv (Int.gcd_dvd_left a b)];exact vD _ _
 .rw [h2,tv (Int.gcd_dvd_right a b)];exact vD _ _
section
def CS{a b y z:AV}{r:List (Nat×Nat×X)}(h1:dL a=ydy)(h2:dL b=ydy):lD tm [x,y,z,w] 0 2 [a,b] r=fill tm [a,b,z,w] r:=by
 rw[Pw (by rfl) (by simp) (by simp[b9,h1,h2])];rfl
def CT{a b y z:AV}{r:List (Nat×Nat×X)}(h1:dL a=ydy)(h2:dL b=ydy):lD tm [x,y,z,w] 2 2 [a,b] r=fill tm [x,y,a,b] r:=by
 rw[Pw (by rfl) (by simp) (by simp[b9,h1,h2])];rfl
def lE{s t:Int}(hv:bR v l)(hw:bR w m)(hp:Hp)(ct id:Nat)(a b x y:AV):jr hp ct id 0 4 [.int .i64 s,v,.int .i64 t,w] (Gr (.cells ydy ydy ydy 4 [a,b,x,y]))=Gr (.av [],aR hp id (.cells ydy ydy ydy 4 [.int .i64 s,v,.int .i64 t,w]),ct):=by
 rw[Hs (by rfl) (by simp) (by simp[b9,hv.one,hw.one,aeT])];simp[aH,hv.pu,hw.pu,over,afw]
def lF{s t:Int}(hv:bR v l)(hw:bR w m)(hp:Hp):result hp (.agg [aa s,v,aa t,w])=Gr (.agg [aa s,v,aa t,w]):=by
 rcases hv with ⟨rfl,_⟩ | ⟨e,rfl⟩<;>rcases hw with ⟨rfl,_⟩ | ⟨e',rfl⟩<;>rfl
variable {P:aF}{L:Lib}
structure Fr'(P:aF)(L:Lib):Prop extends Nu P L where
 aBV:Has P L 101 ph
 h69:Has P L 69 ZE
 aBW:Has P L 111 Xv
 h98:Has P L 98 SG
 aBX:Has P L 108 Xu
 aBY:Has P L 102 Xt
 h74:Has P L 74 Nf
 h50:Has P L 50 ZD
 rk:Has P L 49 c49
 h73:Has P L 73 ZH
 h70:Has P L 70 ZF
 h71:Has P L 71 ZG
 aBZ:Has P L 149 Xz
def afI(h:Fr' P L)(h1:dK s1 w1 a)(h2:dK s2 w2 b)(dU:0<b)(ka:Bd K a)(kb:Bd K b)(hK:K<=30000000000):
  ∃r,bW r (wW a b)/\∀tm,ai tm 2=.ptr 0 0->ai tm 3=.ptr 1 0->ai tm 4=.ptr 2 0->et [.cell 4 4 ydy] (D P L (aA (aA ph.body)) ⟨tm,[(2,.cells ydy ydy ydy 4 [.int .i64 0,.aj,.int .i64 0,.aj]),(1,.cells ydy ydy ydy 2 [aa s2,w2]),(0,.cells ydy ydy ydy 2 [aa s1,w1])],3,0⟩)=Gr r:=by
 have hv:cz (.agg [aa s1,w1]) a:=⟨s1,w1,rfl,h1⟩;have hw:cz (.agg [aa s2,w2]) b:=⟨s2,w2,rfl,h2⟩;have⟨p1,p2⟩:=Tv (a:=a) dU;have hgp:=Py (a:=a) dU;have hgk:Bd K ((vA a b:Nat):Int):=kb.le (by
  have:=Int.gcd_le_natAbs_right a (show b≠0 by lia)
  lia)
 have⟨g,e2,hg⟩:=aiK h.toNu hv hw ka kb hK;have⟨q1,e4,gK⟩:=aiJ h.toNu hv hg hgp ka hgk hK;have⟨q2,e5,Bb⟩:=aiJ h.toNu hw hg hgp kb hgk hK;rw[<-p1] at gK;rw[<-p2] at Bb;obtain⟨s3,w3,rfl,h3⟩:=hg;obtain⟨s4,w4,rfl,h4⟩:=gK;obtain⟨s5,w5,rfl,h5⟩:=Bb;have⟨l1,u1⟩:=h1.aI;have⟨l2,u2⟩:=h2.aI;have⟨l3,u3⟩:=h3.aI;have⟨l4,u4⟩:=h4.aI;have⟨l5,u5⟩:=h5.aI;by_cases gN:w2=.aj/\s2=1
 .obtain ⟨rfl,rfl⟩:=gN;have kj:b=1:=by
   rcases h2 with ⟨_,h,_⟩ | ⟨_,_,h,_⟩
   .exact h.symm
   .cases h
  subst kj;rw[Int.gcd_one] at p1 p2;have p1:(wW a 1).num=a:=by rw[p1];exact Int.ediv_one a
  refine⟨.agg [aa s1,w1,aa 1,.aj],⟨s1,w1,1,.aj,rfl,by rw[p1];exact h1,by rw[p2];exact h2⟩,fun tm t2 t3 t4=>?_⟩
  have un:=zn;simp only[go_sem,ya,ph,aA,t2,t3,t4,u1.one,bZ,aX,ye,cP,iM,eI,CS,CT,lE u1 un,dw,dB,yg,dV,lF u1 un]
 .refine ⟨.agg [aa s4,w4,aa s5,w5],⟨s4,w4,s5,w5,rfl,h4,h5⟩,fun tm t2 t3 t4=>?_⟩;rcases u2 with ⟨rfl,_⟩ | ⟨e,rfl⟩
  .simp only [go_sem,ya,yb,ph,aA,t2,t3,t4,aQ,u1.ah,bZ,bP,aX,ye,cP,iM,eI,show ¬s2=1 from fun e=>gN ⟨rfl,e⟩,e2,e4,e5,bh,dw,dB,bZ,yg,dC u3,u3.ah,u4.one,u5.one,CS,CT,lE u4 u5,dV,lF u4 u5]
  .simp only [go_sem,ya,yb,ph,aA,t2,t3,t4,aQ,u1.ah,bZ,bP,aX,ye,cP,qd,eI,e2,e4,e5,bh,dw,dB,bZ,yg,dC u3,u3.ah,u4.one,u5.one,CS,CT,lE u4 u5,dV,lF u4 u5]
def RX(h:Fr' P L)(hv:cz v a)(hw:cz w b)(dU:b≠0)(ka:Bd K a)(kb:Bd K b)(hK:K<=30000000000):∃r,ab P L 101 [v,w] r/\bW r (wW a b):=by
 have e1:=HT h.toNu hw;have cl:=hv;have Ge:=hw;obtain⟨s1,w1,rfl,h1⟩:=hv;obtain⟨s2,w2,rfl,h2⟩:=hw;have⟨l1,u1⟩:=h1.aI;have⟨l2,u2⟩:=h2.aI;have fin:∀r t1 t2 v1 v2 tm,(∀tm,ai tm 2=.ptr 0 0->ai tm 3=.ptr 1 0->ai tm 4=.ptr 2 0->et [.cell 4 4 ydy] (D P L (aA (aA ph.body)) ⟨tm,[(2,.cells ydy ydy ydy 4 [.int .i64 0,.aj,.int .i64 0,.aj]),(1,.cells ydy ydy ydy 2 [aa t2,v2]),(0,.cells ydy ydy ydy 2 [aa t1,v1])],3,0⟩)=Gr r)->ai tm 2=.ptr 0 0->ai tm 3=.ptr 1 0->ai tm 4=.ptr 2 0->
   D P L (.seq (a8 ph.body) (a8 (aA ph.body))) ⟨[(0,.agg [aa s1,w1]),(1,.agg [aa s2,w2])],[],0,0⟩=Gr (.normal,⟨tm,[(2,.cells ydy ydy ydy 4 [.int .i64 0,.aj,.int .i64 0,.aj]),(1,.cells ydy ydy ydy 2 [aa t2,v2]),(0,.cells ydy ydy ydy 2 [aa t1,v1])],3,0⟩)->ab P L 101 [.agg [aa s1,w1],.agg [aa s2,w2]] r:=fun r t1 t2 v1 v2 tm tail k2 k3 k4 e=>by
  unfold ab;rw[aD h.aBV];show et [.cell 4 4 ydy] (D P L (.seq (a8 ph.body) (.seq (a8 (aA ph.body)) (aA (aA ph.body)))) ⟨[(0,.agg [aa s1,w1]),(1,.agg [aa s2,w2])],[],0,0⟩)=_
  rw[Eu,e,ju];exact tail tm k2 k3 k4
 by_cases hn:b<0
 .have ⟨n1,e2,kU⟩:=HU h.toNu cl ka (by lia);have⟨n2,e3,dJ⟩:=HU h.toNu Ge kb (by lia);obtain⟨s3,w3,rfl,h3⟩:=kU;obtain⟨s4,w4,rfl,h4⟩:=dJ;have⟨l3,u3⟩:=h3.aI;have⟨l4,u4⟩:=h4.aI;have⟨r,hr,tail⟩:=afI h h3 h4 (by lia) ka.neg kb.neg hK;rw[Rat.neg_divInt_neg] at hr;have hs:bK b<0:=by unfold bK;rw[yE hn];decide
  refine⟨r,fin r _ _ _ _ _ tail ?_ ?_ ?_ (by simp only[go_sem,ya,yb,ph,a8,aA,hs,aQ,u1.pu,u1.ah,u1.one,u2.pu,u2.ah,u2.one,bZ,bP,e1,e2,e3,bh,dC u3,dC u4]<;>rfl),hr⟩<;>simp only[go_sem,ya]
 .have ⟨r,hr,tail⟩:=afI h h1 h2 (by lia) ka kb hK;have hs:¬bK b<0:=by unfold bK;rw[yp hn];split<;>decide
  refine⟨r,fin r _ _ _ _ _ tail ?_ ?_ ?_ (by simp only[go_sem,ya,yb,ph,a8,aA,hs,aQ,u1.pu,u1.one,u2.pu,u2.ah,u2.one,bZ,bP,e1]<;>rfl),hr⟩<;>simp only[go_sem,ya]
end
end
section
variable {v w:AV}{K k m:Nat}{a b:Rat}
def Hq.mono{r:Rat}(h:Hq k r)(hk:k<=m):Hq m r:=⟨h.1.mono hk,h.2.mono hk⟩
def Hq.neg{r:Rat}(h:Hq k r):Hq k (-r):=⟨h.1.neg,h.2⟩
def add_eq(a b:Rat):a+b=wW (a.num*b.den+b.num*a.den) ((a.den:Int)*b.den):=by
 rw[Rat.add_def',<-ycf,xx]
def mul_eq(a b:Rat):a*b=wW (a.num*b.num) ((a.den:Int)*b.den):=by
 rw[Rat.mul_def',<-ycf,xx]
def O5(a:Rat):0<(a.den:Int):=by have:=a.den_pos;lia
def Gv(a b:Rat):0<(a.den:Int)*b.den:=Int.mul_pos (O5 a) (O5 b)
def Bd.Yd{a b:Int}(ha:Bd k a)(hb:Bd k b):Bd (k+1) (a+b):=by
 have:=ha.add hb
 grind
def Hq.add(ha:Hq k a)(hb:Hq m b):Hq (k+m+1) (a+b):=by
 rw[add_eq];refine Hq.divInt (Gv a b) ?_ ((ha.2.mul hb.2).mono (by lia));exact (ha.1.mul hb.2).Yd ((hb.1.mul ha.2).mono (by lia))
def Hq.mul(ha:Hq k a)(hb:Hq m b):Hq (k+m) (a*b):=by
 rw[mul_eq];exact Hq.divInt (Gv a b) (ha.1.mul hb.1) (ha.2.mul hb.2)
def Hq.sub(ha:Hq k a)(hb:Hq m b):Hq (k+m+1) (a-b):=by
 rw[ybJ];exact ha.add hb.neg
def Hq.inv(ha:Hq k a):Hq k a⁻¹:=by
 have h1:(a⁻¹).num.natAbs<=a.den:=by
  rw[Rat.num_inv,Int.natAbs_mul]
  grind
 refine⟨ha.2.le (by simpa using h1),?_⟩;unfold Bd;rw[Rat.den_inv]
 split
 .have h2:=ha.2;unfold Bd at h2
  simp_all
 .exact ha.1
def Hq.div(ha:Hq k a)(hb:Hq m b):Hq (k+m) (a/b):=by
 rw[Rat.div_def];exact ha.mul hb.inv
def jO(a b:Rat):Int:=if a<b then -1 else if a=b then 0 else 1
def atN(a b:Rat):bK (a.num*b.den-b.num*a.den)=jO a b:=by
 unfold bK jO;by_cases h:a<b
 .rw [yE h]
  have:=(ydw a b).1 h
  grind
 .rw [yp h];have h1:¬a.num*b.den<b.num*a.den:=fun e=>h ((ydw a b).2 e)
  rw[yp (by lia)];by_cases h2:a=b
  .grind
  .rw [yp h2,yp (by have:¬a.num*b.den=b.num*a.den:=fun e=>h2 (Rat.eq_iff_mul_eq_mul.2 e);lia)]
def PD(a:Rat)(h:a.den=1):a=(a.num:Rat):=by
 have:=Rat.num_divInt_den a
 rw[h] at this;rw[<-this];exact (Rat.ext (by simp[ycu]) (by simp[ycv]))
def AE(a b c d:AV)(r:List AV):jj 2 ydy (List.drop 2 (a::b::c::d::r))=Gr (.agg [c,d]):=rfl
def qu(a b:AV)(r:List AV):jj 2 ydy (a::b::r)=Gr (.agg [a,b]):=rfl
def RY(h:Fr' P L){z:Int}(hv:cz v z):∃r,ab P L 111 [v] r/\bW r (z:Rat):=by
 have⟨o1,o2⟩:=BY h.toNu (z:=1) (by decide) (by decide);obtain⟨s1,w1,rfl,h1⟩:=hv;have⟨l1,u1⟩:=h1.aI;have un:=zn;refine⟨.agg [aa s1,w1,aa 1,.aj],?_,s1,w1,1,.aj,rfl,h1,.inl ⟨rfl,rfl,(by show (-9223372036854775808:Int)<=1;decide),(by show (1:Int)<9223372036854775808;decide)⟩⟩
 unfold ab;rw[aD h.aBW];simp only[go_sem,ya,yb,Xv,aQ,u1.pu,u1.one,bZ,o1,bh,CS,CT,lE u1 un,dw,dB,yg,dV,lF u1 un]
def D7(h:Fr' P L){z:Int}(h1: -9223372036854775808<=z)(h2:z<9223372036854775808):∃r,ab P L 69 [aa z] r/\bW r (z:Rat):=by
 have⟨o1,o2⟩:=BY h.toNu h1 h2;have⟨r,e,hr⟩:=RY h o2;have bQ:=hr;obtain⟨s1,w1,s2,w2,rfl,k1,k2⟩:=hr;have⟨l1,u1⟩:=k1.aI;have⟨l2,u2⟩:=k2.aI;refine⟨_,?_,bQ⟩;unfold ab;rw[aD h.h69];simp only[go_sem,ya,yb,ZE,aQ,bP,o1,e,bh,lE u1 u2,dw,dB,yg,dV,lF u1 u2]
def m98(h:Fr' P L)(hv:bW v a):ab P L 98 [v] (.bool (decide (a.den=1))):=by
 obtain⟨s1,w1,s2,w2,rfl,h1,h2⟩:=hv;have⟨l1,u1⟩:=h1.aI;unfold ab;rw[aD h.h98];rcases h2 with ⟨rfl,rfl,b1,b2⟩ | ⟨e,l,rfl,gb,nb,vb,sb,b1⟩
 .have e:decide (((a.den:Nat):Int)=1)=decide (a.den=1):=by simp;lia
  simp only[go_sem,ya,yb,SG,aQ,u1.pu,u1.one,aX,ye,azZ,ahc,iM,eI,e]
 .have e:decide (a.den=1)=false:=yC (by lia);rw[e];simp only[go_sem,ya,yb,SG,aQ,u1.pu,u1.one,aX,ye,ahc,qd,eI]
def MB(h:Fr' P L)(hv:bW v a):ab P L 108 [v] (aa (bK a.num)):=by
 obtain⟨s1,w1,s2,w2,rfl,h1,h2⟩:=hv;have⟨l1,u1⟩:=h1.aI;have⟨l2,u2⟩:=h2.aI;have e1:=HT h.toNu ⟨s1,w1,rfl,h1⟩;unfold ab;rw[aD h.aBX];simp only[go_sem,ya,yb,Xu,aQ,u1.pu,u1.ah,u1.one,u2.pu,u2.one,aX,ye,qu,bP,e1]
def Ye(h:Fr' P L)(hv:bW v a)(ka:Hq K a)(hK:K<=30000000000):∃r,ab P L 102 [v] r/\bW r (-a):=by
 obtain⟨s1,w1,s2,w2,rfl,h1,h2⟩:=hv;have⟨l1,u1⟩:=h1.aI;have⟨l2,u2⟩:=h2.aI;have⟨n,e1,hn⟩:=HU h.toNu ⟨s1,w1,rfl,h1⟩ ka.1 (by lia);obtain⟨s3,w3,rfl,h3⟩:=hn;have⟨l3,u3⟩:=h3.aI;refine⟨.agg [aa s3,w3,aa s2,w2],?_,s3,w3,s2,w2,rfl,h3,h2⟩;unfold ab;rw[aD h.aBY];simp only[go_sem,ya,yb,Xt,aQ,u1.pu,u1.ah,u1.one,u2.pu,u2.one,u3.one,aX,ye,qu,AE,bP,e1,bh,CS,CT,lE u3 u2,dw,dB,yg,dV,lF u3 u2]
def m74(h:Fr' P L)(hv:bW v a)(hw:bW w b)(ka:Hq K a)(kb:Hq K b)(hK:K<=10000000000):∃r,ab P L 74 [v,w] r/\bW r (a+b):=by
 have i1:=m98 h hv;have i2:=m98 h hw;obtain⟨s1,w1,s2,w2,rfl,h1,h2⟩:=hv;obtain⟨s3,w3,s4,w4,rfl,h3,h4⟩:=hw;have⟨l1,u1⟩:=h1.aI;have⟨l2,u2⟩:=h2.aI;have⟨l3,u3⟩:=h3.aI;have⟨l4,u4⟩:=h4.aI;have n1:cz (.agg [aa s1,w1]) a.num:=⟨s1,w1,rfl,h1⟩;have n2:cz (.agg [aa s2,w2]) a.den:=⟨s2,w2,rfl,h2⟩;have n3:cz (.agg [aa s3,w3]) b.num:=⟨s3,w3,rfl,h3⟩;have n4:cz (.agg [aa s4,w4]) b.den:=⟨s4,w4,rfl,h4⟩;by_cases pK:a.den=1/\b.den=1
 .have ⟨d1,d2⟩:=pK;have⟨p,e1,hp⟩:=MA h.toNu n1 n3 ka.1 kb.1 (by lia);have⟨r,e2,hr⟩:=RY h hp;have he:((a.num+b.num:Int):Rat)=a+b:=by
   rw[Rat.intCast_add,<-PD a d1,<-PD b d2]
  rw[he] at hr;have bQ:=hr;obtain⟨s5,w5,rfl,h5⟩:=hp;obtain⟨s6,w6,s7,w7,rfl,h6,h7⟩:=hr;have⟨l5,u5⟩:=h5.aI;have⟨l6,u6⟩:=h6.aI;have⟨l7,u7⟩:=h7.aI;refine⟨_,?_,bQ⟩;rw[d1] at i1;rw[d2] at i2;unfold ab;rw[aD h.h74];simp only[go_sem,ya,yb,Nf,aQ,u1.pu,u1.ah,u1.one,u2.pu,u2.ah,u2.one,u3.pu,u3.ah,u3.one,u4.pu,u4.ah,u4.one,aX,ye,dV,qu,bP,i1,i2,e1,u5.ah,e2,bh,lE u6 u7,dw,dB,yg,dV,lF u6 u7]
 .have ⟨p1,e1,a6⟩:=AR h.toNu n1 n4 ka.1 kb.2 (by lia);have⟨p2,e2,ic⟩:=AR h.toNu n3 n2 kb.1 ka.2 (by lia);have⟨p3,e3,S4⟩:=MA h.toNu a6 ic (ka.1.mul kb.2) (kb.1.mul ka.2) (by lia);have⟨p4,e4,S5⟩:=AR h.toNu n2 n4 ka.2 kb.2 (by lia);have⟨r,e5,hr⟩:=RX h S4 S5 (by have:=Gv a b;lia) ((ka.1.mul kb.2).Yd (kb.1.mul ka.2)) ((ka.2.mul kb.2).mono (by lia)) (by lia)
  rw[<-add_eq] at hr;have bQ:=hr;obtain⟨s5,w5,rfl,h5⟩:=a6;obtain⟨s6,w6,rfl,h6⟩:=ic;obtain⟨s7,w7,rfl,h7⟩:=S4;obtain⟨s8,w8,rfl,h8⟩:=S5;obtain⟨s9,w9,s10,w10,rfl,h9,jo⟩:=hr;have⟨l5,u5⟩:=h5.aI;have⟨l6,u6⟩:=h6.aI;have⟨l7,u7⟩:=h7.aI;have⟨l8,u8⟩:=h8.aI;have⟨l9,u9⟩:=h9.aI;have⟨l10,S6⟩:=jo.aI;refine⟨_,?_,bQ⟩;unfold ab;rw[aD h.h74];by_cases d1:a.den=1
  .rw [d1] at i1;rw[yC (fun d2=>pK ⟨d1,d2⟩)] at i2;simp only[go_sem,ya,yb,Nf,aQ,u1.pu,u1.ah,u1.one,u2.pu,u2.ah,u2.one,u3.pu,u3.ah,u3.one,u4.pu,u4.ah,u4.one,aX,ye,dV,qu,AE,bP,i1,i2,e1,e2,u5.ah,u6.ah,e3,e4,u7.ah,u8.ah,e5,bh,lE u9 S6,dw,dB,yg,dV,lF u9 S6]
  .rw [yC d1] at i1;simp only[go_sem,ya,yb,Nf,aQ,u1.pu,u1.ah,u1.one,u2.pu,u2.ah,u2.one,u3.pu,u3.ah,u3.one,u4.pu,u4.ah,u4.one,aX,ye,dV,qu,AE,bP,i1,e1,e2,u5.ah,u6.ah,e3,e4,u7.ah,u8.ah,e5,bh,lE u9 S6,dw,dB,yg,dV,lF u9 S6]
def S7(h:Fr' P L)(hv:bW v a)(hw:bW w b)(ka:Hq K a)(kb:Hq K b)(hK:K<=10000000000):∃r,ab P L 50 [v,w] r/\bW r (a-b):=by
 have⟨n,e1,hn⟩:=Ye h hw kb (by lia);have⟨r,e2,hr⟩:=m74 h hv hn ka kb.neg hK;rw[<-ybJ] at hr;have bQ:=hr;obtain⟨s1,w1,s2,w2,rfl,h1,h2⟩:=hv;obtain⟨s3,w3,s4,w4,rfl,h3,h4⟩:=hw;obtain⟨s5,w5,s6,w6,rfl,h5,h6⟩:=hn;obtain⟨s7,w7,s8,w8,rfl,h7,h8⟩:=hr;have⟨l1,u1⟩:=h1.aI;have⟨l2,u2⟩:=h2.aI;have⟨l3,u3⟩:=h3.aI;have⟨l4,u4⟩:=h4.aI;have⟨l5,u5⟩:=h5.aI;have⟨l6,u6⟩:=h6.aI;have⟨l7,u7⟩:=h7.aI;have⟨l8,u8⟩:=h8.aI;refine⟨_,?_,bQ⟩;unfold ab;rw[aD h.h50];simp only[go_sem,ya,yb,ZD,aQ,u1.pu,u1.ah,u1.one,u2.pu,u2.ah,u2.one,u3.pu,u3.ah,u3.one,u4.pu,u4.ah,u4.one,u5.ah,u6.ah,dV,bP,e1,e2,bh,lE u7 u8,dw,dB,yg,dV,lF u7 u8]
def NH(h:Fr' P L)(hv:bW v a)(hw:bW w b)(ka:Hq K a)(kb:Hq K b)(hK:K<=10000000000):∃r,ab P L 49 [v,w] r/\bW r (a*b):=by
 obtain⟨s1,w1,s2,w2,rfl,h1,h2⟩:=hv;obtain⟨s3,w3,s4,w4,rfl,h3,h4⟩:=hw;have⟨l1,u1⟩:=h1.aI;have⟨l2,u2⟩:=h2.aI;have⟨l3,u3⟩:=h3.aI;have⟨l4,u4⟩:=h4.aI;have⟨p1,e1,a6⟩:=AR h.toNu (v:=.agg [aa s1,w1]) (w:=.agg [aa s3,w3]) ⟨s1,w1,rfl,h1⟩ ⟨s3,w3,rfl,h3⟩ ka.1 kb.1 (by lia);have⟨p2,e2,ic⟩:=AR h.toNu (v:=.agg [aa s2,w2]) (w:=.agg [aa s4,w4]) ⟨s2,w2,rfl,h2⟩ ⟨s4,w4,rfl,h4⟩ ka.2 kb.2 (by lia);have⟨r,e3,hr⟩:=RX h a6 ic (by have:=Gv a b;lia) (ka.1.mul kb.1) (ka.2.mul kb.2) (by lia)
 rw[<-mul_eq] at hr;have bQ:=hr;obtain⟨s5,w5,rfl,h5⟩:=a6;obtain⟨s6,w6,rfl,h6⟩:=ic;obtain⟨s7,w7,s8,w8,rfl,h7,h8⟩:=hr;have⟨l5,u5⟩:=h5.aI;have⟨l6,u6⟩:=h6.aI;have⟨l7,u7⟩:=h7.aI;have⟨l8,u8⟩:=h8.aI;refine⟨_,?_,bQ⟩;unfold ab;rw[aD h.rk];simp only[go_sem,ya,yb,c49,aQ,u1.pu,u1.ah,u1.one,u2.pu,u2.ah,u2.one,u3.pu,u3.ah,u3.one,u4.pu,u4.ah,u4.one,u5.ah,u6.ah,aX,ye,qu,AE,bP,e1,e2,e3,bh,lE u7 u8,dw,dB,yg,dV,lF u7 u8]
def m73(h:Fr' P L)(hv:bW v a)(h0:a≠0)(ka:Hq K a)(hK:K<=10000000000):∃r,ab P L 73 [v] r/\bW r a⁻¹:=by
 obtain⟨s1,w1,s2,w2,rfl,h1,h2⟩:=hv;have⟨l1,u1⟩:=h1.aI;have⟨l2,u2⟩:=h2.aI;have⟨r,e1,hr⟩:=RX h (v:=.agg [aa s2,w2]) (w:=.agg [aa s1,w1]) ⟨s2,w2,rfl,h2⟩ ⟨s1,w1,rfl,h1⟩ (fun e=>h0 (Rat.num_eq_zero.1 e)) ka.2 ka.1 (by lia);rw[<-Rat.inv_def] at hr;have bQ:=hr;obtain⟨s7,w7,s8,w8,rfl,h7,h8⟩:=hr;have⟨l7,u7⟩:=h7.aI;have⟨l8,u8⟩:=h8.aI;refine⟨_,?_,bQ⟩;unfold ab;rw[aD h.h73];simp only[go_sem,ya,yb,ZH,aQ,u1.pu,u1.ah,u1.one,u2.pu,u2.ah,u2.one,aX,ye,qu,AE,bP,e1,bh,lE u7 u8,dw,dB,yg,dV,lF u7 u8]
def m70(h:Fr' P L)(hv:bW v a)(hw:bW w b)(h0:b≠0)(ka:Hq K a)(kb:Hq K b)(hK:K<=10000000000):∃r,ab P L 70 [v,w] r/\bW r (a/b):=by
 have⟨n,e1,hn⟩:=m73 h hw h0 kb hK;have⟨r,e2,hr⟩:=NH h hv hn ka kb.inv hK;have bQ:=hr;obtain⟨s1,w1,s2,w2,rfl,h1,h2⟩:=hv;obtain⟨s3,w3,s4,w4,rfl,h3,h4⟩:=hw;obtain⟨s5,w5,s6,w6,rfl,h5,h6⟩:=hn;obtain⟨s7,w7,s8,w8,rfl,h7,h8⟩:=hr;have⟨l1,u1⟩:=h1.aI;have⟨l2,u2⟩:=h2.aI;have⟨l3,u3⟩:=h3.aI;have⟨l4,u4⟩:=h4.aI;have⟨l5,u5⟩:=h5.aI;have⟨l6,u6⟩:=h6.aI;have⟨l7,u7⟩:=h7.aI;have⟨l8,u8⟩:=h8.aI;refine⟨_,?_,bQ⟩;unfold ab;rw[aD h.h70];simp only[go_sem,ya,yb,ZF,aQ,u1.pu,u1.ah,u1.one,u2.pu,u2.ah,u2.one,u3.pu,u3.ah,u3.one,u4.pu,u4.ah,u4.one,u5.ah,u6.ah,dV,bP,e1,e2,bh,lE u7 u8,dw,dB,yg,dV,lF u7 u8]
def S8(h:Fr' P L)(hv:bW v a)(hw:bW w b)(ka:Hq K a)(kb:Hq K b)(hK:K<=10000000000):ab P L 71 [v,w] (aa (jO a b)):=by
 obtain⟨s1,w1,s2,w2,rfl,h1,h2⟩:=hv;obtain⟨s3,w3,s4,w4,rfl,h3,h4⟩:=hw;have⟨l1,u1⟩:=h1.aI;have⟨l2,u2⟩:=h2.aI;have⟨l3,u3⟩:=h3.aI;have⟨l4,u4⟩:=h4.aI;have⟨p1,e1,a6⟩:=AR h.toNu (v:=.agg [aa s1,w1]) (w:=.agg [aa s4,w4]) ⟨s1,w1,rfl,h1⟩ ⟨s4,w4,rfl,h4⟩ ka.1 kb.2 (by lia);have⟨p2,e2,ic⟩:=AR h.toNu (v:=.agg [aa s3,w3]) (w:=.agg [aa s2,w2]) ⟨s3,w3,rfl,h3⟩ ⟨s2,w2,rfl,h2⟩ kb.1 ka.2 (by lia);have e3:=aiG h.toNu a6 ic (ka.1.mul kb.2) (kb.1.mul ka.2) (by lia);rw[atN] at e3;obtain⟨s5,w5,rfl,h5⟩:=a6;obtain⟨s6,w6,rfl,h6⟩:=ic;have⟨l5,u5⟩:=h5.aI;have⟨l6,u6⟩:=h6.aI;unfold ab;rw[aD h.h71];simp only[go_sem,ya,yb,ZG,aQ,u1.pu,u1.ah,u1.one,u2.pu,u2.ah,u2.one,u3.pu,u3.ah,u3.one,u4.pu,u4.ah,u4.one,u5.ah,u6.ah,aX,ye,qu,AE,bP,e1,e2,e3,bh]
def aB0(h:Fr' P L)(hv:bW v a)(ka:Hq K a)(hK:K<=10000000000):∃r,ab P L 149 [v] r/\cz r a.floor:=by
 obtain⟨s1,w1,s2,w2,rfl,h1,h2⟩:=hv;have⟨l1,u1⟩:=h1.aI;have⟨l2,u2⟩:=h2.aI;have⟨q,r,e1,hq,hr⟩:=Yc h.toNu (v:=.agg [aa s1,w1]) (w:=.agg [aa s2,w2]) ⟨s1,w1,rfl,h1⟩ ⟨s2,w2,rfl,h2⟩ (O5 a) ka.1 ka.2 (by lia);rw[<-Rat.floor_def] at hq;have bI:=hq;obtain⟨s3,w3,rfl,h3⟩:=hq;obtain⟨s4,w4,rfl,h4⟩:=hr;have⟨l3,u3⟩:=h3.aI;have⟨l4,u4⟩:=h4.aI;refine⟨_,?_,bI⟩;unfold ab;rw[aD h.aBZ];simp only[go_sem,ya,yb,Xz,aQ,u1.pu,u1.ah,u1.one,u2.pu,u2.ah,u2.one,aX,ye,qu,AE,bP,e1,Ao,dw,dB,yg,n7 u3,dC u3,dC u4]
end
def Az:List AV->Option (List Nat)
 | []=>Gr []
 | .int .u64 (.ofNat d)::r=>bif yQ d 18446744073709551616 then (match Az r with | some l=>Gr (d::l) | none=>Gs) else Gs
 | _::_=>Gs
def AS:List Nat->Nat
 | []=>0
 | a::r=>a+18446744073709551616*AS r
def Di:List Nat->Bool
 | []=>false
 | [a]=> !yt a 0
 | _::r=>Di r
def PE:List AV->Option AV
 | [.agg [.int .i64 s,.aj]]=>bif Df s then Gr (.str (bc s)) else Gs
 | [.agg [.int .i64 s,.au _ n cs]]=>
  match Az cs with
  | some l=>
   bif yt l.length n&&(yJ n 4000000000&&(Di l&&yJ 9223372036854775808 (AS l))) then
    match s with
    | .ofNat 1=>Gr (.str (az (AS l)))
    | .negSucc 0=>Gr (.str (45::az (AS l)))
    | _=>Gs
   else Gs
  | none=>Gs
 | _=>Gs
def abZ:∀{l:List Nat},lo (2^64) l->Az (l.map uc)=Gr l
 | [],_=>rfl
 | a::l,h=>by
  have h1:=h a (by simp);have h2:=abZ (l:=l) (fun x hx=>h x (by simp[hx]));show (bif yQ a (2^64) then (match Az (l.map uc) with | some l=>Gr (a::l) | none=>Gs) else Gs)=_
  rw[mD h1,h2];rfl
def Vw:∀l:List Nat,AS l=bv (2^64) l
 | []=>rfl
 | a::l=>by simp only[AS,bv,Vw l]
def adU:∀{l:List Nat},l≠[]->iW l->Di l=ydy
 | [],h,_=>absurd rfl h
 | [a],_,h=>by
  have:a≠0:=fun e=>by
   subst e;have h:eG [0]=[0]:=h;simp[eG] at h
  simp[Di,gW this]
 | a::b::r,_,h=>by
  have h1:iW (b::r):=by
   have h:eG (a::b::r)=a::b::r:=h;rw[eG] at h
   grind
  have:=adU (l:=b::r) (by simp) h1
  simpa[Di] using this
structure Tx(P:aF)(L:Lib):Prop extends Fr' P L where
 ID:L.pure 99=Gr PE
 aiL:L.pure 175=Gr KF
 aiM:L.pure 152=Gr Oq
 Yf:L.pure 153=Gr Oa
 Yg:L.pure 154=Gr LD
 Yh:L.pure 109=Gr QN
 qH:Has P L 155 Ft
 Yi:Has P L 172 L2
 aB1:Has P L 151 QW
 aB2:Has P L 107 QQ
 h46:Has P L 46 SE
 aiN:Has P L 110 QR
 S9:Has P L 62 SF
def m99(h:Tx P L){z:Int}(hv:cz v z)(hz:Bd K z)(hK:K<=4000000000):ab P L 99 [v] (.str (bc z)):=by
 obtain⟨s,w,rfl,hn⟩:=hv;unfold ab;rw[jF h.ID];rcases hn with ⟨rfl,rfl,h1,h2⟩ | ⟨e,l,rfl,g,n,hb,hs,h1⟩
 .show (bif Df s then Gr (AV.str (bc s)) else Gs)=_
  have:Df s=ydy:=by
   cases s with
   | ofNat k=>exact mD (by have:(Int.ofNat k)=(k:Int):=rfl;lia)
   | negSucc k=>exact mD (by lia)
  grind
 .have kT:l≠[]:=fun e=>by subst e;simp[bv] at hb;lia
  have sL:l.length<=4000000000:=xi (po n hb (yI hz (C4 K))) hK
  show (match Az (l.map uc) with
   | some l'=>bif yt l'.length l.length&&(yJ l.length 4000000000&&(Di l'&&yJ 9223372036854775808 (AS l'))) then (match s with | .ofNat 1=>Gr (AV.str (az (AS l'))) | .negSucc 0=>Gr (.str (45::az (AS l'))) | _=>Gs) else Gs
   | none=>Gs)=_
  rw[abZ g];simp only[Nat.beq_refl,yz sL,adU kT n,Vw,hb,yz h1,wg,yy];by_cases h0:z<0
  .rw [yE h0] at hs;subst hs;rw[oO h0];rfl
  .rw [yp h0] at hs;subst hs;obtain⟨m,rfl⟩:∃m:Nat,z=m:=⟨z.toNat,by lia⟩;rfl
def RT(r:Rat):List Nat:=bc r.num++(if r.den=1 then [] else 47::az r.den)
def J6{z:Int}{k:Nat}(h:Bd k z):(bc z).length<=k+1:=by
 have h1:∀m:Nat,m<2^k->(az m).length<=max k 1:=fun m hm=>by
  cases k with
  | zero=>
       have:m=0:=by simpa using hm
       subst this;decide
  | succ k=>
   rw[Nat.max_eq_left (by lia)];exact zm (k:=k) (yI hm (um (by decide) _))
 by_cases h0:z<0
 .rw [oO h0];unfold Bd at h
  grind
 .obtain ⟨m,rfl⟩:∃m:Nat,z=m:=⟨z.toNat,by lia⟩
  have:=h1 m (by unfold Bd at h;simpa using h)
  rw[mz];lia
def m46(h:Tx P L){a:Rat}(hv:bW v a)(ka:Hq K a)(hK:K<=4000000000):ab P L 46 [v] (.str (RT a)):=by
 have i1:=m98 h.toFr' hv;obtain⟨s1,w1,s2,w2,rfl,h1,h2⟩:=hv;have⟨l1,u1⟩:=h1.aI;have⟨l2,u2⟩:=h2.aI;have e1:=m99 h (v:=.agg [aa s1,w1]) ⟨s1,w1,rfl,h1⟩ ka.1 hK;have e2:=m99 h (v:=.agg [aa s2,w2]) ⟨s2,w2,rfl,h2⟩ ka.2 hK;have b1:=J6 ka.1;have b2:=J6 ka.2;rw[mz] at e2 b2;unfold ab RT;rw[aD h.h46];by_cases hd:a.den=1
 .rw [yE hd,List.append_nil];rw[hd] at i1;simp only[go_sem,ya,yb,SE,aQ,u1.pu,u1.ah,u1.one,u2.pu,u2.ah,u2.one,dV,bP,i1,aX,ye,qu,e1]
 .rw [yp hd];rw[yC hd] at i1;have hc:bc a.num++47::az a.den=(bc a.num++[47])++az a.den:=by simp
  rw[hc]
  simp only[go_sem,ya,yb,SE,aQ,u1.pu,u1.ah,u1.one,u2.pu,u2.ah,u2.one,dV,bP,i1,aX,ye,qu,AE,e1,e2,iH (a:=bc a.num) (b:=[47]) (by simp;lia),iH (a:=bc a.num++[47]) (b:=az a.den) (by simp;lia)]
def aB3{n:Nat}(h:n<9223372036854775808):binOp .and (.int .i64 (n:Int)) (.int .i64 1)=Gr (.int .i64 ((n%2:Nat):Int)):=by
 show Gr (AV.int .i64 (IntKind.wrap .i64 ((xT 64 (n:Int)&&&xT 64 1).toNat:Int)))=_
 rw[show xT 64 (n:Int)=tO 64 n from BitVec.ofInt_natCast 64 n,show xT 64 1=tO 64 1 from rfl];rw[BitVec.toNat_and,ui,ui,show (1%2^64:Nat)=2^1-1 from rfl,Nat.and_two_pow_sub_one_eq_mod,wrapN (by lia)]
 grind
def aB4(n:Nat):binOp .shr (.int .i64 (n:Int)) (.int .u64 1)=Gr (.int .i64 ((n/2:Nat):Int)):=by
 show Gr (AV.int .i64 ((n:Int).fdiv (2^1)))=_
 grind
def Bd.pow{k:Nat}{z:Int}(h:Bd k z):∀e,Bd (k*e+1) (z^e)
 | 0=>by rw[ybg,xI];unfold Bd;decide
 | e+1=>by
  have ih:=Bd.pow h e;rw[Int.pow_succ];exact (ih.mul h).mono (by rw[xJ,yh];lia)
def axv(h:Nu P L)(FJ:True){z:Int}{k0:Nat}(hz:Bd K z)(hK:K*k0+1<=30000000000):
  cE P L [1,2,4,5] EK (fun m st=>∃(k i e:Nat) (s1 s2:Int) (w1 w2:AV),st=⟨[(1,aa k),(2,.ptr 0 0),(4,.ptr 1 0),(5,.ptr 2 0)],[(2,.cells ydy ydy ydy 2 [aa s2,w2]),(1,.cells ydy ydy ydy 2 [o1,o2]),(0,.cells ydy ydy ydy 2 [aa s1,w1])],3,0⟩/\dK s1 w1 (z^i)/\dK s2 w2 (z^e)/\e+i*k=k0/\(0<k->i<=k0)/\k<9223372036854775808/\k=m) (fun ex st'=>∃tm s2 w2 c0,st'=⟨tm,[(2,.cells ydy ydy ydy 2 [aa s2,w2]),(1,.cells ydy ydy ydy 2 [o1,o2]),(0,c0)],3,0⟩/\ex=.exit 0/\ai tm 4=.ptr 1 0/\ai tm 5=.ptr 2 0/\dK s2 w2 (z^k0)):=by
 apply cI;rintro m st ⟨k,i,e,s1,s2,w1,w2,rfl,h1,h2,hk,hi,hkb,rfl⟩;have⟨l1,u1⟩:=h1.aI;have⟨l2,u2⟩:=h2.aI;by_cases DK:k=0
 .right
  subst DK;rw[xI,y7] at hk;subst hk;simp only[go_sem,EK,show ¬(0:Int)<((0:Nat):Int) by lia];exact⟨_,_,rfl,by simp,_,s2,w2,_,rfl,rfl,rfl,rfl,h2⟩
 .left
  have da:=hi (by lia);have he:e<=k0:=by lia
  have hik:i*1<=i*k:=y5 i (by lia);have b1:Bd (K*k0+1) (z^i):=(hz.pow i).mono (by have:=y5 K da;lia)
  have b2:Bd (K*k0+1) (z^e):=(hz.pow e).mono (by have:=y5 K he;lia)
  have n1:cz (.agg [aa s1,w1]) (z^i):=⟨s1,w1,rfl,h1⟩;have n2:cz (.agg [aa s2,w2]) (z^e):=⟨s2,w2,rfl,h2⟩;have⟨p,e1,hp⟩:=AR h n2 n1 b2 b1 (by lia);have⟨q,e2,hq⟩:=AR h n1 n1 b1 b1 (by lia);rw[<-Int.pow_add] at hp hq;obtain⟨s3,w3,rfl,h3⟩:=hp;obtain⟨s4,w4,rfl,h4⟩:=hq;have⟨l3,u3⟩:=h3.aI;have⟨l4,u4⟩:=h4.aI;have eZ:=xL k 2;have NI:=aB3 (n:=k) hkb;have o2':=aB4 k;have ahl:(i+i)*(k/2)=i*(2*(k/2)):=by rw[<-Nat.two_mul,Nat.mul_comm 2 i,Nat.mul_assoc]
  by_cases aB5:k%2=1
  .rw [aB5] at NI eZ;have lK:i*k=i*(2*(k/2))+i:=by
    conv=>lhs;rw[<-eZ,xJ,yh]
   by_cases ie:1<k
   .simp only [go_sem,ya,EK,show (0:Int)<(k:Int) by lia,NI,show ((1:Nat):Int)=1 from rfl,bZ,bP,u1.ah,u2.ah,e1,bh,bZ,yg,dC u3,dC u4,show (1:Int)<(k:Int) by lia,e2,o2']
    exact⟨_,k/2,rfl,by lia,k/2,i+i,e+i,s4,s3,w4,w3,by simp only[go_sem,ya,yb,aq],h4,h3,by lia,fun h0=>by have:=y5 (i+i) h0;lia,by lia,rfl⟩
   .have gN:e+i+i*(k/2)=k0:=by
     have h1:k/2=0:=by lia
     rw[h1] at lK ⊢
     lia
    simp only[go_sem,ya,EK,show (0:Int)<(k:Int) by lia,NI,show ((1:Nat):Int)=1 from rfl,bZ,bP,u1.ah,u2.ah,e1,bh,bZ,yg,dC u3,show ¬(1:Int)<(k:Int) by lia,o2'];exact⟨_,k/2,rfl,by lia,k/2,i,e+i,s1,s3,w1,w3,by simp only[go_sem,ya,yb,aq],h1,h3,gN,fun h0=>by lia,by lia,rfl⟩
  .have A7:k%2=0:=by lia
   rw[A7] at NI eZ;have lK:i*k=i*(2*(k/2)):=by
    conv=>lhs;rw[<-eZ,y7]
   simp only[go_sem,ya,EK,show (0:Int)<(k:Int) by lia,NI,show ((0:Nat):Int)=0 from rfl,yaG,bZ,bP,u1.ah,bh,bZ,yg,dC u4,show (1:Int)<(k:Int) by lia,e2,o2']
   exact⟨_,k/2,rfl,by lia,k/2,i+i,e,s4,s2,w4,w2,by simp only[go_sem,ya,yb,aq],h4,h2,by lia,fun h0=>by have:=y5 (i+i) h0;lia,by lia,rfl⟩
def Yj(h:Nu P L)(qH:Has P L 155 Ft){z:Int}{k:Nat}(hv:cz v z)(hz:Bd K z)(hK:K*k+1<=30000000000)(hk:k<9223372036854775808):∃r,ab P L 155 [v,aa k] r/\cz r (z^k):=by
 have⟨o1,o2⟩:=BY h (z:=1) (by decide) (by decide);obtain⟨s1,w1,rfl,h1⟩:=hv;have⟨l1,u1⟩:=h1.aI;have un:=zn;have jY:∃s w,ab P L 155 [.agg [aa s1,w1],aa k] (.agg [aa s,w])/\dK s w (z^k):=by
  unfold ab;rw[aD qH];simp only[go_sem,ya,yb,Ft,aQ,u1.pu,u1.one,o1,bh,dC un];generalize hq:D P L (.loop _ EK) _=q;obtain⟨ex,st,rfl,tm,s5,w5,c1,rfl,rfl,t4,t5,h5⟩:=bg hq (axv (P:=P) (L:=L) h trivial hz (k0:=k) hK (o1:=.int .i64 0) (o2:=.aj) k) ⟨k,1,0,s1,1,w1,.aj,by simp only[go_sem,ya,yb,aq],by rw[Int.pow_one];exact h1,.inl ⟨rfl,(ybg z).symm,(by rw[ybg];decide)⟩,by lia,fun h0=>h0,hk,rfl⟩
  have⟨l5,u5⟩:=h5.aI;refine⟨s5,w5,?_,h5⟩;simp only[go_sem,ya,yb,aq,t4,t5,dw,dB,bZ,yg,n7 u5,dC u5]
 have⟨s,w,e,hn⟩:=jY;exact⟨_,e,s,w,rfl,hn⟩
def Kg:∀(l m:List Nat) (a:Nat),cQ (l++m) a=(cQ l a).bind (fun v=>cQ m v)
 | [],m,a=>rfl
 | b::l,m,a=>by
  simp only[List.cons_append,cQ]
  cases (yJ 48 b&&yJ b 57) with
  | true=>exact Kg l m _
  | false=>rfl
def aro:∀{l:List Nat} {a v:Nat},cQ l 0=Gr v->cQ l a=Gr (a*10^l.length+v):=by
 intro l
 suffices h:∀{l:List Nat} {a b v:Nat},cQ l b=Gr v->b*10^l.length<=v/\cQ l (a+b)=Gr (a*10^l.length+v) by
  intro a v hv
  have:=(h (a:=a) hv).2
  grind
 intro l
 induction l with
 | nil=>intro a b v h;simp[cQ] at h ⊢;lia
 | cons c l ih=>
  intro a b v h;simp only[cQ] at h ⊢
  cases hb:(yJ 48 c&&yJ c 57) with
  | false=>rw[hb] at h;cases h
  | true=>
   rw[hb] at h;have⟨h1,h2⟩:=ih (a:=10*a) h;simp only[yB,xp]
   grind
def Vx:∀{l:List Nat} {v:Nat},cQ l 0=Gr v->v<10^l.length:=by
 suffices h:∀{l:List Nat} {b v:Nat},cQ l b=Gr v->v<(b+1)*10^l.length by
  grind
 intro l
 induction l with
 | nil=>intro b v h;simp[cQ] at h ⊢;lia
 | cons c l ih=>
  intro b v h;simp only[cQ] at h
  cases hb:(yJ 48 c&&yJ c 57) with
  | false=>rw[hb] at h;cases h
  | true=>
   simp only[Bool.and_eq_true] at hb;have hc:=Nat.le_of_ble_eq_true hb.2;have h2:=Nat.mul_le_mul_right (10^l.length) (show 10*b+(c-48)+1<=10*(b+1) by lia)
   grind
def atO(Yg:L.pure 154=Gr LD){f:cu}{s:List Nat}{v:Nat}(h0:0<s.length)(h1:s.length<=18)(hv:cQ s 0=Gr v):bO P L f 154 [.str s]=Gr (.av [.int .i64 v,.undef]):=by
 rw[jF Yg];show (bif yQ 0 s.length&&yJ s.length 18 then (match cQ s 0 with | some n=>Gr (AV.av [.int .i64 n,.undef]) | none=>Gs) else Gs)=_
 rw[mD h0,yz h1,hv];rfl
def acQ:∀j:Nat,je [48] j++[48]=[48]++je [48] j
 | 0=>rfl
 | j+1=>by
  show ([48]++je [48] j)++[48]=[48]++([48]++je [48] j)
  rw[xM,acQ j]
def GH:∀j:Nat,(je [48] j).length=j
 | 0=>rfl
 | j+1=>by show ([48]++je [48] j).length=_;rw[yW,GH j];simp;lia
def apj:∀(k n:Nat),n<10^k->0<k->jN k n=je [48] (k-(az n).length)++az n:=by
 intro k
 induction k with
 | zero=>intro n _ h;lia
 | succ k ih=>
  intro n hn _;rw[jN];by_cases jo:n<10
  .rw [pQ jo,yR jo]
   cases k with
   | zero=>rfl
   | succ k=>
    rw[ih (n/10) (by rw[xU jo];exact ycl (by decide)) (by lia),xU jo]
    rw[show az 0=[48] by decide];rw[acQ];rfl
  .have hk:0<k:=by
    grind
   rw[ih (n/10) (by rw[xp] at hn;lia) hk,rH jo,xM,yW]
   grind
def apk{m d r:Nat}(hd:d=m/1000000000000000000)(hr:r=m%1000000000000000000):(0<d->az m=az d++(je [48] (18-(az r).length)++az r))/\(d=0->az m=az r):=by
 have NG:r<10^18:=by lia
 constructor
 .intro h0;rw[<-apj 18 r NG (by decide),<-O2 18 d r h0 NG]
  grind
 .grind
def axw{f:cu}(h:L.pure 138=Gr Cz){n:Nat}(hn:n<18446744073709551616):bO P L f 138 [uc n,aa 10]=Gr (.str (az n)):=by
 rw[jF h];show (bif yQ n 18446744073709551616 then Gr (AV.str (az n)) else Gs)=_
 rw[mD hn];rfl
def Wa{f:cu}(h:L.pure 139=Gr CR){n:Nat}(hn:n<=100):bO P L f 139 [.str [48],aa (n:Nat)]=Gr (.str (je [48] n)):=by
 rw[jF h];show (bif yJ n 1099511627776&&yJ (1*n) 1099511627776 then Gr (AV.str (je [48] n)) else Gs)=_
 rw[yz (by lia),yz (by lia)];rfl
def axx(h:Wd P L)(FL:L.pure 138=Gr Cz)(BZ:L.pure 139=Gr CR){neg:Bool}{M:Nat}(Bh:0<M)(hK:K<=4000000000)(hlen:(az M).length<=300000000000):
  cE P L [3,4,5,6] rZ (fun k s=>∃(m:Nat) (w:AV) (ps:List (List Nat)) (fl:Bool),m=k/\WN w m/\m<18446744073709551616^K/\az M=(if m=0 then [] else az m)++ps.reverse.flatten/\((ps=[]->m=M)/\18*ps.length<=(az M).length+18)/\(m≠0->18*ps.length+(az m).length=(az M).length)/\
    ((ps=[]/\s=⟨[(3,.bool neg),(4,w),(5,.ay 0 0 1),(6,.aj)],[(0,.cells fl ydy ydy 1 [uc 1000000000000000000])],1,0⟩)\/
    (ps≠[]/\s=⟨[(3,.bool neg),(4,w),(5,.ay 0 0 1),(6,.ay 1 0 ps.length)],[(1,.cells ydy ydy false 1 (ps.map .str)),(0,.cells fl ydy ydy 1 [uc 1000000000000000000])],2,0⟩))) (fun ex s'=>∃tm ps fl,ex=.exit 0/\ps≠[]/\ps.length<=300000000000/\az M=ps.reverse.flatten/\ai tm 3=.bool neg/\ai tm 6=.ay 1 0 ps.length/\s'=⟨tm,[(1,.cells ydy ydy false 1 (ps.map .str)),(0,.cells fl ydy ydy 1 [uc 1000000000000000000])],2,0⟩):=by
 apply cI;rintro k s ⟨m,w,ps,fl,rfl,hw,hmK,Cp,aiO,dR,hs⟩;have⟨lw,uw,gw,nw,vw⟩:=hw;by_cases hm:m=0
 .right
  have kT:lw=[]:=List.eq_nil_of_length_eq_zero (Nat.le_zero.1 (po (K:=0) nw vw (by rw[hm];decide)))
  subst kT;rw[yE hm,xt] at Cp;have bU:ps≠[]:=fun e=>by have:=aiO.1 e;lia
  have Ta:ps.length<=300000000000:=by have:=aiO.2;lia
  rcases hs with ⟨h0,_⟩ | ⟨_,rfl⟩
  .exact absurd h0 bU
  .simp only [go_sem,ya,rZ,uw.len,yM,show ¬(0:Int)<((0:Nat):Int) by lia];exact⟨_,_,rfl,by simp,_,ps,fl,rfl,bU,Ta,Cp,rfl,rfl,rfl⟩
 .left
  have hw:WN w m:=⟨lw,uw,gw,nw,vw⟩;have hB:WN (.au ydy 1 [uc 1000000000000000000]) 1000000000000000000:=⟨[1000000000000000000],oS ydy [1000000000000000000],Hf.2 (by decide),by decide,by simp[bv]⟩;have⟨q,r,e1,hq,hr⟩:=aiB h hw hB (K:=K+1) (by decide) (yI hmK (y8 (by decide) (by lia))) (by rw[xp];have:=ycl (n:=K) (show 0<18446744073709551616 by decide);lia) (by lia)
  have⟨t1,t2⟩:=apk (m:=m) rfl rfl;have eZ:=xL m 1000000000000000000;have hrB:=xE m (show 0<1000000000000000000 by decide);obtain⟨d,hd⟩:∃d,d=m/1000000000000000000:=⟨_,rfl⟩;obtain⟨x,hx⟩:∃x,x=m%1000000000000000000:=⟨_,rfl⟩;rw[<-hd] at hq t1 t2 eZ;rw[<-hx] at hr t1 t2 eZ hrB;have⟨lq,uq,gq,nq,vq⟩:=hq;have⟨lr,ur,gr,nr,vr⟩:=hr;have Zc:(az x).length<=18:=zm (k:=17) (by lia);have hxp:=Bs x;have Ns:(lr=[]/\x=0)\/lr=[x]:=by
   have h1:lr.length<=1:=po (K:=1) nr vr (by rw[Nat.pow_one];lia)
   cases lr with
   | nil=>exact .inl ⟨rfl,by rw[<-vr];rfl⟩
   | cons a l=>
    cases l with
    | nil=>rw[C3] at vr;exact .inr (by rw[vr])
    | cons b l=>simp at h1
  have Cq:(lq=[]/\d=0)\/(0<lq.length/\0<d):=by
   cases lq with
   | nil=>exact .inl ⟨rfl,by rw[<-vq];rfl⟩
   | cons a l=>
    refine .inr ⟨by simp,?_⟩;rcases Nat.eq_zero_or_pos d with h0 | h0
    .have:=po (K:=0) nq vq (by rw[h0];decide)
     simp at this
    .exact h0
  unfold ab at e1;have D8:(0:Int)<(lw.length:Int):=by
   have:lw≠[]:=fun e=>by subst e;simp[bv] at vw;lia
   have:=List.length_pos_iff.2 this
   lia
  have aHS:=dR hm;have hmp:=Bs m;have new:∀t:List Nat,az m=(if d=0 then [] else az d)++t->(d≠0->t.length=18)->
    az M=(if d=0 then [] else az d)++(ps++[t]).reverse.flatten/\((ps++[t]=[]->d=M)/\18*(ps++[t]).length<=(az M).length+18)/\(d≠0->18*(ps++[t]).length+(az d).length=(az M).length):=fun t h1 h2=>by
   rw[yp hm,h1] at Cp;refine⟨by rw[Cp];simp,⟨by simp,by simp only[yW,yB,yM];lia⟩,fun h0=>?_⟩
   have h3:=congrArg List.length h1;rw[yp h0,yW,h2 h0] at h3;simp only[yW,yB,yM]
   lia
  have Dw:d<m:=by lia
  have Ab:WN q d:=⟨lq,uq,gq,nq,vq⟩;have oF:lr=[x]->jb 1 0 r=Gr (.bA (.int .u64 x::([]:List AV))):=fun e=>by
   subst e
   have:=ur.bj (i:=0) (by simp)
   simpa using this
  have f1:=axw (P:=P) (f:=D P L) FL (n:=x) (by lia);have f2:=Wa (P:=P) (f:=D P L) BZ (n:=18-(az x).length) (by lia);have Yk:(18:Int)-((az x).length:Int)=((18-(az x).length:Nat):Int):=by lia
  have aHT:18*ps.length<=300000000000:=by lia
  have zl:(je [48] (18-(az x).length)++az x).length=18:=by rw[yW,GH];lia
  obtain⟨z,hz⟩:∃z,z=az x:=⟨_,rfl⟩;have kZ:x=0->z=[48]:=fun e=>by rw[hz,e];decide
  rw[<-hz] at f1 f2 Yk Zc hxp zl t1 t2;cases fl
  all_goals
   rcases Cq with ⟨rfl,ij⟩ | ⟨Tb,ij⟩
   .have ⟨n1,n2,n3⟩:=new z (by rw[yE ij,xt];exact t2 ij) (fun h=>absurd ij h)
    rcases Ns with ⟨rfl,kD⟩ | rfl
    .have kY:=kZ kD;clear hz;subst kY;rcases hs with ⟨iy,rfl⟩ | ⟨iy,rfl⟩
     .subst iy;simp only[go_sem,ya,yb,xv,yG,yq,yh,rZ,uw.len,uw.ah,uq.len,uq.bH,ur.len,ur.bH,D8,e1,yM,yM,show ¬(0:Int)<((0:Nat):Int) by lia,gL];refine⟨_,d,rfl,Dw,d,q,[]++[[48]],false,rfl,Ab,by lia,n1,n2,n3,.inr ⟨by simp,?_⟩⟩;simp only[go_sem,ya,yb,aq,aC uq.pu]<;>rfl
     .simp only [go_sem,ya,yb,yG,yq,yh,rZ,uw.len,uw.ah,uq.len,uq.bH,ur.len,ur.bH,D8,e1,yM,yM,show ¬(0:Int)<((0:Nat):Int) by lia]
      rw[ff (ex:=false) (pu:=ydy) (cs:=ps.map .str) rfl (by simp) (by lia) (by lia) (by decide) rfl];simp only[go_sem,ya,yb];refine⟨_,d,rfl,Dw,d,q,ps++[[48]],false,rfl,Ab,by lia,n1,n2,n3,.inr ⟨by simp,?_⟩⟩;rw[xB,yW];simp only[go_sem,ya,yb,aq,aC uq.pu]<;>rfl
    .rcases hs with ⟨iy,rfl⟩ | ⟨iy,rfl⟩
     .subst iy;simp only[go_sem,ya,yb,xv,yG,yq,yh,rZ,uw.len,uw.ah,uq.len,uq.bH,ur.len,ur.bH,D8,e1,yB,yM,ye,show (0:Int)<((1:Nat):Int) by lia,oF rfl,f1,yM,show ¬(0:Int)<((0:Nat):Int) by lia,gL];refine⟨_,d,rfl,Dw,d,q,[]++[z],false,rfl,Ab,by lia,n1,n2,n3,.inr ⟨by simp,?_⟩⟩;simp only[go_sem,ya,yb,aq,aC uq.pu]<;>rfl
     .simp only [go_sem,ya,yb,yG,yq,yh,rZ,uw.len,uw.ah,uq.len,uq.bH,ur.len,ur.bH,D8,e1,yB,yM,ye,show (0:Int)<((1:Nat):Int) by lia,oF rfl,f1,yM,show ¬(0:Int)<((0:Nat):Int) by lia]
      rw[ff (ex:=false) (pu:=ydy) (cs:=ps.map .str) rfl (by simp) (by lia) (by lia) (by decide) rfl];simp only[go_sem,ya,yb];refine⟨_,d,rfl,Dw,d,q,ps++[z],false,rfl,Ab,by lia,n1,n2,n3,.inr ⟨by simp,?_⟩⟩;rw[xB,yW];simp only[go_sem,ya,yb,aq,aC uq.pu]<;>rfl
   .have ⟨n1,n2,n3⟩:=new (je [48] (18-z.length)++z) (by rw[yp (by lia)];exact t1 ij) (fun _=>zl)
    rcases Ns with ⟨rfl,kD⟩ | rfl
    .have kY:=kZ kD;clear hz;subst kY;rcases hs with ⟨iy,rfl⟩ | ⟨iy,rfl⟩
     .subst iy
      simp only[go_sem,ya,yb,xv,yG,yq,yh,rZ,uw.len,uw.ah,uq.len,uq.bH,ur.len,ur.bH,D8,e1,yM,show ¬(0:Int)<((0:Nat):Int) by lia,show (0:Int)<(lq.length:Int) by lia,show (18:Int)-((1:Nat):Int)=((17:Nat):Int) from rfl,wrapN (n:=17) (by lia),Wa (P:=P) (f:=D P L) BZ (n:=17) (by lia),iH (a:=je [48] 17) (b:=[48]) (by rw[GH];decide),gL]
      refine⟨_,d,rfl,Dw,d,q,[]++[je [48] 17++[48]],false,rfl,Ab,by lia,n1,n2,n3,.inr ⟨by simp,?_⟩⟩;simp only[go_sem,ya,yb,aq,aC uq.pu]<;>rfl
     .simp only [go_sem,ya,yb,yG,yq,yh,rZ,uw.len,uw.ah,uq.len,uq.bH,ur.len,ur.bH,D8,e1,yM,show ¬(0:Int)<((0:Nat):Int) by lia,show (0:Int)<(lq.length:Int) by lia,show (18:Int)-((1:Nat):Int)=((17:Nat):Int) from rfl,wrapN (n:=17) (by lia),Wa (P:=P) (f:=D P L) BZ (n:=17) (by lia),iH (a:=je [48] 17) (b:=[48]) (by rw[GH];decide)]
      rw[ff (ex:=false) (pu:=ydy) (cs:=ps.map .str) rfl (by simp) (by lia) (by lia) (by decide) rfl];simp only[go_sem,ya,yb];refine⟨_,d,rfl,Dw,d,q,ps++[je [48] 17++[48]],false,rfl,Ab,by lia,n1,n2,n3,.inr ⟨by simp,?_⟩⟩;rw[xB,yW];simp only[go_sem,ya,yb,aq,aC uq.pu]<;>rfl
    .rcases hs with ⟨iy,rfl⟩ | ⟨iy,rfl⟩
     .subst iy
      simp only[go_sem,ya,yb,xv,yG,yq,yh,rZ,uw.len,uw.ah,uq.len,uq.bH,ur.len,ur.bH,D8,e1,yB,yM,ye,show (0:Int)<((1:Nat):Int) by lia,oF rfl,f1,show (0:Int)<(lq.length:Int) by lia,Yk,wrapN (n:=18-z.length) (by lia),f2,iH (a:=je [48] (18-z.length)) (b:=z) (by rw[GH];lia),gL]
      refine⟨_,d,rfl,Dw,d,q,[]++[je [48] (18-z.length)++z],false,rfl,Ab,by lia,n1,n2,n3,.inr ⟨by simp,?_⟩⟩;simp only[go_sem,ya,yb,aq,aC uq.pu]<;>rfl
     .simp only [go_sem,ya,yb,yG,yq,yh,rZ,uw.len,uw.ah,uq.len,uq.bH,ur.len,ur.bH,D8,e1,yB,yM,ye,show (0:Int)<((1:Nat):Int) by lia,oF rfl,f1,show (0:Int)<(lq.length:Int) by lia,Yk,wrapN (n:=18-z.length) (by lia),f2,iH (a:=je [48] (18-z.length)) (b:=z) (by rw[GH];lia)]
      rw[ff (ex:=false) (pu:=ydy) (cs:=ps.map .str) rfl (by simp) (by lia) (by lia) (by decide) rfl];simp only[go_sem,ya,yb];refine⟨_,d,rfl,Dw,d,q,ps++[je [48] (18-z.length)++z],false,rfl,Ab,by lia,n1,n2,n3,.inr ⟨by simp,?_⟩⟩;rw[xB,yW];simp only[go_sem,ya,yb,aq,aC uq.pu]<;>rfl
def MC:Nat->VC->VC
 | 0,c=>a8 c
 | n+1,c=>.seq (a8 c) (MC n (aA c))
def cD:Nat->VC->VC
 | 0,c=>aA c
 | n+1,c=>cD n (aA c)
def anN(h:Nu P L)(FL:L.pure 138=Gr Cz)(BZ:L.pure 139=Gr CR){s z:Int}{e:Bool}{l:List Nat}(hn:dK s (.au e l.length (l.map uc)) z)(kY:0<z.natAbs)(Tc:z.natAbs<18446744073709551616^K)(hK:K<=4000000000)(hlen:(az z.natAbs).length<=300000000000):
  ∃ps:List (List Nat),ps≠[]/\ps.length<=300000000000/\az z.natAbs=ps.reverse.flatten/\D P L (MC 5 F6.body) ⟨[(0,.agg [aa s,.au e l.length (l.map uc)])],[],0,0⟩=Gr (.normal,⟨[(3,.bool (decide (z<0))),(6,.ay 0 0 ps.length)],[(0,.cells ydy ydy false 1 (ps.map .str))],1,0⟩):=by
 have⟨r,e1,hr⟩:=AQ h hn;have bQ:=hr;have⟨lr,ur,gr,nr,vr⟩:=hr;simp only[go_sem,ya,yb,yq,yh,F6,MC,a8,aA,aQ,aX,ye,cP,qd,eI,bZ,bP,e1];generalize oG:D P L (.loop _ rZ) _=qq;obtain⟨ex,st,rfl,tm,ps,fl,rfl,bU,Ta,Cp,t3,t6,rfl⟩:=bg oG (axx (P:=P) (L:=L) h.toWd FL BZ (neg:=decide (z<0)) (M:=z.natAbs) (K:=K) kY hK hlen z.natAbs) ⟨z.natAbs,bH r,[],ydy,rfl,bQ,Tc,by rw[yp (by lia)];simp,⟨fun _=>rfl,by simp⟩,fun _=>by simp,.inl ⟨rfl,by
  simp only[go_sem,ya,yb,aq,aC ur.pu]<;>rfl⟩⟩
 refine⟨ps,bU,Ta,Cp,?_⟩;simp only[go_sem,yb,aq,t3,t6]
section
open Go
section
variable {aw:List AV}{s:St}
variable {O:bC}
def BI:Nat->vB->vB
 | 0,.seq _ b=>b
 | n+1,.seq _ b=>BI n b
 | _,c=>c
def RZ:Nat->vB->Prop
 | 0,.seq _ _=>True
 | n+1,.seq _ b=>RZ n b
 | _,_=>False
def adV(hO:iZ O){h:Nat}{c:vB}{l k:Nat}{ex:Ex}{s':St}(hv:D O.prog O.aJ (comp O.P (O.hint h) c l k).1 s=Gr (ex,s')):Dd O h c s ex s':=by
 have⟨n,hn⟩:=XR hv
 cases n with
 | zero=>rw[Ko] at hn;cases hn
 | succ n=>
  exact aeI hO n (fun k _=>abg hO k) h c l k n (yx _) s ex s' hn
def afJ(hO:iZ O){h:Nat}{ro:Option Nat}{lo:Nat}{Q:Exit->Act->yo->Prop}:∀(n:Nat) (c:vB) (l k:Nat),RZ n c->∀(s s1:St),D O.prog O.aJ (MC n (comp O.P (O.hint h) c l k).1) s=Gr (.normal,s1)->
  ∀(m:Mp) (S:Nat->Prop) (w:yo) (a:Act),By ro w->cg O m S w s.tm a.tmps->aT O m S w s.hp s.ct->s.base<=s.ct->(O.hint h).n<=a.tmps.size->O.w0.heap.size<=lo->lo<=w.heap.size->Marks lo S w a.defers->
  (∀a' w',fe O m S w s .normal s1 a.tmps.size lo .normal a' w'->(BI n c).wpIn (WF ro) 0 O.P Q a' w')->c.wpIn (WF ro) 0 O.P Q a w
 | n,c,l,k,hc,s,s1,hv=>by
  intro m S w a cX ht hh hb hn aZ fP cx hQ
  cases c with
  | seq x y=>
   cases n with
   | zero=>
    refine wpIn_seq (wpIn_mono (adV hO (show D O.prog O.aJ (comp O.P (O.hint h) x l k).1 s=Gr (.normal,s1) from hv) ro lo m S w a cX ht hh hb hn aZ fP cx) ?_);rintro e a' w' hp;have he:e=.normal:=hp.1;subst he;exact hQ a' w' hp
   | succ n=>
    have cl:D O.prog O.aJ (.seq (comp O.P (O.hint h) x l k).1 (MC n (comp O.P (O.hint h) y (comp O.P (O.hint h) x l k).2.1 (comp O.P (O.hint h) x l k).2.2).1)) s=Gr (.normal,s1):=hv;rw[nZ] at cl
    cases hx:D O.prog O.aJ (comp O.P (O.hint h) x l k).1 s with
    | none=>rw[hx] at cl;cases cl
    | some q=>
     have⟨ex,st⟩:=q;rw[hx] at cl
     cases ex with
     | ret=>exact absurd cl (by intro h;cases h)
     | exit id=>exact absurd cl (by intro h;cases h)
     | normal=>
      refine wpIn_seq (wpIn_mono (adV hO hx ro lo m S w a cX ht hh hb hn aZ fP cx) ?_);rintro e a' w' ⟨rfl,m',S',k1,k2,k3,k4,k5,k6,k7⟩;refine afJ hO n y _ _ hc st s1 cl m' S' w' a' (OG k5 cX) k1 k2 (by lia) (by lia) aZ (xi fP k5.size) k7 ?_;rintro a2 w2 ⟨_,m2,S2,g1,g2,g3,g4,g5,g6,g7⟩;exact hQ a2 w2 ⟨rfl,m2,S2,g1,g2,by lia,by lia,k5.trans (by rw[<-k3];exact g5),by lia,g7⟩
  | _=>cases n<;>exact hc.elim
def axy(hO:iZ O){n:Nat}{F:ax}(hF:O.prog n=Gr F){fn:yaY}{c:vB}(mQ:O.P.funcs[O.ae n]? =Gr fn)(kE:fn.body=Gr c)(hc:(comp O.P (O.hint n) c 0 0).1=F.body->∀m S w a,cg O m S w (fa 0 aw) a.tmps->aT O m S w hp ct->(O.hint n).n<=a.tmps.size->a.tmps.size=max fn.ntmps aw.length->O.w0.heap.size<=w.heap.size->a.defers=[]->
   c.wpIn (WF Gs) 0 O.P (fe O m S w ⟨fa 0 aw,hp,ct,ct⟩ .ret s a.tmps.size w.heap.size) a w)(hr:jD s F.c9=Gr v):Dc O n hp ct aw v s.hp s.ct:=by
 intro m S w args hh fj;have⟨fn',q1,q2,q3⟩:=hO.prog n F hF;rw[mQ] at q1;cases q1;have⟨c',q4,q5,q6,q7⟩:=TB q2;rw[kE] at q4;cases q4;refine .inl ⟨GG mQ (by rw[kE];rfl) q3,?_⟩
 have hlen:aw.length=args.size:=by have:=(jE _ _ fj).symm;simpa using this
 have hw:=hc q5.symm m S w {tmps:=args++Array.replicate (fn.ntmps-args.size) undef,defers:=[]} (acB _ fj) hh (by simp;lia) (by simp;lia) hh.gZ rfl
 refine callsIn_of_wp_marks (F:=ybK) mQ kE trivial (wpIn_mono hw ?_);rintro e a' w' ⟨rfl,m',S',k1,k2,k3,k4,k5,k6,rs,k7,k8,k9⟩;show LeavesInM ybK 0 O.P fn a'.tmps (Bq O m S w hp ct v s.hp s.ct) a'.defers .returning w'
 rw[k7];exact Up q6 hr k4 rs w' k8 k9 hh.gZ k2 k1 k5
def arp(hO:iZ O){n:Nat}{F:ax}(hF:O.prog n=Gr F){fn:yaY}{c:vB}(mQ:O.P.funcs[O.ae n]? =Gr fn)(kE:fn.body=Gr c)(hc:(comp O.P (O.hint n) c 0 0).1=F.body->∀m S w a,cg O m S w (fa 0 aw) a.tmps->aT O m S w [] 0->(O.hint n).n<=a.tmps.size->a.tmps.size=max fn.ntmps aw.length->O.w0.heap.size<=w.heap.size->a.defers=[]->
   c.wpIn (WF Gs) 0 O.P (fe O m S w ⟨fa 0 aw,[],0,0⟩ .ret s a.tmps.size w.heap.size) a w){r:AV}(hv:jD s F.c9=Gr v)(hr:result s.hp v=Gr r):eJ O n aw r:=
 Tu (axy hO hF mQ kE hc hv) hr
end
end
section
open Go
def ab0{ae:Nat->Nat}{m:Mp}{S:Nat->Prop}{w:yo}{b:Nat}:∀{ps:List (List Nat)} {o:Nat},cd ae m S w (ps.map .str) b o->
  ∃ts:List ByteArray,(ts.map fun t=>t.data.toList.map xr)=ps/\∀i (h:i<ts.length),w.cell? ⟨b,o+i,Gs⟩=Gr (.string ts[i])
 | [],o,_=>⟨[],rfl,fun i h=>absurd h (Nat.not_lt_zero i)⟩
 | p::ps,o,h=>by
  have⟨⟨u,h1,h2⟩,h3⟩:=h;obtain⟨t,rfl,ht⟩:=h2;have⟨ts,k1,k2⟩:=ab0 h3;refine⟨t::ts,by rw[List.map_cons,ht,k1],fun i hi=>?_⟩
  cases i with
  | zero=>exact h1
  | succ i=>
   grind
def qI(ts:List ByteArray):List UInt8:=(ts.map fun t=>t.data.toList).flatten
def atP{ts:List ByteArray}(h:(ts.map fun t=>t.data.toList.map xr)=ps):(qI ts.reverse).map xr=ps.reverse.flatten:=by
 subst h;unfold qI;rw[List.map_flatten,ycy,<-yaQ];rfl
def atQ{ts:List ByteArray}(h:(ts.map fun t=>t.data.toList.map xr)=ps):(ts.map (·.size)).sum=ps.reverse.flatten.length:=by
 subst h;rw[List.length_flatten,yaQ,List.sum_reverse,ycy]
 congr 1
 simp_all
def Vy(P:Program)(c:vB):Prop:=∀(Q:Exit->Act->yo->Prop) (a:Act) (w:yo) (neg:Bool) (ts:List ByteArray) (b o cc:Nat),a.tmps.size=69->a.tmps.getD 3 undef=.bool neg->a.tmps.getD 6 undef=.slice (Gr ⟨b,o,Gs⟩) ts.length cc->
  (∀i (h:i<ts.length),w.cell? ⟨b,o+i,Gs⟩=Gr (.string ts[i]))->(ts.map (·.size)).sum+1<=140737488355328->ts.length<=cc->ts.length<9223372036854775808->
  (∀a' w',Calm w w'->a'.tmps.size=69->a'.defers=a.defers->a'.tmps.getD 2 undef=.string ⟨((if neg then [45] else [])++qI ts.reverse).toArray⟩->Q .ret a' w')->
  (BI 5 c).wpIn Fence.wide 0 P Q a w
section
variable {O:bC}
def anO{n:Nat}(h:n<18446744073709551616^K):(az n).length<=20*K+1:=by
 refine zm (k:=20*K) (yI h ?_);have h1:(10:Nat)^(20*K)=(10^20)^K:=Nat.pow_mul ..;exact xi (by rw[h1];exact um (by decide) K) (y8 (by decide) (Nat.le_succ _))
def arq(hO:iZ O)(hN:Nu O.prog O.aJ)(FL:O.aJ.pure 138=Gr Cz)(BZ:O.aJ.pure 139=Gr CR)(ID:O.prog 99=Gr F6){fn:yaY}{c:vB}(mQ:O.P.funcs[O.ae 99]? =Gr fn)(kE:fn.body=Gr c)(Ss:fn.ntmps=69)(Yl:RZ 5 c)(ht:Vy O.P c){s z:Int}{e:Bool}{l:List Nat}(hn:dK s (.au e l.length (l.map uc)) z)(kY:0<z.natAbs)(hK:l.length<=4000000000)(Tc:z.natAbs<18446744073709551616^l.length):
  eJ O 99 [.agg [aa s,.au e l.length (l.map uc)]] (.str (bc z)):=by
 have hlen:=anO Tc;have⟨ps,bU,Ta,Cp,e1⟩:=anN (P:=O.prog) (L:=O.aJ) hN FL BZ hn kY Tc hK (by lia)
 refine arp hO ID mQ kE (s:=⟨[(2,.str (bc z))],[(0,.cells ydy ydy false 1 (ps.map .str))],1,0⟩) (v:=.str (bc z)) ?_ rfl rfl;intro az8 m S w a htr hh sM eS hgs Gf;refine afJ hO 5 c 0 0 Yl _ _ (by rw[az8];exact e1) m S w a (fun l hl=>by cases hl) htr hh (yx _) sM hgs (yx _) ⟨[],by rw[Gf];rfl,by simp,by simp⟩ ?_
 rintro a' w' ⟨_,m',S',k1,k2,k3,k4,k5,k6,k7⟩;have r3:=k1 3;have r6:=k1 6;have g3:ai [(3,AV.bool (decide (z<0))),(6,.ay 0 0 ps.length)] 3=.bool (decide (z<0)):=rfl;have g6:ai [(3,AV.bool (decide (z<0))),(6,.ay 0 0 ps.length)] 6=.ay 0 0 ps.length:=rfl;rw[g3] at r3;rw[g6] at r6;simp only[af] at r3 r6;have⟨p,cc,hm,r6,hcc,_⟩:=r6;have⟨p',arr,t,jn,_,_,_,_,_,jm,_⟩:=k2.obj 0 _ p rfl hm;rw[hm] at jn;cases jn;have⟨ts,sK,E9⟩:=ab0 jm;have qV:ts.length=ps.length:=by rw[<-sK,List.length_map]
 have Dx:=atQ sK;rw[<-Cp] at Dx;have Ym:=atP sK;rw[<-Cp] at Ym;refine ht _ a' w' (decide (z<0)) ts p.b p.o cc ?_ r3 (by rw[qV];exact r6) E9 (by lia) (by lia) (by lia) ?_
 .grind
 .intro a2 w2 hc h1 h2 h3;have Na:=Er k2 hc (S':=S') (fun _ h=>h) (fun _ h=>.inl h) (fun b hb=>yI (k2.slt b hb) hc.size);refine⟨rfl,m',S',?_,Na,rfl,Nat.zero_le _,k5.trans (CI k2 hc (fun _ h=>h) (fun _ h=>.inl h)),?_,?_⟩
  .intro i;by_cases hi:i=2
   .subst hi;rw[h3];show af O.ae m' S' w2 (.str (bc z)) _
    simp only[af];refine⟨_,rfl,?_⟩;by_cases h0:z<0
    .rw [oO h0,yN h0];simp only[xS,xB];rw[Ym];rfl
    .obtain ⟨n,rfl⟩:∃n:Nat,z=n:=⟨z.toNat,by lia⟩;rw[yC h0];simp only[yH,xz,xt];rw[Ym];rfl
   .have:ai [(2,AV.str (bc z))] i=.undef:=by
     have hb:yt 2 i=false:=by
      cases hq:yt 2 i with
      | false=>rfl
      | true=>exact absurd (Nat.eq_of_beq_eq_true hq).symm hi
     simp only[ai,hb,yT]
    show af O.ae m' S' w2 (ai [(2,AV.str (bc z))] i) _
    rw[this];simp only[af]
  .rw [h1,eS,Ss];simp
  .rw [h2]
   exact CG k2 (CI (base:=0) k2 hc (fun _ h=>h) (fun _ h=>.inl h)) k7
end
end
end VE
