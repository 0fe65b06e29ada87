import Derived.Test.YtebpicijmcnecaaGreatDoorWap
set_option linter.all false
set_option maxRecDepth 100000
open BitVec renaming ofInt->wz,ofNat->tN,toNat_ofNat->ui
open Bool renaming and_self->wG,false_eq_true->yD,not_false->xj,not_true->xp
open Go renaming Code->vA,Func->ybe,World->yk
open Go.Fence renaming wide->ybH
open Int renaming ediv_emod_unique->yay,gcd->vz,gcd_comm->ycO,natAbs_ediv_of_dvd->th,natCast_mul->xZ,pow_zero->ybl,reduceEq->yba
open List renaming append_assoc->xK,drop_zero->yg,length_append->yJ,length_cons->yv,length_nil->yI,map_append->xG,map_map->ybL,map_reverse->yaX,nil_append->yL
open Nat renaming add_zero->yZ,beq->yo,ble->yC,ble_eq_true_of_le->yy,blt->yM,div_add_mod->xT,div_eq_of_lt->xR,div_le_self->vD,le_refl->yx,le_trans->xu,lt_of_le_of_lt->wA,lt_of_lt_of_le->yG,mod_eq_of_lt->yU,mod_le->ydm,mod_lt->xD,mul_add->xL,mul_le_mul_left->xa,mul_one->yj,mul_zero->xH,pow_le_pow_left->um,pow_le_pow_right->xd,pow_pos->ycI,pow_succ->xq,reduceAdd->yb,reduceEqDiff->ya,reduceLT->yq,reduceLeDiff->yi,reduceMul->xk,zero_add->yd
open Rat renaming den_divInt->ycm,divInt->wU,divInt_ofNat->ybX,lt_iff->ydn,num_divInt->ycl,sub_eq_add_neg->yaT
open UInt8 renaming toNat->xn
open Option renaming some->F5,none->F6
open Bool renaming true->ydo
namespace VE
open Go (IntKind)
variable {P:aF}{L:Lib}
section
variable {v w:AV}{a b:Int}{K:Nat}
def Ei{P:aF}{L:Lib}(a b c:VC)(s:St):D P L (.seq a (.seq b c)) s=rK P L (D P L (.seq a b) s) c:=by
 rw[nS,nS]
 cases D P L a s with
 | none=>rfl
 | some q=>
  have⟨ex,st⟩:=q
  cases ex with
  | normal=>rw[jb,jb,nS]
  | ret=>rfl
  | exit id=>rfl
def aeb{s s':Int}{w':AV}{l l':List Nat}(h:bK w l)(h':bK w' l')(hp:Hp):result hp (.aw [.agg [aa s,w],.agg [aa s',w']])=F5 (.aw [.agg [aa s,w],.agg [aa s',w']]):=by
 rcases h with ⟨rfl,_⟩ | ⟨e,rfl⟩<;>rcases h' with ⟨rfl,_⟩ | ⟨e',rfl⟩<;>rfl
def QC(tm:Env)(hp:Hp)(ct:Nat)(rs:List (Nat×Bool×Nat))(sz:Nat)(p:AV)(new:List AV):gL:=match p with | .ptr id o=>bif jN tm id rs then gO hp ct id o sz new (ak hp id) else F6 | _=>F6
def LX(id:Nat):AV->Bool | .ptr j _=> !yo j id | .bt _=>ydo | _=>false
def GP{P:aF}{L:Lib}(f:cu)(tm:Env)(hp:Hp)(ct:Nat)(rs:List (Nat×Bool×Nat))(sz:Nat)(x v:X):aX P L f tm hp ct (.lM rs sz x v)=QC tm hp ct rs sz (ax tm x) (cellsOf (ax tm v)):=by
 simp only[aX,QC]
 cases hx:ax tm x with
 | ptr id o=>
  rw[abW,hx,afv]
 | _=>rfl
def GQ{tm:Env}{hp:Hp}{ct:Nat}{rs:List (Nat×Bool×Nat)}{sz id o:Nat}{new:List AV}(h:jN tm id rs=ydo):QC tm hp ct rs sz (.ptr id o) new=gO hp ct id o sz new (ak hp id):=by
 simp only[QC,h,yu]
def Gq(tm:Env)(id:Nat):jN tm id []=ydo:=(rfl)
def Gh(tm:Env)(id sz x:Nat)(ag:Bool)(r:List (Nat×Bool×Nat)):jN tm id ((sz,ag,x)::r)=(LX id (aj tm x)&&jN tm id r):=by
 simp only[jN,LX]
 grind
def O3{id j o:Nat}(h:j≠id):LX id (.ptr j o)=ydo:=by simp only[LX,gF h,xj]
def ag1(h:Nu P L)(hv:cD v a)(hw:cD w b)(ka:Bd K a)(kb:Bd K b)(hK:K<=40000000000):∃r,ah P L 156 [v,w] r/\cD r (a-b):=by
 have⟨n,e1,hn⟩:=Ht h hw kb (by lia);have⟨r,e2,hr⟩:=LW h hv hn ka kb.neg hK;have bB:=hr;obtain⟨s1,w1,rfl,h1⟩:=hv;obtain⟨s2,w2,rfl,h2⟩:=hw;obtain⟨s3,w3,rfl,h3⟩:=hn;obtain⟨s4,w4,rfl,h4⟩:=hr;have⟨l1,u1⟩:=h1.aK;have⟨l2,u2⟩:=h2.aK;have⟨l3,u3⟩:=h3.aK;have⟨l4,u4⟩:=h4.aK;refine⟨_,?_,bB⟩;unfold ah;rw[aG h.azT];simp only[go_sem,ya,yb,Wb,aO,u1.pu,u1.ai,u1.one,u2.pu,u2.ai,u2.one,u3.ai,cm,e1,e2,bi,cJ,cK,bY,yg,oQ u4,ep u4]
def ag2(h:Nu P L)(hv:cD v a)(hw:cD w b)(ka:Bd K a)(kb:Bd K b)(hK:K<=40000000000):ah P L 118 [v,w] (aa (bV (a-b))):=by
 have⟨d,e1,hd⟩:=ag1 h hv hw ka kb hK;have e2:=Hs h hd;obtain⟨s1,w1,rfl,h1⟩:=hv;obtain⟨s2,w2,rfl,h2⟩:=hw;obtain⟨s3,w3,rfl,h3⟩:=hd;have⟨l2,u2⟩:=h2.aK;have⟨l3,u3⟩:=h3.aK;unfold ah;rw[aG h.azS];rcases h1 with ⟨rfl,rfl,a1,a2⟩ | ⟨e,l,rfl,ga,na,va,sa,a1⟩
 .rcases h2 with ⟨rfl,rfl,b1,b2⟩ | ⟨e,l,rfl,gb,nb,vb,sb,b1⟩
  .by_cases c1:s1<s2
   .rw [show bV (s1-s2)= -1 by unfold bV;rw[yz (by lia)]];simp only[go_sem,ya,yb,E6,aO,iO,eH,bg,yd,cO,c1]
   .by_cases c2:s2<s1
    .rw [show bV (s1-s2)=1 by unfold bV;rw[yp (by lia),yp (by lia)]];simp only[go_sem,ya,yb,E6,aO,iO,eH,bg,yd,cO,c1,c2]
    .rw [show bV (s1-s2)=0 by unfold bV;rw[yp (by lia),yz (by lia)]];simp only[go_sem,ya,yb,E6,aO,iO,eH,bg,yd,cO,c1,c2]
  .simp only [go_sem,ya,yb,E6,aO,iO,p7,eH,bg,yd,cO,bY,cm,e1,e2,u3.ai,bi]
 .simp only [go_sem,ya,yb,E6,aO,u2.pu,u2.ai,u2.one,p7,eH,bg,yd,cO,bY,cm,e1,e2,u3.ai,bi]
def avu(h:Nu P L){s1 s2:Int}{w1 w2:AV}(ha:dH s1 w1 a)(hb:dH s2 w2 b)(ka:Bd K a)(kb:Bd K b)(hK:K<=40000000000):
  ∃r,cD r (a*b)/\∀tm,aj tm 2=.ptr 0 0->aj tm 3=.ptr 1 0->aj tm 4=.ptr 2 0->gJ [.cell 4 2 ydo] (D P L (aC (aC nU.body)) ⟨tm,[(2,.cells ydo ydo ydo 2 [.int .i64 0,.af]),(1,.cells ydo ydo ydo 2 [aa s2,w2]),(0,.cells ydo ydo ydo 2 [aa s1,w1])],3,0⟩)=F5 r:=by
 have⟨l1,u1⟩:=ha.aK;have⟨l2,u2⟩:=hb.aK;have⟨p,e1,hp⟩:=BM h ha;have⟨q,e2,hq⟩:=BM h hb;have⟨lp,iT,gp,np,vp⟩:=hp.aK;have⟨lq,qW,gq,nq,vq⟩:=hq.aK;have DN:=yG ka (CJ K);have H6:=yG kb (CJ K);have llp:lp.length<=40000000000:=xu (qw np vp DN) hK;have llq:lq.length<=40000000000:=xu (qw nq vq H6) hK;have⟨o,lz,e3,ho,pC,no,vo⟩:=azA h.azI h.nY h.nZ h.iz iT qW gp gq (by lia) (by lia);have⟨r,e4,hr⟩:=Fj h (decide (a<0) !=decide (b<0)) ⟨lz,ho,pC,no,vo⟩ (K:=K+K) (by rw[vp,vq,Nat.pow_add];exact Nat.mul_lt_mul'' DN H6) (by lia)
 rw[vp,vq,ab9] at hr;have bB:=hr;obtain⟨s',w',rfl,lS⟩:=hr;have⟨l',kB⟩:=lS.aK;refine⟨_,bB,fun tm t2 t3 t4=>?_⟩;have AJ:∀x y:Bool,Hn ydo (F5 (x==y))=F5 (.bool (x !=y)):=fun x y=>by cases x<;>cases y<;>rfl
 simp only[go_sem,ya,nU,aC,t2,t3,t4,bY,cm,u1.ai,u2.ai,e1,e2,iT.ai,qW.ai,rL,AJ,e3,ho.ai,ho.shut,e4,bi,cJ,cK,bY,yg,oQ kB,ep kB]
def aps{m:Nat}(h:a.natAbs*b.natAbs=m):a*b=if (decide (a<0)==decide (b<0))=ydo then (m:Int) else 0-(m:Int):=by
 have:=ab9 (a:=a) (b:=b)
 rw[h] at this;unfold cC at this
 cases hd:(decide (a<0)==decide (b<0)) with
 | true=>simp only[bne,hd,xp,yD,xz] at this;exact this.symm
 | false=>simp only[bne,hd,xj,xJ] at this;rw[yp (by decide)];lia
def AA(h:Nu P L)(hv:cD v a)(hw:cD w b)(ka:Bd K a)(kb:Bd K b)(hK:K<=40000000000):∃r,ah P L 100 [v,w] r/\cD r (a*b):=by
 obtain⟨s1,w1,rfl,h1⟩:=hv;obtain⟨s2,w2,rfl,h2⟩:=hw;have⟨l1,u1⟩:=h1.aK;have⟨l2,u2⟩:=h2.aK;have⟨r,hr,tail⟩:=avu h h1 h2 ka kb hK;have fin:∀tm,aj tm 2=.ptr 0 0->aj tm 3=.ptr 1 0->aj tm 4=.ptr 2 0->
   D P L (.seq (bw nU.body) (bw (aC nU.body))) ⟨[(0,.agg [aa s1,w1]),(1,.agg [aa s2,w2])],[],0,0⟩=F5 (.normal,⟨tm,[(2,.cells ydo ydo ydo 2 [.int .i64 0,.af]),(1,.cells ydo ydo ydo 2 [aa s2,w2]),(0,.cells ydo ydo ydo 2 [aa s1,w1])],3,0⟩)->ah P L 100 [.agg [aa s1,w1],.agg [aa s2,w2]] r:=fun tm t2 t3 t4 e=>by
  unfold ah;rw[aG h.QB];show gJ [.cell 4 2 ydo] (D P L (.seq (bw nU.body) (.seq (bw (aC nU.body)) (aC (aC nU.body)))) ⟨[(0,.agg [aa s1,w1]),(1,.agg [aa s2,w2])],[],0,0⟩)=_
  rw[Ei,e,jb];exact tail tm t2 t3 t4
 rcases h1 with ⟨rfl,rfl,a1,a2⟩ | ⟨e,l,rfl,ga,na,va,sa,a1⟩
 .rcases h2 with ⟨rfl,rfl,b1,b2⟩ | ⟨e,l,rfl,gb,nb,vb,sb,b1⟩
  .have f1:=WD h a1 a2;have f2:=WD h b1 b2;have f3:=O1 (P:=P) (f:=D P L) h.nZ (x:=s1.natAbs) (y:=s2.natAbs) (by lia) (by lia);obtain⟨m,hm⟩:∃m,s1.natAbs*s2.natAbs=m:=⟨_,rfl⟩;rw[hm] at f3;have qI:=aps hm;by_cases bZ:m<=9223372036854775807
   .rw [xR (by lia),yU (by lia)] at f3;rw[show (uc 0)=AV.int .u64 0 from rfl] at f3;by_cases hs:(decide (s1<0)==decide (s2<0))=ydo
    .rw [yz hs] at qI;refine⟨.agg [aa (m:Int),.af],?_,by rw[qI];exact dH.rm (by lia) (by lia)⟩
     unfold ah;rw[aG h.QB]
     simp only[go_sem,ya,yb,nU,aO,Ad,iO,eH,KL,rL,bg,yd,cO,f1,f2,f3,show (m:Int)<=9223372036854775807 by lia,hs,O0,wrap64 (n:=(m:Int)) (by lia) (by lia),z6];rfl
    .rw [yp hs] at qI;refine⟨.agg [aa (0-(m:Int)),.af],?_,by rw[qI];exact dH.rm (by lia) (by lia)⟩
     unfold ah;rw[aG h.QB]
     simp only[go_sem,ya,yb,nU,aO,Ad,iO,eH,KL,rL,bg,yd,cO,f1,f2,f3,show (m:Int)<=9223372036854775807 by lia,hs,O0,wrap64 (n:=(m:Int)) (by lia) (by lia),wrap64 (n:=0-(m:Int)) (by lia) (by lia),z6];rfl
   .by_cases DO:m/2^64=0
    .rw [DO,yU (by lia)] at f3;rw[show (uc 0)=AV.int .u64 0 from rfl] at f3;refine⟨r,fin _ ?_ ?_ ?_ (by simp only[go_sem,ya,yb,bw,aC,nU,aO,iO,eH,bg,yd,cO,f1,f2,f3,show ¬(m:Int)<=9223372036854775807 by lia]<;>rfl),hr⟩<;>simp only[go_sem,ya]
    .obtain ⟨q,hq⟩:∃q,q=m/2^64:=⟨_,rfl⟩;rw[<-hq] at f3 DO;refine⟨r,fin _ ?_ ?_ ?_ (by simp only[go_sem,ya,yb,bw,aC,nU,aO,iO,eH,bg,yd,cO,f1,f2,f3,show ¬(q:Int)=0 by lia]<;>rfl),hr⟩<;>simp only[go_sem,ya]
  .refine ⟨r,fin _ ?_ ?_ ?_ (by simp only[go_sem,ya,yb,bw,aC,nU,aO,iO,p7,eH,bg,yd,cO]<;>rfl),hr⟩<;>simp only[go_sem,ya]
 .refine ⟨r,fin _ ?_ ?_ ?_ (by simp only[go_sem,ya,yb,bw,aC,nU,aO,u2.pu,u2.one,p7,eH,bg,yd,cO]<;>rfl),hr⟩<;>simp only[go_sem,ya]
end
def ank{a b:Int}{q r:Nat}(hb:0<b)(h:q=a.natAbs/b.natAbs)(h2:r=a.natAbs%b.natAbs):
  (cC (decide (a<0)) r<0->a/b=cC (decide (a<0)) q-1/\a%b=cC (decide (a<0)) r+b)/\(¬cC (decide (a<0)) r<0->a/b=cC (decide (a<0)) q/\a%b=cC (decide (a<0)) r):=by
 have fR:=xT a.natAbs b.natAbs;have aM:r<b.natAbs:=by rw[h2];exact xD _ (by lia)
 unfold cC;by_cases h0:a<0
 .simp only [h0,yN,xJ];constructor
  .intro h3;refine (yay hb).2 ⟨?_,by lia,by lia⟩
   grind
  .intro h3;refine (yay hb).2 ⟨?_,by lia,by lia⟩
   grind
 .grind
def avv(h:Nu P L){s1 s2:Int}{w1 w2:AV}{a b:Int}{K:Nat}(ha:dH s1 w1 a)(hb:dH s2 w2 b)(dR:0<b)(ka:Bd K a)(kb:Bd K b)(hK:K<=30000000000):
  ∃q r,cD q (a/b)/\cD r (a%b)/\∀tm,aj tm 2=.ptr 0 0->aj tm 3=.ptr 1 0->aj tm 4=.ptr 2 0->aj tm 5=.ptr 3 0->gJ [.cell 4 2 ydo,.cell 5 2 ydo] (D P L (aC (aC nV.body)) ⟨tm,[(3,.cells ydo ydo ydo 2 [.int .i64 0,.af]),(2,.cells ydo ydo ydo 2 [.int .i64 0,.af]),(1,.cells ydo ydo ydo 2 [aa s2,w2]),(0,.cells ydo ydo ydo 2 [aa s1,w1])],4,0⟩)=F5 (.aw [q,r]):=by
 have⟨l1,u1⟩:=ha.aK;have⟨l2,u2⟩:=hb.aK;have⟨p,e1,hp⟩:=BM h ha;have⟨q,e2,hq⟩:=BM h hb;have bI:cD (.agg [aa s2,w2]) b:=⟨s2,w2,rfl,hb⟩;have⟨lp,iT,_⟩:=hp.aK;have⟨lq,qW,_⟩:=hq.aK;have DN:=yG ka (CJ K);have H6:=yG kb (CJ K);have⟨dq,dr,e3,FR,kj⟩:=agW h.toWd hp hq (by lia) DN H6 (by lia);have⟨M2,uq,_⟩:=FR.aK;have⟨lr1,ur,_⟩:=kj.aK;have hqk:a.natAbs/b.natAbs<(2^64)^K:=wA (vD _ _) DN;have hrk:a.natAbs%b.natAbs<(2^64)^K:=wA (ydm _ _) DN;have hqb:a.natAbs/b.natAbs<2^K:=wA (vD _ _) ka;have Yw:a.natAbs%b.natAbs<2^K:=wA (ydm _ _) ka;have⟨f1,f2⟩:=ank (a:=a) dR rfl rfl;generalize a.natAbs/b.natAbs=Q at*
 generalize a.natAbs%b.natAbs=R at*
 have⟨vq,e4,hvq⟩:=Fj h (decide (a<0)) FR hqk (by lia);have⟨vr,e5,MO⟩:=Fj h (decide (a<0)) kj hrk (by lia);have hsq:Bd K (cC (decide (a<0)) Q):=by unfold Bd cC;split<;>lia
 have hsr:Bd K (cC (decide (a<0)) R):=by unfold Bd cC;split<;>lia
 generalize cC (decide (a<0)) R=Rs at*
 have e6:=Hs h MO;have ag3:=hvq;have ag5:=MO;obtain⟨s3,w3,rfl,h3⟩:=hvq;obtain⟨s4,w4,rfl,h4⟩:=MO;have⟨l3,u3⟩:=h3.aK;have⟨l4,u4⟩:=h4.aK;by_cases h0:Rs<0
 .have ⟨g1,g2⟩:=f1 h0;have fV:Bd (K+1) 1:=Bd.mono (k:=1) (by unfold Bd;decide) (by lia)
  have⟨o1,o2⟩:=Fi h (z:=1) (by decide) (by decide);have⟨vq2,e7,WE⟩:=ag1 h ag3 o2 (K:=K+1) (hsq.mono (by lia)) fV (by lia);have⟨vr2,e8,WG⟩:=LW h ag5 bI (K:=K+1) (hsr.mono (by lia)) (kb.mono (by lia)) (by lia);rw[<-g1] at WE;rw[<-g2] at WG;have pk:bV Rs<0:=by unfold bV;rw[yz h0];decide
  have k1:=WE;have k2:=WG;obtain⟨s5,w5,rfl,h5⟩:=WE;obtain⟨s6,w6,rfl,h6⟩:=WG;have⟨l5,u5⟩:=h5.aK;have⟨l6,u6⟩:=h6.aK;refine⟨_,_,k1,k2,fun tm t2 t3 t4 t5=>?_⟩;simp only[go_sem,ya,yb,nV,aC,t2,t3,t4,t5,GP,GQ,Gq,Gh,O3,wG,aO,bY,cm,u1.ai,u2.ai,e1,e2,iT.ai,qW.ai,e3,uq.ai,uq.bJ,ur.ai,ur.bJ,e4,e5,bi,cJ,cK,bY,yg,ep u3,ep u4,u3.ai,u4.ai,e6,pk,o1,e7,e8,cJ,cK,bY,yg,ep u5,ep u6,aeb u5 u6]
 .have ⟨g1,g2⟩:=f2 h0;have pk:¬bV Rs<0:=by unfold bV;rw[yp h0];split<;>decide
  refine⟨_,_,by rw[g1];exact ag3,by rw[g2];exact ag5,fun tm t2 t3 t4 t5=>?_⟩
  simp only[go_sem,ya,yb,nV,aC,t2,t3,t4,t5,GP,GQ,Gq,Gh,O3,wG,aO,bY,cm,u1.ai,u2.ai,e1,e2,iT.ai,qW.ai,e3,uq.ai,uq.bJ,ur.ai,ur.bJ,e4,e5,bi,cJ,cK,bY,yg,ep u3,ep u4,u4.ai,e6,pk,aeb u3 u4]
def ag6(h:Nu P L){v w:AV}{a b:Int}{K:Nat}(hv:cD v a)(hw:cD w b)(dR:0<b)(ka:Bd K a)(kb:Bd K b)(hK:K<=30000000000):∃q r,ah P L 164 [v,w] (.aw [q,r])/\cD q (a/b)/\cD r (a%b):=by
 obtain⟨s1,w1,rfl,h1⟩:=hv;obtain⟨s2,w2,rfl,h2⟩:=hw;have⟨l1,u1⟩:=h1.aK;have⟨l2,u2⟩:=h2.aK;have⟨q,r,hq,hr,tail⟩:=avv h h1 h2 dR ka kb hK;have fin:∀tm,aj tm 2=.ptr 0 0->aj tm 3=.ptr 1 0->aj tm 4=.ptr 2 0->aj tm 5=.ptr 3 0->
   D P L (.seq (bw nV.body) (bw (aC nV.body))) ⟨[(0,.agg [aa s1,w1]),(1,.agg [aa s2,w2])],[],0,0⟩=F5 (.normal,⟨tm,[(3,.cells ydo ydo ydo 2 [.int .i64 0,.af]),(2,.cells ydo ydo ydo 2 [.int .i64 0,.af]),(1,.cells ydo ydo ydo 2 [aa s2,w2]),(0,.cells ydo ydo ydo 2 [aa s1,w1])],4,0⟩)->ah P L 164 [.agg [aa s1,w1],.agg [aa s2,w2]] (.aw [q,r]):=fun tm t2 t3 t4 t5 e=>by
  unfold ah;rw[aG h.WC];show gJ [.cell 4 2 ydo,.cell 5 2 ydo] (D P L (.seq (bw nV.body) (.seq (bw (aC nV.body)) (aC (aC nV.body)))) ⟨[(0,.agg [aa s1,w1]),(1,.agg [aa s2,w2])],[],0,0⟩)=_
  rw[Ei,e,jb];exact tail tm t2 t3 t4 t5
 rcases h1 with ⟨rfl,rfl,a1,a2⟩ | ⟨e,l,rfl,ga,na,va,sa,a1⟩
 .rcases h2 with ⟨rfl,rfl,b1,b2⟩ | ⟨e,l,rfl,gb,nb,vb,sb,b1⟩
  .by_cases hm:s1= -9223372036854775808
   .refine ⟨q,r,fin _ ?_ ?_ ?_ ?_ (by simp only[go_sem,ya,yb,bw,aC,nV,aO,iO,eH,bg,yd,cO,hm]<;>rfl),hq,hr⟩<;>simp only[go_sem,ya]
   .have ⟨f1,f2⟩:=am9 (a:=s1) dR;have bL:s1.tdiv s2=0\/(s1.tdiv s2).natAbs<=s1.natAbs:=.inr (Int.natAbs_tdiv_le_natAbs s1 s2);have et:=Int.tmod_lt_of_pos s1 dR;have od:=Int.lt_tmod_of_pos s1 dR;by_cases h0:s1.tmod s2<0
    .have ⟨g1,g2⟩:=f1 h0;rw[g1,g2];refine⟨.agg [aa (s1.tdiv s2-1),.af],.agg [aa (s1.tmod s2+s2),.af],?_,dH.rm (by lia) (by lia),dH.rm (by lia) (by lia)⟩;unfold ah;rw[aG h.WC]
     simp only[go_sem,ya,yb,nV,aO,Ad,iO,eH,bg,yd,cO,hm,fH _ _ _ (show s2≠0 by lia),eL _ _ _ (show s2≠0 by lia),h0,wrap64 (n:=s1.tdiv s2) (by lia) (by lia),wrap64 (n:=s1.tdiv s2-1) (by lia) (by lia),wrap64 (n:=s1.tmod s2+s2) (by lia) (by lia),z6];rfl
    .have ⟨g1,g2⟩:=f2 h0;rw[g1,g2];refine⟨.agg [aa (s1.tdiv s2),.af],.agg [aa (s1.tmod s2),.af],?_,dH.rm (by lia) (by lia),dH.rm (by lia) (by lia)⟩;unfold ah;rw[aG h.WC]
     simp only[go_sem,ya,yb,nV,aO,Ad,iO,eH,bg,yd,cO,hm,fH _ _ _ (show s2≠0 by lia),eL _ _ _ (show s2≠0 by lia),h0,wrap64 (n:=s1.tdiv s2) (by lia) (by lia),z6];rfl
  .refine ⟨q,r,fin _ ?_ ?_ ?_ ?_ (by simp only[go_sem,ya,yb,bw,aC,nV,aO,iO,p7,eH,bg,yd,cO]<;>rfl),hq,hr⟩<;>simp only[go_sem,ya]
 .refine ⟨q,r,fin _ ?_ ?_ ?_ ?_ (by simp only[go_sem,ya,yb,bw,aC,nV,aO,u2.pu,u2.one,p7,eH,bg,yd,cO]<;>rfl),hq,hr⟩<;>simp only[go_sem,ya]
section
variable {v w:AV}{a b:Int}{l m:List Nat}{K:Nat}
def ag7(h:Nu P L)(hv:cD v a)(hw:cD w b)(dR:0<b)(ka:Bd K a)(kb:Bd K b)(hK:K<=30000000000):∃r,ah P L 148 [v,w] r/\cD r (a/b):=by
 have e1:=Hs h hw;have⟨q,r,e2,hq,hr⟩:=ag6 h hv hw dR ka kb hK;have e3:bV b=1:=by unfold bV;rw[yp (by lia),yp (by lia)]
 rw[e3] at e1;have bL:=hq;obtain⟨s1,w1,rfl,h1⟩:=hv;obtain⟨s2,w2,rfl,h2⟩:=hw;obtain⟨s3,w3,rfl,h3⟩:=hq;obtain⟨s4,w4,rfl,h4⟩:=hr;have⟨l1,u1⟩:=h1.aK;have⟨l2,u2⟩:=h2.aK;have⟨l3,u3⟩:=h3.aK;have⟨l4,u4⟩:=h4.aK;refine⟨_,?_,bL⟩;unfold ah;rw[aG h.azU];simp only[go_sem,ya,yb,Wa,Int.reduceLT,yP,aO,u1.pu,u1.ai,u1.one,u2.pu,u2.ai,u2.one,yd,cm,e1,e2,JD,cJ,cK,bY,yg,oQ u3,ep u3,ep u4]
def avw(h:Nu P L)(G:Nat)(hK:K<=30000000000){o1 o2:AV}:
  ew P L [2,3,4] Kk (fun k s=>∃(x y:Nat) (s1 s2:Int) (w1 w2:AV),s=⟨[(2,.ptr 0 0),(3,.ptr 1 0),(4,.ptr 2 0)],[(2,.cells ydo ydo ydo 2 [o1,o2]),(1,.cells ydo ydo ydo 2 [aa s2,w2]),(0,.cells ydo ydo ydo 2 [aa s1,w1])],3,0⟩/\dH s1 w1 x/\dH s2 w2 y/\Bd K x/\Bd K y/\Nat.gcd x y=G/\y=k) (fun ex s'=>∃tm s1 w1 c1,s'=⟨tm,[(2,.cells ydo ydo ydo 2 [o1,o2]),(1,c1),(0,.cells ydo ydo ydo 2 [aa s1,w1])],3,0⟩/\ex=.exit 0/\aj tm 2=.ptr 0 0/\aj tm 4=.ptr 2 0/\dH s1 w1 G):=by
 apply eE;rintro k s ⟨x,y,s1,s2,w1,w2,rfl,h1,h2,k1,k2,hG,rfl⟩;have⟨l1,u1⟩:=h1.aK;have⟨l2,u2⟩:=h2.aK;have i1:cD (.agg [aa s1,w1]) (x:Int):=⟨s1,w1,rfl,h1⟩;have i2:cD (.agg [aa s2,w2]) (y:Int):=⟨s2,w2,rfl,h2⟩;have e1:=Hs h i2;by_cases fX:y=0
 .right
  subst fX;rw[show bV ((0:Nat):Int)=0 from rfl] at e1;simp only[go_sem,ya,Kk,yN,xp,bY,cm,u2.ai,e1];obtain rfl:x=G:=by rw[<-hG,Nat.gcd_zero_right]
  exact⟨_,_,rfl,by simp,_,s1,w1,_,rfl,rfl,rfl,rfl,h1⟩
 .left
  have e3:bV (y:Int)=1:=by unfold bV;rw[yp (by lia),yp (by lia)]
  rw[e3] at e1;have⟨q,r,e2,hq,hr⟩:=ag6 h i1 i2 (by lia) k1 k2 hK;obtain⟨s3,w3,rfl,h3⟩:=hq;obtain⟨s4,w4,rfl,h4⟩:=hr;have⟨l3,u3⟩:=h3.aK;have⟨l4,u4⟩:=h4.aK;have aM:=xD x (show 0<y by lia);have kr:Bd K ((x%y:Nat):Int):=k2.le (by lia);simp only[go_sem,ya,yb,Kk,GP,GQ,Gq,Gh,O3,wG,yba,yP,xj,aO,bY,cm,u1.ai,u2.ai,e1,e2,JD,bY,yg,ep u2,ep u3,ep u4];refine⟨_,x%y,rfl,aM,y,x%y,s2,s4,w2,w4,?_,h2,h4,k2,kr,by rw[<-hG];exact apg x y fX,rfl⟩
  simp only[go_sem,ya,yb,az]
def ag8(h:Nu P L)(hv:cD v a)(hw:cD w b)(ka:Bd K a)(kb:Bd K b)(hK:K<=30000000000):∃r,ah P L 130 [v,w] r/\cD r (vz a b:Nat):=by
 have⟨va,e1,ha⟩:=ag0 h hv ka (by lia);have⟨vb,e2,hb⟩:=ag0 h hw kb (by lia);obtain⟨s1,w1,rfl,h1⟩:=hv;obtain⟨s2,w2,rfl,h2⟩:=hw;obtain⟨s3,w3,rfl,h3⟩:=ha;obtain⟨s4,w4,rfl,h4⟩:=hb;have⟨l1,u1⟩:=h1.aK;have⟨l2,u2⟩:=h2.aK;have⟨l3,u3⟩:=h3.aK;have⟨l4,u4⟩:=h4.aK;have jY:∃s w,ah P L 130 [.agg [aa s1,w1],.agg [aa s2,w2]] (.agg [aa s,w])/\dH s w (vz a b:Nat):=by
  unfold ah;rw[aG h.azV];simp only[go_sem,ya,yb,V8,aO,u1.pu,u1.ai,u1.one,u2.pu,u2.ai,u2.one,bY,cm,e1,e2,bi,bY,yg,ep u3,ep u4,yd];generalize hq:D P L (.loop _ Kk) _=q;obtain⟨ex,s,rfl,tm,s5,w5,c1,rfl,rfl,t2,t4,h5⟩:=bQ hq (avw (P:=P) (L:=L) h (vz a b) (K:=K) hK (o1:=.int .i64 0) (o2:=.af) b.natAbs) ⟨a.natAbs,b.natAbs,s3,s4,w3,w4,by simp only[go_sem,ya,yb,az],h3,h4,ka,kb,rfl,rfl⟩;have⟨l5,u5⟩:=h5.aK;refine⟨s5,w5,?_,h5⟩;simp only[go_sem,ya,yb,az,t2,t4,cJ,cK,bY,yg,oQ u5,ep u5]
 have⟨s,w,e,hn⟩:=jY;exact⟨_,e,s,w,rfl,hn⟩
def bH(v:AV)(r:Rat):Prop:=∃s1 w1 s2 w2,v=.agg [aa s1,w1,aa s2,w2]/\dH s1 w1 r.num/\dH s2 w2 (r.den:Int)
def Hq(k:Nat)(r:Rat):Prop:=Bd k r.num/\Bd k (r.den:Int)
def Sw(hb:0<b):(wU a b).num=a/(vz a b:Nat)/\((wU a b).den:Int)=b/(vz a b:Nat):=by
 constructor
 .rw [ycl,Int.sign_eq_one_of_pos hb,Int.one_mul,ycO]
 .rw [ycm,yp (by lia),ycO]
  grind
def Hq.divInt{k:Nat}(hb:0<b)(ka:Bd k a)(kb:Bd k b):Hq k (wU a b):=by
 have⟨h1,h2⟩:=Sw (a:=a) hb;refine⟨ka.le ?_,kb.le ?_⟩
 .rw [h1,th (Int.gcd_dvd_left a b)];exact vD _ _
 .rw [h2,th (Int.gcd_dvd_right a b)];exact vD _ _
section
def Eo{tm:Env}{a b x y z:AV}{r:List (Nat×Nat×X)}(h1:db a=ydo)(h2:db b=ydo):fJ tm [x,y,z,w] 0 2 [a,b] r=fill tm [a,b,z,w] r:=by
 rw[nI (by rfl) (by simp) (by simp[bP,h1,h2])];rfl
def Ep{tm:Env}{a b x y z:AV}{r:List (Nat×Nat×X)}(h1:db a=ydo)(h2:db b=ydo):fJ tm [x,y,z,w] 2 2 [a,b] r=fill tm [x,y,a,b] r:=by
 rw[nI (by rfl) (by simp) (by simp[bP,h1,h2])];rfl
def lf{s t:Int}(hv:bK v l)(hw:bK w m)(hp:Hp)(ct id:Nat)(a b x y:AV):gO hp ct id 0 4 [.int .i64 s,v,.int .i64 t,w] (F5 (.cells ydo ydo ydo 4 [a,b,x,y]))=F5 (.aw [],aU hp id (.cells ydo ydo ydo 4 [.int .i64 s,v,.int .i64 t,w]),ct):=by
 rw[Am (by rfl) (by simp) (by simp[bP,hv.one,hw.one,adg])];simp[aE,hv.pu,hw.pu,over,ad3]
def lh{s t:Int}(hv:bK v l)(hw:bK w m)(hp:Hp):result hp (.agg [aa s,v,aa t,w])=F5 (.agg [aa s,v,aa t,w]):=by
 rcases hv with ⟨rfl,_⟩ | ⟨e,rfl⟩<;>rcases hw with ⟨rfl,_⟩ | ⟨e',rfl⟩<;>rfl
variable {P:aF}{L:Lib}
structure Fr'(P:aF)(L:Lib):Prop extends Nu P L where
 azW:Has P L 101 oV
 Yx:Has P L 69 XX
 azX:Has P L 111 V7
 h98:Has P L 98 Ry
 azY:Has P L 108 V6
 azZ:Has P L 102 V5
 h74:Has P L 74 MF
 Yy:Has P L 50 XW
 qY:Has P L 49 c49
 h73:Has P L 73 X0
 h70:Has P L 70 XY
 h71:Has P L 71 XZ
 aFz:Has P L 149 agu
def aec(h:Fr' P L){s1 s2:Int}{w1 w2:AV}(h1:dH s1 w1 a)(h2:dH s2 w2 b)(dR:0<b)(ka:Bd K a)(kb:Bd K b)(hK:K<=30000000000):
  ∃r,bH r (wU a b)/\∀tm,aj tm 2=.ptr 0 0->aj tm 3=.ptr 1 0->aj tm 4=.ptr 2 0->gJ [.cell 4 4 ydo] (D P L (aC (aC oV.body)) ⟨tm,[(2,.cells ydo ydo ydo 4 [.int .i64 0,.af,.int .i64 0,.af]),(1,.cells ydo ydo ydo 2 [aa s2,w2]),(0,.cells ydo ydo ydo 2 [aa s1,w1])],3,0⟩)=F5 r:=by
 have hv:cD (.agg [aa s1,w1]) a:=⟨s1,w1,rfl,h1⟩;have hw:cD (.agg [aa s2,w2]) b:=⟨s2,w2,rfl,h2⟩;have⟨p1,p2⟩:=Sw (a:=a) dR;have hgp:=OE (a:=a) dR;have hgk:Bd K ((vz a b:Nat):Int):=kb.le (by
  have:=Int.gcd_le_natAbs_right a (show b≠0 by lia)
  lia)
 have⟨g,e2,hg⟩:=ag8 h.toNu hv hw ka kb hK;have⟨q1,e4,fY⟩:=ag7 h.toNu hv hg hgp ka hgk hK;have⟨q2,e5,DI⟩:=ag7 h.toNu hw hg hgp kb hgk hK;rw[<-p1] at fY;rw[<-p2] at DI;obtain⟨s3,w3,rfl,h3⟩:=hg;obtain⟨s4,w4,rfl,h4⟩:=fY;obtain⟨s5,w5,rfl,h5⟩:=DI;have⟨l1,u1⟩:=h1.aK;have⟨l2,u2⟩:=h2.aK;have⟨l3,u3⟩:=h3.aK;have⟨l4,u4⟩:=h4.aK;have⟨l5,u5⟩:=h5.aK;by_cases gV:w2=.af/\s2=1
 .obtain ⟨rfl,rfl⟩:=gV;have fV:b=1:=by
   rcases h2 with ⟨_,h,_⟩ | ⟨_,_,h,_⟩
   .exact h.symm
   .cases h
  subst fV;rw[Int.gcd_one] at p1 p2;have p1:(wU a 1).num=a:=by rw[p1];exact Int.ediv_one a
  refine⟨.agg [aa s1,w1,aa 1,.af],⟨s1,w1,1,.af,rfl,by rw[p1];exact h1,by rw[p2];exact h2⟩,fun tm t2 t3 t4=>?_⟩
  have un:=zX;simp only[go_sem,ya,oV,aC,t2,t3,t4,u1.one,bY,bg,yd,cO,iO,eH,Eo,Ep,lf u1 un,cJ,cK,yg,gS,lh u1 un]
 .refine ⟨.agg [aa s4,w4,aa s5,w5],⟨s4,w4,s5,w5,rfl,h4,h5⟩,fun tm t2 t3 t4=>?_⟩;rcases u2 with ⟨rfl,_⟩ | ⟨e,rfl⟩
  .simp only [go_sem,ya,yb,oV,aC,t2,t3,t4,aO,u1.ai,bY,cm,bg,yd,cO,iO,eH,show ¬s2=1 from fun e=>gV ⟨rfl,e⟩,e2,e4,e5,bi,cJ,cK,bY,yg,ep u3,u3.ai,u4.one,u5.one,Eo,Ep,lf u4 u5,gS,lh u4 u5]
  .simp only [go_sem,ya,yb,oV,aC,t2,t3,t4,aO,u1.ai,bY,cm,bg,yd,cO,p7,eH,e2,e4,e5,bi,cJ,cK,bY,yg,ep u3,u3.ai,u4.one,u5.one,Eo,Ep,lf u4 u5,gS,lh u4 u5]
def WH(h:Fr' P L)(hv:cD v a)(hw:cD w b)(dR:b≠0)(ka:Bd K a)(kb:Bd K b)(hK:K<=30000000000):∃r,ah P L 101 [v,w] r/\bH r (wU a b):=by
 have e1:=Hs h.toNu hw;have eV:=hv;have Yz:=hw;obtain⟨s1,w1,rfl,h1⟩:=hv;obtain⟨s2,w2,rfl,h2⟩:=hw;have⟨l1,u1⟩:=h1.aK;have⟨l2,u2⟩:=h2.aK;have fin:∀r t1 t2 v1 v2 tm,(∀tm,aj tm 2=.ptr 0 0->aj tm 3=.ptr 1 0->aj tm 4=.ptr 2 0->gJ [.cell 4 4 ydo] (D P L (aC (aC oV.body)) ⟨tm,[(2,.cells ydo ydo ydo 4 [.int .i64 0,.af,.int .i64 0,.af]),(1,.cells ydo ydo ydo 2 [aa t2,v2]),(0,.cells ydo ydo ydo 2 [aa t1,v1])],3,0⟩)=F5 r)->aj tm 2=.ptr 0 0->aj tm 3=.ptr 1 0->aj tm 4=.ptr 2 0->
   D P L (.seq (bw oV.body) (bw (aC oV.body))) ⟨[(0,.agg [aa s1,w1]),(1,.agg [aa s2,w2])],[],0,0⟩=F5 (.normal,⟨tm,[(2,.cells ydo ydo ydo 4 [.int .i64 0,.af,.int .i64 0,.af]),(1,.cells ydo ydo ydo 2 [aa t2,v2]),(0,.cells ydo ydo ydo 2 [aa t1,v1])],3,0⟩)->ah P L 101 [.agg [aa s1,w1],.agg [aa s2,w2]] r:=fun r t1 t2 v1 v2 tm tail k2 k3 k4 e=>by
  unfold ah;rw[aG h.azW];show gJ [.cell 4 4 ydo] (D P L (.seq (bw oV.body) (.seq (bw (aC oV.body)) (aC (aC oV.body)))) ⟨[(0,.agg [aa s1,w1]),(1,.agg [aa s2,w2])],[],0,0⟩)=_
  rw[Ei,e,jb];exact tail tm k2 k3 k4
 by_cases hn:b<0
 .have ⟨n1,e2,lU⟩:=Ht h.toNu eV ka (by lia);have⟨n2,e3,cE⟩:=Ht h.toNu Yz kb (by lia);obtain⟨s3,w3,rfl,h3⟩:=lU;obtain⟨s4,w4,rfl,h4⟩:=cE;have⟨l3,u3⟩:=h3.aK;have⟨l4,u4⟩:=h4.aK;have⟨r,hr,tail⟩:=aec h h3 h4 (by lia) ka.neg kb.neg hK;rw[Rat.neg_divInt_neg] at hr;have hs:bV b<0:=by unfold bV;rw[yz hn];decide
  refine⟨r,fin r _ _ _ _ _ tail ?_ ?_ ?_ (by simp only[go_sem,ya,yb,oV,bw,aC,hs,aO,u1.pu,u1.ai,u1.one,u2.pu,u2.ai,u2.one,bY,cm,e1,e2,e3,bi,ep u3,ep u4]<;>rfl),hr⟩<;>simp only[go_sem,ya]
 .have ⟨r,hr,tail⟩:=aec h h1 h2 (by lia) ka kb hK;have hs:¬bV b<0:=by unfold bV;rw[yp hn];split<;>decide
  refine⟨r,fin r _ _ _ _ _ tail ?_ ?_ ?_ (by simp only[go_sem,ya,yb,oV,bw,aC,hs,aO,u1.pu,u1.one,u2.pu,u2.ai,u2.one,bY,cm,e1]<;>rfl),hr⟩<;>simp only[go_sem,ya]
end
end
section
variable {v w:AV}{K k m:Nat}{a b:Rat}
def Hq.mono{r:Rat}(h:Hq k r)(hk:k<=m):Hq m r:=⟨h.1.mono hk,h.2.mono hk⟩
def Hq.neg{r:Rat}(h:Hq k r):Hq k (-r):=⟨h.1.neg,h.2⟩
def add_eq(a b:Rat):a+b=wU (a.num*b.den+b.num*a.den) ((a.den:Int)*b.den):=by
 rw[Rat.add_def',<-ybX,xZ]
def mul_eq(a b:Rat):a*b=wU (a.num*b.num) ((a.den:Int)*b.den):=by
 rw[Rat.mul_def',<-ybX,xZ]
def aca(a:Rat):0<(a.den:Int):=by have:=a.den_pos;lia
def Js(a b:Rat):0<(a.den:Int)*b.den:=Int.mul_pos (aca a) (aca b)
def Bd.WI{a b:Int}(ha:Bd k a)(hb:Bd k b):Bd (k+1) (a+b):=by
 have:=ha.add hb
 grind
def Hq.add(ha:Hq k a)(hb:Hq m b):Hq (k+m+1) (a+b):=by
 rw[add_eq];refine Hq.divInt (Js a b) ?_ ((ha.2.mul hb.2).mono (by lia));exact (ha.1.mul hb.2).WI ((hb.1.mul ha.2).mono (by lia))
def Hq.mul(ha:Hq k a)(hb:Hq m b):Hq (k+m) (a*b):=by
 rw[mul_eq];exact Hq.divInt (Js a b) (ha.1.mul hb.1) (ha.2.mul hb.2)
def Hq.sub(ha:Hq k a)(hb:Hq m b):Hq (k+m+1) (a-b):=by
 rw[yaT];exact ha.add hb.neg
def Hq.inv(ha:Hq k a):Hq k a⁻¹:=by
 have h1:(a⁻¹).num.natAbs<=a.den:=by
  rw[Rat.num_inv,Int.natAbs_mul]
  grind
 refine⟨ha.2.le (by simpa using h1),?_⟩;unfold Bd;rw[Rat.den_inv]
 split
 .have h2:=ha.2;unfold Bd at h2
  simp_all
 .exact ha.1
def Hq.div(ha:Hq k a)(hb:Hq m b):Hq (k+m) (a/b):=by
 rw[Rat.div_def];exact ha.mul hb.inv
def rS(a b:Rat):Int:=if a<b then -1 else if a=b then 0 else 1
def arL(a b:Rat):bV (a.num*b.den-b.num*a.den)=rS a b:=by
 unfold bV rS;by_cases h:a<b
 .rw [yz h]
  have:=(ydn a b).1 h
  grind
 .rw [yp h];have h1:¬a.num*b.den<b.num*a.den:=fun e=>h ((ydn a b).2 e)
  rw[yp (by lia)];by_cases h2:a=b
  .grind
  .rw [yp h2,yp (by have:¬a.num*b.den=b.num*a.den:=fun e=>h2 (Rat.eq_iff_mul_eq_mul.2 e);lia)]
def Uw(a:Rat)(h:a.den=1):a=(a.num:Rat):=by
 have:=Rat.num_divInt_den a
 rw[h] at this;rw[<-this];exact (Rat.ext (by simp[ycl]) (by simp[ycm]))
def C0(a b c d:AV)(r:List AV):fU 2 ydo (List.drop 2 (a::b::c::d::r))=F5 (.agg [c,d]):=rfl
def sW(a b:AV)(r:List AV):fU 2 ydo (a::b::r)=F5 (.agg [a,b]):=rfl
def WJ(h:Fr' P L){z:Int}(hv:cD v z):∃r,ah P L 111 [v] r/\bH r (z:Rat):=by
 have⟨o1,o2⟩:=Fi h.toNu (z:=1) (by decide) (by decide);obtain⟨s1,w1,rfl,h1⟩:=hv;have⟨l1,u1⟩:=h1.aK;have un:=zX;refine⟨.agg [aa s1,w1,aa 1,.af],?_,s1,w1,1,.af,rfl,h1,.inl ⟨rfl,rfl,(by show (-9223372036854775808:Int)<=1;decide),(by show (1:Int)<9223372036854775808;decide)⟩⟩
 unfold ah;rw[aG h.azX];simp only[go_sem,ya,yb,V7,aO,u1.pu,u1.one,bY,o1,bi,Eo,Ep,lf u1 un,cJ,cK,yg,gS,lh u1 un]
def DP(h:Fr' P L){z:Int}(h1: -9223372036854775808<=z)(h2:z<9223372036854775808):∃r,ah P L 69 [aa z] r/\bH r (z:Rat):=by
 have⟨o1,o2⟩:=Fi h.toNu h1 h2;have⟨r,e,hr⟩:=WJ h o2;have bB:=hr;obtain⟨s1,w1,s2,w2,rfl,k1,k2⟩:=hr;have⟨l1,u1⟩:=k1.aK;have⟨l2,u2⟩:=k2.aK;refine⟨_,?_,bB⟩;unfold ah;rw[aG h.Yx];simp only[go_sem,ya,yb,XX,aO,cm,o1,e,bi,lf u1 u2,cJ,cK,yg,gS,lh u1 u2]
def YA(h:Fr' P L)(hv:bH v a):ah P L 98 [v] (.bool (decide (a.den=1))):=by
 obtain⟨s1,w1,s2,w2,rfl,h1,h2⟩:=hv;have⟨l1,u1⟩:=h1.aK;unfold ah;rw[aG h.h98];rcases h2 with ⟨rfl,rfl,b1,b2⟩ | ⟨e,l,rfl,gb,nb,vb,sb,b1⟩
 .have e:decide (((a.den:Nat):Int)=1)=decide (a.den=1):=by simp;lia
  simp only[go_sem,ya,yb,Ry,aO,u1.pu,u1.one,bg,yd,axS,afw,iO,eH,e]
 .have e:decide (a.den=1)=false:=yY (by lia);rw[e];simp only[go_sem,ya,yb,Ry,aO,u1.pu,u1.one,bg,yd,afw,p7,eH]
def Hu(h:Fr' P L)(hv:bH v a):ah P L 108 [v] (aa (bV a.num)):=by
 obtain⟨s1,w1,s2,w2,rfl,h1,h2⟩:=hv;have⟨l1,u1⟩:=h1.aK;have⟨l2,u2⟩:=h2.aK;have e1:=Hs h.toNu ⟨s1,w1,rfl,h1⟩;unfold ah;rw[aG h.azY];simp only[go_sem,ya,yb,V6,aO,u1.pu,u1.ai,u1.one,u2.pu,u2.one,bg,yd,sW,cm,e1]
def az0(h:Fr' P L)(hv:bH v a)(ka:Hq K a)(hK:K<=30000000000):∃r,ah P L 102 [v] r/\bH r (-a):=by
 obtain⟨s1,w1,s2,w2,rfl,h1,h2⟩:=hv;have⟨l1,u1⟩:=h1.aK;have⟨l2,u2⟩:=h2.aK;have⟨n,e1,hn⟩:=Ht h.toNu ⟨s1,w1,rfl,h1⟩ ka.1 (by lia);obtain⟨s3,w3,rfl,h3⟩:=hn;have⟨l3,u3⟩:=h3.aK;refine⟨.agg [aa s3,w3,aa s2,w2],?_,s3,w3,s2,w2,rfl,h3,h2⟩;unfold ah;rw[aG h.azZ];simp only[go_sem,ya,yb,V5,aO,u1.pu,u1.ai,u1.one,u2.pu,u2.one,u3.one,bg,yd,sW,C0,cm,e1,bi,Eo,Ep,lf u3 u2,cJ,cK,yg,gS,lh u3 u2]
def pE(h:Fr' P L)(hv:bH v a)(hw:bH w b)(ka:Hq K a)(kb:Hq K b)(hK:K<=10000000000):∃r,ah P L 74 [v,w] r/\bH r (a+b):=by
 have i1:=YA h hv;have i2:=YA h hw;obtain⟨s1,w1,s2,w2,rfl,h1,h2⟩:=hv;obtain⟨s3,w3,s4,w4,rfl,h3,h4⟩:=hw;have⟨l1,u1⟩:=h1.aK;have⟨l2,u2⟩:=h2.aK;have⟨l3,u3⟩:=h3.aK;have⟨l4,u4⟩:=h4.aK;have n1:cD (.agg [aa s1,w1]) a.num:=⟨s1,w1,rfl,h1⟩;have n2:cD (.agg [aa s2,w2]) a.den:=⟨s2,w2,rfl,h2⟩;have n3:cD (.agg [aa s3,w3]) b.num:=⟨s3,w3,rfl,h3⟩;have n4:cD (.agg [aa s4,w4]) b.den:=⟨s4,w4,rfl,h4⟩;by_cases RJ:a.den=1/\b.den=1
 .have ⟨d1,d2⟩:=RJ;have⟨p,e1,hp⟩:=LW h.toNu n1 n3 ka.1 kb.1 (by lia);have⟨r,e2,hr⟩:=WJ h hp;have he:((a.num+b.num:Int):Rat)=a+b:=by
   rw[Rat.intCast_add,<-Uw a d1,<-Uw b d2]
  rw[he] at hr;have bB:=hr;obtain⟨s5,w5,rfl,h5⟩:=hp;obtain⟨s6,w6,s7,w7,rfl,h6,h7⟩:=hr;have⟨l5,u5⟩:=h5.aK;have⟨l6,u6⟩:=h6.aK;have⟨l7,u7⟩:=h7.aK;refine⟨_,?_,bB⟩;rw[d1] at i1;rw[d2] at i2;unfold ah;rw[aG h.h74];simp only[go_sem,ya,yb,MF,aO,u1.pu,u1.ai,u1.one,u2.pu,u2.ai,u2.one,u3.pu,u3.ai,u3.one,u4.pu,u4.ai,u4.one,bg,yd,gS,sW,cm,i1,i2,e1,u5.ai,e2,bi,lf u6 u7,cJ,cK,yg,gS,lh u6 u7]
 .have ⟨p1,e1,aY⟩:=AA h.toNu n1 n4 ka.1 kb.2 (by lia);have⟨p2,e2,jE⟩:=AA h.toNu n3 n2 kb.1 ka.2 (by lia);have⟨p3,e3,hp3⟩:=LW h.toNu aY jE (ka.1.mul kb.2) (kb.1.mul ka.2) (by lia);have⟨p4,e4,RW⟩:=AA h.toNu n2 n4 ka.2 kb.2 (by lia);have⟨r,e5,hr⟩:=WH h hp3 RW (by have:=Js a b;lia) ((ka.1.mul kb.2).WI (kb.1.mul ka.2)) ((ka.2.mul kb.2).mono (by lia)) (by lia)
  rw[<-add_eq] at hr;have bB:=hr;obtain⟨s5,w5,rfl,h5⟩:=aY;obtain⟨s6,w6,rfl,h6⟩:=jE;obtain⟨s7,w7,rfl,h7⟩:=hp3;obtain⟨s8,w8,rfl,h8⟩:=RW;obtain⟨s9,w9,s10,w10,rfl,h9,iW⟩:=hr;have⟨l5,u5⟩:=h5.aK;have⟨l6,u6⟩:=h6.aK;have⟨l7,u7⟩:=h7.aK;have⟨l8,u8⟩:=h8.aK;have⟨l9,u9⟩:=h9.aK;have⟨l10,sB⟩:=iW.aK;refine⟨_,?_,bB⟩;unfold ah;rw[aG h.h74];by_cases d1:a.den=1
  .rw [d1] at i1;rw[yY (fun d2=>RJ ⟨d1,d2⟩)] at i2;simp only[go_sem,ya,yb,MF,aO,u1.pu,u1.ai,u1.one,u2.pu,u2.ai,u2.one,u3.pu,u3.ai,u3.one,u4.pu,u4.ai,u4.one,bg,yd,gS,sW,C0,cm,i1,i2,e1,e2,u5.ai,u6.ai,e3,e4,u7.ai,u8.ai,e5,bi,lf u9 sB,cJ,cK,yg,gS,lh u9 sB]
  .rw [yY d1] at i1;simp only[go_sem,ya,yb,MF,aO,u1.pu,u1.ai,u1.one,u2.pu,u2.ai,u2.one,u3.pu,u3.ai,u3.one,u4.pu,u4.ai,u4.one,bg,yd,gS,sW,C0,cm,i1,e1,e2,u5.ai,u6.ai,e3,e4,u7.ai,u8.ai,e5,bi,lf u9 sB,cJ,cK,yg,gS,lh u9 sB]
def m50(h:Fr' P L)(hv:bH v a)(hw:bH w b)(ka:Hq K a)(kb:Hq K b)(hK:K<=10000000000):∃r,ah P L 50 [v,w] r/\bH r (a-b):=by
 have⟨n,e1,hn⟩:=az0 h hw kb (by lia);have⟨r,e2,hr⟩:=pE h hv hn ka kb.neg hK;rw[<-yaT] at hr;have bB:=hr;obtain⟨s1,w1,s2,w2,rfl,h1,h2⟩:=hv;obtain⟨s3,w3,s4,w4,rfl,h3,h4⟩:=hw;obtain⟨s5,w5,s6,w6,rfl,h5,h6⟩:=hn;obtain⟨s7,w7,s8,w8,rfl,h7,h8⟩:=hr;have⟨l1,u1⟩:=h1.aK;have⟨l2,u2⟩:=h2.aK;have⟨l3,u3⟩:=h3.aK;have⟨l4,u4⟩:=h4.aK;have⟨l5,u5⟩:=h5.aK;have⟨l6,u6⟩:=h6.aK;have⟨l7,u7⟩:=h7.aK;have⟨l8,u8⟩:=h8.aK;refine⟨_,?_,bB⟩;unfold ah;rw[aG h.Yy];simp only[go_sem,ya,yb,XW,aO,u1.pu,u1.ai,u1.one,u2.pu,u2.ai,u2.one,u3.pu,u3.ai,u3.one,u4.pu,u4.ai,u4.one,u5.ai,u6.ai,gS,cm,e1,e2,bi,lf u7 u8,cJ,cK,yg,gS,lh u7 u8]
def DQ(h:Fr' P L)(hv:bH v a)(hw:bH w b)(ka:Hq K a)(kb:Hq K b)(hK:K<=10000000000):∃r,ah P L 49 [v,w] r/\bH r (a*b):=by
 obtain⟨s1,w1,s2,w2,rfl,h1,h2⟩:=hv;obtain⟨s3,w3,s4,w4,rfl,h3,h4⟩:=hw;have⟨l1,u1⟩:=h1.aK;have⟨l2,u2⟩:=h2.aK;have⟨l3,u3⟩:=h3.aK;have⟨l4,u4⟩:=h4.aK;have⟨p1,e1,aY⟩:=AA h.toNu (v:=.agg [aa s1,w1]) (w:=.agg [aa s3,w3]) ⟨s1,w1,rfl,h1⟩ ⟨s3,w3,rfl,h3⟩ ka.1 kb.1 (by lia);have⟨p2,e2,jE⟩:=AA h.toNu (v:=.agg [aa s2,w2]) (w:=.agg [aa s4,w4]) ⟨s2,w2,rfl,h2⟩ ⟨s4,w4,rfl,h4⟩ ka.2 kb.2 (by lia);have⟨r,e3,hr⟩:=WH h aY jE (by have:=Js a b;lia) (ka.1.mul kb.1) (ka.2.mul kb.2) (by lia)
 rw[<-mul_eq] at hr;have bB:=hr;obtain⟨s5,w5,rfl,h5⟩:=aY;obtain⟨s6,w6,rfl,h6⟩:=jE;obtain⟨s7,w7,s8,w8,rfl,h7,h8⟩:=hr;have⟨l5,u5⟩:=h5.aK;have⟨l6,u6⟩:=h6.aK;have⟨l7,u7⟩:=h7.aK;have⟨l8,u8⟩:=h8.aK;refine⟨_,?_,bB⟩;unfold ah;rw[aG h.qY];simp only[go_sem,ya,yb,c49,aO,u1.pu,u1.ai,u1.one,u2.pu,u2.ai,u2.one,u3.pu,u3.ai,u3.one,u4.pu,u4.ai,u4.one,u5.ai,u6.ai,bg,yd,sW,C0,cm,e1,e2,e3,bi,lf u7 u8,cJ,cK,yg,gS,lh u7 u8]
def m73(h:Fr' P L)(hv:bH v a)(h0:a≠0)(ka:Hq K a)(hK:K<=10000000000):∃r,ah P L 73 [v] r/\bH r a⁻¹:=by
 obtain⟨s1,w1,s2,w2,rfl,h1,h2⟩:=hv;have⟨l1,u1⟩:=h1.aK;have⟨l2,u2⟩:=h2.aK;have⟨r,e1,hr⟩:=WH h (v:=.agg [aa s2,w2]) (w:=.agg [aa s1,w1]) ⟨s2,w2,rfl,h2⟩ ⟨s1,w1,rfl,h1⟩ (fun e=>h0 (Rat.num_eq_zero.1 e)) ka.2 ka.1 (by lia);rw[<-Rat.inv_def] at hr;have bB:=hr;obtain⟨s7,w7,s8,w8,rfl,h7,h8⟩:=hr;have⟨l7,u7⟩:=h7.aK;have⟨l8,u8⟩:=h8.aK;refine⟨_,?_,bB⟩;unfold ah;rw[aG h.h73];simp only[go_sem,ya,yb,X0,aO,u1.pu,u1.ai,u1.one,u2.pu,u2.ai,u2.one,bg,yd,sW,C0,cm,e1,bi,lf u7 u8,cJ,cK,yg,gS,lh u7 u8]
def M3(h:Fr' P L)(hv:bH v a)(hw:bH w b)(h0:b≠0)(ka:Hq K a)(kb:Hq K b)(hK:K<=10000000000):∃r,ah P L 70 [v,w] r/\bH r (a/b):=by
 have⟨n,e1,hn⟩:=m73 h hw h0 kb hK;have⟨r,e2,hr⟩:=DQ h hv hn ka kb.inv hK;have bB:=hr;obtain⟨s1,w1,s2,w2,rfl,h1,h2⟩:=hv;obtain⟨s3,w3,s4,w4,rfl,h3,h4⟩:=hw;obtain⟨s5,w5,s6,w6,rfl,h5,h6⟩:=hn;obtain⟨s7,w7,s8,w8,rfl,h7,h8⟩:=hr;have⟨l1,u1⟩:=h1.aK;have⟨l2,u2⟩:=h2.aK;have⟨l3,u3⟩:=h3.aK;have⟨l4,u4⟩:=h4.aK;have⟨l5,u5⟩:=h5.aK;have⟨l6,u6⟩:=h6.aK;have⟨l7,u7⟩:=h7.aK;have⟨l8,u8⟩:=h8.aK;refine⟨_,?_,bB⟩;unfold ah;rw[aG h.h70];simp only[go_sem,ya,yb,XY,aO,u1.pu,u1.ai,u1.one,u2.pu,u2.ai,u2.one,u3.pu,u3.ai,u3.one,u4.pu,u4.ai,u4.one,u5.ai,u6.ai,gS,cm,e1,e2,bi,lf u7 u8,cJ,cK,yg,gS,lh u7 u8]
def m71(h:Fr' P L)(hv:bH v a)(hw:bH w b)(ka:Hq K a)(kb:Hq K b)(hK:K<=10000000000):ah P L 71 [v,w] (aa (rS a b)):=by
 obtain⟨s1,w1,s2,w2,rfl,h1,h2⟩:=hv;obtain⟨s3,w3,s4,w4,rfl,h3,h4⟩:=hw;have⟨l1,u1⟩:=h1.aK;have⟨l2,u2⟩:=h2.aK;have⟨l3,u3⟩:=h3.aK;have⟨l4,u4⟩:=h4.aK;have⟨p1,e1,aY⟩:=AA h.toNu (v:=.agg [aa s1,w1]) (w:=.agg [aa s4,w4]) ⟨s1,w1,rfl,h1⟩ ⟨s4,w4,rfl,h4⟩ ka.1 kb.2 (by lia);have⟨p2,e2,jE⟩:=AA h.toNu (v:=.agg [aa s3,w3]) (w:=.agg [aa s2,w2]) ⟨s3,w3,rfl,h3⟩ ⟨s2,w2,rfl,h2⟩ kb.1 ka.2 (by lia);have e3:=ag2 h.toNu aY jE (ka.1.mul kb.2) (kb.1.mul ka.2) (by lia);rw[arL] at e3;obtain⟨s5,w5,rfl,h5⟩:=aY;obtain⟨s6,w6,rfl,h6⟩:=jE;have⟨l5,u5⟩:=h5.aK;have⟨l6,u6⟩:=h6.aK;unfold ah;rw[aG h.h71];simp only[go_sem,ya,yb,XZ,aO,u1.pu,u1.ai,u1.one,u2.pu,u2.ai,u2.one,u3.pu,u3.ai,u3.one,u4.pu,u4.ai,u4.one,u5.ai,u6.ai,bg,yd,sW,C0,cm,e1,e2,e3,bi]
end
def Ae:List AV->Option (List Nat)
 | []=>F5 []
 | .int .u64 (.ofNat d)::r=>bif yM d 18446744073709551616 then (match Ae r with | some l=>F5 (d::l) | none=>F6) else F6
 | _::_=>F6
def AB:List Nat->Nat
 | []=>0
 | a::r=>a+18446744073709551616*AB r
def C1:List Nat->Bool
 | []=>false
 | [a]=> !yo a 0
 | _::r=>C1 r
def OJ:List AV->Option AV
 | [.agg [.int .i64 s,.af]]=>bif CX s then F5 (.str (bf s)) else F6
 | [.agg [.int .i64 s,.ap _ n cs]]=>
  match Ae cs with
  | some l=>
   bif yo l.length n&&(yC n 4000000000&&(C1 l&&yC 9223372036854775808 (AB l))) then
    match s with
    | .ofNat 1=>F5 (.str (aA (AB l)))
    | .negSucc 0=>F5 (.str (45::aA (AB l)))
    | _=>F6
   else F6
  | none=>F6
 | _=>F6
def aad:∀{l:List Nat},lo (2^64) l->Ae (l.map uc)=F5 l
 | [],_=>rfl
 | a::l,h=>by
  have h1:=h a (by simp);have h2:=aad (l:=l) (fun x hx=>h x (by simp[hx]));show (bif yM a (2^64) then (match Ae (l.map uc) with | some l=>F5 (a::l) | none=>F6) else F6)=_
  rw[mv h1,h2];rfl
def Ux:∀l:List Nat,AB l=bv (2^64) l
 | []=>rfl
 | a::l=>by simp only[AB,bv,Ux l]
def acb:∀{l:List Nat},l≠[]->iD l->C1 l=ydo
 | [],h,_=>absurd rfl h
 | [a],_,h=>by
  have:a≠0:=fun e=>by
   subst e;have h:ej [0]=[0]:=h;simp[ej] at h
  simp[C1,gF this]
 | a::b::r,_,h=>by
  have h1:iD (b::r):=by
   have h:ej (a::b::r)=a::b::r:=h;rw[ej] at h
   grind
  have:=acb (l:=b::r) (by simp) h1
  simpa[C1] using this
structure Tx(P:aF)(L:Lib):Prop extends Fr' P L where
 H7:L.pure 99=F5 OJ
 az1:L.pure 175=F5 Kh
 ag9:L.pure 152=F5 NF
 WK:L.pure 153=F5 Ns
 WL:L.pure 154=F5 KY
 WM:L.pure 109=F5 PV
 zf:Has P L 155 E7
 aha:Has P L 172 P7
 az2:Has P L 151 P3
 az3:Has P L 107 PX
 YB:Has P L 46 Rw
 ahb:Has P L 110 PY
 RX:Has P L 62 Rx
def YC(h:Tx P L){v:AV}{z:Int}{K:Nat}(hv:cD v z)(hz:Bd K z)(hK:K<=4000000000):ah P L 99 [v] (.str (bf z)):=by
 obtain⟨s,w,rfl,hn⟩:=hv;unfold ah;rw[kH h.H7];rcases hn with ⟨rfl,rfl,h1,h2⟩ | ⟨e,l,rfl,g,n,hb,hs,h1⟩
 .show (bif CX s then F5 (AV.str (bf s)) else F6)=_
  have:CX s=ydo:=by
   cases s with
   | ofNat k=>exact mv (by have:(Int.ofNat k)=(k:Int):=rfl;lia)
   | negSucc k=>exact mv (by lia)
  grind
 .have lR:l≠[]:=fun e=>by subst e;simp[bv] at hb;lia
  have AM:l.length<=4000000000:=xu (qw n hb (yG hz (CJ K))) hK
  show (match Ae (l.map uc) with
   | some l'=>bif yo l'.length l.length&&(yC l.length 4000000000&&(C1 l'&&yC 9223372036854775808 (AB l'))) then (match s with | .ofNat 1=>F5 (AV.str (aA (AB l'))) | .negSucc 0=>F5 (.str (45::aA (AB l'))) | _=>F6) else F6
   | none=>F6)=_
  rw[aad g];simp only[Nat.beq_refl,yy AM,acb lR n,Ux,hb,yy h1,wG,yu];by_cases h0:z<0
  .rw [yz h0] at hs;subst hs;rw[mO h0];rfl
  .rw [yp h0] at hs;subst hs;obtain⟨m,rfl⟩:∃m:Nat,z=m:=⟨z.toNat,by lia⟩;rfl
def RT(r:Rat):List Nat:=bf r.num++(if r.den=1 then [] else 47::aA r.den)
def JG{z:Int}{k:Nat}(h:Bd k z):(bf z).length<=k+1:=by
 have h1:∀m:Nat,m<2^k->(aA m).length<=max k 1:=fun m hm=>by
  cases k with
  | zero=>
       have:m=0:=by simpa using hm
       subst this;decide
  | succ k=>
   rw[Nat.max_eq_left (by lia)];exact zW (k:=k) (yG hm (um (by decide) _))
 by_cases h0:z<0
 .rw [mO h0];unfold Bd at h
  grind
 .obtain ⟨m,rfl⟩:∃m:Nat,z=m:=⟨z.toNat,by lia⟩
  have:=h1 m (by unfold Bd at h;simpa using h)
  rw[nG];lia
def m46(h:Tx P L){v:AV}{a:Rat}{K:Nat}(hv:bH v a)(ka:Hq K a)(hK:K<=4000000000):ah P L 46 [v] (.str (RT a)):=by
 have i1:=YA h.toFr' hv;obtain⟨s1,w1,s2,w2,rfl,h1,h2⟩:=hv;have⟨l1,u1⟩:=h1.aK;have⟨l2,u2⟩:=h2.aK;have e1:=YC h (v:=.agg [aa s1,w1]) ⟨s1,w1,rfl,h1⟩ ka.1 hK;have e2:=YC h (v:=.agg [aa s2,w2]) ⟨s2,w2,rfl,h2⟩ ka.2 hK;have b1:=JG ka.1;have b2:=JG ka.2;rw[nG] at e2 b2;unfold ah RT;rw[aG h.YB];by_cases hd:a.den=1
 .rw [yz hd,List.append_nil];rw[hd] at i1;simp only[go_sem,ya,yb,Rw,aO,u1.pu,u1.ai,u1.one,u2.pu,u2.ai,u2.one,gS,cm,i1,bg,yd,sW,e1]
 .rw [yp hd];rw[yY hd] at i1;have hc:bf a.num++47::aA a.den=(bf a.num++[47])++aA a.den:=by simp
  rw[hc]
  simp only[go_sem,ya,yb,Rw,aO,u1.pu,u1.ai,u1.one,u2.pu,u2.ai,u2.one,gS,cm,i1,bg,yd,sW,C0,e1,e2,ig (a:=bf a.num) (b:=[47]) (by simp;lia),ig (a:=bf a.num++[47]) (b:=aA a.den) (by simp;lia)]
def az4{n:Nat}(h:n<9223372036854775808):binOp .and (.int .i64 (n:Int)) (.int .i64 1)=F5 (.int .i64 ((n%2:Nat):Int)):=by
 show F5 (AV.int .i64 (IntKind.wrap .i64 ((wz 64 (n:Int)&&&wz 64 1).toNat:Int)))=_
 rw[show wz 64 (n:Int)=tN 64 n from BitVec.ofInt_natCast 64 n,show wz 64 1=tN 64 1 from rfl];rw[BitVec.toNat_and,ui,ui,show (1%2^64:Nat)=2^1-1 from rfl,Nat.and_two_pow_sub_one_eq_mod,wrapN (by lia)]
 grind
def az5(n:Nat):binOp .shr (.int .i64 (n:Int)) (.int .u64 1)=F5 (.int .i64 ((n/2:Nat):Int)):=by
 show F5 (AV.int .i64 ((n:Int).fdiv (2^1)))=_
 grind
def Bd.pow{k:Nat}{z:Int}(h:Bd k z):∀e,Bd (k*e+1) (z^e)
 | 0=>by rw[ybl,xH];unfold Bd;decide
 | e+1=>by
  have ih:=Bd.pow h e;rw[Int.pow_succ];exact (ih.mul h).mono (by rw[xL,yj];lia)
def avx(h:Nu P L)(QB:True){z:Int}{K k0:Nat}(hz:Bd K z)(hK:K*k0+1<=30000000000){o1 o2:AV}:
  ew P L [1,2,4,5] Ey (fun m st=>∃(k i e:Nat) (s1 s2:Int) (w1 w2:AV),st=⟨[(1,aa k),(2,.ptr 0 0),(4,.ptr 1 0),(5,.ptr 2 0)],[(2,.cells ydo ydo ydo 2 [aa s2,w2]),(1,.cells ydo ydo ydo 2 [o1,o2]),(0,.cells ydo ydo ydo 2 [aa s1,w1])],3,0⟩/\dH s1 w1 (z^i)/\dH s2 w2 (z^e)/\e+i*k=k0/\(0<k->i<=k0)/\k<9223372036854775808/\k=m) (fun ex st'=>∃tm s2 w2 c0,st'=⟨tm,[(2,.cells ydo ydo ydo 2 [aa s2,w2]),(1,.cells ydo ydo ydo 2 [o1,o2]),(0,c0)],3,0⟩/\ex=.exit 0/\aj tm 4=.ptr 1 0/\aj tm 5=.ptr 2 0/\dH s2 w2 (z^k0)):=by
 apply eE;rintro m st ⟨k,i,e,s1,s2,w1,w2,rfl,h1,h2,hk,hi,hkb,rfl⟩;have⟨l1,u1⟩:=h1.aK;have⟨l2,u2⟩:=h2.aK;by_cases Dr:k=0
 .right
  subst Dr;rw[xH,yZ] at hk;subst hk;simp only[go_sem,Ey,show ¬(0:Int)<((0:Nat):Int) by lia];exact⟨_,_,rfl,by simp,_,s2,w2,_,rfl,rfl,rfl,rfl,h2⟩
 .left
  have c9:=hi (by lia);have he:e<=k0:=by lia
  have hik:i*1<=i*k:=xa i (by lia);have b1:Bd (K*k0+1) (z^i):=(hz.pow i).mono (by have:=xa K c9;lia)
  have b2:Bd (K*k0+1) (z^e):=(hz.pow e).mono (by have:=xa K he;lia)
  have n1:cD (.agg [aa s1,w1]) (z^i):=⟨s1,w1,rfl,h1⟩;have n2:cD (.agg [aa s2,w2]) (z^e):=⟨s2,w2,rfl,h2⟩;have⟨p,e1,hp⟩:=AA h n2 n1 b2 b1 (by lia);have⟨q,e2,hq⟩:=AA h n1 n1 b1 b1 (by lia);rw[<-Int.pow_add] at hp hq;obtain⟨s3,w3,rfl,h3⟩:=hp;obtain⟨s4,w4,rfl,h4⟩:=hq;have⟨l3,u3⟩:=h3.aK;have⟨l4,u4⟩:=h4.aK;have fR:=xT k 2;have M4:=az4 (n:=k) hkb;have YD:=az5 k;have aFk:(i+i)*(k/2)=i*(2*(k/2)):=by rw[<-Nat.two_mul,Nat.mul_comm 2 i,Nat.mul_assoc]
  by_cases az6:k%2=1
  .rw [az6] at M4 fR;have zp:i*k=i*(2*(k/2))+i:=by
    conv=>lhs;rw[<-fR,xL,yj]
   by_cases lk:1<k
   .simp only [go_sem,ya,Ey,show (0:Int)<(k:Int) by lia,M4,show ((1:Nat):Int)=1 from rfl,bY,cm,u1.ai,u2.ai,e1,bi,bY,yg,ep u3,ep u4,show (1:Int)<(k:Int) by lia,e2,YD]
    exact⟨_,k/2,rfl,by lia,k/2,i+i,e+i,s4,s3,w4,w3,by simp only[go_sem,ya,yb,az],h4,h3,by lia,fun h0=>by have:=xa (i+i) h0;lia,by lia,rfl⟩
   .have gV:e+i+i*(k/2)=k0:=by
     have h1:k/2=0:=by lia
     rw[h1] at zp ⊢
     lia
    simp only[go_sem,ya,Ey,show (0:Int)<(k:Int) by lia,M4,show ((1:Nat):Int)=1 from rfl,bY,cm,u1.ai,u2.ai,e1,bi,bY,yg,ep u3,show ¬(1:Int)<(k:Int) by lia,YD];exact⟨_,k/2,rfl,by lia,k/2,i,e+i,s1,s3,w1,w3,by simp only[go_sem,ya,yb,az],h1,h3,gV,fun h0=>by lia,by lia,rfl⟩
  .have DA:k%2=0:=by lia
   rw[DA] at M4 fR;have zp:i*k=i*(2*(k/2)):=by
    conv=>lhs;rw[<-fR,yZ]
   simp only[go_sem,ya,Ey,show (0:Int)<(k:Int) by lia,M4,show ((0:Nat):Int)=0 from rfl,yba,bY,cm,u1.ai,bi,bY,yg,ep u4,show (1:Int)<(k:Int) by lia,e2,YD]
   exact⟨_,k/2,rfl,by lia,k/2,i+i,e,s4,s2,w4,w2,by simp only[go_sem,ya,yb,az],h4,h2,by lia,fun h0=>by have:=xa (i+i) h0;lia,by lia,rfl⟩
def WO(h:Nu P L)(zf:Has P L 155 E7){v:AV}{z:Int}{K k:Nat}(hv:cD v z)(hz:Bd K z)(hK:K*k+1<=30000000000)(hk:k<9223372036854775808):∃r,ah P L 155 [v,aa k] r/\cD r (z^k):=by
 have⟨o1,o2⟩:=Fi h (z:=1) (by decide) (by decide);obtain⟨s1,w1,rfl,h1⟩:=hv;have⟨l1,u1⟩:=h1.aK;have un:=zX;have jY:∃s w,ah P L 155 [.agg [aa s1,w1],aa k] (.agg [aa s,w])/\dH s w (z^k):=by
  unfold ah;rw[aG zf];simp only[go_sem,ya,yb,E7,aO,u1.pu,u1.one,o1,bi,ep un];generalize hq:D P L (.loop _ Ey) _=q;obtain⟨ex,st,rfl,tm,s5,w5,c1,rfl,rfl,t4,t5,h5⟩:=bQ hq (avx (P:=P) (L:=L) h trivial hz (k0:=k) hK (o1:=.int .i64 0) (o2:=.af) k) ⟨k,1,0,s1,1,w1,.af,by simp only[go_sem,ya,yb,az],by rw[Int.pow_one];exact h1,.inl ⟨rfl,(ybl z).symm,(by rw[ybl];decide)⟩,by lia,fun h0=>h0,hk,rfl⟩
  have⟨l5,u5⟩:=h5.aK;refine⟨s5,w5,?_,h5⟩;simp only[go_sem,ya,yb,az,t4,t5,cJ,cK,bY,yg,oQ u5,ep u5]
 have⟨s,w,e,hn⟩:=jY;exact⟨_,e,s,w,rfl,hn⟩
def JQ:∀(l m:List Nat) (a:Nat),cL (l++m) a=(cL l a).bind (fun v=>cL m v)
 | [],m,a=>rfl
 | b::l,m,a=>by
  simp only[List.cons_append,cL]
  cases (yC 48 b&&yC b 57) with
  | true=>exact JQ l m _
  | false=>rfl
def apt:∀{l:List Nat} {a v:Nat},cL l 0=F5 v->cL l a=F5 (a*10^l.length+v):=by
 intro l
 suffices h:∀{l:List Nat} {a b v:Nat},cL l b=F5 v->b*10^l.length<=v/\cL l (a+b)=F5 (a*10^l.length+v) by
  intro a v hv
  have:=(h (a:=a) hv).2
  grind
 intro l
 induction l with
 | nil=>intro a b v h;simp[cL] at h ⊢;lia
 | cons c l ih=>
  intro a b v h;simp only[cL] at h ⊢
  cases hb:(yC 48 c&&yC c 57) with
  | false=>rw[hb] at h;cases h
  | true=>
   rw[hb] at h;have⟨h1,h2⟩:=ih (a:=10*a) h;simp only[yv,xq]
   grind
def Uy:∀{l:List Nat} {v:Nat},cL l 0=F5 v->v<10^l.length:=by
 suffices h:∀{l:List Nat} {b v:Nat},cL l b=F5 v->v<(b+1)*10^l.length by
  grind
 intro l
 induction l with
 | nil=>intro b v h;simp[cL] at h ⊢;lia
 | cons c l ih=>
  intro b v h;simp only[cL] at h
  cases hb:(yC 48 c&&yC c 57) with
  | false=>rw[hb] at h;cases h
  | true=>
   simp only[Bool.and_eq_true] at hb;have hc:=Nat.le_of_ble_eq_true hb.2;have h2:=Nat.mul_le_mul_right (10^l.length) (show 10*b+(c-48)+1<=10*(b+1) by lia)
   grind
def arM(WL:L.pure 154=F5 KY){f:cu}{s:List Nat}{v:Nat}(h0:0<s.length)(h1:s.length<=18)(hv:cL s 0=F5 v):bW P L f 154 [.str s]=F5 (.aw [.int .i64 v,.undef]):=by
 rw[kH WL];show (bif yM 0 s.length&&yC s.length 18 then (match cL s 0 with | some n=>F5 (AV.aw [.int .i64 n,.undef]) | none=>F6) else F6)=_
 rw[mv h0,yy h1,hv];rfl
def aa6:∀j:Nat,iR [48] j++[48]=[48]++iR [48] j
 | 0=>rfl
 | j+1=>by
  show ([48]++iR [48] j)++[48]=[48]++([48]++iR [48] j)
  rw[xK,aa6 j]
def Gi:∀j:Nat,(iR [48] j).length=j
 | 0=>rfl
 | j+1=>by show ([48]++iR [48] j).length=_;rw[yJ,Gi j];simp;lia
def anl:∀(k n:Nat),n<10^k->0<k->jC k n=iR [48] (k-(aA n).length)++aA n:=by
 intro k
 induction k with
 | zero=>intro n _ h;lia
 | succ k ih=>
  intro n hn _;rw[jC];by_cases iW:n<10
  .rw [pO iW,yU iW]
   cases k with
   | zero=>rfl
   | succ k=>
    rw[ih (n/10) (by rw[xR iW];exact ycI (by decide)) (by lia),xR iW]
    rw[show aA 0=[48] by decide];rw[aa6];rfl
  .have hk:0<k:=by
    grind
   rw[ih (n/10) (by rw[xq] at hn;lia) hk,rk iW,xK,yJ]
   grind
def anm{m d r:Nat}(hd:d=m/1000000000000000000)(hr:r=m%1000000000000000000):(0<d->aA m=aA d++(iR [48] (18-(aA r).length)++aA r))/\(d=0->aA m=aA r):=by
 have Yw:r<10^18:=by lia
 constructor
 .intro h0;rw[<-anl 18 r Yw (by decide),<-Og 18 d r h0 Yw]
  grind
 .grind
def avy{f:cu}(h:L.pure 138=F5 Cj){n:Nat}(hn:n<18446744073709551616):bW P L f 138 [uc n,aa 10]=F5 (.str (aA n)):=by
 rw[kH h];show (bif yM n 18446744073709551616 then F5 (AV.str (aA n)) else F6)=_
 rw[mv hn];rfl
def UZ{f:cu}(h:L.pure 139=F5 Cy){n:Nat}(hn:n<=100):bW P L f 139 [.str [48],aa (n:Nat)]=F5 (.str (iR [48] n)):=by
 rw[kH h];show (bif yC n 1099511627776&&yC (1*n) 1099511627776 then F5 (AV.str (iR [48] n)) else F6)=_
 rw[yy (by lia),yy (by lia)];rfl
def avz(h:Wd P L)(Fk:L.pure 138=F5 Cj)(BN:L.pure 139=F5 Cy){neg:Bool}{M K:Nat}(B8:0<M)(hK:K<=4000000000)(hlen:(aA M).length<=300000000000):
  ew P L [3,4,5,6] rJ (fun k s=>∃(m:Nat) (w:AV) (ps:List (List Nat)) (fl:Bool),m=k/\WN w m/\m<18446744073709551616^K/\aA M=(if m=0 then [] else aA m)++ps.reverse.flatten/\((ps=[]->m=M)/\18*ps.length<=(aA M).length+18)/\(m≠0->18*ps.length+(aA m).length=(aA M).length)/\
    ((ps=[]/\s=⟨[(3,.bool neg),(4,w),(5,.ay 0 0 1),(6,.af)],[(0,.cells fl ydo ydo 1 [uc 1000000000000000000])],1,0⟩)\/
    (ps≠[]/\s=⟨[(3,.bool neg),(4,w),(5,.ay 0 0 1),(6,.ay 1 0 ps.length)],[(1,.cells ydo ydo false 1 (ps.map .str)),(0,.cells fl ydo ydo 1 [uc 1000000000000000000])],2,0⟩))) (fun ex s'=>∃tm ps fl,ex=.exit 0/\ps≠[]/\ps.length<=300000000000/\aA M=ps.reverse.flatten/\aj tm 3=.bool neg/\aj tm 6=.ay 1 0 ps.length/\s'=⟨tm,[(1,.cells ydo ydo false 1 (ps.map .str)),(0,.cells fl ydo ydo 1 [uc 1000000000000000000])],2,0⟩):=by
 apply eE;rintro k s ⟨m,w,ps,fl,rfl,hw,hmK,B9,ahc,j8,hs⟩;have⟨lw,uw,gw,nw,vw⟩:=hw;by_cases hm:m=0
 .right
  have lR:lw=[]:=List.eq_nil_of_length_eq_zero (Nat.le_zero.1 (qw (K:=0) nw vw (by rw[hm];decide)))
  subst lR;rw[yz hm,yL] at B9;have eK:ps≠[]:=fun e=>by have:=ahc.1 e;lia
  have RY:ps.length<=300000000000:=by have:=ahc.2;lia
  rcases hs with ⟨h0,_⟩ | ⟨_,rfl⟩
  .exact absurd h0 eK
  .simp only [go_sem,ya,rJ,uw.len,yI,show ¬(0:Int)<((0:Nat):Int) by lia];exact⟨_,_,rfl,by simp,_,ps,fl,rfl,eK,RY,B9,rfl,rfl,rfl⟩
 .left
  have hw:WN w m:=⟨lw,uw,gw,nw,vw⟩;have hB:WN (.ap ydo 1 [uc 1000000000000000000]) 1000000000000000000:=⟨[1000000000000000000],oF ydo [1000000000000000000],GM.2 (by decide),by decide,by simp[bv]⟩;have⟨q,r,e1,hq,hr⟩:=agW h hw hB (K:=K+1) (by decide) (yG hmK (xd (by decide) (by lia))) (by rw[xq];have:=ycI (n:=K) (show 0<18446744073709551616 by decide);lia) (by lia)
  have⟨t1,t2⟩:=anm (m:=m) rfl rfl;have fR:=xT m 1000000000000000000;have hrB:=xD m (show 0<1000000000000000000 by decide);obtain⟨d,hd⟩:∃d,d=m/1000000000000000000:=⟨_,rfl⟩;obtain⟨x,hx⟩:∃x,x=m%1000000000000000000:=⟨_,rfl⟩;rw[<-hd] at hq t1 t2 fR;rw[<-hx] at hr t1 t2 fR hrB;have⟨lq,uq,gq,nq,vq⟩:=hq;have⟨lr,ur,gr,nr,vr⟩:=hr;have Xt:(aA x).length<=18:=zW (k:=17) (by lia);have hxp:=Bh x;have MQ:(lr=[]/\x=0)\/lr=[x]:=by
   have h1:lr.length<=1:=qw (K:=1) nr vr (by rw[Nat.pow_one];lia)
   cases lr with
   | nil=>exact .inl ⟨rfl,by rw[<-vr];rfl⟩
   | cons a l=>
    cases l with
    | nil=>rw[CH] at vr;exact .inr (by rw[vr])
    | cons b l=>simp at h1
  have M5:(lq=[]/\d=0)\/(0<lq.length/\0<d):=by
   cases lq with
   | nil=>exact .inl ⟨rfl,by rw[<-vq];rfl⟩
   | cons a l=>
    refine .inr ⟨by simp,?_⟩;rcases Nat.eq_zero_or_pos d with h0 | h0
    .have:=qw (K:=0) nq vq (by rw[h0];decide)
     simp at this
    .exact h0
  unfold ah at e1;have DR:(0:Int)<(lw.length:Int):=by
   have:lw≠[]:=fun e=>by subst e;simp[bv] at vw;lia
   have:=List.length_pos_iff.2 this
   lia
  have aFA:=j8 hm;have hmp:=Bh m;have new:∀t:List Nat,aA m=(if d=0 then [] else aA d)++t->(d≠0->t.length=18)->
    aA M=(if d=0 then [] else aA d)++(ps++[t]).reverse.flatten/\((ps++[t]=[]->d=M)/\18*(ps++[t]).length<=(aA M).length+18)/\(d≠0->18*(ps++[t]).length+(aA d).length=(aA M).length):=fun t h1 h2=>by
   rw[yp hm,h1] at B9;refine⟨by rw[B9];simp,⟨by simp,by simp only[yJ,yv,yI];lia⟩,fun h0=>?_⟩
   have h3:=congrArg List.length h1;rw[yp h0,yJ,h2 h0] at h3;simp only[yJ,yv,yI]
   lia
  have Dc:d<m:=by lia
  have DS:WN q d:=⟨lq,uq,gq,nq,vq⟩;have mb:lr=[x]->ik 1 0 r=F5 (.bt (.int .u64 x::([]:List AV))):=fun e=>by
   subst e
   have:=ur.bj (i:=0) (by simp)
   simpa using this
  have f1:=avy (P:=P) (f:=D P L) Fk (n:=x) (by lia);have f2:=UZ (P:=P) (f:=D P L) BN (n:=18-(aA x).length) (by lia);have WQ:(18:Int)-((aA x).length:Int)=((18-(aA x).length:Nat):Int):=by lia
  have aFB:18*ps.length<=300000000000:=by lia
  have zl:(iR [48] (18-(aA x).length)++aA x).length=18:=by rw[yJ,Gi];lia
  obtain⟨z,hz⟩:∃z,z=aA x:=⟨_,rfl⟩;have kT:x=0->z=[48]:=fun e=>by rw[hz,e];decide
  rw[<-hz] at f1 f2 WQ Xt hxp zl t1 t2;cases fl
  all_goals
   rcases M5 with ⟨rfl,gP⟩ | ⟨RZ,gP⟩
   .have ⟨n1,n2,n3⟩:=new z (by rw[yz gP,yL];exact t2 gP) (fun h=>absurd gP h)
    rcases MQ with ⟨rfl,nm⟩ | rfl
    .have kv:=kT nm;clear hz;subst kv;rcases hs with ⟨jk,rfl⟩ | ⟨jk,rfl⟩
     .subst jk;simp only[go_sem,ya,yb,xk,yq,yi,yj,rJ,uw.len,uw.ai,uq.len,uq.bJ,ur.len,ur.bJ,DR,e1,yI,yI,show ¬(0:Int)<((0:Nat):Int) by lia,gE];refine⟨_,d,rfl,Dc,d,q,[]++[[48]],false,rfl,DS,by lia,n1,n2,n3,.inr ⟨by simp,?_⟩⟩;simp only[go_sem,ya,yb,az,av uq.pu]<;>rfl
     .simp only [go_sem,ya,yb,yq,yi,yj,rJ,uw.len,uw.ai,uq.len,uq.bJ,ur.len,ur.bJ,DR,e1,yI,yI,show ¬(0:Int)<((0:Nat):Int) by lia]
      rw[dS (ex:=false) (pu:=ydo) (cs:=ps.map .str) rfl (by simp) (by lia) (by lia) (by decide) rfl];simp only[go_sem,ya,yb];refine⟨_,d,rfl,Dc,d,q,ps++[[48]],false,rfl,DS,by lia,n1,n2,n3,.inr ⟨by simp,?_⟩⟩;rw[xG,yJ];simp only[go_sem,ya,yb,az,av uq.pu]<;>rfl
    .rcases hs with ⟨jk,rfl⟩ | ⟨jk,rfl⟩
     .subst jk;simp only[go_sem,ya,yb,xk,yq,yi,yj,rJ,uw.len,uw.ai,uq.len,uq.bJ,ur.len,ur.bJ,DR,e1,yv,yI,yd,show (0:Int)<((1:Nat):Int) by lia,mb rfl,f1,yI,show ¬(0:Int)<((0:Nat):Int) by lia,gE];refine⟨_,d,rfl,Dc,d,q,[]++[z],false,rfl,DS,by lia,n1,n2,n3,.inr ⟨by simp,?_⟩⟩;simp only[go_sem,ya,yb,az,av uq.pu]<;>rfl
     .simp only [go_sem,ya,yb,yq,yi,yj,rJ,uw.len,uw.ai,uq.len,uq.bJ,ur.len,ur.bJ,DR,e1,yv,yI,yd,show (0:Int)<((1:Nat):Int) by lia,mb rfl,f1,yI,show ¬(0:Int)<((0:Nat):Int) by lia]
      rw[dS (ex:=false) (pu:=ydo) (cs:=ps.map .str) rfl (by simp) (by lia) (by lia) (by decide) rfl];simp only[go_sem,ya,yb];refine⟨_,d,rfl,Dc,d,q,ps++[z],false,rfl,DS,by lia,n1,n2,n3,.inr ⟨by simp,?_⟩⟩;rw[xG,yJ];simp only[go_sem,ya,yb,az,av uq.pu]<;>rfl
   .have ⟨n1,n2,n3⟩:=new (iR [48] (18-z.length)++z) (by rw[yp (by lia)];exact t1 gP) (fun _=>zl)
    rcases MQ with ⟨rfl,nm⟩ | rfl
    .have kv:=kT nm;clear hz;subst kv;rcases hs with ⟨jk,rfl⟩ | ⟨jk,rfl⟩
     .subst jk
      simp only[go_sem,ya,yb,xk,yq,yi,yj,rJ,uw.len,uw.ai,uq.len,uq.bJ,ur.len,ur.bJ,DR,e1,yI,show ¬(0:Int)<((0:Nat):Int) by lia,show (0:Int)<(lq.length:Int) by lia,show (18:Int)-((1:Nat):Int)=((17:Nat):Int) from rfl,wrapN (n:=17) (by lia),UZ (P:=P) (f:=D P L) BN (n:=17) (by lia),ig (a:=iR [48] 17) (b:=[48]) (by rw[Gi];decide),gE]
      refine⟨_,d,rfl,Dc,d,q,[]++[iR [48] 17++[48]],false,rfl,DS,by lia,n1,n2,n3,.inr ⟨by simp,?_⟩⟩;simp only[go_sem,ya,yb,az,av uq.pu]<;>rfl
     .simp only [go_sem,ya,yb,yq,yi,yj,rJ,uw.len,uw.ai,uq.len,uq.bJ,ur.len,ur.bJ,DR,e1,yI,show ¬(0:Int)<((0:Nat):Int) by lia,show (0:Int)<(lq.length:Int) by lia,show (18:Int)-((1:Nat):Int)=((17:Nat):Int) from rfl,wrapN (n:=17) (by lia),UZ (P:=P) (f:=D P L) BN (n:=17) (by lia),ig (a:=iR [48] 17) (b:=[48]) (by rw[Gi];decide)]
      rw[dS (ex:=false) (pu:=ydo) (cs:=ps.map .str) rfl (by simp) (by lia) (by lia) (by decide) rfl];simp only[go_sem,ya,yb];refine⟨_,d,rfl,Dc,d,q,ps++[iR [48] 17++[48]],false,rfl,DS,by lia,n1,n2,n3,.inr ⟨by simp,?_⟩⟩;rw[xG,yJ];simp only[go_sem,ya,yb,az,av uq.pu]<;>rfl
    .rcases hs with ⟨jk,rfl⟩ | ⟨jk,rfl⟩
     .subst jk
      simp only[go_sem,ya,yb,xk,yq,yi,yj,rJ,uw.len,uw.ai,uq.len,uq.bJ,ur.len,ur.bJ,DR,e1,yv,yI,yd,show (0:Int)<((1:Nat):Int) by lia,mb rfl,f1,show (0:Int)<(lq.length:Int) by lia,WQ,wrapN (n:=18-z.length) (by lia),f2,ig (a:=iR [48] (18-z.length)) (b:=z) (by rw[Gi];lia),gE]
      refine⟨_,d,rfl,Dc,d,q,[]++[iR [48] (18-z.length)++z],false,rfl,DS,by lia,n1,n2,n3,.inr ⟨by simp,?_⟩⟩;simp only[go_sem,ya,yb,az,av uq.pu]<;>rfl
     .simp only [go_sem,ya,yb,yq,yi,yj,rJ,uw.len,uw.ai,uq.len,uq.bJ,ur.len,ur.bJ,DR,e1,yv,yI,yd,show (0:Int)<((1:Nat):Int) by lia,mb rfl,f1,show (0:Int)<(lq.length:Int) by lia,WQ,wrapN (n:=18-z.length) (by lia),f2,ig (a:=iR [48] (18-z.length)) (b:=z) (by rw[Gi];lia)]
      rw[dS (ex:=false) (pu:=ydo) (cs:=ps.map .str) rfl (by simp) (by lia) (by lia) (by decide) rfl];simp only[go_sem,ya,yb];refine⟨_,d,rfl,Dc,d,q,ps++[iR [48] (18-z.length)++z],false,rfl,DS,by lia,n1,n2,n3,.inr ⟨by simp,?_⟩⟩;rw[xG,yJ];simp only[go_sem,ya,yb,az,av uq.pu]<;>rfl
def LY:Nat->VC->VC
 | 0,c=>bw c
 | n+1,c=>.seq (bw c) (LY n (aC c))
def Bx:Nat->VC->VC
 | 0,c=>aC c
 | n+1,c=>Bx n (aC c)
def alT(h:Nu P L)(Fk:L.pure 138=F5 Cj)(BN:L.pure 139=F5 Cy){s z:Int}{e:Bool}{l:List Nat}(hn:dH s (.ap e l.length (l.map uc)) z){K:Nat}(kv:0<z.natAbs)(R0:z.natAbs<18446744073709551616^K)(hK:K<=4000000000)(hlen:(aA z.natAbs).length<=300000000000):
  ∃ps:List (List Nat),ps≠[]/\ps.length<=300000000000/\aA z.natAbs=ps.reverse.flatten/\D P L (LY 5 FH.body) ⟨[(0,.agg [aa s,.ap e l.length (l.map uc)])],[],0,0⟩=F5 (.normal,⟨[(3,.bool (decide (z<0))),(6,.ay 0 0 ps.length)],[(0,.cells ydo ydo false 1 (ps.map .str))],1,0⟩):=by
 have⟨r,e1,hr⟩:=BM h hn;have bB:=hr;have⟨lr,ur,gr,nr,vr⟩:=hr;simp only[go_sem,ya,yb,yi,yj,FH,LY,bw,aC,aO,bg,yd,cO,p7,eH,bY,cm,e1];generalize om:D P L (.loop _ rJ) _=qq;obtain⟨ex,st,rfl,tm,ps,fl,rfl,eK,RY,B9,t3,t6,rfl⟩:=bQ om (avz (P:=P) (L:=L) h.toWd Fk BN (neg:=decide (z<0)) (M:=z.natAbs) (K:=K) kv hK hlen z.natAbs) ⟨z.natAbs,bJ r,[],ydo,rfl,bB,R0,by rw[yp (by lia)];simp,⟨fun _=>rfl,by simp⟩,fun _=>by simp,.inl ⟨rfl,by
  simp only[go_sem,ya,yb,az,av ur.pu]<;>rfl⟩⟩
 refine⟨ps,eK,RY,B9,?_⟩;simp only[go_sem,yb,az,t3,t6]
section
open Go
section
variable {aq:List AV}{s:St}
variable {O:bq}
def By:Nat->vA->vA
 | 0,.seq _ b=>b
 | n+1,.seq _ b=>By n b
 | _,c=>c
def QD:Nat->vA->Prop
 | 0,.seq _ _=>True
 | n+1,.seq _ b=>QD n b
 | _,_=>False
def acd(hO:iK O){h:Nat}{c:vA}{l k:Nat}{ex:Ex}{s':St}(hv:D O.prog O.aI (comp O.P (O.hint h) c l k).1 s=F5 (ex,s')):CV O h c s ex s':=by
 have⟨n,hn⟩:=Wn hv
 cases n with
 | zero=>rw[JY] at hn;cases hn
 | succ n=>
  exact ac2 hO n (fun k _=>Zu hO k) h c l k n (yx _) s ex s' hn
def aed(hO:iK O){h:Nat}{ro:Option Nat}{lo:Nat}{Q:Exit->Act->yk->Prop}:∀(n:Nat) (c:vA) (l k:Nat),QD n c->∀(s s1:St),D O.prog O.aI (LY n (comp O.P (O.hint h) c l k).1) s=F5 (.normal,s1)->
  ∀(m:Mp) (S:Nat->Prop) (w:yk) (a:Act),Bn ro w->bT O m S w s.tm a.tmps->aT O m S w s.hp s.ct->s.base<=s.ct->(O.hint h).n<=a.tmps.size->O.w0.heap.size<=lo->lo<=w.heap.size->Marks lo S w a.defers->
  (∀a' w',eU O m S w s .normal s1 a.tmps.size lo .normal a' w'->(By n c).wpIn (WF ro) 0 O.P Q a' w')->c.wpIn (WF ro) 0 O.P Q a w
 | n,c,l,k,hc,s,s1,hv=>by
  intro m S w a cU ht hh hb hn aZ fC cA hQ
  cases c with
  | seq x y=>
   cases n with
   | zero=>
    refine wpIn_seq (wpIn_mono (acd hO (show D O.prog O.aI (comp O.P (O.hint h) x l k).1 s=F5 (.normal,s1) from hv) ro lo m S w a cU ht hh hb hn aZ fC cA) ?_);rintro e a' w' hp;have he:e=.normal:=hp.1;subst he;exact hQ a' w' hp
   | succ n=>
    have eV:D O.prog O.aI (.seq (comp O.P (O.hint h) x l k).1 (LY n (comp O.P (O.hint h) y (comp O.P (O.hint h) x l k).2.1 (comp O.P (O.hint h) x l k).2.2).1)) s=F5 (.normal,s1):=hv;rw[nS] at eV
    cases hx:D O.prog O.aI (comp O.P (O.hint h) x l k).1 s with
    | none=>rw[hx] at eV;cases eV
    | some q=>
     have⟨ex,st⟩:=q;rw[hx] at eV
     cases ex with
     | ret=>exact absurd eV (by intro h;cases h)
     | exit id=>exact absurd eV (by intro h;cases h)
     | normal=>
      refine wpIn_seq (wpIn_mono (acd hO hx ro lo m S w a cU ht hh hb hn aZ fC cA) ?_);rintro e a' w' ⟨rfl,m',S',k1,k2,k3,k4,k5,k6,k7⟩;refine aed hO n y _ _ hc st s1 eV m' S' w' a' (NU k5 cU) k1 k2 (by lia) (by lia) aZ (xu fC k5.size) k7 ?_;rintro a2 w2 ⟨_,m2,S2,g1,g2,g3,g4,g5,g6,g7⟩;exact hQ a2 w2 ⟨rfl,m2,S2,g1,g2,by lia,by lia,k5.trans (by rw[<-k3];exact g5),by lia,g7⟩
  | _=>cases n<;>exact hc.elim
def avA(hO:iK O){n:Nat}{F:aD}(hF:O.prog n=F5 F){fn:ybe}{c:vA}(mH:O.P.funcs[O.ab n]? =F5 fn)(kz:fn.body=F5 c){hp:Hp}{ct:Nat}(hc:(comp O.P (O.hint n) c 0 0).1=F.body->∀m S w a,bT O m S w (fG 0 aq) a.tmps->aT O m S w hp ct->(O.hint n).n<=a.tmps.size->a.tmps.size=max fn.ntmps aq.length->O.w0.heap.size<=w.heap.size->a.defers=[]->
   c.wpIn (WF F6) 0 O.P (eU O m S w ⟨fG 0 aq,hp,ct,ct⟩ .ret s a.tmps.size w.heap.size) a w){v:AV}(hr:jo s F.dX=F5 v):CU O n hp ct aq v s.hp s.ct:=by
 intro m S w args hh eI;have⟨fn',q1,q2,q3⟩:=hO.prog n F hF;rw[mH] at q1;cases q1;have⟨c',q4,q5,q6,q7⟩:=SB q2;rw[kz] at q4;cases q4;refine .inl ⟨JK mH (by rw[kz];rfl) q3,?_⟩
 have hlen:aq.length=args.size:=by have:=(ic _ _ eI).symm;simpa using this
 have hw:=hc q5.symm m S w {tmps:=args++Array.replicate (fn.ntmps-args.size) undef,defers:=[]} (aaN _ eI) hh (by simp;lia) (by simp;lia) hh.gH rfl
 refine callsIn_of_wp_marks (F:=ybH) mH kz trivial (wpIn_mono hw ?_);rintro e a' w' ⟨rfl,m',S',k1,k2,k3,k4,k5,k6,rs,k7,k8,k9⟩;show LeavesInM ybH 0 O.P fn a'.tmps (Bb O m S w hp ct v s.hp s.ct) a'.defers .returning w'
 rw[k7];exact Ti q6 hr k4 rs w' k8 k9 hh.gH k2 k1 k5
def apu(hO:iK O){n:Nat}{F:aD}(hF:O.prog n=F5 F){fn:ybe}{c:vA}(mH:O.P.funcs[O.ab n]? =F5 fn)(kz:fn.body=F5 c)(hc:(comp O.P (O.hint n) c 0 0).1=F.body->∀m S w a,bT O m S w (fG 0 aq) a.tmps->aT O m S w [] 0->(O.hint n).n<=a.tmps.size->a.tmps.size=max fn.ntmps aq.length->O.w0.heap.size<=w.heap.size->a.defers=[]->
   c.wpIn (WF F6) 0 O.P (eU O m S w ⟨fG 0 aq,[],0,0⟩ .ret s a.tmps.size w.heap.size) a w){v r:AV}(hv:jo s F.dX=F5 v)(hr:result s.hp v=F5 r):eD O n aq r:=
 Ss (avA hO hF mH kz hc hv) hr
end
end
section
open Go
def aae{ab:Nat->Nat}{m:Mp}{S:Nat->Prop}{w:yk}{b:Nat}:∀{ps:List (List Nat)} {o:Nat},bR ab m S w (ps.map .str) b o->
  ∃ts:List ByteArray,(ts.map fun t=>t.data.toList.map xn)=ps/\∀i (h:i<ts.length),w.cell? ⟨b,o+i,F6⟩=F5 (.string ts[i])
 | [],o,_=>⟨[],rfl,fun i h=>absurd h (Nat.not_lt_zero i)⟩
 | p::ps,o,h=>by
  have⟨⟨u,h1,h2⟩,h3⟩:=h;obtain⟨t,rfl,ht⟩:=h2;have⟨ts,k1,k2⟩:=aae h3;refine⟨t::ts,by rw[List.map_cons,ht,k1],fun i hi=>?_⟩
  cases i with
  | zero=>exact h1
  | succ i=>
   grind
def qB(ts:List ByteArray):List UInt8:=(ts.map fun t=>t.data.toList).flatten
def arN{ts:List ByteArray}{ps:List (List Nat)}(h:(ts.map fun t=>t.data.toList.map xn)=ps):(qB ts.reverse).map xn=ps.reverse.flatten:=by
 subst h;unfold qB;rw[List.map_flatten,ybL,<-yaX];rfl
def arO{ts:List ByteArray}{ps:List (List Nat)}(h:(ts.map fun t=>t.data.toList.map xn)=ps):(ts.map (·.size)).sum=ps.reverse.flatten.length:=by
 subst h;rw[List.length_flatten,yaX,List.sum_reverse,ybL]
 congr 1
 simp_all
def Uz(P:Program)(c:vA):Prop:=∀(Q:Exit->Act->yk->Prop) (a:Act) (w:yk) (neg:Bool) (ts:List ByteArray) (b o cc:Nat),a.tmps.size=69->a.tmps.getD 3 undef=.bool neg->a.tmps.getD 6 undef=.slice (F5 ⟨b,o,F6⟩) ts.length cc->
  (∀i (h:i<ts.length),w.cell? ⟨b,o+i,F6⟩=F5 (.string ts[i]))->(ts.map (·.size)).sum+1<=140737488355328->ts.length<=cc->ts.length<9223372036854775808->
  (∀a' w',Calm w w'->a'.tmps.size=69->a'.defers=a.defers->a'.tmps.getD 2 undef=.string ⟨((if neg then [45] else [])++qB ts.reverse).toArray⟩->Q .ret a' w')->
  (By 5 c).wpIn Fence.wide 0 P Q a w
section
variable {O:bq}
def alU{n K:Nat}(h:n<18446744073709551616^K):(aA n).length<=20*K+1:=by
 refine zW (k:=20*K) (yG h ?_);have h1:(10:Nat)^(20*K)=(10^20)^K:=Nat.pow_mul ..;exact xu (by rw[h1];exact um (by decide) K) (xd (by decide) (Nat.le_succ _))
def apv(hO:iK O)(hN:Nu O.prog O.aI)(Fk:O.aI.pure 138=F5 Cj)(BN:O.aI.pure 139=F5 Cy)(H7:O.prog 99=F5 FH){fn:ybe}{c:vA}(mH:O.P.funcs[O.ab 99]? =F5 fn)(kz:fn.body=F5 c)(Rg:fn.ntmps=69)(WR:QD 5 c)(ht:Uz O.P c){s z:Int}{e:Bool}{l:List Nat}(hn:dH s (.ap e l.length (l.map uc)) z)(kv:0<z.natAbs)(hK:l.length<=4000000000)(R0:z.natAbs<18446744073709551616^l.length):
  eD O 99 [.agg [aa s,.ap e l.length (l.map uc)]] (.str (bf z)):=by
 have hlen:=alU R0;have⟨ps,eK,RY,B9,e1⟩:=alT (P:=O.prog) (L:=O.aI) hN Fk BN hn kv R0 hK (by lia)
 refine apu hO H7 mH kz (s:=⟨[(2,.str (bf z))],[(0,.cells ydo ydo false 1 (ps.map .str))],1,0⟩) (v:=.str (bf z)) ?_ rfl rfl;intro ax1 m S w a htr hh AN eJ hgs FT;refine aed hO 5 c 0 0 WR _ _ (by rw[ax1];exact e1) m S w a (fun l hl=>by cases hl) htr hh (yx _) AN hgs (yx _) ⟨[],by rw[FT];rfl,by simp,by simp⟩ ?_
 rintro a' w' ⟨_,m',S',k1,k2,k3,k4,k5,k6,k7⟩;have r3:=k1 3;have r6:=k1 6;have g3:aj [(3,AV.bool (decide (z<0))),(6,.ay 0 0 ps.length)] 3=.bool (decide (z<0)):=rfl;have g6:aj [(3,AV.bool (decide (z<0))),(6,.ay 0 0 ps.length)] 6=.ay 0 0 ps.length:=rfl;rw[g3] at r3;rw[g6] at r6;simp only[ae] at r3 r6;have⟨p,cc,hm,r6,hcc,_⟩:=r6;have⟨p',arr,t,jG,_,_,_,_,_,BU,_⟩:=k2.obj 0 _ p rfl hm;rw[hm] at jG;cases jG;have⟨ts,nk,EV⟩:=aae BU;have qJ:ts.length=ps.length:=by rw[<-nk,List.length_map]
 have Dd:=arO nk;rw[<-B9] at Dd;have WS:=arN nk;rw[<-B9] at WS;refine ht _ a' w' (decide (z<0)) ts p.b p.o cc ?_ r3 (by rw[qJ];exact r6) EV (by lia) (by lia) (by lia) ?_
 .grind
 .intro a2 w2 hc h1 h2 h3;have MB:=Co k2 hc (S':=S') (fun _ h=>h) (fun _ h=>.inl h) (fun b hb=>yG (k2.slt b hb) hc.size);refine⟨rfl,m',S',?_,MB,rfl,Nat.zero_le _,k5.trans (Be k2 hc (fun _ h=>h) (fun _ h=>.inl h)),?_,?_⟩
  .intro i;by_cases hi:i=2
   .subst hi;rw[h3];show ae O.ab m' S' w2 (.str (bf z)) _
    simp only[ae];refine⟨_,rfl,?_⟩;by_cases h0:z<0
    .rw [mO h0,xf h0];simp only[xJ,xG];rw[WS];rfl
    .obtain ⟨n,rfl⟩:∃n:Nat,z=n:=⟨z.toNat,by lia⟩;rw[yY h0];simp only[yD,xz,yL];rw[WS];rfl
   .have:aj [(2,AV.str (bf z))] i=.undef:=by
     have hb:yo 2 i=false:=by
      cases hq:yo 2 i with
      | false=>rfl
      | true=>exact absurd (Nat.eq_of_beq_eq_true hq).symm hi
     simp only[aj,hb,yO]
    show ae O.ab m' S' w2 (aj [(2,AV.str (bf z))] i) _
    rw[this];simp only[ae]
  .rw [h1,eJ,Rg];simp
  .rw [h2]
   exact Cp k2 (Be (base:=0) k2 hc (fun _ h=>h) (fun _ h=>.inl h)) k7
end
end
end VE
