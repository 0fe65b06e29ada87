import Derived.Test.YtmacbdacedfedaaGreatDoorTap
set_option linter.all false
set_option maxRecDepth 100000
open BitVec renaming ofInt->wB,ofNat->tD,toNat_ofNat->vY
open Bool renaming and_self->vm,false_eq_true->yC,not_false->wH,not_true->xO
open Go renaming Code->vz,Func->yaO,World->yi
open Go.Fence renaming wide->ybt
open Int renaming ediv_emod_unique->yag,gcd->vJ,gcd_comm->ycD,natAbs_ediv_of_dvd->uZ,natCast_mul->xZ,pow_zero->yaV,reduceEq->yaI
open List renaming append_assoc->xx,drop_zero->yh,length_append->yJ,length_cons->yy,length_nil->yH,map_append->xA,map_map->uA,map_reverse->yaF,nil_append->yM
open Nat renaming add_zero->yW,beq->ym,ble->yA,ble_eq_true_of_le->yt,blt->yI,div_add_mod->xz,div_eq_of_lt->xU,div_le_self->vB,le_refl->yu,le_trans->xo,lt_of_le_of_lt->wC,lt_of_lt_of_le->yE,mod_eq_of_lt->yF,mod_le->yde,mod_lt->xu,mul_add->xC,mul_le_mul_left->yY,mul_one->yk,mul_zero->xB,pow_le_pow_left->ue,pow_le_pow_right->xc,pow_pos->ycw,pow_succ->xh,reduceAdd->yc,reduceEqDiff->ya,reduceLT->yB,reduceLeDiff->yo,reduceMul->xn,zero_add->yd
open Rat renaming den_divInt->ycc,divInt->wX,divInt_ofNat->ybK,num_divInt->ycb
open UInt8 renaming toNat->xg
open Option renaming some->Ft,none->Fu
open Bool renaming true->ydh
namespace VE
open Go (IntKind)
variable {P:aF}{L:Lib}
section
variable {w:AV}{a b:Int}{K:Nat}
def FF{P:aF}{L:Lib}(a b c:VC)(s:St):D P L (.seq a (.seq b c)) s=zJ P L (D P L (.seq a b) s) c:=by
 rw[zK,zK]
 cases D P L a s with
 | none=>rfl
 | some q=>
  have⟨ex,st⟩:=q
  cases ex with
  | normal=>rw[lJ,lJ,zK]
  | ret=>rfl
  | exit id=>rfl
def acH{s s':Int}{w':AV}{l l':List Nat}(h:bI w l)(h':bI w' l')(hp:Hp):result hp (.ax [.agg [aa s,w],.agg [aa s',w']])=Ft (.ax [.agg [aa s,w],.agg [aa s',w']]):=by
 rcases h with ⟨rfl,_⟩ | ⟨e,rfl⟩<;>rcases h' with ⟨rfl,_⟩ | ⟨e',rfl⟩<;>rfl
def Pz(tm:Env)(hp:Hp)(ct:Nat)(rs:List (Nat×Bool×Nat))(sz:Nat)(p:AV)(new:List AV):gY:=match p with | .ptr id o=>bif mq tm id rs then gm hp ct id o sz new (ai hp id) else Fu | _=>Fu
def PA(id:Nat):AV->Bool | .ptr j _=> !ym j id | .bq _=>ydh | _=>false
def TO{P:aF}{L:Lib}(f:cd)(tm:Env)(hp:Hp)(ct:Nat)(rs:List (Nat×Bool×Nat))(sz:Nat)(x v:X):aX P L f tm hp ct (.kS rs sz x v)=Pz tm hp ct rs sz (ay tm x) (cellsOf (ay tm v)):=by
 simp only[aX,Pz]
 cases hx:ay tm x with
 | ptr id o=>
  rw[aaB,hx,adY]
 | _=>rfl
def TP{tm:Env}{hp:Hp}{ct:Nat}{rs:List (Nat×Bool×Nat)}{sz id o:Nat}{new:List AV}(h:mq tm id rs=ydh):Pz tm hp ct rs sz (.ptr id o) new=gm hp ct id o sz new (ai hp id):=by
 simp only[Pz,h,yq]
def Tc(tm:Env)(id:Nat):mq tm id []=ydh:=(rfl)
def SB(tm:Env)(id sz x:Nat)(ag:Bool)(r:List (Nat×Bool×Nat)):mq tm id ((sz,ag,x)::r)=(PA id (ak tm x)&&mq tm id r):=by
 simp only[mq,PA]
 grind
def TQ{id j o:Nat}(h:j≠id):PA id (.ptr j o)=ydh:=by simp only[PA,jg h,wH]
def ayu(h:Nu P L){v:AV}(hv:cz v a)(hw:cz w b)(ka:Bd K a)(kb:Bd K b)(hK:K<=40000000000):∃r,ah P L 156 [v,w] r/\cz r (a-b):=by
 have⟨n,e1,hn⟩:=KZ h hw kb (by lia);have⟨r,e2,hr⟩:=K0 h hv hn ka kb.neg hK;have bA:=hr;obtain⟨s1,w1,rfl,h1⟩:=hv;obtain⟨s2,w2,rfl,h2⟩:=hw;obtain⟨s3,w3,rfl,h3⟩:=hn;obtain⟨s4,w4,rfl,h4⟩:=hr;have⟨l1,u1⟩:=h1.aS;have⟨l2,u2⟩:=h2.aS;have⟨l3,u3⟩:=h3.aS;have⟨l4,u4⟩:=h4.aS;refine⟨_,?_,bA⟩;unfold ah;rw[aJ h.ayr];simp only[go_sem,ya,yc,U5,aV,u1.pu,u1.aj,u1.one,u2.pu,u2.aj,u2.one,u3.aj,cr,e1,e2,bC,c9,db,bR,yh,n7 u4,dU u4]
def auh(h:Nu P L){s1 s2:Int}{w1 w2:AV}(ha:di s1 w1 a)(hb:di s2 w2 b)(ka:Bd K a)(kb:Bd K b)(hK:K<=40000000000):
  ∃r,cz r (a*b)/\∀tm,ak tm 2=.ptr 0 0->ak tm 3=.ptr 1 0->ak tm 4=.ptr 2 0->iF [.cell 4 2 ydh] (D P L (aG (aG nd.body)) ⟨tm,[(2,.cells ydh ydh ydh 2 [.int .i64 0,.af]),(1,.cells ydh ydh ydh 2 [aa s2,w2]),(0,.cells ydh ydh ydh 2 [aa s1,w1])],3,0⟩)=Ft r:=by
 have⟨l1,u1⟩:=ha.aS;have⟨l2,u2⟩:=hb.aS;have⟨p,e1,hp⟩:=Bh h ha;have⟨q,e2,hq⟩:=Bh h hb;have⟨lp,gj,gp,np,vp⟩:=hp.aS;have⟨lq,pX,gq,nq,vq⟩:=hq.aS;have Dk:=yE ka (Cd K);have Hr:=yE kb (Cd K);have llp:lp.length<=40000000000:=xo (pD np vp Dk) hK;have llq:lq.length<=40000000000:=xo (pD nq vq Hr) hK;have⟨o,oH,e3,ho,oG,no,vo⟩:=ax9 h.ayh h.ni h.nj h.gX gj pX gp gq (by lia) (by lia);have⟨r,e4,hr⟩:=EJ h (decide (a<0) !=decide (b<0)) ⟨oH,ho,oG,no,vo⟩ (K:=K+K) (by rw[vp,vq,Nat.pow_add];exact Nat.mul_lt_mul'' Dk Hr) (by lia)
 rw[vp,vq,aaP] at hr;have bA:=hr;obtain⟨s',w',rfl,kX⟩:=hr;have⟨l',jS⟩:=kX.aS;refine⟨_,bA,fun tm t2 t3 t4=>?_⟩;have Aa:∀x y:Bool,Ba ydh (Ft (x==y))=Ft (.bool (x !=y)):=fun x y=>by cases x<;>cases y<;>rfl
 simp only[go_sem,ya,nd,aG,t2,t3,t4,bR,cr,u1.aj,u2.aj,e1,e2,gj.aj,pX.aj,qO,Aa,e3,ho.aj,ho.shut,e4,bC,c9,db,bR,yh,n7 jS,dU jS]
def aoc{m:Nat}(h:a.natAbs*b.natAbs=m):a*b=if (decide (a<0)==decide (b<0))=ydh then (m:Int) else 0-(m:Int):=by
 have:=aaP (a:=a) (b:=b)
 rw[h] at this;unfold cw at this
 cases hd:(decide (a<0)==decide (b<0)) with
 | true=>simp only[bne,hd,xO,yC,xy] at this;exact this.symm
 | false=>simp only[bne,hd,wH,xQ] at this;rw[yz (by decide)];lia
def CG(h:Nu P L){v:AV}(hv:cz v a)(hw:cz w b)(ka:Bd K a)(kb:Bd K b)(hK:K<=40000000000):∃r,ah P L 100 [v,w] r/\cz r (a*b):=by
 obtain⟨s1,w1,rfl,h1⟩:=hv;obtain⟨s2,w2,rfl,h2⟩:=hw;have⟨l1,u1⟩:=h1.aS;have⟨l2,u2⟩:=h2.aS;have⟨r,hr,tail⟩:=auh h h1 h2 ka kb hK;have fin:∀tm,ak tm 2=.ptr 0 0->ak tm 3=.ptr 1 0->ak tm 4=.ptr 2 0->
   D P L (.seq (bM nd.body) (bM (aG nd.body))) ⟨[(0,.agg [aa s1,w1]),(1,.agg [aa s2,w2])],[],0,0⟩=Ft (.normal,⟨tm,[(2,.cells ydh ydh ydh 2 [.int .i64 0,.af]),(1,.cells ydh ydh ydh 2 [aa s2,w2]),(0,.cells ydh ydh ydh 2 [aa s1,w1])],3,0⟩)->ah P L 100 [.agg [aa s1,w1],.agg [aa s2,w2]] r:=fun tm t2 t3 t4 e=>by
  unfold ah;rw[aJ h.Py];show iF [.cell 4 2 ydh] (D P L (.seq (bM nd.body) (.seq (bM (aG nd.body)) (aG (aG nd.body)))) ⟨[(0,.agg [aa s1,w1]),(1,.agg [aa s2,w2])],[],0,0⟩)=_
  rw[FF,e,lJ];exact tail tm t2 t3 t4
 rcases h1 with ⟨rfl,rfl,a1,a2⟩ | ⟨e,l,rfl,ga,na,va,sa,a1⟩
 .rcases h2 with ⟨rfl,rfl,b1,b2⟩ | ⟨e,l,rfl,gb,nb,vb,sb,b1⟩
  .have f1:=Vt h a1 a2;have f2:=Vt h b1 b2;have f3:=N6 (P:=P) (f:=D P L) h.nj (x:=s1.natAbs) (y:=s2.natAbs) (by lia) (by lia);obtain⟨m,hm⟩:∃m,s1.natAbs*s2.natAbs=m:=⟨_,rfl⟩;rw[hm] at f3;have pN:=aoc hm;by_cases cN:m<=9223372036854775807
   .rw [xU (by lia),yF (by lia)] at f3;rw[show (uc 0)=AV.int .u64 0 from rfl] at f3;by_cases hs:(decide (s1<0)==decide (s2<0))=ydh
    .rw [yP hs] at pN;refine⟨.agg [aa (m:Int),.af],?_,by rw[pN];exact di.qc (by lia) (by lia)⟩
     unfold ah;rw[aJ h.Py]
     simp only[go_sem,ya,yc,nd,aV,zD,jX,fh,JU,qO,bj,yd,dI,f1,f2,f3,show (m:Int)<=9223372036854775807 by lia,hs,N5,wrap64 (n:=(m:Int)) (by lia) (by lia),zu];rfl
    .rw [yz hs] at pN;refine⟨.agg [aa (0-(m:Int)),.af],?_,by rw[pN];exact di.qc (by lia) (by lia)⟩
     unfold ah;rw[aJ h.Py]
     simp only[go_sem,ya,yc,nd,aV,zD,jX,fh,JU,qO,bj,yd,dI,f1,f2,f3,show (m:Int)<=9223372036854775807 by lia,hs,N5,wrap64 (n:=(m:Int)) (by lia) (by lia),wrap64 (n:=0-(m:Int)) (by lia) (by lia),zu];rfl
   .by_cases An:m/2^64=0
    .rw [An,yF (by lia)] at f3;rw[show (uc 0)=AV.int .u64 0 from rfl] at f3;refine⟨r,fin _ ?_ ?_ ?_ (by simp only[go_sem,ya,yc,bM,aG,nd,aV,jX,fh,bj,yd,dI,f1,f2,f3,show ¬(m:Int)<=9223372036854775807 by lia]<;>rfl),hr⟩<;>simp only[go_sem,ya]
    .obtain ⟨q,hq⟩:∃q,q=m/2^64:=⟨_,rfl⟩;rw[<-hq] at f3 An;refine⟨r,fin _ ?_ ?_ ?_ (by simp only[go_sem,ya,yc,bM,aG,nd,aV,jX,fh,bj,yd,dI,f1,f2,f3,show ¬(q:Int)=0 by lia]<;>rfl),hr⟩<;>simp only[go_sem,ya]
  .refine ⟨r,fin _ ?_ ?_ ?_ (by simp only[go_sem,ya,yc,bM,aG,nd,aV,jX,r5,fh,bj,yd,dI]<;>rfl),hr⟩<;>simp only[go_sem,ya]
 .refine ⟨r,fin _ ?_ ?_ ?_ (by simp only[go_sem,ya,yc,bM,aG,nd,aV,u2.pu,u2.one,r5,fh,bj,yd,dI]<;>rfl),hr⟩<;>simp only[go_sem,ya]
end
def al4{a b:Int}{q r:Nat}(hb:0<b)(h:q=a.natAbs/b.natAbs)(h2:r=a.natAbs%b.natAbs):
  (cw (decide (a<0)) r<0->a/b=cw (decide (a<0)) q-1/\a%b=cw (decide (a<0)) r+b)/\(¬cw (decide (a<0)) r<0->a/b=cw (decide (a<0)) q/\a%b=cw (decide (a<0)) r):=by
 have fD:=xz a.natAbs b.natAbs;have aM:r<b.natAbs:=by rw[h2];exact xu _ (by lia)
 unfold cw;by_cases h0:a<0
 .simp only [h0,yX,xQ];constructor
  .intro h3;refine (yag hb).2 ⟨?_,by lia,by lia⟩
   grind
  .intro h3;refine (yag hb).2 ⟨?_,by lia,by lia⟩
   grind
 .grind
def aui(h:Nu P L){s1 s2:Int}{w1 w2:AV}{a b:Int}{K:Nat}(ha:di s1 w1 a)(hb:di s2 w2 b)(dQ:0<b)(ka:Bd K a)(kb:Bd K b)(hK:K<=30000000000):
  ∃q r,cz q (a/b)/\cz r (a%b)/\∀tm,ak tm 2=.ptr 0 0->ak tm 3=.ptr 1 0->ak tm 4=.ptr 2 0->ak tm 5=.ptr 3 0->iF [.cell 4 2 ydh,.cell 5 2 ydh] (D P L (aG (aG nf.body)) ⟨tm,[(3,.cells ydh ydh ydh 2 [.int .i64 0,.af]),(2,.cells ydh ydh ydh 2 [.int .i64 0,.af]),(1,.cells ydh ydh ydh 2 [aa s2,w2]),(0,.cells ydh ydh ydh 2 [aa s1,w1])],4,0⟩)=Ft (.ax [q,r]):=by
 have⟨l1,u1⟩:=ha.aS;have⟨l2,u2⟩:=hb.aS;have⟨p,e1,hp⟩:=Bh h ha;have⟨q,e2,hq⟩:=Bh h hb;have bH:cz (.agg [aa s2,w2]) b:=⟨s2,w2,rfl,hb⟩;have⟨lp,gj,_⟩:=hp.aS;have⟨lq,pX,_⟩:=hq.aS;have Dk:=yE ka (Cd K);have Hr:=yE kb (Cd K);have⟨dq,dr,e3,Fh,jQ⟩:=afy h.toWd hp hq (by lia) Dk Hr (by lia);have⟨L2,uq,_⟩:=Fh.aS;have⟨lr1,ur,_⟩:=jQ.aS;have hqk:a.natAbs/b.natAbs<(2^64)^K:=wC (vB _ _) Dk;have hrk:a.natAbs%b.natAbs<(2^64)^K:=wC (yde _ _) Dk;have hqb:a.natAbs/b.natAbs<2^K:=wC (vB _ _) ka;have Xj:a.natAbs%b.natAbs<2^K:=wC (yde _ _) ka;have⟨f1,f2⟩:=al4 (a:=a) dQ rfl rfl;generalize a.natAbs/b.natAbs=Q at*
 generalize a.natAbs%b.natAbs=R at*
 have⟨vq,e4,hvq⟩:=EJ h (decide (a<0)) Fh hqk (by lia);have⟨vr,e5,LL⟩:=EJ h (decide (a<0)) jQ hrk (by lia);have hsq:Bd K (cw (decide (a<0)) Q):=by unfold Bd cw;split<;>lia
 have hsr:Bd K (cw (decide (a<0)) R):=by unfold Bd cw;split<;>lia
 generalize cw (decide (a<0)) R=Rs at*
 have e6:=KY h LL;have afD:=hvq;have afE:=LL;obtain⟨s3,w3,rfl,h3⟩:=hvq;obtain⟨s4,w4,rfl,h4⟩:=LL;have⟨l3,u3⟩:=h3.aS;have⟨l4,u4⟩:=h4.aS;by_cases h0:Rs<0
 .have ⟨g1,g2⟩:=f1 h0;have eE:Bd (K+1) 1:=Bd.mono (k:=1) (by unfold Bd;decide) (by lia)
  have⟨o1,o2⟩:=GN h (z:=1) (by decide) (by decide);have⟨vq2,e7,Vu⟩:=ayu h afD o2 (K:=K+1) (hsq.mono (by lia)) eE (by lia);have⟨vr2,e8,Vv⟩:=K0 h afE bH (K:=K+1) (hsr.mono (by lia)) (kb.mono (by lia)) (by lia);rw[<-g1] at Vu;rw[<-g2] at Vv;have oA:eF Rs<0:=by unfold eF;rw[yP h0];decide
  have k1:=Vu;have k2:=Vv;obtain⟨s5,w5,rfl,h5⟩:=Vu;obtain⟨s6,w6,rfl,h6⟩:=Vv;have⟨l5,u5⟩:=h5.aS;have⟨l6,u6⟩:=h6.aS;refine⟨_,_,k1,k2,fun tm t2 t3 t4 t5=>?_⟩;simp only[go_sem,ya,yc,nf,aG,t2,t3,t4,t5,TO,TP,Tc,SB,TQ,vm,aV,bR,cr,u1.aj,u2.aj,e1,e2,gj.aj,pX.aj,e3,uq.aj,uq.bF,ur.aj,ur.bF,e4,e5,bC,c9,db,bR,yh,dU u3,dU u4,u3.aj,u4.aj,e6,oA,o1,e7,e8,c9,db,bR,yh,dU u5,dU u6,acH u5 u6]
 .have ⟨g1,g2⟩:=f2 h0;have oA:¬eF Rs<0:=by unfold eF;rw[yz h0];split<;>decide
  refine⟨_,_,by rw[g1];exact afD,by rw[g2];exact afE,fun tm t2 t3 t4 t5=>?_⟩
  simp only[go_sem,ya,yc,nf,aG,t2,t3,t4,t5,TO,TP,Tc,SB,TQ,vm,aV,bR,cr,u1.aj,u2.aj,e1,e2,gj.aj,pX.aj,e3,uq.aj,uq.bF,ur.aj,ur.bF,e4,e5,bC,c9,db,bR,yh,dU u3,dU u4,u4.aj,e6,oA,acH u3 u4]
def afF(h:Nu P L){v w:AV}{a b:Int}{K:Nat}(hv:cz v a)(hw:cz w b)(dQ:0<b)(ka:Bd K a)(kb:Bd K b)(hK:K<=30000000000):∃q r,ah P L 164 [v,w] (.ax [q,r])/\cz q (a/b)/\cz r (a%b):=by
 obtain⟨s1,w1,rfl,h1⟩:=hv;obtain⟨s2,w2,rfl,h2⟩:=hw;have⟨l1,u1⟩:=h1.aS;have⟨l2,u2⟩:=h2.aS;have⟨q,r,hq,hr,tail⟩:=aui h h1 h2 dQ ka kb hK;have fin:∀tm,ak tm 2=.ptr 0 0->ak tm 3=.ptr 1 0->ak tm 4=.ptr 2 0->ak tm 5=.ptr 3 0->
   D P L (.seq (bM nf.body) (bM (aG nf.body))) ⟨[(0,.agg [aa s1,w1]),(1,.agg [aa s2,w2])],[],0,0⟩=Ft (.normal,⟨tm,[(3,.cells ydh ydh ydh 2 [.int .i64 0,.af]),(2,.cells ydh ydh ydh 2 [.int .i64 0,.af]),(1,.cells ydh ydh ydh 2 [aa s2,w2]),(0,.cells ydh ydh ydh 2 [aa s1,w1])],4,0⟩)->ah P L 164 [.agg [aa s1,w1],.agg [aa s2,w2]] (.ax [q,r]):=fun tm t2 t3 t4 t5 e=>by
  unfold ah;rw[aJ h.Vs];show iF [.cell 4 2 ydh,.cell 5 2 ydh] (D P L (.seq (bM nf.body) (.seq (bM (aG nf.body)) (aG (aG nf.body)))) ⟨[(0,.agg [aa s1,w1]),(1,.agg [aa s2,w2])],[],0,0⟩)=_
  rw[FF,e,lJ];exact tail tm t2 t3 t4 t5
 rcases h1 with ⟨rfl,rfl,a1,a2⟩ | ⟨e,l,rfl,ga,na,va,sa,a1⟩
 .rcases h2 with ⟨rfl,rfl,b1,b2⟩ | ⟨e,l,rfl,gb,nb,vb,sb,b1⟩
  .by_cases hm:s1= -9223372036854775808
   .refine ⟨q,r,fin _ ?_ ?_ ?_ ?_ (by simp only[go_sem,ya,yc,bM,aG,nf,aV,jX,fh,bj,yd,dI,hm]<;>rfl),hq,hr⟩<;>simp only[go_sem,ya]
   .have ⟨f1,f2⟩:=alU (a:=s1) dQ;have bG:s1.tdiv s2=0\/(s1.tdiv s2).natAbs<=s1.natAbs:=.inr (Int.natAbs_tdiv_le_natAbs s1 s2);have eZ:=Int.tmod_lt_of_pos s1 dQ;have Bw:=Int.lt_tmod_of_pos s1 dQ;by_cases h0:s1.tmod s2<0
    .have ⟨g1,g2⟩:=f1 h0;rw[g1,g2];refine⟨.agg [aa (s1.tdiv s2-1),.af],.agg [aa (s1.tmod s2+s2),.af],?_,di.qc (by lia) (by lia),di.qc (by lia) (by lia)⟩;unfold ah;rw[aJ h.Vs]
     simp only[go_sem,ya,yc,nf,aV,zD,jX,fh,bj,yd,dI,hm,fW _ _ _ (show s2≠0 by lia),fE _ _ _ (show s2≠0 by lia),h0,wrap64 (n:=s1.tdiv s2) (by lia) (by lia),wrap64 (n:=s1.tdiv s2-1) (by lia) (by lia),wrap64 (n:=s1.tmod s2+s2) (by lia) (by lia),zu];rfl
    .have ⟨g1,g2⟩:=f2 h0;rw[g1,g2];refine⟨.agg [aa (s1.tdiv s2),.af],.agg [aa (s1.tmod s2),.af],?_,di.qc (by lia) (by lia),di.qc (by lia) (by lia)⟩;unfold ah;rw[aJ h.Vs]
     simp only[go_sem,ya,yc,nf,aV,zD,jX,fh,bj,yd,dI,hm,fW _ _ _ (show s2≠0 by lia),fE _ _ _ (show s2≠0 by lia),h0,wrap64 (n:=s1.tdiv s2) (by lia) (by lia),zu];rfl
  .refine ⟨q,r,fin _ ?_ ?_ ?_ ?_ (by simp only[go_sem,ya,yc,bM,aG,nf,aV,jX,r5,fh,bj,yd,dI]<;>rfl),hq,hr⟩<;>simp only[go_sem,ya]
 .refine ⟨q,r,fin _ ?_ ?_ ?_ ?_ (by simp only[go_sem,ya,yc,bM,aG,nf,aV,u2.pu,u2.one,r5,fh,bj,yd,dI]<;>rfl),hq,hr⟩<;>simp only[go_sem,ya]
section
variable {v w:AV}{a b:Int}{l m:List Nat}{K:Nat}
def afG(h:Nu P L)(hv:cz v a)(hw:cz w b)(dQ:0<b)(ka:Bd K a)(kb:Bd K b)(hK:K<=30000000000):∃r,ah P L 148 [v,w] r/\cz r (a/b):=by
 have e1:=KY h hw;have⟨q,r,e2,hq,hr⟩:=afF h hv hw dQ ka kb hK;have e3:eF b=1:=by unfold eF;rw[yz (by lia),yz (by lia)]
 rw[e3] at e1;have bG:=hq;obtain⟨s1,w1,rfl,h1⟩:=hv;obtain⟨s2,w2,rfl,h2⟩:=hw;obtain⟨s3,w3,rfl,h3⟩:=hq;obtain⟨s4,w4,rfl,h4⟩:=hr;have⟨l1,u1⟩:=h1.aS;have⟨l2,u2⟩:=h2.aS;have⟨l3,u3⟩:=h3.aS;have⟨l4,u4⟩:=h4.aS;refine⟨_,?_,bG⟩;unfold ah;rw[aJ h.ays];simp only[go_sem,ya,yc,U4,Int.reduceLT,xb,aV,u1.pu,u1.aj,u1.one,u2.pu,u2.aj,u2.one,yd,cr,e1,e2,DH,c9,db,bR,yh,n7 u3,dU u3,dU u4]
def auj(h:Nu P L)(G:Nat)(hK:K<=30000000000){o1 o2:AV}:
  en P L [2,3,4] Jt (fun k s=>∃(x y:Nat) (s1 s2:Int) (w1 w2:AV),s=⟨[(2,.ptr 0 0),(3,.ptr 1 0),(4,.ptr 2 0)],[(2,.cells ydh ydh ydh 2 [o1,o2]),(1,.cells ydh ydh ydh 2 [aa s2,w2]),(0,.cells ydh ydh ydh 2 [aa s1,w1])],3,0⟩/\di s1 w1 x/\di s2 w2 y/\Bd K x/\Bd K y/\Nat.gcd x y=G/\y=k) (fun ex s'=>∃tm s1 w1 c1,s'=⟨tm,[(2,.cells ydh ydh ydh 2 [o1,o2]),(1,c1),(0,.cells ydh ydh ydh 2 [aa s1,w1])],3,0⟩/\ex=.exit 0/\ak tm 2=.ptr 0 0/\ak tm 4=.ptr 2 0/\di s1 w1 G):=by
 apply eB;rintro k s ⟨x,y,s1,s2,w1,w2,rfl,h1,h2,k1,k2,hG,rfl⟩;have⟨l1,u1⟩:=h1.aS;have⟨l2,u2⟩:=h2.aS;have i1:cz (.agg [aa s1,w1]) (x:Int):=⟨s1,w1,rfl,h1⟩;have i2:cz (.agg [aa s2,w2]) (y:Int):=⟨s2,w2,rfl,h2⟩;have e1:=KY h i2;by_cases kI:y=0
 .right
  subst kI;rw[show eF ((0:Nat):Int)=0 from rfl] at e1;simp only[go_sem,ya,Jt,yX,xO,bR,cr,u2.aj,e1];obtain rfl:x=G:=by rw[<-hG,Nat.gcd_zero_right]
  exact⟨_,_,rfl,by simp,_,s1,w1,_,rfl,rfl,rfl,rfl,h1⟩
 .left
  have e3:eF (y:Int)=1:=by unfold eF;rw[yz (by lia),yz (by lia)]
  rw[e3] at e1;have⟨q,r,e2,hq,hr⟩:=afF h i1 i2 (by lia) k1 k2 hK;obtain⟨s3,w3,rfl,h3⟩:=hq;obtain⟨s4,w4,rfl,h4⟩:=hr;have⟨l3,u3⟩:=h3.aS;have⟨l4,u4⟩:=h4.aS;have aM:=xu x (show 0<y by lia);have kr:Bd K ((x%y:Nat):Int):=k2.le (by lia);simp only[go_sem,ya,yc,Jt,TO,TP,Tc,SB,TQ,vm,yaI,xb,wH,aV,bR,cr,u1.aj,u2.aj,e1,e2,DH,bR,yh,dU u2,dU u3,dU u4];refine⟨_,x%y,rfl,aM,y,x%y,s2,s4,w2,w4,?_,h2,h4,k2,kr,by rw[<-hG];exact an2 x y kI,rfl⟩
  simp only[go_sem,ya,yc,aA]
def ayv(h:Nu P L)(hv:cz v a)(hw:cz w b)(ka:Bd K a)(kb:Bd K b)(hK:K<=30000000000):∃r,ah P L 130 [v,w] r/\cz r (vJ a b:Nat):=by
 have⟨va,e1,ha⟩:=afC h hv ka (by lia);have⟨vb,e2,hb⟩:=afC h hw kb (by lia);obtain⟨s1,w1,rfl,h1⟩:=hv;obtain⟨s2,w2,rfl,h2⟩:=hw;obtain⟨s3,w3,rfl,h3⟩:=ha;obtain⟨s4,w4,rfl,h4⟩:=hb;have⟨l1,u1⟩:=h1.aS;have⟨l2,u2⟩:=h2.aS;have⟨l3,u3⟩:=h3.aS;have⟨l4,u4⟩:=h4.aS;have jM:∃s w,ah P L 130 [.agg [aa s1,w1],.agg [aa s2,w2]] (.agg [aa s,w])/\di s w (vJ a b:Nat):=by
  unfold ah;rw[aJ h.ayt];simp only[go_sem,ya,yc,U2,aV,u1.pu,u1.aj,u1.one,u2.pu,u2.aj,u2.one,bR,cr,e1,e2,bC,bR,yh,dU u3,dU u4,yd];generalize hq:D P L (.loop _ Jt) _=q;obtain⟨ex,s,rfl,tm,s5,w5,c1,rfl,rfl,t2,t4,h5⟩:=bN hq (auj (P:=P) (L:=L) h (vJ a b) (K:=K) hK (o1:=.int .i64 0) (o2:=.af) b.natAbs) ⟨a.natAbs,b.natAbs,s3,s4,w3,w4,by simp only[go_sem,ya,yc,aA],h3,h4,ka,kb,rfl,rfl⟩;have⟨l5,u5⟩:=h5.aS;refine⟨s5,w5,?_,h5⟩;simp only[go_sem,ya,yc,aA,t2,t4,c9,db,bR,yh,n7 u5,dU u5]
 have⟨s,w,e,hn⟩:=jM;exact⟨_,e,s,w,rfl,hn⟩
def cg(v:AV)(r:Rat):Prop:=∃s1 w1 s2 w2,v=.agg [aa s1,w1,aa s2,w2]/\di s1 w1 r.num/\di s2 w2 (r.den:Int)
def Hq(k:Nat)(r:Rat):Prop:=Bd k r.num/\Bd k (r.den:Int)
def Q3(hb:0<b):(wX a b).num=a/(vJ a b:Nat)/\((wX a b).den:Int)=b/(vJ a b:Nat):=by
 constructor
 .rw [ycb,Int.sign_eq_one_of_pos hb,Int.one_mul,ycD]
 .rw [ycc,yz (by lia),ycD]
  grind
def Hq.divInt{k:Nat}(hb:0<b)(ka:Bd k a)(kb:Bd k b):Hq k (wX a b):=by
 have⟨h1,h2⟩:=Q3 (a:=a) hb;refine⟨ka.le ?_,kb.le ?_⟩
 .rw [h1,uZ (Int.gcd_dvd_left a b)];exact vB _ _
 .rw [h2,uZ (Int.gcd_dvd_right a b)];exact vB _ _
section
def FR{tm:Env}{a b x y z:AV}{r:List (Nat×Nat×X)}(h1:cL a=ydh)(h2:cL b=ydh):kP tm [x,y,z,w] 0 2 [a,b] r=fill tm [a,b,z,w] r:=by
 rw[B3 (by rfl) (by simp) (by simp[bS,h1,h2])];rfl
def FT{tm:Env}{a b x y z:AV}{r:List (Nat×Nat×X)}(h1:cL a=ydh)(h2:cL b=ydh):kP tm [x,y,z,w] 2 2 [a,b] r=fill tm [x,y,a,b] r:=by
 rw[B3 (by rfl) (by simp) (by simp[bS,h1,h2])];rfl
def lM{s t:Int}(hv:bI v l)(hw:bI w m)(hp:Hp)(ct id:Nat)(a b x y:AV):gm hp ct id 0 4 [.int .i64 s,v,.int .i64 t,w] (Ft (.cells ydh ydh ydh 4 [a,b,x,y]))=Ft (.ax [],aU hp id (.cells ydh ydh ydh 4 [.int .i64 s,v,.int .i64 t,w]),ct):=by
 rw[qM (by rfl) (by simp) (by simp[bS,hv.one,hw.one,abQ])];simp[aD,hv.pu,hw.pu,over,acy]
def lO{s t:Int}(hv:bI v l)(hw:bI w m)(hp:Hp):result hp (.agg [aa s,v,aa t,w])=Ft (.agg [aa s,v,aa t,w]):=by
 rcases hv with ⟨rfl,_⟩ | ⟨e,rfl⟩<;>rcases hw with ⟨rfl,_⟩ | ⟨e',rfl⟩<;>rfl
variable {P:aF}{L:Lib}
structure Fr'(P:aF)(L:Lib):Prop extends Nu P L where
 ayw:Has P L 101 od
 Xk:Has P L 69 WI
 ayx:Has P L 111 U1
 h98:Has P L 98 Qf
 ayy:Has P L 108 UZ
 aDT:Has P L 102 aeV
 h74:Has P L 74 LA
 h50:Has P L 50 c50
 pY:Has P L 49 c49
 h73:Has P L 73 WK
 h70:Has P L 70 WJ
 h71:Has P L 71 c71
 aDU:Has P L 149 ae0
def acI(h:Fr' P L){s1 s2:Int}{w1 w2:AV}(h1:di s1 w1 a)(h2:di s2 w2 b)(dQ:0<b)(ka:Bd K a)(kb:Bd K b)(hK:K<=30000000000):
  ∃r,cg r (wX a b)/\∀tm,ak tm 2=.ptr 0 0->ak tm 3=.ptr 1 0->ak tm 4=.ptr 2 0->iF [.cell 4 4 ydh] (D P L (aG (aG od.body)) ⟨tm,[(2,.cells ydh ydh ydh 4 [.int .i64 0,.af,.int .i64 0,.af]),(1,.cells ydh ydh ydh 2 [aa s2,w2]),(0,.cells ydh ydh ydh 2 [aa s1,w1])],3,0⟩)=Ft r:=by
 have hv:cz (.agg [aa s1,w1]) a:=⟨s1,w1,rfl,h1⟩;have hw:cz (.agg [aa s2,w2]) b:=⟨s2,w2,rfl,h2⟩;have⟨p1,p2⟩:=Q3 (a:=a) dQ;have hgp:=NI (a:=a) dQ;have hgk:Bd K ((vJ a b:Nat):Int):=kb.le (by
  have:=Int.gcd_le_natAbs_right a (show b≠0 by lia)
  lia)
 have⟨g,e2,hg⟩:=ayv h.toNu hv hw ka kb hK;have⟨q1,e4,fP⟩:=afG h.toNu hv hg hgp ka hgk hK;have⟨q2,e5,Df⟩:=afG h.toNu hw hg hgp kb hgk hK;rw[<-p1] at fP;rw[<-p2] at Df;obtain⟨s3,w3,rfl,h3⟩:=hg;obtain⟨s4,w4,rfl,h4⟩:=fP;obtain⟨s5,w5,rfl,h5⟩:=Df;have⟨l1,u1⟩:=h1.aS;have⟨l2,u2⟩:=h2.aS;have⟨l3,u3⟩:=h3.aS;have⟨l4,u4⟩:=h4.aS;have⟨l5,u5⟩:=h5.aS;by_cases fM:w2=.af/\s2=1
 .obtain ⟨rfl,rfl⟩:=fM;have eE:b=1:=by
   rcases h2 with ⟨_,h,_⟩ | ⟨_,_,h,_⟩
   .exact h.symm
   .cases h
  subst eE;rw[Int.gcd_one] at p1 p2;have p1:(wX a 1).num=a:=by rw[p1];exact Int.ediv_one a
  refine⟨.agg [aa s1,w1,aa 1,.af],⟨s1,w1,1,.af,rfl,by rw[p1];exact h1,by rw[p2];exact h2⟩,fun tm t2 t3 t4=>?_⟩
  have un:=zq;simp only[go_sem,ya,od,aG,t2,t3,t4,u1.one,bR,bj,yd,dI,jX,fh,FR,FT,lM u1 un,c9,db,yh,iX,lO u1 un]
 .refine ⟨.agg [aa s4,w4,aa s5,w5],⟨s4,w4,s5,w5,rfl,h4,h5⟩,fun tm t2 t3 t4=>?_⟩;rcases u2 with ⟨rfl,_⟩ | ⟨e,rfl⟩
  .simp only [go_sem,ya,yc,od,aG,t2,t3,t4,aV,u1.aj,bR,cr,bj,yd,dI,jX,fh,show ¬s2=1 from fun e=>fM ⟨rfl,e⟩,e2,e4,e5,bC,c9,db,bR,yh,dU u3,u3.aj,u4.one,u5.one,FR,FT,lM u4 u5,iX,lO u4 u5]
  .simp only [go_sem,ya,yc,od,aG,t2,t3,t4,aV,u1.aj,bR,cr,bj,yd,dI,r5,fh,e2,e4,e5,bC,c9,db,bR,yh,dU u3,u3.aj,u4.one,u5.one,FR,FT,lM u4 u5,iX,lO u4 u5]
def Vw(h:Fr' P L)(hv:cz v a)(hw:cz w b)(dQ:b≠0)(ka:Bd K a)(kb:Bd K b)(hK:K<=30000000000):∃r,ah P L 101 [v,w] r/\cg r (wX a b):=by
 have e1:=KY h.toNu hw;have fa:=hv;have Xl:=hw;obtain⟨s1,w1,rfl,h1⟩:=hv;obtain⟨s2,w2,rfl,h2⟩:=hw;have⟨l1,u1⟩:=h1.aS;have⟨l2,u2⟩:=h2.aS;have fin:∀r t1 t2 v1 v2 tm,(∀tm,ak tm 2=.ptr 0 0->ak tm 3=.ptr 1 0->ak tm 4=.ptr 2 0->iF [.cell 4 4 ydh] (D P L (aG (aG od.body)) ⟨tm,[(2,.cells ydh ydh ydh 4 [.int .i64 0,.af,.int .i64 0,.af]),(1,.cells ydh ydh ydh 2 [aa t2,v2]),(0,.cells ydh ydh ydh 2 [aa t1,v1])],3,0⟩)=Ft r)->ak tm 2=.ptr 0 0->ak tm 3=.ptr 1 0->ak tm 4=.ptr 2 0->
   D P L (.seq (bM od.body) (bM (aG od.body))) ⟨[(0,.agg [aa s1,w1]),(1,.agg [aa s2,w2])],[],0,0⟩=Ft (.normal,⟨tm,[(2,.cells ydh ydh ydh 4 [.int .i64 0,.af,.int .i64 0,.af]),(1,.cells ydh ydh ydh 2 [aa t2,v2]),(0,.cells ydh ydh ydh 2 [aa t1,v1])],3,0⟩)->ah P L 101 [.agg [aa s1,w1],.agg [aa s2,w2]] r:=fun r t1 t2 v1 v2 tm tail k2 k3 k4 e=>by
  unfold ah;rw[aJ h.ayw];show iF [.cell 4 4 ydh] (D P L (.seq (bM od.body) (.seq (bM (aG od.body)) (aG (aG od.body)))) ⟨[(0,.agg [aa s1,w1]),(1,.agg [aa s2,w2])],[],0,0⟩)=_
  rw[FF,e,lJ];exact tail tm k2 k3 k4
 by_cases hn:b<0
 .have ⟨n1,e2,mK⟩:=KZ h.toNu fa ka (by lia);have⟨n2,e3,dK⟩:=KZ h.toNu Xl kb (by lia);obtain⟨s3,w3,rfl,h3⟩:=mK;obtain⟨s4,w4,rfl,h4⟩:=dK;have⟨l3,u3⟩:=h3.aS;have⟨l4,u4⟩:=h4.aS;have⟨r,hr,tail⟩:=acI h h3 h4 (by lia) ka.neg kb.neg hK;rw[Rat.neg_divInt_neg] at hr;have hs:eF b<0:=by unfold eF;rw[yP hn];decide
  refine⟨r,fin r _ _ _ _ _ tail ?_ ?_ ?_ (by simp only[go_sem,ya,yc,od,bM,aG,hs,aV,u1.pu,u1.aj,u1.one,u2.pu,u2.aj,u2.one,bR,cr,e1,e2,e3,bC,dU u3,dU u4]<;>rfl),hr⟩<;>simp only[go_sem,ya]
 .have ⟨r,hr,tail⟩:=acI h h1 h2 (by lia) ka kb hK;have hs:¬eF b<0:=by unfold eF;rw[yz hn];split<;>decide
  refine⟨r,fin r _ _ _ _ _ tail ?_ ?_ ?_ (by simp only[go_sem,ya,yc,od,bM,aG,hs,aV,u1.pu,u1.one,u2.pu,u2.aj,u2.one,bR,cr,e1]<;>rfl),hr⟩<;>simp only[go_sem,ya]
end
end
section
variable {v w:AV}{K k m:Nat}{a b:Rat}
def Hq.mono{r:Rat}(h:Hq k r)(hk:k<=m):Hq m r:=⟨h.1.mono hk,h.2.mono hk⟩
def Hq.neg{r:Rat}(h:Hq k r):Hq k (-r):=⟨h.1.neg,h.2⟩
def add_eq(a b:Rat):a+b=wX (a.num*b.den+b.num*a.den) ((a.den:Int)*b.den):=by
 rw[Rat.add_def',<-ybK,xZ]
def mul_eq(a b:Rat):a*b=wX (a.num*b.num) ((a.den:Int)*b.den):=by
 rw[Rat.mul_def',<-ybK,xZ]
def aaQ(a:Rat):0<(a.den:Int):=by have:=a.den_pos;lia
def Fw(a b:Rat):0<(a.den:Int)*b.den:=Int.mul_pos (aaQ a) (aaQ b)
def Bd.Vx{a b:Int}(ha:Bd k a)(hb:Bd k b):Bd (k+1) (a+b):=by
 have:=ha.add hb
 grind
def Hq.add(ha:Hq k a)(hb:Hq m b):Hq (k+m+1) (a+b):=by
 rw[add_eq];refine Hq.divInt (Fw a b) ?_ ((ha.2.mul hb.2).mono (by lia));exact (ha.1.mul hb.2).Vx ((hb.1.mul ha.2).mono (by lia))
def Hq.mul(ha:Hq k a)(hb:Hq m b):Hq (k+m) (a*b):=by
 rw[mul_eq];exact Hq.divInt (Fw a b) (ha.1.mul hb.1) (ha.2.mul hb.2)
def Hq.sub(ha:Hq k a)(hb:Hq m b):Hq (k+m+1) (a-b):=by
 rw[Rat.sub_eq_add_neg];exact ha.add hb.neg
def Hq.inv(ha:Hq k a):Hq k a⁻¹:=by
 have h1:(a⁻¹).num.natAbs<=a.den:=by
  rw[Rat.num_inv,Int.natAbs_mul]
  grind
 refine⟨ha.2.le (by simpa using h1),?_⟩;unfold Bd;rw[Rat.den_inv]
 split
 .have h2:=ha.2;unfold Bd at h2
  simp_all
 .exact ha.1
def Hq.div(ha:Hq k a)(hb:Hq m b):Hq (k+m) (a/b):=by
 rw[Rat.div_def];exact ha.mul hb.inv
def PB(a b:Rat):Int:=if a<b then -1 else if a=b then 0 else 1
def Td(a:Rat)(h:a.den=1):a=(a.num:Rat):=by
 have:=Rat.num_divInt_den a
 rw[h] at this;rw[<-this];exact (Rat.ext (by simp[ycb]) (by simp[ycc]))
def Gp(a b c d:AV)(r:List AV):gI 2 ydh (List.drop 2 (a::b::c::d::r))=Ft (.agg [c,d]):=rfl
def AX(a b:AV)(r:List AV):gI 2 ydh (a::b::r)=Ft (.agg [a,b]):=rfl
def Vy(h:Fr' P L){z:Int}(hv:cz v z):∃r,ah P L 111 [v] r/\cg r (z:Rat):=by
 have⟨o1,o2⟩:=GN h.toNu (z:=1) (by decide) (by decide);obtain⟨s1,w1,rfl,h1⟩:=hv;have⟨l1,u1⟩:=h1.aS;have un:=zq;refine⟨.agg [aa s1,w1,aa 1,.af],?_,s1,w1,1,.af,rfl,h1,.inl ⟨rfl,rfl,(by show (-9223372036854775808:Int)<=1;decide),(by show (1:Int)<9223372036854775808;decide)⟩⟩
 unfold ah;rw[aJ h.ayx];simp only[go_sem,ya,yc,U1,aV,u1.pu,u1.one,bR,o1,bC,FR,FT,lM u1 un,c9,db,yh,iX,lO u1 un]
def Hs(h:Fr' P L){z:Int}(h1: -9223372036854775808<=z)(h2:z<9223372036854775808):∃r,ah P L 69 [aa z] r/\cg r (z:Rat):=by
 have⟨o1,o2⟩:=GN h.toNu h1 h2;have⟨r,e,hr⟩:=Vy h o2;have bA:=hr;obtain⟨s1,w1,s2,w2,rfl,k1,k2⟩:=hr;have⟨l1,u1⟩:=k1.aS;have⟨l2,u2⟩:=k2.aS;refine⟨_,?_,bA⟩;unfold ah;rw[aJ h.Xk];simp only[go_sem,ya,yc,WI,aV,cr,o1,e,bC,lM u1 u2,c9,db,yh,iX,lO u1 u2]
def Xm(h:Fr' P L)(hv:cg v a):ah P L 98 [v] (.bool (decide (a.den=1))):=by
 obtain⟨s1,w1,s2,w2,rfl,h1,h2⟩:=hv;have⟨l1,u1⟩:=h1.aS;unfold ah;rw[aJ h.h98];rcases h2 with ⟨rfl,rfl,b1,b2⟩ | ⟨e,l,rfl,gb,nb,vb,sb,b1⟩
 .have e:decide (((a.den:Nat):Int)=1)=decide (a.den=1):=by simp;lia
  simp only[go_sem,ya,yc,Qf,aV,u1.pu,u1.one,bj,yd,awx,adZ,jX,fh,e]
 .have e:decide (a.den=1)=false:=xv (by lia);rw[e];simp only[go_sem,ya,yc,Qf,aV,u1.pu,u1.one,bj,yd,adZ,r5,fh]
def afH(h:Fr' P L)(hv:cg v a):ah P L 108 [v] (aa (eF a.num)):=by
 obtain⟨s1,w1,s2,w2,rfl,h1,h2⟩:=hv;have⟨l1,u1⟩:=h1.aS;have⟨l2,u2⟩:=h2.aS;have e1:=KY h.toNu ⟨s1,w1,rfl,h1⟩;unfold ah;rw[aJ h.ayy];simp only[go_sem,ya,yc,UZ,aV,u1.pu,u1.aj,u1.one,u2.pu,u2.one,bj,yd,AX,cr,e1]
def Qz(h:Fr' P L)(hv:cg v a)(hw:cg w b)(ka:Hq K a)(kb:Hq K b)(hK:K<=10000000000):∃r,ah P L 74 [v,w] r/\cg r (a+b):=by
 have i1:=Xm h hv;have i2:=Xm h hw;obtain⟨s1,w1,s2,w2,rfl,h1,h2⟩:=hv;obtain⟨s3,w3,s4,w4,rfl,h3,h4⟩:=hw;have⟨l1,u1⟩:=h1.aS;have⟨l2,u2⟩:=h2.aS;have⟨l3,u3⟩:=h3.aS;have⟨l4,u4⟩:=h4.aS;have n1:cz (.agg [aa s1,w1]) a.num:=⟨s1,w1,rfl,h1⟩;have n2:cz (.agg [aa s2,w2]) a.den:=⟨s2,w2,rfl,h2⟩;have n3:cz (.agg [aa s3,w3]) b.num:=⟨s3,w3,rfl,h3⟩;have n4:cz (.agg [aa s4,w4]) b.den:=⟨s4,w4,rfl,h4⟩;by_cases Qp:a.den=1/\b.den=1
 .have ⟨d1,d2⟩:=Qp;have⟨p,e1,hp⟩:=K0 h.toNu n1 n3 ka.1 kb.1 (by lia);have⟨r,e2,hr⟩:=Vy h hp;have he:((a.num+b.num:Int):Rat)=a+b:=by
   rw[Rat.intCast_add,<-Td a d1,<-Td b d2]
  rw[he] at hr;have bA:=hr;obtain⟨s5,w5,rfl,h5⟩:=hp;obtain⟨s6,w6,s7,w7,rfl,h6,h7⟩:=hr;have⟨l5,u5⟩:=h5.aS;have⟨l6,u6⟩:=h6.aS;have⟨l7,u7⟩:=h7.aS;refine⟨_,?_,bA⟩;rw[d1] at i1;rw[d2] at i2;unfold ah;rw[aJ h.h74];simp only[go_sem,ya,yc,LA,aV,u1.pu,u1.aj,u1.one,u2.pu,u2.aj,u2.one,u3.pu,u3.aj,u3.one,u4.pu,u4.aj,u4.one,bj,yd,iX,AX,cr,i1,i2,e1,u5.aj,e2,bC,lM u6 u7,c9,db,yh,iX,lO u6 u7]
 .have ⟨p1,e1,aY⟩:=CG h.toNu n1 n4 ka.1 kb.2 (by lia);have⟨p2,e2,kD⟩:=CG h.toNu n3 n2 kb.1 ka.2 (by lia);have⟨p3,e3,hp3⟩:=K0 h.toNu aY kD (ka.1.mul kb.2) (kb.1.mul ka.2) (by lia);have⟨p4,e4,L3⟩:=CG h.toNu n2 n4 ka.2 kb.2 (by lia);have⟨r,e5,hr⟩:=Vw h hp3 L3 (by have:=Fw a b;lia) ((ka.1.mul kb.2).Vx (kb.1.mul ka.2)) ((ka.2.mul kb.2).mono (by lia)) (by lia)
  rw[<-add_eq] at hr;have bA:=hr;obtain⟨s5,w5,rfl,h5⟩:=aY;obtain⟨s6,w6,rfl,h6⟩:=kD;obtain⟨s7,w7,rfl,h7⟩:=hp3;obtain⟨s8,w8,rfl,h8⟩:=L3;obtain⟨s9,w9,s10,w10,rfl,h9,iK⟩:=hr;have⟨l5,u5⟩:=h5.aS;have⟨l6,u6⟩:=h6.aS;have⟨l7,u7⟩:=h7.aS;have⟨l8,u8⟩:=h8.aS;have⟨l9,u9⟩:=h9.aS;have⟨l10,QA⟩:=iK.aS;refine⟨_,?_,bA⟩;unfold ah;rw[aJ h.h74];by_cases d1:a.den=1
  .rw [d1] at i1;rw[xv (fun d2=>Qp ⟨d1,d2⟩)] at i2;simp only[go_sem,ya,yc,LA,aV,u1.pu,u1.aj,u1.one,u2.pu,u2.aj,u2.one,u3.pu,u3.aj,u3.one,u4.pu,u4.aj,u4.one,bj,yd,iX,AX,Gp,cr,i1,i2,e1,e2,u5.aj,u6.aj,e3,e4,u7.aj,u8.aj,e5,bC,lM u9 QA,c9,db,yh,iX,lO u9 QA]
  .rw [xv d1] at i1;simp only[go_sem,ya,yc,LA,aV,u1.pu,u1.aj,u1.one,u2.pu,u2.aj,u2.one,u3.pu,u3.aj,u3.one,u4.pu,u4.aj,u4.one,bj,yd,iX,AX,Gp,cr,i1,e1,e2,u5.aj,u6.aj,e3,e4,u7.aj,u8.aj,e5,bC,lM u9 QA,c9,db,yh,iX,lO u9 QA]
def QB(h:Fr' P L)(hv:cg v a)(hw:cg w b)(ka:Hq K a)(kb:Hq K b)(hK:K<=10000000000):∃r,ah P L 49 [v,w] r/\cg r (a*b):=by
 obtain⟨s1,w1,s2,w2,rfl,h1,h2⟩:=hv;obtain⟨s3,w3,s4,w4,rfl,h3,h4⟩:=hw;have⟨l1,u1⟩:=h1.aS;have⟨l2,u2⟩:=h2.aS;have⟨l3,u3⟩:=h3.aS;have⟨l4,u4⟩:=h4.aS;have⟨p1,e1,aY⟩:=CG h.toNu (v:=.agg [aa s1,w1]) (w:=.agg [aa s3,w3]) ⟨s1,w1,rfl,h1⟩ ⟨s3,w3,rfl,h3⟩ ka.1 kb.1 (by lia);have⟨p2,e2,kD⟩:=CG h.toNu (v:=.agg [aa s2,w2]) (w:=.agg [aa s4,w4]) ⟨s2,w2,rfl,h2⟩ ⟨s4,w4,rfl,h4⟩ ka.2 kb.2 (by lia);have⟨r,e3,hr⟩:=Vw h aY kD (by have:=Fw a b;lia) (ka.1.mul kb.1) (ka.2.mul kb.2) (by lia)
 rw[<-mul_eq] at hr;have bA:=hr;obtain⟨s5,w5,rfl,h5⟩:=aY;obtain⟨s6,w6,rfl,h6⟩:=kD;obtain⟨s7,w7,s8,w8,rfl,h7,h8⟩:=hr;have⟨l5,u5⟩:=h5.aS;have⟨l6,u6⟩:=h6.aS;have⟨l7,u7⟩:=h7.aS;have⟨l8,u8⟩:=h8.aS;refine⟨_,?_,bA⟩;unfold ah;rw[aJ h.pY];simp only[go_sem,ya,yc,c49,aV,u1.pu,u1.aj,u1.one,u2.pu,u2.aj,u2.one,u3.pu,u3.aj,u3.one,u4.pu,u4.aj,u4.one,u5.aj,u6.aj,bj,yd,AX,Gp,cr,e1,e2,e3,bC,lM u7 u8,c9,db,yh,iX,lO u7 u8]
def m73(h:Fr' P L)(hv:cg v a)(h0:a≠0)(ka:Hq K a)(hK:K<=10000000000):∃r,ah P L 73 [v] r/\cg r a⁻¹:=by
 obtain⟨s1,w1,s2,w2,rfl,h1,h2⟩:=hv;have⟨l1,u1⟩:=h1.aS;have⟨l2,u2⟩:=h2.aS;have⟨r,e1,hr⟩:=Vw h (v:=.agg [aa s2,w2]) (w:=.agg [aa s1,w1]) ⟨s2,w2,rfl,h2⟩ ⟨s1,w1,rfl,h1⟩ (fun e=>h0 (Rat.num_eq_zero.1 e)) ka.2 ka.1 (by lia);rw[<-Rat.inv_def] at hr;have bA:=hr;obtain⟨s7,w7,s8,w8,rfl,h7,h8⟩:=hr;have⟨l7,u7⟩:=h7.aS;have⟨l8,u8⟩:=h8.aS;refine⟨_,?_,bA⟩;unfold ah;rw[aJ h.h73];simp only[go_sem,ya,yc,WK,aV,u1.pu,u1.aj,u1.one,u2.pu,u2.aj,u2.one,bj,yd,AX,Gp,cr,e1,bC,lM u7 u8,c9,db,yh,iX,lO u7 u8]
def Xn(h:Fr' P L)(hv:cg v a)(hw:cg w b)(h0:b≠0)(ka:Hq K a)(kb:Hq K b)(hK:K<=10000000000):∃r,ah P L 70 [v,w] r/\cg r (a/b):=by
 have⟨n,e1,hn⟩:=m73 h hw h0 kb hK;have⟨r,e2,hr⟩:=QB h hv hn ka kb.inv hK;have bA:=hr;obtain⟨s1,w1,s2,w2,rfl,h1,h2⟩:=hv;obtain⟨s3,w3,s4,w4,rfl,h3,h4⟩:=hw;obtain⟨s5,w5,s6,w6,rfl,h5,h6⟩:=hn;obtain⟨s7,w7,s8,w8,rfl,h7,h8⟩:=hr;have⟨l1,u1⟩:=h1.aS;have⟨l2,u2⟩:=h2.aS;have⟨l3,u3⟩:=h3.aS;have⟨l4,u4⟩:=h4.aS;have⟨l5,u5⟩:=h5.aS;have⟨l6,u6⟩:=h6.aS;have⟨l7,u7⟩:=h7.aS;have⟨l8,u8⟩:=h8.aS;refine⟨_,?_,bA⟩;unfold ah;rw[aJ h.h70];simp only[go_sem,ya,yc,WJ,aV,u1.pu,u1.aj,u1.one,u2.pu,u2.aj,u2.one,u3.pu,u3.aj,u3.one,u4.pu,u4.aj,u4.one,u5.aj,u6.aj,iX,cr,e1,e2,bC,lM u7 u8,c9,db,yh,iX,lO u7 u8]
end
def zE:List AV->Option (List Nat)
 | []=>Ft []
 | .int .u64 (.ofNat d)::r=>bif yI d 18446744073709551616 then (match zE r with | some l=>Ft (d::l) | none=>Fu) else Fu
 | _::_=>Fu
def zY:List Nat->Nat
 | []=>0
 | a::r=>a+18446744073709551616*zY r
def Cu:List Nat->Bool
 | []=>false
 | [a]=> !ym a 0
 | _::r=>Cu r
def NN:List AV->Option AV
 | [.agg [.int .i64 s,.af]]=>bif Cr s then Ft (.str (aZ s)) else Fu
 | [.agg [.int .i64 s,.au _ n cs]]=>
  match zE cs with
  | some l=>
   bif ym l.length n&&(yA n 4000000000&&(Cu l&&yA 9223372036854775808 (zY l))) then
    match s with
    | .ofNat 1=>Ft (.str (aB (zY l)))
    | .negSucc 0=>Ft (.str (45::aB (zY l)))
    | _=>Fu
   else Fu
  | none=>Fu
 | _=>Fu
def YZ:∀{l:List Nat},lo (2^64) l->zE (l.map uc)=Ft l
 | [],_=>rfl
 | a::l,h=>by
  have h1:=h a (by simp);have h2:=YZ (l:=l) (fun x hx=>h x (by simp[hx]));show (bif yI a (2^64) then (match zE (l.map uc) with | some l=>Ft (a::l) | none=>Fu) else Fu)=_
  rw[mY h1,h2];rfl
def Tf:∀l:List Nat,zY l=bv (2^64) l
 | []=>rfl
 | a::l=>by simp only[zY,bv,Tf l]
def aaR:∀{l:List Nat},l≠[]->ie l->Cu l=ydh
 | [],h,_=>absurd rfl h
 | [a],_,h=>by
  have:a≠0:=fun e=>by
   subst e;have h:dT [0]=[0]:=h;simp[dT] at h
  simp[Cu,jg this]
 | a::b::r,_,h=>by
  have h1:ie (b::r):=by
   have h:dT (a::b::r)=a::b::r:=h;rw[dT] at h
   grind
  have:=aaR (l:=b::r) (by simp) h1
  simpa[Cu] using this
structure Tx(P:aF)(L:Lib):Prop extends Fr' P L where
 Ht:L.pure 99=Ft NN
 ayz:L.pure 175=Ft Jq
 afI:L.pure 152=Ft MH
 Vz:L.pure 153=Ft Mr
 VA:L.pure 154=Ft Kb
 afJ:L.pure 109=Ft OP
 su:Has P L 155 EA
 afK:Has P L 172 O1
 ayA:Has P L 151 OX
 ayB:Has P L 107 OS
 Xo:Has P L 46 Qd
 afL:Has P L 110 OT
 QC:Has P L 62 Qe
def Xp(h:Tx P L){v:AV}{z:Int}{K:Nat}(hv:cz v z)(hz:Bd K z)(hK:K<=4000000000):ah P L 99 [v] (.str (aZ z)):=by
 obtain⟨s,w,rfl,hn⟩:=hv;unfold ah;rw[lI h.Ht];rcases hn with ⟨rfl,rfl,h1,h2⟩ | ⟨e,l,rfl,g,n,hb,hs,h1⟩
 .show (bif Cr s then Ft (AV.str (aZ s)) else Fu)=_
  have:Cr s=ydh:=by
   cases s with
   | ofNat k=>exact mY (by have:(Int.ofNat k)=(k:Int):=rfl;lia)
   | negSucc k=>exact mY (by lia)
  grind
 .have kV:l≠[]:=fun e=>by subst e;simp[bv] at hb;lia
  have Ae:l.length<=4000000000:=xo (pD n hb (yE hz (Cd K))) hK
  show (match zE (l.map uc) with
   | some l'=>bif ym l'.length l.length&&(yA l.length 4000000000&&(Cu l'&&yA 9223372036854775808 (zY l'))) then (match s with | .ofNat 1=>Ft (AV.str (aB (zY l'))) | .negSucc 0=>Ft (.str (45::aB (zY l'))) | _=>Fu) else Fu
   | none=>Fu)=_
  rw[YZ g];simp only[Nat.beq_refl,yt Ae,aaR kV n,Tf,hb,yt h1,vm,yq];by_cases h0:z<0
  .rw [yP h0] at hs;subst hs;rw[oS h0];rfl
  .rw [yz h0] at hs;subst hs;obtain⟨m,rfl⟩:∃m:Nat,z=m:=⟨z.toNat,by lia⟩;rfl
def RT(r:Rat):List Nat:=aZ r.num++(if r.den=1 then [] else 47::aB r.den)
def IW{z:Int}{k:Nat}(h:Bd k z):(aZ z).length<=k+1:=by
 have h1:∀m:Nat,m<2^k->(aB m).length<=max k 1:=fun m hm=>by
  cases k with
  | zero=>
       have:m=0:=by simpa using hm
       subst this;decide
  | succ k=>
   rw[Nat.max_eq_left (by lia)];exact zo (k:=k) (yE hm (ue (by decide) _))
 by_cases h0:z<0
 .rw [oS h0];unfold Bd at h
  grind
 .obtain ⟨m,rfl⟩:∃m:Nat,z=m:=⟨z.toNat,by lia⟩
  have:=h1 m (by unfold Bd at h;simpa using h)
  rw[zp];lia
def m46(h:Tx P L){v:AV}{a:Rat}{K:Nat}(hv:cg v a)(ka:Hq K a)(hK:K<=4000000000):ah P L 46 [v] (.str (RT a)):=by
 have i1:=Xm h.toFr' hv;obtain⟨s1,w1,s2,w2,rfl,h1,h2⟩:=hv;have⟨l1,u1⟩:=h1.aS;have⟨l2,u2⟩:=h2.aS;have e1:=Xp h (v:=.agg [aa s1,w1]) ⟨s1,w1,rfl,h1⟩ ka.1 hK;have e2:=Xp h (v:=.agg [aa s2,w2]) ⟨s2,w2,rfl,h2⟩ ka.2 hK;have b1:=IW ka.1;have b2:=IW ka.2;rw[zp] at e2 b2;unfold ah RT;rw[aJ h.Xo];by_cases hd:a.den=1
 .rw [yP hd,List.append_nil];rw[hd] at i1;simp only[go_sem,ya,yc,Qd,aV,u1.pu,u1.aj,u1.one,u2.pu,u2.aj,u2.one,iX,cr,i1,bj,yd,AX,e1]
 .rw [yz hd];rw[xv hd] at i1;have hc:aZ a.num++47::aB a.den=(aZ a.num++[47])++aB a.den:=by simp
  rw[hc]
  simp only[go_sem,ya,yc,Qd,aV,u1.pu,u1.aj,u1.one,u2.pu,u2.aj,u2.one,iX,cr,i1,bj,yd,AX,Gp,e1,e2,ir (a:=aZ a.num) (b:=[47]) (by simp;lia),ir (a:=aZ a.num++[47]) (b:=aB a.den) (by simp;lia)]
def ayC{n:Nat}(h:n<9223372036854775808):binOp .and (.int .i64 (n:Int)) (.int .i64 1)=Ft (.int .i64 ((n%2:Nat):Int)):=by
 show Ft (AV.int .i64 (IntKind.wrap .i64 ((wB 64 (n:Int)&&&wB 64 1).toNat:Int)))=_
 rw[show wB 64 (n:Int)=tD 64 n from BitVec.ofInt_natCast 64 n,show wB 64 1=tD 64 1 from rfl];rw[BitVec.toNat_and,vY,vY,show (1%2^64:Nat)=2^1-1 from rfl,Nat.and_two_pow_sub_one_eq_mod,wrapN (by lia)]
 grind
def ayD(n:Nat):binOp .shr (.int .i64 (n:Int)) (.int .u64 1)=Ft (.int .i64 ((n/2:Nat):Int)):=by
 show Ft (AV.int .i64 ((n:Int).fdiv (2^1)))=_
 grind
def Bd.pow{k:Nat}{z:Int}(h:Bd k z):∀e,Bd (k*e+1) (z^e)
 | 0=>by rw[yaV,xB];unfold Bd;decide
 | e+1=>by
  have ih:=Bd.pow h e;rw[Int.pow_succ];exact (ih.mul h).mono (by rw[xC,yk];lia)
def auk(h:Nu P L)(Py:True){z:Int}{K k0:Nat}(hz:Bd K z)(hK:K*k0+1<=30000000000){o1 o2:AV}:
  en P L [1,2,4,5] DW (fun m st=>∃(k i e:Nat) (s1 s2:Int) (w1 w2:AV),st=⟨[(1,aa k),(2,.ptr 0 0),(4,.ptr 1 0),(5,.ptr 2 0)],[(2,.cells ydh ydh ydh 2 [aa s2,w2]),(1,.cells ydh ydh ydh 2 [o1,o2]),(0,.cells ydh ydh ydh 2 [aa s1,w1])],3,0⟩/\di s1 w1 (z^i)/\di s2 w2 (z^e)/\e+i*k=k0/\(0<k->i<=k0)/\k<9223372036854775808/\k=m) (fun ex st'=>∃tm s2 w2 c0,st'=⟨tm,[(2,.cells ydh ydh ydh 2 [aa s2,w2]),(1,.cells ydh ydh ydh 2 [o1,o2]),(0,c0)],3,0⟩/\ex=.exit 0/\ak tm 4=.ptr 1 0/\ak tm 5=.ptr 2 0/\di s2 w2 (z^k0)):=by
 apply eB;rintro m st ⟨k,i,e,s1,s2,w1,w2,rfl,h1,h2,hk,hi,hkb,rfl⟩;have⟨l1,u1⟩:=h1.aS;have⟨l2,u2⟩:=h2.aS;by_cases sM:k=0
 .right
  subst sM;rw[xB,yW] at hk;subst hk;simp only[go_sem,DW,show ¬(0:Int)<((0:Nat):Int) by lia];exact⟨_,_,rfl,by simp,_,s2,w2,_,rfl,rfl,rfl,rfl,h2⟩
 .left
  have eD:=hi (by lia);have he:e<=k0:=by lia
  have hik:i*1<=i*k:=yY i (by lia);have b1:Bd (K*k0+1) (z^i):=(hz.pow i).mono (by have:=yY K eD;lia)
  have b2:Bd (K*k0+1) (z^e):=(hz.pow e).mono (by have:=yY K he;lia)
  have n1:cz (.agg [aa s1,w1]) (z^i):=⟨s1,w1,rfl,h1⟩;have n2:cz (.agg [aa s2,w2]) (z^e):=⟨s2,w2,rfl,h2⟩;have⟨p,e1,hp⟩:=CG h n2 n1 b2 b1 (by lia);have⟨q,e2,hq⟩:=CG h n1 n1 b1 b1 (by lia);rw[<-Int.pow_add] at hp hq;obtain⟨s3,w3,rfl,h3⟩:=hp;obtain⟨s4,w4,rfl,h4⟩:=hq;have⟨l3,u3⟩:=h3.aS;have⟨l4,u4⟩:=h4.aS;have fD:=xz k 2;have L4:=ayC (n:=k) hkb;have Xq:=ayD k;have aDF:(i+i)*(k/2)=i*(2*(k/2)):=by rw[<-Nat.two_mul,Nat.mul_comm 2 i,Nat.mul_assoc]
  by_cases ayE:k%2=1
  .rw [ayE] at L4 fD;have sK:i*k=i*(2*(k/2))+i:=by
    conv=>lhs;rw[<-fD,xC,yk]
   by_cases gL:1<k
   .simp only [go_sem,ya,DW,show (0:Int)<(k:Int) by lia,L4,show ((1:Nat):Int)=1 from rfl,bR,cr,u1.aj,u2.aj,e1,bC,bR,yh,dU u3,dU u4,show (1:Int)<(k:Int) by lia,e2,Xq]
    exact⟨_,k/2,rfl,by lia,k/2,i+i,e+i,s4,s3,w4,w3,by simp only[go_sem,ya,yc,aA],h4,h3,by lia,fun h0=>by have:=yY (i+i) h0;lia,by lia,rfl⟩
   .have fM:e+i+i*(k/2)=k0:=by
     have h1:k/2=0:=by lia
     rw[h1] at sK ⊢
     lia
    simp only[go_sem,ya,DW,show (0:Int)<(k:Int) by lia,L4,show ((1:Nat):Int)=1 from rfl,bR,cr,u1.aj,u2.aj,e1,bC,bR,yh,dU u3,show ¬(1:Int)<(k:Int) by lia,Xq];exact⟨_,k/2,rfl,by lia,k/2,i,e+i,s1,s3,w1,w3,by simp only[go_sem,ya,yc,aA],h1,h3,fM,fun h0=>by lia,by lia,rfl⟩
  .have C6:k%2=0:=by lia
   rw[C6] at L4 fD;have sK:i*k=i*(2*(k/2)):=by
    conv=>lhs;rw[<-fD,yW]
   simp only[go_sem,ya,DW,show (0:Int)<(k:Int) by lia,L4,show ((0:Nat):Int)=0 from rfl,yaI,bR,cr,u1.aj,bC,bR,yh,dU u4,show (1:Int)<(k:Int) by lia,e2,Xq]
   exact⟨_,k/2,rfl,by lia,k/2,i+i,e,s4,s2,w4,w2,by simp only[go_sem,ya,yc,aA],h4,h2,by lia,fun h0=>by have:=yY (i+i) h0;lia,by lia,rfl⟩
def VB(h:Nu P L)(su:Has P L 155 EA){v:AV}{z:Int}{K k:Nat}(hv:cz v z)(hz:Bd K z)(hK:K*k+1<=30000000000)(hk:k<9223372036854775808):∃r,ah P L 155 [v,aa k] r/\cz r (z^k):=by
 have⟨o1,o2⟩:=GN h (z:=1) (by decide) (by decide);obtain⟨s1,w1,rfl,h1⟩:=hv;have⟨l1,u1⟩:=h1.aS;have un:=zq;have jM:∃s w,ah P L 155 [.agg [aa s1,w1],aa k] (.agg [aa s,w])/\di s w (z^k):=by
  unfold ah;rw[aJ su];simp only[go_sem,ya,yc,EA,aV,u1.pu,u1.one,o1,bC,dU un];generalize hq:D P L (.loop _ DW) _=q;obtain⟨ex,st,rfl,tm,s5,w5,c1,rfl,rfl,t4,t5,h5⟩:=bN hq (auk (P:=P) (L:=L) h trivial hz (k0:=k) hK (o1:=.int .i64 0) (o2:=.af) k) ⟨k,1,0,s1,1,w1,.af,by simp only[go_sem,ya,yc,aA],by rw[Int.pow_one];exact h1,.inl ⟨rfl,(yaV z).symm,(by rw[yaV];decide)⟩,by lia,fun h0=>h0,hk,rfl⟩
  have⟨l5,u5⟩:=h5.aS;refine⟨s5,w5,?_,h5⟩;simp only[go_sem,ya,yc,aA,t4,t5,c9,db,bR,yh,n7 u5,dU u5]
 have⟨s,w,e,hn⟩:=jM;exact⟨_,e,s,w,rfl,hn⟩
def I6:∀(l m:List Nat) (a:Nat),cE (l++m) a=(cE l a).bind (fun v=>cE m v)
 | [],m,a=>rfl
 | b::l,m,a=>by
  simp only[List.cons_append,cE]
  cases (yA 48 b&&yA b 57) with
  | true=>exact I6 l m _
  | false=>rfl
def aod:∀{l:List Nat} {a v:Nat},cE l 0=Ft v->cE l a=Ft (a*10^l.length+v):=by
 intro l
 suffices h:∀{l:List Nat} {a b v:Nat},cE l b=Ft v->b*10^l.length<=v/\cE l (a+b)=Ft (a*10^l.length+v) by
  intro a v hv
  have:=(h (a:=a) hv).2
  grind
 intro l
 induction l with
 | nil=>intro a b v h;simp[cE] at h ⊢;lia
 | cons c l ih=>
  intro a b v h;simp only[cE] at h ⊢
  cases hb:(yA 48 c&&yA c 57) with
  | false=>rw[hb] at h;cases h
  | true=>
   rw[hb] at h;have⟨h1,h2⟩:=ih (a:=10*a) h;simp only[yy,xh]
   grind
def Tg:∀{l:List Nat} {v:Nat},cE l 0=Ft v->v<10^l.length:=by
 suffices h:∀{l:List Nat} {b v:Nat},cE l b=Ft v->v<(b+1)*10^l.length by
  grind
 intro l
 induction l with
 | nil=>intro b v h;simp[cE] at h ⊢;lia
 | cons c l ih=>
  intro b v h;simp only[cE] at h
  cases hb:(yA 48 c&&yA c 57) with
  | false=>rw[hb] at h;cases h
  | true=>
   simp only[Bool.and_eq_true] at hb;have hc:=Nat.le_of_ble_eq_true hb.2;have h2:=Nat.mul_le_mul_right (10^l.length) (show 10*b+(c-48)+1<=10*(b+1) by lia)
   grind
def aqo(VA:L.pure 154=Ft Kb){f:cd}{s:List Nat}{v:Nat}(h0:0<s.length)(h1:s.length<=18)(hv:cE s 0=Ft v):bT P L f 154 [.str s]=Ft (.ax [.int .i64 v,.undef]):=by
 rw[lI VA];show (bif yI 0 s.length&&yA s.length 18 then (match cE s 0 with | some n=>Ft (AV.ax [.int .i64 n,.undef]) | none=>Fu) else Fu)=_
 rw[mY h0,yt h1,hv];rfl
def ZS:∀j:Nat,iE [48] j++[48]=[48]++iE [48] j
 | 0=>rfl
 | j+1=>by
  show ([48]++iE [48] j)++[48]=[48]++([48]++iE [48] j)
  rw[xx,ZS j]
def FG:∀j:Nat,(iE [48] j).length=j
 | 0=>rfl
 | j+1=>by show ([48]++iE [48] j).length=_;rw[yJ,FG j];simp;lia
def al5:∀(k n:Nat),n<10^k->0<k->js k n=iE [48] (k-(aB n).length)++aB n:=by
 intro k
 induction k with
 | zero=>intro n _ h;lia
 | succ k ih=>
  intro n hn _;rw[js];by_cases iK:n<10
  .rw [oQ iK,yF iK]
   cases k with
   | zero=>rfl
   | succ k=>
    rw[ih (n/10) (by rw[xU iK];exact ycw (by decide)) (by lia),xU iK]
    rw[show aB 0=[48] by decide];rw[ZS];rfl
  .have hk:0<k:=by
    grind
   rw[ih (n/10) (by rw[xh] at hn;lia) hk,p9 iK,xx,yJ]
   grind
def al6{m d r:Nat}(hd:d=m/1000000000000000000)(hr:r=m%1000000000000000000):(0<d->aB m=aB d++(iE [48] (18-(aB r).length)++aB r))/\(d=0->aB m=aB r):=by
 have Xj:r<10^18:=by lia
 constructor
 .intro h0;rw[<-al5 18 r Xj (by decide),<-Nj 18 d r h0 Xj]
  grind
 .grind
def aul{f:cd}(h:L.pure 138=Ft BL){n:Nat}(hn:n<18446744073709551616):bT P L f 138 [uc n,aa 10]=Ft (.str (aB n)):=by
 rw[lI h];show (bif yI n 18446744073709551616 then Ft (AV.str (aB n)) else Fu)=_
 rw[mY hn];rfl
def TR{f:cd}(h:L.pure 139=Ft B1){n:Nat}(hn:n<=100):bT P L f 139 [.str [48],aa (n:Nat)]=Ft (.str (iE [48] n)):=by
 rw[lI h];show (bif yA n 1099511627776&&yA (1*n) 1099511627776 then Ft (AV.str (iE [48] n)) else Fu)=_
 rw[yt (by lia),yt (by lia)];rfl
def aum(h:Wd P L)(EK:L.pure 138=Ft BL)(Bj:L.pure 139=Ft B1){neg:Bool}{M K:Nat}(L5:0<M)(hK:K<=4000000000)(hlen:(aB M).length<=300000000000):
  en P L [3,4,5,6] qK (fun k s=>∃(m:Nat) (w:AV) (ps:List (List Nat)) (fl:Bool),m=k/\WN w m/\m<18446744073709551616^K/\aB M=(if m=0 then [] else aB m)++ps.reverse.flatten/\((ps=[]->m=M)/\18*ps.length<=(aB M).length+18)/\(m≠0->18*ps.length+(aB m).length=(aB M).length)/\
    ((ps=[]/\s=⟨[(3,.bool neg),(4,w),(5,.ap 0 0 1),(6,.af)],[(0,.cells fl ydh ydh 1 [uc 1000000000000000000])],1,0⟩)\/
    (ps≠[]/\s=⟨[(3,.bool neg),(4,w),(5,.ap 0 0 1),(6,.ap 1 0 ps.length)],[(1,.cells ydh ydh false 1 (ps.map .str)),(0,.cells fl ydh ydh 1 [uc 1000000000000000000])],2,0⟩))) (fun ex s'=>∃tm ps fl,ex=.exit 0/\ps≠[]/\ps.length<=300000000000/\aB M=ps.reverse.flatten/\ak tm 3=.bool neg/\ak tm 6=.ap 1 0 ps.length/\s'=⟨tm,[(1,.cells ydh ydh false 1 (ps.map .str)),(0,.cells fl ydh ydh 1 [uc 1000000000000000000])],2,0⟩):=by
 apply eB;rintro k s ⟨m,w,ps,fl,rfl,hw,hmK,BH,afM,ns,hs⟩;have⟨lw,uw,gw,nw,vw⟩:=hw;by_cases hm:m=0
 .right
  have kV:lw=[]:=List.eq_nil_of_length_eq_zero (Nat.le_zero.1 (pD (K:=0) nw vw (by rw[hm];decide)))
  subst kV;rw[yP hm,yM] at BH;have ek:ps≠[]:=fun e=>by have:=afM.1 e;lia
  have QD:ps.length<=300000000000:=by have:=afM.2;lia
  rcases hs with ⟨h0,_⟩ | ⟨_,rfl⟩
  .exact absurd h0 ek
  .simp only [go_sem,ya,qK,uw.len,yH,show ¬(0:Int)<((0:Nat):Int) by lia];exact⟨_,_,rfl,by simp,_,ps,fl,rfl,ek,QD,BH,rfl,rfl,rfl⟩
 .left
  have hw:WN w m:=⟨lw,uw,gw,nw,vw⟩;have hB:WN (.au ydh 1 [uc 1000000000000000000]) 1000000000000000000:=⟨[1000000000000000000],nQ ydh [1000000000000000000],Ge.2 (by decide),by decide,by simp[bv]⟩;have⟨q,r,e1,hq,hr⟩:=afy h hw hB (K:=K+1) (by decide) (yE hmK (xc (by decide) (by lia))) (by rw[xh];have:=ycw (n:=K) (show 0<18446744073709551616 by decide);lia) (by lia)
  have⟨t1,t2⟩:=al6 (m:=m) rfl rfl;have fD:=xz m 1000000000000000000;have hrB:=xu m (show 0<1000000000000000000 by decide);obtain⟨d,hd⟩:∃d,d=m/1000000000000000000:=⟨_,rfl⟩;obtain⟨x,hx⟩:∃x,x=m%1000000000000000000:=⟨_,rfl⟩;rw[<-hd] at hq t1 t2 fD;rw[<-hx] at hr t1 t2 fD hrB;have⟨lq,uq,gq,nq,vq⟩:=hq;have⟨lr,ur,gr,nr,vr⟩:=hr;have Wh:(aB x).length<=18:=zo (k:=17) (by lia);have hxp:=AF x;have LO:(lr=[]/\x=0)\/lr=[x]:=by
   have h1:lr.length<=1:=pD (K:=1) nr vr (by rw[Nat.pow_one];lia)
   cases lr with
   | nil=>exact .inl ⟨rfl,by rw[<-vr];rfl⟩
   | cons a l=>
    cases l with
    | nil=>rw[Cc] at vr;exact .inr (by rw[vr])
    | cons b l=>simp at h1
  have hlq:(lq=[]/\d=0)\/(0<lq.length/\0<d):=by
   cases lq with
   | nil=>exact .inl ⟨rfl,by rw[<-vq];rfl⟩
   | cons a l=>
    refine .inr ⟨by simp,?_⟩;rcases Nat.eq_zero_or_pos d with h0 | h0
    .have:=pD (K:=0) nq vq (by rw[h0];decide)
     simp at this
    .exact h0
  unfold ah at e1;have Dl:(0:Int)<(lw.length:Int):=by
   have:lw≠[]:=fun e=>by subst e;simp[bv] at vw;lia
   have:=List.length_pos_iff.2 this
   lia
  have aDV:=ns hm;have hmp:=AF m;have new:∀t:List Nat,aB m=(if d=0 then [] else aB d)++t->(d≠0->t.length=18)->
    aB M=(if d=0 then [] else aB d)++(ps++[t]).reverse.flatten/\((ps++[t]=[]->d=M)/\18*(ps++[t]).length<=(aB M).length+18)/\(d≠0->18*(ps++[t]).length+(aB d).length=(aB M).length):=fun t h1 h2=>by
   rw[yz hm,h1] at BH;refine⟨by rw[BH];simp,⟨by simp,by simp only[yJ,yy,yH];lia⟩,fun h0=>?_⟩
   have h3:=congrArg List.length h1;rw[yz h0,yJ,h2 h0] at h3;simp only[yJ,yy,yH]
   lia
  have CH:d<m:=by lia
  have Dm:WN q d:=⟨lq,uq,gq,nq,vq⟩;have lm:lr=[x]->gS 1 0 r=Ft (.bq (.int .u64 x::([]:List AV))):=fun e=>by
   subst e
   have:=ur.bh (i:=0) (by simp)
   simpa using this
  have f1:=aul (P:=P) (f:=D P L) EK (n:=x) (by lia);have f2:=TR (P:=P) (f:=D P L) Bj (n:=18-(aB x).length) (by lia);have VD:(18:Int)-((aB x).length:Int)=((18-(aB x).length:Nat):Int):=by lia
  have aDW:18*ps.length<=300000000000:=by lia
  have zl:(iE [48] (18-(aB x).length)++aB x).length=18:=by rw[yJ,FG];lia
  obtain⟨z,hz⟩:∃z,z=aB x:=⟨_,rfl⟩;have nE:x=0->z=[48]:=fun e=>by rw[hz,e];decide
  rw[<-hz] at f1 f2 VD Wh hxp zl t1 t2;cases fl
  all_goals
   rcases hlq with ⟨rfl,gQ⟩ | ⟨QE,gQ⟩
   .have ⟨n1,n2,n3⟩:=new z (by rw[yP gQ,yM];exact t2 gQ) (fun h=>absurd gQ h)
    rcases LO with ⟨rfl,BC⟩ | rfl
    .have lA:=nE BC;clear hz;subst lA;rcases hs with ⟨ja,rfl⟩ | ⟨ja,rfl⟩
     .subst ja;simp only[go_sem,ya,yc,xn,yB,yo,yk,qK,uw.len,uw.aj,uq.len,uq.bF,ur.len,ur.bF,Dl,e1,yH,yH,show ¬(0:Int)<((0:Nat):Int) by lia,jC];refine⟨_,d,rfl,CH,d,q,[]++[[48]],false,rfl,Dm,by lia,n1,n2,n3,.inr ⟨by simp,?_⟩⟩;simp only[go_sem,ya,yc,aA,aE uq.pu]<;>rfl
     .simp only [go_sem,ya,yc,yB,yo,yk,qK,uw.len,uw.aj,uq.len,uq.bF,ur.len,ur.bF,Dl,e1,yH,yH,show ¬(0:Int)<((0:Nat):Int) by lia]
      rw[gA (ex:=false) (pu:=ydh) (cs:=ps.map .str) rfl (by simp) (by lia) (by lia) (by decide) rfl];simp only[go_sem,ya,yc];refine⟨_,d,rfl,CH,d,q,ps++[[48]],false,rfl,Dm,by lia,n1,n2,n3,.inr ⟨by simp,?_⟩⟩;rw[xA,yJ];simp only[go_sem,ya,yc,aA,aE uq.pu]<;>rfl
    .rcases hs with ⟨ja,rfl⟩ | ⟨ja,rfl⟩
     .subst ja;simp only[go_sem,ya,yc,xn,yB,yo,yk,qK,uw.len,uw.aj,uq.len,uq.bF,ur.len,ur.bF,Dl,e1,yy,yH,yd,show (0:Int)<((1:Nat):Int) by lia,lm rfl,f1,yH,show ¬(0:Int)<((0:Nat):Int) by lia,jC];refine⟨_,d,rfl,CH,d,q,[]++[z],false,rfl,Dm,by lia,n1,n2,n3,.inr ⟨by simp,?_⟩⟩;simp only[go_sem,ya,yc,aA,aE uq.pu]<;>rfl
     .simp only [go_sem,ya,yc,yB,yo,yk,qK,uw.len,uw.aj,uq.len,uq.bF,ur.len,ur.bF,Dl,e1,yy,yH,yd,show (0:Int)<((1:Nat):Int) by lia,lm rfl,f1,yH,show ¬(0:Int)<((0:Nat):Int) by lia]
      rw[gA (ex:=false) (pu:=ydh) (cs:=ps.map .str) rfl (by simp) (by lia) (by lia) (by decide) rfl];simp only[go_sem,ya,yc];refine⟨_,d,rfl,CH,d,q,ps++[z],false,rfl,Dm,by lia,n1,n2,n3,.inr ⟨by simp,?_⟩⟩;rw[xA,yJ];simp only[go_sem,ya,yc,aA,aE uq.pu]<;>rfl
   .have ⟨n1,n2,n3⟩:=new (iE [48] (18-z.length)++z) (by rw[yz (by lia)];exact t1 gQ) (fun _=>zl)
    rcases LO with ⟨rfl,BC⟩ | rfl
    .have lA:=nE BC;clear hz;subst lA;rcases hs with ⟨ja,rfl⟩ | ⟨ja,rfl⟩
     .subst ja
      simp only[go_sem,ya,yc,xn,yB,yo,yk,qK,uw.len,uw.aj,uq.len,uq.bF,ur.len,ur.bF,Dl,e1,yH,show ¬(0:Int)<((0:Nat):Int) by lia,show (0:Int)<(lq.length:Int) by lia,show (18:Int)-((1:Nat):Int)=((17:Nat):Int) from rfl,wrapN (n:=17) (by lia),TR (P:=P) (f:=D P L) Bj (n:=17) (by lia),ir (a:=iE [48] 17) (b:=[48]) (by rw[FG];decide),jC]
      refine⟨_,d,rfl,CH,d,q,[]++[iE [48] 17++[48]],false,rfl,Dm,by lia,n1,n2,n3,.inr ⟨by simp,?_⟩⟩;simp only[go_sem,ya,yc,aA,aE uq.pu]<;>rfl
     .simp only [go_sem,ya,yc,yB,yo,yk,qK,uw.len,uw.aj,uq.len,uq.bF,ur.len,ur.bF,Dl,e1,yH,show ¬(0:Int)<((0:Nat):Int) by lia,show (0:Int)<(lq.length:Int) by lia,show (18:Int)-((1:Nat):Int)=((17:Nat):Int) from rfl,wrapN (n:=17) (by lia),TR (P:=P) (f:=D P L) Bj (n:=17) (by lia),ir (a:=iE [48] 17) (b:=[48]) (by rw[FG];decide)]
      rw[gA (ex:=false) (pu:=ydh) (cs:=ps.map .str) rfl (by simp) (by lia) (by lia) (by decide) rfl];simp only[go_sem,ya,yc];refine⟨_,d,rfl,CH,d,q,ps++[iE [48] 17++[48]],false,rfl,Dm,by lia,n1,n2,n3,.inr ⟨by simp,?_⟩⟩;rw[xA,yJ];simp only[go_sem,ya,yc,aA,aE uq.pu]<;>rfl
    .rcases hs with ⟨ja,rfl⟩ | ⟨ja,rfl⟩
     .subst ja
      simp only[go_sem,ya,yc,xn,yB,yo,yk,qK,uw.len,uw.aj,uq.len,uq.bF,ur.len,ur.bF,Dl,e1,yy,yH,yd,show (0:Int)<((1:Nat):Int) by lia,lm rfl,f1,show (0:Int)<(lq.length:Int) by lia,VD,wrapN (n:=18-z.length) (by lia),f2,ir (a:=iE [48] (18-z.length)) (b:=z) (by rw[FG];lia),jC]
      refine⟨_,d,rfl,CH,d,q,[]++[iE [48] (18-z.length)++z],false,rfl,Dm,by lia,n1,n2,n3,.inr ⟨by simp,?_⟩⟩;simp only[go_sem,ya,yc,aA,aE uq.pu]<;>rfl
     .simp only [go_sem,ya,yc,yB,yo,yk,qK,uw.len,uw.aj,uq.len,uq.bF,ur.len,ur.bF,Dl,e1,yy,yH,yd,show (0:Int)<((1:Nat):Int) by lia,lm rfl,f1,show (0:Int)<(lq.length:Int) by lia,VD,wrapN (n:=18-z.length) (by lia),f2,ir (a:=iE [48] (18-z.length)) (b:=z) (by rw[FG];lia)]
      rw[gA (ex:=false) (pu:=ydh) (cs:=ps.map .str) rfl (by simp) (by lia) (by lia) (by decide) rfl];simp only[go_sem,ya,yc];refine⟨_,d,rfl,CH,d,q,ps++[iE [48] (18-z.length)++z],false,rfl,Dm,by lia,n1,n2,n3,.inr ⟨by simp,?_⟩⟩;rw[xA,yJ];simp only[go_sem,ya,yc,aA,aE uq.pu]<;>rfl
def K1:Nat->VC->VC
 | 0,c=>bM c
 | n+1,c=>.seq (bM c) (K1 n (aG c))
def AY:Nat->VC->VC
 | 0,c=>aG c
 | n+1,c=>AY n (aG c)
def akA(h:Nu P L)(EK:L.pure 138=Ft BL)(Bj:L.pure 139=Ft B1){s z:Int}{e:Bool}{l:List Nat}(hn:di s (.au e l.length (l.map uc)) z){K:Nat}(lA:0<z.natAbs)(QF:z.natAbs<18446744073709551616^K)(hK:K<=4000000000)(hlen:(aB z.natAbs).length<=300000000000):
  ∃ps:List (List Nat),ps≠[]/\ps.length<=300000000000/\aB z.natAbs=ps.reverse.flatten/\D P L (K1 5 E5.body) ⟨[(0,.agg [aa s,.au e l.length (l.map uc)])],[],0,0⟩=Ft (.normal,⟨[(3,.bool (decide (z<0))),(6,.ap 0 0 ps.length)],[(0,.cells ydh ydh false 1 (ps.map .str))],1,0⟩):=by
 have⟨r,e1,hr⟩:=Bh h hn;have bA:=hr;have⟨lr,ur,gr,nr,vr⟩:=hr;simp only[go_sem,ya,yc,yo,yk,E5,K1,bM,aG,aV,bj,yd,dI,r5,fh,bR,cr,e1];generalize nD:D P L (.loop _ qK) _=qq;obtain⟨ex,st,rfl,tm,ps,fl,rfl,ek,QD,BH,t3,t6,rfl⟩:=bN nD (aum (P:=P) (L:=L) h.toWd EK Bj (neg:=decide (z<0)) (M:=z.natAbs) (K:=K) lA hK hlen z.natAbs) ⟨z.natAbs,bF r,[],ydh,rfl,bA,QF,by rw[yz (by lia)];simp,⟨fun _=>rfl,by simp⟩,fun _=>by simp,.inl ⟨rfl,by
  simp only[go_sem,ya,yc,aA,aE ur.pu]<;>rfl⟩⟩
 refine⟨ps,ek,QD,BH,?_⟩;simp only[go_sem,yc,aA,t3,t6]
section
open Go
section
variable {aq:List AV}{s:St}
variable {O:bl}
def AZ:Nat->vz->vz
 | 0,.seq _ b=>b
 | n+1,.seq _ b=>AZ n b
 | _,c=>c
def PC:Nat->vz->Prop
 | 0,.seq _ _=>True
 | n+1,.seq _ b=>PC n b
 | _,_=>False
def aaS(hO:iw O){h:Nat}{c:vz}{l k:Nat}{ex:Ex}{s':St}(hv:D O.prog O.aI (comp O.P (O.hint h) c l k).1 s=Ft (ex,s')):Cp O h c s ex s':=by
 have⟨n,hn⟩:=Vd hv
 cases n with
 | zero=>rw[Je] at hn;cases hn
 | succ n=>
  exact abE hO n (fun k _=>Yg hO k) h c l k n (yu _) s ex s' hn
def acJ(hO:iw O){h:Nat}{ro:Option Nat}{lo:Nat}{Q:Exit->Act->yi->Prop}:∀(n:Nat) (c:vz) (l k:Nat),PC n c->∀(s s1:St),D O.prog O.aI (K1 n (comp O.P (O.hint h) c l k).1) s=Ft (.normal,s1)->
  ∀(m:Mp) (S:Nat->Prop) (w:yi) (a:Act),AM ro w->bO O m S w s.tm a.tmps->aR O m S w s.hp s.ct->s.base<=s.ct->(O.hint h).n<=a.tmps.size->O.w0.heap.size<=lo->lo<=w.heap.size->Marks lo S w a.defers->
  (∀a' w',eM O m S w s .normal s1 a.tmps.size lo .normal a' w'->(AZ n c).wpIn (WF ro) 0 O.P Q a' w')->c.wpIn (WF ro) 0 O.P Q a w
 | n,c,l,k,hc,s,s1,hv=>by
  intro m S w a cO ht hh hb hn bc fm bV hQ
  cases c with
  | seq x y=>
   cases n with
   | zero=>
    refine wpIn_seq (wpIn_mono (aaS hO (show D O.prog O.aI (comp O.P (O.hint h) x l k).1 s=Ft (.normal,s1) from hv) ro lo m S w a cO ht hh hb hn bc fm bV) ?_);rintro e a' w' hp;have he:e=.normal:=hp.1;subst he;exact hQ a' w' hp
   | succ n=>
    have fa:D O.prog O.aI (.seq (comp O.P (O.hint h) x l k).1 (K1 n (comp O.P (O.hint h) y (comp O.P (O.hint h) x l k).2.1 (comp O.P (O.hint h) x l k).2.2).1)) s=Ft (.normal,s1):=hv;rw[zK] at fa
    cases hx:D O.prog O.aI (comp O.P (O.hint h) x l k).1 s with
    | none=>rw[hx] at fa;cases fa
    | some q=>
     have⟨ex,st⟩:=q;rw[hx] at fa
     cases ex with
     | ret=>exact absurd fa (by intro h;cases h)
     | exit id=>exact absurd fa (by intro h;cases h)
     | normal=>
      refine wpIn_seq (wpIn_mono (aaS hO hx ro lo m S w a cO ht hh hb hn bc fm bV) ?_);rintro e a' w' ⟨rfl,m',S',k1,k2,k3,k4,k5,k6,k7⟩;refine acJ hO n y _ _ hc st s1 fa m' S' w' a' (MY k5 cO) k1 k2 (by lia) (by lia) bc (xo fm k5.size) k7 ?_;rintro a2 w2 ⟨_,m2,S2,g1,g2,g3,g4,g5,g6,g7⟩;exact hQ a2 w2 ⟨rfl,m2,S2,g1,g2,by lia,by lia,k5.trans (by rw[<-k3];exact g5),by lia,g7⟩
  | _=>cases n<;>exact hc.elim
def aun(hO:iw O){n:Nat}{F:aC}(hF:O.prog n=Ft F){fn:yaO}{c:vz}(ma:O.P.funcs[O.ab n]? =Ft fn)(jR:fn.body=Ft c){hp:Hp}{ct:Nat}(hc:(comp O.P (O.hint n) c 0 0).1=F.body->∀m S w a,bO O m S w (fg 0 aq) a.tmps->aR O m S w hp ct->(O.hint n).n<=a.tmps.size->a.tmps.size=max fn.ntmps aq.length->O.w0.heap.size<=w.heap.size->a.defers=[]->
   c.wpIn (WF Fu) 0 O.P (eM O m S w ⟨fg 0 aq,hp,ct,ct⟩ .ret s a.tmps.size w.heap.size) a w){v:AV}(hr:jc s F.eb=Ft v):Co O n hp ct aq v s.hp s.ct:=by
 intro m S w args hh eA;have⟨fn',q1,q2,q3⟩:=hO.prog n F hF;rw[ma] at q1;cases q1;have⟨c',q4,q5,q6,q7⟩:=Q7 q2;rw[jR] at q4;cases q4;refine .inl ⟨I1 ma (by rw[jR];rfl) q3,?_⟩
 have hlen:aq.length=args.size:=by have:=(gR _ _ eA).symm;simpa using this
 have hw:=hc q5.symm m S w {tmps:=args++Array.replicate (fn.ntmps-args.size) undef,defers:=[]} (ZA _ eA) hh (by simp;lia) (by simp;lia) hh.fY rfl
 refine callsIn_of_wp_marks (F:=ybt) ma jR trivial (wpIn_mono hw ?_);rintro e a' w' ⟨rfl,m',S',k1,k2,k3,k4,k5,k6,rs,k7,k8,k9⟩;show LeavesInM ybt 0 O.P fn a'.tmps (AB O m S w hp ct v s.hp s.ct) a'.defers .returning w'
 rw[k7];exact RQ q6 hr k4 rs w' k8 k9 hh.fY k2 k1 k5
def aoe(hO:iw O){n:Nat}{F:aC}(hF:O.prog n=Ft F){fn:yaO}{c:vz}(ma:O.P.funcs[O.ab n]? =Ft fn)(jR:fn.body=Ft c)(hc:(comp O.P (O.hint n) c 0 0).1=F.body->∀m S w a,bO O m S w (fg 0 aq) a.tmps->aR O m S w [] 0->(O.hint n).n<=a.tmps.size->a.tmps.size=max fn.ntmps aq.length->O.w0.heap.size<=w.heap.size->a.defers=[]->
   c.wpIn (WF Fu) 0 O.P (eM O m S w ⟨fg 0 aq,[],0,0⟩ .ret s a.tmps.size w.heap.size) a w){v r:AV}(hv:jc s F.eb=Ft v)(hr:result s.hp v=Ft r):dZ O n aq r:=
 Q1 (aun hO hF ma jR hc hv) hr
end
end
section
open Go
def Y0{ab:Nat->Nat}{m:Mp}{S:Nat->Prop}{w:yi}{b:Nat}:∀{ps:List (List Nat)} {o:Nat},bL ab m S w (ps.map .str) b o->
  ∃ts:List ByteArray,(ts.map fun t=>t.data.toList.map xg)=ps/\∀i (h:i<ts.length),w.cell? ⟨b,o+i,Fu⟩=Ft (.string ts[i])
 | [],o,_=>⟨[],rfl,fun i h=>absurd h (Nat.not_lt_zero i)⟩
 | p::ps,o,h=>by
  have⟨⟨u,h1,h2⟩,h3⟩:=h;obtain⟨t,rfl,ht⟩:=h2;have⟨ts,k1,k2⟩:=Y0 h3;refine⟨t::ts,by rw[List.map_cons,ht,k1],fun i hi=>?_⟩
  cases i with
  | zero=>exact h1
  | succ i=>
   grind
def pE(ts:List ByteArray):List UInt8:=(ts.map fun t=>t.data.toList).flatten
def aqp{ts:List ByteArray}{ps:List (List Nat)}(h:(ts.map fun t=>t.data.toList.map xg)=ps):(pE ts.reverse).map xg=ps.reverse.flatten:=by
 subst h;unfold pE;rw[List.map_flatten,uA,<-yaF];rfl
def aqq{ts:List ByteArray}{ps:List (List Nat)}(h:(ts.map fun t=>t.data.toList.map xg)=ps):(ts.map (·.size)).sum=ps.reverse.flatten.length:=by
 subst h;rw[List.length_flatten,yaF,List.sum_reverse,uA]
 congr 1
 simp_all
def Th(P:Program)(c:vz):Prop:=∀(Q:Exit->Act->yi->Prop) (a:Act) (w:yi) (neg:Bool) (ts:List ByteArray) (b o cc:Nat),a.tmps.size=69->a.tmps.getD 3 undef=.bool neg->a.tmps.getD 6 undef=.slice (Ft ⟨b,o,Fu⟩) ts.length cc->
  (∀i (h:i<ts.length),w.cell? ⟨b,o+i,Fu⟩=Ft (.string ts[i]))->(ts.map (·.size)).sum+1<=140737488355328->ts.length<=cc->ts.length<9223372036854775808->
  (∀a' w',Calm w w'->a'.tmps.size=69->a'.defers=a.defers->a'.tmps.getD 2 undef=.string ⟨((if neg then [45] else [])++pE ts.reverse).toArray⟩->Q .ret a' w')->
  (AZ 5 c).wpIn Fence.wide 0 P Q a w
section
variable {O:bl}
def akB{n K:Nat}(h:n<18446744073709551616^K):(aB n).length<=20*K+1:=by
 refine zo (k:=20*K) (yE h ?_);have h1:(10:Nat)^(20*K)=(10^20)^K:=Nat.pow_mul ..;exact xo (by rw[h1];exact ue (by decide) K) (xc (by decide) (Nat.le_succ _))
def aof(hO:iw O)(hN:Nu O.prog O.aI)(EK:O.aI.pure 138=Ft BL)(Bj:O.aI.pure 139=Ft B1)(Ht:O.prog 99=Ft E5){fn:yaO}{c:vz}(ma:O.P.funcs[O.ab 99]? =Ft fn)(jR:fn.body=Ft c)(PZ:fn.ntmps=69)(VF:PC 5 c)(ht:Th O.P c){s z:Int}{e:Bool}{l:List Nat}(hn:di s (.au e l.length (l.map uc)) z)(lA:0<z.natAbs)(hK:l.length<=4000000000)(QF:z.natAbs<18446744073709551616^l.length):
  dZ O 99 [.agg [aa s,.au e l.length (l.map uc)]] (.str (aZ z)):=by
 have hlen:=akB QF;have⟨ps,ek,QD,BH,e1⟩:=akA (P:=O.prog) (L:=O.aI) hN EK Bj hn lA QF hK (by lia)
 refine aoe hO Ht ma jR (s:=⟨[(2,.str (aZ z))],[(0,.cells ydh ydh false 1 (ps.map .str))],1,0⟩) (v:=.str (aZ z)) ?_ rfl rfl;intro awG m S w a htr hh rm eC hgs Fi;refine acJ hO 5 c 0 0 VF _ _ (by rw[awG];exact e1) m S w a (fun l hl=>by cases hl) htr hh (yu _) rm hgs (yu _) ⟨[],by rw[Fi];rfl,by simp,by simp⟩ ?_
 rintro a' w' ⟨_,m',S',k1,k2,k3,k4,k5,k6,k7⟩;have r3:=k1 3;have r6:=k1 6;have g3:ak [(3,AV.bool (decide (z<0))),(6,.ap 0 0 ps.length)] 3=.bool (decide (z<0)):=rfl;have g6:ak [(3,AV.bool (decide (z<0))),(6,.ap 0 0 ps.length)] 6=.ap 0 0 ps.length:=rfl;rw[g3] at r3;rw[g6] at r6;simp only[ae] at r3 r6;have⟨p,cc,hm,r6,hcc,_⟩:=r6;have⟨p',arr,t,iI,_,_,_,_,_,Bp,_⟩:=k2.obj 0 _ p rfl hm;rw[hm] at iI;cases iI;have⟨ts,mJ,El⟩:=Y0 Bp;have pO:ts.length=ps.length:=by rw[<-mJ,List.length_map]
 have qU:=aqq mJ;rw[<-BH] at qU;have VG:=aqp mJ;rw[<-BH] at VG;refine ht _ a' w' (decide (z<0)) ts p.b p.o cc ?_ r3 (by rw[pO];exact r6) El (by lia) (by lia) (by lia) ?_
 .grind
 .intro a2 w2 hc h1 h2 h3;have Lx:=BQ k2 hc (S':=S') (fun _ h=>h) (fun _ h=>.inl h) (fun b hb=>yE (k2.slt b hb) hc.size);refine⟨rfl,m',S',?_,Lx,rfl,Nat.zero_le _,k5.trans (AD k2 hc (fun _ h=>h) (fun _ h=>.inl h)),?_,?_⟩
  .intro i;by_cases hi:i=2
   .subst hi;rw[h3];show ae O.ab m' S' w2 (.str (aZ z)) _
    simp only[ae];refine⟨_,rfl,?_⟩;by_cases h0:z<0
    .rw [oS h0,xT h0];simp only[xQ,xA];rw[VG];rfl
    .obtain ⟨n,rfl⟩:∃n:Nat,z=n:=⟨z.toNat,by lia⟩;rw[xv h0];simp only[yC,xy,yM];rw[VG];rfl
   .have:ak [(2,AV.str (aZ z))] i=.undef:=by
     have hb:ym 2 i=false:=by
      cases hq:ym 2 i with
      | false=>rfl
      | true=>exact absurd (Nat.eq_of_beq_eq_true hq).symm hi
     simp only[ak,hb,yO]
    show ae O.ab m' S' w2 (ak [(2,AV.str (aZ z))] i) _
    rw[this];simp only[ae]
  .rw [h1,eC,PZ];simp
  .rw [h2]
   exact BR k2 (AD (base:=0) k2 hc (fun _ h=>h) (fun _ h=>.inl h)) k7
end
end
end VE
