import Derived.Test.YtebpicijmcnecaaGreatDoorUap
set_option linter.all false
set_option maxRecDepth 100000
open BitVec renaming ofInt->we,ofNat->tg,toNat_ofNat->vH
open Bool renaming and_self->wx,false_eq_true->yA,not_false->xX,not_true->xF
open Go renaming Code->wS,Func->yas,World->yi
open Go.Fence renaming wide->yaY
open Int renaming ediv_emod_unique->tK,gcd->vj,gcd_comm->ycd,natAbs_ediv_of_dvd->uJ,natCast_mul->xx,pow_zero->yaB,reduceEq->yan
open List renaming append_assoc->xr,drop_zero->yh,length_append->yC,length_cons->yH,length_nil->yM,map_append->xk,map_map->ybJ,map_reverse->yak,nil_append->yD
open Nat renaming add_zero->yS,beq->yo,ble->yz,ble_eq_true_of_le->yt,blt->yF,div_add_mod->xK,div_eq_of_lt->xH,div_le_self->wU,le_refl->yq,le_trans->y9,lt_of_le_of_lt->xY,lt_of_lt_of_le->yE,mod_eq_of_lt->yK,mod_le->ycE,mod_lt->xp,mul_add->xz,mul_le_mul_left->yR,mul_one->yk,mul_zero->xv,pow_le_pow_left->tX,pow_le_pow_right->xc,pow_pos->ybv,pow_succ->y8,reduceAdd->yc,reduceEqDiff->ya,reduceLT->yB,reduceLeDiff->yp,reduceMul->xA,zero_add->yd
open Rat renaming den_divInt->ybF,divInt->wy,divInt_ofNat->ybn,lt_iff->ycF,num_divInt->ybE
open UInt8 renaming toNat->xe
open Option renaming some->D5,none->D6
open Bool renaming true->ycG
namespace VE
open Go (IntKind)
variable {P:aE}{L:Lib}
section
variable {v w:AV}{a b:Int}{K:Nat}
def LD{P:aE}{L:Lib}(a b c:VC)(s:St):D P L (.seq a (.seq b c)) s=zU P L (D P L (.seq a b) s) c:=by
 rw[By,By]
 cases D P L a s with
 | none=>rfl
 | some q=>
  have⟨ex,st⟩:=q
  cases ex with
  | normal=>rw[ph,ph,By]
  | ret=>rfl
  | exit id=>rfl
def aaU{s s':Int}{w':AV}{l l':List Nat}(h:bG w l)(h':bG w' l')(hp:Hp):result hp (.ay [.agg [aa s,w],.agg [aa s',w']])=D5 (.ay [.agg [aa s,w],.agg [aa s',w']]):=by
 rcases h with ⟨rfl,_⟩ | ⟨e,rfl⟩<;>rcases h' with ⟨rfl,_⟩ | ⟨e',rfl⟩<;>rfl
def N1(tm:Env)(hp:Hp)(ct:Nat)(rs:List (Nat×Bool×Nat))(sz:Nat)(p:AV)(new:List AV):fY:=match p with | .ptr id o=>bif lf tm id rs then kH hp ct id o sz new (ai hp id) else D6 | _=>D6
def N3(id:Nat):AV->Bool | .ptr j _=> !yo j id | .bJ _=>ycG | _=>false
def zQ{P:aE}{L:Lib}(f:bZ)(tm:Env)(hp:Hp)(ct:Nat)(rs:List (Nat×Bool×Nat))(sz:Nat)(x v:X):aW P L f tm hp ct (.kx rs sz x v)=N1 tm hp ct rs sz (aw tm x) (cellsOf (aw tm v)):=by
 simp only[aW,N1]
 cases hx:aw tm x with
 | ptr id o=>
  rw[Y0,hx,ab0]
 | _=>rfl
def zR{tm:Env}{hp:Hp}{ct:Nat}{rs:List (Nat×Bool×Nat)}{sz id o:Nat}{new:List AV}(h:lf tm id rs=ycG):N1 tm hp ct rs sz (.ptr id o) new=kH hp ct id o sz new (ai hp id):=by
 simp only[N1,h,yr]
def zG(tm:Env)(id:Nat):lf tm id []=ycG:=(rfl)
def zD(tm:Env)(id sz x:Nat)(ag:Bool)(r:List (Nat×Bool×Nat)):lf tm id ((sz,ag,x)::r)=(N3 id (aj tm x)&&lf tm id r):=by
 simp only[lf,N3]
 grind
def mh{id j o:Nat}(h:j≠id):N3 id (.ptr j o)=ycG:=by simp only[N3,iR h,xX]
def adM(h:Nu P L)(hv:cp v a)(hw:cp w b)(ka:Bd K a)(kb:Bd K b)(hK:K<=40000000000):∃r,af P L 156 [v,w] r/\cp r (a-b):=by
 have⟨n,e1,hn⟩:=Jv h hw kb (by lia);have⟨r,e2,hr⟩:=Jw h hv hn ka kb.neg hK;have bq:=hr;obtain⟨s1,w1,rfl,h1⟩:=hv;obtain⟨s2,w2,rfl,h2⟩:=hw;obtain⟨s3,w3,rfl,h3⟩:=hn;obtain⟨s4,w4,rfl,h4⟩:=hr;have⟨l1,u1⟩:=h1.aR;have⟨l2,u2⟩:=h2.aR;have⟨l3,u3⟩:=h3.aR;have⟨l4,u4⟩:=h4.aR;refine⟨_,?_,bq⟩;unfold af;rw[aH h.avN];simp only[go_sem,ya,yc,SY,aU,u1.pu,u1.ak,u1.one,u2.pu,u2.ak,u2.one,u3.ak,cr,e1,e2,bM,dX,dZ,bS,yh,nc u4,dH u4]
def avQ(h:Nu P L)(hv:cp v a)(hw:cp w b)(ka:Bd K a)(kb:Bd K b)(hK:K<=40000000000):af P L 118 [v,w] (aa (cY (a-b))):=by
 have⟨d,e1,hd⟩:=adM h hv hw ka kb hK;have e2:=Ju h hd;obtain⟨s1,w1,rfl,h1⟩:=hv;obtain⟨s2,w2,rfl,h2⟩:=hw;obtain⟨s3,w3,rfl,h3⟩:=hd;have⟨l2,u2⟩:=h2.aR;have⟨l3,u3⟩:=h3.aR;unfold af;rw[aH h.avM];rcases h1 with ⟨rfl,rfl,a1,a2⟩ | ⟨e,l,rfl,ga,na,va,sa,a1⟩
 .rcases h2 with ⟨rfl,rfl,b1,b2⟩ | ⟨e,l,rfl,gb,nb,vb,sb,b1⟩
  .by_cases c1:s1<s2
   .rw [show cY (s1-s2)= -1 by unfold cY;rw[yN (by lia)]];simp only[go_sem,ya,yc,Dn,aU,gF,dO,a6,yd,dc,c1]
   .by_cases c2:s2<s1
    .rw [show cY (s1-s2)=1 by unfold cY;rw[yx (by lia),yx (by lia)]];simp only[go_sem,ya,yc,Dn,aU,gF,dO,a6,yd,dc,c1,c2]
    .rw [show cY (s1-s2)=0 by unfold cY;rw[yx (by lia),yN (by lia)]];simp only[go_sem,ya,yc,Dn,aU,gF,dO,a6,yd,dc,c1,c2]
  .simp only [go_sem,ya,yc,Dn,aU,gF,nV,dO,a6,yd,dc,bS,cr,e1,e2,u3.ak,bM]
 .simp only [go_sem,ya,yc,Dn,aU,u2.pu,u2.ak,u2.one,nV,dO,a6,yd,dc,bS,cr,e1,e2,u3.ak,bM]
def arB(h:Nu P L){s1 s2:Int}{w1 w2:AV}(ha:cZ s1 w1 a)(hb:cZ s2 w2 b)(ka:Bd K a)(kb:Bd K b)(hK:K<=40000000000):
  ∃r,cp r (a*b)/\∀tm,aj tm 2=.ptr 0 0->aj tm 3=.ptr 1 0->aj tm 4=.ptr 2 0->lF [.cell 4 2 ycG] (D P L (a8 (a8 mq.body)) ⟨tm,[(2,.cells ycG ycG ycG 2 [.int .i64 0,.ah]),(1,.cells ycG ycG ycG 2 [aa s2,w2]),(0,.cells ycG ycG ycG 2 [aa s1,w1])],3,0⟩)=D5 r:=by
 have⟨l1,u1⟩:=ha.aR;have⟨l2,u2⟩:=hb.aR;have⟨p,e1,hp⟩:=BM h ha;have⟨q,e2,hq⟩:=BM h hb;have⟨lp,fZ,gp,np,vp⟩:=hp.aR;have⟨lq,oK,gq,nq,vq⟩:=hq.aR;have Ch:=yE ka (Bk K);have FN:=yE kb (Bk K);have llp:lp.length<=40000000000:=y9 (pP np vp Ch) hK;have llq:lq.length<=40000000000:=y9 (pP nq vq FN) hK;have⟨o,nC,e3,ho,nB,no,vo⟩:=avu h.avC h.mv h.mw h.fU fZ oK gp gq (by lia) (by lia);have⟨r,e4,hr⟩:=Dw h (decide (a<0) !=decide (b<0)) ⟨nC,ho,nB,no,vo⟩ (K:=K+K) (by rw[vp,vq,Nat.pow_add];exact Nat.mul_lt_mul'' Ch FN) (by lia)
 rw[vp,vq,Zd] at hr;have bq:=hr;obtain⟨s',w',rfl,iJ⟩:=hr;have⟨l',ji⟩:=iJ.aR;refine⟨_,bq,fun tm t2 t3 t4=>?_⟩;have sX:∀x y:Bool,Fa ycG (D5 (x==y))=D5 (.bool (x !=y)):=fun x y=>by cases x<;>cases y<;>rfl
 simp only[go_sem,ya,mq,a8,t2,t3,t4,bS,cr,u1.ak,u2.ak,e1,e2,fZ.ak,oK.ak,pH,sX,e3,ho.ak,ho.shut,e4,bM,dX,dZ,bS,yh,nc ji,dH ji]
def alM{m:Nat}(h:a.natAbs*b.natAbs=m):a*b=if (decide (a<0)==decide (b<0))=ycG then (m:Int) else 0-(m:Int):=by
 have:=Zd (a:=a) (b:=b)
 rw[h] at this;unfold bY at this
 cases hd:(decide (a<0)==decide (b<0)) with
 | true=>simp only[bne,hd,xF,yA,xq] at this;exact this.symm
 | false=>simp only[bne,hd,xX,xN] at this;rw[yx (by decide)];lia
def sF(h:Nu P L)(hv:cp v a)(hw:cp w b)(ka:Bd K a)(kb:Bd K b)(hK:K<=40000000000):∃r,af P L 100 [v,w] r/\cp r (a*b):=by
 obtain⟨s1,w1,rfl,h1⟩:=hv;obtain⟨s2,w2,rfl,h2⟩:=hw;have⟨l1,u1⟩:=h1.aR;have⟨l2,u2⟩:=h2.aR;have⟨r,hr,tail⟩:=arB h h1 h2 ka kb hK;have fin:∀tm,aj tm 2=.ptr 0 0->aj tm 3=.ptr 1 0->aj tm 4=.ptr 2 0->
   D P L (.seq (cD mq.body) (cD (a8 mq.body))) ⟨[(0,.agg [aa s1,w1]),(1,.agg [aa s2,w2])],[],0,0⟩=D5 (.normal,⟨tm,[(2,.cells ycG ycG ycG 2 [.int .i64 0,.ah]),(1,.cells ycG ycG ycG 2 [aa s2,w2]),(0,.cells ycG ycG ycG 2 [aa s1,w1])],3,0⟩)->af P L 100 [.agg [aa s1,w1],.agg [aa s2,w2]] r:=fun tm t2 t3 t4 e=>by
  unfold af;rw[aH h.NZ];show lF [.cell 4 2 ycG] (D P L (.seq (cD mq.body) (.seq (cD (a8 mq.body)) (a8 (a8 mq.body)))) ⟨[(0,.agg [aa s1,w1]),(1,.agg [aa s2,w2])],[],0,0⟩)=_
  rw[LD,e,ph];exact tail tm t2 t3 t4
 rcases h1 with ⟨rfl,rfl,a1,a2⟩ | ⟨e,l,rfl,ga,na,va,sa,a1⟩
 .rcases h2 with ⟨rfl,rfl,b1,b2⟩ | ⟨e,l,rfl,gb,nb,vb,sb,b1⟩
  .have f1:=TA h a1 a2;have f2:=TA h b1 b2;have f3:=Ms (P:=P) (f:=D P L) h.mw (x:=s1.natAbs) (y:=s2.natAbs) (by lia) (by lia);obtain⟨m,hm⟩:∃m,s1.natAbs*s2.natAbs=m:=⟨_,rfl⟩;rw[hm] at f3;have ot:=alM hm;by_cases b9:m<=9223372036854775807
   .rw [xH (by lia),yK (by lia)] at f3;rw[show (uc 0)=AV.int .u64 0 from rfl] at f3;by_cases hs:(decide (s1<0)==decide (s2<0))=ycG
    .rw [yN hs] at ot;refine⟨.agg [aa (m:Int),.ah],?_,by rw[ot];exact cZ.oT (by lia) (by lia)⟩
     unfold af;rw[aH h.NZ]
     simp only[go_sem,ya,yc,mq,aU,rZ,gF,dO,Io,pH,a6,yd,dc,f1,f2,f3,show (m:Int)<=9223372036854775807 by lia,hs,Mr,wrap64 (n:=(m:Int)) (by lia) (by lia),rT];rfl
    .rw [yx hs] at ot;refine⟨.agg [aa (0-(m:Int)),.ah],?_,by rw[ot];exact cZ.oT (by lia) (by lia)⟩
     unfold af;rw[aH h.NZ]
     simp only[go_sem,ya,yc,mq,aU,rZ,gF,dO,Io,pH,a6,yd,dc,f1,f2,f3,show (m:Int)<=9223372036854775807 by lia,hs,Mr,wrap64 (n:=(m:Int)) (by lia) (by lia),wrap64 (n:=0-(m:Int)) (by lia) (by lia),rT];rfl
   .by_cases rG:m/2^64=0
    .rw [rG,yK (by lia)] at f3;rw[show (uc 0)=AV.int .u64 0 from rfl] at f3;refine⟨r,fin _ ?_ ?_ ?_ (by simp only[go_sem,ya,yc,cD,a8,mq,aU,gF,dO,a6,yd,dc,f1,f2,f3,show ¬(m:Int)<=9223372036854775807 by lia]<;>rfl),hr⟩<;>simp only[go_sem,ya]
    .obtain ⟨q,hq⟩:∃q,q=m/2^64:=⟨_,rfl⟩;rw[<-hq] at f3 rG;refine⟨r,fin _ ?_ ?_ ?_ (by simp only[go_sem,ya,yc,cD,a8,mq,aU,gF,dO,a6,yd,dc,f1,f2,f3,show ¬(q:Int)=0 by lia]<;>rfl),hr⟩<;>simp only[go_sem,ya]
  .refine ⟨r,fin _ ?_ ?_ ?_ (by simp only[go_sem,ya,yc,cD,a8,mq,aU,gF,nV,dO,a6,yd,dc]<;>rfl),hr⟩<;>simp only[go_sem,ya]
 .refine ⟨r,fin _ ?_ ?_ ?_ (by simp only[go_sem,ya,yc,cD,a8,mq,aU,u2.pu,u2.one,nV,dO,a6,yd,dc]<;>rfl),hr⟩<;>simp only[go_sem,ya]
end
def ajI{a b:Int}{q r:Nat}(hb:0<b)(h:q=a.natAbs/b.natAbs)(h2:r=a.natAbs%b.natAbs):
  (bY (decide (a<0)) r<0->a/b=bY (decide (a<0)) q-1/\a%b=bY (decide (a<0)) r+b)/\(¬bY (decide (a<0)) r<0->a/b=bY (decide (a<0)) q/\a%b=bY (decide (a<0)) r):=by
 have ej:=xK a.natAbs b.natAbs;have aB:r<b.natAbs:=by rw[h2];exact xp _ (by lia)
 unfold bY;by_cases h0:a<0
 .simp only [h0,xa,xN];constructor
  .intro h3;refine (tK hb).2 ⟨?_,by lia,by lia⟩
   grind
  .intro h3;refine (tK hb).2 ⟨?_,by lia,by lia⟩
   grind
 .grind
def arC(h:Nu P L){s1 s2:Int}{w1 w2:AV}{a b:Int}{K:Nat}(ha:cZ s1 w1 a)(hb:cZ s2 w2 b)(dC:0<b)(ka:Bd K a)(kb:Bd K b)(hK:K<=30000000000):
  ∃q r,cp q (a/b)/\cp r (a%b)/\∀tm,aj tm 2=.ptr 0 0->aj tm 3=.ptr 1 0->aj tm 4=.ptr 2 0->aj tm 5=.ptr 3 0->lF [.cell 4 2 ycG,.cell 5 2 ycG] (D P L (a8 (a8 mr.body)) ⟨tm,[(3,.cells ycG ycG ycG 2 [.int .i64 0,.ah]),(2,.cells ycG ycG ycG 2 [.int .i64 0,.ah]),(1,.cells ycG ycG ycG 2 [aa s2,w2]),(0,.cells ycG ycG ycG 2 [aa s1,w1])],4,0⟩)=D5 (.ay [q,r]):=by
 have⟨l1,u1⟩:=ha.aR;have⟨l2,u2⟩:=hb.aR;have⟨p,e1,hp⟩:=BM h ha;have⟨q,e2,hq⟩:=BM h hb;have bm:cp (.agg [aa s2,w2]) b:=⟨s2,w2,rfl,hb⟩;have⟨lp,fZ,_⟩:=hp.aR;have⟨lq,oK,_⟩:=hq.aR;have Ch:=yE ka (Bk K);have FN:=yE kb (Bk K);have⟨dq,dr,e3,DX,jT⟩:=adH h.toWd hp hq (by lia) Ch FN (by lia);have⟨Kv,uq,_⟩:=DX.aR;have⟨lr1,ur,_⟩:=jT.aR;have hqk:a.natAbs/b.natAbs<(2^64)^K:=xY (wU _ _) Ch;have hrk:a.natAbs%b.natAbs<(2^64)^K:=xY (ycE _ _) Ch;have hqb:a.natAbs/b.natAbs<2^K:=xY (wU _ _) ka;have Vt:a.natAbs%b.natAbs<2^K:=xY (ycE _ _) ka;have⟨f1,f2⟩:=ajI (a:=a) dC rfl rfl;generalize a.natAbs/b.natAbs=Q at*
 generalize a.natAbs%b.natAbs=R at*
 have⟨vq,e4,hvq⟩:=Dw h (decide (a<0)) DX hqk (by lia);have⟨vr,e5,Kj⟩:=Dw h (decide (a<0)) jT hrk (by lia);have hsq:Bd K (bY (decide (a<0)) Q):=by unfold Bd bY;split<;>lia
 have hsr:Bd K (bY (decide (a<0)) R):=by unfold Bd bY;split<;>lia
 generalize bY (decide (a<0)) R=Rs at*
 have e6:=Ju h Kj;have adN:=hvq;have adO:=Kj;obtain⟨s3,w3,rfl,h3⟩:=hvq;obtain⟨s4,w4,rfl,h4⟩:=Kj;have⟨l3,u3⟩:=h3.aR;have⟨l4,u4⟩:=h4.aR;by_cases h0:Rs<0
 .have ⟨g1,g2⟩:=f1 h0;have gh:Bd (K+1) 1:=Bd.mono (k:=1) (by unfold Bd;decide) (by lia)
  have⟨o1,o2⟩:=Ff h (z:=1) (by decide) (by decide);have⟨vq2,e7,TB⟩:=adM h adN o2 (K:=K+1) (hsq.mono (by lia)) gh (by lia);have⟨vr2,e8,TC⟩:=Jw h adO bm (K:=K+1) (hsr.mono (by lia)) (kb.mono (by lia)) (by lia);rw[<-g1] at TB;rw[<-g2] at TC;have lP:cY Rs<0:=by unfold cY;rw[yN h0];decide
  have k1:=TB;have k2:=TC;obtain⟨s5,w5,rfl,h5⟩:=TB;obtain⟨s6,w6,rfl,h6⟩:=TC;have⟨l5,u5⟩:=h5.aR;have⟨l6,u6⟩:=h6.aR;refine⟨_,_,k1,k2,fun tm t2 t3 t4 t5=>?_⟩;simp only[go_sem,ya,yc,mr,a8,t2,t3,t4,t5,zQ,zR,zG,zD,mh,wx,aU,bS,cr,u1.ak,u2.ak,e1,e2,fZ.ak,oK.ak,e3,uq.ak,uq.bX,ur.ak,ur.bX,e4,e5,bM,dX,dZ,bS,yh,dH u3,dH u4,u3.ak,u4.ak,e6,lP,o1,e7,e8,dX,dZ,bS,yh,dH u5,dH u6,aaU u5 u6]
 .have ⟨g1,g2⟩:=f2 h0;have lP:¬cY Rs<0:=by unfold cY;rw[yx h0];split<;>decide
  refine⟨_,_,by rw[g1];exact adN,by rw[g2];exact adO,fun tm t2 t3 t4 t5=>?_⟩
  simp only[go_sem,ya,yc,mr,a8,t2,t3,t4,t5,zQ,zR,zG,zD,mh,wx,aU,bS,cr,u1.ak,u2.ak,e1,e2,fZ.ak,oK.ak,e3,uq.ak,uq.bX,ur.ak,ur.bX,e4,e5,bM,dX,dZ,bS,yh,dH u3,dH u4,u4.ak,e6,lP,aaU u3 u4]
def adP(h:Nu P L){v w:AV}{a b:Int}{K:Nat}(hv:cp v a)(hw:cp w b)(dC:0<b)(ka:Bd K a)(kb:Bd K b)(hK:K<=30000000000):∃q r,af P L 164 [v,w] (.ay [q,r])/\cp q (a/b)/\cp r (a%b):=by
 obtain⟨s1,w1,rfl,h1⟩:=hv;obtain⟨s2,w2,rfl,h2⟩:=hw;have⟨l1,u1⟩:=h1.aR;have⟨l2,u2⟩:=h2.aR;have⟨q,r,hq,hr,tail⟩:=arC h h1 h2 dC ka kb hK;have fin:∀tm,aj tm 2=.ptr 0 0->aj tm 3=.ptr 1 0->aj tm 4=.ptr 2 0->aj tm 5=.ptr 3 0->
   D P L (.seq (cD mr.body) (cD (a8 mr.body))) ⟨[(0,.agg [aa s1,w1]),(1,.agg [aa s2,w2])],[],0,0⟩=D5 (.normal,⟨tm,[(3,.cells ycG ycG ycG 2 [.int .i64 0,.ah]),(2,.cells ycG ycG ycG 2 [.int .i64 0,.ah]),(1,.cells ycG ycG ycG 2 [aa s2,w2]),(0,.cells ycG ycG ycG 2 [aa s1,w1])],4,0⟩)->af P L 164 [.agg [aa s1,w1],.agg [aa s2,w2]] (.ay [q,r]):=fun tm t2 t3 t4 t5 e=>by
  unfold af;rw[aH h.Tz];show lF [.cell 4 2 ycG,.cell 5 2 ycG] (D P L (.seq (cD mr.body) (.seq (cD (a8 mr.body)) (a8 (a8 mr.body)))) ⟨[(0,.agg [aa s1,w1]),(1,.agg [aa s2,w2])],[],0,0⟩)=_
  rw[LD,e,ph];exact tail tm t2 t3 t4 t5
 rcases h1 with ⟨rfl,rfl,a1,a2⟩ | ⟨e,l,rfl,ga,na,va,sa,a1⟩
 .rcases h2 with ⟨rfl,rfl,b1,b2⟩ | ⟨e,l,rfl,gb,nb,vb,sb,b1⟩
  .by_cases hm:s1= -9223372036854775808
   .refine ⟨q,r,fin _ ?_ ?_ ?_ ?_ (by simp only[go_sem,ya,yc,cD,a8,mr,aU,gF,dO,a6,yd,dc,hm]<;>rfl),hq,hr⟩<;>simp only[go_sem,ya]
   .have ⟨f1,f2⟩:=ajy (a:=s1) dC;have bE:s1.tdiv s2=0\/(s1.tdiv s2).natAbs<=s1.natAbs:=.inr (Int.natAbs_tdiv_le_natAbs s1 s2);have eJ:=Int.tmod_lt_of_pos s1 dC;have jP:=Int.lt_tmod_of_pos s1 dC;by_cases h0:s1.tmod s2<0
    .have ⟨g1,g2⟩:=f1 h0;rw[g1,g2];refine⟨.agg [aa (s1.tdiv s2-1),.ah],.agg [aa (s1.tmod s2+s2),.ah],?_,cZ.oT (by lia) (by lia),cZ.oT (by lia) (by lia)⟩;unfold af;rw[aH h.Tz]
     simp only[go_sem,ya,yc,mr,aU,rZ,gF,dO,a6,yd,dc,hm,dE _ _ _ (show s2≠0 by lia),dY _ _ _ (show s2≠0 by lia),h0,wrap64 (n:=s1.tdiv s2) (by lia) (by lia),wrap64 (n:=s1.tdiv s2-1) (by lia) (by lia),wrap64 (n:=s1.tmod s2+s2) (by lia) (by lia),rT];rfl
    .have ⟨g1,g2⟩:=f2 h0;rw[g1,g2];refine⟨.agg [aa (s1.tdiv s2),.ah],.agg [aa (s1.tmod s2),.ah],?_,cZ.oT (by lia) (by lia),cZ.oT (by lia) (by lia)⟩;unfold af;rw[aH h.Tz]
     simp only[go_sem,ya,yc,mr,aU,rZ,gF,dO,a6,yd,dc,hm,dE _ _ _ (show s2≠0 by lia),dY _ _ _ (show s2≠0 by lia),h0,wrap64 (n:=s1.tdiv s2) (by lia) (by lia),rT];rfl
  .refine ⟨q,r,fin _ ?_ ?_ ?_ ?_ (by simp only[go_sem,ya,yc,cD,a8,mr,aU,gF,nV,dO,a6,yd,dc]<;>rfl),hq,hr⟩<;>simp only[go_sem,ya]
 .refine ⟨q,r,fin _ ?_ ?_ ?_ ?_ (by simp only[go_sem,ya,yc,cD,a8,mr,aU,u2.pu,u2.one,nV,dO,a6,yd,dc]<;>rfl),hq,hr⟩<;>simp only[go_sem,ya]
section
variable {v w:AV}{a b:Int}{l m:List Nat}{K:Nat}
def adQ(h:Nu P L)(hv:cp v a)(hw:cp w b)(dC:0<b)(ka:Bd K a)(kb:Bd K b)(hK:K<=30000000000):∃r,af P L 148 [v,w] r/\cp r (a/b):=by
 have e1:=Ju h hw;have⟨q,r,e2,hq,hr⟩:=adP h hv hw dC ka kb hK;have e3:cY b=1:=by unfold cY;rw[yx (by lia),yx (by lia)]
 rw[e3] at e1;have bE:=hq;obtain⟨s1,w1,rfl,h1⟩:=hv;obtain⟨s2,w2,rfl,h2⟩:=hw;obtain⟨s3,w3,rfl,h3⟩:=hq;obtain⟨s4,w4,rfl,h4⟩:=hr;have⟨l1,u1⟩:=h1.aR;have⟨l2,u2⟩:=h2.aR;have⟨l3,u3⟩:=h3.aR;have⟨l4,u4⟩:=h4.aR;refine⟨_,?_,bE⟩;unfold af;rw[aH h.avO];simp only[go_sem,ya,yc,SX,Int.reduceLT,xf,aU,u1.pu,u1.ak,u1.one,u2.pu,u2.ak,u2.one,yd,cr,e1,e2,AZ,dX,dZ,bS,yh,nc u3,dH u3,dH u4]
def arD(h:Nu P L)(G:Nat)(hK:K<=30000000000){o1 o2:AV}:
  cP P L [2,3,4] HP (fun k s=>∃(x y:Nat) (s1 s2:Int) (w1 w2:AV),s=⟨[(2,.ptr 0 0),(3,.ptr 1 0),(4,.ptr 2 0)],[(2,.cells ycG ycG ycG 2 [o1,o2]),(1,.cells ycG ycG ycG 2 [aa s2,w2]),(0,.cells ycG ycG ycG 2 [aa s1,w1])],3,0⟩/\cZ s1 w1 x/\cZ s2 w2 y/\Bd K x/\Bd K y/\Nat.gcd x y=G/\y=k) (fun ex s'=>∃tm s1 w1 c1,s'=⟨tm,[(2,.cells ycG ycG ycG 2 [o1,o2]),(1,c1),(0,.cells ycG ycG ycG 2 [aa s1,w1])],3,0⟩/\ex=.exit 0/\aj tm 2=.ptr 0 0/\aj tm 4=.ptr 2 0/\cZ s1 w1 G):=by
 apply cT;rintro k s ⟨x,y,s1,s2,w1,w2,rfl,h1,h2,k1,k2,hG,rfl⟩;have⟨l1,u1⟩:=h1.aR;have⟨l2,u2⟩:=h2.aR;have i1:cp (.agg [aa s1,w1]) (x:Int):=⟨s1,w1,rfl,h1⟩;have i2:cp (.agg [aa s2,w2]) (y:Int):=⟨s2,w2,rfl,h2⟩;have e1:=Ju h i2;by_cases jU:y=0
 .right
  subst jU;rw[show cY ((0:Nat):Int)=0 from rfl] at e1;simp only[go_sem,ya,HP,xa,xF,bS,cr,u2.ak,e1];obtain rfl:x=G:=by rw[<-hG,Nat.gcd_zero_right]
  exact⟨_,_,rfl,by simp,_,s1,w1,_,rfl,rfl,rfl,rfl,h1⟩
 .left
  have e3:cY (y:Int)=1:=by unfold cY;rw[yx (by lia),yx (by lia)]
  rw[e3] at e1;have⟨q,r,e2,hq,hr⟩:=adP h i1 i2 (by lia) k1 k2 hK;obtain⟨s3,w3,rfl,h3⟩:=hq;obtain⟨s4,w4,rfl,h4⟩:=hr;have⟨l3,u3⟩:=h3.aR;have⟨l4,u4⟩:=h4.aR;have aB:=xp x (show 0<y by lia);have kr:Bd K ((x%y:Nat):Int):=k2.le (by lia);simp only[go_sem,ya,yc,HP,zQ,zR,zG,zD,mh,wx,yan,xf,xX,aU,bS,cr,u1.ak,u2.ak,e1,e2,AZ,bS,yh,dH u2,dH u3,dH u4];refine⟨_,x%y,rfl,aB,y,x%y,s2,s4,w2,w4,?_,h2,h4,k2,kr,by rw[<-hG];exact alC x y jU,rfl⟩
  simp only[go_sem,ya,yc,aA]
def avR(h:Nu P L)(hv:cp v a)(hw:cp w b)(ka:Bd K a)(kb:Bd K b)(hK:K<=30000000000):∃r,af P L 130 [v,w] r/\cp r (vj a b:Nat):=by
 have⟨va,e1,ha⟩:=adL h hv ka (by lia);have⟨vb,e2,hb⟩:=adL h hw kb (by lia);obtain⟨s1,w1,rfl,h1⟩:=hv;obtain⟨s2,w2,rfl,h2⟩:=hw;obtain⟨s3,w3,rfl,h3⟩:=ha;obtain⟨s4,w4,rfl,h4⟩:=hb;have⟨l1,u1⟩:=h1.aR;have⟨l2,u2⟩:=h2.aR;have⟨l3,u3⟩:=h3.aR;have⟨l4,u4⟩:=h4.aR;have jc:∃s w,af P L 130 [.agg [aa s1,w1],.agg [aa s2,w2]] (.agg [aa s,w])/\cZ s w (vj a b:Nat):=by
  unfold af;rw[aH h.avP];simp only[go_sem,ya,yc,SV,aU,u1.pu,u1.ak,u1.one,u2.pu,u2.ak,u2.one,bS,cr,e1,e2,bM,bS,yh,dH u3,dH u4,yd];generalize hq:D P L (.loop _ HP) _=q;obtain⟨ex,s,rfl,tm,s5,w5,c1,rfl,rfl,t2,t4,h5⟩:=bF hq (arD (P:=P) (L:=L) h (vj a b) (K:=K) hK (o1:=.int .i64 0) (o2:=.ah) b.natAbs) ⟨a.natAbs,b.natAbs,s3,s4,w3,w4,by simp only[go_sem,ya,yc,aA],h3,h4,ka,kb,rfl,rfl⟩;have⟨l5,u5⟩:=h5.aR;refine⟨s5,w5,?_,h5⟩;simp only[go_sem,ya,yc,aA,t2,t4,dX,dZ,bS,yh,nc u5,dH u5]
 have⟨s,w,e,hn⟩:=jc;exact⟨_,e,s,w,rfl,hn⟩
def dJ(v:AV)(r:Rat):Prop:=∃s1 w1 s2 w2,v=.agg [aa s1,w1,aa s2,w2]/\cZ s1 w1 r.num/\cZ s2 w2 (r.den:Int)
def Hq(k:Nat)(r:Rat):Prop:=Bd k r.num/\Bd k (r.den:Int)
def Ps(hb:0<b):(wy a b).num=a/(vj a b:Nat)/\((wy a b).den:Int)=b/(vj a b:Nat):=by
 constructor
 .rw [ybE,Int.sign_eq_one_of_pos hb,Int.one_mul,ycd]
 .rw [ybF,yx (by lia),ycd]
  grind
def Hq.divInt{k:Nat}(hb:0<b)(ka:Bd k a)(kb:Bd k b):Hq k (wy a b):=by
 have⟨h1,h2⟩:=Ps (a:=a) hb;refine⟨ka.le ?_,kb.le ?_⟩
 .rw [h1,uJ (Int.gcd_dvd_left a b)];exact wU _ _
 .rw [h2,uJ (Int.gcd_dvd_right a b)];exact wU _ _
section
def Er{tm:Env}{a b x y z:AV}{r:List (Nat×Nat×X)}(h1:dD a=ycG)(h2:dD b=ycG):mY tm [x,y,z,w] 0 2 [a,b] r=fill tm [a,b,z,w] r:=by
 rw[Z9 (by rfl) (by simp) (by simp[b5,h1,h2])];rfl
def Es{tm:Env}{a b x y z:AV}{r:List (Nat×Nat×X)}(h1:dD a=ycG)(h2:dD b=ycG):mY tm [x,y,z,w] 2 2 [a,b] r=fill tm [x,y,a,b] r:=by
 rw[Z9 (by rfl) (by simp) (by simp[b5,h1,h2])];rfl
def lz{s t:Int}(hv:bG v l)(hw:bG w m)(hp:Hp)(ct id:Nat)(a b x y:AV):kH hp ct id 0 4 [.int .i64 s,v,.int .i64 t,w] (D5 (.cells ycG ycG ycG 4 [a,b,x,y]))=D5 (.ay [],aV hp id (.cells ycG ycG ycG 4 [.int .i64 s,v,.int .i64 t,w]),ct):=by
 rw[MT (by rfl) (by simp) (by simp[b5,hv.one,hw.one,Z8])];simp[aD,hv.pu,hw.pu,over,aaM]
def lA{s t:Int}(hv:bG v l)(hw:bG w m)(hp:Hp):result hp (.agg [aa s,v,aa t,w])=D5 (.agg [aa s,v,aa t,w]):=by
 rcases hv with ⟨rfl,_⟩ | ⟨e,rfl⟩<;>rcases hw with ⟨rfl,_⟩ | ⟨e',rfl⟩<;>rfl
variable {P:aE}{L:Lib}
structure Fr'(P:aE)(L:Lib):Prop extends Nu P L where
 avS:Has P L 101 ni
 Vu:Has P L 69 UT
 avT:Has P L 111 SU
 h98:Has P L 98 OM
 aAx:Has P L 108 acS
 aAy:Has P L 102 acQ
 h74:Has P L 74 Ka
 h50:Has P L 50 c50
 Vv:Has P L 49 c49
 h73:Has P L 73 UW
 h70:Has P L 70 c70
 h71:Has P L 71 UU
 aAz:Has P L 149 acY
def aaV(h:Fr' P L){s1 s2:Int}{w1 w2:AV}(h1:cZ s1 w1 a)(h2:cZ s2 w2 b)(dC:0<b)(ka:Bd K a)(kb:Bd K b)(hK:K<=30000000000):
  ∃r,dJ r (wy a b)/\∀tm,aj tm 2=.ptr 0 0->aj tm 3=.ptr 1 0->aj tm 4=.ptr 2 0->lF [.cell 4 4 ycG] (D P L (a8 (a8 ni.body)) ⟨tm,[(2,.cells ycG ycG ycG 4 [.int .i64 0,.ah,.int .i64 0,.ah]),(1,.cells ycG ycG ycG 2 [aa s2,w2]),(0,.cells ycG ycG ycG 2 [aa s1,w1])],3,0⟩)=D5 r:=by
 have hv:cp (.agg [aa s1,w1]) a:=⟨s1,w1,rfl,h1⟩;have hw:cp (.agg [aa s2,w2]) b:=⟨s2,w2,rfl,h2⟩;have⟨p1,p2⟩:=Ps (a:=a) dC;have hgp:=LX (a:=a) dC;have hgk:Bd K ((vj a b:Nat):Int):=kb.le (by
  have:=Int.gcd_le_natAbs_right a (show b≠0 by lia)
  lia)
 have⟨g,e2,hg⟩:=avR h.toNu hv hw ka kb hK;have⟨q1,e4,fc⟩:=adQ h.toNu hv hg hgp ka hgk hK;have⟨q2,e5,oJ⟩:=adQ h.toNu hw hg hgp kb hgk hK;rw[<-p1] at fc;rw[<-p2] at oJ;obtain⟨s3,w3,rfl,h3⟩:=hg;obtain⟨s4,w4,rfl,h4⟩:=fc;obtain⟨s5,w5,rfl,h5⟩:=oJ;have⟨l1,u1⟩:=h1.aR;have⟨l2,u2⟩:=h2.aR;have⟨l3,u3⟩:=h3.aR;have⟨l4,u4⟩:=h4.aR;have⟨l5,u5⟩:=h5.aR;by_cases fE:w2=.ah/\s2=1
 .obtain ⟨rfl,rfl⟩:=fE;have gh:b=1:=by
   rcases h2 with ⟨_,h,_⟩ | ⟨_,_,h,_⟩
   .exact h.symm
   .cases h
  subst gh;rw[Int.gcd_one] at p1 p2;have p1:(wy a 1).num=a:=by rw[p1];exact Int.ediv_one a
  refine⟨.agg [aa s1,w1,aa 1,.ah],⟨s1,w1,1,.ah,rfl,by rw[p1];exact h1,by rw[p2];exact h2⟩,fun tm t2 t3 t4=>?_⟩
  have un:=rS;simp only[go_sem,ya,ni,a8,t2,t3,t4,u1.one,bS,a6,yd,dc,gF,dO,Er,Es,lz u1 un,dX,dZ,yh,iX,lA u1 un]
 .refine ⟨.agg [aa s4,w4,aa s5,w5],⟨s4,w4,s5,w5,rfl,h4,h5⟩,fun tm t2 t3 t4=>?_⟩;rcases u2 with ⟨rfl,_⟩ | ⟨e,rfl⟩
  .simp only [go_sem,ya,yc,ni,a8,t2,t3,t4,aU,u1.ak,bS,cr,a6,yd,dc,gF,dO,show ¬s2=1 from fun e=>fE ⟨rfl,e⟩,e2,e4,e5,bM,dX,dZ,bS,yh,dH u3,u3.ak,u4.one,u5.one,Er,Es,lz u4 u5,iX,lA u4 u5]
  .simp only [go_sem,ya,yc,ni,a8,t2,t3,t4,aU,u1.ak,bS,cr,a6,yd,dc,nV,dO,e2,e4,e5,bM,dX,dZ,bS,yh,dH u3,u3.ak,u4.one,u5.one,Er,Es,lz u4 u5,iX,lA u4 u5]
def TD(h:Fr' P L)(hv:cp v a)(hw:cp w b)(dC:b≠0)(ka:Bd K a)(kb:Bd K b)(hK:K<=30000000000):∃r,af P L 101 [v,w] r/\dJ r (wy a b):=by
 have e1:=Ju h.toNu hw;have eX:=hv;have Vw:=hw;obtain⟨s1,w1,rfl,h1⟩:=hv;obtain⟨s2,w2,rfl,h2⟩:=hw;have⟨l1,u1⟩:=h1.aR;have⟨l2,u2⟩:=h2.aR;have fin:∀r t1 t2 v1 v2 tm,(∀tm,aj tm 2=.ptr 0 0->aj tm 3=.ptr 1 0->aj tm 4=.ptr 2 0->lF [.cell 4 4 ycG] (D P L (a8 (a8 ni.body)) ⟨tm,[(2,.cells ycG ycG ycG 4 [.int .i64 0,.ah,.int .i64 0,.ah]),(1,.cells ycG ycG ycG 2 [aa t2,v2]),(0,.cells ycG ycG ycG 2 [aa t1,v1])],3,0⟩)=D5 r)->aj tm 2=.ptr 0 0->aj tm 3=.ptr 1 0->aj tm 4=.ptr 2 0->
   D P L (.seq (cD ni.body) (cD (a8 ni.body))) ⟨[(0,.agg [aa s1,w1]),(1,.agg [aa s2,w2])],[],0,0⟩=D5 (.normal,⟨tm,[(2,.cells ycG ycG ycG 4 [.int .i64 0,.ah,.int .i64 0,.ah]),(1,.cells ycG ycG ycG 2 [aa t2,v2]),(0,.cells ycG ycG ycG 2 [aa t1,v1])],3,0⟩)->af P L 101 [.agg [aa s1,w1],.agg [aa s2,w2]] r:=fun r t1 t2 v1 v2 tm tail k2 k3 k4 e=>by
  unfold af;rw[aH h.avS];show lF [.cell 4 4 ycG] (D P L (.seq (cD ni.body) (.seq (cD (a8 ni.body)) (a8 (a8 ni.body)))) ⟨[(0,.agg [aa s1,w1]),(1,.agg [aa s2,w2])],[],0,0⟩)=_
  rw[LD,e,ph];exact tail tm k2 k3 k4
 by_cases hn:b<0
 .have ⟨n1,e2,kC⟩:=Jv h.toNu eX ka (by lia);have⟨n2,e3,dn⟩:=Jv h.toNu Vw kb (by lia);obtain⟨s3,w3,rfl,h3⟩:=kC;obtain⟨s4,w4,rfl,h4⟩:=dn;have⟨l3,u3⟩:=h3.aR;have⟨l4,u4⟩:=h4.aR;have⟨r,hr,tail⟩:=aaV h h3 h4 (by lia) ka.neg kb.neg hK;rw[Rat.neg_divInt_neg] at hr;have hs:cY b<0:=by unfold cY;rw[yN hn];decide
  refine⟨r,fin r _ _ _ _ _ tail ?_ ?_ ?_ (by simp only[go_sem,ya,yc,ni,cD,a8,hs,aU,u1.pu,u1.ak,u1.one,u2.pu,u2.ak,u2.one,bS,cr,e1,e2,e3,bM,dH u3,dH u4]<;>rfl),hr⟩<;>simp only[go_sem,ya]
 .have ⟨r,hr,tail⟩:=aaV h h1 h2 (by lia) ka kb hK;have hs:¬cY b<0:=by unfold cY;rw[yx hn];split<;>decide
  refine⟨r,fin r _ _ _ _ _ tail ?_ ?_ ?_ (by simp only[go_sem,ya,yc,ni,cD,a8,hs,aU,u1.pu,u1.one,u2.pu,u2.ak,u2.one,bS,cr,e1]<;>rfl),hr⟩<;>simp only[go_sem,ya]
end
end
section
variable {v w:AV}{K k m:Nat}{a b:Rat}
def Hq.mono{r:Rat}(h:Hq k r)(hk:k<=m):Hq m r:=⟨h.1.mono hk,h.2.mono hk⟩
def Hq.neg{r:Rat}(h:Hq k r):Hq k (-r):=⟨h.1.neg,h.2⟩
def add_eq(a b:Rat):a+b=wy (a.num*b.den+b.num*a.den) ((a.den:Int)*b.den):=by
 rw[Rat.add_def',<-ybn,xx]
def mul_eq(a b:Rat):a*b=wy (a.num*b.num) ((a.den:Int)*b.den):=by
 rw[Rat.mul_def',<-ybn,xx]
def Ze(a:Rat):0<(a.den:Int):=by have:=a.den_pos;lia
def D7(a b:Rat):0<(a.den:Int)*b.den:=Int.mul_pos (Ze a) (Ze b)
def Bd.TE{a b:Int}(ha:Bd k a)(hb:Bd k b):Bd (k+1) (a+b):=by
 have:=ha.add hb
 grind
def Hq.add(ha:Hq k a)(hb:Hq m b):Hq (k+m+1) (a+b):=by
 rw[add_eq];refine Hq.divInt (D7 a b) ?_ ((ha.2.mul hb.2).mono (by lia));exact (ha.1.mul hb.2).TE ((hb.1.mul ha.2).mono (by lia))
def Hq.mul(ha:Hq k a)(hb:Hq m b):Hq (k+m) (a*b):=by
 rw[mul_eq];exact Hq.divInt (D7 a b) (ha.1.mul hb.1) (ha.2.mul hb.2)
def Hq.sub(ha:Hq k a)(hb:Hq m b):Hq (k+m+1) (a-b):=by
 rw[Rat.sub_eq_add_neg];exact ha.add hb.neg
def Hq.inv(ha:Hq k a):Hq k a⁻¹:=by
 have h1:(a⁻¹).num.natAbs<=a.den:=by
  rw[Rat.num_inv,Int.natAbs_mul]
  grind
 refine⟨ha.2.le (by simpa using h1),?_⟩;unfold Bd;rw[Rat.den_inv]
 split
 .have h2:=ha.2;unfold Bd at h2
  simp_all
 .exact ha.1
def sG(a b:Rat):Int:=if a<b then -1 else if a=b then 0 else 1
def an2(a b:Rat):cY (a.num*b.den-b.num*a.den)=sG a b:=by
 unfold cY sG;by_cases h:a<b
 .rw [yN h]
  have:=(ycF a b).1 h
  grind
 .rw [yx h];have h1:¬a.num*b.den<b.num*a.den:=fun e=>h ((ycF a b).2 e)
  rw[yx (by lia)];by_cases h2:a=b
  .grind
  .rw [yx h2,yx (by have:¬a.num*b.den=b.num*a.den:=fun e=>h2 (Rat.eq_iff_mul_eq_mul.2 e);lia)]
def Q9(a:Rat)(h:a.den=1):a=(a.num:Rat):=by
 have:=Rat.num_divInt_den a
 rw[h] at this;rw[<-this];exact (Rat.ext (by simp[ybE]) (by simp[ybF]))
def Dd(a b c d:AV)(r:List AV):gN 2 ycG (List.drop 2 (a::b::c::d::r))=D5 (.agg [c,d]):=rfl
def zY(a b:AV)(r:List AV):gN 2 ycG (a::b::r)=D5 (.agg [a,b]):=rfl
def TF(h:Fr' P L){z:Int}(hv:cp v z):∃r,af P L 111 [v] r/\dJ r (z:Rat):=by
 have⟨o1,o2⟩:=Ff h.toNu (z:=1) (by decide) (by decide);obtain⟨s1,w1,rfl,h1⟩:=hv;have⟨l1,u1⟩:=h1.aR;have un:=rS;refine⟨.agg [aa s1,w1,aa 1,.ah],?_,s1,w1,1,.ah,rfl,h1,.inl ⟨rfl,rfl,(by show (-9223372036854775808:Int)<=1;decide),(by show (1:Int)<9223372036854775808;decide)⟩⟩
 unfold af;rw[aH h.avT];simp only[go_sem,ya,yc,SU,aU,u1.pu,u1.one,bS,o1,bM,Er,Es,lz u1 un,dX,dZ,yh,iX,lA u1 un]
def Vx(h:Fr' P L){z:Int}(h1: -9223372036854775808<=z)(h2:z<9223372036854775808):∃r,af P L 69 [aa z] r/\dJ r (z:Rat):=by
 have⟨o1,o2⟩:=Ff h.toNu h1 h2;have⟨r,e,hr⟩:=TF h o2;have bq:=hr;obtain⟨s1,w1,s2,w2,rfl,k1,k2⟩:=hr;have⟨l1,u1⟩:=k1.aR;have⟨l2,u2⟩:=k2.aR;refine⟨_,?_,bq⟩;unfold af;rw[aH h.Vu];simp only[go_sem,ya,yc,UT,aU,cr,o1,e,bM,lz u1 u2,dX,dZ,yh,iX,lA u1 u2]
def Vy(h:Fr' P L)(hv:dJ v a):af P L 98 [v] (.bool (decide (a.den=1))):=by
 obtain⟨s1,w1,s2,w2,rfl,h1,h2⟩:=hv;have⟨l1,u1⟩:=h1.aR;unfold af;rw[aH h.h98];rcases h2 with ⟨rfl,rfl,b1,b2⟩ | ⟨e,l,rfl,gb,nb,vb,sb,b1⟩
 .have e:decide (((a.den:Nat):Int)=1)=decide (a.den=1):=by simp;lia
  simp only[go_sem,ya,yc,OM,aU,u1.pu,u1.one,a6,yd,atX,ab1,gF,dO,e]
 .have e:decide (a.den=1)=false:=yW (by lia);rw[e];simp only[go_sem,ya,yc,OM,aU,u1.pu,u1.one,a6,yd,ab1,nV,dO]
def m74(h:Fr' P L)(hv:dJ v a)(hw:dJ w b)(ka:Hq K a)(kb:Hq K b)(hK:K<=10000000000):∃r,af P L 74 [v,w] r/\dJ r (a+b):=by
 have i1:=Vy h hv;have i2:=Vy h hw;obtain⟨s1,w1,s2,w2,rfl,h1,h2⟩:=hv;obtain⟨s3,w3,s4,w4,rfl,h3,h4⟩:=hw;have⟨l1,u1⟩:=h1.aR;have⟨l2,u2⟩:=h2.aR;have⟨l3,u3⟩:=h3.aR;have⟨l4,u4⟩:=h4.aR;have n1:cp (.agg [aa s1,w1]) a.num:=⟨s1,w1,rfl,h1⟩;have n2:cp (.agg [aa s2,w2]) a.den:=⟨s2,w2,rfl,h2⟩;have n3:cp (.agg [aa s3,w3]) b.num:=⟨s3,w3,rfl,h3⟩;have n4:cp (.agg [aa s4,w4]) b.den:=⟨s4,w4,rfl,h4⟩;by_cases nA:a.den=1/\b.den=1
 .have ⟨d1,d2⟩:=nA;have⟨p,e1,hp⟩:=Jw h.toNu n1 n3 ka.1 kb.1 (by lia);have⟨r,e2,hr⟩:=TF h hp;have he:((a.num+b.num:Int):Rat)=a+b:=by
   rw[Rat.intCast_add,<-Q9 a d1,<-Q9 b d2]
  rw[he] at hr;have bq:=hr;obtain⟨s5,w5,rfl,h5⟩:=hp;obtain⟨s6,w6,s7,w7,rfl,h6,h7⟩:=hr;have⟨l5,u5⟩:=h5.aR;have⟨l6,u6⟩:=h6.aR;have⟨l7,u7⟩:=h7.aR;refine⟨_,?_,bq⟩;rw[d1] at i1;rw[d2] at i2;unfold af;rw[aH h.h74];simp only[go_sem,ya,yc,Ka,aU,u1.pu,u1.ak,u1.one,u2.pu,u2.ak,u2.one,u3.pu,u3.ak,u3.one,u4.pu,u4.ak,u4.one,a6,yd,iX,zY,cr,i1,i2,e1,u5.ak,e2,bM,lz u6 u7,dX,dZ,yh,iX,lA u6 u7]
 .have ⟨p1,e1,aX⟩:=sF h.toNu n1 n4 ka.1 kb.2 (by lia);have⟨p2,e2,ic⟩:=sF h.toNu n3 n2 kb.1 ka.2 (by lia);have⟨p3,e3,hp3⟩:=Jw h.toNu aX ic (ka.1.mul kb.2) (kb.1.mul ka.2) (by lia);have⟨p4,e4,hp4⟩:=sF h.toNu n2 n4 ka.2 kb.2 (by lia);have⟨r,e5,hr⟩:=TD h hp3 hp4 (by have:=D7 a b;lia) ((ka.1.mul kb.2).TE (kb.1.mul ka.2)) ((ka.2.mul kb.2).mono (by lia)) (by lia)
  rw[<-add_eq] at hr;have bq:=hr;obtain⟨s5,w5,rfl,h5⟩:=aX;obtain⟨s6,w6,rfl,h6⟩:=ic;obtain⟨s7,w7,rfl,h7⟩:=hp3;obtain⟨s8,w8,rfl,h8⟩:=hp4;obtain⟨s9,w9,s10,w10,rfl,h9,gR⟩:=hr;have⟨l5,u5⟩:=h5.aR;have⟨l6,u6⟩:=h6.aR;have⟨l7,u7⟩:=h7.aR;have⟨l8,u8⟩:=h8.aR;have⟨l9,u9⟩:=h9.aR;have⟨l10,O6⟩:=gR.aR;refine⟨_,?_,bq⟩;unfold af;rw[aH h.h74];by_cases d1:a.den=1
  .rw [d1] at i1;rw[yW (fun d2=>nA ⟨d1,d2⟩)] at i2;simp only[go_sem,ya,yc,Ka,aU,u1.pu,u1.ak,u1.one,u2.pu,u2.ak,u2.one,u3.pu,u3.ak,u3.one,u4.pu,u4.ak,u4.one,a6,yd,iX,zY,Dd,cr,i1,i2,e1,e2,u5.ak,u6.ak,e3,e4,u7.ak,u8.ak,e5,bM,lz u9 O6,dX,dZ,yh,iX,lA u9 O6]
  .rw [yW d1] at i1;simp only[go_sem,ya,yc,Ka,aU,u1.pu,u1.ak,u1.one,u2.pu,u2.ak,u2.one,u3.pu,u3.ak,u3.one,u4.pu,u4.ak,u4.one,a6,yd,iX,zY,Dd,cr,i1,e1,e2,u5.ak,u6.ak,e3,e4,u7.ak,u8.ak,e5,bM,lz u9 O6,dX,dZ,yh,iX,lA u9 O6]
def m49(h:Fr' P L)(hv:dJ v a)(hw:dJ w b)(ka:Hq K a)(kb:Hq K b)(hK:K<=10000000000):∃r,af P L 49 [v,w] r/\dJ r (a*b):=by
 obtain⟨s1,w1,s2,w2,rfl,h1,h2⟩:=hv;obtain⟨s3,w3,s4,w4,rfl,h3,h4⟩:=hw;have⟨l1,u1⟩:=h1.aR;have⟨l2,u2⟩:=h2.aR;have⟨l3,u3⟩:=h3.aR;have⟨l4,u4⟩:=h4.aR;have⟨p1,e1,aX⟩:=sF h.toNu (v:=.agg [aa s1,w1]) (w:=.agg [aa s3,w3]) ⟨s1,w1,rfl,h1⟩ ⟨s3,w3,rfl,h3⟩ ka.1 kb.1 (by lia);have⟨p2,e2,ic⟩:=sF h.toNu (v:=.agg [aa s2,w2]) (w:=.agg [aa s4,w4]) ⟨s2,w2,rfl,h2⟩ ⟨s4,w4,rfl,h4⟩ ka.2 kb.2 (by lia);have⟨r,e3,hr⟩:=TD h aX ic (by have:=D7 a b;lia) (ka.1.mul kb.1) (ka.2.mul kb.2) (by lia)
 rw[<-mul_eq] at hr;have bq:=hr;obtain⟨s5,w5,rfl,h5⟩:=aX;obtain⟨s6,w6,rfl,h6⟩:=ic;obtain⟨s7,w7,s8,w8,rfl,h7,h8⟩:=hr;have⟨l5,u5⟩:=h5.aR;have⟨l6,u6⟩:=h6.aR;have⟨l7,u7⟩:=h7.aR;have⟨l8,u8⟩:=h8.aR;refine⟨_,?_,bq⟩;unfold af;rw[aH h.Vv];simp only[go_sem,ya,yc,c49,aU,u1.pu,u1.ak,u1.one,u2.pu,u2.ak,u2.one,u3.pu,u3.ak,u3.one,u4.pu,u4.ak,u4.one,u5.ak,u6.ak,a6,yd,zY,Dd,cr,e1,e2,e3,bM,lz u7 u8,dX,dZ,yh,iX,lA u7 u8]
def m73(h:Fr' P L)(hv:dJ v a)(h0:a≠0)(ka:Hq K a)(hK:K<=10000000000):∃r,af P L 73 [v] r/\dJ r a⁻¹:=by
 obtain⟨s1,w1,s2,w2,rfl,h1,h2⟩:=hv;have⟨l1,u1⟩:=h1.aR;have⟨l2,u2⟩:=h2.aR;have⟨r,e1,hr⟩:=TD h (v:=.agg [aa s2,w2]) (w:=.agg [aa s1,w1]) ⟨s2,w2,rfl,h2⟩ ⟨s1,w1,rfl,h1⟩ (fun e=>h0 (Rat.num_eq_zero.1 e)) ka.2 ka.1 (by lia);rw[<-Rat.inv_def] at hr;have bq:=hr;obtain⟨s7,w7,s8,w8,rfl,h7,h8⟩:=hr;have⟨l7,u7⟩:=h7.aR;have⟨l8,u8⟩:=h8.aR;refine⟨_,?_,bq⟩;unfold af;rw[aH h.h73];simp only[go_sem,ya,yc,UW,aU,u1.pu,u1.ak,u1.one,u2.pu,u2.ak,u2.one,a6,yd,zY,Dd,cr,e1,bM,lz u7 u8,dX,dZ,yh,iX,lA u7 u8]
def m71(h:Fr' P L)(hv:dJ v a)(hw:dJ w b)(ka:Hq K a)(kb:Hq K b)(hK:K<=10000000000):af P L 71 [v,w] (aa (sG a b)):=by
 obtain⟨s1,w1,s2,w2,rfl,h1,h2⟩:=hv;obtain⟨s3,w3,s4,w4,rfl,h3,h4⟩:=hw;have⟨l1,u1⟩:=h1.aR;have⟨l2,u2⟩:=h2.aR;have⟨l3,u3⟩:=h3.aR;have⟨l4,u4⟩:=h4.aR;have⟨p1,e1,aX⟩:=sF h.toNu (v:=.agg [aa s1,w1]) (w:=.agg [aa s4,w4]) ⟨s1,w1,rfl,h1⟩ ⟨s4,w4,rfl,h4⟩ ka.1 kb.2 (by lia);have⟨p2,e2,ic⟩:=sF h.toNu (v:=.agg [aa s3,w3]) (w:=.agg [aa s2,w2]) ⟨s3,w3,rfl,h3⟩ ⟨s2,w2,rfl,h2⟩ kb.1 ka.2 (by lia);have e3:=avQ h.toNu aX ic (ka.1.mul kb.2) (kb.1.mul ka.2) (by lia);rw[an2] at e3;obtain⟨s5,w5,rfl,h5⟩:=aX;obtain⟨s6,w6,rfl,h6⟩:=ic;have⟨l5,u5⟩:=h5.aR;have⟨l6,u6⟩:=h6.aR;unfold af;rw[aH h.h71];simp only[go_sem,ya,yc,UU,aU,u1.pu,u1.ak,u1.one,u2.pu,u2.ak,u2.one,u3.pu,u3.ak,u3.one,u4.pu,u4.ak,u4.one,u5.ak,u6.ak,a6,yd,zY,Dd,cr,e1,e2,e3,bM]
end
def r5:List AV->Option (List Nat)
 | []=>D5 []
 | .int .u64 (.ofNat d)::r=>bif yF d 18446744073709551616 then (match r5 r with | some l=>D5 (d::l) | none=>D6) else D6
 | _::_=>D6
def sH:List Nat->Nat
 | []=>0
 | a::r=>a+18446744073709551616*sH r
def BA:List Nat->Bool
 | []=>false
 | [a]=> !yo a 0
 | _::r=>BA r
def L4:List AV->Option AV
 | [.agg [.int .i64 s,.ah]]=>bif Bw s then D5 (.str (bc s)) else D6
 | [.agg [.int .i64 s,.aq _ n cs]]=>
  match r5 cs with
  | some l=>
   bif yo l.length n&&(yz n 4000000000&&(BA l&&yz 9223372036854775808 (sH l))) then
    match s with
    | .ofNat 1=>D5 (.str (aC (sH l)))
    | .negSucc 0=>D5 (.str (45::aC (sH l)))
    | _=>D6
   else D6
  | none=>D6
 | _=>D6
def Xt:∀{l:List Nat},lo (2^64) l->r5 (l.map uc)=D5 l
 | [],_=>rfl
 | a::l,h=>by
  have h1:=h a (by simp);have h2:=Xt (l:=l) (fun x hx=>h x (by simp[hx]));show (bif yF a (2^64) then (match r5 (l.map uc) with | some l=>D5 (a::l) | none=>D6) else D6)=_
  rw[mZ h1,h2];rfl
def Rc:∀l:List Nat,sH l=bv (2^64) l
 | []=>rfl
 | a::l=>by simp only[sH,bv,Rc l]
def Zf:∀{l:List Nat},l≠[]->gj l->BA l=ycG
 | [],h,_=>absurd rfl h
 | [a],_,h=>by
  have:a≠0:=fun e=>by
   subst e;have h:dG [0]=[0]:=h;simp[dG] at h
  simp[BA,iR this]
 | a::b::r,_,h=>by
  have h1:gj (b::r):=by
   have h:dG (a::b::r)=a::b::r:=h;rw[dG] at h
   grind
  have:=Zf (l:=b::r) (by simp) h1
  simpa[BA] using this
structure Tx(P:aE)(L:Lib):Prop extends Fr' P L where
 FO:L.pure 99=D5 L4
 aAA:L.pure 175=D5 Mi
 adR:L.pure 152=D5 K3
 adS:L.pure 153=D5 KP
 TG:L.pure 154=D5 IE
 adT:L.pure 109=D5 Ng
 qV:Has P L 155 Dp
 aAB:Has P L 172 ac1
 aAC:Has P L 151 acZ
 aAD:Has P L 107 acR
 Vz:Has P L 46 OK
 adU:Has P L 110 Nj
 O7:Has P L 62 OL
def m99(h:Tx P L){v:AV}{z:Int}{K:Nat}(hv:cp v z)(hz:Bd K z)(hK:K<=4000000000):af P L 99 [v] (.str (bc z)):=by
 obtain⟨s,w,rfl,hn⟩:=hv;unfold af;rw[lX h.FO];rcases hn with ⟨rfl,rfl,h1,h2⟩ | ⟨e,l,rfl,g,n,hb,hs,h1⟩
 .show (bif Bw s then D5 (AV.str (bc s)) else D6)=_
  have:Bw s=ycG:=by
   cases s with
   | ofNat k=>exact mZ (by have:(Int.ofNat k)=(k:Int):=rfl;lia)
   | negSucc k=>exact mZ (by lia)
  grind
 .have kA:l≠[]:=fun e=>by subst e;simp[bv] at hb;lia
  have za:l.length<=4000000000:=y9 (pP n hb (yE hz (Bk K))) hK
  show (match r5 (l.map uc) with
   | some l'=>bif yo l'.length l.length&&(yz l.length 4000000000&&(BA l'&&yz 9223372036854775808 (sH l'))) then (match s with | .ofNat 1=>D5 (AV.str (aC (sH l'))) | .negSucc 0=>D5 (.str (45::aC (sH l'))) | _=>D6) else D6
   | none=>D6)=_
  rw[Xt g];simp only[Nat.beq_refl,yt za,Zf kA n,Rc,hb,yt h1,wx,yr];by_cases h0:z<0
  .rw [yN h0] at hs;subst hs;rw[rR h0];rfl
  .rw [yx h0] at hs;subst hs;obtain⟨m,rfl⟩:∃m:Nat,z=m:=⟨z.toNat,by lia⟩;rfl
def RT(r:Rat):List Nat:=bc r.num++(if r.den=1 then [] else 47::aC r.den)
def Hl{z:Int}{k:Nat}(h:Bd k z):(bc z).length<=k+1:=by
 have h1:∀m:Nat,m<2^k->(aC m).length<=max k 1:=fun m hm=>by
  cases k with
  | zero=>
       have:m=0:=by simpa using hm
       subst this;decide
  | succ k=>
   rw[Nat.max_eq_left (by lia)];exact zC (k:=k) (yE hm (tX (by decide) _))
 by_cases h0:z<0
 .rw [rR h0];unfold Bd at h
  grind
 .obtain ⟨m,rfl⟩:∃m:Nat,z=m:=⟨z.toNat,by lia⟩
  have:=h1 m (by unfold Bd at h;simpa using h)
  rw[A5];lia
def m46(h:Tx P L){v:AV}{a:Rat}{K:Nat}(hv:dJ v a)(ka:Hq K a)(hK:K<=4000000000):af P L 46 [v] (.str (RT a)):=by
 have i1:=Vy h.toFr' hv;obtain⟨s1,w1,s2,w2,rfl,h1,h2⟩:=hv;have⟨l1,u1⟩:=h1.aR;have⟨l2,u2⟩:=h2.aR;have e1:=m99 h (v:=.agg [aa s1,w1]) ⟨s1,w1,rfl,h1⟩ ka.1 hK;have e2:=m99 h (v:=.agg [aa s2,w2]) ⟨s2,w2,rfl,h2⟩ ka.2 hK;have b1:=Hl ka.1;have b2:=Hl ka.2;rw[A5] at e2 b2;unfold af RT;rw[aH h.Vz];by_cases hd:a.den=1
 .rw [yN hd,List.append_nil];rw[hd] at i1;simp only[go_sem,ya,yc,OK,aU,u1.pu,u1.ak,u1.one,u2.pu,u2.ak,u2.one,iX,cr,i1,a6,yd,zY,e1]
 .rw [yx hd];rw[yW hd] at i1;have hc:bc a.num++47::aC a.den=(bc a.num++[47])++aC a.den:=by simp
  rw[hc]
  simp only[go_sem,ya,yc,OK,aU,u1.pu,u1.ak,u1.one,u2.pu,u2.ak,u2.one,iX,cr,i1,a6,yd,zY,Dd,e1,e2,fQ (a:=bc a.num) (b:=[47]) (by simp;lia),fQ (a:=bc a.num++[47]) (b:=aC a.den) (by simp;lia)]
def avU{n:Nat}(h:n<9223372036854775808):binOp .and (.int .i64 (n:Int)) (.int .i64 1)=D5 (.int .i64 ((n%2:Nat):Int)):=by
 show D5 (AV.int .i64 (IntKind.wrap .i64 ((we 64 (n:Int)&&&we 64 1).toNat:Int)))=_
 rw[show we 64 (n:Int)=tg 64 n from BitVec.ofInt_natCast 64 n,show we 64 1=tg 64 1 from rfl];rw[BitVec.toNat_and,vH,vH,show (1%2^64:Nat)=2^1-1 from rfl,Nat.and_two_pow_sub_one_eq_mod,wrapN (by lia)]
 grind
def avV(n:Nat):binOp .shr (.int .i64 (n:Int)) (.int .u64 1)=D5 (.int .i64 ((n/2:Nat):Int)):=by
 show D5 (AV.int .i64 ((n:Int).fdiv (2^1)))=_
 grind
def Bd.pow{k:Nat}{z:Int}(h:Bd k z):∀e,Bd (k*e+1) (z^e)
 | 0=>by rw[yaB,xv];unfold Bd;decide
 | e+1=>by
  have ih:=Bd.pow h e;rw[Int.pow_succ];exact (ih.mul h).mono (by rw[xz,yk];lia)
def arE(h:Nu P L)(NZ:True){z:Int}{K k0:Nat}(hz:Bd K z)(hK:K*k0+1<=30000000000){o1 o2:AV}:
  cP P L [1,2,4,5] CP (fun m st=>∃(k i e:Nat) (s1 s2:Int) (w1 w2:AV),st=⟨[(1,aa k),(2,.ptr 0 0),(4,.ptr 1 0),(5,.ptr 2 0)],[(2,.cells ycG ycG ycG 2 [aa s2,w2]),(1,.cells ycG ycG ycG 2 [o1,o2]),(0,.cells ycG ycG ycG 2 [aa s1,w1])],3,0⟩/\cZ s1 w1 (z^i)/\cZ s2 w2 (z^e)/\e+i*k=k0/\(0<k->i<=k0)/\k<9223372036854775808/\k=m) (fun ex st'=>∃tm s2 w2 c0,st'=⟨tm,[(2,.cells ycG ycG ycG 2 [aa s2,w2]),(1,.cells ycG ycG ycG 2 [o1,o2]),(0,c0)],3,0⟩/\ex=.exit 0/\aj tm 4=.ptr 1 0/\aj tm 5=.ptr 2 0/\cZ s2 w2 (z^k0)):=by
 apply cT;rintro m st ⟨k,i,e,s1,s2,w1,w2,rfl,h1,h2,hk,hi,hkb,rfl⟩;have⟨l1,u1⟩:=h1.aR;have⟨l2,u2⟩:=h2.aR;by_cases BY:k=0
 .right
  subst BY;rw[xv,yS] at hk;subst hk;simp only[go_sem,CP,show ¬(0:Int)<((0:Nat):Int) by lia];exact⟨_,_,rfl,by simp,_,s2,w2,_,rfl,rfl,rfl,rfl,h2⟩
 .left
  have cX:=hi (by lia);have he:e<=k0:=by lia
  have hik:i*1<=i*k:=yR i (by lia);have b1:Bd (K*k0+1) (z^i):=(hz.pow i).mono (by have:=yR K cX;lia)
  have b2:Bd (K*k0+1) (z^e):=(hz.pow e).mono (by have:=yR K he;lia)
  have n1:cp (.agg [aa s1,w1]) (z^i):=⟨s1,w1,rfl,h1⟩;have n2:cp (.agg [aa s2,w2]) (z^e):=⟨s2,w2,rfl,h2⟩;have⟨p,e1,hp⟩:=sF h n2 n1 b2 b1 (by lia);have⟨q,e2,hq⟩:=sF h n1 n1 b1 b1 (by lia);rw[<-Int.pow_add] at hp hq;obtain⟨s3,w3,rfl,h3⟩:=hp;obtain⟨s4,w4,rfl,h4⟩:=hq;have⟨l3,u3⟩:=h3.aR;have⟨l4,u4⟩:=h4.aR;have ej:=xK k 2;have Kw:=avU (n:=k) hkb;have VA:=avV k;have aAi:(i+i)*(k/2)=i*(2*(k/2)):=by rw[<-Nat.two_mul,Nat.mul_comm 2 i,Nat.mul_assoc]
  by_cases avW:k%2=1
  .rw [avW] at Kw ej;have rb:i*k=i*(2*(k/2))+i:=by
    conv=>lhs;rw[<-ej,xz,yk]
   by_cases ju:1<k
   .simp only [go_sem,ya,CP,show (0:Int)<(k:Int) by lia,Kw,show ((1:Nat):Int)=1 from rfl,bS,cr,u1.ak,u2.ak,e1,bM,bS,yh,dH u3,dH u4,show (1:Int)<(k:Int) by lia,e2,VA]
    exact⟨_,k/2,rfl,by lia,k/2,i+i,e+i,s4,s3,w4,w3,by simp only[go_sem,ya,yc,aA],h4,h3,by lia,fun h0=>by have:=yR (i+i) h0;lia,by lia,rfl⟩
   .have fE:e+i+i*(k/2)=k0:=by
     have h1:k/2=0:=by lia
     rw[h1] at rb ⊢
     lia
    simp only[go_sem,ya,CP,show (0:Int)<(k:Int) by lia,Kw,show ((1:Nat):Int)=1 from rfl,bS,cr,u1.ak,u2.ak,e1,bM,bS,yh,dH u3,show ¬(1:Int)<(k:Int) by lia,VA];exact⟨_,k/2,rfl,by lia,k/2,i,e+i,s1,s3,w1,w3,by simp only[go_sem,ya,yc,aA],h1,h3,fE,fun h0=>by lia,by lia,rfl⟩
  .have zc:k%2=0:=by lia
   rw[zc] at Kw ej;have rb:i*k=i*(2*(k/2)):=by
    conv=>lhs;rw[<-ej,yS]
   simp only[go_sem,ya,CP,show (0:Int)<(k:Int) by lia,Kw,show ((0:Nat):Int)=0 from rfl,yan,bS,cr,u1.ak,bM,bS,yh,dH u4,show (1:Int)<(k:Int) by lia,e2,VA]
   exact⟨_,k/2,rfl,by lia,k/2,i+i,e,s4,s2,w4,w2,by simp only[go_sem,ya,yc,aA],h4,h2,by lia,fun h0=>by have:=yR (i+i) h0;lia,by lia,rfl⟩
def TH(h:Nu P L)(qV:Has P L 155 Dp){v:AV}{z:Int}{K k:Nat}(hv:cp v z)(hz:Bd K z)(hK:K*k+1<=30000000000)(hk:k<9223372036854775808):∃r,af P L 155 [v,aa k] r/\cp r (z^k):=by
 have⟨o1,o2⟩:=Ff h (z:=1) (by decide) (by decide);obtain⟨s1,w1,rfl,h1⟩:=hv;have⟨l1,u1⟩:=h1.aR;have un:=rS;have jc:∃s w,af P L 155 [.agg [aa s1,w1],aa k] (.agg [aa s,w])/\cZ s w (z^k):=by
  unfold af;rw[aH qV];simp only[go_sem,ya,yc,Dp,aU,u1.pu,u1.one,o1,bM,dH un];generalize hq:D P L (.loop _ CP) _=q;obtain⟨ex,st,rfl,tm,s5,w5,c1,rfl,rfl,t4,t5,h5⟩:=bF hq (arE (P:=P) (L:=L) h trivial hz (k0:=k) hK (o1:=.int .i64 0) (o2:=.ah) k) ⟨k,1,0,s1,1,w1,.ah,by simp only[go_sem,ya,yc,aA],by rw[Int.pow_one];exact h1,.inl ⟨rfl,(yaB z).symm,(by rw[yaB];decide)⟩,by lia,fun h0=>h0,hk,rfl⟩
  have⟨l5,u5⟩:=h5.aR;refine⟨s5,w5,?_,h5⟩;simp only[go_sem,ya,yc,aA,t4,t5,dX,dZ,bS,yh,nc u5,dH u5]
 have⟨s,w,e,hn⟩:=jc;exact⟨_,e,s,w,rfl,hn⟩
def LF:∀(l m:List Nat) (a:Nat),cG (l++m) a=(cG l a).bind (fun v=>cG m v)
 | [],m,a=>rfl
 | b::l,m,a=>by
  simp only[List.cons_append,cG]
  cases (yz 48 b&&yz b 57) with
  | true=>exact LF l m _
  | false=>rfl
def alN:∀{l:List Nat} {a v:Nat},cG l 0=D5 v->cG l a=D5 (a*10^l.length+v):=by
 intro l
 suffices h:∀{l:List Nat} {a b v:Nat},cG l b=D5 v->b*10^l.length<=v/\cG l (a+b)=D5 (a*10^l.length+v) by
  intro a v hv
  have:=(h (a:=a) hv).2
  grind
 intro l
 induction l with
 | nil=>intro a b v h;simp[cG] at h ⊢;lia
 | cons c l ih=>
  intro a b v h;simp only[cG] at h ⊢
  cases hb:(yz 48 c&&yz c 57) with
  | false=>rw[hb] at h;cases h
  | true=>
   rw[hb] at h;have⟨h1,h2⟩:=ih (a:=10*a) h;simp only[yH,y8]
   grind
def Re:∀{l:List Nat} {v:Nat},cG l 0=D5 v->v<10^l.length:=by
 suffices h:∀{l:List Nat} {b v:Nat},cG l b=D5 v->v<(b+1)*10^l.length by
  grind
 intro l
 induction l with
 | nil=>intro b v h;simp[cG] at h ⊢;lia
 | cons c l ih=>
  intro b v h;simp only[cG] at h
  cases hb:(yz 48 c&&yz c 57) with
  | false=>rw[hb] at h;cases h
  | true=>
   simp only[Bool.and_eq_true] at hb;have hc:=Nat.le_of_ble_eq_true hb.2;have h2:=Nat.mul_le_mul_right (10^l.length) (show 10*b+(c-48)+1<=10*(b+1) by lia)
   grind
def an3(TG:L.pure 154=D5 IE){f:bZ}{s:List Nat}{v:Nat}(h0:0<s.length)(h1:s.length<=18)(hv:cG s 0=D5 v):bQ P L f 154 [.str s]=D5 (.ay [.int .i64 v,.undef]):=by
 rw[lX TG];show (bif yF 0 s.length&&yz s.length 18 then (match cG s 0 with | some n=>D5 (AV.ay [.int .i64 n,.undef]) | none=>D6) else D6)=_
 rw[mZ h0,yt h1,hv];rfl
def Yi:∀j:Nat,gI [48] j++[48]=[48]++gI [48] j
 | 0=>rfl
 | j+1=>by
  show ([48]++gI [48] j)++[48]=[48]++([48]++gI [48] j)
  rw[xr,Yi j]
def Ek:∀j:Nat,(gI [48] j).length=j
 | 0=>rfl
 | j+1=>by show ([48]++gI [48] j).length=_;rw[yC,Ek j];simp;lia
def ajJ:∀(k n:Nat),n<10^k->0<k->iE k n=gI [48] (k-(aC n).length)++aC n:=by
 intro k
 induction k with
 | zero=>intro n _ h;lia
 | succ k ih=>
  intro n hn _;rw[iE];by_cases gR:n<10
  .rw [rL gR,yK gR]
   cases k with
   | zero=>rfl
   | succ k=>
    rw[ih (n/10) (by rw[xH gR];exact ybv (by decide)) (by lia),xH gR]
    rw[show aC 0=[48] by decide];rw[Yi];rfl
  .have hk:0<k:=by
    grind
   rw[ih (n/10) (by rw[y8] at hn;lia) hk,rQ gR,xr,yC]
   grind
def ajK{m d r:Nat}(hd:d=m/1000000000000000000)(hr:r=m%1000000000000000000):(0<d->aC m=aC d++(gI [48] (18-(aC r).length)++aC r))/\(d=0->aC m=aC r):=by
 have Vt:r<10^18:=by lia
 constructor
 .intro h0;rw[<-ajJ 18 r Vt (by decide),<-Lz 18 d r h0 Vt]
  grind
 .grind
def arG{f:bZ}(h:L.pure 138=D5 AQ){n:Nat}(hn:n<18446744073709551616):bQ P L f 138 [uc n,aa 10]=D5 (.str (aC n)):=by
 rw[lX h];show (bif yF n 18446744073709551616 then D5 (AV.str (aC n)) else D6)=_
 rw[mZ hn];rfl
def RP{f:bZ}(h:L.pure 139=D5 Ba){n:Nat}(hn:n<=100):bQ P L f 139 [.str [48],aa (n:Nat)]=D5 (.str (gI [48] n)):=by
 rw[lX h];show (bif yz n 1099511627776&&yz (1*n) 1099511627776 then D5 (AV.str (gI [48] n)) else D6)=_
 rw[yt (by lia),yt (by lia)];rfl
def arH(h:Wd P L)(Dx:L.pure 138=D5 AQ)(Al:L.pure 139=D5 Ba){neg:Bool}{M K:Nat}(AK:0<M)(hK:K<=4000000000)(hlen:(aC M).length<=300000000000):
  cP P L [3,4,5,6] pG (fun k s=>∃(m:Nat) (w:AV) (ps:List (List Nat)) (fl:Bool),m=k/\WN w m/\m<18446744073709551616^K/\aC M=(if m=0 then [] else aC m)++ps.reverse.flatten/\((ps=[]->m=M)/\18*ps.length<=(aC M).length+18)/\(m≠0->18*ps.length+(aC m).length=(aC M).length)/\
    ((ps=[]/\s=⟨[(3,.bool neg),(4,w),(5,.av 0 0 1),(6,.ah)],[(0,.cells fl ycG ycG 1 [uc 1000000000000000000])],1,0⟩)\/
    (ps≠[]/\s=⟨[(3,.bool neg),(4,w),(5,.av 0 0 1),(6,.av 1 0 ps.length)],[(1,.cells ycG ycG false 1 (ps.map .str)),(0,.cells fl ycG ycG 1 [uc 1000000000000000000])],2,0⟩))) (fun ex s'=>∃tm ps fl,ex=.exit 0/\ps≠[]/\ps.length<=300000000000/\aC M=ps.reverse.flatten/\aj tm 3=.bool neg/\aj tm 6=.av 1 0 ps.length/\s'=⟨tm,[(1,.cells ycG ycG false 1 (ps.map .str)),(0,.cells fl ycG ycG 1 [uc 1000000000000000000])],2,0⟩):=by
 apply cT;rintro k s ⟨m,w,ps,fl,rfl,hw,hmK,AL,adV,mC,hs⟩;have⟨lw,uw,gw,nw,vw⟩:=hw;by_cases hm:m=0
 .right
  have kA:lw=[]:=List.eq_nil_of_length_eq_zero (Nat.le_zero.1 (pP (K:=0) nw vw (by rw[hm];decide)))
  subst kA;rw[yN hm,yD] at AL;have dV:ps≠[]:=fun e=>by have:=adV.1 e;lia
  have O8:ps.length<=300000000000:=by have:=adV.2;lia
  rcases hs with ⟨h0,_⟩ | ⟨_,rfl⟩
  .exact absurd h0 dV
  .simp only [go_sem,ya,pG,uw.len,yM,show ¬(0:Int)<((0:Nat):Int) by lia];exact⟨_,_,rfl,by simp,_,ps,fl,rfl,dV,O8,AL,rfl,rfl,rfl⟩
 .left
  have hw:WN w m:=⟨lw,uw,gw,nw,vw⟩;have hB:WN (.aq ycG 1 [uc 1000000000000000000]) 1000000000000000000:=⟨[1000000000000000000],mP ycG [1000000000000000000],EN.2 (by decide),by decide,by simp[bv]⟩;have⟨q,r,e1,hq,hr⟩:=adH h hw hB (K:=K+1) (by decide) (yE hmK (xc (by decide) (by lia))) (by rw[y8];have:=ybv (n:=K) (show 0<18446744073709551616 by decide);lia) (by lia)
  have⟨t1,t2⟩:=ajK (m:=m) rfl rfl;have ej:=xK m 1000000000000000000;have hrB:=xp m (show 0<1000000000000000000 by decide);obtain⟨d,hd⟩:∃d,d=m/1000000000000000000:=⟨_,rfl⟩;obtain⟨x,hx⟩:∃x,x=m%1000000000000000000:=⟨_,rfl⟩;rw[<-hd] at hq t1 t2 ej;rw[<-hx] at hr t1 t2 ej hrB;have⟨lq,uq,gq,nq,vq⟩:=hq;have⟨lr,ur,gr,nr,vr⟩:=hr;have Uq:(aC x).length<=18:=zC (k:=17) (by lia);have hxp:=A6 x;have FH:(lr=[]/\x=0)\/lr=[x]:=by
   have h1:lr.length<=1:=pP (K:=1) nr vr (by rw[Nat.pow_one];lia)
   cases lr with
   | nil=>exact .inl ⟨rfl,by rw[<-vr];rfl⟩
   | cons a l=>
    cases l with
    | nil=>rw[Bj] at vr;exact .inr (by rw[vr])
    | cons b l=>simp at h1
  have hlq:(lq=[]/\d=0)\/(0<lq.length/\0<d):=by
   cases lq with
   | nil=>exact .inl ⟨rfl,by rw[<-vq];rfl⟩
   | cons a l=>
    refine .inr ⟨by simp,?_⟩;rcases Nat.eq_zero_or_pos d with h0 | h0
    .have:=pP (K:=0) nq vq (by rw[h0];decide)
     simp at this
    .exact h0
  unfold af at e1;have Ci:(0:Int)<(lw.length:Int):=by
   have:lw≠[]:=fun e=>by subst e;simp[bv] at vw;lia
   have:=List.length_pos_iff.2 this
   lia
  have aAE:=mC hm;have hmp:=A6 m;have new:∀t:List Nat,aC m=(if d=0 then [] else aC d)++t->(d≠0->t.length=18)->
    aC M=(if d=0 then [] else aC d)++(ps++[t]).reverse.flatten/\((ps++[t]=[]->d=M)/\18*(ps++[t]).length<=(aC M).length+18)/\(d≠0->18*(ps++[t]).length+(aC d).length=(aC M).length):=fun t h1 h2=>by
   rw[yx hm,h1] at AL;refine⟨by rw[AL];simp,⟨by simp,by simp only[yC,yH,yM];lia⟩,fun h0=>?_⟩
   have h3:=congrArg List.length h1;rw[yx h0,yC,h2 h0] at h3;simp only[yC,yH,yM]
   lia
  have BN:d<m:=by lia
  have Cj:WN q d:=⟨lq,uq,gq,nq,vq⟩;have oH:lr=[x]->jn 1 0 r=D5 (.bJ (.int .u64 x::([]:List AV))):=fun e=>by
   subst e
   have:=ur.bD (i:=0) (by simp)
   simpa using this
  have f1:=arG (P:=P) (f:=D P L) Dx (n:=x) (by lia);have f2:=RP (P:=P) (f:=D P L) Al (n:=18-(aC x).length) (by lia);have TI:(18:Int)-((aC x).length:Int)=((18-(aC x).length:Nat):Int):=by lia
  have aAF:18*ps.length<=300000000000:=by lia
  have zl:(gI [48] (18-(aC x).length)++aC x).length=18:=by rw[yC,Ek];lia
  obtain⟨z,hz⟩:∃z,z=aC x:=⟨_,rfl⟩;have O9:x=0->z=[48]:=fun e=>by rw[hz,e];decide
  rw[<-hz] at f1 f2 TI Uq hxp zl t1 t2;cases fl
  all_goals
   rcases hlq with ⟨rfl,gU⟩ | ⟨Pa,gU⟩
   .have ⟨n1,n2,n3⟩:=new z (by rw[yN gU,yD];exact t2 gU) (fun h=>absurd gU h)
    rcases FH with ⟨rfl,AF⟩ | rfl
    .have lR:=O9 AF;clear hz;subst lR;rcases hs with ⟨fa,rfl⟩ | ⟨fa,rfl⟩
     .subst fa;simp only[go_sem,ya,yc,xA,yB,yp,yk,pG,uw.len,uw.ak,uq.len,uq.bX,ur.len,ur.bX,Ci,e1,yM,yM,show ¬(0:Int)<((0:Nat):Int) by lia,jl];refine⟨_,d,rfl,BN,d,q,[]++[[48]],false,rfl,Cj,by lia,n1,n2,n3,.inr ⟨by simp,?_⟩⟩;simp only[go_sem,ya,yc,aA,aF uq.pu]<;>rfl
     .simp only [go_sem,ya,yc,yB,yp,yk,pG,uw.len,uw.ak,uq.len,uq.bX,ur.len,ur.bX,Ci,e1,yM,yM,show ¬(0:Int)<((0:Nat):Int) by lia]
      rw[il (ex:=false) (pu:=ycG) (cs:=ps.map .str) rfl (by simp) (by lia) (by lia) (by decide) rfl];simp only[go_sem,ya,yc];refine⟨_,d,rfl,BN,d,q,ps++[[48]],false,rfl,Cj,by lia,n1,n2,n3,.inr ⟨by simp,?_⟩⟩;rw[xk,yC];simp only[go_sem,ya,yc,aA,aF uq.pu]<;>rfl
    .rcases hs with ⟨fa,rfl⟩ | ⟨fa,rfl⟩
     .subst fa;simp only[go_sem,ya,yc,xA,yB,yp,yk,pG,uw.len,uw.ak,uq.len,uq.bX,ur.len,ur.bX,Ci,e1,yH,yM,yd,show (0:Int)<((1:Nat):Int) by lia,oH rfl,f1,yM,show ¬(0:Int)<((0:Nat):Int) by lia,jl];refine⟨_,d,rfl,BN,d,q,[]++[z],false,rfl,Cj,by lia,n1,n2,n3,.inr ⟨by simp,?_⟩⟩;simp only[go_sem,ya,yc,aA,aF uq.pu]<;>rfl
     .simp only [go_sem,ya,yc,yB,yp,yk,pG,uw.len,uw.ak,uq.len,uq.bX,ur.len,ur.bX,Ci,e1,yH,yM,yd,show (0:Int)<((1:Nat):Int) by lia,oH rfl,f1,yM,show ¬(0:Int)<((0:Nat):Int) by lia]
      rw[il (ex:=false) (pu:=ycG) (cs:=ps.map .str) rfl (by simp) (by lia) (by lia) (by decide) rfl];simp only[go_sem,ya,yc];refine⟨_,d,rfl,BN,d,q,ps++[z],false,rfl,Cj,by lia,n1,n2,n3,.inr ⟨by simp,?_⟩⟩;rw[xk,yC];simp only[go_sem,ya,yc,aA,aF uq.pu]<;>rfl
   .have ⟨n1,n2,n3⟩:=new (gI [48] (18-z.length)++z) (by rw[yx (by lia)];exact t1 gU) (fun _=>zl)
    rcases FH with ⟨rfl,AF⟩ | rfl
    .have lR:=O9 AF;clear hz;subst lR;rcases hs with ⟨fa,rfl⟩ | ⟨fa,rfl⟩
     .subst fa
      simp only[go_sem,ya,yc,xA,yB,yp,yk,pG,uw.len,uw.ak,uq.len,uq.bX,ur.len,ur.bX,Ci,e1,yM,show ¬(0:Int)<((0:Nat):Int) by lia,show (0:Int)<(lq.length:Int) by lia,show (18:Int)-((1:Nat):Int)=((17:Nat):Int) from rfl,wrapN (n:=17) (by lia),RP (P:=P) (f:=D P L) Al (n:=17) (by lia),fQ (a:=gI [48] 17) (b:=[48]) (by rw[Ek];decide),jl]
      refine⟨_,d,rfl,BN,d,q,[]++[gI [48] 17++[48]],false,rfl,Cj,by lia,n1,n2,n3,.inr ⟨by simp,?_⟩⟩;simp only[go_sem,ya,yc,aA,aF uq.pu]<;>rfl
     .simp only [go_sem,ya,yc,yB,yp,yk,pG,uw.len,uw.ak,uq.len,uq.bX,ur.len,ur.bX,Ci,e1,yM,show ¬(0:Int)<((0:Nat):Int) by lia,show (0:Int)<(lq.length:Int) by lia,show (18:Int)-((1:Nat):Int)=((17:Nat):Int) from rfl,wrapN (n:=17) (by lia),RP (P:=P) (f:=D P L) Al (n:=17) (by lia),fQ (a:=gI [48] 17) (b:=[48]) (by rw[Ek];decide)]
      rw[il (ex:=false) (pu:=ycG) (cs:=ps.map .str) rfl (by simp) (by lia) (by lia) (by decide) rfl];simp only[go_sem,ya,yc];refine⟨_,d,rfl,BN,d,q,ps++[gI [48] 17++[48]],false,rfl,Cj,by lia,n1,n2,n3,.inr ⟨by simp,?_⟩⟩;rw[xk,yC];simp only[go_sem,ya,yc,aA,aF uq.pu]<;>rfl
    .rcases hs with ⟨fa,rfl⟩ | ⟨fa,rfl⟩
     .subst fa
      simp only[go_sem,ya,yc,xA,yB,yp,yk,pG,uw.len,uw.ak,uq.len,uq.bX,ur.len,ur.bX,Ci,e1,yH,yM,yd,show (0:Int)<((1:Nat):Int) by lia,oH rfl,f1,show (0:Int)<(lq.length:Int) by lia,TI,wrapN (n:=18-z.length) (by lia),f2,fQ (a:=gI [48] (18-z.length)) (b:=z) (by rw[Ek];lia),jl]
      refine⟨_,d,rfl,BN,d,q,[]++[gI [48] (18-z.length)++z],false,rfl,Cj,by lia,n1,n2,n3,.inr ⟨by simp,?_⟩⟩;simp only[go_sem,ya,yc,aA,aF uq.pu]<;>rfl
     .simp only [go_sem,ya,yc,yB,yp,yk,pG,uw.len,uw.ak,uq.len,uq.bX,ur.len,ur.bX,Ci,e1,yH,yM,yd,show (0:Int)<((1:Nat):Int) by lia,oH rfl,f1,show (0:Int)<(lq.length:Int) by lia,TI,wrapN (n:=18-z.length) (by lia),f2,fQ (a:=gI [48] (18-z.length)) (b:=z) (by rw[Ek];lia)]
      rw[il (ex:=false) (pu:=ycG) (cs:=ps.map .str) rfl (by simp) (by lia) (by lia) (by decide) rfl];simp only[go_sem,ya,yc];refine⟨_,d,rfl,BN,d,q,ps++[gI [48] (18-z.length)++z],false,rfl,Cj,by lia,n1,n2,n3,.inr ⟨by simp,?_⟩⟩;rw[xk,yC];simp only[go_sem,ya,yc,aA,aF uq.pu]<;>rfl
def Jx:Nat->VC->VC
 | 0,c=>cD c
 | n+1,c=>.seq (cD c) (Jx n (a8 c))
def zZ:Nat->VC->VC
 | 0,c=>a8 c
 | n+1,c=>zZ n (a8 c)
def aij(h:Nu P L)(Dx:L.pure 138=D5 AQ)(Al:L.pure 139=D5 Ba){s z:Int}{e:Bool}{l:List Nat}(hn:cZ s (.aq e l.length (l.map uc)) z){K:Nat}(lR:0<z.natAbs)(Pb:z.natAbs<18446744073709551616^K)(hK:K<=4000000000)(hlen:(aC z.natAbs).length<=300000000000):
  ∃ps:List (List Nat),ps≠[]/\ps.length<=300000000000/\aC z.natAbs=ps.reverse.flatten/\D P L (Jx 5 DQ.body) ⟨[(0,.agg [aa s,.aq e l.length (l.map uc)])],[],0,0⟩=D5 (.normal,⟨[(3,.bool (decide (z<0))),(6,.av 0 0 ps.length)],[(0,.cells ycG ycG false 1 (ps.map .str))],1,0⟩):=by
 have⟨r,e1,hr⟩:=BM h hn;have bq:=hr;have⟨lr,ur,gr,nr,vr⟩:=hr;simp only[go_sem,ya,yc,yp,yk,DQ,Jx,cD,a8,aU,a6,yd,dc,nV,dO,bS,cr,e1];generalize mH:D P L (.loop _ pG) _=qq;obtain⟨ex,st,rfl,tm,ps,fl,rfl,dV,O8,AL,t3,t6,rfl⟩:=bF mH (arH (P:=P) (L:=L) h.toWd Dx Al (neg:=decide (z<0)) (M:=z.natAbs) (K:=K) lR hK hlen z.natAbs) ⟨z.natAbs,bX r,[],ycG,rfl,bq,Pb,by rw[yx (by lia)];simp,⟨fun _=>rfl,by simp⟩,fun _=>by simp,.inl ⟨rfl,by
  simp only[go_sem,ya,yc,aA,aF ur.pu]<;>rfl⟩⟩
 refine⟨ps,dV,O8,AL,?_⟩;simp only[go_sem,yc,aA,t3,t6]
section
open Go
section
variable {ap:List AV}{s:St}
variable {O:bk}
def z6:Nat->wS->wS
 | 0,.seq _ b=>b
 | n+1,.seq _ b=>z6 n b
 | _,c=>c
def N4:Nat->wS->Prop
 | 0,.seq _ _=>True
 | n+1,.seq _ b=>N4 n b
 | _,_=>False
def Zg(hO:gC O){h:Nat}{c:wS}{l k:Nat}{ex:Ex}{s':St}(hv:D O.prog O.aG (comp O.P (O.hint h) c l k).1 s=D5 (ex,s')):Bu O h c s ex s':=by
 have⟨n,hn⟩:=Tf hv
 cases n with
 | zero=>rw[HC] at hn;cases hn
 | succ n=>
  exact ZW hO n (fun k _=>WG hO k) h c l k n (yq _) s ex s' hn
def aaW(hO:gC O){h:Nat}{ro:Option Nat}{lo:Nat}{Q:Exit->Act->yi->Prop}:∀(n:Nat) (c:wS) (l k:Nat),N4 n c->∀(s s1:St),D O.prog O.aG (Jx n (comp O.P (O.hint h) c l k).1) s=D5 (.normal,s1)->
  ∀(m:Mp) (S:Nat->Prop) (w:yi) (a:Act),zJ ro w->bN O m S w s.tm a.tmps->aP O m S w s.hp s.ct->s.base<=s.ct->(O.hint h).n<=a.tmps.size->O.w0.heap.size<=lo->lo<=w.heap.size->Marks lo S w a.defers->
  (∀a' w',eh O m S w s .normal s1 a.tmps.size lo .normal a' w'->(z6 n c).wpIn (WF ro) 0 O.P Q a' w')->c.wpIn (WF ro) 0 O.P Q a w
 | n,c,l,k,hc,s,s1,hv=>by
  intro m S w a cB ht hh hb hn aZ eN cd hQ
  cases c with
  | seq x y=>
   cases n with
   | zero=>
    refine wpIn_seq (wpIn_mono (Zg hO (show D O.prog O.aG (comp O.P (O.hint h) x l k).1 s=D5 (.normal,s1) from hv) ro lo m S w a cB ht hh hb hn aZ eN cd) ?_);rintro e a' w' hp;have he:e=.normal:=hp.1;subst he;exact hQ a' w' hp
   | succ n=>
    have eX:D O.prog O.aG (.seq (comp O.P (O.hint h) x l k).1 (Jx n (comp O.P (O.hint h) y (comp O.P (O.hint h) x l k).2.1 (comp O.P (O.hint h) x l k).2.2).1)) s=D5 (.normal,s1):=hv;rw[By] at eX
    cases hx:D O.prog O.aG (comp O.P (O.hint h) x l k).1 s with
    | none=>rw[hx] at eX;cases eX
    | some q=>
     have⟨ex,st⟩:=q;rw[hx] at eX
     cases ex with
     | ret=>exact absurd eX (by intro h;cases h)
     | exit id=>exact absurd eX (by intro h;cases h)
     | normal=>
      refine wpIn_seq (wpIn_mono (Zg hO hx ro lo m S w a cB ht hh hb hn aZ eN cd) ?_);rintro e a' w' ⟨rfl,m',S',k1,k2,k3,k4,k5,k6,k7⟩;refine aaW hO n y _ _ hc st s1 eX m' S' w' a' (Li k5 cB) k1 k2 (by lia) (by lia) aZ (y9 eN k5.size) k7 ?_;rintro a2 w2 ⟨_,m2,S2,g1,g2,g3,g4,g5,g6,g7⟩;exact hQ a2 w2 ⟨rfl,m2,S2,g1,g2,by lia,by lia,k5.trans (by rw[<-k3];exact g5),by lia,g7⟩
  | _=>cases n<;>exact hc.elim
def arI(hO:gC O){n:Nat}{F:az}(hF:O.prog n=D5 F){fn:yas}{c:wS}(kV:O.P.funcs[O.ab n]? =D5 fn)(jh:fn.body=D5 c){hp:Hp}{ct:Nat}(hc:(comp O.P (O.hint n) c 0 0).1=F.body->∀m S w a,bN O m S w (eL 0 ap) a.tmps->aP O m S w hp ct->(O.hint n).n<=a.tmps.size->a.tmps.size=max fn.ntmps ap.length->O.w0.heap.size<=w.heap.size->a.defers=[]->
   c.wpIn (WF D6) 0 O.P (eh O m S w ⟨eL 0 ap,hp,ct,ct⟩ .ret s a.tmps.size w.heap.size) a w){v:AV}(hr:ig s F.eA=D5 v):Bt O n hp ct ap v s.hp s.ct:=by
 intro m S w args hh dQ;have⟨fn',q1,q2,q3⟩:=hO.prog n F hF;rw[kV] at q1;cases q1;have⟨c',q4,q5,q6,q7⟩:=Pw q2;rw[jh] at q4;cases q4;refine .inl ⟨Ej kV (by rw[jh];rfl) q3,?_⟩
 have hlen:ap.length=args.size:=by have:=(fP _ _ dQ).symm;simpa using this
 have hw:=hc q5.symm m S w {tmps:=args++Array.replicate (fn.ntmps-args.size) undef,defers:=[]} (X2 _ dQ) hh (by simp;lia) (by simp;lia) hh.fk rfl
 refine callsIn_of_wp_marks (F:=yaY) kV jh trivial (wpIn_mono hw ?_);rintro e a' w' ⟨rfl,m',S',k1,k2,k3,k4,k5,k6,rs,k7,k8,k9⟩;show LeavesInM yaY 0 O.P fn a'.tmps (zx O m S w hp ct v s.hp s.ct) a'.defers .returning w'
 rw[k7];exact P3 q6 hr k4 rs w' k8 k9 hh.fk k2 k1 k5
def alO(hO:gC O){n:Nat}{F:az}(hF:O.prog n=D5 F){fn:yas}{c:wS}(kV:O.P.funcs[O.ab n]? =D5 fn)(jh:fn.body=D5 c)(hc:(comp O.P (O.hint n) c 0 0).1=F.body->∀m S w a,bN O m S w (eL 0 ap) a.tmps->aP O m S w [] 0->(O.hint n).n<=a.tmps.size->a.tmps.size=max fn.ntmps ap.length->O.w0.heap.size<=w.heap.size->a.defers=[]->
   c.wpIn (WF D6) 0 O.P (eh O m S w ⟨eL 0 ap,[],0,0⟩ .ret s a.tmps.size w.heap.size) a w){v r:AV}(hv:ig s F.eA=D5 v)(hr:result s.hp v=D5 r):dL O n ap r:=
 Po (arI hO hF kV jh hc hv) hr
end
end
section
open Go
def Xu{ab:Nat->Nat}{m:Mp}{S:Nat->Prop}{w:yi}{b:Nat}:∀{ps:List (List Nat)} {o:Nat},bL ab m S w (ps.map .str) b o->
  ∃ts:List ByteArray,(ts.map fun t=>t.data.toList.map xe)=ps/\∀i (h:i<ts.length),w.cell? ⟨b,o+i,D6⟩=D5 (.string ts[i])
 | [],o,_=>⟨[],rfl,fun i h=>absurd h (Nat.not_lt_zero i)⟩
 | p::ps,o,h=>by
  have⟨⟨u,h1,h2⟩,h3⟩:=h;obtain⟨t,rfl,ht⟩:=h2;have⟨ts,k1,k2⟩:=Xu h3;refine⟨t::ts,by rw[List.map_cons,ht,k1],fun i hi=>?_⟩
  cases i with
  | zero=>exact h1
  | succ i=>
   grind
def oe(ts:List ByteArray):List UInt8:=(ts.map fun t=>t.data.toList).flatten
def an4{ts:List ByteArray}{ps:List (List Nat)}(h:(ts.map fun t=>t.data.toList.map xe)=ps):(oe ts.reverse).map xe=ps.reverse.flatten:=by
 subst h;unfold oe;rw[List.map_flatten,ybJ,<-yak];rfl
def an5{ts:List ByteArray}{ps:List (List Nat)}(h:(ts.map fun t=>t.data.toList.map xe)=ps):(ts.map (·.size)).sum=ps.reverse.flatten.length:=by
 subst h;rw[List.length_flatten,yak,List.sum_reverse,ybJ]
 congr 1
 simp_all
def Rg(P:Program)(c:wS):Prop:=∀(Q:Exit->Act->yi->Prop) (a:Act) (w:yi) (neg:Bool) (ts:List ByteArray) (b o cc:Nat),a.tmps.size=69->a.tmps.getD 3 undef=.bool neg->a.tmps.getD 6 undef=.slice (D5 ⟨b,o,D6⟩) ts.length cc->
  (∀i (h:i<ts.length),w.cell? ⟨b,o+i,D6⟩=D5 (.string ts[i]))->(ts.map (·.size)).sum+1<=140737488355328->ts.length<=cc->ts.length<9223372036854775808->
  (∀a' w',Calm w w'->a'.tmps.size=69->a'.defers=a.defers->a'.tmps.getD 2 undef=.string ⟨((if neg then [45] else [])++oe ts.reverse).toArray⟩->Q .ret a' w')->
  (z6 5 c).wpIn Fence.wide 0 P Q a w
section
variable {O:bk}
def aik{n K:Nat}(h:n<18446744073709551616^K):(aC n).length<=20*K+1:=by
 refine zC (k:=20*K) (yE h ?_);have h1:(10:Nat)^(20*K)=(10^20)^K:=Nat.pow_mul ..;exact y9 (by rw[h1];exact tX (by decide) K) (xc (by decide) (Nat.le_succ _))
def alP(hO:gC O)(hN:Nu O.prog O.aG)(Dx:O.aG.pure 138=D5 AQ)(Al:O.aG.pure 139=D5 Ba)(FO:O.prog 99=D5 DQ){fn:yas}{c:wS}(kV:O.P.funcs[O.ab 99]? =D5 fn)(jh:fn.body=D5 c)(Oy:fn.ntmps=69)(TJ:N4 5 c)(ht:Rg O.P c){s z:Int}{e:Bool}{l:List Nat}(hn:cZ s (.aq e l.length (l.map uc)) z)(lR:0<z.natAbs)(hK:l.length<=4000000000)(Pb:z.natAbs<18446744073709551616^l.length):
  dL O 99 [.agg [aa s,.aq e l.length (l.map uc)]] (.str (bc z)):=by
 have hlen:=aik Pb;have⟨ps,dV,O8,AL,e1⟩:=aij (P:=O.prog) (L:=O.aG) hN Dx Al hn lR Pb hK (by lia)
 refine alO hO FO kV jh (s:=⟨[(2,.str (bc z))],[(0,.cells ycG ycG false 1 (ps.map .str))],1,0⟩) (v:=.str (bc z)) ?_ rfl rfl;intro at6 m S w a htr hh zb dR hgs DY;refine aaW hO 5 c 0 0 TJ _ _ (by rw[at6];exact e1) m S w a (fun l hl=>by cases hl) htr hh (yq _) zb hgs (yq _) ⟨[],by rw[DY];rfl,by simp,by simp⟩ ?_
 rintro a' w' ⟨_,m',S',k1,k2,k3,k4,k5,k6,k7⟩;have r3:=k1 3;have r6:=k1 6;have g3:aj [(3,AV.bool (decide (z<0))),(6,.av 0 0 ps.length)] 3=.bool (decide (z<0)):=rfl;have g6:aj [(3,AV.bool (decide (z<0))),(6,.av 0 0 ps.length)] 6=.av 0 0 ps.length:=rfl;rw[g3] at r3;rw[g6] at r6;simp only[ae] at r3 r6;have⟨p,cc,hm,r6,hcc,_⟩:=r6;have⟨p',arr,t,gP,_,_,_,_,_,Aq,_⟩:=k2.obj 0 _ p rfl hm;rw[hm] at gP;cases gP;have⟨ts,kR,C9⟩:=Xu Aq;have ox:ts.length=ps.length:=by rw[<-kR,List.length_map]
 have BO:=an5 kR;rw[<-AL] at BO;have TK:=an4 kR;rw[<-AL] at TK;refine ht _ a' w' (decide (z<0)) ts p.b p.o cc ?_ r3 (by rw[ox];exact r6) C9 (by lia) (by lia) (by lia) ?_
 .grind
 .intro a2 w2 hc h1 h2 h3;have J8:=AW k2 hc (S':=S') (fun _ h=>h) (fun _ h=>.inl h) (fun b hb=>yE (k2.slt b hb) hc.size);refine⟨rfl,m',S',?_,J8,rfl,Nat.zero_le _,k5.trans (zy k2 hc (fun _ h=>h) (fun _ h=>.inl h)),?_,?_⟩
  .intro i;by_cases hi:i=2
   .subst hi;rw[h3];show ae O.ab m' S' w2 (.str (bc z)) _
    simp only[ae];refine⟨_,rfl,?_⟩;by_cases h0:z<0
    .rw [rR h0,yU h0];simp only[xN,xk];rw[TK];rfl
    .obtain ⟨n,rfl⟩:∃n:Nat,z=n:=⟨z.toNat,by lia⟩;rw[yW h0];simp only[yA,xq,yD];rw[TK];rfl
   .have:aj [(2,AV.str (bc z))] i=.undef:=by
     have hb:yo 2 i=false:=by
      cases hq:yo 2 i with
      | false=>rfl
      | true=>exact absurd (Nat.eq_of_beq_eq_true hq).symm hi
     simp only[aj,hb,yJ]
    show ae O.ab m' S' w2 (aj [(2,AV.str (bc z))] i) _
    rw[this];simp only[ae]
  .rw [h1,dR,Oy];simp
  .rw [h2]
   exact AX k2 (zy (base:=0) k2 hc (fun _ h=>h) (fun _ h=>.inl h)) k7
end
end
end VE
