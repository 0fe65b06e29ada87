import Derived.Test.YtmacbdacedfedaaGreatDoorUap
set_option linter.all false
set_option maxRecDepth 100000
open BitVec renaming ofInt->wv,ofNat->tB,toNat_ofNat->vZ
open Bool renaming and_self->vn,false_eq_true->yD,not_false->yZ,not_true->yY
open Go renaming Code->vz,Func->yaH,World->yk
open Go.Fence renaming wide->ybp
open Int renaming ediv_emod_unique->yaf,gcd->vv,gcd_comm->ycz,natAbs_ediv_of_dvd->uY,natCast_mul->xS,pow_zero->yaP,reduceEq->yaB
open List renaming append_assoc->xD,drop_zero->yf,length_append->yJ,length_cons->yF,length_nil->yN,map_append->xg,map_map->tz,map_reverse->yay,nil_append->yy
open Nat renaming add_zero->yX,beq->yq,ble->yB,ble_eq_true_of_le->yv,blt->yL,div_add_mod->xX,div_eq_of_lt->wb,div_le_self->vG,le_refl->yp,le_trans->xo,lt_of_le_of_lt->wo,lt_of_lt_of_le->yG,mod_eq_of_lt->yT,mod_le->yda,mod_lt->xJ,mul_add->xK,mul_le_mul_left->yV,mul_one->ym,mul_zero->xG,pow_le_pow_left->ud,pow_le_pow_right->xa,pow_pos->ybO,pow_succ->xn,reduceAdd->yb,reduceEqDiff->ya,reduceLT->yx,reduceLeDiff->yi,reduceMul->xp,zero_add->yd
open Rat renaming den_divInt->ybY,divInt->wL,divInt_ofNat->ybG,num_divInt->ybX,sub_eq_add_neg->yav
open UInt8 renaming toNat->xr
open Option renaming some->Gp,none->Gq
open Bool renaming true->ydb
namespace VE
open Go (IntKind)
variable {P:aE}{L:Lib}
section
variable {v w:AV}{a b:Int}{K:Nat}
def En{P:aE}{L:Lib}(a b c:VC)(s:St):D P L (.seq a (.seq b c)) s=rA P L (D P L (.seq a b) s) c:=by
 rw[nI,nI]
 cases D P L a s with
 | none=>rfl
 | some q=>
  have⟨ex,st⟩:=q
  cases ex with
  | normal=>rw[jk,jk,nI]
  | ret=>rfl
  | exit id=>rfl
def afb{s s':Int}{w':AV}{l l':List Nat}(h:bQ w l)(h':bQ w' l')(hp:Hp):result hp (.av [.agg [aa s,w],.agg [aa s',w']])=Gp (.av [.agg [aa s,w],.agg [aa s',w']]):=by
 rcases h with ⟨rfl,_⟩ | ⟨e,rfl⟩<;>rcases h' with ⟨rfl,_⟩ | ⟨e',rfl⟩<;>rfl
def RU(tm:Env)(hp:Hp)(ct:Nat)(rs:List (Nat×Bool×Nat))(sz:Nat)(p:AV)(new:List AV):iH:=match p with | .ptr id o=>bif mM tm id rs then gD hp ct id o sz new (ai hp id) else Gq | _=>Gq
def RW(id:Nat):AV->Bool | .ptr j _=> !yq j id | .bC _=>ydb | _=>false
def VS{P:aE}{L:Lib}(f:cx)(tm:Env)(hp:Hp)(ct:Nat)(rs:List (Nat×Bool×Nat))(sz:Nat)(x v:X):aZ P L f tm hp ct (.lP rs sz x v)=RU tm hp ct rs sz (ay tm x) (cellsOf (ay tm v)):=by
 simp only[aZ,RU]
 cases hx:ay tm x with
 | ptr id o=>
  rw[ac9,hx,agB]
 | _=>rfl
def VT{tm:Env}{hp:Hp}{ct:Nat}{rs:List (Nat×Bool×Nat)}{sz id o:Nat}{new:List AV}(h:mM tm id rs=ydb):RU tm hp ct rs sz (.ptr id o) new=gD hp ct id o sz new (ai hp id):=by
 simp only[RU,h,yu]
def Vl(tm:Env)(id:Nat):mM tm id []=ydb:=(rfl)
def US(tm:Env)(id sz x:Nat)(ag:Bool)(r:List (Nat×Bool×Nat)):mM tm id ((sz,ag,x)::r)=(RW id (ak tm x)&&mM tm id r):=by
 simp only[mM,RW]
 grind
def VU{id j o:Nat}(h:j≠id):RW id (.ptr j o)=ydb:=by simp only[RW,gU h,yZ]
def ahZ(h:Nu P L)(hv:cD v a)(hw:cD w b)(ka:Bd K a)(kb:Bd K b)(hK:K<=40000000000):∃r,ab P L 156 [v,w] r/\cD r (a-b):=by
 have⟨n,e1,hn⟩:=HS h hw kb (by lia);have⟨r,e2,hr⟩:=My h hv hn ka kb.neg hK;have bg:=hr;obtain⟨s1,w1,rfl,h1⟩:=hv;obtain⟨s2,w2,rfl,h2⟩:=hw;obtain⟨s3,w3,rfl,h3⟩:=hn;obtain⟨s4,w4,rfl,h4⟩:=hr;have⟨l1,u1⟩:=h1.aO;have⟨l2,u2⟩:=h2.aO;have⟨l3,u3⟩:=h3.aO;have⟨l4,u4⟩:=h4.aO;refine⟨_,?_,bg⟩;unfold ab;rw[aD h.aAP];simp only[go_sem,ya,yb,Xi,aQ,u1.pu,u1.aj,u1.one,u2.pu,u2.aj,u2.one,u3.aj,b6,e1,e2,bw,cR,cS,bV,yf,oE u4,eA u4]
def aAS(h:Nu P L)(hv:cD v a)(hw:cD w b)(ka:Bd K a)(kb:Bd K b)(hK:K<=40000000000):ab P L 118 [v,w] (aa (bW (a-b))):=by
 have⟨d,e1,hd⟩:=ahZ h hv hw ka kb hK;have e2:=HR h hd;obtain⟨s1,w1,rfl,h1⟩:=hv;obtain⟨s2,w2,rfl,h2⟩:=hw;obtain⟨s3,w3,rfl,h3⟩:=hd;have⟨l2,u2⟩:=h2.aO;have⟨l3,u3⟩:=h3.aO;unfold ab;rw[aD h.aAO];rcases h1 with ⟨rfl,rfl,a1,a2⟩ | ⟨e,l,rfl,ga,na,va,sa,a1⟩
 .rcases h2 with ⟨rfl,rfl,b1,b2⟩ | ⟨e,l,rfl,gb,nb,vb,sb,b1⟩
  .by_cases c1:s1<s2
   .rw [show bW (s1-s2)= -1 by unfold bW;rw[yC (by lia)]];simp only[go_sem,ya,yb,Fh,aQ,iU,eM,aY,yd,df,c1]
   .by_cases c2:s2<s1
    .rw [show bW (s1-s2)=1 by unfold bW;rw[yr (by lia),yr (by lia)]];simp only[go_sem,ya,yb,Fh,aQ,iU,eM,aY,yd,df,c1,c2]
    .rw [show bW (s1-s2)=0 by unfold bW;rw[yr (by lia),yC (by lia)]];simp only[go_sem,ya,yb,Fh,aQ,iU,eM,aY,yd,df,c1,c2]
  .simp only [go_sem,ya,yb,Fh,aQ,iU,pL,eM,aY,yd,df,bV,b6,e1,e2,u3.aj,bw]
 .simp only [go_sem,ya,yb,Fh,aQ,u2.pu,u2.aj,u2.one,pL,eM,aY,yd,df,bV,b6,e1,e2,u3.aj,bw]
def awv(h:Nu P L){s1 s2:Int}{w1 w2:AV}(ha:dG s1 w1 a)(hb:dG s2 w2 b)(ka:Bd K a)(kb:Bd K b)(hK:K<=40000000000):
  ∃r,cD r (a*b)/\∀tm,ak tm 2=.ptr 0 0->ak tm 3=.ptr 1 0->ak tm 4=.ptr 2 0->gM [.cell 4 2 ydb] (D P L (aC (aC nK.body)) ⟨tm,[(2,.cells ydb ydb ydb 2 [.int .i64 0,.ah]),(1,.cells ydb ydb ydb 2 [aa s2,w2]),(0,.cells ydb ydb ydb 2 [aa s1,w1])],3,0⟩)=Gp r:=by
 have⟨l1,u1⟩:=ha.aO;have⟨l2,u2⟩:=hb.aO;have⟨p,e1,hp⟩:=BR h ha;have⟨q,e2,hq⟩:=BR h hb;have⟨lp,fX,gp,np,vp⟩:=hp.aO;have⟨lq,qH,gq,nq,vq⟩:=hq.aO;have DW:=yG ka (CU K);have IA:=yG kb (CU K);have llp:lp.length<=40000000000:=xo (pV np vp DW) hK;have llq:lq.length<=40000000000:=xo (pV nq vq IA) hK;have⟨o,oU,e3,ho,oT,no,vo⟩:=aAw h.aAE h.nN h.nO h.iG fX qH gp gq (by lia) (by lia);have⟨r,e4,hr⟩:=FD h (decide (a<0) !=decide (b<0)) ⟨oU,ho,oT,no,vo⟩ (K:=K+K) (by rw[vp,vq,Nat.pow_add];exact Nat.mul_lt_mul'' DW IA) (by lia)
 rw[vp,vq,adn] at hr;have bg:=hr;obtain⟨s',w',rfl,jS⟩:=hr;have⟨l',kG⟩:=jS.aO;refine⟨_,bg,fun tm t2 t3 t4=>?_⟩;have AK:∀x y:Bool,HN ydb (Gp (x==y))=Gp (.bool (x !=y)):=fun x y=>by cases x<;>cases y<;>rfl
 simp only[go_sem,ya,nK,aC,t2,t3,t4,bV,b6,u1.aj,u2.aj,e1,e2,fX.aj,qH.aj,rC,AK,e3,ho.aj,ho.shut,e4,bw,cR,cS,bV,yf,oE kG,eA kG]
def aqz{m:Nat}(h:a.natAbs*b.natAbs=m):a*b=if (decide (a<0)==decide (b<0))=ydb then (m:Int) else 0-(m:Int):=by
 have:=adn (a:=a) (b:=b)
 rw[h] at this;unfold cz at this
 cases hd:(decide (a<0)==decide (b<0)) with
 | true=>simp only[bne,hd,yY,yD,xz] at this;exact this.symm
 | false=>simp only[bne,hd,yZ,xP] at this;rw[yr (by decide)];lia
def Dn(h:Nu P L)(hv:cD v a)(hw:cD w b)(ka:Bd K a)(kb:Bd K b)(hK:K<=40000000000):∃r,ab P L 100 [v,w] r/\cD r (a*b):=by
 obtain⟨s1,w1,rfl,h1⟩:=hv;obtain⟨s2,w2,rfl,h2⟩:=hw;have⟨l1,u1⟩:=h1.aO;have⟨l2,u2⟩:=h2.aO;have⟨r,hr,tail⟩:=awv h h1 h2 ka kb hK;have fin:∀tm,ak tm 2=.ptr 0 0->ak tm 3=.ptr 1 0->ak tm 4=.ptr 2 0->
   D P L (.seq (bD nK.body) (bD (aC nK.body))) ⟨[(0,.agg [aa s1,w1]),(1,.agg [aa s2,w2])],[],0,0⟩=Gp (.normal,⟨tm,[(2,.cells ydb ydb ydb 2 [.int .i64 0,.ah]),(1,.cells ydb ydb ydb 2 [aa s2,w2]),(0,.cells ydb ydb ydb 2 [aa s1,w1])],3,0⟩)->ab P L 100 [.agg [aa s1,w1],.agg [aa s2,w2]] r:=fun tm t2 t3 t4 e=>by
  unfold ab;rw[aD h.RS];show gM [.cell 4 2 ydb] (D P L (.seq (bD nK.body) (.seq (bD (aC nK.body)) (aC (aC nK.body)))) ⟨[(0,.agg [aa s1,w1]),(1,.agg [aa s2,w2])],[],0,0⟩)=_
  rw[En,e,jk];exact tail tm t2 t3 t4
 rcases h1 with ⟨rfl,rfl,a1,a2⟩ | ⟨e,l,rfl,ga,na,va,sa,a1⟩
 .rcases h2 with ⟨rfl,rfl,b1,b2⟩ | ⟨e,l,rfl,gb,nb,vb,sb,b1⟩
  .have f1:=XH h a1 a2;have f2:=XH h b1 b2;have f3:=PR (P:=P) (f:=D P L) h.nO (x:=s1.natAbs) (y:=s2.natAbs) (by lia) (by lia);obtain⟨m,hm⟩:∃m,s1.natAbs*s2.natAbs=m:=⟨_,rfl⟩;rw[hm] at f3;have qg:=aqz hm;by_cases cG:m<=9223372036854775807
   .rw [wb (by lia),yT (by lia)] at f3;rw[show (uc 0)=AV.int .u64 0 from rfl] at f3;by_cases hs:(decide (s1<0)==decide (s2<0))=ydb
    .rw [yC hs] at qg;refine⟨.agg [aa (m:Int),.ah],?_,by rw[qg];exact dG.qS (by lia) (by lia)⟩
     unfold ab;rw[aD h.RS]
     simp only[go_sem,ya,yb,nK,aQ,Ab,iU,eM,Li,rC,aY,yd,df,f1,f2,f3,show (m:Int)<=9223372036854775807 by lia,hs,PQ,wrap64 (n:=(m:Int)) (by lia) (by lia),zY];rfl
    .rw [yr hs] at qg;refine⟨.agg [aa (0-(m:Int)),.ah],?_,by rw[qg];exact dG.qS (by lia) (by lia)⟩
     unfold ab;rw[aD h.RS]
     simp only[go_sem,ya,yb,nK,aQ,Ab,iU,eM,Li,rC,aY,yd,df,f1,f2,f3,show (m:Int)<=9223372036854775807 by lia,hs,PQ,wrap64 (n:=(m:Int)) (by lia) (by lia),wrap64 (n:=0-(m:Int)) (by lia) (by lia),zY];rfl
   .by_cases zG:m/2^64=0
    .rw [zG,yT (by lia)] at f3;rw[show (uc 0)=AV.int .u64 0 from rfl] at f3;refine⟨r,fin _ ?_ ?_ ?_ (by simp only[go_sem,ya,yb,bD,aC,nK,aQ,iU,eM,aY,yd,df,f1,f2,f3,show ¬(m:Int)<=9223372036854775807 by lia]<;>rfl),hr⟩<;>simp only[go_sem,ya]
    .obtain ⟨q,hq⟩:∃q,q=m/2^64:=⟨_,rfl⟩;rw[<-hq] at f3 zG;refine⟨r,fin _ ?_ ?_ ?_ (by simp only[go_sem,ya,yb,bD,aC,nK,aQ,iU,eM,aY,yd,df,f1,f2,f3,show ¬(q:Int)=0 by lia]<;>rfl),hr⟩<;>simp only[go_sem,ya]
  .refine ⟨r,fin _ ?_ ?_ ?_ (by simp only[go_sem,ya,yb,bD,aC,nK,aQ,iU,pL,eM,aY,yd,df]<;>rfl),hr⟩<;>simp only[go_sem,ya]
 .refine ⟨r,fin _ ?_ ?_ ?_ (by simp only[go_sem,ya,yb,bD,aC,nK,aQ,u2.pu,u2.one,pL,eM,aY,yd,df]<;>rfl),hr⟩<;>simp only[go_sem,ya]
end
def aor{a b:Int}{q r:Nat}(hb:0<b)(h:q=a.natAbs/b.natAbs)(h2:r=a.natAbs%b.natAbs):
  (cz (decide (a<0)) r<0->a/b=cz (decide (a<0)) q-1/\a%b=cz (decide (a<0)) r+b)/\(¬cz (decide (a<0)) r<0->a/b=cz (decide (a<0)) q/\a%b=cz (decide (a<0)) r):=by
 have fc:=xX a.natAbs b.natAbs;have aH:r<b.natAbs:=by rw[h2];exact xJ _ (by lia)
 unfold cz;by_cases h0:a<0
 .simp only [h0,yI,xP];constructor
  .intro h3;refine (yaf hb).2 ⟨?_,by lia,by lia⟩
   grind
  .intro h3;refine (yaf hb).2 ⟨?_,by lia,by lia⟩
   grind
 .grind
def aww(h:Nu P L){s1 s2:Int}{w1 w2:AV}{a b:Int}{K:Nat}(ha:dG s1 w1 a)(hb:dG s2 w2 b)(er:0<b)(ka:Bd K a)(kb:Bd K b)(hK:K<=30000000000):
  ∃q r,cD q (a/b)/\cD r (a%b)/\∀tm,ak tm 2=.ptr 0 0->ak tm 3=.ptr 1 0->ak tm 4=.ptr 2 0->ak tm 5=.ptr 3 0->gM [.cell 4 2 ydb,.cell 5 2 ydb] (D P L (aC (aC nL.body)) ⟨tm,[(3,.cells ydb ydb ydb 2 [.int .i64 0,.ah]),(2,.cells ydb ydb ydb 2 [.int .i64 0,.ah]),(1,.cells ydb ydb ydb 2 [aa s2,w2]),(0,.cells ydb ydb ydb 2 [aa s1,w1])],4,0⟩)=Gp (.av [q,r]):=by
 have⟨l1,u1⟩:=ha.aO;have⟨l2,u2⟩:=hb.aO;have⟨p,e1,hp⟩:=BR h ha;have⟨q,e2,hq⟩:=BR h hb;have bJ:cD (.agg [aa s2,w2]) b:=⟨s2,w2,rfl,hb⟩;have⟨lp,fX,_⟩:=hp.aO;have⟨lq,qH,_⟩:=hq.aO;have DW:=yG ka (CU K);have IA:=yG kb (CU K);have⟨dq,dr,e3,Gb,kD⟩:=ahU h.toWd hp hq (by lia) DW IA (by lia);have⟨NC,uq,_⟩:=Gb.aO;have⟨lr1,ur,_⟩:=kD.aO;have hqk:a.natAbs/b.natAbs<(2^64)^K:=wo (vG _ _) DW;have ZH:a.natAbs%b.natAbs<(2^64)^K:=wo (yda _ _) DW;have hqb:a.natAbs/b.natAbs<2^K:=wo (vG _ _) ka;have ZI:a.natAbs%b.natAbs<2^K:=wo (yda _ _) ka;have⟨f1,f2⟩:=aor (a:=a) er rfl rfl;generalize a.natAbs/b.natAbs=Q at*
 generalize a.natAbs%b.natAbs=R at*
 have⟨vq,e4,hvq⟩:=FD h (decide (a<0)) Gb hqk (by lia);have⟨vr,e5,Np⟩:=FD h (decide (a<0)) kD ZH (by lia);have hsq:Bd K (cz (decide (a<0)) Q):=by unfold Bd cz;split<;>lia
 have hsr:Bd K (cz (decide (a<0)) R):=by unfold Bd cz;split<;>lia
 generalize cz (decide (a<0)) R=Rs at*
 have e6:=HR h Np;have ah0:=hvq;have ah1:=Np;obtain⟨s3,w3,rfl,h3⟩:=hvq;obtain⟨s4,w4,rfl,h4⟩:=Np;have⟨l3,u3⟩:=h3.aO;have⟨l4,u4⟩:=h4.aO;by_cases h0:Rs<0
 .have ⟨g1,g2⟩:=f1 h0;have ej:Bd (K+1) 1:=Bd.mono (k:=1) (by unfold Bd;decide) (by lia)
  have⟨o1,o2⟩:=FC h (z:=1) (by decide) (by decide);have⟨vq2,e7,XI⟩:=ahZ h ah0 o2 (K:=K+1) (hsq.mono (by lia)) ej (by lia);have⟨vr2,e8,XJ⟩:=My h ah1 bJ (K:=K+1) (hsr.mono (by lia)) (kb.mono (by lia)) (by lia);rw[<-g1] at XI;rw[<-g2] at XJ;have nf:bW Rs<0:=by unfold bW;rw[yC h0];decide
  have k1:=XI;have k2:=XJ;obtain⟨s5,w5,rfl,h5⟩:=XI;obtain⟨s6,w6,rfl,h6⟩:=XJ;have⟨l5,u5⟩:=h5.aO;have⟨l6,u6⟩:=h6.aO;refine⟨_,_,k1,k2,fun tm t2 t3 t4 t5=>?_⟩;simp only[go_sem,ya,yb,nL,aC,t2,t3,t4,t5,VS,VT,Vl,US,VU,vn,aQ,bV,b6,u1.aj,u2.aj,e1,e2,fX.aj,qH.aj,e3,uq.aj,uq.bI,ur.aj,ur.bI,e4,e5,bw,cR,cS,bV,yf,eA u3,eA u4,u3.aj,u4.aj,e6,nf,o1,e7,e8,cR,cS,bV,yf,eA u5,eA u6,afb u5 u6]
 .have ⟨g1,g2⟩:=f2 h0;have nf:¬bW Rs<0:=by unfold bW;rw[yr h0];split<;>decide
  refine⟨_,_,by rw[g1];exact ah0,by rw[g2];exact ah1,fun tm t2 t3 t4 t5=>?_⟩
  simp only[go_sem,ya,yb,nL,aC,t2,t3,t4,t5,VS,VT,Vl,US,VU,vn,aQ,bV,b6,u1.aj,u2.aj,e1,e2,fX.aj,qH.aj,e3,uq.aj,uq.bI,ur.aj,ur.bI,e4,e5,bw,cR,cS,bV,yf,eA u3,eA u4,u4.aj,e6,nf,afb u3 u4]
def ah2(h:Nu P L){v w:AV}{a b:Int}{K:Nat}(hv:cD v a)(hw:cD w b)(er:0<b)(ka:Bd K a)(kb:Bd K b)(hK:K<=30000000000):∃q r,ab P L 164 [v,w] (.av [q,r])/\cD q (a/b)/\cD r (a%b):=by
 obtain⟨s1,w1,rfl,h1⟩:=hv;obtain⟨s2,w2,rfl,h2⟩:=hw;have⟨l1,u1⟩:=h1.aO;have⟨l2,u2⟩:=h2.aO;have⟨q,r,hq,hr,tail⟩:=aww h h1 h2 er ka kb hK;have fin:∀tm,ak tm 2=.ptr 0 0->ak tm 3=.ptr 1 0->ak tm 4=.ptr 2 0->ak tm 5=.ptr 3 0->
   D P L (.seq (bD nL.body) (bD (aC nL.body))) ⟨[(0,.agg [aa s1,w1]),(1,.agg [aa s2,w2])],[],0,0⟩=Gp (.normal,⟨tm,[(3,.cells ydb ydb ydb 2 [.int .i64 0,.ah]),(2,.cells ydb ydb ydb 2 [.int .i64 0,.ah]),(1,.cells ydb ydb ydb 2 [aa s2,w2]),(0,.cells ydb ydb ydb 2 [aa s1,w1])],4,0⟩)->ab P L 164 [.agg [aa s1,w1],.agg [aa s2,w2]] (.av [q,r]):=fun tm t2 t3 t4 t5 e=>by
  unfold ab;rw[aD h.XG];show gM [.cell 4 2 ydb,.cell 5 2 ydb] (D P L (.seq (bD nL.body) (.seq (bD (aC nL.body)) (aC (aC nL.body)))) ⟨[(0,.agg [aa s1,w1]),(1,.agg [aa s2,w2])],[],0,0⟩)=_
  rw[En,e,jk];exact tail tm t2 t3 t4 t5
 rcases h1 with ⟨rfl,rfl,a1,a2⟩ | ⟨e,l,rfl,ga,na,va,sa,a1⟩
 .rcases h2 with ⟨rfl,rfl,b1,b2⟩ | ⟨e,l,rfl,gb,nb,vb,sb,b1⟩
  .by_cases hm:s1= -9223372036854775808
   .refine ⟨q,r,fin _ ?_ ?_ ?_ ?_ (by simp only[go_sem,ya,yb,bD,aC,nL,aQ,iU,eM,aY,yd,df,hm]<;>rfl),hq,hr⟩<;>simp only[go_sem,ya]
   .have ⟨f1,f2⟩:=aoh (a:=s1) er;have bP:s1.tdiv s2=0\/(s1.tdiv s2).natAbs<=s1.natAbs:=.inr (Int.natAbs_tdiv_le_natAbs s1 s2);have dV:=Int.tmod_lt_of_pos s1 er;have nS:=Int.lt_tmod_of_pos s1 er;by_cases h0:s1.tmod s2<0
    .have ⟨g1,g2⟩:=f1 h0;rw[g1,g2];refine⟨.agg [aa (s1.tdiv s2-1),.ah],.agg [aa (s1.tmod s2+s2),.ah],?_,dG.qS (by lia) (by lia),dG.qS (by lia) (by lia)⟩;unfold ab;rw[aD h.XG]
     simp only[go_sem,ya,yb,nL,aQ,Ab,iU,eM,aY,yd,df,hm,eX _ _ _ (show s2≠0 by lia),fH _ _ _ (show s2≠0 by lia),h0,wrap64 (n:=s1.tdiv s2) (by lia) (by lia),wrap64 (n:=s1.tdiv s2-1) (by lia) (by lia),wrap64 (n:=s1.tmod s2+s2) (by lia) (by lia),zY];rfl
    .have ⟨g1,g2⟩:=f2 h0;rw[g1,g2];refine⟨.agg [aa (s1.tdiv s2),.ah],.agg [aa (s1.tmod s2),.ah],?_,dG.qS (by lia) (by lia),dG.qS (by lia) (by lia)⟩;unfold ab;rw[aD h.XG]
     simp only[go_sem,ya,yb,nL,aQ,Ab,iU,eM,aY,yd,df,hm,eX _ _ _ (show s2≠0 by lia),fH _ _ _ (show s2≠0 by lia),h0,wrap64 (n:=s1.tdiv s2) (by lia) (by lia),zY];rfl
  .refine ⟨q,r,fin _ ?_ ?_ ?_ ?_ (by simp only[go_sem,ya,yb,bD,aC,nL,aQ,iU,pL,eM,aY,yd,df]<;>rfl),hq,hr⟩<;>simp only[go_sem,ya]
 .refine ⟨q,r,fin _ ?_ ?_ ?_ ?_ (by simp only[go_sem,ya,yb,bD,aC,nL,aQ,u2.pu,u2.one,pL,eM,aY,yd,df]<;>rfl),hq,hr⟩<;>simp only[go_sem,ya]
section
variable {v w:AV}{a b:Int}{l m:List Nat}{K:Nat}
def ah3(h:Nu P L)(hv:cD v a)(hw:cD w b)(er:0<b)(ka:Bd K a)(kb:Bd K b)(hK:K<=30000000000):∃r,ab P L 148 [v,w] r/\cD r (a/b):=by
 have e1:=HR h hw;have⟨q,r,e2,hq,hr⟩:=ah2 h hv hw er ka kb hK;have e3:bW b=1:=by unfold bW;rw[yr (by lia),yr (by lia)]
 rw[e3] at e1;have bP:=hq;obtain⟨s1,w1,rfl,h1⟩:=hv;obtain⟨s2,w2,rfl,h2⟩:=hw;obtain⟨s3,w3,rfl,h3⟩:=hq;obtain⟨s4,w4,rfl,h4⟩:=hr;have⟨l1,u1⟩:=h1.aO;have⟨l2,u2⟩:=h2.aO;have⟨l3,u3⟩:=h3.aO;have⟨l4,u4⟩:=h4.aO;refine⟨_,?_,bP⟩;unfold ab;rw[aD h.aAQ];simp only[go_sem,ya,yb,Xh,Int.reduceLT,yM,aQ,u1.pu,u1.aj,u1.one,u2.pu,u2.aj,u2.one,yd,b6,e1,e2,Cw,cR,cS,bV,yf,oE u3,eA u3,eA u4]
def awx(h:Nu P L)(G:Nat)(hK:K<=30000000000){o1 o2:AV}:
  c6 P L [2,3,4] KH (fun k s=>∃(x y:Nat) (s1 s2:Int) (w1 w2:AV),s=⟨[(2,.ptr 0 0),(3,.ptr 1 0),(4,.ptr 2 0)],[(2,.cells ydb ydb ydb 2 [o1,o2]),(1,.cells ydb ydb ydb 2 [aa s2,w2]),(0,.cells ydb ydb ydb 2 [aa s1,w1])],3,0⟩/\dG s1 w1 x/\dG s2 w2 y/\Bd K x/\Bd K y/\Nat.gcd x y=G/\y=k) (fun ex s'=>∃tm s1 w1 c1,s'=⟨tm,[(2,.cells ydb ydb ydb 2 [o1,o2]),(1,c1),(0,.cells ydb ydb ydb 2 [aa s1,w1])],3,0⟩/\ex=.exit 0/\ak tm 2=.ptr 0 0/\ak tm 4=.ptr 2 0/\dG s1 w1 G):=by
 apply c9;rintro k s ⟨x,y,s1,s2,w1,w2,rfl,h1,h2,k1,k2,hG,rfl⟩;have⟨l1,u1⟩:=h1.aO;have⟨l2,u2⟩:=h2.aO;have i1:cD (.agg [aa s1,w1]) (x:Int):=⟨s1,w1,rfl,h1⟩;have i2:cD (.agg [aa s2,w2]) (y:Int):=⟨s2,w2,rfl,h2⟩;have e1:=HR h i2;by_cases lA:y=0
 .right
  subst lA;rw[show bW ((0:Nat):Int)=0 from rfl] at e1;simp only[go_sem,ya,KH,yI,yY,bV,b6,u2.aj,e1];obtain rfl:x=G:=by rw[<-hG,Nat.gcd_zero_right]
  exact⟨_,_,rfl,by simp,_,s1,w1,_,rfl,rfl,rfl,rfl,h1⟩
 .left
  have e3:bW (y:Int)=1:=by unfold bW;rw[yr (by lia),yr (by lia)]
  rw[e3] at e1;have⟨q,r,e2,hq,hr⟩:=ah2 h i1 i2 (by lia) k1 k2 hK;obtain⟨s3,w3,rfl,h3⟩:=hq;obtain⟨s4,w4,rfl,h4⟩:=hr;have⟨l3,u3⟩:=h3.aO;have⟨l4,u4⟩:=h4.aO;have aH:=xJ x (show 0<y by lia);have kr:Bd K ((x%y:Nat):Int):=k2.le (by lia);simp only[go_sem,ya,yb,KH,VS,VT,Vl,US,VU,vn,yaB,yM,yZ,aQ,bV,b6,u1.aj,u2.aj,e1,e2,Cw,bV,yf,eA u2,eA u3,eA u4];refine⟨_,x%y,rfl,aH,y,x%y,s2,s4,w2,w4,?_,h2,h4,k2,kr,by rw[<-hG];exact aqp x y lA,rfl⟩
  simp only[go_sem,ya,yb,ax]
def ah4(h:Nu P L)(hv:cD v a)(hw:cD w b)(ka:Bd K a)(kb:Bd K b)(hK:K<=30000000000):∃r,ab P L 130 [v,w] r/\cD r (vv a b:Nat):=by
 have⟨va,e1,ha⟩:=ahY h hv ka (by lia);have⟨vb,e2,hb⟩:=ahY h hw kb (by lia);obtain⟨s1,w1,rfl,h1⟩:=hv;obtain⟨s2,w2,rfl,h2⟩:=hw;obtain⟨s3,w3,rfl,h3⟩:=ha;obtain⟨s4,w4,rfl,h4⟩:=hb;have⟨l1,u1⟩:=h1.aO;have⟨l2,u2⟩:=h2.aO;have⟨l3,u3⟩:=h3.aO;have⟨l4,u4⟩:=h4.aO;have kw:∃s w,ab P L 130 [.agg [aa s1,w1],.agg [aa s2,w2]] (.agg [aa s,w])/\dG s w (vv a b:Nat):=by
  unfold ab;rw[aD h.aAR];simp only[go_sem,ya,yb,Xf,aQ,u1.pu,u1.aj,u1.one,u2.pu,u2.aj,u2.one,bV,b6,e1,e2,bw,bV,yf,eA u3,eA u4,yd];generalize hq:D P L (.loop _ KH) _=q;obtain⟨ex,s,rfl,tm,s5,w5,c1,rfl,rfl,t2,t4,h5⟩:=bL hq (awx (P:=P) (L:=L) h (vv a b) (K:=K) hK (o1:=.int .i64 0) (o2:=.ah) b.natAbs) ⟨a.natAbs,b.natAbs,s3,s4,w3,w4,by simp only[go_sem,ya,yb,ax],h3,h4,ka,kb,rfl,rfl⟩;have⟨l5,u5⟩:=h5.aO;refine⟨s5,w5,?_,h5⟩;simp only[go_sem,ya,yb,ax,t2,t4,cR,cS,bV,yf,oE u5,eA u5]
 have⟨s,w,e,hn⟩:=kw;exact⟨_,e,s,w,rfl,hn⟩
def bS(v:AV)(r:Rat):Prop:=∃s1 w1 s2 w2,v=.agg [aa s1,w1,aa s2,w2]/\dG s1 w1 r.num/\dG s2 w2 (r.den:Int)
def Hq(k:Nat)(r:Rat):Prop:=Bd k r.num/\Bd k (r.den:Int)
def Tp(hb:0<b):(wL a b).num=a/(vv a b:Nat)/\((wL a b).den:Int)=b/(vv a b:Nat):=by
 constructor
 .rw [ybX,Int.sign_eq_one_of_pos hb,Int.one_mul,ycz]
 .rw [ybY,yr (by lia),ycz]
  grind
def Hq.divInt{k:Nat}(hb:0<b)(ka:Bd k a)(kb:Bd k b):Hq k (wL a b):=by
 have⟨h1,h2⟩:=Tp (a:=a) hb;refine⟨ka.le ?_,kb.le ?_⟩
 .rw [h1,uY (Int.gcd_dvd_left a b)];exact vG _ _
 .rw [h2,uY (Int.gcd_dvd_right a b)];exact vG _ _
section
def Eu{tm:Env}{a b x y z:AV}{r:List (Nat×Nat×X)}(h1:db a=ydb)(h2:db b=ydb):kX tm [x,y,z,w] 0 2 [a,b] r=fill tm [a,b,z,w] r:=by
 rw[CI (by rfl) (by simp) (by simp[cd,h1,h2])];rfl
def Ev{tm:Env}{a b x y z:AV}{r:List (Nat×Nat×X)}(h1:db a=ydb)(h2:db b=ydb):kX tm [x,y,z,w] 2 2 [a,b] r=fill tm [x,y,a,b] r:=by
 rw[CI (by rfl) (by simp) (by simp[cd,h1,h2])];rfl
def kZ{s t:Int}(hv:bQ v l)(hw:bQ w m)(hp:Hp)(ct id:Nat)(a b x y:AV):gD hp ct id 0 4 [.int .i64 s,v,.int .i64 t,w] (Gp (.cells ydb ydb ydb 4 [a,b,x,y]))=Gp (.av [],aU hp id (.cells ydb ydb ydb 4 [.int .i64 s,v,.int .i64 t,w]),ct):=by
 rw[sT (by rfl) (by simp) (by simp[cd,hv.one,hw.one,ael])];simp[aF,hv.pu,hw.pu,over,ae3]
def lc{s t:Int}(hv:bQ v l)(hw:bQ w m)(hp:Hp):result hp (.agg [aa s,v,aa t,w])=Gp (.agg [aa s,v,aa t,w]):=by
 rcases hv with ⟨rfl,_⟩ | ⟨e,rfl⟩<;>rcases hw with ⟨rfl,_⟩ | ⟨e',rfl⟩<;>rfl
variable {P:aE}{L:Lib}
structure Fr'(P:aE)(L:Lib):Prop extends Nu P L where
 aAT:Has P L 101 oI
 ZJ:Has P L 69 Y8
 aAU:Has P L 111 Xe
 h98:Has P L 98 SF
 aAV:Has P L 108 Xd
 aAW:Has P L 102 Xc
 h74:Has P L 74 Nf
 ZK:Has P L 50 Y7
 qJ:Has P L 49 c49
 h73:Has P L 73 Za
 h70:Has P L 70 Y9
 h71:Has P L 71 c71
 aGg:Has P L 149 ahx
def afc(h:Fr' P L){s1 s2:Int}{w1 w2:AV}(h1:dG s1 w1 a)(h2:dG s2 w2 b)(er:0<b)(ka:Bd K a)(kb:Bd K b)(hK:K<=30000000000):
  ∃r,bS r (wL a b)/\∀tm,ak tm 2=.ptr 0 0->ak tm 3=.ptr 1 0->ak tm 4=.ptr 2 0->gM [.cell 4 4 ydb] (D P L (aC (aC oI.body)) ⟨tm,[(2,.cells ydb ydb ydb 4 [.int .i64 0,.ah,.int .i64 0,.ah]),(1,.cells ydb ydb ydb 2 [aa s2,w2]),(0,.cells ydb ydb ydb 2 [aa s1,w1])],3,0⟩)=Gp r:=by
 have hv:cD (.agg [aa s1,w1]) a:=⟨s1,w1,rfl,h1⟩;have hw:cD (.agg [aa s2,w2]) b:=⟨s2,w2,rfl,h2⟩;have⟨p1,p2⟩:=Tp (a:=a) er;have hgp:=Pn (a:=a) er;have hgk:Bd K ((vv a b:Nat):Int):=kb.le (by
  have:=Int.gcd_le_natAbs_right a (show b≠0 by lia)
  lia)
 have⟨g,e2,hg⟩:=ah4 h.toNu hv hw ka kb hK;have⟨q1,e4,gg⟩:=ah3 h.toNu hv hg hgp ka hgk hK;have⟨q2,e5,AZ⟩:=ah3 h.toNu hw hg hgp kb hgk hK;rw[<-p1] at gg;rw[<-p2] at AZ;obtain⟨s3,w3,rfl,h3⟩:=hg;obtain⟨s4,w4,rfl,h4⟩:=gg;obtain⟨s5,w5,rfl,h5⟩:=AZ;have⟨l1,u1⟩:=h1.aO;have⟨l2,u2⟩:=h2.aO;have⟨l3,u3⟩:=h3.aO;have⟨l4,u4⟩:=h4.aO;have⟨l5,u5⟩:=h5.aO;by_cases ia:w2=.ah/\s2=1
 .obtain ⟨rfl,rfl⟩:=ia;have ej:b=1:=by
   rcases h2 with ⟨_,h,_⟩ | ⟨_,_,h,_⟩
   .exact h.symm
   .cases h
  subst ej;rw[Int.gcd_one] at p1 p2;have p1:(wL a 1).num=a:=by rw[p1];exact Int.ediv_one a
  refine⟨.agg [aa s1,w1,aa 1,.ah],⟨s1,w1,1,.ah,rfl,by rw[p1];exact h1,by rw[p2];exact h2⟩,fun tm t2 t3 t4=>?_⟩
  have un:=zV;simp only[go_sem,ya,oI,aC,t2,t3,t4,u1.one,bV,aY,yd,df,iU,eM,Eu,Ev,kZ u1 un,cR,cS,yf,gY,lc u1 un]
 .refine ⟨.agg [aa s4,w4,aa s5,w5],⟨s4,w4,s5,w5,rfl,h4,h5⟩,fun tm t2 t3 t4=>?_⟩;rcases u2 with ⟨rfl,_⟩ | ⟨e,rfl⟩
  .simp only [go_sem,ya,yb,oI,aC,t2,t3,t4,aQ,u1.aj,bV,b6,aY,yd,df,iU,eM,show ¬s2=1 from fun e=>ia ⟨rfl,e⟩,e2,e4,e5,bw,cR,cS,bV,yf,eA u3,u3.aj,u4.one,u5.one,Eu,Ev,kZ u4 u5,gY,lc u4 u5]
  .simp only [go_sem,ya,yb,oI,aC,t2,t3,t4,aQ,u1.aj,bV,b6,aY,yd,df,pL,eM,e2,e4,e5,bw,cR,cS,bV,yf,eA u3,u3.aj,u4.one,u5.one,Eu,Ev,kZ u4 u5,gY,lc u4 u5]
def XK(h:Fr' P L)(hv:cD v a)(hw:cD w b)(er:b≠0)(ka:Bd K a)(kb:Bd K b)(hK:K<=30000000000):∃r,ab P L 101 [v,w] r/\bS r (wL a b):=by
 have e1:=HR h.toNu hw;have eK:=hv;have ZL:=hw;obtain⟨s1,w1,rfl,h1⟩:=hv;obtain⟨s2,w2,rfl,h2⟩:=hw;have⟨l1,u1⟩:=h1.aO;have⟨l2,u2⟩:=h2.aO;have fin:∀r t1 t2 v1 v2 tm,(∀tm,ak tm 2=.ptr 0 0->ak tm 3=.ptr 1 0->ak tm 4=.ptr 2 0->gM [.cell 4 4 ydb] (D P L (aC (aC oI.body)) ⟨tm,[(2,.cells ydb ydb ydb 4 [.int .i64 0,.ah,.int .i64 0,.ah]),(1,.cells ydb ydb ydb 2 [aa t2,v2]),(0,.cells ydb ydb ydb 2 [aa t1,v1])],3,0⟩)=Gp r)->ak tm 2=.ptr 0 0->ak tm 3=.ptr 1 0->ak tm 4=.ptr 2 0->
   D P L (.seq (bD oI.body) (bD (aC oI.body))) ⟨[(0,.agg [aa s1,w1]),(1,.agg [aa s2,w2])],[],0,0⟩=Gp (.normal,⟨tm,[(2,.cells ydb ydb ydb 4 [.int .i64 0,.ah,.int .i64 0,.ah]),(1,.cells ydb ydb ydb 2 [aa t2,v2]),(0,.cells ydb ydb ydb 2 [aa t1,v1])],3,0⟩)->ab P L 101 [.agg [aa s1,w1],.agg [aa s2,w2]] r:=fun r t1 t2 v1 v2 tm tail k2 k3 k4 e=>by
  unfold ab;rw[aD h.aAT];show gM [.cell 4 4 ydb] (D P L (.seq (bD oI.body) (.seq (bD (aC oI.body)) (aC (aC oI.body)))) ⟨[(0,.agg [aa s1,w1]),(1,.agg [aa s2,w2])],[],0,0⟩)=_
  rw[En,e,jk];exact tail tm k2 k3 k4
 by_cases hn:b<0
 .have ⟨n1,e2,lU⟩:=HS h.toNu eK ka (by lia);have⟨n2,e3,dF⟩:=HS h.toNu ZL kb (by lia);obtain⟨s3,w3,rfl,h3⟩:=lU;obtain⟨s4,w4,rfl,h4⟩:=dF;have⟨l3,u3⟩:=h3.aO;have⟨l4,u4⟩:=h4.aO;have⟨r,hr,tail⟩:=afc h h3 h4 (by lia) ka.neg kb.neg hK;rw[Rat.neg_divInt_neg] at hr;have hs:bW b<0:=by unfold bW;rw[yC hn];decide
  refine⟨r,fin r _ _ _ _ _ tail ?_ ?_ ?_ (by simp only[go_sem,ya,yb,oI,bD,aC,hs,aQ,u1.pu,u1.aj,u1.one,u2.pu,u2.aj,u2.one,bV,b6,e1,e2,e3,bw,eA u3,eA u4]<;>rfl),hr⟩<;>simp only[go_sem,ya]
 .have ⟨r,hr,tail⟩:=afc h h1 h2 (by lia) ka kb hK;have hs:¬bW b<0:=by unfold bW;rw[yr hn];split<;>decide
  refine⟨r,fin r _ _ _ _ _ tail ?_ ?_ ?_ (by simp only[go_sem,ya,yb,oI,bD,aC,hs,aQ,u1.pu,u1.one,u2.pu,u2.aj,u2.one,bV,b6,e1]<;>rfl),hr⟩<;>simp only[go_sem,ya]
end
end
section
variable {v w:AV}{K k m:Nat}{a b:Rat}
def Hq.mono{r:Rat}(h:Hq k r)(hk:k<=m):Hq m r:=⟨h.1.mono hk,h.2.mono hk⟩
def Hq.neg{r:Rat}(h:Hq k r):Hq k (-r):=⟨h.1.neg,h.2⟩
def add_eq(a b:Rat):a+b=wL (a.num*b.den+b.num*a.den) ((a.den:Int)*b.den):=by
 rw[Rat.add_def',<-ybG,xS]
def mul_eq(a b:Rat):a*b=wL (a.num*b.num) ((a.den:Int)*b.den):=by
 rw[Rat.mul_def',<-ybG,xS]
def ado(a:Rat):0<(a.den:Int):=by have:=a.den_pos;lia
def Gs(a b:Rat):0<(a.den:Int)*b.den:=Int.mul_pos (ado a) (ado b)
def Bd.XL{a b:Int}(ha:Bd k a)(hb:Bd k b):Bd (k+1) (a+b):=by
 have:=ha.add hb
 grind
def Hq.add(ha:Hq k a)(hb:Hq m b):Hq (k+m+1) (a+b):=by
 rw[add_eq];refine Hq.divInt (Gs a b) ?_ ((ha.2.mul hb.2).mono (by lia));exact (ha.1.mul hb.2).XL ((hb.1.mul ha.2).mono (by lia))
def Hq.mul(ha:Hq k a)(hb:Hq m b):Hq (k+m) (a*b):=by
 rw[mul_eq];exact Hq.divInt (Gs a b) (ha.1.mul hb.1) (ha.2.mul hb.2)
def Hq.sub(ha:Hq k a)(hb:Hq m b):Hq (k+m+1) (a-b):=by
 rw[yav];exact ha.add hb.neg
def Hq.inv(ha:Hq k a):Hq k a⁻¹:=by
 have h1:(a⁻¹).num.natAbs<=a.den:=by
  rw[Rat.num_inv,Int.natAbs_mul]
  grind
 refine⟨ha.2.le (by simpa using h1),?_⟩;unfold Bd;rw[Rat.den_inv]
 split
 .have h2:=ha.2;unfold Bd at h2
  simp_all
 .exact ha.1
def Hq.div(ha:Hq k a)(hb:Hq m b):Hq (k+m) (a/b):=by
 rw[Rat.div_def];exact ha.mul hb.inv
def FE(a b:Rat):Int:=if a<b then -1 else if a=b then 0 else 1
def Vm(a:Rat)(h:a.den=1):a=(a.num:Rat):=by
 have:=Rat.num_divInt_den a
 rw[h] at this;rw[<-this];exact (Rat.ext (by simp[ybX]) (by simp[ybY]))
def E5(a b c d:AV)(r:List AV):ie 2 ydb (List.drop 2 (a::b::c::d::r))=Gp (.agg [c,d]):=rfl
def Ak(a b:AV)(r:List AV):ie 2 ydb (a::b::r)=Gp (.agg [a,b]):=rfl
def XM(h:Fr' P L){z:Int}(hv:cD v z):∃r,ab P L 111 [v] r/\bS r (z:Rat):=by
 have⟨o1,o2⟩:=FC h.toNu (z:=1) (by decide) (by decide);obtain⟨s1,w1,rfl,h1⟩:=hv;have⟨l1,u1⟩:=h1.aO;have un:=zV;refine⟨.agg [aa s1,w1,aa 1,.ah],?_,s1,w1,1,.ah,rfl,h1,.inl ⟨rfl,rfl,(by show (-9223372036854775808:Int)<=1;decide),(by show (1:Int)<9223372036854775808;decide)⟩⟩
 unfold ab;rw[aD h.aAU];simp only[go_sem,ya,yb,Xe,aQ,u1.pu,u1.one,bV,o1,bw,Eu,Ev,kZ u1 un,cR,cS,yf,gY,lc u1 un]
def Gc(h:Fr' P L){z:Int}(h1: -9223372036854775808<=z)(h2:z<9223372036854775808):∃r,ab P L 69 [aa z] r/\bS r (z:Rat):=by
 have⟨o1,o2⟩:=FC h.toNu h1 h2;have⟨r,e,hr⟩:=XM h o2;have bg:=hr;obtain⟨s1,w1,s2,w2,rfl,k1,k2⟩:=hr;have⟨l1,u1⟩:=k1.aO;have⟨l2,u2⟩:=k2.aO;refine⟨_,?_,bg⟩;unfold ab;rw[aD h.ZJ];simp only[go_sem,ya,yb,Y8,aQ,b6,o1,e,bw,kZ u1 u2,cR,cS,yf,gY,lc u1 u2]
def ZM(h:Fr' P L)(hv:bS v a):ab P L 98 [v] (.bool (decide (a.den=1))):=by
 obtain⟨s1,w1,s2,w2,rfl,h1,h2⟩:=hv;have⟨l1,u1⟩:=h1.aO;unfold ab;rw[aD h.h98];rcases h2 with ⟨rfl,rfl,b1,b2⟩ | ⟨e,l,rfl,gb,nb,vb,sb,b1⟩
 .have e:decide (((a.den:Nat):Int)=1)=decide (a.den=1):=by simp;lia
  simp only[go_sem,ya,yb,SF,aQ,u1.pu,u1.one,aY,yd,ayU,agC,iU,eM,e]
 .have e:decide (a.den=1)=false:=yW (by lia);rw[e];simp only[go_sem,ya,yb,SF,aQ,u1.pu,u1.one,aY,yd,agC,pL,eM]
def RX(h:Fr' P L)(hv:bS v a):ab P L 108 [v] (aa (bW a.num)):=by
 obtain⟨s1,w1,s2,w2,rfl,h1,h2⟩:=hv;have⟨l1,u1⟩:=h1.aO;have⟨l2,u2⟩:=h2.aO;have e1:=HR h.toNu ⟨s1,w1,rfl,h1⟩;unfold ab;rw[aD h.aAV];simp only[go_sem,ya,yb,Xd,aQ,u1.pu,u1.aj,u1.one,u2.pu,u2.one,aY,yd,Ak,b6,e1]
def aAX(h:Fr' P L)(hv:bS v a)(ka:Hq K a)(hK:K<=30000000000):∃r,ab P L 102 [v] r/\bS r (-a):=by
 obtain⟨s1,w1,s2,w2,rfl,h1,h2⟩:=hv;have⟨l1,u1⟩:=h1.aO;have⟨l2,u2⟩:=h2.aO;have⟨n,e1,hn⟩:=HS h.toNu ⟨s1,w1,rfl,h1⟩ ka.1 (by lia);obtain⟨s3,w3,rfl,h3⟩:=hn;have⟨l3,u3⟩:=h3.aO;refine⟨.agg [aa s3,w3,aa s2,w2],?_,s3,w3,s2,w2,rfl,h3,h2⟩;unfold ab;rw[aD h.aAW];simp only[go_sem,ya,yb,Xc,aQ,u1.pu,u1.aj,u1.one,u2.pu,u2.one,u3.one,aY,yd,Ak,E5,b6,e1,bw,Eu,Ev,kZ u3 u2,cR,cS,yf,gY,lc u3 u2]
def ND(h:Fr' P L)(hv:bS v a)(hw:bS w b)(ka:Hq K a)(kb:Hq K b)(hK:K<=10000000000):∃r,ab P L 74 [v,w] r/\bS r (a+b):=by
 have i1:=ZM h hv;have i2:=ZM h hw;obtain⟨s1,w1,s2,w2,rfl,h1,h2⟩:=hv;obtain⟨s3,w3,s4,w4,rfl,h3,h4⟩:=hw;have⟨l1,u1⟩:=h1.aO;have⟨l2,u2⟩:=h2.aO;have⟨l3,u3⟩:=h3.aO;have⟨l4,u4⟩:=h4.aO;have n1:cD (.agg [aa s1,w1]) a.num:=⟨s1,w1,rfl,h1⟩;have n2:cD (.agg [aa s2,w2]) a.den:=⟨s2,w2,rfl,h2⟩;have n3:cD (.agg [aa s3,w3]) b.num:=⟨s3,w3,rfl,h3⟩;have n4:cD (.agg [aa s4,w4]) b.den:=⟨s4,w4,rfl,h4⟩;by_cases AX:a.den=1/\b.den=1
 .have ⟨d1,d2⟩:=AX;have⟨p,e1,hp⟩:=My h.toNu n1 n3 ka.1 kb.1 (by lia);have⟨r,e2,hr⟩:=XM h hp;have he:((a.num+b.num:Int):Rat)=a+b:=by
   rw[Rat.intCast_add,<-Vm a d1,<-Vm b d2]
  rw[he] at hr;have bg:=hr;obtain⟨s5,w5,rfl,h5⟩:=hp;obtain⟨s6,w6,s7,w7,rfl,h6,h7⟩:=hr;have⟨l5,u5⟩:=h5.aO;have⟨l6,u6⟩:=h6.aO;have⟨l7,u7⟩:=h7.aO;refine⟨_,?_,bg⟩;rw[d1] at i1;rw[d2] at i2;unfold ab;rw[aD h.h74];simp only[go_sem,ya,yb,Nf,aQ,u1.pu,u1.aj,u1.one,u2.pu,u2.aj,u2.one,u3.pu,u3.aj,u3.one,u4.pu,u4.aj,u4.one,aY,yd,gY,Ak,b6,i1,i2,e1,u5.aj,e2,bw,kZ u6 u7,cR,cS,yf,gY,lc u6 u7]
 .have ⟨p1,e1,aX⟩:=Dn h.toNu n1 n4 ka.1 kb.2 (by lia);have⟨p2,e2,jP⟩:=Dn h.toNu n3 n2 kb.1 ka.2 (by lia);have⟨p3,e3,SZ⟩:=My h.toNu aX jP (ka.1.mul kb.2) (kb.1.mul ka.2) (by lia);have⟨p4,e4,NE⟩:=Dn h.toNu n2 n4 ka.2 kb.2 (by lia);have⟨r,e5,hr⟩:=XK h SZ NE (by have:=Gs a b;lia) ((ka.1.mul kb.2).XL (kb.1.mul ka.2)) ((ka.2.mul kb.2).mono (by lia)) (by lia)
  rw[<-add_eq] at hr;have bg:=hr;obtain⟨s5,w5,rfl,h5⟩:=aX;obtain⟨s6,w6,rfl,h6⟩:=jP;obtain⟨s7,w7,rfl,h7⟩:=SZ;obtain⟨s8,w8,rfl,h8⟩:=NE;obtain⟨s9,w9,s10,w10,rfl,h9,jf⟩:=hr;have⟨l5,u5⟩:=h5.aO;have⟨l6,u6⟩:=h6.aO;have⟨l7,u7⟩:=h7.aO;have⟨l8,u8⟩:=h8.aO;have⟨l9,u9⟩:=h9.aO;have⟨l10,S3⟩:=jf.aO;refine⟨_,?_,bg⟩;unfold ab;rw[aD h.h74];by_cases d1:a.den=1
  .rw [d1] at i1;rw[yW (fun d2=>AX ⟨d1,d2⟩)] at i2;simp only[go_sem,ya,yb,Nf,aQ,u1.pu,u1.aj,u1.one,u2.pu,u2.aj,u2.one,u3.pu,u3.aj,u3.one,u4.pu,u4.aj,u4.one,aY,yd,gY,Ak,E5,b6,i1,i2,e1,e2,u5.aj,u6.aj,e3,e4,u7.aj,u8.aj,e5,bw,kZ u9 S3,cR,cS,yf,gY,lc u9 S3]
  .rw [yW d1] at i1;simp only[go_sem,ya,yb,Nf,aQ,u1.pu,u1.aj,u1.one,u2.pu,u2.aj,u2.one,u3.pu,u3.aj,u3.one,u4.pu,u4.aj,u4.one,aY,yd,gY,Ak,E5,b6,i1,e1,e2,u5.aj,u6.aj,e3,e4,u7.aj,u8.aj,e5,bw,kZ u9 S3,cR,cS,yf,gY,lc u9 S3]
def m50(h:Fr' P L)(hv:bS v a)(hw:bS w b)(ka:Hq K a)(kb:Hq K b)(hK:K<=10000000000):∃r,ab P L 50 [v,w] r/\bS r (a-b):=by
 have⟨n,e1,hn⟩:=aAX h hw kb (by lia);have⟨r,e2,hr⟩:=ND h hv hn ka kb.neg hK;rw[<-yav] at hr;have bg:=hr;obtain⟨s1,w1,s2,w2,rfl,h1,h2⟩:=hv;obtain⟨s3,w3,s4,w4,rfl,h3,h4⟩:=hw;obtain⟨s5,w5,s6,w6,rfl,h5,h6⟩:=hn;obtain⟨s7,w7,s8,w8,rfl,h7,h8⟩:=hr;have⟨l1,u1⟩:=h1.aO;have⟨l2,u2⟩:=h2.aO;have⟨l3,u3⟩:=h3.aO;have⟨l4,u4⟩:=h4.aO;have⟨l5,u5⟩:=h5.aO;have⟨l6,u6⟩:=h6.aO;have⟨l7,u7⟩:=h7.aO;have⟨l8,u8⟩:=h8.aO;refine⟨_,?_,bg⟩;unfold ab;rw[aD h.ZK];simp only[go_sem,ya,yb,Y7,aQ,u1.pu,u1.aj,u1.one,u2.pu,u2.aj,u2.one,u3.pu,u3.aj,u3.one,u4.pu,u4.aj,u4.one,u5.aj,u6.aj,gY,b6,e1,e2,bw,kZ u7 u8,cR,cS,yf,gY,lc u7 u8]
def S4(h:Fr' P L)(hv:bS v a)(hw:bS w b)(ka:Hq K a)(kb:Hq K b)(hK:K<=10000000000):∃r,ab P L 49 [v,w] r/\bS r (a*b):=by
 obtain⟨s1,w1,s2,w2,rfl,h1,h2⟩:=hv;obtain⟨s3,w3,s4,w4,rfl,h3,h4⟩:=hw;have⟨l1,u1⟩:=h1.aO;have⟨l2,u2⟩:=h2.aO;have⟨l3,u3⟩:=h3.aO;have⟨l4,u4⟩:=h4.aO;have⟨p1,e1,aX⟩:=Dn h.toNu (v:=.agg [aa s1,w1]) (w:=.agg [aa s3,w3]) ⟨s1,w1,rfl,h1⟩ ⟨s3,w3,rfl,h3⟩ ka.1 kb.1 (by lia);have⟨p2,e2,jP⟩:=Dn h.toNu (v:=.agg [aa s2,w2]) (w:=.agg [aa s4,w4]) ⟨s2,w2,rfl,h2⟩ ⟨s4,w4,rfl,h4⟩ ka.2 kb.2 (by lia);have⟨r,e3,hr⟩:=XK h aX jP (by have:=Gs a b;lia) (ka.1.mul kb.1) (ka.2.mul kb.2) (by lia)
 rw[<-mul_eq] at hr;have bg:=hr;obtain⟨s5,w5,rfl,h5⟩:=aX;obtain⟨s6,w6,rfl,h6⟩:=jP;obtain⟨s7,w7,s8,w8,rfl,h7,h8⟩:=hr;have⟨l5,u5⟩:=h5.aO;have⟨l6,u6⟩:=h6.aO;have⟨l7,u7⟩:=h7.aO;have⟨l8,u8⟩:=h8.aO;refine⟨_,?_,bg⟩;unfold ab;rw[aD h.qJ];simp only[go_sem,ya,yb,c49,aQ,u1.pu,u1.aj,u1.one,u2.pu,u2.aj,u2.one,u3.pu,u3.aj,u3.one,u4.pu,u4.aj,u4.one,u5.aj,u6.aj,aY,yd,Ak,E5,b6,e1,e2,e3,bw,kZ u7 u8,cR,cS,yf,gY,lc u7 u8]
def m73(h:Fr' P L)(hv:bS v a)(h0:a≠0)(ka:Hq K a)(hK:K<=10000000000):∃r,ab P L 73 [v] r/\bS r a⁻¹:=by
 obtain⟨s1,w1,s2,w2,rfl,h1,h2⟩:=hv;have⟨l1,u1⟩:=h1.aO;have⟨l2,u2⟩:=h2.aO;have⟨r,e1,hr⟩:=XK h (v:=.agg [aa s2,w2]) (w:=.agg [aa s1,w1]) ⟨s2,w2,rfl,h2⟩ ⟨s1,w1,rfl,h1⟩ (fun e=>h0 (Rat.num_eq_zero.1 e)) ka.2 ka.1 (by lia);rw[<-Rat.inv_def] at hr;have bg:=hr;obtain⟨s7,w7,s8,w8,rfl,h7,h8⟩:=hr;have⟨l7,u7⟩:=h7.aO;have⟨l8,u8⟩:=h8.aO;refine⟨_,?_,bg⟩;unfold ab;rw[aD h.h73];simp only[go_sem,ya,yb,Za,aQ,u1.pu,u1.aj,u1.one,u2.pu,u2.aj,u2.one,aY,yd,Ak,E5,b6,e1,bw,kZ u7 u8,cR,cS,yf,gY,lc u7 u8]
def ZN(h:Fr' P L)(hv:bS v a)(hw:bS w b)(h0:b≠0)(ka:Hq K a)(kb:Hq K b)(hK:K<=10000000000):∃r,ab P L 70 [v,w] r/\bS r (a/b):=by
 have⟨n,e1,hn⟩:=m73 h hw h0 kb hK;have⟨r,e2,hr⟩:=S4 h hv hn ka kb.inv hK;have bg:=hr;obtain⟨s1,w1,s2,w2,rfl,h1,h2⟩:=hv;obtain⟨s3,w3,s4,w4,rfl,h3,h4⟩:=hw;obtain⟨s5,w5,s6,w6,rfl,h5,h6⟩:=hn;obtain⟨s7,w7,s8,w8,rfl,h7,h8⟩:=hr;have⟨l1,u1⟩:=h1.aO;have⟨l2,u2⟩:=h2.aO;have⟨l3,u3⟩:=h3.aO;have⟨l4,u4⟩:=h4.aO;have⟨l5,u5⟩:=h5.aO;have⟨l6,u6⟩:=h6.aO;have⟨l7,u7⟩:=h7.aO;have⟨l8,u8⟩:=h8.aO;refine⟨_,?_,bg⟩;unfold ab;rw[aD h.h70];simp only[go_sem,ya,yb,Y9,aQ,u1.pu,u1.aj,u1.one,u2.pu,u2.aj,u2.one,u3.pu,u3.aj,u3.one,u4.pu,u4.aj,u4.one,u5.aj,u6.aj,gY,b6,e1,e2,bw,kZ u7 u8,cR,cS,yf,gY,lc u7 u8]
end
def Ae:List AV->Option (List Nat)
 | []=>Gp []
 | .int .u64 (.ofNat d)::r=>bif yL d 18446744073709551616 then (match Ae r with | some l=>Gp (d::l) | none=>Gq) else Gq
 | _::_=>Gq
def Az:List Nat->Nat
 | []=>0
 | a::r=>a+18446744073709551616*Az r
def C8:List Nat->Bool
 | []=>false
 | [a]=> !yq a 0
 | _::r=>C8 r
def Pt:List AV->Option AV
 | [.agg [.int .i64 s,.ah]]=>bif C5 s then Gp (.str (aV s)) else Gq
 | [.agg [.int .i64 s,.ap _ n cs]]=>
  match Ae cs with
  | some l=>
   bif yq l.length n&&(yB n 4000000000&&(C8 l&&yB 9223372036854775808 (Az l))) then
    match s with
    | .ofNat 1=>Gp (.str (aB (Az l)))
    | .negSucc 0=>Gp (.str (45::aB (Az l)))
    | _=>Gq
   else Gq
  | none=>Gq
 | _=>Gq
def abo:∀{l:List Nat},lo (2^64) l->Ae (l.map uc)=Gp l
 | [],_=>rfl
 | a::l,h=>by
  have h1:=h a (by simp);have h2:=abo (l:=l) (fun x hx=>h x (by simp[hx]));show (bif yL a (2^64) then (match Ae (l.map uc) with | some l=>Gp (a::l) | none=>Gq) else Gq)=_
  rw[mr h1,h2];rfl
def Vn:∀l:List Nat,Az l=bv (2^64) l
 | []=>rfl
 | a::l=>by simp only[Az,bv,Vn l]
def adp:∀{l:List Nat},l≠[]->iJ l->C8 l=ydb
 | [],h,_=>absurd rfl h
 | [a],_,h=>by
  have:a≠0:=fun e=>by
   subst e;have h:ew [0]=[0]:=h;simp[ew] at h
  simp[C8,gU this]
 | a::b::r,_,h=>by
  have h1:iJ (b::r):=by
   have h:ew (a::b::r)=a::b::r:=h;rw[ew] at h
   grind
  have:=adp (l:=b::r) (by simp) h1
  simpa[C8] using this
structure Tx(P:aE)(L:Lib):Prop extends Fr' P L where
 IB:L.pure 99=Gp Pt
 aAY:L.pure 175=Gp KE
 ah5:L.pure 152=Gp Og
 XN:L.pure 153=Gp NY
 XO:L.pure 154=Gp Lu
 XP:L.pure 109=Gp QK
 ze:Has P L 155 Fi
 ah6:Has P L 172 QX
 aAZ:Has P L 151 QT
 aA0:Has P L 107 QN
 ZO:Has P L 46 SD
 ah7:Has P L 110 QO
 S5:Has P L 62 SE
def ZP(h:Tx P L){v:AV}{z:Int}{K:Nat}(hv:cD v z)(hz:Bd K z)(hK:K<=4000000000):ab P L 99 [v] (.str (aV z)):=by
 obtain⟨s,w,rfl,hn⟩:=hv;unfold ab;rw[kJ h.IB];rcases hn with ⟨rfl,rfl,h1,h2⟩ | ⟨e,l,rfl,g,n,hb,hs,h1⟩
 .show (bif C5 s then Gp (AV.str (aV s)) else Gq)=_
  have:C5 s=ydb:=by
   cases s with
   | ofNat k=>exact mr (by have:(Int.ofNat k)=(k:Int):=rfl;lia)
   | negSucc k=>exact mr (by lia)
  grind
 .have lR:l≠[]:=fun e=>by subst e;simp[bv] at hb;lia
  have AO:l.length<=4000000000:=xo (pV n hb (yG hz (CU K))) hK
  show (match Ae (l.map uc) with
   | some l'=>bif yq l'.length l.length&&(yB l.length 4000000000&&(C8 l'&&yB 9223372036854775808 (Az l'))) then (match s with | .ofNat 1=>Gp (AV.str (aB (Az l'))) | .negSucc 0=>Gp (.str (45::aB (Az l'))) | _=>Gq) else Gq
   | none=>Gq)=_
  rw[abo g];simp only[Nat.beq_refl,yv AO,adp lR n,Vn,hb,yv h1,vn,yu];by_cases h0:z<0
  .rw [yC h0] at hs;subst hs;rw[pC h0];rfl
  .rw [yr h0] at hs;subst hs;obtain⟨m,rfl⟩:∃m:Nat,z=m:=⟨z.toNat,by lia⟩;rfl
def RT(r:Rat):List Nat:=aV r.num++(if r.den=1 then [] else 47::aB r.den)
def J7{z:Int}{k:Nat}(h:Bd k z):(aV z).length<=k+1:=by
 have h1:∀m:Nat,m<2^k->(aB m).length<=max k 1:=fun m hm=>by
  cases k with
  | zero=>
       have:m=0:=by simpa using hm
       subst this;decide
  | succ k=>
   rw[Nat.max_eq_left (by lia)];exact zU (k:=k) (yG hm (ud (by decide) _))
 by_cases h0:z<0
 .rw [pC h0];unfold Bd at h
  grind
 .obtain ⟨m,rfl⟩:∃m:Nat,z=m:=⟨z.toNat,by lia⟩
  have:=h1 m (by unfold Bd at h;simpa using h)
  rw[nt];lia
def m46(h:Tx P L){v:AV}{a:Rat}{K:Nat}(hv:bS v a)(ka:Hq K a)(hK:K<=4000000000):ab P L 46 [v] (.str (RT a)):=by
 have i1:=ZM h.toFr' hv;obtain⟨s1,w1,s2,w2,rfl,h1,h2⟩:=hv;have⟨l1,u1⟩:=h1.aO;have⟨l2,u2⟩:=h2.aO;have e1:=ZP h (v:=.agg [aa s1,w1]) ⟨s1,w1,rfl,h1⟩ ka.1 hK;have e2:=ZP h (v:=.agg [aa s2,w2]) ⟨s2,w2,rfl,h2⟩ ka.2 hK;have b1:=J7 ka.1;have b2:=J7 ka.2;rw[nt] at e2 b2;unfold ab RT;rw[aD h.ZO];by_cases hd:a.den=1
 .rw [yC hd,List.append_nil];rw[hd] at i1;simp only[go_sem,ya,yb,SD,aQ,u1.pu,u1.aj,u1.one,u2.pu,u2.aj,u2.one,gY,b6,i1,aY,yd,Ak,e1]
 .rw [yr hd];rw[yW hd] at i1;have hc:aV a.num++47::aB a.den=(aV a.num++[47])++aB a.den:=by simp
  rw[hc]
  simp only[go_sem,ya,yb,SD,aQ,u1.pu,u1.aj,u1.one,u2.pu,u2.aj,u2.one,gY,b6,i1,aY,yd,Ak,E5,e1,e2,iC (a:=aV a.num) (b:=[47]) (by simp;lia),iC (a:=aV a.num++[47]) (b:=aB a.den) (by simp;lia)]
def aA1{n:Nat}(h:n<9223372036854775808):binOp .and (.int .i64 (n:Int)) (.int .i64 1)=Gp (.int .i64 ((n%2:Nat):Int)):=by
 show Gp (AV.int .i64 (IntKind.wrap .i64 ((wv 64 (n:Int)&&&wv 64 1).toNat:Int)))=_
 rw[show wv 64 (n:Int)=tB 64 n from BitVec.ofInt_natCast 64 n,show wv 64 1=tB 64 1 from rfl];rw[BitVec.toNat_and,vZ,vZ,show (1%2^64:Nat)=2^1-1 from rfl,Nat.and_two_pow_sub_one_eq_mod,wrapN (by lia)]
 grind
def aA2(n:Nat):binOp .shr (.int .i64 (n:Int)) (.int .u64 1)=Gp (.int .i64 ((n/2:Nat):Int)):=by
 show Gp (AV.int .i64 ((n:Int).fdiv (2^1)))=_
 grind
def Bd.pow{k:Nat}{z:Int}(h:Bd k z):∀e,Bd (k*e+1) (z^e)
 | 0=>by rw[yaP,xG];unfold Bd;decide
 | e+1=>by
  have ih:=Bd.pow h e;rw[Int.pow_succ];exact (ih.mul h).mono (by rw[xK,ym];lia)
def awy(h:Nu P L)(RS:True){z:Int}{K k0:Nat}(hz:Bd K z)(hK:K*k0+1<=30000000000){o1 o2:AV}:
  c6 P L [1,2,4,5] EC (fun m st=>∃(k i e:Nat) (s1 s2:Int) (w1 w2:AV),st=⟨[(1,aa k),(2,.ptr 0 0),(4,.ptr 1 0),(5,.ptr 2 0)],[(2,.cells ydb ydb ydb 2 [aa s2,w2]),(1,.cells ydb ydb ydb 2 [o1,o2]),(0,.cells ydb ydb ydb 2 [aa s1,w1])],3,0⟩/\dG s1 w1 (z^i)/\dG s2 w2 (z^e)/\e+i*k=k0/\(0<k->i<=k0)/\k<9223372036854775808/\k=m) (fun ex st'=>∃tm s2 w2 c0,st'=⟨tm,[(2,.cells ydb ydb ydb 2 [aa s2,w2]),(1,.cells ydb ydb ydb 2 [o1,o2]),(0,c0)],3,0⟩/\ex=.exit 0/\ak tm 4=.ptr 1 0/\ak tm 5=.ptr 2 0/\dG s2 w2 (z^k0)):=by
 apply c9;rintro m st ⟨k,i,e,s1,s2,w1,w2,rfl,h1,h2,hk,hi,hkb,rfl⟩;have⟨l1,u1⟩:=h1.aO;have⟨l2,u2⟩:=h2.aO;by_cases qj:k=0
 .right
  subst qj;rw[xG,yX] at hk;subst hk;simp only[go_sem,EC,show ¬(0:Int)<((0:Nat):Int) by lia];exact⟨_,_,rfl,by simp,_,s2,w2,_,rfl,rfl,rfl,rfl,h2⟩
 .left
  have cZ:=hi (by lia);have he:e<=k0:=by lia
  have hik:i*1<=i*k:=yV i (by lia);have b1:Bd (K*k0+1) (z^i):=(hz.pow i).mono (by have:=yV K cZ;lia)
  have b2:Bd (K*k0+1) (z^e):=(hz.pow e).mono (by have:=yV K he;lia)
  have n1:cD (.agg [aa s1,w1]) (z^i):=⟨s1,w1,rfl,h1⟩;have n2:cD (.agg [aa s2,w2]) (z^e):=⟨s2,w2,rfl,h2⟩;have⟨p,e1,hp⟩:=Dn h n2 n1 b2 b1 (by lia);have⟨q,e2,hq⟩:=Dn h n1 n1 b1 b1 (by lia);rw[<-Int.pow_add] at hp hq;obtain⟨s3,w3,rfl,h3⟩:=hp;obtain⟨s4,w4,rfl,h4⟩:=hq;have⟨l3,u3⟩:=h3.aO;have⟨l4,u4⟩:=h4.aO;have fc:=xX k 2;have NF:=aA1 (n:=k) hkb;have ZQ:=aA2 k;have aF3:(i+i)*(k/2)=i*(2*(k/2)):=by rw[<-Nat.two_mul,Nat.mul_comm 2 i,Nat.mul_assoc]
  by_cases aA3:k%2=1
  .rw [aA3] at NF fc;have zo:i*k=i*(2*(k/2))+i:=by
    conv=>lhs;rw[<-fc,xK,ym]
   by_cases fZ:1<k
   .simp only [go_sem,ya,EC,show (0:Int)<(k:Int) by lia,NF,show ((1:Nat):Int)=1 from rfl,bV,b6,u1.aj,u2.aj,e1,bw,bV,yf,eA u3,eA u4,show (1:Int)<(k:Int) by lia,e2,ZQ]
    exact⟨_,k/2,rfl,by lia,k/2,i+i,e+i,s4,s3,w4,w3,by simp only[go_sem,ya,yb,ax],h4,h3,by lia,fun h0=>by have:=yV (i+i) h0;lia,by lia,rfl⟩
   .have ia:e+i+i*(k/2)=k0:=by
     have h1:k/2=0:=by lia
     rw[h1] at zo ⊢
     lia
    simp only[go_sem,ya,EC,show (0:Int)<(k:Int) by lia,NF,show ((1:Nat):Int)=1 from rfl,bV,b6,u1.aj,u2.aj,e1,bw,bV,yf,eA u3,show ¬(1:Int)<(k:Int) by lia,ZQ];exact⟨_,k/2,rfl,by lia,k/2,i,e+i,s1,s3,w1,w3,by simp only[go_sem,ya,yb,ax],h1,h3,ia,fun h0=>by lia,by lia,rfl⟩
  .have AS:k%2=0:=by lia
   rw[AS] at NF fc;have zo:i*k=i*(2*(k/2)):=by
    conv=>lhs;rw[<-fc,yX]
   simp only[go_sem,ya,EC,show (0:Int)<(k:Int) by lia,NF,show ((0:Nat):Int)=0 from rfl,yaB,bV,b6,u1.aj,bw,bV,yf,eA u4,show (1:Int)<(k:Int) by lia,e2,ZQ]
   exact⟨_,k/2,rfl,by lia,k/2,i+i,e,s4,s2,w4,w2,by simp only[go_sem,ya,yb,ax],h4,h2,by lia,fun h0=>by have:=yV (i+i) h0;lia,by lia,rfl⟩
def XQ(h:Nu P L)(ze:Has P L 155 Fi){v:AV}{z:Int}{K k:Nat}(hv:cD v z)(hz:Bd K z)(hK:K*k+1<=30000000000)(hk:k<9223372036854775808):∃r,ab P L 155 [v,aa k] r/\cD r (z^k):=by
 have⟨o1,o2⟩:=FC h (z:=1) (by decide) (by decide);obtain⟨s1,w1,rfl,h1⟩:=hv;have⟨l1,u1⟩:=h1.aO;have un:=zV;have kw:∃s w,ab P L 155 [.agg [aa s1,w1],aa k] (.agg [aa s,w])/\dG s w (z^k):=by
  unfold ab;rw[aD ze];simp only[go_sem,ya,yb,Fi,aQ,u1.pu,u1.one,o1,bw,eA un];generalize hq:D P L (.loop _ EC) _=q;obtain⟨ex,st,rfl,tm,s5,w5,c1,rfl,rfl,t4,t5,h5⟩:=bL hq (awy (P:=P) (L:=L) h trivial hz (k0:=k) hK (o1:=.int .i64 0) (o2:=.ah) k) ⟨k,1,0,s1,1,w1,.ah,by simp only[go_sem,ya,yb,ax],by rw[Int.pow_one];exact h1,.inl ⟨rfl,(yaP z).symm,(by rw[yaP];decide)⟩,by lia,fun h0=>h0,hk,rfl⟩
  have⟨l5,u5⟩:=h5.aO;refine⟨s5,w5,?_,h5⟩;simp only[go_sem,ya,yb,ax,t4,t5,cR,cS,bV,yf,oE u5,eA u5]
 have⟨s,w,e,hn⟩:=kw;exact⟨_,e,s,w,rfl,hn⟩
def Kf:∀(l m:List Nat) (a:Nat),cL (l++m) a=(cL l a).bind (fun v=>cL m v)
 | [],m,a=>rfl
 | b::l,m,a=>by
  simp only[List.cons_append,cL]
  cases (yB 48 b&&yB b 57) with
  | true=>exact Kf l m _
  | false=>rfl
def aqA:∀{l:List Nat} {a v:Nat},cL l 0=Gp v->cL l a=Gp (a*10^l.length+v):=by
 intro l
 suffices h:∀{l:List Nat} {a b v:Nat},cL l b=Gp v->b*10^l.length<=v/\cL l (a+b)=Gp (a*10^l.length+v) by
  intro a v hv
  have:=(h (a:=a) hv).2
  grind
 intro l
 induction l with
 | nil=>intro a b v h;simp[cL] at h ⊢;lia
 | cons c l ih=>
  intro a b v h;simp only[cL] at h ⊢
  cases hb:(yB 48 c&&yB c 57) with
  | false=>rw[hb] at h;cases h
  | true=>
   rw[hb] at h;have⟨h1,h2⟩:=ih (a:=10*a) h;simp only[yF,xn]
   grind
def Vo:∀{l:List Nat} {v:Nat},cL l 0=Gp v->v<10^l.length:=by
 suffices h:∀{l:List Nat} {b v:Nat},cL l b=Gp v->v<(b+1)*10^l.length by
  grind
 intro l
 induction l with
 | nil=>intro b v h;simp[cL] at h ⊢;lia
 | cons c l ih=>
  intro b v h;simp only[cL] at h
  cases hb:(yB 48 c&&yB c 57) with
  | false=>rw[hb] at h;cases h
  | true=>
   simp only[Bool.and_eq_true] at hb;have hc:=Nat.le_of_ble_eq_true hb.2;have h2:=Nat.mul_le_mul_right (10^l.length) (show 10*b+(c-48)+1<=10*(b+1) by lia)
   grind
def asW(XO:L.pure 154=Gp Lu){f:cx}{s:List Nat}{v:Nat}(h0:0<s.length)(h1:s.length<=18)(hv:cL s 0=Gp v):bO P L f 154 [.str s]=Gp (.av [.int .i64 v,.undef]):=by
 rw[kJ XO];show (bif yL 0 s.length&&yB s.length 18 then (match cL s 0 with | some n=>Gp (AV.av [.int .i64 n,.undef]) | none=>Gq) else Gq)=_
 rw[mr h0,yv h1,hv];rfl
def ack:∀j:Nat,ja [48] j++[48]=[48]++ja [48] j
 | 0=>rfl
 | j+1=>by
  show ([48]++ja [48] j)++[48]=[48]++([48]++ja [48] j)
  rw[xD,ack j]
def GI:∀j:Nat,(ja [48] j).length=j
 | 0=>rfl
 | j+1=>by show ([48]++ja [48] j).length=_;rw[yJ,GI j];simp;lia
def aos:∀(k n:Nat),n<10^k->0<k->jK k n=ja [48] (k-(aB n).length)++aB n:=by
 intro k
 induction k with
 | zero=>intro n _ h;lia
 | succ k ih=>
  intro n hn _;rw[jK];by_cases jf:n<10
  .rw [qR jf,yT jf]
   cases k with
   | zero=>rfl
   | succ k=>
    rw[ih (n/10) (by rw[wb jf];exact ybO (by decide)) (by lia),wb jf]
    rw[show aB 0=[48] by decide];rw[ack];rfl
  .have hk:0<k:=by
    grind
   rw[ih (n/10) (by rw[xn] at hn;lia) hk,sM jf,xD,yJ]
   grind
def aot{m d r:Nat}(hd:d=m/1000000000000000000)(hr:r=m%1000000000000000000):(0<d->aB m=aB d++(ja [48] (18-(aB r).length)++aB r))/\(d=0->aB m=aB r):=by
 have ZI:r<10^18:=by lia
 constructor
 .intro h0;rw[<-aos 18 r ZI (by decide),<-OX 18 d r h0 ZI]
  grind
 .grind
def awz{f:cx}(h:L.pure 138=Gp Co){n:Nat}(hn:n<18446744073709551616):bO P L f 138 [uc n,aa 10]=Gp (.str (aB n)):=by
 rw[kJ h];show (bif yL n 18446744073709551616 then Gp (AV.str (aB n)) else Gq)=_
 rw[mr hn];rfl
def VV{f:cx}(h:L.pure 139=Gp CG){n:Nat}(hn:n<=100):bO P L f 139 [.str [48],aa (n:Nat)]=Gp (.str (ja [48] n)):=by
 rw[kJ h];show (bif yB n 1099511627776&&yB (1*n) 1099511627776 then Gp (AV.str (ja [48] n)) else Gq)=_
 rw[yv (by lia),yv (by lia)];rfl
def awA(h:Wd P L)(FF:L.pure 138=Gp Co)(BS:L.pure 139=Gp CG){neg:Bool}{M K:Nat}(ss:0<M)(hK:K<=4000000000)(hlen:(aB M).length<=300000000000):
  c6 P L [3,4,5,6] rz (fun k s=>∃(m:Nat) (w:AV) (ps:List (List Nat)) (fl:Bool),m=k/\WN w m/\m<18446744073709551616^K/\aB M=(if m=0 then [] else aB m)++ps.reverse.flatten/\((ps=[]->m=M)/\18*ps.length<=(aB M).length+18)/\(m≠0->18*ps.length+(aB m).length=(aB M).length)/\
    ((ps=[]/\s=⟨[(3,.bool neg),(4,w),(5,.aq 0 0 1),(6,.ah)],[(0,.cells fl ydb ydb 1 [uc 1000000000000000000])],1,0⟩)\/
    (ps≠[]/\s=⟨[(3,.bool neg),(4,w),(5,.aq 0 0 1),(6,.aq 1 0 ps.length)],[(1,.cells ydb ydb false 1 (ps.map .str)),(0,.cells fl ydb ydb 1 [uc 1000000000000000000])],2,0⟩))) (fun ex s'=>∃tm ps fl,ex=.exit 0/\ps≠[]/\ps.length<=300000000000/\aB M=ps.reverse.flatten/\ak tm 3=.bool neg/\ak tm 6=.aq 1 0 ps.length/\s'=⟨tm,[(1,.cells ydb ydb false 1 (ps.map .str)),(0,.cells fl ydb ydb 1 [uc 1000000000000000000])],2,0⟩):=by
 apply c9;rintro k s ⟨m,w,ps,fl,rfl,hw,hmK,Cj,ah8,nR,hs⟩;have⟨lw,uw,gw,nw,vw⟩:=hw;by_cases hm:m=0
 .right
  have lR:lw=[]:=List.eq_nil_of_length_eq_zero (Nat.le_zero.1 (pV (K:=0) nw vw (by rw[hm];decide)))
  subst lR;rw[yC hm,yy] at Cj;have eI:ps≠[]:=fun e=>by have:=ah8.1 e;lia
  have su:ps.length<=300000000000:=by have:=ah8.2;lia
  rcases hs with ⟨h0,_⟩ | ⟨_,rfl⟩
  .exact absurd h0 eI
  .simp only [go_sem,ya,rz,uw.len,yN,show ¬(0:Int)<((0:Nat):Int) by lia];exact⟨_,_,rfl,by simp,_,ps,fl,rfl,eI,su,Cj,rfl,rfl,rfl⟩
 .left
  have hw:WN w m:=⟨lw,uw,gw,nw,vw⟩;have hB:WN (.ap ydb 1 [uc 1000000000000000000]) 1000000000000000000:=⟨[1000000000000000000],oe ydb [1000000000000000000],He.2 (by decide),by decide,by simp[bv]⟩;have⟨q,r,e1,hq,hr⟩:=ahU h hw hB (K:=K+1) (by decide) (yG hmK (xa (by decide) (by lia))) (by rw[xn];have:=ybO (n:=K) (show 0<18446744073709551616 by decide);lia) (by lia)
  have⟨t1,t2⟩:=aot (m:=m) rfl rfl;have fc:=xX m 1000000000000000000;have hrB:=xJ m (show 0<1000000000000000000 by decide);obtain⟨d,hd⟩:∃d,d=m/1000000000000000000:=⟨_,rfl⟩;obtain⟨x,hx⟩:∃x,x=m%1000000000000000000:=⟨_,rfl⟩;rw[<-hd] at hq t1 t2 fc;rw[<-hx] at hr t1 t2 fc hrB;have⟨lq,uq,gq,nq,vq⟩:=hq;have⟨lr,ur,gr,nr,vr⟩:=hr;have YH:(aB x).length<=18:=zU (k:=17) (by lia);have hxp:=CC x;have Iu:(lr=[]/\x=0)\/lr=[x]:=by
   have h1:lr.length<=1:=pV (K:=1) nr vr (by rw[Nat.pow_one];lia)
   cases lr with
   | nil=>exact .inl ⟨rfl,by rw[<-vr];rfl⟩
   | cons a l=>
    cases l with
    | nil=>rw[CT] at vr;exact .inr (by rw[vr])
    | cons b l=>simp at h1
  have NG:(lq=[]/\d=0)\/(0<lq.length/\0<d):=by
   cases lq with
   | nil=>exact .inl ⟨rfl,by rw[<-vq];rfl⟩
   | cons a l=>
    refine .inr ⟨by simp,?_⟩;rcases Nat.eq_zero_or_pos d with h0 | h0
    .have:=pV (K:=0) nq vq (by rw[h0];decide)
     simp at this
    .exact h0
  unfold ab at e1;have DX:(0:Int)<(lw.length:Int):=by
   have:lw≠[]:=fun e=>by subst e;simp[bv] at vw;lia
   have:=List.length_pos_iff.2 this
   lia
  have aGh:=nR hm;have hmp:=CC m;have new:∀t:List Nat,aB m=(if d=0 then [] else aB d)++t->(d≠0->t.length=18)->
    aB M=(if d=0 then [] else aB d)++(ps++[t]).reverse.flatten/\((ps++[t]=[]->d=M)/\18*(ps++[t]).length<=(aB M).length+18)/\(d≠0->18*(ps++[t]).length+(aB d).length=(aB M).length):=fun t h1 h2=>by
   rw[yr hm,h1] at Cj;refine⟨by rw[Cj];simp,⟨by simp,by simp only[yJ,yF,yN];lia⟩,fun h0=>?_⟩
   have h3:=congrArg List.length h1;rw[yr h0,yJ,h2 h0] at h3;simp only[yJ,yF,yN]
   lia
  have Dp:d<m:=by lia
  have DY:WN q d:=⟨lq,uq,gq,nq,vq⟩;have me:lr=[x]->gH 1 0 r=Gp (.bC (.int .u64 x::([]:List AV))):=fun e=>by
   subst e
   have:=ur.bk (i:=0) (by simp)
   simpa using this
  have f1:=awz (P:=P) (f:=D P L) FF (n:=x) (by lia);have f2:=VV (P:=P) (f:=D P L) BS (n:=18-(aB x).length) (by lia);have XR:(18:Int)-((aB x).length:Int)=((18-(aB x).length:Nat):Int):=by lia
  have aGi:18*ps.length<=300000000000:=by lia
  have zl:(ja [48] (18-(aB x).length)++aB x).length=18:=by rw[yJ,GI];lia
  obtain⟨z,hz⟩:∃z,z=aB x:=⟨_,rfl⟩;have kO:x=0->z=[48]:=fun e=>by rw[hz,e];decide
  rw[<-hz] at f1 f2 XR YH hxp zl t1 t2;cases fl
  all_goals
   rcases NG with ⟨rfl,iK⟩ | ⟨S6,iK⟩
   .have ⟨n1,n2,n3⟩:=new z (by rw[yC iK,yy];exact t2 iK) (fun h=>absurd iK h)
    rcases Iu with ⟨rfl,Cd⟩ | rfl
    .have nj:=kO Cd;clear hz;subst nj;rcases hs with ⟨ju,rfl⟩ | ⟨ju,rfl⟩
     .subst ju;simp only[go_sem,ya,yb,xp,yx,yi,ym,rz,uw.len,uw.aj,uq.len,uq.bI,ur.len,ur.bI,DX,e1,yN,yN,show ¬(0:Int)<((0:Nat):Int) by lia,iA];refine⟨_,d,rfl,Dp,d,q,[]++[[48]],false,rfl,DY,by lia,n1,n2,n3,.inr ⟨by simp,?_⟩⟩;simp only[go_sem,ya,yb,ax,aG uq.pu]<;>rfl
     .simp only [go_sem,ya,yb,yx,yi,ym,rz,uw.len,uw.aj,uq.len,uq.bI,ur.len,ur.bI,DX,e1,yN,yN,show ¬(0:Int)<((0:Nat):Int) by lia]
      rw[gG (ex:=false) (pu:=ydb) (cs:=ps.map .str) rfl (by simp) (by lia) (by lia) (by decide) rfl];simp only[go_sem,ya,yb];refine⟨_,d,rfl,Dp,d,q,ps++[[48]],false,rfl,DY,by lia,n1,n2,n3,.inr ⟨by simp,?_⟩⟩;rw[xg,yJ];simp only[go_sem,ya,yb,ax,aG uq.pu]<;>rfl
    .rcases hs with ⟨ju,rfl⟩ | ⟨ju,rfl⟩
     .subst ju;simp only[go_sem,ya,yb,xp,yx,yi,ym,rz,uw.len,uw.aj,uq.len,uq.bI,ur.len,ur.bI,DX,e1,yF,yN,yd,show (0:Int)<((1:Nat):Int) by lia,me rfl,f1,yN,show ¬(0:Int)<((0:Nat):Int) by lia,iA];refine⟨_,d,rfl,Dp,d,q,[]++[z],false,rfl,DY,by lia,n1,n2,n3,.inr ⟨by simp,?_⟩⟩;simp only[go_sem,ya,yb,ax,aG uq.pu]<;>rfl
     .simp only [go_sem,ya,yb,yx,yi,ym,rz,uw.len,uw.aj,uq.len,uq.bI,ur.len,ur.bI,DX,e1,yF,yN,yd,show (0:Int)<((1:Nat):Int) by lia,me rfl,f1,yN,show ¬(0:Int)<((0:Nat):Int) by lia]
      rw[gG (ex:=false) (pu:=ydb) (cs:=ps.map .str) rfl (by simp) (by lia) (by lia) (by decide) rfl];simp only[go_sem,ya,yb];refine⟨_,d,rfl,Dp,d,q,ps++[z],false,rfl,DY,by lia,n1,n2,n3,.inr ⟨by simp,?_⟩⟩;rw[xg,yJ];simp only[go_sem,ya,yb,ax,aG uq.pu]<;>rfl
   .have ⟨n1,n2,n3⟩:=new (ja [48] (18-z.length)++z) (by rw[yr (by lia)];exact t1 iK) (fun _=>zl)
    rcases Iu with ⟨rfl,Cd⟩ | rfl
    .have nj:=kO Cd;clear hz;subst nj;rcases hs with ⟨ju,rfl⟩ | ⟨ju,rfl⟩
     .subst ju
      simp only[go_sem,ya,yb,xp,yx,yi,ym,rz,uw.len,uw.aj,uq.len,uq.bI,ur.len,ur.bI,DX,e1,yN,show ¬(0:Int)<((0:Nat):Int) by lia,show (0:Int)<(lq.length:Int) by lia,show (18:Int)-((1:Nat):Int)=((17:Nat):Int) from rfl,wrapN (n:=17) (by lia),VV (P:=P) (f:=D P L) BS (n:=17) (by lia),iC (a:=ja [48] 17) (b:=[48]) (by rw[GI];decide),iA]
      refine⟨_,d,rfl,Dp,d,q,[]++[ja [48] 17++[48]],false,rfl,DY,by lia,n1,n2,n3,.inr ⟨by simp,?_⟩⟩;simp only[go_sem,ya,yb,ax,aG uq.pu]<;>rfl
     .simp only [go_sem,ya,yb,yx,yi,ym,rz,uw.len,uw.aj,uq.len,uq.bI,ur.len,ur.bI,DX,e1,yN,show ¬(0:Int)<((0:Nat):Int) by lia,show (0:Int)<(lq.length:Int) by lia,show (18:Int)-((1:Nat):Int)=((17:Nat):Int) from rfl,wrapN (n:=17) (by lia),VV (P:=P) (f:=D P L) BS (n:=17) (by lia),iC (a:=ja [48] 17) (b:=[48]) (by rw[GI];decide)]
      rw[gG (ex:=false) (pu:=ydb) (cs:=ps.map .str) rfl (by simp) (by lia) (by lia) (by decide) rfl];simp only[go_sem,ya,yb];refine⟨_,d,rfl,Dp,d,q,ps++[ja [48] 17++[48]],false,rfl,DY,by lia,n1,n2,n3,.inr ⟨by simp,?_⟩⟩;rw[xg,yJ];simp only[go_sem,ya,yb,ax,aG uq.pu]<;>rfl
    .rcases hs with ⟨ju,rfl⟩ | ⟨ju,rfl⟩
     .subst ju
      simp only[go_sem,ya,yb,xp,yx,yi,ym,rz,uw.len,uw.aj,uq.len,uq.bI,ur.len,ur.bI,DX,e1,yF,yN,yd,show (0:Int)<((1:Nat):Int) by lia,me rfl,f1,show (0:Int)<(lq.length:Int) by lia,XR,wrapN (n:=18-z.length) (by lia),f2,iC (a:=ja [48] (18-z.length)) (b:=z) (by rw[GI];lia),iA]
      refine⟨_,d,rfl,Dp,d,q,[]++[ja [48] (18-z.length)++z],false,rfl,DY,by lia,n1,n2,n3,.inr ⟨by simp,?_⟩⟩;simp only[go_sem,ya,yb,ax,aG uq.pu]<;>rfl
     .simp only [go_sem,ya,yb,yx,yi,ym,rz,uw.len,uw.aj,uq.len,uq.bI,ur.len,ur.bI,DX,e1,yF,yN,yd,show (0:Int)<((1:Nat):Int) by lia,me rfl,f1,show (0:Int)<(lq.length:Int) by lia,XR,wrapN (n:=18-z.length) (by lia),f2,iC (a:=ja [48] (18-z.length)) (b:=z) (by rw[GI];lia)]
      rw[gG (ex:=false) (pu:=ydb) (cs:=ps.map .str) rfl (by simp) (by lia) (by lia) (by decide) rfl];simp only[go_sem,ya,yb];refine⟨_,d,rfl,Dp,d,q,ps++[ja [48] (18-z.length)++z],false,rfl,DY,by lia,n1,n2,n3,.inr ⟨by simp,?_⟩⟩;rw[xg,yJ];simp only[go_sem,ya,yb,ax,aG uq.pu]<;>rfl
def Mz:Nat->VC->VC
 | 0,c=>bD c
 | n+1,c=>.seq (bD c) (Mz n (aC c))
def BB:Nat->VC->VC
 | 0,c=>aC c
 | n+1,c=>BB n (aC c)
def amU(h:Nu P L)(FF:L.pure 138=Gp Co)(BS:L.pure 139=Gp CG){s z:Int}{e:Bool}{l:List Nat}(hn:dG s (.ap e l.length (l.map uc)) z){K:Nat}(nj:0<z.natAbs)(S7:z.natAbs<18446744073709551616^K)(hK:K<=4000000000)(hlen:(aB z.natAbs).length<=300000000000):
  ∃ps:List (List Nat),ps≠[]/\ps.length<=300000000000/\aB z.natAbs=ps.reverse.flatten/\D P L (Mz 5 F1.body) ⟨[(0,.agg [aa s,.ap e l.length (l.map uc)])],[],0,0⟩=Gp (.normal,⟨[(3,.bool (decide (z<0))),(6,.aq 0 0 ps.length)],[(0,.cells ydb ydb false 1 (ps.map .str))],1,0⟩):=by
 have⟨r,e1,hr⟩:=BR h hn;have bg:=hr;have⟨lr,ur,gr,nr,vr⟩:=hr;simp only[go_sem,ya,yb,yi,ym,F1,Mz,bD,aC,aQ,aY,yd,df,pL,eM,bV,b6,e1];generalize nV:D P L (.loop _ rz) _=qq;obtain⟨ex,st,rfl,tm,ps,fl,rfl,eI,su,Cj,t3,t6,rfl⟩:=bL nV (awA (P:=P) (L:=L) h.toWd FF BS (neg:=decide (z<0)) (M:=z.natAbs) (K:=K) nj hK hlen z.natAbs) ⟨z.natAbs,bI r,[],ydb,rfl,bg,S7,by rw[yr (by lia)];simp,⟨fun _=>rfl,by simp⟩,fun _=>by simp,.inl ⟨rfl,by
  simp only[go_sem,ya,yb,ax,aG ur.pu]<;>rfl⟩⟩
 refine⟨ps,eI,su,Cj,?_⟩;simp only[go_sem,yb,ax,t3,t6]
section
open Go
section
variable {au:List AV}{s:St}
variable {O:bz}
def BC:Nat->vz->vz
 | 0,.seq _ b=>b
 | n+1,.seq _ b=>BC n b
 | _,c=>c
def RY:Nat->vz->Prop
 | 0,.seq _ _=>True
 | n+1,.seq _ b=>RY n b
 | _,_=>False
def adq(hO:iR O){h:Nat}{c:vz}{l k:Nat}{ex:Ex}{s':St}(hv:D O.prog O.aJ (comp O.P (O.hint h) c l k).1 s=Gp (ex,s')):C3 O h c s ex s':=by
 have⟨n,hn⟩:=Xr hv
 cases n with
 | zero=>rw[Ko] at hn;cases hn
 | succ n=>
  exact ad9 hO n (fun k _=>aaH hO k) h c l k n (yp _) s ex s' hn
def afd(hO:iR O){h:Nat}{ro:Option Nat}{lo:Nat}{Q:Exit->Act->yk->Prop}:∀(n:Nat) (c:vz) (l k:Nat),RY n c->∀(s s1:St),D O.prog O.aJ (Mz n (comp O.P (O.hint h) c l k).1) s=Gp (.normal,s1)->
  ∀(m:Mp) (S:Nat->Prop) (w:yk) (a:Act),Br ro w->bX O m S w s.tm a.tmps->aT O m S w s.hp s.ct->s.base<=s.ct->(O.hint h).n<=a.tmps.size->O.w0.heap.size<=lo->lo<=w.heap.size->Marks lo S w a.defers->
  (∀a' w',fa O m S w s .normal s1 a.tmps.size lo .normal a' w'->(BC n c).wpIn (WF ro) 0 O.P Q a' w')->c.wpIn (WF ro) 0 O.P Q a w
 | n,c,l,k,hc,s,s1,hv=>by
  intro m S w a cT ht hh hb hn bh fD cm hQ
  cases c with
  | seq x y=>
   cases n with
   | zero=>
    refine wpIn_seq (wpIn_mono (adq hO (show D O.prog O.aJ (comp O.P (O.hint h) x l k).1 s=Gp (.normal,s1) from hv) ro lo m S w a cT ht hh hb hn bh fD cm) ?_);rintro e a' w' hp;have he:e=.normal:=hp.1;subst he;exact hQ a' w' hp
   | succ n=>
    have eK:D O.prog O.aJ (.seq (comp O.P (O.hint h) x l k).1 (Mz n (comp O.P (O.hint h) y (comp O.P (O.hint h) x l k).2.1 (comp O.P (O.hint h) x l k).2.2).1)) s=Gp (.normal,s1):=hv;rw[nI] at eK
    cases hx:D O.prog O.aJ (comp O.P (O.hint h) x l k).1 s with
    | none=>rw[hx] at eK;cases eK
    | some q=>
     have⟨ex,st⟩:=q;rw[hx] at eK
     cases ex with
     | ret=>exact absurd eK (by intro h;cases h)
     | exit id=>exact absurd eK (by intro h;cases h)
     | normal=>
      refine wpIn_seq (wpIn_mono (adq hO hx ro lo m S w a cT ht hh hb hn bh fD cm) ?_);rintro e a' w' ⟨rfl,m',S',k1,k2,k3,k4,k5,k6,k7⟩;refine afd hO n y _ _ hc st s1 eK m' S' w' a' (Oz k5 cT) k1 k2 (by lia) (by lia) bh (xo fD k5.size) k7 ?_;rintro a2 w2 ⟨_,m2,S2,g1,g2,g3,g4,g5,g6,g7⟩;exact hQ a2 w2 ⟨rfl,m2,S2,g1,g2,by lia,by lia,k5.trans (by rw[<-k3];exact g5),by lia,g7⟩
  | _=>cases n<;>exact hc.elim
def awB(hO:iR O){n:Nat}{F:az}(hF:O.prog n=Gp F){fn:yaH}{c:vz}(mC:O.P.funcs[O.ae n]? =Gp fn)(kE:fn.body=Gp c){hp:Hp}{ct:Nat}(hc:(comp O.P (O.hint n) c 0 0).1=F.body->∀m S w a,bX O m S w (fA 0 au) a.tmps->aT O m S w hp ct->(O.hint n).n<=a.tmps.size->a.tmps.size=max fn.ntmps au.length->O.w0.heap.size<=w.heap.size->a.defers=[]->
   c.wpIn (WF Gq) 0 O.P (fa O m S w ⟨fA 0 au,hp,ct,ct⟩ .ret s a.tmps.size w.heap.size) a w){v:AV}(hr:jA s F.dR=Gp v):C2 O n hp ct au v s.hp s.ct:=by
 intro m S w args hh eN;have⟨fn',q1,q2,q3⟩:=hO.prog n F hF;rw[mC] at q1;cases q1;have⟨c',q4,q5,q6,q7⟩:=Tv q2;rw[kE] at q4;cases q4;refine .inl ⟨GH mC (by rw[kE];rfl) q3,?_⟩
 have hlen:au.length=args.size:=by have:=(iz _ _ eN).symm;simpa using this
 have hw:=hc q5.symm m S w {tmps:=args++Array.replicate (fn.ntmps-args.size) undef,defers:=[]} (ab2 _ eN) hh (by simp;lia) (by simp;lia) hh.gI rfl
 refine callsIn_of_wp_marks (F:=ybp) mC kE trivial (wpIn_mono hw ?_);rintro e a' w' ⟨rfl,m',S',k1,k2,k3,k4,k5,k6,rs,k7,k8,k9⟩;show LeavesInM ybp 0 O.P fn a'.tmps (Bh O m S w hp ct v s.hp s.ct) a'.defers .returning w'
 rw[k7];exact Uc q6 hr k4 rs w' k8 k9 hh.gI k2 k1 k5
def aqB(hO:iR O){n:Nat}{F:az}(hF:O.prog n=Gp F){fn:yaH}{c:vz}(mC:O.P.funcs[O.ae n]? =Gp fn)(kE:fn.body=Gp c)(hc:(comp O.P (O.hint n) c 0 0).1=F.body->∀m S w a,bX O m S w (fA 0 au) a.tmps->aT O m S w [] 0->(O.hint n).n<=a.tmps.size->a.tmps.size=max fn.ntmps au.length->O.w0.heap.size<=w.heap.size->a.defers=[]->
   c.wpIn (WF Gq) 0 O.P (fa O m S w ⟨fA 0 au,[],0,0⟩ .ret s a.tmps.size w.heap.size) a w){v r:AV}(hv:jA s F.dR=Gp v)(hr:result s.hp v=Gp r):eG O n au r:=
 Tn (awB hO hF mC kE hc hv) hr
end
end
section
open Go
def abp{ae:Nat->Nat}{m:Mp}{S:Nat->Prop}{w:yk}{b:Nat}:∀{ps:List (List Nat)} {o:Nat},bU ae m S w (ps.map .str) b o->
  ∃ts:List ByteArray,(ts.map fun t=>t.data.toList.map xr)=ps/\∀i (h:i<ts.length),w.cell? ⟨b,o+i,Gq⟩=Gp (.string ts[i])
 | [],o,_=>⟨[],rfl,fun i h=>absurd h (Nat.not_lt_zero i)⟩
 | p::ps,o,h=>by
  have⟨⟨u,h1,h2⟩,h3⟩:=h;obtain⟨t,rfl,ht⟩:=h2;have⟨ts,k1,k2⟩:=abp h3;refine⟨t::ts,by rw[List.map_cons,ht,k1],fun i hi=>?_⟩
  cases i with
  | zero=>exact h1
  | succ i=>
   grind
def pW(ts:List ByteArray):List UInt8:=(ts.map fun t=>t.data.toList).flatten
def asX{ts:List ByteArray}{ps:List (List Nat)}(h:(ts.map fun t=>t.data.toList.map xr)=ps):(pW ts.reverse).map xr=ps.reverse.flatten:=by
 subst h;unfold pW;rw[List.map_flatten,tz,<-yay];rfl
def asY{ts:List ByteArray}{ps:List (List Nat)}(h:(ts.map fun t=>t.data.toList.map xr)=ps):(ts.map (·.size)).sum=ps.reverse.flatten.length:=by
 subst h;rw[List.length_flatten,yay,List.sum_reverse,tz]
 congr 1
 simp_all
def Vp(P:Program)(c:vz):Prop:=∀(Q:Exit->Act->yk->Prop) (a:Act) (w:yk) (neg:Bool) (ts:List ByteArray) (b o cc:Nat),a.tmps.size=69->a.tmps.getD 3 undef=.bool neg->a.tmps.getD 6 undef=.slice (Gp ⟨b,o,Gq⟩) ts.length cc->
  (∀i (h:i<ts.length),w.cell? ⟨b,o+i,Gq⟩=Gp (.string ts[i]))->(ts.map (·.size)).sum+1<=140737488355328->ts.length<=cc->ts.length<9223372036854775808->
  (∀a' w',Calm w w'->a'.tmps.size=69->a'.defers=a.defers->a'.tmps.getD 2 undef=.string ⟨((if neg then [45] else [])++pW ts.reverse).toArray⟩->Q .ret a' w')->
  (BC 5 c).wpIn Fence.wide 0 P Q a w
section
variable {O:bz}
def amV{n K:Nat}(h:n<18446744073709551616^K):(aB n).length<=20*K+1:=by
 refine zU (k:=20*K) (yG h ?_);have h1:(10:Nat)^(20*K)=(10^20)^K:=Nat.pow_mul ..;exact xo (by rw[h1];exact ud (by decide) K) (xa (by decide) (Nat.le_succ _))
def aqC(hO:iR O)(hN:Nu O.prog O.aJ)(FF:O.aJ.pure 138=Gp Co)(BS:O.aJ.pure 139=Gp CG)(IB:O.prog 99=Gp F1){fn:yaH}{c:vz}(mC:O.P.funcs[O.ae 99]? =Gp fn)(kE:fn.body=Gp c)(Sq:fn.ntmps=69)(XS:RY 5 c)(ht:Vp O.P c){s z:Int}{e:Bool}{l:List Nat}(hn:dG s (.ap e l.length (l.map uc)) z)(nj:0<z.natAbs)(hK:l.length<=4000000000)(S7:z.natAbs<18446744073709551616^l.length):
  eG O 99 [.agg [aa s,.ap e l.length (l.map uc)]] (.str (aV z)):=by
 have hlen:=amV S7;have⟨ps,eI,su,Cj,e1⟩:=amU (P:=O.prog) (L:=O.aJ) hN FF BS hn nj S7 hK (by lia)
 refine aqB hO IB mC kE (s:=⟨[(2,.str (aV z))],[(0,.cells ydb ydb false 1 (ps.map .str))],1,0⟩) (v:=.str (aV z)) ?_ rfl rfl;intro ay3 m S w a htr hh AQ eO hgs Gd;refine afd hO 5 c 0 0 XS _ _ (by rw[ay3];exact e1) m S w a (fun l hl=>by cases hl) htr hh (yp _) AQ hgs (yp _) ⟨[],by rw[Gd];rfl,by simp,by simp⟩ ?_
 rintro a' w' ⟨_,m',S',k1,k2,k3,k4,k5,k6,k7⟩;have r3:=k1 3;have r6:=k1 6;have g3:ak [(3,AV.bool (decide (z<0))),(6,.aq 0 0 ps.length)] 3=.bool (decide (z<0)):=rfl;have g6:ak [(3,AV.bool (decide (z<0))),(6,.aq 0 0 ps.length)] 6=.aq 0 0 ps.length:=rfl;rw[g3] at r3;rw[g6] at r6;simp only[af] at r3 r6;have⟨p,cc,hm,r6,hcc,_⟩:=r6;have⟨p',arr,t,ig,_,_,_,_,_,BZ,_⟩:=k2.obj 0 _ p rfl hm;rw[hm] at ig;cases ig;have⟨ts,nh,E1⟩:=abp BZ;have qh:ts.length=ps.length:=by rw[<-nh,List.length_map]
 have rJ:=asY nh;rw[<-Cj] at rJ;have XT:=asX nh;rw[<-Cj] at XT;refine ht _ a' w' (decide (z<0)) ts p.b p.o cc ?_ r3 (by rw[qh];exact r6) E1 (by lia) (by lia) (by lia) ?_
 .grind
 .intro a2 w2 hc h1 h2 h3;have Na:=Ct k2 hc (S':=S') (fun _ h=>h) (fun _ h=>.inl h) (fun b hb=>yG (k2.slt b hb) hc.size);refine⟨rfl,m',S',?_,Na,rfl,Nat.zero_le _,k5.trans (Bj k2 hc (fun _ h=>h) (fun _ h=>.inl h)),?_,?_⟩
  .intro i;by_cases hi:i=2
   .subst hi;rw[h3];show af O.ae m' S' w2 (.str (aV z)) _
    simp only[af];refine⟨_,rfl,?_⟩;by_cases h0:z<0
    .rw [pC h0,xk h0];simp only[xP,xg];rw[XT];rfl
    .obtain ⟨n,rfl⟩:∃n:Nat,z=n:=⟨z.toNat,by lia⟩;rw[yW h0];simp only[yD,xz,yy];rw[XT];rfl
   .have:ak [(2,AV.str (aV z))] i=.undef:=by
     have hb:yq 2 i=false:=by
      cases hq:yq 2 i with
      | false=>rfl
      | true=>exact absurd (Nat.eq_of_beq_eq_true hq).symm hi
     simp only[ak,hb,yP]
    show af O.ae m' S' w2 (ak [(2,AV.str (aV z))] i) _
    rw[this];simp only[af]
  .rw [h1,eO,Sq];simp
  .rw [h2]
   exact Cu k2 (Bj (base:=0) k2 hc (fun _ h=>h) (fun _ h=>.inl h)) k7
end
end
end VE
