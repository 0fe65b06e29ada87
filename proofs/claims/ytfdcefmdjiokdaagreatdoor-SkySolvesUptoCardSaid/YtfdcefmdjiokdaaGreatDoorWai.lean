import Derived.Test.YtfdcefmdjiokdaaGreatDoorWah
set_option linter.all false
set_option maxRecDepth 100000
open BitVec renaming ofInt->wC,ofNat->tu,toNat_ofNat->ui
open Bool renaming and_self->xt,false_eq_true->yH,not_false->yQ,not_true->yM
open Go renaming Code->vG,Func->yaF,World->yt
open Go.Fence renaming wide->ybs
open Int renaming ediv_emod_unique->tY,gcd->vE,gcd_comm->ycw,natAbs_ediv_of_dvd->uY,natAbs_mul->ybT,natCast_mul->xS,pow_zero->yaO,reduceEq->uf,reduceLT->ycv
open List renaming append_assoc->xu,drop_zero->yh,length_append->yE,length_cons->yB,length_nil->yI,length_pos_iff->uZ,map_append->yX,map_map->vH,map_reverse->yaz,nil_append->xy
open Nat renaming add_zero->xg,beq->yG,ble->yO,ble_eq_true_of_le->yC,blt->yU,div_add_mod->wF,div_eq_of_lt->wZ,div_le_self->vK,le_refl->ym,le_trans->xB,lt_of_le_of_lt->wM,lt_of_lt_of_le->yT,mod_eq_of_lt->y8,mod_le->ycM,mod_lt->xV,mul_add->xO,mul_le_mul_left->yZ,mul_lt_mul''->th,mul_one->yf,mul_zero->xP,pow_add->wP,pow_le_pow_left->vR,pow_le_pow_right->y9,pow_one->ycE,pow_pos->ybL,pow_succ->xJ,reduceAdd->yb,reduceEqDiff->ya,reduceLT->yA,reduceLeDiff->yi,reduceMul->yV,zero_add->yd
open Rat renaming den_divInt->ybV,divInt->wW,divInt_ofNat->ybH,lt_iff->ycN,num_divInt->ybU,sub_eq_add_neg->yas
open UInt8 renaming toNat->xp
open Option renaming some->Ix,none->Iy
open Bool renaming true->ycO,false->ycP
namespace VE
open Go (IntKind)
variable {P:aJ}{L:Lib}
variable{o1 o2 v w1 w2 x:AV}{tm:Env}{hp:Hp}{a s1 s2:Int}{ps:List (List Nat)}{K ct d:Nat}
section
variable {w:AV}{a b z:Int}{k m:Nat}
def dD(s:Int)(w:AV)(z:Int):Prop:=
 (w=.ae/\s=z/\-9223372036854775808<=z/\z<9223372036854775808)\/
 (∃e l,w=.aF e l.length (l.map uc)/\lo (2^64) l/\jm l/\bv (2^64) l=z.natAbs/\s=(if z<0 then -1 else 1)/\9223372036854775808<=z.natAbs)
def cM(v:AV)(z:Int):Prop:=∃s w,v=.agg [aa s,w]/\dD s w z
def Bd(k:Nat)(z:Int):Prop:=z.natAbs<2^k
def Et(k:Nat):2^k<=(2^64)^k:=vR (by decide) k
def Bd.mono(h:Bd k z)(hk:k<=m):Bd m z:=yT h (y9 (by decide) hk)
def Bd.neg(h:Bd k z):Bd k (-z):=by unfold Bd at h ⊢;rwa[Int.natAbs_neg]
def Bd.add(ha:Bd k a)(hb:Bd m b):Bd (max k m+1) (a+b):=by
 have h1:Bd (max k m) a:=ha.mono (by lia);have h2:Bd (max k m) b:=hb.mono (by lia);unfold Bd at h1 h2 ⊢
 grind
def Bd.mul(ha:Bd k a)(hb:Bd m b):Bd (k+m) (a*b):=by
 unfold Bd at*
 rw[ybT,wP];exact th ha hb
def Bd.le(hb:Bd k b)(h:a.natAbs<=b.natAbs):Bd k a:=wM h hb
def WN.pos(h:WN v m)(h0:0<m):∃e l,v=.aF e l.length (l.map uc)/\l≠[]/\lo (2^64) l/\jm l/\bv (2^64) l=m:=by
 have⟨l,hv,g,n,hb⟩:=h;have hl:l≠[]:=fun e=>by subst e;simp[bv] at hb;lia
 rcases hv with ⟨_,e⟩ | ⟨e,rfl⟩
 .simp_all
 .exact ⟨e,l,by simp,hl,g,n,hb⟩
def WN.aH(h:WN v m):∃l,bL v l/\lo (2^64) l/\jm l/\bv (2^64) l=m:=h
def ss(e:Bool)(n:Nat)(cs:List AV):mf .sl (.aF e n cs) .ae=Ix ycP:=rfl
def jd:mf .sl .ae .ae=Ix ycO:=rfl
def SI(hp:Hp)(ct id:Nat)(a:Int)(e:Bool)(n:Nat)(cs:List AV)(x y:AV):fN hp ct id 0 2 [.int .i64 a,.aF e n cs] (Ix (.cells ycO ycO ycO 2 [x,y]))=Ix (.ax [],aV hp id (.cells ycO ycO ycO 2 [.int .i64 a,.aF e n cs]),ct):=gQ rfl rfl rfl rfl
def Bx{a y:AV}{r:List (Nat×Nat×X)}(h:bF a=ycO):iH tm [x,y] 0 1 [a] r=fill tm [a,y] r:=aiy (by simp) h
def dD.zA(h1: -9223372036854775808<=z)(h2:z<9223372036854775808):cM (.agg [aa z,.ae]) z:=⟨z,.ae,rfl,.inl ⟨rfl,rfl,h1,h2⟩⟩
def dD.cA{s:Int}(h:dD s w z):(s<0↔z<0)/\(s=0↔z=0)/\-9223372036854775808<=s/\s<9223372036854775808:=by
 rcases h with ⟨_,rfl,h1,h2⟩ | ⟨e,l,_,_,_,_,rfl,h1⟩
 .grind
 .grind
structure Nu(P:aJ)(L:Lib):Prop extends Wd P L where
 aEg:Has P L 117 Uy
 aEh:Has P L 142 UA
 abl:Has P L 136 OJ
 Pf:Has P L 145 De
 aEi:Has P L 146 aaV
 abm:Has P L 147 OL
 amq:Has P L 163 UF
 aEj:Has P L 118 Hi
 amr:Has P L 119 c119
 aEk:Has P L 156 aaY
 Vb:Has P L 100 qu
 abn:Has P L 164 qv
 aEl:Has P L 148 aaW
 aEm:Has P L 130 aaU
def Hx(h:Nu P L)(h1: -9223372036854775808<=z)(h2:z<9223372036854775808):ah P L 117 [aa z] (.agg [aa z,.ae])/\cM (.agg [aa z,.ae]) z:=⟨n117 h.aEg z,dD.zA h1 h2⟩
def abo(h:Nu P L){n:Int}(h1: -9223372036854775808<=n)(h2:n<9223372036854775808):ah P L 142 [aa n] (uc n.natAbs):=by
 unfold ah;rw[aB h.aEh];by_cases h0:n<0
 .have e:IntKind.wrap .u64 (IntKind.wrap .i64 (0-n))=(n.natAbs:Int):=by
   by_cases hm:n= -9223372036854775808
   .subst hm;rfl
   .rw [wrap64 (by lia) (by lia),TI];lia
  simp only[go_sem,ya,UA,h0,ajx,e]
 .have e:IntKind.wrap .u64 n=(n.natAbs:Int):=by rw[TI];lia
  simp only[go_sem,ya,UA,h0,ajx,e]
def Dj(h:Nu P L){s:Int}(hz:dD s w z):∃r,ah P L 136 [.agg [aa s,w]] (.ax [.bool (decide (z<0)),r])/\WN (cd r) z.natAbs:=by
 rcases hz with ⟨rfl,rfl,h1,h2⟩ | ⟨e,l,rfl,g,n,hb,hs,h1⟩
 .by_cases h0:s=0
  .subst h0;refine⟨.ae,?_,[],CD,S6,rfl,rfl⟩;unfold ah;rw[aB h.abl];simp only[go_sem,ya,yb,OJ,aG,aZ,yd,cD,jd,N1,ycv];rfl
  .have e1:=abo h h1 h2;refine⟨.bR ycO 1 1 [uc s.natAbs],?_,[s.natAbs],qZ ycO [s.natAbs],Jq.2 (by lia),IG (by lia) [],Es _⟩;unfold ah;rw[aB h.abl];simp only[go_sem,ya,yb,yi,yf,OJ,aG,aZ,yd,cD,jd,N1,h0,e1];rfl
 .have qF:decide (s<0)=decide (z<0):=by rw[hs];split<;>simp<;>lia
  refine⟨.aF e l.length (l.map uc),?_,l,qZ e l,g,n,hb⟩;unfold ah;rw[aB h.abl];simp only[go_sem,ya,yb,OJ,aG,aZ,yd,cD,ss,N1,qF];rfl
def agp(h:d<=9223372036854775807):IntKind.wrap .i64 (d:Int)=d:=wrapN (by lia)
def Hy(h:Nu P L)(neg:Bool)(hw:WN w m)(hm:m<(2^64)^K)(hK:K<=90000000000):∃r,ah P L 145 [.bool neg,w] r/\cM r (cJ neg m):=by
 have⟨l,hu,g,n,hb⟩:=hw;have A5:l.length<=90000000000:=xB (sJ n hb hm) hK;by_cases h0:l=[]
 .subst h0
  have:m=0:=by rw[<-hb];rfl
  subst this;have e:cJ neg 0=0:=by unfold cJ;cases neg<;>rfl
  rw[e];refine⟨.agg [aa 0,.ae],?_,dD.zA (by decide) (by decide)⟩;unfold ah;rw[aB h.Pf];simp only[go_sem,ya,yb,De,aG,hu.len,yI,show (((0:Nat):Nat):Int)=0 from rfl,BG];rfl
 .have nI:0<l.length:=uZ.2 h0;by_cases h1:l.length=1/\l.getD 0 0<=9223372036854775807
  .have ⟨h1,h2⟩:=h1;obtain⟨d,rfl⟩:∃d,l=[d]:=by
    cases l with
    | nil=>simp at h1
    | cons d r=>cases r with
     | nil=>exact⟨d,rfl⟩
     | cons e r=>simp at h1
   have h2:d<=9223372036854775807:=h2;rw[Es] at hb;subst hb;have ex:=hu.aT (i:=0) (by simp);rw[show ([d]:List Nat).getD 0 0=d from rfl] at ex;have hlen:∀hp,fu hp 1 w=Ix (.int .i64 1):=fun hp=>hu.len
   cases neg with
   | true=>
    refine⟨.agg [aa (0-(d:Int)),.ae],?_,?_⟩
    .unfold ah;rw[aB h.Pf]
     simp only[go_sem,ya,yb,yi,De,aG,hlen,uf,ex,show (d:Int)<=9223372036854775807 by lia,S8,agp h2,wrap64 (n:=0-(d:Int)) (by lia) (by lia),BG];rfl
    .have:cJ ycO d=0-(d:Int):=by unfold cJ;simp
     rw[this];exact dD.zA (by lia) (by lia)
   | false=>
    refine⟨.agg [aa (d:Int),.ae],?_,?_⟩
    .unfold ah;rw[aB h.Pf];simp only[go_sem,ya,yb,yi,De,aG,hlen,uf,ex,show (d:Int)<=9223372036854775807 by lia,S8,agp h2,BG];rfl
    .have:cJ ycP d=(d:Int):=by unfold cJ;simp
     rw[this];exact dD.zA (by lia) (by lia)
  .have WG:9223372036854775808<=m:=by
    rw[<-hb];by_cases h2:l.length=1
    .obtain ⟨d,rfl⟩:∃d,l=[d]:=by
      cases l with
      | nil=>simp at h2
      | cons d r=>cases r with
       | nil=>exact⟨d,rfl⟩
       | cons e r=>simp at h2
     have:¬d<=9223372036854775807:=fun hd=>h1 ⟨h2,hd⟩
     rw[Es];lia
    .have h3:=Zu (b:=2^64) (by decide) n h0;have h4:(2^64)^1<=(2^64)^(l.length-1):=y9 (by decide) (by lia);rw[ycE] at h4
     lia
   have dC:∃e,w=.aF e l.length (l.map uc):=by
    rcases hu with ⟨rfl,hh⟩ | ⟨e,rfl⟩
    .simp at hh;exact absurd hh h0
    .exact ⟨e,by simp⟩
   obtain⟨e,rfl⟩:=dC;have ex:=hu.aT (i:=0) nI;have first:(decide ((l.length:Int)=1)=ycO/\¬((l.getD 0 0:Nat):Int)<=9223372036854775807)\/decide ((l.length:Int)=1)=ycP:=by
    by_cases h2:l.length=1
    .left;refine⟨by simp;lia,fun hd=>h1 ⟨h2,by lia⟩⟩
    .right;simp;lia
   cases neg with
   | true=>
    refine⟨.agg [aa (-1),.aF e l.length (l.map uc)],?_,-1,_,rfl,.inr ⟨e,l,rfl,g,n,by rw[hb];unfold cJ;simp,by unfold cJ;simp;lia,by unfold cJ;simp;lia⟩⟩
    unfold ah;rw[aB h.Pf];rcases first with ⟨f1,f2⟩ | f1
    .simp only [go_sem,ya,yb,yi,De,aG,show ¬(l.length:Int)=0 by lia,f1,f2,ex,Bx,SI];rfl
    .simp only [go_sem,ya,yb,yi,De,aG,show ¬(l.length:Int)=0 by lia,f1,Bx,SI];rfl
   | false=>
    refine⟨.agg [aa 1,.aF e l.length (l.map uc)],?_,1,_,rfl,.inr ⟨e,l,rfl,g,n,by rw[hb];unfold cJ;simp,by unfold cJ;simp,by unfold cJ;simp;lia⟩⟩
    unfold ah;rw[aB h.Pf];rcases first with ⟨f1,f2⟩ | f1
    .simp only [go_sem,ya,yb,yi,De,aG,show ¬(l.length:Int)=0 by lia,f1,f2,ex,Bx,SI];rfl
    .simp only [go_sem,ya,yb,yi,De,aG,show ¬(l.length:Int)=0 by lia,f1,Bx,SI];rfl
end
section
variable {v w:AV}{a b s z:Int}{l:List Nat}{K:Nat}
def aX:VC->VC
 | .seq a _=>a
 | c=>c
def auP{x y:Nat}(ha:a.natAbs=x)(hb:b.natAbs=y)(h:decide (a<0)=decide (b<0)):cJ (decide (a<0)) (x+y)=a+b:=by
 unfold cJ
 grind
def ahm{m:Nat}(hm:m+b.natAbs=a.natAbs)(h:¬decide (a<0)=decide (b<0)):cJ (decide (a<0)) m=a+b:=by
 unfold cJ
 grind
def auQ:cJ (!decide (a<0)) a.natAbs= -a:=by
 unfold cJ
 grind
def ahn:cJ (decide (a<0) !=decide (b<0)) (a.natAbs*b.natAbs)=a*b:=by
 unfold cJ
 grind
def qg(h:bL w l)(hp:Hp):result hp (.agg [aa s,w])=Ix (.agg [aa s,w]):=by
 rcases h with ⟨rfl,_⟩ | ⟨e,rfl⟩<;>rfl
def eD(h:bL w l)(hp:Hp)(ct id:Nat)(x y:AV):fN hp ct id 0 2 [.int .i64 s,w] (Ix (.cells ycO ycO ycO 2 [x,y]))=Ix (.ax [],aV hp id (.cells ycO ycO ycO 2 [.int .i64 s,w]),ct):=gQ rfl h.one rfl h.pu
def dD.aH(h:dD s w z):∃l,bL w l:=by
 rcases h with ⟨rfl,_⟩ | ⟨e,l,rfl,_⟩
 .exact ⟨[],CD⟩
 .exact ⟨l,qZ e l⟩
def ala(hp:Hp)(sz:Nat)(ag:Bool):AV->Option AV
 | .ptr id o=>Wv sz ag o (au hp id)
 | .aQ cs=>gJ sz ag cs
 | _=>Iy
def de(tm:Env)(hp:Hp)(ct base i sz:Nat)(ag:Bool):results1 ⟨tm,hp,ct,base⟩ (.cell i sz ag)=ala hp sz ag (ab tm i):=by
 rfl
def df(hp:Hp)(sz:Nat)(ag:Bool)(id o:Nat):ala hp sz ag (.ptr id o)=Wv sz ag o (au hp id):=rfl
def Kl(h:Nu P L)(hv:cM v z):ah P L 146 [v] (aa (cA z)):=by
 obtain⟨s,w,rfl,hn⟩:=hv;have⟨l,hu⟩:=hn.aH;have e:cA s=cA z:=by
  have⟨h1,h2,_⟩:=hn.cA;unfold cA;by_cases h0:z<0
  .rw [yK h0,yK (h1.2 h0)]
  .by_cases h3:z=0
   .rw [yx (fun h=>h0 (h1.1 h)),yK (h2.2 h3),yx h0,yK h3]
   .rw [yx (fun h=>h0 (h1.1 h)),yx (fun h=>h3 (h2.1 h)),yx h0,yx h3]
 unfold ah;rw[aB h.aEi];simp only[go_sem,ya,yb,aaV,aG,hu.pu,hu.one,aZ,yd,GR,NZ,Gg,M2,azS,e]
def Km(h:Nu P L)(hv:cM v z)(hz:Bd K z)(hK:K<=90000000000):∃r,ah P L 147 [v] r/\cM r (-z):=by
 obtain⟨s,w,rfl,hn⟩:=hv;have⟨p,e1,hp⟩:=Dj h hn;have⟨lp,jE,_⟩:=hp.aH;have⟨r,e2,hr⟩:=Hy h (!decide (z<0)) hp (yT hz (Et K)) hK;rw[auQ] at hr;have bt:=hr;obtain⟨s',w',rfl,fg⟩:=hr;have⟨l',lE⟩:=fg.aH;rcases hn with ⟨rfl,rfl,h1,h2⟩ | ⟨e,l0,rfl,g,n,hb,hs,h1⟩
 .by_cases h0:s= -9223372036854775808
  .refine ⟨_,?_,bt⟩;unfold ah;rw[aB h.abm];simp only[go_sem,ya,yb,OL,aG,aZ,yd,cD,jd,eV,h0];rw[h0] at e1 e2;simp only[go_sem,ya,cF,a7,e1,e2,jE.af,bf,de,df,cF,yh,qg lE,eD lE]
  .refine ⟨.agg [aa (-s),.ae],?_,dD.zA (by lia) (by lia)⟩;unfold ah;rw[aB h.abm]
   simp only[go_sem,ya,yb,OL,aG,aZ,yd,cD,jd,eV,h0,wrap64 (n:=0-s) (by lia) (by lia),BG,Bx];rw[Int.zero_sub];rfl
 .refine ⟨_,?_,bt⟩;unfold ah;rw[aB h.abm];simp only[go_sem,ya,yb,OL,aG,aZ,yd,cD,ss,eV,cF,a7,e1,e2,jE.af,bf,de,df,cF,yh,qg lE,eD lE]
def ams(h:Nu P L)(hv:cM v z)(hz:Bd K z)(hK:K<=90000000000):∃r,ah P L 163 [v] r/\cM r (z.natAbs:Nat):=by
 have gD:=hv;obtain⟨s,w,rfl,hn⟩:=hv;have⟨l,hu⟩:=hn.aH;have Be:=hn.cA.1;by_cases h0:z<0
 .have ⟨r,e1,hr⟩:=Km h gD hz hK;rw[show -z=(z.natAbs:Int) by lia] at hr;have bt:=hr;obtain⟨s',w',rfl,fg⟩:=hr;have⟨l',lE⟩:=fg.aH;refine⟨_,?_,bt⟩;unfold ah;rw[aB h.amq];simp only[go_sem,ya,yb,UF,aG,hu.pu,hu.af,hu.one,aZ,yd,Be.2 h0,cF,a7,e1,bf,de,df,cF,yh,qg lE,eD lE]
 .rw [show ((z.natAbs:Nat):Int)=z by lia];refine⟨_,?_,gD⟩;unfold ah;rw[aB h.amq];simp only[go_sem,ya,yb,UF,aG,hu.pu,hu.one,aZ,yd,show ¬s<0 from fun h=>h0 (Be.1 h),cF,de,df,cF,yh,qg hu,eD hu]
def az9(h:Nu P L)(ha:dD s1 w1 a)(hb:dD s2 w2 b)(ka:Bd K a)(kb:Bd K b)(hK:K<=40000000000):
  ∃r,cM r (a+b)/\∀tm,ab tm 2=.ptr 0 0->ab tm 3=.ptr 1 0->ab tm 4=.ptr 2 0->fp [.cell 4 2 ycO] (D P L (aA (aA c119.body)) ⟨tm,[(2,.cells ycO ycO ycO 2 [.int .i64 0,.ae]),(1,.cells ycO ycO ycO 2 [aa s2,w2]),(0,.cells ycO ycO ycO 2 [aa s1,w1])],3,0⟩)=Ix r:=by
 have⟨l1,u1⟩:=ha.aH;have⟨l2,u2⟩:=hb.aH;have⟨p,e1,hp⟩:=Dj h ha;have⟨q,e2,hq⟩:=Dj h hb;have⟨lp,jE,gp,np,vp⟩:=hp.aH;have⟨lq,sY,gq,nq,vq⟩:=hq.aH;have FK:=yT ka (Et K);have Lc:=yT kb (Et K);have llp:lp.length<=40000000000:=xB (sJ np vp FK) hK;have llq:lq.length<=40000000000:=xB (sJ nq vq Lc) hK;by_cases hs:decide (a<0)=decide (b<0)
 .have ⟨o,rR,e3,ho,rQ,no,vo⟩:=aDY h.aD8 h.qB h.jg jE sY gp gq (by lia) (by lia);have⟨r,e4,hr⟩:=Hy h (decide (a<0)) ⟨rR,ho,rQ,no,vo⟩ (K:=K+1) (by rw[vp,vq,xJ];lia) (by lia)
  rw[auP vp.symm vq.symm hs] at hr;have bt:=hr;obtain⟨s',w',rfl,fg⟩:=hr;have⟨l',lE⟩:=fg.aH;refine⟨_,bt,fun tm t2 t3 t4=>?_⟩;simp only[go_sem,ya,c119,aA,t2,t3,cF,a7,u1.af,u2.af,e1,e2,jE.af,sY.af,eV,zP,hs,yaJ];rw[hs] at e4;simp only[go_sem,ya,t4,e3,ho.af,ho.shut,e4,bf,de,df,cF,yh,qg lE,eD lE]
 .have mT:(decide (a<0)==decide (b<0))=ycP:=by simpa using hs
  have e3:=amb h.amm jE sY gp gq np nq (by lia) (by lia);rw[vp,vq] at e3;by_cases hc:b.natAbs<=a.natAbs
  .have ⟨o,rR,e4,ho,rQ,no,vo⟩:=amc h.amn h.qB h.BZ jE sY gp gq nq (by lia) (by rw[vp,vq];exact hc)
   rw[vp,vq] at vo;have⟨r,e5,hr⟩:=Hy h (decide (a<0)) ⟨rR,ho,rQ,no,rfl⟩ (K:=K) (by lia) (by lia);rw[ahm vo hs] at hr;have bt:=hr;obtain⟨s',w',rfl,fg⟩:=hr;have⟨l',lE⟩:=fg.aH;have fh:(0:Int)<=eL a.natAbs b.natAbs:=by unfold eL;rw[yx (by lia)];split<;>decide
   refine⟨_,bt,fun tm t2 t3 t4=>?_⟩;simp only[go_sem,ya,c119,aA,t2,t3,t4,cF,a7,u1.af,u2.af,e1,e2,jE.af,sY.af,eV,zP,mT,e3,fh,e4,ho.af,ho.shut,e5,bf,de,df,cF,yh,qg lE,eD lE]
  .have ⟨o,rR,e4,ho,rQ,no,vo⟩:=amc h.amn h.qB h.BZ sY jE gq gp np (by lia) (by rw[vp,vq];lia)
   rw[vp,vq] at vo;have⟨r,e5,hr⟩:=Hy h (decide (b<0)) ⟨rR,ho,rQ,no,rfl⟩ (K:=K) (by lia) (by lia);rw[ahm vo (fun e=>hs e.symm),Int.add_comm] at hr;have bt:=hr;obtain⟨s',w',rfl,fg⟩:=hr;have⟨l',lE⟩:=fg.aH;have fh:¬(0:Int)<=eL a.natAbs b.natAbs:=by unfold eL;rw[yK (by lia)];decide
   refine⟨_,bt,fun tm t2 t3 t4=>?_⟩;simp only[go_sem,ya,c119,aA,t2,t3,t4,cF,a7,u1.af,u2.af,e1,e2,jE.af,sY.af,eV,zP,mT,e3,fh,e4,ho.af,ho.shut,e5,bf,de,df,cF,yh,qg lE,eD lE]
def Pg(h:Nu P L)(hv:cM v a)(hw:cM w b)(ka:Bd K a)(kb:Bd K b)(hK:K<=40000000000):∃r,ah P L 119 [v,w] r/\cM r (a+b):=by
 obtain⟨s1,w1,rfl,h1⟩:=hv;obtain⟨s2,w2,rfl,h2⟩:=hw;have⟨l2,u2⟩:=h2.aH;have⟨r,hr,tail⟩:=az9 h h1 h2 ka kb hK;have fin:∀tm,ab tm 2=.ptr 0 0->ab tm 3=.ptr 1 0->ab tm 4=.ptr 2 0->
   D P L (.seq (aX c119.body) (aX (aA c119.body))) ⟨[(0,.agg [aa s1,w1]),(1,.agg [aa s2,w2])],[],0,0⟩=Ix (.normal,⟨tm,[(2,.cells ycO ycO ycO 2 [.int .i64 0,.ae]),(1,.cells ycO ycO ycO 2 [aa s2,w2]),(0,.cells ycO ycO ycO 2 [aa s1,w1])],3,0⟩)->ah P L 119 [.agg [aa s1,w1],.agg [aa s2,w2]] r:=fun tm t2 t3 t4 e=>by
  unfold ah;rw[aB h.amr];show fp [.cell 4 2 ycO] (D P L (.seq (aX c119.body) (.seq (aX (aA c119.body)) (aA (aA c119.body)))) ⟨[(0,.agg [aa s1,w1]),(1,.agg [aa s2,w2])],[],0,0⟩)=_
  have e2:D P L (.seq (aX c119.body) (.seq (aX (aA c119.body)) (aA (aA c119.body)))) ⟨[(0,.agg [aa s1,w1]),(1,.agg [aa s2,w2])],[],0,0⟩=ju P L (D P L (.seq (aX c119.body) (aX (aA c119.body))) ⟨[(0,.agg [aa s1,w1]),(1,.agg [aa s2,w2])],[],0,0⟩) (aA (aA c119.body)):=by
   rw[nv,nv]
   cases D P L (aX c119.body) ⟨[(0,.agg [aa s1,w1]),(1,.agg [aa s2,w2])],[],0,0⟩ with
   | none=>rfl
   | some q=>
    have⟨ex,st⟩:=q
    cases ex with
    | normal=>rw[il,il,nv]
    | ret=>rfl
    | exit id=>rfl
  rw[e2,e,il];exact tail tm t2 t3 t4
 rcases h1 with ⟨rfl,rfl,a1,a2⟩ | ⟨e,l,rfl,ga,na,va,sa,a1⟩
 .rcases h2 with ⟨rfl,rfl,b1,b2⟩ | ⟨e,l,rfl,gb,nb,vb,sb,b1⟩
  .by_cases fM: -9223372036854775808<=s1+s2/\s1+s2<9223372036854775808
   .refine ⟨.agg [aa (s1+s2),.ae],?_,dD.zA fM.1 fM.2⟩;have e:decide (s1<s1+s2)=decide (0<s2):=by
     by_cases h:0<s2
     .simp only [h,yo];exact xG (by lia)
     .simp only [h,yp];exact xn (by lia)
    unfold ah;rw[aB h.amr]
    simp only[go_sem,ya,yb,c119,aG,BG,jd,eV,zP,aZ,yd,cD,wrap64 (n:=s1+s2) fM.1 fM.2,e,yaJ,Bx];rfl
   .have e:(decide (s1<IntKind.wrap .i64 (s1+s2))==decide (0<s2))=ycP:=by
     have hw:(9223372036854775808<=s1+s2/\IntKind.wrap .i64 (s1+s2)=s1+s2-2^64)\/(s1+s2< -9223372036854775808/\IntKind.wrap .i64 (s1+s2)=s1+s2+2^64):=by
      simp only[IntKind.wrap,IntKind.bits,IntKind.signed,Bool.true_and]
      split<;>rename_i h<;>simp at h<;>lia
     by_cases h0:0<s2
     .rw [xG h0,xn (by lia)];rfl
     .rw [xn h0,xG (by lia)];rfl
    refine⟨r,fin _ ?_ ?_ ?_ (by simp only[go_sem,ya,yb,aX,aA,c119,aG,jd,eV,zP,aZ,yd,cD,e]<;>rfl),hr⟩<;>simp only[go_sem,ya]
  .refine ⟨r,fin _ ?_ ?_ ?_ (by simp only[go_sem,ya,yb,aX,aA,c119,aG,jd,ss,eV,aZ,yd,cD]<;>rfl),hr⟩<;>simp only[go_sem,ya]
 .refine ⟨r,fin _ ?_ ?_ ?_ (by simp only[go_sem,ya,yb,aX,aA,c119,aG,u2.pu,u2.one,ss,eV,aZ,yd,cD]<;>rfl),hr⟩<;>simp only[go_sem,ya]
end
section
variable {v w:AV}{a b:Int}{K:Nat}
def Gh{P:aJ}{L:Lib}(a b c:VC)(s:St):D P L (.seq a (.seq b c)) s=ju P L (D P L (.seq a b) s) c:=by
 rw[nv,nv]
 cases D P L a s with
 | none=>rfl
 | some q=>
  have⟨ex,st⟩:=q
  cases ex with
  | normal=>rw[il,il,nv]
  | ret=>rfl
  | exit id=>rfl
def ajE{s s':Int}{w':AV}{l l':List Nat}(h:bL w l)(h':bL w' l')(hp:Hp):result hp (.ax [.agg [aa s,w],.agg [aa s',w']])=Ix (.ax [.agg [aa s,w],.agg [aa s',w']]):=by
 rcases h with ⟨rfl,_⟩ | ⟨e,rfl⟩<;>rcases h' with ⟨rfl,_⟩ | ⟨e',rfl⟩<;>rfl
def Vc(tm:Env)(hp:Hp)(ct:Nat)(rs:List (Nat×Bool×Nat))(sz:Nat)(p:AV)(new:List AV):iS:=match p with | .ptr id o=>bif zH tm id rs then fN hp ct id o sz new (au hp id) else Iy | _=>Iy
def Vd(id:Nat):AV->Bool | .ptr j _=> !yG j id | .aQ _=>ycO | _=>ycP
def Zz{P:aJ}{L:Lib}(f:cG)(tm:Env)(hp:Hp)(ct:Nat)(rs:List (Nat×Bool×Nat))(sz:Nat)(x v:X):bq P L f tm hp ct (.oA rs sz x v)=Vc tm hp ct rs sz (aC tm x) (cellsOf (aC tm v)):=by
 simp only[bq,Vc]
 cases hx:aC tm x with
 | ptr id o=>
  rw[ahe,hx,ak0]
 | _=>rfl
def ZA{rs:List (Nat×Bool×Nat)}{sz id o:Nat}{new:List AV}(h:zH tm id rs=ycO):Vc tm hp ct rs sz (.ptr id o) new=fN hp ct id o sz new (au hp id):=by
 simp only[Vc,h,yN]
def YV(tm:Env)(id:Nat):zH tm id []=ycO:=(rfl)
def Yu(tm:Env)(id sz x:Nat)(ag:Bool)(r:List (Nat×Bool×Nat)):zH tm id ((sz,ag,x)::r)=(Vd id (ab tm x)&&zH tm id r):=by
 simp only[zH,Vd]
 grind
def ZB{id j o:Nat}(h:j≠id):Vd id (.ptr j o)=ycO:=by simp only[Vd,jL h,yQ]
def amt(h:Nu P L)(hv:cM v a)(hw:cM w b)(ka:Bd K a)(kb:Bd K b)(hK:K<=40000000000):∃r,ah P L 156 [v,w] r/\cM r (a-b):=by
 have⟨n,e1,hn⟩:=Km h hw kb (by lia);have⟨r,e2,hr⟩:=Pg h hv hn ka kb.neg hK;have bt:=hr;obtain⟨s1,w1,rfl,h1⟩:=hv;obtain⟨s2,w2,rfl,h2⟩:=hw;obtain⟨s3,w3,rfl,h3⟩:=hn;obtain⟨s4,w4,rfl,h4⟩:=hr;have⟨l1,u1⟩:=h1.aH;have⟨l2,u2⟩:=h2.aH;have⟨l3,u3⟩:=h3.aH;have⟨l4,u4⟩:=h4.aH;refine⟨_,?_,bt⟩;unfold ah;rw[aB h.aEk];simp only[go_sem,ya,yb,aaY,aG,u1.pu,u1.af,u1.one,u2.pu,u2.af,u2.one,u3.af,a7,e1,e2,bf,de,df,cF,yh,qg u4,eD u4]
def amu(h:Nu P L)(hv:cM v a)(hw:cM w b)(ka:Bd K a)(kb:Bd K b)(hK:K<=40000000000):ah P L 118 [v,w] (aa (cA (a-b))):=by
 have⟨d,e1,hd⟩:=amt h hv hw ka kb hK;have e2:=Kl h hd;obtain⟨s1,w1,rfl,h1⟩:=hv;obtain⟨s2,w2,rfl,h2⟩:=hw;obtain⟨s3,w3,rfl,h3⟩:=hd;have⟨l2,u2⟩:=h2.aH;have⟨l3,u3⟩:=h3.aH;unfold ah;rw[aB h.aEj];rcases h1 with ⟨rfl,rfl,a1,a2⟩ | ⟨e,l,rfl,ga,na,va,sa,a1⟩
 .rcases h2 with ⟨rfl,rfl,b1,b2⟩ | ⟨e,l,rfl,gb,nb,vb,sb,b1⟩
  .by_cases c1:s1<s2
   .rw [show cA (s1-s2)= -1 by unfold cA;rw[yK (by lia)]];simp only[go_sem,ya,yb,Hi,aG,jd,eV,aZ,yd,cD,c1]
   .by_cases c2:s2<s1
    .rw [show cA (s1-s2)=1 by unfold cA;rw[yx (by lia),yx (by lia)]];simp only[go_sem,ya,yb,Hi,aG,jd,eV,aZ,yd,cD,c1,c2]
    .rw [show cA (s1-s2)=0 by unfold cA;rw[yx (by lia),yK (by lia)]];simp only[go_sem,ya,yb,Hi,aG,jd,eV,aZ,yd,cD,c1,c2]
  .simp only [go_sem,ya,yb,Hi,aG,jd,ss,eV,aZ,yd,cD,cF,a7,e1,e2,u3.af,bf]
 .simp only [go_sem,ya,yb,Hi,aG,u2.pu,u2.af,u2.one,ss,eV,aZ,yd,cD,cF,a7,e1,e2,u3.af,bf]
def aAa(h:Nu P L)(ha:dD s1 w1 a)(hb:dD s2 w2 b)(ka:Bd K a)(kb:Bd K b)(hK:K<=40000000000):
  ∃r,cM r (a*b)/\∀tm,ab tm 2=.ptr 0 0->ab tm 3=.ptr 1 0->ab tm 4=.ptr 2 0->fp [.cell 4 2 ycO] (D P L (aA (aA qu.body)) ⟨tm,[(2,.cells ycO ycO ycO 2 [.int .i64 0,.ae]),(1,.cells ycO ycO ycO 2 [aa s2,w2]),(0,.cells ycO ycO ycO 2 [aa s1,w1])],3,0⟩)=Ix r:=by
 have⟨l1,u1⟩:=ha.aH;have⟨l2,u2⟩:=hb.aH;have⟨p,e1,hp⟩:=Dj h ha;have⟨q,e2,hq⟩:=Dj h hb;have⟨lp,jE,gp,np,vp⟩:=hp.aH;have⟨lq,sY,gq,nq,vq⟩:=hq.aH;have FK:=yT ka (Et K);have Lc:=yT kb (Et K);have llp:lp.length<=40000000000:=xB (sJ np vp FK) hK;have llq:lq.length<=40000000000:=xB (sJ nq vq Lc) hK;have⟨o,rR,e3,ho,rQ,no,vo⟩:=aD1 h.aD9 h.qB h.qC h.jg jE sY gp gq (by lia) (by lia);have⟨r,e4,hr⟩:=Hy h (decide (a<0) !=decide (b<0)) ⟨rR,ho,rQ,no,vo⟩ (K:=K+K) (by rw[vp,vq,wP];exact th FK Lc) (by lia)
 rw[vp,vq,ahn] at hr;have bt:=hr;obtain⟨s',w',rfl,fg⟩:=hr;have⟨l',lE⟩:=fg.aH;refine⟨_,bt,fun tm t2 t3 t4=>?_⟩;have Cc:∀x y:Bool,O7 ycO (Ix (x==y))=Ix (.bool (x !=y)):=fun x y=>by cases x<;>cases y<;>rfl
 simp only[go_sem,ya,qu,aA,t2,t3,t4,cF,a7,u1.af,u2.af,e1,e2,jE.af,sY.af,zP,Cc,e3,ho.af,ho.shut,e4,bf,de,df,cF,yh,qg lE,eD lE]
def auR{m:Nat}(h:a.natAbs*b.natAbs=m):a*b=if (decide (a<0)==decide (b<0))=ycO then (m:Int) else 0-(m:Int):=by
 have:=ahn (a:=a) (b:=b)
 rw[h] at this;unfold cJ at this
 cases hd:(decide (a<0)==decide (b<0)) with
 | true=>simp only[bne,hd,yM,yH,xr] at this;exact this.symm
 | false=>simp only[bne,hd,yQ,xL] at this;rw[yx (by decide)];lia
def B2(h:Nu P L)(hv:cM v a)(hw:cM w b)(ka:Bd K a)(kb:Bd K b)(hK:K<=40000000000):∃r,ah P L 100 [v,w] r/\cM r (a*b):=by
 obtain⟨s1,w1,rfl,h1⟩:=hv;obtain⟨s2,w2,rfl,h2⟩:=hw;have⟨l1,u1⟩:=h1.aH;have⟨l2,u2⟩:=h2.aH;have⟨r,hr,tail⟩:=aAa h h1 h2 ka kb hK;have fin:∀tm,ab tm 2=.ptr 0 0->ab tm 3=.ptr 1 0->ab tm 4=.ptr 2 0->
   D P L (.seq (aX qu.body) (aX (aA qu.body))) ⟨[(0,.agg [aa s1,w1]),(1,.agg [aa s2,w2])],[],0,0⟩=Ix (.normal,⟨tm,[(2,.cells ycO ycO ycO 2 [.int .i64 0,.ae]),(1,.cells ycO ycO ycO 2 [aa s2,w2]),(0,.cells ycO ycO ycO 2 [aa s1,w1])],3,0⟩)->ah P L 100 [.agg [aa s1,w1],.agg [aa s2,w2]] r:=fun tm t2 t3 t4 e=>by
  unfold ah;rw[aB h.Vb];show fp [.cell 4 2 ycO] (D P L (.seq (aX qu.body) (.seq (aX (aA qu.body)) (aA (aA qu.body)))) ⟨[(0,.agg [aa s1,w1]),(1,.agg [aa s2,w2])],[],0,0⟩)=_
  rw[Gh,e,il];exact tail tm t2 t3 t4
 rcases h1 with ⟨rfl,rfl,a1,a2⟩ | ⟨e,l,rfl,ga,na,va,sa,a1⟩
 .rcases h2 with ⟨rfl,rfl,b1,b2⟩ | ⟨e,l,rfl,gb,nb,vb,sb,b1⟩
  .have f1:=abo h a1 a2;have f2:=abo h b1 b2;have f3:=S9 (P:=P) (f:=D P L) h.qC (x:=s1.natAbs) (y:=s2.natAbs) (by lia) (by lia);obtain⟨m,hm⟩:∃m,s1.natAbs*s2.natAbs=m:=⟨_,rfl⟩;rw[hm] at f3;have oF:=auR hm;by_cases fM:m<=9223372036854775807
   .rw [wZ (by lia),y8 (by lia)] at f3;rw[show (uc 0)=AV.int .u64 0 from rfl] at f3;by_cases hs:(decide (s1<0)==decide (s2<0))=ycO
    .rw [yK hs] at oF;refine⟨.agg [aa (m:Int),.ae],?_,by rw[oF];exact dD.zA (by lia) (by lia)⟩
     unfold ah;rw[aB h.Vb]
     simp only[go_sem,ya,yb,qu,aG,BG,jd,eV,N1,zP,aZ,yd,cD,f1,f2,f3,show (m:Int)<=9223372036854775807 by lia,hs,S8,wrap64 (n:=(m:Int)) (by lia) (by lia),Bx];rfl
    .rw [yx hs] at oF;refine⟨.agg [aa (0-(m:Int)),.ae],?_,by rw[oF];exact dD.zA (by lia) (by lia)⟩
     unfold ah;rw[aB h.Vb]
     simp only[go_sem,ya,yb,qu,aG,BG,jd,eV,N1,zP,aZ,yd,cD,f1,f2,f3,show (m:Int)<=9223372036854775807 by lia,hs,S8,wrap64 (n:=(m:Int)) (by lia) (by lia),wrap64 (n:=0-(m:Int)) (by lia) (by lia),Bx];rfl
   .by_cases sZ:m/2^64=0
    .rw [sZ,y8 (by lia)] at f3;rw[show (uc 0)=AV.int .u64 0 from rfl] at f3;refine⟨r,fin _ ?_ ?_ ?_ (by simp only[go_sem,ya,yb,aX,aA,qu,aG,jd,eV,aZ,yd,cD,f1,f2,f3,show ¬(m:Int)<=9223372036854775807 by lia]<;>rfl),hr⟩<;>simp only[go_sem,ya]
    .obtain ⟨q,hq⟩:∃q,q=m/2^64:=⟨_,rfl⟩;rw[<-hq] at f3 sZ;refine⟨r,fin _ ?_ ?_ ?_ (by simp only[go_sem,ya,yb,aX,aA,qu,aG,jd,eV,aZ,yd,cD,f1,f2,f3,show ¬(q:Int)=0 by lia]<;>rfl),hr⟩<;>simp only[go_sem,ya]
  .refine ⟨r,fin _ ?_ ?_ ?_ (by simp only[go_sem,ya,yb,aX,aA,qu,aG,jd,ss,eV,aZ,yd,cD]<;>rfl),hr⟩<;>simp only[go_sem,ya]
 .refine ⟨r,fin _ ?_ ?_ ?_ (by simp only[go_sem,ya,yb,aX,aA,qu,aG,u2.pu,u2.one,ss,eV,aZ,yd,cD]<;>rfl),hr⟩<;>simp only[go_sem,ya]
end
def asF{b:Int}{q r:Nat}(hb:0<b)(h:q=a.natAbs/b.natAbs)(h2:r=a.natAbs%b.natAbs):
  (cJ (decide (a<0)) r<0->a/b=cJ (decide (a<0)) q-1/\a%b=cJ (decide (a<0)) r+b)/\(¬cJ (decide (a<0)) r<0->a/b=cJ (decide (a<0)) q/\a%b=cJ (decide (a<0)) r):=by
 have gV:=wF a.natAbs b.natAbs;have aY:r<b.natAbs:=by rw[h2];exact xV _ (by lia)
 unfold cJ;by_cases h0:a<0
 .simp only [h0,yo,xL];constructor
  .intro h3;refine (tY hb).2 ⟨?_,by lia,by lia⟩
   grind
  .intro h3;refine (tY hb).2 ⟨?_,by lia,by lia⟩
   grind
 .grind
def aAb(h:Nu P L){b:Int}(ha:dD s1 w1 a)(hb:dD s2 w2 b)(eO:0<b)(ka:Bd K a)(kb:Bd K b)(hK:K<=30000000000):
  ∃q r,cM q (a/b)/\cM r (a%b)/\∀tm,ab tm 2=.ptr 0 0->ab tm 3=.ptr 1 0->ab tm 4=.ptr 2 0->ab tm 5=.ptr 3 0->fp [.cell 4 2 ycO,.cell 5 2 ycO] (D P L (aA (aA qv.body)) ⟨tm,[(3,.cells ycO ycO ycO 2 [.int .i64 0,.ae]),(2,.cells ycO ycO ycO 2 [.int .i64 0,.ae]),(1,.cells ycO ycO ycO 2 [aa s2,w2]),(0,.cells ycO ycO ycO 2 [aa s1,w1])],4,0⟩)=Ix (.ax [q,r]):=by
 have⟨l1,u1⟩:=ha.aH;have⟨l2,u2⟩:=hb.aH;have⟨p,e1,hp⟩:=Dj h ha;have⟨q,e2,hq⟩:=Dj h hb;have dd:cM (.agg [aa s2,w2]) b:=⟨s2,w2,rfl,hb⟩;have⟨lp,jE,_⟩:=hp.aH;have⟨lq,sY,_⟩:=hq.aH;have FK:=yT ka (Et K);have Lc:=yT kb (Et K);have⟨dq,dr,e3,Ib,ik⟩:=amo h.toWd hp hq (by lia) FK Lc (by lia);have⟨Qp,uq,_⟩:=Ib.aH;have⟨lr1,ur,_⟩:=ik.aH;have hqk:a.natAbs/b.natAbs<(2^64)^K:=wM (vK _ _) FK;have Ic:a.natAbs%b.natAbs<(2^64)^K:=wM (ycM _ _) FK;have hqb:a.natAbs/b.natAbs<2^K:=wM (vK _ _) ka;have hrb:a.natAbs%b.natAbs<2^K:=wM (ycM _ _) ka;have⟨f1,f2⟩:=asF (a:=a) eO rfl rfl;generalize a.natAbs/b.natAbs=Q at*
 generalize a.natAbs%b.natAbs=R at*
 have⟨vq,e4,hvq⟩:=Hy h (decide (a<0)) Ib hqk (by lia);have⟨vr,e5,Qa⟩:=Hy h (decide (a<0)) ik Ic (by lia);have hsq:Bd K (cJ (decide (a<0)) Q):=by unfold Bd cJ;split<;>lia
 have hsr:Bd K (cJ (decide (a<0)) R):=by unfold Bd cJ;split<;>lia
 generalize cJ (decide (a<0)) R=Rs at*
 have e6:=Kl h Qa;have amv:=hvq;have amw:=Qa;obtain⟨s3,w3,rfl,h3⟩:=hvq;obtain⟨s4,w4,rfl,h4⟩:=Qa;have⟨l3,u3⟩:=h3.aH;have⟨l4,u4⟩:=h4.aH;by_cases h0:Rs<0
 .have ⟨g1,g2⟩:=f1 h0;have qK:Bd (K+1) 1:=Bd.mono (k:=1) (by unfold Bd;decide) (by lia)
  have⟨o1,o2⟩:=Hx h (z:=1) (by decide) (by decide);have⟨vq2,e7,abp⟩:=amt h amv o2 (K:=K+1) (hsq.mono (by lia)) qK (by lia);have⟨vr2,e8,abq⟩:=Pg h amw dd (K:=K+1) (hsr.mono (by lia)) (kb.mono (by lia)) (by lia);rw[<-g1] at abp;rw[<-g2] at abq;have pz:cA Rs<0:=by unfold cA;rw[yK h0];decide
  have k1:=abp;have k2:=abq;obtain⟨s5,w5,rfl,h5⟩:=abp;obtain⟨s6,w6,rfl,h6⟩:=abq;have⟨l5,u5⟩:=h5.aH;have⟨l6,u6⟩:=h6.aH;refine⟨_,_,k1,k2,fun tm t2 t3 t4 t5=>?_⟩;simp only[go_sem,ya,yb,qv,aA,t2,t3,t4,t5,Zz,ZA,YV,Yu,ZB,xt,aG,cF,a7,u1.af,u2.af,e1,e2,jE.af,sY.af,e3,uq.af,uq.cd,ur.af,ur.cd,e4,e5,bf,de,df,cF,yh,eD u3,eD u4,u3.af,u4.af,e6,pz,o1,e7,e8,de,df,cF,yh,eD u5,eD u6,ajE u5 u6]
 .have ⟨g1,g2⟩:=f2 h0;have pz:¬cA Rs<0:=by unfold cA;rw[yx h0];split<;>decide
  refine⟨_,_,by rw[g1];exact amv,by rw[g2];exact amw,fun tm t2 t3 t4 t5=>?_⟩
  simp only[go_sem,ya,yb,qv,aA,t2,t3,t4,t5,Zz,ZA,YV,Yu,ZB,xt,aG,cF,a7,u1.af,u2.af,e1,e2,jE.af,sY.af,e3,uq.af,uq.cd,ur.af,ur.cd,e4,e5,bf,de,df,cF,yh,eD u3,eD u4,u4.af,e6,pz,ajE u3 u4]
def abr(h:Nu P L){w:AV}{b:Int}(hv:cM v a)(hw:cM w b)(eO:0<b)(ka:Bd K a)(kb:Bd K b)(hK:K<=30000000000):∃q r,ah P L 164 [v,w] (.ax [q,r])/\cM q (a/b)/\cM r (a%b):=by
 obtain⟨s1,w1,rfl,h1⟩:=hv;obtain⟨s2,w2,rfl,h2⟩:=hw;have⟨l1,u1⟩:=h1.aH;have⟨l2,u2⟩:=h2.aH;have⟨q,r,hq,hr,tail⟩:=aAb h h1 h2 eO ka kb hK;have fin:∀tm,ab tm 2=.ptr 0 0->ab tm 3=.ptr 1 0->ab tm 4=.ptr 2 0->ab tm 5=.ptr 3 0->
   D P L (.seq (aX qv.body) (aX (aA qv.body))) ⟨[(0,.agg [aa s1,w1]),(1,.agg [aa s2,w2])],[],0,0⟩=Ix (.normal,⟨tm,[(3,.cells ycO ycO ycO 2 [.int .i64 0,.ae]),(2,.cells ycO ycO ycO 2 [.int .i64 0,.ae]),(1,.cells ycO ycO ycO 2 [aa s2,w2]),(0,.cells ycO ycO ycO 2 [aa s1,w1])],4,0⟩)->ah P L 164 [.agg [aa s1,w1],.agg [aa s2,w2]] (.ax [q,r]):=fun tm t2 t3 t4 t5 e=>by
  unfold ah;rw[aB h.abn];show fp [.cell 4 2 ycO,.cell 5 2 ycO] (D P L (.seq (aX qv.body) (.seq (aX (aA qv.body)) (aA (aA qv.body)))) ⟨[(0,.agg [aa s1,w1]),(1,.agg [aa s2,w2])],[],0,0⟩)=_
  rw[Gh,e,il];exact tail tm t2 t3 t4 t5
 rcases h1 with ⟨rfl,rfl,a1,a2⟩ | ⟨e,l,rfl,ga,na,va,sa,a1⟩
 .rcases h2 with ⟨rfl,rfl,b1,b2⟩ | ⟨e,l,rfl,gb,nb,vb,sb,b1⟩
  .by_cases hm:s1= -9223372036854775808
   .refine ⟨q,r,fin _ ?_ ?_ ?_ ?_ (by simp only[go_sem,ya,yb,aX,aA,qv,aG,jd,eV,aZ,yd,cD,hm]<;>rfl),hq,hr⟩<;>simp only[go_sem,ya]
   .have ⟨f1,f2⟩:=asv (a:=s1) eO;have bO:s1.tdiv s2=0\/(s1.tdiv s2).natAbs<=s1.natAbs:=.inr (Int.natAbs_tdiv_le_natAbs s1 s2);have bQ:=Int.tmod_lt_of_pos s1 eO;have ep:=Int.lt_tmod_of_pos s1 eO;by_cases h0:s1.tmod s2<0
    .have ⟨g1,g2⟩:=f1 h0;rw[g1,g2];refine⟨.agg [aa (s1.tdiv s2-1),.ae],.agg [aa (s1.tmod s2+s2),.ae],?_,dD.zA (by lia) (by lia),dD.zA (by lia) (by lia)⟩;unfold ah;rw[aB h.abn]
     simp only[go_sem,ya,yb,qv,aG,BG,jd,eV,aZ,yd,cD,hm,gN _ _ _ (show s2≠0 by lia),iD _ _ _ (show s2≠0 by lia),h0,wrap64 (n:=s1.tdiv s2) (by lia) (by lia),wrap64 (n:=s1.tdiv s2-1) (by lia) (by lia),wrap64 (n:=s1.tmod s2+s2) (by lia) (by lia),Bx];rfl
    .have ⟨g1,g2⟩:=f2 h0;rw[g1,g2];refine⟨.agg [aa (s1.tdiv s2),.ae],.agg [aa (s1.tmod s2),.ae],?_,dD.zA (by lia) (by lia),dD.zA (by lia) (by lia)⟩;unfold ah;rw[aB h.abn]
     simp only[go_sem,ya,yb,qv,aG,BG,jd,eV,aZ,yd,cD,hm,gN _ _ _ (show s2≠0 by lia),iD _ _ _ (show s2≠0 by lia),h0,wrap64 (n:=s1.tdiv s2) (by lia) (by lia),Bx];rfl
  .refine ⟨q,r,fin _ ?_ ?_ ?_ ?_ (by simp only[go_sem,ya,yb,aX,aA,qv,aG,jd,ss,eV,aZ,yd,cD]<;>rfl),hq,hr⟩<;>simp only[go_sem,ya]
 .refine ⟨q,r,fin _ ?_ ?_ ?_ ?_ (by simp only[go_sem,ya,yb,aX,aA,qv,aG,u2.pu,u2.one,ss,eV,aZ,yd,cD]<;>rfl),hq,hr⟩<;>simp only[go_sem,ya]
section
variable {v w:AV}{a b:Int}{l m:List Nat}{K:Nat}
def amx(h:Nu P L)(hv:cM v a)(hw:cM w b)(eO:0<b)(ka:Bd K a)(kb:Bd K b)(hK:K<=30000000000):∃r,ah P L 148 [v,w] r/\cM r (a/b):=by
 have e1:=Kl h hw;have⟨q,r,e2,hq,hr⟩:=abr h hv hw eO ka kb hK;have e3:cA b=1:=by unfold cA;rw[yx (by lia),yx (by lia)]
 rw[e3] at e1;have bO:=hq;obtain⟨s1,w1,rfl,h1⟩:=hv;obtain⟨s2,w2,rfl,h2⟩:=hw;obtain⟨s3,w3,rfl,h3⟩:=hq;obtain⟨s4,w4,rfl,h4⟩:=hr;have⟨l1,u1⟩:=h1.aH;have⟨l2,u2⟩:=h2.aH;have⟨l3,u3⟩:=h3.aH;have⟨l4,u4⟩:=h4.aH;refine⟨_,?_,bO⟩;unfold ah;rw[aB h.aEl];simp only[go_sem,ya,yb,aaW,ycv,yp,aG,u1.pu,u1.af,u1.one,u2.pu,u2.af,u2.one,yd,a7,e1,e2,D7,de,df,cF,yh,qg u3,eD u3,eD u4]
def aAc(h:Nu P L)(G:Nat)(hK:K<=30000000000):
  cL P L [2,3,4] NB (fun k s=>∃(x y:Nat) (s1 s2:Int) (w1 w2:AV),s=⟨[(2,.ptr 0 0),(3,.ptr 1 0),(4,.ptr 2 0)],[(2,.cells ycO ycO ycO 2 [o1,o2]),(1,.cells ycO ycO ycO 2 [aa s2,w2]),(0,.cells ycO ycO ycO 2 [aa s1,w1])],3,0⟩/\dD s1 w1 x/\dD s2 w2 y/\Bd K x/\Bd K y/\Nat.gcd x y=G/\y=k) (fun ex s'=>∃tm s1 w1 c1,s'=⟨tm,[(2,.cells ycO ycO ycO 2 [o1,o2]),(1,c1),(0,.cells ycO ycO ycO 2 [aa s1,w1])],3,0⟩/\ex=.exit 0/\ab tm 2=.ptr 0 0/\ab tm 4=.ptr 2 0/\dD s1 w1 G):=by
 apply cP;rintro k s ⟨x,y,s1,s2,w1,w2,rfl,h1,h2,k1,k2,hG,rfl⟩;have⟨l1,u1⟩:=h1.aH;have⟨l2,u2⟩:=h2.aH;have i1:cM (.agg [aa s1,w1]) (x:Int):=⟨s1,w1,rfl,h1⟩;have i2:cM (.agg [aa s2,w2]) (y:Int):=⟨s2,w2,rfl,h2⟩;have e1:=Kl h i2;by_cases mR:y=0
 .right
  subst mR;rw[show cA ((0:Nat):Int)=0 from rfl] at e1;simp only[go_sem,ya,NB,yo,yM,cF,a7,u2.af,e1];obtain rfl:x=G:=by rw[<-hG,Nat.gcd_zero_right]
  exact⟨_,_,rfl,by simp,_,s1,w1,_,rfl,rfl,rfl,rfl,h1⟩
 .left
  have e3:cA (y:Int)=1:=by unfold cA;rw[yx (by lia),yx (by lia)]
  rw[e3] at e1;have⟨q,r,e2,hq,hr⟩:=abr h i1 i2 (by lia) k1 k2 hK;obtain⟨s3,w3,rfl,h3⟩:=hq;obtain⟨s4,w4,rfl,h4⟩:=hr;have⟨l3,u3⟩:=h3.aH;have⟨l4,u4⟩:=h4.aH;have aY:=xV x (show 0<y by lia);have kr:Bd K ((x%y:Nat):Int):=k2.le (by lia);simp only[go_sem,ya,yb,NB,Zz,ZA,YV,Yu,ZB,xt,uf,yp,yQ,aG,cF,a7,u1.af,u2.af,e1,e2,D7,cF,yh,eD u2,eD u3,eD u4];refine⟨_,x%y,rfl,aY,y,x%y,s2,s4,w2,w4,?_,h2,h4,k2,kr,by rw[<-hG];exact auH x y mR,rfl⟩
  simp only[go_sem,ya,yb,ao]
def amy(h:Nu P L)(hv:cM v a)(hw:cM w b)(ka:Bd K a)(kb:Bd K b)(hK:K<=30000000000):∃r,ah P L 130 [v,w] r/\cM r (vE a b:Nat):=by
 have⟨va,e1,ha⟩:=ams h hv ka (by lia);have⟨vb,e2,hb⟩:=ams h hw kb (by lia);obtain⟨s1,w1,rfl,h1⟩:=hv;obtain⟨s2,w2,rfl,h2⟩:=hw;obtain⟨s3,w3,rfl,h3⟩:=ha;obtain⟨s4,w4,rfl,h4⟩:=hb;have⟨l1,u1⟩:=h1.aH;have⟨l2,u2⟩:=h2.aH;have⟨l3,u3⟩:=h3.aH;have⟨l4,u4⟩:=h4.aH;have lf:∃s w,ah P L 130 [.agg [aa s1,w1],.agg [aa s2,w2]] (.agg [aa s,w])/\dD s w (vE a b:Nat):=by
  unfold ah;rw[aB h.aEm];simp only[go_sem,ya,yb,aaU,aG,u1.pu,u1.af,u1.one,u2.pu,u2.af,u2.one,cF,a7,e1,e2,bf,cF,yh,eD u3,eD u4,yd];generalize hq:D P L (.loop _ NB) _=q;obtain⟨ex,s,rfl,tm,s5,w5,c1,rfl,rfl,t2,t4,h5⟩:=bg hq (aAc (P:=P) (L:=L) h (vE a b) (K:=K) hK (o1:=.int .i64 0) (o2:=.ae) b.natAbs) ⟨a.natAbs,b.natAbs,s3,s4,w3,w4,by simp only[go_sem,ya,yb,ao],h3,h4,ka,kb,rfl,rfl⟩;have⟨l5,u5⟩:=h5.aH;refine⟨s5,w5,?_,h5⟩;simp only[go_sem,ya,yb,ao,t2,t4,de,df,cF,yh,qg u5,eD u5]
 have⟨s,w,e,hn⟩:=lf;exact⟨_,e,s,w,rfl,hn⟩
def bE(v:AV)(r:Rat):Prop:=∃s1 w1 s2 w2,v=.agg [aa s1,w1,aa s2,w2]/\dD s1 w1 r.num/\dD s2 w2 (r.den:Int)
def Hq(k:Nat)(r:Rat):Prop:=Bd k r.num/\Bd k (r.den:Int)
def MB(hb:0<b):(wW a b).num=a/(vE a b:Nat)/\((wW a b).den:Int)=b/(vE a b:Nat):=by
 constructor
 .rw [ybU,Int.sign_eq_one_of_pos hb,Int.one_mul,ycw]
 .rw [ybV,yx (by lia),ycw]
  grind
def Hq.divInt{k:Nat}(hb:0<b)(ka:Bd k a)(kb:Bd k b):Hq k (wW a b):=by
 have⟨h1,h2⟩:=MB (a:=a) hb;refine⟨ka.le ?_,kb.le ?_⟩
 .rw [h1,uY (Int.gcd_dvd_left a b)];exact vK _ _
 .rw [h2,uY (Int.gcd_dvd_right a b)];exact vK _ _
section
def I1{a b y z:AV}{r:List (Nat×Nat×X)}(h1:bF a=ycO)(h2:bF b=ycO):iH tm [x,y,z,w] 0 2 [a,b] r=fill tm [a,b,z,w] r:=by
 rw[pP (by rfl) (by simp) (by simp[bP,h1,h2])];rfl
def I2{a b y z:AV}{r:List (Nat×Nat×X)}(h1:bF a=ycO)(h2:bF b=ycO):iH tm [x,y,z,w] 2 2 [a,b] r=fill tm [x,y,a,b] r:=by
 rw[pP (by rfl) (by simp) (by simp[bP,h1,h2])];rfl
def om{s t:Int}(hv:bL v l)(hw:bL w m)(hp:Hp)(ct id:Nat)(a b x y:AV):fN hp ct id 0 4 [.int .i64 s,v,.int .i64 t,w] (Ix (.cells ycO ycO ycO 4 [a,b,x,y]))=Ix (.ax [],aV hp id (.cells ycO ycO ycO 4 [.int .i64 s,v,.int .i64 t,w]),ct):=by
 rw[mb (by rfl) (by simp) (by simp[bP,hv.one,hw.one,I0])];simp[aD,hv.pu,hw.pu,over,GQ]
def oW{s t:Int}(hv:bL v l)(hw:bL w m)(hp:Hp):result hp (.agg [aa s,v,aa t,w])=Ix (.agg [aa s,v,aa t,w]):=by
 rcases hv with ⟨rfl,_⟩ | ⟨e,rfl⟩<;>rcases hw with ⟨rfl,_⟩ | ⟨e',rfl⟩<;>rfl
variable {P:aJ}{L:Lib}
structure Fr'(P:aJ)(L:Lib):Prop extends Nu P L where
 aEn:Has P L 101 rD
 h69:Has P L 69 c69
 aEo:Has P L 111 aaR
 h98:Has P L 98 Wk
 aEp:Has P L 108 aaQ
 aEq:Has P L 102 aaP
 h74:Has P L 74 P1
 h50:Has P L 50 c50
 za:Has P L 49 c49
 h73:Has P L 73 c73
 h70:Has P L 70 c70
 h71:Has P L 71 c71
 aEr:Has P L 149 aaX
def ajF(h:Fr' P L)(h1:dD s1 w1 a)(h2:dD s2 w2 b)(eO:0<b)(ka:Bd K a)(kb:Bd K b)(hK:K<=30000000000):
  ∃r,bE r (wW a b)/\∀tm,ab tm 2=.ptr 0 0->ab tm 3=.ptr 1 0->ab tm 4=.ptr 2 0->fp [.cell 4 4 ycO] (D P L (aA (aA rD.body)) ⟨tm,[(2,.cells ycO ycO ycO 4 [.int .i64 0,.ae,.int .i64 0,.ae]),(1,.cells ycO ycO ycO 2 [aa s2,w2]),(0,.cells ycO ycO ycO 2 [aa s1,w1])],3,0⟩)=Ix r:=by
 have hv:cM (.agg [aa s1,w1]) a:=⟨s1,w1,rfl,h1⟩;have hw:cM (.agg [aa s2,w2]) b:=⟨s2,w2,rfl,h2⟩;have⟨p1,p2⟩:=MB (a:=a) eO;have hgp:=Nk (a:=a) eO;have hgk:Bd K ((vE a b:Nat):Int):=kb.le (by
  have:=Int.gcd_le_natAbs_right a (show b≠0 by lia)
  lia)
 have⟨g,e2,hg⟩:=amy h.toNu hv hw ka kb hK;have⟨q1,e4,gM⟩:=amx h.toNu hv hg hgp ka hgk hK;have⟨q2,e5,Bc⟩:=amx h.toNu hw hg hgp kb hgk hK;rw[<-p1] at gM;rw[<-p2] at Bc;obtain⟨s3,w3,rfl,h3⟩:=hg;obtain⟨s4,w4,rfl,h4⟩:=gM;obtain⟨s5,w5,rfl,h5⟩:=Bc;have⟨l1,u1⟩:=h1.aH;have⟨l2,u2⟩:=h2.aH;have⟨l3,u3⟩:=h3.aH;have⟨l4,u4⟩:=h4.aH;have⟨l5,u5⟩:=h5.aH;by_cases ia:w2=.ae/\s2=1
 .obtain ⟨rfl,rfl⟩:=ia;have qK:b=1:=by
   rcases h2 with ⟨_,h,_⟩ | ⟨_,_,h,_⟩
   .exact h.symm
   .cases h
  subst qK;rw[Int.gcd_one] at p1 p2;have p1:(wW a 1).num=a:=by rw[p1];exact Int.ediv_one a
  refine⟨.agg [aa s1,w1,aa 1,.ae],⟨s1,w1,1,.ae,rfl,by rw[p1];exact h1,by rw[p2];exact h2⟩,fun tm t2 t3 t4=>?_⟩
  have un:=CD;simp only[go_sem,ya,rD,aA,t2,t3,t4,u1.one,cF,aZ,yd,cD,jd,eV,I1,I2,om u1 un,de,df,yh,gP,oW u1 un]
 .refine ⟨.agg [aa s4,w4,aa s5,w5],⟨s4,w4,s5,w5,rfl,h4,h5⟩,fun tm t2 t3 t4=>?_⟩;rcases u2 with ⟨rfl,_⟩ | ⟨e,rfl⟩
  .simp only [go_sem,ya,yb,rD,aA,t2,t3,t4,aG,u1.af,cF,a7,aZ,yd,cD,jd,eV,show ¬s2=1 from fun e=>ia ⟨rfl,e⟩,e2,e4,e5,bf,de,df,cF,yh,eD u3,u3.af,u4.one,u5.one,I1,I2,om u4 u5,gP,oW u4 u5]
  .simp only [go_sem,ya,yb,rD,aA,t2,t3,t4,aG,u1.af,cF,a7,aZ,yd,cD,ss,eV,e2,e4,e5,bf,de,df,cF,yh,eD u3,u3.af,u4.one,u5.one,I1,I2,om u4 u5,gP,oW u4 u5]
def abt(h:Fr' P L)(hv:cM v a)(hw:cM w b)(eO:b≠0)(ka:Bd K a)(kb:Bd K b)(hK:K<=30000000000):∃r,ah P L 101 [v,w] r/\bE r (wW a b):=by
 have e1:=Kl h.toNu hw;have gD:=hv;have hw':=hw;obtain⟨s1,w1,rfl,h1⟩:=hv;obtain⟨s2,w2,rfl,h2⟩:=hw;have⟨l1,u1⟩:=h1.aH;have⟨l2,u2⟩:=h2.aH;have fin:∀r t1 t2 v1 v2 tm,(∀tm,ab tm 2=.ptr 0 0->ab tm 3=.ptr 1 0->ab tm 4=.ptr 2 0->fp [.cell 4 4 ycO] (D P L (aA (aA rD.body)) ⟨tm,[(2,.cells ycO ycO ycO 4 [.int .i64 0,.ae,.int .i64 0,.ae]),(1,.cells ycO ycO ycO 2 [aa t2,v2]),(0,.cells ycO ycO ycO 2 [aa t1,v1])],3,0⟩)=Ix r)->ab tm 2=.ptr 0 0->ab tm 3=.ptr 1 0->ab tm 4=.ptr 2 0->
   D P L (.seq (aX rD.body) (aX (aA rD.body))) ⟨[(0,.agg [aa s1,w1]),(1,.agg [aa s2,w2])],[],0,0⟩=Ix (.normal,⟨tm,[(2,.cells ycO ycO ycO 4 [.int .i64 0,.ae,.int .i64 0,.ae]),(1,.cells ycO ycO ycO 2 [aa t2,v2]),(0,.cells ycO ycO ycO 2 [aa t1,v1])],3,0⟩)->ah P L 101 [.agg [aa s1,w1],.agg [aa s2,w2]] r:=fun r t1 t2 v1 v2 tm tail k2 k3 k4 e=>by
  unfold ah;rw[aB h.aEn];show fp [.cell 4 4 ycO] (D P L (.seq (aX rD.body) (.seq (aX (aA rD.body)) (aA (aA rD.body)))) ⟨[(0,.agg [aa s1,w1]),(1,.agg [aa s2,w2])],[],0,0⟩)=_
  rw[Gh,e,il];exact tail tm k2 k3 k4
 by_cases hn:b<0
 .have ⟨n1,e2,nJ⟩:=Km h.toNu gD ka (by lia);have⟨n2,e3,eH⟩:=Km h.toNu hw' kb (by lia);obtain⟨s3,w3,rfl,h3⟩:=nJ;obtain⟨s4,w4,rfl,h4⟩:=eH;have⟨l3,u3⟩:=h3.aH;have⟨l4,u4⟩:=h4.aH;have⟨r,hr,tail⟩:=ajF h h3 h4 (by lia) ka.neg kb.neg hK;rw[Rat.neg_divInt_neg] at hr;have hs:cA b<0:=by unfold cA;rw[yK hn];decide
  refine⟨r,fin r _ _ _ _ _ tail ?_ ?_ ?_ (by simp only[go_sem,ya,yb,rD,aX,aA,hs,aG,u1.pu,u1.af,u1.one,u2.pu,u2.af,u2.one,cF,a7,e1,e2,e3,bf,eD u3,eD u4]<;>rfl),hr⟩<;>simp only[go_sem,ya]
 .have ⟨r,hr,tail⟩:=ajF h h1 h2 (by lia) ka kb hK;have hs:¬cA b<0:=by unfold cA;rw[yx hn];split<;>decide
  refine⟨r,fin r _ _ _ _ _ tail ?_ ?_ ?_ (by simp only[go_sem,ya,yb,rD,aX,aA,hs,aG,u1.pu,u1.one,u2.pu,u2.af,u2.one,cF,a7,e1]<;>rfl),hr⟩<;>simp only[go_sem,ya]
end
end
section
variable {v w:AV}{K k m:Nat}{a b:Rat}
def Hq.mono{r:Rat}(h:Hq k r)(hk:k<=m):Hq m r:=⟨h.1.mono hk,h.2.mono hk⟩
def Hq.neg{r:Rat}(h:Hq k r):Hq k (-r):=⟨h.1.neg,h.2⟩
def add_eq(a b:Rat):a+b=wW (a.num*b.den+b.num*a.den) ((a.den:Int)*b.den):=by
 rw[Rat.add_def',<-ybH,xS]
def mul_eq(a b:Rat):a*b=wW (a.num*b.num) ((a.den:Int)*b.den):=by
 rw[Rat.mul_def',<-ybH,xS]
def Yv(a:Rat):0<(a.den:Int):=by have:=a.den_pos;lia
def IC(a b:Rat):0<(a.den:Int)*b.den:=Int.mul_pos (Yv a) (Yv b)
def Bd.abu{a b:Int}(ha:Bd k a)(hb:Bd k b):Bd (k+1) (a+b):=by
 have:=ha.add hb
 grind
def Hq.add(ha:Hq k a)(hb:Hq m b):Hq (k+m+1) (a+b):=by
 rw[add_eq];refine Hq.divInt (IC a b) ?_ ((ha.2.mul hb.2).mono (by lia));exact (ha.1.mul hb.2).abu ((hb.1.mul ha.2).mono (by lia))
def Hq.mul(ha:Hq k a)(hb:Hq m b):Hq (k+m) (a*b):=by
 rw[mul_eq];exact Hq.divInt (IC a b) (ha.1.mul hb.1) (ha.2.mul hb.2)
def Hq.sub(ha:Hq k a)(hb:Hq m b):Hq (k+m+1) (a-b):=by
 rw[yas];exact ha.add hb.neg
def Hq.inv(ha:Hq k a):Hq k a⁻¹:=by
 have h1:(a⁻¹).num.natAbs<=a.den:=by
  rw[Rat.num_inv,ybT]
  grind
 refine⟨ha.2.le (by simpa using h1),?_⟩;unfold Bd;rw[Rat.den_inv]
 split
 .have h2:=ha.2;unfold Bd at h2
  simp_all
 .exact ha.1
def Hq.div(ha:Hq k a)(hb:Hq m b):Hq (k+m) (a/b):=by
 rw[Rat.div_def];exact ha.mul hb.inv
def Kn(a b:Rat):Int:=if a<b then -1 else if a=b then 0 else 1
def axg(a b:Rat):cA (a.num*b.den-b.num*a.den)=Kn a b:=by
 unfold cA Kn;by_cases h:a<b
 .rw [yK h]
  have:=(ycN a b).1 h
  grind
 .rw [yx h];have h1:¬a.num*b.den<b.num*a.den:=fun e=>h ((ycN a b).2 e)
  rw[yx (by lia)];by_cases h2:a=b
  .grind
  .rw [yx h2,yx (by have:¬a.num*b.den=b.num*a.den:=fun e=>h2 (Rat.eq_iff_mul_eq_mul.2 e);lia)]
def YW(a:Rat)(h:a.den=1):a=(a.num:Rat):=by
 have:=Rat.num_divInt_den a
 rw[h] at this;rw[<-this];exact (Rat.ext (by simp[ybU]) (by simp[ybV]))
def EM(a b c d:AV)(r:List AV):gJ 2 ycO (List.drop 2 (a::b::c::d::r))=Ix (.agg [c,d]):=rfl
def AJ(a b:AV)(r:List AV):gJ 2 ycO (a::b::r)=Ix (.agg [a,b]):=rfl
def Ph(h:Fr' P L){z:Int}(hv:cM v z):∃r,ah P L 111 [v] r/\bE r (z:Rat):=by
 have⟨o1,o2⟩:=Hx h.toNu (z:=1) (by decide) (by decide);obtain⟨s1,w1,rfl,h1⟩:=hv;have⟨l1,u1⟩:=h1.aH;have un:=CD;refine⟨.agg [aa s1,w1,aa 1,.ae],?_,s1,w1,1,.ae,rfl,h1,.inl ⟨rfl,rfl,(by show (-9223372036854775808:Int)<=1;decide),(by show (1:Int)<9223372036854775808;decide)⟩⟩
 unfold ah;rw[aB h.aEo];simp only[go_sem,ya,yb,aaR,aG,u1.pu,u1.one,cF,o1,bf,I1,I2,om u1 un,de,df,yh,gP,oW u1 un]
def DS(h:Fr' P L){z:Int}(h1: -9223372036854775808<=z)(h2:z<9223372036854775808):∃r,ah P L 69 [aa z] r/\bE r (z:Rat):=by
 have⟨o1,o2⟩:=Hx h.toNu h1 h2;have⟨r,e,hr⟩:=Ph h o2;have bt:=hr;obtain⟨s1,w1,s2,w2,rfl,k1,k2⟩:=hr;have⟨l1,u1⟩:=k1.aH;have⟨l2,u2⟩:=k2.aH;refine⟨_,?_,bt⟩;unfold ah;rw[aB h.h69];simp only[go_sem,ya,yb,c69,aG,a7,o1,e,bf,om u1 u2,de,df,yh,gP,oW u1 u2]
def m98(h:Fr' P L)(hv:bE v a):ah P L 98 [v] (.bool (decide (a.den=1))):=by
 obtain⟨s1,w1,s2,w2,rfl,h1,h2⟩:=hv;have⟨l1,u1⟩:=h1.aH;unfold ah;rw[aB h.h98];rcases h2 with ⟨rfl,rfl,b1,b2⟩ | ⟨e,l,rfl,gb,nb,vb,sb,b1⟩
 .have e:decide (((a.den:Nat):Int)=1)=decide (a.den=1):=by simp;lia
  simp only[go_sem,ya,yb,Wk,aG,u1.pu,u1.one,aZ,yd,aB9,ak3,jd,eV,e]
 .have e:decide (a.den=1)=ycP:=xn (by lia);rw[e];simp only[go_sem,ya,yb,Wk,aG,u1.pu,u1.one,aZ,yd,ak3,ss,eV]
def abv(h:Fr' P L)(hv:bE v a):ah P L 108 [v] (aa (cA a.num)):=by
 obtain⟨s1,w1,s2,w2,rfl,h1,h2⟩:=hv;have⟨l1,u1⟩:=h1.aH;have⟨l2,u2⟩:=h2.aH;have e1:=Kl h.toNu ⟨s1,w1,rfl,h1⟩;unfold ah;rw[aB h.aEp];simp only[go_sem,ya,yb,aaQ,aG,u1.pu,u1.af,u1.one,u2.pu,u2.one,aZ,yd,AJ,a7,e1]
def aEs(h:Fr' P L)(hv:bE v a)(ka:Hq K a)(hK:K<=30000000000):∃r,ah P L 102 [v] r/\bE r (-a):=by
 obtain⟨s1,w1,s2,w2,rfl,h1,h2⟩:=hv;have⟨l1,u1⟩:=h1.aH;have⟨l2,u2⟩:=h2.aH;have⟨n,e1,hn⟩:=Km h.toNu ⟨s1,w1,rfl,h1⟩ ka.1 (by lia);obtain⟨s3,w3,rfl,h3⟩:=hn;have⟨l3,u3⟩:=h3.aH;refine⟨.agg [aa s3,w3,aa s2,w2],?_,s3,w3,s2,w2,rfl,h3,h2⟩;unfold ah;rw[aB h.aEq];simp only[go_sem,ya,yb,aaP,aG,u1.pu,u1.af,u1.one,u2.pu,u2.one,u3.one,aZ,yd,AJ,EM,a7,e1,bf,I1,I2,om u3 u2,de,df,yh,gP,oW u3 u2]
def FL(h:Fr' P L)(hv:bE v a)(hw:bE w b)(ka:Hq K a)(kb:Hq K b)(hK:K<=10000000000):∃r,ah P L 74 [v,w] r/\bE r (a+b):=by
 have i1:=m98 h hv;have i2:=m98 h hw;obtain⟨s1,w1,s2,w2,rfl,h1,h2⟩:=hv;obtain⟨s3,w3,s4,w4,rfl,h3,h4⟩:=hw;have⟨l1,u1⟩:=h1.aH;have⟨l2,u2⟩:=h2.aH;have⟨l3,u3⟩:=h3.aH;have⟨l4,u4⟩:=h4.aH;have n1:cM (.agg [aa s1,w1]) a.num:=⟨s1,w1,rfl,h1⟩;have n2:cM (.agg [aa s2,w2]) a.den:=⟨s2,w2,rfl,h2⟩;have n3:cM (.agg [aa s3,w3]) b.num:=⟨s3,w3,rfl,h3⟩;have n4:cM (.agg [aa s4,w4]) b.den:=⟨s4,w4,rfl,h4⟩;by_cases oL:a.den=1/\b.den=1
 .have ⟨d1,d2⟩:=oL;have⟨p,e1,hp⟩:=Pg h.toNu n1 n3 ka.1 kb.1 (by lia);have⟨r,e2,hr⟩:=Ph h hp;have he:((a.num+b.num:Int):Rat)=a+b:=by
   rw[Rat.intCast_add,<-YW a d1,<-YW b d2]
  rw[he] at hr;have bt:=hr;obtain⟨s5,w5,rfl,h5⟩:=hp;obtain⟨s6,w6,s7,w7,rfl,h6,h7⟩:=hr;have⟨l5,u5⟩:=h5.aH;have⟨l6,u6⟩:=h6.aH;have⟨l7,u7⟩:=h7.aH;refine⟨_,?_,bt⟩;rw[d1] at i1;rw[d2] at i2;unfold ah;rw[aB h.h74];simp only[go_sem,ya,yb,P1,aG,u1.pu,u1.af,u1.one,u2.pu,u2.af,u2.one,u3.pu,u3.af,u3.one,u4.pu,u4.af,u4.one,aZ,yd,gP,AJ,a7,i1,i2,e1,u5.af,e2,bf,om u6 u7,de,df,yh,gP,oW u6 u7]
 .have ⟨p1,e1,bm⟩:=B2 h.toNu n1 n4 ka.1 kb.2 (by lia);have⟨p2,e2,ff⟩:=B2 h.toNu n3 n2 kb.1 ka.2 (by lia);have⟨p3,e3,Ie⟩:=Pg h.toNu bm ff (ka.1.mul kb.2) (kb.1.mul ka.2) (by lia);have⟨p4,e4,hp4⟩:=B2 h.toNu n2 n4 ka.2 kb.2 (by lia);have⟨r,e5,hr⟩:=abt h Ie hp4 (by have:=IC a b;lia) ((ka.1.mul kb.2).abu (kb.1.mul ka.2)) ((ka.2.mul kb.2).mono (by lia)) (by lia)
  rw[<-add_eq] at hr;have bt:=hr;obtain⟨s5,w5,rfl,h5⟩:=bm;obtain⟨s6,w6,rfl,h6⟩:=ff;obtain⟨s7,w7,rfl,h7⟩:=Ie;obtain⟨s8,w8,rfl,h8⟩:=hp4;obtain⟨s9,w9,s10,Ld,rfl,h9,jk⟩:=hr;have⟨l5,u5⟩:=h5.aH;have⟨l6,u6⟩:=h6.aH;have⟨l7,u7⟩:=h7.aH;have⟨l8,u8⟩:=h8.aH;have⟨l9,u9⟩:=h9.aH;have⟨l10,WH⟩:=jk.aH;refine⟨_,?_,bt⟩;unfold ah;rw[aB h.h74];by_cases d1:a.den=1
  .rw [d1] at i1;rw[xn (fun d2=>oL ⟨d1,d2⟩)] at i2;simp only[go_sem,ya,yb,P1,aG,u1.pu,u1.af,u1.one,u2.pu,u2.af,u2.one,u3.pu,u3.af,u3.one,u4.pu,u4.af,u4.one,aZ,yd,gP,AJ,EM,a7,i1,i2,e1,e2,u5.af,u6.af,e3,e4,u7.af,u8.af,e5,bf,om u9 WH,de,df,yh,gP,oW u9 WH]
  .rw [xn d1] at i1;simp only[go_sem,ya,yb,P1,aG,u1.pu,u1.af,u1.one,u2.pu,u2.af,u2.one,u3.pu,u3.af,u3.one,u4.pu,u4.af,u4.one,aZ,yd,gP,AJ,EM,a7,i1,e1,e2,u5.af,u6.af,e3,e4,u7.af,u8.af,e5,bf,om u9 WH,de,df,yh,gP,oW u9 WH]
def Lf(h:Fr' P L)(hv:bE v a)(hw:bE w b)(ka:Hq K a)(kb:Hq K b)(hK:K<=10000000000):∃r,ah P L 50 [v,w] r/\bE r (a-b):=by
 have⟨n,e1,hn⟩:=aEs h hw kb (by lia);have⟨r,e2,hr⟩:=FL h hv hn ka kb.neg hK;rw[<-yas] at hr;have bt:=hr;obtain⟨s1,w1,s2,w2,rfl,h1,h2⟩:=hv;obtain⟨s3,w3,s4,w4,rfl,h3,h4⟩:=hw;obtain⟨s5,w5,s6,w6,rfl,h5,h6⟩:=hn;obtain⟨s7,w7,s8,w8,rfl,h7,h8⟩:=hr;have⟨l1,u1⟩:=h1.aH;have⟨l2,u2⟩:=h2.aH;have⟨l3,u3⟩:=h3.aH;have⟨l4,u4⟩:=h4.aH;have⟨l5,u5⟩:=h5.aH;have⟨l6,u6⟩:=h6.aH;have⟨l7,u7⟩:=h7.aH;have⟨l8,u8⟩:=h8.aH;refine⟨_,?_,bt⟩;unfold ah;rw[aB h.h50];simp only[go_sem,ya,yb,c50,aG,u1.pu,u1.af,u1.one,u2.pu,u2.af,u2.one,u3.pu,u3.af,u3.one,u4.pu,u4.af,u4.one,u5.af,u6.af,gP,a7,e1,e2,bf,om u7 u8,de,df,yh,gP,oW u7 u8]
def zb(h:Fr' P L)(hv:bE v a)(hw:bE w b)(ka:Hq K a)(kb:Hq K b)(hK:K<=10000000000):∃r,ah P L 49 [v,w] r/\bE r (a*b):=by
 obtain⟨s1,w1,s2,w2,rfl,h1,h2⟩:=hv;obtain⟨s3,w3,s4,w4,rfl,h3,h4⟩:=hw;have⟨l1,u1⟩:=h1.aH;have⟨l2,u2⟩:=h2.aH;have⟨l3,u3⟩:=h3.aH;have⟨l4,u4⟩:=h4.aH;have⟨p1,e1,bm⟩:=B2 h.toNu (v:=.agg [aa s1,w1]) (w:=.agg [aa s3,w3]) ⟨s1,w1,rfl,h1⟩ ⟨s3,w3,rfl,h3⟩ ka.1 kb.1 (by lia);have⟨p2,e2,ff⟩:=B2 h.toNu (v:=.agg [aa s2,w2]) (w:=.agg [aa s4,w4]) ⟨s2,w2,rfl,h2⟩ ⟨s4,w4,rfl,h4⟩ ka.2 kb.2 (by lia);have⟨r,e3,hr⟩:=abt h bm ff (by have:=IC a b;lia) (ka.1.mul kb.1) (ka.2.mul kb.2) (by lia)
 rw[<-mul_eq] at hr;have bt:=hr;obtain⟨s5,w5,rfl,h5⟩:=bm;obtain⟨s6,w6,rfl,h6⟩:=ff;obtain⟨s7,w7,s8,w8,rfl,h7,h8⟩:=hr;have⟨l5,u5⟩:=h5.aH;have⟨l6,u6⟩:=h6.aH;have⟨l7,u7⟩:=h7.aH;have⟨l8,u8⟩:=h8.aH;refine⟨_,?_,bt⟩;unfold ah;rw[aB h.za];simp only[go_sem,ya,yb,c49,aG,u1.pu,u1.af,u1.one,u2.pu,u2.af,u2.one,u3.pu,u3.af,u3.one,u4.pu,u4.af,u4.one,u5.af,u6.af,aZ,yd,AJ,EM,a7,e1,e2,e3,bf,om u7 u8,de,df,yh,gP,oW u7 u8]
def m73(h:Fr' P L)(hv:bE v a)(h0:a≠0)(ka:Hq K a)(hK:K<=10000000000):∃r,ah P L 73 [v] r/\bE r a⁻¹:=by
 obtain⟨s1,w1,s2,w2,rfl,h1,h2⟩:=hv;have⟨l1,u1⟩:=h1.aH;have⟨l2,u2⟩:=h2.aH;have⟨r,e1,hr⟩:=abt h (v:=.agg [aa s2,w2]) (w:=.agg [aa s1,w1]) ⟨s2,w2,rfl,h2⟩ ⟨s1,w1,rfl,h1⟩ (fun e=>h0 (Rat.num_eq_zero.1 e)) ka.2 ka.1 (by lia);rw[<-Rat.inv_def] at hr;have bt:=hr;obtain⟨s7,w7,s8,w8,rfl,h7,h8⟩:=hr;have⟨l7,u7⟩:=h7.aH;have⟨l8,u8⟩:=h8.aH;refine⟨_,?_,bt⟩;unfold ah;rw[aB h.h73];simp only[go_sem,ya,yb,c73,aG,u1.pu,u1.af,u1.one,u2.pu,u2.af,u2.one,aZ,yd,AJ,EM,a7,e1,bf,om u7 u8,de,df,yh,gP,oW u7 u8]
def WI(h:Fr' P L)(hv:bE v a)(hw:bE w b)(h0:b≠0)(ka:Hq K a)(kb:Hq K b)(hK:K<=10000000000):∃r,ah P L 70 [v,w] r/\bE r (a/b):=by
 have⟨n,e1,hn⟩:=m73 h hw h0 kb hK;have⟨r,e2,hr⟩:=zb h hv hn ka kb.inv hK;have bt:=hr;obtain⟨s1,w1,s2,w2,rfl,h1,h2⟩:=hv;obtain⟨s3,w3,s4,w4,rfl,h3,h4⟩:=hw;obtain⟨s5,w5,s6,w6,rfl,h5,h6⟩:=hn;obtain⟨s7,w7,s8,w8,rfl,h7,h8⟩:=hr;have⟨l1,u1⟩:=h1.aH;have⟨l2,u2⟩:=h2.aH;have⟨l3,u3⟩:=h3.aH;have⟨l4,u4⟩:=h4.aH;have⟨l5,u5⟩:=h5.aH;have⟨l6,u6⟩:=h6.aH;have⟨l7,u7⟩:=h7.aH;have⟨l8,u8⟩:=h8.aH;refine⟨_,?_,bt⟩;unfold ah;rw[aB h.h70];simp only[go_sem,ya,yb,c70,aG,u1.pu,u1.af,u1.one,u2.pu,u2.af,u2.one,u3.pu,u3.af,u3.one,u4.pu,u4.af,u4.one,u5.af,u6.af,gP,a7,e1,e2,bf,om u7 u8,de,df,yh,gP,oW u7 u8]
def m71(h:Fr' P L)(hv:bE v a)(hw:bE w b)(ka:Hq K a)(kb:Hq K b)(hK:K<=10000000000):ah P L 71 [v,w] (aa (Kn a b)):=by
 obtain⟨s1,w1,s2,w2,rfl,h1,h2⟩:=hv;obtain⟨s3,w3,s4,w4,rfl,h3,h4⟩:=hw;have⟨l1,u1⟩:=h1.aH;have⟨l2,u2⟩:=h2.aH;have⟨l3,u3⟩:=h3.aH;have⟨l4,u4⟩:=h4.aH;have⟨p1,e1,bm⟩:=B2 h.toNu (v:=.agg [aa s1,w1]) (w:=.agg [aa s4,w4]) ⟨s1,w1,rfl,h1⟩ ⟨s4,w4,rfl,h4⟩ ka.1 kb.2 (by lia);have⟨p2,e2,ff⟩:=B2 h.toNu (v:=.agg [aa s3,w3]) (w:=.agg [aa s2,w2]) ⟨s3,w3,rfl,h3⟩ ⟨s2,w2,rfl,h2⟩ kb.1 ka.2 (by lia);have e3:=amu h.toNu bm ff (ka.1.mul kb.2) (kb.1.mul ka.2) (by lia);rw[axg] at e3;obtain⟨s5,w5,rfl,h5⟩:=bm;obtain⟨s6,w6,rfl,h6⟩:=ff;have⟨l5,u5⟩:=h5.aH;have⟨l6,u6⟩:=h6.aH;unfold ah;rw[aB h.h71];simp only[go_sem,ya,yb,c71,aG,u1.pu,u1.af,u1.one,u2.pu,u2.af,u2.one,u3.pu,u3.af,u3.one,u4.pu,u4.af,u4.one,u5.af,u6.af,aZ,yd,AJ,EM,a7,e1,e2,e3,bf]
def amz(h:Fr' P L)(hv:bE v a)(ka:Hq K a)(hK:K<=10000000000):∃r,ah P L 149 [v] r/\cM r a.floor:=by
 obtain⟨s1,w1,s2,w2,rfl,h1,h2⟩:=hv;have⟨l1,u1⟩:=h1.aH;have⟨l2,u2⟩:=h2.aH;have⟨q,r,e1,hq,hr⟩:=abr h.toNu (v:=.agg [aa s1,w1]) (w:=.agg [aa s2,w2]) ⟨s1,w1,rfl,h1⟩ ⟨s2,w2,rfl,h2⟩ (Yv a) ka.1 ka.2 (by lia);rw[<-Rat.floor_def] at hq;have bO:=hq;obtain⟨s3,w3,rfl,h3⟩:=hq;obtain⟨s4,w4,rfl,h4⟩:=hr;have⟨l3,u3⟩:=h3.aH;have⟨l4,u4⟩:=h4.aH;refine⟨_,?_,bO⟩;unfold ah;rw[aB h.aEr];simp only[go_sem,ya,yb,aaX,aG,u1.pu,u1.af,u1.one,u2.pu,u2.af,u2.one,aZ,yd,AJ,EM,a7,e1,D7,de,df,yh,qg u3,eD u3,eD u4]
end
def BH:List AV->Option (List Nat)
 | []=>Ix []
 | .int .u64 (.ofNat d)::r=>bif yU d 18446744073709551616 then (match BH r with | some l=>Ix (d::l) | none=>Iy) else Iy
 | _::_=>Iy
def B3:List Nat->Nat
 | []=>0
 | a::r=>a+18446744073709551616*B3 r
def EN:List Nat->Bool
 | []=>ycP
 | [a]=> !yG a 0
 | _::r=>EN r
def SJ:List AV->Option AV
 | [.agg [.int .i64 s,.ae]]=>bif EF s then Ix (.str (aU s)) else Iy
 | [.agg [.int .i64 s,.aF _ n cs]]=>
  match BH cs with
  | some l=>
   bif yG l.length n&&(yO n 4000000000&&(EN l&&yO 9223372036854775808 (B3 l))) then
    match s with
    | .ofNat 1=>Ix (.str (ay (B3 l)))
    | .negSucc 0=>Ix (.str (45::ay (B3 l)))
    | _=>Iy
   else Iy
  | none=>Iy
 | _=>Iy
def afv:∀{l:List Nat},lo (2^64) l->BH (l.map uc)=Ix l
 | [],_=>rfl
 | a::l,h=>by
  have h1:=h a (by simp);have h2:=afv (l:=l) (fun x hx=>h x (by simp[hx]));show (bif yU a (2^64) then (match BH (l.map uc) with | some l=>Ix (a::l) | none=>Iy) else Iy)=_
  rw[nA h1,h2];rfl
def YX:∀l:List Nat,B3 l=bv (2^64) l
 | []=>rfl
 | a::l=>by simp only[B3,bv,YX l]
def aho:∀{l:List Nat},l≠[]->jm l->EN l=ycO
 | [],h,_=>absurd rfl h
 | [a],_,h=>by
  have:a≠0:=fun e=>by
   subst e;have h:fa [0]=[0]:=h;simp[fa] at h
  simp[EN,jL this]
 | a::b::r,_,h=>by
  have h1:jm (b::r):=by
   have h:fa (a::b::r)=a::b::r:=h;rw[fa] at h
   grind
  have:=aho (l:=b::r) (by simp) h1
  simpa[EN] using this
structure Tx(P:aJ)(L:Lib):Prop extends Fr' P L where
 Lg:L.pure 99=Ix SJ
 aEt:L.pure 175=Ix Nx
 amA:L.pure 152=Ix Rx
 abw:L.pure 153=Ix Re
 abx:L.pure 154=Ix Of
 aby:L.pure 109=Ix Uo
 abz:Has P L 155 UD
 amB:Has P L 172 UH
 aEu:Has P L 151 UC
 aEv:Has P L 107 Uv
 h46:Has P L 46 V4
 amC:Has P L 110 Uw
 WJ:Has P L 62 V7
def m99(h:Tx P L){z:Int}(hv:cM v z)(hz:Bd K z)(hK:K<=4000000000):ah P L 99 [v] (.str (aU z)):=by
 obtain⟨s,w,rfl,hn⟩:=hv;unfold ah;rw[lI h.Lg];rcases hn with ⟨rfl,rfl,h1,h2⟩ | ⟨e,l,rfl,g,n,hb,hs,h1⟩
 .show (bif EF s then Ix (AV.str (aU s)) else Iy)=_
  have:EF s=ycO:=by
   cases s with
   | ofNat k=>exact nA (by have:(Int.ofNat k)=(k:Int):=rfl;lia)
   | negSucc k=>exact nA (by lia)
  grind
 .have nI:l≠[]:=fun e=>by subst e;simp[bv] at hb;lia
  have A5:l.length<=4000000000:=xB (sJ n hb (yT hz (Et K))) hK
  show (match BH (l.map uc) with
   | some l'=>bif yG l'.length l.length&&(yO l.length 4000000000&&(EN l'&&yO 9223372036854775808 (B3 l'))) then (match s with | .ofNat 1=>Ix (AV.str (ay (B3 l'))) | .negSucc 0=>Ix (.str (45::ay (B3 l'))) | _=>Iy) else Iy
   | none=>Iy)=_
  rw[afv g];simp only[Nat.beq_refl,yC A5,aho nI n,YX,hb,yC h1,xt,yN];by_cases h0:z<0
  .rw [yK h0] at hs;subst hs;rw[mZ h0];rfl
  .rw [yx h0] at hs;subst hs;obtain⟨m,rfl⟩:∃m:Nat,z=m:=⟨z.toNat,by lia⟩;rfl
def RT(r:Rat):List Nat:=aU r.num++(if r.den=1 then [] else 47::ay r.den)
def MU{z:Int}{k:Nat}(h:Bd k z):(aU z).length<=k+1:=by
 have h1:∀m:Nat,m<2^k->(ay m).length<=max k 1:=fun m hm=>by
  cases k with
  | zero=>
       have:m=0:=by simpa using hm
       subst this;decide
  | succ k=>
   rw[Nat.max_eq_left (by lia)];exact Bu (k:=k) (yT hm (vR (by decide) _))
 by_cases h0:z<0
 .rw [mZ h0];unfold Bd at h
  grind
 .obtain ⟨m,rfl⟩:∃m:Nat,z=m:=⟨z.toNat,by lia⟩
  have:=h1 m (by unfold Bd at h;simpa using h)
  rw[nS];lia
def m46(h:Tx P L){a:Rat}(hv:bE v a)(ka:Hq K a)(hK:K<=4000000000):ah P L 46 [v] (.str (RT a)):=by
 have i1:=m98 h.toFr' hv;obtain⟨s1,w1,s2,w2,rfl,h1,h2⟩:=hv;have⟨l1,u1⟩:=h1.aH;have⟨l2,u2⟩:=h2.aH;have e1:=m99 h (v:=.agg [aa s1,w1]) ⟨s1,w1,rfl,h1⟩ ka.1 hK;have e2:=m99 h (v:=.agg [aa s2,w2]) ⟨s2,w2,rfl,h2⟩ ka.2 hK;have b1:=MU ka.1;have b2:=MU ka.2;rw[nS] at e2 b2;unfold ah RT;rw[aB h.h46];by_cases hd:a.den=1
 .rw [yK hd,List.append_nil];rw[hd] at i1;simp only[go_sem,ya,yb,V4,aG,u1.pu,u1.af,u1.one,u2.pu,u2.af,u2.one,gP,a7,i1,aZ,yd,AJ,e1]
 .rw [yx hd];rw[xn hd] at i1;have hc:aU a.num++47::ay a.den=(aU a.num++[47])++ay a.den:=by simp
  rw[hc]
  simp only[go_sem,ya,yb,V4,aG,u1.pu,u1.af,u1.one,u2.pu,u2.af,u2.one,gP,a7,i1,aZ,yd,AJ,EM,e1,e2,iY (a:=aU a.num) (b:=[47]) (by simp;lia),iY (a:=aU a.num++[47]) (b:=ay a.den) (by simp;lia)]
def aEw{n:Nat}(h:n<9223372036854775808):binOp .and (.int .i64 (n:Int)) (.int .i64 1)=Ix (.int .i64 ((n%2:Nat):Int)):=by
 show Ix (AV.int .i64 (IntKind.wrap .i64 ((wC 64 (n:Int)&&&wC 64 1).toNat:Int)))=_
 rw[show wC 64 (n:Int)=tu 64 n from BitVec.ofInt_natCast 64 n,show wC 64 1=tu 64 1 from rfl];rw[BitVec.toNat_and,ui,ui,show (1%2^64:Nat)=2^1-1 from rfl,Nat.and_two_pow_sub_one_eq_mod,wrapN (by lia)]
 grind
def aEx(n:Nat):binOp .shr (.int .i64 (n:Int)) (.int .u64 1)=Ix (.int .i64 ((n/2:Nat):Int)):=by
 show Ix (AV.int .i64 ((n:Int).fdiv (2^1)))=_
 grind
def Bd.pow{k:Nat}{z:Int}(h:Bd k z):∀e,Bd (k*e+1) (z^e)
 | 0=>by rw[yaO,xP];unfold Bd;decide
 | e+1=>by
  have ih:=Bd.pow h e;rw[Int.pow_succ];exact (ih.mul h).mono (by rw[xO,yf];lia)
def aAd(h:Nu P L)(Vb:True){z:Int}{k0:Nat}(hz:Bd K z)(hK:K*k0+1<=30000000000):
  cL P L [1,2,4,5] GB (fun m st=>∃(k i e:Nat) (s1 s2:Int) (w1 w2:AV),st=⟨[(1,aa k),(2,.ptr 0 0),(4,.ptr 1 0),(5,.ptr 2 0)],[(2,.cells ycO ycO ycO 2 [aa s2,w2]),(1,.cells ycO ycO ycO 2 [o1,o2]),(0,.cells ycO ycO ycO 2 [aa s1,w1])],3,0⟩/\dD s1 w1 (z^i)/\dD s2 w2 (z^e)/\e+i*k=k0/\(0<k->i<=k0)/\k<9223372036854775808/\k=m) (fun ex st'=>∃tm s2 w2 c0,st'=⟨tm,[(2,.cells ycO ycO ycO 2 [aa s2,w2]),(1,.cells ycO ycO ycO 2 [o1,o2]),(0,c0)],3,0⟩/\ex=.exit 0/\ab tm 4=.ptr 1 0/\ab tm 5=.ptr 2 0/\dD s2 w2 (z^k0)):=by
 apply cP;rintro m st ⟨k,i,e,s1,s2,w1,w2,rfl,h1,h2,hk,hi,hkb,rfl⟩;have⟨l1,u1⟩:=h1.aH;have⟨l2,u2⟩:=h2.aH;by_cases hk0:k=0
 .right
  subst hk0;rw[xP,xg] at hk;subst hk;simp only[go_sem,GB,show ¬(0:Int)<((0:Nat):Int) by lia];exact⟨_,_,rfl,by simp,_,s2,w2,_,rfl,rfl,rfl,rfl,h2⟩
 .left
  have bD:=hi (by lia);have he:e<=k0:=by lia
  have jV:i*1<=i*k:=yZ i (by lia);have b1:Bd (K*k0+1) (z^i):=(hz.pow i).mono (by have:=yZ K bD;lia)
  have b2:Bd (K*k0+1) (z^e):=(hz.pow e).mono (by have:=yZ K he;lia)
  have n1:cM (.agg [aa s1,w1]) (z^i):=⟨s1,w1,rfl,h1⟩;have n2:cM (.agg [aa s2,w2]) (z^e):=⟨s2,w2,rfl,h2⟩;have⟨p,e1,hp⟩:=B2 h n2 n1 b2 b1 (by lia);have⟨q,e2,hq⟩:=B2 h n1 n1 b1 b1 (by lia);rw[<-Int.pow_add] at hp hq;obtain⟨s3,w3,rfl,h3⟩:=hp;obtain⟨s4,w4,rfl,h4⟩:=hq;have⟨l3,u3⟩:=h3.aH;have⟨l4,u4⟩:=h4.aH;have gV:=wF k 2;have Qq:=aEw (n:=k) hkb;have o2':=aEx k;have aJr:(i+i)*(k/2)=i*(2*(k/2)):=by rw[<-Nat.two_mul,Nat.mul_comm 2 i,Nat.mul_assoc]
  by_cases aEy:k%2=1
  .rw [aEy] at Qq gV;have A3:i*k=i*(2*(k/2))+i:=by
    conv=>lhs;rw[<-gV,xO,yf]
   by_cases rM:1<k
   .simp only [go_sem,ya,GB,show (0:Int)<(k:Int) by lia,Qq,show ((1:Nat):Int)=1 from rfl,cF,a7,u1.af,u2.af,e1,bf,cF,yh,eD u3,eD u4,show (1:Int)<(k:Int) by lia,e2,o2']
    exact⟨_,k/2,rfl,by lia,k/2,i+i,e+i,s4,s3,w4,w3,by simp only[go_sem,ya,yb,ao],h4,h3,by lia,fun h0=>by have:=yZ (i+i) h0;lia,by lia,rfl⟩
   .have ia:e+i+i*(k/2)=k0:=by
     have h1:k/2=0:=by lia
     rw[h1] at A3 ⊢
     lia
    simp only[go_sem,ya,GB,show (0:Int)<(k:Int) by lia,Qq,show ((1:Nat):Int)=1 from rfl,cF,a7,u1.af,u2.af,e1,bf,cF,yh,eD u3,show ¬(1:Int)<(k:Int) by lia,o2'];exact⟨_,k/2,rfl,by lia,k/2,i,e+i,s1,s3,w1,w3,by simp only[go_sem,ya,yb,ao],h1,h3,ia,fun h0=>by lia,by lia,rfl⟩
  .have FB:k%2=0:=by lia
   rw[FB] at Qq gV;have A3:i*k=i*(2*(k/2)):=by
    conv=>lhs;rw[<-gV,xg]
   simp only[go_sem,ya,GB,show (0:Int)<(k:Int) by lia,Qq,show ((0:Nat):Int)=0 from rfl,uf,cF,a7,u1.af,bf,cF,yh,eD u4,show (1:Int)<(k:Int) by lia,e2,o2']
   exact⟨_,k/2,rfl,by lia,k/2,i+i,e,s4,s2,w4,w2,by simp only[go_sem,ya,yb,ao],h4,h2,by lia,fun h0=>by have:=yZ (i+i) h0;lia,by lia,rfl⟩
def aEz(h:Nu P L)(abz:Has P L 155 UD){z:Int}{k:Nat}(hv:cM v z)(hz:Bd K z)(hK:K*k+1<=30000000000)(hk:k<9223372036854775808):∃r,ah P L 155 [v,aa k] r/\cM r (z^k):=by
 have⟨o1,o2⟩:=Hx h (z:=1) (by decide) (by decide);obtain⟨s1,w1,rfl,h1⟩:=hv;have⟨l1,u1⟩:=h1.aH;have un:=CD;have lf:∃s w,ah P L 155 [.agg [aa s1,w1],aa k] (.agg [aa s,w])/\dD s w (z^k):=by
  unfold ah;rw[aB abz];simp only[go_sem,ya,yb,UD,aG,u1.pu,u1.one,o1,bf,eD un];generalize hq:D P L (.loop _ GB) _=q;obtain⟨ex,st,rfl,tm,s5,w5,c1,rfl,rfl,t4,t5,h5⟩:=bg hq (aAd (P:=P) (L:=L) h trivial hz (k0:=k) hK (o1:=.int .i64 0) (o2:=.ae) k) ⟨k,1,0,s1,1,w1,.ae,by simp only[go_sem,ya,yb,ao],by rw[Int.pow_one];exact h1,.inl ⟨rfl,(yaO z).symm,(by rw[yaO];decide)⟩,by lia,fun h0=>h0,hk,rfl⟩
  have⟨l5,u5⟩:=h5.aH;refine⟨s5,w5,?_,h5⟩;simp only[go_sem,ya,yb,ao,t4,t5,de,df,cF,yh,qg u5,eD u5]
 have⟨s,w,e,hn⟩:=lf;exact⟨_,e,s,w,rfl,hn⟩
def M4:∀(l m:List Nat) (a:Nat),da (l++m) a=(da l a).bind (fun v=>da m v)
 | [],m,a=>rfl
 | b::l,m,a=>by
  simp only[List.cons_append,da]
  cases (yO 48 b&&yO b 57) with
  | true=>exact M4 l m _
  | false=>rfl
def auS:∀{l:List Nat} {a v:Nat},da l 0=Ix v->da l a=Ix (a*10^l.length+v):=by
 intro l
 suffices h:∀{l:List Nat} {a b v:Nat},da l b=Ix v->b*10^l.length<=v/\da l (a+b)=Ix (a*10^l.length+v) by
  intro a v hv
  have:=(h (a:=a) hv).2
  grind
 intro l
 induction l with
 | nil=>intro a b v h;simp[da] at h ⊢;lia
 | cons c l ih=>
  intro a b v h;simp only[da] at h ⊢
  cases hb:(yO 48 c&&yO c 57) with
  | false=>rw[hb] at h;cases h
  | true=>
   rw[hb] at h;have⟨h1,h2⟩:=ih (a:=10*a) h;simp only[yB,xJ]
   grind
def YY:∀{l:List Nat} {v:Nat},da l 0=Ix v->v<10^l.length:=by
 suffices h:∀{l:List Nat} {b v:Nat},da l b=Ix v->v<(b+1)*10^l.length by
  grind
 intro l
 induction l with
 | nil=>intro b v h;simp[da] at h ⊢;lia
 | cons c l ih=>
  intro b v h;simp only[da] at h
  cases hb:(yO 48 c&&yO c 57) with
  | false=>rw[hb] at h;cases h
  | true=>
   simp only[Bool.and_eq_true] at hb;have hc:=Nat.le_of_ble_eq_true hb.2;have h2:=Nat.mul_le_mul_right (10^l.length) (show 10*b+(c-48)+1<=10*(b+1) by lia)
   grind
def axh(abx:L.pure 154=Ix Of){f:cG}{s:List Nat}{v:Nat}(h0:0<s.length)(h1:s.length<=18)(hv:da s 0=Ix v):bM P L f 154 [.str s]=Ix (.ax [.int .i64 v,.undef]):=by
 rw[lI abx];show (bif yU 0 s.length&&yO s.length 18 then (match da s 0 with | some n=>Ix (AV.ax [.int .i64 n,.undef]) | none=>Iy) else Iy)=_
 rw[nA h0,yC h1,hv];rfl
def agq:∀j:Nat,jz [48] j++[48]=[48]++jz [48] j
 | 0=>rfl
 | j+1=>by
  show ([48]++jz [48] j)++[48]=[48]++([48]++jz [48] j)
  rw[xu,agq j]
def IS:∀j:Nat,(jz [48] j).length=j
 | 0=>rfl
 | j+1=>by show ([48]++jz [48] j).length=_;rw[yE,IS j];simp;lia
def asG:∀(k n:Nat),n<10^k->0<k->j9 k n=jz [48] (k-(ay n).length)++ay n:=by
 intro k
 induction k with
 | zero=>intro n _ h;lia
 | succ k ih=>
  intro n hn _;rw[j9];by_cases jk:n<10
  .rw [rY jk,y8 jk]
   cases k with
   | zero=>rfl
   | succ k=>
    rw[ih (n/10) (by rw[wZ jk];exact ybL (by decide)) (by lia),wZ jk]
    rw[show ay 0=[48] by decide];rw[agq];rfl
  .have hk:0<k:=by
    grind
   rw[ih (n/10) (by rw[xJ] at hn;lia) hk,zy jk,xu,yE]
   grind
def asH{m r:Nat}(hd:d=m/1000000000000000000)(hr:r=m%1000000000000000000):(0<d->ay m=ay d++(jz [48] (18-(ay r).length)++ay r))/\(d=0->ay m=ay r):=by
 have hrb:r<10^18:=by lia
 constructor
 .intro h0;rw[<-asG 18 r hrb (by decide),<-R7 18 d r h0 hrb]
  grind
 .grind
def aAe{f:cG}(h:L.pure 138=Ix D1){n:Nat}(hn:n<18446744073709551616):bM P L f 138 [uc n,aa 10]=Ix (.str (ay n)):=by
 rw[lI h];show (bif yU n 18446744073709551616 then Ix (AV.str (ay n)) else Iy)=_
 rw[nA hn];rfl
def ZC{f:cG}(h:L.pure 139=Ix Eg){n:Nat}(hn:n<=100):bM P L f 139 [.str [48],aa (n:Nat)]=Ix (.str (jz [48] n)):=by
 rw[lI h];show (bif yO n 1099511627776&&yO (1*n) 1099511627776 then Ix (AV.str (jz [48] n)) else Iy)=_
 rw[yC (by lia),yC (by lia)];rfl
def aAf(h:Wd P L)(Hz:L.pure 138=Ix D1)(Dk:L.pure 139=Ix Eg){neg:Bool}{M:Nat}(hM0:0<M)(hK:K<=4000000000)(hlen:(ay M).length<=300000000000):
  cL P L [3,4,5,6] zO (fun k s=>∃(m:Nat) (w:AV) (ps:List (List Nat)) (fl:Bool),m=k/\WN w m/\m<18446744073709551616^K/\ay M=(if m=0 then [] else ay m)++ps.reverse.flatten/\((ps=[]->m=M)/\18*ps.length<=(ay M).length+18)/\(m≠0->18*ps.length+(ay m).length=(ay M).length)/\
    ((ps=[]/\s=⟨[(3,.bool neg),(4,w),(5,.av 0 0 1),(6,.ae)],[(0,.cells fl ycO ycO 1 [uc 1000000000000000000])],1,0⟩)\/
    (ps≠[]/\s=⟨[(3,.bool neg),(4,w),(5,.av 0 0 1),(6,.av 1 0 ps.length)],[(1,.cells ycO ycO ycP 1 (ps.map .str)),(0,.cells fl ycO ycO 1 [uc 1000000000000000000])],2,0⟩))) (fun ex s'=>∃tm ps fl,ex=.exit 0/\ps≠[]/\ps.length<=300000000000/\ay M=ps.reverse.flatten/\ab tm 3=.bool neg/\ab tm 6=.av 1 0 ps.length/\s'=⟨tm,[(1,.cells ycO ycO ycP 1 (ps.map .str)),(0,.cells fl ycO ycO 1 [uc 1000000000000000000])],2,0⟩):=by
 apply cP;rintro k s ⟨m,w,ps,fl,rfl,hw,hmK,DT,amD,fR,hs⟩;have⟨lw,uw,gw,nw,vw⟩:=hw;by_cases hm:m=0
 .right
  have nI:lw=[]:=List.eq_nil_of_length_eq_zero (Nat.le_zero.1 (sJ (K:=0) nw vw (by rw[hm];decide)))
  subst nI;rw[yK hm,xy] at DT;have cu:ps≠[]:=fun e=>by have:=amD.1 e;lia
  have Qr:ps.length<=300000000000:=by have:=amD.2;lia
  rcases hs with ⟨h0,_⟩ | ⟨_,rfl⟩
  .exact absurd h0 cu
  .simp only [go_sem,ya,zO,uw.len,yI,show ¬(0:Int)<((0:Nat):Int) by lia];exact⟨_,_,rfl,by simp,_,ps,fl,rfl,cu,Qr,DT,rfl,rfl,rfl⟩
 .left
  have hw:WN w m:=⟨lw,uw,gw,nw,vw⟩;have hB:WN (.aF ycO 1 [uc 1000000000000000000]) 1000000000000000000:=⟨[1000000000000000000],qZ ycO [1000000000000000000],Jq.2 (by decide),by decide,by simp[bv]⟩;have⟨q,r,e1,hq,hr⟩:=amo h hw hB (K:=K+1) (by decide) (yT hmK (y9 (by decide) (by lia))) (by rw[xJ];have:=ybL (n:=K) (show 0<18446744073709551616 by decide);lia) (by lia)
  have⟨t1,t2⟩:=asH (m:=m) rfl rfl;have gV:=wF m 1000000000000000000;have hrB:=xV m (show 0<1000000000000000000 by decide);obtain⟨d,hd⟩:∃d,d=m/1000000000000000000:=⟨_,rfl⟩;obtain⟨x,hx⟩:∃x,x=m%1000000000000000000:=⟨_,rfl⟩;rw[<-hd] at hq t1 t2 gV;rw[<-hx] at hr t1 t2 gV hrB;have⟨lq,uq,gq,nq,vq⟩:=hq;have⟨lr,ur,gr,nr,vr⟩:=hr;have hxl:(ay x).length<=18:=Bu (k:=17) (by lia);have hxp:=Bv x;have Qc:(lr=[]/\x=0)\/lr=[x]:=by
   have h1:lr.length<=1:=sJ (K:=1) nr vr (by rw[ycE];lia)
   cases lr with
   | nil=>exact .inl ⟨rfl,by rw[<-vr];rfl⟩
   | cons a l=>
    cases l with
    | nil=>rw[Es] at vr;exact .inr (by rw[vr])
    | cons b l=>simp at h1
  have Qs:(lq=[]/\d=0)\/(0<lq.length/\0<d):=by
   cases lq with
   | nil=>exact .inl ⟨rfl,by rw[<-vq];rfl⟩
   | cons a l=>
    refine .inr ⟨by simp,?_⟩;rcases Nat.eq_zero_or_pos d with h0 | h0
    .have:=sJ (K:=0) nq vq (by rw[h0];decide)
     simp at this
    .exact h0
  unfold ah at e1;have FM:(0:Int)<(lw.length:Int):=by
   have:lw≠[]:=fun e=>by subst e;simp[bv] at vw;lia
   have:=uZ.2 this
   lia
  have aJD:=fR hm;have hmp:=Bv m;have new:∀t:List Nat,ay m=(if d=0 then [] else ay d)++t->(d≠0->t.length=18)->
    ay M=(if d=0 then [] else ay d)++(ps++[t]).reverse.flatten/\((ps++[t]=[]->d=M)/\18*(ps++[t]).length<=(ay M).length+18)/\(d≠0->18*(ps++[t]).length+(ay d).length=(ay M).length):=fun t h1 h2=>by
   rw[yx hm,h1] at DT;refine⟨by rw[DT];simp,⟨by simp,by simp only[yE,yB,yI];lia⟩,fun h0=>?_⟩
   have h3:=congrArg List.length h1;rw[yx h0,yE,h2 h0] at h3;simp only[yE,yB,yI]
   lia
  have Fe:d<m:=by lia
  have FN:WN q d:=⟨lq,uq,gq,nq,vq⟩;have sW:lr=[x]->iZ 1 0 r=Ix (.aQ (.int .u64 x::([]:List AV))):=fun e=>by
   subst e
   have:=ur.aT (i:=0) (by simp)
   simpa using this
  have f1:=aAe (P:=P) (f:=D P L) Hz (n:=x) (by lia);have f2:=ZC (P:=P) (f:=D P L) Dk (n:=18-(ay x).length) (by lia);have abA:(18:Int)-((ay x).length:Int)=((18-(ay x).length:Nat):Int):=by lia
  have aJE:18*ps.length<=300000000000:=by lia
  have zl:(jz [48] (18-(ay x).length)++ay x).length=18:=by rw[yE,IS];lia
  obtain⟨z,hz⟩:∃z,z=ay x:=⟨_,rfl⟩;have mo:x=0->z=[48]:=fun e=>by rw[hz,e];decide
  rw[<-hz] at f1 f2 abA hxl hxp zl t1 t2;cases fl
  all_goals
   rcases Qs with ⟨rfl,iM⟩ | ⟨WK,iM⟩
   .have ⟨n1,n2,n3⟩:=new z (by rw[yK iM,xy];exact t2 iM) (fun h=>absurd iM h)
    rcases Qc with ⟨rfl,DN⟩ | rfl
    .have pG:=mo DN;clear hz;subst pG;rcases hs with ⟨dX,rfl⟩ | ⟨dX,rfl⟩
     .subst dX;simp only[go_sem,ya,yb,yV,yA,yi,yf,zO,uw.len,uw.af,uq.len,uq.cd,ur.len,ur.cd,FM,e1,yI,yI,show ¬(0:Int)<((0:Nat):Int) by lia,eT];refine⟨_,d,rfl,Fe,d,q,[]++[[48]],ycP,rfl,FN,by lia,n1,n2,n3,.inr ⟨by simp,?_⟩⟩;simp only[go_sem,ya,yb,ao,aj uq.pu]<;>rfl
     .simp only [go_sem,ya,yb,yA,yi,yf,zO,uw.len,uw.af,uq.len,uq.cd,ur.len,ur.cd,FM,e1,yI,yI,show ¬(0:Int)<((0:Nat):Int) by lia]
      rw[dZ (ex:=ycP) (pu:=ycO) (cs:=ps.map .str) rfl (by simp) (by lia) (by lia) (by decide) rfl];simp only[go_sem,ya,yb];refine⟨_,d,rfl,Fe,d,q,ps++[[48]],ycP,rfl,FN,by lia,n1,n2,n3,.inr ⟨by simp,?_⟩⟩;rw[yX,yE];simp only[go_sem,ya,yb,ao,aj uq.pu]<;>rfl
    .rcases hs with ⟨dX,rfl⟩ | ⟨dX,rfl⟩
     .subst dX;simp only[go_sem,ya,yb,yV,yA,yi,yf,zO,uw.len,uw.af,uq.len,uq.cd,ur.len,ur.cd,FM,e1,yB,yI,yd,show (0:Int)<((1:Nat):Int) by lia,sW rfl,f1,yI,show ¬(0:Int)<((0:Nat):Int) by lia,eT];refine⟨_,d,rfl,Fe,d,q,[]++[z],ycP,rfl,FN,by lia,n1,n2,n3,.inr ⟨by simp,?_⟩⟩;simp only[go_sem,ya,yb,ao,aj uq.pu]<;>rfl
     .simp only [go_sem,ya,yb,yA,yi,yf,zO,uw.len,uw.af,uq.len,uq.cd,ur.len,ur.cd,FM,e1,yB,yI,yd,show (0:Int)<((1:Nat):Int) by lia,sW rfl,f1,yI,show ¬(0:Int)<((0:Nat):Int) by lia]
      rw[dZ (ex:=ycP) (pu:=ycO) (cs:=ps.map .str) rfl (by simp) (by lia) (by lia) (by decide) rfl];simp only[go_sem,ya,yb];refine⟨_,d,rfl,Fe,d,q,ps++[z],ycP,rfl,FN,by lia,n1,n2,n3,.inr ⟨by simp,?_⟩⟩;rw[yX,yE];simp only[go_sem,ya,yb,ao,aj uq.pu]<;>rfl
   .have ⟨n1,n2,n3⟩:=new (jz [48] (18-z.length)++z) (by rw[yx (by lia)];exact t1 iM) (fun _=>zl)
    rcases Qc with ⟨rfl,DN⟩ | rfl
    .have pG:=mo DN;clear hz;subst pG;rcases hs with ⟨dX,rfl⟩ | ⟨dX,rfl⟩
     .subst dX
      simp only[go_sem,ya,yb,yV,yA,yi,yf,zO,uw.len,uw.af,uq.len,uq.cd,ur.len,ur.cd,FM,e1,yI,show ¬(0:Int)<((0:Nat):Int) by lia,show (0:Int)<(lq.length:Int) by lia,show (18:Int)-((1:Nat):Int)=((17:Nat):Int) from rfl,wrapN (n:=17) (by lia),ZC (P:=P) (f:=D P L) Dk (n:=17) (by lia),iY (a:=jz [48] 17) (b:=[48]) (by rw[IS];decide),eT]
      refine⟨_,d,rfl,Fe,d,q,[]++[jz [48] 17++[48]],ycP,rfl,FN,by lia,n1,n2,n3,.inr ⟨by simp,?_⟩⟩;simp only[go_sem,ya,yb,ao,aj uq.pu]<;>rfl
     .simp only [go_sem,ya,yb,yA,yi,yf,zO,uw.len,uw.af,uq.len,uq.cd,ur.len,ur.cd,FM,e1,yI,show ¬(0:Int)<((0:Nat):Int) by lia,show (0:Int)<(lq.length:Int) by lia,show (18:Int)-((1:Nat):Int)=((17:Nat):Int) from rfl,wrapN (n:=17) (by lia),ZC (P:=P) (f:=D P L) Dk (n:=17) (by lia),iY (a:=jz [48] 17) (b:=[48]) (by rw[IS];decide)]
      rw[dZ (ex:=ycP) (pu:=ycO) (cs:=ps.map .str) rfl (by simp) (by lia) (by lia) (by decide) rfl];simp only[go_sem,ya,yb];refine⟨_,d,rfl,Fe,d,q,ps++[jz [48] 17++[48]],ycP,rfl,FN,by lia,n1,n2,n3,.inr ⟨by simp,?_⟩⟩;rw[yX,yE];simp only[go_sem,ya,yb,ao,aj uq.pu]<;>rfl
    .rcases hs with ⟨dX,rfl⟩ | ⟨dX,rfl⟩
     .subst dX
      simp only[go_sem,ya,yb,yV,yA,yi,yf,zO,uw.len,uw.af,uq.len,uq.cd,ur.len,ur.cd,FM,e1,yB,yI,yd,show (0:Int)<((1:Nat):Int) by lia,sW rfl,f1,show (0:Int)<(lq.length:Int) by lia,abA,wrapN (n:=18-z.length) (by lia),f2,iY (a:=jz [48] (18-z.length)) (b:=z) (by rw[IS];lia),eT]
      refine⟨_,d,rfl,Fe,d,q,[]++[jz [48] (18-z.length)++z],ycP,rfl,FN,by lia,n1,n2,n3,.inr ⟨by simp,?_⟩⟩;simp only[go_sem,ya,yb,ao,aj uq.pu]<;>rfl
     .simp only [go_sem,ya,yb,yA,yi,yf,zO,uw.len,uw.af,uq.len,uq.cd,ur.len,ur.cd,FM,e1,yB,yI,yd,show (0:Int)<((1:Nat):Int) by lia,sW rfl,f1,show (0:Int)<(lq.length:Int) by lia,abA,wrapN (n:=18-z.length) (by lia),f2,iY (a:=jz [48] (18-z.length)) (b:=z) (by rw[IS];lia)]
      rw[dZ (ex:=ycP) (pu:=ycO) (cs:=ps.map .str) rfl (by simp) (by lia) (by lia) (by decide) rfl];simp only[go_sem,ya,yb];refine⟨_,d,rfl,Fe,d,q,ps++[jz [48] (18-z.length)++z],ycP,rfl,FN,by lia,n1,n2,n3,.inr ⟨by simp,?_⟩⟩;rw[yX,yE];simp only[go_sem,ya,yb,ao,aj uq.pu]<;>rfl
def jh:Nat->VC->VC
 | 0,c=>aX c
 | n+1,c=>.seq (aX c) (jh n (aA c))
def bU:Nat->VC->VC
 | 0,c=>aA c
 | n+1,c=>bU n (aA c)
def amE:Nat->VC->Prop
 | 0,c=>c=.seq (aX c) (aA c)
 | n+1,c=>c=.seq (aX c) (aA c)/\amE n (aA c)
def SK{P:aJ}{L:Lib}:∀(n:Nat) {c:VC},amE n c->∀s,D P L c s=ju P L (D P L (jh n c) s) (bU n c)
 | 0,c,h,s=>by
  conv=>lhs;rw[show c=.seq (aX c) (aA c) from h]
  rw[nv];rfl
 | n+1,c,h,s=>by
  conv=>lhs;rw[show c=.seq (aX c) (aA c) from h.1]
  show _=ju P L (D P L (.seq (aX c) (jh n (aA c))) s) (bU n (aA c))
  rw[nv,nv]
  cases D P L (aX c) s with
  | none=>rfl
  | some q=>
   have⟨ex,st⟩:=q
   cases ex with
   | normal=>rw[il,il];exact SK n h.2 st
   | ret=>rfl
   | exit id=>rfl
def aq9(h:Nu P L)(Hz:L.pure 138=Ix D1)(Dk:L.pure 139=Ix Eg){s z:Int}{e:Bool}{l:List Nat}(hn:dD s (.aF e l.length (l.map uc)) z)(pG:0<z.natAbs)(WL:z.natAbs<18446744073709551616^K)(hK:K<=4000000000)(hlen:(ay z.natAbs).length<=300000000000):
  ∃ps:List (List Nat),ps≠[]/\ps.length<=300000000000/\ay z.natAbs=ps.reverse.flatten/\D P L (jh 5 HT.body) ⟨[(0,.agg [aa s,.aF e l.length (l.map uc)])],[],0,0⟩=Ix (.normal,⟨[(3,.bool (decide (z<0))),(6,.av 0 0 ps.length)],[(0,.cells ycO ycO ycP 1 (ps.map .str))],1,0⟩):=by
 have⟨r,e1,hr⟩:=Dj h hn;have bt:=hr;have⟨lr,ur,gr,nr,vr⟩:=hr;simp only[go_sem,ya,yb,yi,yf,HT,jh,aX,aA,aG,aZ,yd,cD,ss,eV,cF,a7,e1];generalize qQ:D P L (.loop _ zO) _=qq;obtain⟨ex,st,rfl,tm,ps,fl,rfl,cu,Qr,DT,t3,t6,rfl⟩:=bg qQ (aAf (P:=P) (L:=L) h.toWd Hz Dk (neg:=decide (z<0)) (M:=z.natAbs) (K:=K) pG hK hlen z.natAbs) ⟨z.natAbs,cd r,[],ycO,rfl,bt,WL,by rw[yx (by lia)];simp,⟨fun _=>rfl,by simp⟩,fun _=>by simp,.inl ⟨rfl,by
  simp only[go_sem,ya,yb,ao,aj ur.pu]<;>rfl⟩⟩
 refine⟨ps,cu,Qr,DT,?_⟩;simp only[go_sem,yb,ao,t3,t6]
section
open Go
section
variable {az:List AV}{s:St}
variable {O:bC}
def C5:Nat->vG->vG
 | 0,.seq _ b=>b
 | n+1,.seq _ b=>C5 n b
 | _,c=>c
def Ve:Nat->vG->Prop
 | 0,.seq _ _=>True
 | n+1,.seq _ b=>Ve n b
 | _,_=>False
def ahp(hO:jq O){h:Nat}{c:vG}{l k:Nat}{ex:Ex}{s':St}(hv:D O.prog O.a8 (comp O.P (O.hint h) c l k).1 s=Ix (ex,s')):EE O h c s ex s':=by
 have⟨n,hn⟩:=aa6 hv
 cases n with
 | zero=>rw[Nh] at hn;cases hn
 | succ n=>
  exact ail hO n (fun k _=>aeL hO k) h c l k n (ym _) s ex s' hn
def ajG(hO:jq O){h:Nat}{ro:Option Nat}{lo:Nat}{Q:Exit->Act->yt->Prop}:∀(n:Nat) (c:vG) (l k:Nat),Ve n c->∀(s s1:St),D O.prog O.a8 (jh n (comp O.P (O.hint h) c l k).1) s=Ix (.normal,s1)->
  ∀(m:Mp) (S:Nat->Prop) (w:yt) (a:Act),CS ro w->cp O m S w s.tm a.tmps->aW O m S w s.hp s.ct->s.base<=s.ct->(O.hint h).n<=a.tmps.size->O.w0.heap.size<=lo->lo<=w.heap.size->Marks lo S w a.defers->
  (∀a' w',fI O m S w s .normal s1 a.tmps.size lo .normal a' w'->(C5 n c).wpIn (WF ro) 0 O.P Q a' w')->c.wpIn (WF ro) 0 O.P Q a w
 | n,c,l,k,hc,s,s1,hv=>by
  intro m S w a cR ht hh hb hn bj fy ck hQ
  cases c with
  | seq x y=>
   cases n with
   | zero=>
    refine wpIn_seq (wpIn_mono (ahp hO (show D O.prog O.a8 (comp O.P (O.hint h) x l k).1 s=Ix (.normal,s1) from hv) ro lo m S w a cR ht hh hb hn bj fy ck) ?_);rintro e a' w' hp;have he:e=.normal:=hp.1;subst he;exact hQ a' w' hp
   | succ n=>
    have gD:D O.prog O.a8 (.seq (comp O.P (O.hint h) x l k).1 (jh n (comp O.P (O.hint h) y (comp O.P (O.hint h) x l k).2.1 (comp O.P (O.hint h) x l k).2.2).1)) s=Ix (.normal,s1):=hv;rw[nv] at gD
    cases hx:D O.prog O.a8 (comp O.P (O.hint h) x l k).1 s with
    | none=>rw[hx] at gD;cases gD
    | some q=>
     have⟨ex,st⟩:=q;rw[hx] at gD
     cases ex with
     | ret=>exact absurd gD (by intro h;cases h)
     | exit id=>exact absurd gD (by intro h;cases h)
     | normal=>
      refine wpIn_seq (wpIn_mono (ahp hO hx ro lo m S w a cR ht hh hb hn bj fy ck) ?_);rintro e a' w' ⟨rfl,m',S',k1,k2,k3,k4,k5,k6,k7⟩;refine ajG hO n y _ _ hc st s1 gD m' S' w' a' (RH k5 cR) k1 k2 (by lia) (by lia) bj (xB fy k5.size) k7 ?_;rintro a2 w2 ⟨_,m2,S2,g1,g2,g3,g4,g5,g6,g7⟩;exact hQ a2 w2 ⟨rfl,m2,S2,g1,g2,by lia,by lia,k5.trans (by rw[<-k3];exact g5),by lia,g7⟩
  | _=>cases n<;>exact hc.elim
def aAg(hO:jq O){n:Nat}{F:aw}(hF:O.prog n=Ix F){fn:yaF}{c:vG}(oJ:O.P.funcs[O.ai n]? =Ix fn)(lD:fn.body=Ix c)(hc:(comp O.P (O.hint n) c 0 0).1=F.body->∀m S w a,cp O m S w (fY 0 az) a.tmps->aW O m S w hp ct->(O.hint n).n<=a.tmps.size->a.tmps.size=max fn.ntmps az.length->O.w0.heap.size<=w.heap.size->a.defers=[]->
   c.wpIn (WF Iy) 0 O.P (fI O m S w ⟨fY 0 az,hp,ct,ct⟩ .ret s a.tmps.size w.heap.size) a w)(hr:kJ s F.eG=Ix v):ED O n hp ct az v s.hp s.ct:=by
 intro m S w args hh jt;have⟨fn',q1,q2,q3⟩:=hO.prog n F hF;rw[oJ] at q1;cases q1;have⟨c',q4,q5,q6,q7⟩:=Xf q2;rw[lD] at q4;cases q4;refine .inl ⟨R1 oJ (by rw[lD];rfl) q3,?_⟩
 have hlen:az.length=args.size:=by have:=(kK _ _ jt).symm;simpa using this
 have hw:=hc q5.symm m S w {tmps:=args++Array.replicate (fn.ntmps-args.size) undef,defers:=[]} (af7 _ jt) hh (by simp;lia) (by simp;lia) hh.iG rfl
 refine callsIn_of_wp_marks (F:=ybs) oJ lD trivial (wpIn_mono hw ?_);rintro e a' w' ⟨rfl,m',S',k1,k2,k3,k4,k5,k6,rs,k7,k8,k9⟩;show LeavesInM ybs 0 O.P fn a'.tmps (CB O m S w hp ct v s.hp s.ct) a'.defers .returning w'
 rw[k7];exact XM q6 hr k4 rs w' k8 k9 hh.iG k2 k1 k5
def auT(hO:jq O){n:Nat}{F:aw}(hF:O.prog n=Ix F){fn:yaF}{c:vG}(oJ:O.P.funcs[O.ai n]? =Ix fn)(lD:fn.body=Ix c)(hc:(comp O.P (O.hint n) c 0 0).1=F.body->∀m S w a,cp O m S w (fY 0 az) a.tmps->aW O m S w [] 0->(O.hint n).n<=a.tmps.size->a.tmps.size=max fn.ntmps az.length->O.w0.heap.size<=w.heap.size->a.defers=[]->
   c.wpIn (WF Iy) 0 O.P (fI O m S w ⟨fY 0 az,[],0,0⟩ .ret s a.tmps.size w.heap.size) a w){r:AV}(hv:kJ s F.eG=Ix v)(hr:result s.hp v=Ix r):fF O n az r:=
 Xc (aAg hO hF oJ lD hc hv) hr
end
end
section
open Go
def afw{ai:Nat->Nat}{m:Mp}{S:Nat->Prop}{w:yt}{b:Nat}:∀{ps:List (List Nat)} {o:Nat},cf ai m S w (ps.map .str) b o->
  ∃ts:List ByteArray,(ts.map fun t=>t.data.toList.map xp)=ps/\∀i (h:i<ts.length),w.cell? ⟨b,o+i,Iy⟩=Ix (.string ts[i])
 | [],o,_=>⟨[],rfl,fun i h=>absurd h (Nat.not_lt_zero i)⟩
 | p::ps,o,h=>by
  have⟨⟨u,h1,h2⟩,h3⟩:=h;obtain⟨t,rfl,ht⟩:=h2;have⟨ts,k1,k2⟩:=afw h3;refine⟨t::ts,by rw[List.map_cons,ht,k1],fun i hi=>?_⟩
  cases i with
  | zero=>exact h1
  | succ i=>
   grind
def sK(ts:List ByteArray):List UInt8:=(ts.map fun t=>t.data.toList).flatten
def axi{ts:List ByteArray}(h:(ts.map fun t=>t.data.toList.map xp)=ps):(sK ts.reverse).map xp=ps.reverse.flatten:=by
 subst h;unfold sK;rw[List.map_flatten,vH,<-yaz];rfl
def axj{ts:List ByteArray}(h:(ts.map fun t=>t.data.toList.map xp)=ps):(ts.map (·.size)).sum=ps.reverse.flatten.length:=by
 subst h;rw[List.length_flatten,yaz,List.sum_reverse,vH]
 congr 1
 simp_all
def YZ(P:Program)(c:vG):Prop:=∀(Q:Exit->Act->yt->Prop) (a:Act) (w:yt) (neg:Bool) (ts:List ByteArray) (b o cc:Nat),a.tmps.size=69->a.tmps.getD 3 undef=.bool neg->a.tmps.getD 6 undef=.slice (Ix ⟨b,o,Iy⟩) ts.length cc->
  (∀i (h:i<ts.length),w.cell? ⟨b,o+i,Iy⟩=Ix (.string ts[i]))->(ts.map (·.size)).sum+1<=140737488355328->ts.length<=cc->ts.length<9223372036854775808->
  (∀a' w',Calm w w'->a'.tmps.size=69->a'.defers=a.defers->a'.tmps.getD 2 undef=.string ⟨((if neg then [45] else [])++sK ts.reverse).toArray⟩->Q .ret a' w')->
  (C5 5 c).wpIn Fence.wide 0 P Q a w
section
variable {O:bC}
def ara{n:Nat}(h:n<18446744073709551616^K):(ay n).length<=20*K+1:=by
 refine Bu (k:=20*K) (yT h ?_);have h1:(10:Nat)^(20*K)=(10^20)^K:=Nat.pow_mul ..;exact xB (by rw[h1];exact vR (by decide) K) (y9 (by decide) (Nat.le_succ _))
def auU(hO:jq O)(hN:Nu O.prog O.a8)(Hz:O.a8.pure 138=Ix D1)(Dk:O.a8.pure 139=Ix Eg)(Lg:O.prog 99=Ix HT){fn:yaF}{c:vG}(oJ:O.P.funcs[O.ai 99]? =Ix fn)(lD:fn.body=Ix c)(VN:fn.ntmps=69)(abB:Ve 5 c)(ht:YZ O.P c){s z:Int}{e:Bool}{l:List Nat}(hn:dD s (.aF e l.length (l.map uc)) z)(pG:0<z.natAbs)(hK:l.length<=4000000000)(WL:z.natAbs<18446744073709551616^l.length):
  fF O 99 [.agg [aa s,.aF e l.length (l.map uc)]] (.str (aU z)):=by
 have hlen:=ara WL;have⟨ps,cu,Qr,DT,e1⟩:=aq9 (P:=O.prog) (L:=O.a8) hN Hz Dk hn pG WL hK (by lia)
 refine auT hO Lg oJ lD (s:=⟨[(2,.str (aU z))],[(0,.cells ycO ycO ycP 1 (ps.map .str))],1,0⟩) (v:=.str (aU z)) ?_ rfl rfl;intro aCi m S w a htr hh qM fL hgs DU;refine ajG hO 5 c 0 0 abB _ _ (by rw[aCi];exact e1) m S w a (fun l hl=>by cases hl) htr hh (ym _) qM hgs (ym _) ⟨[],by rw[DU];rfl,by simp,by simp⟩ ?_
 rintro a' w' ⟨_,m',S',k1,k2,k3,k4,k5,k6,k7⟩;have r3:=k1 3;have r6:=k1 6;have g3:ab [(3,AV.bool (decide (z<0))),(6,.av 0 0 ps.length)] 3=.bool (decide (z<0)):=rfl;have g6:ab [(3,AV.bool (decide (z<0))),(6,.av 0 0 ps.length)] 6=.av 0 0 ps.length:=rfl;rw[g3] at r3;rw[g6] at r6;simp only[ak] at r3 r6;have⟨p,cc,hm,r6,hcc,_⟩:=r6;have⟨p',arr,t,iT,_,_,_,_,_,lz,_⟩:=k2.obj 0 _ p rfl hm;rw[hm] at iT;cases iT;have⟨ts,Ad,BN⟩:=afw lz;have qG:ts.length=ps.length:=by rw[<-Ad,List.length_map]
 have Ff:=axj Ad;rw[<-DT] at Ff;have abC:=axi Ad;rw[<-DT] at abC;refine ht _ a' w' (decide (z<0)) ts p.b p.o cc ?_ r3 (by rw[qG];exact r6) BN (by lia) (by lia) (by lia) ?_
 .grind
 .intro a2 w2 hc h1 h2 h3;have PW:=IM k2 hc (S':=S') (fun _ h=>h) (fun _ h=>.inl h) (fun b hb=>yT (k2.slt b hb) hc.size);refine⟨rfl,m',S',?_,PW,rfl,Nat.zero_le _,k5.trans (Ge k2 hc (fun _ h=>h) (fun _ h=>.inl h)),?_,?_⟩
  .intro i;by_cases hi:i=2
   .subst hi;rw[h3];show ak O.ai m' S' w2 (.str (aU z)) _
    simp only[ak];refine⟨_,rfl,?_⟩;by_cases h0:z<0
    .rw [mZ h0,xG h0];simp only[xL,yX];rw[abC];rfl
    .obtain ⟨n,rfl⟩:∃n:Nat,z=n:=⟨z.toNat,by lia⟩;rw[xn h0];simp only[yH,xr,xy];rw[abC];rfl
   .have:ab [(2,AV.str (aU z))] i=.undef:=by
     have hb:yG 2 i=ycP:=by
      cases hq:yG 2 i with
      | false=>rfl
      | true=>exact absurd (Nat.eq_of_beq_eq_true hq).symm hi
     simp only[ab,hb,y5]
    show ak O.ai m' S' w2 (ab [(2,AV.str (aU z))] i) _
    rw[this];simp only[ak]
  .rw [h1,fL,VN];simp
  .rw [h2]
   exact D6 k2 (Ge (base:=0) k2 hc (fun _ h=>h) (fun _ h=>.inl h)) k7
end
end
end VE
