import Derived.Test.YtcifahflapielaaGreatDoorWas
set_option linter.all false
set_option maxRecDepth 100000
open Bool renaming and_self->wj,false_and->xY,false_eq_true->yL,not_false->xb,not_true->y9,true_and->wv
open Go.FloatKind renaming f32->ycG
open Ieee renaming single->ycu
open Int renaming add_zero->yaz,mul_le_mul_of_nonneg_left->wY,mul_tdiv_cancel->uH,natAbs_natCast->wJ,natCast_add->uZ,natCast_mul->xk,ofNat_le->yct,ofNat_tdiv->vZ,ofNat_tmod->ybT
open List renaming any_eq_false->ybn,any_eq_true->ybz,cons_append->xh,drop_eq_getElem_cons->yT,drop_eq_nil_of_le->yZ,drop_succ_cons->we,drop_zero->yg,eq_nil_of_length_eq_zero->yt,getD_eq_getElem?_getD->yU,getElem?_eq_getElem->xf,getElem_map->wQ,getElem_mem->xq,length_append->yM,length_cons->yx,length_map->yv,length_nil->yN,length_take->yO,map->ta,map_append->xu,map_cons->xi,map_map->ybq,map_nil->wW,mem_cons->xx,mem_map->vI,mem_range->tc,nil_append->xG,not_mem_nil->xB,range->wi,range_succ->wZ,take_of_length_le->yq,take_succ_eq_append_getElem->yS,take_zero->yaN
open List.cons renaming injEq->xQ
open Nat renaming div_add_mod->wm,div_le_self->vm,div_lt_iff_lt_mul->xM,eq_zero_or_pos->xv,le_mul_of_pos_left->tT,le_refl->yz,le_trans->xn,lt_of_le_of_lt->wB,lt_or_ge->vz,lt_trans->vO,min_eq_left->xA,mod_eq_zero_of_dvd->yaM,mul_assoc->xm,mul_comm->xz,mul_dvd_mul_left->ybb,mul_le_mul->xF,mul_le_mul_left->xa,mul_le_mul_right->yQ,mul_one->yi,mul_pos->vM,not_lt_zero->uj,one_dvd->ycF,one_lt_two_pow->uS,pow_add->xL,pow_lt_pow_right->vX,pow_succ->xt,pow_zero->ux,reduceAdd->yb,reduceEqDiff->ya,reduceLT->yG,reduceLeDiff->yk,reduceMul->xg,two_pow_pos->xr,zero_add->yf,zero_mul->ve
open Option renaming getD_some->xT
open Rat renaming den_intCast->uF,den_pow->ycE,intCast_add->vJ,intCast_mul->vK,intCast_natCast->yap,intCast_neg->tX,mul_assoc->vG,mul_one->vN,natCast_mul->xV,num_intCast->uE,num_pow->ycD,one_mul->ybc,zpow_natCast->yaj,zpow_neg->ycs
open Option renaming some->GW
open Bool renaming true->ycN,false->ycO
namespace VE
open Go (IntKind)
variable {P:aG}{L:Lib}
def aym(n k:Nat)(h:n<k)(h0:k≠0):Hq k ((2:Rat)^n):=by
 refine⟨?_,?_⟩
 .rw [ycD];unfold Bd;show ((2:Int)^n).natAbs<_
  rw[Int.natAbs_pow];exact vX (by decide) h
 .rw [ycE];unfold Bd;show (((1:Nat)^n:Nat):Int).natAbs<_
  rw[Nat.one_pow];exact uS h0
def apX(k:Nat){z:Int}(h:Bd k z)(h0:k≠0):Hq k ((z:Int):Rat):=⟨by rw[uE];exact h,by rw[uF];exact uS h0⟩
def ayn(k j:Nat){s:Bool}{M:Nat}(h:M<2^j)(hj:j<=k):Bd k (bK s M):=by
 unfold Bd bK
 have:(if s=ycN then -(M:Int) else (M:Int)).natAbs=M:=by split<;>omega
 rw[this];exact Nat.lt_of_lt_of_le h (Nat.pow_le_pow_right (by decide) hj)
def mb(s:Bool)(M:Nat):Rat:=((bK s M:Int):Rat)*p2 (-149)
def ahP(h:Fr' P L)(zx:Has P L 155 FP)(IV:Has P L 241 MX){v:AV}{a:Rat}{K k:Nat}(hv:bE v a)(ka:Hq K a)(hK:K*k+1<=30000000000)(hk:k<9223372036854775808):∃r,af P L 241 [v,aa k] r/\bE r (a^k):=by
 obtain⟨s1,w1,s2,w2,rfl,h1,h2⟩:=hv;obtain⟨l1,u1⟩:=h1.aM;obtain⟨l2,u2⟩:=h2.aM;obtain⟨n,e1,hn⟩:=XI h.toNu zx ⟨s1,w1,rfl,h1⟩ ka.1 hK hk;obtain⟨d,e2,hd⟩:=XI h.toNu zx ⟨s2,w2,rfl,h2⟩ ka.2 hK hk;obtain⟨s3,w3,rfl,h3⟩:=hn;obtain⟨s4,w4,rfl,h4⟩:=hd;obtain⟨l3,u3⟩:=h3.aM;obtain⟨l4,u4⟩:=h4.aM;refine⟨.agg [aa s3,w3,aa s4,w4],?_,s3,w3,s4,w4,rfl,by rw[ycD];exact h3,by rw[ycE,Int.natCast_pow];exact h4⟩
 unfold af at e1 e2;unfold af;rw[aF IV];simp only[go_sem,ya,yb,MX,aR,u1.pu,u1.ak,u1.one,u2.pu,u2.ak,u2.one,u3.one,u4.one,bH,yf,Av,FE,cm,e1,e2,a8,EJ,EK,kT u3 u4,cX,cZ,yg,fW,kU u3 u4]
def Qt:Hq 2 (2:Rat):=⟨by unfold Bd;decide,by unfold Bd;decide⟩
def aAO(h:Fr' P L)(zx:Has P L 155 FP)(IV:Has P L 241 MX)(Su:Has P L 228 MV){k:Int}(hk: -100000<=k/\k<=100000):∃r,af P L 228 [aa k] r/\bE r (p2 k):=by
 obtain⟨t,e1,ht⟩:=Cs h (z:=2) (by decide) (by decide);have ht:bE t (2:Rat):=ht;have un:=Af;obtain⟨t1,t2,t3,t4,rfl,ft⟩:=ht.gen;by_cases c:k<0
 .obtain ⟨n,hn⟩:∃n:Nat,k= -(n:Int):=⟨k.natAbs,by omega⟩;obtain⟨q,e2,hq⟩:=ahP h zx IV ht Qt (k:=n) (by omega) (by omega);have kq:Hq 100001 ((2:Rat)^n):=aym n 100001 (by omega) (by decide);have h0:(2:Rat)^n≠0:=by
   have:=WH n
   rwa[show p2 n=(2:Rat)^n from yaj _ _] at this
  obtain⟨r,e3,hr⟩:=m73 h hq h0 kq (by decide);obtain⟨q1,q2,q3,q4,rfl,fq⟩:=hq.gen;have hp:((2:Rat)^n)⁻¹=p2 k:=by
   rw[hn];unfold p2;rw[ycs,yaj]
  rw[hp] at hr;have bR:=hr;obtain⟨s1,w1,s2,w2,rfl,k1,k2⟩:=hr;obtain⟨l1,u1⟩:=k1.aM;obtain⟨l2,u2⟩:=k2.aM;refine⟨_,?_,bR⟩;have wn:IntKind.wrap .i64 (0-k)=(n:Int):=by rw[wrap64 (by omega) (by omega)];omega
  unfold af at e1 e2 e3;unfold af;rw[aF Su];simp only[go_sem,ya,yb,MV,aR,c,yy,e1,ft.ak,wn,e2,fq.ak,e3,a8,kT u1 u2,cX,cZ,yg,fW,kU u1 u2]
 .obtain ⟨n,hn⟩:∃n:Nat,k=(n:Int):=⟨k.natAbs,by omega⟩;subst hn;obtain⟨r,e2,hr⟩:=ahP h zx IV ht Qt (k:=n) (by omega) (by omega);have hp:(2:Rat)^n=p2 n:=(yaj _ _).symm;rw[hp] at hr;have bR:=hr;obtain⟨s1,w1,s2,w2,rfl,k1,k2⟩:=hr;obtain⟨l1,u1⟩:=k1.aM;obtain⟨l2,u2⟩:=k2.aM;refine⟨_,?_,bR⟩;unfold af at e1 e2;unfold af;rw[aF Su];simp only[go_sem,ya,yb,MV,aR,c,yA,e1,ft.ak,e2,a8,kT u1 u2,cX,cZ,yg,fW,kU u1 u2]
section
variable {s:Bool}{M:Nat}
def rb(b:Nat):refs (.ay .f32 b)=[]:=rfl
def rC(f:Nat->Option Nat)(b:Nat):b9 f (.ay .f32 b)=.ay .f32 b:=rfl
def Bu(n:Nat)(hp:Hp)(b:Nat):freeze (n+1) hp (.ay .f32 b)=GW (.ay .f32 b,hp):=rfl
structure Fx(P:aG)(L:Lib):Prop extends Fr' P L where
 zx:Has P L 155 FP
 Su:Has P L 228 MV
 aAP:Has P L 232 nW
 IV:Has P L 241 MX
def sX:Hp:=[(0,.cells ycN ycN ycN 4 [.int .i64 0,.ab,.int .i64 0,.ab])]
def avM(hM:M<2^277):
  bP P L [0,2,3] Lq (fun d st=>∃(b:Nat) (N:Nat) (k:Nat),d=N/\Fl b s N/\N*2^k=M/\(M=0->k=0)/\st=⟨[(0,.ay .f32 b),(2,.ptr 0 0),(3,aa k)],sX,1,0⟩) (fun ex s'=>∃tm ct b N,∃k:Nat,s'=⟨tm,sX,ct,0⟩/\ex=.exit 0/\Fl b s N/\N*2^k=M/\N<2^173/\k<277/\ai tm 0=.ay .f32 b/\ai tm 2=.ptr 0 0/\ai tm 3=aa k):=by
 apply bQ;rintro d st ⟨b,N,k,hd,hN,hq,hz,rfl⟩;have hk:k<277:=by
  by_cases h0:M=0
  .rw [hz h0];decide
  .have N0:0<N:=by
    rcases xv N with q | q
    .rw [q,ve] at hq;exact absurd hq.symm h0
    .exact q
   have h1:2^k<=N*2^k:=tT _ N0;exact ahO k 277 (wB (by rw[hq] at h1;exact h1) hM)
 obtain⟨a,e1,ha⟩:=ayl hN;have e2:=agk ha agn;have hc:(bK ycO (2^173)<=bK ycO N)↔2^173<=N:=yct;unfold sX;by_cases c:2^173<=N
 .left
  obtain⟨b',e3,bD⟩:=aeO hN (hN.even c);have A2:=hN.even c;rw[xo (hc.2 c)] at e2;have wk:IntKind.wrap .i64 ((k:Int)+1)=((k+1:Nat):Int):=wrap64 (by omega) (by omega);simp only[go_sem,ya,Lq,agm,E5,e1,e2,e3,wk];have qh:0<2^k:=xr _;have Be:M≠0:=fun q=>by
   rw[q] at hq
   have:=vM (show 0<N by omega) qh
   omega
  refine⟨_,N/2,rfl,by omega,b',N/2,k+1,rfl,bD,by rw[xt,xz (2^k),<-xm,show N/2*2=N by omega,hq],fun q=>absurd q Be,?_⟩;simp only[go_sem,ya,yb,ae,rb,rC]<;>rfl
 .right
  rw[yW (fun q=>c (hc.1 q))] at e2;simp only[go_sem,ya,Lq,agm,E5,e1,e2];exact⟨_,_,rfl,by simp,_,_,b,N,k,rfl,rfl,hN,hq,by omega,hk,by simp only[go_sem,ya],by simp only[go_sem,ya],by simp only[go_sem,ya]⟩
def avN:
  bP P L [0,2,3] Lr (fun d st=>∃(b:Nat) (N:Nat) (j:Nat) (k:Int),d+j=149/\Fl b s N/\2^j∣N/\N<2^173/\(N:Rat)*p2 k=(M:Rat)/\-149<=k+j/\k+j<=277/\st=⟨[(0,.ay .f32 b),(2,.ptr 0 0),(3,aa k)],sX,1,0⟩) (fun ex s'=>∃tm ct b N,∃k:Int,s'=⟨tm,sX,ct,0⟩/\ex=.exit 2/\Fl b s N/\N%2^149=0/\N<2^173/\(N:Rat)*p2 k=(M:Rat)/\-298<=k/\k<=277/\ai tm 0=.ay .f32 b/\ai tm 2=.ptr 0 0/\ai tm 3=aa k):=by
 apply bQ;rintro d st ⟨b,N,j,k,hd,hN,hj,aH,hq,k1,k2,rfl⟩;have rZ:N<2^200:=vO aH (by decide);have e1:=Qc hN rZ;have hn:N/2^149<2^24:=by rw[xM (xr _),<-xL];exact aH
 have ha:(bK s (N/2^149)).natAbs=N/2^149:=by unfold bK;split<;>omega
 obtain⟨c,e2,hc⟩:=aei (n:=bK s (N/2^149)) (by omega);rw[ha] at hc;have e3:=agl hN hc;have fg:=wm N (2^149);have hw:(bK s N=bK (decide (bK s (N/2^149)<0)) (N/2^149*2^149))↔N%2^149=0:=by
  have ZW:N/2^149=0->N/2^149*2^149=0:=fun h=>by rw[h,ve]
  generalize hQ:N/2^149=q at*
  generalize hR:N%2^149=r at*
  rw[xz] at fg;generalize q*2^149=X at*
  unfold bK
  cases s with
  | false=>
   have:decide ((if ycO=ycN then -(q:Int) else (q:Int))<0)=ycO:=yW (by simp)
   rw[this];simp;omega
  | true=>
   rw[yK rfl,yK rfl];by_cases q0:q=0
   .have hX:=ZW q0
    have:decide (-(q:Int)<0)=ycO:=yW (by omega)
    rw[this,yI (by decide)];omega
   .have:decide (-(q:Int)<0)=ycN:=xo (by omega)
    rw[this,yK rfl];omega
 unfold sX;by_cases w:N%2^149=0
 .right
  rw[xo (hw.2 w)] at e3;simp only[go_sem,ya,Lr,e1,e2,e3,y9];have aED:j<=149:=by omega
  exact⟨_,_,rfl,by simp,_,_,b,N,k,rfl,rfl,hN,w,aH,hq,by omega,by omega,by simp only[go_sem,ya],by simp only[go_sem,ya],by simp only[go_sem,ya]⟩
 .left
  rw[yW (fun q=>w (hw.1 q))] at e3;have aAQ:N<2^172:=by
   by_cases q:N<2^172
   .exact q
   .exact absurd (hN.whole (by omega)) w
  obtain⟨b',e4,bD⟩:=aeN hN (vO aH (ahN 173 276 (by decide)));have NR:j<149:=by
   rcases vz j 149 with q | q
   .exact q
   .have:j=149:=by omega
    subst this;exact absurd (yaM hj) w
  have wk:IntKind.wrap .i64 (k-1)=k-1:=wrap64 (by omega) (by omega);simp only[go_sem,ya,Lr,e1,e2,e3,xb,e4,wk];refine⟨_,d-1,rfl,by omega,b',2*N,j+1,k-1,by omega,bD,by rw[xt,xz (2^j)];exact ybb 2 hj,by omega,?_,by omega,by omega,?_⟩
  .rw [<-hq,xV]
   have:p2 k=p2 1*p2 (k-1):=by rw[<-kO,show 1+(k-1)=k by omega]
   rw[this,B6];show (2:Rat)*(N:Rat)*p2 (k-1)=(N:Rat)*(2*p2 (k-1))
   grind
  .simp only [go_sem,ya,yb,ae,rb,rC]<;>rfl
def aeP{N:Nat}{k:Int}(h:(N:Rat)*p2 k=(M:Rat))(hw:N%2^149=0):((bK s (N/2^149):Int):Rat)*p2 k=mb s M:=by
 have e:N=N/2^149*2^149:=by have:=wm N (2^149);omega
 have h1:((N/2^149:Nat):Rat)*p2 149=(N:Rat):=by
  conv=>rhs;rw[e,xV,<-mf]
  rfl
 generalize N/2^149=n at h1;have h2:((n:Nat):Rat)*p2 k=(M:Rat)*p2 (-149):=by
  rw[<-h,<-h1]
  have:p2 149*p2 (-149)=1:=by rw[<-kO];exact DD
  have h3:(n:Rat)*p2 149*p2 k*p2 (-149)=(n:Rat)*p2 k*(p2 149*p2 (-149)):=by grind
  rw[h3,this,vN]
 unfold mb bK;have c1:(((n:Nat):Int):Rat)=(n:Rat):=rfl;have c2:(((M:Nat):Int):Rat)=(M:Rat):=rfl
 cases s with
 | true=>rw[yK rfl,yK rfl,tX,tX,c1,c2];grind
 | false=>rw[yI (by decide),yI (by decide),c1,c2];exact h2
def ayo(k:Int):Hq (k.natAbs+2) (p2 k):=by
 by_cases c:0<=k
 .obtain ⟨n,rfl⟩:∃n:Nat,k=n:=⟨k.natAbs,by omega⟩;rw[show p2 (n:Int)=((2^n:Nat):Int) from mf n];exact⟨by rw[uE];unfold Bd;rw[wJ];exact vX (by decide) (by omega),by rw[uF];unfold Bd;exact uS (by omega)⟩
 .obtain ⟨n,rfl⟩:∃n:Nat,k= -(n:Int):=⟨k.natAbs,by omega⟩
  have:p2 (-(n:Int))=(p2 n)⁻¹:=by unfold p2;rw[ycs]
  rw[this];refine Hq.inv ?_;rw[show p2 (n:Int)=((2^n:Nat):Int) from mf n];exact⟨by rw[uE];unfold Bd;rw[wJ];exact vX (by decide) (by omega),by rw[uF];unfold Bd;exact uS (by omega)⟩
def X4(k:Int)(hk:k.natAbs<=900):Hq 1001 (p2 k):=(ayo k).mono (by omega)
def aAR(h:Fx P L){b:Nat}(hb:Fl b s M):∃r,af P L 232 [.ay .f32 b] r/\bE r (mb s M):=by
 have key:∀(b' N:Nat) (k:Int) (tm:Env) (ct:Nat),Fl b' s N->N%2^149=0->N<2^173->(N:Rat)*p2 k=(M:Rat)-> -298<=k->k<=277->ai tm 0=.ay .f32 b'->ai tm 2=.ptr 0 0->ai tm 3=aa k->∃r,gK nW.eG (D P L (BJ 3 nW.body) ⟨[(0,.ay .f32 b'),(2,.ptr 0 0),(3,aa k)],sX,1,0⟩)=GW r/\bE r (mb s M):=by
  intro b' N k tm ct hN hw aH hq k1 k2 _ _ _;have e1:=Qc hN (vO aH (by decide));have hn:N/2^149<2^24:=by rw[xM (xr _),<-xL];exact aH
  have ha:(bK s (N/2^149)).natAbs=N/2^149:=by unfold bK;split<;>omega
  have hx:=aeP (s:=s) hq hw;generalize bK s (N/2^149)=z at*
  obtain⟨u,e2,hu⟩:=Cs h.toFr' (z:=z) (by omega) (by omega);obtain⟨v,e3,hv⟩:=aAO h.toFr' h.zx h.IV h.Su (k:=k) (by omega);have ku:Hq 25 ((z:Int):Rat):=⟨by rw[uE];unfold Bd;omega,by rw[uF];unfold Bd;decide⟩
  obtain⟨r,e4,hr⟩:=Tf h.toFr' hu hv (ku.mono (show 25<=1001 by decide)) (X4 k (by omega)) (by decide);rw[hx] at hr;have bR:=hr;obtain⟨u1,u2,u3,u4,rfl,fu⟩:=hu.gen;obtain⟨v1,v2,v3,v4,rfl,fv'⟩:=hv.gen;obtain⟨r1,r2,r3,r4,rfl,fr⟩:=hr.gen;refine⟨_,?_,bR⟩;unfold af at e2 e3 e4;unfold sX;simp only[go_sem,ya,nW,BJ,aD,e1,e2,fu.ak,e3,fv'.ak,e4,fr.eG,fr.st,a8,cX,cZ,yg,fW]
 have l1:=avM (P:=P) (L:=L) (s:=s) hb.lt M;unfold af;rw[aF h.aAP];have cut:nW.body=.seq (bC nW.body) (.seq (bC (BJ 0 nW.body)) (.seq (bC (BJ 1 nW.body)) (.seq (bC (BJ 2 nW.body)) (BJ 3 nW.body)))):=rfl;show ∃r,gK nW.eG (D P L nW.body _)=GW r/\_
 rw[cut];generalize BJ 3 nW.body=T at key ⊢;simp only[go_sem,yb,nW,BJ,aD,bC,aR];generalize hq:D P L (.loop _ Lq) _=q;obtain⟨ex,st,rfl,tm,ct,b',N,k,rfl,rfl,hN,ZX,aH,hk,t0,t2,t3⟩:=aW hq l1 ⟨b,M,0,rfl,hb,by rw[ux,yi],fun _=>rfl,by unfold sX;simp only[go_sem,ya,yb,ae,rb,rC]<;>rfl⟩
 unfold sX;simp only[go_sem,yb,ae,t0,t2,t3,rb,rC];generalize hq:D P L (.loop _ Lr) _=q;have l2:=avN (P:=P) (L:=L) (s:=s) (M:=M) 149;obtain⟨ex,st,rfl,tm,ct,b2,N2,k2,rfl,rfl,ZY,hw,rZ,ma,k3,k4,u0,u2,u3⟩:=aW hq l2 ⟨b',N,0,k,rfl,hN,by rw[ux];exact ycF N,aH,by rw[<-ZX,xV,mf],by omega,by omega,by unfold sX;simp only[go_sem,ya,yb,ae,rb,rC]<;>rfl⟩
 unfold sX;simp only[go_sem,yb,ae,u0,u2,u3,rb,rC];exact key b2 N2 k2 tm ct ZY hw rZ ma k3 k4 u0 u2 u3
end
def pw(b:Rat):Nat->Rat
 | 0=>1
 | n+1=>pw b n*b
def aeQ(b:Rat)(m:Nat):∀n,pw b (m+n)=pw b m*pw b n
 | 0=>by rw[Nat.add_zero,pw,vN]
 | n+1=>by rw[<-Nat.add_assoc,pw,pw,aeQ b m n,vG]
def MG{b:Rat}{K:Nat}(h:Hq K b):∀n,Hq (K*n+2) (pw b n)
 | 0=>aAD.mono (by omega)
 | n+1=>((MG h n).mul h).mono (by rw[Nat.mul_succ];omega)
def avO(h:Rn P L){b:Rat}{K k0:Nat}(hb:Hq K b)(hK:K*k0<=1000000000):
  bP P L [0,1,5] Hz (fun m st=>∃i e o:Nat,st=⟨[(0,.str (RT (pw b i))),(1,aa e),(5,.str (RT (pw b o)))],[],0,0⟩/\o+i*e=k0/\e<9223372036854775808/\e=m) (fun ex st'=>∃tm ct,st'=⟨tm,[],ct,0⟩/\ex=.exit 0/\ai tm 5=.str (RT (pw b k0))):=by
 apply bQ;rintro m st ⟨i,e,o,rfl,ho,he,rfl⟩;by_cases h0:0<e
 .left
  have hi:i<=k0:=by have:=Nat.le_mul_of_pos_right i h0;omega
  have ki:K*i<=1000000000:=xn (xa K hi) hK;have ko:K*o<=1000000000:=xn (xa K (show o<=k0 by omega)) hK;have e1:=Ax h (MG hb i) (MG hb i) (by omega);have e2:=Ax h (MG hb o) (MG hb i) (by omega);rw[<-aeQ] at e1 e2;have r2:(e:Int).tmod 2=((e%2:Nat):Int):=rfl;have q2:(e:Int).tdiv 2=((e/2:Nat):Int):=rfl;have d0:(2:Int)≠0:=by decide
  have hs:e=2*(e/2)+e%2:=by omega
  have hm:e%2<2:=by omega
  unfold af at e1 e2;generalize e/2=f at*
  generalize e%2=g at*
  have w1:IntKind.wrap .i64 (g:Int)=g:=wrap64 (by omega) (by omega);have w2:IntKind.wrap .i64 (f:Int)=f:=wrap64 (by omega) (by omega);by_cases h1:g=1
  .have d1:decide ((g:Int)=1)=ycN:=xo (by omega);simp only[go_sem,ya,Hz,show (0:Int)<(e:Int) by omega,yy,fF _ _ _ d0,dl _ _ _ d0,r2,q2,w2,d1,e1,e2];refine⟨_,f,rfl,by omega,i+i,f,o+i,by simp only[go_sem,ya,ae],?_,by omega,rfl⟩;rw[<-ho,hs,h1];grind
  .have d1:decide ((g:Int)=1)=ycO:=yW (by omega);simp only[go_sem,ya,Hz,show (0:Int)<(e:Int) by omega,yy,fF _ _ _ d0,dl _ _ _ d0,r2,q2,w2,d1,e1];refine⟨_,f,rfl,by omega,i+i,f,o,by simp only[go_sem,ya,ae],?_,by omega,rfl⟩;have hg:g=0:=by omega
   rw[<-ho,hs,hg];grind
 .right
  obtain rfl:e=0:=by omega
  obtain rfl:o=k0:=by omega
  simp only[go_sem,ya,Hz,show ¬(0:Int)<((0:Nat):Int) by omega,yA];exact⟨_,_,rfl,by simp,_,_,rfl,rfl,by simp only[go_sem,ya]⟩
def ahQ(h:Rn P L)(F9:Has P L 389 Ix){b:Rat}{K k:Nat}(hb:Hq K b)(hK:K*k<=1000000000)(hk:k<9223372036854775808):af P L 389 [.str (RT b),aa k] (.str (RT (pw b k))):=by
 unfold af;rw[aF F9];simp only[go_sem,ya,Ix,show ¬(k:Int)<0 by omega,yA];generalize hq:D P L (.loop _ Hz) _=q;obtain⟨ex,st,rfl,tm,ct,rfl,rfl,t5⟩:=aW hq (avO h hb hK k) ⟨1,k,0,by simp only[go_sem,ya,ae,pw,ybc,aAC],by omega,hk,rfl⟩;simp only[go_sem,ae,t5]
def ayp(h:Rn P L)(B4:Has P L 283 FV)(F9:Has P L 389 Ix){b:Rat}{K k:Nat}(hb:Hq K b)(hK:K*k<=1000000000)(hk:k<9223372036854775808)(k0:0<k)(b0:b≠0)(hK2:K<=1000000000):af P L 389 [.str (RT b),aa (-(k:Int))] (.str (RT (pw b⁻¹ k))):=by
 have e1:=age h B4 hb (by omega) b0;have e2:=ahQ h F9 (hb.inv) hK hk;unfold af at e1 e2 ⊢;rw[aF F9];have w:IntKind.wrap .i64 (0 - -(k:Int))=k:=by rw[show (0:Int) - -(k:Int)=k by omega];exact wrap64 (by omega) (by omega)
 simp only[go_sem,ya,Ix,show -(k:Int)<0 by omega,yy,e1,w,e2]
section
open Go (IntKind)
open Ieee
section
variable {s:Bool}{M:Nat}
structure Fy0(P:aG)(L:Lib):Prop extends Rn P L where
 r9:Has P L 265 FR
 B4:Has P L 283 FV
 F9:Has P L 389 Ix
structure Fy(P:aG)(L:Lib):Prop extends Fy0 P L where
 ahR:Has P L 429 RQ
 X5:Has P L 430 RR
def avP{b:Nat}(h:Fl b ycN M)(h0:M≠0):∃b',binOp .sub (.ay .f32 0) (.ay .f32 b)=GW (.ay .f32 b')/\Fl b' ycO M:=by
 obtain⟨m,e,h1,rfl⟩:=h.ex;obtain⟨b1,b2,b3,b4⟩:=h1.b;have m0:m≠0:=fun q=>h0 (by unfold dT;rw[q,ve])
 obtain⟨m',e',k1,k2,k3⟩:=Ko (n:=m) (k:=e) m0 b2 b1 b4 (m0:=dT m e) (e0:= -149) ycO (by
  rw[Ai b1]
  have:p2 149*p2 (-149)=1:=by rw[<-kO];exact DD
  rw[vG,this,vN])
 have e1:single.sub 0 b=GW (single.write (.number ycO (dT m e) (-149))):=by
  unfold Format.sub;rw[h1.read,show single.read 0=.number ycO 0 (-149) by decide];show GW (single.write (.number (if signed ycO 0 ((-149:Int)-min (-149) e).toNat+signed (!ycN) m (e-min (-149) e).toNat=0 then ycO&&(!ycN) else decide (signed ycO 0 ((-149:Int)-min (-149) e).toNat+signed (!ycN) m (e-min (-149) e).toNat<0)) (signed ycO 0 ((-149:Int)-min (-149) e).toNat+signed (!ycN) m (e-min (-149) e).toNat).natAbs (min (-149) e)))=_
  have hm:min (-149) e= -149:=by omega
  have hs:signed ycO 0 ((-149:Int)-min (-149) e).toNat+signed (!ycN) m (e-min (-149) e).toNat=(dT m e:Nat):=by
   rw[hm];unfold signed dT;simp only[y9,yL,xE,Nat.shiftLeft_eq,ve];rw[show e - -149=e+149 by omega];simp
  rw[hs,hm,yI (by omega),wJ,yW (by omega)]
 refine⟨_,?_,m',e',k1,(asf k1.b.1 b1 k3).symm⟩;show (match single.sub 0 b with | some b=>GW (AV.ay .f32 b) | none=>none)=_
 rw[e1]
def ago:∀k,pw 2 k=p2 k
 | 0=>by rw[show ((0:Nat):Int)=0 from rfl,DD];rfl
 | k+1=>by
  have ih:=ago k;rw[show ((k+1:Nat):Int)=(k:Int)+1 from rfl,kO,B6,<-ih];show _=_
  simp only[pw]
def avQ(k:Nat):pw (2:Rat)⁻¹ k=p2 (-(k:Int)):=by
 have:∀k,pw (2:Rat)⁻¹ k*p2 k=1:=fun k=>by
  induction k with
  | zero=>rw[show ((0:Nat):Int)=0 from rfl,DD];simp[pw]
  | succ k ih=>
   rw[show ((k+1:Nat):Int)=(k:Int)+1 from rfl,kO,B6];have h2:(2:Rat)⁻¹*2=1:=Rat.inv_mul_cancel _ (by decide);simp only[pw]
   have:pw (2:Rat)⁻¹ k*2⁻¹*(p2 k*2)=(pw (2:Rat)⁻¹ k*p2 k)*((2:Rat)⁻¹*2):=by grind
   rw[this,ih,h2,ybc]
 have h1:=this k;have h2:=V1 (k:Int);have h3:pw (2:Rat)⁻¹ k*p2 k*p2 (-(k:Int))=p2 (-(k:Int)):=by rw[h1,ybc]
 rw[vG,Rat.mul_comm (p2 k),h2,vN] at h3;exact h3
def avR(hs:s=ycN->M=0)(hM:M<2^277):
  bP P L [0,4] LC (fun d st=>∃(b:Nat) (N:Nat) (k:Nat),d=N/\Fl b s N/\N*2^k=M/\(M=0->k=0)/\st=⟨[(0,.ay .f32 b),(4,aa k)],[],0,0⟩) (fun ex s'=>∃tm ct b N,∃k:Nat,s'=⟨tm,[],ct,0⟩/\ex=.exit 0/\Fl b s N/\N*2^k=M/\N<2^173/\k<277/\ai tm 0=.ay .f32 b/\ai tm 4=aa k):=by
 apply bQ;rintro d st ⟨b,N,k,hd,hN,hq,hz,rfl⟩;have qh:0<2^k:=xr _;have hk:k<277:=by
  by_cases h0:M=0
  .rw [hz h0];decide
  .have N0:0<N:=by
    rcases xv N with q | q
    .rw [q,ve] at hq;exact absurd hq.symm h0
    .exact q
   have h1:2^k<=N*2^k:=tT _ N0;exact ahO k 277 (wB (by rw[hq] at h1;exact h1) hM)
 have e2:=agk hN agn;have hsN:bK s N=N:=by
  cases s with
  | false=>rfl
  | true=>
   have Be:=hs rfl
   have:N=0:=by
    rcases xv N with q | q
    .exact q
    .have:=vM q qh;omega
   subst this;rfl
 have hc:(bK ycO (2^173)<=bK s N)↔2^173<=N:=by rw[hsN];exact yct
 by_cases c:2^173<=N
 .left
  have A2:=hN.even c;obtain⟨b',e3,bD⟩:=aeO hN A2;rw[xo (hc.2 c)] at e2;have wk:IntKind.wrap .i64 ((k:Int)+1)=((k+1:Nat):Int):=wrap64 (by omega) (by omega);simp only[go_sem,ya,LC,e2,e3,wk];have Be:M≠0:=fun q=>by
   have:=vM (show 0<N by omega) qh
   omega
  refine⟨_,N/2,rfl,by omega,b',N/2,k+1,rfl,bD,by rw[xt,xz (2^k),<-xm,show N/2*2=N by omega,hq],fun q=>absurd q Be,?_⟩;simp only[go_sem,ya,ae,rb,rC]<;>rfl
 .right
  rw[yW (fun q=>c (hc.1 q))] at e2;simp only[go_sem,LC,e2];exact⟨_,_,rfl,by simp,_,_,b,N,k,rfl,rfl,hN,hq,by omega,hk,by simp only[go_sem,ya],by simp only[go_sem,ya]⟩
def anL{N:Nat}:(bK s N=bK (decide (bK s (N/2^149)<0)) (N/2^149*2^149))↔N%2^149=0:=by
 have fg:=wm N (2^149);have ZW:N/2^149=0->N/2^149*2^149=0:=fun h=>by rw[h,ve]
 generalize hQ:N/2^149=q at*
 generalize hR:N%2^149=r at*
 rw[xz] at fg;generalize q*2^149=X at*
 unfold bK
 cases s with
 | false=>
  have:decide ((if ycO=ycN then -(q:Int) else (q:Int))<0)=ycO:=yW (by simp)
  rw[this];simp;omega
 | true=>
  rw[yK rfl,yK rfl];by_cases q0:q=0
  .have hX:=ZW q0
   have:decide (-(q:Int)<0)=ycO:=yW (by omega)
   rw[this,yI (by decide)];omega
  .have:decide (-(q:Int)<0)=ycN:=xo (by omega)
   rw[this,yK rfl];omega
def avS:
  bP P L [0,4] LD (fun d st=>∃(b:Nat) (N:Nat) (j:Nat) (k:Int),d+j=149/\Fl b s N/\2^j∣N/\N<2^173/\(N:Rat)*p2 k=(M:Rat)/\-149<=k+j/\k+j<=277/\st=⟨[(0,.ay .f32 b),(4,aa k)],[],0,0⟩) (fun ex s'=>∃tm ct b N,∃k:Int,s'=⟨tm,[],ct,0⟩/\ex=.exit 2/\Fl b s N/\N%2^149=0/\N<2^173/\(N:Rat)*p2 k=(M:Rat)/\-298<=k/\k<=277/\ai tm 0=.ay .f32 b/\ai tm 4=aa k):=by
 apply bQ;rintro d st ⟨b,N,j,k,hd,hN,hj,aH,hq,k1,k2,rfl⟩;have rZ:N<2^200:=vO aH (by decide);have e1:=Qc hN rZ;have hn:N/2^149<2^24:=by rw[xM (xr _),<-xL];exact aH
 have ha:(bK s (N/2^149)).natAbs=N/2^149:=by unfold bK;split<;>omega
 obtain⟨c,e2,hc⟩:=aei (n:=bK s (N/2^149)) (by omega);rw[ha] at hc;have e3:=agl hN hc;have hw:=anL (s:=s) (N:=N);by_cases w:N%2^149=0
 .right
  rw[xo (hw.2 w)] at e3;simp only[go_sem,ya,LD,e1,e2,e3,y9];exact⟨_,_,rfl,by simp,_,_,b,N,k,rfl,rfl,hN,w,aH,hq,by omega,by omega,by simp only[go_sem,ya],by simp only[go_sem,ya]⟩
 .left
  rw[yW (fun q=>w (hw.1 q))] at e3;have aAQ:N<2^172:=by
   by_cases q:N<2^172
   .exact q
   .exact absurd (hN.whole (by omega)) w
  obtain⟨b',e4,bD⟩:=aeN hN (vO aH (ahN 173 276 (by decide)));have NR:j<149:=by
   rcases vz j 149 with q | q
   .exact q
   .have:j=149:=by omega
    subst this;exact absurd (yaM hj) w
  have wk:IntKind.wrap .i64 (k-1)=k-1:=wrap64 (by omega) (by omega);simp only[go_sem,ya,LD,e1,e2,e3,xb,e4,wk];refine⟨_,d-1,rfl,by omega,b',2*N,j+1,k-1,by omega,bD,by rw[xt,xz (2^j)];exact ybb 2 hj,by omega,?_,by omega,by omega,?_⟩
  .rw [<-hq,xV]
   have:p2 k=p2 1*p2 (k-1):=by rw[<-kO,show 1+(k-1)=k by omega]
   rw[this,B6];show (2:Rat)*(N:Rat)*p2 (k-1)=(N:Rat)*(2*p2 (k-1))
   grind
  .simp only [go_sem,ya,ae,rb,rC]<;>rfl
def aAS(X5:Has P L 430 RR){b:Nat}(hb:Fl b s M)(hs:s=ycN->M=0):∃(n:Nat) (k:Int),af P L 430 [.ay .f32 b] (.av [aa n,aa k])/\n<2^24/\-298<=k/\k<=277/\((n:Nat):Rat)*p2 k=mb s M:=by
 have l1:=avR (P:=P) (L:=L) hs hb.lt M;unfold af;rw[aF X5];simp only[go_sem,RR];generalize hq:D P L (.loop _ LC) _=q;obtain⟨ex,st,rfl,tm,ct,b',N,k,rfl,rfl,hN,ZX,aH,hk,t0,t4⟩:=aW hq l1 ⟨b,M,0,rfl,hb,by rw[ux,yi],fun _=>rfl,by simp only[go_sem,ya,ae,rb,rC]<;>rfl⟩
 simp only[go_sem,ae,t0,t4,rb,rC];generalize hq:D P L (.loop _ LD) _=q;have l2:=avS (P:=P) (L:=L) (s:=s) (M:=M) 149;obtain⟨ex,st,rfl,tm,ct,b2,N2,k2,rfl,rfl,ZY,hw,rZ,ma,k3,k4,u0,u4⟩:=aW hq l2 ⟨b',N,0,k,rfl,hN,by rw[ux];exact ycF N,aH,by rw[<-ZX,xV,mf],by omega,by omega,by simp only[go_sem,ya,ae,rb,rC]<;>rfl⟩
 have e1:=Qc ZY (vO rZ (by decide));have hn:N2/2^149<2^24:=by rw[xM (xr _),<-xL];exact rZ
 have hx:=aeP (s:=s) ma hw;have D7:bK s (N2/2^149)=(N2/2^149:Nat):=by
  cases s with
  | false=>rfl
  | true=>
   have Be:=hs rfl
   have:N2=0:=by
    rw[Be] at ma;have hp:=WH k2;have h0:((N2:Nat):Rat)*p2 k2=0:=ma;rcases Rat.mul_eq_zero.1 h0 with q | q
    .exact_mod_cast q
    .exact absurd q hp
   subst this;rfl
 rw[D7] at hx e1;refine⟨N2/2^149,k2,?_,hn,k3,k4,hx⟩;simp only[go_sem,ya,ae,u0,u4,rb,rC,e1];rfl
end
end
section
variable {s:Bool}{M b:Nat}
def avT:RT (2:Rat)=[50]:=by decide
def WI(h:Fl b s M):Hq 2500 (mb s M):=by
 have hM:=h.lt;have k1:Hq 278 (((bK s M:Int)):Rat):=apX 278 (ayn 278 277 hM (by decide)) (by decide);exact (k1.mul (X4 (-149) (by decide))).mono (by decide)
def asg(M:Nat):mb ycN M= -mb ycO M:=by
 unfold mb bK;rw[yK rfl,yI (by decide),tX];grind
def ayq(h:Fy0 P L){k:Int}(h1: -300<=k)(h2:k<=300):af P L 389 [.str [50],aa k] (.str (RT (p2 k))):=by
 rw[<-avT];by_cases c:k<0
 .obtain ⟨n,rfl⟩:∃n:Nat,k= -(n:Int):=⟨k.natAbs,by omega⟩
  have:=ayp h.toRn h.B4 h.F9 Qt (k:=n) (by omega) (by omega) (by omega) (by decide) (by decide)
  rwa[avQ] at this
 .obtain ⟨n,rfl⟩:∃n:Nat,k=n:=⟨k.natAbs,by omega⟩
  have:=ahQ h.toRn h.F9 Qt (k:=n) (by omega) (by omega)
  rwa[ago] at this
def aeR(h:Fy P L)(hb:Fl b s M)(hs:s=ycN->M=0):af P L 429 [.ay .f32 b] (.str (RT (mb s M))):=by
 obtain⟨n,k,e1,hn,k1,k2,hq⟩:=aAS h.X5 hb hs;have e0:=agj hb Fl.zero;have aH:¬bK s M<bK ycO 0:=by
  cases s with
  | false=>show ¬(M:Int)<0;omega
  | true=>rw[hs rfl];decide
 rw[yW aH] at e0;have e2:=MD h.toRm h.r9 (n:=(n:Int)) (by omega);have e3:=ayq h.toFy0 (k:=k) (by omega) (by omega);have kn:Hq 25 (((n:Int):Int):Rat):=⟨by rw[uE];unfold Bd;rw[wJ];omega,by rw[uF];unfold Bd;decide⟩
 have e4:=Ax h.toRn kn (X4 k (by omega)) (by decide);have bB:(((n:Nat):Int):Rat)*p2 k=mb s M:=hq;rw[bB] at e4;unfold af at e1 e2 e3 e4;unfold af;rw[aF h.ahR];simp only[go_sem,ya,RQ,e0,Bu,e1,UT,Ua,Uu,e2,e3,e4]
def aAT(h:Fy P L)(hb:Fl b s M):af P L 429 [.ay .f32 b] (.str (RT (mb s M))):=by
 by_cases hs:s=ycN->M=0
 .exact aeR h hb hs
 .have nn:s=ycN:=Classical.byContradiction fun q=>hs fun q'=>absurd q' q
  have hM:M≠0:=fun q=>hs fun _=>q
  subst nn;obtain⟨b',e1,bD⟩:=avP hb hM;have e2:=aeR h bD (fun q=>by cases q);have e3:=agb h.toRp (WI bD) (by decide);rw[<-asg] at e3;have e0:=agj hb Fl.zero;have aH:bK ycN M<bK ycO 0:=by show -(M:Int)<0;omega
  rw[xo aH] at e0;unfold af at e2 e3;unfold af;rw[aF h.ahR];simp only[go_sem,ya,RQ,e0,e1,Bu,e2,e3]
end
section
open Go (IntKind)
open Ieee
def X6(b:Nat):Bool:=match single.read b with
 | .number .. =>ycN
 | _=>ycO
def Fl.fin{b M:Nat}{s:Bool}(h:Fl b s M):X6 b=ycN:=by
 obtain⟨m,e,h1,_⟩:=h.ex;unfold X6;rw[h1.read]
end
section
open Go
open Ieee
def ash{b m:Nat}{s:Bool}{e:Int}(h:single.read b=.number s m e):single.sub b b=GW 0:=by
 unfold Format.sub;rw[h];show GW (single.write (.number (if signed s m (e-min e e).toNat+signed (!s) m (e-min e e).toNat=0 then s&& !s else decide (signed s m (e-min e e).toNat+signed (!s) m (e-min e e).toNat<0)) (signed s m (e-min e e).toNat+signed (!s) m (e-min e e).toNat).natAbs (min e e)))=GW 0
 have h0:signed s m (e-min e e).toNat+signed (!s) m (e-min e e).toNat=0:=by
  unfold signed;cases s<;>simp<;>omega
 rw[h0,yK rfl];have hs:(s&& !s)=ycO:=by cases s<;>rfl
 rw[hs];rfl
variable {O:bz}
end
def aej(z:Int):mb (decide (z<0)) (z.natAbs*2^149)=(z:Rat):=by
 have h1:bK (decide (z<0)) (z.natAbs*2^149)=z*((2^149:Nat):Int):=by
  unfold bK;by_cases h:z<0
  .rw [xo h,yK rfl];have e:(z.natAbs:Int)= -z:=by omega
   generalize (2^149:Nat)=g;rw[xk,e,Int.neg_mul,Int.neg_neg]
  .rw [yW h,yI (by decide)];have e:(z.natAbs:Int)=z:=by omega
   generalize (2^149:Nat)=g;rw[xk,e]
 unfold mb;rw[h1,vK];have h2:(((2^149:Nat):Int):Rat)=p2 149:=(mf 149).symm;rw[h2,vG,<-kO,show (149:Int)+ -149=0 from rfl,DD,vN]
section
variable {s:Bool}{cs:List AV}{M b:Nat}
def fb(z:Int):Nat:=ycu.write (.number (z<0) z.natAbs 0)
def Sv:fb 0=0:=by decide+kernel
def ahS:fb 1=1065353216:=by decide+kernel
def ahT:fb (-1)=3212836864:=by decide+kernel
def agp{z:Int}(h:z.natAbs<=16777216):Fl (fb z) (z<0) (z.natAbs*2^149):=Fl.ofInt h
def agq(z:Int):kC (.toFlt .f32) (aa z)=GW (.ay .f32 (fb z)):=rfl
def avU(hb:Fl b s M):binOp .sub (.ay .f32 b) (.ay .f32 b)=GW (.ay .f32 0):=by
 have hf:=hb.fin;unfold X6 at hf
 cases hr:ycu.read b with
 | number s m e=>
  have h1:ycG.format.sub b b=GW 0:=ash hr;simp[binOp,Qy,h1]
 | _=>rw[hr] at hf;cases hf
def aAU:binOp .eql (.ay .f32 0) (.ay .f32 0)=GW (.bool ycN):=by rfl
def ayr(NE:Has P L 231 MW)(hb:Fl b s M):af P L 231 [.ay .f32 b] (.bool ycN):=by
 unfold af;rw[aF NE];simp only[go_sem,ya,MW,avU hb,aAU]
 first | done | rfl
def ays(hx:Fx P L)(ht:Tx P L)(NE:Has P L 231 MW)(X7:Has P L 203 RE)(hb:Fl b s M):af P L 203 [.ay .f32 b] (.av [.str (RT (mb s M)),aa 0]):=by
 have e1:=ayr NE hb;obtain⟨r,e2,hr⟩:=aAR hx hb;have e3:=ZC ht hr (WI hb) (by decide);obtain⟨v1,v2,v3,v4,rfl,fv⟩:=hr.gen;unfold af at e1 e2 e3;unfold af;rw[aF X7];simp only[go_sem,ya,RE,Bu,e1,e2,e3,fv.ak,a8,y9];rfl
def aAV(ht:Tx P L)(X8:Has P L 685 RZ)(hb:Fl b s M)(e1:af P L 203 [.ay .f32 b] (.av [.str (RT (mb s M)),aa 0])):∃r,af P L 685 [.ay .f32 b] r/\bE r (mb s M):=by
 have hl:=E9 (WI hb);obtain⟨r,e2,hr⟩:=ZI ht (a:=mb s M) (by omega);have bR:=hr;obtain⟨v1,v2,v3,v4,rfl,fv⟩:=hr.gen;refine⟨_,?_,bR⟩;unfold af at e1 e2 ⊢;rw[aF X8];simp only[go_sem,ya,yb,RZ,aR,Bu,e1,UT,Ua,Uu,e2,a8,fv.st,cX,cZ,yg,eL,fv.eG]
structure Exc(P:aG)(L:Lib):Prop extends Fx P L,Tx P L where
 X7:Has P L 203 RE
 NE:Has P L 231 MW
 X8:Has P L 685 RZ
def agr(h:Exc P L){z:Int}(hz:z.natAbs<=16777216):∃r,af P L 685 [.ay .f32 (fb z)] r/\bE r (z:Rat):=by
 have hb:=agp hz;obtain⟨r,e,hr⟩:=aAV h.toTx h.X8 hb (ays h.toFx h.toTx h.NE h.X7 hb);exact⟨r,e,by rwa[aej z] at hr⟩
def VL:List AV->List (Int×Int)->Prop
 | [],[]=>True
 | a::b::c::d::e::f::g::i::r,x::l=>di (.agg [a,b,c,d,e,f,g,i]) (x.1:Rat) (x.2:Rat)/\VL r l
 | _,_=>False
def VL.inv{x:Int×Int}{l:List (Int×Int)}(h:VL cs (x::l)):∃a b c d e f g i r,cs=a::b::c::d::e::f::g::i::r/\di (.agg [a,b,c,d,e,f,g,i]) (x.1:Rat) (x.2:Rat)/\VL r l:=by
 match cs,h with
 | a::b::c::d::e::f::g::i::r,h=>exact⟨a,b,c,d,e,f,g,i,r,rfl,h.1,h.2⟩
def VL.NC(h:VL cs []):cs=[]:=by
 match cs,h with
 | [],_=>rfl
 | [_],h=>exact h.elim
 | [_,_],h=>exact h.elim
 | [_,_,_],h=>exact h.elim
 | [_,_,_,_],h=>exact h.elim
 | [_,_,_,_,_],h=>exact h.elim
 | [_,_,_,_,_,_],h=>exact h.elim
 | [_,_,_,_,_,_,_],h=>exact h.elim
 | _::_::_::_::_::_::_::_::_,h=>exact h.elim
def VL.len:∀{l:List (Int×Int)} {cs:List AV},VL cs l->cs.length=l.length*8
 | [],_,h=>by rw[h.NC];rfl
 | x::l,cs,h=>by
  obtain⟨a,b,c,d,e,f,g,i,r,rfl,_,h2⟩:=h.inv
  have:=h2.len
  simp only[yx,this];omega
def VL.c9:∀{l m:List (Int×Int)} {cs ds:List AV},VL cs l->VL ds m->VL (cs++ds) (l++m)
 | [],m,cs,ds,h,k=>by rw[h.NC];exact k
 | x::l,m,cs,ds,h,k=>by
  obtain⟨a,b,c,d,e,f,g,i,r,rfl,h1,h2⟩:=h.inv;exact⟨h1,h2.c9 k⟩
def VL.snoc{l:List (Int×Int)}{x:Int×Int}{a b c d e f g i:AV}(h:VL cs l)(k:di (.agg [a,b,c,d,e,f,g,i]) (x.1:Rat) (x.2:Rat)):VL (cs++[a,b,c,d,e,f,g,i]) (l++[x]):=h.c9 ⟨k,trivial⟩
def VL.get:∀{l:List (Int×Int)} {cs:List AV} {n:Nat},VL cs l->∀(hn:n<l.length),∃a b c d e f g i r,cs.drop (n*8)=a::b::c::d::e::f::g::i::r/\di (.agg [a,b,c,d,e,f,g,i]) (l[n].1:Rat) (l[n].2:Rat)
 | [],_,n,_,hn=>absurd hn (uj n)
 | x::l,cs,0,h,hn=>by
  obtain⟨a,b,c,d,e,f,g,i,r,rfl,h1,_⟩:=h.inv;exact⟨a,b,c,d,e,f,g,i,r,rfl,h1⟩
 | x::l,cs,n+1,h,hn=>by
  obtain⟨a,b,c,d,e,f,g,i,r,rfl,_,h2⟩:=h.inv;obtain⟨a',b',c',d',e',f',g',i',r',q,k⟩:=h2.get (n:=n) (by simpa using hn);refine⟨a',b',c',d',e',f',g',i',r',?_,k⟩;rw[show (n+1)*8=n*8+1+1+1+1+1+1+1+1 by omega];exact q
def nf(v:AV)(l:List (Int×Int)):Prop:=(v=.ab/\l=[])\/∃e cs,v=.ap e l.length cs/\VL cs l
section
variable {v:AV}{l:List (Int×Int)}
def nf.pu(h:nf v l):aQ v=ycN:=by
 rcases h with ⟨rfl,rfl⟩ | ⟨e,cs,rfl,h⟩<;>rfl
def nf.a6(h:nf v l){n:Nat}(hn:n<l.length):∃a b c d e f g i r,fc 8 n v=GW (.bN (a::b::c::d::e::f::g::i::r))/\di (.agg [a,b,c,d,e,f,g,i]) (l[n].1:Rat) (l[n].2:Rat):=by
 rcases h with ⟨rfl,rfl⟩ | ⟨e,cs,rfl,h⟩
 .exact absurd hn (uj n)
 .obtain ⟨a,b,c,d,e',f,g,i,r,e1,e2⟩:=h.get hn;refine⟨a,b,c,d,e',f,g,i,r,?_,e2⟩;rw[K0 e _ hn,e1]
def ado(e:Bool)(h:VL cs l):nf (.ap e l.length cs) l:=.inr ⟨e,cs,rfl,h⟩
end
end
def bi.snoc{α β:Type}{p:α->β->Prop}:∀{l:List α} {m:List β} {a:α} {b:β},bi p l m->p a b->bi p (l++[a]) (m++[b])
 | [],[],_,_,_,h=>⟨h,trivial⟩
 | _::_,_::_,_,_,h,k=>⟨h.1,bi.snoc h.2 k⟩
def br{β:Type}(p:AV->β->Prop)(v:AV)(M:List β):Prop:=∃rows,b6 v rows/\bi p rows M
section
variable {β:Type}{p:AV->β->Prop}{v:AV}{s:List β}
def br.len(h:br p v s){hp:Hp}:iW hp 1 v=GW (.int .i64 (s.length:Nat)):=by
 have⟨rows,h1,h2⟩:=h;rw[<-h2.len];exact h1.len
def br.pu(h:br p v s):aQ v=ycN:=by have⟨rows,h1,h2⟩:=h;exact h1.pu
def br.ak(h:br p v s)(n:Nat){hp:Hp}:freeze (n+1) hp v=GW (v,hp):=by have⟨rows,h1,h2⟩:=h;exact h1.ak n
def br.one(h:br p v s):cY v=ycN:=by have⟨rows,h1,h2⟩:=h;exact h1.one
def br.a6(h:br p v s){i:Nat}(hi:i<s.length):∃r rest,p r s[i]/\fc 1 i v=GW (.bN (r::rest)):=by
 have⟨rows,h1,h2⟩:=h;have dP:i<rows.length:=by rw[h2.len];exact hi
 exact⟨_,_,h2.get dP hi,h1.a6 dP⟩
def j0:br p .ab []:=⟨[],q8,trivial⟩
def pG(e:Bool){rows:List AV}(h:bi p rows s):br p (.ap e s.length rows) s:=by
 have:=ru e rows
 rw[h.len] at this;exact⟨rows,this,h⟩
end
def cG(k:Nat):List AV->AV
 | []=>.ab
 | _::r=>.aq k 0 (r.length+1)
def ew(k:Nat):List AV->Nat->AV
 | _,0=>.ab
 | [],n+1=>.aq k 0 (n+1)
 | _::_,n+1=>.aq (k+1) 0 (n+1)
def cl(k sz:Nat)(F:Hp):List AV->List AV->Hp
 | [],[]=>F
 | a::r,[]=>(k,.cells ycN ycN ycO 1 (a::r))::F
 | [],b::q=>(k,.cells ycN ycN ycO sz (b::q))::F
 | a::r,b::q=>(k+1,.cells ycN ycN ycO sz (b::q))::(k,.cells ycN ycN ycO 1 (a::r))::F
def bW(k:Nat):List AV->List AV->Nat
 | [],[]=>k
 | _::_,[]=>k+1
 | [],_::_=>k+1
 | _::_,_::_=>k+2
section
variable (k sz:Nat)(F:Hp)(a b:AV)(r q o:List AV)(n:Nat)
def eM:cG k []=.ab:=rfl
def dc:cG k (a::r)=.aq k 0 (r.length+1):=rfl
def mR:ew k o 0=.ab:=by cases o<;>rfl
def iX:ew k [] (n+1)=.aq k 0 (n+1):=rfl
def iY:ew k (a::r) (n+1)=.aq (k+1) 0 (n+1):=rfl
def kv:cl k sz F [] []=F:=rfl
def fI:cl k sz F (a::r) []=(k,.cells ycN ycN ycO 1 (a::r))::F:=rfl
def iU:cl k sz F [] (b::q)=(k,.cells ycN ycN ycO sz (b::q))::F:=rfl
def iV:cl k sz F (a::r) (b::q)=(k+1,.cells ycN ycN ycO sz (b::q))::(k,.cells ycN ycN ycO 1 (a::r))::F:=rfl
def jg:bW k [] []=k:=rfl
def gk:bW k (a::r) []=k+1:=rfl
def jB:bW k [] (b::q)=k+1:=rfl
def jC:bW k (a::r) (b::q)=k+2:=rfl
end
def cp(p:Int):AV:=.bT .f32 (fb (jX p)) (fb (jY p))
def pz(p:Int):Int×Int:=(jX p,jY p)
def ayt(p:Int):aQ (cp p)=ycN:=rfl
def QU(p:Int):kC .re (cp p)=GW (.ay .f32 (fb (jX p))):=rfl
def QV(p:Int):kC .im (cp p)=GW (.ay .f32 (fb (jY p))):=rfl
def adp(p:Int):(jX p).natAbs<=16777216/\(jY p).natAbs<=16777216:=by
 rcases ED p with ⟨_,h1,h2⟩ | ⟨_,h1,h2⟩ | ⟨_,h1,h2⟩ | ⟨_,h1,h2⟩<;>rw[h1,h2]<;>decide
def Ga(v:AV)(s:List (List Int)):Prop:=br (fun r row=>b6 r (row.map cp)) v s
def mA(v:AV)(s:List (List (Int×Int))):Prop:=br nf v s
def Qu{tm:Env}{x0 x1 x2 x3 x4 x5 x6 x7 a b c d e f g i:AV}(h:bY [a,b,c,d,e,f,g,i]=ycN):lI tm [x0,x1,x2,x3,x4,x5,x6,x7] 0 8 [a,b,c,d,e,f,g,i] []=GW [a,b,c,d,e,f,g,i]:=by
 rw[K1 (by rfl) (by simp) h];rfl
def Qv(eN pu ex:Bool)(a b c d e f g i:AV):Om 0 1 8 (GW (.cells eN pu ex 8 [a,b,c,d,e,f,g,i]))=GW (1,[a,b,c,d,e,f,g,i]):=rfl
def avV(h:Exc P L){v w:AV}{row:List Int}{N r:Nat}(pv:aQ v=ycN)(hw:b6 w (row.map cp))(hl:row.length<=8){o:List AV}:
  bP P L [3,6,9,10,11,15,16,17] HH (fun d st=>∃n cs,n+d=row.length/\VL cs ((row.take n).map pz)/\st=⟨[(3,cG 0 o),(6,ew 0 o n),(9,v),(10,aa N),(11,aa r),(15,w),(16,aa row.length),(17,aa n)],cl 0 8 [] o cs,bW 0 o cs,0⟩) (fun ex s'=>∃tm ct cs,s'=⟨tm,cl 0 8 [] o cs,ct,0⟩/\ex=.exit 2/\VL cs (row.map pz)/\ai tm 3=cG 0 o/\ai tm 6=ew 0 o row.length/\ai tm 9=v/\ai tm 10=aa N/\ai tm 11=aa r):=by
 apply bQ;rintro d st ⟨n,cs,lh,eI,rfl⟩;by_cases hn:n<row.length
 .left
  have e0:=hw.a6 (i:=n) (by simpa using hn);rw[wQ] at e0;obtain⟨s1,s2⟩:=adp row[n];obtain⟨x,e1,hx⟩:=agr h s1;obtain⟨y,e2,hy⟩:=agr h s2;obtain⟨x1,x2,x3,x4,rfl,gx⟩:=hx.gen;obtain⟨y1,y2,y3,y4,rfl,gy⟩:=hy.gen;have hr:=di.mk hx hy;have o8:bY [x1,x2,x3,x4,y1,y2,y3,y4]=ycN:=by simp only[bY,gx.o1,gx.o2,gx.o3,gx.o4,gy.o1,gy.o2,gy.o3,gy.o4,wj]
  obtain⟨p1,p2,p3,p4⟩:=gx.qV;obtain⟨p5,p6,p7,p8⟩:=gy.qV;have ZZ:aE [x1,x2,x3,x4,y1,y2,y3,y4]=ycN:=by simp only[aE,p1,p2,p3,p4,p5,p6,p7,p8,wj]
  have bL:=eI.len;rw[yv,yO,xA (by omega)] at bL;have dd:VL (cs++[x1,x2,x3,x4,y1,y2,y3,y4]) ((row.take (n+1)).map pz):=by
   rw[yS hn,xu];exact eI.snoc hr
  unfold af at e1 e2
  suffices hh:∃s',_=GW (Ex.normal,s')/\bq [3,6,9,10,11,15,16,17] s'=⟨[(3,cG 0 o),(6,ew 0 o (n+1)),(9,v),(10,aa N),(11,aa r),(15,w),(16,aa row.length),(17,aa ((n+1:Nat):Int))],cl 0 8 [] o (cs++[x1,x2,x3,x4,y1,y2,y3,y4]),bW 0 o (cs++[x1,x2,x3,x4,y1,y2,y3,y4]),0⟩ by
   obtain⟨s',q1,q2⟩:=hh;exact⟨s',d-1,q1,by omega,n+1,_,by omega,dd,q2⟩
  cases n with
  | zero=>
   have:cs=[]:=yt (by omega)
   subst this;cases o<;>
   .simp only [go_sem,ya,yb,xg,yG,yk,HH,eM,dc,mR,iX,iY,kv,fI,jg,gk,show ((0:Nat):Int)<row.length by omega,e0,QU,QV,Bu,e1,e2,a8,rA gx.o1 gx.o2 gx.o3 gx.o4,rB gy.o1 gy.o2 gy.o3 gy.o4,Qu o8,fM,ZZ,Qv,eO];refine⟨_,rfl,?_⟩;rw[wrap64 (by omega) (by omega)];simp only[go_sem,ya,yb,ae,an hw.pu,an pv]<;>rfl
  | succ n=>
   cases cs with
   | nil=>simp at bL
   | cons c cs=>
    cases o<;>
    .simp only [go_sem,ya,yb,xg,HH,eM,dc,iX,iY,iU,iV,jB,jC,show ((n+1:Nat):Int)<row.length by omega,e0,QU,QV,Bu,e1,e2,a8,rA gx.o1 gx.o2 gx.o3 gx.o4,rB gy.o1 gy.o2 gy.o3 gy.o4,Qu o8,fM,ZZ,Qv]
     rw[dK (ex:=ycO) (pu:=ycN) (sz:=8) (by simp only[go_sem,ya]<;>rfl) bL (by omega) (by omega) (by decide) o8]
     simp only[go_sem,ya,yb,ZZ];refine⟨_,rfl,?_⟩;rw[wrap64 (by omega) (by omega)];simp only[go_sem,ya,yb,ae,an hw.pu,an pv]<;>rfl
 .right
  have oU:n=row.length:=by omega
  simp only[go_sem,ya,HH,show ¬(n:Int)<row.length by omega];rw[yq (by omega)] at eI;exact⟨_,_,rfl,by simp,_,_,cs,rfl,rfl,eI,by simp only[go_sem,ya],by simp only[go_sem,ya,oU],by simp only[go_sem,ya],by simp only[go_sem,ya],by simp only[go_sem,ya]⟩
def avW(h:Exc P L){v:AV}{s:List (List Int)}{n:Nat}(hv:Ga v s)(hs:s.length<=8)(hn:0<n)(gh:n<=8)(fZ:∀i (hi:i<s.length),s[i].length=n):
  bP P L [3,9,10,11] LO (fun d st=>∃r o,r+d=s.length/\bi nf o ((s.take r).map (·.map pz))/\st=⟨[(3,cG 0 o),(9,v),(10,aa s.length),(11,aa r)],cl 0 8 [] o [],bW 0 o [],0⟩) (fun ex s'=>∃tm ct o,s'=⟨tm,cl 0 8 [] o [],ct,0⟩/\ex=.exit 0/\bi nf o (s.map (·.map pz))/\ai tm 3=cG 0 o):=by
 apply bQ;rintro d st ⟨r,o,eT,ho,rfl⟩;by_cases hr:r<s.length
 .left
  obtain⟨w,rest,hw,e0⟩:=hv.a6 hr;have hlen:=fZ r hr;have dH:=ho.len;rw[yv,yO,xA (by omega)] at dH;have key:=avV (P:=P) (L:=L) h (v:=v) (w:=w) (N:=s.length) (r:=r) hv.pu hw (by omega) (o:=o);simp only[go_sem,ya,LO,show (r:Int)<s.length by omega,e0,hw.len,yv];generalize hq:D P L (.loop _ HH) _=q;obtain⟨ex,st,rfl,tm,ct,cs,rfl,rfl,g1,g3,g6,g9,g10,g11⟩:=aW hq (key s[r].length) ⟨0,[],by omega,trivial,by
   cases o<;>simp only[go_sem,ya,yb,ae,eM,dc,mR,kv,fI,jg,gk,an hv.pu,an hw.pu]<;>rfl⟩
  have bL:=g1.len;rw[yv,hlen] at bL;rw[hlen] at g6;obtain⟨n',rfl⟩:∃n',n=n'+1:=⟨n-1,by omega⟩;have kG:=fL (hp:=cl 0 8 [] o cs) ycO bL (show 0<8 by decide);have dd:bi nf (o++[.ap ycO (n'+1) cs]) ((s.take (r+1)).map (·.map pz)):=by
   rw[yS hr,xu];refine ho.snoc ?_
   have:=ado ycO g1
   rwa[yv,hlen] at this
  suffices hh:∃s',_=GW (Ex.normal,s')/\bq [3,9,10,11] s'=⟨[(3,cG 0 (o++[.ap ycO (n'+1) cs])),(9,v),(10,aa s.length),(11,aa ((r+1:Nat):Int))],cl 0 8 [] (o++[.ap ycO (n'+1) cs]) [],bW 0 (o++[.ap ycO (n'+1) cs]) [],0⟩ by
   obtain⟨s',q1,q2⟩:=hh;exact⟨s',d-1,q1,by omega,r+1,_,by omega,dd,q2⟩
  cases cs with
  | nil=>simp at bL
  | cons c cs=>
   cases o with
   | nil=>
    simp only[eM,iX] at g3 g6;simp only[go_sem,ya,yb,xg,yG,yk,yi,ae,g3,g6,g9,g10,g11,iU,an hv.pu,fL ycO bL (show 0<8 by decide),eO];refine⟨_,rfl,?_⟩;rw[wrap64 (by omega) (by omega)];simp only[go_sem,ya,yb,ae,dc,fI,gk,an hv.pu]<;>rfl
   | cons a o=>
    simp only[dc,iY] at g3 g6;simp only[yx] at dH;simp only[go_sem,ya,yb,yk,yi,ae,g3,g6,g9,g10,g11,iV,an hv.pu,fL ycO bL (show 0<8 by decide)]
    rw[dK (ex:=ycO) (pu:=ycN) (sz:=1) (by simp only[go_sem,ya]<;>rfl) (by simp) (by omega) (by omega) (by decide) (by simp only[go_sem])]
    simp only[go_sem,ya,yb];refine⟨_,rfl,?_⟩;rw[wrap64 (by omega) (by omega)];simp only[go_sem,ya,yb,ae,dc,fI,gk,yM,an hv.pu]<;>rfl
 .right
  have Zb:r=s.length:=by omega
  rw[yq (by omega)] at ho;simp only[go_sem,ya,LO,show ¬(r:Int)<s.length by omega];exact⟨_,_,rfl,by simp,_,_,o,rfl,rfl,ho,by simp only[go_sem,ya]⟩
def aAW(h:Exc P L)(X9:Has P L 703 R0){v:AV}{s:List (List Int)}{n:Nat}(hv:Ga v s)(n5:0<s.length)(hs:s.length<=8)(hn:0<n)(gh:n<=8)(fZ:∀i (hi:i<s.length),s[i].length=n):
  ∃r,af P L 703 [v] r/\mA (shut r) (s.map (·.map pz)):=by
 have key:=avW (P:=P) (L:=L) h hv hs hn gh fZ;unfold af;rw[aF X9];simp only[go_sem,ya,R0,hv.len];generalize hq:D P L (.loop _ LO) _=q;obtain⟨ex,st,rfl,tm,ct,o,rfl,rfl,g1,g3⟩:=aW hq (key s.length) ⟨0,[],by omega,trivial,by simp only[go_sem,ya,ae,eM,kv,jg,an hv.pu]<;>rfl⟩
 have dH:=g1.len;rw[yv] at dH
 cases o with
 | nil=>simp at dH;omega
 | cons a o=>
  simp only[dc,yx] at g3 dH;refine⟨.cL ycO 1 s.length (a::o),?_,?_⟩
  .simp only [go_sem,yb,ae,g3,fI];rw[dH];exact Ez (CO _ _ _) (by simpa using dH) (by decide)
  .have:=pG (p:=nf) ycO g1
   rwa[yv] at this
def mz(t:List (List (Int×Int)))(a b:Nat):Int×Int:=(t.getD a []).getD b (0,0)
def ll(n a k b l:Nat):Int:=(-((a*k+b*l:Nat):Int)*4).tdiv n
def WJ(a k b l:Nat):ll 2 a k b l= -((a*k+b*l:Nat):Int)*2:=by
 unfold ll;rw[show (-((a*k+b*l:Nat):Int)*4)=(-((a*k+b*l:Nat):Int)*2)*((2:Nat):Int) by omega];exact uH _ (by decide)
def WK(a k b l:Nat):ll 4 a k b l= -((a*k+b*l:Nat):Int):=by
 unfold ll;exact uH _ (by decide)
def jt(t:List (List (Int×Int)))(n k l a b:Nat):Int:=sU (mz t a b).1 (mz t a b).2 (ll n a k b l)
def ju(t:List (List (Int×Int)))(n k l a b:Nat):Int:=sW (mz t a b).1 (mz t a b).2 (ll n a k b l)
def bm(f:Nat->Nat->Int)(n A B:Nat):Int:=mw (fun a=>mw (fun b=>f a b) n) A+mw (fun b=>f A b) B
def CR(f:Nat->Nat->Int)(n A B:Nat):bm f n A (B+1)=bm f n A B+f A B:=by simp only[bm,mw,Int.add_assoc]
def CY(f:Nat->Nat->Int)(n A:Nat):bm f n A n=bm f n (A+1) 0:=by simp only[bm,mw,yaz]
def Ih(f:Nat->Nat->Int)(n:Nat):bm f n 0 0=0:=rfl
def mS{f:Nat->Nat->Int}{n:Nat}{B:Int}(hB:0<=B)(hn:n<=8)(h:∀a b,a<n->b<n-> -B<=f a b/\f a b<=B){A C:Nat}(hA:A<=n)(hC:C<=n)(hAC:A<n\/C=0): -(B*72)<=bm f n A C/\bm f n A C<=B*72:=by
 have r1:∀a,a<n-> -(B*8)<=mw (fun b=>f a b) n/\mw (fun b=>f a b) n<=B*8:=fun a ha=>by
  have:=Qs (f:=fun b=>f a b) hB (fun b hb=>h a b ha hb) n (yz n)
  have h8:B*(n:Int)<=B*8:=wY (by omega) hB;omega
 have r2:=Qs (b:=B*8) (by omega) r1 A hA;have h64:B*8*(A:Int)<=B*8*8:=wY (by omega) (by omega);have r3: -(B*8)<=mw (fun b=>f A b) C/\mw (fun b=>f A b) C<=B*8:=by
  rcases hAC with GM | rfl
  .have:=Qs (f:=fun b=>f A b) hB (fun b hb=>h A b GM hb) C hC
   have h8:B*(C:Int)<=B*8:=wY (by omega) hB;omega
  .simp only [mw];omega
 unfold bm;omega
structure fK(t:List (List (Int×Int)))(n:Nat)(B:Int):Prop where
 len:t.length=n
 row:∀i (hi:i<t.length),t[i].length=n
 small:∀a b,a<n->b<n->(-B<=(mz t a b).1/\(mz t a b).1<=B)/\(-B<=(mz t a b).2/\(mz t a b).2<=B)
def Qw{t:List (List (Int×Int))}{a b:Nat}(ha:a<t.length)(hb:b<t[a].length):mz t a b=t[a][b]:=by
 have h1:t.getD a []=t[a]:=by rw[yU,xf ha,xT]
 unfold mz;rw[h1,yU,xf hb,xT]
def mA.at{v:AV}{t:List (List (Int×Int))}{n:Nat}{B:Int}(hv:mA v t)(hT:fK t n B){a b:Nat}(ha:a<n)(hb:b<n):
  ∃w rest c1 c2 c3 c4 c5 c6 c7 c8 r,fc 1 a v=GW (.bN (w::rest))/\fc 8 b w=GW (.bN (c1::c2::c3::c4::c5::c6::c7::c8::r))/\di (.agg [c1,c2,c3,c4,c5,c6,c7,c8]) ((mz t a b).1:Rat) ((mz t a b).2:Rat)/\aQ w=ycN:=by
 have kH:a<t.length:=by rw[hT.len];exact ha
 have bD:b<t[a].length:=by rw[hT.row a kH];exact hb
 obtain⟨w,rest,hw,e0⟩:=br.a6 hv kH;obtain⟨c1,c2,c3,c4,c5,c6,c7,c8,r,e1,hp⟩:=nf.a6 hw bD;rw[<-Qw kH bD] at hp;exact⟨w,rest,c1,c2,c3,c4,c5,c6,c7,c8,r,e0,e1,hp,nf.pu hw⟩
def Ii{z:Int}(h: -1000000<=z/\z<=1000000):z.natAbs<2^40:=by omega
structure Trf(P:aG)(L:Lib):Prop extends Exc P L where
 AN:Has P L 701 Du
 IU:Has P L 709 FW
 X0:Has P L 710 R2
def adq(h:Trf P L){c v:AV}{x y:Int}{u w e:Int}(hc:di c (u:Rat) (w:Rat))(hv:di v (x:Rat) (y:Rat))(bu: -1000000<=u/\u<=1000000)(bw: -1000000<=w/\w<=1000000)(bx: -1000000<=x/\x<=1000000)(bX: -1000000<=y/\y<=1000000):
  ∃r q,af P L 709 [v,aa e] r/\(∀(n:Nat) (hp:Hp),freeze (n+20) hp (VE.shut r)=GW (VE.shut r,hp))/\af P L 710 [c,VE.shut r] q/\di q ((u+sU x y e:Int):Rat) ((w+sW x y e:Int):Rat):=by
 obtain⟨r,e1,hr⟩:=aAN h.toFr' h.AN h.IU e hv (Ii bx) (Ii bX);obtain⟨b1,b2⟩:=G9 e bx bX
 obtain⟨q,e2,hq⟩:=aAM h.toFr' h.X0 hc hr (iw (Ii bu)) (iw (Ii bw)) (iw (Ii b1)) (iw (Ii b2)) (by decide);obtain⟨r1,r2,r3,r4,r5,r6,r7,r8,rfl,gr⟩:=hr.gen;refine⟨_,q,e1,fun n hp=>by rw[a8];exact gr.ak n hp,by rw[a8];exact e2,?_⟩
 rw[vJ,vJ];exact hq
def avX(h:Trf P L){v:AV}{t:List (List (Int×Int))}{n k l a:Nat}(hv:mA v t)(hT:fK t n 1)(hn:n=2\/n=4)(hk:k<n)(hl:l<n)(ha:a<n){o q:List AV}{m:Nat}:
  ∀d st,(∃b c1 c2 c3 c4 c5 c6 c7 c8,b+d=n/\di (.agg [c1,c2,c3,c4,c5,c6,c7,c8]) (bm (jt t n k l) n a b:Rat) (bm (ju t n k l) n a b:Rat)/\
    bq [0,3,4,5,6,7,8,9,13,14,17,18,24,25,28,29] st=⟨[(0,v),(3,aa n),(4,cG 0 o),(5,aa k),(6,ew 0 o m),(7,aa l),(8,.ptr (bW 0 o q) 0),(9,aa a),(13,aa n),(14,aa k),(17,aa n),(18,aa l),(24,aa n),(25,aa a),(28,aa n),(29,aa b)],
     (bW 0 o q,.cells ycN ycN ycN 8 [c1,c2,c3,c4,c5,c6,c7,c8])::cl 0 8 [] o q,bW 0 o q+1,0⟩)->
   (q=[]↔m=0)->
   ∃ex s',D P L (.loop [0,3,4,5,6,7,8,9,13,14,17,18,24,25,28,29] E0) st=GW (ex,s')/\∃tm ct c1 c2 c3 c4 c5 c6 c7 c8,s'=⟨tm,(bW 0 o q,.cells ycN ycN ycN 8 [c1,c2,c3,c4,c5,c6,c7,c8])::cl 0 8 [] o q,ct,0⟩/\ex=.exit 6/\
    di (.agg [c1,c2,c3,c4,c5,c6,c7,c8]) (bm (jt t n k l) n (a+1) 0:Rat) (bm (ju t n k l) n (a+1) 0:Rat)/\
    ai tm 0=v/\ai tm 3=aa n/\ai tm 4=cG 0 o/\ai tm 5=aa k/\ai tm 6=ew 0 o m/\ai tm 7=aa l/\ai tm 8=.ptr (bW 0 o q) 0/\ai tm 13=aa n/\ai tm 14=aa k/\ai tm 17=aa n/\ai tm 18=aa l/\ai tm 24=aa n/\ai tm 25=aa a:=by
 intro d st aU Bf;revert d st;intro dq sq;generalize zP:bq [0,3,4,5,6,7,8,9,13,14,17,18,24,25,28,29] sq=s0;revert zP s0 sq dq;apply aus;rintro d st ⟨b,c1,c2,c3,c4,c5,c6,c7,c8,Ch,hc,rfl⟩;have bt:∀a b,a<n->b<n->(-1<=jt t n k l a b/\jt t n k l a b<=1)/\(-1<=ju t n k l a b/\ju t n k l a b<=1):=fun a b ha hb=>G9 _ (hT.small a b ha hb).1 (hT.small a b ha hb).2
 by_cases hb:b<n
 .left
  obtain⟨w,rest,v1,v2,v3,v4,v5,v6,v7,v8,r,e0,e1,hp,pw⟩:=hv.at hT ha hb;have s1:=mS (f:=jt t n k l) (B:=1) (by decide) (by omega) (fun a b ha hb=>(bt a b ha hb).1) (A:=a) (C:=b) (by omega) (by omega) (.inl ha);have s2:=mS (f:=ju t n k l) (B:=1) (by decide) (by omega) (fun a b ha hb=>(bt a b ha hb).2) (A:=a) (C:=b) (by omega) (by omega) (.inl ha);have sm:=hT.small a b ha hb;obtain⟨y,z,e2,fy,e3,hz⟩:=adq h (e:=ll n a k b l) hc hp (by omega) (by omega) (by omega) (by omega);have Ej:(a:Int)*k=((a*k:Nat):Int):=by rw[xk]
  have nB:(b:Int)*l=((b*l:Nat):Int):=by rw[xk]
  have b1:a*k<=16:=xF (show a<=4 by omega) (show k<=4 by omega);have b2:b*l<=16:=xF (show b<=4 by omega) (show l<=4 by omega);have hex:((0-(((a*k:Nat):Int)+((b*l:Nat):Int)))*4).tdiv n=ll n a k b l:=by unfold ll;rw[uZ,Int.zero_sub]
  have Z0: -1000<=ll n a k b l/\ll n a k b l<=1000:=by
   rcases hn with rfl | rfl
   .rw [WJ];omega
   .rw [WK];omega
  obtain⟨z1,z2,z3,z4,z5,z6,z7,z8,rfl,gz⟩:=hz.gen;have gp:=hp.two;obtain⟨_,_,_,_,_,_,_,_,ep,_,_,gv⟩:=gp;simp only[AV.agg.injEq,xQ,wC] at ep;obtain⟨rfl,rfl,rfl,rfl,rfl,rfl,rfl,rfl⟩:=ep;obtain⟨_,_,_,_,_,_,_,_,ec,_,_,gc⟩:=hc.two;simp only[AV.agg.injEq,xQ,wC] at ec;obtain⟨rfl,rfl,rfl,rfl,rfl,rfl,rfl,rfl⟩:=ec;have jq:(n:Int)≠0:=by omega
  unfold af at e2 e3
  suffices hh:∃s',_=GW (Ex.normal,s')/\bq [0,3,4,5,6,7,8,9,13,14,17,18,24,25,28,29] s'=⟨[(0,v),(3,aa n),(4,cG 0 o),(5,aa k),(6,ew 0 o m),(7,aa l),(8,.ptr (bW 0 o q) 0),(9,aa a),(13,aa n),(14,aa k),(17,aa n),(18,aa l),(24,aa n),(25,aa a),(28,aa n),(29,aa ((b+1:Nat):Int))],
     (bW 0 o q,.cells ycN ycN ycN 8 [z1,z2,z3,z4,z5,z6,z7,z8])::cl 0 8 [] o q,bW 0 o q+1,0⟩ by
   obtain⟨s',q1,q2⟩:=hh;refine⟨s',d-1,q1,by omega,b+1,_,_,_,_,_,_,_,_,by omega,?_,q2⟩;rw[CR,CR];exact hz
  have hm:(∃m',m=m'+1/\q≠[])\/(m=0/\q=[]):=by
   cases m with
   | zero=>exact .inr ⟨rfl,Bf.2 rfl⟩
   | succ m=>exact .inl ⟨m,rfl,fun c=>by have:=Bf.1 c;omega⟩
  rcases hm with ⟨m',rfl,hq⟩ | ⟨rfl,rfl⟩
  .cases q with
   | nil=>exact absurd rfl hq
   | cons qa q=>
    cases o<;>
    .simp only [go_sem,ya,yb,E0,eM,dc,iX,iY,iU,iV,jB,jC,show (b:Int)<n by omega,yg,Az,e0,e1,XZ,Ej,nB,wrap64 (n:=((a*k:Nat):Int)) (by omega) (by omega),wrap64 (n:=((b*l:Nat):Int)) (by omega) (by omega),wrap64 (n:=((a*k:Nat):Int)+((b*l:Nat):Int)) (by omega) (by omega),wrap64 (n:=0-(((a*k:Nat):Int)+((b*l:Nat):Int))) (by omega) (by omega),wrap64 (n:=(0-(((a*k:Nat):Int)+((b*l:Nat):Int)))*4) (by omega) (by omega),dl _ _ _ jq,hex,wrap64 (n:=ll n a k b l) (by omega) (by omega),gv.ak,e2,fy,gc.ak,e3,a8,gz.st];refine⟨_,rfl,?_⟩;rw[wrap64 (by omega) (by omega)];simp only[go_sem,ya,yb,ae,an hv.pu]<;>rfl
  .cases o<;>
   .simp only [go_sem,ya,yb,E0,eM,dc,mR,kv,fI,jg,gk,show (b:Int)<n by omega,yg,Az,e0,e1,XZ,Ej,nB,wrap64 (n:=((a*k:Nat):Int)) (by omega) (by omega),wrap64 (n:=((b*l:Nat):Int)) (by omega) (by omega),wrap64 (n:=((a*k:Nat):Int)+((b*l:Nat):Int)) (by omega) (by omega),wrap64 (n:=0-(((a*k:Nat):Int)+((b*l:Nat):Int))) (by omega) (by omega),wrap64 (n:=(0-(((a*k:Nat):Int)+((b*l:Nat):Int)))*4) (by omega) (by omega),dl _ _ _ jq,hex,wrap64 (n:=ll n a k b l) (by omega) (by omega),gv.ak,e2,fy,gc.ak,e3,a8,gz.st];refine⟨_,rfl,?_⟩;rw[wrap64 (by omega) (by omega)];simp only[go_sem,ya,yb,ae,an hv.pu]<;>rfl
 .right
  have GN:b=n:=by omega
  subst GN;simp only[go_sem,ya,E0,show ¬(b:Int)<b by omega];rw[CY,CY] at hc;exact⟨_,_,rfl,by simp,_,_,_,_,_,_,_,_,_,_,rfl,rfl,hc,by simp only[go_sem,ya],by simp only[go_sem,ya],by simp only[go_sem,ya],by simp only[go_sem,ya],by simp only[go_sem,ya],by simp only[go_sem,ya],by simp only[go_sem,ya],by simp only[go_sem,ya],by simp only[go_sem,ya],by simp only[go_sem,ya],by simp only[go_sem,ya],by simp only[go_sem,ya],by simp only[go_sem,ya]⟩
def avY(h:Trf P L){v:AV}{t:List (List (Int×Int))}{n k l:Nat}(hv:mA v t)(hT:fK t n 1)(hn:n=2\/n=4)(hk:k<n)(hl:l<n){o q:List AV}{m:Nat}(Bf:q=[]↔m=0):
  bP P L [0,3,4,5,6,7,8,13,14,17,18,24,25] E1 (fun d st=>∃a c1 c2 c3 c4 c5 c6 c7 c8,a+d=n/\di (.agg [c1,c2,c3,c4,c5,c6,c7,c8]) (bm (jt t n k l) n a 0:Rat) (bm (ju t n k l) n a 0:Rat)/\
    st=⟨[(0,v),(3,aa n),(4,cG 0 o),(5,aa k),(6,ew 0 o m),(7,aa l),(8,.ptr (bW 0 o q) 0),(13,aa n),(14,aa k),(17,aa n),(18,aa l),(24,aa n),(25,aa a)],
     (bW 0 o q,.cells ycN ycN ycN 8 [c1,c2,c3,c4,c5,c6,c7,c8])::cl 0 8 [] o q,bW 0 o q+1,0⟩) (fun ex s'=>∃tm ct c1 c2 c3 c4 c5 c6 c7 c8,s'=⟨tm,(bW 0 o q,.cells ycN ycN ycN 8 [c1,c2,c3,c4,c5,c6,c7,c8])::cl 0 8 [] o q,ct,0⟩/\ex=.exit 4/\
    di (.agg [c1,c2,c3,c4,c5,c6,c7,c8]) (bm (jt t n k l) n n 0:Rat) (bm (ju t n k l) n n 0:Rat)/\
    ai tm 0=v/\ai tm 3=aa n/\ai tm 4=cG 0 o/\ai tm 5=aa k/\ai tm 6=ew 0 o m/\ai tm 8=.ptr (bW 0 o q) 0/\ai tm 13=aa n/\ai tm 14=aa k/\ai tm 17=aa n/\ai tm 18=aa l):=by
 apply bQ;rintro d st ⟨a,c1,c2,c3,c4,c5,c6,c7,c8,Z1,hc,rfl⟩;have hm:(∃m',m=m'+1/\q≠[])\/(m=0/\q=[]):=by
  cases m with
  | zero=>exact .inr ⟨rfl,Bf.2 rfl⟩
  | succ m=>exact .inl ⟨m,rfl,fun c=>by have:=Bf.1 c;omega⟩
 obtain⟨_,_,_,_,_,_,_,_,ec,k1,k2,gc⟩:=hc.two;simp only[AV.agg.injEq,xQ,wC] at ec;obtain⟨rfl,rfl,rfl,rfl,rfl,rfl,rfl,rfl⟩:=ec;obtain⟨p1,p2,p3,p4⟩:=k1.f4.qV;obtain⟨p5,p6,p7,p8⟩:=k2.f4.qV;by_cases ha:a<n
 .left
  have key:=avX h hv hT hn hk hl ha (o:=o) (q:=q) (m:=m)
  have start:∀st,bq [0,3,4,5,6,7,8,9,13,14,17,18,24,25,28,29] st=⟨[(0,v),(3,aa n),(4,cG 0 o),(5,aa k),(6,ew 0 o m),(7,aa l),(8,.ptr (bW 0 o q) 0),(9,aa a),(13,aa n),(14,aa k),(17,aa n),(18,aa l),(24,aa n),(25,aa a),(28,aa n),(29,aa (0:Nat))],
     (bW 0 o q,.cells ycN ycN ycN 8 [c1,c2,c3,c4,c5,c6,c7,c8])::cl 0 8 [] o q,bW 0 o q+1,0⟩->_:=fun st e=>key n st ⟨0,c1,c2,c3,c4,c5,c6,c7,c8,by omega,hc,e⟩ Bf
  suffices hh:∃s' z1 z2 z3 z4 z5 z6 z7 z8,_=GW (Ex.normal,s')/\di (.agg [z1,z2,z3,z4,z5,z6,z7,z8]) (bm (jt t n k l) n (a+1) 0:Rat) (bm (ju t n k l) n (a+1) 0:Rat)/\bq [0,3,4,5,6,7,8,13,14,17,18,24,25] s'=⟨[(0,v),(3,aa n),(4,cG 0 o),(5,aa k),(6,ew 0 o m),(7,aa l),(8,.ptr (bW 0 o q) 0),(13,aa n),(14,aa k),(17,aa n),(18,aa l),(24,aa n),(25,aa ((a+1:Nat):Int))],
     (bW 0 o q,.cells ycN ycN ycN 8 [z1,z2,z3,z4,z5,z6,z7,z8])::cl 0 8 [] o q,bW 0 o q+1,0⟩ by
   obtain⟨s',z1,z2,z3,z4,z5,z6,z7,z8,q1,q2,q3⟩:=hh;exact⟨s',d-1,q1,by omega,a+1,_,_,_,_,_,_,_,_,by omega,q2,q3⟩
  rcases hm with ⟨m',rfl,hq⟩ | ⟨rfl,rfl⟩
  .cases q with
   | nil=>exact absurd rfl hq
   | cons qa q=>
    cases o<;>
    .simp only [eM,dc,iX,iY,iU,iV,jB,jC] at*
     simp only[go_sem,ya,yb,E1,show (a:Int)<n by omega];generalize bB:D P L (.loop [0,3,4,5,6,7,8,9,13,14,17,18,24,25,28,29] E0) _=q';obtain⟨ex,st,rfl,tm,ct,z1,z2,z3,z4,z5,z6,z7,z8,rfl,rfl,hz,t0,t3,t4,t5,t6,t7,t8,t13,t14,t17,t18,t24,t25⟩:=aW bB (I:=fun st=>bq _ st=_) start (by simp only[go_sem,ya,yb,ae,an hv.pu]<;>rfl)
     simp only[go_sem,ya,yb,ae,t0,t3,t4,t5,t6,t7,t8,t13,t14,t17,t18,t24,t25,an hv.pu];refine⟨_,z1,z2,z3,z4,z5,z6,z7,z8,rfl,hz,?_⟩;rw[wrap64 (by omega) (by omega)];simp only[go_sem,ya,yb,ae,an hv.pu]<;>rfl
  .cases o<;>
   .simp only [eM,dc,mR,kv,fI,jg,gk] at*
    simp only[go_sem,ya,yb,E1,show (a:Int)<n by omega];generalize bB:D P L (.loop [0,3,4,5,6,7,8,9,13,14,17,18,24,25,28,29] E0) _=q';obtain⟨ex,st,rfl,tm,ct,z1,z2,z3,z4,z5,z6,z7,z8,rfl,rfl,hz,t0,t3,t4,t5,t6,t7,t8,t13,t14,t17,t18,t24,t25⟩:=aW bB (I:=fun st=>bq _ st=_) start (by simp only[go_sem,ya,yb,ae,an hv.pu]<;>rfl)
    simp only[go_sem,ya,yb,ae,t0,t3,t4,t5,t6,t7,t8,t13,t14,t17,t18,t24,t25,an hv.pu];refine⟨_,z1,z2,z3,z4,z5,z6,z7,z8,rfl,hz,?_⟩;rw[wrap64 (by omega) (by omega)];simp only[go_sem,ya,yb,ae,an hv.pu]<;>rfl
 .right
  have GO:a=n:=by omega
  subst GO;simp only[go_sem,ya,E1,show ¬(a:Int)<a by omega];exact⟨_,_,rfl,by simp,_,_,_,_,_,_,_,_,_,_,rfl,rfl,hc,by simp only[go_sem,ya],by simp only[go_sem,ya],by simp only[go_sem,ya],by simp only[go_sem,ya],by simp only[go_sem,ya],by simp only[go_sem,ya],by simp only[go_sem,ya],by simp only[go_sem,ya],by simp only[go_sem,ya],by simp only[go_sem,ya]⟩
section
variable {v:AV}{k m n:Nat}
def Ek(t:List (List (Int×Int)))(n k l:Nat):Int×Int:=(bm (jt t n k l) n n 0,bm (ju t n k l) n n 0)
def cE(t:List (List (Int×Int)))(n k m:Nat):List (Int×Int):=(wi m).map (Ek t n k)
def gS(t:List (List (Int×Int)))(n m:Nat):List (List (Int×Int)):=(wi m).map fun k=>cE t n k n
def EL{t:List (List (Int×Int))}:(cE t n k m).length=m:=by simp[cE]
def U5{t:List (List (Int×Int))}:cE t n k (m+1)=cE t n k m++[Ek t n k m]:=by simp[cE,wZ]
def CZ{t:List (List (Int×Int))}:(gS t n m).length=m:=by simp[gS]
def U6{t:List (List (Int×Int))}:gS t n (m+1)=gS t n m++[cE t n m n]:=by simp[gS,wZ]
def avZ(h:Trf P L){t:List (List (Int×Int))}(hv:mA v t)(hT:fK t n 1)(hn:n=2\/n=4)(hk:k<n){o:List AV}:
  bP P L [0,3,4,5,6,13,14,17,18] HI (fun d st=>∃m cs,m+d=n/\VL cs (cE t n k m)/\st=⟨[(0,v),(3,aa n),(4,cG 0 o),(5,aa k),(6,ew 0 o m),(13,aa n),(14,aa k),(17,aa n),(18,aa m)],cl 0 8 [] o cs,bW 0 o cs,0⟩) (fun ex s'=>∃tm ct cs,s'=⟨tm,cl 0 8 [] o cs,ct,0⟩/\ex=.exit 2/\VL cs (cE t n k n)/\ai tm 0=v/\ai tm 3=aa n/\ai tm 4=cG 0 o/\ai tm 6=ew 0 o n/\ai tm 13=aa n/\ai tm 14=aa k):=by
 apply bQ;rintro d st ⟨m,cs,DN,eI,rfl⟩;have bL:=eI.len;rw[EL] at bL;by_cases hm:m<n
 .left
  have Bf:cs=[]↔m=0:=⟨fun c=>by rw[c] at bL;simp at bL;omega,fun c=>yt (by omega)⟩;obtain⟨z,e1,hz⟩:=Cs h.toFr' (z:=0) (by omega) (by omega);have hz:bE z 0:=hz;obtain⟨z1,z2,z3,z4,rfl,gz⟩:=hz.gen;have gG:di (.agg [z1,z2,z3,z4,z1,z2,z3,z4]) (bm (jt t n k m) n 0 0:Rat) (bm (ju t n k m) n 0 0:Rat):=by
   rw[Ih,Ih];simpa using di.mk hz hz
  obtain⟨_,_,_,_,_,_,_,_,ec,_,_,gc⟩:=gG.two;simp only[AV.agg.injEq,xQ,wC] at ec;obtain⟨rfl,rfl,rfl,rfl,rfl,rfl,rfl,rfl⟩:=ec;obtain⟨q1,q2,q3,q4⟩:=gz.qV;have key:=avY h hv hT hn hk hm (o:=o) (q:=cs) (m:=m) Bf
  have start:∀st,bq [0,3,4,5,6,7,8,13,14,17,18,24,25] st=⟨[(0,v),(3,aa n),(4,cG 0 o),(5,aa k),(6,ew 0 o m),(7,aa m),(8,.ptr (bW 0 o cs) 0),(13,aa n),(14,aa k),(17,aa n),(18,aa m),(24,aa n),(25,aa (0:Nat))],
     (bW 0 o cs,.cells ycN ycN ycN 8 [z1,z2,z3,z4,z1,z2,z3,z4])::cl 0 8 [] o cs,bW 0 o cs+1,0⟩->_:=fun st e=>key n st ⟨0,_,_,_,_,_,_,_,_,by omega,gG,e⟩
  suffices hh:∃s' y1 y2 y3 y4 y5 y6 y7 y8,_=GW (Ex.normal,s')/\di (.agg [y1,y2,y3,y4,y5,y6,y7,y8]) ((Ek t n k m).1:Rat) ((Ek t n k m).2:Rat)/\bq [0,3,4,5,6,13,14,17,18] s'=⟨[(0,v),(3,aa n),(4,cG 0 o),(5,aa k),(6,ew 0 o (m+1)),(13,aa n),(14,aa k),(17,aa n),(18,aa ((m+1:Nat):Int))],cl 0 8 [] o (cs++[y1,y2,y3,y4,y5,y6,y7,y8]),bW 0 o (cs++[y1,y2,y3,y4,y5,y6,y7,y8]),0⟩ by
   obtain⟨s',y1,y2,y3,y4,y5,y6,y7,y8,r1,r2,r3⟩:=hh;refine⟨s',d-1,r1,by omega,m+1,_,by omega,?_,r3⟩;rw[U5];exact eI.snoc r2
  have fO:∀{y1 y2 y3 y4 y5 y6 y7 y8:AV} {a b:Rat},di (.agg [y1,y2,y3,y4,y5,y6,y7,y8]) a b->bY [y1,y2,y3,y4,y5,y6,y7,y8]=ycN/\aE [y1,y2,y3,y4,y5,y6,y7,y8]=ycN:=fun hy=>by
   obtain⟨_,_,_,_,_,_,_,_,ey,k1,k2,_⟩:=hy.two;simp only[AV.agg.injEq,xQ,wC] at ey;obtain⟨rfl,rfl,rfl,rfl,rfl,rfl,rfl,rfl⟩:=ey;have f1:=k1.f4;have f2:=k2.f4;obtain⟨p1,p2,p3,p4⟩:=f1.qV;obtain⟨p5,p6,p7,p8⟩:=f2.qV;exact⟨by simp only[bY,f1.o1,f1.o2,f1.o3,f1.o4,f2.o1,f2.o2,f2.o3,f2.o4,wj],by simp only[aE,p1,p2,p3,p4,p5,p6,p7,p8,wj]⟩
  unfold af at e1
  cases m with
  | zero=>
   have:cs=[]:=Bf.2 rfl
   subst this;cases o<;>
   .simp only [eM,dc,mR,iX,iY,kv,fI,jg,gk] at*
    simp only[go_sem,ya,yb,HI,show ((0:Nat):Int)<n by omega,e1,a8,aR,rA gz.o1 gz.o2 gz.o3 gz.o4,rB gz.o1 gz.o2 gz.o3 gz.o4,gc.st];generalize bB:D P L (.loop [0,3,4,5,6,7,8,13,14,17,18,24,25] E1) _=q';obtain⟨ex,st,rfl,tm,ct,y1,y2,y3,y4,y5,y6,y7,y8,rfl,rfl,hy,t0,t3,t4,t5,t6,t8,t13,t14,t17,t18⟩:=aW bB (I:=fun st=>bq _ st=_) start (by simp only[go_sem,ya,yb,ae,an hv.pu]<;>rfl)
    obtain⟨o8,p8⟩:=fO hy;simp only[go_sem,ya,yb,xg,yG,yk,ae,t0,t3,t4,t5,t6,t8,t13,t14,t17,t18,an hv.pu,yg,Az,Qu o8,fM,p8,Qv,eO];refine⟨_,y1,y2,y3,y4,y5,y6,y7,y8,rfl,hy,?_⟩;rw[wrap64 (by omega) (by omega)];simp only[go_sem,ya,yb,ae,an hv.pu,iU,iV,jB,jC]<;>rfl
  | succ m=>
   cases cs with
   | nil=>exact absurd (Bf.1 rfl) (by omega)
   | cons c cs=>
    cases o<;>
    .simp only [eM,dc,iX,iY,iU,iV,jB,jC] at*
     simp only[go_sem,ya,yb,HI,show ((m+1:Nat):Int)<n by omega,e1,a8,aR,rA gz.o1 gz.o2 gz.o3 gz.o4,rB gz.o1 gz.o2 gz.o3 gz.o4,gc.st];generalize bB:D P L (.loop [0,3,4,5,6,7,8,13,14,17,18,24,25] E1) _=q';obtain⟨ex,st,rfl,tm,ct,y1,y2,y3,y4,y5,y6,y7,y8,rfl,rfl,hy,t0,t3,t4,t5,t6,t8,t13,t14,t17,t18⟩:=aW bB (I:=fun st=>bq _ st=_) start (by simp only[go_sem,ya,yb,ae,an hv.pu]<;>rfl)
     obtain⟨o8,p8⟩:=fO hy;simp only[go_sem,ya,yb,xg,ae,t0,t3,t4,t5,t6,t8,t13,t14,t17,t18,an hv.pu,yg,Az,Qu o8,fM,p8,Qv]
     rw[dK (ex:=ycO) (pu:=ycN) (sz:=8) (by simp only[go_sem,ya]<;>rfl) bL (by omega) (by omega) (by decide) o8]
     simp only[go_sem,ya,yb,p8];refine⟨_,y1,y2,y3,y4,y5,y6,y7,y8,rfl,hy,?_⟩;rw[wrap64 (by omega) (by omega)];simp only[go_sem,ya,yb,ae,an hv.pu,iU,iV,jB,jC]<;>rfl
 .right
  have To:m=n:=by omega
  subst To;simp only[go_sem,ya,HI,show ¬(m:Int)<m by omega];exact⟨_,_,rfl,by simp,_,_,cs,rfl,rfl,eI,by simp only[go_sem,ya],by simp only[go_sem,ya],by simp only[go_sem,ya],by simp only[go_sem,ya],by simp only[go_sem,ya],by simp only[go_sem,ya]⟩
def av0(h:Trf P L){t:List (List (Int×Int))}(hv:mA v t)(hT:fK t n 1)(hn:n=2\/n=4):
  bP P L [0,3,4,13,14] LP (fun d st=>∃k o,k+d=n/\bi nf o (gS t n k)/\st=⟨[(0,v),(3,aa n),(4,cG 0 o),(13,aa n),(14,aa k)],cl 0 8 [] o [],bW 0 o [],0⟩) (fun ex s'=>∃tm ct o,s'=⟨tm,cl 0 8 [] o [],ct,0⟩/\ex=.exit 0/\bi nf o (gS t n n)/\ai tm 4=cG 0 o):=by
 apply bQ;rintro d st ⟨k,o,Cu,ho,rfl⟩;by_cases hk:k<n
 .left
  have dH:=ho.len;rw[CZ] at dH;have key:=avZ h hv hT hn hk (o:=o);simp only[go_sem,ya,LP,show (k:Int)<n by omega];generalize hq:D P L (.loop _ HI) _=q;obtain⟨ex,st,rfl,tm,ct,cs,rfl,rfl,g1,g0,g3,g4,g6,g13,g14⟩:=aW hq (key n) ⟨0,[],by omega,trivial,by
   cases o<;>simp only[go_sem,ya,yb,ae,eM,dc,mR,kv,fI,jg,gk,an hv.pu]<;>rfl⟩
  have bL:=g1.len;rw[EL] at bL;obtain⟨n',rfl⟩:∃n',n=n'+1:=⟨n-1,by omega⟩;have dd:bi nf (o++[.ap ycO (n'+1) cs]) (gS t (n'+1) (k+1)):=by
   rw[U6];refine ho.snoc ?_
   have:=ado ycO g1
   rwa[EL] at this
  suffices hh:∃s',_=GW (Ex.normal,s')/\bq [0,3,4,13,14] s'=⟨[(0,v),(3,aa ((n'+1:Nat):Int)),(4,cG 0 (o++[.ap ycO (n'+1) cs])),(13,aa ((n'+1:Nat):Int)),(14,aa ((k+1:Nat):Int))],cl 0 8 [] (o++[.ap ycO (n'+1) cs]) [],bW 0 (o++[.ap ycO (n'+1) cs]) [],0⟩ by
   obtain⟨s',q1,q2⟩:=hh;exact⟨s',d-1,q1,by omega,k+1,_,by omega,dd,q2⟩
  cases cs with
  | nil=>simp at bL
  | cons c cs=>
   cases o with
   | nil=>
    simp only[eM,iX] at g4 g6;simp only[go_sem,ya,yb,xg,yG,yk,yi,ae,g0,g3,g4,g6,g13,g14,iU,an hv.pu,fL ycO bL (show 0<8 by decide),eO];refine⟨_,rfl,?_⟩;rw[wrap64 (by omega) (by omega)];simp only[go_sem,ya,yb,ae,dc,fI,gk,an hv.pu]<;>rfl
   | cons a o=>
    simp only[dc,iY] at g4 g6;simp only[yx] at dH;simp only[go_sem,ya,yb,yk,yi,ae,g0,g3,g4,g6,g13,g14,iV,an hv.pu,fL ycO bL (show 0<8 by decide)]
    rw[dK (ex:=ycO) (pu:=ycN) (sz:=1) (by simp only[go_sem,ya]<;>rfl) (by simp) (by omega) (by omega) (by decide) (by simp only[go_sem])]
    simp only[go_sem,ya,yb];refine⟨_,rfl,?_⟩;rw[wrap64 (by omega) (by omega)];simp only[go_sem,ya,yb,ae,dc,fI,gk,yM,an hv.pu]<;>rfl
 .right
  have lS:k=n:=by omega
  subst lS;simp only[go_sem,ya,LP,show ¬(k:Int)<k by omega];exact⟨_,_,rfl,by simp,_,_,o,rfl,rfl,ho,by simp only[go_sem,ya]⟩
def aAX(h:Trf P L)(Ya:Has P L 704 R1){t:List (List (Int×Int))}(hv:mA v t)(hT:fK t n 1)(hn:n=2\/n=4):∃r,af P L 704 [v] r/\mA (shut r) (gS t n n):=by
 have key:=av0 h hv hT hn;have hlen:=hT.len;unfold af;rw[aF Ya];simp only[go_sem,ya,R1,hv.len,hlen];generalize hq:D P L (.loop _ LP) _=q;obtain⟨ex,st,rfl,tm,ct,o,rfl,rfl,g1,g4⟩:=aW hq (key n) ⟨0,[],by omega,trivial,by simp only[go_sem,ya,ae,eM,kv,jg,an hv.pu]<;>rfl⟩
 have dH:=g1.len;rw[CZ] at dH
 cases o with
 | nil=>simp at dH;omega
 | cons a o=>
  simp only[dc,yx] at g4 dH;refine⟨.cL ycO 1 n (a::o),?_,?_⟩
  .simp only [go_sem,yb,ae,g4,fI];rw[dH];exact Ez (CO _ _ _) (by simpa using dH) (by decide)
  .have:=pG (p:=nf) ycO g1
   rwa[CZ] at this
end
def PP{α:Type}{p:α->Bool}{l:List α}{i:Nat}(h:i<l.length):(l.drop i).all p=(p l[i]&&(l.drop (i+1)).all p):=by
 rw[yT h,List.all_cons]
def TL{α:Type}{f:α->Int}{l:List α}{i:Nat}(h:i<l.length):cd ((l.drop i).map f)=if f l[i]=0 then cd ((l.drop (i+1)).map f) else f l[i]:=by
 rw[yT h,xi,cd]
section
variable {v w:AV}{s:List (List Int)}{l:List Int}
def se(n:Nat)(r:List Int):Int:=if r.length=n then 0 else 2
def kY(QW:List Int)(s:List (List Int)):Int:=if (s.length:Int)∈QW then cd (s.map (se s.length)) else 3
def Qd{QW:List Int}(h:kY QW s=0):(s.length:Int)∈QW/\∀i (hi:i<s.length),s[i].length=s.length:=by
 unfold kY at h
 split at h
 .rename_i hm;refine⟨hm,fun i hi=>?_⟩
  have:=KA h _ (xq hi)
  unfold se at this
  split at this
  .assumption
  .exact absurd this (by decide)
 .exact absurd h (by decide)
def rI:List AV:=[.bT .f32 1065353216 0,.bT .f32 0 1065353216,.bT .f32 3212836864 0,.bT .f32 0 3212836864]
def al2(p:Int):∃j,dR (aa (p%4))=GW j/\Fp 4 1 j (.ptr 0 0)=GW (.ptr 0 j)/\Gw 1 ycO j (GW (.cells ycN ycN ycN 4 rI))=GW (cp p):=by
 unfold cp;rcases ED p with ⟨h0,h1,h2⟩ | ⟨h0,h1,h2⟩ | ⟨h0,h1,h2⟩ | ⟨h0,h1,h2⟩<;>rw[h0,h1,h2]
 .exact ⟨0,rfl,rfl,by rw[ahS,Sv];rfl⟩
 .exact ⟨1,rfl,rfl,by rw[ahS,Sv];rfl⟩
 .exact ⟨2,rfl,rfl,by rw[ahT,Sv];rfl⟩
 .exact ⟨3,rfl,rfl,by rw[ahT,Sv];rfl⟩
def ahU(h:Has P L 711 FX){n:Int}(hw:bh w l)(hl:l.length<=1000):af P L 711 [aa n,w] (aa (if n∈l then 0 else 3)):=by
 have key:=fk P L [0,7,8,9] HJ
  (fun k st=>∃i:Nat,i+k=l.length/\n∉l.take i/\st=⟨[(0,aa n),(7,w),(8,aa l.length),(9,aa i)],[],0,0⟩)
  (fun ex st=>∃tm hp ct,st=⟨tm,hp,ct,0⟩/\((ex=.ret/\ai tm 4=aa 0/\n∈l)\/(ex=.exit 0/\n∉l))) ?_
 .unfold af;rw[aF h];simp only[go_sem,ya,FX,hw.len];generalize hq:D P L (.loop _ HJ) _=q;obtain⟨ex,st,rfl,tm,hp,ct,rfl,h2⟩:=aW hq (key l.length) ⟨0,by omega,by simp,by simp only[go_sem,ya,ae,an hw.pu]<;>rfl⟩
  rcases h2 with ⟨rfl,h3,h4⟩ | ⟨rfl,h4⟩
  .rw [yK h4];simp only[go_sem,h3]
  .rw [yI h4];simp only[go_sem,ae]
 .rintro k st ⟨i,hk,Yb,rfl⟩;by_cases hi:i<l.length
  .by_cases he:n=l[i]
   .right
    simp only[go_sem,ya,HJ,show (i:Int)<l.length by omega,hw.a6 hi,<-he,yy];exact⟨_,_,rfl,by simp,_,_,_,rfl,.inl ⟨rfl,by simp only[go_sem],by rw[he];exact xq hi⟩⟩
   .left
    simp only[go_sem,ya,HJ,show (i:Int)<l.length by omega,hw.a6 hi,he,yA];refine⟨_,k-1,rfl,by omega,i+1,by omega,?_,?_⟩
    .rw [yS hi];simp only[List.mem_append,List.mem_singleton,not_or];exact⟨Yb,he⟩
    .rw [wrap64 (by omega) (by omega)];simp only[go_sem,ya,ae,an hw.pu]<;>rfl
  .right
   simp only[go_sem,ya,HJ,show ¬(i:Int)<l.length by omega];rw[yq (by omega)] at Yb;exact⟨_,_,rfl,by simp,_,_,_,rfl,.inr ⟨rfl,Yb⟩⟩
def aAY(h:Has P L 728 Iz)(B7:Has P L 692 Dt){r:List Int}(hv:gI v s)(hw:bh w r):af P L 728 [w,.bN [v]] (aa (se s.length r)):=by
 have e1:=aAL B7 (!decide ((r.length:Int)=(s.length:Int))) 2;have q:decide ((r.length:Int)=(s.length:Int))=decide (r.length=s.length):=vL.2 (by omega);rw[q] at e1;rw[show (if (!decide (r.length=s.length))=ycN then (2:Int) else 0)=se s.length r by unfold se;by_cases e:r.length=s.length<;>simp[e]] at e1
 unfold af at e1 ⊢;rw[aF h];simp only[go_sem,ya,Iz,hw.len,hv.len,q,e1]
def aAZ(h:Has P L 729 IA)(hv:gI v s)(hl:s.length<=1000000){g:Nat}{cap:List AV}(hc:aE cap=ycN)(hz:∀(n:Nat) (hp:Hp),cg (n+900) hp cap=GW (cap,hp)){f:List Int->Int}(hg:∀w r,bh w r->af P L g (w::cap) (aa (f r))):
  af P L 729 [v,.fn (.f g) [] cap] (aa (cd (s.map f))):=by
 have pf:aQ (.fn (.f g) [] cap)=ycN:=by simp[aQ,aE,hc]
 have key:=fk P L [1,8,9,10] HK
  (fun k st=>∃i:Nat,i+k=s.length/\cd ((s.drop i).map f)=cd (s.map f)/\st=⟨[(1,.fn (.f g) [] cap),(8,v),(9,aa s.length),(10,aa i)],[],0,0⟩)
  (fun ex st=>∃tm hp ct,st=⟨tm,hp,ct,0⟩/\((ex=.ret/\ai tm 4=aa (cd (s.map f)))\/(ex=.exit 0/\cd (s.map f)=0))) ?_
 .unfold af;rw[aF h];simp only[go_sem,ya,IA,hv.len];generalize hq:D P L (.loop _ HK) _=q;obtain⟨ex,st,rfl,tm,hp,ct,rfl,h2⟩:=aW hq (key s.length) ⟨0,by omega,rfl,by simp only[go_sem,ya,ae,an hv.pu,an pf]<;>rfl⟩
  rcases h2 with ⟨rfl,h2⟩ | ⟨rfl,h2⟩
  .simp only [go_sem,h2]
  .rw [h2];simp only[go_sem,ae]
 .rintro k st ⟨i,hk,hf,rfl⟩;by_cases hi:i<s.length
  .obtain ⟨kr,rest,dQ,lU⟩:=hv.a6 hi;have e2:=hg kr _ dQ;rw[TL hi] at hf;unfold af at e2;by_cases h0:f s[i]=0
   .left
    rw[yK h0] at hf;rw[h0] at e2;simp only[go_sem,ya,HK,show (i:Int)<s.length by omega,lU,dQ.ak,hz,e2];refine⟨_,k-1,rfl,by omega,i+1,by omega,hf,?_⟩;rw[wrap64 (by omega) (by omega)];simp only[go_sem,ya,ae,an hv.pu,an pf]<;>rfl
   .right
    rw[yI h0] at hf;simp only[go_sem,ya,HK,show (i:Int)<s.length by omega,lU,dQ.ak,hz,e2,h0];refine⟨_,_,rfl,by simp,_,_,_,rfl,.inl ⟨rfl,?_⟩⟩;rw[<-hf];simp only[go_sem]
  .right
   simp only[go_sem,ya,HK,show ¬(i:Int)<s.length by omega];refine⟨_,_,rfl,by simp,_,_,_,rfl,.inr ⟨rfl,?_⟩⟩;rw[<-hf,yZ (by omega)];rfl
def Yc(Gb:Has P L 700 Iy)(B8:Has P L 711 FX)(Gc:Has P L 728 Iz)(Gd:Has P L 729 IA)(B7:Has P L 692 Dt)(hv:gI v s)(hl:s.length<=1000000)(hw:bh w l)(jb:l.length<=1000):af P L 700 [v,w] (aa (kY l s)):=by
 have e1:=ahU B8 (n:=s.length) hw jb;have e2:=aAZ Gd hv hl (g:=728) (cap:=[.bN [v]]) rfl (fun n hp=>by simp only[go_sem]) (f:=se s.length) (fun w r hw=>aAY Gc B7 hv hw);unfold kY;unfold af at e1 e2 ⊢;rw[aF Gb];by_cases hm:(s.length:Int)∈l
 .rw [yK hm] at e1 ⊢;simp only[go_sem,ya,yb,Iy,aR,hv.len,hv.pu,hv.ak,hv.one,hv.cells,hw.ak,e1,yg,e2]
 .rw [yI hm] at e1 ⊢;simp only[go_sem,ya,yb,Iy,aR,hv.len,hv.pu,hv.one,hv.cells,hw.ak,e1,show ¬(3:Int)=0 by decide,yA]
def av1(AN:Has P L 701 Du){row:List Int}{N r:Nat}(pv:aQ v=ycN)(hw:bh w row)(hl:row.length<=8){o:List AV}:
  bP P L [5,6,9,19,20,21,25,26,27] HA (fun d st=>∃n,n+d=row.length/\st=⟨[(5,.ptr 0 0),(6,cG 1 o),(9,ew 1 o n),(19,v),(20,aa N),(21,aa r),(25,w),(26,aa row.length),(27,aa n)],cl 1 1 [(0,.cells ycN ycN ycN 4 rI)] o ((row.take n).map cp),bW 1 o ((row.take n).map cp),0⟩) (fun ex s'=>∃tm ct,s'=⟨tm,cl 1 1 [(0,.cells ycN ycN ycN 4 rI)] o (row.map cp),ct,0⟩/\ex=.exit 2/\ai tm 5=.ptr 0 0/\ai tm 6=cG 1 o/\ai tm 9=ew 1 o row.length/\ai tm 19=v/\ai tm 20=aa N/\ai tm 21=aa r):=by
 apply bQ;rintro d st ⟨n,lh,rfl⟩;by_cases hn:n<row.length
 .left
  have e0:=hw.a6 hn;have e1:=ahM AN (n:=row[n]);obtain⟨j,j1,j2,j3⟩:=al2 row[n];have bL:((row.take n).map cp).length=n:=by rw[yv,yO];omega
  have dd:(row.take (n+1)).map cp=(row.take n).map cp++[cp row[n]]:=by rw[yS hn,xu];rfl
  unfold af at e1
  suffices hh:∃s',_=GW (Ex.normal,s')/\bq [5,6,9,19,20,21,25,26,27] s'=⟨[(5,.ptr 0 0),(6,cG 1 o),(9,ew 1 o (n+1)),(19,v),(20,aa N),(21,aa r),(25,w),(26,aa row.length),(27,aa ((n+1:Nat):Int))],cl 1 1 [(0,.cells ycN ycN ycN 4 rI)] o ((row.take (n+1)).map cp),bW 1 o ((row.take (n+1)).map cp),0⟩ by
   obtain⟨s',q1,q2⟩:=hh;exact⟨s',d-1,q1,by omega,n+1,by omega,q2⟩
  rw[dd];generalize (row.take n).map cp=cs at*
  have Tp:bY [cp row[n]]=ycN:=rfl;generalize Tk:cp row[n]=c at*
  have pc:aQ c=ycN:=by rw[<-Tk];rfl
  have oc:cY c=ycN:=by rw[<-Tk];rfl
  have cc:cellsOf c=[c]:=by rw[<-Tk];rfl
  have mk:∀{q z},lI q [z] 0 1 [c] []=GW [c]:=fun {q z}=>by rw[Hf (by simp) oc];rfl
  cases n with
  | zero=>
   have:cs=[]:=yt bL
   subst this;cases o<;>
   .simp only [go_sem,ya,yb,xg,yG,yk,yi,HA,eM,dc,mR,iX,iY,kv,fI,iU,iV,jg,gk,jB,jC,show ((0:Nat):Int)<row.length by omega,e0,e1,j1,j2,j3,cc,mk,fM,aE,pc,eO];refine⟨_,rfl,?_⟩;rw[wrap64 (by omega) (by omega)];simp only[go_sem,ya,yb,ae,an hw.pu,an pv]<;>rfl
  | succ n=>
   cases cs with
   | nil=>simp at bL
   | cons a cs=>
    cases o<;>
    .simp only [go_sem,ya,yb,yi,HA,eM,dc,iX,iY,iU,iV,jB,jC,show ((n+1:Nat):Int)<row.length by omega,e0,e1,j1,j2,j3,cc,mk,fM,aE,pc]
     rw[dK (ex:=ycO) (pu:=ycN) (sz:=1) (by simp only[go_sem,ya]<;>rfl) (by simpa using bL) (by omega) (by omega) (by decide) Tp]
     simp only[go_sem,ya,yb,aE,pc];refine⟨_,rfl,?_⟩;rw[wrap64 (by omega) (by omega)];simp only[go_sem,ya,yb,ae,an hw.pu,an pv]<;>rfl
 .right
  have oU:n=row.length:=by omega
  simp only[go_sem,ya,HA,show ¬(n:Int)<row.length by omega];rw[yq (by omega)];exact⟨_,_,rfl,by simp,_,_,rfl,rfl,by simp only[go_sem,ya],by simp only[go_sem,ya],by simp only[go_sem,ya,oU],by simp only[go_sem,ya],by simp only[go_sem,ya],by simp only[go_sem,ya]⟩
def av2(AN:Has P L 701 Du){n:Nat}(hv:gI v s)(hs:s.length<=8)(hn:0<n)(gh:n<=8)(fZ:∀i (hi:i<s.length),s[i].length=n):
  bP P L [5,6,19,20,21] LH (fun d st=>∃r o,r+d=s.length/\bi (fun a row=>b6 a (row.map cp)) o (s.take r)/\st=⟨[(5,.ptr 0 0),(6,cG 1 o),(19,v),(20,aa s.length),(21,aa r)],cl 1 1 [(0,.cells ycN ycN ycN 4 rI)] o [],bW 1 o [],0⟩) (fun ex s'=>∃tm ct o,s'=⟨tm,cl 1 1 [(0,.cells ycN ycN ycN 4 rI)] o [],ct,0⟩/\ex=.exit 0/\bi (fun a row=>b6 a (row.map cp)) o s/\ai tm 6=cG 1 o):=by
 apply bQ;rintro d st ⟨r,o,eT,ho,rfl⟩;by_cases hr:r<s.length
 .left
  obtain⟨w,rest,hw,e0⟩:=hv.a6 hr;have hlen:=fZ r hr;have dH:=ho.len;rw[yO,xA (by omega)] at dH;have key:=av1 (P:=P) (L:=L) AN (v:=v) (w:=w) (N:=s.length) (r:=r) hv.pu hw (by omega) (o:=o);simp only[go_sem,ya,LH,show (r:Int)<s.length by omega,e0,hw.len];generalize hq:D P L (.loop _ HA) _=q;obtain⟨ex,st,rfl,tm,ct,rfl,rfl,g5,g6,g9,g19,g20,g21⟩:=aW hq (key s[r].length) ⟨0,by omega,by
   rw[yaN,wW]
   cases o<;>simp only[go_sem,ya,yb,ae,eM,dc,mR,kv,fI,jg,gk,an hv.pu,an hw.pu]<;>rfl⟩
  have bL:(s[r].map cp).length=n:=by rw[yv,hlen]
  have ix:aE (s[r].map cp)=ycN:=by
   generalize s[r]=l
   induction l with
   | nil=>rfl
   | cons a l ih=>rw[xi];simp only[aE,ayt,ih,wj]
  rw[hlen] at g9;have hL:b6 (.ap ycO n (s[r].map cp)) (s[r].map cp):=by
   have:=ru ycO (s[r].map cp)
   rwa[bL] at this
  have dd:bi (fun a row=>b6 a (row.map cp)) (o++[.ap ycO n (s[r].map cp)]) (s.take (r+1)):=by
   rw[yS hr];exact ho.snoc hL
  obtain⟨n',rfl⟩:∃n',n=n'+1:=⟨n-1,by omega⟩
  suffices hh:∃s',_=GW (Ex.normal,s')/\bq [5,6,19,20,21] s'=⟨[(5,.ptr 0 0),(6,cG 1 (o++[.ap ycO (n'+1) (s[r].map cp)])),(19,v),(20,aa s.length),(21,aa ((r+1:Nat):Int))],cl 1 1 [(0,.cells ycN ycN ycN 4 rI)] (o++[.ap ycO (n'+1) (s[r].map cp)]) [],bW 1 (o++[.ap ycO (n'+1) (s[r].map cp)]) [],0⟩ by
   obtain⟨s',q1,q2⟩:=hh;exact⟨s',d-1,q1,by omega,r+1,_,by omega,dd,q2⟩
  clear dd;generalize s[r].map cp=cs at*
  cases cs with
  | nil=>simp at bL
  | cons c cs=>
   have kG:=fun hp=>fL (hp:=hp) (sz:=1) ycO (show (c::cs).length=(n'+1)*1 by rw[bL,yi]) (by decide)
   cases o with
   | nil=>
    simp only[eM,iX] at g6 g9;simp only[go_sem,ya,yb,xg,yG,yk,yi,ae,g5,g6,g9,g19,g20,g21,iU,an hv.pu,kG,eO];refine⟨_,rfl,?_⟩;rw[wrap64 (by omega) (by omega)];simp only[go_sem,ya,yb,ae,dc,fI,gk,an hv.pu]<;>rfl
   | cons a o=>
    simp only[dc,iY] at g6 g9;simp only[yx] at dH;simp only[go_sem,ya,yb,yk,yi,ae,g5,g6,g9,g19,g20,g21,iV,an hv.pu,kG]
    rw[dK (ex:=ycO) (pu:=ycN) (sz:=1) (by simp only[go_sem,ya]<;>rfl) (by simp) (by omega) (by omega) (by decide) (by simp only[go_sem])]
    simp only[go_sem,ya,yb];refine⟨_,rfl,?_⟩;rw[wrap64 (by omega) (by omega)];simp only[go_sem,ya,yb,ae,dc,fI,gk,yM,an hv.pu]<;>rfl
 .right
  have Zb:r=s.length:=by omega
  rw[yq (by omega)] at ho;simp only[go_sem,ya,LH,show ¬(r:Int)<s.length by omega];exact⟨_,_,rfl,by simp,_,_,o,rfl,rfl,ho,by simp only[go_sem,ya]⟩
def aA0(Yd:Has P L 661 RS)(AN:Has P L 701 Du)(Gb:Has P L 700 Iy)(B8:Has P L 711 FX)(Gc:Has P L 728 Iz)(Gd:Has P L 729 IA)(B7:Has P L 692 Dt)(hv:gI v s)(h0:kY [2,4] s=0):
  ∃r,af P L 661 [v] (.av [r,aa 0])/\Ga (bA r) s:=by
 obtain⟨hm,fZ⟩:=Qd h0;simp only[xx,xB,vY] at hm;have e1:=Yc Gb B8 Gc Gd B7 hv (by omega) (lF ycN [2,4,8]) (by decide);have hz:kY [2,4,8] s=0:=by
  unfold kY at h0 ⊢;have m1:(s.length:Int)∈([2,4]:List Int):=by simp;omega
  have m2:(s.length:Int)∈([2,4,8]:List Int):=by simp;omega
  rw[yK m1] at h0;rw[yK m2];exact h0
 rw[hz] at e1;have key:=av2 (P:=P) (L:=L) AN hv (by omega) (n:=s.length) (by omega) (by omega) fZ;unfold af at e1;unfold af;rw[aF Yd];simp only[yx,yN,yf,yb,xi,wW] at e1;have mk:∀tm:Env,lI tm [AV.bT .f32 0 0,AV.bT .f32 0 0,AV.bT .f32 0 0,AV.bT .f32 0 0] 0 1 (cellsOf (AV.bT .f32 1065353216 0)) [(1,1,X.c (AV.bT .f32 0 1065353216)),(2,1,X.c (AV.bT .f32 3212836864 0)),(3,1,X.c (AV.bT .f32 0 3212836864))]=GW rI:=fun _=>rfl
 have c1:∀a,cellsOf (AV.agg a)=a:=fun _=>rfl
 have hb:∀ct,gW ct 4 [AV.bT .f32 0 0,AV.bT .f32 0 0,AV.bT .f32 0 0,AV.bT .f32 0 0]=GW (.ptr ct 0,.cells ycN ycN ycN 4 [AV.bT .f32 0 0,AV.bT .f32 0 0,AV.bT .f32 0 0,AV.bT .f32 0 0]):=fun _=>rfl
 have hs:∀hp ct,dS hp ct 1 0 4 rI (GW (.cells ycN ycN ycN 4 [AV.bT .f32 0 0,AV.bT .f32 0 0,AV.bT .f32 0 0,AV.bT .f32 0 0]))=GW (.av [],aY hp 1 (.cells ycN ycN ycN 4 rI),ct):=fun _ _=>rfl
 have n5:∀hp ct,dS hp ct 0 0 4 rI (GW (.cells ycN ycN ycN 4 [AV.bT .f32 0 0,AV.bT .f32 0 0,AV.bT .f32 0 0,AV.bT .f32 0 0]))=GW (.av [],aY hp 0 (.cells ycN ycN ycN 4 rI),ct):=fun _ _=>rfl
 simp only[go_sem,ya,yb,yG,yk,yi,RS,hv.len,hv.ak,e1,mk,c1,hb,hs];generalize hq:D P L (.loop _ LH) _=q;obtain⟨ex,st,rfl,tm,ct,o,rfl,rfl,ho,g6⟩:=aW hq (key s.length) ⟨0,[],by omega,trivial,by simp only[go_sem,ya,yb,ae,eM,kv,jg,an hv.pu]<;>rfl⟩
 have dH:=ho.len
 cases o with
 | nil=>simp only[yN] at dH;omega
 | cons a o=>
  rw[dc] at g6;rw[fI];simp only[go_sem,ya,yb,ae,g6]
  rw[TH (ex:=ycO) (sz:=1) (cs:=a::o) (by simp only[go_sem]<;>rfl) (by simp) (by omega)]
  refine⟨_,rfl,?_⟩
  have:=pG ycO ho
  simp only[go_sem,<-dH] at this;exact this
end
def dw(lv:List Nat)(E:Env)(hp:Hp)(ct:Nat):Prop:=cu E lv=E/\∀c,bq lv ⟨E,hp,c,0⟩=⟨E,hp,ct,0⟩
def cO{lv:List Nat}{E tm:Env}{hp:Hp}{ct c:Nat}(hk:cu tm lv=E)(h:dw lv E hp ct):bq lv ⟨tm,hp,c,0⟩=⟨E,hp,ct,0⟩:=by
 have:=h.2 c
 rw[ae,h.1] at this;rw[ae,hk];exact this
def qd(n k l:Nat):Nat:=2*(k/(n/2))+l/(n/2)
def fh(n a k b l:Nat):Int:=(((a*k+b*l:Nat):Int)*4).tdiv n
def QX(a k b l:Nat):fh 2 a k b l=((a*k+b*l:Nat):Int)*2:=by
 unfold fh;rw[show ((a*k+b*l:Nat):Int)*4=(((a*k+b*l:Nat):Int)*2)*((2:Nat):Int) by omega];exact uH _ (by decide)
def QY(a k b l:Nat):fh 4 a k b l=((a*k+b*l:Nat):Int):=by
 unfold fh;exact uH _ (by decide)
def lm(t:List (List (Int×Int)))(n i a b k l:Nat):Int:=if qd n k l=i then sU (mz t k l).1 (mz t k l).2 (fh n a k b l) else 0
def lz(t:List (List (Int×Int)))(n i a b k l:Nat):Int:=if qd n k l=i then sW (mz t k l).1 (mz t k l).2 (fh n a k b l) else 0
def Ye{t:List (List (Int×Int))}{n:Nat}(hT:fK t n 72)(i a b:Nat):∀k l,k<n->l<n->(-72<=lm t n i a b k l/\lm t n i a b k l<=72)/\(-72<=lz t n i a b k l/\lz t n i a b k l<=72):=fun k l hk hl=>by
 have:=G9 (fh n a k b l) (hT.small k l hk hl).1 (hT.small k l hk hl).2
 unfold lm lz;by_cases h:qd n k l=i
 .rw [yK h,yK h];exact this
 .rw [yI h,yI h];omega
def mN(v:AV)(n i a:Nat)(R:AV)(b z k l:Nat):Env:=[(2,.ptr 0 0),(7,v),(8,aa n),(9,.ptr 1 0),(10,aa i),(11,aa a),(12,R),(13,aa b),(14,.ptr z 0),(15,aa k),(35,aa i),(38,aa n),(39,aa a),(42,aa n),(43,aa b),(49,aa n),(50,aa k),(53,aa n),(54,aa l)]
def nM(v:AV)(n i a:Nat)(R:AV)(b z k:Nat):Env:=[(2,.ptr 0 0),(7,v),(8,aa n),(9,.ptr 1 0),(10,aa i),(11,aa a),(12,R),(13,aa b),(14,.ptr z 0),(35,aa i),(38,aa n),(39,aa a),(42,aa n),(43,aa b),(49,aa n),(50,aa k)]
def rD(v:AV)(n i a:Nat)(R:AV)(b z:Nat):Env:=[(2,.ptr 0 0),(7,v),(8,aa n),(9,.ptr 1 0),(10,aa i),(11,aa a),(12,R),(14,.ptr z 0),(35,aa i),(38,aa n),(39,aa a),(42,aa n),(43,aa b)]
def av3(h:Trf P L){v:AV}{t:List (List (Int×Int))}{n i a b k:Nat}(hv:mA v t)(hT:fK t n 72)(hn:n=2\/n=4)(hi:i<4)(ha:a<n)(hb:b<n)(hk:k<n){R:AV}{z ct:Nat}{H:Hp}(hC:∀l cs,dw [2,7,8,9,10,11,12,13,14,15,35,38,39,42,43,49,50,53,54] (mN v n i a R b z k l) ((z,.cells ycN ycN ycN 8 cs)::H) ct):
  bP P L [2,7,8,9,10,11,12,13,14,15,35,38,39,42,43,49,50,53,54] HB (fun d st=>∃l c1 c2 c3 c4 c5 c6 c7 c8,l+d=n/\di (.agg [c1,c2,c3,c4,c5,c6,c7,c8]) (bm (lm t n i a b) n k l:Rat) (bm (lz t n i a b) n k l:Rat)/\
    st=⟨mN v n i a R b z k l,(z,.cells ycN ycN ycN 8 [c1,c2,c3,c4,c5,c6,c7,c8])::H,ct,0⟩) (fun ex s'=>∃tm c' c1 c2 c3 c4 c5 c6 c7 c8,s'=⟨tm,(z,.cells ycN ycN ycN 8 [c1,c2,c3,c4,c5,c6,c7,c8])::H,c',0⟩/\ex=.exit 8/\
    di (.agg [c1,c2,c3,c4,c5,c6,c7,c8]) (bm (lm t n i a b) n (k+1) 0:Rat) (bm (lz t n i a b) n (k+1) 0:Rat)/\
    cu tm [2,7,8,9,10,11,12,13,14,35,38,39,42,43,49,50]=nM v n i a R b z k):=by
 apply bQ;rintro d st ⟨l,c1,c2,c3,c4,c5,c6,c7,c8,DT,hc,rfl⟩;have bt:=Ye hT i a b;by_cases hl:l<n
 .left
  have oV:((n:Int).tdiv 2)=((n/2:Nat):Int):=(vZ n 2).symm;have sR:((n/2:Nat):Int)≠0:=by omega
  have Cu:((k:Int).tdiv ((n/2:Nat):Int))=((k/(n/2):Nat):Int):=(vZ k (n/2)).symm;have ahV:((l:Int).tdiv ((n/2:Nat):Int))=((l/(n/2):Nat):Int):=(vZ l (n/2)).symm;have hk4:k/(n/2)<=4:=xn (vm _ _) (by omega);have hl4:l/(n/2)<=4:=xn (vm _ _) (by omega);have ZT:qd n k l=2*(k/(n/2))+l/(n/2):=rfl;generalize k/(n/2)=kq at*
  generalize l/(n/2)=lq at*
  have hqd:decide ((2*(kq:Int)+(lq:Int))=(i:Int))=decide (qd n k l=i):=vL.2 (by omega)
  suffices hh:∃s' z1 z2 z3 z4 z5 z6 z7 z8,_=GW (Ex.normal,s')/\di (.agg [z1,z2,z3,z4,z5,z6,z7,z8]) ((bm (lm t n i a b) n k (l+1):Int):Rat) ((bm (lz t n i a b) n k (l+1):Int):Rat)/\
    bq [2,7,8,9,10,11,12,13,14,15,35,38,39,42,43,49,50,53,54] s'=⟨mN v n i a R b z k (l+1),(z,.cells ycN ycN ycN 8 [z1,z2,z3,z4,z5,z6,z7,z8])::H,ct,0⟩ by
   obtain⟨s',z1,z2,z3,z4,z5,z6,z7,z8,q1,q2,q3⟩:=hh;exact⟨s',d-1,q1,by omega,l+1,_,_,_,_,_,_,_,_,by omega,q2,q3⟩
  rw[CR,CR];by_cases hq:qd n k l=i
  .obtain ⟨w,rest,v1,v2,v3,v4,v5,v6,v7,v8,r,e0,e1,hp,pw⟩:=hv.at hT hk hl;have s1:=mS (f:=lm t n i a b) (B:=72) (by decide) (by omega) (fun k l hk hl=>(bt k l hk hl).1) (A:=k) (C:=l) (by omega) (by omega) (.inl hk);have s2:=mS (f:=lz t n i a b) (B:=72) (by decide) (by omega) (fun k l hk hl=>(bt k l hk hl).2) (A:=k) (C:=l) (by omega) (by omega) (.inl hk);have sm:=hT.small k l hk hl;obtain⟨y,x,e2,fy,e3,hz⟩:=adq h (e:=fh n a k b l) hc hp (by omega) (by omega) (by omega) (by omega);have Ej:(a:Int)*k=((a*k:Nat):Int):=by rw[xk]
   have nB:(b:Int)*l=((b*l:Nat):Int):=by rw[xk]
   have b1:a*k<=16:=xF (show a<=4 by omega) (show k<=4 by omega);have b2:b*l<=16:=xF (show b<=4 by omega) (show l<=4 by omega);have hex:((((a*k:Nat):Int)+((b*l:Nat):Int))*4).tdiv n=fh n a k b l:=by unfold fh;rw[uZ]
   have Z0: -1000<=fh n a k b l/\fh n a k b l<=1000:=by
    rcases hn with rfl | rfl
    .rw [QX];omega
    .rw [QY];omega
   obtain⟨z1,z2,z3,z4,z5,z6,z7,z8,rfl,gz⟩:=hz.gen;obtain⟨_,_,_,_,_,_,_,_,ep,_,_,gv⟩:=hp.two;simp only[AV.agg.injEq,xQ,wC] at ep;obtain⟨rfl,rfl,rfl,rfl,rfl,rfl,rfl,rfl⟩:=ep;obtain⟨_,_,_,_,_,_,_,_,ec,_,_,gc⟩:=hc.two;simp only[AV.agg.injEq,xQ,wC] at ec;obtain⟨rfl,rfl,rfl,rfl,rfl,rfl,rfl,rfl⟩:=ec;have jq:(n:Int)≠0:=by omega
   unfold af at e2 e3;have q1:lm t n i a b k l=sU (mz t k l).1 (mz t k l).2 (fh n a k b l):=yK hq;have q2:lz t n i a b k l=sW (mz t k l).1 (mz t k l).2 (fh n a k b l):=yK hq;rw[q1,q2]
   simp only[go_sem,ya,HB,mN,show (l:Int)<n by omega,dl _ _ _ (show (2:Int)≠0 by decide),oV,wrap64 (n:=((n/2:Nat):Int)) (by omega) (by omega),dl _ _ _ sR,Cu,ahV,wrap64 (n:=(kq:Int)) (by omega) (by omega),wrap64 (n:=(lq:Int)) (by omega) (by omega),wrap64 (n:=2*(kq:Int)) (by omega) (by omega),wrap64 (n:=2*(kq:Int)+(lq:Int)) (by omega) (by omega),hqd,hq,yy,yg,Az,e0,e1,XZ,Ej,nB,wrap64 (n:=((a*k:Nat):Int)) (by omega) (by omega),wrap64 (n:=((b*l:Nat):Int)) (by omega) (by omega),wrap64 (n:=((a*k:Nat):Int)+((b*l:Nat):Int)) (by omega) (by omega),wrap64 (n:=(((a*k:Nat):Int)+((b*l:Nat):Int))*4) (by omega) (by omega),dl _ _ _ jq,hex,wrap64 (n:=fh n a k b l) (by omega) (by omega),gv.ak,e2,fy,gc.ak,e3,a8,gz.st];refine⟨_,z1,z2,z3,z4,z5,z6,z7,z8,rfl,hz,?_⟩;rw[wrap64 (by omega) (by omega)]
   exact cO (by simp only[go_sem,ya]<;>rfl) (hC (l+1) _)
  .have q1:lm t n i a b k l=0:=yI hq;have q2:lz t n i a b k l=0:=yI hq;rw[q1,q2,yaz,yaz]
   simp only[go_sem,ya,HB,mN,show (l:Int)<n by omega,dl _ _ _ (show (2:Int)≠0 by decide),oV,wrap64 (n:=((n/2:Nat):Int)) (by omega) (by omega),dl _ _ _ sR,Cu,ahV,wrap64 (n:=(kq:Int)) (by omega) (by omega),wrap64 (n:=(lq:Int)) (by omega) (by omega),wrap64 (n:=2*(kq:Int)) (by omega) (by omega),wrap64 (n:=2*(kq:Int)+(lq:Int)) (by omega) (by omega),hqd,hq,yA];refine⟨_,c1,c2,c3,c4,c5,c6,c7,c8,rfl,hc,?_⟩;rw[wrap64 (by omega) (by omega)];exact cO (by simp only[go_sem,ya]<;>rfl) (hC (l+1) _)
 .right
  have Ec:l=n:=by omega
  subst Ec;simp only[go_sem,ya,HB,mN,show ¬(l:Int)<l by omega];rw[CY] at hc;rw[CY] at hc;exact⟨_,_,rfl,by simp,_,_,c1,c2,c3,c4,c5,c6,c7,c8,rfl,rfl,hc,by simp only[go_sem,ya]<;>rfl⟩
def aeS(h:Trf P L){v:AV}{t:List (List (Int×Int))}{n i a b:Nat}(hv:mA v t)(hT:fK t n 72)(hn:n=2\/n=4)(hi:i<4)(ha:a<n)(hb:b<n){R:AV}{z ct:Nat}{H:Hp}(hC:∀k l cs,dw [2,7,8,9,10,11,12,13,14,15,35,38,39,42,43,49,50,53,54] (mN v n i a R b z k l) ((z,.cells ycN ycN ycN 8 cs)::H) ct)(El:∀k cs,dw [2,7,8,9,10,11,12,13,14,35,38,39,42,43,49,50] (nM v n i a R b z k) ((z,.cells ycN ycN ycN 8 cs)::H) ct):
  bP P L [2,7,8,9,10,11,12,13,14,35,38,39,42,43,49,50] HC (fun d st=>∃k c1 c2 c3 c4 c5 c6 c7 c8,k+d=n/\di (.agg [c1,c2,c3,c4,c5,c6,c7,c8]) (bm (lm t n i a b) n k 0:Rat) (bm (lz t n i a b) n k 0:Rat)/\
    st=⟨nM v n i a R b z k,(z,.cells ycN ycN ycN 8 [c1,c2,c3,c4,c5,c6,c7,c8])::H,ct,0⟩) (fun ex s'=>∃tm c' c1 c2 c3 c4 c5 c6 c7 c8,s'=⟨tm,(z,.cells ycN ycN ycN 8 [c1,c2,c3,c4,c5,c6,c7,c8])::H,c',0⟩/\ex=.exit 6/\
    di (.agg [c1,c2,c3,c4,c5,c6,c7,c8]) (bm (lm t n i a b) n n 0:Rat) (bm (lz t n i a b) n n 0:Rat)/\
    cu tm [2,7,8,9,10,11,12,14,35,38,39,42,43]=rD v n i a R b z):=by
 apply bQ;rintro d st ⟨k,c1,c2,c3,c4,c5,c6,c7,c8,Cu,hc,rfl⟩;by_cases hk:k<n
 .left
  have key:=av3 h hv hT hn hi ha hb hk (fun l cs=>hC k l cs);simp only[go_sem,ya,HC,nM,show (k:Int)<n by omega];generalize hq:D P L (.loop _ HB) _=q;obtain⟨ex,st,rfl,tm,c',z1,z2,z3,z4,z5,z6,z7,z8,rfl,rfl,hz,cS⟩:=aW hq (key n) ⟨0,c1,c2,c3,c4,c5,c6,c7,c8,by omega,hc,cO (by simp only[go_sem,ya]<;>rfl) (hC k 0 _)⟩
  simp only[go_sem,cO cS (El k _)];simp only[go_sem,ya,nM];refine⟨_,d-1,rfl,by omega,k+1,z1,z2,z3,z4,z5,z6,z7,z8,by omega,hz,?_⟩;rw[wrap64 (by omega) (by omega)];exact cO (by simp only[go_sem,ya]<;>rfl) (El (k+1) _)
 .right
  have lS:k=n:=by omega
  subst lS;simp only[go_sem,ya,HC,nM,show ¬(k:Int)<k by omega];exact⟨_,_,rfl,by simp,_,_,c1,c2,c3,c4,c5,c6,c7,c8,rfl,rfl,hc,by simp only[go_sem,ya]<;>rfl⟩
section
variable {v:AV}{F:Hp}{a f i m n:Nat}
def jZ(t:List (List (Int×Int)))(n i a b:Nat):Rat:=(((bm (lm t n i a b) n n 0:Int):Rat)*((bm (lm t n i a b) n n 0:Int):Rat)+((bm (lz t n i a b) n n 0:Int):Rat)*((bm (lz t n i a b) n n 0:Int):Rat))/((n*n*n*n:Nat):Int)
noncomputable def ez(t:List (List (Int×Int)))(n i a m:Nat):List (List Nat):=(wi m).map fun b=>RT (jZ t n i a b)
noncomputable def je(t:List (List (Int×Int)))(n i m:Nat):List (List (List Nat)):=(wi m).map fun a=>ez t n i a n
def EM{t:List (List (Int×Int))}:(ez t n i a m).length=m:=by simp[ez]
def adr{t:List (List (Int×Int))}:ez t n i a (m+1)=ez t n i a m++[RT (jZ t n i a m)]:=by simp[ez,wZ]
def K5{t:List (List (Int×Int))}:(je t n i m).length=m:=by simp[je]
def ads{t:List (List (Int×Int))}:je t n i (m+1)=je t n i m++[ez t n i m n]:=by simp[je,wZ]
def rr(f:Nat):List AV->AV
 | []=>.ab
 | _::r=>.aq f 0 (r.length+1)
def rh(f:Nat)(F:Hp):List AV->Hp
 | []=>F
 | x::r=>(f,.cells ycN ycN ycO 1 (x::r))::F
def rc(f:Nat):List AV->Nat
 | []=>f
 | _::_=>f+1
def eA(v:AV)(n i a:Nat)(R:AV)(b:Nat):Env:=[(2,.ptr 0 0),(7,v),(8,aa n),(9,.ptr 1 0),(10,aa i),(11,aa a),(12,R),(35,aa i),(38,aa n),(39,aa a),(42,aa n),(43,aa b)]
def rE(v:AV)(n i a:Nat)(R:AV):Env:=[(2,.ptr 0 0),(7,v),(8,aa n),(9,.ptr 1 0),(10,aa i),(12,R),(35,aa i),(38,aa n),(39,aa a)]
structure Fr2(v:AV)(n i a:Nat)(F:Hp)(f:Nat):Prop where
 l2:∀b ws,dw [2,7,8,9,10,11,12,35,38,39,42,43] (eA v n i a (rr f ws) b) (rh f F ws) (rc f ws)
 l1:∀b ws k cs,dw [2,7,8,9,10,11,12,13,14,35,38,39,42,43,49,50] (nM v n i a (rr f ws) b (rc f ws) k) ((rc f ws,.cells ycN ycN ycN 8 cs)::rh f F ws) (rc f ws+1)
 l0:∀b ws k l cs,dw [2,7,8,9,10,11,12,13,14,15,35,38,39,42,43,49,50,53,54] (mN v n i a (rr f ws) b (rc f ws) k l) ((rc f ws,.cells ycN ycN ycN 8 cs)::rh f F ws) (rc f ws+1)
 Tq:∀b ws cs,dw [2,7,8,9,10,11,12,14,35,38,39,42,43] (rD v n i a (rr f ws) b (rc f ws)) ((rc f ws,.cells ycN ycN ycN 8 cs)::rh f F ws) (rc f ws+1)
 nw:∀b o1 o2 o3 ws c,bq [2,7,8,9,10,11,12,35,38,39,42,43] ⟨eA v n i a (.aq (f+3) 0 1) b,(f+3,.cells ycN ycN ycO 1 [ws])::(f+2,o1)::(f+1,o2)::(f,o3)::F,c,0⟩=⟨eA v n i a (.aq f 0 1) b,(f,.cells ycN ycN ycO 1 [ws])::F,f+1,0⟩
 mr:∀b m o1 o2 o3 ws c,bq [2,7,8,9,10,11,12,35,38,39,42,43] ⟨eA v n i a (.aq (f+4) 0 m) b,(f+4,.cells ycN ycN ycO 1 ws)::(f+3,o1)::(f+2,o2)::(f+1,o3)::dV F f,c,0⟩=⟨eA v n i a (.aq f 0 m) b,(f,.cells ycN ycN ycO 1 ws)::F,f+1,0⟩
def K6{lv:List Nat}{tm E:Env}{hp:Hp}{c:Nat}{s:St}(hk:cu tm lv=E)(hE:cu E lv=E)(h:bq lv ⟨E,hp,c,0⟩=s):bq lv ⟨tm,hp,c,0⟩=s:=by
 rw[ae,hk];rw[ae,hE] at h;exact h
def ahW{u:Int}(h: -6000<=u/\u<=6000):0<=u*u/\u*u<=36000000:=by
 obtain⟨a,ha⟩:∃a:Nat,u=a\/u= -a:=⟨u.natAbs,by omega⟩;have h1:a<=6000:=by omega
 have h2:a*a<=6000*6000:=xF h1 h1;have h3:u*u=((a*a:Nat):Int):=by
  rcases ha with rfl | rfl
  .rw [xk]
  .rw [xk,Int.neg_mul_neg]
 omega
def aek(h:Trf P L){c1 c2 c3 c4 c5 c6 c7 c8:AV}{u w:Int}(hc:di (.agg [c1,c2,c3,c4,c5,c6,c7,c8]) (u:Rat) (w:Rat))(bu: -6000<=u/\u<=6000)(bw: -6000<=w/\w<=6000){N:Nat}(h0:0<N)(hN:N<=256):
  ∃x y s1 s2 s3 s4 f d,af P L 49 [.agg [c1,c2,c3,c4],.agg [c1,c2,c3,c4]] x/\af P L 49 [.agg [c5,c6,c7,c8],.agg [c5,c6,c7,c8]] y/\af P L 74 [x,y] (.agg [s1,s2,s3,s4])/\af P L 69 [aa N] f/\af P L 70 [.agg [s1,s2,s3,s4],f] d/\af P L 46 [d] (.str (RT (((u:Rat)*(u:Rat)+(w:Rat)*(w:Rat))/((N:Nat):Int))))/\
   (∀(n:Nat) (hp:Hp),freeze (n+20) hp x=GW (x,hp))/\(∀(n:Nat) (hp:Hp),freeze (n+20) hp y=GW (y,hp))/\(∀(n:Nat) (hp:Hp),freeze (n+20) hp f=GW (f,hp))/\(∀(n:Nat) (hp:Hp),freeze (n+20) hp d=GW (d,hp))/\
   VE.shut x=x/\VE.shut y=y/\VE.shut f=f/\VE.shut d=d/\F4 s1 s2 s3 s4/\F4 c1 c2 c3 c4/\F4 c5 c6 c7 c8:=by
 obtain⟨_,_,_,_,_,_,_,_,ec,k1,k2,gc⟩:=hc.two;simp only[AV.agg.injEq,xQ,wC] at ec;obtain⟨rfl,rfl,rfl,rfl,rfl,rfl,rfl,rfl⟩:=ec;obtain⟨x,e1,hx⟩:=Tf h.toFr' k1 k1 (iw (by omega)) (iw (by omega)) (by decide);obtain⟨y,e2,hy⟩:=Tf h.toFr' k2 k2 (iw (by omega)) (iw (by omega)) (by decide);have su:=ahW bu;have sw:=ahW bw;have qx:((u*u:Int):Rat)=(u:Rat)*(u:Rat):=vK _ _;have qy:((w*w:Int):Rat)=(w:Rat)*(w:Rat):=vK _ _;rw[<-qx] at hx;rw[<-qy] at hy;obtain⟨s,e3,hs⟩:=GD h.toFr' hx hy (iw (z:=u*u) (by omega)) (iw (z:=w*w) (by omega)) (by decide);obtain⟨f,e4,hf⟩:=Cs h.toFr' (z:=(N:Int)) (by omega) (by omega);have GP:((N:Int):Rat)≠0:=by
  rw[show ((N:Int):Rat)=(N:Rat) from yap N]
  exact_mod_cast (show N≠0 by omega)
 rw[<-vJ] at hs;have ks:=iw (z:=u*u+w*w) (by omega);have kf:=iw (z:=(N:Int)) (by omega);obtain⟨d,e5,hd⟩:=Zz h.toFr' hs hf GP ks kf (by decide);have e6:=ZC h.toTx hd (ks.div kf) (by decide);rw[vJ,qx,qy] at e6;obtain⟨x1,x2,x3,x4,rfl,gx⟩:=hx.gen;obtain⟨y1,y2,y3,y4,rfl,gy⟩:=hy.gen;obtain⟨s1,s2,s3,s4,rfl,gs⟩:=hs.gen;obtain⟨f1,f2,f3,f4,rfl,gf⟩:=hf.gen;obtain⟨d1,d2,d3,d4,rfl,gd⟩:=hd.gen;exact⟨_,_,s1,s2,s3,s4,_,_,e1,e2,e3,e4,e5,e6,gx.ak,gy.ak,gf.ak,gd.ak,a8 _,a8 _,a8 _,a8 _,gs,k1.f4,k2.f4⟩
def asi(h:Trf P L){t:List (List (Int×Int))}{b:Nat}(hv:mA v t)(hT:fK t n 72)(hn:n=2\/n=4)(hi:i<4)(ha:a<n)(hb:b<n)(fr:Fr2 v n i a F f)(hf:f=2\/f=3\/f=4\/f=5\/f=6):
  ∃s',D P L C5 ⟨eA v n i a (rr f []) b,rh f F [],rc f [],0⟩=GW (Ex.normal,s')/\bq [2,7,8,9,10,11,12,35,38,39,42,43] s'=⟨eA v n i a (rr f ([]++[.str (RT (jZ t n i a b))])) (b+1),rh f F ([]++[.str (RT (jZ t n i a b))]),rc f ([]++[.str (RT (jZ t n i a b))]),0⟩:=by
 have bt:=Ye hT i a b;have s1:=mS (f:=lm t n i a b) (B:=72) (by decide) (by omega) (fun k l hk hl=>(bt k l hk hl).1) (A:=n) (C:=0) (by omega) (by omega) (.inr rfl);have s2:=mS (f:=lz t n i a b) (B:=72) (by decide) (by omega) (fun k l hk hl=>(bt k l hk hl).2) (A:=n) (C:=0) (by omega) (by omega) (.inr rfl);have hN:n*n*n*n<=256/\0<n*n*n*n:=by rcases hn with rfl | rfl<;>decide
 have h2:n*n<=256:=by rcases hn with rfl | rfl<;>decide
 have h3:n*n*n<=256:=by rcases hn with rfl | rfl<;>decide
 have p2:(n:Int)*(n:Int)=((n*n:Nat):Int):=by rw[xk]
 have p3:((n*n:Nat):Int)*(n:Int)=((n*n*n:Nat):Int):=by rw[xk (n*n)]
 have p4:((n*n*n:Nat):Int)*(n:Int)=((n*n*n*n:Nat):Int):=by rw[xk (n*n*n)]
 obtain⟨z,e0,hz⟩:=Cs h.toFr' (z:=0) (by omega) (by omega);have hz:bE z 0:=hz;obtain⟨z1,z2,z3,z4,rfl,gz⟩:=hz.gen;have gG:di (.agg [z1,z2,z3,z4,z1,z2,z3,z4]) (bm (lm t n i a b) n 0 0:Rat) (bm (lz t n i a b) n 0 0:Rat):=by
  rw[Ih,Ih];simpa using di.mk hz hz
 obtain⟨_,_,_,_,_,_,_,_,ec,_,_,gc⟩:=gG.two;simp only[AV.agg.injEq,xQ,wC] at ec;obtain⟨rfl,rfl,rfl,rfl,rfl,rfl,rfl,rfl⟩:=ec;have key:=aeS h hv hT hn hi ha hb (fun k l cs=>fr.l0 b [] k l cs) (fun k cs=>fr.l1 b [] k cs);unfold af at e0;rcases hf with rfl | rfl | rfl | rfl | rfl<;>
 .simp only [rr,rh,rc,xG];simp only[go_sem,ya,yb,C5,eA,show (b:Int)<n by omega,e0,a8,aR,rA gz.o1 gz.o2 gz.o3 gz.o4,rB gz.o1 gz.o2 gz.o3 gz.o4,gc.st];generalize bB:D P L (.loop [2,7,8,9,10,11,12,13,14,35,38,39,42,43,49,50] HC) _=q';obtain⟨ex,st,rfl,tm,c',y1,y2,y3,y4,y5,y6,y7,y8,rfl,rfl,hy,cS⟩:=aW bB (key n) ⟨0,_,_,_,_,_,_,_,_,by omega,gG,cO (by simp only[go_sem,ya]<;>rfl) (fr.l1 b [] 0 _)⟩
  obtain⟨x,y,x1,x2,x3,x4,f',d',g1,g2,g3,g4,g5,g6,fx,fy,ff,fd,sx,sy,sf,sd,gs,zR,D3⟩:=aek h hy (by omega) (by omega) hN.2 hN.1;unfold af at g1 g2 g3 g4 g5 g6;simp only[go_sem,cO cS (fr.Tq b [] _)]
  simp only[go_sem,ya,yb,yk,yi,rD,rr,rh,rc,bH,yf,yg,Hh,eL,zR.ak,D3.ak,g1,g2,fx,fy,sx,sy,g3,gs.ak,a8,aR,gs.st,p2,p3,p4,wrap64 (n:=((n*n:Nat):Int)) (by omega) (by omega),wrap64 (n:=((n*n*n:Nat):Int)) (by omega) (by omega),wrap64 (n:=((n*n*n*n:Nat):Int)) (by omega) (by omega),g4,ff,sf,g5,fd,sd,g6];rw[eO (by decide) (by decide) (by decide) (by decide)];simp only[go_sem,ya,yb];refine⟨_,rfl,?_⟩;rw[wrap64 (by omega) (by omega)];exact K6 (by simp only[go_sem,ya,yb]<;>rfl) rfl (fr.nw (b+1) _ _ _ _ _)
def asj(h:Trf P L){t:List (List (Int×Int))}{b:Nat}(hv:mA v t)(hT:fK t n 72)(hn:n=2\/n=4)(hi:i<4)(ha:a<n)(hb:b<n)(fr:Fr2 v n i a F f)(hf:f=2\/f=3\/f=4\/f=5\/f=6){w:AV}{ws:List AV}(iB:ws.length+1=b):
  ∃s',D P L C5 ⟨eA v n i a (rr f (w::ws)) b,rh f F (w::ws),rc f (w::ws),0⟩=GW (Ex.normal,s')/\bq [2,7,8,9,10,11,12,35,38,39,42,43] s'=⟨eA v n i a (rr f ((w::ws)++[.str (RT (jZ t n i a b))])) (b+1),rh f F ((w::ws)++[.str (RT (jZ t n i a b))]),rc f ((w::ws)++[.str (RT (jZ t n i a b))]),0⟩:=by
 have bt:=Ye hT i a b;have s1:=mS (f:=lm t n i a b) (B:=72) (by decide) (by omega) (fun k l hk hl=>(bt k l hk hl).1) (A:=n) (C:=0) (by omega) (by omega) (.inr rfl);have s2:=mS (f:=lz t n i a b) (B:=72) (by decide) (by omega) (fun k l hk hl=>(bt k l hk hl).2) (A:=n) (C:=0) (by omega) (by omega) (.inr rfl);have hN:n*n*n*n<=256/\0<n*n*n*n:=by rcases hn with rfl | rfl<;>decide
 have h2:n*n<=256:=by rcases hn with rfl | rfl<;>decide
 have h3:n*n*n<=256:=by rcases hn with rfl | rfl<;>decide
 have p2:(n:Int)*(n:Int)=((n*n:Nat):Int):=by rw[xk]
 have p3:((n*n:Nat):Int)*(n:Int)=((n*n*n:Nat):Int):=by rw[xk (n*n)]
 have p4:((n*n*n:Nat):Int)*(n:Int)=((n*n*n*n:Nat):Int):=by rw[xk (n*n*n)]
 obtain⟨z,e0,hz⟩:=Cs h.toFr' (z:=0) (by omega) (by omega);have hz:bE z 0:=hz;obtain⟨z1,z2,z3,z4,rfl,gz⟩:=hz.gen;have gG:di (.agg [z1,z2,z3,z4,z1,z2,z3,z4]) (bm (lm t n i a b) n 0 0:Rat) (bm (lz t n i a b) n 0 0:Rat):=by
  rw[Ih,Ih];simpa using di.mk hz hz
 obtain⟨_,_,_,_,_,_,_,_,ec,_,_,gc⟩:=gG.two;simp only[AV.agg.injEq,xQ,wC] at ec;obtain⟨rfl,rfl,rfl,rfl,rfl,rfl,rfl,rfl⟩:=ec;have key:=aeS h hv hT hn hi ha hb (fun k l cs=>fr.l0 b (w::ws) k l cs) (fun k cs=>fr.l1 b (w::ws) k cs);unfold af at e0;rcases hf with rfl | rfl | rfl | rfl | rfl<;>
 .simp only [rr,rh,rc,xh];simp only[go_sem,ya,yb,C5,eA,show (b:Int)<n by omega,e0,a8,aR,rA gz.o1 gz.o2 gz.o3 gz.o4,rB gz.o1 gz.o2 gz.o3 gz.o4,gc.st];generalize bB:D P L (.loop [2,7,8,9,10,11,12,13,14,35,38,39,42,43,49,50] HC) _=q';obtain⟨ex,st,rfl,tm,c',y1,y2,y3,y4,y5,y6,y7,y8,rfl,rfl,hy,cS⟩:=aW bB (key n) ⟨0,_,_,_,_,_,_,_,_,by omega,gG,cO (by simp only[go_sem,ya]<;>rfl) (fr.l1 b (w::ws) 0 _)⟩
  obtain⟨x,y,x1,x2,x3,x4,f',d',g1,g2,g3,g4,g5,g6,fx,fy,ff,fd,sx,sy,sf,sd,gs,zR,D3⟩:=aek h hy (by omega) (by omega) hN.2 hN.1;unfold af at g1 g2 g3 g4 g5 g6;simp only[go_sem,cO cS (fr.Tq b (w::ws) _)]
  simp only[go_sem,ya,yb,yk,yi,rD,rr,rh,rc,bH,yf,yg,Hh,eL,zR.ak,D3.ak,g1,g2,fx,fy,sx,sy,g3,gs.ak,a8,aR,gs.st,p2,p3,p4,wrap64 (n:=((n*n:Nat):Int)) (by omega) (by omega),wrap64 (n:=((n*n*n:Nat):Int)) (by omega) (by omega),wrap64 (n:=((n*n*n*n:Nat):Int)) (by omega) (by omega),g4,ff,sf,g5,fd,sd,g6]
  rw[dK (ex:=ycO) (pu:=ycN) (sz:=1) (by simp only[go_sem,ya]<;>rfl) (by simp) (by omega) (by omega) (by decide) (by simp only[go_sem])]
  simp only[go_sem,ya,yb];refine⟨_,rfl,?_⟩;rw[wrap64 (by omega) (by omega)];rw[show ws.length+1+1=(ws++[AV.str (RT (jZ t n i a b))]).length+1 by simp];exact K6 (by simp only[go_sem,ya,yb]<;>rfl) rfl (fr.mr (b+1) _ _ _ _ _ _)
def av4(h:Trf P L){t:List (List (Int×Int))}(hv:mA v t)(hT:fK t n 72)(hn:n=2\/n=4)(hi:i<4)(ha:a<n)(fr:Fr2 v n i a F f)(hf:f=2\/f=3\/f=4\/f=5\/f=6):
  bP P L [2,7,8,9,10,11,12,35,38,39,42,43] C5 (fun d st=>∃b,b+d=n/\st=⟨eA v n i a (rr f ((ez t n i a b).map .str)) b,rh f F ((ez t n i a b).map .str),rc f ((ez t n i a b).map .str),0⟩) (fun ex s'=>∃tm ct,s'=⟨tm,rh f F ((ez t n i a n).map .str),ct,0⟩/\ex=.exit 4/\cu tm [2,7,8,9,10,12,35,38,39]=rE v n i a (rr f ((ez t n i a n).map .str))):=by
 apply bQ;rintro d st ⟨b,Ch,rfl⟩;by_cases hb:b<n
 .left
  have iB:((ez t n i a b).map AV.str).length=b:=by rw[yv,EM]
  have dd:(ez t n i a (b+1)).map AV.str=(ez t n i a b).map AV.str++[.str (RT (jZ t n i a b))]:=by rw[adr,xu];rfl
  suffices hh:∃s',_=GW (Ex.normal,s')/\bq [2,7,8,9,10,11,12,35,38,39,42,43] s'=⟨eA v n i a (rr f ((ez t n i a b).map AV.str++[.str (RT (jZ t n i a b))])) (b+1),rh f F ((ez t n i a b).map AV.str++[.str (RT (jZ t n i a b))]),rc f ((ez t n i a b).map AV.str++[.str (RT (jZ t n i a b))]),0⟩ by
   obtain⟨s',q1,q2⟩:=hh;refine⟨s',d-1,q1,by omega,b+1,by omega,?_⟩;rw[dd];exact q2
  have Tp:bY [AV.str (RT (jZ t n i a b))]=ycN:=rfl;generalize (ez t n i a b).map AV.str=ws at*
  cases ws with
  | nil=>exact asi h hv hT hn hi ha hb fr hf
  | cons w ws=>exact asj h hv hT hn hi ha hb fr hf (by simpa using iB)
 .right
  have GN:b=n:=by omega
  subst GN;simp only[go_sem,ya,C5,eA,show ¬(b:Int)<b by omega];exact⟨_,_,rfl,by simp,_,_,rfl,rfl,by simp only[go_sem,ya]<;>rfl⟩
end
section
variable {w x y:AV}{D:List (List AV)}{p q r s:List AV}
def gC:Nat->List (List AV)->List AV
 | _,[]=>[]
 | k,[]::q=>.ab::gC k q
 | k,(_::r)::q=>.aq k 0 (r.length+1)::gC (k+1) q
def gB:Nat->List (List AV)->Hp->Hp
 | _,[],F=>F
 | k,[]::q,F=>gB k q F
 | k,(a::r)::q,F=>gB (k+1) q ((k,.cells ycN ycN ycO 1 (a::r))::F)
def gN:List (List AV)->Nat->Nat
 | [],k=>k
 | []::q,k=>gN q k
 | (_::_)::q,k=>gN q (k+1)
def gP:List (List AV)->Bool
 | []=>ycN
 | []::q=>gP q
 | (_::_)::_=>ycO
def aJ:List AV:=[.ab,.ab,.ab,.ab]
def gH(G:List (List AV)):Hp:=gB 2 G [(1,.cells ycN (gP G) ycN 4 (gC 2 G)),(0,.cells ycN ycN ycN 4 aJ)]
def gF(G:List (List AV)):Nat:=gN G 2
def gO:List (List AV)->List AV->List (List AV)
 | [],C=>[C,[],[],[]]
 | [a],C=>[a,C,[],[]]
 | [a,b],C=>[a,b,C,[]]
 | [a,b,c],C=>[a,b,c,C]
 | _,_=>[]
def gD:List (List AV)->Prop
 | []=>True
 | a::q=>a≠[]/\gD q
def oH(v:AV)(n i a:Nat):Env:=[(2,.ptr 0 0),(7,v),(8,aa n),(9,.ptr 1 0),(10,aa i),(35,aa i),(38,aa n),(39,aa a)]
def nH(v:AV)(n i:Nat):Env:=[(2,.ptr 0 0),(7,v),(8,aa n),(9,.ptr 1 0),(35,aa i)]
structure Cv(v:AV)(n i a:Nat)(F:Hp)(f:Nat):Prop extends Fr2 v n i a F f where
 l3:dw [2,7,8,9,10,35,38,39] (oH v n i a) F f
 OM:∀j:Nat,dw [2,7,8,9,35] (nH v n j) F f
 Z2:∀ws,dw [2,7,8,9,10,12,35,38,39] (rE v n i a (rr f ws)) (rh f F ws) (rc f ws)
def av5(v:AV)(pv:aQ v=ycN)(n i a:Nat):Cv v n i a (gH (gO [] [])) (gF (gO [] [])):=by
 refine⟨⟨fun b ws=>⟨rfl,fun c=>?_⟩,fun b ws k cs=>⟨rfl,fun c=>?_⟩,fun b ws k l cs=>⟨rfl,fun c=>?_⟩,fun b ws cs=>⟨rfl,fun c=>?_⟩,fun b o1 o2 o3 ws c=>?_,fun b m o1 o2 o3 ws c=>?_⟩,⟨rfl,fun c=>?_⟩,fun j=>⟨rfl,fun c=>?_⟩,fun ws=>⟨rfl,fun c=>?_⟩⟩
 .cases ws<;>simp only[go_sem,ya,yb,ae,eA,rr,rh,rc,gO,gH,gB,gC,gN,gP,gF,aJ,an pv]<;>rfl
 .cases ws<;>simp only[go_sem,ya,yb,ae,nM,rr,rh,rc,gO,gH,gB,gC,gN,gP,gF,aJ,an pv]<;>rfl
 .cases ws<;>simp only[go_sem,ya,yb,ae,mN,rr,rh,rc,gO,gH,gB,gC,gN,gP,gF,aJ,an pv]<;>rfl
 .cases ws<;>simp only[go_sem,ya,yb,ae,rD,rr,rh,rc,gO,gH,gB,gC,gN,gP,gF,aJ,an pv]<;>rfl
 .simp only [go_sem,ya,yb,ae,eA,gO,gH,gB,gC,gN,gP,gF,aJ,an pv]<;>rfl
 .simp only [go_sem,ya,yb,ae,eA,gO,gH,gB,gC,gN,gP,gF,aJ,an pv]<;>rfl
 .simp only [go_sem,ya,yb,ae,oH,gO,gH,gB,gC,gN,gP,gF,aJ,an pv]<;>rfl
 .simp only [go_sem,ya,yb,ae,nH,gO,gH,gB,gC,gN,gP,gF,aJ,an pv]<;>rfl
 .cases ws<;>simp only[go_sem,ya,yb,ae,rE,rr,rh,rc,gO,gH,gB,gC,gN,gP,gF,aJ,an pv]<;>rfl
def av6(v:AV)(pv:aQ v=ycN)(n i a:Nat):Cv v n i a (gH (gO [] (w::s))) (gF (gO [] (w::s))):=by
 refine⟨⟨fun b ws=>⟨rfl,fun c=>?_⟩,fun b ws k cs=>⟨rfl,fun c=>?_⟩,fun b ws k l cs=>⟨rfl,fun c=>?_⟩,fun b ws cs=>⟨rfl,fun c=>?_⟩,fun b o1 o2 o3 ws c=>?_,fun b m o1 o2 o3 ws c=>?_⟩,⟨rfl,fun c=>?_⟩,fun j=>⟨rfl,fun c=>?_⟩,fun ws=>⟨rfl,fun c=>?_⟩⟩
 .cases ws<;>simp only[go_sem,ya,yb,ae,eA,rr,rh,rc,gO,gH,gB,gC,gN,gP,gF,aJ,an pv]<;>rfl
 .cases ws<;>simp only[go_sem,ya,yb,ae,nM,rr,rh,rc,gO,gH,gB,gC,gN,gP,gF,aJ,an pv]<;>rfl
 .cases ws<;>simp only[go_sem,ya,yb,ae,mN,rr,rh,rc,gO,gH,gB,gC,gN,gP,gF,aJ,an pv]<;>rfl
 .cases ws<;>simp only[go_sem,ya,yb,ae,rD,rr,rh,rc,gO,gH,gB,gC,gN,gP,gF,aJ,an pv]<;>rfl
 .simp only [go_sem,ya,yb,ae,eA,gO,gH,gB,gC,gN,gP,gF,aJ,an pv]<;>rfl
 .simp only [go_sem,ya,yb,ae,eA,gO,gH,gB,gC,gN,gP,gF,aJ,an pv]<;>rfl
 .simp only [go_sem,ya,yb,ae,oH,gO,gH,gB,gC,gN,gP,gF,aJ,an pv]<;>rfl
 .simp only [go_sem,ya,yb,ae,nH,gO,gH,gB,gC,gN,gP,gF,aJ,an pv]<;>rfl
 .cases ws<;>simp only[go_sem,ya,yb,ae,rE,rr,rh,rc,gO,gH,gB,gC,gN,gP,gF,aJ,an pv]<;>rfl
def av7(v:AV)(pv:aQ v=ycN)(n i a:Nat):Cv v n i a (gH (gO [x::p] [])) (gF (gO [x::p] [])):=by
 refine⟨⟨fun b ws=>⟨rfl,fun c=>?_⟩,fun b ws k cs=>⟨rfl,fun c=>?_⟩,fun b ws k l cs=>⟨rfl,fun c=>?_⟩,fun b ws cs=>⟨rfl,fun c=>?_⟩,fun b o1 o2 o3 ws c=>?_,fun b m o1 o2 o3 ws c=>?_⟩,⟨rfl,fun c=>?_⟩,fun j=>⟨rfl,fun c=>?_⟩,fun ws=>⟨rfl,fun c=>?_⟩⟩
 .cases ws<;>simp only[go_sem,ya,yb,ae,eA,rr,rh,rc,gO,gH,gB,gC,gN,gP,gF,aJ,an pv]<;>rfl
 .cases ws<;>simp only[go_sem,ya,yb,ae,nM,rr,rh,rc,gO,gH,gB,gC,gN,gP,gF,aJ,an pv]<;>rfl
 .cases ws<;>simp only[go_sem,ya,yb,ae,mN,rr,rh,rc,gO,gH,gB,gC,gN,gP,gF,aJ,an pv]<;>rfl
 .cases ws<;>simp only[go_sem,ya,yb,ae,rD,rr,rh,rc,gO,gH,gB,gC,gN,gP,gF,aJ,an pv]<;>rfl
 .simp only [go_sem,ya,yb,ae,eA,gO,gH,gB,gC,gN,gP,gF,aJ,an pv]<;>rfl
 .simp only [go_sem,ya,yb,ae,eA,gO,gH,gB,gC,gN,gP,gF,aJ,an pv]<;>rfl
 .simp only [go_sem,ya,yb,ae,oH,gO,gH,gB,gC,gN,gP,gF,aJ,an pv]<;>rfl
 .simp only [go_sem,ya,yb,ae,nH,gO,gH,gB,gC,gN,gP,gF,aJ,an pv]<;>rfl
 .cases ws<;>simp only[go_sem,ya,yb,ae,rE,rr,rh,rc,gO,gH,gB,gC,gN,gP,gF,aJ,an pv]<;>rfl
def av8(v:AV)(pv:aQ v=ycN)(n i a:Nat):Cv v n i a (gH (gO [x::p] (w::s))) (gF (gO [x::p] (w::s))):=by
 refine⟨⟨fun b ws=>⟨rfl,fun c=>?_⟩,fun b ws k cs=>⟨rfl,fun c=>?_⟩,fun b ws k l cs=>⟨rfl,fun c=>?_⟩,fun b ws cs=>⟨rfl,fun c=>?_⟩,fun b o1 o2 o3 ws c=>?_,fun b m o1 o2 o3 ws c=>?_⟩,⟨rfl,fun c=>?_⟩,fun j=>⟨rfl,fun c=>?_⟩,fun ws=>⟨rfl,fun c=>?_⟩⟩
 .cases ws<;>simp only[go_sem,ya,yb,ae,eA,rr,rh,rc,gO,gH,gB,gC,gN,gP,gF,aJ,an pv]<;>rfl
 .cases ws<;>simp only[go_sem,ya,yb,ae,nM,rr,rh,rc,gO,gH,gB,gC,gN,gP,gF,aJ,an pv]<;>rfl
 .cases ws<;>simp only[go_sem,ya,yb,ae,mN,rr,rh,rc,gO,gH,gB,gC,gN,gP,gF,aJ,an pv]<;>rfl
 .cases ws<;>simp only[go_sem,ya,yb,ae,rD,rr,rh,rc,gO,gH,gB,gC,gN,gP,gF,aJ,an pv]<;>rfl
 .simp only [go_sem,ya,yb,ae,eA,gO,gH,gB,gC,gN,gP,gF,aJ,an pv]<;>rfl
 .simp only [go_sem,ya,yb,ae,eA,gO,gH,gB,gC,gN,gP,gF,aJ,an pv]<;>rfl
 .simp only [go_sem,ya,yb,ae,oH,gO,gH,gB,gC,gN,gP,gF,aJ,an pv]<;>rfl
 .simp only [go_sem,ya,yb,ae,nH,gO,gH,gB,gC,gN,gP,gF,aJ,an pv]<;>rfl
 .cases ws<;>simp only[go_sem,ya,yb,ae,rE,rr,rh,rc,gO,gH,gB,gC,gN,gP,gF,aJ,an pv]<;>rfl
def av9(v:AV)(pv:aQ v=ycN)(n i a:Nat):Cv v n i a (gH (gO [x::p,y::q] [])) (gF (gO [x::p,y::q] [])):=by
 refine⟨⟨fun b ws=>⟨rfl,fun c=>?_⟩,fun b ws k cs=>⟨rfl,fun c=>?_⟩,fun b ws k l cs=>⟨rfl,fun c=>?_⟩,fun b ws cs=>⟨rfl,fun c=>?_⟩,fun b o1 o2 o3 ws c=>?_,fun b m o1 o2 o3 ws c=>?_⟩,⟨rfl,fun c=>?_⟩,fun j=>⟨rfl,fun c=>?_⟩,fun ws=>⟨rfl,fun c=>?_⟩⟩
 .cases ws<;>simp only[go_sem,ya,yb,ae,eA,rr,rh,rc,gO,gH,gB,gC,gN,gP,gF,aJ,an pv]<;>rfl
 .cases ws<;>simp only[go_sem,ya,yb,ae,nM,rr,rh,rc,gO,gH,gB,gC,gN,gP,gF,aJ,an pv]<;>rfl
 .cases ws<;>simp only[go_sem,ya,yb,ae,mN,rr,rh,rc,gO,gH,gB,gC,gN,gP,gF,aJ,an pv]<;>rfl
 .cases ws<;>simp only[go_sem,ya,yb,ae,rD,rr,rh,rc,gO,gH,gB,gC,gN,gP,gF,aJ,an pv]<;>rfl
 .simp only [go_sem,ya,yb,ae,eA,gO,gH,gB,gC,gN,gP,gF,aJ,an pv]<;>rfl
 .simp only [go_sem,ya,yb,ae,eA,gO,gH,gB,gC,gN,gP,gF,aJ,an pv]<;>rfl
 .simp only [go_sem,ya,yb,ae,oH,gO,gH,gB,gC,gN,gP,gF,aJ,an pv]<;>rfl
 .simp only [go_sem,ya,yb,ae,nH,gO,gH,gB,gC,gN,gP,gF,aJ,an pv]<;>rfl
 .cases ws<;>simp only[go_sem,ya,yb,ae,rE,rr,rh,rc,gO,gH,gB,gC,gN,gP,gF,aJ,an pv]<;>rfl
def awa(v:AV)(pv:aQ v=ycN)(n i a:Nat):Cv v n i a (gH (gO [x::p,y::q] (w::s))) (gF (gO [x::p,y::q] (w::s))):=by
 refine⟨⟨fun b ws=>⟨rfl,fun c=>?_⟩,fun b ws k cs=>⟨rfl,fun c=>?_⟩,fun b ws k l cs=>⟨rfl,fun c=>?_⟩,fun b ws cs=>⟨rfl,fun c=>?_⟩,fun b o1 o2 o3 ws c=>?_,fun b m o1 o2 o3 ws c=>?_⟩,⟨rfl,fun c=>?_⟩,fun j=>⟨rfl,fun c=>?_⟩,fun ws=>⟨rfl,fun c=>?_⟩⟩
 .cases ws<;>simp only[go_sem,ya,yb,ae,eA,rr,rh,rc,gO,gH,gB,gC,gN,gP,gF,aJ,an pv]<;>rfl
 .cases ws<;>simp only[go_sem,ya,yb,ae,nM,rr,rh,rc,gO,gH,gB,gC,gN,gP,gF,aJ,an pv]<;>rfl
 .cases ws<;>simp only[go_sem,ya,yb,ae,mN,rr,rh,rc,gO,gH,gB,gC,gN,gP,gF,aJ,an pv]<;>rfl
 .cases ws<;>simp only[go_sem,ya,yb,ae,rD,rr,rh,rc,gO,gH,gB,gC,gN,gP,gF,aJ,an pv]<;>rfl
 .simp only [go_sem,ya,yb,ae,eA,gO,gH,gB,gC,gN,gP,gF,aJ,an pv]<;>rfl
 .simp only [go_sem,ya,yb,ae,eA,gO,gH,gB,gC,gN,gP,gF,aJ,an pv]<;>rfl
 .simp only [go_sem,ya,yb,ae,oH,gO,gH,gB,gC,gN,gP,gF,aJ,an pv]<;>rfl
 .simp only [go_sem,ya,yb,ae,nH,gO,gH,gB,gC,gN,gP,gF,aJ,an pv]<;>rfl
 .cases ws<;>simp only[go_sem,ya,yb,ae,rE,rr,rh,rc,gO,gH,gB,gC,gN,gP,gF,aJ,an pv]<;>rfl
def awb(v:AV)(pv:aQ v=ycN)(n i a:Nat){z:AV}:Cv v n i a (gH (gO [x::p,y::q,z::r] [])) (gF (gO [x::p,y::q,z::r] [])):=by
 refine⟨⟨fun b ws=>⟨rfl,fun c=>?_⟩,fun b ws k cs=>⟨rfl,fun c=>?_⟩,fun b ws k l cs=>⟨rfl,fun c=>?_⟩,fun b ws cs=>⟨rfl,fun c=>?_⟩,fun b o1 o2 o3 ws c=>?_,fun b m o1 o2 o3 ws c=>?_⟩,⟨rfl,fun c=>?_⟩,fun j=>⟨rfl,fun c=>?_⟩,fun ws=>⟨rfl,fun c=>?_⟩⟩
 .cases ws<;>simp only[go_sem,ya,yb,ae,eA,rr,rh,rc,gO,gH,gB,gC,gN,gP,gF,aJ,an pv]<;>rfl
 .cases ws<;>simp only[go_sem,ya,yb,ae,nM,rr,rh,rc,gO,gH,gB,gC,gN,gP,gF,aJ,an pv]<;>rfl
 .cases ws<;>simp only[go_sem,ya,yb,ae,mN,rr,rh,rc,gO,gH,gB,gC,gN,gP,gF,aJ,an pv]<;>rfl
 .cases ws<;>simp only[go_sem,ya,yb,ae,rD,rr,rh,rc,gO,gH,gB,gC,gN,gP,gF,aJ,an pv]<;>rfl
 .simp only [go_sem,ya,yb,ae,eA,gO,gH,gB,gC,gN,gP,gF,aJ,an pv]<;>rfl
 .simp only [go_sem,ya,yb,ae,eA,gO,gH,gB,gC,gN,gP,gF,aJ,an pv]<;>rfl
 .simp only [go_sem,ya,yb,ae,oH,gO,gH,gB,gC,gN,gP,gF,aJ,an pv]<;>rfl
 .simp only [go_sem,ya,yb,ae,nH,gO,gH,gB,gC,gN,gP,gF,aJ,an pv]<;>rfl
 .cases ws<;>simp only[go_sem,ya,yb,ae,rE,rr,rh,rc,gO,gH,gB,gC,gN,gP,gF,aJ,an pv]<;>rfl
def awc(v:AV)(pv:aQ v=ycN)(n i a:Nat){z:AV}:Cv v n i a (gH (gO [x::p,y::q,z::r] (w::s))) (gF (gO [x::p,y::q,z::r] (w::s))):=by
 refine⟨⟨fun b ws=>⟨rfl,fun c=>?_⟩,fun b ws k cs=>⟨rfl,fun c=>?_⟩,fun b ws k l cs=>⟨rfl,fun c=>?_⟩,fun b ws cs=>⟨rfl,fun c=>?_⟩,fun b o1 o2 o3 ws c=>?_,fun b m o1 o2 o3 ws c=>?_⟩,⟨rfl,fun c=>?_⟩,fun j=>⟨rfl,fun c=>?_⟩,fun ws=>⟨rfl,fun c=>?_⟩⟩
 .cases ws<;>simp only[go_sem,ya,yb,ae,eA,rr,rh,rc,gO,gH,gB,gC,gN,gP,gF,aJ,an pv]<;>rfl
 .cases ws<;>simp only[go_sem,ya,yb,ae,nM,rr,rh,rc,gO,gH,gB,gC,gN,gP,gF,aJ,an pv]<;>rfl
 .cases ws<;>simp only[go_sem,ya,yb,ae,mN,rr,rh,rc,gO,gH,gB,gC,gN,gP,gF,aJ,an pv]<;>rfl
 .cases ws<;>simp only[go_sem,ya,yb,ae,rD,rr,rh,rc,gO,gH,gB,gC,gN,gP,gF,aJ,an pv]<;>rfl
 .simp only [go_sem,ya,yb,ae,eA,gO,gH,gB,gC,gN,gP,gF,aJ,an pv]<;>rfl
 .simp only [go_sem,ya,yb,ae,eA,gO,gH,gB,gC,gN,gP,gF,aJ,an pv]<;>rfl
 .simp only [go_sem,ya,yb,ae,oH,gO,gH,gB,gC,gN,gP,gF,aJ,an pv]<;>rfl
 .simp only [go_sem,ya,yb,ae,nH,gO,gH,gB,gC,gN,gP,gF,aJ,an pv]<;>rfl
 .cases ws<;>simp only[go_sem,ya,yb,ae,rE,rr,rh,rc,gO,gH,gB,gC,gN,gP,gF,aJ,an pv]<;>rfl
def PQ{i:Nat}(hD:gD D)(hl:D.length=i)(hi:i<4):(D=[]/\i=0)\/(∃x p,D=[x::p]/\i=1)\/(∃x p y q,D=[x::p,y::q]/\i=2)\/(∃x p y q z r,D=[x::p,y::q,z::r]/\i=3):=by
 match D,hD,hl with
 | [],_,hl=>exact .inl ⟨rfl,hl.symm⟩
 | [x::p],_,hl=>exact .inr (.inl ⟨x,p,rfl,hl.symm⟩)
 | [x::p,y::q],_,hl=>exact .inr (.inr (.inl ⟨x,p,y,q,rfl,hl.symm⟩))
 | [x::p,y::q,z::r],_,hl=>exact .inr (.inr (.inr ⟨x,p,y,q,z,r,rfl,hl.symm⟩))
 | _::_::_::_::_,_,hl=>simp at hl;omega
 | []::_,hD,_=>exact absurd rfl hD.1
 | [_::_,[]],hD,_=>exact absurd rfl hD.2.1
 | [_::_,_::_,[]],hD,_=>exact absurd rfl hD.2.2.1
 | [_::_,[],_],hD,_=>exact absurd rfl hD.2.1
def Z3{v:AV}(pv:aQ v=ycN)(n a:Nat){i:Nat}(hD:gD D)(hl:D.length=i)(hi:i<4)(C:List AV):Cv v n i a (gH (gO D C)) (gF (gO D C))/\(gF (gO D C)=2\/gF (gO D C)=3\/gF (gO D C)=4\/gF (gO D C)=5\/gF (gO D C)=6):=by
 rcases PQ hD hl hi with ⟨rfl,rfl⟩ | ⟨x,p,rfl,rfl⟩ | ⟨x,p,y,q,rfl,rfl⟩ | ⟨x,p,y,q,z,r,rfl,rfl⟩<;>cases C
 .exact ⟨av5 v pv n _ a,.inl rfl⟩
 .exact ⟨av6 v pv n _ a,.inr (.inl rfl)⟩
 .exact ⟨av7 v pv n _ a,.inr (.inl rfl)⟩
 .exact ⟨av8 v pv n _ a,.inr (.inr (.inl rfl))⟩
 .exact ⟨av9 v pv n _ a,.inr (.inr (.inl rfl))⟩
 .exact ⟨awa v pv n _ a,.inr (.inr (.inr (.inl rfl)))⟩
 .exact ⟨awb v pv n _ a,.inr (.inr (.inr (.inl rfl)))⟩
 .exact ⟨awc v pv n _ a,.inr (.inr (.inr (.inr rfl)))⟩
end
section
variable {v:AV}{Ds:List (List AV)}{s:List (List Int)}{C:List AV}{i n:Nat}
def QZ(hp:Hp)(ct id j m:Nat)(pu:Bool)(a b c d:AV):dS hp ct id 0 1 [.aq j 0 m] (GW (.cells ycN pu ycN 4 [a,b,c,d]))=GW (.av [],aY hp id (.cells ycN ycO ycN 4 [.aq j 0 m,b,c,d]),ct):=by cases pu<;>rfl
def Q0(hp:Hp)(ct id j m:Nat)(pu:Bool)(a b c d:AV):dS hp ct id 1 1 [.aq j 0 m] (GW (.cells ycN pu ycN 4 [a,b,c,d]))=GW (.av [],aY hp id (.cells ycN ycO ycN 4 [a,.aq j 0 m,c,d]),ct):=by cases pu<;>rfl
def Q1(hp:Hp)(ct id j m:Nat)(pu:Bool)(a b c d:AV):dS hp ct id 2 1 [.aq j 0 m] (GW (.cells ycN pu ycN 4 [a,b,c,d]))=GW (.av [],aY hp id (.cells ycN ycO ycN 4 [a,b,.aq j 0 m,d]),ct):=by cases pu<;>rfl
def Q2(hp:Hp)(ct id j m:Nat)(pu:Bool)(a b c d:AV):dS hp ct id 3 1 [.aq j 0 m] (GW (.cells ycN pu ycN 4 [a,b,c,d]))=GW (.av [],aY hp id (.cells ycN ycO ycN 4 [a,b,c,.aq j 0 m]),ct):=by cases pu<;>rfl
def dG(id k:Nat)(h:k<4):Fp 4 1 k (.ptr id 0)=GW (.ptr id k):=by
 match k,h with
 | 0,_=>rfl
 | 1,_=>rfl
 | 2,_=>rfl
 | 3,_=>rfl
def awd(h:Trf P L){t:List (List (Int×Int))}{a:Nat}(hv:mA v t)(hT:fK t n 72)(hn:n=2\/n=4)(hi:i<4)(ha:a<n)(hD:gD Ds)(hl:Ds.length=i)(hC:C.length=a):
  ∃s',D P L HE ⟨oH v n i a,gH (gO Ds C),gF (gO Ds C),0⟩=GW (Ex.normal,s')/\bq [2,7,8,9,10,35,38,39] s'=⟨oH v n i (a+1),gH (gO Ds (C++[.ap ycO n ((ez t n i a n).map .str)])),gF (gO Ds (C++[.ap ycO n ((ez t n i a n).map .str)])),0⟩:=by
 obtain⟨fr,hf⟩:=Z3 hv.pu n a hD hl hi C;have key:=av4 h hv hT hn hi ha fr.toFr2 hf;simp only[go_sem,ya,HE,oH,show (a:Int)<n by omega];generalize hq:D P L (.loop _ C5) _=q;obtain⟨ex,st,rfl,tm,c',rfl,rfl,cS⟩:=aW hq (key n) ⟨0,by omega,cO (by simp only[go_sem,ya]<;>rfl) (fr.l2 0 [])⟩
 simp only[go_sem,cO cS (fr.Z2 _)];have iB:((ez t n i a n).map AV.str).length=n:=by rw[yv,EM]
 have fO:cY (.ap ycO n ((ez t n i a n).map AV.str))=ycN:=rfl;generalize (ez t n i a n).map AV.str=ws at*
 clear key hq cS fr hf
 cases ws with
 | nil=>simp at iB;omega
 | cons w ws=>
  have ON:ws.length+1=n:=iB;have x0:=fun id=>dG id 0 (by decide)
  have x1:=fun id=>dG id 1 (by decide)
  have x2:=fun id=>dG id 2 (by decide)
  have x3:=fun id=>dG id 3 (by decide)
  rcases PQ hD hl hi with ⟨rfl,rfl⟩ | ⟨x,p,rfl,rfl⟩ | ⟨x,p,y,q,rfl,rfl⟩ | ⟨x,p,y,q,z,r,rfl,rfl⟩<;>
  cases C with
  | nil=>
   simp only[go_sem,ya,yb,xg,yG,yk,yi,rE,rr,rh,rc,gO,gH,gB,gC,gN,gP,gF,aJ,fL ycO (show (w::ws).length=n*1 by rw[iB,yi]) (by decide),x0,x1,x2,x3,we,yg,fM,eO,QZ,Q0,Q1,Q2,ON];refine⟨_,rfl,?_⟩;rw[wrap64 (by omega) (by omega)];simp only[go_sem,ya,yb,ae,xG,an hv.pu]<;>rfl
  | cons b C=>
   simp only[yx] at hC;simp only[go_sem,ya,yb,yk,yi,rE,rr,rh,rc,gO,gH,gB,gC,gN,gP,gF,aJ,fL ycO (show (w::ws).length=(ws.length+1)*1 by simp) (by decide),x0,x1,x2,x3,we,yg,fM]
   rw[dK (ex:=ycO) (pu:=ycN) (sz:=1) (by simp only[go_sem,ya]<;>rfl) (by simp) (by omega) (by omega) (by decide) (by simp only[go_sem])]
   simp only[go_sem,ya,yb,x0,x1,x2,x3,QZ,Q0,Q1,Q2,ON];refine⟨_,rfl,?_⟩;rw[wrap64 (by omega) (by omega)];simp only[go_sem,ya,yb,ae,xh,yM,an hv.pu]<;>rfl
def ael(h:gD Ds)(hC:C≠[]):gD (Ds++[C]):=by
 induction Ds with
 | nil=>exact⟨hC,trivial⟩
 | cons a q ih=>exact⟨h.1,ih h.2⟩
def awe(h:Trf P L){t:List (List (Int×Int))}(hv:mA v t)(hT:fK t n 72)(hn:n=2\/n=4)(hi:i<4)(hD:gD Ds)(hl:Ds.length=i):
  bP P L [2,7,8,9,10,35,38,39] HE (fun d st=>∃a C,a+d=n/\bi bG C (je t n i a)/\st=⟨oH v n i a,gH (gO Ds C),gF (gO Ds C),0⟩) (fun ex s'=>∃tm ct C,s'=⟨tm,gH (gO Ds C),ct,0⟩/\ex=.exit 2/\bi bG C (je t n i n)/\cu tm [2,7,8,9,35]=nH v n i):=by
 apply bQ;rintro d st ⟨a,C,Z1,hC,rfl⟩;have qW:=hC.len;rw[K5] at qW;by_cases ha:a<n
 .left
  obtain⟨s',q1,q2⟩:=awd h hv hT hn hi ha hD hl qW;refine⟨s',d-1,q1,by omega,a+1,_,by omega,?_,q2⟩;rw[ads];refine hC.snoc ?_
  have:=K4 ycO (ez t n i a n)
  rwa[EM] at this
 .right
  have GO:a=n:=by omega
  subst GO;simp only[go_sem,ya,HE,oH,show ¬(a:Int)<a by omega];exact⟨_,_,rfl,by simp,_,_,C,rfl,rfl,hC,by simp only[go_sem,ya]<;>rfl⟩
def aem(hl:Ds.length=i)(hi:i<3):gO (Ds++[C]) []=gO Ds C:=by
 match Ds,hl with
 | [],_=>rfl
 | [a],_=>rfl
 | [a,b],_=>rfl
 | _::_::_::_,hl=>simp at hl;omega
def awf(h:Trf P L){t:List (List (Int×Int))}(hv:mA v t)(hT:fK t n 72)(hn:n=2\/n=4):
  bP P L [2,7,8,9,35] LI (fun d st=>∃i Ds,i+d=4/\gD Ds/\bi (fun C i=>bi bG C (je t n i n)) Ds (wi i)/\st=⟨nH v n i,if i<4 then gH (gO Ds []) else gH Ds,if i<4 then gF (gO Ds []) else gF Ds,0⟩) (fun ex s'=>∃tm ct Ds,s'=⟨tm,gH Ds,ct,0⟩/\ex=.exit 0/\gD Ds/\bi (fun C i=>bi bG C (je t n i n)) Ds (wi 4)/\ai tm 2=.ptr 0 0/\ai tm 9=.ptr 1 0):=by
 apply bQ;rintro d st ⟨i,Ds,hid,hD,hA,rfl⟩;have hl:=hA.len;rw[List.length_range] at hl;by_cases hi:i<4
 .left
  rw[yK hi,yK hi];have key:=awe h hv hT hn hi hD hl;obtain⟨fr,hf⟩:=Z3 hv.pu n 0 hD hl hi [];simp only[go_sem,ya,LI,nH,show (i:Int)<4 by omega];generalize hq:D P L (.loop _ HE) _=q;obtain⟨ex,st,rfl,tm,c',C,rfl,rfl,hC,cS⟩:=aW hq (key n) ⟨0,[],by omega,trivial,cO (by simp only[go_sem,ya]<;>rfl) fr.l3⟩
  obtain⟨OO,AT⟩:=Z3 hv.pu n 0 hD hl hi C;have qW:=hC.len;rw[K5] at qW;have Z4:C≠[]:=by rintro rfl;simp at qW;omega
  simp only[go_sem,cO cS (OO.OM i)];simp only[go_sem,ya,nH];refine⟨_,d-1,rfl,by omega,i+1,Ds++[C],by omega,ael hD Z4,?_,?_⟩
  .rw [wZ];exact hA.snoc hC
  .rw [wrap64 (by omega) (by omega)];have hh:(if i+1<4 then gH (gO (Ds++[C]) []) else gH (Ds++[C]))=gH (gO Ds C)/\(if i+1<4 then gF (gO (Ds++[C]) []) else gF (Ds++[C]))=gF (gO Ds C):=by
    by_cases h3:i+1<4
    .rw [yK h3,yK h3,aem hl (by omega)];exact⟨rfl,rfl⟩
    .rw [yI h3,yI h3]
     have:gO Ds C=Ds++[C]:=by
      match Ds,hl with
      | [],hl=>simp at hl;omega
      | [_],hl=>simp at hl;omega
      | [_,_],hl=>simp at hl;omega
      | [_,_,_],_=>rfl
      | _::_::_::_::_,hl=>simp at hl;omega
     rw[this];exact⟨rfl,rfl⟩
   rw[hh.1,hh.2];exact cO (by simp only[go_sem,ya]<;>rfl) (OO.OM (i+1))
 .right
  have h4:i=4:=by omega
  subst h4;rw[yI hi];simp only[go_sem,ya,yG,LI,nH,show ¬((4:Nat):Int)<4 by decide];exact⟨_,_,rfl,by simp,_,_,Ds,rfl,rfl,hD,hA,by simp only[go_sem,ya],by simp only[go_sem,ya]⟩
def asl{hp au:Hp}{cs ck:List AV}{e:Int}(h1:aE cs=ycO)(h:cg 997 hp cs=GW (ck,au)):result hp (.av [.agg cs,aa e])=GW (.av [.agg ck,aa e]):=by
 have e0:EO [.agg cs,aa e]=none:=by
  show (bif aQ (.agg cs) then EO [aa e] else none)=none
  rw[aew,h1];rfl
 have e1:freeze 998 hp (.agg cs)=GW (.agg ck,au):=by
  show (match cg 997 hp cs with | some (ck,au)=>GW (AV.agg ck,au) | none=>none)=_
  rw[h]
 have e2:cg 999 hp [.agg cs,aa e]=GW ([.agg ck,aa e],au):=by
  show (match freeze 998 hp (.agg cs) with | some (v',bk)=>(match cg 998 bk [aa e] with | some (r',jP)=>GW (v'::r',jP) | none=>none) | none=>none)=_
  rw[e1];rfl
 have e3:freeze deep hp (.av [.agg cs,aa e])=GW (.av [.agg ck,aa e],au):=by
  show (match cg 999 hp [.agg cs,aa e] with | some (ck,au)=>GW (AV.av ck,au) | none=>none)=_
  rw[e2]
 show (match EO [.agg cs,aa e] with | some _=>(match CS deep hp [.agg cs,aa e] with | some (eh,_)=>GW (AV.av eh) | none=>none) | none=>(match freeze deep hp (.av [.agg cs,aa e]) with | some (v',_)=>GW v' | none=>none))=_
 rw[e0,e3]
def aA1(F:Hp)(id a b c d:Nat)(x0 x1 x2 x3:AV)(p0 p1 p2 p3:List AV)(g:a=2/\b=3/\c=4/\d=5):∃au,cg 997 ((5,.cells ycN ycN ycO 1 (x3::p3))::(4,.cells ycN ycN ycO 1 (x2::p2))::(3,.cells ycN ycN ycO 1 (x1::p1))::(2,.cells ycN ycN ycO 1 (x0::p0))::F) [.aq a 0 (p0.length+1),.aq b 0 (p1.length+1),.aq c 0 (p2.length+1),.aq d 0 (p3.length+1)]=GW ([.ap ycO (p0.length+1) (x0::p0),.ap ycO (p1.length+1) (x1::p1),.ap ycO (p2.length+1) (x2::p2),.ap ycO (p3.length+1) (x3::p3)],au):=by
 obtain⟨rfl,rfl,rfl,rfl⟩:=g;have hz:∀(hp:Hp) (x:AV) (p:List AV),kW 0 (p.length+1) (GW (ycO,1,x::p,hp))=GW (.ap ycO (p.length+1) (x::p),hp):=fun _ _ _=>fL ycO (by simp) (by decide)
 simp only[go_sem,ya,hz];exact⟨_,rfl⟩
def Sw(r:AV)(M:List (List (List (List Nat)))):Prop:=∃v0 v1 v2 v3,r=.agg [v0,v1,v2,v3]/\bi (br bG) [v0,v1,v2,v3] M
noncomputable def Sx(t:List (List (Int×Int)))(n:Nat):List (List (List (List Nat))):=[je t n 0 n,je t n 1 n,je t n 2 n,je t n 3 n]
def gD4(hD:gD Ds)(hl:Ds.length=4):∃x p y q z r w s,Ds=[x::p,y::q,z::r,w::s]:=by
 match Ds,hD,hl with
 | [x::p,y::q,z::r,w::s],_,_=>exact⟨x,p,y,q,z,r,w,s,rfl⟩
 | [],_,hl=>simp at hl
 | [_],_,hl=>simp at hl
 | [_,_],_,hl=>simp at hl
 | [_,_,_],_,hl=>simp at hl
 | _::_::_::_::_::_,_,hl=>simp at hl
 | []::_,hD,_=>exact absurd rfl hD.1
 | _::[]::_,hD,_=>exact absurd rfl hD.2.1
 | _::_::[]::_,hD,_=>exact absurd rfl hD.2.2.1
 | [_,_,_,[]],hD,_=>exact absurd rfl hD.2.2.2.1
structure Z5(P:aG)(L:Lib):Prop extends Trf P L where
 Yd:Has P L 661 RS
 ahX:Has P L 663 RU
 Gb:Has P L 700 Iy
 X9:Has P L 703 R0
 Ya:Has P L 704 R1
 B8:Has P L 711 FX
 Gc:Has P L 728 Iz
 Gd:Has P L 729 IA
 B7:Has P L 692 Dt
def aeT{t:List (List (Int×Int))}(hT:fK t n 1)(hn:n<=8):fK (gS t n n) n 72:=by
 refine⟨CZ,fun i hi=>?_,fun a b ha hb=>?_⟩
 .rw [CZ] at hi;simp[gS,cE]
 .have kH:a<(gS t n n).length:=by rw[CZ];exact ha
  have bD:b<(gS t n n)[a].length:=by simp[gS,cE];exact hb
  rw[Qw kH bD]
  have:(gS t n n)[a][b]=Ek t n a b:=by simp[gS,cE]
  rw[this];have bt:∀x y,x<n->y<n->(-1<=jt t n a b x y/\jt t n a b x y<=1)/\(-1<=ju t n a b x y/\ju t n a b x y<=1):=fun x y hx hy=>G9 _ (hT.small x y hx hy).1 (hT.small x y hx hy).2
  have s1:=mS (f:=jt t n a b) (B:=1) (by decide) hn (fun x y hx hy=>(bt x y hx hy).1) (A:=n) (C:=0) (by omega) (by omega) (.inr rfl);have s2:=mS (f:=ju t n a b) (B:=1) (by decide) hn (fun x y hx hy=>(bt x y hx hy).2) (A:=n) (C:=0) (by omega) (by omega) (.inr rfl);exact⟨s1,s2⟩
def Q3(hl:s.length=n)(hr:∀i (hi:i<s.length),s[i].length=n):fK (s.map (ta pz)) n 1:=by
 refine⟨by rw[yv];exact hl,fun i hi=>?_,fun a b ha hb=>?_⟩
 .rw [yv] at hi;rw[wQ,yv];exact hr i hi
 .have Z6:a<s.length:=by omega
  have kH:a<(s.map (ta pz)).length:=by rw[yv];exact Z6
  have bD:b<(s.map (ta pz))[a].length:=by rw[wQ,yv,hr a Z6];exact hb
  rw[Qw kH bD];have dX:b<s[a].length:=by rw[hr a Z6];exact hb
  simp only[wQ,pz];rcases ED s[a][b] with ⟨_,h1,h2⟩ | ⟨_,h1,h2⟩ | ⟨_,h1,h2⟩ | ⟨_,h1,h2⟩<;>rw[h1,h2]<;>decide
def aA2(h:Z5 P L)(hv:gI v s)(hl:s.length<=1000000)(h0:kY [2,4] s=0):
  ∃r,af P L 663 [v] (.av [r,aa 0])/\Sw r (Sx (gS (s.map (ta pz)) s.length s.length) s.length):=by
 obtain⟨hm,fZ⟩:=Qd h0;simp only[xx,xB,vY] at hm;have hn:s.length=2\/s.length=4:=by omega
 have e0:=Yc h.Gb h.B8 h.Gc h.Gd h.B7 hv hl (lF ycN [2,4]) (by decide);rw[h0] at e0;obtain⟨f,e1,hf⟩:=aA0 h.Yd h.AN h.Gb h.B8 h.Gc h.Gd h.B7 hv h0;obtain⟨x,e2,hx⟩:=aAW h.toExc h.X9 hf (by omega) (by omega) (by omega) (by omega) fZ;obtain⟨y,e3,hy⟩:=aAX h.toTrf h.Ya hx (Q3 rfl fZ) hn;have hT:=aeT (Q3 rfl fZ) (by omega);have key:=awf h.toTrf hy hT hn;have lp1:=ru ycO ([]:List AV);unfold af at e0 e1 e2 e3;unfold af;rw[aF h.ahX];simp only[yx,yN,yf,yb,xi,wW] at e0;have hb:∀ct,gW ct 4 [AV.ab,.ab,.ab,.ab]=GW (.ptr ct 0,.cells ycN ycN ycN 4 [AV.ab,.ab,.ab,.ab]):=fun _=>rfl
 have hs4:∀hp ct id,dS hp ct id 0 4 [AV.ab,.ab,.ab,.ab] (GW (.cells ycN ycN ycN 4 [AV.ab,.ab,.ab,.ab]))=GW (.av [],aY hp id (.cells ycN ycN ycN 4 [AV.ab,.ab,.ab,.ab]),ct):=fun _ _ _=>rfl
 simp only[go_sem,ya,yb,yG,yk,yi,RU,hv.len,hv.ak,hb,e0,e1,hf.ak,e2,hx.ak,e3];generalize hq:D P L (.loop _ LI) _=q;obtain⟨ex,st,rfl,tm,c',Ds,rfl,rfl,hD,hA,g2,g9⟩:=aW hq (key 4) ⟨0,[],by omega,trivial,by exact (trivial:True),by
  rw[yK (by decide),yK (by decide)]
  simp only[go_sem,ya,yb,ae,nH,gO,gH,gB,gC,gN,gP,gF,aJ,an hy.pu]<;>rfl⟩
 obtain⟨x0,p0,x1,p1,x2,p2,x3,p3,rfl⟩:=gD4 hD hA.len;have GQ:∀hp ct id a b c d,dS hp ct id 0 4 [AV.aq 2 0 a,.aq 3 0 b,.aq 4 0 c,.aq 5 0 d] (GW (.cells ycN ycN ycN 4 [AV.ab,.ab,.ab,.ab]))=GW (.av [],aY hp id (.cells ycN ycO ycN 4 [AV.aq 2 0 a,.aq 3 0 b,.aq 4 0 c,.aq 5 0 d]),ct):=fun _ _ _ _ _ _ _=>rfl
 simp only[go_sem,ya,yb,ae,gH,gB,gC,gP,aJ,g2,g9,yg,fW,GQ,cX,cZ];obtain⟨au,hz⟩:=aA1 [(1,.cells ycN ycO ycN 4 [AV.aq 2 0 (p0.length+1),.aq 3 0 (p1.length+1),.aq 4 0 (p2.length+1),.aq 5 0 (p3.length+1)]),(0,.cells ycN ycO ycN 4 [AV.aq 2 0 (p0.length+1),.aq 3 0 (p1.length+1),.aq 4 0 (p2.length+1),.aq 5 0 (p3.length+1)])] 0 2 3 4 5 x0 x1 x2 x3 p0 p1 p2 p3 ⟨rfl,rfl,rfl,rfl⟩;rw[asl rfl hz];refine⟨_,rfl,_,_,_,_,rfl,?_⟩;obtain⟨a0,a1,a2,a3,_⟩:=hA;have w:∀{x:AV} {p:List AV} {i:Nat},bi bG (x::p) (je (gS (s.map (ta pz)) s.length s.length) s.length i s.length)->br bG (.ap ycO (p.length+1) (x::p)) (je (gS (s.map (ta pz)) s.length s.length) s.length i s.length):=fun h=>by
  have:=pG (p:=bG) ycO h
  rw[<-h.len] at this;exact this
 exact⟨w a0,w a1,w a2,w a3,trivial⟩
def apY(h:Z5 P L)(hv:gI v s)(hl:s.length<=1000000)(h0:kY [2,4] s≠0):
  af P L 663 [v] (.av [.agg [.ab,.ab,.ab,.ab],aa (kY [2,4] s)]):=by
 have e0:=Yc h.Gb h.B8 h.Gc h.Gd h.B7 hv hl (lF ycN [2,4]) (by decide);generalize kY [2,4] s=e at*
 unfold af at e0;unfold af;rw[aF h.ahX];simp only[yx,yN,yf,yb,xi,wW] at e0;have hb:∀ct,gW ct 4 [AV.ab,.ab,.ab,.ab]=GW (.ptr ct 0,.cells ycN ycN ycN 4 [AV.ab,.ab,.ab,.ab]):=fun _=>rfl
 have hs4:∀hp ct id,dS hp ct id 0 4 [AV.ab,.ab,.ab,.ab] (GW (.cells ycN ycN ycN 4 [AV.ab,.ab,.ab,.ab]))=GW (.av [],aY hp id (.cells ycN ycN ycN 4 [AV.ab,.ab,.ab,.ab]),ct):=fun _ _ _=>rfl
 simp only[go_sem,ya,yb,yG,yk,yi,RU,hv.ak,hb,e0,h0,hs4,cX,cZ,yg,fW];rfl
end
section
variable {v v0 v1 v2 v3 w:AV}{cap:List AV}{l:List Rat}{n:Nat}
noncomputable def sY(n:Nat)(r:List (List Nat)):Int:=if r.length=n then cd (r.map cK) else 2
noncomputable def Em(n:Nat)(m:List (List (List Nat))):Int:=if m.length=n then cd (m.map (sY n)) else 2
def aA3(h:Fr' P L)(NF:Has P L 720 Nc){s:Rat}{K M:Nat}(hv:bE v s)(hw:kX w l)(ks:Hq M s)(kl:∀x,x∈l->Hq K x)(hl:l.length<=1000000)(hK:M+l.length*(K+1)+K<=1000000000):∃r,af P L 720 [w,v,.fn (.f 74) [] []] r/\bE r (eF s l):=by
 have key:=fk P L [2,4,6,9,10,11] LQ
  (fun k st=>∃i:Nat,i+k=l.length/\∃c1 c2 c3 c4,bE (.agg [c1,c2,c3,c4]) (eF s (l.take i))/\st=⟨[(2,.fn (.f 74) [] []),(4,.ptr 0 0),(6,.ptr 1 0),(9,w),(10,aa l.length),(11,aa i)],[(1,.cells ycN ycN ycN 4 [.int .i64 0,.ab,.int .i64 0,.ab]),(0,.cells ycN ycN ycN 4 [c1,c2,c3,c4])],2,0⟩)
  (fun ex st=>∃tm hp ct c1 c2 c3 c4,bE (.agg [c1,c2,c3,c4]) (eF s l)/\st=⟨tm,hp,ct,0⟩/\ex=.exit 0/\ai tm 4=.ptr 0 0/\ai tm 6=.ptr 1 0/\ax hp 0=GW (.cells ycN ycN ycN 4 [c1,c2,c3,c4])/\ax hp 1=GW (.cells ycN ycN ycN 4 [.int .i64 0,.ab,.int .i64 0,.ab])) ?_
 .have eJ:=hv;obtain⟨v1,v2,v3,v4,rfl,gv⟩:=hv.gen;unfold af;rw[aF NF];simp only[go_sem,ya,yb,Nc,gv.bx,aR,hw.len];generalize hq:D P L (.loop _ LQ) _=q;obtain⟨ex,st,rfl,tm,hp,ct,c1,c2,c3,c4,h1,rfl,rfl,t4,t6,g0,g1⟩:=aW hq (key l.length) ⟨0,by omega,v1,v2,v3,v4,by simpa[eF] using eJ,by simp only[go_sem,ya,yb,ae,an hw.pu]<;>rfl⟩
  have g:=h1.f4;refine⟨_,?_,h1⟩;simp only[go_sem,ya,yb,ae,t4,t6,g0,g1,eL,g.st,cX,cZ,yg];exact g.eG _
 .rintro k st ⟨i,hk,c1,c2,c3,c4,hs,rfl⟩;by_cases hi:i<l.length
  .left
   obtain⟨a,b,c,d,r,e1,hx⟩:=hw.a6 hi;obtain⟨y,e2,hy⟩:=GD h hs hx (K:=M+l.length*(K+1)+K) ((Qb ks kl i).mono (by omega)) ((kl _ (xq hi)).mono (by omega)) (by omega);rw[<-KL hi] at hy;have GJ:=hy;obtain⟨y1,y2,y3,y4,rfl,gy⟩:=hy.gen;have gs:=hs.f4;have gx:=hx.f4;unfold af at e2;simp only[go_sem,ya,yb,LQ,show (i:Int)<l.length by omega,e1,Sp,eL,aR,gx.st,e2,gs.ak,gx.ak,gy.st,a8,yg];refine⟨_,k-1,rfl,by omega,i+1,by omega,y1,y2,y3,y4,GJ,?_⟩;rw[wrap64 (by omega) (by omega)];simp only[go_sem,ya,yb,ae,an hw.pu]<;>rfl
  .right
   simp only[go_sem,ya,LQ,show ¬(i:Int)<l.length by omega];rw[yq (by omega)] at hs;exact⟨_,_,rfl,by simp,_,_,_,c1,c2,c3,c4,hs,rfl,rfl,by simp only[go_sem,ya],by simp only[go_sem,ya],by simp only[go_sem,ya],by simp only[go_sem]⟩
def aA4(NG:Has P L 736 Nf){M:List (List (List Nat))}(hv:br bG v M)(hl:M.length<=1000000){g:Nat}(hc:aE cap=ycN)(hz:∀(n:Nat) (hp:Hp),cg (n+900) hp cap=GW (cap,hp)){f:List (List Nat)->Int}(hg:∀w a,a∈M->bG w a->af P L g (w::cap) (aa (f a))):af P L 736 [v,.fn (.f g) [] cap] (aa (cd (M.map f))):=by
 have pf:aQ (.fn (.f g) [] cap)=ycN:=by simp[aQ,aE,hc]
 have key:=fk P L [1,8,9,10] Qi
  (fun k s=>∃i:Nat,s=⟨[(1,.fn (.f g) [] cap),(8,v),(9,aa M.length),(10,aa i)],[],0,0⟩/\i+k=M.length/\cd ((M.drop i).map f)=cd (M.map f))
  (fun ex s=>∃tm ct,s=⟨tm,[],ct,0⟩/\((ex=.ret/\ai tm 4=aa (cd (M.map f)))\/(ex=.exit 0/\cd (M.map f)=0))) ?_
 .unfold af;rw[aF NG];simp only[go_sem,ya,Nf,hv.len];generalize hq:D P L (.loop _ Qi) _=q;obtain⟨ex,s,rfl,tm,ct,rfl,h2⟩:=aW hq (key M.length) ⟨0,by simp only[go_sem,ya,ae,an hv.pu,an pf]<;>rfl,by omega,by simp⟩
  rcases h2 with ⟨rfl,h2⟩ | ⟨rfl,h2⟩
  .simp only [go_sem,h2]
  .rw [h2];simp only[go_sem,ae]
 .rintro k s ⟨i,rfl,hk,hf⟩;simp only[go_sem,ya,Qi];by_cases hi:i<M.length
  .have dP:(i:Int)<M.length:=by omega
   obtain⟨r,rest,hr,e0⟩:=hv.a6 hi;have e1:=hg r _ (xq hi) hr;unfold af at e1;rw[yT hi,xi] at hf;simp only[cd] at hf;by_cases ej:f M[i]=0
   .left
    rw[ej] at e1;simp only[go_sem,ya,dP,e0,hr.ak,hz,e1];refine⟨_,k-1,rfl,by omega,i+1,?_,by omega,by rw[yK ej] at hf;exact hf⟩
    rw[wrap64 (by omega) (by omega)];simp only[go_sem,ya,ae,an hv.pu,an pf]<;>rfl
   .right
    simp only[go_sem,ya,dP,e0,hr.ak,hz,e1,ej];rw[yI ej] at hf;refine⟨_,_,rfl,by simp,_,_,rfl,.inl ⟨rfl,?_⟩⟩;simp only[go_sem,hf]
  .right
   have dP:¬(i:Int)<M.length:=by omega
   simp only[go_sem,dP];refine⟨_,_,rfl,by simp,_,_,rfl,.inr ⟨rfl,?_⟩⟩;rw[<-hf,yZ (by omega)];rfl
def aA5(Ge:Has P L 749 IC){M:List (List Nat)}(hv:bG v M)(hl:M.length<=1000000){g:Nat}(hc:aE cap=ycN)(hz:∀(n:Nat) (hp:Hp),cg (n+900) hp cap=GW (cap,hp)){f:List Nat->Int}(hg:∀a,a∈M->af P L g (.str a::cap) (aa (f a))):af P L 749 [v,.fn (.f g) [] cap] (aa (cd (M.map f))):=by
 have pf:aQ (.fn (.f g) [] cap)=ycN:=by simp[aQ,aE,hc]
 have key:=fk P L [1,8,9,10] Qj
  (fun k s=>∃i:Nat,s=⟨[(1,.fn (.f g) [] cap),(8,v),(9,aa M.length),(10,aa i)],[],0,0⟩/\i+k=M.length/\cd ((M.drop i).map f)=cd (M.map f))
  (fun ex s=>∃tm ct,s=⟨tm,[],ct,0⟩/\((ex=.ret/\ai tm 4=aa (cd (M.map f)))\/(ex=.exit 0/\cd (M.map f)=0))) ?_
 .unfold af;rw[aF Ge];simp only[go_sem,ya,IC,hv.len];generalize hq:D P L (.loop _ Qj) _=q;obtain⟨ex,s,rfl,tm,ct,rfl,h2⟩:=aW hq (key M.length) ⟨0,by simp only[go_sem,ya,ae,an hv.pu,an pf]<;>rfl,by omega,by simp⟩
  rcases h2 with ⟨rfl,h2⟩ | ⟨rfl,h2⟩
  .simp only [go_sem,h2]
  .rw [h2];simp only[go_sem,ae]
 .rintro k s ⟨i,rfl,hk,hf⟩;simp only[go_sem,ya,Qj];by_cases hi:i<M.length
  .have dP:(i:Int)<M.length:=by omega
   have e0:=hv.a6 hi;have e1:=hg _ (xq hi);unfold af at e1;rw[yT hi,xi] at hf;simp only[cd] at hf;by_cases ej:f M[i]=0
   .left
    rw[ej] at e1;simp only[go_sem,ya,dP,e0,hz,e1];refine⟨_,k-1,rfl,by omega,i+1,?_,by omega,by rw[yK ej] at hf;exact hf⟩
    rw[wrap64 (by omega) (by omega)];simp only[go_sem,ya,ae,an hv.pu,an pf]<;>rfl
   .right
    simp only[go_sem,ya,dP,e0,hz,e1,ej];rw[yI ej] at hf;refine⟨_,_,rfl,by simp,_,_,rfl,.inl ⟨rfl,?_⟩⟩;simp only[go_sem,hf]
  .right
   have dP:¬(i:Int)<M.length:=by omega
   simp only[go_sem,dP];refine⟨_,_,rfl,by simp,_,_,rfl,.inr ⟨rfl,?_⟩⟩;rw[<-hf,yZ (by omega)];rfl
def aA6(h:Ck P L)(Ge:Has P L 749 IC)(NH:Has P L 735 IB){r:List (List Nat)}(hw:bG w r)(hl:r.length<=1000000)(hs:∀s,s∈r->s.length<=1000000000):af P L 735 [w,.bN [aa n]] (aa (sY n r)):=by
 have e1:=aA5 Ge hw hl (g:=86) (cap:=[]) rfl (fun n hp=>rfl) (f:=cK) (fun a ha=>m86 h (hs a ha));unfold af at e1 ⊢;rw[aF NH];unfold sY;by_cases hn:r.length=n
 .rw [yK hn];simp only[go_sem,ya,IB,hw.len,hw.ak,hn,e1,yy]
 .rw [yI hn];simp only[go_sem,ya,IB,hw.len,show ¬((r.length:Int)=n) by omega,yA]
def aA7(h:Ck P L)(Ge:Has P L 749 IC)(NH:Has P L 735 IB)(NG:Has P L 736 Nf)(Yf:Has P L 712 Nb){m:List (List (List Nat))}(hv:br bG v m)(hl:m.length<=1000000)(hr:∀r,r∈m->r.length<=1000000/\∀s,s∈r->s.length<=1000000000):af P L 712 [v,aa n] (aa (Em n m)):=by
 have e1:=aA4 NG hv hl (g:=735) (cap:=[.bN [aa n]]) rfl (fun n hp=>rfl) (f:=sY n) (fun w a ha hw=>aA6 h Ge NH hw (hr a ha).1 (hr a ha).2);unfold af at e1 ⊢;rw[aF Yf];unfold Em;by_cases hn:m.length=n
 .rw [yK hn];simp only[go_sem,ya,yb,Nb,hv.len,hv.ak,hn,Wy,yg,e1,yy]
 .rw [yI hn];simp only[go_sem,ya,yb,Nb,hv.len,Wy,yg,show ¬((m.length:Int)=n) by omega,yA]
def aA8(h:Fr' P L)(NF:Has P L 720 Nc)(Yg:Has P L 674 RY){K:Nat}(hw:kX w l)(kl:∀x,x∈l->Hq K x)(hl:l.length<=1000000)(hK:40+l.length*(K+1)+K<=1000000000):∃r,af P L 674 [w] r/\bE r (eF 0 l):=by
 obtain⟨z,e0,hz⟩:=Cs h (z:=0) (by omega) (by omega);have hz:bE z 0:=hz;obtain⟨r,e1,hr⟩:=aA3 h NF hz hw (iw (z:=0) (by decide)) kl hl hK;obtain⟨z1,z2,z3,z4,rfl,gz⟩:=hz.gen;have bR:=hr;obtain⟨r1,r2,r3,r4,rfl,gr⟩:=hr.gen;refine⟨_,?_,bR⟩;unfold af at e0 e1 ⊢;rw[aF Yg];simp only[go_sem,ya,yb,RY,aR,hw.ak,e0,gz.ak,a8,e1,gr.st,cX,cZ,yg,eL];exact gr.eG _
def ix4{M:List (List (List (List Nat)))}(h:bi (br bG) [v0,v1,v2,v3] M){i:Nat}(hi:i<4):∃w,Mj 4 1 ycO i (.agg [v0,v1,v2,v3])=GW w/\br bG w (M.getD i []):=by
 match M,h,i,hi with
 | [m0,m1,m2,m3],h,0,_=>exact⟨_,rfl,h.1⟩
 | [m0,m1,m2,m3],h,1,_=>exact⟨_,rfl,h.2.1⟩
 | [m0,m1,m2,m3],h,2,_=>exact⟨_,rfl,h.2.2.1⟩
 | [m0,m1,m2,m3],h,3,_=>exact⟨_,rfl,h.2.2.2.1⟩
def Bg{M:List (List (List (List Nat)))}(h:bi (br bG) [v0,v1,v2,v3] M):aE [v0,v1,v2,v3]=ycN/\aQ (.agg [v0,v1,v2,v3])=ycN/\bY [v0,v1,v2,v3]=ycN:=by
 match M,h with
 | [m0,m1,m2,m3],⟨h0,h1,h2,h3,_⟩=>
  have e:aE [v0,v1,v2,v3]=ycN:=by simp only[aE,h0.pu,h1.pu,h2.pu,h3.pu,wj]
  exact⟨e,e,by simp only[bY,h0.one,h1.one,h2.one,h3.one,wj]⟩
noncomputable def nh(n:Nat)(M:List (List (List (List Nat)))):Int:=cd (M.map (Em n))
def adt{M:List (List (List (List Nat)))}{i:Nat}(h:M.length=4)(hi:i<4):nh n (M.drop i)=if Em n (M.getD i [])=0 then nh n (M.drop (i+1)) else Em n (M.getD i []):=by
 have dP:i<M.length:=by omega
 have e:M.getD i []=M[i]:=by rw[yU,xf dP,xT]
 rw[e];unfold nh;rw[yT dP,xi];rfl
structure Sgc(P:aG)(L:Lib):Prop extends Ck P L where
 B8:Has P L 711 FX
 Yf:Has P L 712 Nb
 NH:Has P L 735 IB
 NG:Has P L 736 Nf
 Ge:Has P L 749 IC
def awg(h:Sgc P L){M:List (List (List (List Nat)))}(hv:bi (br bG) [v0,v1,v2,v3] M)(hs:∀m,m∈M->m.length<=1000000/\∀r,r∈m->r.length<=1000000/\∀s,s∈r->s.length<=1000000000):
  bP P L [1,4,32,33] HF (fun d st=>∃i,i+d=4/\nh n (M.drop i)=nh n M/\st=⟨[(1,.ptr 0 0),(4,aa n),(32,.agg [v0,v1,v2,v3]),(33,aa i)],[(0,.cells ycN ycN ycN 4 [v0,v1,v2,v3])],1,0⟩) (fun ex s'=>∃tm ct,s'=⟨tm,[(0,.cells ycN ycN ycN 4 [v0,v1,v2,v3])],ct,0⟩/\((ex=.ret/\nh n M≠0/\ai tm 2=.ab/\ai tm 3=aa (nh n M))\/(ex=.exit 0/\nh n M=0/\ai tm 1=.ptr 0 0/\ai tm 4=aa n))):=by
 have hl:M.length=4:=hv.len.symm;obtain⟨p1,p2,p3⟩:=Bg hv;apply bQ;rintro d st ⟨i,hid,he,rfl⟩;by_cases hi:i<4
 .obtain ⟨w,e0,hw⟩:=ix4 hv hi;have hm:M.getD i []∈M:=by
   rw[yU,xf (show i<M.length by omega),xT];exact xq _
  have e1:=aA7 h.toCk h.Ge h.NH h.NG h.Yf hw (n:=n) (hs _ hm).1 (hs _ hm).2;rw[adt hl hi] at he;unfold af at e1;by_cases h0:Em n (M.getD i [])=0
  .left
   rw[yK h0] at he;rw[h0] at e1;simp only[go_sem,ya,HF,show (i:Int)<4 by omega,e0,hw.ak,e1];refine⟨_,d-1,rfl,by omega,i+1,by omega,he,?_⟩;rw[wrap64 (by omega) (by omega)];simp only[go_sem,ya,yb,ae,an p2]<;>rfl
  .right
   rw[yI h0] at he;simp only[go_sem,ya,HF,show (i:Int)<4 by omega,e0,hw.ak,e1,h0];exact⟨_,_,rfl,by simp,_,_,rfl,.inl ⟨rfl,by rw[<-he];exact h0,by simp only[go_sem,ya],by rw[<-he];simp only[go_sem]⟩⟩
 .right
  have h4:i=4:=by omega
  subst h4;rw[yZ (by omega)] at he;simp only[go_sem,ya,HF,show ¬((4:Nat):Int)<4 by decide];exact⟨_,_,rfl,by simp,_,_,rfl,.inr ⟨rfl,by rw[<-he];rfl,by simp only[go_sem,ya],by simp only[go_sem,ya]⟩⟩
end
noncomputable def kD(r:List (List Nat)):Rat:=eF 0 (r.map dM)
noncomputable def oQ(M:List (List (List (List Nat)))):Rat:=M.foldl (fun s m=>eF s (m.map kD)) 0
def acq{M:List (List (List (List Nat)))}{i:Nat}(hi:i<M.length):oQ (M.take (i+1))=eF (oQ (M.take i)) ((M.getD i []).map kD):=by
 have e:M.getD i []=M[i]:=by rw[yU,xf hi,xT]
 rw[e];unfold oQ;rw[yS hi,List.foldl_append];rfl
def WL{r:List (List Nat)}(hl:r.length<=8)(hc:∀s,s∈r->cK s=0):Hq 20000 (kD r):=by
 refine (VY (K:=2400) (l:=r.map dM) (iw (z:=0) (by decide)) (fun x hx=>?_)).mono ?_
 .obtain ⟨s,hs,rfl⟩:=vI.1 hx;exact pN (hc s hs) (yz 2400)
 .rw [yv];omega
def WM{m:List (List (List Nat))}{s:Rat}{K:Nat}(hs:Hq K s)(hl:m.length<=8)(hr:∀r,r∈m->r.length<=8/\∀s,s∈r->cK s=0)(k:Nat):Hq (K+170000) (eF s ((m.map kD).take k)):=by
 refine (Qb (K:=20000) hs (fun x hx=>?_) k).mono ?_
 .obtain ⟨r,bR,rfl⟩:=vI.1 hx;exact WL (hr r bR).1 (hr r bR).2
 .rw [yv];omega
def MH{M:List (List (List (List Nat)))}(hM:∀m,m∈M->m.length<=8/\∀r,r∈m->r.length<=8/\∀s,s∈r->cK s=0):∀i,i<=M.length->Hq (40+i*170000) (oQ (M.take i))
 | 0,_=>iw (z:=0) (by decide)
 | i+1,hi=>by
  have ih:=MH hM i (by omega);rw[acq (by omega)];have hm:M.getD i []∈M:=by
   rw[yU,xf (show i<M.length by omega),xT];exact xq _
  have:=WM ih (hM _ hm).1 (hM _ hm).2 ((M.getD i []).map kD).length
  rw[List.take_length] at this;exact this.mono (by omega)
structure Sgs(P:aG)(L:Lib):Prop extends Sgc P L where
 OK:Has P L 88 Oa
 Yg:Has P L 674 RY
 NF:Has P L 720 Nc
def awh(h:Sgs P L){A w:AV}{n i:Nat}{vs:List AV}{m:List (List (List Nat))}{s:Rat}(pA:aQ A=ycN)(hw:br bG w m)(hs:Hq 800000 s)(hl:m.length<=8)(hr:∀r,r∈m->r.length<=8/\∀s,s∈r->cK s=0):
  bP P L [1,4,9,44,45,48,49,50] LJ (fun d st=>∃k c1 c2 c3 c4,k+d=m.length/\bE (.agg [c1,c2,c3,c4]) (eF s ((m.map kD).take k))/\st=⟨[(1,.ptr 0 0),(4,aa n),(9,.ptr 1 0),(44,A),(45,aa i),(48,w),(49,aa m.length),(50,aa k)],[(1,.cells ycN ycN ycN 4 [c1,c2,c3,c4]),(0,.cells ycN ycN ycN 4 vs)],2,0⟩) (fun ex s'=>∃tm ct c1 c2 c3 c4,s'=⟨tm,[(1,.cells ycN ycN ycN 4 [c1,c2,c3,c4]),(0,.cells ycN ycN ycN 4 vs)],ct,0⟩/\ex=.exit 4/\bE (.agg [c1,c2,c3,c4]) (eF s (m.map kD))/\ai tm 1=.ptr 0 0/\ai tm 4=aa n/\ai tm 9=.ptr 1 0/\ai tm 44=A/\ai tm 45=aa i):=by
 apply bQ;rintro d st ⟨k,c1,c2,c3,c4,Cu,hc,rfl⟩;by_cases hk:k<m.length
 .left
  obtain⟨x,rest,hx,e0⟩:=hw.a6 hk;obtain⟨h8,dO⟩:=hr _ (xq hk);obtain⟨y,e1,hy⟩:=m88 h.toCk h.OK hx (by omega) dO;have kl:∀z,z∈m[k].map dM->Hq 2400 z:=fun z hz=>by
   obtain⟨s,hs,rfl⟩:=vI.1 hz;exact pN (dO s hs) (yz 2400)
  obtain⟨z,e2,hz⟩:=aA8 h.toFr' h.NF h.Yg hy kl (by rw[yv];omega) (by rw[yv];omega);obtain⟨q,e3,hq⟩:=GD h.toFr' hc hz (K:=1000000) ((WM hs hl hr k).mono (by decide)) ((WL h8 dO).mono (by decide)) (by decide);have hq:bE q (eF s ((m.map kD).take (k+1))):=by
   rw[KL (by rw[yv];exact hk),wQ]
   exact hq
  have gc:=hc.f4;obtain⟨z1,z2,z3,z4,rfl,gz⟩:=hz.gen;have bB:=hq;obtain⟨q1,q2,q3,q4,rfl,gq⟩:=hq.gen;unfold af at e1 e2 e3;simp only[go_sem,ya,LJ,show (k:Int)<m.length by omega,e0,hx.ak,e1,hy.ak,e2,gz.ak,a8,eL,yg,gc.ak,e3,gq.st];refine⟨_,d-1,rfl,by omega,k+1,q1,q2,q3,q4,by omega,bB,?_⟩;rw[wrap64 (by omega) (by omega)];simp only[go_sem,ya,yb,ae,an hw.pu,an pA]<;>rfl
 .right
  simp only[go_sem,ya,LJ,show ¬(k:Int)<m.length by omega];rw[yq (by rw[yv];omega)] at hc;exact⟨_,_,rfl,by simp,_,_,c1,c2,c3,c4,rfl,rfl,hc,by simp only[go_sem,ya],by simp only[go_sem,ya],by simp only[go_sem,ya],by simp only[go_sem,ya],by simp only[go_sem,ya]⟩
def awi(h:Sgs P L){v0 v1 v2 v3:AV}{M:List (List (List (List Nat)))}{n:Nat}(hv:bi (br bG) [v0,v1,v2,v3] M)(hM:∀m,m∈M->m.length<=8/\∀r,r∈m->r.length<=8/\∀s,s∈r->cK s=0):
  bP P L [1,4,9,44,45] LK (fun d st=>∃i c1 c2 c3 c4,i+d=4/\bE (.agg [c1,c2,c3,c4]) (oQ (M.take i))/\st=⟨[(1,.ptr 0 0),(4,aa n),(9,.ptr 1 0),(44,.agg [v0,v1,v2,v3]),(45,aa i)],[(1,.cells ycN ycN ycN 4 [c1,c2,c3,c4]),(0,.cells ycN ycN ycN 4 [v0,v1,v2,v3])],2,0⟩) (fun ex s'=>∃tm ct c1 c2 c3 c4,s'=⟨tm,[(1,.cells ycN ycN ycN 4 [c1,c2,c3,c4]),(0,.cells ycN ycN ycN 4 [v0,v1,v2,v3])],ct,0⟩/\ex=.exit 2/\bE (.agg [c1,c2,c3,c4]) (oQ M)/\ai tm 1=.ptr 0 0/\ai tm 4=aa n/\ai tm 9=.ptr 1 0):=by
 have hl:M.length=4:=hv.len.symm;obtain⟨p1,p2,p3⟩:=Bg hv;apply bQ;rintro d st ⟨i,c1,c2,c3,c4,hid,hc,rfl⟩;by_cases hi:i<4
 .left
  obtain⟨w,e0,hw⟩:=ix4 hv hi;have hm:M.getD i []∈M:=by
   rw[yU,xf (show i<M.length by omega),xT];exact xq _
  have key:=awh h (A:=.agg [v0,v1,v2,v3]) (w:=w) (n:=n) (i:=i) (vs:=[v0,v1,v2,v3]) (s:=oQ (M.take i)) p2 hw ((MH hM i (by omega)).mono (by omega)) (hM _ hm).1 (hM _ hm).2;simp only[go_sem,ya,LK,show (i:Int)<4 by omega,e0,hw.len];generalize hq:D P L (.loop _ LJ) _=q;obtain⟨ex,st,rfl,tm,ct,d1,d2,d3,d4,rfl,rfl,hd,t1,t4,t9,t44,t45⟩:=aW hq (key (M.getD i []).length) ⟨0,c1,c2,c3,c4,by omega,hc,by simp only[go_sem,ya,yb,ae,an p2,an hw.pu]<;>rfl⟩
  simp only[go_sem,ya,yb,ae,t1,t4,t9,t44,t45,an p2];refine⟨_,d-1,rfl,by omega,i+1,d1,d2,d3,d4,by omega,?_,?_⟩
  .rw [acq (by omega)];exact hd
  .rw [wrap64 (by omega) (by omega)];simp only[go_sem,ya,yb,ae,an p2]<;>rfl
 .right
  have h4:i=4:=by omega
  subst h4;rw[yq (by omega)] at hc;simp only[go_sem,ya,LK,show ¬((4:Nat):Int)<4 by decide];exact⟨_,_,rfl,by simp,_,_,c1,c2,c3,c4,rfl,rfl,hc,by simp only[go_sem,ya],by simp only[go_sem,ya],by simp only[go_sem,ya]⟩
def aA9(h:Tx P L){s:List Nat}(h0:cK s=0):∃r,af P L 62 [.str s] r/\bE r (dM s):=by
 obtain⟨hR,_⟩:=CQ h0;have kr:=pN h0 (yz 2400);have hl:=E9 kr;obtain⟨r,e,hr⟩:=ZI h (a:=dM s) (by omega);rw[<-hR] at e;exact⟨r,e,hr⟩
def aBa(p q:sS):jK (.ag [2,2]) (.agg (sT p)) (.agg (sT q))=GW (cN p.1 q.1&&cN p.2 q.2):=by
 show dj [2,2] [.str p.1,.str p.2] [.str q.1,.str q.2]=_
 simp only[dj];cases cN p.1 q.1<;>cases cN p.2 q.2<;>rfl
section
variable {v0 v1 v2 v3:AV}{i:Nat}
def jN(M:List (List (List (List Nat))))(i r c:Nat):List Nat:=((M.getD i []).getD r []).getD c []
noncomputable def qj(M:List (List (List (List Nat))))(r c i:Nat):Rat:=dM (jN M i r c)
def zW(M:List (List (List (List Nat))))(n:Nat):Prop:=∀m,m∈M->m.length=n/\∀r,r∈m->r.length=n/\∀s,s∈r->cK s=0
def getD_at{β:Type}{l:List β}{d:β}(h:i<l.length):l.getD i d=l[i]:=by
 rw[yU,xf h,xT]
def oh{M:List (List (List (List Nat)))}(h:bi (br bG) [v0,v1,v2,v3] M)(hi:i<4):∃w,Gw 1 ycO i (GW (.cells ycN ycN ycN 4 [v0,v1,v2,v3]))=GW w/\br bG w (M.getD i []):=by
 match M,h,i,hi with
 | [m0,m1,m2,m3],h,0,_=>exact⟨_,rfl,h.1⟩
 | [m0,m1,m2,m3],h,1,_=>exact⟨_,rfl,h.2.1⟩
 | [m0,m1,m2,m3],h,2,_=>exact⟨_,rfl,h.2.2.1⟩
 | [m0,m1,m2,m3],h,3,_=>exact⟨_,rfl,h.2.2.2.1⟩
def DE{M:List (List (List (List Nat)))}{n r c:Nat}(hv:bi (br bG) [v0,v1,v2,v3] M)(hM:zW M n)(hi:i<4)(hr:r<n)(hc:c<n):
  ∃w rw rest ags,Gw 1 ycO i (GW (.cells ycN ycN ycN 4 [v0,v1,v2,v3]))=GW w/\fc 1 r w=GW (.bN (rw::rest))/\fc 1 c rw=GW (.bN (.str (jN M i r c)::ags))/\cK (jN M i r c)=0:=by
 have hl:M.length=4:=hv.len.symm;obtain⟨w,e0,hw⟩:=oh hv hi;have e:M.getD i []=M[i]'(by omega):=getD_at (by omega);obtain⟨h1,h2⟩:=hM (M.getD i []) (by rw[e];exact xq _)
 obtain⟨eN,rest,h3,e1⟩:=hw.a6 (i:=r) (by omega);obtain⟨h4,h5⟩:=h2 _ (xq (show r<(M.getD i []).length by omega));have e2:=h3.a6 (i:=c) (by omega);have ep:jN M i r c=((M.getD i [])[r]'(by omega))[c]'(by omega):=by
  unfold jN
  rw[getD_at (l:=M.getD i []) (by omega),getD_at (by omega)]
 rw[ep];exact⟨w,eN,_,_,e0,e1,e2,h5 _ (xq _)⟩
def nC:List AV:=[.int .i64 0,.ab,.int .i64 0,.ab]
def Tt(f:Nat->Rat)(i:Nat)(cs:List AV):Prop:=∃a0 a1 a2 a3 b0 b1 b2 b3 c0 c1 c2 c3 d0 d1 d2 d3,cs=[a0,a1,a2,a3,b0,b1,b2,b3,c0,c1,c2,c3,d0,d1,d2,d3]/\(0<i->bE (.agg [a0,a1,a2,a3]) (f 0))/\(1<i->bE (.agg [b0,b1,b2,b3]) (f 1))/\(2<i->bE (.agg [c0,c1,c2,c3]) (f 2))/\(3<i->bE (.agg [d0,d1,d2,d3]) (f 3))
def aBb{x0 x1 x2 x3:AV}{f:Nat->Rat}{cs:List AV}(h:Tt f i cs)(hi:i<4)(hx:bE (.agg [x0,x1,x2,x3]) (f i))(hp:Hp)(ct id:Nat):
  ∃ck,dS hp ct id (i*4) 4 [x0,x1,x2,x3] (GW (.cells ycN ycN ycN 16 cs))=GW (.av [],aY hp id (.cells ycN ycN ycN 16 ck),ct)/\Tt f (i+1) ck:=by
 obtain⟨a0,a1,a2,a3,b0,b1,b2,b3,c0,c1,c2,c3,d0,d1,d2,d3,rfl,h0,h1,h2,h3⟩:=h;have g:=hx.f4;obtain⟨p1,p2,p3,p4⟩:=g.qV;have ho:bY [x0,x1,x2,x3]=ycN:=by simp only[bY,g.o1,g.o2,g.o3,g.o4,wj]
 have pp:aE [x0,x1,x2,x3]=ycN:=by simp only[aE,p1,p2,p3,p4,wj]
 have key:∀(o:Nat) (cs ck:List AV),o+4<=cs.length->over o [x0,x1,x2,x3] cs=ck->dS hp ct id o 4 [x0,x1,x2,x3] (GW (.cells ycN ycN ycN 16 cs))=GW (.av [],aY hp id (.cells ycN ycN ycN 16 ck),ct):=fun o cs ck h1 h2=>by
  rw[zn (by rfl) h1 ho,pp,h2];rfl
 obtain rfl | rfl | rfl | rfl:i=0\/i=1\/i=2\/i=3:=by omega
 .exact ⟨[x0,x1,x2,x3,b0,b1,b2,b3,c0,c1,c2,c3,d0,d1,d2,d3],key 0 _ _ (by simp) rfl,x0,x1,x2,x3,b0,b1,b2,b3,c0,c1,c2,c3,d0,d1,d2,d3,rfl,fun _=>hx,fun h=>absurd h (by decide),fun h=>absurd h (by decide),fun h=>absurd h (by decide)⟩
 .exact ⟨[a0,a1,a2,a3,x0,x1,x2,x3,c0,c1,c2,c3,d0,d1,d2,d3],key 4 _ _ (by simp) rfl,a0,a1,a2,a3,x0,x1,x2,x3,c0,c1,c2,c3,d0,d1,d2,d3,rfl,fun _=>h0 (by decide),fun _=>hx,fun h=>absurd h (by decide),fun h=>absurd h (by decide)⟩
 .exact ⟨[a0,a1,a2,a3,b0,b1,b2,b3,x0,x1,x2,x3,d0,d1,d2,d3],key 8 _ _ (by simp) rfl,a0,a1,a2,a3,b0,b1,b2,b3,x0,x1,x2,x3,d0,d1,d2,d3,rfl,fun _=>h0 (by decide),fun _=>h1 (by decide),fun _=>hx,fun h=>absurd h (by decide)⟩
 .exact ⟨[a0,a1,a2,a3,b0,b1,b2,b3,c0,c1,c2,c3,x0,x1,x2,x3],key 12 _ _ (by simp) rfl,a0,a1,a2,a3,b0,b1,b2,b3,c0,c1,c2,c3,x0,x1,x2,x3,rfl,fun _=>h0 (by decide),fun _=>h1 (by decide),fun _=>h2 (by decide),fun _=>hx⟩
def BN(id k:Nat)(h:k<4):Fp 4 4 k (.ptr id 0)=GW (.ptr id (k*4)):=by
 match k,h with
 | 0,_=>rfl
 | 1,_=>rfl
 | 2,_=>rfl
 | 3,_=>rfl
def Fb(n r c i z:Nat)(R W:AV):Env:=[(1,.ptr 0 0),(4,aa n),(14,.ptr 1 0),(15,R),(16,aa r),(17,W),(18,aa c),(19,.ptr z 0),(70,aa n),(71,aa r),(74,aa n),(75,aa c),(78,aa i)]
def Hi(n r c z:Nat)(R W:AV):Env:=[(1,.ptr 0 0),(4,aa n),(14,.ptr 1 0),(15,R),(16,aa r),(17,W),(19,.ptr z 0),(70,aa n),(71,aa r),(74,aa n),(75,aa c)]
def aeU(h:Tx P L){M:List (List (List (List Nat)))}{n r c:Nat}(hv:bi (br bG) [v0,v1,v2,v3] M)(hM:zW M n)(hr:r<n)(hc:c<n){R W:AV}{z ct:Nat}{H:Hp}(hg:ax H 0=GW (.cells ycN ycN ycN 4 [v0,v1,v2,v3]))(hz:z≠0)(hC:∀i cs,dw [1,4,14,15,16,17,18,19,70,71,74,75,78] (Fb n r c i z R W) ((z,.cells ycN ycN ycN 16 cs)::H) ct):
  bP P L [1,4,14,15,16,17,18,19,70,71,74,75,78] HG (fun d st=>∃i cs,i+d=4/\Tt (qj M r c) i cs/\st=⟨Fb n r c i z R W,(z,.cells ycN ycN ycN 16 cs)::H,ct,0⟩) (fun ex s'=>∃tm c' cs,s'=⟨tm,(z,.cells ycN ycN ycN 16 cs)::H,c',0⟩/\ex=.exit 10/\Tt (qj M r c) 4 cs/\cu tm [1,4,14,15,16,17,19,70,71,74,75]=Hi n r c z R W):=by
 apply bQ;rintro d st ⟨i,cs,hid,eI,rfl⟩;by_cases hi:i<4
 .left
  obtain⟨w,eN,rest,ags,e0,e1,e2,dO⟩:=DE hv hM hi hr hc;obtain⟨x,e3,hx⟩:=aA9 h dO;have zU:=hx;obtain⟨x0,x1,x2,x3,rfl,gx⟩:=hx.gen;obtain⟨ck,e4,aBc⟩:=aBb eI hi zU ((z,.cells ycN ycN ycN 16 cs)::H) ct z;unfold af at e3;have g0:ax ((z,.cells ycN ycN ycN 16 cs)::H) 0=GW (.cells ycN ycN ycN 4 [v0,v1,v2,v3]):=by rw[ab6 _ _ hz];exact hg
  simp only[go_sem,ya,HG,Fb,show (i:Int)<4 by omega,dG 0 i hi,g0,e0,e1,e2,e3,a8,BN z i hi,e4];refine⟨_,d-1,rfl,by omega,i+1,ck,by omega,aBc,?_⟩;rw[wrap64 (by omega) (by omega)];exact cO (by simp only[go_sem,ya]<;>rfl) (hC (i+1) _)
 .right
  have h4:i=4:=by omega
  subst h4;simp only[go_sem,ya,HG,Fb,show ¬((4:Nat):Int)<4 by decide];exact⟨_,_,rfl,by simp,_,_,cs,rfl,rfl,eI,by simp only[go_sem,ya]<;>rfl⟩
end
noncomputable def ol(M:List (List (List (List Nat))))(μ:Rat)(r c:Nat):Rat:=(qj M r c 0+qj M r c 2-qj M r c 1-qj M r c 3)/μ
noncomputable def om(M:List (List (List (List Nat))))(μ:Rat)(r c:Nat):Rat:=(qj M r c 0+qj M r c 1-qj M r c 2-qj M r c 3)/μ
noncomputable def mE(M:List (List (List (List Nat))))(μ:Rat)(r c:Nat):Bool:=[ol M μ r c,om M μ r c].any LG
noncomputable def Bh(M:List (List (List (List Nat))))(μ:Rat)(r c:Nat):sS:=(RT (ol M μ r c),RT (om M μ r c))
def Sy(h:Fr' P L){vA vB vC vD vE:AV}{a b c d e:Rat}(hA:bE vA a)(hB:bE vB b)(hC:bE vC c)(hD:bE vD d)(hE:bE vE e)(h0:e≠0)(ka:Hq 2400 a)(kb:Hq 2400 b)(kc:Hq 2400 c)(kd:Hq 2400 d)(ke:Hq 800000 e):
  ∃s t u x1 x2 x3 x4,af P L 74 [vA,vB] s/\af P L 50 [s,vC] t/\af P L 50 [t,vD] u/\af P L 70 [u,vE] (.agg [x1,x2,x3,x4])/\bE (.agg [x1,x2,x3,x4]) ((a+b-c-d)/e)/\Hq 900000 ((a+b-c-d)/e)/\
   (∀(n:Nat) (hp:Hp),freeze (n+20) hp s=GW (s,hp))/\(∀(n:Nat) (hp:Hp),freeze (n+20) hp t=GW (t,hp))/\(∀(n:Nat) (hp:Hp),freeze (n+20) hp u=GW (u,hp))/\VE.shut s=s/\VE.shut t=t/\VE.shut u=u:=by
 obtain⟨s,e1,hs⟩:=GD h hA hB ka kb (by decide);have ks:=ka.add kb;obtain⟨t,e2,ht⟩:=m50 h hs hC (K:=5000) (ks.mono (by decide)) (kc.mono (by decide)) (by decide);have kt:=ks.sub kc;obtain⟨u,e3,hu⟩:=m50 h ht hD (K:=8000) (kt.mono (by decide)) (kd.mono (by decide)) (by decide);have ku:=kt.sub kd;obtain⟨x,e4,hx⟩:=Zz h hu hE h0 (K:=800000) (ku.mono (by decide)) ke (by decide);obtain⟨s1,s2,s3,s4,rfl,gs⟩:=hs.gen;obtain⟨t1,t2,t3,t4,rfl,gt⟩:=ht.gen;obtain⟨u1,u2,u3,u4,rfl,gu⟩:=hu.gen;have zU:=hx;obtain⟨x1,x2,x3,x4,rfl,gx⟩:=hx.gen;exact⟨_,_,_,x1,x2,x3,x4,e1,e2,e3,e4,zU,(ku.div ke).mono (by decide),gs.ak,gt.ak,gu.ak,a8 _,a8 _,a8 _⟩
structure Sgn(P:aG)(L:Lib):Prop extends Sgs P L where
 Sr:Has P L 122 MO
 Ss:Has P L 123 MP
 IT:Has P L 160 Iu
 ND:Has P L 686 Na
def Aq(n r c:Nat)(R W:AV):Env:=[(1,.ptr 0 0),(4,aa n),(14,.ptr 1 0),(15,R),(16,aa r),(17,W),(70,aa n),(71,aa r),(74,aa n),(75,aa c)]
def hF(vs mc:List AV):Hp:=[(1,.cells ycN ycN ycN 4 mc),(0,.cells ycN ycN ycN 4 vs)]
def Fc(n r c i:Nat)(vs mc o cs En:List AV)(eI:cs.length=2*c):dw [1,4,14,15,16,17,18,19,70,71,74,75,78] (Fb n r c i (bW 2 o cs) (cG 2 o) (ew 2 o c)) ((bW 2 o cs,.cells ycN ycN ycN 16 En)::cl 2 2 (hF vs mc) o cs) (bW 2 o cs+1)/\
  dw [1,4,14,15,16,17,19,70,71,74,75] (Hi n r c (bW 2 o cs) (cG 2 o) (ew 2 o c)) ((bW 2 o cs,.cells ycN ycN ycN 16 En)::cl 2 2 (hF vs mc) o cs) (bW 2 o cs+1)/\
  dw [1,4,14,15,16,17,70,71,74,75] (Aq n r c (cG 2 o) (ew 2 o c)) (cl 2 2 (hF vs mc) o cs) (bW 2 o cs):=by
 cases c with
 | zero=>
  have:cs=[]:=yt eI
  subst this;cases o<;>refine⟨⟨rfl,fun c=>?_⟩,⟨rfl,fun c=>?_⟩,⟨rfl,fun c=>?_⟩⟩<;>simp only[go_sem,ya,yb,ae,Fb,Hi,Aq,hF,eM,dc,mR,kv,fI,jg,gk]<;>rfl
 | succ c=>
  cases cs with
  | nil=>simp at eI
  | cons b cs=>
   cases o<;>refine⟨⟨rfl,fun c=>?_⟩,⟨rfl,fun c=>?_⟩,⟨rfl,fun c=>?_⟩⟩<;>simp only[go_sem,ya,yb,ae,Fb,Hi,Aq,hF,eM,dc,iX,iY,iU,iV,jB,jC]<;>rfl
def awj(h:Sgn P L){v0 v1 v2 v3 m1 m2 m3 m4:AV}{M:List (List (List (List Nat)))}{n r c:Nat}{μ:Rat}(hv:bi (br bG) [v0,v1,v2,v3] M)(hM:zW M n)(hn:n<=8)(hr:r<n)(hc:c<n)(hμ:bE (.agg [m1,m2,m3,m4]) μ)(h0:μ≠0)(kμ:Hq 800000 μ){o cs:List AV}(eI:cs.length=2*c)(hB:mE M μ r c=ycN):∃tm hp ct,D P L C6 ⟨Aq n r c (cG 2 o) (ew 2 o c),cl 2 2 (hF [v0,v1,v2,v3] [m1,m2,m3,m4]) o cs,bW 2 o cs,0⟩=GW (.ret,⟨tm,hp,ct,0⟩)/\ai tm 2=.ab/\ai tm 3=aa 4:=by
 have hg:ax (cl 2 2 (hF [v0,v1,v2,v3] [m1,m2,m3,m4]) o cs) 0=GW (.cells ycN ycN ycN 4 [v0,v1,v2,v3]):=by
  cases o<;>cases cs<;>rfl
 have gM:∀X,ax ((bW 2 o cs,X)::cl 2 2 (hF [v0,v1,v2,v3] [m1,m2,m3,m4]) o cs) 1=GW (.cells ycN ycN ycN 4 [m1,m2,m3,m4]):=by
  cases o<;>cases cs<;>exact fun _=>rfl
 have hz:bW 2 o cs≠0:=by cases o<;>cases cs<;>simp only[jg,gk,jB,jC]<;>decide
 have key:=aeU h.toTx hv hM hr hc (R:=cG 2 o) (W:=ew 2 o c) (ct:=bW 2 o cs+1) hg hz (fun i En=>(Fc n r c i _ [m1,m2,m3,m4] o cs En eI).1);have pk:∀i,i<4->Hq 2400 (qj M r c i):=fun i hi=>by
  obtain⟨_,_,_,_,_,_,_,hk⟩:=DE hv hM hi hr hc;exact pN hk (yz 2400)
 have Yh:∀ct,gW ct 16 [.int .i64 0,.ab,.int .i64 0,.ab,.int .i64 0,.ab,.int .i64 0,.ab,.int .i64 0,.ab,.int .i64 0,.ab,.int .i64 0,.ab,.int .i64 0,.ab]=GW (.ptr ct 0,.cells ycN ycN ycN 16 (nC++nC++nC++nC)):=fun _=>rfl
 simp only[go_sem,ya,C6,Aq,show (c:Int)<n by omega,Yh];generalize hq:D P L (.loop _ HG) _=q';obtain⟨ex,st,rfl,tm,c',En,rfl,rfl,⟨a0,a1,a2,a3,b0,b1,b2,b3,d0,d1,d2,d3,f0,f1,f2,f3,rfl,q0,q1,q2,q3⟩,cS⟩:=aW hq (key 4) ⟨0,nC++nC++nC++nC,by omega,⟨_,_,_,_,_,_,_,_,_,_,_,_,_,_,_,_,rfl,fun h=>absurd h (by decide),fun h=>absurd h (by decide),fun h=>absurd h (by decide),fun h=>absurd h (by decide)⟩,cO (by simp only[go_sem,ya]<;>rfl) (Fc n r c 0 _ _ o cs _ eI).1⟩
 have q0:=q0 (by decide);have q1:=q1 (by decide);have q2:=q2 (by decide);have q3:=q3 (by decide);obtain⟨s,u,w,x1,x2,x3,x4,e1,e2,e3,e4,hx,kx,fs,fu,fw,ss,su,sw⟩:=Sy h.toFr' q0 q2 q1 q3 hμ h0 (pk 0 (by decide)) (pk 2 (by decide)) (pk 1 (by decide)) (pk 3 (by decide)) kμ;obtain⟨s',u',w',y1,y2,y3,y4,e5,e6,e7,e8,hy,ky,Tl,Z7,Z8,Z9,su',sw'⟩:=Sy h.toFr' q0 q1 q2 q3 hμ h0 (pk 0 (by decide)) (pk 1 (by decide)) (pk 2 (by decide)) (pk 3 (by decide)) kμ;have gx:=hx.f4;have gy:=hy.f4;obtain⟨px1,px2,px3,px4⟩:=gx.qV;obtain⟨py1,py2,py3,py4⟩:=gy.qV;have hL:kX (.ap ycN 2 [x1,x2,x3,x4,y1,y2,y3,y4]) [ol M μ r c,om M μ r c]:=U4 (l:=[ol M μ r c,om M μ r c]) ycN (QL.cons hx (QL.cons hy QL.nil));have e9:=ahL h.ND h.Sr h.Ss h.IT h.toTx hL (show 2<=1000000 by decide) (K:=900000) (fun z hz=>by
  rcases xx.1 hz with rfl | hz
  .exact kx
  .rcases xx.1 hz with rfl | hz
   .exact ky
   .exact absurd hz xB) (by decide)
 have pl:aE [x1,x2,x3,x4,y1,y2,y3,y4]=ycN:=by simp only[aE,px1,px2,px3,px4,py1,py2,py3,py4,wj]
 unfold af at e1 e2 e3 e4 e5 e6 e7 e8;simp only[go_sem,cO cS (Fc n r c 0 _ _ o cs _ eI).2.1];simp only[go_sem,ya,yb,xg,yG,Hi,BN _ 0 (by decide),BN _ 1 (by decide),BN _ 2 (by decide),BN _ 3 (by decide),we,yg,eL,gM,q0.f4.ak,q1.f4.ak,q2.f4.ak,q3.f4.ak,hμ.f4.ak,e1,e2,e3,e4,e5,e6,e7,e8,fs,fu,fw,Tl,Z7,Z8,ss,su,sw,Z9,su',sw',a8,rA gx.o1 gx.o2 gx.o3 gx.o4,rB gy.o1 gy.o2 gy.o3 gy.o4,fM,pl];have e9:=e9.1 hB;unfold af at e9;simp only[go_sem,ya,e9,show ¬(4:Int)=0 by decide,yA];exact⟨_,_,_,rfl,by simp only[go_sem,ya],by simp only[go_sem]⟩
def awk(h:Sgn P L){v0 v1 v2 v3 m1 m2 m3 m4:AV}{M:List (List (List (List Nat)))}{n r c:Nat}{μ:Rat}(hv:bi (br bG) [v0,v1,v2,v3] M)(hM:zW M n)(hn:n<=8)(hr:r<n)(hc:c<n)(hμ:bE (.agg [m1,m2,m3,m4]) μ)(h0:μ≠0)(kμ:Hq 800000 μ){o cs:List AV}(eI:cs.length=2*c)(hB:mE M μ r c=ycO):∃s',D P L C6 ⟨Aq n r c (cG 2 o) (ew 2 o c),cl 2 2 (hF [v0,v1,v2,v3] [m1,m2,m3,m4]) o cs,bW 2 o cs,0⟩=GW (Ex.normal,s')/\
   bq [1,4,14,15,16,17,70,71,74,75] s'=⟨Aq n r (c+1) (cG 2 o) (ew 2 o (c+1)),cl 2 2 (hF [v0,v1,v2,v3] [m1,m2,m3,m4]) o (cs++sT (Bh M μ r c)),bW 2 o (cs++sT (Bh M μ r c)),0⟩:=by
 have hg:ax (cl 2 2 (hF [v0,v1,v2,v3] [m1,m2,m3,m4]) o cs) 0=GW (.cells ycN ycN ycN 4 [v0,v1,v2,v3]):=by
  cases o<;>cases cs<;>rfl
 have gM:∀X,ax ((bW 2 o cs,X)::cl 2 2 (hF [v0,v1,v2,v3] [m1,m2,m3,m4]) o cs) 1=GW (.cells ycN ycN ycN 4 [m1,m2,m3,m4]):=by
  cases o<;>cases cs<;>exact fun _=>rfl
 have hz:bW 2 o cs≠0:=by cases o<;>cases cs<;>simp only[jg,gk,jB,jC]<;>decide
 have key:=aeU h.toTx hv hM hr hc (R:=cG 2 o) (W:=ew 2 o c) (ct:=bW 2 o cs+1) hg hz (fun i En=>(Fc n r c i _ [m1,m2,m3,m4] o cs En eI).1);have pk:∀i,i<4->Hq 2400 (qj M r c i):=fun i hi=>by
  obtain⟨_,_,_,_,_,_,_,hk⟩:=DE hv hM hi hr hc;exact pN hk (yz 2400)
 have Yh:∀ct,gW ct 16 [.int .i64 0,.ab,.int .i64 0,.ab,.int .i64 0,.ab,.int .i64 0,.ab,.int .i64 0,.ab,.int .i64 0,.ab,.int .i64 0,.ab,.int .i64 0,.ab]=GW (.ptr ct 0,.cells ycN ycN ycN 16 (nC++nC++nC++nC)):=fun _=>rfl
 simp only[go_sem,ya,C6,Aq,show (c:Int)<n by omega,Yh];generalize hq:D P L (.loop _ HG) _=q';obtain⟨ex,st,rfl,tm,c',En,rfl,rfl,⟨a0,a1,a2,a3,b0,b1,b2,b3,d0,d1,d2,d3,f0,f1,f2,f3,rfl,q0,q1,q2,q3⟩,cS⟩:=aW hq (key 4) ⟨0,nC++nC++nC++nC,by omega,⟨_,_,_,_,_,_,_,_,_,_,_,_,_,_,_,_,rfl,fun h=>absurd h (by decide),fun h=>absurd h (by decide),fun h=>absurd h (by decide),fun h=>absurd h (by decide)⟩,cO (by simp only[go_sem,ya]<;>rfl) (Fc n r c 0 _ _ o cs _ eI).1⟩
 have q0:=q0 (by decide);have q1:=q1 (by decide);have q2:=q2 (by decide);have q3:=q3 (by decide);obtain⟨s,u,w,x1,x2,x3,x4,e1,e2,e3,e4,hx,kx,fs,fu,fw,ss,su,sw⟩:=Sy h.toFr' q0 q2 q1 q3 hμ h0 (pk 0 (by decide)) (pk 2 (by decide)) (pk 1 (by decide)) (pk 3 (by decide)) kμ;obtain⟨s'',u',w',y1,y2,y3,y4,e5,e6,e7,e8,hy,ky,Tl,Z7,Z8,Z9,su',sw'⟩:=Sy h.toFr' q0 q1 q2 q3 hμ h0 (pk 0 (by decide)) (pk 1 (by decide)) (pk 2 (by decide)) (pk 3 (by decide)) kμ;have gx:=hx.f4;have gy:=hy.f4;obtain⟨px1,px2,px3,px4⟩:=gx.qV;obtain⟨py1,py2,py3,py4⟩:=gy.qV;have hL:kX (.ap ycN 2 [x1,x2,x3,x4,y1,y2,y3,y4]) [ol M μ r c,om M μ r c]:=U4 (l:=[ol M μ r c,om M μ r c]) ycN (QL.cons hx (QL.cons hy QL.nil));have e9:=ahL h.ND h.Sr h.Ss h.IT h.toTx hL (show 2<=1000000 by decide) (K:=900000) (fun z hz=>by
  rcases xx.1 hz with rfl | hz
  .exact kx
  .rcases xx.1 hz with rfl | hz
   .exact ky
   .exact absurd hz xB) (by decide)
 have pl:aE [x1,x2,x3,x4,y1,y2,y3,y4]=ycN:=by simp only[aE,px1,px2,px3,px4,py1,py2,py3,py4,wj]
 unfold af at e1 e2 e3 e4 e5 e6 e7 e8;simp only[go_sem,cO cS (Fc n r c 0 _ _ o cs _ eI).2.1];simp only[go_sem,ya,yb,xg,yG,Hi,BN _ 0 (by decide),BN _ 1 (by decide),BN _ 2 (by decide),BN _ 3 (by decide),we,yg,eL,gM,q0.f4.ak,q1.f4.ak,q2.f4.ak,q3.f4.ak,hμ.f4.ak,e1,e2,e3,e4,e5,e6,e7,e8,fs,fu,fw,Tl,Z7,Z8,ss,su,sw,Z9,su',sw',a8,rA gx.o1 gx.o2 gx.o3 gx.o4,rB gy.o1 gy.o2 gy.o3 gy.o4,fM,pl];obtain⟨rs,Cg,e9⟩:=e9.2 hB;have Cg:bG rs [RT (ol M μ r c),RT (om M μ r c)]:=Cg;have i0:=Cg.a6 (i:=0) (show 0<2 by decide);have i1:=Cg.a6 (i:=1) (show 1<2 by decide);simp only[List.getElem_cons_zero,List.getElem_cons_succ] at i0 i1;unfold af at e9;have Je:∀a b:List Nat,bY [AV.str a,.str b]=ycN:=fun _ _=>rfl
 have bL:∀a b:List Nat,cellsOf (.agg [AV.str a,.str b])=[.str a,.str b]:=fun _ _=>rfl
 have DO:∀(tm:Env) (a b:List Nat),lI tm [AV.str [],.str []] 0 2 [.str a,.str b] []=GW [.str a,.str b]:=fun _ _ _=>rfl
 have Gm:∀(eN pu ex:Bool) (a b:AV),Om 0 1 2 (GW (.cells eN pu ex 2 [a,b]))=GW (1,[a,b]):=fun _ _ _ _ _=>rfl
 unfold Bh sT;generalize RT (ol M μ r c)=tx at*
 generalize RT (om M μ r c)=ty at*
 simp only[go_sem,ya,yb,xg,yk,e9,Cg.bA,i0,i1,bL,DO,fM,Gm]
 cases c with
 | zero=>
  have:cs=[]:=yt eI
  subst this;cases o<;>
  .simp only [eM,dc,mR,iX,iY,kv,fI,iU,iV,jg,gk,jB,jC,hF,yb,xG];rw[eO (by decide) (by decide) (by decide) (by decide)];simp only[go_sem,ya,yb];refine⟨_,rfl,?_⟩;rw[wrap64 (by omega) (by omega)];simp only[go_sem,ya,yb,ae]<;>rfl
 | succ c=>
  cases cs with
  | nil=>simp at eI
  | cons b cs=>
   have bL:(b::cs).length=(c+1)*2:=by rw[eI];omega
   cases o<;>
   .simp only [eM,dc,iX,iY,iU,iV,jB,jC,hF,yb,xh]
    rw[dK (ex:=ycO) (pu:=ycN) (sz:=2) (by simp only[go_sem,ya]<;>rfl) bL (by omega) (by omega) (by decide) rfl]
    simp only[go_sem,ya,yb];refine⟨_,rfl,?_⟩;rw[wrap64 (by omega) (by omega)];simp only[go_sem,ya,yb,ae]<;>rfl
section
variable {m n r:Nat}{μ:Rat}
noncomputable def sj(M:List (List (List (List Nat))))(μ:Rat)(r m:Nat):List sS:=(wi m).map (Bh M μ r)
noncomputable def jO(M:List (List (List (List Nat))))(μ:Rat)(r m:Nat):List AV:=((sj M μ r m).map sT).flatten
noncomputable def ni(M:List (List (List (List Nat))))(μ:Rat)(n m:Nat):List (List sS):=(wi m).map fun r=>sj M μ r n
def Ha{M:List (List (List (List Nat)))}:(sj M μ r m).length=m:=by simp[sj]
def Uy{M:List (List (List (List Nat)))}:jO M μ r (m+1)=jO M μ r m++sT (Bh M μ r m):=by
 simp[jO,sj,wZ,List.flatten_append]
def Hb{M:List (List (List (List Nat)))}{μ:Rat}{r:Nat}:∀m,(jO M μ r m).length=2*m
 | 0=>rfl
 | m+1=>by rw[Uy,yM,Hb m];show 2*m+2=_;omega
def adu{M:List (List (List (List Nat)))}(e:Bool):fX (.ap e m (jO M μ r m)) (sj M μ r m):=by
 have:=asb (k:=2) (ps:=(sj M μ r m).map sT) e (fun p hp=>by obtain⟨a,_,rfl⟩:=vI.1 hp;rfl)
 rw[yv,Ha] at this;exact this
def Ag{M:List (List (List (List Nat)))}:(ni M μ n m).length=m:=by simp[ni]
def acr{M:List (List (List (List Nat)))}:ni M μ n (m+1)=ni M μ n m++[sj M μ m n]:=by simp[ni,wZ]
def K7(n r:Nat)(R W:AV):Env:=[(1,.ptr 0 0),(4,aa n),(14,.ptr 1 0),(15,R),(17,W),(70,aa n),(71,aa r)]
def Fe(n r:Nat)(R:AV):Env:=[(1,.ptr 0 0),(4,aa n),(14,.ptr 1 0),(15,R),(70,aa n),(71,aa r)]
def awl(h:Sgn P L){v0 v1 v2 v3 m1 m2 m3 m4:AV}{M:List (List (List (List Nat)))}(hv:bi (br bG) [v0,v1,v2,v3] M)(hM:zW M n)(hn:n<=8)(hr:r<n)(hμ:bE (.agg [m1,m2,m3,m4]) μ)(h0:μ≠0)(kμ:Hq 800000 μ){o:List AV}:
  bP P L [1,4,14,15,16,17,70,71,74,75] C6 (fun d st=>∃c,c+d=n/\(∀k,k<c->mE M μ r k=ycO)/\st=⟨Aq n r c (cG 2 o) (ew 2 o c),cl 2 2 (hF [v0,v1,v2,v3] [m1,m2,m3,m4]) o (jO M μ r c),bW 2 o (jO M μ r c),0⟩) (fun ex s'=>∃tm hp ct,s'=⟨tm,hp,ct,0⟩/\((ex=.ret/\(∃k,k<n/\mE M μ r k=ycN)/\ai tm 2=.ab/\ai tm 3=aa 4)\/
    (ex=.exit 8/\(∀k,k<n->mE M μ r k=ycO)/\hp=cl 2 2 (hF [v0,v1,v2,v3] [m1,m2,m3,m4]) o (jO M μ r n)/\cu tm [1,4,14,15,17,70,71]=K7 n r (cG 2 o) (ew 2 o n)))):=by
 apply bQ;rintro d st ⟨c,hcd,hg,rfl⟩;by_cases hc:c<n
 .cases hB:mE M μ r c with
  | true=>
   right
   obtain⟨tm,hp,ct,q1,q2,q3⟩:=awj h hv hM hn hr hc hμ h0 kμ (o:=o) (Hb c) hB;exact⟨_,_,q1,by simp,tm,hp,ct,rfl,.inl ⟨rfl,⟨c,hc,hB⟩,q2,q3⟩⟩
  | false=>
   left
   obtain⟨s',q1,q2⟩:=awk h hv hM hn hr hc hμ h0 kμ (o:=o) (Hb c) hB;refine⟨s',d-1,q1,by omega,c+1,by omega,fun k hk=>?_,?_⟩
   .by_cases e:k=c
    .rw [e];exact hB
    .exact hg k (by omega)
   .rw [Uy];exact q2
 .right
  have OP:c=n:=by omega
  subst OP;simp only[go_sem,ya,C6,Aq,show ¬(c:Int)<c by omega];exact⟨_,_,rfl,by simp,_,_,_,rfl,.inr ⟨rfl,hg,rfl,by simp only[go_sem,ya]<;>rfl⟩⟩
def awm(h:Sgn P L){v0 v1 v2 v3 m1 m2 m3 m4:AV}{M:List (List (List (List Nat)))}(hv:bi (br bG) [v0,v1,v2,v3] M)(hM:zW M n)(hn:n<=8)(hμ:bE (.agg [m1,m2,m3,m4]) μ)(h0:μ≠0)(kμ:Hq 800000 μ):
  bP P L [1,4,14,15,70,71] LL (fun d st=>∃r o,r+d=n/\(∀a b,a<r->b<n->mE M μ a b=ycO)/\bi fX o (ni M μ n r)/\st=⟨Fe n r (cG 2 o),cl 2 2 (hF [v0,v1,v2,v3] [m1,m2,m3,m4]) o [],bW 2 o [],0⟩) (fun ex s'=>∃tm hp ct,s'=⟨tm,hp,ct,0⟩/\((ex=.ret/\(∃a b,a<n/\b<n/\mE M μ a b=ycN)/\ai tm 2=.ab/\ai tm 3=aa 4)\/
    (ex=.exit 6/\(∀a b,a<n->b<n->mE M μ a b=ycO)/\∃o,hp=cl 2 2 (hF [v0,v1,v2,v3] [m1,m2,m3,m4]) o []/\bi fX o (ni M μ n n)/\ai tm 15=cG 2 o))):=by
 apply bQ;rintro d st ⟨r,o,eT,hg,ho,rfl⟩;by_cases hr:r<n
 .have dH:=ho.len;rw[Ag] at dH;have key:=awl h hv hM hn hr hμ h0 kμ (o:=o);have Eo:=(Fc n r 0 0 [v0,v1,v2,v3] [m1,m2,m3,m4] o [] [] rfl).2.2;rw[mR] at Eo;simp only[go_sem,ya,LL,Fe,show (r:Int)<n by omega];generalize hq:D P L (.loop _ C6) _=q;obtain⟨ex,st,rfl,tm,hp,ct,rfl,hh⟩:=aW hq (key n) ⟨0,by omega,fun k hk=>absurd hk (uj k),by
   rw[mR]
   exact cO (by simp only[go_sem,ya]<;>rfl) Eo⟩
  rcases hh with ⟨rfl,⟨k,hk,hB⟩,t2,t3⟩ | ⟨rfl,hB,rfl,cS⟩
  .right
   simp only[go_sem];exact⟨_,_,rfl,by simp,_,_,_,rfl,.inl ⟨rfl,⟨r,k,hr,hk,hB⟩,t2,t3⟩⟩
  .left
   have dd:bi fX (o++[.ap ycO n (jO M μ r n)]) (ni M μ n (r+1)):=by
    rw[acr];exact ho.snoc (adu ycO)
   have hgn:∀a b,a<r+1->b<n->mE M μ a b=ycO:=fun a b ha hb=>by
    by_cases e:a=r
    .rw [e];exact hB b hb
    .exact hg a b (by omega) hb
   suffices hh:∃s',_=GW (Ex.normal,s')/\bq [1,4,14,15,70,71] s'=⟨Fe n (r+1) (cG 2 (o++[.ap ycO n (jO M μ r n)])),cl 2 2 (hF [v0,v1,v2,v3] [m1,m2,m3,m4]) (o++[.ap ycO n (jO M μ r n)]) [],bW 2 (o++[.ap ycO n (jO M μ r n)]) [],0⟩ by
    obtain⟨s',q1,q2⟩:=hh;exact⟨s',d-1,q1,by omega,r+1,_,by omega,hgn,dd,q2⟩
   clear dd;have bL:=Hb (M:=M) (μ:=μ) (r:=r) n;generalize jO M μ r n=cs at*
   obtain⟨n',rfl⟩:∃n',n=n'+1:=⟨n-1,by omega⟩
   cases cs with
   | nil=>simp at bL
   | cons c cs=>
    have BS:(c::cs).length=(n'+1)*2:=by rw[bL];omega
    have qu:dw [1,4,14,15,17,70,71] (K7 (n'+1) r (cG 2 o) (ew 2 o (n'+1))) (cl 2 2 (hF [v0,v1,v2,v3] [m1,m2,m3,m4]) o (c::cs)) (bW 2 o (c::cs)):=by
     cases o<;>refine⟨rfl,fun ct=>?_⟩<;>simp only[go_sem,ya,yb,ae,K7,hF,eM,dc,iX,iY,iU,iV,jB,jC]<;>rfl
    simp only[go_sem,cO cS qu]
    cases o with
    | nil=>
     simp only[go_sem,ya,yb,xg,yG,yk,yi,K7,eM,iX,iU,jB,hF,fL ycO BS (show 0<2 by decide),fM,eO];refine⟨_,rfl,?_⟩;rw[wrap64 (by omega) (by omega)];simp only[go_sem,ya,yb,ae,Fe,xG,dc,fI,gk]<;>rfl
    | cons a o=>
     simp only[yx] at dH;simp only[go_sem,ya,yb,yk,yi,K7,dc,iY,iV,jC,hF,fL ycO BS (show 0<2 by decide),fM]
     rw[dK (ex:=ycO) (pu:=ycN) (sz:=1) (by simp only[go_sem,ya]<;>rfl) (by simp) (by omega) (by omega) (by decide) rfl]
     simp only[go_sem,ya,yb];refine⟨_,rfl,?_⟩;rw[wrap64 (by omega) (by omega)];simp only[go_sem,ya,yb,ae,Fe,xh,fI,gk,yM]<;>rfl
 .right
  have GL:r=n:=by omega
  subst GL;simp only[go_sem,ya,LL,Fe,show ¬(r:Int)<r by omega];exact⟨_,_,rfl,by simp,_,_,_,rfl,.inr ⟨rfl,hg,o,rfl,ho,by simp only[go_sem,ya]⟩⟩
end
noncomputable def ig(M:List (List (List (List Nat))))(n:Nat):Rat:=oQ M/((n*n:Nat):Int)
noncomputable def sZ(M:List (List (List (List Nat))))(n:Nat):Bool:=(wi n).any fun r=>(wi n).any fun c=>mE M (ig M n) r c
noncomputable def zC(M:List (List (List (List Nat))))(n:Nat):Int:=if (n:Int)∈([2,4,8]:List Int) then (if nh n M=0 then (if ig M n=0 then 6 else if sZ M n=ycN then 4 else 0) else nh n M) else 3
def ayu{M:List (List (List (List Nat)))}{n:Nat}(h:∀a b,a<n->b<n->mE M (ig M n) a b=ycO):sZ M n=ycO:=by
 unfold sZ;rw[ybn];intro a ha;rw[tc] at ha;rw[Bool.not_eq_true,ybn];intro b hb;rw[tc] at hb;rw[h a b ha hb];decide
def ayv{M:List (List (List (List Nat)))}{n:Nat}(h:∃a b,a<n/\b<n/\mE M (ig M n) a b=ycN):sZ M n=ycN:=by
 obtain⟨a,b,ha,hb,h⟩:=h;exact ybz.2 ⟨a,tc.2 ha,ybz.2 ⟨b,tc.2 hb,h⟩⟩
def V2{n:Nat}{M:List (List (List (List Nat)))}(h:nh n M=0):zW M n:=fun m hm=>by
 have h1:=KA h _ hm;unfold Em at h1
 split at h1
 .refine ⟨by assumption,fun r hr=>?_⟩;have h2:=KA h1 _ hr;unfold sY at h2
  split at h2
  .exact ⟨by assumption,fun s hs=>KA h2 _ hs⟩
  .exact absurd h2 (by decide)
 .exact absurd h1 (by decide)
structure Sig(P:aG)(L:Lib):Prop extends Sgn P L where
 aBd:Has P L 664 RW
def aBe(h:Sig P L){v0 v1 v2 v3:AV}{M:List (List (List (List Nat)))}{n:Nat}(hv:bi (br bG) [v0,v1,v2,v3] M)(hn:(M.getD 0 []).length=n)(hs:∀m,m∈M->m.length<=1000000/\∀r,r∈m->r.length<=1000000/\∀s,s∈r->s.length<=1000000000):
  ∃r,af P L 664 [.agg [v0,v1,v2,v3]] (.av [r,aa (zC M n)])/\br fX (bA r) (if zC M n=0 then ni M (ig M n) n n else []):=by
 have hl:M.length=4:=hv.len.symm;obtain⟨p1,p2,p3⟩:=Bg hv;obtain⟨w,e0,hw⟩:=oh hv (i:=0) (by decide);have Be:M.getD 0 []∈M:=by rw[getD_at (by omega)];exact xq _
 have e1:=ahU h.B8 (n:=n) (lF ycN [2,4,8]) (by decide);simp only[yx,yN,yf,yb,xi,wW] at e1;have hlen:=hw.len (hp:=([(0,.cells ycN ycN ycN 4 [v0,v1,v2,v3])]:Hp));rw[hn] at hlen;unfold af;rw[aF h.aBd];unfold af at e1;have jv:∀ct,gW ct 4 [v0,v1,v2,v3]=GW (.ptr ct 0,.cells ycN ycN ycN 4 [v0,v1,v2,v3]):=fun ct=>by rw[aR (n:=4) rfl p3,p1]
 unfold zC;by_cases h1:(n:Int)∈([2,4,8]:List Int)
 .rw [yK h1] at e1;rw[yK h1];have gh:n<=8/\2<=n:=by
   simp only[xx,xB,vY] at h1;omega
  have Yi:=awg h.toSgc (n:=n) hv hs;obtain⟨z,e2,hz⟩:=Cs h.toFr' (z:=0) (by omega) (by omega);have hz:bE z 0:=hz;have ej:=hz;obtain⟨z1,z2,z3,z4,rfl,gz⟩:=hz.gen;have nt:(n:Int)*(n:Int)=((n*n:Nat):Int):=by rw[xk]
  have od:n*n<=64/\4<=n*n:=⟨xF (xn gh.1 (by decide:8<=8)) gh.1,xF gh.2 gh.2⟩;obtain⟨f,e3,hf⟩:=Cs h.toFr' (z:=((n*n:Nat):Int)) (by omega) (by omega);unfold af at e2 e3;simp only[go_sem,ya,yb,yG,yk,yi,RW,jv,dG 0 0 (by decide),e0,hlen,e1,eL,yg];generalize hq:D P L (.loop _ HF) _=q;obtain⟨ex,st,rfl,tm,ct,rfl,hh⟩:=aW hq (Yi 4) ⟨0,by omega,by rw[yg],by simp only[go_sem,ya,yb,ae,an p2]<;>rfl⟩
  rcases hh with ⟨rfl,k0,t2,t3⟩ | ⟨rfl,k0,t1,t4⟩
  .rw [yI k0,yI k0];refine⟨.ab,?_,j0⟩;simp only[go_sem,t2,t3]
  .rw [yK k0];have hM:=V2 k0;have GR:∀m,m∈M->m.length<=8/\∀r,r∈m->r.length<=8/\∀s,s∈r->cK s=0:=fun m hm=>⟨by rw[(hM m hm).1];exact gh.1,fun r hr=>⟨by rw[((hM m hm).2 r hr).1];exact gh.1,((hM m hm).2 r hr).2⟩⟩
   have Yj:=awi h.toSgs (n:=n) hv GR;simp only[go_sem,ya,yb,ae,t1,t4,e2,a8,aR,gz.st,eL,yg];generalize ma:D P L (.loop _ LK) _=q2;obtain⟨ex,st,rfl,sG,ct2,s1,s2,s3,s4,rfl,rfl,zy,u1,u4,u9⟩:=aW ma (Yj 4) ⟨0,z1,z2,z3,z4,by omega,ej,by simp only[go_sem,ya,yb,ae,an p2]<;>rfl⟩
   have GP:(((n*n:Nat):Int):Rat)≠0:=by
    rw[show (((n*n:Nat):Int):Rat)=((n*n:Nat):Rat) from yap _]
    exact_mod_cast (show n*n≠0 by omega)
   have kS:Hq 700000 (oQ M):=by
    have:=MH GR 4 (by omega)
    rw[yq (by omega)] at this;exact this.mono (by decide)
   have kF:=iw (z:=((n*n:Nat):Int)) (by omega);obtain⟨μ,e4,hμ⟩:=Zz h.toFr' zy hf GP (K:=700000) kS (kF.mono (by decide)) (by decide);have kμ:Hq 800000 (ig M n):=(kS.div kF).mono (by decide);have hμ:bE μ (ig M n):=hμ;have e5:=azO h.toFr' hμ;obtain⟨f1,f2,f3,f4,rfl,gf⟩:=hf.gen;have hμ':=hμ;obtain⟨m1,m2,m3,m4,rfl,gm⟩:=hμ.gen;have gs:=zy.f4;unfold af at e4 e5;by_cases h0:ig M n=0
   .rw [yK h0];refine⟨.ab,?_,j0⟩;rw[h0] at e5
    simp only[go_sem,ya,yb,ae,u1,u4,u9,eL,yg,nt,wrap64 (n:=((n*n:Nat):Int)) (by omega) (by omega),e3,a8,gs.ak,gf.ak,e4,aR,gm.st,gm.ak,e5,show cW (Rat.num 0)=0 from rfl,yy]
   .rw [yI h0];have n5:¬cW (ig M n).num=0:=by
     have:(ig M n).num≠0:=fun e=>h0 (Rat.num_eq_zero.1 e)
     unfold cW
     split<;>omega
    have aBf:=awm h.toSgn hv hM gh.1 hμ' h0 kμ
    simp only[go_sem,ya,yb,ae,u1,u4,u9,eL,yg,nt,wrap64 (n:=((n*n:Nat):Int)) (by omega) (by omega),e3,a8,gs.ak,gf.ak,e4,aR,gm.st,gm.ak,e5,n5,yA];generalize hq5:D P L (.loop _ LL) _=q5;obtain⟨ex,st,rfl,tm5,hp5,ct5,rfl,hh5⟩:=aW hq5 (aBf n) ⟨0,[],by omega,fun a b ha=>absurd ha (uj a),trivial,by simp only[go_sem,ya,yb,ae,Fe,eM,kv,jg,hF]<;>rfl⟩
    rcases hh5 with ⟨rfl,hB,t2,t3⟩ | ⟨rfl,hB,o,rfl,ho,t15⟩
    .rw [ayv hB];refine⟨.ab,?_,j0⟩;simp only[go_sem,t2,t3];rfl
    .rw [ayu hB];have dH:=ho.len;rw[Ag] at dH
     cases o with
     | nil=>simp only[yN] at dH;omega
     | cons a o=>
      rw[dc] at t15;simp only[go_sem,ya,yb,ae,t15,fI,hF]
      rw[TH (ex:=ycO) (sz:=1) (cs:=a::o) (by simp only[go_sem]<;>rfl) (by simp) (by omega)]
      refine⟨_,rfl,?_⟩
      have:=pG ycO ho
      rw[<-ho.len] at this;exact this
 .rw [yI h1] at e1;rw[yI h1];refine⟨.ab,?_,j0⟩;simp only[go_sem,ya,yb,yG,yk,yi,RW,jv,dG 0 0 (by decide),e0,hlen,e1,show ¬(3:Int)=0 by decide,yA]
def awn(hp:Hp)(ct id:Nat)(a b c d:List Nat):dS hp ct id 0 2 [.str a,.str b] (GW (.cells ycN ycN ycN 2 [.str c,.str d]))=GW (.av [],aY hp id (.cells ycN ycN ycN 2 [.str a,.str b]),ct):=gl rfl rfl rfl rfl
def a29(h:Has P L 29 Jh){v w:AV}{l:List (List Nat)}(hv:bG v l)(hw:bG w l)(hl:l.length<=1000000):af P L 29 [v,w] (.bool ycN):=by
 have key:=fk P L [0,1,5] Mv
  (fun k st=>∃i:Nat,st=⟨[(0,v),(1,w),(5,aa i)],[],0,0⟩/\i+k=l.length)
  (fun ex st=>∃tm hp ct,st=⟨tm,hp,ct,0⟩/\ex=.exit 0) ?_
 .unfold af;rw[aF h];simp only[go_sem,ya,Jh,hv.len,hw.len,yy,y9];generalize hq:D P L (.loop _ Mv) _=q;obtain⟨ex,st,rfl,tm,hp,ct,rfl,rfl⟩:=aW hq (key l.length) ⟨0,by simp only[go_sem,ya,ae,an hv.pu,an hw.pu]<;>rfl,by lia⟩
  simp only[go_sem,ae]
 .rintro k st ⟨i,rfl,hk⟩;by_cases hi:i<l.length
  .left
   simp only[go_sem,ya,Mv,hv.len,show (i:Int)<l.length by lia,hv.a6 hi,hw.a6 hi,CX,anJ,y9];refine⟨_,k-1,rfl,by lia,i+1,?_,by lia⟩;rw[wrap64 (by lia) (by lia)];simp only[go_sem,ya,ae,an hv.pu,an hw.pu]<;>rfl
  .right
   simp only[go_sem,ya,Mv,hv.len,show ¬(i:Int)<l.length by lia];exact⟨_,_,rfl,by simp,_,_,_,rfl,rfl⟩
def aBg(h:Rl P L)(DF:Has P L 768 ID){b:Int}{w:AV}{l:List Rat}{K:Nat}(hw:bG w (l.map RT))(hl:l.length<=1000000)(hk:∀x,x∈l->Hq K x)(hK:K<=4000000000):af P L 768 [aa b,w] (aa (if b=0 then (if l.any LG=ycN then 4 else 0) else b)):=by
 have hlm:(l.map RT).length=l.length:=by simp
 have key:=fk P L [0,7,8,9] E2
  (fun k st=>∃i:Nat,i+k=l.length/\st=⟨[(0,aa (if b=0 then (if (l.take i).any LG=ycN then 4 else 0) else b)),(7,w),(8,aa l.length),(9,aa i)],[],0,0⟩)
  (fun ex st=>∃tm hp ct,st=⟨tm,hp,ct,0⟩/\ex=.exit 0/\ai tm 0=aa (if b=0 then (if l.any LG=ycN then 4 else 0) else b)) ?_
 .unfold af;rw[aF DF];simp only[go_sem,ya,ID,hw.len,hlm];generalize hq:D P L (.loop _ E2) _=q;obtain⟨ex,st,rfl,tm,hp,ct,rfl,rfl,h2⟩:=aW hq (key l.length) ⟨0,by omega,by
   have:(if b=0 then (if (l.take 0).any LG=ycN then (4:Int) else 0) else b)=b:=by
    by_cases h0:b=0<;>simp[h0]
   rw[this]
   simp only[go_sem,ya,ae,an hw.pu]<;>rfl⟩
  simp only[go_sem,ae,h2]
 .rintro k st ⟨i,zE,rfl⟩;by_cases hi:i<l.length
  .left
   have e1:=hw.a6 (i:=i) (by omega);rw[wQ] at e1;have e2:=ayg h (hk _ (xq hi)) hK;have ht:(l.take (i+1)).any LG=((l.take i).any LG||LG l[i]):=by rw[yS hi,List.any_append];simp
   unfold af at e2;by_cases h0:b=0
   .rw [yK h0]
    cases h1:(l.take i).any LG with
    | true=>
     simp only[go_sem,ya,E2,show (i:Int)<l.length by omega,e1,xS,show ¬(4:Int)=0 by decide,yA];refine⟨_,k-1,rfl,by omega,i+1,by omega,?_⟩;rw[ht,h1,wrap64 (by omega) (by omega),yK h0];simp only[go_sem,ya,ae,an hw.pu,Bool.true_or,xS]<;>rfl
    | false=>
     simp only[go_sem,ya,E2,show (i:Int)<l.length by omega,e1,e2,xE,yL];refine⟨_,k-1,rfl,by omega,i+1,by omega,?_⟩;rw[ht,h1,wrap64 (by omega) (by omega),yK h0,Bool.false_or];simp only[go_sem,ya,ae,an hw.pu]<;>rfl
   .rw [yI h0];simp only[go_sem,ya,E2,show (i:Int)<l.length by omega,e1,h0,yA];refine⟨_,k-1,rfl,by omega,i+1,by omega,?_⟩;rw[wrap64 (by omega) (by omega)];simp only[go_sem,ya,ae,an hw.pu,xE]<;>rfl
  .right
   simp only[go_sem,ya,E2,show ¬(i:Int)<l.length by omega];refine⟨_,_,rfl,by simp,_,_,_,rfl,rfl,?_⟩;rw[yq (by omega)];simp only[go_sem,ya]
section
variable {v0 v1 v2 v3:AV}{s:List (List Int)}{i:Nat}
def Kp(s:List (List Int)):Bool:=s.all fun r=>decide (r.length<=9)
def Tu(s:List (List Int)):Bool:=decide (s.length<=9)&&Kp s
def Gf(r:List (List Nat)):Bool:=r.all fun t=>decide (t.length<=20)
def GS(m:List (List (List Nat))):Bool:=m.all fun r=>decide (r.length<=5)&&Gf r
def Bi(M:List (List (List (List Nat)))):Bool:=M.all fun m=>decide (m.length<=5)&&GS m
def Yk(h:Has P L 798 IF){n:Int}:af P L 798 [aa n] (.av [aa (jX n),aa (jY n)]):=by
 unfold af;rw[aF h];have h2:n.tmod 4<4:=Int.tmod_lt_of_pos n (by decide);have h3: -4<n.tmod 4:=by
  have h:=Int.lt_tmod_of_pos n (show (0:Int)<4 by decide);omega
 have x0:∀id,fc 1 0 (.aq id 0 4)=GW (.ptr id 0):=fun _=>rfl
 have x1:∀id,fc 1 1 (.aq id 0 4)=GW (.ptr id 1):=fun _=>rfl
 have x2:∀id,fc 1 2 (.aq id 0 4)=GW (.ptr id 2):=fun _=>rfl
 have x3:∀id,fc 1 3 (.aq id 0 4)=GW (.ptr id 3):=fun _=>rfl
 rcases ED n with ⟨e,h4,h5⟩ | ⟨e,h4,h5⟩ | ⟨e,h4,h5⟩ | ⟨e,h4,h5⟩<;>rw[h4,h5]<;>
 .simp only [go_sem,ya,yb,yk,yi,x0,x1,x2,x3,we,yg,IF,fF _ _ _ (show (4:Int)≠0 by decide),wrap64 (n:=n.tmod 4+4) (by omega) (by omega),adZ (show (0:Int)<4 by decide),e];rfl
def ahY(h:Has P L 794 IE)(n:Nat)(b:Bool):af P L 794 [aa n,.bool b] (.bool (decide (n=2)||decide (n=4)||(decide (n=8)&&b))):=by
 unfold af;rw[aF h];have d2:decide ((n:Int)=2)=decide (n=2):=vL.2 (by omega);have d4:decide ((n:Int)=4)=decide (n=4):=vL.2 (by omega);have d8:decide ((n:Int)=8)=decide (n=8):=vL.2 (by omega);cases e2:decide (n=2)<;>cases e4:decide (n=4)<;>cases e8:decide (n=8)<;>cases b<;>rw[e2] at d2<;>rw[e4] at d4<;>rw[e8] at d8<;>simp only[go_sem,ya,IE,d2,d4,d8]<;>rfl
def aBh(h:Has P L 779 Ng){v:AV}(hv:gI v s):af P L 779 [v] (.bool (Tu s)):=by
 unfold af;rw[aF h];unfold Tu;by_cases h9:s.length<=9
 .have key:=fk P L [0,3] HL
   (fun k st=>∃i:Nat,i+k=s.length/\Kp (s.drop i)=Kp s/\st=⟨[(0,v),(3,aa i)],[],0,0⟩)
   (fun ex st=>∃tm hp ct,st=⟨tm,hp,ct,0⟩/\((ex=.ret/\ai tm 2=.bool ycO/\Kp s=ycO)\/(ex=.exit 0/\Kp s=ycN))) (by
   rintro k st ⟨i,hk,hf,rfl⟩;by_cases hi:i<s.length
   .obtain ⟨w,rest,hw,e1⟩:=hv.a6 hi;unfold Kp at hf;rw[PP hi] at hf;by_cases h1:s[i].length<=9
    .left
     rw[xo h1,wv] at hf;simp only[go_sem,ya,HL,hv.len,show (i:Int)<s.length by omega,e1,hw.len,show ¬(9:Int)<s[i].length by omega,yA];refine⟨_,k-1,rfl,by omega,i+1,by omega,hf,?_⟩;rw[wrap64 (by omega) (by omega)];simp only[go_sem,ya,ae,an hv.pu]<;>rfl
    .right
     rw[yW h1,xY] at hf;simp only[go_sem,ya,HL,hv.len,show (i:Int)<s.length by omega,e1,hw.len,show (9:Int)<s[i].length by omega];exact⟨_,_,rfl,by simp,_,_,_,rfl,.inl ⟨rfl,by simp only[go_sem],hf.symm⟩⟩
   .right
    simp only[go_sem,ya,HL,hv.len,show ¬(i:Int)<s.length by omega];refine⟨_,_,rfl,by simp,_,_,_,rfl,.inr ⟨rfl,?_⟩⟩
    rw[<-hf,yZ (by omega)];rfl)
  rw[xo h9,wv];simp only[go_sem,ya,Ng,hv.len,show ¬(9:Int)<s.length by omega,yA];generalize hq:D P L (.loop _ HL) _=q;obtain⟨ex,st,rfl,tm,hp,ct,rfl,h3⟩:=aW hq (key s.length) ⟨0,by omega,rfl,by simp only[go_sem,ya,ae,an hv.pu]<;>rfl⟩
  rcases h3 with ⟨rfl,h3,h4⟩ | ⟨rfl,h4⟩
  .rw [h4];simp only[go_sem,h3]
  .rw [h4];simp only[go_sem,ae]
 .rw [yW h9,xY];simp only[go_sem,ya,Ng,hv.len,show (9:Int)<s.length by omega]
def aBi(h:Has P L 781 Nh)(IW:Has P L 794 IE){v:AV}(hv:gI v s):af P L 781 [v,.bool ycO] (aa (kY [2,4] s)):=by
 have e1:=ahY (P:=P) (L:=L) IW s.length ycO;rw[Bool.and_false,Bool.or_false] at e1;unfold af at e1;unfold af;rw[aF h];unfold kY;by_cases hm:(s.length:Int)∈([2,4]:List Int)
 .have hJ:s.length=2\/s.length=4:=by
   simp only[xx,xB,vY] at hm;omega
  have hs:(decide (s.length=2)||decide (s.length=4))=ycN:=by rcases hJ with e | e<;>simp[e]
  rw[yK hm];rw[hs] at e1;have key:=fk P L [0,5] HP
   (fun k st=>∃i:Nat,i+k=s.length/\cd ((s.drop i).map (se s.length))=cd (s.map (se s.length))/\st=⟨[(0,v),(5,aa i)],[],0,0⟩)
   (fun ex st=>∃tm hp ct,st=⟨tm,hp,ct,0⟩/\((ex=.ret/\ai tm 4=aa (cd (s.map (se s.length))))\/(ex=.exit 0/\cd (s.map (se s.length))=0))) (by
   rintro k st ⟨i,hk,hf,rfl⟩;by_cases hi:i<s.length
   .obtain ⟨w,rest,hw,e1⟩:=hv.a6 hi;rw[TL hi] at hf;by_cases h1:s[i].length=s.length
    .left
     rw[yK (show se s.length s[i]=0 from yK h1)] at hf;simp only[go_sem,ya,HP,hv.len,show (i:Int)<s.length by omega,e1,hw.len,h1,yy];refine⟨_,k-1,rfl,by omega,i+1,by omega,hf,?_⟩;rw[wrap64 (by omega) (by omega)];simp only[go_sem,ya,ae,an hv.pu]<;>rfl
    .right
     have r2:se s.length s[i]=2:=yI h1;rw[r2,yI (by decide)] at hf;simp only[go_sem,ya,HP,hv.len,show (i:Int)<s.length by omega,e1,hw.len,show ¬(s[i].length:Int)=s.length by omega,yA];exact⟨_,_,rfl,by simp,_,_,_,rfl,.inl ⟨rfl,by rw[<-hf];simp only[go_sem]⟩⟩
   .right
    simp only[go_sem,ya,HP,hv.len,show ¬(i:Int)<s.length by omega];refine⟨_,_,rfl,by simp,_,_,_,rfl,.inr ⟨rfl,?_⟩⟩
    rw[<-hf,yZ (by omega)];rfl)
  simp only[go_sem,ya,Nh,hv.len,e1];generalize hq:D P L (.loop _ HP) _=q;obtain⟨ex,st,rfl,tm,hp,ct,rfl,h3⟩:=aW hq (key s.length) ⟨0,by omega,rfl,by simp only[go_sem,ya,ae,an hv.pu]<;>rfl⟩
  rcases h3 with ⟨rfl,h3⟩ | ⟨rfl,h4⟩
  .simp only [go_sem,h3]
  .rw [h4];simp only[go_sem,ae]
 .have hs:(decide (s.length=2)||decide (s.length=4))=ycO:=by
   simp only[xx,xB,vY] at hm
   simp;omega
  rw[yI hm];rw[hs] at e1;simp only[go_sem,ya,Nh,hv.len,e1]
def awo{M:List (List (List (List Nat)))}{r:Nat}(hv:bi (br bG) [v0,v1,v2,v3] M)(hi:i<4)(hr:r<(M.getD i []).length)(h5:((M.getD i [])[r]).length<=5):
  bP P L [1,3,4,5] HM (fun d st=>∃c,c+d=((M.getD i [])[r]).length/\Gf (((M.getD i [])[r]).drop c)=Gf ((M.getD i [])[r])/\st=⟨[(1,.ptr 0 0),(3,aa i),(4,aa r),(5,aa c)],[(0,.cells ycN ycN ycN 4 [v0,v1,v2,v3])],1,0⟩) (fun ex s'=>∃tm ct,s'=⟨tm,[(0,.cells ycN ycN ycN 4 [v0,v1,v2,v3])],ct,0⟩/\((ex=.ret/\ai tm 2=.bool ycO/\Gf ((M.getD i [])[r])=ycO)\/(ex=.exit 4/\Gf ((M.getD i [])[r])=ycN/\ai tm 1=.ptr 0 0/\ai tm 3=aa i/\ai tm 4=aa r))):=by
 obtain⟨w,e0,hw⟩:=oh hv hi;obtain⟨x,rest,hx,e1⟩:=hw.a6 hr;generalize (M.getD i [])[r]=row at*
 apply bQ;rintro d st ⟨c,hcd,hf,rfl⟩;by_cases hc:c<row.length
 .have e2:=hx.a6 hc;unfold Gf at hf;rw[PP hc] at hf;by_cases h1:row[c].length<=20
  .left
   rw[xo h1,wv] at hf;simp only[go_sem,ya,HM,dG 0 i hi,e0,e1,hx.len,show (c:Int)<row.length by omega,e2,show ¬(20:Int)<row[c].length by omega,yA];refine⟨_,d-1,rfl,by omega,c+1,by omega,hf,?_⟩;rw[wrap64 (by omega) (by omega)];simp only[go_sem,ya,yb,ae]<;>rfl
  .right
   rw[yW h1,xY] at hf;simp only[go_sem,ya,HM,dG 0 i hi,e0,e1,hx.len,show (c:Int)<row.length by omega,e2,show (20:Int)<row[c].length by omega];exact⟨_,_,rfl,by simp,_,_,rfl,.inl ⟨rfl,by simp only[go_sem],hf.symm⟩⟩
 .right
  simp only[go_sem,ya,HM,dG 0 i hi,e0,e1,hx.len,show ¬(c:Int)<row.length by omega];refine⟨_,_,rfl,by simp,_,_,rfl,.inr ⟨rfl,?_,by simp only[go_sem,ya],by simp only[go_sem,ya],by simp only[go_sem,ya]⟩⟩;rw[<-hf,yZ (by omega)];rfl
def awp{M:List (List (List (List Nat)))}(hv:bi (br bG) [v0,v1,v2,v3] M)(hi:i<4)(h5:(M.getD i []).length<=5):
  bP P L [1,3,4] HN (fun d st=>∃r,r+d=(M.getD i []).length/\GS ((M.getD i []).drop r)=GS (M.getD i [])/\st=⟨[(1,.ptr 0 0),(3,aa i),(4,aa r)],[(0,.cells ycN ycN ycN 4 [v0,v1,v2,v3])],1,0⟩) (fun ex s'=>∃tm ct,s'=⟨tm,[(0,.cells ycN ycN ycN 4 [v0,v1,v2,v3])],ct,0⟩/\((ex=.ret/\ai tm 2=.bool ycO/\GS (M.getD i [])=ycO)\/(ex=.exit 2/\GS (M.getD i [])=ycN/\ai tm 1=.ptr 0 0/\ai tm 3=aa i))):=by
 obtain⟨w,e0,hw⟩:=oh hv hi;apply bQ;rintro d st ⟨r,eT,hf,rfl⟩;by_cases hr:r<(M.getD i []).length
 .obtain ⟨x,rest,hx,e1⟩:=hw.a6 hr;unfold GS at hf;rw[PP hr] at hf;by_cases h1:((M.getD i [])[r]).length<=5
  .rw [xo h1,wv] at hf;have key:=awo (P:=P) (L:=L) hv hi hr h1;simp only[go_sem,ya,HN,dG 0 i hi,e0,hw.len,e1,hx.len,show (r:Int)<(M.getD i []).length by omega,show ¬(5:Int)<((M.getD i [])[r]).length by omega,yA];generalize hq:D P L (.loop _ HM) _=q;obtain⟨ex,st,rfl,tm,ct,rfl,hh⟩:=aW hq (key _) ⟨0,yf _,by rw[yg],by simp only[go_sem,ya,yb,ae]<;>rfl⟩
   rcases hh with ⟨rfl,t2,h3⟩ | ⟨rfl,h3,t1,t3,t4⟩
   .right
    rw[h3,xY] at hf;simp only[go_sem];exact⟨_,_,rfl,by simp,_,_,rfl,.inl ⟨rfl,t2,hf.symm⟩⟩
   .left
    rw[h3,wv] at hf;simp only[go_sem,ya,yb,ae,t1,t3,t4];refine⟨_,d-1,rfl,by omega,r+1,by omega,hf,?_⟩;rw[wrap64 (by omega) (by omega)];simp only[go_sem,ya,yb,ae]<;>rfl
  .right
   rw[yW h1,xY,xY] at hf;simp only[go_sem,ya,HN,dG 0 i hi,e0,hw.len,e1,hx.len,show (r:Int)<(M.getD i []).length by omega,show (5:Int)<((M.getD i [])[r]).length by omega];exact⟨_,_,rfl,by simp,_,_,rfl,.inl ⟨rfl,by simp only[go_sem],hf.symm⟩⟩
 .right
  simp only[go_sem,ya,HN,dG 0 i hi,e0,hw.len,show ¬(r:Int)<(M.getD i []).length by omega];refine⟨_,_,rfl,by simp,_,_,rfl,.inr ⟨rfl,?_,by simp only[go_sem,ya],by simp only[go_sem,ya]⟩⟩;rw[<-hf,yZ (by omega)];rfl
def apZ{M:List (List (List (List Nat)))}(h:M.length=4)(hi:i<4):Bi (M.drop i)=(decide ((M.getD i []).length<=5)&&GS (M.getD i [])&&Bi (M.drop (i+1))):=by
 have dP:i<M.length:=by omega
 rw[getD_at dP];unfold Bi;rw[PP dP]
def aBj(h:Has P L 780 R3){M:List (List (List (List Nat)))}(hv:bi (br bG) [v0,v1,v2,v3] M):af P L 780 [.agg [v0,v1,v2,v3]] (.bool (Bi M)):=by
 have hl:M.length=4:=hv.len.symm;obtain⟨p1,p2,p3⟩:=Bg hv;have jv:∀ct,gW ct 4 [v0,v1,v2,v3]=GW (.ptr ct 0,.cells ycN ycN ycN 4 [v0,v1,v2,v3]):=fun ct=>by rw[aR (n:=4) rfl p3,p1]
 have key:=fk P L [1,3] HO
  (fun d st=>∃i:Nat,i+d=4/\Bi (M.drop i)=Bi M/\st=⟨[(1,.ptr 0 0),(3,aa i)],[(0,.cells ycN ycN ycN 4 [v0,v1,v2,v3])],1,0⟩)
  (fun ex s'=>∃tm ct,s'=⟨tm,[(0,.cells ycN ycN ycN 4 [v0,v1,v2,v3])],ct,0⟩/\((ex=.ret/\ai tm 2=.bool ycO/\Bi M=ycO)\/(ex=.exit 0/\Bi M=ycN))) ?_
 .unfold af;rw[aF h];simp only[go_sem,yb,R3,jv];generalize hq:D P L (.loop _ HO) _=q;obtain⟨ex,st,rfl,tm,ct,rfl,hh⟩:=aW hq (key 4) ⟨0,by omega,by rw[yg],by simp only[go_sem,ya,yb,ae]<;>rfl⟩
  rcases hh with ⟨rfl,t2,h3⟩ | ⟨rfl,h3⟩
  .rw [h3];simp only[go_sem,t2]
  .rw [h3];simp only[go_sem,ae]
 .rintro d st ⟨i,hid,hf,rfl⟩;by_cases hi:i<4
  .obtain ⟨w,e0,hw⟩:=oh hv hi;rw[apZ hl hi] at hf;by_cases h1:(M.getD i []).length<=5
   .rw [xo h1,wv] at hf;have key:=awp (P:=P) (L:=L) hv hi h1;simp only[go_sem,ya,HO,show (i:Int)<4 by omega,dG 0 i hi,e0,hw.len,show ¬(5:Int)<(M.getD i []).length by omega,yA];generalize hq:D P L (.loop _ HN) _=q;obtain⟨ex,st,rfl,tm,ct,rfl,hh⟩:=aW hq (key _) ⟨0,yf _,by rw[yg],by simp only[go_sem,ya,yb,ae]<;>rfl⟩
    rcases hh with ⟨rfl,t2,h3⟩ | ⟨rfl,h3,t1,t3⟩
    .right
     rw[h3,xY] at hf;simp only[go_sem];exact⟨_,_,rfl,by simp,_,_,rfl,.inl ⟨rfl,t2,hf.symm⟩⟩
    .left
     rw[h3,wv] at hf;simp only[go_sem,ya,yb,ae,t1,t3];refine⟨_,d-1,rfl,by omega,i+1,by omega,hf,?_⟩;rw[wrap64 (by omega) (by omega)];simp only[go_sem,ya,yb,ae]<;>rfl
   .right
    rw[yW h1,xY,xY] at hf;simp only[go_sem,ya,HO,show (i:Int)<4 by omega,dG 0 i hi,e0,hw.len,show (5:Int)<(M.getD i []).length by omega];exact⟨_,_,rfl,by simp,_,_,rfl,.inl ⟨rfl,by simp only[go_sem],hf.symm⟩⟩
  .right
   have h4:i=4:=by omega
   subst h4;simp only[go_sem,ya,HO,show ¬((4:Nat):Int)<4 by decide];refine⟨_,_,rfl,by simp,_,_,rfl,.inr ⟨rfl,?_⟩⟩;rw[<-hf,yZ (by omega)];rfl
end
noncomputable def nD(M:List (List (List (List Nat))))(n:Nat):Int:=if (n:Int)∈([2,4,8]:List Int) then nh n M else 3
def awq(h:Rm P L)(B5:Has P L 261 FQ){v0 v1 v2 v3:AV}{M:List (List (List (List Nat)))}{i n:Nat}(hv:bi (br bG) [v0,v1,v2,v3] M)(hn:(M.getD 0 []).length=n)(hi:i<4)(hs:(M.getD i []).length<=1000000/\∀r,r∈M.getD i []->r.length<=1000000/\∀s,s∈r->s.length<=1000000000):
  bP P L [1,3,4] E3 (fun d st=>∃r,r+d=(M.getD i []).length/\cd (((M.getD i []).drop r).map (sY n))=cd ((M.getD i []).map (sY n))/\st=⟨[(1,.ptr 0 0),(3,aa i),(4,aa r)],[(0,.cells ycN ycN ycN 4 [v0,v1,v2,v3])],1,0⟩) (fun ex s'=>∃tm ct,s'=⟨tm,[(0,.cells ycN ycN ycN 4 [v0,v1,v2,v3])],ct,0⟩/\((ex=.ret/\ai tm 2=aa (cd ((M.getD i []).map (sY n)))/\cd ((M.getD i []).map (sY n))≠0)\/(ex=.exit 2/\cd ((M.getD i []).map (sY n))=0/\ai tm 1=.ptr 0 0/\ai tm 3=aa i))):=by
 obtain⟨w,e0,hw⟩:=oh hv hi;obtain⟨w0,f0,sK⟩:=oh hv (i:=0) (by decide);have hlen:=fun hp=>sK.len (hp:=hp)
 rw[hn] at hlen;generalize M.getD i []=m at*
 apply bQ;rintro d st ⟨r,eT,hf,rfl⟩;by_cases hr:r<m.length
 .obtain ⟨x,rest,hx,e1⟩:=hw.a6 hr;obtain⟨q1,q2⟩:=hs.2 _ (xq hr);have e2:=ayi h B5 hx q1 q2;unfold af at e2;rw[TL hr] at hf;by_cases h1:m[r].length=n
  .have ir:sY n m[r]=cd (m[r].map cK):=yK h1;rw[ir] at hf;by_cases h0:cd (m[r].map cK)=0
   .left
    rw[yK h0] at hf;rw[h0] at e2;simp only[go_sem,ya,E3,dG 0 i hi,dG 0 0 (by decide),e0,f0,hlen,e1,hw.len,hx.len,hx.ak,show (r:Int)<m.length by omega,h1,yy,e2];refine⟨_,d-1,rfl,by omega,r+1,by omega,hf,?_⟩;rw[wrap64 (by omega) (by omega)];simp only[go_sem,ya,yb,ae]<;>rfl
   .right
    rw[yI h0] at hf;simp only[go_sem,ya,E3,dG 0 i hi,dG 0 0 (by decide),e0,f0,hlen,e1,hw.len,hx.len,hx.ak,show (r:Int)<m.length by omega,h1,yy,e2,h0];exact⟨_,_,rfl,by simp,_,_,rfl,.inl ⟨rfl,by rw[<-hf];simp only[go_sem],by rw[<-hf];exact h0⟩⟩
  .have ir:sY n m[r]=2:=yI h1;rw[ir,yI (by decide)] at hf;right
   simp only[go_sem,ya,E3,dG 0 i hi,dG 0 0 (by decide),e0,f0,hlen,e1,hw.len,hx.len,show (r:Int)<m.length by omega,show ¬(m[r].length:Int)=n by omega,yA];exact⟨_,_,rfl,by simp,_,_,rfl,.inl ⟨rfl,by rw[<-hf];simp only[go_sem],by rw[<-hf];decide⟩⟩
 .right
  simp only[go_sem,ya,E3,dG 0 i hi,e0,hw.len,show ¬(r:Int)<m.length by omega];refine⟨_,_,rfl,by simp,_,_,rfl,.inr ⟨rfl,?_,by simp only[go_sem,ya],by simp only[go_sem,ya]⟩⟩;rw[<-hf,yZ (by omega)];rfl
def aBk(h:Rm P L)(B5:Has P L 261 FQ)(IW:Has P L 794 IE)(Yl:Has P L 782 Ni){v0 v1 v2 v3:AV}{M:List (List (List (List Nat)))}{n:Nat}(hv:bi (br bG) [v0,v1,v2,v3] M)(hn:(M.getD 0 []).length=n)(hs:∀m,m∈M->m.length<=1000000/\∀r,r∈m->r.length<=1000000/\∀s,s∈r->s.length<=1000000000):af P L 782 [.agg [v0,v1,v2,v3]] (aa (nD M n)):=by
 have hl:M.length=4:=hv.len.symm;obtain⟨p1,p2,p3⟩:=Bg hv;have jv:∀ct,gW ct 4 [v0,v1,v2,v3]=GW (.ptr ct 0,.cells ycN ycN ycN 4 [v0,v1,v2,v3]):=fun ct=>by rw[aR (n:=4) rfl p3,p1]
 obtain⟨w0,f0,sK⟩:=oh hv (i:=0) (by decide);have hlen:=fun hp=>sK.len (hp:=hp)
 rw[hn] at hlen;have e1:=ahY (P:=P) (L:=L) IW n ycN;rw[Bool.and_true] at e1;unfold af at e1;unfold af;rw[aF Yl];unfold nD;by_cases hm:(n:Int)∈([2,4,8]:List Int)
 .have hJ:n=2\/n=4\/n=8:=by
   simp only[xx,xB,vY] at hm;omega
  have Cr:(decide (n=2)||decide (n=4)||decide (n=8))=ycN:=by rcases hJ with e | e | e<;>simp[e]
  rw[yK hm];rw[Cr] at e1;have key:=fk P L [1,3] HQ
   (fun d st=>∃i:Nat,i+d=4/\nh n (M.drop i)=nh n M/\st=⟨[(1,.ptr 0 0),(3,aa i)],[(0,.cells ycN ycN ycN 4 [v0,v1,v2,v3])],1,0⟩)
   (fun ex s'=>∃tm ct,s'=⟨tm,[(0,.cells ycN ycN ycN 4 [v0,v1,v2,v3])],ct,0⟩/\((ex=.ret/\ai tm 2=aa (nh n M))\/(ex=.exit 0/\nh n M=0))) (by
   rintro d st ⟨i,hid,he,rfl⟩;by_cases hi:i<4
   .obtain ⟨w,e0,hw⟩:=oh hv hi;have hmm:M.getD i []∈M:=by rw[getD_at (by omega)];exact xq _
    rw[adt hl hi] at he;unfold Em at he;by_cases h1:(M.getD i []).length=n
    .rw [yK h1] at he;have key:=awq (P:=P) (L:=L) h B5 hv hn hi (hs _ hmm);simp only[go_sem,ya,HQ,show (i:Int)<4 by omega,dG 0 i hi,dG 0 0 (by decide),e0,f0,hlen,hw.len,h1,yy];generalize hq:D P L (.loop _ E3) _=q;obtain⟨ex,st,rfl,tm,ct,rfl,hh⟩:=aW hq (key _) ⟨0,yf _,by rw[yg],by simp only[go_sem,ya,yb,ae]<;>rfl⟩
     rcases hh with ⟨rfl,t2,h3⟩ | ⟨rfl,h3,t1,t3⟩
     .right
      rw[yI h3] at he;simp only[go_sem];exact⟨_,_,rfl,by simp,_,_,rfl,.inl ⟨rfl,by rw[<-he];exact t2⟩⟩
     .left
      rw[yK h3] at he;simp only[go_sem,ya,yb,ae,t1,t3];refine⟨_,d-1,rfl,by omega,i+1,by omega,he,?_⟩;rw[wrap64 (by omega) (by omega)];simp only[go_sem,ya,yb,ae]<;>rfl
    .right
     rw[yI h1,yI (by decide)] at he;simp only[go_sem,ya,HQ,show (i:Int)<4 by omega,dG 0 i hi,dG 0 0 (by decide),e0,f0,hlen,hw.len,show ¬((M.getD i []).length:Int)=n by omega,yA];exact⟨_,_,rfl,by simp,_,_,rfl,.inl ⟨rfl,by rw[<-he];simp only[go_sem]⟩⟩
   .right
    have h4:i=4:=by omega
    subst h4;simp only[go_sem,ya,HQ,show ¬((4:Nat):Int)<4 by decide];refine⟨_,_,rfl,by simp,_,_,rfl,.inr ⟨rfl,?_⟩⟩
    rw[<-he,yZ (by omega)];rfl)
  simp only[go_sem,ya,yb,Ni,jv,dG 0 0 (by decide),f0,hlen,e1];generalize hq:D P L (.loop _ HQ) _=q;obtain⟨ex,st,rfl,tm,ct,rfl,hh⟩:=aW hq (key 4) ⟨0,by omega,by rw[yg],by simp only[go_sem,ya,yb,ae]<;>rfl⟩
  rcases hh with ⟨rfl,t2⟩ | ⟨rfl,h3⟩
  .simp only [go_sem,t2]
  .rw [h3];simp only[go_sem,ae]
 .have Cr:(decide (n=2)||decide (n=4)||decide (n=8))=ycO:=by
   simp only[xx,xB,vY] at hm
   simp;omega
  rw[yI hm];rw[Cr] at e1;simp only[go_sem,ya,yb,Ni,jv,dG 0 0 (by decide),f0,hlen,e1]
def aeV{P:aG}{L:Lib}{f:cw}{tm:Env}{hp:Hp}{ct:Nat}(x y:X):aZ P L f tm hp ct (.I2 x y)=rd hp ct (Qz (az tm x) (az tm y)):=rfl
def aeW(a b:Nat):Qz (.ay .f32 a) (.ay .f32 b)=GW (.bT .f32 a b):=rfl
def awr(Gg:Has P L 798 IF){v:AV}{s:List (List Int)}{r:Nat}(hv:gI v s)(hr:r<s.length)(h8:s[r].length<=8){o:List AV}:
  bP P L [0,3,4,5,6] HU (fun d st=>∃k,k+d=s[r].length/\st=⟨[(0,v),(3,cG 0 o),(4,aa r),(5,ew 0 o k),(6,aa k)],cl 0 1 [] o ((s[r].take k).map cp),bW 0 o ((s[r].take k).map cp),0⟩) (fun ex s'=>∃tm ct,s'=⟨tm,cl 0 1 [] o (s[r].map cp),ct,0⟩/\ex=.exit 2/\ai tm 0=v/\ai tm 3=cG 0 o/\ai tm 4=aa r/\ai tm 5=ew 0 o s[r].length):=by
 obtain⟨w,rest,hw,e0⟩:=hv.a6 hr;generalize s[r]=row at*
 apply bQ;rintro d st ⟨k,Cu,rfl⟩;by_cases hk:k<row.length
 .left
  have e1:=hw.a6 hk;have e2:=Yk (P:=P) (L:=L) Gg (n:=row[k]);have bL:((row.take k).map cp).length=k:=by rw[yv,yO];omega
  have dd:(row.take (k+1)).map cp=(row.take k).map cp++[cp row[k]]:=by rw[yS hk,xu];rfl
  unfold af at e2
  suffices hh:∃s',_=GW (Ex.normal,s')/\bq [0,3,4,5,6] s'=⟨[(0,v),(3,cG 0 o),(4,aa r),(5,ew 0 o (k+1)),(6,aa ((k+1:Nat):Int))],cl 0 1 [] o ((row.take (k+1)).map cp),bW 0 o ((row.take (k+1)).map cp),0⟩ by
   obtain⟨s',q1,q2⟩:=hh;exact⟨s',d-1,q1,by omega,k+1,by omega,q2⟩
  rw[dd];generalize (row.take k).map cp=cs at*
  have hcp:(AV.bT .f32 (fb (jX row[k])) (fb (jY row[k])))=cp row[k]:=rfl;have cv1:=agq (jX row[k]);have cv2:=agq (jY row[k]);have Tp:bY [cp row[k]]=ycN:=rfl;have oc:cY (cp row[k])=ycN:=rfl;have pc:aQ (cp row[k])=ycN:=rfl;have cc:cellsOf (cp row[k])=[cp row[k]]:=rfl;have mk:∀{q z},lI q [z] 0 1 [cp row[k]] []=GW [cp row[k]]:=fun {q z}=>by rw[Hf (by simp) oc];rfl
  cases k with
  | zero=>
   have:cs=[]:=yt bL
   subst this;cases o<;>
   .simp only [go_sem,ya,yb,xg,yG,yk,yi,HU,eM,dc,mR,iX,iY,kv,fI,iU,iV,jg,gk,jB,jC,e0,hw.len,show ((0:Nat):Int)<row.length by omega,e1,e2,cv1,cv2,aeV,aeW,hcp,cc,mk,fM,aE,pc,eO];refine⟨_,rfl,?_⟩;rw[wrap64 (by omega) (by omega)];simp only[go_sem,ya,yb,ae,an hv.pu]<;>rfl
  | succ k=>
   cases cs with
   | nil=>simp at bL
   | cons a cs=>
    cases o<;>
    .simp only [go_sem,ya,yb,yi,HU,eM,dc,iX,iY,iU,iV,jB,jC,e0,hw.len,show ((k+1:Nat):Int)<row.length by omega,e1,e2,cv1,cv2,aeV,aeW,hcp,cc,mk,fM,aE,pc]
     rw[dK (ex:=ycO) (pu:=ycN) (sz:=1) (by simp only[go_sem,ya]<;>rfl) (by simpa using bL) (by omega) (by omega) (by decide) Tp]
     simp only[go_sem,ya,yb,aE,pc];refine⟨_,rfl,?_⟩;rw[wrap64 (by omega) (by omega)];simp only[go_sem,ya,yb,ae,an hv.pu]<;>rfl
 .right
  have Km:k=row.length:=by omega
  simp only[go_sem,ya,HU,e0,hw.len,show ¬(k:Int)<row.length by omega];rw[yq (by omega)];exact⟨_,_,rfl,by simp,_,_,rfl,rfl,by simp only[go_sem,ya],by simp only[go_sem,ya],by simp only[go_sem,ya],by simp only[go_sem,ya,Km]⟩
def aBl(Ym:Has P L 795 R5)(Gg:Has P L 798 IF){v:AV}{s:List (List Int)}{n:Nat}(hv:gI v s)(n5:0<s.length)(hs:s.length<=8)(hn:0<n)(gh:n<=8)(fZ:∀i (hi:i<s.length),s[i].length=n):
  ∃r,af P L 795 [v] r/\Ga (shut r) s:=by
 have key:=fk P L [0,3,4] L3
  (fun d st=>∃r o,r+d=s.length/\bi (fun a row=>b6 a (row.map cp)) o (s.take r)/\st=⟨[(0,v),(3,cG 0 o),(4,aa r)],cl 0 1 [] o [],bW 0 o [],0⟩)
  (fun ex s'=>∃tm ct o,s'=⟨tm,cl 0 1 [] o [],ct,0⟩/\ex=.exit 0/\bi (fun a row=>b6 a (row.map cp)) o s/\ai tm 3=cG 0 o) ?_
 .unfold af;rw[aF Ym];simp only[go_sem,R5];generalize hq:D P L (.loop _ L3) _=q;obtain⟨ex,st,rfl,tm,ct,o,rfl,rfl,ho,g3⟩:=aW hq (key s.length) ⟨0,[],by omega,trivial,by simp only[go_sem,ya,ae,eM,kv,jg,an hv.pu]<;>rfl⟩
  have dH:=ho.len
  cases o with
  | nil=>simp only[yN] at dH;omega
  | cons a o=>
   rw[dc] at g3
   refine⟨.cL ycO 1 s.length (a::o),?_,pG (p:=fun (a:AV) (row:List Int)=>b6 a (row.map cp)) ycO ho⟩;simp only[go_sem,yb,ae,g3,fI];rw[show o.length+1=s.length from dH];exact Ez (CO _ _ _) (by simpa using dH) (by decide)
 .rintro d st ⟨r,o,eT,ho,rfl⟩;by_cases hr:r<s.length
  .left
   have hlen:=fZ r hr;have dH:=ho.len;rw[yO,xA (by omega)] at dH;have key:=awr (P:=P) (L:=L) Gg hv hr (by omega) (o:=o);simp only[go_sem,ya,L3,hv.len,show (r:Int)<s.length by omega];generalize hq:D P L (.loop _ HU) _=q;obtain⟨ex,st,rfl,tm,ct,rfl,rfl,g0,g3,g4,g5⟩:=aW hq (key s[r].length) ⟨0,by omega,by
    rw[yaN,wW]
    cases o<;>simp only[go_sem,ya,yb,ae,eM,dc,mR,kv,fI,jg,gk,an hv.pu]<;>rfl⟩
   have bL:(s[r].map cp).length=n:=by rw[yv,hlen]
   rw[hlen] at g5;have hL:b6 (.ap ycO n (s[r].map cp)) (s[r].map cp):=by
    have:=ru ycO (s[r].map cp)
    rwa[bL] at this
   have dd:bi (fun a row=>b6 a (row.map cp)) (o++[.ap ycO n (s[r].map cp)]) (s.take (r+1)):=by
    rw[yS hr];exact ho.snoc hL
   obtain⟨n',rfl⟩:∃n',n=n'+1:=⟨n-1,by omega⟩
   suffices hh:∃s',_=GW (Ex.normal,s')/\bq [0,3,4] s'=⟨[(0,v),(3,cG 0 (o++[.ap ycO (n'+1) (s[r].map cp)])),(4,aa ((r+1:Nat):Int))],cl 0 1 [] (o++[.ap ycO (n'+1) (s[r].map cp)]) [],bW 0 (o++[.ap ycO (n'+1) (s[r].map cp)]) [],0⟩ by
    obtain⟨s',q1,q2⟩:=hh;exact⟨s',d-1,q1,by omega,r+1,_,by omega,dd,q2⟩
   clear dd;generalize s[r].map cp=cs at*
   cases cs with
   | nil=>simp at bL
   | cons c cs=>
    have kG:=fun hp=>fL (hp:=hp) (sz:=1) ycO (show (c::cs).length=(n'+1)*1 by rw[bL,yi]) (by decide)
    cases o with
    | nil=>
     simp only[eM,iX] at g3 g5;simp only[go_sem,ya,yb,xg,yG,yk,yi,ae,g0,g3,g4,g5,iU,an hv.pu,kG,fM,eO];refine⟨_,rfl,?_⟩;rw[wrap64 (by omega) (by omega)];simp only[go_sem,ya,yb,ae,dc,fI,gk,an hv.pu]<;>rfl
    | cons a o=>
     simp only[dc,iY] at g3 g5;simp only[yx] at dH;simp only[go_sem,ya,yb,yk,yi,ae,g0,g3,g4,g5,iV,an hv.pu,kG,fM]
     rw[dK (ex:=ycO) (pu:=ycN) (sz:=1) (by simp only[go_sem,ya]<;>rfl) (by simp) (by omega) (by omega) (by decide) rfl]
     simp only[go_sem,ya,yb];refine⟨_,rfl,?_⟩;rw[wrap64 (by omega) (by omega)];simp only[go_sem,ya,yb,ae,dc,fI,gk,yM,an hv.pu]<;>rfl
  .right
   have Zb:r=s.length:=by omega
   rw[yq (by omega)] at ho;simp only[go_sem,ya,L3,hv.len,show ¬(r:Int)<s.length by omega];exact⟨_,_,rfl,by simp,_,_,o,rfl,rfl,ho,by simp only[go_sem,ya]⟩
def pH(k:Nat)(F:Hp):List AV->List AV->Hp
 | a::r,b::s=>(k+2,.cells ycN ycN ycO 1 (b::s))::(k+1,.cells ycN ycN ycO 1 (a::r))::(k,.cells ycN ycO ycN 2 [.aq (k+1) 0 (r.length+1),.aq (k+2) 0 (s.length+1)])::F
 | _,_=>(k,.cells ycN ycN ycN 2 [.ab,.ab])::F
def pF(k:Nat):List AV->List AV->Nat
 | _::_,_::_=>k+3
 | _,_=>k+1
def yH(f:Nat)(F:Hp):List AV->List AV->Hp
 | a::r,b::s=>(f+1,.cells ycN ycN ycO 1 (b::s))::(f,.cells ycN ycN ycO 1 (a::r))::F
 | _,_=>F
def yF(f:Nat):List AV->List AV->Nat
 | _::_,_::_=>f+2
 | _,_=>f
def anM(tm:Env)(rs:List (Nat×Bool×Nat)):AA tm .ab rs=ycN:=rfl
def NI(id:Nat):AV->Bool
 | .ptr j _=> !Nat.beq j id
 | .bN _=>ycN
 | _=>ycO
def U7(tm:Env)(id o n:Nat)(rs:List (Nat×Bool×Nat)):AA tm (.aq id o n) rs=jA tm id rs:=rfl
def U8(tm:Env)(id:Nat):jA tm id []=ycN:=rfl
def Uz(tm:Env)(id s x:Nat)(g:Bool)(r:List (Nat×Bool×Nat)):jA tm id ((s,g,x)::r)=(NI id (ai tm x)&&jA tm id r):=by
 simp only[jA,NI];cases ai tm x<;>rfl
def aws(id:Nat)(cs:List AV):NI id (.bN cs)=ycN:=rfl
def aeX{id j o:Nat}(h:j≠id):NI id (.ptr j o)=ycN:=by simp only[NI,iG h,xb]
def Yn(n sz:Nat)(q:Option (List AV)):Option AV:=match q with | some cs=>bif Nat.beq cs.length (n*sz)&&(Nat.blt 0 sz&&aE cs) then GW (.ap ycN n cs) else none | none=>none
def Ff(tm:Env)(hp:Hp)(n sz:Nat)(z:List AV)(ps:List (Nat×Nat×X)):bg tm hp (.nl n sz z ps)=Yn n sz (fill tm z ps):=rfl
def Fg{v:AV}(h:aQ v=ycN):Yn 1 1 (GW [v])=GW (.ap ycN 1 [v]):=by
 have e:Nat.blt 0 1=ycN:=rfl;simp[Yn,aE,h,e]
def V3(tm:Env)(hp au:Hp)(rs:List (Nat×Bool×Nat))(v:AV)(c:Nat):Sq tm hp .ab rs (GW (v,au,c))=GW (v,au,c):=PO (anM _ _)
def BO(hp:Hp)(e:Bool)(c:AV):mK hp 1 (.ap e 1 [c])=GW (1,[c]):=rfl
def tR(p:Int):AV:=.str (RT ((jX p:Int):Rat))
def tI(p:Int):AV:=.str (RT ((jY p:Int):Rat))
def agt(h:Fy P L){z:Int}(hz:z.natAbs<=16777216):af P L 429 [.ay .f32 (fb z)] (.str (RT ((z:Int):Rat))):=by
 have:=aAT h (agp hz)
 rwa[aej z] at this
def Da(v:AV)(i f k:Nat)(A B:List AV):Env:=[(0,v),(2,.ptr 0 0),(3,.ptr 1 0),(4,aa i),(5,rr f A),(6,rr (f+1) B),(7,aa k)]
def nZ:Hp:=[(0,.cells ycN ycN ycN 2 [.ab,.ab])]
def awt(h:Fy P L){v:AV}{s:List (List Int)}{i:Nat}(hv:Ga v s)(hi:i<s.length)(h8:s[i].length<=8){X Y:List AV}(hX:X.length=i)(hY:Y.length=i):
  bP P L [0,2,3,4,5,6,7] HV (fun d st=>∃k,k+d=s[i].length/\st=⟨Da v i (pF 1 X Y) k ((s[i].take k).map tR) ((s[i].take k).map tI),yH (pF 1 X Y) (pH 1 nZ X Y) ((s[i].take k).map tR) ((s[i].take k).map tI),yF (pF 1 X Y) ((s[i].take k).map tR) ((s[i].take k).map tI),0⟩) (fun ex s'=>∃tm ct,s'=⟨tm,yH (pF 1 X Y) (pH 1 nZ X Y) (s[i].map tR) (s[i].map tI),ct,0⟩/\ex=.exit 2/\ai tm 0=v/\ai tm 2=.ptr 0 0/\ai tm 3=.ptr 1 0/\ai tm 4=aa i/\ai tm 5=rr (pF 1 X Y) (s[i].map tR)/\ai tm 6=rr (pF 1 X Y+1) (s[i].map tI)):=by
 obtain⟨w,rest,hw,e0⟩:=br.a6 hv hi;generalize s[i]=row at*
 have hw:b6 w (row.map cp):=hw;apply bQ;rintro d st ⟨k,Cu,rfl⟩;have iB:=hw.len (hp:=([]:Hp));by_cases hk:k<row.length
 .left
  have e1:=hw.a6 (i:=k) (by simpa using hk);rw[wQ] at e1;obtain⟨b1,b2⟩:=adp row[k];have e2:=agt h b1;have e3:=agt h b2;have jn:((row.take k).map tR).length=k:=by rw[yv,yO];omega
  have jb:((row.take k).map tI).length=k:=by rw[yv,yO];omega
  have iP:(row.take (k+1)).map tR=(row.take k).map tR++[tR row[k]]:=by rw[yS hk,xu];rfl
  have dh:(row.take (k+1)).map tI=(row.take k).map tI++[tI row[k]]:=by rw[yS hk,xu];rfl
  suffices hh:∃s',_=GW (Ex.normal,s')/\bq [0,2,3,4,5,6,7] s'=⟨Da v i (pF 1 X Y) (k+1) ((row.take (k+1)).map tR) ((row.take (k+1)).map tI),yH (pF 1 X Y) (pH 1 nZ X Y) ((row.take (k+1)).map tR) ((row.take (k+1)).map tI),yF (pF 1 X Y) ((row.take (k+1)).map tR) ((row.take (k+1)).map tI),0⟩ by
   obtain⟨s',q1,q2⟩:=hh;exact⟨s',d-1,q1,by omega,k+1,by omega,q2⟩
  rw[iP,dh];unfold tR tI at*
  generalize RT ((jX row[k]:Int):Rat)=x at*
  generalize RT ((jY row[k]:Int):Rat)=y at*
  generalize (row.take k).map _=A at*
  generalize (row.take k).map _=B at*
  unfold af at e2 e3;have za:(X=[]/\Y=[])\/∃a X' b Y',X=a::X'/\Y=b::Y':=by
   cases X with
   | nil=>exact .inl ⟨rfl,yt (by rw[hY,<-hX];rfl)⟩
   | cons a X'=>
    cases Y with
    | nil=>simp at hX hY;omega
    | cons b Y'=>exact .inr ⟨a,X',b,Y',rfl,rfl⟩
  cases k with
  | zero=>
   have hA:A=[]:=yt jn;have hB:B=[]:=yt jb;subst hA hB;rcases za with ⟨rfl,rfl⟩ | ⟨a,X,b,Y,rfl,rfl⟩<;>
   .simp only [go_sem,ya,yb,xg,yG,yk,HV,Da,pF,pH,yH,yF,rr,nZ,e0,hw.len,yv,show ((0:Nat):Int)<row.length by omega,e1,Bu,QU,QV,e2,e3,Fa,Ff,CI,CP,Fg,BO,H5,V3,eO];refine⟨_,rfl,?_⟩;rw[wrap64 (by omega) (by omega)];simp only[go_sem,ya,yb,ae,an hv.pu]<;>rfl
  | succ k=>
   cases A with
   | nil=>simp at jn
   | cons c A=>
    cases B with
    | nil=>simp at jb
    | cons e B=>
     simp only[yx] at jn jb;rcases za with ⟨rfl,rfl⟩ | ⟨a,X,b,Y,rfl,rfl⟩<;>
     .simp only [go_sem,ya,yb,yk,HV,Da,pF,pH,yH,yF,rr,nZ,e0,hw.len,yv,show ((k+1:Nat):Int)<row.length by omega,e1,Bu,QU,QV,e2,Fa,Ff,CI,CP,Fg,BO,H5]
      rw[dK (ex:=ycO) (pu:=ycN) (sz:=1) (by simp only[go_sem,ya]<;>rfl) (by simp) (by omega) (by omega) (by decide) rfl]
      rw[PO (by rw[U7];simp only[go_sem,ya,U8,Uz,aws])];simp only[go_sem,ya,yb,yk,e3,Bu,Fa,Ff,CI,CP,Fg,BO]
      rw[dK (ex:=ycO) (pu:=ycN) (sz:=1) (by simp only[go_sem,ya]<;>rfl) (by simp) (by omega) (by omega) (by decide) rfl]
      simp only[go_sem,ya,yb];refine⟨_,rfl,?_⟩;rw[wrap64 (by omega) (by omega)];simp only[go_sem,ya,yb,ae,an hv.pu,yM]<;>rfl
 .right
  have Km:k=row.length:=by omega
  simp only[go_sem,ya,HV,Da,e0,hw.len,yv,show ¬(k:Int)<row.length by omega];rw[yq (by omega)];exact⟨_,_,rfl,by simp,_,_,rfl,rfl,by simp only[go_sem,ya],by simp only[go_sem,ya],by simp only[go_sem,ya],by simp only[go_sem,ya],by simp only[go_sem,ya],by simp only[go_sem,ya]⟩
section
variable {v:AV}{s:List (List Int)}
def Q4(hp:Hp)(ct id j m:Nat)(pu:Bool)(a b:AV):dS hp ct id 0 1 [.aq j 0 m] (GW (.cells ycN pu ycN 2 [a,b]))=GW (.av [],aY hp id (.cells ycN ycO ycN 2 [.aq j 0 m,b]),ct):=by cases pu<;>rfl
def Q5(hp:Hp)(ct id j m:Nat)(pu:Bool)(a b:AV):dS hp ct id 1 1 [.aq j 0 m] (GW (.cells ycN pu ycN 2 [a,b]))=GW (.av [],aY hp id (.cells ycN ycO ycN 2 [a,.aq j 0 m]),ct):=by cases pu<;>rfl
def Sz(v:AV)(row:List Int):Prop:=b6 v (row.map tR)
def Q6(v:AV)(row:List Int):Prop:=b6 v (row.map tI)
def Yo(r:AV)(s:List (List Int)):Prop:=∃v w,r=.agg [v,w]/\br Sz v s/\br Q6 w s
def Me(v:AV)(i:Nat):Env:=[(0,v),(2,.ptr 0 0),(3,.ptr 1 0),(4,aa i)]
def awu(h:Fy P L){n:Nat}(hv:Ga v s)(hs:s.length<=8)(hn:0<n)(gh:n<=8)(fZ:∀i (hi:i<s.length),s[i].length=n):
  bP P L [0,2,3,4] L4 (fun d st=>∃i X Y,i+d=s.length/\bi Sz X (s.take i)/\bi Q6 Y (s.take i)/\st=⟨Me v i,pH 1 nZ X Y,pF 1 X Y,0⟩) (fun ex s'=>∃tm ct X Y,s'=⟨tm,pH 1 nZ X Y,ct,0⟩/\ex=.exit 0/\bi Sz X s/\bi Q6 Y s/\ai tm 2=.ptr 0 0/\ai tm 3=.ptr 1 0):=by
 apply bQ;rintro d st ⟨i,X,Y,hid,hX,hY,rfl⟩;by_cases hi:i<s.length
 .left
  have px:=hX.len;have py:=hY.len;rw[yO,xA (by omega)] at px py;have hlen:=fZ i hi;have key:=awt h hv hi (by omega) px py;have hA:(s[i].map tR).length=n:=by rw[yv,hlen]
  have hB:(s[i].map tI).length=n:=by rw[yv,hlen]
  have lA:Sz (.ap ycO n (s[i].map tR)) s[i]:=by
   have:=ru ycO (s[i].map tR)
   rwa[hA] at this
  have lB:Q6 (.ap ycO n (s[i].map tI)) s[i]:=by
   have:=ru ycO (s[i].map tI)
   rwa[hB] at this
  suffices hh:∃s',_=GW (Ex.normal,s')/\bq [0,2,3,4] s'=⟨Me v (i+1),pH 1 nZ (X++[.ap ycO n (s[i].map tR)]) (Y++[.ap ycO n (s[i].map tI)]),pF 1 (X++[.ap ycO n (s[i].map tR)]) (Y++[.ap ycO n (s[i].map tI)]),0⟩ by
   obtain⟨s',q1,q2⟩:=hh;refine⟨s',d-1,q1,by omega,i+1,_,_,by omega,?_,?_,q2⟩
   .rw [yS hi];exact hX.snoc lA
   .rw [yS hi];exact hY.snoc lB
  have Eo:bq [0,2,3,4,5,6,7] ⟨Da v i (pF 1 X Y) 0 [] [],pH 1 nZ X Y,pF 1 X Y,0⟩=⟨Da v i (pF 1 X Y) 0 [] [],pH 1 nZ X Y,pF 1 X Y,0⟩:=by
   cases X<;>cases Y<;>simp only[go_sem,ya,yb,ae,Da,pF,pH,rr,nZ,an hv.pu]<;>rfl
  clear lA lB;obtain⟨n',rfl⟩:∃n',n=n'+1:=⟨n-1,by omega⟩;simp only[go_sem,ya,L4,Me,hv.len,show (i:Int)<s.length by omega];generalize hq:D P L (.loop _ HV) _=q;obtain⟨ex,st,rfl,tm,ct,rfl,rfl,g0,g2,g3,g4,g5,g6⟩:=aW hq (key s[i].length) ⟨0,by omega,K6 (by simp only[go_sem,ya]<;>rfl) rfl Eo⟩
  generalize s[i].map tR=A at*
  generalize s[i].map tI=B at*
  cases A with
  | nil=>simp at hA
  | cons a A=>
   cases B with
   | nil=>simp at hB
   | cons b B=>
    simp only[yx] at hA hB;have GM:A.length+1=n'+1:=hA;have OQ:B.length+1=n'+1:=hB;simp only[rr,GM,OQ] at g5 g6;have fA:=fun hp=>fL (hp:=hp) (sz:=1) ycO (show (a::A).length=(n'+1)*1 by simp[GM]) (by decide)
    have fB:=fun hp=>fL (hp:=hp) (sz:=1) ycO (show (b::B).length=(n'+1)*1 by simp[OQ]) (by decide)
    cases X with
    | nil=>
     have hY0:Y=[]:=yt (by rw[py,<-px];rfl)
     subst hY0;simp only[pF,pH,yH,nZ,yb] at g5 g6 ⊢;simp only[go_sem,ya,yb,xg,yG,yk,ae,g0,g2,g3,g4,g5,g6,an hv.pu,fA,fB,bH,yf,yg,we,Fa,Ff,CI,CP,Fg,BO,H5,eO,V3,Q4,Q5];refine⟨_,rfl,?_⟩;rw[wrap64 (by omega) (by omega)];simp only[go_sem,ya,yb,ae,xG,an hv.pu]<;>rfl
    | cons x X=>
     cases Y with
     | nil=>simp at px py;omega
     | cons y Y=>
      simp only[yx] at px py;simp only[pF,pH,yH,nZ,yb] at g5 g6 ⊢;simp only[go_sem,ya,yb,yk,ae,g0,g2,g3,g4,g5,g6,an hv.pu,fA,fB,bH,yf,yg,we,Fa,Ff,CI,CP,Fg,BO,H5]
      rw[dK (ex:=ycO) (pu:=ycN) (sz:=1) (by simp only[go_sem,ya]<;>rfl) (by simp) (by omega) (by omega) (by decide) rfl]
      rw[PO (by rw[U7];simp only[go_sem,ya,U8,Uz,aeX (show 1≠2 by decide)])];simp only[go_sem,ya,yb,BO]
      rw[dK (ex:=ycO) (pu:=ycN) (sz:=1) (by simp only[go_sem,ya]<;>rfl) (by simp) (by omega) (by omega) (by decide) rfl]
      simp only[go_sem,ya,yb,bH,yf,Q4,Q5];refine⟨_,rfl,?_⟩;rw[wrap64 (by omega) (by omega)];simp only[go_sem,ya,yb,ae,xh,yM,an hv.pu]<;>rfl
 .right
  have A1:i=s.length:=by omega
  rw[yq (by omega)] at hX hY;simp only[go_sem,ya,L4,Me,hv.len,show ¬(i:Int)<s.length by omega];exact⟨_,_,rfl,by simp,_,_,X,Y,rfl,rfl,hX,hY,by simp only[go_sem,ya],by simp only[go_sem,ya]⟩
def ahZ(F:Hp)(x y:AV)(p q:List AV):∃au,freeze 1000 ((3,.cells ycN ycN ycO 1 (y::q))::(2,.cells ycN ycN ycO 1 (x::p))::F) (.agg [.aq 2 0 (p.length+1),.aq 3 0 (q.length+1)])=GW (.agg [.ap ycO (p.length+1) (x::p),.ap ycO (q.length+1) (y::q)],au):=by
 have hz:∀(hp:Hp) (x:AV) (p:List AV),kW 0 (p.length+1) (GW (ycO,1,x::p,hp))=GW (.ap ycO (p.length+1) (x::p),hp):=fun _ _ _=>fL ycO (by simp) (by decide)
 have e:∃au,cg 999 ((3,.cells ycN ycN ycO 1 (y::q))::(2,.cells ycN ycN ycO 1 (x::p))::F) [.aq 2 0 (p.length+1),.aq 3 0 (q.length+1)]=GW ([.ap ycO (p.length+1) (x::p),.ap ycO (q.length+1) (y::q)],au):=by
  simp only[go_sem,ya,hz];exact⟨_,rfl⟩
 obtain⟨au,e⟩:=e;refine⟨au,?_⟩;show (match cg 999 _ _ with | some (ck,au)=>GW (AV.agg ck,au) | none=>none)=_
 rw[e]
def U9{hp au:Hp}{cs:List AV}(h:freeze 1000 hp (.agg cs)=GW (v,au)):result hp (.agg cs)=GW v:=by
 show (match freeze 1000 hp (.agg cs) with | some (v',_)=>GW v' | none=>none)=_
 rw[h]
def aBm(h:Fy P L)(Yp:Has P L 796 R6){n:Nat}(hv:Ga v s)(n5:0<s.length)(hs:s.length<=8)(hn:0<n)(gh:n<=8)(fZ:∀i (hi:i<s.length),s[i].length=n):∃r,af P L 796 [v] r/\Yo (shut r) s:=by
 have key:=awu h hv hs hn gh fZ;have hb:∀ct,gW ct 2 [AV.ab,.ab]=GW (.ptr ct 0,.cells ycN ycN ycN 2 [AV.ab,.ab]):=fun _=>rfl
 unfold af;rw[aF Yp];simp only[go_sem,yb,R6,hb];generalize hq:D P L (.loop _ L4) _=q;obtain⟨ex,st,rfl,tm,ct,X,Y,rfl,rfl,hX,hY,g2,g3⟩:=aW hq (key s.length) ⟨0,[],[],by omega,trivial,trivial,by simp only[go_sem,ya,yb,ae,Me,pH,pF,nZ,an hv.pu]<;>rfl⟩
 have px:=hX.len;have py:=hY.len
 cases X with
 | nil=>simp only[yN] at px;omega
 | cons x X=>
  cases Y with
  | nil=>simp only[yN] at py;omega
  | cons y Y=>
   have GQ:∀hp ct id a b,dS hp ct id 0 2 [AV.aq 2 0 a,.aq 3 0 b] (GW (.cells ycN ycN ycN 2 [AV.ab,.ab]))=GW (.av [],aY hp id (.cells ycN ycO ycN 2 [AV.aq 2 0 a,.aq 3 0 b]),ct):=fun _ _ _ _ _=>rfl
   have GU:∀a b:AV,gZ 2 ycN [a,b]=GW (.agg [a,b]):=fun _ _=>rfl
   simp only[go_sem,ya,yb,ae,pH,nZ,g2,g3,yg,GU,GQ,cX,cZ];obtain⟨au,hz⟩:=ahZ [(1,.cells ycN ycO ycN 2 [AV.aq 2 0 (X.length+1),.aq 3 0 (Y.length+1)]),(0,.cells ycN ycO ycN 2 [AV.aq 2 0 (X.length+1),.aq 3 0 (Y.length+1)])] x y X Y;rw[U9 hz];refine⟨_,rfl,_,_,a8 _,?_,?_⟩
   .have:=pG ycO hX
    rw[<-hX.len] at this;exact this
   .have:=pG ycO hY
    rw[<-hY.len] at this;exact this
end
def iC(z:Int×Int):AV:=.str (RT ((z.1:Int):Rat))
def iD(z:Int×Int):AV:=.str (RT ((z.2:Int):Rat))
def nj(v:AV)(row:List (Int×Int)):Prop:=b6 v (row.map iC)
def nk(v:AV)(row:List (Int×Int)):Prop:=b6 v (row.map iD)
def IX(r:AV)(t:List (List (Int×Int))):Prop:=∃v w,r=.agg [v,w]/\br nj v t/\br nk w t
def bi.Yq{α β γ:Type}{p:α->β->Prop}{q:α->γ->Prop}{f:β->γ}(h:∀a b,p a b->q a (f b)):∀{l:List α} {m:List β},bi p l m->bi q l (m.map f)
 | [],[],_=>trivial
 | _::_,_::_,⟨h1,h2⟩=>⟨h _ _ h1,h2.Yq h⟩
def Yo.pq{r:AV}{s:List (List Int)}(h:Yo r s):IX r (s.map (ta pz)):=by
 obtain⟨v,w,rfl,⟨x,h1,h2⟩,⟨y,h3,h4⟩⟩:=h;refine⟨v,w,rfl,⟨x,h1,h2.Yq fun a b zV=>?_⟩,⟨y,h3,h4.Yq fun a b zV=>?_⟩⟩
 .show b6 a ((b.map pz).map iC)
  rw[ybq];exact zV
 .show b6 a ((b.map pz).map iD)
  rw[ybq];exact zV
def IX.at{v w:AV}{t:List (List (Int×Int))}{n:Nat}{B:Int}(hv:br nj v t)(hw:br nk w t)(hT:fK t n B){a b:Nat}(ha:a<n)(hb:b<n):
  ∃x r1 y r2 r3 r4,fc 1 a v=GW (.bN (x::r1))/\fc 1 a w=GW (.bN (y::r2))/\fc 1 b x=GW (.bN (.str (RT (((mz t a b).1:Int):Rat))::r3))/\fc 1 b y=GW (.bN (.str (RT (((mz t a b).2:Int):Rat))::r4)):=by
 have kH:a<t.length:=by rw[hT.len];exact ha
 have bD:b<t[a].length:=by rw[hT.row a kH];exact hb
 obtain⟨x,r1,hx,e0⟩:=hv.a6 kH;obtain⟨y,r2,hy,e1⟩:=hw.a6 kH;have e2:=b6.a6 (cs:=t[a].map iC) hx (i:=b) (by simpa using bD);have e3:=b6.a6 (cs:=t[a].map iD) hy (i:=b) (by simpa using bD);rw[wQ] at e2 e3;rw[Qw kH bD];exact⟨x,r1,y,r2,_,_,e0,e1,e2,e3⟩
structure Qtr(P:aG)(L:Lib):Prop extends Rx P L where
 r9:Has P L 265 FR
 aBn:Has P L 797 Xf
 Gg:Has P L 798 IF
def adv(h:Rn P L)(r9:Has P L 265 FR){x y c s u w:Int}(bx: -1000000<=x/\x<=1000000)(bX: -1000000<=y/\y<=1000000)(bc: -1<=c/\c<=1)(bs: -1<=s/\s<=1)(bu: -1000000<=u/\u<=1000000)(bw: -1000000<=w/\w<=1000000):
  af P L 265 [aa c] (.str (RT (c:Rat)))/\af P L 265 [aa s] (.str (RT (s:Rat)))/\af P L 267 [.str (RT (x:Rat)),.str (RT (c:Rat))] (.str (RT ((x*c:Int):Rat)))/\af P L 267 [.str (RT (y:Rat)),.str (RT (s:Rat))] (.str (RT ((y*s:Int):Rat)))/\
   af P L 267 [.str (RT (x:Rat)),.str (RT (s:Rat))] (.str (RT ((x*s:Int):Rat)))/\af P L 267 [.str (RT (y:Rat)),.str (RT (c:Rat))] (.str (RT ((y*c:Int):Rat)))/\
   af P L 271 [.str (RT ((x*c:Int):Rat)),.str (RT ((y*s:Int):Rat))] (.str (RT ((x*c-y*s:Int):Rat)))/\af P L 264 [.str (RT ((x*s:Int):Rat)),.str (RT ((y*c:Int):Rat))] (.str (RT ((x*s+y*c:Int):Rat)))/\
   af P L 264 [.str (RT (u:Rat)),.str (RT ((x*c-y*s:Int):Rat))] (.str (RT ((u+(x*c-y*s):Int):Rat)))/\af P L 264 [.str (RT (w:Rat)),.str (RT ((x*s+y*c:Int):Rat))] (.str (RT ((w+(x*s+y*c):Int):Rat))):=by
 have m1:∀{z t:Int},-1000000<=z/\z<=1000000-> -1<=t/\t<=1-> -1000000<=z*t/\z*t<=1000000:=fun {z t} hz ht=>by
  have:t= -1\/t=0\/t=1:=by omega
  rcases this with rfl | rfl | rfl<;>omega
 have k:∀{z:Int},-3000000<=z/\z<=3000000->Hq 40 (z:Rat):=fun {z} hz=>iw (by omega)
 have xc:=m1 bx bc;have ys:=m1 bX bs
 have xs:=m1 bx bs;have yc:=m1 bX bc
 refine⟨MD h.toRm r9 (by omega),MD h.toRm r9 (by omega),?_,?_,?_,?_,?_,?_,?_,?_⟩
 .rw [vK];exact Ax h (k (by omega)) (k (by omega)) (by decide)
 .rw [vK];exact Ax h (k (by omega)) (k (by omega)) (by decide)
 .rw [vK];exact Ax h (k (by omega)) (k (by omega)) (by decide)
 .rw [vK];exact Ax h (k (by omega)) (k (by omega)) (by decide)
 .rw [Rat.intCast_sub (x*c) (y*s)];exact agd h.toRp (k (z:=x*c) (by omega)) (k (z:=y*s) (by omega)) (by decide)
 .rw [vJ (x*s) (y*c)];exact Ay h.toRp (k (z:=x*s) (by omega)) (k (z:=y*c) (by omega)) (by decide)
 .rw [vJ u (x*c-y*s)];exact Ay h.toRp (k (z:=u) (by omega)) (k (z:=x*c-y*s) (by omega)) (by decide)
 .rw [vJ w (x*s+y*c)];exact Ay h.toRp (k (z:=w) (by omega)) (k (z:=x*s+y*c) (by omega)) (by decide)
def ah0(e:Int):(-1<=jX e/\jX e<=1)/\(-1<=jY e/\jY e<=1):=by
 rcases ED e with ⟨_,h1,h2⟩ | ⟨_,h1,h2⟩ | ⟨_,h1,h2⟩ | ⟨_,h1,h2⟩<;>rw[h1,h2]<;>decide
def rT(z:Int):AV:=.str (RT (z:Rat))
def Fh(n k l:Nat)(R I:AV)(u w:Int)(a b:Nat):Env:=[(1,.ptr 0 0),(2,.ptr 1 0),(3,aa n),(4,.ptr 2 0),(5,aa k),(6,R),(7,I),(8,aa l),(9,rT u),(10,rT w),(11,aa a),(12,aa b)]
def BC(n k l:Nat)(R I:AV)(u w:Int)(a:Nat):Env:=[(1,.ptr 0 0),(2,.ptr 1 0),(3,aa n),(4,.ptr 2 0),(5,aa k),(6,R),(7,I),(8,aa l),(9,rT u),(10,rT w),(11,aa a)]
def EN(n k l:Nat)(R I:AV)(u w:Int):Env:=[(1,.ptr 0 0),(2,.ptr 1 0),(3,aa n),(4,.ptr 2 0),(5,aa k),(6,R),(7,I),(8,aa l),(9,rT u),(10,rT w)]
def awv(h:Qtr P L){v w:AV}{t:List (List (Int×Int))}{n k l a:Nat}(hv:br nj v t)(hw:br nk w t)(hT:fK t n 1)(hn:n=2\/n=4)(hk:k<n)(hl:l<n)(ha:a<n){R I:AV}{ct:Nat}{H:Hp}(hg:ax H 0=GW (.cells ycN ycN ycN 2 [v,w]))(hC:∀u w b,dw [1,2,3,4,5,6,7,8,9,10,11,12] (Fh n k l R I u w a b) H ct):
  bP P L [1,2,3,4,5,6,7,8,9,10,11,12] L5 (fun d st=>∃b,b+d=n/\st=⟨Fh n k l R I (bm (jt t n k l) n a b) (bm (ju t n k l) n a b) a b,H,ct,0⟩) (fun ex s'=>∃tm c',s'=⟨tm,H,c',0⟩/\ex=.exit 6/\cu tm [1,2,3,4,5,6,7,8,9,10,11]=BC n k l R I (bm (jt t n k l) n (a+1) 0) (bm (ju t n k l) n (a+1) 0) a):=by
 apply bQ;rintro d st ⟨b,Ch,rfl⟩;have bt:∀a b,a<n->b<n->(-1<=jt t n k l a b/\jt t n k l a b<=1)/\(-1<=ju t n k l a b/\ju t n k l a b<=1):=fun a b ha hb=>G9 _ (hT.small a b ha hb).1 (hT.small a b ha hb).2
 by_cases hb:b<n
 .left
  obtain⟨x,r1,y,r2,r3,r4,e0,e1,e2,e3⟩:=IX.at hv hw hT ha hb;have s1:=mS (f:=jt t n k l) (B:=1) (by decide) (by omega) (fun a b ha hb=>(bt a b ha hb).1) (A:=a) (C:=b) (by omega) (by omega) (.inl ha);have s2:=mS (f:=ju t n k l) (B:=1) (by decide) (by omega) (fun a b ha hb=>(bt a b ha hb).2) (A:=a) (C:=b) (by omega) (by omega) (.inl ha);have sm:=hT.small a b ha hb;obtain⟨bc,bs⟩:=ah0 (ll n a k b l);obtain⟨f1,f2,f3,f4,f5,f6,f7,f8,f9,f10⟩:=adv h.toRn h.r9 (x:=(mz t a b).1) (y:=(mz t a b).2) (u:=bm (jt t n k l) n a b) (w:=bm (ju t n k l) n a b) (by omega) (by omega) bc bs (by omega) (by omega);have f0:=Yk (P:=P) (L:=L) h.Gg (n:=ll n a k b l);have Ej:(a:Int)*k=((a*k:Nat):Int):=by rw[xk]
  have nB:(b:Int)*l=((b*l:Nat):Int):=by rw[xk]
  have b1:a*k<=16:=xF (show a<=4 by omega) (show k<=4 by omega);have b2:b*l<=16:=xF (show b<=4 by omega) (show l<=4 by omega);have hex:((((a*k:Nat):Int)+((b*l:Nat):Int))*4).tdiv n=fh n a k b l:=by unfold fh;rw[uZ]
  have ZE:0-fh n a k b l=ll n a k b l:=by
   rcases hn with rfl | rfl
   .rw [QX,WJ];omega
   .rw [QY,WK];omega
  have Z0: -1000<=fh n a k b l/\fh n a k b l<=1000/\-1000<=ll n a k b l/\ll n a k b l<=1000:=by
   rcases hn with rfl | rfl
   .rw [WJ,QX];omega
   .rw [WK,QY];omega
  have jq:(n:Int)≠0:=by omega
  unfold af at f0 f1 f2 f3 f4 f5 f6 f7 f8 f9 f10
  simp only[go_sem,ya,L5,Fh,rT,show (b:Int)<n by omega,hg,bH,yf,yg,we,e0,e1,e2,e3,Ej,nB,wrap64 (n:=((a*k:Nat):Int)) (by omega) (by omega),wrap64 (n:=((b*l:Nat):Int)) (by omega) (by omega),wrap64 (n:=((a*k:Nat):Int)+((b*l:Nat):Int)) (by omega) (by omega),wrap64 (n:=(((a*k:Nat):Int)+((b*l:Nat):Int))*4) (by omega) (by omega),dl _ _ _ jq,hex,wrap64 (n:=fh n a k b l) (by omega) (by omega),ZE,wrap64 (n:=ll n a k b l) (by omega) (by omega),f0,f1,f2,f3,f4,f5,f6,f7,f8,f9,f10];refine⟨_,d-1,rfl,by omega,b+1,by omega,?_⟩;rw[wrap64 (by omega) (by omega),CR,CR];exact cO (by simp only[go_sem,ya]<;>rfl) (hC _ _ (b+1))
 .right
  have GN:b=n:=by omega
  subst GN;simp only[go_sem,ya,L5,Fh,show ¬(b:Int)<b by omega];exact⟨_,_,rfl,by simp,_,_,rfl,rfl,by rw[<-CY,<-CY];simp only[go_sem,ya]<;>rfl⟩
def aww(h:Qtr P L){v w:AV}{t:List (List (Int×Int))}{n k l:Nat}(hv:br nj v t)(hw:br nk w t)(hT:fK t n 1)(hn:n=2\/n=4)(hk:k<n)(hl:l<n){R I:AV}{ct:Nat}{H:Hp}(hg:ax H 0=GW (.cells ycN ycN ycN 2 [v,w]))(hC:∀a u w b,dw [1,2,3,4,5,6,7,8,9,10,11,12] (Fh n k l R I u w a b) H ct)(El:∀a u w,dw [1,2,3,4,5,6,7,8,9,10,11] (BC n k l R I u w a) H ct):
  bP P L [1,2,3,4,5,6,7,8,9,10,11] L6 (fun d st=>∃a,a+d=n/\st=⟨BC n k l R I (bm (jt t n k l) n a 0) (bm (ju t n k l) n a 0) a,H,ct,0⟩) (fun ex s'=>∃tm c',s'=⟨tm,H,c',0⟩/\ex=.exit 4/\cu tm [1,2,3,4,5,6,7,8,9,10]=EN n k l R I (bm (jt t n k l) n n 0) (bm (ju t n k l) n n 0)):=by
 apply bQ;rintro d st ⟨a,Z1,rfl⟩;by_cases ha:a<n
 .left
  have key:=awv h hv hw hT hn hk hl ha hg (hC a);simp only[go_sem,ya,L6,BC,show (a:Int)<n by omega];generalize hq:D P L (.loop _ L5) _=q;obtain⟨ex,st,rfl,tm,c',rfl,rfl,cS⟩:=aW hq (key n) ⟨0,by omega,cO (by simp only[go_sem,ya]<;>rfl) (hC a _ _ 0)⟩
  simp only[go_sem,cO cS (El a _ _)];simp only[go_sem,ya,BC];refine⟨_,d-1,rfl,by omega,a+1,by omega,?_⟩;rw[wrap64 (by omega) (by omega)];exact cO (by simp only[go_sem,ya]<;>rfl) (El (a+1) _ _)
 .right
  have GO:a=n:=by omega
  subst GO;simp only[go_sem,ya,L6,BC,show ¬(a:Int)<a by omega];exact⟨_,_,rfl,by simp,_,_,rfl,rfl,by simp only[go_sem,ya]<;>rfl⟩
section
variable {X Y:List AV}{n:Nat}
def kE(v w:AV):Hp:=[(1,.cells ycN ycN ycN 2 [.ab,.ab]),(0,.cells ycN ycN ycN 2 [v,w])]
def H6(n k l f:Nat)(A B:List AV):Env:=[(1,.ptr 0 0),(2,.ptr 1 0),(3,aa n),(4,.ptr 2 0),(5,aa k),(6,rr f A),(7,rr (f+1) B),(8,aa l)]
def Cw(X Y:List AV):Prop:=(X=[]/\Y=[])\/∃a X' b Y',X=a::X'/\Y=b::Y'
def Cw.of(h:X.length=Y.length):Cw X Y:=by
 cases X with
 | nil=>exact .inl ⟨rfl,yt h.symm⟩
 | cons a X=>
  cases Y with
  | nil=>simp at h
  | cons b Y=>exact .inr ⟨a,X,b,Y,rfl,rfl⟩
def adw(n k l:Nat)(v w:AV){A B:List AV}(za:Cw X Y)(OR:Cw A B):
  (∀a u z b,dw [1,2,3,4,5,6,7,8,9,10,11,12] (Fh n k l (rr (pF 2 X Y) A) (rr (pF 2 X Y+1) B) u z a b) (yH (pF 2 X Y) (pH 2 (kE v w) X Y) A B) (yF (pF 2 X Y) A B))/\
  (∀a u z,dw [1,2,3,4,5,6,7,8,9,10,11] (BC n k l (rr (pF 2 X Y) A) (rr (pF 2 X Y+1) B) u z a) (yH (pF 2 X Y) (pH 2 (kE v w) X Y) A B) (yF (pF 2 X Y) A B))/\
  (∀u z,dw [1,2,3,4,5,6,7,8,9,10] (EN n k l (rr (pF 2 X Y) A) (rr (pF 2 X Y+1) B) u z) (yH (pF 2 X Y) (pH 2 (kE v w) X Y) A B) (yF (pF 2 X Y) A B))/\
  dw [1,2,3,4,5,6,7,8] (H6 n k l (pF 2 X Y) A B) (yH (pF 2 X Y) (pH 2 (kE v w) X Y) A B) (yF (pF 2 X Y) A B):=by
 rcases za with ⟨rfl,rfl⟩ | ⟨a,X,b,Y,rfl,rfl⟩<;>rcases OR with ⟨rfl,rfl⟩ | ⟨c,A,d,B,rfl,rfl⟩<;>
 refine⟨fun a u z b=>⟨rfl,fun c=>?_⟩,fun a u z=>⟨rfl,fun c=>?_⟩,fun u z=>⟨rfl,fun c=>?_⟩,⟨rfl,fun c=>?_⟩⟩<;>
 simp only[go_sem,ya,yb,ae,Fh,BC,EN,H6,rT,rr,pF,pH,yH,yF,kE]<;>rfl
def awx(h:Qtr P L){v w:AV}{t:List (List (Int×Int))}{k:Nat}(hv:br nj v t)(hw:br nk w t)(hT:fK t n 1)(hn:n=2\/n=4)(hk:k<n)(za:Cw X Y):
  bP P L [1,2,3,4,5,6,7,8] L7 (fun d st=>∃l,l+d=n/\st=⟨H6 n k l (pF 2 X Y) ((cE t n k l).map iC) ((cE t n k l).map iD),yH (pF 2 X Y) (pH 2 (kE v w) X Y) ((cE t n k l).map iC) ((cE t n k l).map iD),yF (pF 2 X Y) ((cE t n k l).map iC) ((cE t n k l).map iD),0⟩) (fun ex s'=>∃tm ct,s'=⟨tm,yH (pF 2 X Y) (pH 2 (kE v w) X Y) ((cE t n k n).map iC) ((cE t n k n).map iD),ct,0⟩/\ex=.exit 2/\ai tm 1=.ptr 0 0/\ai tm 2=.ptr 1 0/\ai tm 3=aa n/\ai tm 4=.ptr 2 0/\ai tm 5=aa k/\ai tm 6=rr (pF 2 X Y) ((cE t n k n).map iC)/\ai tm 7=rr (pF 2 X Y+1) ((cE t n k n).map iD)):=by
 apply bQ;rintro d st ⟨l,DT,rfl⟩;by_cases hl:l<n
 .left
  have jn:((cE t n k l).map iC).length=l:=by rw[yv,EL]
  have jb:((cE t n k l).map iD).length=l:=by rw[yv,EL]
  have iP:(cE t n k (l+1)).map iC=(cE t n k l).map iC++[rT (Ek t n k l).1]:=by rw[U5,xu];rfl
  have dh:(cE t n k (l+1)).map iD=(cE t n k l).map iD++[rT (Ek t n k l).2]:=by rw[U5,xu];rfl
  have OR:Cw ((cE t n k l).map iC) ((cE t n k l).map iD):=Cw.of (by rw[jn,jb]);obtain⟨q0,q1,q2,q3⟩:=adw n k l v w za OR;have hg:ax (yH (pF 2 X Y) (pH 2 (kE v w) X Y) ((cE t n k l).map iC) ((cE t n k l).map iD)) 0=GW (.cells ycN ycN ycN 2 [v,w]):=by
   clear q0 q1 q2 q3 iP dh jn jb;generalize (cE t n k l).map iC=A at*
   generalize (cE t n k l).map iD=B at*
   rcases za with ⟨rfl,rfl⟩ | ⟨a,X,b,Y,rfl,rfl⟩<;>rcases OR with ⟨rfl,rfl⟩ | ⟨c,A,d,B,rfl,rfl⟩<;>rfl
  have key:=aww h hv hw hT hn hk hl hg q0 q1
  suffices hh:∃s',_=GW (Ex.normal,s')/\bq [1,2,3,4,5,6,7,8] s'=⟨H6 n k (l+1) (pF 2 X Y) ((cE t n k (l+1)).map iC) ((cE t n k (l+1)).map iD),yH (pF 2 X Y) (pH 2 (kE v w) X Y) ((cE t n k (l+1)).map iC) ((cE t n k (l+1)).map iD),yF (pF 2 X Y) ((cE t n k (l+1)).map iC) ((cE t n k (l+1)).map iD),0⟩ by
   obtain⟨s',q1,q2⟩:=hh;exact⟨s',d-1,q1,by omega,l+1,by omega,q2⟩
  rw[iP,dh];have q1z:=q1 0;have kst:∀(tm:Env) (c:Nat),cu tm [1,2,3,4,5,6,7,8,9,10,11]=BC n k l (rr (pF 2 X Y) ((cE t n k l).map iC)) (rr (pF 2 X Y+1) ((cE t n k l).map iD)) 0 0 0->_:=fun tm c hk=>key n ⟨tm,_,c,0⟩ ⟨0,by omega,cO hk (q1 0 0 0)⟩
  have hz:(AV.str [48])=rT 0:=rfl;unfold Ek;generalize bm (jt t n k l) n n 0=u at*
  generalize bm (ju t n k l) n n 0=z at*
  clear hg key iP dh;generalize (cE t n k l).map iC=A at*
  generalize (cE t n k l).map iD=B at*
  simp only[go_sem,ya,L7,H6,show (l:Int)<n by omega,hz];generalize hq:D P L (.loop _ L6) _=q;obtain⟨ex,st,rfl,tm,c',rfl,rfl,cS⟩:=aW hq (fun s (hs:s=_)=>by rw[hs];exact kst _ _ (by simp only[go_sem,ya]<;>rfl)) rfl
  simp only[go_sem,ya,cO cS (q2 _ _)];have oc:∀x:Int,cellsOf (rT x)=[rT x]:=fun _=>rfl
  have op:∀x:Int,aQ (rT x)=ycN:=fun _=>rfl
  have mk:∀(q:Env) (z:AV) (x:Int),lI q [z] 0 1 [rT x] []=GW [rT x]:=fun q z x=>by rw[Hf (by simp) (show cY (rT x)=ycN from rfl)];rfl
  rcases za with ⟨rfl,rfl⟩ | ⟨a,X,b,Y,rfl,rfl⟩<;>rcases OR with ⟨rfl,rfl⟩ | ⟨c,A,d',B,rfl,rfl⟩
  .simp only [go_sem,ya,yb,xg,yG,yk,yi,EN,rr,pF,pH,yH,yF,kE,oc,mk,fM,aE,op,eO];refine⟨_,rfl,?_⟩;rw[wrap64 (by omega) (by omega)];simp only[go_sem,ya,yb,ae,xG]<;>rfl
  .simp only [yx] at jn jb;simp only[go_sem,ya,yb,yi,EN,rr,pF,pH,yH,yF,kE,oc,mk,fM,aE,op]
   rw[dK (ex:=ycO) (pu:=ycN) (sz:=1) (by simp only[go_sem,ya]<;>rfl) (by simp) (by omega) (by omega) (by decide) rfl]
   simp only[go_sem,ya,yb,yi,oc,mk,fM,aE,op]
   rw[dK (ex:=ycO) (pu:=ycN) (sz:=1) (by simp only[go_sem,ya]<;>rfl) (by simp) (by omega) (by omega) (by decide) rfl]
   simp only[go_sem,ya,yb,aE,op];refine⟨_,rfl,?_⟩;rw[wrap64 (by omega) (by omega)];simp only[go_sem,ya,yb,ae,xh,yM]<;>rfl
  .simp only [go_sem,ya,yb,xg,yG,yk,yi,EN,rr,pF,pH,yH,yF,kE,oc,mk,fM,aE,op,eO];refine⟨_,rfl,?_⟩;rw[wrap64 (by omega) (by omega)];simp only[go_sem,ya,yb,ae,xG]<;>rfl
  .simp only [yx] at jn jb;simp only[go_sem,ya,yb,yi,EN,rr,pF,pH,yH,yF,kE,oc,mk,fM,aE,op]
   rw[dK (ex:=ycO) (pu:=ycN) (sz:=1) (by simp only[go_sem,ya]<;>rfl) (by simp) (by omega) (by omega) (by decide) rfl]
   simp only[go_sem,ya,yb,yi,oc,mk,fM,aE,op]
   rw[dK (ex:=ycO) (pu:=ycN) (sz:=1) (by simp only[go_sem,ya]<;>rfl) (by simp) (by omega) (by omega) (by decide) rfl]
   simp only[go_sem,ya,yb,aE,op];refine⟨_,rfl,?_⟩;rw[wrap64 (by omega) (by omega)];simp only[go_sem,ya,yb,ae,xh,yM]<;>rfl
 .right
  have Ec:l=n:=by omega
  subst Ec;simp only[go_sem,ya,L7,H6,show ¬(l:Int)<l by omega];exact⟨_,_,rfl,by simp,_,_,rfl,rfl,by simp only[go_sem,ya],by simp only[go_sem,ya],by simp only[go_sem,ya],by simp only[go_sem,ya],by simp only[go_sem,ya],by simp only[go_sem,ya],by simp only[go_sem,ya]⟩
def Mf(n k:Nat):Env:=[(1,.ptr 0 0),(2,.ptr 1 0),(3,aa n),(4,.ptr 2 0),(5,aa k)]
def awy(h:Qtr P L){v w:AV}{t:List (List (Int×Int))}(hv:br nj v t)(hw:br nk w t)(hT:fK t n 1)(hn:n=2\/n=4):
  bP P L [1,2,3,4,5] L8 (fun d st=>∃k X Y,k+d=n/\bi nj X (gS t n k)/\bi nk Y (gS t n k)/\st=⟨Mf n k,pH 2 (kE v w) X Y,pF 2 X Y,0⟩) (fun ex s'=>∃tm ct X Y,s'=⟨tm,pH 2 (kE v w) X Y,ct,0⟩/\ex=.exit 0/\bi nj X (gS t n n)/\bi nk Y (gS t n n)/\ai tm 2=.ptr 1 0/\ai tm 4=.ptr 2 0):=by
 apply bQ;rintro d st ⟨k,X,Y,Cu,hX,hY,rfl⟩;by_cases hk:k<n
 .left
  have px:=hX.len;have py:=hY.len;rw[CZ] at px py;have za:Cw X Y:=Cw.of (by rw[px,py]);have key:=awx h hv hw hT hn hk za;have hA:((cE t n k n).map iC).length=n:=by rw[yv,EL]
  have hB:((cE t n k n).map iD).length=n:=by rw[yv,EL]
  have lA:nj (.ap ycO n ((cE t n k n).map iC)) (cE t n k n):=by
   have:=ru ycO ((cE t n k n).map iC)
   rwa[hA] at this
  have lB:nk (.ap ycO n ((cE t n k n).map iD)) (cE t n k n):=by
   have:=ru ycO ((cE t n k n).map iD)
   rwa[hB] at this
  suffices hh:∃s',_=GW (Ex.normal,s')/\bq [1,2,3,4,5] s'=⟨Mf n (k+1),pH 2 (kE v w) (X++[.ap ycO n ((cE t n k n).map iC)]) (Y++[.ap ycO n ((cE t n k n).map iD)]),pF 2 (X++[.ap ycO n ((cE t n k n).map iC)]) (Y++[.ap ycO n ((cE t n k n).map iD)]),0⟩ by
   obtain⟨s',q1,q2⟩:=hh;refine⟨s',d-1,q1,by omega,k+1,_,_,by omega,?_,?_,q2⟩
   .rw [U6];exact hX.snoc lA
   .rw [U6];exact hY.snoc lB
  have Eo:=(adw n k 0 v w za (A:=[]) (B:=[]) (.inl ⟨rfl,rfl⟩)).2.2.2;clear lA lB;obtain⟨n',rfl⟩:∃n',n=n'+1:=⟨n-1,by omega⟩;simp only[go_sem,ya,L8,Mf,show (k:Int)<((n'+1:Nat):Int) by omega];generalize hq:D P L (.loop _ L7) _=q;obtain⟨ex,st,rfl,tm,ct,rfl,rfl,g1,g2,g3,g4,g5,g6,g7⟩:=aW hq (key (n'+1)) ⟨0,by omega,cO (by simp only[go_sem,ya]<;>rfl) Eo⟩
  generalize (cE t (n'+1) k (n'+1)).map iC=A at*
  generalize (cE t (n'+1) k (n'+1)).map iD=B at*
  cases A with
  | nil=>simp at hA
  | cons a A=>
   cases B with
   | nil=>simp at hB
   | cons b B=>
    simp only[yx] at hA hB;have GM:A.length+1=n'+1:=hA;have OQ:B.length+1=n'+1:=hB;simp only[rr,GM,OQ] at g6 g7;have fA:=fun hp=>fL (hp:=hp) (sz:=1) ycO (show (a::A).length=(n'+1)*1 by simp[GM]) (by decide)
    have fB:=fun hp=>fL (hp:=hp) (sz:=1) ycO (show (b::B).length=(n'+1)*1 by simp[OQ]) (by decide)
    rcases za with ⟨rfl,rfl⟩ | ⟨x,X,y,Y,rfl,rfl⟩
    .simp only [pF,pH,yH,kE,yb] at g6 g7 ⊢;simp only[go_sem,ya,yb,xg,yG,yk,ae,g1,g2,g3,g4,g5,g6,g7,fA,fB,bH,yf,yg,we,Fa,Ff,CI,CP,Fg,BO,H5,eO,V3,Q4,Q5];refine⟨_,rfl,?_⟩;rw[wrap64 (by omega) (by omega)];simp only[go_sem,ya,yb,ae,xG]<;>rfl
    .simp only [yx] at px py;simp only[pF,pH,yH,kE,yb] at g6 g7 ⊢;simp only[go_sem,ya,yb,yk,ae,g1,g2,g3,g4,g5,g6,g7,fA,fB,bH,yf,yg,we,Fa,Ff,CI,CP,Fg,BO,H5]
     rw[dK (ex:=ycO) (pu:=ycN) (sz:=1) (by simp only[go_sem,ya]<;>rfl) (by simp) (by omega) (by omega) (by decide) rfl]
     rw[PO (by rw[U7];simp only[go_sem,ya,U8,Uz,aeX (show 2≠3 by decide)])];simp only[go_sem,ya,yb,BO]
     rw[dK (ex:=ycO) (pu:=ycN) (sz:=1) (by simp only[go_sem,ya]<;>rfl) (by simp) (by omega) (by omega) (by decide) rfl]
     simp only[go_sem,ya,yb,bH,yf,Q4,Q5];refine⟨_,rfl,?_⟩;rw[wrap64 (by omega) (by omega)];simp only[go_sem,ya,yb,ae,xh,yM]<;>rfl
 .right
  have lS:k=n:=by omega
  subst lS;simp only[go_sem,ya,L8,Mf,show ¬(k:Int)<k by omega];exact⟨_,_,rfl,by simp,_,_,X,Y,rfl,rfl,hX,hY,by simp only[go_sem,ya],by simp only[go_sem,ya]⟩
def aBo(h:Qtr P L){r:AV}{t:List (List (Int×Int))}(hr:IX r t)(hT:fK t n 1)(hn:n=2\/n=4):∃q,af P L 797 [r] q/\IX (shut q) (gS t n n):=by
 obtain⟨v,w,rfl,hv,hw⟩:=hr;have key:=awy h hv hw hT hn;have hb:∀ct,gW ct 2 [AV.ab,.ab]=GW (.ptr ct 0,.cells ycN ycN ycN 2 [AV.ab,.ab]):=fun _=>rfl
 have hbv:∀ct,gW ct 2 [v,w]=GW (.ptr ct 0,.cells ycN ycN ycN 2 [v,w]):=fun ct=>by rw[aR (n:=2) rfl (by simp only[bY,hv.one,hw.one,wj])];simp only[aE,hv.pu,hw.pu,wj]
 unfold af;rw[aF h.aBn];have hlen:=fun hp=>hv.len (hp:=hp)
 rw[hT.len] at hlen;simp only[go_sem,ya,yb,Xf,hb,hbv,bH,yf,yg,hlen];generalize hq:D P L (.loop _ L8) _=q;obtain⟨ex,st,rfl,tm,ct,X,Y,rfl,rfl,hX,hY,g2,g4⟩:=aW hq (key n) ⟨0,[],[],by omega,trivial,trivial,by simp only[go_sem,ya,yb,ae,Mf,pH,pF,kE]<;>rfl⟩
 have px:=hX.len;have py:=hY.len;rw[CZ] at px py
 cases X with
 | nil=>simp only[yN] at px;omega
 | cons x X=>
  cases Y with
  | nil=>simp only[yN] at py;omega
  | cons y Y=>
   have GQ:∀hp ct id a b,dS hp ct id 0 2 [AV.aq 2 0 a,.aq 3 0 b] (GW (.cells ycN ycN ycN 2 [AV.ab,.ab]))=GW (.av [],aY hp id (.cells ycN ycO ycN 2 [AV.aq 2 0 a,.aq 3 0 b]),ct):=fun _ _ _ _ _=>rfl
   have GU:∀a b:AV,gZ 2 ycN [a,b]=GW (.agg [a,b]):=fun _ _=>rfl
   simp only[go_sem,ya,yb,ae,pH,kE,g2,g4,yg,GU,GQ,cX,cZ];obtain⟨au,hz⟩:=ahZ [(1,.cells ycN ycO ycN 2 [AV.aq 2 0 (X.length+1),.aq 3 0 (Y.length+1)]),(0,.cells ycN ycO ycN 2 [AV.aq 2 0 (X.length+1),.aq 3 0 (Y.length+1)])] x y X Y;rw[U9 hz];refine⟨_,rfl,_,_,a8 _,?_,?_⟩
   .have:=pG ycO hX
    rw[<-hX.len] at this;exact this
   .have:=pG ycO hY
    rw[<-hY.len] at this;exact this
end
def lC(t:List (List (Int×Int)))(n i a b k l:Nat):Int:=sU (mz t (i/2*(n/2)+k) (i%2*(n/2)+l)).1 (mz t (i/2*(n/2)+k) (i%2*(n/2)+l)).2 (fh n a (i/2*(n/2)+k) b (i%2*(n/2)+l))
def lD(t:List (List (Int×Int)))(n i a b k l:Nat):Int:=sW (mz t (i/2*(n/2)+k) (i%2*(n/2)+l)).1 (mz t (i/2*(n/2)+k) (i%2*(n/2)+l)).2 (fh n a (i/2*(n/2)+k) b (i%2*(n/2)+l))
def ayw{t:List (List (Int×Int))}{n i:Nat}(a b:Nat)(hn:n=2\/n=4)(hi:i<4):bm (lm t n i a b) n n 0=bm (lC t n i a b) (n/2) (n/2) 0/\bm (lz t n i a b) n n 0=bm (lD t n i a b) (n/2) (n/2) 0:=by
 have h4:i=0\/i=1\/i=2\/i=3:=by omega
 rcases hn with rfl | rfl<;>rcases h4 with rfl | rfl | rfl | rfl<;>
 exact⟨by simp[bm,mw,lm,lC,qd],by simp[bm,mw,lz,lD,qd]⟩
def ah1{t:List (List (Int×Int))}{n i:Nat}(hT:fK t n 72)(hn:n=2\/n=4)(hi:i<4)(a b:Nat):∀k l,k<n/2->l<n/2->(-72<=lC t n i a b k l/\lC t n i a b k l<=72)/\(-72<=lD t n i a b k l/\lD t n i a b k l<=72):=fun k l hk hl=>by
 have h1:i/2*(n/2)+k<n:=by
  have:i/2<=1:=by omega
  have:i/2*(n/2)<=1*(n/2):=yQ _ this
  omega
 have h2:i%2*(n/2)+l<n:=by
  have:i%2<=1:=by omega
  have:i%2*(n/2)<=1*(n/2):=yQ _ this
  omega
 exact G9 _ (hT.small _ _ h1 h2).1 (hT.small _ _ h1 h2).2
def nN(n i a:Nat)(R:AV)(b:Nat)(u w:Int)(k l:Nat):Env:=[(2,.ptr 0 0),(3,.ptr 1 0),(4,aa n),(5,.ptr 2 0),(6,aa i),(7,aa a),(8,R),(9,aa b),(10,rT u),(11,rT w),(12,aa k),(13,aa l)]
def nO(n i a:Nat)(R:AV)(b:Nat)(u w:Int)(k:Nat):Env:=[(2,.ptr 0 0),(3,.ptr 1 0),(4,aa n),(5,.ptr 2 0),(6,aa i),(7,aa a),(8,R),(9,aa b),(10,rT u),(11,rT w),(12,aa k)]
def rF(n i a:Nat)(R:AV)(b:Nat)(u w:Int):Env:=[(2,.ptr 0 0),(3,.ptr 1 0),(4,aa n),(5,.ptr 2 0),(6,aa i),(7,aa a),(8,R),(9,aa b),(10,rT u),(11,rT w)]
structure Imr(P:aG)(L:Lib):Prop extends Qtr P L where
 aBp:Has P L 783 Xd
def awz(h:Imr P L){v w:AV}{t:List (List (Int×Int))}{n i a b k:Nat}(hv:br nj v t)(hw:br nk w t)(hT:fK t n 72)(hn:n=2\/n=4)(hi:i<4)(ha:a<n)(hb:b<n)(hk:k<n/2){R:AV}{ct:Nat}{H:Hp}(hg:ax H 1=GW (.cells ycN ycN ycN 2 [v,w]))(hC:∀u w l,dw [2,3,4,5,6,7,8,9,10,11,12,13] (nN n i a R b u w (i/2*(n/2)+k) l) H ct):
  bP P L [2,3,4,5,6,7,8,9,10,11,12,13] LS (fun d st=>∃l,l+d=n/2/\st=⟨nN n i a R b (bm (lC t n i a b) (n/2) k l) (bm (lD t n i a b) (n/2) k l) (i/2*(n/2)+k) (i%2*(n/2)+l),H,ct,0⟩) (fun ex s'=>∃tm c',s'=⟨tm,H,c',0⟩/\ex=.exit 8/\cu tm [2,3,4,5,6,7,8,9,10,11,12]=nO n i a R b (bm (lC t n i a b) (n/2) (k+1) 0) (bm (lD t n i a b) (n/2) (k+1) 0) (i/2*(n/2)+k)):=by
 apply bQ;rintro d st ⟨l,DT,rfl⟩;have bt:=ah1 hT hn hi a b;have oV:((n:Int).tdiv 2)=((n/2:Nat):Int):=(vZ n 2).symm;have OJ:((i:Int).tmod 2)=((i%2:Nat):Int):=(ybT i 2).symm;have To:n/2<=2:=by omega
 have Tv:i%2<=1:=by omega
 have Kq:i/2*(n/2)+k<n:=by
  have:i/2<=1:=by omega
  have:i/2*(n/2)<=1*(n/2):=yQ _ this
  omega
 have hp0:i%2*(n/2)<=2:=by
  have:i%2*(n/2)<=1*(n/2):=yQ _ Tv
  omega
 have hL:i%2*(n/2)+n/2<=n:=by
  have:i%2*(n/2)<=1*(n/2):=yQ _ Tv
  omega
 have lT:((i%2:Nat):Int)*((n/2:Nat):Int)=((i%2*(n/2):Nat):Int):=(xk _ _).symm;have s1:∀l,l<n/2->_:=fun l hl=>mS (f:=lC t n i a b) (n:=n/2) (B:=72) (by decide) (by omega) (fun k l hk hl=>(bt k l hk hl).1) (A:=k) (C:=l) (by omega) (by omega) (.inl hk)
 have s2:∀l,l<n/2->_:=fun l hl=>mS (f:=lD t n i a b) (n:=n/2) (B:=72) (by decide) (by omega) (fun k l hk hl=>(bt k l hk hl).2) (A:=k) (C:=l) (by omega) (by omega) (.inl hk)
 have MI:decide ((((i%2*(n/2)+l:Nat)):Int)<((i%2*(n/2):Nat):Int)+((n/2:Nat):Int))=decide (l<n/2):=vL.2 (by omega);by_cases hl:l<n/2
 .left
  have hL1:i%2*(n/2)+l<n:=by omega
  obtain⟨x,r1,y,r2,r3,r4,e0,e1,e2,e3⟩:=IX.at hv hw hT Kq hL1;have sm:=hT.small _ _ Kq hL1;have s1:=s1 l hl;have s2:=s2 l hl;have hu:bm (lC t n i a b) (n/2) k (l+1)=bm (lC t n i a b) (n/2) k l+sU (mz t (i/2*(n/2)+k) (i%2*(n/2)+l)).1 (mz t (i/2*(n/2)+k) (i%2*(n/2)+l)).2 (fh n a (i/2*(n/2)+k) b (i%2*(n/2)+l)):=CR _ _ _ _;have Bc:bm (lD t n i a b) (n/2) k (l+1)=bm (lD t n i a b) (n/2) k l+sW (mz t (i/2*(n/2)+k) (i%2*(n/2)+l)).1 (mz t (i/2*(n/2)+k) (i%2*(n/2)+l)).2 (fh n a (i/2*(n/2)+k) b (i%2*(n/2)+l)):=CR _ _ _ _;have oU:i%2*(n/2)+(l+1)=i%2*(n/2)+l+1:=by omega
  suffices hh:∃s',_=GW (Ex.normal,s')/\bq [2,3,4,5,6,7,8,9,10,11,12,13] s'=⟨nN n i a R b (bm (lC t n i a b) (n/2) k (l+1)) (bm (lD t n i a b) (n/2) k (l+1)) (i/2*(n/2)+k) (i%2*(n/2)+(l+1)),H,ct,0⟩ by
   obtain⟨s',q1,q2⟩:=hh;exact⟨s',d-1,q1,by omega,l+1,by omega,q2⟩
  rw[hu,Bc,oU];have qW:=hC (bm (lC t n i a b) (n/2) k l+sU (mz t (i/2*(n/2)+k) (i%2*(n/2)+l)).1 (mz t (i/2*(n/2)+k) (i%2*(n/2)+l)).2 (fh n a (i/2*(n/2)+k) b (i%2*(n/2)+l))) (bm (lD t n i a b) (n/2) k l+sW (mz t (i/2*(n/2)+k) (i%2*(n/2)+l)).1 (mz t (i/2*(n/2)+k) (i%2*(n/2)+l)).2 (fh n a (i/2*(n/2)+k) b (i%2*(n/2)+l))) (i%2*(n/2)+l+1);clear hu Bc hC bt oU;generalize hK:i/2*(n/2)+k=K at*
  generalize hLL:i%2*(n/2)+l=L' at*
  generalize bm (lC t n i a b) (n/2) k l=u at*
  generalize bm (lD t n i a b) (n/2) k l=z at*
  obtain⟨bc,bs⟩:=ah0 (fh n a K b L');obtain⟨f1,f2,f3,f4,f5,f6,f7,f8,f9,f10⟩:=adv h.toRn h.r9 (x:=(mz t K L').1) (y:=(mz t K L').2) (u:=u) (w:=z) (by omega) (by omega) bc bs (by omega) (by omega);have f0:=Yk (P:=P) (L:=L) h.Gg (n:=fh n a K b L');have Ej:(a:Int)*K=((a*K:Nat):Int):=by rw[xk]
  have nB:(b:Int)*L'=((b*L':Nat):Int):=by rw[xk]
  have b1:a*K<=16:=xF (show a<=4 by omega) (show K<=4 by omega);have b2:b*L'<=16:=xF (show b<=4 by omega) (show L'<=4 by omega);have hex:((((a*K:Nat):Int)+((b*L':Nat):Int))*4).tdiv n=fh n a K b L':=by unfold fh;rw[uZ]
  have Z0: -1000<=fh n a K b L'/\fh n a K b L'<=1000:=by
   rcases hn with rfl | rfl
   .rw [QX];omega
   .rw [QY];omega
  have jq:(n:Int)≠0:=by omega
  unfold af at f0 f1 f2 f3 f4 f5 f6 f7 f8 f9 f10
  simp only[go_sem,ya,LS,nN,rT,dl _ _ _ (show (2:Int)≠0 by decide),fF _ _ _ (show (2:Int)≠0 by decide),oV,OJ,lT,wrap64 (n:=((n/2:Nat):Int)) (by omega) (by omega),wrap64 (n:=((i%2*(n/2):Nat):Int)) (by omega) (by omega),wrap64 (n:=((i%2*(n/2):Nat):Int)+((n/2:Nat):Int)) (by omega) (by omega),MI,hl,yy,hg,bH,yf,yg,we,e0,e1,e2,e3,Ej,nB,wrap64 (n:=((a*K:Nat):Int)) (by omega) (by omega),wrap64 (n:=((b*L':Nat):Int)) (by omega) (by omega),wrap64 (n:=((a*K:Nat):Int)+((b*L':Nat):Int)) (by omega) (by omega),wrap64 (n:=(((a*K:Nat):Int)+((b*L':Nat):Int))*4) (by omega) (by omega),dl _ _ _ jq,hex,wrap64 (n:=fh n a K b L') (by omega) (by omega),f0,f1,f2,f3,f4,f5,f6,f7,f8,f9,f10];refine⟨_,rfl,?_⟩;rw[wrap64 (by omega) (by omega)];exact cO (by simp only[go_sem,ya]<;>rfl) qW
 .right
  have Ec:l=n/2:=by omega
  simp only[go_sem,ya,LS,nN,dl _ _ _ (show (2:Int)≠0 by decide),fF _ _ _ (show (2:Int)≠0 by decide),oV,OJ,lT,wrap64 (n:=((n/2:Nat):Int)) (by omega) (by omega),wrap64 (n:=((i%2*(n/2):Nat):Int)) (by omega) (by omega),wrap64 (n:=((i%2*(n/2):Nat):Int)+((n/2:Nat):Int)) (by omega) (by omega),MI,hl,yA];refine⟨_,_,rfl,by simp,_,_,rfl,rfl,?_⟩;rw[<-CY,<-CY,Ec];simp only[go_sem,ya]<;>rfl
section
variable {c x y:AV}{p q r s:List AV}
def fa(n i a:Nat)(R:AV)(b:Nat):Env:=[(2,.ptr 0 0),(3,.ptr 1 0),(4,aa n),(5,.ptr 2 0),(6,aa i),(7,aa a),(8,R),(9,aa b)]
def rG(n i a:Nat)(R:AV):Env:=[(2,.ptr 0 0),(3,.ptr 1 0),(4,aa n),(5,.ptr 2 0),(6,aa i),(7,aa a),(8,R)]
def oI(n i a:Nat):Env:=[(2,.ptr 0 0),(3,.ptr 1 0),(4,aa n),(5,.ptr 2 0),(6,aa i),(7,aa a)]
def nP(n i:Nat):Env:=[(2,.ptr 0 0),(3,.ptr 1 0),(4,aa n),(5,.ptr 2 0),(6,aa i)]
structure zX(v w:AV)(n i a:Nat)(F:Hp)(f:Nat):Prop where
 g1:∀ws,ax (rh f F ws) 1=GW (.cells ycN ycN ycN 2 [v,w])
 l2:∀b ws,dw [2,3,4,5,6,7,8,9] (fa n i a (rr f ws) b) (rh f F ws) (rc f ws)
 l1:∀b ws u z k,dw [2,3,4,5,6,7,8,9,10,11,12] (nO n i a (rr f ws) b u z k) (rh f F ws) (rc f ws)
 l0:∀b ws u z k l,dw [2,3,4,5,6,7,8,9,10,11,12,13] (nN n i a (rr f ws) b u z k l) (rh f F ws) (rc f ws)
 Tq:∀b ws u z,dw [2,3,4,5,6,7,8,9,10,11] (rF n i a (rr f ws) b u z) (rh f F ws) (rc f ws)
 nw:∀b o1 ws c,bq [2,3,4,5,6,7,8,9] ⟨fa n i a (.aq (f+1) 0 1) b,(f+1,.cells ycN ycN ycO 1 [ws])::(f,o1)::F,c,0⟩=⟨fa n i a (.aq f 0 1) b,(f,.cells ycN ycN ycO 1 [ws])::F,f+1,0⟩
 mr:∀b m o1 ws c,bq [2,3,4,5,6,7,8,9] ⟨fa n i a (.aq (f+2) 0 m) b,(f+2,.cells ycN ycN ycO 1 ws)::(f+1,o1)::dV F f,c,0⟩=⟨fa n i a (.aq f 0 m) b,(f,.cells ycN ycN ycO 1 ws)::F,f+1,0⟩
 l3:dw [2,3,4,5,6,7] (oI n i a) F f
 OM:∀j:Nat,dw [2,3,4,5,6] (nP n j) F f
 Z2:∀ws,dw [2,3,4,5,6,7,8] (rG n i a (rr f ws)) (rh f F ws) (rc f ws)
def qH(v w:AV)(G:List (List AV)):Hp:=gB 3 G [(2,.cells ycN (gP G) ycN 4 (gC 3 G)),(1,.cells ycN ycN ycN 2 [v,w]),(0,.cells ycN ycN ycN 4 aJ)]
def qF(G:List (List AV)):Nat:=gN G 3
def awA(v w:AV)(n i a:Nat):zX v w n i a (qH v w (gO [] [])) (qF (gO [] [])):=by
 refine⟨fun ws=>by cases ws<;>rfl,fun b ws=>⟨rfl,fun c=>?_⟩,fun b ws u z k=>⟨rfl,fun c=>?_⟩,fun b ws u z k l=>⟨rfl,fun c=>?_⟩,fun b ws u z=>⟨rfl,fun c=>?_⟩,fun b o1 ws c=>?_,fun b m o1 ws c=>?_,⟨rfl,fun c=>?_⟩,fun j=>⟨rfl,fun c=>?_⟩,fun ws=>⟨rfl,fun c=>?_⟩⟩
 .cases ws<;>simp only[go_sem,ya,yb,ae,fa,rr,rh,rc,gO,qH,gB,gC,gN,gP,qF,aJ]<;>rfl
 .cases ws<;>simp only[go_sem,ya,yb,ae,nO,rT,rr,rh,rc,gO,qH,gB,gC,gN,gP,qF,aJ]<;>rfl
 .cases ws<;>simp only[go_sem,ya,yb,ae,nN,rT,rr,rh,rc,gO,qH,gB,gC,gN,gP,qF,aJ]<;>rfl
 .cases ws<;>simp only[go_sem,ya,yb,ae,rF,rT,rr,rh,rc,gO,qH,gB,gC,gN,gP,qF,aJ]<;>rfl
 .simp only [go_sem,ya,yb,ae,fa,gO,qH,gB,gC,gN,gP,qF,aJ]<;>rfl
 .simp only [go_sem,ya,yb,ae,fa,gO,qH,gB,gC,gN,gP,qF,aJ]<;>rfl
 .simp only [go_sem,ya,yb,ae,oI,gO,qH,gB,gC,gN,gP,qF,aJ]<;>rfl
 .simp only [go_sem,ya,yb,ae,nP,gO,qH,gB,gC,gN,gP,qF,aJ]<;>rfl
 .cases ws<;>simp only[go_sem,ya,yb,ae,rG,rr,rh,rc,gO,qH,gB,gC,gN,gP,qF,aJ]<;>rfl
def awB(v w:AV)(n i a:Nat):zX v w n i a (qH v w (gO [] (c::s))) (qF (gO [] (c::s))):=by
 refine⟨fun ws=>by cases ws<;>rfl,fun b ws=>⟨rfl,fun c=>?_⟩,fun b ws u z k=>⟨rfl,fun c=>?_⟩,fun b ws u z k l=>⟨rfl,fun c=>?_⟩,fun b ws u z=>⟨rfl,fun c=>?_⟩,fun b o1 ws c=>?_,fun b m o1 ws c=>?_,⟨rfl,fun c=>?_⟩,fun j=>⟨rfl,fun c=>?_⟩,fun ws=>⟨rfl,fun c=>?_⟩⟩
 .cases ws<;>simp only[go_sem,ya,yb,ae,fa,rr,rh,rc,gO,qH,gB,gC,gN,gP,qF,aJ]<;>rfl
 .cases ws<;>simp only[go_sem,ya,yb,ae,nO,rT,rr,rh,rc,gO,qH,gB,gC,gN,gP,qF,aJ]<;>rfl
 .cases ws<;>simp only[go_sem,ya,yb,ae,nN,rT,rr,rh,rc,gO,qH,gB,gC,gN,gP,qF,aJ]<;>rfl
 .cases ws<;>simp only[go_sem,ya,yb,ae,rF,rT,rr,rh,rc,gO,qH,gB,gC,gN,gP,qF,aJ]<;>rfl
 .simp only [go_sem,ya,yb,ae,fa,gO,qH,gB,gC,gN,gP,qF,aJ]<;>rfl
 .simp only [go_sem,ya,yb,ae,fa,gO,qH,gB,gC,gN,gP,qF,aJ]<;>rfl
 .simp only [go_sem,ya,yb,ae,oI,gO,qH,gB,gC,gN,gP,qF,aJ]<;>rfl
 .simp only [go_sem,ya,yb,ae,nP,gO,qH,gB,gC,gN,gP,qF,aJ]<;>rfl
 .cases ws<;>simp only[go_sem,ya,yb,ae,rG,rr,rh,rc,gO,qH,gB,gC,gN,gP,qF,aJ]<;>rfl
def awC(v w:AV)(n i a:Nat):zX v w n i a (qH v w (gO [x::p] [])) (qF (gO [x::p] [])):=by
 refine⟨fun ws=>by cases ws<;>rfl,fun b ws=>⟨rfl,fun c=>?_⟩,fun b ws u z k=>⟨rfl,fun c=>?_⟩,fun b ws u z k l=>⟨rfl,fun c=>?_⟩,fun b ws u z=>⟨rfl,fun c=>?_⟩,fun b o1 ws c=>?_,fun b m o1 ws c=>?_,⟨rfl,fun c=>?_⟩,fun j=>⟨rfl,fun c=>?_⟩,fun ws=>⟨rfl,fun c=>?_⟩⟩
 .cases ws<;>simp only[go_sem,ya,yb,ae,fa,rr,rh,rc,gO,qH,gB,gC,gN,gP,qF,aJ]<;>rfl
 .cases ws<;>simp only[go_sem,ya,yb,ae,nO,rT,rr,rh,rc,gO,qH,gB,gC,gN,gP,qF,aJ]<;>rfl
 .cases ws<;>simp only[go_sem,ya,yb,ae,nN,rT,rr,rh,rc,gO,qH,gB,gC,gN,gP,qF,aJ]<;>rfl
 .cases ws<;>simp only[go_sem,ya,yb,ae,rF,rT,rr,rh,rc,gO,qH,gB,gC,gN,gP,qF,aJ]<;>rfl
 .simp only [go_sem,ya,yb,ae,fa,gO,qH,gB,gC,gN,gP,qF,aJ]<;>rfl
 .simp only [go_sem,ya,yb,ae,fa,gO,qH,gB,gC,gN,gP,qF,aJ]<;>rfl
 .simp only [go_sem,ya,yb,ae,oI,gO,qH,gB,gC,gN,gP,qF,aJ]<;>rfl
 .simp only [go_sem,ya,yb,ae,nP,gO,qH,gB,gC,gN,gP,qF,aJ]<;>rfl
 .cases ws<;>simp only[go_sem,ya,yb,ae,rG,rr,rh,rc,gO,qH,gB,gC,gN,gP,qF,aJ]<;>rfl
def awD(v w:AV)(n i a:Nat):zX v w n i a (qH v w (gO [x::p] (c::s))) (qF (gO [x::p] (c::s))):=by
 refine⟨fun ws=>by cases ws<;>rfl,fun b ws=>⟨rfl,fun c=>?_⟩,fun b ws u z k=>⟨rfl,fun c=>?_⟩,fun b ws u z k l=>⟨rfl,fun c=>?_⟩,fun b ws u z=>⟨rfl,fun c=>?_⟩,fun b o1 ws c=>?_,fun b m o1 ws c=>?_,⟨rfl,fun c=>?_⟩,fun j=>⟨rfl,fun c=>?_⟩,fun ws=>⟨rfl,fun c=>?_⟩⟩
 .cases ws<;>simp only[go_sem,ya,yb,ae,fa,rr,rh,rc,gO,qH,gB,gC,gN,gP,qF,aJ]<;>rfl
 .cases ws<;>simp only[go_sem,ya,yb,ae,nO,rT,rr,rh,rc,gO,qH,gB,gC,gN,gP,qF,aJ]<;>rfl
 .cases ws<;>simp only[go_sem,ya,yb,ae,nN,rT,rr,rh,rc,gO,qH,gB,gC,gN,gP,qF,aJ]<;>rfl
 .cases ws<;>simp only[go_sem,ya,yb,ae,rF,rT,rr,rh,rc,gO,qH,gB,gC,gN,gP,qF,aJ]<;>rfl
 .simp only [go_sem,ya,yb,ae,fa,gO,qH,gB,gC,gN,gP,qF,aJ]<;>rfl
 .simp only [go_sem,ya,yb,ae,fa,gO,qH,gB,gC,gN,gP,qF,aJ]<;>rfl
 .simp only [go_sem,ya,yb,ae,oI,gO,qH,gB,gC,gN,gP,qF,aJ]<;>rfl
 .simp only [go_sem,ya,yb,ae,nP,gO,qH,gB,gC,gN,gP,qF,aJ]<;>rfl
 .cases ws<;>simp only[go_sem,ya,yb,ae,rG,rr,rh,rc,gO,qH,gB,gC,gN,gP,qF,aJ]<;>rfl
def awE(v w:AV)(n i a:Nat):zX v w n i a (qH v w (gO [x::p,y::q] [])) (qF (gO [x::p,y::q] [])):=by
 refine⟨fun ws=>by cases ws<;>rfl,fun b ws=>⟨rfl,fun c=>?_⟩,fun b ws u z k=>⟨rfl,fun c=>?_⟩,fun b ws u z k l=>⟨rfl,fun c=>?_⟩,fun b ws u z=>⟨rfl,fun c=>?_⟩,fun b o1 ws c=>?_,fun b m o1 ws c=>?_,⟨rfl,fun c=>?_⟩,fun j=>⟨rfl,fun c=>?_⟩,fun ws=>⟨rfl,fun c=>?_⟩⟩
 .cases ws<;>simp only[go_sem,ya,yb,ae,fa,rr,rh,rc,gO,qH,gB,gC,gN,gP,qF,aJ]<;>rfl
 .cases ws<;>simp only[go_sem,ya,yb,ae,nO,rT,rr,rh,rc,gO,qH,gB,gC,gN,gP,qF,aJ]<;>rfl
 .cases ws<;>simp only[go_sem,ya,yb,ae,nN,rT,rr,rh,rc,gO,qH,gB,gC,gN,gP,qF,aJ]<;>rfl
 .cases ws<;>simp only[go_sem,ya,yb,ae,rF,rT,rr,rh,rc,gO,qH,gB,gC,gN,gP,qF,aJ]<;>rfl
 .simp only [go_sem,ya,yb,ae,fa,gO,qH,gB,gC,gN,gP,qF,aJ]<;>rfl
 .simp only [go_sem,ya,yb,ae,fa,gO,qH,gB,gC,gN,gP,qF,aJ]<;>rfl
 .simp only [go_sem,ya,yb,ae,oI,gO,qH,gB,gC,gN,gP,qF,aJ]<;>rfl
 .simp only [go_sem,ya,yb,ae,nP,gO,qH,gB,gC,gN,gP,qF,aJ]<;>rfl
 .cases ws<;>simp only[go_sem,ya,yb,ae,rG,rr,rh,rc,gO,qH,gB,gC,gN,gP,qF,aJ]<;>rfl
def awF(v w:AV)(n i a:Nat):zX v w n i a (qH v w (gO [x::p,y::q] (c::s))) (qF (gO [x::p,y::q] (c::s))):=by
 refine⟨fun ws=>by cases ws<;>rfl,fun b ws=>⟨rfl,fun c=>?_⟩,fun b ws u z k=>⟨rfl,fun c=>?_⟩,fun b ws u z k l=>⟨rfl,fun c=>?_⟩,fun b ws u z=>⟨rfl,fun c=>?_⟩,fun b o1 ws c=>?_,fun b m o1 ws c=>?_,⟨rfl,fun c=>?_⟩,fun j=>⟨rfl,fun c=>?_⟩,fun ws=>⟨rfl,fun c=>?_⟩⟩
 .cases ws<;>simp only[go_sem,ya,yb,ae,fa,rr,rh,rc,gO,qH,gB,gC,gN,gP,qF,aJ]<;>rfl
 .cases ws<;>simp only[go_sem,ya,yb,ae,nO,rT,rr,rh,rc,gO,qH,gB,gC,gN,gP,qF,aJ]<;>rfl
 .cases ws<;>simp only[go_sem,ya,yb,ae,nN,rT,rr,rh,rc,gO,qH,gB,gC,gN,gP,qF,aJ]<;>rfl
 .cases ws<;>simp only[go_sem,ya,yb,ae,rF,rT,rr,rh,rc,gO,qH,gB,gC,gN,gP,qF,aJ]<;>rfl
 .simp only [go_sem,ya,yb,ae,fa,gO,qH,gB,gC,gN,gP,qF,aJ]<;>rfl
 .simp only [go_sem,ya,yb,ae,fa,gO,qH,gB,gC,gN,gP,qF,aJ]<;>rfl
 .simp only [go_sem,ya,yb,ae,oI,gO,qH,gB,gC,gN,gP,qF,aJ]<;>rfl
 .simp only [go_sem,ya,yb,ae,nP,gO,qH,gB,gC,gN,gP,qF,aJ]<;>rfl
 .cases ws<;>simp only[go_sem,ya,yb,ae,rG,rr,rh,rc,gO,qH,gB,gC,gN,gP,qF,aJ]<;>rfl
def awG(v w:AV)(n i a:Nat){z:AV}:zX v w n i a (qH v w (gO [x::p,y::q,z::r] [])) (qF (gO [x::p,y::q,z::r] [])):=by
 refine⟨fun ws=>by cases ws<;>rfl,fun b ws=>⟨rfl,fun c=>?_⟩,fun b ws u z k=>⟨rfl,fun c=>?_⟩,fun b ws u z k l=>⟨rfl,fun c=>?_⟩,fun b ws u z=>⟨rfl,fun c=>?_⟩,fun b o1 ws c=>?_,fun b m o1 ws c=>?_,⟨rfl,fun c=>?_⟩,fun j=>⟨rfl,fun c=>?_⟩,fun ws=>⟨rfl,fun c=>?_⟩⟩
 .cases ws<;>simp only[go_sem,ya,yb,ae,fa,rr,rh,rc,gO,qH,gB,gC,gN,gP,qF,aJ]<;>rfl
 .cases ws<;>simp only[go_sem,ya,yb,ae,nO,rT,rr,rh,rc,gO,qH,gB,gC,gN,gP,qF,aJ]<;>rfl
 .cases ws<;>simp only[go_sem,ya,yb,ae,nN,rT,rr,rh,rc,gO,qH,gB,gC,gN,gP,qF,aJ]<;>rfl
 .cases ws<;>simp only[go_sem,ya,yb,ae,rF,rT,rr,rh,rc,gO,qH,gB,gC,gN,gP,qF,aJ]<;>rfl
 .simp only [go_sem,ya,yb,ae,fa,gO,qH,gB,gC,gN,gP,qF,aJ]<;>rfl
 .simp only [go_sem,ya,yb,ae,fa,gO,qH,gB,gC,gN,gP,qF,aJ]<;>rfl
 .simp only [go_sem,ya,yb,ae,oI,gO,qH,gB,gC,gN,gP,qF,aJ]<;>rfl
 .simp only [go_sem,ya,yb,ae,nP,gO,qH,gB,gC,gN,gP,qF,aJ]<;>rfl
 .cases ws<;>simp only[go_sem,ya,yb,ae,rG,rr,rh,rc,gO,qH,gB,gC,gN,gP,qF,aJ]<;>rfl
def awH(v w:AV)(n i a:Nat){z:AV}:zX v w n i a (qH v w (gO [x::p,y::q,z::r] (c::s))) (qF (gO [x::p,y::q,z::r] (c::s))):=by
 refine⟨fun ws=>by cases ws<;>rfl,fun b ws=>⟨rfl,fun c=>?_⟩,fun b ws u z k=>⟨rfl,fun c=>?_⟩,fun b ws u z k l=>⟨rfl,fun c=>?_⟩,fun b ws u z=>⟨rfl,fun c=>?_⟩,fun b o1 ws c=>?_,fun b m o1 ws c=>?_,⟨rfl,fun c=>?_⟩,fun j=>⟨rfl,fun c=>?_⟩,fun ws=>⟨rfl,fun c=>?_⟩⟩
 .cases ws<;>simp only[go_sem,ya,yb,ae,fa,rr,rh,rc,gO,qH,gB,gC,gN,gP,qF,aJ]<;>rfl
 .cases ws<;>simp only[go_sem,ya,yb,ae,nO,rT,rr,rh,rc,gO,qH,gB,gC,gN,gP,qF,aJ]<;>rfl
 .cases ws<;>simp only[go_sem,ya,yb,ae,nN,rT,rr,rh,rc,gO,qH,gB,gC,gN,gP,qF,aJ]<;>rfl
 .cases ws<;>simp only[go_sem,ya,yb,ae,rF,rT,rr,rh,rc,gO,qH,gB,gC,gN,gP,qF,aJ]<;>rfl
 .simp only [go_sem,ya,yb,ae,fa,gO,qH,gB,gC,gN,gP,qF,aJ]<;>rfl
 .simp only [go_sem,ya,yb,ae,fa,gO,qH,gB,gC,gN,gP,qF,aJ]<;>rfl
 .simp only [go_sem,ya,yb,ae,oI,gO,qH,gB,gC,gN,gP,qF,aJ]<;>rfl
 .simp only [go_sem,ya,yb,ae,nP,gO,qH,gB,gC,gN,gP,qF,aJ]<;>rfl
 .cases ws<;>simp only[go_sem,ya,yb,ae,rG,rr,rh,rc,gO,qH,gB,gC,gN,gP,qF,aJ]<;>rfl
def fr7{v w:AV}(n a:Nat){D:List (List AV)}{i:Nat}(hD:gD D)(hl:D.length=i)(hi:i<4)(C:List AV):zX v w n i a (qH v w (gO D C)) (qF (gO D C))/\(qF (gO D C)=3\/qF (gO D C)=4\/qF (gO D C)=5\/qF (gO D C)=6\/qF (gO D C)=7):=by
 rcases PQ hD hl hi with ⟨rfl,rfl⟩ | ⟨x,p,rfl,rfl⟩ | ⟨x,p,y,q,rfl,rfl⟩ | ⟨x,p,y,q,z,r,rfl,rfl⟩<;>cases C
 .exact ⟨awA v w n _ a,.inl rfl⟩
 .exact ⟨awB v w n _ a,.inr (.inl rfl)⟩
 .exact ⟨awC v w n _ a,.inr (.inl rfl)⟩
 .exact ⟨awD v w n _ a,.inr (.inr (.inl rfl))⟩
 .exact ⟨awE v w n _ a,.inr (.inr (.inl rfl))⟩
 .exact ⟨awF v w n _ a,.inr (.inr (.inr (.inl rfl)))⟩
 .exact ⟨awG v w n _ a,.inr (.inr (.inr (.inl rfl)))⟩
 .exact ⟨awH v w n _ a,.inr (.inr (.inr (.inr rfl)))⟩
def awI(h:Imr P L){v w:AV}{t:List (List (Int×Int))}{n i a b:Nat}(hv:br nj v t)(hw:br nk w t)(hT:fK t n 72)(hn:n=2\/n=4)(hi:i<4)(ha:a<n)(hb:b<n){R:AV}{ct:Nat}{H:Hp}(hg:ax H 1=GW (.cells ycN ycN ycN 2 [v,w]))(hC:∀u w k l,dw [2,3,4,5,6,7,8,9,10,11,12,13] (nN n i a R b u w k l) H ct)(El:∀u w k,dw [2,3,4,5,6,7,8,9,10,11,12] (nO n i a R b u w k) H ct):
  bP P L [2,3,4,5,6,7,8,9,10,11,12] LU (fun d st=>∃k,k+d=n/2/\st=⟨nO n i a R b (bm (lC t n i a b) (n/2) k 0) (bm (lD t n i a b) (n/2) k 0) (i/2*(n/2)+k),H,ct,0⟩) (fun ex s'=>∃tm c',s'=⟨tm,H,c',0⟩/\ex=.exit 6/\cu tm [2,3,4,5,6,7,8,9,10,11]=rF n i a R b (bm (lC t n i a b) (n/2) (n/2) 0) (bm (lD t n i a b) (n/2) (n/2) 0)):=by
 apply bQ;rintro d st ⟨k,Cu,rfl⟩;have oV:((n:Int).tdiv 2)=((n/2:Nat):Int):=(vZ n 2).symm;have OJ:((i:Int).tmod 2)=((i%2:Nat):Int):=(ybT i 2).symm;have A7:((i:Int).tdiv 2)=((i/2:Nat):Int):=(vZ i 2).symm;have To:n/2<=2:=by omega
 have Tv:i%2<=1:=by omega
 have Kq:i/2<=1:=by omega
 have hp0:i%2*(n/2)<=2:=by
  have:i%2*(n/2)<=1*(n/2):=yQ _ Tv
  omega
 have bk:i/2*(n/2)<=2:=by
  have:i/2*(n/2)<=1*(n/2):=yQ _ Kq
  omega
 have lT:((i%2:Nat):Int)*((n/2:Nat):Int)=((i%2*(n/2):Nat):Int):=(xk _ _).symm;have Oj:((i/2:Nat):Int)*((n/2:Nat):Int)=((i/2*(n/2):Nat):Int):=(xk _ _).symm;have MI:decide ((((i/2*(n/2)+k:Nat)):Int)<((i/2*(n/2):Nat):Int)+((n/2:Nat):Int))=decide (k<n/2):=vL.2 (by omega);by_cases hk:k<n/2
 .left
  have key:=awz h hv hw hT hn hi ha hb hk hg (fun u w l=>hC u w (i/2*(n/2)+k) l);have oU:i/2*(n/2)+(k+1)=i/2*(n/2)+k+1:=by omega
  simp only[go_sem,ya,LU,nO,dl _ _ _ (show (2:Int)≠0 by decide),fF _ _ _ (show (2:Int)≠0 by decide),oV,OJ,A7,lT,Oj,wrap64 (n:=((n/2:Nat):Int)) (by omega) (by omega),wrap64 (n:=((i/2:Nat):Int)) (by omega) (by omega),wrap64 (n:=((i%2*(n/2):Nat):Int)) (by omega) (by omega),wrap64 (n:=((i/2*(n/2):Nat):Int)) (by omega) (by omega),wrap64 (n:=((i/2*(n/2):Nat):Int)+((n/2:Nat):Int)) (by omega) (by omega),MI,hk,yy];generalize hq:D P L (.loop _ LS) _=q;obtain⟨ex,st,rfl,tm,c',rfl,rfl,cS⟩:=aW hq (key (n/2)) ⟨0,by omega,cO (by simp only[go_sem,ya]<;>rfl) (hC _ _ (i/2*(n/2)+k) (i%2*(n/2)))⟩
  simp only[go_sem,cO cS (El _ _ (i/2*(n/2)+k))];simp only[go_sem,ya,nO];refine⟨_,d-1,rfl,by omega,k+1,by omega,?_⟩;rw[wrap64 (by omega) (by omega),oU];exact cO (by simp only[go_sem,ya]<;>rfl) (El _ _ (i/2*(n/2)+k+1))
 .right
  have lS:k=n/2:=by omega
  simp only[go_sem,ya,LU,nO,dl _ _ _ (show (2:Int)≠0 by decide),oV,A7,Oj,wrap64 (n:=((n/2:Nat):Int)) (by omega) (by omega),wrap64 (n:=((i/2:Nat):Int)) (by omega) (by omega),wrap64 (n:=((i/2*(n/2):Nat):Int)) (by omega) (by omega),wrap64 (n:=((i/2*(n/2):Nat):Int)+((n/2:Nat):Int)) (by omega) (by omega),MI,hk,yA];refine⟨_,_,rfl,by simp,_,_,rfl,rfl,?_⟩;rw[lS];simp only[go_sem,ya]<;>rfl
end
end VE
