import Derived.Test.YtfdcefmdjiokdaaGreatDoorWal
import Derived.Test.YtfdcefmdjiokdaaGreatDoorWaj
set_option linter.all false
set_option maxRecDepth 100000
open Bool renaming and_eq_true->yj,and_self->xt,false_and->xI,not_false->yQ,not_true->yM,true_and->xQ
open Int renaming emod_lt_of_pos->wU,emod_nonneg->wV,natAbs_natCast->wA,natCast_add->yaR,natCast_mul->xS
open List renaming all_cons->uk,all_eq_true->uB,any_eq_false->tU,any_eq_true->yaE,append_assoc->xu,append_nil->wh,drop->xK,drop_eq_getElem_cons->yP,drop_eq_nil_of_le->yY,drop_left->um,drop_length->tI,drop_zero->yh,eq_nil_of_length_eq_zero->yu,ext_getElem->uA,flatten_append->vD,flatten_cons->wq,flatten_nil->tF,flatten_replicate_singleton->tS,getD_eq_getElem?_getD->yW,getElem_append_left->wg,getElem_append_right->wz,getElem_cons_zero->wJ,getElem_map->xm,getElem_mem->yy,getElem_range->uQ,getElem_take->ybv,length->tK,length_append->yE,length_cons->yB,length_map->yg,length_nil->yI,length_range->tT,length_replicate->tx,length_set->wI,length_singleton->uK,length_take->yJ,map->vj,map_append->yX,map_congr_left->wL,map_cons->yS,map_id->tR,map_map->vH,map_nil->wu,mem_append->wm,mem_cons->wj,mem_cons_of_mem->xi,mem_cons_self->xA,mem_flatten->yaa,mem_iff_getElem->we,mem_map->xj,mem_of_mem_take->vI,mem_range->yap,mem_singleton->wD,nil_append->xy,nodup_cons->vz,nodup_range'->ybu,range->wO,replicate->ye,replicate_succ->wG,take_append_drop->xX,take_length->xH,take_of_length_le->yq,take_succ_eq_append_getElem->yk,take_zero->vC,zipWith->vJ
open Nat renaming le_of_lt->uh,le_refl->ym,min_eq_left->xq,mul_le_mul->xo,mul_le_mul_right->yR,mul_lt_mul''->th,mul_one->yf,mul_pos->ux,not_lt_zero->vh,pow_add->wP,pow_le_pow_right->y9,reduceAdd->yb,reduceEqDiff->ya,reduceLT->yA,reduceLeDiff->yi,reduceMul->yV,sub_self->uj,zero_add->yd
open Option.some renaming injEq->yc
open Rat renaming add_mul->yba,den_intCast->uz,den_pos->ybb,divInt_eq_div->tX,div_def->yaX,intCast_add->ybM,intCast_natCast->ud,mul_assoc->ycr,mul_one->ycI,natCast_eq_zero_iff->yaK,num_divInt_den->ybr,num_intCast->vY,sub_eq_add_neg->yas,zero_mul->ybN
open Option renaming some->Ix
open Bool renaming true->ycO,false->ycP
namespace VE
open Go (IntKind)
variable {P:aJ}{L:Lib}
variable{bx mv ov rv v wv xv:AV}{p x:Bool}{tm:Env}{fr:Int}{M:List (List (List Nat))}{ol:List (List Nat)}{V:List Rat}{pl:List cV}{G R W:Mx}{J K N nl:Nat}
section
variable {K n:Nat}
def Ek(n:Nat)(m:Mx):(mU n m).length=n:=by simp[mU]
def avy{i:Nat}{m:Mx}(h:i<n):(mU n m).take (i+1)=(mU n m).take i++[E (gj n m n) i n*(E (gj n m n) i i)⁻¹]:=by
 rw[yk (by rw[Ek];exact h)]
 simp[mU]
def aCT(h:Fr' P L)(hd:mV n W)(hw:wid (n+1) W)(lw:W.length=n)(hn:n<=900)(kW:iB K W)(DY:1<=K)(hK:4^n*(K+1)<=400000000):
  cL P L [5,6,49,50] Oq (fun d st=>∃(k:Nat) (T:List (List AV)),k+d=n/\bZ QL T (gj n W k)/\∃hp,st=⟨[(5,aa n),(6,.av 0 0 n),(49,aa n),(50,aa k)],hp,1+n,0⟩/\jI hp ycO ycO 4 (ye n (n+1)) T 0) (fun ex s'=>∃tm hp ct T,s'=⟨tm,hp,ct,0⟩/\ex=.exit 2/\ab tm 5=aa n/\ab tm 6=.av 0 0 n/\bZ QL T (gj n W n)/\jI hp ycO ycO 4 (ye n (n+1)) T 0):=by
 apply cP;rintro d st ⟨k,T,QM,hQ,hp,rfl,hG⟩;have lg:=BK n W k;have lT:T.length=n:=by rw[hQ.len,lg,lw]
 by_cases hk:k<n
 .left
  have FA:=Jz (n:=n) hw (by lia) k;have⟨J,j1,j2,j3⟩:=VB hw lw kW DY k (by lia);have hpw:4^k<=4^n:=y9 (by decide) (by lia);have hJ:=yR (K+1) hpw;have It:=(Tg hd hw lw k (by lia)).piv hd hk;have f0:=aCS (P:=P) (L:=L) h (m:=gj n W k) (n:=n) (k:=k) FA (by lia) hk hn It j3 j1 (by lia) n;have wk:IntKind.wrap .i64 ((k:Int)+1)=((k+1:Nat):Int):=wrap64 (by lia) (by lia);simp only[go_sem,ya,Oq,show (k:Int)<n by lia,yo];generalize hq:D P L (.loop _ G8) _=q;obtain⟨ex,st,rfl,tm,ff,HZ,T2,rfl,rfl,t5,t6,t49,t50,F0,QS⟩:=bg hq f0 ⟨0,T,by lia,hQ,(hG.comp (by simp only[go_sem,ya]<;>rfl) (by lia) (fun S s1=>by simp only[go_sem,ya,s1]<;>rfl)).imp (fun aq h=>⟨h.1.trans (by rw[lT]<;>rfl),h.2⟩)⟩
  have QT:T2.length=n:=by rw[F0.len,CN,lg,lw]
  have⟨Ie,e3,QU⟩:=QS.comp (ct:=HZ) (live:=[5,6,49,50]) (tm:=tm) (tm':=[(5,aa n),(6,.av 0 0 n),(49,aa n),(50,aa k)]) (by simp only[go_sem,t5,t6,t49,t50]<;>rfl) (by lia) (fun S s1=>by simp only[go_sem,t5,t6,t49,t50,s1]<;>rfl)
  simp only[go_sem,ya,e3,wk];refine⟨_,d-1,rfl,by lia,k+1,T2,by lia,F0,?_⟩;exact (QU.comp (by simp only[go_sem,ya]<;>rfl) (by lia) (fun S s1=>by simp only[go_sem,ya,s1]<;>rfl)).imp (fun aq h=>⟨h.1.trans (by rw[QT]),h.2⟩)
 .right
  have:k=n:=by lia
  subst this;simp only[go_sem,ya,Oq,show ¬(k:Int)<k by lia,yp];exact⟨_,_,rfl,by simp,_,_,_,T,rfl,rfl,rfl,rfl,hQ,hG⟩
def aCU(h:Fr' P L)(hd:mV n W)(hw:wid (n+1) W)(lw:W.length=n)(hn:n<=900)(kW:iB K W)(DY:1<=K)(hK:4^n*(K+1)<=400000000){T:List (List AV)}(hQ:bZ QL T (gj n W n)):
  cL P L [5,6,12,119,120] Ot (fun d st=>∃(i:Nat) (qs:List AV),i+d=n/\QL qs ((mU n W).take i)/\∃hp,st=⟨[(5,aa n),(6,.av 0 0 n),(12,.av (n+1) 0 n),(119,aa n),(120,aa i)],hp,1+(n+1),0⟩/\jI hp ycO ycO 4 (ye n (n+1)) T 0/\au hp (n+1)=Ix (.cells ycO ycO ycO 4 (qs++(ye (n-i) z4).flatten))) (fun ex s'=>∃tm hp ct qs,s'=⟨tm,hp,ct,0⟩/\ex=.exit 8/\ab tm 12=.av (n+1) 0 n/\QL qs (mU n W)/\au hp (n+1)=Ix (.cells ycO ycO ycO 4 qs)):=by
 apply cP;rintro d st ⟨i,qs,hid,hq,hp,rfl,hG,gB⟩;have lg:=BK n W n;have lT:T.length=n:=by rw[hQ.len,lg,lw]
 by_cases hi:i<n
 .left
  obtain⟨J,j1,j2,j3⟩:=VB hw lw kW DY n (ym n);have hv:=Tg hd hw lw n (ym n);have It:=hv.ab5 i hi;have wi:=Jz (n:=n) hw (by omega) n i (by omega);have qi:=hQ.QP (i:=i) (by omega);obtain⟨a1,a2,a3,a4,ar,d1,h1⟩:=qi.JA (c:=n) (by omega);obtain⟨b1,b2,b3,b4,br,d2,h2⟩:=qi.JA (c:=i) (by omega);have hE:∀c,c<n+1->Hq J (aO (gR (gj n W n) i) c):=fun c hc=>by
   rw[dw (by omega)];exact j3 i (by omega) _ (yy _)
  obtain⟨f,e1,hf⟩:=WI h h1 h2 It (hE n (by omega)) (hE i (by omega)) (by omega);rw[yaX] at hf;have rL:=hf;obtain⟨f1,f2,f3,f4,rfl,gf⟩:=hf.gen;have g1:=h1.f4;have g2:=h2.f4;obtain⟨q1,DZ⟩:=M8 (r:=0) (n:=n) (W:=ye n (n+1)) hi (by simp);rw[Na hi] at DZ;have g0:=hG.m;rw[lT] at g0;have gi:=hG.r i (by omega);have lq:=hq.len;rw[yJ,Ek,xq (by omega)] at lq;obtain⟨m,hm⟩:∃m,n-i=m+1:=⟨n-i-1,by omega⟩;rw[hm] at gB;have aK:=fun (hp:Hp) (ct id:Nat)=>ahK (hp:=hp) (ct:=ct) (id:=id) (i:=i) (m:=m) (ex:=ycO) (qs:=qs) lq gf
  have QR:IntKind.wrap .i64 ((i:Int)+1)=((i+1:Nat):Int):=wrap64 (by omega) (by omega);have bO:QL (qs++[f1,f2,f3,f4]) ((mU n W).take (i+1)):=by
   rw[avy hi];exact hq.snoc rL
  simp only[go_sem,ya,yf,Ot,show (i:Int)<n by omega,yo,As,b9 0 0 hi,yd,g0,DZ,EJ,gi,b9 (i+1) 0 (show n<n+1 by omega),b9 (i+1) 0 (show i<n+1 by omega),d1,d2,gP,g1.af,g2.af,e1,bf,b9 (n+1) 0 hi,gB,aK,QR];refine⟨_,d-1,rfl,by omega,i+1,qs++[f1,f2,f3,f4],by omega,bO,?_⟩;have hG':jI (aV hp (n+1) (.cells ycO ycO ycO 4 (qs++[f1,f2,f3,f4]++(ye m z4).flatten))) ycO ycO 4 (ye n (n+1)) T 0:=⟨hG.l,by rw[iP gB,yx (by omega)];exact hG.m,fun j hj=>by rw[iP gB,yx (by omega)];exact hG.r j hj⟩
  refine (hG'.TZ (p:=n+1) (by omega) (by rw[iP gB,yK rfl]) (by simp only[go_sem,ya]<;>rfl) (by omega) (fun S s1 s2=>by simp only[go_sem,ya,s1,s2,lT]<;>rfl)).imp (fun aq h=>⟨h.1.trans (by rw[lT]<;>rfl),h.2.1,?_⟩)
  have:=h.2.2
  rw[lT] at this;rw[show n-(i+1)=m by omega];exact this
 .right
  have:i=n:=by omega
  subst this;rw[yq (by rw[Ek];exact ym _)] at hq
  rw[uj,List.replicate_zero,tF,wh] at gB;simp only[go_sem,ya,Ot,show ¬(i:Int)<i by omega,yp];exact⟨_,_,rfl,by simp,_,_,_,qs,rfl,rfl,by simp only[go_sem,ya],hq,gB⟩
def m90(h:Fr' P L)(W7:Has P L 90 DH){y bv:AV}{b:List Rat}(hy:dL cQ y G)(hb:cQ bv b)(hwG:wid n G)(lG:G.length=n)(lb:b.length=n)(qJ:0<n)(hn:n<=900)(hd:mV n (dS G b))(kW:iB K (dS G b))(DY:1<=K)(hK:4^n*(K+1)<=400000000):∃r,ah P L 90 [y,bv] r/\cQ (shut r) (mU n (dS G b)):=by
 have hW:=Ej hwG (show b.length=G.length by omega);have lw:(dS G b).length=n:=by rw[rb (by omega)];exact lG
 have f0:=aCP (P:=P) (L:=L) hy hb hwG lG lb qJ hn n;have f1:=aCT (P:=P) (L:=L) h hd hW lw hn kW DY hK n;have ck:∀ct,rE ct 1 24 [AV.ae] (Ix n) (Ix n)=Ix (.av ct 0 n,.cells ycO ycO ycO 1 (ye n [AV.ae]).flatten):=fun ct=>BF (by omega) (by omega) rfl rfl
 have Cd:(ye n [AV.ae]).flatten=ye n AV.ae:=by
  rw[tS]
 rw[Cd] at ck;have aFM:∀ct,rE ct 4 64 [.int .i64 0,.ae,.int .i64 0,.ae] (Ix n) (Ix n)=Ix (.av ct 0 n,.cells ycO ycO ycO 4 (ye n z4).flatten):=fun ct=>BF (by omega) (by omega) rfl rfl
 have lbv:∀hp:Hp,fu hp 1 bv=Ix (aa n):=fun hp=>by have:=hb.len (hp:=hp);rwa[lb] at this
 have aCV:∃hp T,D P L (jh 4 DH.body) ⟨fY 0 [y,bv],[],0,0⟩=Ix (.normal,⟨[(5,aa n),(6,.av 0 0 n)],hp,1+n,0⟩)/\bZ QL T (gj n (dS G b) n)/\jI hp ycO ycO 4 (ye n (n+1)) T 0:=by
  simp only[go_sem,ya,yb,DH,jh,aX,aA,lbv,As,ck];generalize hq:D P L (.loop _ On) _=q;obtain⟨ex,st,rfl,tm,hp,ct,T,rfl,rfl,t5,t6,hQ,hG⟩:=bg hq f0 ⟨0,[],ycO,by omega,rfl,by simp[bZ],fun q=>absurd q (by decide),[(0,.cells ycO ycO ycO 1 (ye n .ae))],by simp only[go_sem,ya,yb,ao,aj hy.pu,aj hb.pu]<;>rfl,by simp[fq,dH,iC,iJ],fun j hj=>absurd hj (vh j)⟩
  have lT:T.length=n:=by rw[hQ.len,lw]
  obtain⟨Ie,e3,QU⟩:=hG.comp (ct:=ct) (live:=[5,6]) (tm:=tm) (tm':=[(5,aa n),(6,.av 0 0 n)]) (by simp only[go_sem,t5,t6]<;>rfl) (by omega) (fun S s1=>by simp only[go_sem,t5,t6,s1]<;>rfl)
  simp only[go_sem,e3];generalize Bc:D P L (.loop _ Oq) _=q2;obtain⟨ex,st,rfl,tm,hp,ct,T2,rfl,rfl,t5,t6,F0,QS⟩:=bg Bc f1 ⟨0,T,by omega,hQ,(QU.comp (by simp only[go_sem,ya]<;>rfl) (by omega) (fun S s1=>by simp only[go_sem,ya,s1]<;>rfl)).imp (fun aq h=>⟨h.1.trans (by rw[lT]<;>rfl),h.2⟩)⟩
  have QT:T2.length=n:=by rw[F0.len,BK,lw]
  obtain⟨hp4,e4,hG4⟩:=QS.comp (ct:=ct) (live:=[5,6]) (tm:=tm) (tm':=[(5,aa n),(6,.av 0 0 n)]) (by simp only[go_sem,t5,t6]<;>rfl) (by omega) (fun S s1=>by simp only[go_sem,t5,t6,s1]<;>rfl)
  rw[QT] at e4;simp only[go_sem,e4];exact⟨_,T2,rfl,F0,hG4⟩
 obtain⟨hp,T,hS,hQ,hG⟩:=aCV;have lT:T.length=n:=by rw[hQ.len,BK,lw]
 have hD:D P L DH.body ⟨fY 0 [y,bv],[],0,0⟩=D P L (bU 4 DH.body) ⟨[(5,aa n),(6,.av 0 0 n)],hp,1+n,0⟩:=by
  rw[SK 4 (c:=DH.body) (by refine⟨rfl,rfl,rfl,rfl,?_⟩;rfl),hS,il]
 have f2:=aCU (P:=P) (L:=L) h hd hW lw hn kW DY hK hQ n;have hG1:=hG.cons (p:=1+n) (by omega) (.cells ycO ycO ycO 4 (ye n z4).flatten);have fin:∃qs,ah P L 90 [y,bv] (.bR ycO 4 n qs)/\QL qs (mU n (dS G b)):=by
  unfold ah;rw[aB W7,hD];simp only[go_sem,ya,DH,bU,aA,As,aFM];generalize hq:D P L (.loop _ Ot) _=q;obtain⟨ex,st,rfl,tm,ff,HZ,qs,rfl,rfl,t12,Bc,gB⟩:=bg hq f2 ⟨0,[],by omega,trivial,(hG1.TZ (p:=1+n) (by omega) (fq _ _ _) (by simp only[go_sem,ya]<;>rfl) (by omega) (fun S s1 s2=>by simp only[go_sem,ya,s1,s2,lT]<;>rfl)).imp (fun aq h=>⟨h.1.trans (by rw[lT]<;>rfl),h.2.1,by have:=h.2.2;rw[lT] at this;simpa using this⟩)⟩
  refine⟨qs,?_,Bc⟩;simp only[go_sem,yb,ao,t12,gB];exact mW (fq _ _ _) (by rw[Bc.len,Ek]) (by decide)
 obtain⟨qs,e,hq⟩:=fin;refine⟨_,e,?_⟩
 have:=Ed ycO hq
 rwa[Ek] at this
end
section
variable {bx:AV}{x y:Bool}{tm tm':Env}{hp:Hp}{T:List (List AV)}{W ids live:List Nat}{a b ct i m r sz w:Nat}
def nW(R:Mx)(w:Nat):(dR R w).length=w:=by simp[dR]
def SU(h:i<w):gR (dR R w) i=R.map fun r=>aO r i:=by
 rw[di (by rw[nW];exact h)];simp[dR]
def Ns(R:Mx)(w:Nat):wid R.length (dR R w):=fun i hi=>by
 rw[nW] at hi;rw[SU hi,yg]
def Ub{k:Nat}(h:i<w)(hk:k<R.length):E (dR R w) i k=E R k i:=by
 unfold E;rw[SU h,di hk,dw (by rw[yg];exact hk),xm]
def iL(n:Nat):List Nat:=List.range' 2 n
def Ay(n:Nat):(iL n).length=n:=by simp[iL]
def YG{n:Nat}(h:i<(iL n).length):(iL n)[i]=i+2:=by
 simp only[iL,List.getElem_range'];lia
def Gj{n:Nat}:i∈iL n↔2<=i/\i<n+2:=by
 unfold iL;rw[List.mem_range'_1];lia
def asZ(n:Nat):iL (n+1)=iL n++[n+2]:=by
 unfold iL;rw[List.range'_1_concat];congr 2;lia
structure Bl(hp:Hp)(bx:AV)(p x y:Bool)(sz:Nat)(W:List Nat)(T:List (List AV))(r:Nat):Prop where
 l:W.length=T.length
 b:au hp 0=Ix (.cells ycO ycO ycO 1 [bx])
 m:au hp 1=Ix (.cells ycO p x 1 (dH (iL T.length) W r))
 q:0<T.length->p=ycP
 r:∀i,i<T.length->au hp (i+2)=Ix (.cells ycO ycO y sz (gT T i))
def ZR(hE:gY (cT tm live)=[b,a])(hb:au hp b=Ix (.cells ycO ycO ycO 1 [bx]))(hm:au hp a=Ix (.cells ycO p x 1 (dH ids W r)))(hp0:0<ids.length->p=ycP)(hl:ids.length=T.length)(hW:W.length=T.length)(hr:∀i (h:i<ids.length),au hp ids[i]=Ix (.cells ycO ycO y sz (gT T i)))(hM:T.length<=10000)(hn:(b::a::ids).Nodup)(hT:∀S,fG b S 0=Ix 0->fG a S 0=Ix 1->je (pos S) (cT tm live)=tm'):
  ∃aq,bW live ⟨tm,hp,ct,0⟩=⟨tm',aq,2+T.length,0⟩/\Bl aq bx p x y sz W T r:=by
 have Dn:∀i,i∈ids->∃o,au hp i=Ix o/\lZ o=[]:=fun i hi=>by
  obtain⟨k,hk,rfl⟩:=we.1 hi;exact⟨_,hr k hk,rfl⟩
 have nJ:=vz.1 hn;have eH:=vz.1 nJ.2;have hba:b≠a:=fun e=>nJ.1 (by rw[e];exact xA)
 have hrf:lZ (.cells ycO p x 1 (dH ids W r))=ids:=by
  cases p with
  | true=>
   rw[YR]
   cases ids with
   | nil=>rfl
   | cons i l=>exact absurd (hp0 (by simp)) (by decide)
  | false=>rw[YS,X5 r (by omega)]
 have hR:pE hp 100000 (gY (cT tm live)) []=b::a::ids:=by
  rw[hE,show (100000:Nat)=99998+1+1 from rfl,M1,R6,NX,hb,NY,YR,xy,xy,M1,XV _ hba,R6,NX,hm,NY,hrf]
  rw[Ze hp ids _ [] 99998 (by omega) Dn eH.2 (fun i hi q=>by
   rcases wm.1 q with q | q
   .grind
   .rw [wD.1 q] at hi
    exact eH.1 hi),ai0 hp (by omega)]
  rfl
 obtain⟨aq,e,g⟩:=aeA (ct:=ct) hR;have ls:(b::a::ids).length=2+ids.length:=by grind
 have pI:∀i (h:i<ids.length),pos (b::a::ids) ids[i]=Ix (2+i):=fun i h=>by
  have:=Gs (b::a::ids) 0 (i+2) (by simp;omega) hn
  rw[show (b::a::ids)[i+2]'(by simp;omega)=ids[i] from rfl] at this;rw[pos_eq,this];congr 1;omega
 have q0:fG b (b::a::ids) 0=Ix 0:=Gs (b::a::ids) 0 0 (by simp) hn;have q1:fG a (b::a::ids) 0=Ix 1:=Gs (b::a::ids) 0 1 (by simp) hn;refine⟨aq,by rw[e,hT _ q0 q1,ls,hl],⟨hW,?_,?_,fun h=>hp0 (by omega),fun i hi=>?_⟩⟩
 .exact g 0 (by simp) _ hb
 .have:=g 1 (by simp) _ hm
  rw[this]
  cases p with
  | true=>
   cases ids with
   | nil=>rw[<-hl];rfl
   | cons i l=>exact absurd (hp0 (by simp)) (by decide)
  | false=>
   have e2:jY (pos (b::a::ids)) (.cells ycO ycP x 1 (dH ids W r))=.cells ycO ycP x 1 (fo (pos (b::a::ids)) (dH ids W r)):=rfl;rw[e2,YF r 2 (by omega) pI,hl];rfl
 .have:=g (i+2) (by simp;omega) _ (hr i (by omega))
  rw[this];rfl
def Bl.comp(h:Bl hp bx p x y sz W T r)(hE:gY (cT tm live)=[0,1])(hM:T.length<=10000)(hT:∀S,fG 0 S 0=Ix 0->fG 1 S 0=Ix 1->je (pos S) (cT tm live)=tm'):∃aq,bW live ⟨tm,hp,ct,0⟩=⟨tm',aq,2+T.length,0⟩/\Bl aq bx p x y sz W T r:=
 ZR hE h.b h.m (fun q=>h.q (by rwa[Ay] at q)) (Ay _) h.l (fun i hi=>by
  rw[YG];rw[Ay] at hi;exact h.r i hi) hM (by
  refine vz.2 ⟨fun q=>?_,vz.2 ⟨fun q=>?_,ybu⟩⟩
  .rcases wj.1 q with q | q
   .lia
   .have:=Gj.1 q;lia
  .have:=Gj.1 q;lia) hT
def aja{cs:List AV}(hE:gY (cT tm live)=[0,1])(lW:W.length=i)(lT:T.length=i)(hb:i+2<=b)(h0:au hp 0=Ix (.cells ycO ycO ycO 1 [bx]))(hm:au hp 1=Ix (.cells ycO ycP x 1 (iC (iL i) W++ .av b 0 w::ye r .ae)))(hr:∀j,j<i->au hp (j+2)=Ix (.cells ycO ycO y sz (gT T j)))(hc:au hp b=Ix (.cells ycO ycO y sz cs))(hM:i<=1000)(hT:∀S,fG 0 S 0=Ix 0->fG 1 S 0=Ix 1->je (pos S) (cT tm live)=tm'):∃aq,bW live ⟨tm,hp,ct,0⟩=⟨tm',aq,2+(i+1),0⟩/\Bl aq bx ycP x y sz (W++[w]) (T++[cs]) r:=by
 have li:(iL i++[b]).length=i+1:=by simp[Ay]
 obtain⟨aq,e,g⟩:=ZR (hp:=hp) (bx:=bx) (p:=ycP) (x:=x) (y:=y) (sz:=sz) (r:=r) (T:=T++[cs]) (W:=W++[w]) (ct:=ct) (a:=1) (b:=0) (ids:=iL i++[b]) hE h0 (by
  rw[hm];unfold dH;rw[Si (by rw[Ay,lW]),xu];rfl) (fun _=>rfl) (by rw[li];simp[lT]) (by simp[lW,lT]) (fun j hj=>by
  by_cases Af:j<i
  .rw [wg (by rw[Ay];exact Af),YG,hr j Af,AL (by omega),AL (by simp;omega),wg]
  .have aFK:j=i:=by omega
   rw[wz (by rw[Ay];omega),AL (by simp;omega),wz (by omega)];simp[Ay,lT,hc]) (by simp;omega) (by
  have nK:(iL i++[b]).Nodup:=List.nodup_append.2 ⟨ybu,by simp,fun u hu v hv e=>by
   have h1:=Gj.1 hu
   have:=wD.1 hv
   omega⟩
  refine vz.2 ⟨fun q=>?_,vz.2 ⟨fun q=>?_,nK⟩⟩
  .rcases wj.1 q with q | q
   .omega
   .rcases wm.1 q with q | q
    .have:=Gj.1 q;omega
    .grind
  .rcases wm.1 q with q | q
   .have:=Gj.1 q;omega
   .have:=wD.1 q;omega) hT
 grind
def ax6{pu:Bool}(hW:W.length=i)(hi:ids.length=i):fN hp ct a i 1 [.av b 0 w] (Ix (.cells ycO pu x 1 (dH ids W (m+1))))=Ix (.ax [],aV hp a (.cells ycO ycP x 1 (iC ids W++ .av b 0 w::ye m .ae)),ct):=by
 have hl:(iC ids W).length=i:=by rw[Gt (by lia),hW]
 unfold dH
 rw[mb (new:=[AV.av b 0 w]) (by rfl) (by rw[yE,hl];simp) (by rfl),agF hl]
 simp[aD,aP]
def ax7{l r:List AV}{x y:AV}(h:l.length=i):over i [y] (l++x::r)=l++y::r:=by
 subst h;unfold over
 simp_all
def ax8{b0 w0:Nat}(hW:W.length=i)(hi:ids.length=i):fN hp ct a i 1 [.av b 0 w] (Ix (.cells ycO ycP x 1 (dH (ids++[b0]) (W++[w0]) m)))=Ix (.ax [],aV hp a (.cells ycO ycP x 1 (iC ids W++ .av b 0 w::ye m .ae)),ct):=by
 have hl:(iC ids W).length=i:=by rw[Gt (by omega),hW]
 unfold dH
 rw[Si (by omega),xu,List.singleton_append,mb (new:=[AV.av b 0 w]) (by rfl) (by rw[yE,hl];simp) (by rfl),ax7 hl]
 grind
def ax9(hW:W.length=i)(hi:ids.length=i):∃q,xK i (dH ids W (m+1))=.ae::q:=by
 have hl:(iC ids W).length=i:=by rw[Gt (by omega),hW]
 unfold dH;rw[<-hl,um,wG]
 grind
def avz(hW:W.length=i)(hi:ids.length=i):∃q,xK i (dH (ids++[b]) (W++[w]) m)=.av b 0 w::q:=by
 have hl:(iC ids W).length=i:=by rw[Gt (by omega),hW]
 unfold dH;rw[Si (by omega),xu,<-hl,um]
 simp_all
end
def aCW{bv:AV}(pb:aP bv=ycO){w i:Nat}(hr:dL cQ rv R)(hw:wid w R)(oL:w<=900)(hn:R.length<=900)(h0:0<R.length)(hi:i<w){T:List (List AV)}(hT:T.length=i):
  cL P L [1,5,9,10,11,46,47,50,51,52] JH (fun d st=>∃k,k+d=R.length/\((k=0/\∃hp p,st=⟨[(1,bv),(5,.ptr 0 0),(9,rv),(10,.av 1 0 w),(11,aa i),(46,aa w),(47,aa i),(50,rv),(51,aa R.length),(52,aa k)],hp,2+i,0⟩/\Bl hp bx p ycO ycP 4 (ye i R.length) T (w-i))\/(0<k/\∃hp cs,st=⟨[(1,bv),(5,.ptr 0 0),(9,rv),(10,.av 1 0 w),(11,aa i),(46,aa w),(47,aa i),(50,rv),(51,aa R.length),(52,aa k)],hp,2+(i+1),0⟩/\QL cs ((R.map fun r=>aO r i).take k)/\Bl hp bx ycP ycO ycP 4 (ye i R.length++[k]) (T++[cs]) (w-(i+1))))) (fun ex s'=>∃tm hp ct cs,s'=⟨tm,hp,ct,0⟩/\ex=.exit 2/\ab tm 1=bv/\ab tm 5=.ptr 0 0/\ab tm 9=rv/\ab tm 10=.av 1 0 w/\ab tm 46=aa w/\ab tm 47=aa i/\QL cs (R.map fun r=>aO r i)/\Bl hp bx ycP ycO ycP 4 (ye i R.length++[R.length]) (T++[cs]) (w-(i+1))):=by
 apply cP;rintro d st ⟨k,QM,aK⟩;have lr:(ye i R.length).length=i:=by simp
 have lb:=Ay i;by_cases hk:k<R.length
 .left
  have⟨r,rest,iQ,e0⟩:=hr.aT hk;have wr:=hw k hk;rw[di hk] at wr;have⟨q1,q2,q3,q4,pr,e1,hq⟩:=iQ.aT (i:=i) (by lia);have gq:=hq.f4;have bz:∀tm,iH tm [AV.int .i64 0,.ae,.int .i64 0,.ae] 0 4 [q1,q2,q3,q4] []=fill tm [q1,q2,q3,q4] []:=fun tm=>Jv gq.o1 gq.o2 gq.o3 gq.o4
  have⟨p1,p2,p3,p4⟩:=gq.qS;have hen:bE (.agg [q1,q2,q3,q4]) (aO R[k] i):=by rw[dw (show i<R[k].length by lia)];exact hq
  have dW:(R.map fun r=>aO r i).take (k+1)=(R.map fun r=>aO r i).take k++[aO R[k] i]:=by
   rw[yk (by rw[yg];exact hk),xm]
  have w4:IntKind.wrap .i64 ((k:Int)+1)=((k+1:Nat):Int):=wrap64 (by lia) (by lia);have Iu:(k:Int)<R.length:=by lia
  rcases aK with ⟨rfl,hp,p,rfl,hM⟩ | ⟨k0,hp,cs,rfl,hQ,hM⟩
  .obtain ⟨m,hm⟩:∃m,w-i=m+1:=⟨w-i-1,by lia⟩;have VT:w-(i+1)=m:=by lia
   rw[hm] at hM;have g1:=hM.m;rw[hT] at g1;have⟨q5,d0⟩:=ax9 (m:=m) lr lb;have aK:=fun (hp:Hp) (ct b:Nat)=>ax6 (hp:=hp) (ct:=ct) (a:=1) (b:=b) (w:=1) (m:=m) (pu:=p) (x:=ycO) lr lb
   have m1:=fun (o:Obj) (r:Hp)=>fO (j:=2+i+1) (i:=1) o r (by lia)
   have m0:=fun (o:Obj) (r:Hp)=>fO (j:=2+i) (i:=1) o r (by lia)
   simp only[go_sem,ya,yb,yV,yA,yi,yf,JH,Iu,e0,e1,As,Fi,gO,bz,p1,p2,p3,p4,xt,oX,b9 1 0 hi,yd,g1,d0,EJ,eT,m0,m1,aK,w4];refine⟨_,d-1,rfl,by lia,1,by lia,.inr ⟨by lia,?_⟩⟩;have Bm:au ((2+i+1,Obj.cells ycO ycO ycP 4 [q1,q2,q3,q4])::(2+i,Obj.cells ycO ycO ycO 4 [q1,q2,q3,q4])::hp) 1=Ix (.cells ycO p ycO 1 (dH (iL i) (ye i R.length) (m+1))):=by rw[m1,m0];exact g1
   have qW:QL [q1,q2,q3,q4] ((R.map fun r=>aO r i).take 1):=by
    rw[dW];exact QL.snoc (cs:=[]) trivial hen
   rw[VT]
   exact (aja (i:=i) (b:=2+i+1) (w:=1) (r:=m) (T:=T) (cs:=[q1,q2,q3,q4]) (W:=ye i R.length) (bx:=bx) (x:=ycO) (y:=ycP) (sz:=4)
    (by simp only[go_sem,ya,fX pb,fX hr.pu]<;>rfl) lr hT (by lia) (by rw[iP Bm,yx (by lia),fO _ _ (by lia),fO _ _ (by lia)];exact hM.b) (by rw[iP Bm,yK rfl]) (fun j hj=>by
     rw[iP Bm,yx (by lia),fO _ _ (by lia),fO _ _ (by lia)];exact hM.r j (by lia)) (by rw[iP Bm,yx (by lia),fq]) (by lia) (fun S s0 s1=>by simp only[go_sem,ya,s0,s1,mz _ pb,mz _ hr.pu]<;>rfl)).imp (fun aq h=>⟨_,h.1,qW,h.2⟩)
  .obtain ⟨m,hm⟩:∃m,w-(i+1)=m:=⟨_,rfl⟩;rw[hm] at hM ⊢;have g1:=hM.m;have lT1:(T++[cs]).length=i+1:=by simp[hT]
   rw[lT1,asZ] at g1;have⟨q5,d0⟩:=avz (m:=m) (b:=i+2) (w:=k) lr lb;have aK:=fun (hp:Hp) (ct b:Nat)=>ax8 (hp:=hp) (ct:=ct) (a:=1) (b:=b) (b0:=i+2) (w:=k+1) (w0:=k) (m:=m) (x:=ycO) lr lb
   have g2:=hM.r i (by lia);rw[AL (by lia),wz (by lia)] at g2;simp only[hT,uj,wJ] at g2;have lq:=hQ.len;rw[yJ,yg,xq (by lia)] at lq;simp only[go_sem,ya,yb,yV,yf,JH,Iu,e0,e1,As,Fi,gO,bz,p1,p2,p3,p4,xt,oX,b9 1 0 hi,yd,g1,d0,EJ]
   rw[dZ (ex:=ycP) (pu:=ycO) (cs:=cs) (by rw[fO _ _ (by lia)];exact g2) lq (by lia) (by lia) (by decide) (by simp only[go_sem,gq.o1,gq.o2,gq.o3,gq.o4])]
   have m1:=fun (o:Obj) (r:Hp)=>fO (j:=2+(i+1)+1) (i:=1) o r (by lia)
   have m0:=fun (o:Obj) (r:Hp)=>fO (j:=2+(i+1)) (i:=1) o r (by lia)
   have md:∀r:Hp,au (eJ r (i+2)) 1=au r 1:=fun r=>by rw[RD,yx (by lia)]
   simp only[go_sem,ya,yf,p1,p2,p3,p4,b9 1 0 hi,yd,m1,m0,md,g1,aK,w4];refine⟨_,d-1,rfl,by lia,k+1,by lia,.inr ⟨by lia,?_⟩⟩;have Bm:au ((2+(i+1)+1,Obj.cells ycO ycO ycP 4 (cs++[q1,q2,q3,q4]))::eJ ((2+(i+1),Obj.cells ycO ycO ycO 4 [q1,q2,q3,q4])::hp) (i+2)) 1=Ix (.cells ycO ycP ycO 1 (dH (iL i++[i+2]) (ye i R.length++[k]) m)):=by rw[m1,md,m0];exact g1
   have qW:QL (cs++[q1,q2,q3,q4]) ((R.map fun r=>aO r i).take (k+1)):=by
    rw[dW];exact hQ.snoc hen
   exact (aja (i:=i) (b:=2+(i+1)+1) (w:=k+1) (r:=m) (T:=T) (cs:=cs++[q1,q2,q3,q4]) (W:=ye i R.length) (bx:=bx) (x:=ycO) (y:=ycP) (sz:=4)
    (by simp only[go_sem,ya,fX pb,fX hr.pu]<;>rfl) lr hT (by lia) (by rw[iP Bm,yx (by lia),fO _ _ (by lia),RD,yx (by lia),fO _ _ (by lia)];exact hM.b) (by rw[iP Bm,yK rfl]) (fun j hj=>by
     rw[iP Bm,yx (by lia),fO _ _ (by lia),RD,yx (by lia),fO _ _ (by lia),hM.r j (by lia),AL (by lia),AL (by lia),wg]) (by rw[iP Bm,yx (by lia),fq]) (by lia) (fun S s0 s1=>by simp only[go_sem,ya,s0,s1,mz _ pb,mz _ hr.pu]<;>rfl)).imp (fun aq h=>⟨_,h.1,qW,h.2⟩)
 .right
  have:k=R.length:=by lia
  subst this;rcases aK with ⟨h00,_⟩ | ⟨_,hp,cs,rfl,hQ,hM⟩
  .lia
  .rw [yq (by rw[yg];exact ym _)] at hQ
   simp only[go_sem,ya,JH,show ¬(R.length:Int)<R.length by lia];exact⟨_,_,rfl,by simp,_,_,_,cs,rfl,rfl,rfl,rfl,rfl,rfl,rfl,rfl,hQ,hM⟩
def aCX{bv:AV}(pb:aP bv=ycO){w:Nat}(hr:dL cQ rv R)(hw:wid w R)(oL:w<=900)(hn:R.length<=900)(h0:0<R.length):
  cL P L [1,5,9,10,46,47] Oi (fun d st=>∃(i:Nat) (T:List (List AV)),i+d=w/\T.length=i/\bZ QL T ((dR R w).take i)/\∃hp p,st=⟨[(1,bv),(5,.ptr 0 0),(9,rv),(10,.av 1 0 w),(46,aa w),(47,aa i)],hp,2+i,0⟩/\Bl hp bx p ycO ycP 4 (ye i R.length) T (w-i)) (fun ex s'=>∃tm hp p ct T,s'=⟨tm,hp,ct,0⟩/\ex=.exit 0/\ab tm 1=bv/\ab tm 5=.ptr 0 0/\ab tm 9=rv/\ab tm 10=.av 1 0 w/\T.length=w/\bZ QL T (dR R w)/\Bl hp bx p ycO ycP 4 (ye w R.length) T 0):=by
 apply cP;rintro d st ⟨i,T,hid,hT,hQ,hp,p,rfl,hM⟩;by_cases hi:i<w
 .left
  have f0:=aCW (P:=P) (L:=L) (bx:=bx) pb hr hw oL hn h0 hi hT R.length;have w4:IntKind.wrap .i64 ((i:Int)+1)=((i+1:Nat):Int):=wrap64 (by lia) (by lia);have rV:(i:Int)<w:=by lia
  have qW:∀cs,QL cs (R.map fun r=>aO r i)->bZ QL (T++[cs]) ((dR R w).take (i+1)):=fun cs dA=>by
   rw[yk (by rw[nW];exact hi)]
   exact hQ.snoc (by simpa[dR] using dA)
  simp only[go_sem,ya,Oi,rV,yo,hr.len];generalize hq:D P L (.loop _ JH) _=q;obtain⟨ex,st,rfl,tm,ff,HZ,cs,rfl,rfl,t1,t5,t9,t10,t46,t47,dA,zn⟩:=bg hq f0 ⟨0,by lia,.inl ⟨rfl,(hM.comp (by simp only[go_sem,ya,fX pb,fX hr.pu]<;>rfl) (by lia) (fun S s0 s1=>by simp only[go_sem,ya,s0,s1,mz _ pb,mz _ hr.pu]<;>rfl)).imp (fun aq h=>⟨p,h.1.trans (by rw[hT]<;>rfl),h.2⟩)⟩⟩
  have⟨Ie,e3,hM3⟩:=zn.comp (ct:=HZ) (live:=[1,5,9,10,46,47]) (tm:=tm) (tm':=[(1,bv),(5,.ptr 0 0),(9,rv),(10,.av 1 0 w),(46,aa w),(47,aa i)]) (by simp only[go_sem,t1,t5,t9,t10,t46,t47,fX pb,fX hr.pu]<;>rfl) (by simp;lia) (fun S s0 s1=>by simp only[go_sem,t1,t5,t9,t10,t46,t47,s0,s1,mz _ pb,mz _ hr.pu]<;>rfl)
  simp only[go_sem,ya,e3,w4];refine⟨_,d-1,rfl,by lia,i+1,T++[cs],by lia,by simp[hT],qW cs dA,?_⟩;rw[List.replicate_succ'];refine (hM3.comp (by simp only[go_sem,ya,fX pb,fX hr.pu]<;>rfl) (by simp;lia) (fun S s0 s1=>by simp only[go_sem,ya,s0,s1,mz _ pb,mz _ hr.pu]<;>rfl)).imp (fun aq h=>⟨ycP,h.1.trans (by rw[show (T++[cs]).length=i+1 by simp[hT]]<;>rfl),h.2⟩)
 .right
  have:i=w:=by lia
  subst this;rw[yq (by rw[nW];exact ym _)] at hQ
  rw[uj] at hM;simp only[go_sem,ya,Oi,show ¬(i:Int)<i by lia,yp];exact⟨_,_,rfl,by simp,_,_,p,_,T,rfl,rfl,rfl,rfl,rfl,rfl,hT,hQ,hM⟩
section
variable {l:List (List Nat)}{sp:List AV}{x y:List Rat}
def ahU{i:Nat}(h:i<l.length):((l.take (i+1)).map aM).map aa=((l.take i).map aM).map aa++[AV.int .i64 (aM l[i])]:=by
 rw[yk h,yX,yX];rfl
def m85(hc:Ck P L)(h:Has P L 85 Wc)(hv:bw v l)(hl:l.length<=1000000)(hs:∀s,s∈l->s.length<=1000000000):
  ∃r,ah P L 85 [v,.fn (.f 86) [] []] r/\bl (shut r) (l.map aM):=by
 have key:=dT P L [1,5,8,9,10] G7
  (fun k st=>∃i:Nat,i+k=l.length/\((i=0/\st=⟨[(1,.fn (.f 86) [] []),(5,.ae),(8,v),(9,aa l.length),(10,aa i)],[],0,0⟩)\/
   (0<i/\st=⟨[(1,.fn (.f 86) [] []),(5,.av 0 0 i),(8,v),(9,aa l.length),(10,aa i)],[(0,.cells ycO ycO ycP 1 (((l.take i).map aM).map aa))],1,0⟩)))
  (fun ex st=>∃tm hp ct,st=⟨tm,hp,ct,0⟩/\ex=.exit 0/\((l.length=0/\ab tm 5=.ae)\/(0<l.length/\ab tm 5=.av 0 0 l.length/\au hp 0=Ix (.cells ycO ycO ycP 1 ((l.map aM).map aa))))) ?_
 .unfold ah;rw[aB h];simp only[go_sem,ya,Wc,hv.len];generalize hq:D P L (.loop _ G7) _=q;obtain⟨ex,st,rfl,tm,hp,ct,rfl,rfl,h2⟩:=bg hq (key l.length) ⟨0,by omega,.inl ⟨rfl,by simp only[go_sem,ya,ao,aj hv.pu]<;>rfl⟩⟩
  rcases h2 with ⟨h2,h3⟩ | ⟨h2,h3,h4⟩
  .refine ⟨.ae,by simp only[go_sem,ao,h3],?_⟩;rw[yu h2];exact mY
  .refine ⟨.bR ycP 1 l.length ((l.map aM).map aa),?_,?_⟩
   .simp only [go_sem,yb,ao,h3,h4];exact mW (fq _ _ _) (by simp) (by decide)
   .have:=fZ ycP (l.map aM)
    rwa[yg] at this
 .rintro k st ⟨i,hk,aK⟩;by_cases hi:i<l.length
  .have bD:(i:Int)<l.length:=by omega
   have e1:=Il hc (hs _ (yy hi));left
   rcases aK with ⟨h0,rfl⟩ | ⟨h0,rfl⟩
   .subst h0;simp only[go_sem,ya,yb,yV,yA,yi,yf,G7,show ((0:Nat):Int)<l.length from bD,hv.aT hi,e1,eT];refine⟨_,k-1,rfl,by omega,1,by omega,.inr ⟨by omega,?_⟩⟩;rw[wrap64 (by omega) (by omega),ahU hi];simp only[go_sem,ya,yb,ao,aj hv.pu]<;>rfl
   .have hlen:(((l.take i).map aM).map aa).length=i:=by simp;omega
    simp only[go_sem,ya,yb,yi,yf,G7,bD,hv.aT hi,e1]
    rw[dZ (ex:=ycP) (pu:=ycO) (cs:=((l.take i).map aM).map aa) (by simp only[go_sem,ya]) (by rw[hlen,yf]) (by omega) (by omega) (by decide) (by simp only[go_sem])];simp only[go_sem,ya,yb];refine⟨_,k-1,rfl,by omega,i+1,by omega,.inr ⟨by omega,?_⟩⟩;rw[wrap64 (by omega) (by omega),ahU hi];simp only[go_sem,ya,yb,ao,aj hv.pu]<;>rfl
  .right
   rcases aK with ⟨h0,rfl⟩ | ⟨h0,rfl⟩
   .simp only [go_sem,ya,G7,show ¬(i:Int)<l.length by omega];refine⟨_,_,rfl,by simp,_,_,_,rfl,rfl,.inl ⟨by omega,?_⟩⟩;simp only[go_sem,ya]
   .simp only [go_sem,ya,G7,show ¬(i:Int)<l.length by omega];refine⟨_,_,rfl,by simp,_,_,_,rfl,rfl,.inr ⟨by omega,?_,?_⟩⟩
    .simp only [go_sem,ya];rw[show i=l.length by omega]
    .simp only [go_sem];rw[yq (by omega)]
def m91(h:Fr' P L)(h91:Has P L 91 Wg)(rJ:Has P L 131 EX){u b:AV}(hu:cQ u x)(hb:cQ b y)(hl:x.length<=y.length)(hn:x.length<=1000000)(ka:∀q,q∈x->Hq K q)(kb:∀q,q∈y->Hq K q)(dQ:2<=K)(hK:2+x.length*(2*K+1)+(2*K+1)<=1000000000):∃r,ah P L 91 [u,.aQ (b::sp)] r/\bE r (eE x y x.length):=by
 have⟨r,e,hr⟩:=ab4 h rJ hu hb hl hn ka kb dQ hK;have bt:=hr;obtain⟨r1,r2,r3,r4,rfl,gr⟩:=hr.gen;refine⟨_,?_,bt⟩;unfold ah at e ⊢;rw[aB h91];simp only[go_sem,ya,yb,Wg,aG,hu.af,hb.af,e,bf,gr.st,de,df,yh];exact gr.eG _
def m93(h:Fr' P L)(h93:Has P L 93 Wi)(rJ:Has P L 131 EX){u b:AV}(hu:cQ u x)(hb:cQ b y)(hl:x.length<=y.length)(hn:x.length<=1000000)(ka:∀q,q∈x->Hq K q)(kb:∀q,q∈y->Hq K q)(dQ:2<=K)(hK:2+x.length*(2*K+1)+(2*K+1)<=1000000000):∃r,ah P L 93 [u,.aQ (b::sp)] r/\bE r (eE x y x.length):=by
 have⟨r,e,hr⟩:=ab4 h rJ hu hb hl hn ka kb dQ hK;have bt:=hr;obtain⟨r1,r2,r3,r4,rfl,gr⟩:=hr.gen;refine⟨_,?_,bt⟩;unfold ah at e ⊢;rw[aB h93];simp only[go_sem,ya,yb,Wi,aG,hu.af,hb.af,e,bf,gr.st,de,df,yh];exact gr.eG _
end
def Ky(R:Mx)(pv:List Nat)(n:Nat):Nat->List Rat
 | 0=>ye n 0
 | i+1=>(Ky R pv n i).set (pv.getD i 0) (aO (gR R i) n)
def ahV{R:Mx}{pv:List Nat}{n:Nat}(hp:∀i (h:i<pv.length),pv[i]=i)(hl:pv.length=n)(hR:n<=R.length):∀i,i<=n->Ky R pv n i=((R.take i).map fun r=>aO r n)++ye (n-i) 0
 | 0,_=>by simp[Ky]
 | i+1,hi=>by
  have e:pv.getD i 0=i:=by simp[yW,List.getElem?_eq_getElem (show i<pv.length by lia),hp]
  have li:((R.take i).map fun r=>aO r n).length=i:=by rw[yg,yJ];lia
  obtain⟨m,hm⟩:∃m,n-i=m+1:=⟨n-i-1,by lia⟩;rw[Ky,ahV hp hl hR i (by lia),e,di (show i<R.length by lia),List.set_append_right _ _ (by lia),li,uj,hm,wG,List.set_cons_zero,yk (show i<R.length by lia),yX,xu];rw[show n-(i+1)=m by lia];rfl
def ahW{pv:List Nat}{n:Nat}(hp:∀i (h:i<pv.length),pv[i]=i)(hl:pv.length=n)(hR:n<=R.length):Ky R pv n n=(R.take n).map fun r=>aO r n:=by
 rw[ahV hp hl hR n (ym n),uj];simp
structure W8(P:aJ)(L:Lib):Prop extends Ck P L where
 WM:Has P L 27 DF
 jn:Has P L 31 Cj
 oK:Has P L 33 KR
 Ih:Has P L 61 Cl
 Ip:Has P L 83 KT
 h84:Has P L 84 KU
 h85:Has P L 85 Wc
 h87:Has P L 87 We
 FY:Has P L 88 KV
 W5:Has P L 89 Wf
 W7:Has P L 90 DH
 h91:Has P L 91 Wg
 W4:Has P L 92 Wh
 h93:Has P L 93 Wi
 Kt:Has P L 122 J0
 Ku:Has P L 123 J3
 Py:Has P L 126 OG
 Pz:Has P L 127 OH
 rJ:Has P L 131 EX
 Fk:Has P L 160 Hj
 HH:Has P L 161 J9
noncomputable def Kz(M:List (List (List Nat)))(l:List (List Nat))(s:List Nat):Int:=a6 [qV M,a6 (l.map aM),iI s 1,if l.length=M.length then 0 else 2]
def Ds(R:Mx)(w:Nat)(b:List Rat):List Rat:=(dR R w).map fun c=>eE c b c.length
def dF(R:Mx)(w:Nat)(b:List Rat)(ld:Rat):List Rat:=if R.length<w then (dR R w).map fun c=>eE c (mU R.length (dS (fW R ld) b)) c.length else mU w (dS (fW (dR R w) ld) (Ds R w b))
def aFN(h:Ck P L)(Ih:Has P L 61 Cl)(jn:Has P L 31 Cj){s:List Nat}(hl:s.length<=1000000000)(m:Int):ah P L 61 [.str s,aa m] (aa (iI s m)):=by
 have e1:=Il h hl;unfold ah at e1 ⊢;rw[aB Ih];unfold iI;by_cases h0:aM s=0
 .obtain ⟨r,e2,hr⟩:=abW h h0;have e3:=abv h.toFr' hr;obtain⟨s1,w1,s2,w2,rfl,h1,h2⟩:=hr;obtain⟨l1,u1⟩:=h1.aH;obtain⟨l2,u2⟩:=h2.aH;rw[h0] at e1;rw[yK h0];have e4:=fun b=>rP jn b 3
  by_cases hm:cA (aI s).num<m
  .rw [yK hm];have e5:=e4 ycO;simp only[xL] at e5;simp only[go_sem,ya,Cl,e1,yo,yM,e2,bf,a7,u1.af,u2.af,e3,hm,e5]
  .rw [yx hm];have e5:=e4 ycP;simp only[Bool.false_eq_true,xr] at e5;simp only[go_sem,ya,Cl,e1,yo,yM,e2,bf,a7,u1.af,u2.af,e3,hm,yp,e5]
 .rw [yx h0];simp only[go_sem,ya,Cl,e1,h0,yp,yQ]
def aCY(h:W8 P L){bv:AV}{l:List (List Nat)}{s:List Nat}(hv:dL bw v M)(hb:bw bv l)(hl:M.length<=1000000)(ll:l.length<=1000000)(hr:∀r,r∈M->r.length<=1000000/\∀s,s∈r->s.length<=1000000000)(hs:∀s,s∈l->s.length<=1000000000)(DW:s.length<=1000000000)(hE:Kz M l s=0)(hM:qV M=0):
  ∃hp p T x,dL cQ x (ij M)/\D P L (jh 5 DF.body) ⟨fY 0 [v,bv,.str s],[],0,0⟩=Ix (.normal,⟨[(1,bv),(5,.ptr 0 0),(9,x),(10,.av 1 0 (wd M))],hp,2+wd M,0⟩)/\T.length=wd M/\bZ QL T (dR (ij M) (wd M))/\Bl hp (.str s) p ycO ycP 4 (ye (wd M) (ij M).length) T 0:=by
 have e1:=m84 h.toCk h.HH h.Py h.Pz h.h84 hv hl hr;obtain⟨x2,e2,hx2⟩:=m85 h.toCk h.h85 hb ll hs;have e2b:=sT h.oK hx2 (by rw[yg];exact ll)
 have e3:=aFN h.toCk h.Ih h.jn DW 1;have e4:=rP h.jn (!decide ((l.length:Int)=(M.length:Nat))) 2;have q3:(if (!decide ((l.length:Int)=(M.length:Nat)))=ycO then (2:Int) else 0)=if l.length=M.length then 0 else 2:=by
  simp only[Bool.not_eq_true',vT];split<;>omega
 rw[q3] at e4;have e5:=sT h.oK (fZ ycO [qV M,a6 (l.map aM),iI s 1,if l.length=M.length then 0 else 2]) (by simp);simp only[yB,yI,yS,wu] at e5;unfold Kz at hE;rw[hE] at e5;obtain⟨m0,m64,cR⟩:=ZO hM;have hw:=YB (M:=M) (fun r bt=>(cR r bt).1);have lM:=YC M;have aFO:wd M<=64/\0<wd M:=by
  have:=cR _ (yy m0)
  unfold wd;rw[JR m0];omega
 obtain⟨x,x1,hx⟩:=m87 h.toCk h.h87 h.FY hv hl (fun r bt=>⟨(hr r bt).1,(cR r bt).2.2.2⟩);have hx:dL cQ (shut x) (ij M):=hx;obtain⟨r0,rest,gK,a0⟩:=hx.aT (i:=0) (by omega);have A9:=hw 0 (by omega);rw[di (by omega)] at A9;have f0:=aCX (P:=P) (L:=L) (bx:=.str s) hb.pu hx hw (by omega) (by omega) (by omega) (wd M);have ck:∀ct,rE ct 1 24 [AV.ae] (Ix (wd M)) (Ix (wd M))=Ix (.av ct 0 (wd M),.cells ycO ycO ycO 1 (ye (wd M) [AV.ae]).flatten):=fun ct=>BF (by omega) (by omega) rfl rfl
 have Cd:(ye (wd M) [AV.ae]).flatten=ye (wd M) AV.ae:=by
  rw[tS]
 rw[Cd] at ck;generalize (if l.length=M.length then (0:Int) else 2)=x3 at*
 generalize qV M=y1 at*
 generalize a6 (l.map aM)=y2 at*
 generalize iI s 1=x4 at*
 have h0:¬((M.length:Int)=0):=by omega
 simp only[go_sem,ya,yb,yA,yi,yf,DF,jh,aX,aA,aG,hv.len,hv.af,hb.len,hb.af,e1,e2,hx2.af,e2b,e3,e4,e5,yo,yM,h0,yp,x1,a0,gK.len,A9,As,ck];generalize hq:D P L (.loop _ Oi) _=q
 obtain⟨ex,st,rfl,tm,hp,p,ct,T,rfl,rfl,t1,t5,t9,t10,lT,hQ,zn⟩:=bg hq f0 ⟨0,[],by omega,rfl,by simp[bZ],(ZR (hp:=[(2,Obj.cells ycO ycO ycO 1 (ye (wd M) AV.ae)),(1,Obj.cells ycP ycO ycO 1 [AV.int IntKind.i64 y1,AV.int IntKind.i64 y2,AV.int IntKind.i64 x4,AV.int IntKind.i64 x3]),(0,Obj.cells ycO ycO ycO 1 [AV.str s])]) (a:=2) (b:=0) (bx:=.str s) (p:=ycO) (x:=ycO) (y:=ycP) (sz:=4) (W:=[]) (T:=[]) (r:=wd M) (ids:=[]) (by simp only[go_sem,ya,fX hb.pu,fX hx.pu]<;>rfl) rfl rfl (fun q=>absurd q (by decide)) rfl rfl (fun i hi=>absurd hi (vh i)) (by decide) (by decide) (fun S s0 s1=>by simp only[go_sem,ya,s0,s1,mz _ hb.pu,mz _ hx.pu]<;>rfl)).imp (fun aq h=>⟨ycO,h.1.trans (by rfl),h.2⟩)⟩
 obtain⟨Ie,e6,hM3⟩:=zn.comp (ct:=ct) (live:=[1,5,9,10]) (tm:=tm) (tm':=[(1,bv),(5,.ptr 0 0),(9,shut x),(10,.av 1 0 (wd M))]) (by simp only[go_sem,t1,t5,t9,t10,fX hb.pu,fX hx.pu]<;>rfl) (by omega) (fun S s0 s1=>by simp only[go_sem,t1,t5,t9,t10,s0,s1,mz _ hb.pu,mz _ hx.pu]<;>rfl)
 rw[lT] at e6;simp only[go_sem,e6];exact⟨_,p,T,shut x,hx,rfl,lT,hQ,hM3⟩
section
variable {v:AV}{l:List (List Nat)}{s:List Nat}{R:Mx}{K w:Nat}
def agG{sz:Nat}{y:Bool}(hs:0<sz):∀(ids W:List Nat) (T:List (List AV)) (hp:Hp) (n:Nat),ids.length+4<=n->ids.length=T.length->W.length=T.length->(∀i (h1:i<ids.length) (h2:i<T.length) (h3:i<W.length),T[i].length=W[i]*sz/\∃rw,au hp ids[i]=Ix (.cells rw ycO y sz T[i]))->
  ∃aq,cm n hp (iC ids W)=Ix (vJ (fun w r=>.aF y w r) W T,aq)/\(∀j,j∉ids->au aq j=au hp j)/\∀j rw y' z cs,au hp j=Ix (.cells rw ycO y' z cs)->∃dn,au aq j=Ix (.cells dn ycO y' z cs)
 | [],[],[],hp,n+1,_,_,_,_=>⟨hp,rfl,fun _ _=>rfl,fun _ rw _ _ _ h=>⟨rw,h⟩⟩
 | [],_,[],hp,0,h,_,_,_=>by simp at h
 | [],_,_::_,_,_,_,h,_,_=>by simp at h
 | [],_::_,[],_,_,_,_,h,_=>by simp at h
 | _::_,_,[],_,_,_,h,_,_=>by simp at h
 | _::_,[],_::_,_,_,_,_,h,_=>by simp at h
 | i::ids,w::W,r::T,hp,n+1,hn,hl,hW,h=>by
  obtain⟨l0,dn,g0⟩:=h 0 (by simp) (by simp) (by simp);simp only[wJ] at l0 g0;simp only[yB] at hn hl hW;obtain⟨m,rfl⟩:∃m,n=m+1+1:=⟨n-2,by omega⟩;have hz:Au (m+1) hp i=Ix (y,sz,r,if dn=ycO then aV hp i (.cells ycP ycO y sz r) else hp):=by
   rw[aiA,g0];cases dn<;>rfl
  have aCZ:∃bm,(if dn=ycO then aV hp i (.cells ycP ycO y sz r) else hp)=bm/\∀j,au bm j=if j=i then Ix (.cells ycP ycO y sz r) else au hp j:=by
   refine⟨_,rfl,fun j=>?_⟩
   cases dn with
   | true=>simp only[xL];rw[iP g0]
   | false=>
    grind
  obtain⟨bm,e1,g1⟩:=aCZ;rw[e1] at hz;obtain⟨aq,e2,g2,g3⟩:=agG hs ids W T bm (m+1+1) (by omega) (by omega) (by omega) (fun k h1 h2 h3=>by
   obtain⟨a,rw2,b⟩:=h (k+1) (by simpa using h1) (by simpa using h2) (by simpa using h3);simp only[List.getElem_cons_succ] at a b;refine⟨a,?_⟩;rw[g1]
   split
   .rename_i e;rw[e,g0] at b;simp only[yc,Obj.cells.injEq] at b;exact⟨_,by rw[b.2.2.2.2]⟩
   .exact ⟨rw2,b⟩)
  refine⟨aq,?_,fun j hj=>?_,fun j rw2 y' z cs hj=>?_⟩
  .have e:iC (i::ids) (w::W)=.av i 0 w::iC ids W:=rfl;rw[e,agh,aiz,hz,oR y l0 hs,ajt,e2,aju];rfl
  .grind
  .grind
def aaq{hp:Hp}{rw0 y:Bool}{sz:Nat}{W:List Nat}{T:List (List AV)}(hm:au hp 1=Ix (.cells rw0 ycP x 1 (dH (iL T.length) W 0)))(hW:W.length=T.length)(hr:∀i,i<T.length->∃rw,au hp (i+2)=Ix (.cells rw ycO y sz (gT T i)))(hs:0<sz)(hw:∀i (h1:i<T.length) (h2:i<W.length),T[i].length=W[i]*sz){n:Nat}(hn:T.length+4<=n):
  ∃aq,VE.Kh n 1 hp (Ix (.cells rw0 ycP x 1 (dH (iL T.length) W 0)))=Ix (x,1,vJ (fun w r=>.aF y w r) W T,aq)/\au aq 1=Ix (.cells ycP ycP x 1 (dH (iL T.length) W 0))/\(∀i,i<T.length->∃rw,au aq (i+2)=Ix (.cells rw ycO y sz (gT T i)))/\∀j,(j=0\/T.length+2<=j)->au aq j=au hp j:=by
 have e0:dH (iL T.length) W 0=iC (iL T.length) W:=by unfold dH;simp
 rw[e0] at hm ⊢;obtain⟨bm,e1,g1,g2⟩:=agG hs (iL T.length) W T hp n (by rw[Ay];exact hn) (Ay _) hW (fun i h1 h2 h3=>by
  obtain⟨dn,g⟩:=hr i h2;refine⟨hw i h2 h3,dn,?_⟩;rw[YG]
  rwa[AL h2] at g)
 have Ag:au bm 1=Ix (.cells rw0 ycP x 1 (iC (iL T.length) W)):=by
  rw[g1 1 (fun hq=>by have:=Gj.1 hq;omega)];exact hm
 refine⟨_,aAP e1,by rw[iP Ag,yK rfl],fun i hi=>?_,fun j hj=>?_⟩
 .obtain ⟨dn,g⟩:=hr i hi;rw[iP Ag,yx (by omega)]
  grind
 .rw [iP Ag,yx (by omega),g1 j (fun hq=>by have:=Gj.1 hq;omega)]
def CP(R:Mx)(ld:Rat):wid R.length (fW R ld):=fun i hi=>by
 rw[mF] at hi;rw[di (by rw[mF];exact hi)]
 simp[fW,Gu]
def Uc{ld:Rat}(hw:wid w R)(kR:iB K R)(kl:Hq K ld)(dQ:2<=K):iB (2+w*(2*K+1)+K+1) (fW R ld):=fun i hi x hx=>by
 rw[mF] at hi;rw[di (by rw[mF];exact hi)] at hx
 simp only[fW,xm,uQ,zt] at hx;obtain⟨k,hk,rfl⟩:=xj.1 hx;exact aCM hw hi (yap.1 hk) kR kl dQ
def ahX(R:Mx)(w:Nat)(b:List Rat):(Ds R w b).length=w:=by unfold Ds;rw[yg,nW]
def bw.ana(h:bw v l)(hp:Hp)(k:IntKind)(e:Int):result hp (.ax [v,.int k e])=Ix (.ax [v,.int k e]):=by
 rcases h with ⟨rfl,_⟩ | ⟨x,rfl⟩<;>rfl
def aar{n:Nat}(hw:wid (n+1) G)(hl:G.length=n)(hm:iB K G)(hK:1<=K):∀x,x∈mU n G->Hq (2*(4^n*(K+1))) x:=fun x hx=>by
 have⟨J,j1,j2,j3⟩:=VB hw hl hm hK n (ym n);obtain⟨k,hk,rfl⟩:=xj.1 hx;have hk:=yap.1 hk;have lg:(gj n G n).length=n:=by rw[BK,hl]
 have wk:=Jz (n:=n) hw (by lia) n k (by lia);have hE:∀c,c<n+1->Hq J (E (gj n G n) k c):=fun c hc=>by
  unfold E;rw[dw (by lia)];exact j3 k (by lia) _ (yy _)
 exact ((hE n (by lia)).mul (hE k (by lia)).inv).mono (by lia)
def aC0(h:W8 P L){bv:AV}(hv:dL bw v M)(hb:bw bv l)(hl:M.length<=1000000)(ll:l.length<=1000000)(hr:∀r,r∈M->r.length<=1000000/\∀s,s∈r->s.length<=1000000000)(hs:∀s,s∈l->s.length<=1000000000)(DW:s.length<=1000000000)(hE:Kz M l s=0)(hM:qV M=0)(QV:l.length=M.length)(h4:M.length<=10)(w4:wd M<=10)(h6:M.length<wd M->M.length<=6)(w6:¬M.length<wd M->wd M<=6)(hc:∀s,s∈l->aM s=0)(dA:aM s=0)(kR:iB K (ij M))(kb:∀x,x∈l.map aI->Hq K x)(kl:Hq K (aI s))(dQ:2<=K)(hK:K<=400)(iw:mV M.length (dS (fW (ij M) (aI s)) (l.map aI)))(fw:mV (wd M) (dS (fW (dR (ij M) (wd M)) (aI s)) (Ds (ij M) (wd M) (l.map aI)))):
  ∃q,cQ q (dF (ij M) (wd M) (l.map aI) (aI s))/\∀a t e,bw a t->ah P L 83 [q] (.ax [a,aa e])->ah P L 27 [v,bv,.str s] (.ax [a,aa e]):=by
 obtain⟨hp,p,T,x,hx,hS,lT,hQ,zn⟩:=aCY h hv hb hl ll hr hs DW hE hM;obtain⟨m0,m64,cR⟩:=ZO hM;have hw:=YB (M:=M) (fun r bt=>(cR r bt).1);have lM:=YC M;have aFO:wd M<=64/\0<wd M:=by
  have:=cR _ (yy m0)
  unfold wd;rw[JR m0];omega
 have hD:D P L DF.body ⟨fY 0 [v,bv,.str s],[],0,0⟩=D P L (bU 5 DF.body) ⟨[(1,bv),(5,.ptr 0 0),(9,x),(10,.av 1 0 (wd M))],hp,2+wd M,0⟩:=by
  rw[SK 5 (c:=DF.body) (by refine⟨rfl,rfl,rfl,rfl,rfl,?_⟩;show _=_;rfl),hS,il]
 obtain⟨b2,eb,Aj⟩:=m88 h.toCk h.FY hb ll hc;have hp0:p=ycP:=zn.q (by omega);subst hp0;rw[<-lM] at iw;generalize ij M=R at*
 generalize wd M=w at*
 have zu:=Ns R w;have D0:=nW R w;have lb:(l.map aI).length=R.length:=by rw[yg];omega
 have hvT:dL cQ (.aF ycO w (vJ (fun w r=>AV.aF ycP w r) (ye w R.length) T)) (dR R w):=by
  have:=M7 ycO (afG (k:=R.length) ycP hQ (fun r bt=>zG zu bt))
  rwa[D0,lT] at this
 have kT:iB K (dR R w):=fun i hi y hy=>by
  rw[D0] at hi;rw[SU hi] at hy;obtain⟨r,bt,rfl⟩:=xj.1 hy;obtain⟨k,hk,rfl⟩:=we.1 bt
  have:=hw k hk
  rw[di hk] at this;rw[dw (by omega)]
  have:=kR k hk
  rw[di hk] at this;exact this _ (yy _)
 have g0:=zn.b;have g1:=zn.m;have Um:∀hp:Hp,nG 0 w (Ix (ycO,1,vJ (fun w r=>AV.aF ycP w r) (ye w R.length) T,hp))=Ix (.aF ycO w (vJ (fun w r=>AV.aF ycP w r) (ye w R.length) T),hp):=fun hp=>oR ycO (by rw[asY (by simp[lT]),lT,yf]) (by decide)
 have fy:∀i (h1:i<T.length) (h2:i<(ye w R.length).length),T[i].length=(ye w R.length)[i]*4:=fun i h1 h2=>by
  rw[ai6 hQ (fun r bt=>zG zu bt) _ (yy h1),List.getElem_replicate]
 unfold ah at eb;have aC1:R.length*(2*K+1)<=10*(2*400+1):=xo (by omega) (by omega);have aC2:w*(2*K+1)<=10*(2*400+1):=xo (by omega) (by omega);have m1:=fun (o:Obj) (r:Hp)=>fO (j:=2+w) (i:=1) o r (by omega)
 have m0':=fun (o:Obj) (r:Hp)=>fO (j:=2+w) (i:=0) o r (by omega)
 by_cases hnw:R.length<w
 .have ab6:(R.length:Int)<w:=by omega
  obtain⟨z1,QW,kF⟩:=m89 h.toCk h.W5 h.rJ hx hw (by omega) (by omega) (by omega) dA kR kl dQ (by omega) (sp:=[]);have zh:=CP R (aI s);have Cw:=mF R (aI s);have Fc:4^R.length<=4^6:=y9 (by decide) (by omega);have aas:=yR (2+w*(2*K+1)+K+1+1) Fc;have hkW:=Ua (Uc hw kR kl dQ) (fun x zd=>(kb x zd).mono (show K<=2+w*(2*K+1)+K+1 by omega)) (show (l.map aI).length=(fW R (aI s)).length by omega);obtain⟨z2,QX,gA⟩:=m90 h.toFr' h.W7 kF Aj zh Cw lb (by omega) (by omega) iw hkW (by omega) (by omega);have ly:=Ek R.length (dS (fW R (aI s)) (l.map aI));have kY:=aar (Ej zh (show (l.map aI).length=(fW R (aI s)).length by omega)) (by rw[rb (by omega)];exact Cw) hkW (by omega)
  have htq:dF R w (l.map aI) (aI s)=(dR R w).map fun c=>eE c (mU R.length (dS (fW R (aI s)) (l.map aI))) c.length:=yK hnw
  generalize mU R.length (dS (fW R (aI s)) (l.map aI))=y at*
  obtain⟨z3,QY,QZ⟩:=m92 h.W4 hvT (by rw[D0];omega) (g:=91) (c:=.aQ [shut z2]) rfl (fun n hp=>rfl) (f:=fun c=>eE c y c.length) (fun u r bt hu=>by
   have qG:=zG zu bt
   exact m91 h.toFr' h.h91 h.rJ (K:=70000000) hu gA (by omega) (by omega) (fun q hq=>(I4 kT bt q hq).mono (by omega)) (fun q hq=>(kY q hq).mono (by omega)) (by omega) (by
    have:r.length*(2*70000000+1)<=6*(2*70000000+1):=xo (by omega) (by omega)
    omega))
  refine⟨shut z3,by rw[htq];exact QZ,fun a t e ha Q0=>?_⟩
  have s0:=fun (o u:Obj) (r:Hp)=>XU (j:=2+w) (i:=0) o u r (by omega)
  have n1:=fun (o:Obj) (r:Hp)=>fO (j:=2+w+1) (i:=1) o r (by omega)
  have w1:au ((2+w+1,Obj.cells ycO ycO ycO 1 [shut z2])::(2+w,Obj.cells ycO ycO ycO 1 [shut b2])::aV hp 0 (.cells ycP ycO ycO 1 [.str s])) 1=Ix (.cells ycO ycP ycO 1 (dH (iL T.length) (ye w R.length) 0)):=by rw[n1,m1,iP g0,yx (by omega)];exact g1
  obtain⟨H2,v1,v2,v3,v4⟩:=aaq (n:=997) (T:=T) (sz:=4) (y:=ycP) w1 (by rw[tx,lT]) (fun i hi=>⟨ycO,by rw[fO _ _ (by omega),fO _ _ (by omega),iP g0,yx (by omega)];exact zn.r i hi⟩) (by decide) fy (by omega)
  have u2:au H2 (2+w+1)=Ix (.cells ycO ycO ycO 1 [shut z2]):=by rw[v4 _ (.inr (by omega)),fq]
  have Bm:au (aV hp 0 (.cells ycP ycO ycO 1 [.str s])) 1=Ix (.cells ycO ycP ycO 1 (dH (iL T.length) (ye w R.length) 0)):=by rw[iP g0,yx (by omega)];exact g1
  unfold ah at QW QX QY Q0 ⊢;rw[aB h.WM,hD];simp only[go_sem,ya,yb,DF,bU,aA,aG,hb.af,eb,Aj.pu,Aj.af,Aj.one,Aj.cells,hx.len,hx.af,ab6,yo,g0,m1,m0',n1,s0,QW,QX,kF.af,gA.pu,gA.one,gA.cells,Bm,v1,Um,u2,QY,QZ.af,Q0,ha.cd];exact ha.ana _ _ _
 .have ab6:¬(R.length:Int)<w:=by omega
  obtain⟨z1,QW,kF⟩:=m89 h.toCk h.W5 h.rJ hvT zu (by omega) (by rw[D0];omega) (by rw[D0];omega) dA kT kl dQ (by omega) (sp:=[]);obtain⟨z2,QX,gA⟩:=m92 h.W4 hvT (by rw[D0];omega) (g:=93) (c:=.aQ [shut b2]) rfl (fun n hp=>rfl) (f:=fun c=>eE c (l.map aI) c.length) (fun u r bt hu=>by
   have qG:=zG zu bt
   exact m93 h.toFr' h.h93 h.rJ hu Aj (by omega) (by omega) (I4 kT bt) kb dQ (by
    have:r.length*(2*K+1)<=10*(2*400+1):=xo (by omega) (by omega)
    omega))
  have ltb:=ahX R w (l.map aI);have abc:cQ (shut z2) (Ds R w (l.map aI)):=gA;have kB:∀q,q∈Ds R w (l.map aI)->Hq (2+R.length*(2*K+1)+K+1) q:=fun q hq=>by
   obtain⟨c,iy,rfl⟩:=xj.1 hq;have h1:=zL (I4 kT iy) kb dQ dQ c.length;rw[zG zu iy,show K+K+1=2*K+1 by omega] at h1;rw[zG zu iy];exact h1.mono (by omega)
  have zh:=CP (dR R w) (aI s);have Cw:=mF (dR R w) (aI s);rw[D0] at zh Cw;have Fc:4^w<=4^6:=y9 (by decide) (by omega);have aas:=yR (2+R.length*(2*K+1)+K+1+1) Fc;obtain⟨z3,QY,QZ⟩:=m90 h.toFr' h.W7 kF abc zh Cw ltb (by omega) (by omega) fw (Ua (Uc zu kT kl dQ) kB (by omega)) (by omega) (by omega);refine⟨shut z3,by unfold dF;rw[yx hnw];exact QZ,fun a t e ha Q0=>?_⟩
  obtain⟨H1,x1,x2,x3,x4⟩:=aaq (hp:=(2+w,Obj.cells ycO ycO ycO 1 [shut b2])::hp) (n:=997) (W:=ye w R.length) (T:=T) (sz:=4) (x:=ycO) (y:=ycP) (rw0:=ycO) (by rw[m1];exact g1) (by rw[tx,lT]) (fun i hi=>⟨ycO,by rw[fO _ _ (by omega)];exact zn.r i hi⟩) (by decide) fy (by omega)
  have y0:au H1 0=Ix (.cells ycO ycO ycO 1 [.str s]):=by rw[x4 0 (.inl rfl),m0'];exact g0
  have y2:au H1 (2+w)=Ix (.cells ycO ycO ycO 1 [shut b2]):=by rw[x4 _ (.inr (by omega)),fq]
  have w1:au (aV H1 0 (.cells ycP ycO ycO 1 [.str s])) 1=Ix (.cells ycP ycP ycO 1 (dH (iL T.length) (ye w R.length) 0)):=by rw[iP y0,yx (by omega)];exact x2
  obtain⟨H2,v1,v2,v3,v4⟩:=aaq (n:=997) (T:=T) (sz:=4) (y:=ycP) w1 (by rw[tx,lT]) (fun i hi=>by rw[iP y0,yx (by omega)];exact x3 i hi) (by decide) fy (by omega)
  have u2:au H2 (2+w)=Ix (.cells ycO ycO ycO 1 [shut b2]):=by rw[v4 _ (.inr (by omega)),iP y0,yx (by omega)];exact y2
  unfold ah at QW QX QY Q0 ⊢;rw[aB h.WM,hD];simp only[go_sem,ya,yb,DF,bU,aA,aG,hb.af,eb,Aj.pu,Aj.one,Aj.cells,hx.len,ab6,yp,m1,g1,x1,Um,y0,QW,w1,v1,u2,QX,QY,kF.af,gA.af,QZ.af,Q0,ha.cd];exact ha.ana _ _ _
def aC3(hw:wid w R)(kR:iB K R):iB K (dR R w):=fun i hi y hy=>by
 rw[nW] at hi;rw[SU hi] at hy;obtain⟨r,bt,rfl⟩:=xj.1 hy;obtain⟨k,hk,rfl⟩:=we.1 bt
 have:=hw k hk
 rw[di hk] at this;rw[dw (by omega)]
 have:=kR k hk
 rw[di hk] at this
 grind
def aAU{b:List Rat}{ld:Rat}(hw:wid w R)(hn:R.length<=10)(hw4:w<=10)(h6:R.length<w->R.length<=6)(w6:¬R.length<w->w<=6)(lb:b.length=R.length)(kR:iB K R)(kb:∀x,x∈b->Hq K x)(kl:Hq K ld)(dQ:2<=K)(hK:K<=400):∀x,x∈dF R w b ld->Hq 500000000 x:=fun x hx=>by
 have aC1:R.length*(2*K+1)<=10*(2*400+1):=xo (by lia) (by lia);have aC2:w*(2*K+1)<=10*(2*400+1):=xo (by lia) (by lia);have zu:=Ns R w;have D0:=nW R w;have kT:=aC3 hw kR;unfold dF at hx
 split at hx
 .have zh:=CP R ld;have Cw:=mF R ld;have Fc:4^R.length<=4^6:=y9 (by decide) (by lia);have aas:=yR (2+w*(2*K+1)+K+1+1) Fc;have kY:=aar (Ej zh (show b.length=(fW R ld).length by lia)) (by rw[rb (by lia)];exact Cw) (Ua (Uc hw kR kl dQ) (fun x zd=>(kb x zd).mono (show K<=2+w*(2*K+1)+K+1 by lia)) (by lia)) (by lia)
  obtain⟨c,hc,rfl⟩:=xj.1 hx;have h1:=zL (K:=K) (J:=70000000) (I4 kT hc) (fun q hq=>(kY q hq).mono (by lia)) dQ (by lia) c.length
  have:=zG zu hc
  have hm:c.length*(K+70000000+1)<=6*(400+70000000+1):=xo (by lia) (by lia);exact h1.mono (by lia)
 .have zh:=CP (dR R w) ld;have Cw:=mF (dR R w) ld;rw[D0] at zh Cw;have ltb:=ahX R w b;have kB:∀q,q∈Ds R w b->Hq (2+R.length*(2*K+1)+K+1) q:=fun q hq=>by
   obtain⟨c,iy,rfl⟩:=xj.1 hq;have h1:=zL (I4 kT iy) kb dQ dQ c.length;rw[zG zu iy,show K+K+1=2*K+1 by lia] at h1;rw[zG zu iy];exact h1.mono (by lia)
  have Fc:4^w<=4^6:=y9 (by decide) (by lia);have aas:=yR (2+R.length*(2*K+1)+K+1+1) Fc;exact (aar (Ej zh (by lia)) (by rw[rb (by lia)];exact Cw) (Ua (Uc zu kT kl dQ) kB (by lia)) (by lia) x hx).mono (by lia)
def m27(h:W8 P L){bv:AV}(hv:dL bw v M)(hb:bw bv l)(hl:M.length<=1000000)(ll:l.length<=1000000)(hr:∀r,r∈M->r.length<=1000000/\∀s,s∈r->s.length<=1000000000)(hs:∀s,s∈l->s.length<=1000000000)(DW:s.length<=1000000000)(hE:Kz M l s=0)(hM:qV M=0)(QV:l.length=M.length)(h4:M.length<=10)(w4:wd M<=10)(h6:M.length<wd M->M.length<=6)(w6:¬M.length<wd M->wd M<=6)(hc:∀s,s∈l->aM s=0)(dA:aM s=0)(kR:iB K (ij M))(kb:∀x,x∈l.map aI->Hq K x)(kl:Hq K (aI s))(dQ:2<=K)(hK:K<=400)(iw:mV M.length (dS (fW (ij M) (aI s)) (l.map aI)))(fw:mV (wd M) (dS (fW (dR (ij M) (wd M)) (aI s)) (Ds (ij M) (wd M) (l.map aI)))):
  ((dF (ij M) (wd M) (l.map aI) (aI s)).any LG=ycO->ah P L 27 [v,bv,.str s] (.ax [.ae,aa 4]))/\
  ((dF (ij M) (wd M) (l.map aI) (aI s)).any LG=ycP->∃r,bw r ((dF (ij M) (wd M) (l.map aI) (aI s)).map RT)/\ah P L 27 [v,bv,.str s] (.ax [r,aa 0])):=by
 obtain⟨q,hq,hf⟩:=aC0 h hv hb hl ll hr hs DW hE hM QV h4 w4 h6 w6 hc dA kR kb kl dQ hK iw fw;obtain⟨m0,m64,cR⟩:=ZO hM;have hw:=YB (M:=M) (fun r bt=>(cR r bt).1);have lM:=YC M;have kQ:=aAU hw (by omega) w4 (by rw[lM];exact h6) (by rw[lM];exact w6) (by rw[yg];omega) kR kb kl dQ hK
 have lq:(dF (ij M) (wd M) (l.map aI) (aI s)).length<=1000000:=by
  unfold dF
  split
  .rw [yg,nW];omega
  .rw [Ek];omega
 obtain⟨a1,a2⟩:=m83 h.Ip h.Kt h.Ku h.Fk h.toTx hq lq kQ (by omega);refine⟨fun ha=>hf _ [] _ (.inl ⟨rfl,rfl⟩) (a1 ha),fun ha=>?_⟩
 grind
end
def ajY(r:List Rat):bP (cr r)=ycO/\aD (cr r)=ycO:=by
 unfold cr
 induction r with
 | nil=>exact⟨rfl,rfl⟩
 | cons x l ih=>exact⟨by simp[bP,ih.1,SE],by simp[aD,ih.2,ajv]⟩
def Bn(m:Mx)(ld:Rat):Nat->Mx
 | 0=>m
 | k+1=>(Bn m ld k).set k ((gR (Bn m ld k) k).set k (aO (gR (Bn m ld k) k) k+ld))
def Zh(m:Mx)(ld:Rat):∀k,(Bn m ld k).length=m.length
 | 0=>rfl
 | k+1=>by rw[Bn,wI,Zh m ld k]
def SV{m:Mx}{w:Nat}(ld:Rat)(hw:wid w m):∀k,wid w (Bn m ld k)
 | 0=>hw
 | k+1=>fun i hi=>by
  rw[Bn,wI] at hi;rw[Bn,oT]
  split
  .rename_i h;rw[wI,SV ld hw k k (by lia)]
  .exact SV ld hw k i hi
def aat{m:Mx}{w:Nat}(ld:Rat)(hw:wid w m)(hl:m.length=w){i j:Nat}(hi:i<w)(hj:j<w):∀k,k<=w->E (Bn m ld k) i j=if i=j/\i<k then E m i j+ld else E m i j
 | 0,_=>by rw[yx (by lia)];rfl
 | k+1,hk=>by
  have ih:=aat ld hw hl hi hj k (by lia);have ih2:=aat ld hw hl (i:=k) (j:=k) (by lia) (by lia) k (by lia);have hlen:=Zh m ld k;unfold E at ih ih2 ⊢;rw[Bn,oT];by_cases h:k=i
  .subst h;rw[yK ⟨rfl,by lia⟩,ai8];by_cases h2:k=j
   .subst h2;rw[yK ⟨rfl,by rw[SV ld hw k k (by lia)];exact hi⟩,yK ⟨rfl,by lia⟩,ih2,yx (by lia)]
   .rw [yx (fun q=>h2 q.1),yx (fun q=>h2 q.1),ih,yx (fun q=>h2 q.1)]
  .rw [yx (fun q=>h q.1),ih];by_cases h3:i=j/\i<k
   .rw [yK h3,yK ⟨h3.1,by lia⟩]
   .rw [yx h3,yx (fun q=>h3 ⟨q.1,by lia⟩)]
def kA(R:Mx)(w:Nat)(ld:Rat):Mx:=Bn (Fm (dR R w) R w) ld w
def kC(R:Mx)(w:Nat)(b:List Rat):List Rat:=eF (dR R w) b
def CF(R:Mx)(w:Nat)(ld:Rat):wid w (kA R w ld):=SV ld (ahQ _ _ _) w
def sd(R:Mx)(w:Nat)(ld:Rat):(kA R w ld).length=w:=by unfold kA;rw[Zh,ahR];simp[dR]
def IV(R:Mx)(w:Nat)(b:List Rat):(kC R w b).length=w:=by simp[kC,eF,dR]
section
variable {b:List Rat}{R:Mx}{i w:Nat}
def aAV{A B:Mx}(hl:A.length=B.length)(ha:wid w A)(hb:wid w B)(h:∀i c,i<A.length->c<w->E A i c=E B i c):A=B:=by
 refine uA hl (fun i h1 h2=>?_);have wa:=ha i h1;have wb:=hb i h2;rw[di h1] at wa;rw[di h2] at wb;refine uA (by lia) (fun c h3 h4=>?_)
 have:=h i c h1 (by lia)
 unfold E at this
 rwa[di h1,di h2,dw h3,dw h4] at this
def ET(hw:wid w R)(lb:b.length=R.length)(hi:i<R.length){j:Nat}(hj:j<w+1):E (dS R b) i j=if j<w then E R i j else aO b i:=by
 have wi:=hw i hi;rw[di hi] at wi;unfold E;rw[di (by rw[rb lb];exact hi),di hi,SR hi (by lia)]
 split
 .rw [dw (by rw[yE];lia),dw (by lia),wg (by lia)]
 .rw [dw (by rw[yE];simp;lia),dw (by lia),wz (by lia)]
  simp
def aau{ld:Rat}(hw:wid w R){k:Nat}(hi:i<R.length)(hk:k<R.length):E (fW R ld) i k=sm (fun c=>E R i c*E R k c) w+if i=k then ld else 0:=by
 have e:E (fW R ld) i k=DX R ld i k:=by
  unfold E;rw[di (by rw[mF];exact hi)]
  have:(fW R ld)[i]'(by rw[mF];exact hi)=zt R ld i:=by simp[fW]
  rw[this,dw (by rw[Gu];exact hk)]
  simp[zt]
 rw[e];unfold DX;rw[hw i hi,CX]
 split
 .rfl
 .rw [Rat.add_zero];rfl
def Th{ld:Rat}{c:Nat}(hi:i<w)(hc:c<w):E (kA R w ld) i c=sm (fun k=>E R k i*E R k c) R.length+if i=c then ld else 0:=by
 have lT:=nW R w;have e1:=aat ld (ahQ (dR R w) R w) (by rw[ahR,lT]) hi hc w (ym w);have e2:=aAR (A:=dR R w) (B:=R) (w:=w) (i:=i) (c:=c) (by omega) hc;rw[Ns R w i (by omega)] at e2
 rw[cW (g:=fun k=>E R k i*E R k c) (fun k hk=>by rw[Ub hi hk])] at e2;unfold kA
 grind
def ajZ(R:Mx)(w:Nat)(ld:Rat):fW (dR R w) ld=kA R w ld:=by
 have lT:=nW R w;have hg:=CP (dR R w) ld;rw[lT] at hg
 refine aAV (w:=w) (by rw[mF,sd,lT]) hg (CF R w ld) (fun i c hi hc=>?_);rw[mF,lT] at hi;rw[aau (Ns R w) (by lia) (by lia),Th hi hc]
 congr 1
 exact cW (fun k hk=>by rw[Ub hi hk,Ub hc hk])
def ajb(R:Mx)(w:Nat)(b:List Rat):Ds R w b=kC R w b:=rfl
def alx(hi:i<w):aO (kC R w b) i=sm (fun r=>E R r i*aO b r) R.length:=by
 have lT:=nW R w;rw[dw (by rw[IV];exact hi)]
 have hr:(dR R w)[i]'(by omega)=R.map fun r=>aO r i:=by simp[dR]
 have:(kC R w b)[i]'(by rw[IV];exact hi)=eE (R.map fun r=>aO r i) b R.length:=by
  simp only[kC,eF,xm]
  grind
 rw[this,CX];refine cW (fun r bt=>?_);rw[dw (by rw[yg];exact bt),xm]
 unfold E;rw[di bt]
section
variable {R:Mx}{w:Nat}{b:List Rat}{ld:Rat}(hw:wid w R)(lb:b.length=R.length)(hl:0<ld)
include hw lb hl
theorem aj0:mV R.length (dS (fW R ld) b):=
 ahS (a:=fun i c=>E R i c) (m:=w) hl (fun i c hi hc=>by
  rw[ET (CP R ld) (by rw[mF];exact lb) (by rw[mF];exact hi) (by lia),yK hc,aau hw hi hc])
theorem Ti:mV w (dS (kA R w ld) (kC R w b)):=
 ahS (a:=fun i c=>E R c i) (m:=R.length) hl (fun i c hi hc=>by
  rw[ET (CF R w ld) (by rw[sd,IV]) (by rw[sd];exact hi) (by lia),yK hc,Th hi hc])
theorem aya:w∉(cC (dS (kA R w ld) (kC R w b)) (w+1)).2/\Ky (cC (dS (kA R w ld) (kC R w b)) (w+1)).1 (cC (dS (kA R w ld) (kC R w b)) (w+1)).2 w (cC (dS (kA R w ld) (kC R w b)) (w+1)).2.length=dF R w b ld:=by
 have d2:=Ti hw lb hl;have lN:(kC R w b).length=(kA R w ld).length:=by rw[sd,IV]
 have hW:=Ej (CF R w ld) lN;have lW:(dS (kA R w ld) (kC R w b)).length=w:=by rw[rb lN,sd]
 have hm:=ahT d2 hW lW;have hf:=M9 d2 hW lW;obtain⟨p1,p2⟩:=SQ hW hm hf;refine⟨hm,?_⟩;have lr:=Zc (dS (kA R w ld) (kC R w b)) (w+1);rw[p1,ahW p2 p1 (by omega)];have aFP:((cC (dS (kA R w ld) (kC R w b)) (w+1)).1.take w).map (fun r=>aO r w)=(wO w).map fun k=>E (cC (dS (kA R w ld) (kC R w b)) (w+1)).1 k w:=by
  refine uA (by simp;omega) (fun k h1 h2=>?_);simp only[yg,tT] at h2;rw[xm,xm,ybv,uQ];unfold E;rw[di (by omega)]
 rw[aFP];unfold dF
 split
 .
  have d1:=aj0 hw lb hl;have lG:b.length=(fW R ld).length:=by rw[mF];exact lb
  have hW1:=Ej (CP R ld) lG;have lW1:(dS (fW R ld) b).length=R.length:=by rw[rb lG,mF]
  have hy:∀r,r<R.length->sm (fun s=>(sm (fun c=>E R r c*E R s c) w+if r=s then ld else 0)*aO (mU R.length (dS (fW R ld) b)) s) R.length=aO b r:=fun r hr=>by
   have e1:=ZQ d1 hW1 lW1 r hr;rw[ET (CP R ld) lG (by rw[mF];exact hr) (by omega),yx (by omega)] at e1
   rw[<-e1];refine cW (fun s hs=>?_);rw[ET (CP R ld) lG (by rw[mF];exact hr) (by omega),yK hs,aau hw hr hs,<-ajX d1 hW1 lW1 s hs]
   congr 1
   rw[dw (by rw[Ek];exact hs)]
   simp[mU]
  have hs:=ax4 d2 hW lW (x:=fun c=>sm (fun s=>E R s c*aO (mU R.length (dS (fW R ld) b)) s) R.length) (fun i hi=>by
   rw[ET (CF R w ld) lN (by rw[sd];exact hi) (by omega),yx (by omega),alx hi,<-avx hy hi]
   refine cW (fun c hc=>?_)
   rw[ET (CF R w ld) lN (by rw[sd];exact hi) (by omega),yK hc,Th hi hc])
  refine uA (by simp[nW]) (fun k h1 h2=>?_);simp only[yg,tT] at h1;have hk:(dR R w)[k]'(by rw[nW];exact h1)=R.map fun r=>aO r k:=by simp[dR]
  rw[xm,uQ,hs k h1,xm,hk,yg,CX];refine cW (fun r hr=>?_)
  rw[dw (r:=R.map fun r=>aO r k) (by rw[yg];exact hr),xm]
  unfold E;rw[di hr]
 .rw [ajZ,ajb];unfold mU;exact wL (fun k hk=>(ajX d2 hW lW k (yap.1 hk)).symm)
end
end
def Tj(f g:Nat->Rat):∀n,sm (fun i=>f i-g i) n=sm f n-sm g n
 | 0=>by simp[sm];grind
 | n+1=>by rw[sm,sm,sm,Tj f g n];grind
section
variable {R:Mx}{w:Nat}{b:List Rat}{ld:Rat}(hw:wid w R)(lb:b.length=R.length)(hl:0<ld)
include hw lb hl
theorem ajc:dF R w b ld=(wO w).map fun k=>E (cC (dS (kA R w ld) (kC R w b)) (w+1)).1 k w:=by
 have d2:=Ti hw lb hl;have lN:(kC R w b).length=(kA R w ld).length:=by rw[sd,IV]
 have hW:=Ej (CF R w ld) lN;have lW:(dS (kA R w ld) (kC R w b)).length=w:=by rw[rb lN,sd]
 have⟨hm,ho⟩:=aya hw lb hl;have hf:=M9 d2 hW lW;have⟨p1,p2⟩:=SQ hW hm hf;have lr:=Zc (dS (kA R w ld) (kC R w b)) (w+1);rw[<-ho,p1,ahW p2 p1 (by lia)];refine uA (by simp;lia) (fun k h1 h2=>?_)
 simp only[yg,tT] at h2;rw[xm,xm,ybv,uQ];unfold E;rw[di (by lia)]
theorem aAW{i:Nat}(hi:i<w):sm (fun c=>(sm (fun r=>E R r i*E R r c) R.length+if i=c then ld else 0)*aO (dF R w b ld) c) w=sm (fun r=>E R r i*aO b r) R.length:=by
 have d2:=Ti hw lb hl;have lN:(kC R w b).length=(kA R w ld).length:=by rw[sd,IV]
 have hW:=Ej (CF R w ld) lN;have lW:(dS (kA R w ld) (kC R w b)).length=w:=by rw[rb lN,sd]
 have e:=ZQ d2 hW lW i hi;rw[ET (CF R w ld) lN (by rw[sd];exact hi) (by lia),yx (by lia),alx hi] at e
 rw[<-e,ajc hw lb hl];refine cW (fun c hc=>?_);rw[ET (CF R w ld) lN (by rw[sd];exact hi) (by lia),yK hc,Th hi hc,dw (by simpa using hc)]
 simp
theorem ahY{k:Nat}(hk:k<w):sm (fun r=>E R r k*(aO b r-sm (fun c=>E R r c*aO (dF R w b ld) c) w)) R.length=ld*aO (dF R w b ld) k:=by
 have e:=aAW hw lb hl hk;have e1:sm (fun c=>(sm (fun r=>E R r k*E R r c) R.length+if k=c then ld else 0)*aO (dF R w b ld) c) w=sm (fun c=>sm (fun r=>E R r k*E R r c) R.length*aO (dF R w b ld) c) w+ld*aO (dF R w b ld) k:=by
  rw[cW (g:=fun c=>sm (fun r=>E R r k*E R r c) R.length*aO (dF R w b ld) c+(if k=c then ld else 0)*aO (dF R w b ld) c) (fun c _=>by grind),pZ,sB (f:=fun c=>(if k=c then ld else 0)*aO (dF R w b ld) c) hk (fun c _ cu=>by rw[yx (fun q=>cu q.symm)];grind),yK rfl]
 have e2:sm (fun c=>sm (fun r=>E R r k*E R r c) R.length*aO (dF R w b ld) c) w=sm (fun r=>E R r k*sm (fun c=>E R r c*aO (dF R w b ld) c) w) R.length:=by
  rw[cW (g:=fun c=>sm (fun r=>aO (dF R w b ld) c*(E R r k*E R r c)) R.length) (fun c _=>by rw[gX];grind),AD]
  refine cW (fun r _=>?_);rw[<-gX]
  grind
 rw[cW (g:=fun r=>E R r k*aO b r-E R r k*sm (fun c=>E R r c*aO (dF R w b ld) c) w) (fun r _=>by grind),Tj,<-e,e1,e2]
 grind
theorem ayb(o:Nat->Rat):sm (fun r=>(aO b r-sm (fun c=>E R r c*aO (dF R w b ld) c) w)*(aO b r-sm (fun c=>E R r c*aO (dF R w b ld) c) w)) R.length+ld*sm (fun c=>aO (dF R w b ld) c*aO (dF R w b ld) c) w<=sm (fun r=>(sm (fun c=>E R r c*o c) w-aO b r)*(sm (fun c=>E R r c*o c) w-aO b r)) R.length+ld*sm (fun c=>o c*o c) w:=by
 have hg:=fun k hk=>ahY hw lb hl (k:=k) hk
 generalize hx:(fun c=>aO (dF R w b ld) c)=x at*
 have zd:∀c,aO (dF R w b ld) c=x c:=fun c=>by rw[<-hx]
 simp only[zd] at*
 have e1:sm (fun r=>(sm (fun c=>E R r c*o c) w-aO b r)*(sm (fun c=>E R r c*o c) w-aO b r)) R.length
   =sm (fun r=>sm (fun c=>E R r c*(o c-x c)) w*sm (fun c=>E R r c*(o c-x c)) w) R.length-2*sm (fun r=>sm (fun c=>E R r c*(o c-x c)) w*(aO b r-sm (fun c=>E R r c*x c) w)) R.length+sm (fun r=>(aO b r-sm (fun c=>E R r c*x c) w)*(aO b r-sm (fun c=>E R r c*x c) w)) R.length:=by
  rw[<-gX,<-Tj,<-pZ];refine cW (fun r _=>?_)
  have:sm (fun c=>E R r c*(o c-x c)) w=sm (fun c=>E R r c*o c) w-sm (fun c=>E R r c*x c) w:=by
   rw[<-Tj];exact cW (fun c _=>by grind)
  rw[this];grind
 have e2:sm (fun r=>sm (fun c=>E R r c*(o c-x c)) w*(aO b r-sm (fun c=>E R r c*x c) w)) R.length=ld*sm (fun c=>(o c-x c)*x c) w:=by
  rw[cW (g:=fun r=>sm (fun c=>(o c-x c)*(E R r c*(aO b r-sm (fun c=>E R r c*x c) w))) w) (fun r _=>by
   have:=gX (aO b r-sm (fun c=>E R r c*x c) w) (fun c=>E R r c*(o c-x c)) w
   rw[show sm (fun c=>E R r c*(o c-x c)) w*(aO b r-sm (fun c=>E R r c*x c) w)=(aO b r-sm (fun c=>E R r c*x c) w)*sm (fun c=>E R r c*(o c-x c)) w by grind,<-this]
   exact cW (fun c _=>by grind)),AD,<-gX]
  refine cW (fun c hc=>?_);rw[gX,hg c hc];grind
 have e3:sm (fun c=>o c*o c) w=sm (fun c=>(o c-x c)*(o c-x c)) w+2*sm (fun c=>(o c-x c)*x c) w+sm (fun c=>x c*x c) w:=by
  rw[<-gX,<-pZ,<-pZ];exact cW (fun c _=>by grind)
 have n1:=Hd (fun r=>sm (fun c=>E R r c*(o c-x c)) w) R.length;have n2:=Hd (fun c=>o c-x c) w;have n3:=Rat.mul_nonneg (Rat.le_of_lt hl) n2;rw[e1,e2,e3]
 grind
end
section
variable {s:List (List Int)}
def aj1(f:Nat->Rat)(a:Nat):∀b,sm f (a+b)=sm f a+sm (fun i=>f (a+i)) b
 | 0=>by simp[sm];grind
 | b+1=>by rw[<-Nat.add_assoc,sm,sm,aj1 f a b];grind
def aC4(fr n i j:Int)(k:Nat):er fr n i j k=fr+er 0 n i j k:=by unfold er;lia
def ajd{C:Int->Rat}{fr n i j:Int}{f g:Rat}{v:Nat->Rat}{N:Nat}(hn:0<n)(fg:n<=1000)(hN:(N:Int)=n*n):∀m,sm (fun t=>fJ C fr n i j f g m (fr+(t:Int))*v t) N=sm (fun t=>C (fr+(t:Int))*v t) N+sm (fun k=>jW f g k*v (er 0 n i j k).toNat) m
 | 0=>by simp only[fJ,sm];grind
 | m+1=>by
  obtain⟨b1,b2⟩:=TX (fr:=0) (i:=i) (j:=j) hn fg (Int.le_refl 0) m;have hc:(er 0 n i j m).toNat<N:=by omega
  rw[cW (g:=fun t=>(if t=(er 0 n i j m).toNat then jW f g m else 0)*v t+fJ C fr n i j f g m (fr+(t:Int))*v t) (fun t _=>by
   show (if fr+(t:Int)=er fr n i j m then jW f g m+fJ C fr n i j f g m (fr+(t:Int)) else fJ C fr n i j f g m (fr+(t:Int)))*v t=_
   have e:=aC4 fr n i j m;by_cases h:t=(er 0 n i j m).toNat
   .grind
   .rw [yx (by omega),yx h];grind),pZ,ajd hn fg hN m,sB (f:=fun t=>(if t=(er 0 n i j m).toNat then jW f g m else 0)*v t) hc (fun t _ ht=>by rw[yx ht];grind),yK rfl]
  rw[sm];grind
def jN(s:List (List Int)):List Rat:=s.flatten.map fun z:Int=>(z:Rat)
def avA{n:Nat}(h:∀r,r∈s->r.length=n):∀{r c:Nat},r<s.length->c<n->s.flatten.getD (r*n+c) 0=(s.getD r []).getD c 0:=by
 induction s with
 | nil=>intro r c hr;exact absurd hr (vh r)
 | cons a s ih=>
  intro r c hr hc
  cases r with
  | zero=>
   grind
  | succ r=>
   grind
def as3(l:List Int)(i:Nat):(l.map fun z:Int=>(z:Rat)).getD i 0=((l.getD i 0:Int):Rat):=by
 simp only[yW,List.getElem?_map];cases l[i]?<;>rfl
def avB(hs:∀r,r∈s->r.length=s.length)(h0:0<s.length)(i j:Int)(k:Nat):aO (jN s) (er 0 s.length i j k).toNat=rA s i j k:=by
 have a1:=wV (i+(k:Int)%2) (show (s.length:Int)≠0 by lia);have a2:=wV (j+(k:Int)/2) (show (s.length:Int)≠0 by lia);have a3:=wU (i+(k:Int)%2) (show (0:Int)<s.length by lia);have a4:=wU (j+(k:Int)/2) (show (0:Int)<s.length by lia);unfold aO jN rA jc er;generalize (i+(k:Int)%2)%s.length=c at*
 generalize (j+(k:Int)/2)%s.length=r at*
 obtain⟨c',rfl⟩:∃c':Nat,c=c':=⟨c.toNat,by lia⟩;obtain⟨r',rfl⟩:∃r':Nat,r=r':=⟨r.toNat,by lia⟩;rw[as3,show (0+(r':Int)*s.length+c').toNat=r'*s.length+c' by rw[<-xS];lia,avA hs (by lia) (by lia)]
 simp
def ayc(hs:∀r,r∈s->r.length=s.length)(h0:0<s.length)(h1:s.length<=1000){C:Int->Rat}(hC:∀q,fr<=q->C q=0)(i j:Int)(f g:Rat):sm (fun t=>fJ C fr s.length i j f g 4 (fr+(t:Int))*aO (jN s) t) (s.length*s.length)=Ps s i j f g:=by
 rw[ajd (by omega) (by omega) (xS _ _) 4,q9 (f:=fun t=>C (fr+(t:Int))*aO (jN s) t) (fun t _=>by rw[hC _ (by omega),ybN]),cW (g:=fun k=>jW f g k*rA s i j k) (fun k _=>by rw[avB hs h0])];simp only[sm,Ps,pq,z6,List.foldl_cons,List.foldl_nil,jW,nQ,yW,List.getElem?_cons_zero,List.getElem?_cons_succ,Option.getD_some]
 grind
def cZ(l:List Lay):List Rat:=(l.map fun a=>jN a.s).flatten
def Iv(a:Lay):Prop:=0<a.s.length/\a.s.length<=16/\∀r,r∈a.s->r.length=a.s.length
def RO{α:Type}{s:List (List α)}{n:Nat}(h:∀r,r∈s->r.length=n):s.flatten.length=s.length*n:=by
 induction s with
 | nil=>simp
 | cons a s ih=>rw[wq,yE,h a xA,ih (fun r hr=>h r (xi _ hr)),yB,Nat.succ_mul];lia
def X6{a:Lay}(h:Iv a):(jN a.s).length=a.s.length*a.s.length:=by unfold jN;rw[yg,RO h.2.2]
section
variable {dx dy sh x y:List Nat}{fr:Int}{l:List Lay}(h:∀a,a∈l->Iv a)
include h
theorem YH:∀k,k<=l.length->(((cZ (l.take k)).length:Nat):Int)=(dz dx dy sh x y fr (l.take k)).1
 | 0,_=>rfl
 | k+1,hk=>by
  have ih:=YH k (by lia);rw[Gd (by lia)];show _=(dz dx dy sh x y fr (l.take k)).1+(l[k].s.length:Int)*l[k].s.length
  rw[<-ih,yk (show k<l.length by lia)];unfold cZ;rw[yX,vD,yE];simp only[yS,wu,wq,tF,wh];rw[X6 (h _ (yy _)),yaR,xS]
theorem avC{k:Nat}(hk:k<l.length){t:Nat}(ht:t<l[k].s.length*l[k].s.length):aO (cZ l) ((cZ (l.take k)).length+t)=aO (jN l[k].s) t:=by
 have e:cZ l=cZ (l.take k)++(jN l[k].s++cZ (l.drop (k+1))):=by
  conv=>lhs;rw[<-xX k l,yP hk]
  unfold cZ
  grind
 have hc:=X6 (h _ (yy hk));unfold aO
 grind
theorem ahZ:∀k,k<=l.length->sm (fun q=>(dz dx dy sh x y fr (l.take k)).2 (q:Int)*aO (cZ l) q) (cZ (l.take k)).length=sC (Lay.low sh) (Lay.ph dx dy sh x y fr) 0 (l.take k)
 | 0,_=>rfl
 | k+1,hk=>by
  have ih:=ahZ k (by omega);have hS:=h _ (yy (show k<l.length by omega));obtain⟨_,h0,hz⟩:=run_eq (dx:=dx) (dy:=dy) (sh:=sh) (x:=x) (y:=y) (fr:=fr) (fun a ha=>⟨(h a ha).1,(h a ha).2.1⟩) k (show k<=l.length by omega);have lk:=YH (dx:=dx) (dy:=dy) (sh:=sh) (x:=x) (y:=y) (fr:=fr) h k (by omega);have lk1:=YH (dx:=dx) (dy:=dy) (sh:=sh) (x:=x) (y:=y) (fr:=fr) h (k+1) hk;have aK:=Gd (dx:=dx) (dy:=dy) (sh:=sh) (x:=x) (y:=y) (fr:=fr) (show k<l.length by omega);have hlen:(cZ (l.take (k+1))).length=(cZ (l.take k)).length+l[k].s.length*l[k].s.length:=by
   have:(dz dx dy sh x y fr (l.take (k+1))).1=(dz dx dy sh x y fr (l.take k)).1+(l[k].s.length:Int)*l[k].s.length:=by rw[aK];rfl
   grind
  have s1:=hS.1;have s2:=hS.2.1;have Ms:k<l.length:=by omega
  have FB:=fun (t:Nat) (ht:t<l[k].s.length*l[k].s.length)=>avC h Ms ht
  rw[hlen,aj1,afz (by omega),<-ih,aK];generalize dz dx dy sh x y fr (l.take k)=p at*
  generalize (cZ (l.take k)).length=F at*
  have hN:((l[k].s.length*l[k].s.length:Nat):Int)=(l[k].s.length:Int)*l[k].s.length:=xS _ _;have e1:sm (fun q=>(Ha dx dy sh x y fr p l[k]).2 (q:Int)*aO (cZ l) q) F=sm (fun q=>p.2 (q:Int)*aO (cZ l) q) F:=cW (fun q hq=>by
   congr 1
   show ig _ _ _ _ _=_
   unfold ig;rw[yx (by omega)]
   split
   .exact M6 (by omega) (by omega) h0 (.inl (by omega)) 4
   .rfl)
  have e2:sm (fun t=>(Ha dx dy sh x y fr p l[k]).2 ((F+t:Nat):Int)*aO (cZ l) (F+t)) (l[k].s.length*l[k].s.length)=if Lay.low sh l[k]=ycO then Lay.ph dx dy sh x y fr l[k] else 0:=by
   rw[cW (g:=fun t=>aI l[k].st*((if Lay.low sh l[k]=ycO then fJ p.2 p.1 l[k].s.length ((dO l[k].hh l[k].sc l[k].ox l[k].wx dx sh x fr).floor%l[k].s.length) ((dO l[k].hh l[k].sc l[k].oy l[k].wy dy sh y fr).floor%l[k].s.length) (iA (dO l[k].hh l[k].sc l[k].ox l[k].wx dx sh x fr)) (iA (dO l[k].hh l[k].sc l[k].oy l[k].wy dy sh y fr)) 4 else p.2) (p.1+(t:Int))*aO (jN l[k].s) t)) (fun t ht=>by
    show ig _ _ _ _ _*_=_
    unfold ig
    grind),gX]
   split
   .rw [ayc hS.2.2 hS.1 (by omega) hz];rfl
   .rw [q9 (fun t _=>by rw[hz _ (by omega),ybN]),Rat.mul_zero]
  grind
end
end
section
variable {mv ov v:AV}{s:List (List Int)}{vc:List AV}{l:List Lay}{V0:List Rat}{k r:Nat}
def jC(vc:List AV)(V:List Rat):Hp:=oH 1 1 (cr V) [(0,.cells ycO ycO ycO 3 vc)] V.length
def fm(l:List Int):List Rat:=l.map fun z:Int=>(z:Rat)
def arf{l:List Int}{c:Nat}(h:c<l.length):fm (l.take (c+1))=fm (l.take c)++[((l[c]:Int):Rat)]:=by
 unfold fm;rw[yk h,yX];rfl
def aje(V:List Rat)(x:Rat):cr (V++[x])=cr V++[.str (RT x)]:=by simp[cr]
def aAX(h:Rm P L)(Dl:Has P L 265 Hk)(pv:aP v=ycO)(po:aP ov=ycO)(pm:aP mv=ycO)(pc:aD vc=ycO){nr:Nat}{rl:List Int}(hr:bl rv rl)(hb:∀z,z∈rl-> -9223372036854775808<=z/\z<9223372036854775808)(hl:V0.length+rl.length<=100000):
  cL P L [0,2,4,11,13,14,15,171,172,180,181,191,192,193] GL (fun d st=>∃c:Nat,c+d=rl.length/\st=⟨[(0,v),(2,ov),(4,.ptr 0 0),(11,mv),(13,oV 1 (V0++fm (rl.take c)).length),(14,.ae),(15,aa k),(171,aa nl),(172,aa k),(180,aa nr),(181,aa r),(191,rv),(192,aa rl.length),(193,aa c)],jC vc (V0++fm (rl.take c)),oC 1 (V0++fm (rl.take c)).length,0⟩) (fun ex s'=>∃tm ct,s'=⟨tm,jC vc (V0++fm rl),ct,0⟩/\ex=.exit 10/\ab tm 0=v/\ab tm 2=ov/\ab tm 4=.ptr 0 0/\ab tm 11=mv/\ab tm 13=oV 1 (V0++fm rl).length/\ab tm 14=.ae/\ab tm 15=aa k/\ab tm 171=aa nl/\ab tm 172=aa k/\ab tm 180=aa nr/\ab tm 181=aa r):=by
 apply cP;rintro d st ⟨c,hcd,rfl⟩;by_cases hc:c<rl.length
 .left
  have e0:=hr.aT hc;have e1:=aCv h Dl (hb _ (yy hc));have wc:IntKind.wrap .i64 ((c:Int)+1)=((c+1:Nat):Int):=wrap64 (by lia) (by lia);have key:∀V:List Rat,V.length<=100000->∃s',D P L GL ⟨[(0,v),(2,ov),(4,.ptr 0 0),(11,mv),(13,oV 1 V.length),(14,.ae),(15,aa k),(171,aa nl),(172,aa k),(180,aa nr),(181,aa r),(191,rv),(192,aa rl.length),(193,aa c)],jC vc V,oC 1 V.length,0⟩=Ix (.normal,s')/\bW [0,2,4,11,13,14,15,171,172,180,181,191,192,193] s'=⟨[(0,v),(2,ov),(4,.ptr 0 0),(11,mv),(13,oV 1 (V++[((rl[c]:Int):Rat)]).length),(14,.ae),(15,aa k),(171,aa nl),(172,aa k),(180,aa nr),(181,aa r),(191,rv),(192,aa rl.length),(193,aa (c+1:Nat))],jC vc (V++[((rl[c]:Int):Rat)]),oC 1 (V++[((rl[c]:Int):Rat)]).length,0⟩:=by
   intro V lV;have lc:=GX V;unfold ah at e1;unfold jC;rw[yE,uK,aje]
   cases hn:V.length with
   | zero=>
    have:V=[]:=yu hn
    subst this;simp only[go_sem,ya,yb,yV,yA,yi,yf,GL,oV,oH,oC,show (c:Int)<rl.length by lia,e0,e1,eT,wc,yd];refine⟨_,rfl,?_⟩;simp only[go_sem,ya,yb,ao,aj pv,aj po,aj pm,aj hr.pu]<;>rfl
   | succ n=>
    simp only[go_sem,ya,yb,yi,yf,GL,oV,oH,oC,show (c:Int)<rl.length by lia,e0,e1]
    rw[dZ (ex:=ycP) (pu:=ycO) (cs:=cr V) rfl (by lia) (by lia) (by lia) (by decide) rfl];simp only[go_sem,ya,yb,wc];refine⟨_,rfl,?_⟩;simp only[go_sem,ya,yb,ao,aj pv,aj po,aj pm,aj hr.pu]<;>rfl
  have⟨s',h1,h2⟩:=key (V0++fm (rl.take c)) (by simp[fm];lia)
  rw[show (V0++fm (rl.take c))++[((rl[c]:Int):Rat)]=V0++fm (rl.take (c+1)) by rw[arf hc,xu]] at h2;exact⟨s',d-1,h1,by lia,c+1,by lia,h2⟩
 .right
  have:c=rl.length:=by lia
  subst this;rw[xH];simp only[go_sem,ya,GL,show ¬(rl.length:Int)<rl.length by lia,yp];exact⟨_,_,rfl,by simp,_,_,rfl,rfl,rfl,rfl,rfl,rfl,rfl,rfl,rfl,rfl,rfl,rfl,rfl⟩
def as4(a b:List Int):fm (a++b)=fm a++fm b:=by simp[fm]
def afH(h:r<s.length):(s.take (r+1)).flatten=(s.take r).flatten++s[r]:=by
 rw[yk h,vD];simp
def avD:(s.take r).flatten.length<=s.flatten.length:=by
 conv=>rhs;rw[<-xX r s,vD,yE]
 lia
def aAY(h:Rm P L)(Dl:Has P L 265 Hk)(po:aP ov=ycO)(pm:aP mv=ycO)(pc:aD vc=ycO)(hv:fb v l)(hk:k<l.length)(hb:∀r,r∈l[k].s->∀z,z∈r-> -9223372036854775808<=z/\z<9223372036854775808)(sQ:l[k].s.length<=100000)(hl:V0.length+l[k].s.flatten.length<=100000):
  cL P L [0,2,4,11,13,14,15,171,172,180,181] Jn (fun d st=>∃r:Nat,r+d=l[k].s.length/\st=⟨[(0,v),(2,ov),(4,.ptr 0 0),(11,mv),(13,oV 1 (V0++fm (l[k].s.take r).flatten).length),(14,.ae),(15,aa k),(171,aa nl),(172,aa k),(180,aa l[k].s.length),(181,aa r)],jC vc (V0++fm (l[k].s.take r).flatten),oC 1 (V0++fm (l[k].s.take r).flatten).length,0⟩) (fun ex s'=>∃tm ct,s'=⟨tm,jC vc (V0++jN l[k].s),ct,0⟩/\ex=.exit 8/\ab tm 0=v/\ab tm 2=ov/\ab tm 4=.ptr 0 0/\ab tm 11=mv/\ab tm 13=oV 1 (V0++jN l[k].s).length/\ab tm 14=.ae/\ab tm 171=aa nl/\ab tm 172=aa k):=by
 apply cP;rintro d st ⟨r,pD,rfl⟩;obtain⟨aao,e0⟩:=hv.aT hk;have hS:=hv.get hk;have pv:=hv.pu;by_cases hr:r<l[k].s.length
 .left
  obtain⟨rv,rest,iQ,e1⟩:=hS.aT hr;have hm:=hb _ (yy hr);have wr:IntKind.wrap .i64 ((r:Int)+1)=((r+1:Nat):Int):=wrap64 (by omega) (by omega);have Cd:=avD (s:=l[k].s) (r:=r+1);rw[afH hr,yE] at Cd;have key:∀V:List Rat,V.length+l[k].s[r].length<=100000->∃s',D P L Jn ⟨[(0,v),(2,ov),(4,.ptr 0 0),(11,mv),(13,oV 1 V.length),(14,.ae),(15,aa k),(171,aa nl),(172,aa k),(180,aa l[k].s.length),(181,aa r)],jC vc V,oC 1 V.length,0⟩=Ix (.normal,s')/\bW [0,2,4,11,13,14,15,171,172,180,181] s'=⟨[(0,v),(2,ov),(4,.ptr 0 0),(11,mv),(13,oV 1 (V++fm l[k].s[r]).length),(14,.ae),(15,aa k),(171,aa nl),(172,aa k),(180,aa l[k].s.length),(181,aa (r+1:Nat))],jC vc (V++fm l[k].s[r]),oC 1 (V++fm l[k].s[r]).length,0⟩:=by
   intro V lV;have f0:=aAX h Dl (vc:=vc) pv po pm pc (k:=k) (r:=r) (nl:=nl) (nr:=l[k].s.length) iQ hm lV l[k].s[r].length;have fin:∀q,(∃ex s',q=Ix (ex,s')/\∃tm ct,s'=⟨tm,jC vc (V++fm l[k].s[r]),ct,0⟩/\ex=.exit 10/\ab tm 0=v/\ab tm 2=ov/\ab tm 4=.ptr 0 0/\ab tm 11=mv/\ab tm 13=oV 1 (V++fm l[k].s[r]).length/\ab tm 14=.ae/\ab tm 15=aa k/\ab tm 171=aa nl/\ab tm 172=aa k/\ab tm 180=aa l[k].s.length/\ab tm 181=aa r)->∃s',ju P L (og 9 (ju P L (og 10 q) (.kp [0,2,4,11,13,14,15,171,172,180,181]))) (.oB [qa 203 181 1,qm 181 203])=Ix (.normal,s')/\bW [0,2,4,11,13,14,15,171,172,180,181] s'=⟨[(0,v),(2,ov),(4,.ptr 0 0),(11,mv),(13,oV 1 (V++fm l[k].s[r]).length),(14,.ae),(15,aa k),(171,aa nl),(172,aa k),(180,aa l[k].s.length),(181,aa (r+1:Nat))],jC vc (V++fm l[k].s[r]),oC 1 (V++fm l[k].s[r]).length,0⟩:=by
    rintro q ⟨ex,s',rfl,tm,ct,rfl,rfl,t0,t2,t4,t11,t13,t14,t15,t171,t172,t180,t181⟩;generalize V++fm l[k].s[r]=W at*
    unfold jC;cases hn:W.length
    all_goals
     rw[hn] at t13;simp only[oV,oH,oC] at t13 ⊢;simp only[go_sem,ya,yb,ao,t0,t2,t4,t11,t13,t14,t15,t171,t172,t180,t181,aj pv,aj po,aj pm,wr];refine⟨_,rfl,?_⟩;simp only[go_sem,ya,yb,ao,aj pv,aj po,aj pm]<;>rfl
   have iV:∀st,bW [0,2,4,11,13,14,15,171,172,180,181,191,192,193] st=⟨[(0,v),(2,ov),(4,.ptr 0 0),(11,mv),(13,oV 1 V.length),(14,.ae),(15,aa k),(171,aa nl),(172,aa k),(180,aa l[k].s.length),(181,aa r),(191,rv),(192,aa l[k].s[r].length),(193,aa (0:Nat))],jC vc V,oC 1 V.length,0⟩->_:=fun st aK=>f0 st ⟨0,by omega,by rw[aK];simp[fm]⟩
   unfold jC at iV ⊢;cases hn:V.length
   all_goals
    rw[hn] at iV;simp only[oV,oH,oC] at iV ⊢;simp only[go_sem,ya,yb,Jn,show (r:Int)<l[k].s.length by omega,yo,e0,ZM,e1,iQ.len];generalize hq:D P L (.loop _ GL) _=q
    have:=fin q (by rw[<-hq];exact iV _ (by simp only[go_sem,ya,yb,ao,aj pv,aj po,aj pm,aj iQ.pu]<;>rfl))
    exact this
  obtain⟨s',h1,h2⟩:=key (V0++fm (l[k].s.take r).flatten) (by rw[yE,show (fm (l[k].s.take r).flatten).length=(l[k].s.take r).flatten.length from yg _];omega);rw[show (V0++fm (l[k].s.take r).flatten)++fm l[k].s[r]=V0++fm (l[k].s.take (r+1)).flatten by rw[afH hr,as4,xu]] at h2;exact⟨s',d-1,h1,by omega,r+1,by omega,h2⟩
 .right
  have:r=l[k].s.length:=by omega
  subst this;rw[xH];have e:fm l[k].s.flatten=jN l[k].s:=rfl;rw[e];simp only[go_sem,ya,Jn,show ¬(l[k].s.length:Int)<l[k].s.length by omega,yp];exact⟨_,_,rfl,by simp,_,_,rfl,rfl,by simp only[go_sem,ya],by simp only[go_sem,ya],by simp only[go_sem,ya],by simp only[go_sem,ya],by simp only[go_sem,ya],by simp only[go_sem,ya],by simp only[go_sem,ya],by simp only[go_sem,ya]⟩
def as5(h:k<l.length):cZ (l.take (k+1))=cZ (l.take k)++jN l[k].s:=by
 rw[yk h];unfold cZ
 grind
def aAZ(h:Rm P L)(Dl:Has P L 265 Hk)(po:aP ov=ycO)(pm:aP mv=ycO)(pc:aD vc=ycO)(hv:fb v l)(A5:l.length<=1000)(hb:∀a,a∈l->a.s.length<=100000/\a.s.flatten.length<=1000/\∀r,r∈a.s->∀z,z∈r-> -9223372036854775808<=z/\z<9223372036854775808)(hV:∀k,k<=l.length->(cZ (l.take k)).length<=50000):
  cL P L [0,2,4,11,13,14,171,172] Jo (fun d st=>∃k:Nat,k+d=l.length/\st=⟨[(0,v),(2,ov),(4,.ptr 0 0),(11,mv),(13,oV 1 (cZ (l.take k)).length),(14,.ae),(171,aa l.length),(172,aa k)],jC vc (cZ (l.take k)),oC 1 (cZ (l.take k)).length,0⟩) (fun ex s'=>∃tm ct,s'=⟨tm,jC vc (cZ l),ct,0⟩/\ex=.exit 6/\ab tm 0=v/\ab tm 2=ov/\ab tm 4=.ptr 0 0/\ab tm 11=mv/\ab tm 13=oV 1 (cZ l).length/\ab tm 14=.ae):=by
 apply cP;rintro d st ⟨k,QM,rfl⟩;have pv:=hv.pu;by_cases hk:k<l.length
 .left
  obtain⟨aao,e0⟩:=hv.aT hk;have hS:=hv.get hk;obtain⟨b1,b2,b3⟩:=hb _ (yy hk);have lV:=hV k (by omega);have wk:IntKind.wrap .i64 ((k:Int)+1)=((k+1:Nat):Int):=wrap64 (by omega) (by omega);rw[show cZ (l.take k)=cZ (l.take k) from rfl];have key:∀V:List Rat,V.length<=50000->∃s',D P L Jo ⟨[(0,v),(2,ov),(4,.ptr 0 0),(11,mv),(13,oV 1 V.length),(14,.ae),(171,aa l.length),(172,aa k)],jC vc V,oC 1 V.length,0⟩=Ix (.normal,s')/\bW [0,2,4,11,13,14,171,172] s'=⟨[(0,v),(2,ov),(4,.ptr 0 0),(11,mv),(13,oV 1 (V++jN l[k].s).length),(14,.ae),(171,aa l.length),(172,aa (k+1:Nat))],jC vc (V++jN l[k].s),oC 1 (V++jN l[k].s).length,0⟩:=by
   intro V lV;have f0:=aAY h Dl (vc:=vc) po pm pc hv (nl:=l.length) hk b3 b1 (V0:=V) (by omega) l[k].s.length;have fin:∀q,(∃ex s',q=Ix (ex,s')/\∃tm ct,s'=⟨tm,jC vc (V++jN l[k].s),ct,0⟩/\ex=.exit 8/\ab tm 0=v/\ab tm 2=ov/\ab tm 4=.ptr 0 0/\ab tm 11=mv/\ab tm 13=oV 1 (V++jN l[k].s).length/\ab tm 14=.ae/\ab tm 171=aa l.length/\ab tm 172=aa k)->∃s',ju P L (og 7 (ju P L (og 8 q) (.kp [0,2,4,11,13,14,171,172]))) (.oB [qa 204 172 1,qm 172 204])=Ix (.normal,s')/\bW [0,2,4,11,13,14,171,172] s'=⟨[(0,v),(2,ov),(4,.ptr 0 0),(11,mv),(13,oV 1 (V++jN l[k].s).length),(14,.ae),(171,aa l.length),(172,aa (k+1:Nat))],jC vc (V++jN l[k].s),oC 1 (V++jN l[k].s).length,0⟩:=by
    rintro q ⟨ex,s',rfl,tm,ct,rfl,rfl,t0,t2,t4,t11,t13,t14,t171,t172⟩;generalize V++jN l[k].s=W at*
    unfold jC;cases hn:W.length
    all_goals
     rw[hn] at t13;simp only[go_sem,ya,yb,ao,t0,t2,t4,t11,t13,t14,t171,t172,aj pv,aj po,aj pm,wk];refine⟨_,rfl,?_⟩;simp only[go_sem,ya,yb,ao,aj pv,aj po,aj pm]<;>rfl
   have iV:∀st,bW [0,2,4,11,13,14,15,171,172,180,181] st=⟨[(0,v),(2,ov),(4,.ptr 0 0),(11,mv),(13,oV 1 V.length),(14,.ae),(15,aa k),(171,aa l.length),(172,aa k),(180,aa l[k].s.length),(181,aa (0:Nat))],jC vc V,oC 1 V.length,0⟩->_:=fun st aK=>f0 st ⟨0,by omega,by rw[aK];simp[fm]⟩
   unfold jC at iV ⊢;cases hn:V.length
   all_goals
    rw[hn] at iV;simp only[go_sem,ya,yb,Jo,show (k:Int)<l.length by omega,yo,e0,ZM,hS.len];generalize hq:D P L (.loop _ Jn) _=q
    have:=fin q (by rw[<-hq];exact iV _ (by simp only[go_sem,ya,yb,ao,aj pv,aj po,aj pm]<;>rfl))
    exact this
  obtain⟨s',h1,h2⟩:=key (cZ (l.take k)) lV;rw[<-as5 hk] at h2;exact⟨s',d-1,h1,by omega,k+1,by omega,h2⟩
 .right
  have:k=l.length:=by omega
  subst this;rw[xH];simp only[go_sem,ya,Jo,show ¬(l.length:Int)<l.length by omega,yp];exact⟨_,_,rfl,by simp,_,_,rfl,rfl,by simp only[go_sem,ya],by simp only[go_sem,ya],by simp only[go_sem,ya],by simp only[go_sem,ya],by simp only[go_sem,ya],by simp only[go_sem,ya]⟩
end
def H6(vc:List AV)(V B:List Rat):Hp:=oH 2 1 (cr B) [(1,.cells ycO ycO ycP 1 (cr V)),(0,.cells ycO ycO ycO 3 vc)] B.length
def aA0{sv:AV}(pv:aP v=ycO)(fv:∀(n:Nat) (hp:Hp),freeze (n+1) hp v=Ix (v,hp))(po:aP ov=ycO)(pm:aP mv=ycO){sl:List dl}(hs:jP sv sl)(hw:jv wv pl)(fR:0<pl.length)(aFQ:pl.length<=100)(sQ:sl.length<=100)(hV:0<V.length){F:dl->List Rat}(lF:∀s,s∈sl->(F s).length=pl.length)(hph:∀s,s∈sl->∃q,ah P L 367 [v,mr s.1 s.2.1 s.2.2,wv,aa fr] (.ax [q,aa 0])/\bw q ((F s).map RT)):
  cL P L [0,2,4,11,13,14,207,208] GM (fun d st=>∃i:Nat,i+d=sl.length/\st=⟨[(0,v),(2,ov),(4,.ptr 0 0),(11,mv),(13,.av 1 0 V.length),(14,oV 2 ((sl.take i).map F).flatten.length),(207,aa sl.length),(208,aa i)],H6 [sv,wv,aa fr] V ((sl.take i).map F).flatten,oC 2 ((sl.take i).map F).flatten.length,0⟩) (fun ex s'=>∃tm ct,s'=⟨tm,H6 [sv,wv,aa fr] V (sl.map F).flatten,ct,0⟩/\ex=.exit 12/\ab tm 2=ov/\ab tm 11=mv/\ab tm 13=.av 1 0 V.length/\ab tm 14=oV 2 (sl.map F).flatten.length):=by
 apply cP;rintro d st ⟨i,hid,rfl⟩;have fl:∀k,k<=sl.length->((sl.take k).map F).flatten.length=k*pl.length:=fun k hk=>by
  rw[RO (n:=pl.length) (fun r hr=>by
   obtain⟨s,hs,rfl⟩:=xj.1 hr
   exact lF s (vI hs)),yg,yJ,xq hk]
 by_cases hi:i<sl.length
 .left
  obtain⟨rest,e0⟩:=hs.aT hi;have hm:=yy hi;obtain⟨q,e1,hq⟩:=hph _ hm;have hF:=lF _ hm;have wi:IntKind.wrap .i64 ((i:Int)+1)=((i+1:Nat):Int):=wrap64 (by omega) (by omega);have fi:=fl i (by omega);have hmul:i*pl.length<=100*100:=xo (by omega) aFQ;have lq:∀hp:Hp,fu hp 1 q=Ix (aa pl.length):=fun hp=>by have:=hq.len (hp:=hp);rwa[yg,hF] at this
  have BR:∀hp:Hp,Bz hp 1 q=Ix (pl.length,cr (F sl[i])):=fun hp=>by
   rcases hq with ⟨_,h2⟩ | ⟨e,h2⟩
   .have:=congrArg tK h2
    rw[yg,yg,yI] at this;omega
   .have e2:((F sl[i]).map RT).map AV.str=cr (F sl[i]):=by simp[cr]
    rw[e2] at h2;have l2:=GX (F sl[i]);rw[l2,hF] at h2;rw[h2,afn];simp only[nT,yf,l2,hF,Nat.beq_refl,yN]
  obtain⟨o1,o2⟩:=ajY (F sl[i]);unfold ah at e1;have key:∀B:List Rat,B.length<=10000->∃s',D P L GM ⟨[(0,v),(2,ov),(4,.ptr 0 0),(11,mv),(13,.av 1 0 V.length),(14,oV 2 B.length),(207,aa sl.length),(208,aa i)],H6 [sv,wv,aa fr] V B,oC 2 B.length,0⟩=Ix (.normal,s')/\bW [0,2,4,11,13,14,207,208] s'=⟨[(0,v),(2,ov),(4,.ptr 0 0),(11,mv),(13,.av 1 0 V.length),(14,oV 2 (B++F sl[i]).length),(207,aa sl.length),(208,aa (i+1:Nat))],H6 [sv,wv,aa fr] V (B++F sl[i]),oC 2 (B++F sl[i]).length,0⟩:=by
   intro B lB;have lc:=GX B;unfold H6;rw[yE,hF,show cr (B++F sl[i])=cr B++cr (F sl[i]) from yX];obtain⟨m,hm⟩:∃m,pl.length=m+1:=⟨pl.length-1,by omega⟩
   cases hn:B.length with
   | zero=>
    have:B=[]:=yu hn
    subst this;simp only[oV,oH,oC,hm,yd];have hap:=fun (hp:Hp) (ct:Nat)=>eT (hp:=hp) (ct:=ct) (sz:=1) (by':=16) (new:=cr (F sl[i])) (m:=m+1) (by omega) (by omega) (by omega) (by decide)
    simp only[go_sem,ya,yb,GM,show (i:Int)<sl.length by omega,aZ,yd,yh,cD,Ei,e0,Fj,a7,fv,hw.len,hw.af,e1,r9,II,IN,hq.len,hq.cd,yg,hF,hm,yo,yM,BR,hap,o2,wi];refine⟨_,rfl,?_⟩;simp only[go_sem,ya,yb,ao,aj pv,aj po,aj pm]<;>rfl
   | succ n=>
    simp only[oV,oH,oC,hm];simp only[go_sem,ya,yb,GM,show (i:Int)<sl.length by omega,aZ,yd,yh,cD,Ei,e0,Fj,a7,fv,hw.len,hw.af,e1,r9,II,IN,hq.len,hq.cd,yg,hF,hm,yo,yM,BR]
    rw[dZ (ex:=ycP) (pu:=ycO) (cs:=cr B) (by simp only[go_sem]) (by omega) (by omega) (by omega) (by decide) o1];simp only[go_sem,ya,yb,o2,wi];refine⟨_,rfl,?_⟩;simp only[go_sem,ya,yb,ao,aj pv,aj po,aj pm]<;>rfl
  obtain⟨s',h1,h2⟩:=key ((sl.take i).map F).flatten (by omega);rw[show ((sl.take i).map F).flatten++F sl[i]=((sl.take (i+1)).map F).flatten by rw[yk hi,yX,vD];simp] at h2
  exact⟨s',d-1,h1,by omega,i+1,by omega,h2⟩
 .right
  have:i=sl.length:=by omega
  subst this;rw[xH];simp only[go_sem,ya,GM,show ¬(sl.length:Int)<sl.length by omega,yp];exact⟨_,_,rfl,by simp,_,_,rfl,rfl,by simp only[go_sem,ya],by simp only[go_sem,ya],by simp only[go_sem,ya],by simp only[go_sem,ya]⟩
section
variable {xv:AV}{r0 r1:Bool}{B R S V:List Rat}{K:Nat}
def H7(r0 r1:Bool)(V B R:List Rat):Hp:=oH 2 1 (cr R) [(1,.cells r1 ycO ycP 1 (cr B)),(0,.cells r0 ycO ycP 1 (cr V))] R.length
def jD(B S:List Rat):List Rat:=vJ (fun b s=>b-s) B S
def as6{i:Nat}(h:i<B.length)(h2:i<S.length):(jD B S).take (i+1)=(jD B S).take i++[B[i]-S[i]]:=by
 rw[yk (by simp[jD];lia)]
 simp[jD]
def aA1(h:Rp P L)(Pp:Has P L 271 OS){sv:AV}(po:aP ov=ycO)(pm:aP mv=ycO)(px:aP xv=ycO)(hs:bw sv (S.map RT))(hl:S.length=B.length)(hB:B.length<=1000)(kB:∀x,x∈B->Hq K x)(kS:∀x,x∈S->Hq J x)(hK:K+J+1<=8000000000):
  cL P L [2,11,13,14,22,24,25,276,277] GN (fun d st=>∃i:Nat,i+d=B.length/\st=⟨[(2,ov),(11,mv),(13,.av 0 0 V.length),(14,.av 1 0 B.length),(22,xv),(24,oV 2 ((jD B S).take i).length),(25,sv),(276,aa B.length),(277,aa i)],H7 r0 r1 V B ((jD B S).take i),oC 2 ((jD B S).take i).length,0⟩) (fun ex s'=>∃tm ct,s'=⟨tm,H7 r0 r1 V B (jD B S),ct,0⟩/\ex=.exit 14/\ab tm 2=ov/\ab tm 11=mv/\ab tm 13=.av 0 0 V.length/\ab tm 14=.av 1 0 B.length/\ab tm 22=xv/\ab tm 24=oV 2 (jD B S).length):=by
 apply cP;rintro d st ⟨i,hid,rfl⟩;by_cases hi:i<B.length
 .left
  have his:i<S.length:=by lia
  have e0:=hs.aT (i:=i) (by rw[yg];exact his)
  rw[xm] at e0;have ik:=ai1 (r:=B) (c:=i) hi;rw[dw hi] at ik;have e1:=aak h (a:=B[i]) (b:=S[i]) (kB _ (yy hi)) (kS _ (yy his)) hK;have wi:IntKind.wrap .i64 ((i:Int)+1)=((i+1:Nat):Int):=wrap64 (by lia) (by lia);unfold ah at e1;have key:∀R:List Rat,R.length<=10000->∃s',D P L GN ⟨[(2,ov),(11,mv),(13,.av 0 0 V.length),(14,.av 1 0 B.length),(22,xv),(24,oV 2 R.length),(25,sv),(276,aa B.length),(277,aa i)],H7 r0 r1 V B R,oC 2 R.length,0⟩=Ix (.normal,s')/\bW [2,11,13,14,22,24,25,276,277] s'=⟨[(2,ov),(11,mv),(13,.av 0 0 V.length),(14,.av 1 0 B.length),(22,xv),(24,oV 2 (R++[B[i]-S[i]]).length),(25,sv),(276,aa B.length),(277,aa (i+1:Nat))],H7 r0 r1 V B (R++[B[i]-S[i]]),oC 2 (R++[B[i]-S[i]]).length,0⟩:=by
   intro R lR;have lc:=GX R;unfold H7;rw[yE,uK,aje]
   cases hn:R.length with
   | zero=>
    have:R=[]:=yu hn
    subst this;simp only[oV,oH,oC,yd];simp only[go_sem,ya,yb,yV,yA,yi,yf,GN,show (i:Int)<B.length by lia,b9 1 0 hi,yd,ik,e0,e1,eT,wi];refine⟨_,rfl,?_⟩;simp only[go_sem,ya,yb,ao,aj po,aj pm,aj px,aj hs.pu]<;>rfl
   | succ n=>
    simp only[oV,oH,oC];simp only[go_sem,ya,yb,yi,yf,GN,show (i:Int)<B.length by lia,b9 1 0 hi,yd,ik,e0,e1]
    rw[dZ (ex:=ycP) (pu:=ycO) (cs:=cr R) rfl (by lia) (by lia) (by lia) (by decide) rfl];simp only[go_sem,ya,yb,wi];refine⟨_,rfl,?_⟩;simp only[go_sem,ya,yb,ao,aj po,aj pm,aj px,aj hs.pu]<;>rfl
  have⟨s',h1,h2⟩:=key ((jD B S).take i) (by rw[yJ];lia)
  rw[<-as6 hi his] at h2;exact⟨s',d-1,h1,by lia,i+1,by lia,h2⟩
 .right
  have:i=B.length:=by lia
  subst this;rw[yq (by simp[jD];lia)]
  simp only[go_sem,ya,GN,show ¬(B.length:Int)<B.length by lia,yp];exact⟨_,_,rfl,by simp,_,_,rfl,rfl,rfl,rfl,rfl,rfl,rfl,rfl⟩
def H8(r0 r1 r2:Bool)(V B R:List Rat):Hp:=[(2,.cells r2 ycO ycP 1 (cr R)),(1,.cells r1 ycO ycP 1 (cr B)),(0,.cells r0 ycO ycP 1 (cr V))]
def aA2(h:Rn P L)(HA:Has P L 319 O0){gv:AV}(po:aP ov=ycO)(pm:aP mv=ycO){X G:List Rat}{r2:Bool}(hx:bw xv (X.map RT))(hg:bw gv (G.map RT))(hl:G.length=X.length)(hX:X.length<=1000)(kX:∀x,x∈X->Hq K x)(hK:K+2<=8000000000)(he:∀k (h1:k<G.length) (h2:k<X.length),G[k]=X[k]*mc):
  cL P L [2,11,13,14,22,24,27,298,299] NV (fun d st=>∃k:Nat,k+d=X.length/\st=⟨[(2,ov),(11,mv),(13,.av 0 0 V.length),(14,.av 1 0 B.length),(22,xv),(24,.av 2 0 R.length),(27,gv),(298,aa X.length),(299,aa k)],H8 r0 r1 r2 V B R,3,0⟩) (fun ex s'=>∃tm ct,s'=⟨tm,H8 r0 r1 r2 V B R,ct,0⟩/\ex=.exit 16/\ab tm 2=ov/\ab tm 11=mv/\ab tm 13=.av 0 0 V.length/\ab tm 14=.av 1 0 B.length/\ab tm 22=xv/\ab tm 24=.av 2 0 R.length):=by
 apply cP;rintro d st ⟨k,QM,rfl⟩;unfold H8;by_cases hk:k<X.length
 .left
  have e0:=hg.aT (i:=k) (by rw[yg];lia)
  have e1:=hx.aT (i:=k) (by rw[yg];lia)
  rw[xm] at e0 e1;rw[he k (by lia) hk] at e0;have e2:=abT h HA (a:=X[k]) (kX _ (yy hk)) hK;have wk:IntKind.wrap .i64 ((k:Int)+1)=((k+1:Nat):Int):=wrap64 (by lia) (by lia);unfold ah at e2
  simp only[go_sem,ya,NV,show (k:Int)<X.length by lia,e0,e1,e2,CL,No (a:=RT (X[k]*mc)) rfl,yo,yM,wk];refine⟨_,d-1,rfl,by lia,k+1,by lia,?_⟩;simp only[go_sem,ya,yb,ao,aj po,aj pm,aj hx.pu,aj hg.pu]<;>rfl
 .right
  have:k=X.length:=by lia
  subst this;simp only[go_sem,ya,NV,show ¬(X.length:Int)<X.length by lia,yp];exact⟨_,_,rfl,by simp,_,_,rfl,rfl,rfl,rfl,rfl,rfl,rfl,rfl⟩
def Cx(a:Rat)(Y B:List Rat):Nat->Rat
 | 0=>a
 | i+1=>Cx a Y B i+(aO Y i-aO B i)*(aO Y i-aO B i)
def aav{a:Rat}{Y B:List Rat}{K M:Nat}(ha:Hq M a)(kY:∀i,Hq K (aO Y i))(kB:∀i,Hq K (aO B i)):∀i,Hq (M+i*(4*K+3)) (Cx a Y B i)
 | 0=>ha.mono (by lia)
 | i+1=>by
  have hd:=(kY i).sub (kB i);exact ((aav ha kY kB i).add (hd.mul hd)).mono (by rw[Nat.add_mul];lia)
def aj2(a:Rat)(Y B:List Rat):∀i,Cx a Y B i=a+sm (fun r=>(aO Y r-aO B r)*(aO Y r-aO B r)) i
 | 0=>by simp[Cx,sm];grind
 | i+1=>by rw[Cx,aj2 a Y B i,sm];grind
def H9(r0 r1:Bool)(B R:List Rat):Hp:=[(1,.cells r1 ycO ycP 1 (cr R)),(0,.cells r0 ycO ycP 1 (cr B))]
def aA3(h:Rn P L)(Pp:Has P L 271 OS){yv:AV}(px:aP xv=ycO){Y:List Rat}{a:Rat}(hy:bw yv (Y.map RT))(hl:Y.length=B.length)(hB:B.length<=1000){M:Nat}(kY:∀x,x∈Y->Hq K x)(kB:∀x,x∈B->Hq K x)(dQ:2<=K)(ha:Hq M a)(hK:M+1001*(4*K+3)<=4000000000):
  cL P L [14,22,24,29,329,330,331] NW (fun d st=>∃i:Nat,i+d=B.length/\st=⟨[(14,.av 0 0 B.length),(22,xv),(24,.av 1 0 R.length),(29,.str (RT (Cx a Y B i))),(329,yv),(330,aa B.length),(331,aa i)],H9 r0 r1 B R,2,0⟩) (fun ex s'=>∃tm ct,s'=⟨tm,H9 r0 r1 B R,ct,0⟩/\ex=.exit 18/\ab tm 22=xv/\ab tm 24=.av 1 0 R.length/\ab tm 29=.str (RT (Cx a Y B B.length))):=by
 apply cP;rintro d st ⟨i,hid,rfl⟩;have eY:∀i,Hq K (aO Y i):=fun i=>Hc kY dQ
 have eB:∀i,Hq K (aO B i):=fun i=>Hc kB dQ
 unfold H9;by_cases hi:i<B.length
 .left
  have hiy:i<Y.length:=by lia
  have e0:=hy.aT (i:=i) (by rw[yg];exact hiy)
  rw[xm,<-dw hiy] at e0;have ik:=ai1 (r:=B) (c:=i) hi;have e1:=aak h.toRp (eY i) (eB i) (by lia);have kd:=(eY i).sub (eB i);have e2:=aaj h kd kd (by lia);have hm:i*(4*K+3)<=1000*(4*K+3):=yR _ (by lia);have e3:=TP h.toRp (aav ha eY eB i) (kd.mul kd) (by lia);have e3:ah P L 264 _ (.str (RT (Cx a Y B (i+1)))):=e3;have wi:IntKind.wrap .i64 ((i:Int)+1)=((i+1:Nat):Int):=wrap64 (by lia) (by lia);unfold ah at e1 e2 e3;simp only[go_sem,ya,yf,NW,show (i:Int)<B.length by lia,e0,b9 0 0 hi,yd,ik,e1,e2,e3,wi];refine⟨_,d-1,rfl,by lia,i+1,by lia,?_⟩;simp only[go_sem,ya,yb,ao,aj px,aj hy.pu]<;>rfl
 .right
  have:i=B.length:=by lia
  subst this;simp only[go_sem,ya,NW,show ¬(B.length:Int)<B.length by lia,yp];exact⟨_,_,rfl,by simp,_,_,rfl,rfl,rfl,rfl,rfl⟩
end
section
variable {s:List (List Int)}{K d k m:Nat}{a x:Rat}
def gW(d k:Nat)(a:Rat):Prop:=∃z:Int,a*(d:Rat)=(z:Rat)/\z.natAbs<2^k
def gW.add{b:Rat}(ha:gW d k a)(hb:gW d m b):gW d (max k m+1) (a+b):=by
 obtain⟨z,e1,h1⟩:=ha;obtain⟨y,e2,h2⟩:=hb;refine⟨z+y,by rw[yba,e1,e2,ybM],?_⟩;have a1:2^k<=2^(max k m):=y9 (by decide) (Nat.le_max_left k m);have a2:2^m<=2^(max k m):=y9 (by decide) (Nat.le_max_right k m)
 grind
def gW.mul{e:Nat}{b:Rat}(ha:gW d k a)(hb:gW e m b):gW (d*e) (k+m) (a*b):=by
 obtain⟨z,e1,h1⟩:=ha;obtain⟨y,e2,h2⟩:=hb;refine⟨z*y,?_,?_⟩
 .grind
 .rw [Int.natAbs_mul,wP];exact th h1 h2
def gW.int{c:Int}(h:c.natAbs<2^k):gW 1 k (c:Rat):=⟨c,by grind,h⟩
def gW.mono(h:gW d k a)(hk:k<=m):gW d m a:=by
 have⟨z,e,h1⟩:=h;exact⟨z,e,Nat.lt_of_lt_of_le h1 (y9 (by decide) hk)⟩
def gW.zero(d:Nat):gW d 0 0:=⟨0,by grind,by decide⟩
def gW.Hq(h:gW d k a)(h0:0<d)(hd:d<2^k):Hq k a:=by
 obtain⟨z,e,h1⟩:=h;have iM:(d:Rat)≠0:=by
  intro c
  have:=yaK.1 c
  omega
 have ha:a=Rat.divInt z (d:Int):=by
  rw[tX,<-e,ud,yaX,ycr,Rat.mul_inv_cancel _ iM,ycI]
 obtain⟨p1,p2⟩:=MB (a:=z) (b:=(d:Int)) (by omega);have hn:a.num=dE z d:=by rw[ha,p1];rfl
 have FF:(a.den:Int)=dI z d:=by rw[ha,p2];rfl
 have b1:=Yp z d;have b2:=Yq z d;refine⟨?_,?_⟩
 .unfold Bd;omega
 .unfold Bd;omega
def GZ(h:Hq K x):gW x.den K (iA x):=by
 have hd:=h.2;unfold Bd at hd;have h0:0<x.den:=x.den_pos;refine⟨x.num%x.den,?_,?_⟩
 .unfold iA;have cu:((x.den:Int):Rat)≠0:=by
   rw[ud];intro c;have:=yaK.1 c;omega
  have e0:(x.num:Rat)/((x.den:Int):Rat)=x:=by rw[<-tX];exact ybr x
  have e1:x*(x.den:Rat)=(x.num:Rat):=by
   have:=Rat.div_mul_cancel (a:=(x.num:Rat)) cu
   rwa[e0,ud] at this
  have e2:=Int.mul_ediv_add_emod x.num x.den;rw[yas,yba,e1,Rat.floor_def];have e3:((x.num%x.den:Int):Rat)=(x.num:Rat)-(x.den:Rat)*((x.num/x.den:Int):Rat):=by
   conv=>rhs;rw[<-e2]
   rw[ybM,Rat.intCast_mul,ud];grind
  grind
 .have m1:=wV x.num (show (x.den:Int)≠0 by omega);have m2:=wU x.num (show (0:Int)<x.den by omega);omega
def IK(h:Hq K x):gW x.den (K+1) (1-iA x):=by
 obtain⟨z,e,h1⟩:=GZ h;have hd:=h.2;unfold Bd at hd;refine⟨(x.den:Int)-z,?_,?_⟩
 .rw [yas,yba,Rat.one_mul,Rat.intCast_sub,<-e,ud];grind
 .grind
def avE{i j k:Int}(h:∀c r,-1000<=jc s c r/\jc s c r<=1000):gW 1 10 (rA s i j k):=by
 have:=h (i+k%2) (j+k/2)
 exact gW.int (by lia)
def ayd{y:Rat}(h:∀c r,-1000<=jc s c r/\jc s c r<=1000)(kx:Hq K x)(ky:Hq K y):Hq (2*K+20) (Vq s x y):=by
 have f:=(GZ kx).mono (show K<=K+1 by omega);have u:=IK kx;have g:=(GZ ky).mono (show K<=K+1 by omega);have v:=IK ky;have c:=fun i j k=>avE (i:=i) (j:=j) (k:=k) h
 have p0:=(u.mul v).mul (c (x.floor%s.length) (y.floor%s.length) 0);have p1:=(f.mul v).mul (c (x.floor%s.length) (y.floor%s.length) 1);have p2:=(u.mul g).mul (c (x.floor%s.length) (y.floor%s.length) 2);have p3:=(f.mul g).mul (c (x.floor%s.length) (y.floor%s.length) 3);have hx:=kx.2;have hy:=ky.2;unfold Bd at hx hy;have h1:0<x.den:=x.den_pos;have h2:0<y.den:=y.den_pos;have t:gW (x.den*y.den*1) (2*K+20) (Vq s x y):=by
  have:=((((gW.zero (x.den*y.den*1)).add p0).add p1).add p2).add p3
  exact gW.mono (k:=_) this (by omega)
 refine t.Hq (ux (ux h1 h2) (by decide)) ?_;have q:x.den*y.den<2^K*2^K:=th (by omega) (by omega);rw[<-wP] at q
 grind
end
def avF{x:Rat}(h:Hq K x):gW x.den K x:=⟨x.num,by
 have e0:(x.num:Rat)/((x.den:Int):Rat)=x:=by rw[<-tX];exact ybr x
 have h0:(x.den:Rat)≠0:=fun e=>by
  have:x.den=0:=by simp_all
  exact x.den_nz this
 conv=>lhs;lhs;rw[<-e0]
 rw[yaX,ycr,show ((x.den:Int):Rat)=(x.den:Rat) from rfl,Rat.inv_mul_cancel _ h0,ycI],h.1⟩
def aC5{X Y:Rat}{K:Nat}(kx:Hq K X)(ky:Hq K Y):∀k,k<4->gW (X.den*Y.den) (2*K+2) (jW (iA X) (iA Y) k)
 | 0,_=>((IK kx).mul (IK ky)).mono (by lia)
 | 1,_=>((GZ kx).mul (IK ky)).mono (by lia)
 | 2,_=>((IK kx).mul (GZ ky)).mono (by lia)
 | 3,_=>((GZ kx).mul (GZ ky)).mono (by lia)
def aj3{X Y:Rat}{K:Nat}(kx:Hq K X)(ky:Hq K Y){C:Int->Rat}{fr n i j q:Int}(hC:C q=0):∀m,m<=4->gW (X.den*Y.den) (2*K+2+m) (fJ C fr n i j (iA X) (iA Y) m q)
 | 0,_=>by
  show gW _ _ (C q)
  rw[hC];exact (gW.zero _).mono (by lia)
 | m+1,hm=>by
  have ih:=aj3 kx ky (C:=C) (fr:=fr) (n:=n) (i:=i) (j:=j) hC m (by lia);show gW _ _ (if q=er fr n i j m then jW (iA X) (iA Y) m+fJ C fr n i j (iA X) (iA Y) m q else fJ C fr n i j (iA X) (iA Y) m q)
  split
  .exact ((aC5 kx ky m (by lia)).add ih).mono (by lia)
  .exact ih.mono (by lia)
def aly{dx dy sh x y:List Nat}{fr:Int}{l:List Lay}{K:Nat}(hS:∀a,a∈l->Iv a)(hk:∀a,a∈l->Hq 8 (aI a.st)/\Hq K (dO a.hh a.sc a.ox a.wx dx sh x fr)/\Hq K (dO a.hh a.sc a.oy a.wy dy sh y fr)):∀k,k<=l.length->∀q,Hq (2*K+14) ((dz dx dy sh x y fr (l.take k)).2 q)
 | 0,_,q=>by show Hq _ 0;exact B6.mono (by omega)
 | k+1,Ms,q=>by
  have ih:=aly (dx:=dx) (dy:=dy) (sh:=sh) (x:=x) (y:=y) (fr:=fr) hS hk k (by omega);obtain⟨_,h0,hz⟩:=run_eq (dx:=dx) (dy:=dy) (sh:=sh) (x:=x) (y:=y) (fr:=fr) (fun a ha=>⟨(hS a ha).1,(hS a ha).2.1⟩) k (show k<=l.length by omega);obtain⟨s1,s2,s3⟩:=hS _ (yy (show k<l.length by omega));obtain⟨k1,k2,k3⟩:=hk _ (yy (show k<l.length by omega));rw[Gd (by omega)];generalize dz dx dy sh x y fr (l.take k)=p at*
  show Hq _ (ig _ _ _ _ q)
  unfold ig
  split
  .rename_i hq
   split
   .have h1:=(aj3 k2 k3 (C:=p.2) (fr:=p.1) (n:=l[k].s.length) (i:=(dO l[k].hh l[k].sc l[k].ox l[k].wx dx sh x fr).floor%l[k].s.length) (j:=(dO l[k].hh l[k].sc l[k].oy l[k].wy dy sh y fr).floor%l[k].s.length) (q:=q) (hz q hq.1) 4 (by omega)).mul (avF k1);refine (h1.mono (show 2*K+2+4+8<=2*K+14 by omega)).Hq (ux (ux (ybb _) (ybb _)) (ybb _)) ?_;have d1:(dO l[k].hh l[k].sc l[k].ox l[k].wx dx sh x fr).den<2^K:=by have:=k2.2;unfold Bd at this;rwa[wA] at this
    have d2:(dO l[k].hh l[k].sc l[k].oy l[k].wy dy sh y fr).den<2^K:=by have:=k3.2;unfold Bd at this;rwa[wA] at this
    have d3:(aI l[k].st).den<2^8:=by have:=k1.2;unfold Bd at this;rwa[wA] at this
    have e1:=xo (xo (uh d1) (uh d2)) (uh d3);rw[<-wP,<-wP] at e1
    grind
   .grind
  .split
   .rw [M6 (by omega) (by omega) h0 (by omega) 4];exact ih q
   .exact ih q
structure Zi(P:aJ)(L:Lib):Prop where
 s:S0 P L
 rp:Rp P L
 p:Lp P L
 h3:Has P L 3 c3
 Ai:Has P L 30 DG
 abS:Has P L 315 UR
 abZ:Has P L 335 UU
 PD:Has P L 357 Hn
 z8:Has P L 358 E4
 jB:Has P L 359 qw
 KA:Has P L 361 E5
 KB:Has P L 364 Ho
section
variable {s x y:List Nat}
noncomputable def Ud(s:List (List Int))(hh sc st ox oy wx wy:List Nat):Bool:=
 decide (s.length<=3)&&(decide (oP s=0)&&((bJ 2 hh&&(bJ 2 sc&&bJ 2 st))&&((bJ 2 ox&&bJ 2 oy)&&((bJ 2 wx&&bJ 2 wy)&&decide (HC s hh sc st ox oy wx wy=0)))))
def Bw(h:bJ 2 s=ycO):s.length<=14/\aM s=0/\Hq 24 (aI s):=by
 refine axG (s:=s) ?_;unfold bJ at h ⊢
 grind
def Ue(h:Rm P L)(jB:Has P L 359 qw)(hs:s.length<9223372036854775808):ah P L 359 [.str s,aa 2] (.bool (bJ 2 s)):=alo (k:=2) h jB (by decide) hs
def Uf(h:Rm P L)(z8:Has P L 358 E4)(jB:Has P L 359 qw)(hx:x.length<9223372036854775808)(hy:y.length<9223372036854775808):ah P L 358 [qR x y,aa 2] (.bool (bJ 2 x&&bJ 2 y)):=by
 have e1:=Ue h jB hx;have e2:=Ue h jB hy;unfold ah at e1 e2 ⊢;rw[aB z8];cases h1:bJ 2 x<;>rw[h1] at e1
 .simp only [go_sem,ya,yb,E4,aG,aZ,yd,e1,xI]
 .simp only [go_sem,ya,yb,E4,aG,aZ,yd,cD,e1,e2,xQ]
def aC6(h:S0 P L)(PD:Has P L 357 Hn)(z8:Has P L 358 E4)(jB:Has P L 359 qw)(hx:x.length<9223372036854775808)(hy:y.length<9223372036854775808)(hs:s.length<9223372036854775808):ah P L 357 [mr x y s,aa 2] (.bool (bJ 2 x&&bJ 2 y&&(bJ 2 s&&decide (zQ x y s=0)))):=by
 have e1:=Uf h.toRm z8 jB hx hy;have e2:=Ue h.toRm jB hs;unfold ah at e1 e2 ⊢;rw[aB PD];cases h1:(bJ 2 x&&bJ 2 y)<;>rw[h1] at e1
 .simp only [go_sem,ya,yb,Hn,aG,aZ,yd,gH,a7,e1,xI]
 .cases h2:bJ 2 s<;>rw[h2] at e2
  .simp only [go_sem,ya,yb,Hn,aG,aZ,yd,Ei,gH,a7,e1,e2,xI,xQ]
  .rw [yj] at h1;obtain⟨l1,_⟩:=Bw h1.1;obtain⟨l2,_⟩:=Bw h1.2;obtain⟨l3,_⟩:=Bw h2;have e3:=aFf h (x:=x) (y:=y) (s:=s) (by omega) (by omega) (by omega);rw[show a6 [a6 [aM x,aM y],iI s 0]=zQ x y s from rfl] at e3;simp only[go_sem,ya,yb,Hn,aG,aZ,yd,Ei,gH,kP,a7,e1,e2,e3,xQ]
def aC7(h:Rm P L)(jB:Has P L 359 qw)(KB:Has P L 364 Ho){l:List (List Nat)}(hv:bw v l)(hl:l.length<=3)(hs:∀s,s∈l->s.length<9223372036854775808):ah P L 364 [v,aa 3,aa 2] (.bool (l.all (bJ 2))):=by
 have key:=dT P L [0,2,7] AF
  (fun k st=>∃i:Nat,i+k=l.length/\(l.drop i).all (bJ 2)=l.all (bJ 2)/\st=⟨[(0,v),(2,aa 2),(7,aa i)],[],0,0⟩)
  (fun ex st=>∃tm hp ct,st=⟨tm,hp,ct,0⟩/\((ex=.ret/\ab tm 6=.bool ycP/\l.all (bJ 2)=ycP)\/(ex=.exit 0/\l.all (bJ 2)=ycO))) ?_
 .unfold ah;rw[aB KB];simp only[go_sem,ya,Ho,hv.len,show ¬(3:Int)<l.length by omega,yp];generalize hq:D P L (.loop _ AF) _=q;obtain⟨ex,st,rfl,tm,hp,ct,rfl,h2⟩:=bg hq (key l.length) ⟨0,by omega,rfl,by simp only[go_sem,ya,ao,aj hv.pu]<;>rfl⟩
  rcases h2 with ⟨rfl,h3,h4⟩ | ⟨rfl,h4⟩
  .rw [h4];simp only[go_sem,h3]
  .rw [h4];simp only[go_sem,ao]
 .rintro k st ⟨i,hk,hf,rfl⟩;by_cases hi:i<l.length
  .have e2:=Ue h jB (hs _ (yy hi));have hd:(l.drop i).all (bJ 2)=(bJ 2 l[i]&&(l.drop (i+1)).all (bJ 2)):=by rw[yP hi,uk]
   rw[hd] at hf
   cases hb:bJ 2 l[i] with
   | false=>
    right
    rw[hb] at e2;simp only[go_sem,ya,AF,hv.len,show (i:Int)<l.length by omega,hv.aT hi,e2];refine⟨_,_,rfl,by simp,_,_,_,rfl,.inl ⟨rfl,by simp only[go_sem],?_⟩⟩;rw[<-hf,hb,xI]
   | true=>
    left
    rw[hb] at e2;simp only[go_sem,ya,AF,hv.len,show (i:Int)<l.length by omega,hv.aT hi,e2];rw[hb,xQ] at hf;refine⟨_,k-1,rfl,by omega,i+1,by omega,hf,?_⟩;rw[wrap64 (by omega) (by omega)];simp only[go_sem,ya,ao,aj hv.pu]<;>rfl
  .right
   simp only[go_sem,ya,AF,hv.len,show ¬(i:Int)<l.length by omega];refine⟨_,_,rfl,by simp,_,_,_,rfl,.inr ⟨rfl,?_⟩⟩;rw[<-hf,yY (by omega)];rfl
def aC8(h:Zi P L){w:AV}{s:List (List Int)}(hw:ix w s){hh sc st ox oy wx wy:List Nat}(b1:hh.length<9223372036854775808)(b2:sc.length<9223372036854775808)(b3:st.length<9223372036854775808)(b4:ox.length<9223372036854775808)(b5:oy.length<9223372036854775808)(b6:wx.length<9223372036854775808)(b7:wy.length<9223372036854775808):
  ah P L 361 [pJ w hh sc st ox oy wx wy,aa 3,aa 2] (.bool (Ud s hh sc st ox oy wx wy)):=by
 have e1:=s3 h.h3 h.Ai hw;have e2:=aC7 h.s.toRm h.jB h.KB (Gr ycO [hh,sc,st]) (by simp) (fun t ht=>by
  simp at ht
  rcases ht with rfl | rfl | rfl<;>omega)
 simp only[yB,yI,yd,yb,yS,wu,uk,List.all_nil,Bool.and_true] at e2;have e3:=Uf h.s.toRm h.z8 h.jB b4 b5;have e4:=Uf h.s.toRm h.z8 h.jB b6 b7;have o1:=hw.one;have p1:=hw.pu;have VD:∀a b c d e f g i:AV,xK 1 [a,b,c,d,e,f,g,i]=[b,c,d,e,f,g,i]:=fun _ _ _ _ _ _ _ _=>rfl
 unfold Ud;by_cases hl:s.length<=3
 .rw [xG hl,xQ];by_cases hc:oP s=0
  .rw [xG hc,xQ];rw[hc] at e1;cases f1:(bJ 2 hh&&(bJ 2 sc&&bJ 2 st))<;>rw[f1] at e2
   .unfold ah pJ;rw[aB h.KA];simp only[go_sem,ya,yb,yA,yi,yf,E5,aG,o1,p1,hw.len,hw.af,show ¬(3:Int)<s.length by omega,aZ,yd,VD,Vu,Vv,yh,e1,yo,yp,e2,yM,yQ,xI]
   .cases f2:(bJ 2 ox&&bJ 2 oy)<;>rw[f2] at e3
    .unfold ah pJ;rw[aB h.KA];simp only[go_sem,ya,yb,yA,yi,yf,E5,aG,o1,p1,hw.len,hw.af,show ¬(3:Int)<s.length by omega,aZ,yd,VD,Vu,Vv,CM,gH,a7,yh,e1,yo,yp,e2,e3,yM,yQ,xI,xQ]
    .cases f3:(bJ 2 wx&&bJ 2 wy)<;>rw[f3] at e4
     .unfold ah pJ;rw[aB h.KA];simp only[go_sem,ya,yb,yA,yi,yf,E5,aG,o1,p1,hw.len,hw.af,show ¬(3:Int)<s.length by omega,aZ,yd,VD,Vu,Vv,CM,am8,gH,a7,yh,e1,yo,yp,e2,e3,e4,yM,yQ,xI,xQ]
     .simp only [yj] at f1 f2 f3;obtain⟨l1,_⟩:=Bw f1.1;obtain⟨l2,_⟩:=Bw f1.2.1;obtain⟨l3,_⟩:=Bw f1.2.2;obtain⟨l4,_⟩:=Bw f2.1;obtain⟨l5,_⟩:=Bw f2.2;obtain⟨l6,_⟩:=Bw f3.1;obtain⟨l7,_⟩:=Bw f3.2;have e5:=aFx h.s h.h3 h.Ai h.abZ hw (hh:=hh) (sc:=sc) (st:=st) (ox:=ox) (oy:=oy) (wx:=wx) (wy:=wy) (by omega) (by omega) (by omega) (by omega) (by omega) (by omega) (by omega);unfold pJ at e5 ⊢;unfold ah at e5 ⊢;rw[aB h.KA];simp only[go_sem,ya,yb,yA,yi,yf,E5,aG,o1,p1,hw.len,hw.af,show ¬(3:Int)<s.length by omega,aZ,yd,VD,Vu,Vv,CM,am8,ld8,gH,a7,yh,e1,yo,yp,e2,e3,e4,e5,yM,xQ]
  .rw [xn hc,xI];unfold ah pJ;rw[aB h.KA];simp only[go_sem,ya,yb,E5,aG,o1,p1,hw.len,hw.af,show ¬(3:Int)<s.length by omega,aZ,yd,yh,e1,hc,yp,yQ]
 .rw [xn hl,xI];unfold ah pJ;rw[aB h.KA];simp only[go_sem,ya,yb,E5,aG,o1,p1,hw.len,show (3:Int)<s.length by omega,aZ,yd,yh,yo]
end
def lJ{s:List Nat}(h:bJ 2 s=ycO):s.length<=6/\aM s=0/\Hq 8 (aI s):=by
 unfold bJ at h;simp only[yj,wN] at h;have⟨h1,h2,h3,h4⟩:=h
 exact⟨by lia,h2,Bt (k:=2) (by lia) (by lia),Bt (z:=((aI s).den:Int)) (k:=2) (by rw[wA];lia) (by lia)⟩
def ajf{sc o w hs hh x dx:Rat}(k1:Hq 8 sc)(k2:Hq 8 o)(k3:Hq 8 w)(k4:Hq 8 hs)(k5:Hq 8 hh)(k6:Hq 8 x)(k7:Hq 8 dx)(hf:fr.natAbs<2^7):Hq 84 (Kr sc (nf hs hh*x+hh*dx) o w fr):=by
 have Io:Hq 7 (fr:Rat):=⟨by rw[vY];exact hf,by rw[uz];decide⟩
 have ks:=X0 k4 k5;exact (((k1.mul ((ks.mul k6).add (k5.mul k7))).add (B7.mul k2)).add (Io.mul k3)).mono (by lia)
def aye{dx dy sh x y:List Nat}{l:List Lay}(hl:l.length<=2)(hc:∀a,a∈l->∀c r,-1000<=jc a.s c r/\jc a.s c r<=1000)(hk:∀a,a∈l->Hq 8 (aI a.st)/\Hq 84 (dO a.hh a.sc a.ox a.wx dx sh x fr)/\Hq 84 (dO a.hh a.sc a.oy a.wy dy sh y fr)):Hq 400 (ES l dx dy sh x y fr):=by
 have h1:=Sf (b:=Lay.low sh) (f:=Lay.ph dx dy sh x y fr) (K:=196) (l:=l) B6 (fun a ha=>by
  have⟨k1,k2,k3⟩:=hk a ha
  exact (k1.mul (ayd (hc a ha) k2 k3)).mono (by lia))
 have:=yR (196+1) hl
 exact h1.mono (by lia)
noncomputable def Lay.Dt(a:Lay):Bool:=Ud a.s a.hh a.sc a.st a.ox a.oy a.wx a.wy
noncomputable def EU(s:dl):Bool:=bJ 2 s.1&&bJ 2 s.2.1&&(bJ 2 s.2.2&&decide (zQ s.1 s.2.1 s.2.2=0))
noncomputable def EV(p:cV):Bool:=bJ 2 p.1&&bJ 2 p.2
def aA4(h:Zi P L){vc:List AV}(pv:aP v=ycO)(po:aP ov=ycO){l:List Lay}(hr:fb rv l)(hl:l.length<=1000)(hb:∀a,a∈l->a.Pw):
  cL P L [0,2,4,7,89,90] Jk (fun d st=>∃i:Nat,i+d=l.length/\(l.drop i).all Lay.Dt=l.all Lay.Dt/\st=⟨[(0,v),(2,ov),(4,.ptr 0 0),(7,rv),(89,aa l.length),(90,aa i)],[(0,.cells ycO ycO ycO 3 vc)],1,0⟩) (fun ex s'=>∃tm hp ct,s'=⟨tm,hp,ct,0⟩/\((ex=.ret/\ab tm 6=.bool ycO/\l.all Lay.Dt=ycP)\/(ex=.exit 0/\l.all Lay.Dt=ycO/\hp=[(0,.cells ycO ycO ycO 3 vc)]/\ab tm 0=v/\ab tm 2=ov/\ab tm 4=.ptr 0 0/\ab tm 7=rv))):=by
 apply cP;rintro d st ⟨i,hid,hd,rfl⟩;by_cases hi:i<l.length
 .obtain ⟨rest,e0⟩:=hr.aT hi;have hS:=hr.get hi;have b:=hb _ (yy hi);obtain⟨b1,b2,b3,b4,b5,b6,b7⟩:=b;have e1:=aC8 h hS b1 b2 b3 b4 b5 b6 b7;have e1:ah P L 361 _ (.bool l[i].Dt):=e1;have wi:IntKind.wrap .i64 ((i:Int)+1)=((i+1:Nat):Int):=wrap64 (by omega) (by omega);rw[yP hi,uk] at hd;unfold pJ at e1
  cases hf:l[i].Dt with
  | false=>
   right
   rw[hf] at e1 hd;simp only[go_sem,ya,Jk,show (i:Int)<l.length by omega,yo,e0,z7,a7,hS.af,e1,yQ];exact⟨_,_,rfl,by simp,_,_,_,rfl,.inl ⟨rfl,by simp only[go_sem],by rw[<-hd,xI]⟩⟩
  | true=>
   left
   rw[hf] at e1 hd;simp only[go_sem,ya,Jk,show (i:Int)<l.length by omega,yo,e0,z7,a7,hS.af,e1,yM,wi];refine⟨_,d-1,rfl,by omega,i+1,by omega,hd,?_⟩;simp only[go_sem,ya,yb,ao,aj pv,aj po,aj hr.pu]<;>rfl
 .right
  have:i=l.length:=by omega
  subst this;simp only[go_sem,ya,Jk,show ¬(l.length:Int)<l.length by omega,yp];refine⟨_,_,rfl,by simp,_,_,_,rfl,.inr ⟨rfl,?_,rfl,by simp only[go_sem,ya],by simp only[go_sem,ya],by simp only[go_sem,ya],by simp only[go_sem,ya]⟩⟩;rw[<-hd,tI];rfl
def aA5(h:S0 P L)(PD:Has P L 357 Hn)(z8:Has P L 358 E4)(jB:Has P L 359 qw){sv:AV}(pv:aP v=ycO)(po:aP ov=ycO)(pr:aP rv=ycO){l:List dl}(hx:jP sv l)(hl:l.length<=1000)(hb:∀p,p∈l->p.1.length<9223372036854775808/\p.2.1.length<9223372036854775808/\p.2.2.length<9223372036854775808):
  cL P L [0,2,4,7,102,103] Jl (fun d st=>∃i:Nat,i+d=l.length/\(l.drop i).all EU=l.all EU/\st=⟨[(0,v),(2,ov),(4,.ptr 0 0),(7,rv),(102,aa l.length),(103,aa i)],[(0,.cells ycO ycO ycO 3 [sv,wv,aa fr])],1,0⟩) (fun ex s'=>∃tm hp ct,s'=⟨tm,hp,ct,0⟩/\((ex=.ret/\ab tm 6=.bool ycO/\l.all EU=ycP)\/(ex=.exit 2/\l.all EU=ycO/\hp=[(0,.cells ycO ycO ycO 3 [sv,wv,aa fr])]/\ab tm 0=v/\ab tm 2=ov/\ab tm 4=.ptr 0 0/\ab tm 7=rv))):=by
 apply cP;rintro d st ⟨i,hid,hd,rfl⟩;by_cases hi:i<l.length
 .obtain ⟨rest,e0⟩:=hx.aT hi;have b:=hb _ (yy hi);have e1:=aC6 h PD z8 jB b.1 b.2.1 b.2.2;have e1:ah P L 357 _ (.bool (EU l[i])):=e1;have wi:IntKind.wrap .i64 ((i:Int)+1)=((i+1:Nat):Int):=wrap64 (by omega) (by omega);rw[yP hi,uk] at hd
  cases hf:EU l[i] with
  | false=>
   right
   rw[hf] at e1 hd;simp only[go_sem,ya,Jl,show (i:Int)<l.length by omega,yo,aZ,yd,yh,e0,Fj,a7,e1,yQ];exact⟨_,_,rfl,by simp,_,_,_,rfl,.inl ⟨rfl,by simp only[go_sem],by rw[<-hd,xI]⟩⟩
  | true=>
   left
   rw[hf] at e1 hd;simp only[go_sem,ya,Jl,show (i:Int)<l.length by omega,yo,aZ,yd,yh,e0,Fj,a7,e1,yM,wi];refine⟨_,d-1,rfl,by omega,i+1,by omega,hd,?_⟩;simp only[go_sem,ya,yb,ao,aj pv,aj po,aj pr]<;>rfl
 .right
  have:i=l.length:=by omega
  subst this;simp only[go_sem,ya,Jl,show ¬(l.length:Int)<l.length by omega,yp];refine⟨_,_,rfl,by simp,_,_,_,rfl,.inr ⟨rfl,?_,rfl,by simp only[go_sem,ya],by simp only[go_sem,ya],by simp only[go_sem,ya],by simp only[go_sem,ya]⟩⟩;rw[<-hd,tI];rfl
def aA6(h:Rm P L)(z8:Has P L 358 E4)(jB:Has P L 359 qw){sv:AV}(pv:aP v=ycO)(po:aP ov=ycO)(pr:aP rv=ycO){l:List cV}(hx:jv wv l)(hl:l.length<=1000)(hb:∀p,p∈l->p.1.length<9223372036854775808/\p.2.length<9223372036854775808):
  cL P L [0,2,4,7,116,117] Jm (fun d st=>∃i:Nat,i+d=l.length/\(l.drop i).all EV=l.all EV/\st=⟨[(0,v),(2,ov),(4,.ptr 0 0),(7,rv),(116,aa l.length),(117,aa i)],[(0,.cells ycO ycO ycO 3 [sv,wv,aa fr])],1,0⟩) (fun ex s'=>∃tm hp ct,s'=⟨tm,hp,ct,0⟩/\((ex=.ret/\ab tm 6=.bool ycO/\l.all EV=ycP)\/(ex=.exit 4/\l.all EV=ycO/\hp=[(0,.cells ycO ycO ycO 3 [sv,wv,aa fr])]/\ab tm 0=v/\ab tm 2=ov/\ab tm 4=.ptr 0 0/\ab tm 7=rv))):=by
 apply cP;rintro d st ⟨i,hid,hd,rfl⟩;by_cases hi:i<l.length
 .obtain ⟨rest,e0⟩:=hx.aT hi;have b:=hb _ (yy hi);have e1:=Uf h z8 jB b.1 b.2;have e1:ah P L 358 _ (.bool (EV l[i])):=e1;have wi:IntKind.wrap .i64 ((i:Int)+1)=((i+1:Nat):Int):=wrap64 (by omega) (by omega);rw[yP hi,uk] at hd
  cases hf:EV l[i] with
  | false=>
   right
   rw[hf] at e1 hd;simp only[go_sem,ya,Jm,show (i:Int)<l.length by omega,yo,aZ,yd,cD,e0,Dp,a7,e1,yQ];exact⟨_,_,rfl,by simp,_,_,_,rfl,.inl ⟨rfl,by simp only[go_sem],by rw[<-hd,xI]⟩⟩
  | true=>
   left
   rw[hf] at e1 hd;simp only[go_sem,ya,Jm,show (i:Int)<l.length by omega,yo,aZ,yd,cD,e0,Dp,a7,e1,yM,wi];refine⟨_,d-1,rfl,by omega,i+1,by omega,hd,?_⟩;simp only[go_sem,ya,yb,ao,aj pv,aj po,aj pr]<;>rfl
 .right
  have:i=l.length:=by omega
  subst this;simp only[go_sem,ya,Jm,show ¬(l.length:Int)<l.length by omega,yp];refine⟨_,_,rfl,by simp,_,_,_,rfl,.inr ⟨rfl,?_,rfl,by simp only[go_sem,ya],by simp only[go_sem,ya],by simp only[go_sem,ya],by simp only[go_sem,ya]⟩⟩;rw[<-hd,tI];rfl
def aC9(h:Rm P L)(jB:Has P L 359 qw)(KB:Has P L 364 Ho){l:List (List Nat)}(hv:bw v l){m:Nat}(hN:N<=1000)(hm:m<=1000)(hs:∀s,s∈l->s.length<9223372036854775808):ah P L 364 [v,aa N,aa m] (.bool (decide (l.length<=N)&&l.all (bJ m))):=by
 have key:=fun hl:l.length<=N=>dT P L [0,2,7] AF
  (fun k st=>∃i:Nat,i+k=l.length/\(l.drop i).all (bJ m)=l.all (bJ m)/\st=⟨[(0,v),(2,aa m),(7,aa i)],[],0,0⟩)
  (fun ex st=>∃tm hp ct,st=⟨tm,hp,ct,0⟩/\((ex=.ret/\ab tm 6=.bool ycP/\l.all (bJ m)=ycP)\/(ex=.exit 0/\l.all (bJ m)=ycO))) (?_:∀(k:Nat) (st:St),_->_)
 .unfold ah;rw[aB KB];by_cases hl:l.length<=N
  .rw [xG hl,xQ];simp only[go_sem,ya,Ho,hv.len,show ¬(N:Int)<l.length by lia,yp];generalize hq:D P L (.loop _ AF) _=q;obtain⟨ex,st,rfl,tm,hp,ct,rfl,h2⟩:=bg hq (key hl l.length) ⟨0,by lia,rfl,by simp only[go_sem,ya,ao,aj hv.pu]<;>rfl⟩
   rcases h2 with ⟨rfl,h3,h4⟩ | ⟨rfl,h4⟩
   .rw [h4];simp only[go_sem,h3]
   .rw [h4];simp only[go_sem,ao]
  .rw [xn hl,xI];simp only[go_sem,ya,Ho,hv.len,show (N:Int)<l.length by lia,yo]
 .rintro k st ⟨i,hk,hf,rfl⟩;by_cases hi:i<l.length
  .have e2:=alo h jB hm (hs _ (yy hi));unfold ah at e2;have hd:(l.drop i).all (bJ m)=(bJ m l[i]&&(l.drop (i+1)).all (bJ m)):=by rw[yP hi,uk]
   rw[hd] at hf
   cases hb:bJ m l[i] with
   | false=>
    right
    rw[hb] at e2;simp only[go_sem,ya,AF,hv.len,show (i:Int)<l.length by lia,hv.aT hi,e2];refine⟨_,_,rfl,by simp,_,_,_,rfl,.inl ⟨rfl,rfl,?_⟩⟩;rw[<-hf,hb,xI]
   | true=>
    left
    rw[hb] at e2;simp only[go_sem,ya,AF,hv.len,show (i:Int)<l.length by lia,hv.aT hi,e2];rw[hb,xQ] at hf;refine⟨_,k-1,rfl,by lia,i+1,by lia,hf,?_⟩;rw[wrap64 (by lia) (by lia)];simp only[go_sem,ya,ao,aj hv.pu]<;>rfl
  .right
   simp only[go_sem,ya,AF,hv.len,show ¬(i:Int)<l.length by lia];refine⟨_,_,rfl,by simp,_,_,_,rfl,.inr ⟨rfl,?_⟩⟩;rw[<-hf,yY (by lia)];rfl
section
variable {B S X:List Rat}
structure Az(P:aJ)(L:Lib):Prop where
 f:Zi P L
 m:Mtx P L
 t:W8 P L
 n:Rn P L
 h29:Has P L 29 V1
 ab0:Has P L 258 UI
 Dl:Has P L 265 Hk
 HA:Has P L 319 O0
 aFR:Has P L 321 US
 Vw:Has P L 331 UT
 PB:Has P L 343 Kd
 ab3:Has P L 347 UW
 Kw:Has P L 349 UX
 ab2:Has P L 351 O1
 AZ:Has P L 352 O2
 aFS:Has P L 366 bI
 Pu:Has P L 367 Ke
 Pt:Has P L 368 O3
 abY:Has P L 369 O4
 HE:Has P L 370 Kf
 aDa:ah P L 1 [] (.bool ycO)
def SW{w:Nat}(hw:wid w R){i:Nat}(hi:i<R.length):aO (eF R X) i=sm (fun c=>E R i c*aO X c) w:=by
 have h1:=hw i hi;rw[di hi] at h1;rw[dw (by simpa[eF] using hi)];unfold eF;rw[xm,CX,h1];unfold E;rw[di hi]
def I5(R:Mx)(X:List Rat):(eF R X).length=R.length:=by simp[eF]
def Zj(hl:S.length=B.length):(jD B S).length=B.length:=by simp[jD];lia
def ajg(hl:S.length=B.length){i:Nat}(hi:i<B.length):aO (jD B S) i=aO B i-aO S i:=by
 rw[dw (by rw[Zj hl];exact hi),dw hi,dw (by lia)]
 simp[jD]
def aaw(ka:∀r,r∈R->∀z,z∈r->Hq K z)(kb:∀z,z∈X->Hq J z)(dQ:2<=K)(QO:2<=J){w:Nat}(hw:∀r,r∈R->r.length<=w):∀x,x∈eF R X->Hq (2+w*(K+J+1)) x:=fun x hx=>by
 obtain⟨r,hr,rfl⟩:=xj.1 hx
 have:=yR (K+J+1) (hw r hr)
 exact (zL (ka r hr) kb dQ QO r.length).mono (by lia)
def aDb(kB:∀x,x∈B->Hq K x)(kS:∀x,x∈S->Hq J x):∀x,x∈jD B S->Hq (K+J+1) x:=fun x hx=>by
 obtain⟨i,hi,rfl⟩:=we.1 hx;simp only[jD,List.getElem_zipWith];exact (kB _ (yy _)).sub (kS _ (yy _))
section
variable {R:Mx}{w:Nat}{b:List Rat}{ld:Rat}(hw:wid w R)(lb:b.length=R.length)(hl:0<ld)
include hw lb hl
theorem YI:(dF R w b ld).length=w:=by rw[ajc hw lb hl];simp
theorem ayf{k:Nat}(hk:k<w):aO (eF (dR R w) (jD b (eF R (dF R w b ld)))) k=ld*aO (dF R w b ld) k:=by
 rw[SW (Ns R w) (by rw[nW];exact hk),<-ahY hw lb hl hk]
 refine cW (fun r hr=>?_);rw[Ub hk hr,ajg (by rw[I5];lia) (by lia),SW hw hr]
theorem aA7(O:List Rat)(lO:O.length=w):eE (jD b (eF R (dF R w b ld))) (jD b (eF R (dF R w b ld))) R.length+eE (dF R w b ld) (dF R w b ld) w*ld<=Cx (eE O O w*ld) (eF R O) b R.length:=by
 have:=ayb hw lb hl (fun c=>aO O c)
 rw[aj2,CX,CX,CX]
 rw[cW (f:=fun j=>aO (jD b (eF R (dF R w b ld))) j*aO (jD b (eF R (dF R w b ld))) j) (g:=fun r=>(aO b r-sm (fun c=>E R r c*aO (dF R w b ld) c) w)*(aO b r-sm (fun c=>E R r c*aO (dF R w b ld) c) w)) (fun r hr=>by
  rw[ajg (by rw[I5];lia) (by lia),SW hw hr])]
 rw[cW (f:=fun r=>(aO (eF R O) r-aO b r)*(aO (eF R O) r-aO b r)) (g:=fun r=>(sm (fun c=>E R r c*aO O c) w-aO b r)*(sm (fun c=>E R r c*aO O c) w-aO b r)) (fun r hr=>by rw[SW hw hr])]
 grind
end
def ajh:Hq 2 mc:=⟨by unfold Bd mc;decide,by unfold Bd mc;decide⟩
def Gk:0<mc:=by decide
end
section
variable {B Rr V X:List Rat}
structure qX(R:Mx)(w:Nat)(V B:List Rat):Prop where
 hw:wid w R
 w0:0<w
 Ld:w<=10
 n0:0<R.length
 n6:R.length<=6
 lV:V.length=w
 lB:B.length=R.length
 kR:∀r,r∈R->∀x,x∈r->Hq 182 x
 kB:∀x,x∈B->Hq 400 x
 kV:∀x,x∈V->Hq 20 x
 ap:eF R V=B
def qX.wr{w:Nat}(d:qX R w V B):∀r,r∈R->r.length=w:=fun r hr=>by
 obtain⟨i,hi,rfl⟩:=we.1 hr
 have:=d.hw i hi
 rwa[di hi] at this
def as7{s:List Nat}(h:bJ 3 s=ycO):s.length<=8/\aM s=0/\Hq 12 (aI s):=by
 unfold bJ at h;simp only[yj,wN] at h;have⟨h1,h2,h3,h4⟩:=h
 exact⟨by lia,h2,Bt (k:=3) (by lia) (by lia),Bt (z:=((aI s).den:Int)) (k:=3) (by rw[wA];lia) (by lia)⟩
def aDc{q:Rat}(h:q<=0):cA q.num<=0:=by
 have h1:q.num<=0:=by
  have:=Rat.num_nonneg.2 (show 0<=-q by grind)
  simp_all
 unfold cA
 grind
def W9{k:Nat}{l:List Rat}(h:l.length=k)(e:Bool)(hp:Hp):nG 0 k (Ix (e,1,cr l,hp))=Ix (.aF e k (cr l),hp):=oR e (by rw[GX,yf,h]) (by decide)
def aDd(h:Az P L){Lz:Rat}(hx:bw xv (X.map RT))(lX:X.length<=10)(lR:Rr.length<=6)(kX:∀x,x∈X->Hq 2400 x)(kR:∀x,x∈Rr->Hq 30000 x)(kL:Hq 4000000000 Lz)(hle:eE Rr Rr Rr.length+eE X X X.length*mc<=Lz){ct:Nat}(t22:ab tm 22=xv)(t24:ab tm 24=.av 0 0 Rr.length)(t29:ab tm 29=.str (RT Lz)):
  fp [.t 6] (D P L (bU 23 bI.body) ⟨tm,[(0,.cells ycP ycO ycP 1 (cr Rr))],ct,0⟩)=Ix (.bool ycO):=by
 have e1:=Vy h.n h.AZ (GY ycP Rr) (GY ycP Rr) rfl (by omega) kR kR (by decide) (by decide) (by decide);have e2:=Vy h.n h.AZ hx hx rfl (by omega) kX kX (by decide) (by decide) (by decide);have k1:=(zL kR kR (by decide) (by decide) Rr.length).mono (show _<=1000000 by omega);have k2:=(zL kX kX (by decide) (by decide) X.length).mono (show _<=1000000 by omega);have e3:=abT h.n h.HA k2 (by decide);have k3:=k2.mul ajh;have e4:=TP h.n.toRp k1 k3 (by decide);have k4:=k1.add k3;have e5:=aFg h.n.toRp h.f.abS k4 kL (by decide);have hd:=aDc (q:=eE Rr Rr Rr.length+eE X X X.length*mc-Lz) (by grind);have f:=fun hp:Hp=>W9 (l:=Rr) rfl ycP hp
 simp only[go_sem,ya,bI,bU,aA,t22,t24,t29,f,hx.af,e1,e2,e3,e4,e5,hd,yo]
def aDe(h:Az P L){w:Nat}(d:qX R w V B)(hm:dL bw mv (R.map (vj RT)))(ho:bw ov ol)(nL:∀s,s∈ol->s.length<9223372036854775808)(hx:bw xv (X.map RT))(lX:X.length=w)(lR:Rr.length=R.length)(kX:∀x,x∈X->Hq 2400 x)(kR:∀x,x∈Rr->Hq 30000 x)(BS:∀O:List Rat,O.length=w->eE Rr Rr R.length+eE X X w*mc<=Cx (eE O O w*mc) (eF R O) B R.length):
  fp [.t 6] (D P L (bU 20 bI.body) ⟨[(2,ov),(11,mv),(13,.av 0 0 V.length),(14,.av 1 0 B.length),(22,xv),(24,.av 2 0 Rr.length)],H8 ycP ycP ycP V B Rr,3,0⟩)=Ix (.bool ycO):=by
 have PE:=d.Ld;have dn6:=d.n6;have g:=aC9 h.f.s.toRm h.f.jB h.f.KB ho (N:=10) (m:=3) (by decide) (by decide) nL;have g:ah P L 364 [ov,.int .i64 10,.int .i64 3] (.bool (decide (ol.length<=10)&&ol.all (bJ 3))):=g;by_cases bj:ol.length=V.length
 .cases hf:(decide (ol.length<=10)&&ol.all (bJ 3)) with
  | false=>
   rw[hf] at g;simp only[go_sem,ya,bI,bU,aA,ho.len,ho.af,bj,yo,yM,g,yQ]
  | true=>
   rw[hf] at g;obtain⟨_,h2⟩:=Bool.and_eq_true_iff.1 hf;have hk:=fun s hs=>as7 (uB.1 h2 s hs)
   have hO:ol=(ol.map aI).map RT:=by
    rw[vH]
    conv=>lhs;rw[<-tR ol]
    exact wL fun s hs=>(CE (hk s hs).2.1).1
   have lO:(ol.map aI).length=w:=by rw[yg,bj];exact d.lV
   have kO:∀x,x∈ol.map aI->Hq 12 x:=fun x hx=>by
    obtain⟨s,hs,rfl⟩:=xj.1 hx;exact (hk s hs).2.2
   rw[hO] at ho;have loV:(ol.map aI).length=V.length:=lO.trans d.lV.symm;have q0:∀hp:Hp,fu hp 1 ov=Ix (aa V.length):=fun hp=>by have:=ho.len (hp:=hp);rwa[yg,loV] at this
   generalize ol.map aI=O at*
   have e1:=Vy h.n h.AZ ho ho rfl (by omega) kO kO (by decide) (by decide) (by decide);have k1:=(zL kO kO (by decide) (by decide) O.length).mono (show _<=1000 by omega);have e2:=abT h.n h.HA k1 (by decide);obtain⟨r,e3,hr⟩:=Vz h.n h.AZ h.Kw hm ho (fun r hr=>by rw[d.wr r hr,lO]) (by omega) (by omega) d.kR kO (by decide) (by decide) (by decide);have k3:=aaw d.kR kO (by decide) (by decide) (fun r hr=>by rw[d.wr r hr];exact d.Ld)
   have kY:∀x,x∈eF R O->Hq 3000 x:=fun x hx=>(k3 x hx).mono (by decide)
   have kB:∀x,x∈B->Hq 3000 x:=fun x hx=>(d.kB x hx).mono (by decide)
   have ka:=k1.mul ajh;have lA:=I5 R O;have loop:=aA3 (P:=P) (L:=L) h.n h.n.Pp (xv:=xv) hx.pu (B:=B) (R:=Rr) (r0:=ycP) (r1:=ycP) hr (by rw[lA,d.lB]) (by have:=d.lB;omega) kY kB (by decide) ka (by omega) B.length;have kz:=aav ka (fun i=>Hc kY (by decide)) (fun i=>Hc kB (by decide)) B.length;have m3:=yR (4*3000+3) (show B.length<=6 by have:=d.lB;omega);have last:=fun tm ct=>aDd h hx (by omega) (by omega) kX kR (kz.mono (show _<=4000000000 by omega)) (by
    have:=BS O lO
    rw[lR,lX,d.lB,lO];exact this) (tm:=tm) (ct:=ct)
   have q1:∀hp:Hp,fu hp 1 (shut r)=Ix (aa B.length):=fun hp=>by have:=hr.len (hp:=hp);rwa[yg,lA,<-d.lB] at this
   rw[show bU 20 bI.body=.seq (aX (bU 20 bI.body)) (.seq (aX (bU 21 bI.body)) (.seq (aX (bU 22 bI.body)) (bU 23 bI.body))) from rfl];generalize bU 23 bI.body=T at last ⊢;simp only[go_sem,ya,bI,bU,aA,aX,ho.af,q0,yo,yM,g,e1,e2,hm.af,e3,q1];generalize hq:D P L (.loop _ NW) _=q;obtain⟨ex,st,rfl,tm,ct,rfl,rfl,Q1,Mz,u29⟩:=bg hq loop ⟨0,by omega,by unfold H9;simp only[go_sem,ya,yb,ao,aj hx.pu,aj hr.pu]<;>rfl⟩
   unfold H9;simp only[go_sem,yb,ao,Q1,Mz,u29,aj hx.pu];exact last _ _ (by simp only[go_sem]) (by simp only[go_sem,ya]) (by simp only[go_sem,ya])
 .unfold H8;simp only[go_sem,ya,bI,bU,aA,ho.len,show ¬(ol.length:Int)=V.length by omega,yp,yQ]
end
section
variable {ol:List (List Nat)}{B V X:List Rat}
section
variable {R:Mx}{w:Nat}{V B:List Rat}
def qX.wdM(d:qX R w V B):wd (R.map (vj RT))=w:=by
 have h0:=d.n0
 have:=d.hw 0 h0
 rw[di h0] at this
 grind
def qX.rows(d:qX R w V B):∀r,r∈R.map (vj RT)->r.length=w/\∀s,s∈r->aM s=0/\s.length<=1000000000:=fun r hr=>by
 obtain⟨q,hq,rfl⟩:=xj.1 hr;refine⟨by rw[yg];exact d.wr q hq,fun s hs=>?_⟩
 obtain⟨x,hx,rfl⟩:=xj.1 hs;have k:=d.kR q hq x hx
 exact⟨N5 k (by decide),by have:=BI k;lia⟩
def qX.ij(d:qX R w V B):ij (R.map (vj RT))=R:=by
 unfold VE.ij;rw[vH]
 conv=>rhs;rw[<-tR R]
 refine wL fun r hr=>?_
 show (r.map RT).map aI=r
 rw[vH]
 conv=>rhs;rw[<-tR r]
 exact wL fun x hx=>aal (d.kR r hr x hx) (by decide)
def qX.hq(d:qX R w V B):iB 182 R:=fun i hi x hx=>by
 rw[di hi] at hx;exact d.kR _ (yy hi) x hx
def aji{x:List Rat}(h:x∈dR R w):∃c,c<w/\x=R.map fun r=>aO r c:=by
 obtain⟨c,hc,rfl⟩:=xj.1 h
 grind
end
def aDf(h:Az P L){w:Nat}(d:qX R w V B)(hm:dL bw mv (R.map (vj RT)))(ho:bw ov ol)(nL:∀s,s∈ol->s.length<9223372036854775808)(hx:bw xv (X.map RT))(eX:X=dF R w B mc)(kX:∀x,x∈X->Hq 2400 x){S Rr:List Rat}(eS:S=eF R X)(eR:Rr=jD B S):
  fp [.t 6] (D P L (bU 18 bI.body) ⟨[(2,ov),(11,mv),(13,.av 0 0 V.length),(14,.av 1 0 B.length),(22,xv),(24,.av 2 0 Rr.length)],[(2,.cells ycO ycO ycP 1 (cr Rr)),(1,.cells ycP ycO ycP 1 (cr B)),(0,.cells ycP ycO ycP 1 (cr V))],3,0⟩)=Ix (.bool ycO):=by
 have PE:=d.Ld;have dn6:=d.n6;have Q2:=d.n0;have dB:=d.lB;have lX:X.length=w:=by rw[eX];exact YI d.hw d.lB Gk
 have lS:S.length=R.length:=by rw[eS];exact I5 R X
 have lR:Rr.length=R.length:=by rw[eR,Zj (by omega)];exact dB
 have kS:∀x,x∈S->Hq 27000 x:=fun x hx=>by
  rw[eS] at hx;exact (aaw d.kR kX (by decide) (by decide) (fun r hr=>by rw[d.wr r hr];exact PE) x hx).mono (by decide)
 have kR:∀x,x∈Rr->Hq 30000 x:=fun x hx=>by
  rw[eR] at hx;exact (aDb d.kB kS x hx).mono (by decide)
 have iQ:=d.rows;have hwM:=d.wdM;obtain⟨r1,e1,bQ⟩:=aFJ h.ab2 h.ab3 hm (by rw[yg];omega) (by rw[yg];omega) (fun r hr=>by rw[hwM];exact (iQ r hr).1) (by omega)
 rw[hwM,avq (fun r hr=>⟨(iQ r hr).1,fun s hs=>((iQ r hr).2 s hs).1⟩),d.ij] at bQ;obtain⟨r2,e2,ep⟩:=Vz h.n h.AZ h.Kw bQ (GY ycP Rr) (fun r hr=>by
  obtain⟨c,_,rfl⟩:=aji hr;rw[yg,lR]) (by omega) (by rw[nW];omega) (K:=182) (J:=30000) (fun r hr z hz=>by
  obtain⟨c,_,rfl⟩:=aji hr;obtain⟨q,hq,rfl⟩:=xj.1 hz
  exact Hc (d.kR q hq) (by decide)) kR (by decide) (by decide) (by decide)
 have lG:(eF (dR R w) Rr).length=X.length:=by rw[I5,nW,lX]
 have hG:∀k (h1:k<(eF (dR R w) Rr).length) (h2:k<X.length),(eF (dR R w) Rr)[k]=X[k]*mc:=fun k h1 h2=>by
  have:=ayf d.hw d.lB Gk (k:=k) (by omega)
  rw[<-eX,<-eS,<-eR,dw h1,dw h2] at this;rw[this,Rat.mul_comm]
 have loop:=aA2 (P:=P) (L:=L) h.n h.HA (ov:=ov) (mv:=mv) ho.pu hm.pu (V:=V) (B:=B) (R:=Rr) (r0:=ycP) (r1:=ycP) (r2:=ycP) hx ep lG (by omega) kX (by decide) hG X.length;have last:=aDe h d hm ho nL hx lX lR kX kR (fun O lO=>by
  have:=aA7 d.hw d.lB Gk O lO
  rw[<-eX,<-eS,<-eR] at this
  exact this)
 have f:=fun hp:Hp=>W9 (l:=Rr) rfl ycP hp
 have q1:∀hp:Hp,fu hp 1 xv=Ix (aa X.length):=fun hp=>by have:=hx.len (hp:=hp);rwa[yg] at this
 rw[show bU 18 bI.body=.seq (aX (bU 18 bI.body)) (.seq (aX (bU 19 bI.body)) (bU 20 bI.body)) from rfl];generalize bU 20 bI.body=T at last ⊢;simp only[go_sem,ya,bI,bU,aA,aX,hm.af,e1,bQ.af,f,e2,q1];generalize hq:D P L (.loop _ NV) _=q;obtain⟨ex,st,rfl,tm,ct,rfl,rfl,u2,Q3,Iw,Q4,Q1,Mz⟩:=bg hq loop ⟨0,by omega,by unfold H8;simp only[go_sem,ya,yb,ao,aj ho.pu,aj hm.pu,aj hx.pu,aj ep.pu]<;>rfl⟩
 simp only[go_sem,ya,yb,ao,u2,Q3,Iw,Q4,Q1,Mz,aj ho.pu,aj hm.pu,aj hx.pu];exact last
def aDg(h:Az P L){w:Nat}(d:qX R w V B)(hm:dL bw mv (R.map (vj RT)))(ho:bw ov ol)(nL:∀s,s∈ol->s.length<9223372036854775808)(hx:bw xv (X.map RT))(eX:X=dF R w B mc)(kX:∀x,x∈X->Hq 2400 x){o:Obj}(t2:ab tm 2=ov)(t11:ab tm 11=mv)(t13:ab tm 13=.av 0 0 V.length)(t14:ab tm 14=.av 1 0 B.length)(t22:ab tm 22=xv):
  fp [.t 6] (D P L (bU 15 bI.body) ⟨tm,[(3,o),(1,.cells ycP ycO ycP 1 (cr B)),(0,.cells ycP ycO ycP 1 (cr V))],4,0⟩)=Ix (.bool ycO):=by
 have PE:=d.Ld;have dn6:=d.n6;have Q2:=d.n0;have dB:=d.lB;have lX:X.length=w:=by rw[eX];exact YI d.hw d.lB Gk
 obtain⟨r2,e2,ep⟩:=Vz h.n h.AZ h.Kw hm hx (fun r hr=>by rw[d.wr r hr,lX]) (by omega) (by omega) d.kR kX (by decide) (by decide) (by decide);have lS:=I5 R X;have kS:∀x,x∈eF R X->Hq 27000 x:=fun x hx=>(aaw d.kR kX (by decide) (by decide) (fun r hr=>by rw[d.wr r hr];exact PE) x hx).mono (by decide)
 have last:=aDf h d hm ho nL hx eX kX rfl rfl;generalize eF R X=S at*
 have loop:=aA1 (P:=P) (L:=L) h.n.toRp h.n.Pp (ov:=ov) (mv:=mv) ho.pu hm.pu hx.pu (V:=V) (B:=B) (S:=S) (r0:=ycP) (r1:=ycP) ep (by omega) (by omega) d.kB kS (by decide) B.length;obtain⟨n,hn⟩:∃n,(jD B S).length=n+1:=⟨B.length-1,by rw[Zj (by omega)];omega⟩;rw[hn] at last;rw[show bU 15 bI.body=.seq (aX (bU 15 bI.body)) (.seq (aX (bU 16 bI.body)) (.seq (aX (bU 17 bI.body)) (bU 18 bI.body))) from rfl];generalize bU 18 bI.body=T at last ⊢;simp only[go_sem,ya,bI,bU,aA,aX,t11,t14,t22,hm.af,hx.af,e2];generalize hq:D P L (.loop _ GN) _=q;obtain⟨ex,st,rfl,tm,ct,rfl,rfl,u2,Q3,Iw,Q4,Q1,Mz⟩:=bg hq loop ⟨0,by omega,by rw[vC];simp only[go_sem,ya,yb,ao,t2,t11,t13,t14,t22,oV,oH,oC,yI,aj ho.pu,aj hm.pu,aj hx.pu,aj ep.pu]<;>rfl⟩
 unfold H7;rw[hn] at Mz ⊢;simp only[go_sem,ya,yb,ao,u2,Q3,Iw,Q4,Q1,Mz,aj ho.pu,aj hm.pu,aj hx.pu];exact last
end
def ZS{r:Rat}(h:LG r=ycP):aM (RT r)=0/\Hq 2400 r:=by
 obtain⟨h1,h2⟩:=Bool.or_eq_false_iff.1 h;have h1:=of_decide_eq_false h1;have h2:=of_decide_eq_false h2;rw[wA] at h2
 exact⟨ZH (by omega) (by omega),Bt (k:=600) (by omega) (by omega),Bt (z:=(r.den:Int)) (k:=600) (by rw[wA];omega) (by omega)⟩
def afI{l:List Rat}(h:∀x,x∈l->aM (RT x)=0):a6 ((l.map RT).map aM)=0:=by
 induction l with
 | nil=>rfl
 | cons x l ih=>
  rw[yS,yS,oO]
  grind
def as8{l:List Rat}(h:∀x,x∈l->Hq K x)(hK:K<=1800):(l.map RT).map aI=l:=by
 rw[vH]
 conv=>rhs;rw[<-tR l]
 exact wL fun x hx=>aal (h x hx) hK
def aDh(h:Az P L){w:Nat}{B:List Rat}(d:qX R w V B)(hm:dL bw mv (R.map (vj RT)))(ho:bw ov ol)(nL:∀s,s∈ol->s.length<9223372036854775808):
  fp [.t 6] (D P L (bU 11 bI.body) ⟨[(2,ov),(11,mv),(13,.av 0 0 V.length),(14,.av 1 0 B.length)],[(1,.cells ycO ycO ycP 1 (cr B)),(0,.cells ycO ycO ycP 1 (cr V))],2,0⟩)=Ix (.bool ycO):=by
 have PE:=d.Ld;have dn6:=d.n6;have Q2:=d.n0;have dw0:=d.w0;have dB:=d.lB;have dV:=d.lV;obtain⟨z1,z2,z3,z4⟩:=alv d.hw (by omega) (by omega) (by omega) (by omega) d.hq (by decide);have cB:=afI fun x hx=>N5 (d.kB x hx) (by decide)
 have rB:=as8 d.kB (by decide);have fc:∀s,s∈B.map RT->s.length<=1000000000:=fun s hs=>by
  obtain⟨x,hx,rfl⟩:=xj.1 hs
  have:=BI (d.kB x hx);omega
 have c1:=TQ h.f.s.toRm h.f.s.B5 (GY ycP B) (by rw[yg];omega) (fun s hs=>by have:=fc s hs;omega);rw[cB] at c1;have lVw:V.length<=1000:=by omega
 have kV:∀x,x∈V->Hq 20 x:=d.kV;obtain⟨r1,e1,bQ⟩:=Vz h.n h.AZ h.Kw hm (GY ycP V) (fun r hr=>by rw[d.wr r hr,dV]) lVw (by omega) d.kR kV (by decide) (by decide) (by decide);rw[d.ap] at bQ;have e2:=a29 h.h29 bQ (GY ycP B) (by rw[yg];omega);have hc:aM (RT mc)=0:=N5 Vm (by decide);have hr:aI (RT mc)=mc:=aal Vm (by decide);rw[am1] at hc hr;have QV:(B.map RT).length=(R.map (vj RT)).length:=by rw[yg,yg];exact dB
 have hE:Kz (R.map (vj RT)) (B.map RT) [49,47,50]=0:=by
  unfold Kz;rw[z1,cB,yK QV]
  have:iI [49,47,50] 1=0:=by
   unfold iI;rw[yK hc,hr];decide
  rw[this];decide
 have hcB:∀s,s∈B.map RT->aM s=0:=fun s hs=>by
  obtain⟨x,hx,rfl⟩:=xj.1 hs;exact N5 (d.kB x hx) (by decide)
 have iw:=aj0 d.hw dB Gk;have fw:=Ti d.hw dB Gk;rw[<-ajZ,<-ajb] at fw;have lM:(R.map (vj RT)).length=R.length:=yg _;have kl:Hq 400 (aI [49,47,50]):=by rw[hr];exact Vm.mono (by decide)
 obtain⟨g1,g2⟩:=m27 h.t hm (GY ycP B) (by omega) (by rw[yg];omega) z4 fc (s:=[49,47,50]) (by decide) hE z1 QV (by omega) (by rw[z3];omega) (fun _=>by omega) (fun q=>by rw[z3] at q ⊢;omega) hcB hc (K:=400) (by rw[z2];exact d.hq.mono (by decide)) (by rw[rB];exact d.kB) kl (by decide) (by decide) (by rw[z2,rB,hr,lM];exact iw) (by rw[z2,z3,rB,hr];exact fw)
 rw[z2,z3,rB,hr] at g1 g2;have fB:=fun hp:Hp=>W9 (l:=B) rfl ycP hp
 have fV:=fun hp:Hp=>W9 (l:=V) rfl ycP hp
 obtain⟨o1,o2⟩:=ajY B;have lcB:=GX B;have hat:∀(dn pu ex:Bool),HX 0 B.length 1 (Ix (.cells dn pu ex 1 (cr B)))=Ix (B.length,cr B):=fun _ _ _=>awZ (by rw[lcB,yf])
 have last:=fun {X:List Rat} {xv:AV} (hx:bw xv (X.map RT)) eX kX {o:Obj} {tm:Env}=>aDg h d hm ho nL hx eX kX (o:=o) (tm:=tm)
 rw[show bU 11 bI.body=.seq (aX (bU 11 bI.body)) (.seq (aX (bU 12 bI.body)) (.seq (aX (bU 13 bI.body)) (.seq (aX (bU 14 bI.body)) (bU 15 bI.body)))) from rfl];generalize bU 15 bI.body=T at last ⊢;generalize hX:dF R w B mc=X at*
 have lX:X.length=w:=by rw[<-hX];exact YI d.hw dB Gk
 cases hg:X.any LG with
 | true=>
  have e7:=g1 hg;simp only[go_sem,ya,yb,yf,bI,bU,aA,aX,hm.af,fB,fV,c1,e1,bQ.af,e2,yo,yM,hat]
  rw[dZ (ex:=ycO) (pu:=aD []) (cs:=[]) (n:=0) (by simp only[go_sem]) rfl (by omega) (by omega) (by decide) o1];simp only[go_sem,ya,yb,xy,o2,hm.af,xt,yd,fB,e7,r9,II,IN,Int.reduceEq,yo,yp,yQ]
 | false=>
  obtain⟨k,hk,e7⟩:=g2 hg;have hgx:∀x,x∈X->LG x=ycP:=fun x hx=>by
   have:=tU.1 hg x hx
   simpa using this
  have c3:=TQ h.f.s.toRm h.f.s.B5 hk (by rw[yg];omega) (fun s hs=>by
   obtain⟨x,hx,rfl⟩:=xj.1 hs
   have:=BI (ZS (hgx x hx)).2;omega)
  rw[afI fun x hx=>(ZS (hgx x hx)).1] at c3;have q1:∀hp:Hp,fu hp 1 k=Ix (aa V.length):=fun hp=>by have:=hk.len (hp:=hp);rwa[yg,lX,<-dV] at this
  simp only[go_sem,ya,yb,yf,bI,bU,aA,aX,hm.af,fB,fV,c1,e1,bQ.af,e2,yo,yM,hat]
  rw[dZ (ex:=ycO) (pu:=aD []) (cs:=[]) (n:=0) (by simp only[go_sem]) rfl (by omega) (by omega) (by decide) o1];simp only[go_sem,ya,yb,xy,o2,hm.af,xt,yd,fB,e7,r9,II,IN,hk.af,hk.cd,q1,yo,yM,c3];exact last hk rfl (fun x hx=>(ZS (hgx x hx)).2) (by simp only[go_sem,ya]) (by simp only[go_sem,ya]) (by simp only[go_sem,ya]) (by simp only[go_sem,ya]) (by simp only[go_sem,ya])
structure my(l:List Lay)(sl:List dl)(pl:List cV)(fr:Int):Prop where
 l0:0<l.length
 l2:l.length<=2
 lF:l.all Lay.Dt=ycO
 s0:0<sl.length
 s2:sl.length<=2
 sF:sl.all EU=ycO
 p0:0<pl.length
 p3:pl.length<=3
 pF:pl.all EV=ycO
 fE:nm fr=0
 fr1: -100<=fr
 fr2:fr<=100
 n10:jR l<=10
def ajj{a:Lay}(h:a.Dt=ycO):a.s.length<=3/\oP a.s=0/\(bJ 2 a.hh=ycO/\bJ 2 a.sc=ycO/\bJ 2 a.st=ycO)/\(bJ 2 a.ox=ycO/\bJ 2 a.oy=ycO)/\(bJ 2 a.wx=ycO/\bJ 2 a.wy=ycO)/\a.E=0:=by
 unfold Lay.Dt Ud at h;simp only[yj,wN] at h;exact h
def agH:∀{l:List Lay},(∀a,a∈l->Iv a)->(((cZ l).length:Nat):Int)=jR l
 | [],_=>rfl
 | a::l,h=>by
  have ih:=agH (l:=l) fun b hb=>h b (xi _ hb)
  unfold jR cZ at*
  rw[yS,yS,wq,yE,X6 (h a xA),mg,<-ih,yaR,xS]
noncomputable def F1(l:List Lay)(pl:List cV)(fr:Int)(s:dl):List Rat:=Ew l s.1 s.2.1 s.2.2 pl fr
def ajk(l:List Lay)(pl:List cV)(fr:Int)(s:dl):(F1 l pl fr s).length=pl.length:=by simp[F1,Ew]
def ah0{l:List Lay}{sl:List dl}:(Dr l fr N sl pl).length=sl.length*pl.length:=by
 have:=Ri (l:=l) (fr:=fr) (N:=N) (sl:=sl) (pl:=pl)
 rwa[X4,yg] at this
def aA8{l:List Lay}(hS:∀a,a∈l->Iv a)(s:dl)(p:cV)(fr:Int):eE (ji l fr (cZ l).length s p) (cZ l) (ji l fr (cZ l).length s p).length=ES l s.1 s.2.1 s.2.2 p.1 p.2 fr:=by
 have h:=ahZ (dx:=s.1) (dy:=s.2.1) (sh:=s.2.2) (x:=p.1) (y:=p.2) (fr:=fr) hS l.length (ym _);rw[yq (ym _)] at h;unfold ji;rw[Gi,CX];refine Eq.trans (cW fun j hj=>?_) h;rw[dw (by rw[Gi];exact hj)]
 simp[AY]
def ayg{l:List Lay}(hS:∀a,a∈l->Iv a)(sl:List dl)(pl:List cV)(fr:Int):eF (Dr l fr (cZ l).length sl pl) (cZ l)=(sl.map (F1 l pl fr)).flatten:=by
 unfold eF Dr;rw[List.map_flatten,vH]
 congr 1
 refine wL fun s _=>?_
 show (pl.map _).map _=_
 rw[vH];exact wL fun p _=>aA8 hS s p fr
section
variable {l:List Lay}{sl:List dl}{pl:List cV}{fr:Int}(g:my l sl pl fr)
include g
theorem my.lay{a:Lay}(ha:a∈l):a.s.length<=3/\oP a.s=0/\(bJ 2 a.hh=ycO/\bJ 2 a.sc=ycO/\bJ 2 a.st=ycO)/\(bJ 2 a.ox=ycO/\bJ 2 a.oy=ycO)/\(bJ 2 a.wx=ycO/\bJ 2 a.wy=ycO)/\a.E=0:=ajj (uB.1 g.lF a ha)
theorem my.cell{a:Lay}(ha:a∈l){r:List Int}(hr:r∈a.s):r.length=a.s.length/\∀z,z∈r-> -1000<=z/\z<=1000:=by
 have⟨_,_,h⟩:=F2 (g.lay ha).2.1;obtain⟨i,hi,rfl⟩:=we.1 hr;have⟨h1,h2⟩:=XS h i hi;refine⟨h1,fun z hz=>?_⟩;obtain⟨j,hj,rfl⟩:=we.1 hz;exact R2 h2 j hj
theorem my.Q5:∀a,a∈l->Iv a:=fun a ha=>by
 have⟨h1,h2,_⟩:=F2 (g.lay ha).2.1;exact⟨h1,h2,fun r hr=>(g.cell ha hr).1⟩
theorem my.star{s:dl}(hs:s∈sl):bJ 2 s.1=ycO/\bJ 2 s.2.1=ycO/\bJ 2 s.2.2=ycO/\zQ s.1 s.2.1 s.2.2=0:=by
 have:=uB.1 g.sF s hs
 unfold EU at this
 grind
theorem my.place{p:cV}(hp:p∈pl):bJ 2 p.1=ycO/\bJ 2 p.2=ycO:=by
 have:=uB.1 g.pF p hp
 unfold EV at this
 grind
theorem my.fit:∀a,a∈l->a.Fit:=fun a ha=>by
 have⟨h1,h2,⟨h3,h4,h5⟩,⟨h6,h7⟩,⟨h8,h9⟩,_⟩:=g.lay ha
 exact⟨by lia,fun i hi=>by have:=(g.cell ha (yy hi)).1;lia,by have:=(lJ h3).1;lia,by have:=(lJ h4).1;lia,by have:=(lJ h5).1;lia,by have:=(lJ h6).1;lia,by have:=(lJ h7).1;lia,by have:=(lJ h8).1;lia,by have:=(lJ h9).1;lia⟩
theorem my.lys:rI l=0:=by
 have:=g.l2
 unfold rI;rw[yx (by lia)]
 have:∀{m:List Lay},(∀a,a∈m->a.E=0)->a6 (m.map Lay.E)=0:=fun {m} h=>by
  induction m with
  | nil=>rfl
  | cons a m ih=>rw[yS,oO];exact⟨h a xA,ih fun b hb=>h b (xi _ hb)⟩
 exact this fun a ha=>(g.lay ha).2.2.2.2.2
theorem my.pls:AX pl=0:=by
 have:=g.p3
 unfold AX;rw[yx (by lia)]
 have:∀{m:List cV},(∀p,p∈m->QH p=0)->a6 (m.map QH)=0:=fun {m} h=>by
  induction m with
  | nil=>rfl
  | cons a m ih=>rw[yS,oO];exact⟨h a xA,ih fun b hb=>h b (xi _ hb)⟩
 refine this fun p hp=>?_
 have⟨h1,h2⟩:=g.place hp;unfold QH;simp only[oO,Gb,vv];exact⟨(lJ h1).2.1,(lJ h2).2.1⟩
theorem my.mat:Dq l sl pl fr=0:=by
 have:=g.l0
 have:=g.s0
 have:=g.s2
 have:=g.p0
 have aK:∀{m:List dl},(∀s,s∈m->My s=0)->a6 (m.map My)=0:=fun {m} h=>by
  induction m with
  | nil=>rfl
  | cons a m ih=>rw[yS,oO];exact⟨h a xA,ih fun b hb=>h b (xi _ hb)⟩
 unfold Dq;simp only[oO,Gb,vv];exact⟨⟨yx (by lia),g.lys,yx (by lia),yx (by lia)⟩,aK fun s hs=>(g.star (vI hs)).2.2.2,yx (by lia),g.pls,g.fE⟩
theorem my.pos{a:Lay}(ha:a∈l){s:dl}(hs:s∈sl){p:cV}(hp:p∈pl):Hq 8 (aI a.st)/\Hq 84 (dO a.hh a.sc a.ox a.wx s.1 s.2.2 p.1 fr)/\Hq 84 (dO a.hh a.sc a.oy a.wy s.2.1 s.2.2 p.2 fr):=by
 have⟨_,_,⟨h3,h4,h5⟩,⟨h6,h7⟩,⟨h8,h9⟩,_⟩:=g.lay ha;have⟨s1,s2,s3,_⟩:=g.star hs;have⟨p1,p2⟩:=g.place hp;have f1:=g.fr1;have f2:=g.fr2;have k:=fun {t:List Nat} (q:bJ 2 t=ycO)=>(lJ q).2.2
 exact⟨k h5,ajf (k h4) (k h6) (k h8) (k s3) (k h3) (k p1) (k s1) (by lia),ajf (k h4) (k h7) (k h9) (k s3) (k h3) (k p2) (k s2) (by lia)⟩
theorem my.anb{s:dl}(hs:s∈sl){p:cV}(hp:p∈pl)(N:Nat):∀x,x∈ji l fr N s p->Hq 182 x:=fun x hx=>by
 obtain⟨q,_,rfl⟩:=xj.1 hx
 have:=aly g.Q5 (fun a ha=>g.pos ha hs hp) l.length (ym _) (q:Int)
 grind
theorem my.aFT(N:Nat):sl.any (BJ l fr N pl)=ycP:=by
 refine tU.2 fun s hs q=>?_
 obtain⟨p,hp,q⟩:=yaE.1 q;obtain⟨x,hx,q⟩:=yaE.1 q;rw[aln (g.anb hs hp N x hx) (by decide)] at q;cases q
theorem my.phH{s:dl}(hs:s∈sl):∀x,x∈F1 l pl fr s->Hq 400 x:=fun x hx=>by
 obtain⟨p,hp,rfl⟩:=xj.1 hx;exact aye g.l2 (fun a ha=>Xj (F2 (g.lay ha).2.1).2.2 (by decide)) (fun a ha=>g.pos ha hs hp)
theorem my.aFU{s:dl}(hs:s∈sl):(F1 l pl fr s).any LG=ycP:=by
 refine tU.2 fun x hx q=>?_
 rw[aln (g.phH hs x hx) (by decide)] at q;cases q
theorem my.phs{s:dl}(hs:s∈sl):Fl l s.1 s.2.1 s.2.2 pl fr=0:=by
 unfold Fl;simp only[oO,Gb,vv];exact⟨g.lys,(g.star hs).2.2.2,g.pls,g.fE⟩
theorem my.nV:(((cZ l).length:Nat):Int)=jR l:=agH g.Q5
theorem my.data:qX (Dr l fr (cZ l).length sl pl) (cZ l).length (cZ l) (sl.map (F1 l pl fr)).flatten:=by
 have hN:=g.nV;have jk:=g.n10;have hb:=ZL (fun a ha=>⟨(g.Q5 a ha).1,(g.Q5 a ha).2.1⟩) g.l0 (by have:=g.l2;omega);have hm:=ah0 (l:=l) (fr:=fr) (N:=(cZ l).length) (sl:=sl) (pl:=pl);have m1:sl.length*pl.length<=2*3:=xo g.s2 g.p3;have m2:0<sl.length*pl.length:=ux g.s0 g.p0;refine⟨fun i hi=>?_,by omega,by omega,by omega,by omega,rfl,?_,fun r hr x hx=>?_,fun x hx=>?_,fun x hx=>?_,ayg g.Q5 sl pl fr⟩
 .obtain ⟨s,_,p,_,e⟩:=ahJ (yy hi);rw[di hi,e];unfold ji;exact Gi _ _
 .rw [hm,RO (n:=pl.length) (fun r hr=>by
   obtain⟨s,_,rfl⟩:=xj.1 hr
   exact ajk l pl fr s),yg]
 .obtain ⟨s,hs,p,hp,rfl⟩:=ahJ hr;exact g.anb hs hp _ x hx
 .obtain ⟨q,hq,hx⟩:=yaa.1 hx;obtain⟨s,hs,rfl⟩:=xj.1 hq;exact g.phH hs x hx
 .unfold cZ at hx;obtain⟨q,hq,hx⟩:=yaa.1 hx;obtain⟨a,ha,rfl⟩:=xj.1 hq;obtain⟨z,hz,rfl⟩:=xj.1 hx;obtain⟨r,hr,hz⟩:=yaa.1 hz
  have:=(g.cell ha hr).2 z hz
  exact⟨by rw[vY];unfold Bd;omega,by rw[uz];decide⟩
end
section
variable {ol:List (List Nat)}{l:List Lay}
def ayh(k:Nat):(cZ (l.take k)).length<=(cZ l).length:=by
 conv=>rhs;rw[<-xX k l]
 unfold cZ
 grind
def aFV(h:Az P L){w sv:AV}{sl:List dl}(g:my l sl pl fr)(hv:fb v l)(hs:jP sv sl)(hw:jv w pl)(hm:dL bw mv ((Dr l fr (cZ l).length sl pl).map (vj RT)))(ho:bw ov ol)(nL:∀s,s∈ol->s.length<9223372036854775808)(t0:ab tm 0=v)(t2:ab tm 2=ov)(t4:ab tm 4=.ptr 0 0)(t11:ab tm 11=mv):
  fp [.t 6] (D P L (bU 8 bI.body) ⟨tm,[(0,.cells ycO ycO ycO 3 [sv,w,aa fr])],1,0⟩)=Ix (.bool ycO):=by
 have l2:=g.l2;have s2:=g.s2;have p0:=g.p0;have p3:=g.p3;have hN:=g.nV;have jk:=g.n10;have d:=g.data;have dw0:=d.w0;have Q2:=d.n0;have dB:=d.lB;have ps:=hs.pu;have pw:=hw.pu;have po:=ho.pu;have pm:=hm.pu;have pc:aD [sv,w,aa fr]=ycO:=by simp only[go_sem,ps,pw,xt]
 have lp0:=aAZ (P:=P) (L:=L) h.f.s.toRm h.Dl (vc:=[sv,w,aa fr]) po pm pc hv (by omega) (fun a ha=>by
  have h1:=(g.lay ha).1
  refine⟨by omega,?_,fun r hr z hz=>by have:=(g.cell ha hr).2 z hz;omega⟩;rw[RO fun r hr=>(g.cell ha hr).1]
  have:=xo h1 h1
  omega) (fun k hk=>by have:=ayh (l:=l) k;omega) l.length
 have mw:∀s,s∈sl->s.1.length<=1000000000/\s.2.1.length<=1000000000/\s.2.2.length<=1000000000:=fun s hs=>by
  obtain⟨q1,q2,q3,_⟩:=g.star hs
  have:=(lJ q1).1
  have:=(lJ q2).1
  have:=(lJ q3).1
  omega
 have ppl:∀p,p∈pl->p.1.length<=1000000000/\p.2.length<=1000000000:=fun p hp=>by
  obtain⟨q1,q2⟩:=g.place hp
  have:=(lJ q1).1
  have:=(lJ q2).1
  omega
 have lp1:=aA0 (P:=P) (L:=L) (v:=v) (ov:=ov) (mv:=mv) (fr:=fr) hv.pu (fun n hp=>hv.af n) po pm hs hw p0 (by omega) (by omega) (V:=cZ l) dw0 (F:=F1 l pl fr) (fun s _=>ajk l pl fr s) (fun s mT=>by
  obtain⟨q1,q2,q3⟩:=mw s mT;obtain⟨r,hr,e⟩:=((aFw h.m.toLq h.Pu h.Pt h.abY h.HE hv (by omega) g.fit hw (by omega) ppl q1 q2 q3).2 (g.phs mT)).2 (g.aFU mT)
  exact⟨r,e,hr⟩) sl.length
 have last:=aDh h d hm ho nL;generalize hBB:(sl.map (F1 l pl fr)).flatten=B at*
 generalize hVV:cZ l=V at*
 obtain⟨m,FT⟩:∃m,V.length=m+1:=⟨V.length-1,by omega⟩;obtain⟨n,hnB⟩:∃n,B.length=n+1:=⟨B.length-1,by omega⟩;rw[FT,hnB] at last;rw[show bU 8 bI.body=.seq (aX (bU 8 bI.body)) (.seq (aX (bU 9 bI.body)) (.seq (aX (bU 10 bI.body)) (bU 11 bI.body))) from rfl];generalize bU 11 bI.body=T at last ⊢;simp only[go_sem,ya,bI,bU,aA,aX,t0,hv.len];generalize hq:D P L (.loop _ Jo) _=q;obtain⟨ex,st,rfl,mi,ct,rfl,rfl,u0,u2,u4,Q3,Iw,Q4⟩:=bg hq lp0 ⟨0,by omega,by rw[show cZ (l.take 0)=[] from rfl];simp only[go_sem,ya,yb,ao,t0,t2,t4,t11,oV,oH,oC,yI,aj hv.pu,aj po,aj pm]<;>rfl⟩
 unfold jC;rw[FT] at Iw ⊢;simp only[oV,oH] at Iw ⊢;simp only[go_sem,ya,yb,ao,u0,u2,u4,Q3,Iw,Q4,aj hv.pu,aj po,aj pm,aZ,yd,yh,Ap,hs.len];generalize hq:D P L (.loop _ GM) _=q;obtain⟨ex,st,rfl,A1,ct,rfl,rfl,y2,y11,y13,y14⟩:=bg hq lp1 ⟨0,by omega,by rw[vC,wu,tF,FT];simp only[go_sem,ya,yb,ao,oV,oH,oC,yI,aj hv.pu,aj po,aj pm]<;>rfl⟩
 unfold H6;rw[hnB] at y14 ⊢;rw[FT] at y13;simp only[go_sem,ya,yb,ao,y2,y11,y13,y14,aj po,aj pm];exact last
def aFW(h:Az P L){w sv:AV}{sl:List dl}(g:my l sl pl fr)(hv:fb v l)(hr:fb rv l)(hs:jP sv sl)(hw:jv w pl)(ho:bw ov ol)(nL:∀s,s∈ol->s.length<9223372036854775808)(t0:ab tm 0=v)(t2:ab tm 2=ov)(t4:ab tm 4=.ptr 0 0)(t7:ab tm 7=rv):
  fp [.t 6] (D P L (bU 6 bI.body) ⟨tm,[(0,.cells ycO ycO ycO 3 [sv,w,aa fr])],1,0⟩)=Ix (.bool ycO):=by
 have l2:=g.l2;have s2:=g.s2;have p3:=g.p3;have hN:=g.nV;have jk:=g.n10;have d:=g.data;have mw:∀s,s∈sl->s.1.length<=1000000000/\s.2.1.length<=1000000000/\s.2.2.length<=1000000000:=fun s hs=>by
  obtain⟨q1,q2,q3,_⟩:=g.star hs
  have:=(lJ q1).1
  have:=(lJ q2).1
  have:=(lJ q3).1
  omega
 have ppl:∀p,p∈pl->p.1.length<=1000000000/\p.2.length<=1000000000:=fun p hp=>by
  obtain⟨q1,q2⟩:=g.place hp
  have:=(lJ q1).1
  have:=(lJ q2).1
  omega
 have m1:sl.length*pl.length<=2*3:=xo s2 p3;obtain⟨rows,hR,e1⟩:=((m26 h.m (fr:=fr) hv (by omega) g.fit hs (by omega) mw hw (by omega) ppl).2.2 g.mat (by omega) (by omega)).2 (g.aFT _);have eN:(jR l).toNat=(cZ l).length:=by omega
 rw[eN,X4] at hR;have hlen:=hR.len;have hm:=M7 ycP hR;rw[<-hlen] at hm;have last:=fun {tm:Env}=>aFV h g hv hs hw hm ho nL (tm:=tm)
 have lR:=ah0 (l:=l) (fr:=fr) (N:=(cZ l).length) (sl:=sl) (pl:=pl);have dw0:=d.w0;have Q2:=d.n0;obtain⟨z1,z2,z3,z4⟩:=alv d.hw (by omega) (by omega) (by omega) (by omega) d.hq (by decide);have e2:=aFH h.f.s.toRm h.f.s.B5 h.PB hm (fun r hr s hs=>by have:=(z4 r hr).2 s hs;omega);rw[z1] at e2;obtain⟨r0,rest,gK,e0⟩:=hm.aT (i:=0) (by rw[yg];omega);have q0:∀hp:Hp,fu hp 1 r0=Ix (aa (cZ l).length):=fun hp=>by
  have:=gK.len (hp:=hp)
  rwa[xm,yg,d.wr _ (yy Q2)] at this
 have e3:=am9 h.Vw hr (by omega) (fun a ha=>by have:=(g.lay ha).1;omega);rw[<-hN] at e3;have JQ:(sl.length:Int)*pl.length=((sl.length*pl.length:Nat):Int):=(xS _ _).symm;have d1:∀a b c:AV,xK 1 [a,b,c]=[b,c]:=fun _ _ _=>rfl
 have d2:∀a b c:AV,xK 2 [a,b,c]=[c]:=fun _ _ _=>rfl
 have q1:∀hp:Hp,fu hp 1 (.aF ycP rows.length rows)=Ix (aa (sl.length*pl.length:Nat)):=fun hp=>by have:=hm.len (hp:=hp);rwa[yg,lR] at this
 have wp:IntKind.wrap .i64 ((sl.length*pl.length:Nat):Int)=((sl.length*pl.length:Nat):Int):=wrap64 (by omega) (by omega);rw[show bU 6 bI.body=.seq (aX (bU 6 bI.body)) (.seq (aX (bU 7 bI.body)) (bU 8 bI.body)) from rfl];generalize bU 8 bI.body=T at last ⊢;simp only[go_sem,ya,bI,bU,aA,aX,t0,t4,t7,aZ,yd,yh,d1,d2,Ap,hv.af,hs.len,hs.af,hw.len,hw.af,e1,r9,II,IN,hm.af,e2,q1,JQ,wp,e0,q0,hr.af,e3,yo,yM];exact last (by simp only[go_sem,ya,t0]) (by simp only[go_sem,ya,t2]) (by simp only[go_sem,ya,t4]) (by simp only[go_sem,ya])
def aFX(h:Az P L){w sv:AV}{sl:List dl}(hv:fb v l)(hlen:∀a,a∈l->a.Pw)(hr:fb rv l)(hs:jP sv sl)(Ir:∀s,s∈sl->TY s)(hw:jv w pl)(DK:∀p,p∈pl->alr p)(ho:bw ov ol)(nL:∀s,s∈ol->s.length<9223372036854775808)(l0:0<l.length)(l2:l.length<=2)(s0:0<sl.length)(s2:sl.length<=2)(p0:0<pl.length)(p3:pl.length<=3)(fE:nm fr=0)(f1: -100<=fr)(f2:fr<=100)(t0:ab tm 0=v)(t2:ab tm 2=ov)(t4:ab tm 4=.ptr 0 0)(t7:ab tm 7=rv):
  fp [.t 6] (D P L (bU 2 bI.body) ⟨tm,[(0,.cells ycO ycO ycO 3 [sv,w,aa fr])],1,0⟩)=Ix (.bool ycO):=by
 have k0:=aA4 (P:=P) (L:=L) h.f (vc:=[sv,w,aa fr]) hv.pu ho.pu hr (by omega) hlen l.length;have k1:=aA5 (P:=P) (L:=L) h.f.s h.f.PD h.f.z8 h.f.jB (fr:=fr) (wv:=w) hv.pu ho.pu hr.pu hs (by omega) Ir sl.length;have k2:=aA6 (P:=P) (L:=L) h.f.s.toRm h.f.z8 h.f.jB (fr:=fr) (sv:=sv) hv.pu ho.pu hr.pu hw (by omega) DK pl.length;have d1:∀a b c:AV,xK 1 [a,b,c]=[b,c]:=fun _ _ _=>rfl
 have last:=fun g=>fun {tm:Env}=>aFW h (fr:=fr) g hv hr hs hw ho nL (tm:=tm)
 have cut:bU 2 bI.body=.seq (aX (bU 2 bI.body)) (.seq (aX (bU 3 bI.body)) (.seq (aX (bU 4 bI.body)) (.seq (aX (bU 5 bI.body)) (bU 6 bI.body)))):=rfl;rw[cut];generalize bU 6 bI.body=T at last ⊢;simp only[go_sem,bI,bU,aA,aX,t7,hr.len];generalize hq:D P L (.loop _ Jk) _=q;obtain⟨ex,st,rfl,tm,hp,ct,rfl,hd⟩:=bg hq k0 ⟨0,by omega,by simp,by simp only[go_sem,ya,yb,ao,t0,t2,t4,t7,aj hv.pu,aj ho.pu,aj hr.pu]<;>rfl⟩
 rcases hd with ⟨rfl,t6,_⟩ | ⟨rfl,hA,rfl,u0,u2,u4,u7⟩
 .simp only [go_sem,t6]
 simp only[go_sem,ya,ao,u0,u2,u4,u7,aZ,yd,yh,Ap,hs.len,aj hv.pu,aj ho.pu,aj hr.pu];generalize hq:D P L (.loop _ Jl) _=q;obtain⟨ex,st,rfl,tm,hp,ct,rfl,hd⟩:=bg hq k1 ⟨0,by omega,by simp,by simp only[go_sem,ya,yb,ao,aj hv.pu,aj ho.pu,aj hr.pu]<;>rfl⟩
 rcases hd with ⟨rfl,t6,_⟩ | ⟨rfl,hB,rfl,y0,y2,y4,y7⟩
 .simp only [go_sem,t6]
 simp only[go_sem,ya,ao,y0,y2,y4,y7,aZ,yd,d1,Ap,hw.len,aj hv.pu,aj ho.pu,aj hr.pu];generalize hq:D P L (.loop _ Jm) _=q;obtain⟨ex,st,rfl,tm,hp,ct,rfl,hd⟩:=bg hq k2 ⟨0,by omega,by simp,by simp only[go_sem,ya,yb,ao,aj hv.pu,aj ho.pu,aj hr.pu]<;>rfl⟩
 rcases hd with ⟨rfl,t6,_⟩ | ⟨rfl,hC,rfl,x0,x2,x4,x7⟩
 .simp only [go_sem,t6]
 have e3:=am9 h.Vw hr (by omega) (fun a ha=>by have:=(ajj (uB.1 hA a ha)).1;omega);by_cases hn:jR l<=10
 .simp only [go_sem,ya,yb,ao,x0,x2,x4,x7,hr.af,e3,show ¬(10:Int)<jR l by omega,yp,aj hv.pu,aj ho.pu,aj hr.pu];exact last ⟨l0,l2,hA,s0,s2,hB,p0,p3,hC,fE,f1,f2,hn⟩ (by simp only[go_sem,ya]) (by simp only[go_sem,ya]) (by simp only[go_sem,ya]) (by simp only[go_sem,ya])
 .simp only [go_sem,ya,yb,ao,x0,x2,x4,x7,hr.af,e3,show (10:Int)<jR l by omega,yo,aj hv.pu,aj ho.pu,aj hr.pu]
def arh(h:Az P L){w sv:AV}{sl:List dl}(hv:fb v l)(hlen:∀a,a∈l->a.Pw)(nI:l.length<=1500000)(hs:jP sv sl)(Ir:∀s,s∈sl->TY s)(hw:jv w pl)(DK:∀p,p∈pl->alr p)(ho:bw ov ol)(nL:∀s,s∈ol->s.length<9223372036854775808):
  ah P L 366 [v,.agg [sv,w,aa fr],ov] (.bool ycO):=by
 have ea:=h.aDa;have⟨r,e0,hr⟩:=aFy h.aFR hv nI;have ef:=aFB h.ab0 h.f.Ai fr;have os:=hs.one;have ow:=hw.one;have ps:=hs.pu;have pw:=hw.pu;have d1:∀a b c:AV,xK 1 [a,b,c]=[b,c]:=fun _ _ _=>rfl
 have d2:∀a b c:AV,xK 2 [a,b,c]=[c]:=fun _ _ _=>rfl
 unfold ah at ea e0 ef ⊢;rw[aB h.aFS];show fp [.t 6] (D P L bI.body ⟨[(0,v),(1,.agg [sv,w,aa fr]),(2,ov)],[],0,0⟩)=_
 rw[SK 2 (c:=bI.body) (by refine⟨rfl,rfl,?_⟩;show _=_;rfl)]
 have bad:∀{tm:Env} {hp:Hp} {ct:Nat},D P L (jh 2 bI.body) ⟨[(0,v),(1,.agg [sv,w,aa fr]),(2,ov)],[],0,0⟩=Ix (.ret,⟨tm,hp,ct,0⟩)->ab tm 6=.bool ycO->fp [.t 6] (ju P L (D P L (jh 2 bI.body) ⟨[(0,v),(1,.agg [sv,w,aa fr]),(2,ov)],[],0,0⟩) (bU 2 bI.body))=Ix (.bool ycO):=fun e t6=>by
  rw[e];simp only[go_sem,t6]
 by_cases n1:l.length=0
 .exact bad (by simp only[go_sem,ya,yb,bI,jh,aX,aA,os,ow,ps,pw,aG,yd,hv.len,hv.af,e0,ea,show (l.length:Int)=0 by lia,yM,yo]<;>rfl) rfl
 by_cases n2:2<l.length
 .exact bad (by simp only[go_sem,ya,yb,bI,jh,aX,aA,os,ow,ps,pw,aG,yd,hv.len,hv.af,e0,ea,show ¬(l.length:Int)=0 by lia,show (2:Int)<l.length by lia,yM,yo,yp]<;>rfl) rfl
 by_cases n3:sl.length=0
 .exact bad (by simp only[go_sem,ya,yb,bI,jh,aX,aA,os,ow,ps,pw,aG,aZ,yd,yh,Ap,hv.len,hv.af,hs.len,e0,ea,show ¬(l.length:Int)=0 by lia,show ¬(2:Int)<l.length by lia,show (sl.length:Int)=0 by lia,yM,yo,yp]<;>rfl) rfl
 by_cases n4:2<sl.length
 .exact bad (by simp only[go_sem,ya,yb,bI,jh,aX,aA,os,ow,ps,pw,aG,aZ,yd,yh,Ap,hv.len,hv.af,hs.len,e0,ea,show ¬(l.length:Int)=0 by lia,show ¬(2:Int)<l.length by lia,show ¬(sl.length:Int)=0 by lia,show (2:Int)<sl.length by lia,yM,yo,yp]<;>rfl) rfl
 by_cases n5:pl.length=0
 .exact bad (by simp only[go_sem,ya,yb,bI,jh,aX,aA,os,ow,ps,pw,aG,aZ,yd,yh,d1,Ap,hv.len,hv.af,hs.len,hw.len,e0,ea,show ¬(l.length:Int)=0 by lia,show ¬(2:Int)<l.length by lia,show ¬(sl.length:Int)=0 by lia,show ¬(2:Int)<sl.length by lia,show (pl.length:Int)=0 by lia,yM,yo,yp]<;>rfl) rfl
 by_cases n6:3<pl.length
 .exact bad (by simp only[go_sem,ya,yb,bI,jh,aX,aA,os,ow,ps,pw,aG,aZ,yd,yh,d1,Ap,hv.len,hv.af,hs.len,hw.len,e0,ea,show ¬(l.length:Int)=0 by lia,show ¬(2:Int)<l.length by lia,show ¬(sl.length:Int)=0 by lia,show ¬(2:Int)<sl.length by lia,show ¬(pl.length:Int)=0 by lia,show (3:Int)<pl.length by lia,yM,yo,yp]<;>rfl) rfl
 by_cases n7:nm fr=0
 .rw [n7] at ef;by_cases n8:100<fr
  .exact bad (by simp only[go_sem,ya,yb,bI,jh,aX,aA,os,ow,ps,pw,aG,aZ,yd,yh,d1,d2,Ap,hv.len,hv.af,hs.len,hw.len,e0,ea,ef,show ¬(l.length:Int)=0 by lia,show ¬(2:Int)<l.length by lia,show ¬(sl.length:Int)=0 by lia,show ¬(2:Int)<sl.length by lia,show ¬(pl.length:Int)=0 by lia,show ¬(3:Int)<pl.length by lia,n8,yM,yo,yp]<;>rfl) rfl
  by_cases n9:fr< -100
  .exact bad (by simp only[go_sem,ya,yb,bI,jh,aX,aA,os,ow,ps,pw,aG,aZ,yd,yh,d1,d2,Ap,hv.len,hv.af,hs.len,hw.len,e0,ea,ef,show ¬(l.length:Int)=0 by lia,show ¬(2:Int)<l.length by lia,show ¬(sl.length:Int)=0 by lia,show ¬(2:Int)<sl.length by lia,show ¬(pl.length:Int)=0 by lia,show ¬(3:Int)<pl.length by lia,n8,n9,yM,yo,yp]<;>rfl) rfl
  have nF:∀{tm:Env},D P L (jh 2 bI.body) ⟨[(0,v),(1,.agg [sv,w,aa fr]),(2,ov)],[],0,0⟩=Ix (.normal,⟨tm,[(0,.cells ycO ycO ycO 3 [sv,w,aa fr])],1,0⟩)->ab tm 0=v->ab tm 2=ov->ab tm 4=.ptr 0 0->ab tm 7=shut r->fp [.t 6] (ju P L (D P L (jh 2 bI.body) ⟨[(0,v),(1,.agg [sv,w,aa fr]),(2,ov)],[],0,0⟩) (bU 2 bI.body))=Ix (.bool ycO):=fun e t0 t2 t4 t7=>by
   rw[e,il];exact aFX h hv hlen hr hs Ir hw DK ho nL (by lia) (by lia) (by lia) (by lia) (by lia) (by lia) n7 (by lia) (by lia) t0 t2 t4 t7
  exact nF (by simp only[go_sem,ya,yb,bI,jh,aX,aA,os,ow,ps,pw,aG,aZ,yd,yh,d1,d2,Ap,hv.len,hv.af,hs.len,hw.len,e0,ea,ef,show ¬(l.length:Int)=0 by lia,show ¬(2:Int)<l.length by lia,show ¬(sl.length:Int)=0 by lia,show ¬(2:Int)<sl.length by lia,show ¬(pl.length:Int)=0 by lia,show ¬(3:Int)<pl.length by lia,n8,n9,yM,yo,yp]<;>rfl) rfl rfl rfl rfl
 .exact bad (by simp only[go_sem,ya,yb,bI,jh,aX,aA,os,ow,ps,pw,aG,aZ,yd,yh,d1,d2,Ap,hv.len,hv.af,hs.len,hw.len,e0,ea,ef,n7,show ¬(l.length:Int)=0 by lia,show ¬(2:Int)<l.length by lia,show ¬(sl.length:Int)=0 by lia,show ¬(2:Int)<sl.length by lia,show ¬(pl.length:Int)=0 by lia,show ¬(3:Int)<pl.length by lia,yM,yQ,yp]<;>rfl) rfl
end
abbrev El:List Ty:=[.sl Tb,aCH,alt]
def aqu{P:aJ}{L:Lib}(h:Az P L){ls:List (List AV)}(hs:bZ iX El ls)(hB:∀x k cs,(EO El ls).head? =Ix (.aF x k cs)->k<=1048576):ah P L 366 (EO El ls) (.bool ycO):=by
 obtain⟨_,_,_,rfl,h1,h2,h3⟩:=aAm hs;obtain⟨v,m,rfl,hv,hm⟩:=axL h1;obtain⟨_,_,rfl,k1,_,_,rfl,k2,_,_,rfl,⟨fr,rfl,_⟩,rfl⟩:=h2;obtain⟨sv,sl,rfl,hsv,sQ⟩:=axP k1;obtain⟨w,pl,rfl,hw,fR⟩:=axM k2;obtain⟨ov,ol,rfl,ho,nL⟩:=avr h3;have hl:m.length<=1500000:=by
  rcases hv.1.1 with ⟨_,e⟩ | ⟨b,e⟩
  .have:=congrArg tK e
   simp only[yg,yI] at this
   lia
  .have:=hB b (m.map Lay.cs).length (m.map Lay.cs).flatten (by rw[<-e];rfl)
   rw[yg] at this
   lia
 exact arh h hv hm hl hsv sQ hw fR ho nL
namespace J2
open Go Go.Proofs
def T:List (Tr cK):=[.n 1 [.o 7 [] (.bool ycO)] .l .l]
def L0:VE.Lib:=ZE VE.a8 99 SJ
def L1:VE.Lib:=Up L0 T 1000
def nu:Nu VE.prog VE.a8:=by
 repeat' (first | rfl | constructor)
def lw:Az VE.prog L1:=by
 repeat' (first | rfl | constructor)
section
variable {W:World}{m:Int}(hm:W.cell? ⟨1,0,none⟩=Ix (.int .i64 m))(ht:Go.Lib.TabIs Tryz.prog W "internal/strconv.uint64pow10" .u64 Go.Lib.pow10Tab)
include hm ht
theorem linked:jq ((J1.O W).CK L1):=by
 have hO:=J1.awg hm ht;have hs:=asJ hO nu rfl rfl rfl ⟨rfl,rfl,rfl⟩ (fn:=Tryz.f201) (c:=Fg) Tryz.func201 rfl rfl trivial auX;have hT:iv (J1.O W) T:=iv.cons (Tr.oe (pg.one (VK1.holds hO rfl rfl)) Tr.mI Tr.mI) iv.nil;exact ain (asK hO hs) hT 1000
theorem law{ls:List (List AV)}(hs:bZ iX El ls)(hB:∀x k cs,(EO El ls).head? =Ix (.aF x k cs)->k<=1048576):fF (J1.O W) 366 (EO El ls) (.bool ycO):=by
 obtain⟨k,hk⟩:=ajr (aqu lw hs hB);exact sound (linked hm ht) hk
end
end J2
section
open Go
def ayi{H:Type}{P:Program}{n:Nat}{t e:TypeId}{d:DataW H}{k:Nat}{cs:List AV}(hu:P.underlying t=Ix (.slice e))(h:nt P (n+1) t d=.aF x k cs):∃el sp,d=.slice el sp/\k=el.length:=by
 unfold nt at h;rw[hu] at h;simp only at h
 cases d with
 | slice el sp=>
  simp only[cI,hu,List.headD_cons,AV.aF.injEq] at h;exact⟨el,sp,rfl,h.2.1.symm⟩
 | nil=>simp[cI,hu] at h
 | lit l=>cases l<;>simp[cI,hu] at h
 | ptr d=>simp[cI,hu] at h
 | agg parts=>simp[cI,hu] at h
 | iface t d=>simp[cI,hu] at h
 | map entries=>simp[cI,hu] at h
 | held hh=>simp[cI,hu] at h
end
end VE
