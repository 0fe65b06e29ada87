import Derived.Test.YtmacbdacedfedaaGreatDoorUat
import Derived.Test.YtmacbdacedfedaaGreatDoorUar
set_option linter.all false
set_option maxRecDepth 100000
open Bool renaming not_false->yZ,not_true->yY
open Go.FloatKind renaming f32->ycw
open Int renaming toNat_natCast->xh
open List renaming drop_zero->yf,length_map->yS,map_congr_left->vY,map_map->tz,mem_cons->xy,mem_cons_of_mem->xM,mem_cons_self->wA,mem_map->wJ,mem_range->wW
open Nat renaming le_refl->yp,le_trans->xo,mul_le_mul->xf,mul_one->ym,reduceAdd->yb,reduceEqDiff->ya,reduceLT->yx,reduceLeDiff->yi
open Rat renaming mul_comm->yaC
open Bool renaming true->ydb
namespace VE
open Go (IntKind)
variable {P:aE}{L:Lib}
noncomputable def zO(b:Bool)(F:List (List Nat))(l:Rat)(C S n:Nat):List nl:=(List.range n).map fun i=>(RT (bH (cX (iy b (fM F C S i) l) S) (S*S)/mi b F l C S i),RT (bH (cY (iy b (fM F C S i) l) S) (S*S)/mi b F l C S i))
def axR(b:Bool)(F:List (List Nat))(l:Rat)(C S n:Nat):iV (.ap false n (n8 b F l C S n)) (zO b F l C S n):=by
 have hk:∀q,q∈(zO b F l C S n).map zJ->q.length=2:=fun q hq=>by
  obtain⟨t,_,rfl⟩:=wJ.1 hq;rfl
 have:=aeD (k:=2) (ps:=(zO b F l C S n).map zJ) false hk
 have e:((zO b F l C S n).map zJ).flatten=n8 b F l C S n:=by
  unfold zO n8;rw[tz];rfl
 rw[e,yS,show (zO b F l C S n).length=n by simp[zO]] at this;exact this
def aCT(h:NR P L)(azK:Has P L 771 Mm){v:AV}{F:List (List Nat)}{C R S:Nat}{b:Bool}{l:Rat}(hv:cC dD v F)(hF:gh F (R*S) (C*S))(hC:C<=8)(hR:R<=8)(hS:S<=8)(fF:0<S)(h0:0<C*R)(kl:Hq 2400 l):
  ((∃i,i<C*R/\mi b F l C S i<=0)/\ab P L 771 [.agg [aa C,aa R,aa S],v,.str (RT l),.bool b] (.av [.ah,aa 6]))\/((∀j,j<C*R->¬mi b F l C S j<=0)/\∃w,ab P L 771 [.agg [aa C,aa R,aa S],v,.str (RT l),.bool b] (.av [w,aa 0])/\iV (bI w) (zO b F l C S (C*R))):=by
 have key:=axQ (b:=b) h hv hF hC hR hS fF kl;have Gj:=axR b F l C S (C*R);obtain⟨o1,o2,o3⟩:=V6 b F l C S (C*R);unfold ab;rw[aD azK];simp only[go_sem,yb,Mm,jN];generalize hq:D P L (.loop _ Hc) _=q;obtain⟨ex,st,rfl,hh⟩:=bL hq (key (C*R)) ⟨0,by omega,fun j hj=>by omega,by simp only[go_sem,ya,yb,ax,Ao,lj,oB,bB,da,aG hv.pu]<;>rfl⟩
 rcases hh with ⟨hex,rfl,t8,t9⟩ | ⟨iY,rfl,tm,ct,rfl,t10⟩
 .left
  refine⟨hex,?_⟩;simp only[go_sem,t8,t9]
 .right
  refine⟨iY,?_⟩;obtain⟨n,hn⟩:∃n,C*R=n+1:=⟨C*R-1,by omega⟩;rw[hn] at t10 Gj o1 o2 ⊢;simp only[go_sem,ya,yb,ax,t10,oB,lj]
  exact⟨_,alC (hg:=by simp only[go_sem]<;>rfl) o1 (by decide),Gj⟩
def JJ(q:Rat×Rat):nl:=(RT q.1,RT q.2)
def Ef(l:List (Rat×Rat)):Bool:=l.any fun q=>LG q.1||LG q.2
def kR(b:Int)(l:List (Rat×Rat)):Int:=if b=0 then (if Ef l=ydb then 4 else 0) else b
def aq8(b:Int)(l:List (Rat×Rat))(q:Rat×Rat):(if kR b l=0 then (if [q.1,q.2].any LG=ydb then (4:Int) else 0) else kR b l)=kR b (l++[q]):=by
 have e1:[q.1,q.2].any LG=(LG q.1||LG q.2):=by simp
 have e2:Ef (l++[q])=(Ef l||(LG q.1||LG q.2)):=by simp[Ef]
 unfold kR;rw[e1,e2];by_cases hb:b=0
 .rw [yC hb,yC hb];cases Ef l<;>cases LG q.1<;>cases LG q.2<;>simp
 .rw [yr hb,yr hb,yr hb]
def axS(h:Rl P L)(oN:Has P L 768 Fp){v w:AV}{l:List (Rat×Rat)}{e b:Int}{K:Nat}(pv:aW v=ydb)(hw:iV w (l.map JJ))(hl:l.length<=1000000)(hk:∀q,q∈l->Hq K q.1/\Hq K q.2)(hK:K<=4000000000):
  c6 P L [0,1,2,3,11,12,13] K6 (fun d st=>∃i,i+d=l.length/\st=⟨[(0,v),(1,aa e),(2,aa (kR b (l.take i))),(3,w),(11,w),(12,aa l.length),(13,aa i)],[],0,0⟩) (fun ex s'=>∃tm ct,s'=⟨tm,[],ct,0⟩/\ex=.exit 0/\bc tm [0,1,2,3]=[(0,v),(1,aa e),(2,aa (kR b l)),(3,w)]):=by
 apply c9;rintro d st ⟨i,hid,rfl⟩;by_cases hi:i<l.length
 .left
  obtain⟨r,e0⟩:=hw.bk (i:=i) (by rw[yS];exact hi)
  rw[List.getElem_map] at e0;obtain⟨k1,k2⟩:=hk _ (List.getElem_mem hi);have e1:=aCC h oN (b:=kR b (l.take i)) (w:=.ap ydb 2 [.str (RT l[i].1),.str (RT l[i].2)]) (l:=[l[i].1,l[i].2]) (Kw ydb [RT l[i].1,RT l[i].2]) (by simp) (fun x hx=>by
   rcases xy.1 hx with rfl | hx
   .exact k1
   .rw [List.mem_singleton.1 hx];exact k2) hK
  rw[aq8,<-List.take_succ_eq_append_getElem hi] at e1;have w5:IntKind.wrap .i64 ((i:Int)+1)=((i+1:Nat):Int):=wrap64 (by omega) (by omega);have ld2:∀(hp:Hp) (a b:AV) (r:List AV),gn hp 2 ydb (.bC (a::b::r))=some (.agg [a,b]):=fun _ _ _ _=>rfl
  have jW:∀ct,zc ct 2 [.str [],.str []]=some (.ptr ct 0,.cells ydb ydb ydb 2 [.str [],.str []]):=fun _=>rfl
  have aR:∀(hp:Hp) (ct id:Nat) (a b:List Nat),gD hp ct id 0 2 [.str a,.str b] (some (.cells ydb ydb ydb 2 [.str [],.str []]))=some (.av [],aU hp id (.cells ydb ydb ydb 2 [.str a,.str b]),ct):=fun _ _ _ _ _=>rfl
  have pr:JJ l[i]=(RT l[i].1,RT l[i].2):=rfl;rw[pr] at e0;simp only at e0;generalize RT l[i].1=x1 at*
  generalize RT l[i].2=x2 at*
  have lO:∀(hp:Hp) (tm:Env),fC hp (.ar 2 1) (.bC [.str x1,.str x2]) tm none none=some (.ap ydb 2 [.str x1,.str x2]):=fun _ _=>rfl
  have jv:∀(hp:Hp) (n:Nat),freeze (n+20) hp (.ap ydb 2 [.str x1,.str x2])=some (.ap ydb 2 [.str x1,.str x2],hp):=fun hp n=>(Kw ydb [x1,x2]).aj (n+19)
  unfold ab at e1;simp only[go_sem,ya,yb,K6,lO,jv,show (i:Int)<l.length by omega,e0,ld2,jW,aR,yf,e1,w5];refine⟨_,d-1,rfl,by omega,i+1,by omega,?_⟩;simp only[go_sem,ya,ax,aG pv,aG hw.pu]<;>rfl
 .right
  have cG:i=l.length:=by omega
  subst cG;simp only[go_sem,ya,K6,show ¬(l.length:Int)<l.length by omega];refine⟨_,_,rfl,by simp,_,_,rfl,rfl,?_⟩;rw[List.take_length];simp only[go_sem,ya]<;>rfl
def MP(h:Rl P L)(pZ:Has P L 659 HH)(oN:Has P L 768 Fp)(AF:Has P L 772 Ml){v w:AV}{m:List nl}{l:List (Rat×Rat)}{e b:Int}{K:Nat}(hv:iV v m)(hw:iV w (l.map JJ))(hl:l.length<=1000000)(hk:∀q,q∈l->Hq K q.1/\Hq K q.2)(hK:K<=4000000000)(he:e=kR b l)(hm:m=if kR b l=0 then l.map JJ else []):
  ab P L 772 [v,aa e,aa b,w] (.bool ydb):=by
 have key:=axS (P:=P) (L:=L) (e:=e) (b:=b) h oN hv.pu hw hl hk hK;have hlen:∀hp,jo hp 1 w=some (.int .i64 (l.length:Nat)):=fun hp=>by have:=hw.len (hp:=hp);rwa[yS] at this
 have pb0:kR b (l.take 0)=b:=by
  unfold kR Ef;by_cases c:b=0
  .rw [yC c,c];simp
  .rw [yr c]
 unfold ab;rw[aD AF];simp only[go_sem,ya,Ml,hlen];generalize hq:D P L (.loop _ K6) _=q;obtain⟨ex,st,rfl,tm,ct,rfl,rfl,lX⟩:=bL hq (key l.length) ⟨0,by omega,by
  rw[pb0]
  simp only[go_sem,ya,ax,aG hv.pu,aG hw.pu]<;>rfl⟩
 have hc:bn [0,1,2,3] ⟨tm,[],ct,0⟩=⟨[(0,v),(1,aa e),(2,aa (kR b l)),(3,w)],[],0,0⟩:=by
  refine Eq.trans (NX (c':=ct) (tm':=[(0,v),(1,aa e),(2,aa (kR b l)),(3,w)]) (by rw[lX];rfl)) ?_
  simp only[go_sem,ya,ax,aG hv.pu,aG hw.pu]<;>rfl
 rw[<-he] at hm hc;by_cases c:e=0
 .rw [yC c] at hm;subst hm;have e1:=aiR (P:=P) (L:=L) pZ hv hw (by rw[yS];exact hl)
  unfold ab at e1;subst c;simp only[go_sem,ya,hc,hv.aj,hw.aj,e1,yY,yI]
 .rw [yr c] at hm;subst hm;have hn:iV .ah []:=zW;have e1:=aiR (P:=P) (L:=L) pZ hv hn (by simp);unfold ab at e1;simp only[go_sem,ya,hc,hv.aj,hn.aj,e1,c]
def P2{f g:Nat->Rat}:∀{n:Nat},(∀t,t<n->f t=g t)->bH f n=bH g n
 | 0,_=>rfl
 | n+1,h=>by
  show bH f n+f n=bH g n+g n
  rw[P2 fun t ht=>h t (by omega),h n (by omega)]
def axT(F:List (List Nat))(C R S:Nat):qQ F C S (C*R)=nY F C R S:=by
 unfold qQ nY;refine vY fun k _=>?_
 rw[<-P0 (fM F C S k) S];rfl
def lF(b:Bool)(l:Rat):Option Rat:=match b with
 | true=>some l
 | false=>none
def Vy(b:Bool)(F:List (List Nat))(l:Rat)(C S i k r:Nat):iy b (fM F C S i) l k r=jz F (lF b l) (i%C*S+k) (i/C*S+r):=by cases b<;>rfl
def P3(b:Bool)(F:List (List Nat))(l:Rat)(C S i:Nat):mi b F l C S i=bH (iM (jz F (lF b l)) (i%C) (i/C) S) (S*S):=by
 unfold mi;rw[<-P0 (iy b (fM F C S i) l) S];exact P2 fun t _=>Vy b F l C S i (t%S) (t/S)
def ahf(b:Bool)(F:List (List Nat))(l:Rat)(C S i:Nat):bH (cX (iy b (fM F C S i) l) S) (S*S)=bH (A3 (jz F (lF b l)) (i%C) (i/C) S) (S*S):=P2 fun t _=>by
 unfold cX A3 iM;rw[Vy,yaC]
def ahg(b:Bool)(F:List (List Nat))(l:Rat)(C S i:Nat):bH (cY (iy b (fM F C S i) l) S) (S*S)=bH (A4 (jz F (lF b l)) (i%C) (i/C) S) (S*S):=P2 fun t _=>by
 unfold cY A4 iM;rw[Vy,yaC]
def axU(b:Bool)(F:List (List Nat))(l:Rat)(C R S:Nat):zO b F l C S (C*R)=(gS (jz F (lF b l)) C R S).map D8:=by
 unfold zO gS;rw[tz];refine vY fun i _=>?_
 rw[ahf,ahg,P3];rfl
def axV(b:Bool)(F:List (List Nat))(l:Rat)(C R S:Nat):zO b F l C S (C*R)=((gS (jz F (lF b l)) C R S).map kQ).map JJ:=by
 rw[axU,tz];rfl
def afE(b:Bool)(F:List (List Nat))(l:Rat)(C R S:Nat):((gS (jz F (lF b l)) C R S).any fun t=>decide (t.1<=0))=ydb↔∃i,i<C*R/\mi b F l C S i<=0:=by
 rw[List.any_eq_true];constructor
 .rintro ⟨t,ht,h⟩;obtain⟨i,hi,rfl⟩:=wJ.1 ht;refine⟨i,wW.1 hi,?_⟩;rw[P3];exact of_decide_eq_true h
 .rintro ⟨i,hi,h⟩;refine⟨_,wJ.2 ⟨i,wW.2 hi,rfl⟩,?_⟩;rw[P3] at h;exact xk h
def axW(ts:List MT):nW ts=(if (ts.any fun t=>decide (t.1<=0))=ydb then 6 else kR 0 (ts.map kQ)):=by
 unfold nW kR
 have:Ef (ts.map kQ)=ts.any zK:=by
  unfold Ef;rw[List.any_map];rfl
 rw[this,yC rfl]
section
variable {F:List (List Nat)}
def aeQ{f:Nat->Rat}{u:Rat}{B:Nat}:∀{n:Nat},(∀t,t<n->∃z:Int,f t=(z:Rat)*u/\z.natAbs<=B)->∃z:Int,bH f n=(z:Rat)*u/\z.natAbs<=n*B
 | 0,_=>⟨0,by show (0:Rat)=_;rw[Rat.intCast_zero,Rat.zero_mul],by simp⟩
 | n+1,h=>by
  obtain⟨z,e1,h1⟩:=aeQ (n:=n) fun t ht=>h t (by omega)
  obtain⟨y,e2,h2⟩:=h n (by omega);refine⟨z+y,?_,?_⟩
  .show bH f n+f n=_
   rw[e1,e2,Rat.intCast_add,Rat.add_mul]
  .rw [Nat.add_mul,Nat.one_mul]
   have:=Int.natAbs_add_le z y
   omega
def aCU{z:Int}{n:Nat}(a b:Nat)(h:z.natAbs<=n*2^b)(hn:n<=2^a):Hq (a+b+1) (z:Rat):=by
 have h1:z.natAbs<=2^(a+b):=by rw[Nat.pow_add];exact xo h (Nat.mul_le_mul_right _ hn)
 exact UW _ (Nat.lt_of_le_of_lt h1 (Nat.pow_lt_pow_right (by decide) (Nat.lt_succ_self _))) (by omega)
def atV{n m c r:Nat}(h:gh F n m)(hr:r<n)(hc:c<m):∃z:Int,fP F c r=(z:Rat)*p2 (-149)/\z.natAbs<=2^277:=by
 obtain⟨_,_,e,f1,f2⟩:=h.at hr hc;obtain⟨s,M,hb,e2⟩:=Qw f2 f1;have hM:=hb.lt;refine⟨bK s M,by rw[e,e2];rfl,?_⟩
 have hs:(bK s M).natAbs=M:=by cases s<;>simp[bK]
 rw[hs];exact Nat.le_of_lt hM
def atW{C R S k:Nat}(hF:gh F (R*S) (C*S))(hS:S<=8)(hk:k<C*R):LG (bH (iM (fP F) (k%C) (k/C) S) (S*S))=false:=by
 obtain⟨l1,l2⟩:=Ew hk;obtain⟨z,e,hz⟩:=aeQ (f:=iM (fP F) (k%C) (k/C) S) (n:=S*S) (u:=p2 (-149)) (B:=2^277) fun t ht=>by
  obtain⟨q1,q2⟩:=C9 ht;exact atV hF (lL l2 q2) (lL l1 q1)
 have Ge:S*S<=2^6:=xo (xf hS hS) (by decide);have kz:=aCU 6 277 hz Ge;rw[e];exact azk (kz.mul (WG (-149))) (by decide)
def azL{C R S:Nat}(hF:gh F (R*S) (C*S))(hS:S<=8):(nY F C R S).any LG=false:=by
 rw[List.any_eq_false];intro x hx;obtain⟨k,hk,rfl⟩:=wJ.1 hx;rw[atW hF hS (wW.1 hk)];decide
end
def aCV{b:Bool}{F:List (List Nat)}{l:Rat}{C R S:Nat}(hF:gh F (R*S) (C*S))(hS:S<=8)(kl:Hq 2400 l):∀q,q∈(gS (jz F (lF b l)) C R S).map kQ->Hq 400000 q.1/\Hq 400000 q.2:=fun q hq=>by
 obtain⟨t,ht,rfl⟩:=wJ.1 hq;obtain⟨i,hi,rfl⟩:=wJ.1 ht;have hi:=wW.1 hi;have ka:=ahe (b:=b) (V5 (S:=S) hF hi) kl;obtain⟨b1,b2⟩:=WW hS (yp 3000) ka (yp _);have b3:=QA hS (yp 3000) ka;rw[ahf] at b1;rw[ahg] at b2;have e:jO (fb (iy b (fM F C S i) l) S S)=mi b F l C S i:=rfl;rw[e,P3] at b3;exact⟨(b1.div b3).mono (by omega),(b2.div b3).mono (by omega)⟩
def adL(h:NR P L)(pZ:Has P L 659 HH)(oN:Has P L 768 Fp)(lj:Has P L 771 Mm)(AF:Has P L 772 Ml){v v':AV}{F:List (List Nat)}{C R S:Nat}{b:Bool}{l:Rat}(hv:cC dD v F)(hF:gh F (R*S) (C*S))(hC:C<=8)(hR:R<=8)(hS:S<=8)(fF:0<S)(h0:0<C*R)(kl:Hq 2400 l)(eK:iV v' (zL (gS (jz F (lF b l)) C R S))):
  ∃w e,ab P L 771 [.agg [aa C,aa R,aa S],v,.str (RT l),.bool b] (.av [w,aa e])/\(∃m,iV (bI w) m)/\ab P L 772 [v',aa (nW (gS (jz F (lF b l)) C R S)),aa e,bI w] (.bool ydb):=by
 have hlen:((gS (jz F (lF b l)) C R S).map kQ).length<=1000000:=by
  rw[yS,aeF]
  have:=xf hC hR
  omega
 have B7:=axW (gS (jz F (lF b l)) C R S);have hmp:(gS (jz F (lF b l)) C R S).map D8=((gS (jz F (lF b l)) C R S).map kQ).map JJ:=by rw[tz];rfl
 rcases aCT (b:=b) h lj hv hF hC hR hS fF h0 kl with ⟨hex,e1⟩ | ⟨iY,w,e1,hw⟩
 .rw [yC ((afE b F l C R S).2 hex)] at B7;refine⟨_,_,e1,⟨[],zW⟩,?_⟩;have e6:kR 6 []=6:=rfl
  exact MP h.toRl pZ oN AF (l:=[]) (K:=0) eK zW (by simp) (fun q hq=>by cases hq) (by decide) (by rw[B7,e6]) (by
   unfold zL
   rw[B7,e6];rfl)
 .have hn:¬((gS (jz F (lF b l)) C R S).any fun t=>decide (t.1<=0))=ydb:=fun q=>by
   obtain⟨i,hi,hle⟩:=(afE b F l C R S).1 q;exact iY i hi hle
  rw[yr hn] at B7;rw[axV] at hw;refine⟨_,_,e1,⟨_,hw⟩,?_⟩
  exact MP h.toRl pZ oN AF (K:=400000) eK hw hlen (aCV hF hS kl) (by decide) B7 (by
   unfold zL
   rw[B7,hmp])
structure Gt(P:aE)(L:Lib):Prop where
 f:Flx P L
 c:NR P L
 rc:JH P L
 S8:Has P L 29 SC
 YC:Has P L 634 Re
 YD:Has P L 636 Mc
 Sg:Has P L 639 Rg
 pZ:Has P L 659 HH
 Sj:Has P L 755 Dg
 oN:Has P L 768 Fp
 MO:Has P L 769 HM
 zk:Has P L 770 RF
 lj:Has P L 771 Mm
 AF:Has P L 772 Ml
 WX:ab P L 637 [] (.bool ydb)
def aq9(h:Gt P L){C R S:Int}{v:AV}{F:List (List Nat)}{s:List Nat}(hv:cC dD v F)(hn:¬(Gm C R S=ydb/\Cl F=ydb/\s.length<=40)):ab P L 755 [.agg [aa C,aa R,aa S],v,.str s] (.bool ydb):=by
 have ea:=h.WX;have g1:=Yw (P:=P) h.YC C R S;have g2:=Yv (P:=P) (L:=L) h.YD hv;have fz:=lh;unfold ab at ea g1 g2;unfold ab;rw[aD h.Sj]
 cases c1:Gm C R S with
 | false=>
  rw[c1] at g1;simp only[go_sem,ya,yb,Dg,jN,yf,fB,fz,g1,yZ,ea]
 | true=>
  rw[c1] at g1
  cases c2:Cl F with
  | false=>
   rw[c2] at g2;simp only[go_sem,ya,yb,Dg,jN,yf,fB,fz,hv.aj,g1,g2,yZ,yY,ea]
  | true=>
   rw[c2] at g2;have hs:(s.length:Int)>40:=by
    have:¬s.length<=40:=fun q=>hn ⟨c1,c2,q⟩
    omega
   simp only[go_sem,ya,yb,Dg,jN,yf,fB,fz,hv.aj,g1,g2,yY,hs,Kq,ea]
def YE(hp:Hp)(ct id:Nat)(a b c x y z:Int):gD hp ct id 0 3 [aa a,aa b,aa c] (some (.cells ydb ydb ydb 3 [aa x,aa y,aa z]))=some (.av [],aU hp id (.cells ydb ydb ydb 3 [aa a,aa b,aa c]),ct):=rfl
def ara(h:Gt P L){C R S:Int}{v:AV}{F:List (List Nat)}{s:List Nat}(hv:cC dD v F)(hb:∀r,r∈F->∀b,b∈r->b<4294967296)(c1:Gm C R S=ydb)(c2:Cl F=ydb)(c3:s.length<=40)(ib:fe C R S F≠0):ab P L 755 [.agg [aa C,aa R,aa S],v,.str s] (.bool ydb):=by
 have ea:=h.WX;have g1:=Yw (P:=P) h.YC C R S;have g2:=Yv (P:=P) (L:=L) h.YD hv;have fz:=lh;obtain⟨hl,hr⟩:=afz c2;have bg:∀r,r∈F->r.length<=1000000:=fun r hm=>xo (hr r hm) (by decide)
 obtain⟨x,ex,ix,sx⟩:=aiQ (P:=P) (L:=L) h.Sg hv (by omega) bg;obtain⟨w1,e1,i1⟩:=aiP h.f ix (by omega) bg hb (C:=C) (R:=R) (S:=S);obtain⟨w2,e2,i2⟩:=aiN h.f.toCtd ix (by omega) bg hb (C:=C) (R:=R) (S:=S);obtain⟨w3,e3,i3⟩:=aiO h.f.toCtd ix (by omega) bg hb (s:=s) (C:=C) (R:=R) (S:=S) (by omega);have e4:=aiS h.rc hv (by omega) bg (C:=C) (R:=R) (S:=S);have e5:=aiW h.c.toRm h.MO (s:=s) (by omega);have e6:ab P L 647 [.ap ydb 2 [aa (fe C R S F),aa (jd s)]] (aa (b9 [fe C R S F,jd s])):=Yh (P:=P) (L:=L) h.rc.MM (jY ydb [fe C R S F,jd s]) (by simp);have oW:b9 [fe C R S F,jd s]=fe C R S F:=by simp[b9,ib]
 have f1:Ec C R S F=fe C R S F:=by unfold Ec;rw[yr ib]
 have f2:JG C R S F=[]:=by unfold JG;rw[f1,yr ib]
 have f3:JD C R S F=fe C R S F:=by unfold JD;rw[yr ib]
 have f4:JE C R S F=[]:=by unfold JE;rw[yr ib]
 have f5:D9 C R S F s=fe C R S F:=by unfold D9;rw[oW,yr ib]
 have f6:Ea C R S F s=[]:=by unfold Ea;rw[oW,yr ib]
 rw[oW] at e6;rw[f1] at e1;rw[f2] at i1;rw[f3] at e2;rw[f4] at i2;rw[f5] at e3;rw[f6] at i3;rw[c1] at g1;rw[c2] at g2;generalize fe C R S F=bad at*
 have su:kR bad []=bad:=by unfold kR;rw[yr ib]
 have e7:=a29 (P:=P) (L:=L) h.S8 i1 (w:=.ah) po (by simp);have e8:=MP (P:=P) (L:=L) h.c.toRl h.pZ h.oN h.AF (l:=[]) (K:=0) (e:=bad) (b:=bad) i2 zW (by simp) (fun q hq=>by cases hq) (by decide) su.symm (by rw[su,yr ib]);have e9:=MP (P:=P) (L:=L) h.c.toRl h.pZ h.oN h.AF (l:=[]) (K:=0) (e:=bad) (b:=bad) i3 zW (by simp) (fun q hq=>by cases hq) (by decide) su.symm (by rw[su,yr ib]);have hs:¬(s.length:Int)>40:=by omega
 have jv:∀(hp:Hp) (n:Nat) (a b:Int),freeze (n+20) hp (.ap ydb 2 [aa a,aa b])=some (.ap ydb 2 [aa a,aa b],hp):=fun hp n a b=>(jY ydb [a,b]).aj (n+19)
 unfold ab at ea g1 g2 ex e1 e2 e3 e4 e5 e6 e7 e8 e9;unfold ab;rw[aD h.Sj];simp only[go_sem,ya,yb,yx,yi,ym,Dg,jN,yf,fB,fz,hv.aj,g1,g2,yY,hs,Kq,ex,sx,ix.aj,YE,e1,e2,e3,e4,e5,i1.bI,i2.bI,i3.bI,i1.aj,i2.aj,i3.aj,iB,e6,ib,e7,e8,e9,yI,ea]
def arb(h:Gt P L){C R S:Nat}{v:AV}{F:List (List Nat)}{s:List Nat}(hv:cC dD v F)(hb:∀r,r∈F->∀b,b∈r->b<4294967296)(hC:C<=8)(hR:R<=8)(hS:S<=8)(fF:0<S)(h0:0<C*R)(hF:gh F (R*S) (C*S))(c1:Gm C R S=ydb)(c2:Cl F=ydb)(c3:s.length<=40)(ib:fe C R S F=0):ab P L 755 [.agg [aa C,aa R,aa S],v,.str s] (.bool ydb):=by
 have ea:=h.WX;have g1:=Yw (P:=P) h.YC C R S;have g2:=Yv (P:=P) (L:=L) h.YD hv;have fz:=lh;obtain⟨hl,hr⟩:=afz c2;have bg:∀r,r∈F->r.length<=1000000:=fun r hm=>xo (hr r hm) (by decide)
 obtain⟨x,ex,ix,sx⟩:=aiQ (P:=P) (L:=L) h.Sg hv (by omega) bg;obtain⟨w1,e1,i1⟩:=aiP h.f ix (by omega) bg hb (C:=C) (R:=R) (S:=S);obtain⟨w2,e2,i2⟩:=aiN h.f.toCtd ix (by omega) bg hb (C:=C) (R:=R) (S:=S);obtain⟨w3,e3,i3⟩:=aiO h.f.toCtd ix (by omega) bg hb (s:=s) (C:=C) (R:=R) (S:=S) (by omega);have e4:=aiS h.rc hv (by omega) bg (C:=C) (R:=R) (S:=S);have e5:=aiW h.c.toRm h.MO (s:=s) (by omega);have e6:ab P L 647 [.ap ydb 2 [aa (fe C R S F),aa (jd s)]] (aa (b9 [fe C R S F,jd s])):=Yh (P:=P) (L:=L) h.rc.MM (jY ydb [fe C R S F,jd s]) (by simp);have oW:b9 [fe C R S F,jd s]=jd s:=by rw[ib];by_cases c:jd s=0<;>simp[b9,c]
 have f1:Ec C R S F=0:=by
  unfold Ec;rw[yC ib,xh,xh,xh,azL hF hS];rfl
 have f2:JG C R S F=(nY F C R S).map RT:=by unfold JG;rw[f1,yC rfl,xh,xh,xh]
 have f3:JD C R S F=nW (gS (jz F (lF false 0)) C R S):=by unfold JD A7;rw[yC ib,xh,xh,xh];rfl
 have f4:JE C R S F=zL (gS (jz F (lF false 0)) C R S):=by unfold JE A7;rw[yC ib,xh,xh,xh];rfl
 obtain⟨w4,e7,i7⟩:=aCR (P:=P) (L:=L) h.c.toFy h.zk h.c.AE h.c.zj h.c.p6 hv hF hC hR hS fF h0;rw[axT] at i7;rw[f4] at i2;obtain⟨w5,be,e8,⟨_,i8⟩,e9⟩:=adL (b:=false) (l:=0) h.c h.pZ h.oN h.lj h.AF hv hF hC hR hS fF h0 (R4.mono (by decide)) i2;rw[<-f3] at e9;rw[show RT (0:Rat)=[48] from rfl] at e8;rw[f1] at e1;rw[f2] at i1;rw[oW,ib] at e6;rw[ib] at e4;rw[c1] at g1;rw[c2] at g2;have D0:=a29 (P:=P) (L:=L) h.S8 i1 i7 (by rw[yS,GQ];have:=xf hC hR;omega)
 have hs:¬(s.length:Int)>40:=by omega
 have jv:∀(hp:Hp) (n:Nat) (a b:Int),freeze (n+20) hp (.ap ydb 2 [aa a,aa b])=some (.ap ydb 2 [aa a,aa b],hp):=fun hp n a b=>(jY ydb [a,b]).aj (n+19)
 by_cases hz:jd s=0
 .obtain ⟨k1,k2⟩:=aeG hz;have f5:D9 C R S F s=nW (gS (jz F (lF ydb (gZ s))) C R S):=by unfold D9 A7;rw[yC (by rw[oW];exact hz),xh,xh,xh];rfl
  have f6:Ea C R S F s=zL (gS (jz F (lF ydb (gZ s))) C R S):=by unfold Ea A7;rw[yC (by rw[oW];exact hz),xh,xh,xh];rfl
  rw[f6] at i3;obtain⟨w6,bf,NH,⟨_,i11⟩,JK⟩:=adL (b:=ydb) (l:=gZ s) h.c h.pZ h.oN h.lj h.AF hv hF hC hR hS fF h0 (Pw k1 (yp 2400)) i3;rw[<-f5] at JK;rw[<-(O3 k1).1] at NH;rw[hz] at e5 e6;unfold ab at ea g1 g2 ex e1 e2 e3 e4 e5 e6 e7 e8 e9 D0 NH JK;unfold ab;rw[aD h.Sj];simp only[go_sem,ya,yb,yx,yi,ym,Dg,jN,yf,fB,fz,hv.aj,g1,g2,yY,hs,Kq,ex,sx,ix.aj,YE,e1,e2,e3,e4,e5,i1.bI,i2.bI,i3.bI,i1.aj,i2.aj,i3.aj,iB,e6,e7,e8,NH,i7.aj,i8.aj,i11.aj,e9,D0,JK,yI,ea]
 .have f5:D9 C R S F s=jd s:=by unfold D9;rw[oW,yr hz]
  have f6:Ea C R S F s=[]:=by unfold Ea;rw[oW,yr hz]
  rw[f6] at i3;rw[f5] at e3;generalize jd s=z at*
  have su:kR z []=z:=by unfold kR;rw[yr hz]
  have JK:=MP (P:=P) (L:=L) h.c.toRl h.pZ h.oN h.AF (l:=[]) (K:=0) (e:=z) (b:=z) i3 zW (by simp) (fun q hq=>by cases hq) (by decide) su.symm (by rw[su,yr hz]);unfold ab at ea g1 g2 ex e1 e2 e3 e4 e5 e6 e7 e8 e9 D0 JK;unfold ab;rw[aD h.Sj];simp only[go_sem,ya,yb,yx,yi,ym,Dg,jN,yf,fB,fz,hv.aj,g1,g2,yY,hs,Kq,ex,sx,ix.aj,YE,e1,e2,e3,e4,e5,i1.bI,i2.bI,i3.bI,i1.aj,i2.aj,i3.aj,iB,e6,hz,e7,e8,i7.aj,i8.aj,e9,D0,JK,yI,ea]
def als(h:Gt P L){C R S:Int}{v:AV}{F:List (List Nat)}{s:List Nat}(hv:cC dD v F)(hb:∀r,r∈F->∀b,b∈r->b<4294967296):ab P L 755 [.agg [aa C,aa R,aa S],v,.str s] (.bool ydb):=by
 by_cases hg:Gm C R S=ydb/\Cl F=ydb/\s.length<=40
 .obtain ⟨c1,c2,c3⟩:=hg;by_cases ib:fe C R S F=0
  .obtain ⟨g,hF⟩:=PZ ib hb;have hcr:=g.cr;obtain⟨hC,hR,hS,k1,k8,r1,r8,s2,s8⟩:=g;generalize C.toNat=c at*
   generalize R.toNat=r at*
   generalize S.toNat=t at*
   subst hC hR hS;exact arb h hv hb k8 r8 s8 (by omega) hcr hF c1 c2 c3 ib
  .exact ara h hv hb c1 c2 c3 ib
 .exact aq9 h hv hg
abbrev aiY:Ty:=.cat (.int .i64) (.cat (.int .i64) (.cat (.int .i64) .nil))
abbrev Sk:Ty:=.sl (.aw .f32)
abbrev JW:List Ty:=[aiY,.sl Sk,.str]
def arc{l:List AV}(h:nk aiY l):∃c r s:Int,l=[aa c,aa r,aa s]:=by
 obtain⟨_,_,rfl,⟨c,rfl,_⟩,_,_,rfl,⟨r,rfl,_⟩,_,_,rfl,⟨s,rfl,_⟩,rfl⟩:=h;exact⟨c,r,s,rfl⟩
def axX{b:Nat}(h:(Go.Lit.float ycw b).wf=ydb):b<4294967296:=by
 simp only[Go.Lit.wf,vS] at h;exact h
def acC:∀{ps:List (List AV)},(∀p,p∈ps->nk (.aw .f32) p)->∃l:List Nat,l.length=ps.length/\ps.flatten=dQ l/\∀b,b∈l->b<4294967296
 | [],_=>⟨[],rfl,rfl,fun _ h=>by cases h⟩
 | p::ps,h=>by
  obtain⟨b,rfl,hb⟩:=h p wA;obtain⟨l,h1,h2,h3⟩:=acC (ps:=ps) (fun q hq=>h q (xM _ hq));refine⟨b::l,by simp[h1],by simp[h2,dQ],fun q hq=>?_⟩;rcases xy.1 hq with rfl | hq
  .exact axX hb
  .exact h3 q hq
def ard{l:List AV}(h:nk Sk l):∃(v:AV) (m:List Nat),l=[v]/\dD v m/\∀b,b∈m->b<4294967296:=by
 rcases h with rfl | ⟨x,ps,rfl,h⟩
 .exact ⟨_,[],rfl,po,fun _ h=>by cases h⟩
 .obtain ⟨m,h1,h2,h3⟩:=acC h;refine⟨_,m,rfl,?_,h3⟩;rw[h2,<-h1]
  have:=Kr x (dQ m)
  rwa[show (dQ m).length=m.length by simp[dQ]] at this
def adM:∀{ps:List (List AV)},(∀p,p∈ps->nk Sk p)->∃M:List (List Nat),M.length=ps.length/\jr dD ps.flatten M/\∀r,r∈M->∀b,b∈r->b<4294967296
 | [],_=>⟨[],rfl,trivial,fun _ h=>by cases h⟩
 | p::ps,h=>by
  obtain⟨v,m,rfl,hv,hm⟩:=ard (h p wA);obtain⟨M,h1,h2,h3⟩:=adM (ps:=ps) (fun q hq=>h q (xM _ hq))
  exact⟨m::M,by simp[h1],⟨hv,h2⟩,fun q hq=>by
   rcases xy.1 hq with rfl | hq
   .exact hm
   .exact h3 q hq⟩
def atX{l:List AV}(h:nk (.sl Sk) l):∃(v:AV) (M:List (List Nat)),l=[v]/\cC dD v M/\∀r,r∈M->∀b,b∈r->b<4294967296:=by
 rcases h with rfl | ⟨x,ps,rfl,h⟩
 .exact ⟨_,[],rfl,acv,fun _ h=>by cases h⟩
 .obtain ⟨M,h1,h2,h3⟩:=adM h;refine⟨_,M,rfl,?_,h3⟩;rw[<-h1];exact UY x h2
def ali{P:aE}{L:Lib}(h:Gt P L){ls:List (List AV)}(hs:jr nk JW ls):ab P L 755 (LI JW ls) (.bool ydb):=by
 obtain⟨_,_,_,rfl,h1,h2,⟨s,rfl,_⟩⟩:=axf hs;obtain⟨c,r,t,rfl⟩:=arc h1;obtain⟨v,M,rfl,hv,hb⟩:=atX h2;exact als h hv hb
namespace J2
open Go Go.Proofs
def T:List (Tr br):=[.n 637 [.o 7 [] (.bool ydb)] .l .l]
def L0:VE.Lib:=Lj (Lj (Lj VE.aJ 99 Pt) 753 AB) 427 AB
def L1:VE.Lib:=QM L0 T 1000
def nu:Nu VE.prog VE.aJ:=by
 repeat' (first | rfl | constructor)
def lw:Gt VE.prog L1:=by
 repeat' (first | rfl | constructor)
section
variable {W:World}{m:Int}(hm:W.cell? ⟨4,0,none⟩=some (.int .i64 m))(ht:Go.Lib.TabIs Tryz.prog W "internal/strconv.uint64pow10" .u64 Go.Lib.pow10Tab)
include hm ht
theorem linked:iR ((J1.O W).qZ L1):=by
 have hO:=J1.arT hm ht;have hs:=aov hO nu rfl rfl rfl ⟨rfl,rfl,rfl⟩ (fn:=Tryz.f174) (c:=Dq) Tryz.func174 rfl rfl trivial aqF;have hT:iF (J1.O W) T:=iF.cons (Tr.kU (mU.one (lZ.holds hO rfl rfl)) Tr.kh Tr.kh) iF.nil;have h1:=Um hO hs;have h2:=Um h1 (aeC (O:=(J1.O W).qZ _) (n:=753) (fun _ _=>GH Tryz.func152 rfl (by decide)) Tryz.aBU);have h3:=Um h2 (aeC (O:=((J1.O W).qZ _).qZ _) (n:=427) (fun _ _=>GH Tryz.func200 rfl (by decide)) Tryz.R6);exact aea h3 hT 1000
theorem law{ls:List (List AV)}(hs:jr nk JW ls):eG (J1.O W) 755 (LI JW ls) (.bool ydb):=by
 obtain⟨k,hk⟩:=aeZ (ali lw hs);exact sound (linked hm ht) hk
end
end J2
end VE
