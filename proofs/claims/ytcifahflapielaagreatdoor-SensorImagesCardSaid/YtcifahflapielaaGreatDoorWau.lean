import Derived.Test.YtcifahflapielaaGreatDoorWat
import Derived.Test.YtcifahflapielaaGreatDoorWar
set_option linter.all false
set_option maxRecDepth 100000
open Bool renaming and_eq_true->ye,and_self->wj,not_false->xb,not_true->y9
open Int renaming natCast_mul->xk,ofNat_tdiv->vZ
open List renaming all_eq_true->tH,any_append->ybD,cons_append->xh,drop_succ_cons->we,drop_zero->yg,getElem_map->wQ,getElem_mem->xq,length_append->yM,length_cons->yx,length_map->yv,length_nil->yN,map->ta,mem_cons->xx,mem_cons_of_mem->wA,mem_cons_self->wS,mem_map->vI,nil_append->xG,not_mem_nil->xB,range->wi,range_succ->wZ,take_of_length_le->yq
open Nat renaming le_refl->yz,mul_le_mul->xF,mul_one->yi,reduceAdd->yb,reduceEqDiff->ya,reduceLT->yG,reduceLeDiff->yk,reduceMul->xg
open Rat renaming intCast_natCast->yap
open Option renaming some->GW
open Bool renaming true->ycN,false->ycO
namespace VE
open Go (IntKind)
variable {P:aG}{L:Lib}
def asm(h:Qtr P L){u w:Int}(bu: -6000<=u/\u<=6000)(bw: -6000<=w/\w<=6000){N:Nat}(h0:0<N)(hN:N<=256):
  af P L 267 [.str (RT (u:Rat)),.str (RT (u:Rat))] (.str (RT ((u:Rat)*(u:Rat))))/\af P L 267 [.str (RT (w:Rat)),.str (RT (w:Rat))] (.str (RT ((w:Rat)*(w:Rat))))/\af P L 264 [.str (RT ((u:Rat)*(u:Rat))),.str (RT ((w:Rat)*(w:Rat)))] (.str (RT ((u:Rat)*(u:Rat)+(w:Rat)*(w:Rat))))/\
   af P L 265 [aa N] (.str (RT ((N:Int):Rat)))/\af P L 266 [.str (RT ((u:Rat)*(u:Rat)+(w:Rat)*(w:Rat))),.str (RT ((N:Int):Rat))] (.str (RT (((u:Rat)*(u:Rat)+(w:Rat)*(w:Rat))/((N:Nat):Int)))):=by
 have ku:Hq 40 (u:Rat):=iw (by omega);have kw:Hq 40 (w:Rat):=iw (by omega);have kN:Hq 40 ((N:Int):Rat):=iw (by omega);have GP:((N:Int):Rat)≠0:=by
  rw[show ((N:Int):Rat)=(N:Rat) from yap N]
  exact_mod_cast (show N≠0 by omega)
 exact⟨Ax h.toRn ku ku (by decide),Ax h.toRn kw kw (by decide),Ay h.toRp (ku.mul ku) (kw.mul kw) (by decide),MD h.toRm h.r9 (by omega),WG h.toRx ((ku.mul ku).add (kw.mul kw)) kN (by decide) GP⟩
def awJ(h:Imr P L){v w:AV}{t:List (List (Int×Int))}{n i a b:Nat}(hv:br nj v t)(hw:br nk w t)(hT:fK t n 72)(hn:n=2\/n=4)(hi:i<4)(ha:a<n)(hb:b<n){F:Hp}{f:Nat}(fr:zX v w n i a F f)(hf:f=3\/f=4\/f=5\/f=6\/f=7){ws:List AV}(iB:ws.length=b):
  ∃s',D P L HR ⟨fa n i a (rr f ws) b,rh f F ws,rc f ws,0⟩=GW (Ex.normal,s')/\bq [2,3,4,5,6,7,8,9] s'=⟨fa n i a (rr f (ws++[.str (RT (jZ t n i a b))])) (b+1),rh f F (ws++[.str (RT (jZ t n i a b))]),rc f (ws++[.str (RT (jZ t n i a b))]),0⟩:=by
 have bt:=ah1 hT hn hi a b;obtain⟨q1,q2⟩:=ayw (t:=t) (n:=n) (i:=i) a b hn hi;have s1:=mS (f:=lC t n i a b) (n:=n/2) (B:=72) (by decide) (by omega) (fun k l hk hl=>(bt k l hk hl).1) (A:=n/2) (C:=0) (by omega) (by omega) (.inr rfl);have s2:=mS (f:=lD t n i a b) (n:=n/2) (B:=72) (by decide) (by omega) (fun k l hk hl=>(bt k l hk hl).2) (A:=n/2) (C:=0) (by omega) (by omega) (.inr rfl);have hN:n*n*n*n<=256/\0<n*n*n*n:=by rcases hn with rfl | rfl<;>decide
 have h2:n*n<=256:=by rcases hn with rfl | rfl<;>decide
 have h3:n*n*n<=256:=by rcases hn with rfl | rfl<;>decide
 have p2:(n:Int)*(n:Int)=((n*n:Nat):Int):=by rw[xk]
 have p3:((n*n:Nat):Int)*(n:Int)=((n*n*n:Nat):Int):=by rw[xk (n*n)]
 have p4:((n*n*n:Nat):Int)*(n:Int)=((n*n*n*n:Nat):Int):=by rw[xk (n*n*n)]
 have oV:((n:Int).tdiv 2)=((n/2:Nat):Int):=(vZ n 2).symm;have A7:((i:Int).tdiv 2)=((i/2:Nat):Int):=(vZ i 2).symm;have Kq:i/2<=1:=by omega
 have To:n/2<=2:=by omega
 have bk:i/2*(n/2)<=2:=by
  have:i/2*(n/2)<=1*(n/2):=Nat.mul_le_mul_right _ Kq
  omega
 have Oj:((i/2:Nat):Int)*((n/2:Nat):Int)=((i/2*(n/2):Nat):Int):=(xk _ _).symm;have key:=awI h hv hw hT hn hi ha hb (R:=rr f ws) (fr.g1 ws) (fun u z k l=>fr.l0 b ws u z k l) (fun u z k=>fr.l1 b ws u z k);have hz:(AV.str [48])=rT 0:=rfl;have him:jZ t n i a b=(((bm (lC t n i a b) (n/2) (n/2) 0:Int):Rat)*((bm (lC t n i a b) (n/2) (n/2) 0:Int):Rat)+((bm (lD t n i a b) (n/2) (n/2) 0:Int):Rat)*((bm (lD t n i a b) (n/2) (n/2) 0:Int):Rat))/((n*n*n*n:Nat):Int):=by unfold jZ;rw[q1,q2]
 obtain⟨e1,e2,e3,e4,e5⟩:=asm h.toQtr (u:=bm (lC t n i a b) (n/2) (n/2) 0) (w:=bm (lD t n i a b) (n/2) (n/2) 0) (by omega) (by omega) hN.2 hN.1;rw[<-him] at e5;unfold af at e1 e2 e3 e4 e5;have hkz:=fr.l1 b ws 0 0 (i/2*(n/2))
 simp only[go_sem,ya,HR,fa,show (b:Int)<n by omega,hz,dl _ _ _ (show (2:Int)≠0 by decide),oV,A7,Oj,wrap64 (n:=((n/2:Nat):Int)) (by omega) (by omega),wrap64 (n:=((i/2:Nat):Int)) (by omega) (by omega),wrap64 (n:=((i/2*(n/2):Nat):Int)) (by omega) (by omega)];generalize hq:D P L (.loop _ LU) _=q;obtain⟨ex,st,rfl,tm,c',rfl,rfl,cS⟩:=aW hq (key (n/2)) ⟨0,by omega,cO (by simp only[go_sem,ya]<;>rfl) hkz⟩
 simp only[go_sem,ya,cO cS (fr.Tq b ws _ _)];generalize jZ t n i a b=y at*
 generalize bm (lC t n i a b) (n/2) (n/2) 0=u at*
 generalize bm (lD t n i a b) (n/2) (n/2) 0=z at*
 have mk:∀(q:Env) (z:AV),lI q [z] 0 1 [AV.str (RT y)] []=GW [.str (RT y)]:=fun q z=>by rw[Hf (by simp) rfl];rfl
 clear key q1 q2 him
 cases ws with
 | nil=>
  rcases hf with rfl | rfl | rfl | rfl | rfl<;>
  .simp only [go_sem,ya,yb,xg,yG,yk,yi,rF,rT,rr,rh,rc,e1,e2,e3,p2,p3,p4,wrap64 (n:=((n*n:Nat):Int)) (by omega) (by omega),wrap64 (n:=((n*n*n:Nat):Int)) (by omega) (by omega),wrap64 (n:=((n*n*n*n:Nat):Int)) (by omega) (by omega),e4,e5,mk,fM,eO];refine⟨_,rfl,?_⟩;rw[wrap64 (by omega) (by omega)];exact K6 (by simp only[go_sem,ya,yb]<;>rfl) rfl (fr.nw (b+1) _ _ _)
 | cons x ws=>
  simp only[yx] at iB;rcases hf with rfl | rfl | rfl | rfl | rfl<;>
  .simp only [go_sem,ya,yb,yi,rF,rT,rr,rh,rc,e1,e2,e3,p2,p3,p4,wrap64 (n:=((n*n:Nat):Int)) (by omega) (by omega),wrap64 (n:=((n*n*n:Nat):Int)) (by omega) (by omega),wrap64 (n:=((n*n*n*n:Nat):Int)) (by omega) (by omega),e4,e5,mk,fM]
   rw[dK (ex:=ycO) (pu:=ycN) (sz:=1) (by simp only[go_sem,ya]<;>rfl) (by simp) (by omega) (by omega) (by decide) rfl]
   simp only[go_sem,ya,yb];refine⟨_,rfl,?_⟩;rw[wrap64 (by omega) (by omega)];rw[show ws.length+1+1=(ws++[AV.str (RT y)]).length+1 by simp];exact K6 (by simp only[go_sem,ya,yb]<;>rfl) rfl (fr.mr (b+1) _ _ _ _)
def awK(h:Imr P L){v w:AV}{t:List (List (Int×Int))}{n i a:Nat}(hv:br nj v t)(hw:br nk w t)(hT:fK t n 72)(hn:n=2\/n=4)(hi:i<4)(ha:a<n){F:Hp}{f:Nat}(fr:zX v w n i a F f)(hf:f=3\/f=4\/f=5\/f=6\/f=7):
  bP P L [2,3,4,5,6,7,8,9] HR (fun d st=>∃b,b+d=n/\st=⟨fa n i a (rr f ((ez t n i a b).map .str)) b,rh f F ((ez t n i a b).map .str),rc f ((ez t n i a b).map .str),0⟩) (fun ex s'=>∃tm ct,s'=⟨tm,rh f F ((ez t n i a n).map .str),ct,0⟩/\ex=.exit 4/\cu tm [2,3,4,5,6,7,8]=rG n i a (rr f ((ez t n i a n).map .str))):=by
 apply bQ;rintro d st ⟨b,Ch,rfl⟩;by_cases hb:b<n
 .left
  have dd:(ez t n i a (b+1)).map AV.str=(ez t n i a b).map AV.str++[.str (RT (jZ t n i a b))]:=by rw[adr,List.map_append];rfl
  obtain⟨s',q1,q2⟩:=awJ h hv hw hT hn hi ha hb fr hf (ws:=(ez t n i a b).map AV.str) (by rw[yv,EM]);refine⟨s',d-1,q1,by omega,b+1,by omega,?_⟩;rw[dd];exact q2
 .right
  have GN:b=n:=by omega
  subst GN;simp only[go_sem,ya,HR,fa,show ¬(b:Int)<b by omega];exact⟨_,_,rfl,by simp,_,_,rfl,rfl,by simp only[go_sem,ya]<;>rfl⟩
section
variable {v w:AV}{Ds:List (List AV)}{n:Nat}
def awL(h:Imr P L){t:List (List (Int×Int))}{i a:Nat}(hv:br nj v t)(hw:br nk w t)(hT:fK t n 72)(hn:n=2\/n=4)(hi:i<4)(ha:a<n)(hD:gD Ds)(hl:Ds.length=i){C:List AV}(hC:C.length=a):
  ∃s',D P L HS ⟨oI n i a,qH v w (gO Ds C),qF (gO Ds C),0⟩=GW (Ex.normal,s')/\bq [2,3,4,5,6,7] s'=⟨oI n i (a+1),qH v w (gO Ds (C++[.ap ycO n ((ez t n i a n).map .str)])),qF (gO Ds (C++[.ap ycO n ((ez t n i a n).map .str)])),0⟩:=by
 obtain⟨fr,hf⟩:=fr7 (v:=v) (w:=w) n a hD hl hi C;have key:=awK h hv hw hT hn hi ha fr hf;simp only[go_sem,ya,HS,oI,show (a:Int)<n by omega];generalize hq:D P L (.loop _ HR) _=q;obtain⟨ex,st,rfl,tm,c',rfl,rfl,cS⟩:=aW hq (key n) ⟨0,by omega,cO (by simp only[go_sem,ya]<;>rfl) (fr.l2 0 [])⟩
 simp only[go_sem,cO cS (fr.Z2 _)];have iB:((ez t n i a n).map AV.str).length=n:=by rw[yv,EM]
 have fO:cY (.ap ycO n ((ez t n i a n).map AV.str))=ycN:=rfl;generalize (ez t n i a n).map AV.str=ws at*
 clear key hq cS fr hf
 cases ws with
 | nil=>simp at iB;omega
 | cons w' ws=>
  have ON:ws.length+1=n:=iB;have x0:=fun id=>dG id 0 (by decide)
  have x1:=fun id=>dG id 1 (by decide)
  have x2:=fun id=>dG id 2 (by decide)
  have x3:=fun id=>dG id 3 (by decide)
  rcases PQ hD hl hi with ⟨rfl,rfl⟩ | ⟨x,p,rfl,rfl⟩ | ⟨x,p,y,q,rfl,rfl⟩ | ⟨x,p,y,q,z,r,rfl,rfl⟩<;>
  cases C with
  | nil=>
   simp only[go_sem,ya,yb,xg,yG,yk,yi,rG,rr,rh,rc,gO,qH,gB,gC,gN,gP,qF,aJ,fL ycO (show (w'::ws).length=n*1 by rw[iB,yi]) (by decide),x0,x1,x2,x3,we,yg,fM,eO,QZ,Q0,Q1,Q2,ON];refine⟨_,rfl,?_⟩;rw[wrap64 (by omega) (by omega)];simp only[go_sem,ya,yb,ae,xG]<;>rfl
  | cons b C=>
   simp only[yx] at hC;simp only[go_sem,ya,yb,yk,yi,rG,rr,rh,rc,gO,qH,gB,gC,gN,gP,qF,aJ,fL ycO (show (w'::ws).length=(ws.length+1)*1 by simp) (by decide),x0,x1,x2,x3,we,yg,fM]
   rw[dK (ex:=ycO) (pu:=ycN) (sz:=1) (by simp only[go_sem,ya]<;>rfl) (by simp) (by omega) (by omega) (by decide) (by simp only[go_sem])]
   simp only[go_sem,ya,yb,x0,x1,x2,x3,QZ,Q0,Q1,Q2,ON];refine⟨_,rfl,?_⟩;rw[wrap64 (by omega) (by omega)];simp only[go_sem,ya,yb,ae,xh,yM]<;>rfl
def awM(h:Imr P L){t:List (List (Int×Int))}{i:Nat}(hv:br nj v t)(hw:br nk w t)(hT:fK t n 72)(hn:n=2\/n=4)(hi:i<4)(hD:gD Ds)(hl:Ds.length=i):
  bP P L [2,3,4,5,6,7] HS (fun d st=>∃a C,a+d=n/\bi bG C (je t n i a)/\st=⟨oI n i a,qH v w (gO Ds C),qF (gO Ds C),0⟩) (fun ex s'=>∃tm ct C,s'=⟨tm,qH v w (gO Ds C),ct,0⟩/\ex=.exit 2/\bi bG C (je t n i n)/\cu tm [2,3,4,5,6]=nP n i):=by
 apply bQ;rintro d st ⟨a,C,Z1,hC,rfl⟩;have qW:=hC.len;rw[K5] at qW;by_cases ha:a<n
 .left
  obtain⟨s',q1,q2⟩:=awL h hv hw hT hn hi ha hD hl qW;refine⟨s',d-1,q1,by omega,a+1,_,by omega,?_,q2⟩;rw[ads];refine hC.snoc ?_
  have:=K4 ycO (ez t n i a n)
  rwa[EM] at this
 .right
  have GO:a=n:=by omega
  subst GO;simp only[go_sem,ya,HS,oI,show ¬(a:Int)<a by omega];exact⟨_,_,rfl,by simp,_,_,C,rfl,rfl,hC,by simp only[go_sem,ya]<;>rfl⟩
def awN(h:Imr P L){t:List (List (Int×Int))}(hv:br nj v t)(hw:br nk w t)(hT:fK t n 72)(hn:n=2\/n=4):
  bP P L [2,3,4,5,6] LV (fun d st=>∃i Ds,i+d=4/\gD Ds/\bi (fun C i=>bi bG C (je t n i n)) Ds (wi i)/\st=⟨nP n i,if i<4 then qH v w (gO Ds []) else qH v w Ds,if i<4 then qF (gO Ds []) else qF Ds,0⟩) (fun ex s'=>∃tm ct Ds,s'=⟨tm,qH v w Ds,ct,0⟩/\ex=.exit 0/\gD Ds/\bi (fun C i=>bi bG C (je t n i n)) Ds (wi 4)/\ai tm 2=.ptr 0 0/\ai tm 5=.ptr 2 0):=by
 apply bQ;rintro d st ⟨i,Ds,hid,hD,hA,rfl⟩;have hl:=hA.len;rw[List.length_range] at hl;by_cases hi:i<4
 .left
  rw[yK hi,yK hi];have key:=awM h hv hw hT hn hi hD hl;obtain⟨fr,hf⟩:=fr7 (v:=v) (w:=w) n 0 hD hl hi [];simp only[go_sem,ya,LV,nP,show (i:Int)<4 by omega];generalize hq:D P L (.loop _ HS) _=q;obtain⟨ex,st,rfl,tm,c',C,rfl,rfl,hC,cS⟩:=aW hq (key n) ⟨0,[],by omega,trivial,cO (by simp only[go_sem,ya]<;>rfl) fr.l3⟩
  obtain⟨OO,AT⟩:=fr7 (v:=v) (w:=w) n 0 hD hl hi C;have qW:=hC.len;rw[K5] at qW;have Z4:C≠[]:=by rintro rfl;simp at qW;omega
  simp only[go_sem,cO cS (OO.OM i)];simp only[go_sem,ya,nP];refine⟨_,d-1,rfl,by omega,i+1,Ds++[C],by omega,ael hD Z4,?_,?_⟩
  .rw [wZ];exact hA.snoc hC
  .rw [wrap64 (by omega) (by omega)];have hh:(if i+1<4 then qH v w (gO (Ds++[C]) []) else qH v w (Ds++[C]))=qH v w (gO Ds C)/\(if i+1<4 then qF (gO (Ds++[C]) []) else qF (Ds++[C]))=qF (gO Ds C):=by
    by_cases h3:i+1<4
    .rw [yK h3,yK h3,aem hl (by omega)];exact⟨rfl,rfl⟩
    .rw [yI h3,yI h3]
     have:gO Ds C=Ds++[C]:=by
      match Ds,hl with
      | [],hl=>simp at hl;omega
      | [_],hl=>simp at hl;omega
      | [_,_],hl=>simp at hl;omega
      | [_,_,_],_=>rfl
      | _::_::_::_::_,hl=>simp at hl;omega
     rw[this];exact⟨rfl,rfl⟩
   rw[hh.1,hh.2];exact cO (by simp only[go_sem,ya]<;>rfl) (OO.OM (i+1))
 .right
  have h4:i=4:=by omega
  subst h4;rw[yI hi];simp only[go_sem,ya,yG,LV,nP,show ¬((4:Nat):Int)<4 by decide];exact⟨_,_,rfl,by simp,_,_,Ds,rfl,rfl,hD,hA,by simp only[go_sem,ya],by simp only[go_sem,ya]⟩
def ayx(F:Hp)(x0 x1 x2 x3:AV)(p0 p1 p2 p3:List AV):∃au,freeze 1000 ((5,.cells ycN ycN ycO 1 (x3::p3))::(4,.cells ycN ycN ycO 1 (x2::p2))::(3,.cells ycN ycN ycO 1 (x1::p1))::(2,.cells ycN ycN ycO 1 (x0::p0))::F) (.agg [.aq 2 0 (p0.length+1),.aq 3 0 (p1.length+1),.aq 4 0 (p2.length+1),.aq 5 0 (p3.length+1)])=GW (.agg [.ap ycO (p0.length+1) (x0::p0),.ap ycO (p1.length+1) (x1::p1),.ap ycO (p2.length+1) (x2::p2),.ap ycO (p3.length+1) (x3::p3)],au):=by
 have hz:∀(hp:Hp) (x:AV) (p:List AV),kW 0 (p.length+1) (GW (ycO,1,x::p,hp))=GW (.ap ycO (p.length+1) (x::p),hp):=fun _ _ _=>fL ycO (by simp) (by decide)
 have e:∃au,cg 999 ((5,.cells ycN ycN ycO 1 (x3::p3))::(4,.cells ycN ycN ycO 1 (x2::p2))::(3,.cells ycN ycN ycO 1 (x1::p1))::(2,.cells ycN ycN ycO 1 (x0::p0))::F) [.aq 2 0 (p0.length+1),.aq 3 0 (p1.length+1),.aq 4 0 (p2.length+1),.aq 5 0 (p3.length+1)]=GW ([.ap ycO (p0.length+1) (x0::p0),.ap ycO (p1.length+1) (x1::p1),.ap ycO (p2.length+1) (x2::p2),.ap ycO (p3.length+1) (x3::p3)],au):=by
  simp only[go_sem,ya,hz];exact⟨_,rfl⟩
 obtain⟨au,e⟩:=e;refine⟨au,?_⟩;show (match cg 999 _ _ with | some (ck,au)=>GW (AV.agg ck,au) | none=>none)=_
 rw[e]
structure Imf(P:aG)(L:Lib):Prop extends Imr P L,Fy P L where
 Ym:Has P L 795 R5
 Yp:Has P L 796 R6
def aBq(h:Imf P L){s:List (List Int)}(hv:gI v s)(h0:kY [2,4] s=0):
  ∃r,af P L 783 [v] r/\Sw (shut r) (Sx (gS (s.map (ta pz)) s.length s.length) s.length):=by
 obtain⟨hm,fZ⟩:=Qd h0;simp only[xx,xB,vY] at hm;have hn:s.length=2\/s.length=4:=by omega
 obtain⟨f,e1,hf⟩:=aBl h.Ym h.Gg hv (n:=s.length) (by omega) (by omega) (by omega) (by omega) fZ;obtain⟨p,e2,hp⟩:=aBm h.toFy h.Yp hf (n:=s.length) (by omega) (by omega) (by omega) (by omega) fZ;obtain⟨q,e3,Zl⟩:=aBo h.toQtr hp.pq (Q3 rfl fZ) hn;have hT:=aeT (Q3 rfl fZ) (show s.length<=8 by omega);obtain⟨pv,pw,ZU,bk,jP⟩:=hp;obtain⟨qv,qw,ZT,fE,ma⟩:=Zl;have key:=awN h.toImr fE ma hT hn;rw[ZU] at e3;unfold af at e1 e2 e3;unfold af;rw[aF h.aBp];have hb:∀ct,gW ct 4 [AV.ab,.ab,.ab,.ab]=GW (.ptr ct 0,.cells ycN ycN ycN 4 [AV.ab,.ab,.ab,.ab]):=fun _=>rfl
 have A6:∀ct,gW ct 2 [AV.ab,.ab]=GW (.ptr ct 0,.cells ycN ycN ycN 2 [AV.ab,.ab]):=fun _=>rfl
 have fz:∀(n:Nat) (hp:Hp),freeze (n+20) hp (.agg [pv,pw])=GW (.agg [pv,pw],hp):=fun n hp=>cm _ _ (by simp only[go_sem,bk.ak,jP.ak])
 have zL:∀hp ct id,dS hp ct id 0 2 [qv,qw] (GW (.cells ycN ycN ycN 2 [AV.ab,.ab]))=GW (.av [],aY hp id (.cells ycN ycN ycN 2 [qv,qw]),ct):=fun hp ct id=>by
  rw[zn (by rfl) (by simp) (by simp only[bY,fE.one,ma.one,wj])];simp only[aE,fE.pu,ma.pu,wj];rfl
 simp only[go_sem,ya,yb,Xd,hv.len,hv.ak,hb,A6,e1,hf.ak,e2,ZU,fz,e3,ZT,zL];generalize hq:D P L (.loop _ LV) _=q;obtain⟨ex,st,rfl,tm,c',Ds,rfl,rfl,hD,hA,g2,g5⟩:=aW hq (key 4) ⟨0,[],by omega,trivial,by exact (trivial:True),by
  rw[yK (by decide),yK (by decide)]
  simp only[go_sem,ya,yb,ae,nP,gO,qH,gB,gC,gN,gP,qF,aJ]<;>rfl⟩
 obtain⟨x0,p0,x1,p1,x2,p2,x3,p3,rfl⟩:=gD4 hD hA.len;have GQ:∀hp ct id a b c d,dS hp ct id 0 4 [AV.aq 2 0 a,.aq 3 0 b,.aq 4 0 c,.aq 5 0 d] (GW (.cells ycN ycN ycN 4 [AV.ab,.ab,.ab,.ab]))=GW (.av [],aY hp id (.cells ycN ycO ycN 4 [AV.aq 2 0 a,.aq 3 0 b,.aq 4 0 c,.aq 5 0 d]),ct):=fun _ _ _ _ _ _ _=>rfl
 simp only[go_sem,ya,yb,ae,qH,gB,gC,gP,aJ,g2,g5,yg,fW,GQ,cX,cZ];obtain⟨au,hz⟩:=ayx [(1,.cells ycN ycO ycN 4 [AV.aq 2 0 (p0.length+1),.aq 3 0 (p1.length+1),.aq 4 0 (p2.length+1),.aq 5 0 (p3.length+1)]),(0,.cells ycN ycO ycN 4 [AV.aq 2 0 (p0.length+1),.aq 3 0 (p1.length+1),.aq 4 0 (p2.length+1),.aq 5 0 (p3.length+1)])] x0 x1 x2 x3 p0 p1 p2 p3;rw[U9 hz];refine⟨_,rfl,_,_,_,_,a8 _,?_⟩;obtain⟨a0,a1,a2,a3,_⟩:=hA;have w:∀{x:AV} {p:List AV} {i:Nat},bi bG (x::p) (je (gS (s.map (ta pz)) s.length s.length) s.length i s.length)->br bG (.ap ycO (p.length+1) (x::p)) (je (gS (s.map (ta pz)) s.length s.length) s.length i s.length):=fun h=>by
  have:=pG (p:=bG) ycO h
  rw[<-h.len] at this;exact this
 exact⟨w a0,w a1,w a2,w a3,trivial⟩
end
def V4:Hq 40 (0:Rat):=iw (z:=0) (by decide)
noncomputable def sn(m:List (List (List Nat))):Rat:=eF 0 (m.map kD)
def ap0(s:Rat)(l:List Rat):eF s l=s+eF 0 l:=by
 induction l generalizing s with
 | nil=>show s=s+0;rw[Rat.add_zero]
 | cons x l ih=>
  show eF (s+x) l=s+eF (0+x) l
  rw[ih (s+x),ih (0+x),Rat.zero_add,Rat.add_assoc]
def asn(M:List (List (List (List Nat)))):oQ M=eF 0 (M.map sn):=by
 have:∀(M:List (List (List (List Nat)))) (s:Rat),M.foldl (fun s m=>eF s (m.map kD)) s=eF s (M.map sn):=fun M=>by
  induction M with
  | nil=>intro s;rfl
  | cons m M ih=>
   intro s;show M.foldl _ (eF s (m.map kD))=eF (s+sn m) (M.map sn)
   rw[ih,ap0 s (m.map kD)];rfl
 exact this M 0
def ah2{m:List (List (List Nat))}(hl:m.length<=8)(hr:∀r,r∈m->r.length<=8/\∀s,s∈r->cK s=0)(k:Nat):Hq 170100 (eF 0 ((m.map kD).take k)):=(WM V4 hl hr k).mono (by decide)
def agu{m:List (List (List Nat))}(hl:m.length<=8)(hr:∀r,r∈m->r.length<=8/\∀s,s∈r->cK s=0):Hq 170100 (sn m):=by
 have:=ah2 hl hr (m.map kD).length
 rwa[List.take_length] at this
def ayy(Yr:Has P L 355 RP)(a:Rat):af P L 355 [.str (RT a)] (.bool (decide (a=0))):=by
 have:=avF a
 unfold af;rw[aF Yr];simp only[go_sem,ya,RP,mM,this]
def aBr(h:Rp P L)(Gh:Has P L 800 IG){v:AV}{r:List (List Nat)}(hv:bG v r)(hl:r.length<=8)(hc:∀s,s∈r->cK s=0):af P L 800 [v] (.str (RT (kD r))):=by
 have kl:∀x,x∈r.map dM->Hq 2400 x:=fun x hx=>by
  obtain⟨s,hs,rfl⟩:=vI.1 hx;exact pN (hc s hs) (yz 2400)
 have hz:(AV.str [48])=.str (RT 0):=rfl;have key:=fk P L [0,3,4] L9
  (fun d st=>∃i:Nat,i+d=r.length/\st=⟨[(0,v),(3,.str (RT (eF 0 ((r.map dM).take i)))),(4,aa i)],[],0,0⟩)
  (fun ex st=>∃tm ct,st=⟨tm,[],ct,0⟩/\ex=.exit 0/\ai tm 3=.str (RT (kD r))) ?_
 .unfold af;rw[aF Gh];simp only[go_sem,IG,hz];generalize hq:D P L (.loop _ L9) _=q;obtain⟨ex,st,rfl,tm,ct,rfl,rfl,t3⟩:=aW hq (key r.length) ⟨0,by omega,by simp only[go_sem,ya,ae,an hv.pu]<;>rfl⟩
  simp only[go_sem,ae,t3]
 .rintro d st ⟨i,hid,rfl⟩;by_cases hi:i<r.length
  .left
   have e0:=hv.a6 hi;have e1:=Ay h (Qb (K:=2400) (M:=40) V4 kl i) (pN (hc _ (xq hi)) (yz 2400)) (by rw[yv];omega);rw[<-(CQ (hc _ (xq hi))).1] at e1;have e2:eF 0 ((r.map dM).take (i+1))=eF 0 ((r.map dM).take i)+dM r[i]:=by
    rw[KL (by rw[yv];exact hi),wQ]
   unfold af at e1;simp only[go_sem,ya,L9,hv.len,show (i:Int)<r.length by omega,e0,e1];refine⟨_,d-1,rfl,by omega,i+1,by omega,?_⟩;rw[wrap64 (by omega) (by omega),e2];simp only[go_sem,ya,ae,an hv.pu]<;>rfl
  .right
   simp only[go_sem,ya,L9,hv.len,show ¬(i:Int)<r.length by omega];refine⟨_,_,rfl,by simp,_,_,rfl,rfl,?_⟩;rw[yq (by rw[yv];omega)];simp only[go_sem,ya];rfl
def aBs(h:Rp P L)(Gh:Has P L 800 IG)(NJ:Has P L 789 Nj){v:AV}{m:List (List (List Nat))}(hv:br bG v m)(hl:m.length<=8)(hr:∀r,r∈m->r.length<=8/\∀s,s∈r->cK s=0):af P L 789 [v] (.str (RT (sn m))):=by
 have hz:(AV.str [48])=.str (RT 0):=rfl;have key:=fk P L [0,3,4] L2
  (fun d st=>∃i:Nat,i+d=m.length/\st=⟨[(0,v),(3,.str (RT (eF 0 ((m.map kD).take i)))),(4,aa i)],[],0,0⟩)
  (fun ex st=>∃tm ct,st=⟨tm,[],ct,0⟩/\ex=.exit 0/\ai tm 3=.str (RT (sn m))) ?_
 .unfold af;rw[aF NJ];simp only[go_sem,Nj,hz];generalize hq:D P L (.loop _ L2) _=q;obtain⟨ex,st,rfl,tm,ct,rfl,rfl,t3⟩:=aW hq (key m.length) ⟨0,by omega,by simp only[go_sem,ya,ae,an hv.pu]<;>rfl⟩
  simp only[go_sem,ae,t3]
 .rintro d st ⟨i,hid,rfl⟩;by_cases hi:i<m.length
  .left
   obtain⟨w,rest,hw,e0⟩:=hv.a6 hi;obtain⟨q1,q2⟩:=hr _ (xq hi);have e3:=aBr h Gh hw q1 q2;have e1:=Ay h (ah2 hl hr i) (WL q1 q2) (by decide);have e2:eF 0 ((m.map kD).take (i+1))=eF 0 ((m.map kD).take i)+kD m[i]:=by
    rw[KL (by rw[yv];exact hi),wQ]
   unfold af at e1 e3;simp only[go_sem,ya,L2,hv.len,show (i:Int)<m.length by omega,e0,hw.ak,e3,e1];refine⟨_,d-1,rfl,by omega,i+1,by omega,?_⟩;rw[wrap64 (by omega) (by omega),e2];simp only[go_sem,ya,ae,an hv.pu]<;>rfl
  .right
   simp only[go_sem,ya,L2,hv.len,show ¬(i:Int)<m.length by omega];refine⟨_,_,rfl,by simp,_,_,rfl,rfl,?_⟩;rw[yq (by rw[yv];omega)];simp only[go_sem,ya];rfl
def awO(h:Rp P L)(Gh:Has P L 800 IG)(NJ:Has P L 789 Nj){v0 v1 v2 v3:AV}{M:List (List (List (List Nat)))}{n:Nat}(hv:bi (br bG) [v0,v1,v2,v3] M)(hM:∀m,m∈M->m.length<=8/\∀r,r∈m->r.length<=8/\∀s,s∈r->cK s=0):
  bP P L [1,4,5,6] LW (fun d st=>∃i:Nat,i+d=4/\st=⟨[(1,.ptr 0 0),(4,aa n),(5,.str (RT (eF 0 ((M.map sn).take i)))),(6,aa i)],[(0,.cells ycN ycN ycN 4 [v0,v1,v2,v3])],1,0⟩) (fun ex s'=>∃tm ct,s'=⟨tm,[(0,.cells ycN ycN ycN 4 [v0,v1,v2,v3])],ct,0⟩/\ex=.exit 0/\ai tm 1=.ptr 0 0/\ai tm 4=aa n/\ai tm 5=.str (RT (oQ M))):=by
 have hl:M.length=4:=hv.len.symm;apply bQ;rintro d st ⟨i,hid,rfl⟩;have kl:∀x,x∈M.map sn->Hq 170100 x:=fun x hx=>by
  obtain⟨m,hm,rfl⟩:=vI.1 hx;exact agu (hM m hm).1 (hM m hm).2
 by_cases hi:i<4
 .left
  obtain⟨w,e0,hw⟩:=oh hv hi;have hm:M.getD i []∈M:=by rw[getD_at (by omega)];exact xq _
  have e1:=aBs h Gh NJ hw (hM _ hm).1 (hM _ hm).2;have e2:=Ay h (Qb (K:=170100) (M:=40) V4 kl i) (agu (hM _ hm).1 (hM _ hm).2) (by rw[yv];omega);have e3:eF 0 ((M.map sn).take (i+1))=eF 0 ((M.map sn).take i)+sn (M.getD i []):=by
   rw[KL (by rw[yv];omega),wQ,getD_at (by omega)]
  unfold af at e1 e2;simp only[go_sem,ya,LW,show (i:Int)<4 by omega,dG 0 i hi,e0,hw.ak,e1,e2];refine⟨_,d-1,rfl,by omega,i+1,by omega,?_⟩;rw[wrap64 (by omega) (by omega),e3];simp only[go_sem,ya,yb,ae]<;>rfl
 .right
  have h4:i=4:=by omega
  subst h4;simp only[go_sem,ya,LW,show ¬((4:Nat):Int)<4 by decide];refine⟨_,_,rfl,by simp,_,_,rfl,rfl,by simp only[go_sem,ya],by simp only[go_sem,ya],?_⟩;rw[yq (by rw[yv];omega),asn];simp only[go_sem,ya]
section
variable {v0 v1 v2 v3:AV}{n:Nat}
structure Tw(P:aG)(L:Lib):Prop extends Rx P L where
 r9:Has P L 265 FR
 Yr:Has P L 355 RP
 aBt:Has P L 784 Xe
 NJ:Has P L 789 Nj
 Gh:Has P L 800 IG
def Fi(n r c:Nat)(μ:Rat)(R W:AV):Env:=[(1,.ptr 0 0),(4,aa n),(5,.str (RT μ)),(7,R),(8,aa r),(9,W),(10,aa c)]
def K8(n r:Nat)(μ:Rat)(R W:AV):Env:=[(1,.ptr 0 0),(4,aa n),(5,.str (RT μ)),(7,R),(8,aa r),(9,W)]
def Fj(n r:Nat)(μ:Rat)(R:AV):Env:=[(1,.ptr 0 0),(4,aa n),(5,.str (RT μ)),(7,R),(8,aa r)]
def ayz{a b c d m:Rat}:(a+b-(c+d))/m=(a+b-c-d)/m:=by
 have:a+b-(c+d)=a+b-c-d:=by grind
 rw[this]
def aeY(h:Rx P L){a b c d m:Rat}(ka:Hq 2400 a)(kb:Hq 2400 b)(kc:Hq 2400 c)(kd:Hq 2400 d)(km:Hq 800000 m)(h0:m≠0):
  af P L 264 [.str (RT a),.str (RT b)] (.str (RT (a+b)))/\af P L 264 [.str (RT c),.str (RT d)] (.str (RT (c+d)))/\af P L 271 [.str (RT (a+b)),.str (RT (c+d))] (.str (RT (a+b-(c+d))))/\af P L 266 [.str (RT (a+b-(c+d))),.str (RT m)] (.str (RT ((a+b-c-d)/m))):=by
 refine⟨Ay h.toRp ka kb (by decide),Ay h.toRp kc kd (by decide),agd h.toRp (ka.add kb) (kc.add kd) (by decide),?_⟩;rw[<-ayz];exact WG h ((ka.add kb).sub (kc.add kd)) km (by decide) h0
def awP(h:Tw P L){M:List (List (List (List Nat)))}{r c:Nat}{μ:Rat}(hv:bi (br bG) [v0,v1,v2,v3] M)(hM:zW M n)(hn:n<=8)(hr:r<n)(hc:c<n)(h0:μ≠0)(kμ:Hq 800000 μ){o cs:List AV}(eI:cs.length=2*c):
  ∃s',D P L HT ⟨Fi n r c μ (cG 1 o) (ew 1 o c),cl 1 2 [(0,.cells ycN ycN ycN 4 [v0,v1,v2,v3])] o cs,bW 1 o cs,0⟩=GW (Ex.normal,s')/\
   bq [1,4,5,7,8,9,10] s'=⟨Fi n r (c+1) μ (cG 1 o) (ew 1 o (c+1)),cl 1 2 [(0,.cells ycN ycN ycN 4 [v0,v1,v2,v3])] o (cs++sT (Bh M μ r c)),bW 1 o (cs++sT (Bh M μ r c)),0⟩:=by
 have hg:ax (cl 1 2 [(0,.cells ycN ycN ycN 4 [v0,v1,v2,v3])] o cs) 0=GW (.cells ycN ycN ycN 4 [v0,v1,v2,v3]):=by
  cases o<;>cases cs<;>rfl
 obtain⟨w0,y0,z0,u0,a0,b0,d0,k0⟩:=DE hv hM (i:=0) (by decide) hr hc;obtain⟨w1,y1,z1,u1,a1,b1,d1,k1⟩:=DE hv hM (i:=1) (by decide) hr hc;obtain⟨w2,y2,z2,u2,a2,b2,d2,k2⟩:=DE hv hM (i:=2) (by decide) hr hc;obtain⟨w3,y3,z3,u3,a3,b3,d3,k3⟩:=DE hv hM (i:=3) (by decide) hr hc;rw[(CQ k0).1] at d0;rw[(CQ k1).1] at d1;rw[(CQ k2).1] at d2;rw[(CQ k3).1] at d3;have q0:=pN k0 (yz 2400);have q1:=pN k1 (yz 2400);have q2:=pN k2 (yz 2400);have q3:=pN k3 (yz 2400);obtain⟨e1,e2,e3,e4⟩:=aeY h.toRx q0 q2 q1 q3 kμ h0;obtain⟨f1,f2,f3,f4⟩:=aeY h.toRx q0 q1 q2 q3 kμ h0;have DO:∀(tm:Env) (a b:List Nat),lI tm [AV.str [],.str []] 0 2 [.str a,.str b] []=GW [.str a,.str b]:=fun _ _ _=>rfl
 have bL:∀a b:List Nat,cellsOf (.agg [AV.str a,.str b])=[.str a,.str b]:=fun _ _=>rfl
 have Gm:∀(eN pu ex:Bool) (a b:AV),Om 0 1 2 (GW (.cells eN pu ex 2 [a,b]))=GW (1,[a,b]):=fun _ _ _ _ _=>rfl
 have ex:sT (Bh M μ r c)=[.str (RT ((dM (jN M 0 r c)+dM (jN M 2 r c)-dM (jN M 1 r c)-dM (jN M 3 r c))/μ)),.str (RT ((dM (jN M 0 r c)+dM (jN M 1 r c)-dM (jN M 2 r c)-dM (jN M 3 r c))/μ))]:=rfl;rw[ex];unfold af at e1 e2 e3 e4 f1 f2 f3 f4;simp only[go_sem,ya,yb,xg,yk,HT,Fi,show (c:Int)<n by omega,dG 0 0 (by decide),dG 0 1 (by decide),dG 0 2 (by decide),dG 0 3 (by decide),hg,a0,b0,d0,a1,b1,d1,a2,b2,d2,a3,b3,d3,e1,e2,e3,e4,f1,f2,f3,f4,bL,DO,fM,Gm];generalize RT ((dM (jN M 0 r c)+dM (jN M 2 r c)-dM (jN M 1 r c)-dM (jN M 3 r c))/μ)=tx at*
 generalize RT ((dM (jN M 0 r c)+dM (jN M 1 r c)-dM (jN M 2 r c)-dM (jN M 3 r c))/μ)=ty at*
 cases c with
 | zero=>
  have:cs=[]:=List.eq_nil_of_length_eq_zero eI
  subst this;cases o<;>
  .simp only [eM,dc,mR,iX,iY,kv,fI,iU,iV,jg,gk,jB,jC,yb,xG];rw[eO (by decide) (by decide) (by decide) (by decide)];simp only[go_sem,ya,yb];refine⟨_,rfl,?_⟩;rw[wrap64 (by omega) (by omega)];simp only[go_sem,ya,yb,ae]<;>rfl
 | succ c=>
  cases cs with
  | nil=>simp at eI
  | cons b cs=>
   have bL:(b::cs).length=(c+1)*2:=by rw[eI];omega
   cases o<;>
   .simp only [eM,dc,iX,iY,iU,iV,jB,jC,yb,xh]
    rw[dK (ex:=ycO) (pu:=ycN) (sz:=2) (by simp only[go_sem,ya]<;>rfl) bL (by omega) (by omega) (by decide) rfl]
    simp only[go_sem,ya,yb];refine⟨_,rfl,?_⟩;rw[wrap64 (by omega) (by omega)];simp only[go_sem,ya,yb,ae]<;>rfl
def awQ(h:Tw P L){M:List (List (List (List Nat)))}{μ:Rat}(hv:bi (br bG) [v0,v1,v2,v3] M)(hM:zW M n)(hn:n<=8)(h0:μ≠0)(kμ:Hq 800000 μ):
  bP P L [1,4,5,7,8] LX (fun d st=>∃r o,r+d=n/\bi fX o (ni M μ n r)/\st=⟨Fj n r μ (cG 1 o),cl 1 2 [(0,.cells ycN ycN ycN 4 [v0,v1,v2,v3])] o [],bW 1 o [],0⟩) (fun ex s'=>∃tm ct o,s'=⟨tm,cl 1 2 [(0,.cells ycN ycN ycN 4 [v0,v1,v2,v3])] o [],ct,0⟩/\ex=.exit 2/\bi fX o (ni M μ n n)/\ai tm 7=cG 1 o):=by
 apply bQ;rintro d st ⟨r,o,eT,ho,rfl⟩;by_cases hr:r<n
 .left
  have dH:=ho.len;rw[Ag] at dH;have key:=fk P L [1,4,5,7,8,9,10] HT
   (fun d st=>∃c,c+d=n/\st=⟨Fi n r c μ (cG 1 o) (ew 1 o c),cl 1 2 [(0,.cells ycN ycN ycN 4 [v0,v1,v2,v3])] o (jO M μ r c),bW 1 o (jO M μ r c),0⟩)
   (fun ex s'=>∃tm ct,s'=⟨tm,cl 1 2 [(0,.cells ycN ycN ycN 4 [v0,v1,v2,v3])] o (jO M μ r n),ct,0⟩/\ex=.exit 4/\cu tm [1,4,5,7,8,9]=K8 n r μ (cG 1 o) (ew 1 o n)) (by
   rintro d st ⟨c,hcd,rfl⟩;by_cases hc:c<n
   .left
    obtain⟨s',q1,q2⟩:=awP h hv hM hn hr hc h0 kμ (o:=o) (Hb (M:=M) (μ:=μ) (r:=r) c);refine⟨s',d-1,q1,by omega,c+1,by omega,?_⟩;rw[Uy];exact q2
   .right
    have OP:c=n:=by omega
    subst OP;simp only[go_sem,ya,HT,Fi,show ¬(c:Int)<c by omega]
    exact⟨_,_,rfl,by simp,_,_,rfl,rfl,by simp only[go_sem,ya]<;>rfl⟩)
  have Eo:dw [1,4,5,7,8,9,10] (Fi n r 0 μ (cG 1 o) .ab) (cl 1 2 [(0,.cells ycN ycN ycN 4 [v0,v1,v2,v3])] o []) (bW 1 o []):=by
   cases o<;>refine⟨rfl,fun ct=>?_⟩<;>simp only[go_sem,ya,yb,ae,Fi,eM,dc,kv,fI,jg,gk]<;>rfl
  simp only[go_sem,ya,LX,Fj,show (r:Int)<n by omega];generalize hq:D P L (.loop _ HT) _=q;obtain⟨ex,st,rfl,tm,ct,rfl,rfl,cS⟩:=aW hq (key n) ⟨0,by omega,by
   rw[mR]
   exact cO (by simp only[go_sem,ya]<;>rfl) Eo⟩
  have dd:bi fX (o++[.ap ycO n (jO M μ r n)]) (ni M μ n (r+1)):=by
   rw[acr];exact ho.snoc (adu ycO)
  suffices hh:∃s',_=GW (Ex.normal,s')/\bq [1,4,5,7,8] s'=⟨Fj n (r+1) μ (cG 1 (o++[.ap ycO n (jO M μ r n)])),cl 1 2 [(0,.cells ycN ycN ycN 4 [v0,v1,v2,v3])] (o++[.ap ycO n (jO M μ r n)]) [],bW 1 (o++[.ap ycO n (jO M μ r n)]) [],0⟩ by
   obtain⟨s',q1,q2⟩:=hh;exact⟨s',d-1,q1,by omega,r+1,_,by omega,dd,q2⟩
  clear dd;have bL:=Hb (M:=M) (μ:=μ) (r:=r) n;generalize jO M μ r n=cs at*
  obtain⟨n',rfl⟩:∃n',n=n'+1:=⟨n-1,by omega⟩
  cases cs with
  | nil=>simp at bL
  | cons c cs=>
   have BS:(c::cs).length=(n'+1)*2:=by rw[bL];omega
   have qu:dw [1,4,5,7,8,9] (K8 (n'+1) r μ (cG 1 o) (ew 1 o (n'+1))) (cl 1 2 [(0,.cells ycN ycN ycN 4 [v0,v1,v2,v3])] o (c::cs)) (bW 1 o (c::cs)):=by
    cases o<;>refine⟨rfl,fun ct=>?_⟩<;>simp only[go_sem,ya,yb,ae,K8,eM,dc,iX,iY,iU,iV,jB,jC]<;>rfl
   simp only[go_sem,cO cS qu]
   cases o with
   | nil=>
    simp only[go_sem,ya,yb,xg,yG,yk,yi,K8,eM,iX,iU,jB,fL ycO BS (show 0<2 by decide),fM,eO];refine⟨_,rfl,?_⟩;rw[wrap64 (by omega) (by omega)];simp only[go_sem,ya,yb,ae,Fj,xG,dc,fI,gk]<;>rfl
   | cons a o=>
    simp only[yx] at dH;simp only[go_sem,ya,yb,yk,yi,K8,dc,iY,iV,jC,fL ycO BS (show 0<2 by decide),fM]
    rw[dK (ex:=ycO) (pu:=ycN) (sz:=1) (by simp only[go_sem,ya]<;>rfl) (by simp) (by omega) (by omega) (by decide) rfl]
    simp only[go_sem,ya,yb];refine⟨_,rfl,?_⟩;rw[wrap64 (by omega) (by omega)];simp only[go_sem,ya,yb,ae,Fj,xh,fI,gk,yM]<;>rfl
 .right
  have GL:r=n:=by omega
  subst GL;simp only[go_sem,ya,LX,Fj,show ¬(r:Int)<r by omega];exact⟨_,_,rfl,by simp,_,_,o,rfl,rfl,ho,by simp only[go_sem,ya]⟩
def ah3(h:Tw P L){M:List (List (List (List Nat)))}(hv:bi (br bG) [v0,v1,v2,v3] M)(hM:zW M n)(hn:n<=8)(jq:0<n):
  ∃r,af P L 784 [.agg [v0,v1,v2,v3]] (.av [r,aa (if ig M n=0 then 6 else 0)])/\br fX (bA r) (if ig M n=0 then [] else ni M (ig M n) n n):=by
 have hl:M.length=4:=hv.len.symm;obtain⟨p1,p2,p3⟩:=Bg hv;obtain⟨w,e0,hw⟩:=oh hv (i:=0) (by decide);have Be:M.getD 0 []∈M:=by rw[getD_at (by omega)];exact xq _
 have hlen:=fun hp=>hw.len (hp:=hp)
 rw[(hM _ Be).1] at hlen;have jv:∀ct,gW ct 4 [v0,v1,v2,v3]=GW (.ptr ct 0,.cells ycN ycN ycN 4 [v0,v1,v2,v3]):=fun ct=>by rw[aR (n:=4) rfl p3,p1]
 have GR:∀m,m∈M->m.length<=8/\∀r,r∈m->r.length<=8/\∀s,s∈r->cK s=0:=fun m hm=>⟨by rw[(hM m hm).1];exact hn,fun r hr=>⟨by rw[((hM m hm).2 r hr).1];exact hn,((hM m hm).2 r hr).2⟩⟩
 have Yi:=awO h.toRp h.Gh h.NJ (n:=n) hv GR;have hz:(AV.str [48])=.str (RT 0):=rfl;have nt:(n:Int)*(n:Int)=((n*n:Nat):Int):=by rw[xk]
 have od:n*n<=64/\1<=n*n:=⟨xF hn hn,xF jq jq⟩;have GP:(((n*n:Nat):Int):Rat)≠0:=by
  rw[show (((n*n:Nat):Int):Rat)=((n*n:Nat):Rat) from yap _]
  exact_mod_cast (show n*n≠0 by omega)
 have kS:Hq 700000 (oQ M):=by
  have:=MH GR 4 (by omega)
  rw[yq (by omega)] at this;exact this.mono (by decide)
 have kF:=iw (z:=((n*n:Nat):Int)) (by omega);have kμ:Hq 800000 (ig M n):=(kS.div kF).mono (by decide);have e1:=MD h.toRm h.r9 (n:=((n*n:Nat):Int)) (by omega);have e2:af P L 266 [.str (RT (oQ M)),.str (RT (((n*n:Nat):Int):Rat))] (.str (RT (ig M n))):=WG h.toRx kS kF (by decide) GP;have e3:=ayy (P:=P) (L:=L) h.Yr (ig M n);unfold af at e1 e2 e3;unfold af;rw[aF h.aBt];simp only[go_sem,ya,yb,Xe,jv,dG 0 0 (by decide),e0,hlen,hz];generalize hq:D P L (.loop _ LW) _=q;obtain⟨ex,st,rfl,tm,ct,rfl,rfl,t1,t4,t5⟩:=aW hq (Yi 4) ⟨0,by omega,by simp only[go_sem,ya,yb,ae]<;>rfl⟩
 by_cases h0:ig M n=0
 .rw [yK h0,yK h0];rw[xo h0] at e3;refine⟨.ab,?_,j0⟩
  simp only[go_sem,ya,yb,ae,t1,t4,t5,nt,wrap64 (n:=((n*n:Nat):Int)) (by omega) (by omega),e1,e2,e3]
 .rw [yI h0,yI h0];rw[yW h0] at e3;have Yj:=awQ h hv hM hn h0 kμ
  simp only[go_sem,ya,yb,ae,t1,t4,t5,nt,wrap64 (n:=((n*n:Nat):Int)) (by omega) (by omega),e1,e2,e3];generalize ma:D P L (.loop _ LX) _=q2;obtain⟨ex,st,rfl,sG,ct2,o,rfl,rfl,ho,t7⟩:=aW ma (Yj n) ⟨0,[],by omega,trivial,by simp only[go_sem,ya,yb,ae,Fj,eM,kv,jg]<;>rfl⟩
  have dH:=ho.len;rw[Ag] at dH
  cases o with
  | nil=>simp only[yN] at dH;omega
  | cons a o=>
   rw[dc] at t7;simp only[go_sem,ya,yb,ae,t7,fI]
   rw[TH (ex:=ycO) (sz:=1) (cs:=a::o) (by simp only[go_sem]<;>rfl) (by simp) (by omega)]
   refine⟨_,rfl,?_⟩
   have:=pG ycO ho
   rw[<-ho.len] at this;exact this
end
def awR(GH:Has P L 29 Jh){v0 v1 v2 v3 w0 w1 w2 w3:AV}{M:List (List (List (List Nat)))}(hv:bi (br bG) [v0,v1,v2,v3] M)(hw:bi (br bG) [w0,w1,w2,w3] M){i:Nat}(hi:i<4)(hM:(M.getD i []).length<=8/\∀r,r∈M.getD i []->r.length<=8):
  bP P L [2,3,5,6] LY (fun d st=>∃r,r+d=(M.getD i []).length/\st=⟨[(2,.ptr 0 0),(3,.ptr 1 0),(5,aa i),(6,aa r)],[(1,.cells ycN ycN ycN 4 [w0,w1,w2,w3]),(0,.cells ycN ycN ycN 4 [v0,v1,v2,v3])],2,0⟩) (fun ex s'=>∃tm ct,s'=⟨tm,[(1,.cells ycN ycN ycN 4 [w0,w1,w2,w3]),(0,.cells ycN ycN ycN 4 [v0,v1,v2,v3])],ct,0⟩/\ex=.exit 2/\ai tm 2=.ptr 0 0/\ai tm 3=.ptr 1 0/\ai tm 5=aa i):=by
 obtain⟨v,e0,eJ⟩:=oh hv hi;obtain⟨w,e1,Bc⟩:=oh hw hi;apply bQ;rintro d st ⟨r,eT,rfl⟩;by_cases hr:r<(M.getD i []).length
 .left
  obtain⟨x,r1,hx,e2⟩:=eJ.a6 hr;obtain⟨y,r2,hy,e3⟩:=Bc.a6 hr;have h8:=hM.2 _ (xq hr);have e4:=a29 GH hx hy (by omega);unfold af at e4;simp only[go_sem,ya,LY,dG 0 i hi,dG 1 i hi,e0,e1,eJ.len,show (r:Int)<(M.getD i []).length by omega,e2,e3,hx.ak,hy.ak,e4];refine⟨_,d-1,rfl,by omega,r+1,by omega,?_⟩;rw[wrap64 (by omega) (by omega)];simp only[go_sem,ya,yb,ae]<;>rfl
 .right
  simp only[go_sem,ya,LY,dG 0 i hi,e0,eJ.len,show ¬(r:Int)<(M.getD i []).length by omega];exact⟨_,_,rfl,by simp,_,_,rfl,rfl,by simp only[go_sem,ya],by simp only[go_sem,ya],by simp only[go_sem,ya]⟩
def aBu(GH:Has P L 29 Jh)(Ys:Has P L 785 R4){x y:AV}{M:List (List (List (List Nat)))}(hx:Sw x M)(hy:Sw y M)(hM:∀m,m∈M->m.length<=8/\∀r,r∈m->r.length<=8):af P L 785 [x,y] (.bool ycN):=by
 obtain⟨v0,v1,v2,v3,rfl,hv⟩:=hx;obtain⟨w0,w1,w2,w3,rfl,hw⟩:=hy;have hl:M.length=4:=hv.len.symm;obtain⟨p1,p2,p3⟩:=Bg hv;obtain⟨q1,q2,q3⟩:=Bg hw;have jv:∀ct,gW ct 4 [v0,v1,v2,v3]=GW (.ptr ct 0,.cells ycN ycN ycN 4 [v0,v1,v2,v3]):=fun ct=>by rw[aR (n:=4) rfl p3,p1]
 have NW:∀ct,gW ct 4 [w0,w1,w2,w3]=GW (.ptr ct 0,.cells ycN ycN ycN 4 [w0,w1,w2,w3]):=fun ct=>by rw[aR (n:=4) rfl q3,q1]
 have key:=fk P L [2,3,5] LZ
  (fun d st=>∃i:Nat,i+d=4/\st=⟨[(2,.ptr 0 0),(3,.ptr 1 0),(5,aa i)],[(1,.cells ycN ycN ycN 4 [w0,w1,w2,w3]),(0,.cells ycN ycN ycN 4 [v0,v1,v2,v3])],2,0⟩)
  (fun ex s'=>∃tm hp ct,s'=⟨tm,hp,ct,0⟩/\ex=.exit 0) ?_
 .unfold af;rw[aF Ys];simp only[go_sem,ya,yb,R4,jv,NW];generalize hq:D P L (.loop _ LZ) _=q;obtain⟨ex,st,rfl,tm,hp,ct,rfl,rfl⟩:=aW hq (key 4) ⟨0,by omega,by simp only[go_sem,ya,yb,ae]<;>rfl⟩
  simp only[go_sem,ae]
 .rintro d st ⟨i,hid,rfl⟩;by_cases hi:i<4
  .left
   obtain⟨v,e0,eJ⟩:=oh hv hi;obtain⟨w,e1,Bc⟩:=oh hw hi;have hm:M.getD i []∈M:=by rw[getD_at (by omega)];exact xq _
   have key:=awR (P:=P) (L:=L) GH hv hw hi (hM _ hm);simp only[go_sem,ya,LZ,show (i:Int)<4 by omega,dG 0 i hi,dG 1 i hi,e0,e1,eJ.len,Bc.len,yy];generalize hq:D P L (.loop _ LY) _=q;obtain⟨ex,st,rfl,tm,ct,rfl,rfl,t2,t3,t5⟩:=aW hq (key _) ⟨0,Nat.zero_add _,by simp only[go_sem,ya,yb,ae]<;>rfl⟩
   simp only[go_sem,ya,yb,ae,t2,t3,t5];refine⟨_,d-1,rfl,by omega,i+1,by omega,?_⟩;rw[wrap64 (by omega) (by omega)];simp only[go_sem,ya,yb,ae]<;>rfl
  .right
   have h4:i=4:=by omega
   subst h4;simp only[go_sem,ya,LZ,show ¬((4:Nat):Int)<4 by decide];exact⟨_,_,rfl,by simp,_,_,_,rfl,rfl⟩
def aBv(so:Has P L 659 M9){v w:AV}{l:List sS}(hv:fX v l)(hw:fX w l)(hl:l.length<=1000000):af P L 659 [v,w] (.bool ycN):=by
 have key:=fk P L [0,1,5] LF
  (fun k st=>∃i:Nat,st=⟨[(0,v),(1,w),(5,aa i)],[],0,0⟩/\i+k=l.length)
  (fun ex st=>∃tm hp ct,st=⟨tm,hp,ct,0⟩/\ex=.exit 0) ?_
 .unfold af;rw[aF so];simp only[go_sem,ya,M9,hv.len,hw.len,yy];generalize hq:D P L (.loop _ LF) _=q;obtain⟨ex,st,rfl,tm,hp,ct,rfl,rfl⟩:=aW hq (key l.length) ⟨0,by simp only[go_sem,ya,ae,an hv.pu,an hw.pu]<;>rfl,by omega⟩
  simp only[go_sem,ae]
 .rintro k st ⟨i,rfl,hk⟩;by_cases hi:i<l.length
  .left
   obtain⟨r1,e1⟩:=hv.a6 hi;obtain⟨r2,e2⟩:=hw.a6 hi;have qJ:jK (.ag [2,2]) (.agg [.str l[i].1,.str l[i].2]) (.agg [.str l[i].1,.str l[i].2])=GW ycN:=by
    have:=aBa l[i] l[i]
    rw[Hg rfl,Hg rfl] at this;exact this
   have GU:∀(hp:Hp) (a b:AV) (r:List AV),fY hp 2 ycN (.bN (a::b::r))=GW (.agg [a,b]):=fun _ _ _ _=>rfl
   simp only[go_sem,ya,LF,hv.len,show (i:Int)<l.length by omega,e1,e2,GU,qJ,show IJ ycN (GW ycN)=GW (AV.bool ycO) from rfl];refine⟨_,k-1,rfl,by omega,i+1,?_,by omega⟩;rw[wrap64 (by omega) (by omega)];simp only[go_sem,ya,ae,an hv.pu,an hw.pu]<;>rfl
  .right
   simp only[go_sem,ya,LF,hv.len,show ¬(i:Int)<l.length by omega];exact⟨_,_,rfl,by simp,_,_,_,rfl,rfl⟩
def DG(so:Has P L 659 M9)(AO:Has P L 669 RX){v w:AV}{S:List (List sS)}(hv:br fX v S)(hw:br fX w S)(hl:S.length<=1000000)(hr:∀r,r∈S->r.length<=1000000):af P L 669 [v,w] (.bool ycN):=by
 have key:=fk P L [0,1,5] LM
  (fun k st=>∃i:Nat,st=⟨[(0,v),(1,w),(5,aa i)],[],0,0⟩/\i+k=S.length)
  (fun ex st=>∃tm hp ct,st=⟨tm,hp,ct,0⟩/\ex=.exit 0) ?_
 .unfold af;rw[aF AO];simp only[go_sem,ya,RX,hv.len,hw.len,yy];generalize hq:D P L (.loop _ LM) _=q;obtain⟨ex,st,rfl,tm,hp,ct,rfl,rfl⟩:=aW hq (key S.length) ⟨0,by simp only[go_sem,ya,ae,an hv.pu,an hw.pu]<;>rfl,by omega⟩
  simp only[go_sem,ae]
 .rintro k st ⟨i,rfl,hk⟩;by_cases hi:i<S.length
  .left
   obtain⟨x,r1,hx,e1⟩:=hv.a6 hi;obtain⟨y,r2,hy,e2⟩:=hw.a6 hi;have e3:=aBv so hx hy (hr _ (xq hi));unfold af at e3;simp only[go_sem,ya,LM,hv.len,show (i:Int)<S.length by omega,e1,e2,hx.ak,hy.ak,e3];refine⟨_,k-1,rfl,by omega,i+1,?_,by omega⟩;rw[wrap64 (by omega) (by omega)];simp only[go_sem,ya,ae,an hv.pu,an hw.pu]<;>rfl
  .right
   simp only[go_sem,ya,LM,hv.len,show ¬(i:Int)<S.length by omega];exact⟨_,_,rfl,by simp,_,_,_,rfl,rfl⟩
section
variable {gv sv:AV}{e1 e2 one:Int}{xs ys:List AV}{n r:Nat}{μ:Rat}
def aso{r:List (List Nat)}(h:Gf r=ycN):∀s,s∈r->s.length<=20:=fun s hs=>of_decide_eq_true (tH.1 h s hs)
def awS{M:List (List (List (List Nat)))}(h:Bi M=ycN):∀m,m∈M->m.length<=5/\∀r,r∈m->r.length<=5/\∀s,s∈r->s.length<=20:=fun m hm=>by
 have h1:=tH.1 h m hm;rw[ye] at h1;refine⟨of_decide_eq_true h1.1,fun r hr=>?_⟩;have h2:=tH.1 h1.2 r hr;rw[ye] at h2;exact⟨of_decide_eq_true h2.1,aso h2.2⟩
def tw(b:Bool):Int:=if b=ycN then 4 else 0
noncomputable def ot(M:List (List (List (List Nat))))(μ:Rat)(r c:Nat):Bool:=(wi c).any fun c=>mE M μ r c
noncomputable def Bj(M:List (List (List (List Nat))))(μ:Rat)(n r:Nat):Bool:=(wi r).any fun r=>ot M μ r n
def ap1{M:List (List (List (List Nat)))}{c:Nat}:ot M μ r (c+1)=(ot M μ r c||mE M μ r c):=by
 simp[ot,wZ,ybD]
def ap2{M:List (List (List (List Nat)))}:Bj M μ n (r+1)=(Bj M μ n r||ot M μ r n):=by
 simp[Bj,wZ,ybD]
def Mg(sv gv w:AV)(e1 e2 one two:Int)(n r len c:Nat):Env:=[(5,.ptr 0 0),(6,aa e1),(7,sv),(8,aa e2),(9,aa one),(10,aa two),(11,.ptr 1 0),(12,gv),(51,gv),(52,aa n),(53,aa r),(57,w),(58,aa len),(59,aa c)]
def mg(sv gv:AV)(e1 e2 one two:Int)(n r:Nat):Env:=[(5,.ptr 0 0),(6,aa e1),(7,sv),(8,aa e2),(9,aa one),(10,aa two),(11,.ptr 1 0),(12,gv),(51,gv),(52,aa n),(53,aa r)]
def gU(sv gv:AV)(e1 e2 one two:Int):Env:=[(5,.ptr 0 0),(6,aa e1),(7,sv),(8,aa e2),(9,aa one),(10,aa two),(11,.ptr 1 0),(12,gv)]
def ah4{v0 v1 v2 v3:AV}{M:List (List (List (List Nat)))}(hv:bi (br bG) [v0,v1,v2,v3] M)(hM:zW M n)(kμ:Hq 800000 μ):∀r c,r<n->c<n->Hq 900000 (ol M μ r c)/\Hq 900000 (om M μ r c):=fun r c hr hc=>by
 have pk:∀i,i<4->Hq 2400 (qj M r c i):=fun i hi=>by
  obtain⟨_,_,_,_,_,_,_,hk⟩:=DE hv hM hi hr hc;exact pN hk (yz 2400)
 have p0:=pk 0 (by decide);have p1:=pk 1 (by decide);have p2:=pk 2 (by decide);have p3:=pk 3 (by decide);exact⟨(((p0.add p2).sub p1).sub p3 |>.div kμ).mono (by decide),(((p0.add p1).sub p2).sub p3 |>.div kμ).mono (by decide)⟩
def hX(xs ys:List AV):Hp:=[(1,.cells ycN ycN ycN 4 ys),(0,.cells ycN ycN ycN 4 xs)]
def awT(h:Rl P L)(DF:Has P L 768 ID){w:AV}{M:List (List (List (List Nat)))}{b:Bool}(ps:aQ sv=ycN)(pg:aQ gv=ycN)(hw:fX w (sj M μ r n))(hn:n<=8)(kM:∀c,c<n->Hq 900000 (ol M μ r c)/\Hq 900000 (om M μ r c)):
  bP P L [5,6,7,8,9,10,11,12,51,52,53,57,58,59] LR (fun d st=>∃c,c+d=n/\st=⟨Mg sv gv w e1 e2 one (tw (b||ot M μ r c)) n r n c,hX xs ys,2,0⟩) (fun ex s'=>∃tm c',s'=⟨tm,hX xs ys,c',0⟩/\ex=.exit 2/\cu tm [5,6,7,8,9,10,11,12,51,52,53]=mg sv gv e1 e2 one (tw (b||ot M μ r n)) n r):=by
 apply bQ;rintro d st ⟨c,hcd,rfl⟩;by_cases hc:c<n
 .left
  obtain⟨rest,e0⟩:=hw.a6 (i:=c) (by rw[Ha];exact hc)
  have Je:(sj M μ r n)[c]'(by rw[Ha];exact hc)=Bh M μ r c:=by simp[sj]
  rw[Je] at e0;have hT:bG (.ap ycN 2 [.str (RT (ol M μ r c)),.str (RT (om M μ r c))]) ([ol M μ r c,om M μ r c].map RT):=K4 ycN [RT (ol M μ r c),RT (om M μ r c)];obtain⟨k1,k2⟩:=kM c hc;have e3:=aBg h DF (b:=tw (b||ot M μ r c)) hT (show 2<=1000000 by decide) (K:=900000) (fun z hz=>by
   rcases xx.1 hz with rfl | hz
   .exact k1
   .rcases xx.1 hz with rfl | hz
    .exact k2
    .exact absurd hz xB) (by decide)
  have e4:(if tw (b||ot M μ r c)=0 then (if [ol M μ r c,om M μ r c].any LG=ycN then (4:Int) else 0) else tw (b||ot M μ r c))=tw (b||ot M μ r (c+1)):=by
   rw[ap1,<-Bool.or_assoc];show (if tw (b||ot M μ r c)=0 then (if mE M μ r c=ycN then (4:Int) else 0) else _)=_
   cases (b||ot M μ r c)<;>cases mE M μ r c<;>rfl
  rw[e4] at e3;unfold af at e3;have GU:∀(hp:Hp) (a b:AV) (r:List AV),fY hp 2 ycN (.bN (a::b::r))=GW (.agg [a,b]):=fun _ _ _ _=>rfl
  have A6:∀ct,gW ct 2 [AV.str [],.str []]=GW (.ptr ct 0,.cells ycN ycN ycN 2 [AV.str [],.str []]):=fun _=>rfl
  have bL:∀a b:List Nat,cellsOf (.agg [AV.str a,.str b])=[.str a,.str b]:=fun _ _=>rfl
  have lM:∀(hp:Hp) (a b:AV) (tm:Env),fN hp (.ar 2 1) (.bN [a,b]) tm none none=GW (.ap ycN 2 [a,b]):=fun _ _ _ _=>rfl
  simp only[go_sem,ya,yb,LR,Mg,hX,show (c:Int)<n by omega,e0,Bh,GU,A6,bL,awn,yg,lM,e3];refine⟨_,d-1,rfl,by omega,c+1,by omega,?_⟩;rw[wrap64 (by omega) (by omega)];simp only[go_sem,ya,yb,ae,an ps,an pg,an hw.pu]<;>rfl
 .right
  have OP:c=n:=by omega
  subst OP;simp only[go_sem,ya,LR,Mg,show ¬(c:Int)<c by omega];exact⟨_,_,rfl,by simp,_,_,rfl,rfl,by simp only[go_sem,ya]<;>rfl⟩
def aeZ(h:Rl P L)(DF:Has P L 768 ID){M:List (List (List (List Nat)))}(ps:aQ sv=ycN)(hg:br fX gv (ni M μ n n))(hn:n<=8)(kM:∀r c,r<n->c<n->Hq 900000 (ol M μ r c)/\Hq 900000 (om M μ r c)):
  bP P L [5,6,7,8,9,10,11,12,51,52,53] oF (fun d st=>∃r,r+d=n/\st=⟨mg sv gv e1 e2 one (tw (Bj M μ n r)) n r,hX xs ys,2,0⟩) (fun ex s'=>∃tm c',s'=⟨tm,hX xs ys,c',0⟩/\ex=.exit 0/\cu tm [5,6,7,8,9,10,11,12]=gU sv gv e1 e2 one (tw (Bj M μ n n))):=by
 apply bQ;rintro d st ⟨r,eT,rfl⟩;by_cases hr:r<n
 .left
  obtain⟨w,rest,hw,e0⟩:=hg.a6 (i:=r) (by rw[Ag];exact hr)
  have N8:(ni M μ n n)[r]'(by rw[Ag];exact hr)=sj M μ r n:=by simp[ni]
  rw[N8] at hw;have iB:=fun hp=>hw.len (hp:=hp)
  rw[Ha] at iB;have key:=awT (P:=P) (L:=L) h DF (e1:=e1) (e2:=e2) (one:=one) (b:=Bj M μ n r) (xs:=xs) (ys:=ys) ps hg.pu hw hn (fun c hc=>kM r c hr hc);have gG:∀two,dw [5,6,7,8,9,10,11,12,51,52,53,57,58,59] (Mg sv gv w e1 e2 one two n r n 0) (hX xs ys) 2:=fun two=>⟨rfl,fun ct=>by simp only[go_sem,ya,yb,ae,Mg,hX,an ps,an hg.pu,an hw.pu]<;>rfl⟩
  have dW:∀two k,dw [5,6,7,8,9,10,11,12,51,52,53] (mg sv gv e1 e2 one two n k) (hX xs ys) 2:=fun two k=>⟨rfl,fun ct=>by simp only[go_sem,ya,yb,ae,mg,hX,an ps,an hg.pu]<;>rfl⟩
  have hz:tw (Bj M μ n r)=tw (Bj M μ n r||ot M μ r 0):=by simp[ot]
  rw[ap2.symm] at key;simp only[go_sem,ya,oF,mg,show (r:Int)<n by omega,e0,iB];generalize hq:D P L (.loop _ LR) _=q;obtain⟨ex,st,rfl,tm,c',rfl,rfl,cS⟩:=aW hq (key n) ⟨0,by omega,by rw[<-hz];exact cO (by simp only[go_sem,ya]<;>rfl) (gG _)⟩
  simp only[go_sem,cO cS (dW _ r)];simp only[go_sem,ya,mg];refine⟨_,d-1,rfl,by omega,r+1,by omega,?_⟩;rw[wrap64 (by omega) (by omega)];exact cO (by simp only[go_sem,ya]<;>rfl) (dW _ (r+1))
 .right
  have GL:r=n:=by omega
  subst GL;simp only[go_sem,ya,oF,mg,show ¬(r:Int)<r by omega];exact⟨_,_,rfl,by simp,_,_,rfl,rfl,by simp only[go_sem,ya]<;>rfl⟩
def Qx{two:Int}:
  bP P L [5,6,7,8,9,10,11,12,51,52,53] oF (fun d st=>d=0/\st=⟨mg sv gv e1 e2 one two 0 0,hX xs ys,2,0⟩) (fun ex s'=>∃tm c',s'=⟨tm,hX xs ys,c',0⟩/\ex=.exit 0/\cu tm [5,6,7,8,9,10,11,12]=gU sv gv e1 e2 one two):=by
 apply bQ;rintro d st ⟨rfl,rfl⟩;right
 simp only[go_sem,ya,oF,mg,show ¬((0:Nat):Int)<((0:Nat):Int) by decide];exact⟨_,_,rfl,by simp,_,_,rfl,rfl,by simp only[go_sem,ya]<;>rfl⟩
end
section
variable {v0 v1 v2 v3:AV}{s:List (List Int)}
structure PR(P:aG)(L:Lib):Prop where
 i:Z5 P L
 g:Sig P L
 f:Imf P L
 r:Tw P L
 GH:Has P L 29 Jh
 B5:Has P L 261 FQ
 so:Has P L 659 M9
 AO:Has P L 669 RX
 aBw:Has P L 759 rS
 DF:Has P L 768 ID
 aBx:Has P L 779 Ng
 aBy:Has P L 780 R3
 aBz:Has P L 781 Nh
 Yl:Has P L 782 Ni
 Ys:Has P L 785 R4
 IW:Has P L 794 IE
 ayA:af P L 637 [] (.bool ycN)
def WO{M:List (List (List (List Nat)))}(h:bi (br bG) [v0,v1,v2,v3] M)(n:Nat)(hp:Hp):freeze (n+20) hp (.agg [v0,v1,v2,v3])=GW (.agg [v0,v1,v2,v3],hp):=by
 match M,h with
 | [m0,m1,m2,m3],⟨h0,h1,h2,h3,_⟩=>exact cm _ _ (by simp only[go_sem,h0.ak,h1.ak,h2.ak,h3.ak])
def ah5{M:List (List (List (List Nat)))}(h:bi (br bG) [v0,v1,v2,v3] M)(hp:Hp)(ct id:Nat):dS hp ct id 0 4 [v0,v1,v2,v3] (GW (.cells ycN ycN ycN 4 [AV.ab,.ab,.ab,.ab]))=GW (.av [],aY hp id (.cells ycN ycN ycN 4 [v0,v1,v2,v3]),ct):=by
 obtain⟨p1,p2,p3⟩:=Bg h;rw[zn (by rfl) (by simp) p3,p1];rfl
def ayB{t:List (List (Int×Int))}{n:Nat}(hn:n<=8):∀m,m∈Sx t n->m.length<=8/\∀r,r∈m->r.length<=8:=fun m hm=>by
 have key:∀i,(je t n i n).length<=8/\∀r,r∈je t n i n->r.length<=8:=fun i=>⟨by rw[K5];exact hn,fun r hr=>by
  obtain⟨a,_,rfl⟩:=vI.1 hr
  rw[EM];exact hn⟩
 simp only[Sx,xx,xB,vY] at hm;rcases hm with rfl | rfl | rfl | rfl<;>exact key _
def ap3(h:PR P L){v:AV}(hv:gI v s)(hl:s.length<=9):∃x0 x1 x2 x3 y0 y1 y2 y3 MM,af P L 663 [v] (.av [.agg [x0,x1,x2,x3],aa (kY [2,4] s)])/\bi (br bG) [x0,x1,x2,x3] MM/\bi (br bG) [y0,y1,y2,y3] MM/\(∀m,m∈MM->m.length<=8/\∀r,r∈m->r.length<=8)/\
  ((kY [2,4] s=0/\∃yr,af P L 783 [v] yr/\shut yr=.agg [y0,y1,y2,y3])\/(kY [2,4] s≠0/\y0=.ab/\y1=.ab/\y2=.ab/\y3=.ab)):=by
 by_cases h0:kY [2,4] s=0
 .obtain ⟨x,e1,x0,x1,x2,x3,rfl,hx⟩:=aA2 h.i hv (by omega) h0;obtain⟨yr,e2,y0,y1,y2,y3,hye,hy⟩:=aBq h.f hv h0;obtain⟨hm,_⟩:=Qd h0;simp only[xx,xB,vY] at hm;rw[h0];exact⟨_,_,_,_,_,_,_,_,_,e1,hx,hy,ayB (by omega),.inl ⟨rfl,yr,e2,hye⟩⟩
 .exact ⟨_,_,_,_,_,_,_,_,[[],[],[],[]],apY h.i hv (by omega) h0,⟨j0,j0,j0,j0,trivial⟩,⟨j0,j0,j0,j0,trivial⟩,fun m hm=>by
   simp only[xx,xB,vY,or_self] at hm;subst hm
   exact⟨by decide,fun r hr=>absurd hr xB⟩,.inr ⟨h0,rfl,rfl,rfl,rfl⟩⟩
def agv{M:List (List (List (List Nat)))}{n:Nat}(hv:bi (br bG) [v0,v1,v2,v3] M)(GR:∀m,m∈M->m.length<=8/\∀r,r∈m->r.length<=8/\∀s,s∈r->cK s=0)(hn:n<=8):Hq 800000 (ig M n):=by
 have hl:M.length=4:=hv.len.symm;have od:n*n<=64:=xF hn hn;have kS:Hq 700000 (oQ M):=by
  have:=MH GR 4 (by omega)
  rw[yq (by omega)] at this;exact this.mono (by decide)
 exact (kS.div (iw (z:=((n*n:Nat):Int)) (by omega))).mono (by decide)
def al3(h:PR P L){v:AV}{M:List (List (List (List Nat)))}(hv:gI v s)(hm:bi (br bG) [v0,v1,v2,v3] M):af P L 759 [v,.agg [v0,v1,v2,v3]] (.bool ycN):=by
 have ea:=h.ayA;have g1:=aBh h.aBx hv;have g2:=aBj h.aBy hm;obtain⟨p1,p2,p3⟩:=Bg hm;have jv:∀ct,gW ct 4 [v0,v1,v2,v3]=GW (.ptr ct 0,.cells ycN ycN ycN 4 [v0,v1,v2,v3]):=fun ct=>by rw[aR (n:=4) rfl p3,p1]
 have Cx:=WO hm;unfold af at ea g1 g2;unfold af;rw[aF h.aBw]
 cases jQ:Tu s with
 | false=>
  rw[jQ] at g1;simp only[go_sem,ya,yb,rS,jv,hv.ak,g1,ea,xb]
 | true=>
  rw[jQ] at g1
  cases A6:Bi M with
  | false=>
   rw[A6] at g2;simp only[go_sem,ya,yb,rS,jv,hv.ak,g1,g2,ea,Cx,yg,eL,xb,y9]
  | true=>
   rw[A6] at g2;have hS:s.length<=9:=by
    unfold Tu at jQ;rw[ye] at jQ;exact of_decide_eq_true jQ.1
   have hI:=awS A6;have hs:∀m,m∈M->m.length<=1000000/\∀r,r∈m->r.length<=1000000/\∀s,s∈r->s.length<=1000000000:=fun m hm=>⟨by have:=(hI m hm).1;omega,fun r hr=>⟨by have:=((hI m hm).2 r hr).1;omega,fun s hs=>by have:=((hI m hm).2 r hr).2 s hs;omega⟩⟩
   obtain⟨x0,x1,x2,x3,y0,y1,y2,y3,MM,e1,hx,hy,hMM,hY⟩:=ap3 h hv hS;obtain⟨sv,e2,cy⟩:=aBe h.g hm rfl hs;have e3:=aBi h.aBz h.IW hv;have e4:=aBk h.r.toRm h.B5 h.IW h.Yl hm rfl hs;have e5:=aBu h.GH h.Ys (x:=.agg [x0,x1,x2,x3]) (y:=.agg [y0,y1,y2,y3]) ⟨_,_,_,_,rfl,hx⟩ ⟨_,_,_,_,rfl,hy⟩ hMM;generalize hn:(M.getD 0 []).length=n at*
   have Ep:∀ct,gW ct 4 [AV.ab,.ab,.ab,.ab]=GW (.ptr ct 0,.cells ycN ycN ycN 4 [AV.ab,.ab,.ab,.ab]):=fun _=>rfl
   have Er:=WO hx;have Es:=WO hy;have stx:=ah5 hx;have Tz:=ah5 hy;unfold af at e1 e2 e3 e4;rcases hY with ⟨hz,yr,e6,TA⟩ | ⟨hz,rfl,rfl,rfl,rfl⟩
   .rw [hz] at e1 e3;unfold af at e6;by_cases hc:nD M n=0
    .unfold nD at hc
     split at hc
     case isFalse=>exact absurd hc (by decide)
     rename_i GV;have NK:nD M n=0:=by unfold nD;rw[yK GV];exact hc
     have gh:n<=8/\0<n:=by
      simp only[xx,xB,vY] at GV;omega
     have zY:=V2 hc;obtain⟨gr,e8,gT⟩:=ah3 h.r hm zY gh.1 gh.2;have Cy:zC M n=if ig M n=0 then 6 else if sZ M n=ycN then 4 else 0:=by unfold zC;rw[yK GV,yK hc]
     rw[Cy] at e2 cy;rw[NK] at e4;clear Cy NK;have kM8:∀m,m∈M->m.length<=8/\∀r,r∈m->r.length<=8/\∀s,s∈r->cK s=0:=fun m hm=>⟨by rw[(zY m hm).1];exact gh.1,fun r hr=>⟨by rw[((zY m hm).2 r hr).1];exact gh.1,((zY m hm).2 r hr).2⟩⟩
     by_cases h0:ig M n=0
     .rw [yK h0] at e2 cy;rw[yI (by decide)] at cy;rw[yK h0] at e8 gT;have e7:=DG h.so h.AO cy (j0 (p:=fX)) (by decide) (fun r hr=>absurd hr xB);have qX:=fun hp=>gT.len (hp:=hp)
      simp only[yN] at qX;unfold af at e5 e7 e8;simp only[go_sem,ya,yb,rS,jv,hv.ak,g1,g2,Cx,yg,eL,y9,Ep,e1,e2,e3,e4,stx,Tz,e6,TA,yy,e8,qX,yy];generalize hq:D P L (.loop _ oF) _=q;obtain⟨ex,st,rfl,tm,c',rfl,rfl,cS⟩:=aW hq (Qx (sv:=bA sv) (gv:=bA gr) (e1:=0) (e2:=6) (one:=0) (two:=6) (xs:=[x0,x1,x2,x3]) (ys:=[y0,y1,y2,y3]) 0) (by
       refine⟨rfl,?_⟩
       simp only[go_sem,ya,yb,ae,mg,hX,an cy.pu,an gT.pu]<;>rfl)
      have dO:dw [5,6,7,8,9,10,11,12] (gU (bA sv) (bA gr) 0 (6) 0 (6)) (hX [x0,x1,x2,x3] [y0,y1,y2,y3]) 2:=⟨rfl,fun ct=>by simp only[go_sem,ya,yb,ae,gU,hX,an cy.pu,an gT.pu]<;>rfl⟩
      simp only[go_sem,cO cS dO];simp only[go_sem,ya,gU,hX,yg,eL,Er,Es,e5,cy.ak,ea,yy,e7,show ¬(6:Int)=0 by decide,yA]
     .rw [yI h0] at e2 cy e8 gT;have kμ:Hq 800000 (ig M n):=agv hm kM8 gh.1;have kS:=ah4 hm zY kμ;have qX:=fun hp=>gT.len (hp:=hp)
      rw[Ag] at qX;have Ch:Bj M (ig M n) n n=sZ M n:=rfl;have key:=aeZ (P:=P) (L:=L) h.r.toRl h.DF (sv:=bA sv) (gv:=bA gr) (e1:=0) (e2:=if sZ M n=ycN then 4 else 0) (one:=0) (xs:=[x0,x1,x2,x3]) (ys:=[y0,y1,y2,y3]) cy.pu gT gh.1 kS;rw[Ch] at key
      cases hB:sZ M n with
      | true=>
       rw[hB] at e2 cy key;rw[yK rfl] at e2 cy;rw[yI (by decide)] at cy;rw[yK rfl] at key;have e7:=DG h.so h.AO cy (j0 (p:=fX)) (by decide) (fun r hr=>absurd hr xB);unfold af at e5 e7 e8;simp only[go_sem,ya,yb,rS,jv,hv.ak,g1,g2,Cx,yg,eL,y9,Ep,e1,e2,e3,e4,stx,Tz,e6,TA,yy,e8,qX,yy];generalize hq:D P L (.loop _ oF) _=q;obtain⟨ex,st,rfl,tm,c',rfl,rfl,cS⟩:=aW hq (key n) (by
        refine⟨0,by omega,?_⟩
        simp only[go_sem,ya,yb,ae,mg,hX,an cy.pu,an gT.pu]<;>rfl)
       have dO:dw [5,6,7,8,9,10,11,12] (gU (bA sv) (bA gr) 0 (4) 0 (tw ycN)) (hX [x0,x1,x2,x3] [y0,y1,y2,y3]) 2:=⟨rfl,fun ct=>by simp only[go_sem,ya,yb,ae,gU,hX,an cy.pu,an gT.pu]<;>rfl⟩
       simp only[go_sem,cO cS dO];simp only[go_sem,ya,gU,hX,yg,eL,Er,Es,e5,cy.ak,ea,yy,e7,show tw ycN=4 from rfl,show ¬(4:Int)=0 by decide,yA]
      | false=>
       rw[hB] at e2 cy key;rw[show (if ycO=ycN then (4:Int) else 0)=0 from rfl] at e2 cy key;rw[yK rfl] at cy;have e7:=DG h.so h.AO cy gT (by rw[Ag];omega) (fun r hr=>by
        obtain⟨a,_,rfl⟩:=vI.1 hr
        rw[Ha];omega)
       unfold af at e5 e7 e8;simp only[go_sem,ya,yb,rS,jv,hv.ak,g1,g2,Cx,yg,eL,y9,Ep,e1,e2,e3,e4,stx,Tz,e6,TA,yy,e8,qX,yy];generalize hq:D P L (.loop _ oF) _=q;obtain⟨ex,st,rfl,tm,c',rfl,rfl,cS⟩:=aW hq (key n) (by
        refine⟨0,by omega,?_⟩
        simp only[go_sem,ya,yb,ae,mg,hX,an cy.pu,an gT.pu]<;>rfl)
       have dO:dw [5,6,7,8,9,10,11,12] (gU (bA sv) (bA gr) 0 (0) 0 (tw ycO)) (hX [x0,x1,x2,x3] [y0,y1,y2,y3]) 2:=⟨rfl,fun ct=>by simp only[go_sem,ya,yb,ae,gU,hX,an cy.pu,an gT.pu]<;>rfl⟩
       simp only[go_sem,cO cS dO];simp only[go_sem,ya,gU,hX,yg,eL,Er,Es,e5,cy.ak,ea,yy,e7,show tw ycO=0 from rfl,yy,gT.ak]
    .have Cy:zC M n=nD M n:=by
      unfold nD at hc ⊢;unfold zC
      split
      .rename_i h1;rw[yK h1] at hc;rw[yI hc]
      .rfl
     rw[Cy] at e2 cy;rw[yI hc] at cy;have e7:=DG h.so h.AO cy (j0 (p:=fX)) (by decide) (fun r hr=>absurd hr xB);unfold af at e5 e7;generalize nD M n=cc at*
     simp only[go_sem,ya,yb,rS,jv,hv.ak,g1,g2,Cx,yg,eL,y9,Ep,e1,e2,e3,e4,stx,Tz,e6,TA,yy,hc,yy,yA];generalize hq:D P L (.loop _ oF) _=q;obtain⟨ex,st,rfl,tm,c',rfl,rfl,cS⟩:=aW hq (Qx (sv:=bA sv) (gv:=.ab) (e1:=0) (e2:=cc) (one:=0) (two:=cc) (xs:=[x0,x1,x2,x3]) (ys:=[y0,y1,y2,y3]) 0) (by
      refine⟨rfl,?_⟩
      simp only[go_sem,ya,yb,ae,mg,hX,an cy.pu]<;>rfl)
     have dO:dw [5,6,7,8,9,10,11,12] (gU (bA sv) .ab 0 (cc) 0 (cc)) (hX [x0,x1,x2,x3] [y0,y1,y2,y3]) 2:=⟨rfl,fun ct=>by simp only[go_sem,ya,yb,ae,gU,hX,an cy.pu]<;>rfl⟩
     simp only[go_sem,cO cS dO];simp only[go_sem,ya,gU,hX,yg,eL,Er,Es,e5,cy.ak,ea,yy,e7,hc,yA]
   .generalize kY [2,4] s=e at*
    by_cases hc:nD M n=0
    .unfold nD at hc
     split at hc
     case isFalse=>exact absurd hc (by decide)
     rename_i GV;have NK:nD M n=0:=by unfold nD;rw[yK GV];exact hc
     have gh:n<=8/\0<n:=by
      simp only[xx,xB,vY] at GV;omega
     have zY:=V2 hc;obtain⟨gr,e8,gT⟩:=ah3 h.r hm zY gh.1 gh.2;have Cy:zC M n=if ig M n=0 then 6 else if sZ M n=ycN then 4 else 0:=by unfold zC;rw[yK GV,yK hc]
     rw[Cy] at e2 cy;rw[NK] at e4;clear Cy NK;have kM8:∀m,m∈M->m.length<=8/\∀r,r∈m->r.length<=8/\∀s,s∈r->cK s=0:=fun m hm=>⟨by rw[(zY m hm).1];exact gh.1,fun r hr=>⟨by rw[((zY m hm).2 r hr).1];exact gh.1,((zY m hm).2 r hr).2⟩⟩
     by_cases h0:ig M n=0
     .rw [yK h0] at e2 cy;rw[yI (by decide)] at cy;rw[yK h0] at e8 gT;have e7:=DG h.so h.AO cy (j0 (p:=fX)) (by decide) (fun r hr=>absurd hr xB);have qX:=fun hp=>gT.len (hp:=hp)
      simp only[yN] at qX;unfold af at e5 e7 e8;simp only[go_sem,ya,yb,rS,jv,hv.ak,g1,g2,Cx,yg,eL,y9,Ep,e1,e2,e3,e4,stx,hz,yA,e8,qX,yy];generalize hq:D P L (.loop _ oF) _=q;obtain⟨ex,st,rfl,tm,c',rfl,rfl,cS⟩:=aW hq (Qx (sv:=bA sv) (gv:=bA gr) (e1:=e) (e2:=6) (one:=e) (two:=6) (xs:=[x0,x1,x2,x3]) (ys:=[.ab,.ab,.ab,.ab]) 0) (by
       refine⟨rfl,?_⟩
       simp only[go_sem,ya,yb,ae,mg,hX,an cy.pu,an gT.pu]<;>rfl)
      have dO:dw [5,6,7,8,9,10,11,12] (gU (bA sv) (bA gr) e (6) e (6)) (hX [x0,x1,x2,x3] [.ab,.ab,.ab,.ab]) 2:=⟨rfl,fun ct=>by simp only[go_sem,ya,yb,ae,gU,hX,an cy.pu,an gT.pu]<;>rfl⟩
      simp only[go_sem,cO cS dO];simp only[go_sem,ya,gU,hX,yg,eL,Er,Es,e5,cy.ak,ea,yy,e7,show ¬(6:Int)=0 by decide,yA]
     .rw [yI h0] at e2 cy e8 gT;have kμ:Hq 800000 (ig M n):=agv hm kM8 gh.1;have kS:=ah4 hm zY kμ;have qX:=fun hp=>gT.len (hp:=hp)
      rw[Ag] at qX;have Ch:Bj M (ig M n) n n=sZ M n:=rfl;have key:=aeZ (P:=P) (L:=L) h.r.toRl h.DF (sv:=bA sv) (gv:=bA gr) (e1:=e) (e2:=if sZ M n=ycN then 4 else 0) (one:=e) (xs:=[x0,x1,x2,x3]) (ys:=[.ab,.ab,.ab,.ab]) cy.pu gT gh.1 kS;rw[Ch] at key
      cases hB:sZ M n with
      | true=>
       rw[hB] at e2 cy key;rw[yK rfl] at e2 cy;rw[yI (by decide)] at cy;rw[yK rfl] at key;have e7:=DG h.so h.AO cy (j0 (p:=fX)) (by decide) (fun r hr=>absurd hr xB);unfold af at e5 e7 e8;simp only[go_sem,ya,yb,rS,jv,hv.ak,g1,g2,Cx,yg,eL,y9,Ep,e1,e2,e3,e4,stx,hz,yA,e8,qX,yy];generalize hq:D P L (.loop _ oF) _=q;obtain⟨ex,st,rfl,tm,c',rfl,rfl,cS⟩:=aW hq (key n) (by
        refine⟨0,by omega,?_⟩
        simp only[go_sem,ya,yb,ae,mg,hX,an cy.pu,an gT.pu]<;>rfl)
       have dO:dw [5,6,7,8,9,10,11,12] (gU (bA sv) (bA gr) e (4) e (tw ycN)) (hX [x0,x1,x2,x3] [.ab,.ab,.ab,.ab]) 2:=⟨rfl,fun ct=>by simp only[go_sem,ya,yb,ae,gU,hX,an cy.pu,an gT.pu]<;>rfl⟩
       simp only[go_sem,cO cS dO];simp only[go_sem,ya,gU,hX,yg,eL,Er,Es,e5,cy.ak,ea,yy,e7,show tw ycN=4 from rfl,show ¬(4:Int)=0 by decide,yA]
      | false=>
       rw[hB] at e2 cy key;rw[show (if ycO=ycN then (4:Int) else 0)=0 from rfl] at e2 cy key;rw[yK rfl] at cy;have e7:=DG h.so h.AO cy gT (by rw[Ag];omega) (fun r hr=>by
        obtain⟨a,_,rfl⟩:=vI.1 hr
        rw[Ha];omega)
       unfold af at e5 e7 e8;simp only[go_sem,ya,yb,rS,jv,hv.ak,g1,g2,Cx,yg,eL,y9,Ep,e1,e2,e3,e4,stx,hz,yA,e8,qX,yy];generalize hq:D P L (.loop _ oF) _=q;obtain⟨ex,st,rfl,tm,c',rfl,rfl,cS⟩:=aW hq (key n) (by
        refine⟨0,by omega,?_⟩
        simp only[go_sem,ya,yb,ae,mg,hX,an cy.pu,an gT.pu]<;>rfl)
       have dO:dw [5,6,7,8,9,10,11,12] (gU (bA sv) (bA gr) e (0) e (tw ycO)) (hX [x0,x1,x2,x3] [.ab,.ab,.ab,.ab]) 2:=⟨rfl,fun ct=>by simp only[go_sem,ya,yb,ae,gU,hX,an cy.pu,an gT.pu]<;>rfl⟩
       simp only[go_sem,cO cS dO];simp only[go_sem,ya,gU,hX,yg,eL,Er,Es,e5,cy.ak,ea,yy,e7,show tw ycO=0 from rfl,yy,gT.ak]
    .have Cy:zC M n=nD M n:=by
      unfold nD at hc ⊢;unfold zC
      split
      .rename_i h1;rw[yK h1] at hc;rw[yI hc]
      .rfl
     rw[Cy] at e2 cy;rw[yI hc] at cy;have e7:=DG h.so h.AO cy (j0 (p:=fX)) (by decide) (fun r hr=>absurd hr xB);unfold af at e5 e7;generalize nD M n=cc at*
     simp only[go_sem,ya,yb,rS,jv,hv.ak,g1,g2,Cx,yg,eL,y9,Ep,e1,e2,e3,e4,stx,hz,yA,hc,yA];generalize hq:D P L (.loop _ oF) _=q;obtain⟨ex,st,rfl,tm,c',rfl,rfl,cS⟩:=aW hq (Qx (sv:=bA sv) (gv:=.ab) (e1:=e) (e2:=cc) (one:=e) (two:=cc) (xs:=[x0,x1,x2,x3]) (ys:=[.ab,.ab,.ab,.ab]) 0) (by
      refine⟨rfl,?_⟩
      simp only[go_sem,ya,yb,ae,mg,hX,an cy.pu]<;>rfl)
     have dO:dw [5,6,7,8,9,10,11,12] (gU (bA sv) .ab e (cc) e (cc)) (hX [x0,x1,x2,x3] [.ab,.ab,.ab,.ab]) 2:=⟨rfl,fun ct=>by simp only[go_sem,ya,yb,ae,gU,hX,an cy.pu]<;>rfl⟩
     simp only[go_sem,cO cS dO];simp only[go_sem,ya,gU,hX,yg,eL,Er,Es,e5,cy.ak,ea,yy,e7,hc,yA]
end
abbrev NL:Ty:=.sl .str
abbrev K9:List Ty:=[aea,.ar 4 (.sl NL)]
def SA(s:List Nat):Prop:=s.length<9223372036854775808
def adx:∀{ps:List (List AV)},(∀p,p∈ps->kJ .str p)->∃l:List (List Nat),l.length=ps.length/\ps.flatten=l.map AV.str/\∀s,s∈l->SA s
 | [],_=>⟨[],rfl,rfl,fun _ h=>by cases h⟩
 | p::ps,h=>by
  obtain⟨s,rfl,hs,_⟩:=h p wS;obtain⟨l,h1,h2,h3⟩:=adx (ps:=ps) (fun q hq=>h q (wA _ hq))
  exact⟨s::l,by simp[h1],by simp[h2],fun q hq=>by
   rcases xx.1 hq with rfl | hq
   .exact hs
   .exact h3 q hq⟩
def asp{l:List AV}(h:kJ NL l):∃(v:AV) (m:List (List Nat)),l=[v]/\bG v m/\∀s,s∈m->SA s:=by
 rcases h with rfl | ⟨x,ps,rfl,h⟩
 .exact ⟨_,[],rfl,q8,fun _ h=>by cases h⟩
 .obtain ⟨m,h1,h2,h3⟩:=adx h;refine⟨_,m,rfl,?_,h3⟩;rw[h2,<-h1];exact K4 x m
def ady:∀{ps:List (List AV)},(∀p,p∈ps->kJ NL p)->∃M:List (List (List Nat)),M.length=ps.length/\bi bG ps.flatten M/\∀r,r∈M->∀s,s∈r->SA s
 | [],_=>⟨[],rfl,trivial,fun _ h=>by cases h⟩
 | p::ps,h=>by
  obtain⟨v,m,rfl,hv,hm⟩:=asp (h p wS);obtain⟨M,h1,h2,h3⟩:=ady (ps:=ps) (fun q hq=>h q (wA _ hq))
  exact⟨m::M,by simp[h1],⟨hv,h2⟩,fun q hq=>by
   rcases xx.1 hq with rfl | hq
   .exact hm
   .exact h3 q hq⟩
def Qe{l:List AV}(h:kJ (.sl NL) l):∃(v:AV) (M:List (List (List Nat))),l=[v]/\br bG v M/\∀r,r∈M->∀s,s∈r->SA s:=by
 rcases h with rfl | ⟨x,ps,rfl,h⟩
 .exact ⟨_,[],rfl,j0,fun _ h=>by cases h⟩
 .obtain ⟨M,h1,h2,h3⟩:=ady h;refine⟨_,M,rfl,?_,h3⟩;rw[<-h1];exact pG x h2
def awU{l:List AV}(h:kJ (.ar 4 (.sl NL)) l):∃v0 v1 v2 v3 M,l=[v0,v1,v2,v3]/\bi (br bG) [v0,v1,v2,v3] M:=by
 obtain⟨ps,h1,rfl,h2⟩:=h
 match ps,h1 with
 | [a,b,c,d],_=>
  obtain⟨v0,m0,rfl,k0,_⟩:=Qe (h2 a (by simp));obtain⟨v1,m1,rfl,k1,_⟩:=Qe (h2 b (by simp));obtain⟨v2,m2,rfl,k2,_⟩:=Qe (h2 c (by simp));obtain⟨v3,m3,rfl,k3,_⟩:=Qe (h2 d (by simp));exact⟨v0,v1,v2,v3,[m0,m1,m2,m3],rfl,k0,k1,k2,k3,trivial⟩
def ak9{P:aG}{L:Lib}(h:PR P L){ls:List (List AV)}(hs:bi kJ K9 ls):af P L 759 (MB K9 ls) (.bool ycN):=by
 obtain⟨_,_,rfl,h1,h2⟩:=avl hs;obtain⟨v,s,rfl,hv⟩:=alZ h1;obtain⟨v0,v1,v2,v3,M,rfl,hm⟩:=awU h2;exact al3 h hv hm
namespace J2
open Go Go.Proofs
def T:List (Tr bn):=[.n 637 [.o 7 [] (.bool ycN)] .l .l]
def L0:VE.Lib:=VW VE.aI 99 P9
def L1:VE.Lib:=Rk L0 T 1000
def nu:Nu VE.prog VE.aI:=by
 repeat' (first | rfl | constructor)
def lw:PR VE.prog L1:=by
 repeat' (first | rfl | constructor)
section
variable {W:World}{m:Int}(hm:W.cell? ⟨6,0,none⟩=GW (.int .i64 m))(ht:Go.Lib.TabIs Tryz.prog W "internal/strconv.uint64pow10" .u64 Go.Lib.pow10Tab)
include hm ht
theorem linked:iH ((J1.O W).Bt L1):=by
 have hO:=J1.aqG hm ht;have hs:=anx hO nu rfl rfl rfl ⟨rfl,rfl,rfl⟩ (fn:=Tryz.f140) (c:=DB) Tryz.func140 rfl rfl trivial apL;have hT:iq (J1.O W) T:=iq.cons (Tr.kP (mZ.one (lW.holds hO rfl rfl)) Tr.jG Tr.jG) iq.nil;exact adW (anz hO hs) hT 1000
theorem law{ls:List (List AV)}(hs:bi kJ K9 ls):eR (J1.O W) 759 (MB K9 ls) (.bool ycN):=by
 obtain⟨k,hk⟩:=aev (ak9 lw hs);exact sound (linked hm ht) hk
end
end J2
end VE
