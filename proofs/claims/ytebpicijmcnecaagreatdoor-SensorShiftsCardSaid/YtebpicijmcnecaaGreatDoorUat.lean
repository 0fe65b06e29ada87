import Derived.Test.YtebpicijmcnecaaGreatDoorUas
import Derived.Test.YtebpicijmcnecaaGreatDoorUar
set_option linter.all false
set_option maxRecDepth 100000
open Bool renaming and_eq_true->ye,and_self->wx,false_and->uP,not_false->xX,not_true->xF,true_and->uj
open Go.FloatKind renaming f32->yca
open Int renaming eq_ofNat_of_zero_le->vd,natCast_mul->xx,ofNat_tdiv->yai,ofNat_tmod->yah,toNat_of_nonneg->wP
open List renaming append_assoc->xr,append_nil->wj,cons_append->ym,drop_eq_nil_of_le->xj,drop_succ_cons->yI,drop_zero->yh,getElem_append_left->wv,getElem_append_right->xV,getElem_cons_succ->vm,getElem_cons_zero->wO,getElem_map->tN,getElem_mem->vv,length->xW,length_append->yC,length_cons->yH,length_eq_zero_iff->uR,length_map->yX,length_nil->yM,length_take->yT,map_append->xk,map_cons->yV,map_nil->wF,mem_append->xD,mem_cons->xn,mem_cons_of_mem->xG,mem_cons_self->wm,mem_iff_getElem->vW,mem_map->yaf,mem_range'_1->vJ,mem_singleton->xy,nil_append->yD,nodup_append->uH,nodup_cons->wi,nodup_range'->vK,not_mem_nil->ybk,range->wE,range'->xS,range_succ->tZ,replicate->yy,replicate_succ->wR,singleton_append->vQ,take_of_length_le->yO,take_succ_eq_append_getElem->wa,zipWith->vn,zipWith_cons_cons->yay
open Nat renaming add_mul->xL,add_zero->yS,blt->yF,div_lt_of_lt_mul->tM,le_refl->yq,le_trans->y9,min_eq_left->xt,mod_lt->xp,mul_le_mul->xd,mul_le_mul_right->yL,mul_one->yk,mul_pos->wN,one_mul->yag,reduceAdd->yc,reduceEqDiff->ya,reduceLT->yB,reduceLeDiff->yp,reduceMul->xA,zero_add->yd,zero_mul->wh
open Option.some renaming injEq->yb
open Rat renaming add_zero->yck
open Option renaming some->D5
open Bool renaming true->ycG,false->ycH
namespace VE
open Go (IntKind)
variable {P:aE}{L:Lib}
abbrev wd{β:Type}(M:List (List β)):Nat:=(M.getD 0 []).length
section
variable {tm tm':Env}{cs:List AV}{W ids live pl:List Nat}{a ct i n:Nat}
def ie(ids W:List Nat):List AV:=vn (fun i w=>AV.av i 0 w) ids W
def jk(ids W:List Nat)(r:Nat):List AV:=ie ids W++yy r .ah
def aoK(h:ids.length=W.length):(ie ids W).length=W.length:=by simp[ie,h]
def Zq{w:Nat}(h:ids.length=W.length):ie (ids++[i]) (W++[w])=ie ids W++[.av i 0 w]:=by
 unfold ie;rw[List.zipWith_append h];rfl
def Xz:∀r:Nat,eG (yy r AV.ah)=[]
 | 0=>rfl
 | r+1=>by rw[wR,eG,Xz r];rfl
def Qg(r:Nat):∀{ids W:List Nat},ids.length=W.length->eG (jk ids W r)=ids
 | [],[],_=>Xz r
 | i::ids,w::W,h=>by
  have ih:=Qg r (ids:=ids) (W:=W) (by simpa using h);have e:jk (i::ids) (w::W) r=.av i 0 w::jk ids W r:=rfl;rw[e,eG,ih];rfl
 | [],_::_,h=>by simp at h
 | _::_,[],h=>by simp at h
def Ys(f:Nat->Option Nat):∀r:Nat,dd f (yy r AV.ah)=yy r .ah
 | 0=>rfl
 | r+1=>by rw[wR,dd,Ys f r];rfl
def QN{f:Nat->Option Nat}(r:Nat):∀{ids W:List Nat} (k:Nat),ids.length=W.length->(∀i (h:i<ids.length),f ids[i]=D5 (k+i))->dd f (jk ids W r)=jk (xS k ids.length) W r
 | [],[],_,_,_=>Ys f r
 | i::ids,w::W,k,h,hf=>by
  have h0:=hf 0 (by simp);simp only[wO,yS] at h0;have ih:=QN (f:=f) r (ids:=ids) (W:=W) (k+1) (by simpa using h) (fun j hj=>by
   have:=hf (j+1) (by simpa using hj)
   simp only[vm] at this
   rw[this];congr 1;lia)
  have e:jk (i::ids) (w::W) r=.av i 0 w::jk ids W r:=rfl;rw[e,dd,ih,yH,List.range'_succ];simp only[bi,h0];rfl
 | [],_::_,_,h,_=>by simp at h
 | _::_,[],_,h,_=>by simp at h
def Qh{sz:Nat}{y:Bool}(hs:0<sz):∀(ids W:List Nat) (T:List (List AV)) (hp:Hp) (n:Nat),ids.length+4<=n->ids.length=T.length->W.length=T.length->(∀i (h1:i<ids.length) (h2:i<T.length) (h3:i<W.length),T[i].length=W[i]*sz/\∃rw,ai hp ids[i]=D5 (.cells rw ycG y sz T[i]))->
  ∃an,cf n hp (ie ids W)=D5 (vn (fun w r=>.aq y w r) W T,an)/\∀j,j∉ids->ai an j=ai hp j
 | [],[],[],hp,n+1,_,_,_,_=>⟨hp,rfl,fun _ _=>rfl⟩
 | [],_,[],hp,0,h,_,_,_=>by simp at h
 | [],_,_::_,_,_,_,h,_,_=>by simp at h
 | [],_::_,[],_,_,_,_,h,_=>by simp at h
 | _::_,_,[],_,_,_,h,_,_=>by simp at h
 | _::_,[],_::_,_,_,_,_,h,_=>by simp at h
 | i::ids,w::W,r::T,hp,n+1,hn,hl,hW,h=>by
  obtain⟨l0,cm,g0⟩:=h 0 (by simp) (by simp) (by simp);simp only[wO] at l0 g0;simp only[yH] at hn hl hW;obtain⟨m,rfl⟩:∃m,n=m+1+1:=⟨n-2,by omega⟩;have hz:qF (m+1) hp i=D5 (y,sz,r,if cm=ycG then aV hp i (.cells ycH ycG y sz r) else hp):=by
   rw[LW,g0];cases cm<;>rfl
  have auA:∃aX,(if cm=ycG then aV hp i (.cells ycH ycG y sz r) else hp)=aX/\∀j,ai aX j=if j=i then D5 (.cells (if cm=ycG then ycH else cm) ycG y sz r) else ai hp j:=by
   refine⟨_,rfl,fun j=>?_⟩
   cases cm with
   | true=>simp only[xN];rw[amc g0]
   | false=>
    simp only[Bool.false_eq_true,xq]
    split
    .rename_i e;rw[e,g0]
    .rfl
  obtain⟨aX,e1,g1⟩:=auA;rw[e1] at hz;obtain⟨an,e2,g2⟩:=Qh hs ids W T aX (m+1+1) (by omega) (by omega) (by omega) (fun k h1 h2 h3=>by
   obtain⟨a,rw2,b⟩:=h (k+1) (by simpa using h1) (by simpa using h2) (by simpa using h3);simp only[vm] at a b;refine⟨a,?_⟩;rw[g1]
   split
   .rename_i e;rw[e,g0] at b;simp only[yb,Obj.cells.injEq] at b;exact⟨_,by rw[b.2.2.2.2]⟩
   .exact ⟨rw2,b⟩)
  refine⟨an,?_,fun j hj=>?_⟩
  .have e:ie (i::ids) (w::W)=.av i 0 w::ie ids W:=rfl;rw[e,Ya,LV,hz,oS y l0 hs,aaK,e2,aaL];rfl
  .simp only [xn,not_or] at hj;rw[g2 j hj.2,g1,yx hj.1]
def gT(T:List (List AV))(i:Nat):List AV:=T.getD i []
def BB{T:List (List AV)}(h:i<T.length):gT T i=T[i]:=by
 simp[gT,List.getD_eq_getElem?_getD,List.getElem?_eq_getElem h]
def je(n:Nat):List Nat:=(wE n).map (·+1)
def zE(n:Nat):(je n).length=n:=by simp[je]
def PS(n:Nat):je n=xS 1 n:=by
 unfold je;rw[List.range'_eq_map_range]
 grind
def QO(h:i<(je n).length):(je n)[i]=i+1:=by simp[je]
def QP:i∈je n↔0<i/\i<=n:=by
 rw[PS,vJ];lia
structure qw(hp:Hp)(x y:Bool)(sz:Nat)(W:List Nat)(T:List (List AV))(r:Nat):Prop where
 l:W.length=T.length
 m:ai hp 0=D5 (.cells ycG ycH x 1 (jk (je T.length) W r))
 r:∀i,i<T.length->ai hp (i+1)=D5 (.cells ycG ycG y sz (gT T i))
section
variable {hp:Hp}{x y:Bool}{sz:Nat}{W:List Nat}{T:List (List AV)}{r:Nat}
def qw.ak(h:qw hp x y sz W T 0)(hs:0<sz)(hw:∀i (h1:i<T.length) (h2:i<W.length),T[i].length=W[i]*sz)(hn:T.length+4<=n):
  ∃an,cf n hp (jk (je T.length) W 0)=D5 (vn (fun w r=>.aq y w r) W T,an)/\∀j,(∀i,i<T.length->j≠i+1)->ai an j=ai hp j:=by
 have e0:jk (je T.length) W 0=ie (je T.length) W:=by unfold jk;simp
 rw[e0];obtain⟨aX,e1,g1⟩:=Qh hs (je T.length) W T hp n (by rw[zE];exact hn) (zE _) h.l (fun i h1 h2 h3=>by
  refine⟨hw i h2 h3,ycG,?_⟩;rw[QO]
  have:=h.r i h2
  rwa[BB h2] at this)
 refine⟨aX,e1,fun j hj=>g1 j fun hm=>?_⟩
 have:=QP.1 hm
 exact hj (j-1) (by omega) (by omega)
def abb{hp an:Hp}{id s:Nat}{cm ex:Bool}{cW:List AV}(h:cf n hp cs=D5 (cW,an)):BI n id hp (D5 (.cells cm ycH ex s cs))=D5 (ex,s,cW,aV an id (.cells ycH ycH ex s cs)):=by
 simp[BI,h]
def qw.BI(h:qw hp x y sz W T 0)(hs:0<sz)(hw:∀i (h1:i<T.length) (h2:i<W.length),T[i].length=W[i]*sz)(hn:T.length+4<=n):
  ∃an,VE.BI n 0 hp (D5 (.cells ycG ycH x 1 (jk (je T.length) W 0)))=D5 (x,1,vn (fun w r=>.aq y w r) W T,an):=by
 obtain⟨aX,e,_⟩:=h.ak hs hw hn;exact⟨_,abb e⟩
def auB{cm ex:Bool}{cells:List AV}(hm:ai hp a=D5 (.cells cm ycH ex 1 cells))(hc:eG cells=ids)(hr:∀i,i∈ids->∃o,ai hp i=D5 o/\gD o=[])(aX:∀i,i∈pl->∃o,ai hp i=D5 o/\gD o=[])(hn:(gG a ids pl).Nodup)(hl:ids.length+pl.length<90000):mG hp 100000 (a::pl) []=gG a ids pl:=by
 have iJ:=wi.1 hn;have dV:∀i,i∈ids++pl->i∉[a]:=fun i hi hm=>by
  simp only[xy] at hm;subst hm;exact iJ.1 hi
 rw[show (100000:Nat)=99999+1 from rfl,QG,Y2,RI,hm,RJ,Q5,hc,yD]
 have:ids++pl=(ids++pl)++[]:=by simp
 rw[this,aar hp (ids++pl) [a] [] 99999 (by rw[yC];lia) (fun i hi=>by
  rcases xD.1 hi with h | h
  .exact hr i h
  .exact aX i h) iJ.2 dV,aoJ hp (by rw[yC];lia)]
 rfl
def abc(hE:ck (aY tm live)=a::pl)(hm:ai hp a=D5 (.cells ycG ycH x 1 (jk ids W r)))(hl:ids.length=T.length)(hW:W.length=T.length)(hr:∀i (h:i<ids.length),ai hp ids[i]=D5 (.cells ycG ycG y sz (gT T i)))(hM:T.length<=10000)(hn:(gG a ids pl).Nodup)(aX:∀i,i∈pl->∃o,ai hp i=D5 o/\gD o=[])(mC:pl.length<=1000)(hT:∀S,fS a S 0=D5 0->(∀j (h:j<pl.length),fS pl[j] S 0=D5 (T.length+1+j))->dt (pos S) (aY tm live)=tm'):
  ∃an,bg live ⟨tm,hp,ct,0⟩=⟨tm',an,1+(T.length+pl.length),0⟩/\qw an x y sz W T r/\∀j (h:j<pl.length) rw ex z cs,ai hp pl[j]=D5 (.cells rw ycG ex z cs)->ai an (T.length+1+j)=D5 (.cells rw ycG ex z cs):=by
 have Fk:∀i,i∈ids->∃o,ai hp i=D5 o/\gD o=[]:=fun i hi=>by
  obtain⟨k,hk,rfl⟩:=vW.1 hi;exact⟨_,hr k hk,rfl⟩
 have hR:=auB (pl:=pl) hm (Qg r (by lia)) Fk aX hn (by lia);rw[<-hE] at hR;have⟨an,e,g⟩:=ag3 (ct:=ct) hR;have ls:(gG a ids pl).length=1+(ids.length+pl.length):=by simp[gG];lia
 have s0:∀h:0<(gG a ids pl).length,(gG a ids pl)[0]=a:=fun _=>rfl
 have sI:∀i (h:i<ids.length) (h2:i+1<(gG a ids pl).length),(gG a ids pl)[i+1]=ids[i]:=fun i h h2=>by
  simp[gG,wv h]
 have sP:∀j (h:j<pl.length) (h2:T.length+1+j<(gG a ids pl).length),(gG a ids pl)[T.length+1+j]=pl[j]:=fun j h h2=>by
  have:T.length+1+j=(ids.length+j)+1:=by lia
  simp only[gG,this,vm];rw[xV (by lia)]
  simp
 have pI:∀i (h:i<ids.length),pos (gG a ids pl) ids[i]=D5 (1+i):=fun i h=>by
  have:=Et (gG a ids pl) 0 (i+1) (by lia) hn
  rw[sI i h (by lia)] at this;rw[pos_eq,this];congr 1;lia
 have q3:fS a (gG a ids pl) 0=D5 0:=by
  have:=Et (gG a ids pl) 0 0 (by lia) hn
  rw[s0] at this;exact this
 have q4:∀j (h:j<pl.length),fS pl[j] (gG a ids pl) 0=D5 (T.length+1+j):=fun j hj=>by
  have:=Et (gG a ids pl) 0 (T.length+1+j) (by lia) hn
  rw[sP j hj (by lia),yd] at this;exact this
 refine⟨an,by rw[e,hT _ q3 q4,ls,hl],⟨hW,?_,fun i hi=>?_⟩,fun j hj cm ex z cs ho=>?_⟩
 .have:=g 0 (by lia) _ (by rw[s0];exact hm)
  rw[this];have e2:fC (pos (gG a ids pl)) (.cells ycG ycH x 1 (jk ids W r))=.cells ycG ycH x 1 (dd (pos (gG a ids pl)) (jk ids W r)):=rfl;rw[e2,QN r 1 (by lia) pI,hl,<-PS]
 .have:=g (i+1) (by lia) _ (by rw[sI i (by lia)];exact hr i (by lia))
  rw[this];rfl
 .have:=g (T.length+1+j) (by lia) _ (by rw[sP j hj (by lia)];exact ho)
  rw[this];rfl
def aim(hp:pl.Nodup)(h:∀i,i∈pl->n<i):(gG 0 (je n) pl).Nodup:=by
 unfold gG;refine wi.2 ⟨fun q=>?_,?_⟩
 .rcases xD.1 q with q | q
  .have:=QP.1 q;lia
  .have:=h 0 q;lia
 .refine uH.2 ⟨by rw[PS];exact vK,hp,fun a ha b hb e=>?_⟩
  have h1:=QP.1 ha;have h2:=h b hb
  lia
def qw.comp(h:qw hp x y sz W T r)(hE:ck (aY tm live)=[0])(hM:T.length<=10000)(hT:∀S,fS 0 S 0=D5 0->dt (pos S) (aY tm live)=tm'):∃an,bg live ⟨tm,hp,ct,0⟩=⟨tm',an,1+T.length,0⟩/\qw an x y sz W T r:=by
 obtain⟨an,e,g,_⟩:=abc (ct:=ct) (pl:=[]) hE h.m (zE _) h.l (fun i hi=>by
  rw[QO];rw[zE] at hi;exact h.r i hi) hM (aim List.nodup_nil (fun _ q=>by cases q)) (fun _ q=>by cases q) (by simp) (fun S q _=>hT S q)
 exact⟨an,e,g⟩
def aoL{hp0:Hp}{x0:Bool}{b w r0:Nat}(h:qw hp0 x0 y sz W T r0)(hi:T.length=i)(hE:ck (aY tm live)=[a])(hb:i<b)(Co:a≠b)(ha:a=0\/i<a)(hm:ai hp a=D5 (.cells ycG ycH x 1 (ie (je i) W++ .av b 0 w::yy r .ah)))(hr:∀j,j<i->ai hp (j+1)=ai hp0 (j+1))(hc:ai hp b=D5 (.cells ycG ycG y sz cs))(hM:i<=1000)(hT:∀S,fS a S 0=D5 0->dt (pos S) (aY tm live)=tm'):∃an,bg live ⟨tm,hp,ct,0⟩=⟨tm',an,1+(i+1),0⟩/\qw an x y sz (W++[w]) (T++[cs]) r:=by
 have Fk:∀j (h:j<(je i++[b]).length),(je i++[b])[j]=if j<i then j+1 else b:=fun j h=>by
  by_cases hj:j<i
  .rw [yN hj,wv (by rw[zE];exact hj),QO]
  .rw [yx hj,xV (by rw[zE];omega)];simp
 have li:(je i++[b]).length=i+1:=by simp[zE]
 have lW:W.length=i:=by rw[h.l,hi]
 obtain⟨an,e,g,_⟩:=abc (hp:=hp) (x:=x) (y:=y) (sz:=sz) (r:=r) (T:=T++[cs]) (W:=W++[w]) (ct:=ct) (pl:=[]) (ids:=je i++[b]) hE (by
  rw[hm];unfold jk;rw[Zq (by rw[zE,lW]),xr];rfl) (by rw[li];simp[hi]) (by simp[lW,hi]) (fun j hj=>by
  rw[Fk j hj];rw[li] at hj;by_cases J5:j<i
  .rw [yN J5,hr j J5,h.r j (by omega),BB (by omega),BB (by simp;omega),wv]
  .have awP:j=i:=by omega
   subst awP;rw[yx (by omega),hc,BB (by simp;omega),xV (by omega)];simp[hi]) (by simp;omega) (by
  unfold gG;rw[wj];refine wi.2 ⟨fun hx=>?_,?_⟩
  .obtain ⟨j,hj,e⟩:=vW.1 hx;rw[Fk j hj] at e;rw[li] at hj;split at e<;>omega
  .unfold List.Nodup;rw[List.pairwise_iff_getElem];intro u v hu hv huv;rw[Fk u hu,Fk v hv];rw[li] at hu hv
   split<;>split<;>omega) (fun _ q=>by cases q) (by simp) (fun S q _=>hT S q)
 exact⟨an,by rw[e];simp[hi],g⟩
end
end
def aas:∀r:List Nat,aD (cN r)=ycG
 | []=>rfl
 | b::r=>by
  have:=aas r
  simpa[cN,aD,aS] using this
def Zr:∀r:List Nat,b5 (cN r)=ycG
 | []=>rfl
 | b::r=>by
  have:=Zr r
  simpa[cN,b5,dD] using this
def bP.src{w:AV}{r:List Nat}(h:bP w r)(hp:Hp):iq hp 1 w=D5 (r.length,cN r):=by
 have hl:(cN r).length=r.length:=by simp
 rcases h with ⟨rfl,h⟩ | ⟨e,rfl⟩
 .rw [h] at hl;simp only[yM] at hl;rw[h,<-hl];rfl
 .show (bif Nat.beq (cN r).length ((cN r).length*1) then D5 ((cN r).length,cN r) else none)=_
  rw[yk,Nat.beq_refl,yr,hl]
def D3(F:List (List Nat)):List AV:=F.map fun r=>.aq ycH r.length (cN r)
def aat:∀F:List (List Nat),js bP (D3 F) F
 | []=>trivial
 | r::F=>⟨.inr ⟨ycH,by
   have hl:(cN r).length=r.length:=by simp
   rw[hl]⟩,aat F⟩
def aau:∀F:List (List Nat),vn (fun w r=>AV.aq ycH w r) (F.map xW) (F.map cN)=D3 F
 | []=>rfl
 | a::F=>by
  have:=aau F
  rw[yV,yV,yay,this];rfl
def BR(sL:Has P L 639 ND){v:AV}{F:List (List Nat)}(hv:bC bP v F)(hl:F.length<=900)(hr:∀r,r∈F->r.length<=1000000):∃w,af P L 639 [v] w/\bC bP w F/\shut w=w:=by
 have key:cP P L [3,6,7,8] CV (fun d st=>∃i:Nat,i+d=F.length/\((i=0/\st=⟨[(3,.ah),(6,v),(7,aa F.length),(8,aa i)],[],0,0⟩)\/(0<i/\∃hp,st=⟨[(3,.av 0 0 i),(6,v),(7,aa F.length),(8,aa i)],hp,1+i,0⟩/\qw hp ycH ycH 1 ((F.take i).map xW) ((F.take i).map cN) 0))) (fun ex s'=>∃tm hp ct,s'=⟨tm,hp,ct,0⟩/\ex=.exit 0/\((F=[]/\aj tm 3=.ah/\hp=[])\/(0<F.length/\aj tm 3=.av 0 0 F.length/\qw hp ycH ycH 1 (F.map xW) (F.map cN) 0))):=by
  apply cT;rintro d st ⟨i,hid,aQ⟩;by_cases hi:i<F.length
  .left
   obtain⟨w,rest,n9,e0⟩:=hv.bD hi;have nf:=bP.src n9;have n9:b7 w (cN F[i]):=n9;have Va:=hr _ (vv hi);have w4:IntKind.wrap .i64 ((i:Int)+1)=((i+1:Nat):Int):=wrap64 (by omega) (by omega);have hiw:(i:Int)<F.length:=by omega
   have DI:=fun (hp:Hp) (ct id:Nat) (hg:ai hp id=D5 (.cells ycG ycG ycG 1 []))=>il (ct:=ct) (by':=4) (new:=cN F[i]) (m:=F[i].length) (n:=0) hg rfl (by omega) (by omega) (by decide) (Zr _)
   simp only[aas,wx,yd,yD] at DI;rcases aQ with ⟨oM,rfl⟩ | ⟨oM,hp,rfl,hM⟩
   .subst oM;simp only[go_sem,ya,yc,xA,yB,yp,yk,CV,hiw,e0,nf,mM,DI,jl,w4];refine⟨_,d-1,rfl,by omega,1,by omega,.inr ⟨by omega,?_⟩⟩;have e1:F.take 1=[F[0]]:=by
     rw[show (1:Nat)=0+1 from rfl,wa hi];rfl
    rw[e1];refine⟨[(1,.cells ycG ycG ycH 1 (cN F[0])),(0,.cells ycG ycH ycH 1 [.av 1 0 F[0].length])],by simp only[go_sem,ya,yc,aA,aF hv.pu]<;>rfl,⟨rfl,rfl,fun k hk=>?_⟩⟩
    have:k=0:=by simpa using hk
    subst this;rfl
   .have lT:((F.take i).map cN).length=i:=by rw[yX,yT,xt (by omega)]
    have lW:((F.take i).map xW).length=i:=by rw[yX,yT,xt (by omega)]
    have g0:=hM.m;rw[lT] at g0;have gr:=hM.r;rw[lT] at gr;simp only[go_sem,ya,yc,yp,yk,CV,hiw,e0,nf,mM,DI]
    rw[il (sz:=1) (ex:=ycH) (pu:=ycH) (cs:=jk (je i) ((F.take i).map xW) 0) (by rw[di _ _ (by omega),di _ _ (by omega),CA,yx (by omega)];exact g0) (by simp[jk,ie,zE];omega) (by omega) (by omega) (by decide) (by simp only[go_sem])]
    simp only[go_sem,ya,w4];refine⟨_,d-1,rfl,by omega,i+1,by omega,.inr ⟨by omega,?_⟩⟩;rw[wa hi,xk,xk]
    refine aoL (x:=ycH) (r:=0) hM lT (a:=1+i+1+1+1) (b:=1+i+1) (by simp only[go_sem,ya,dj hv.pu]<;>rfl) (by omega) (by omega) (by omega) (by rw[ff];simp[jk]) (fun j hj=>?_) ?_ (by omega) (fun S q=>by simp only[go_sem,ya,q,oR _ hv.pu]<;>rfl)
    .rw [di _ _ (by omega),di _ _ (by omega),di _ _ (by omega),CA,yx (by omega),CA,yx (by omega)]
    .rw [di _ _ (by omega),di _ _ (by omega),ff]
  .right
   have:i=F.length:=by omega
   subst this;rcases aQ with ⟨oM,rfl⟩ | ⟨oM,hp,rfl,hM⟩
   .simp only [go_sem,ya,CV,show ¬(F.length:Int)<F.length by omega];exact⟨_,_,rfl,by simp,_,_,_,rfl,rfl,.inl ⟨uR.1 oM,by simp only[go_sem,ya],rfl⟩⟩
   .simp only [go_sem,ya,CV,show ¬(F.length:Int)<F.length by omega];rw[List.take_length] at hM;exact⟨_,_,rfl,by simp,_,_,_,rfl,rfl,.inr ⟨oM,by simp only[go_sem,ya],hM⟩⟩
 unfold af;rw[aH sL];simp only[go_sem,ya,ND,hv.len];generalize hq:D P L (.loop _ CV) _=q;obtain⟨ex,st,rfl,tm,hp,ct,rfl,rfl,hh⟩:=bF hq (key F.length) ⟨0,by omega,.inl ⟨rfl,by simp only[go_sem,ya,aA,aF hv.pu]<;>rfl⟩⟩
 rcases hh with ⟨rfl,t3,rfl⟩ | ⟨h0,t3,hM⟩
 .refine ⟨.ah,?_,Yr,rfl⟩;simp only[go_sem,aA,t3]
 .obtain ⟨aX,e1,GR⟩:=hM.comp (live:=[3]) (tm:=tm) (tm':=[(3,.av 0 0 F.length)]) (ct:=ct) (by simp only[go_sem,t3]) (by rw[yX];omega) (fun S q=>by simp only[go_sem,t3,q]);obtain⟨ic,ez⟩:=GR.BI (n:=998) (by decide) (fun i h1 h2=>by simp) (by rw[yX];omega);have eT:=aau F;have hm:=GR.m;rw[yX] at hm ez;rw[eT] at ez;have hlen:(D3 F).length=F.length:=by simp[D3]
  have qS:result aX (.av 0 0 F.length)=D5 (.aq ycH F.length (D3 F)):=by
   have e2:nP deep aX (.av 0 0 F.length)=freeze deep aX (.av 0 0 F.length):=by simp only[nP,hm]
   have e3:freeze (999+1) aX (.av 0 0 F.length)=D5 (.aq ycH F.length (D3 F),ic):=by
    rw[LV,LW,hm,ez];exact oS ycH (by rw[hlen,yk]) (by decide)
   simp only[result,e2];show (match freeze (999+1) aX (.av 0 0 F.length) with | some (v',_)=>D5 v' | none=>none)=_
   rw[e3]
  refine⟨.aq ycH F.length (D3 F),?_,QK ycH (aat F),rfl⟩;simp only[go_sem,e1,qS]
def AM(C R S:Int):Bool:=decide (C<=3\/8<C)&&(decide (R<=3\/8<R)&&decide (S<=4\/8<S))
def Df(F:List (List Nat)):Bool:=F.all fun r=>decide (r.length<=14)
def jX(F:List (List Nat)):Bool:=decide (F.length<=14)&&Df F
def Bm{F:List (List Nat)}(h:jX F=ycG):F.length<=14/\∀r,r∈F->r.length<=14:=by
 unfold jX Df at h;rw[ye] at h;exact⟨of_decide_eq_true h.1,fun r hr=>of_decide_eq_true (List.all_eq_true.1 h.2 r hr)⟩
structure GS(P:aE)(L:Lib):Prop where
 awQ:L.pure 427=D5 sK
 Ug:Has P L 642 NE
 awR:Has P L 644 NG
 Uh:Has P L 647 Jg
 awS:Has P L 648 S4
 JG:Has P L 678 Ji
 awT:Has P L 680 NL
def sM(h:Has P L 636 Jf){v:AV}{F:List (List Nat)}(hv:bC bP v F):af P L 636 [v] (.bool (jX F)):=by
 unfold af;rw[aH h];unfold jX;by_cases h9:F.length<=14
 .have key:=jm P L [0,3] EH
   (fun k st=>∃i:Nat,i+k=F.length/\Df (F.drop i)=Df F/\st=⟨[(0,v),(3,aa i)],[],0,0⟩)
   (fun ex st=>∃tm hp ct,st=⟨tm,hp,ct,0⟩/\((ex=.ret/\aj tm 2=.bool ycH/\Df F=ycH)\/(ex=.exit 0/\Df F=ycG))) (by
   rintro k st ⟨i,hk,hf,rfl⟩;by_cases hi:i<F.length
   .obtain ⟨w,rest,hw,e1⟩:=hv.bD hi;have hw:b7 w (cN F[i]):=hw;have hlen:(cN F[i]).length=F[i].length:=by simp
    unfold Df at hf;rw[ama hi] at hf;by_cases h1:F[i].length<=14
    .left
     rw[yU h1,uj] at hf;simp only[go_sem,ya,EH,hv.len,show (i:Int)<F.length by omega,e1,hw.len,hlen,show ¬(14:Int)<F[i].length by omega,xf];refine⟨_,k-1,rfl,by omega,i+1,by omega,hf,?_⟩;rw[wrap64 (by omega) (by omega)];simp only[go_sem,ya,aA,aF hv.pu]<;>rfl
    .right
     rw[yW h1,uP] at hf;simp only[go_sem,ya,EH,hv.len,show (i:Int)<F.length by omega,e1,hw.len,hlen,show (14:Int)<F[i].length by omega];exact⟨_,_,rfl,by simp,_,_,_,rfl,.inl ⟨rfl,by simp only[go_sem],hf.symm⟩⟩
   .right
    simp only[go_sem,ya,EH,hv.len,show ¬(i:Int)<F.length by omega];refine⟨_,_,rfl,by simp,_,_,_,rfl,.inr ⟨rfl,?_⟩⟩
    rw[<-hf,xj (by omega)];rfl)
  rw[yU h9,uj];simp only[go_sem,ya,Jf,hv.len,show ¬(14:Int)<F.length by omega,xf];generalize hq:D P L (.loop _ EH) _=q;obtain⟨ex,st,rfl,tm,hp,ct,rfl,h3⟩:=bF hq (key F.length) ⟨0,by omega,rfl,by simp only[go_sem,ya,aA,aF hv.pu]<;>rfl⟩
  rcases h3 with ⟨rfl,h3,h4⟩ | ⟨rfl,h4⟩
  .rw [h4];simp only[go_sem,h3]
  .rw [h4];simp only[go_sem,aA]
 .rw [yW h9,uP];simp only[go_sem,ya,Jf,hv.len,show (14:Int)<F.length by omega]
def JH(h:Has P L 634 NC)(C R S:Int):af P L 634 [.agg [aa C,aa R,aa S]] (.bool (AM C R S)):=by
 unfold af;rw[aH h];unfold AM;by_cases c1:C<=3<;>by_cases c2:8<C<;>by_cases r1:R<=3<;>by_cases r2:8<R<;>by_cases s1:S<=4<;>by_cases s2:8<S<;>simp only[go_sem,ya,NC,iG,a6,yd,yh,yI,c1,c2,r1,r2,s1,s2,xa,xf,uj,uP,or_true,true_or,or_self]
def Ui(h:Has P L 678 Ji)(n lo hi:Int):af P L 678 [aa n,aa lo,aa hi] (aa (iO n lo hi)):=by
 unfold af;rw[aH h];unfold iO;by_cases c1:n<lo<;>by_cases c2:hi<n<;>simp only[go_sem,ya,Ji,c1,c2,xa,xf,or_self,or_true,true_or,xN,xq]
def auC(Ug:Has P L 642 NE)(Uh:Has P L 647 Jg)(JG:Has P L 678 Ji)(C R S:Int):af P L 642 [.agg [aa C,aa R,aa S]] (aa (pT C R S)):=by
 have e1:=Ui JG C 1 8;have e2:=Ui JG R 1 8;have e3:=Ui JG S 2 8;have e4:=aww Uh (ik ycG [iO C 1 8,iO R 1 8,iO S 2 8]) (by simp);simp only[yH,yM,yd,yc,yV,wF] at e4;unfold af at e1 e2 e3 e4 ⊢;rw[aH Ug];unfold pT;simp only[go_sem,ya,yc,yB,yp,yk,NE,iG,a6,yd,yh,yI,e1,e2,e3,e4]
def awU(h:GS P L)(C R S:Int):af P L 642 [.agg [aa C,aa R,aa S]] (aa (pT C R S)):=auC h.Ug h.Uh h.JG C R S
section
variable {v:AV}{F:List (List Nat)}
def awV(h:L.pure 427=D5 sK)(b:Nat):af P L 427 [.au .f32 b] (.bool (eZ b)):=by
 unfold af;simp only[bQ,h,sK]
def asE(h:GS P L){w:AV}{r:List Nat}{m i:Nat}(hv:bC bP v F)(hi:i<F.length)(hr:F[i]=r)(hl:r.length<=1000000):
  cP P L [0,2,7,8] EI (fun d st=>∃k,k+d=r.length/\lK (r.drop k)=lK r/\st=⟨[(0,v),(2,aa m),(7,aa i),(8,aa k)],[],0,0⟩) (fun ex s'=>∃tm ct,s'=⟨tm,[],ct,0⟩/\((ex=.ret/\aj tm 6=aa 1/\lK r=ycG)\/(ex=.exit 2/\lK r=ycH/\aY tm [0,2,7]=[(0,v),(2,aa m),(7,aa i)]))):=by
 apply cT;rintro d st ⟨k,hk,hf,rfl⟩;obtain⟨x,rest,hx,e0⟩:=hv.bD hi;rw[hr] at hx;have hx:b7 x (cN r):=hx;have hlen:(cN r).length=r.length:=by simp
 by_cases Ft:k<r.length
 .have e1:=hx.bD (i:=k) (by simpa using Ft);rw[Hv Ft] at e1;have e2:=awV (P:=P) h.awQ r[k];unfold lK at hf;rw[Y5 Ft] at hf;unfold af at e2
  cases hz:eZ r[k] with
  | true=>
   left
   rw[hz] at e2 hf;simp only[go_sem,ya,EI,e0,hx.len,hlen,show (k:Int)<r.length by omega,e1,mQ,e2,xF];refine⟨_,d-1,rfl,by omega,k+1,by omega,hf,?_⟩;rw[wrap64 (by omega) (by omega)];simp only[go_sem,ya,aA,aF hv.pu]<;>rfl
  | false=>
   right
   rw[hz] at e2 hf;simp only[go_sem,ya,EI,e0,hx.len,hlen,show (k:Int)<r.length by omega,e1,mQ,e2,xX];exact⟨_,_,rfl,by simp,_,_,rfl,.inl ⟨rfl,by simp only[go_sem],hf.symm⟩⟩
 .right
  simp only[go_sem,ya,EI,e0,hx.len,hlen,show ¬(k:Int)<r.length by omega];refine⟨_,_,rfl,by simp,_,_,rfl,.inr ⟨rfl,?_,by simp only[go_sem,ya]⟩⟩;rw[<-hf,xj (by omega)];rfl
def Oh(h:GS P L){n m:Nat}(hv:bC bP v F)(hl:F.length<=1000000)(hr:∀r,r∈F->r.length<=1000000):af P L 680 [v,aa n,aa m] (aa (lL n m F)):=by
 unfold af;rw[aH h.awT];unfold lL;by_cases hn:F.length=n
 .rw [yN hn];have key:=jm P L [0,2,7] EJ
   (fun d st=>∃i:Nat,i+d=F.length/\b8 ((F.drop i).map (gn m))=b8 (F.map (gn m))/\st=⟨[(0,v),(2,aa m),(7,aa i)],[],0,0⟩)
   (fun ex st=>∃tm ct,st=⟨tm,[],ct,0⟩/\((ex=.ret/\aj tm 6=aa (b8 (F.map (gn m))))\/(ex=.exit 0/\b8 (F.map (gn m))=0))) (by
   rintro d st ⟨i,hd,hf,rfl⟩;by_cases hi:i<F.length
   .obtain ⟨x,rest,hx,e0⟩:=hv.bD hi;have Va:=hr _ (vv hi);have Uc:=asE h (v:=v) (w:=v) (m:=m) hv hi rfl Va;have hx:b7 x (cN F[i]):=hx;have hlen:(cN F[i]).length=F[i].length:=by simp
    rw[ag2 hi] at hf;by_cases h1:F[i].length=m
    .have JS:(F[i].length:Int)=m:=by omega
     simp only[go_sem,ya,EJ,hv.len,show (i:Int)<F.length by omega,e0,hx.len,hlen,JS,xa,xF];generalize hq:D P L (.loop _ EI) _=q;obtain⟨ex,st,rfl,tm,ct,rfl,hh⟩:=bF hq (Uc F[i].length) ⟨0,by omega,rfl,by simp only[go_sem,ya,aA,aF hv.pu]<;>rfl⟩
     rcases hh with ⟨rfl,g1,g2⟩ | ⟨rfl,g1,g2⟩
     .right
      have hE:gn m F[i]=1:=by unfold gn;rw[yN h1,g2];rfl
      rw[hE,yx (by decide)] at hf;simp only[go_sem];exact⟨_,_,rfl,by simp,_,_,rfl,.inl ⟨rfl,by rw[g1,hf]⟩⟩
     .left
      have hE:gn m F[i]=0:=by unfold gn;rw[yN h1,g1];rfl
      rw[hE,yN rfl] at hf;have ei:∀ct,bg [0,2,7] ⟨tm,[],ct,0⟩=⟨[(0,v),(2,aa m),(7,aa i)],[],0,0⟩:=fun ct=>by
       rw[Pr (by rw[g2];simp only[go_sem,hv.pu]),g2]
      simp only[go_sem,ya,ei];refine⟨_,d-1,rfl,by omega,i+1,by omega,hf,?_⟩;rw[wrap64 (by omega) (by omega)];simp only[go_sem,ya,aA,aF hv.pu]<;>rfl
    .right
     have hE:gn m F[i]=2:=by unfold gn;rw[yx h1];rfl
     rw[hE,yx (by decide)] at hf;have JS:¬(F[i].length:Int)=m:=by omega
     simp only[go_sem,ya,EJ,hv.len,show (i:Int)<F.length by omega,e0,hx.len,hlen,JS,xf,xX];exact⟨_,_,rfl,by simp,_,_,rfl,.inl ⟨rfl,by rw[<-hf];simp only[go_sem]⟩⟩
   .right
    simp only[go_sem,ya,EJ,hv.len,show ¬(i:Int)<F.length by omega];refine⟨_,_,rfl,by simp,_,_,rfl,.inr ⟨rfl,?_⟩⟩
    rw[<-hf,xj (by omega)];rfl)
  have iJ:(F.length:Int)=n:=by omega
  simp only[go_sem,ya,NL,hv.len,iJ,xa,xF];generalize hq:D P L (.loop _ EJ) _=q;obtain⟨ex,st,rfl,tm,ct,rfl,hh⟩:=bF hq (key F.length) ⟨0,by omega,rfl,by simp only[go_sem,ya,aA,aF hv.pu]<;>rfl⟩
  rcases hh with ⟨rfl,h2⟩ | ⟨rfl,h2⟩
  .simp only [go_sem,h2]
  .rw [h2];simp only[go_sem,aA]
 .rw [yx hn];have iJ:¬(F.length:Int)=n:=by omega
  simp only[go_sem,ya,NL,hv.len,iJ,xf,xX]
def awW(h:GS P L){C R S:Nat}(hC:C<=8)(hR:R<=8)(hS:S<=8)(hv:bC bP v F)(hl:F.length<=1000000)(hr:∀r,r∈F->r.length<=1000000):af P L 648 [.agg [aa C,aa R,aa S],v] (aa (lL (R*S) (C*S) F)):=by
 have e1:=Oh h (n:=R*S) (m:=C*S) hv hl hr;have b1:R*S<=64:=xd hR hS;have b2:C*S<=64:=xd hC hS;have m1:(R:Int)*(S:Int)=((R*S:Nat):Int):=by rw[xx]
 have m2:(C:Int)*(S:Int)=((C*S:Nat):Int):=by rw[xx]
 unfold af at e1 ⊢;rw[aH h.awS]
 simp only[go_sem,ya,S4,iG,a6,yd,yh,yI,hv.ak,m1,m2,wrap64 (n:=((R*S:Nat):Int)) (by omega) (by omega),wrap64 (n:=((C*S:Nat):Int)) (by omega) (by omega),e1]
def Oi(h:GS P L){C R S:Int}(hv:bC bP v F)(hl:F.length<=1000000)(hr:∀r,r∈F->r.length<=1000000):af P L 644 [.agg [aa C,aa R,aa S],v] (aa (gV C R S F)):=by
 have e1:=awU h C R S;have fz:=qY;unfold af;rw[aH h.awR];unfold gV;by_cases h0:pT C R S=0
 .rw [yN h0];obtain⟨⟨a1,a2⟩,⟨b1,b2⟩,c1,c2⟩:=Rl h0;have e2:=awW h (C:=C.toNat) (R:=R.toNat) (S:=S.toNat) (by omega) (by omega) (by omega) hv hl hr;rw[wP (by omega),wP (by omega),wP (by omega)] at e2;rw[h0] at e1;unfold af at e1 e2;simp only[go_sem,ya,yc,NG,iG,yh,ia,fz,e1,hv.ak,e2]
 .rw [yx h0];unfold af at e1;simp only[go_sem,ya,yc,NG,iG,yh,ia,fz,e1,h0]
end
section
variable {W ids:List Nat}
def jt(k n:Nat):List Nat:=xS (k+1) n
def lc(k n:Nat):(jt k n).length=n:=by simp[jt]
def El{k n i:Nat}(h:i<(jt k n).length):(jt k n)[i]=k+1+i:=by simp[jt]
structure qB(hp:Hp)(k:Nat)(W:List Nat)(T:List (List AV)):Prop where
 l:W.length=T.length
 m:ai hp k=D5 (.cells ycG ycH ycH 1 (ie (jt k T.length) W))
 r:∀i,i<T.length->ai hp (k+1+i)=D5 (.cells ycG ycG ycH 1 (gT T i))
def SB(ids W:List Nat):jk ids W 0=ie ids W:=by unfold jk;simp
def ajY(h:ids.length=W.length):eG (ie ids W)=ids:=by rw[<-SB];exact Qg 0 h
def amd{f:Nat->Option Nat}(k:Nat)(h:ids.length=W.length)(hf:∀i (h:i<ids.length),f ids[i]=D5 (k+i)):dd f (ie ids W)=ie (xS k ids.length) W:=by
 rw[<-SB,QN 0 k h hf,SB]
def qB.ak{hp:Hp}{k:Nat}{T:List (List AV)}(h:qB hp k W T)(hw:∀i (h1:i<T.length) (h2:i<W.length),T[i].length=W[i])(hM:T.length<=900){n:Nat}(hn:910<=n):
  ∃an,freeze (n+3) hp (.av k 0 T.length)=D5 (.aq ycH T.length (vn (fun w r=>.aq ycH w r) W T),an)/\(∀j,j≠k->(∀i,i<T.length->j≠k+1+i)->ai an j=ai hp j):=by
 obtain⟨aX,e1,g1⟩:=Qh (sz:=1) (y:=ycH) (by decide) (jt k T.length) W T hp (n+1) (by rw[lc];omega) (lc _ _) h.l (fun i h1 h2 h3=>by
  refine⟨by rw[yk];exact hw i h2 h3,ycG,?_⟩
  rw[El]
  have:=h.r i h2
  rwa[BB h2] at this)
 refine⟨aV aX k (.cells ycH ycH ycH 1 (ie (jt k T.length) W)),?_,fun j hj J5=>?_⟩
 .rw [LV,LW,h.m,abb e1];exact oS ycH (by rw[List.length_zipWith,h.l,Nat.min_self,yk]) (by decide)
 .rw [PQ,yx hj];refine g1 j (fun hm=>?_);obtain⟨i,hi,e⟩:=vW.1 hm;rw[El] at e;rw[lc] at hi;exact J5 i hi e.symm
end
section
variable {tm:Env}{H J:Hp}{live pre:List Nat}{B ct:Nat}
def Ef{i:Nat}{o:Obj}:ai J i=D5 o->ai (J++H) i=D5 o:=by
 induction J with
 | nil=>intro h;cases h
 | cons p r ih=>
  obtain⟨j,u⟩:=p;intro h;by_cases e:j=i
  .subst e;rw[ym,ff];rw[ff] at h;exact h
  .rw [ym,di _ _ e];rw[di _ _ e] at h;exact ih h
def Qi(hp:Hp)(f:Nat->Option Nat)(B:Nat)(H:Hp):∀(seen:List Nat) (k:Nat) (J:Hp),B<=k->(∀p,p∈J->B<=p.1)->∃J',dP hp f seen k (J++H)=J'++H/\∀p,p∈J'->B<=p.1
 | [],k,J,_,hJ=>⟨J,rfl,hJ⟩
 | id::r,k,J,hk,hJ=>by
  rw[dP]
  cases ai hp id with
  | none=>exact Qi hp f B H r (k+1) J (by omega) hJ
  | some o=>
   simp only;rw[<-ym]
   exact Qi hp f B H r (k+1) ((k,fC f o)::J) (by omega) (fun p an=>by
    rcases xn.1 an with rfl | h
    .exact hk
    .exact hJ p h)
def ajZ(hp:Hp)(f:Nat->Option Nat)(H:Hp):∀(seen:List Nat) (k j:Nat) (h:j<seen.length) (o:Obj),ai hp seen[j]=D5 o->ai (dP hp f seen k H) (k+j)=D5 (fC f o):=fun seen k j h o ho=>PR hp f seen k H j h o ho
def L7(B:Nat)(hp:Hp):∀(ids seen b6:List Nat) (n:Nat),ids.length<n->(∀i,i∈ids->B<=i/\∃o,ai hp i=D5 o/\gD o=[])->ids.Nodup->(∀i,i∈ids->i∉seen)->iN B hp n (ids++b6) seen=iN B hp (n-ids.length) b6 (seen++ids)
 | [],seen,b6,n,_,_,_,_=>by simp
 | i::ids,seen,b6,0,h,_,_,_=>by simp at h
 | i::ids,seen,b6,n+1,h,h1,h2,h3=>by
  obtain⟨hb,o,g,e⟩:=h1 i wm;have hn:=wi.1 h2
  rw[ym,Sy _ _ _ _ hb,QL (h3 i wm),RW,g,RX,e,yD,L7 B hp ids (seen++[i]) b6 n (by simpa using h) (fun j hj=>h1 j (xG _ hj)) hn.2 (fun j hj hm=>by
   rcases xD.1 hm with hm | hm
   .exact h3 j (xG _ hj) hm
   .simp only [xy] at hm
    subst hm;exact hn.1 hj)]
  simp only[yH,xr,ym,yD];rw[show n+1-(ids.length+1)=n-ids.length by omega]
def QQ(B:Nat)(hp:Hp):∀(l:List Nat) (n:Nat) (seen:List Nat),l.length<n->(∀i,i∈l->i<B)->iN B hp n l seen=seen
 | [],n,seen,h,_=>by
  obtain⟨m,rfl⟩:∃m,n=m+1:=⟨n-1,by simp at h;omega⟩;rfl
 | i::l,n,seen,h,h1=>by
  obtain⟨m,rfl⟩:∃m,n=m+1:=⟨n-1,by simp at h;omega⟩;rw[Sx _ _ _ _ (h1 i (by simp))];exact QQ B hp l m seen (by simpa using h) (fun j hj=>h1 j (by simp[hj]))
def XA{seen:List Nat}(hJ:∀p,p∈J->B<=p.1)(ho:ef B B H)(hr:iN B (J++H) 100000 (ck (aY tm live)++bH B H) []=seen):
  ∃J',bg live ⟨tm,J++H,ct,B⟩=⟨dt (bd B seen) (aY tm live),J'++H,B+seen.length,B⟩/\(∀p,p∈J'->B<=p.1)/\∀j (h:j<seen.length) o,ai J seen[j]=D5 o->ai (J'++H) (B+j)=D5 (fC (bd B seen) o):=by
 have e1:eM B (bd B seen) (J++H)=H:=by
  rw[Qf hJ,KT (fun x hx=>IQ _ hx) ho]
 obtain⟨J',h1,h2⟩:=Qi (J++H) (bd B seen) B H seen B [] (yq B) (fun p h=>by cases h);rw[yD] at h1;have e2:reach (J++H) B 100000 (ck (aY tm live)++bH B (J++H)) []=seen:=by rw[KU hJ];exact hr
 refine⟨J',?_,h2,fun j h o hg=>?_⟩
 .have e3:fA B seen=bd B seen:=rfl;simp only[bg,e2,e3,e1,h1]
 .rw [<-h1];exact ajZ (J++H) (bd B seen) H seen B j h o (Ef hg)
def aav{tm':Env}(hJ:∀p,p∈J->B<=p.1)(ho:ef B B H)(h0:(bH B H).length<=50000)(hE:ck (aY tm live)=pre)(hp0:∀i,i∈pre->B<=i/\∃rw ex z cs,ai J i=D5 (.cells rw ycG ex z cs))(hM:pre.length<=1000)(hn:pre.Nodup)(hT:∀S,(∀j,j<B->bd B S j=D5 j)->(∀i (h:i<pre.length),bd B S pre[i]=D5 (B+i))->dt (bd B S) (aY tm live)=tm'):
  ∃J',bg live ⟨tm,J++H,ct,B⟩=⟨tm',J'++H,B+pre.length,B⟩/\(∀p,p∈J'->B<=p.1)/\∀i (h:i<pre.length) rw ex z cs,ai J pre[i]=D5 (.cells rw ycG ex z cs)->ai (J'++H) (B+i)=D5 (.cells rw ycG ex z cs):=by
 have hR:iN B (J++H) 100000 (ck (aY tm live)++bH B H) []=pre:=by
  rw[hE,L7 B (J++H) pre [] _ 100000 (by omega) (fun i hi=>by obtain⟨hb,_,_,_,_,h⟩:=hp0 i hi;exact⟨hb,_,Ef h,rfl⟩) hn (by simp),yD]
  exact QQ B _ _ _ _ (by omega) (Eb (yq B) ho)
 obtain⟨J',e,g1,g2⟩:=XA (ct:=ct) hJ ho hR;refine⟨J',?_,g1,fun i h cm ex z cs hg=>?_⟩
 .rw [e,hT pre (fun j hj=>IQ _ hj) (fun i h=>by
   rw[Sz _ (hp0 _ (vv h)).1,Et pre B i h hn])]
 .rw [g2 i h _ hg,Il]
def L8{tm':Env}{a k:Nat}{ids post W:List Nat}{T:List (List AV)}(hJ:∀p,p∈J->B<=p.1)(ho:ef B B H)(h0:(bH B H).length<=50000)(hE:ck (aY tm live)=pre++a::post)(hk:pre.length=k)(hp0:∀i,i∈pre++post->B<=i/\∃rw ex z cs,ai J i=D5 (.cells rw ycG ex z cs))(hBa:B<=a)(hm:ai J a=D5 (.cells ycG ycH ycH 1 (ie ids W)))(hl:ids.length=T.length)(hW:W.length=T.length)(hr:∀i (h:i<ids.length),B<=ids[i]/\ai J ids[i]=D5 (.cells ycG ycG ycH 1 (gT T i)))(hM:k+T.length+post.length<=1000)(hn:(pre++a::(ids++post)).Nodup)(hT:∀S,(∀j,j<B->bd B S j=D5 j)->(∀i (h:i<pre.length),bd B S pre[i]=D5 (B+i))->bd B S a=D5 (B+k)->(∀i (h:i<post.length),bd B S post[i]=D5 (B+k+1+T.length+i))->dt (bd B S) (aY tm live)=tm'):
  ∃J',bg live ⟨tm,J++H,ct,B⟩=⟨tm',J'++H,B+(k+1+T.length+post.length),B⟩/\(∀p,p∈J'->B<=p.1)/\qB (J'++H) (B+k) W T/\(∀i (h:i<pre.length) rw ex z cs,ai J pre[i]=D5 (.cells rw ycG ex z cs)->ai (J'++H) (B+i)=D5 (.cells rw ycG ex z cs))/\
   ∀i (h:i<post.length) rw ex z cs,ai J post[i]=D5 (.cells rw ycG ex z cs)->ai (J'++H) (B+k+1+T.length+i)=D5 (.cells rw ycG ex z cs):=by
 obtain⟨n1,n2,n3⟩:=uH.1 hn;obtain⟨n4,n5⟩:=wi.1 n2;have hR:iN B (J++H) 100000 (ck (aY tm live)++bH B H) []=pre++a::(ids++post):=by
  rw[hE,xr,L7 B (J++H) pre [] _ 100000 (by omega) (fun i hi=>by obtain⟨hb,_,_,_,_,h⟩:=hp0 i (by simp[hi]);exact⟨hb,_,Ef h,rfl⟩) n1 (by simp),yD]
  obtain⟨m,gP⟩:∃m,100000-pre.length=m+1:=⟨100000-pre.length-1,by omega⟩;have dV:∀i,i∈ids++post->i∉pre++[a]:=fun i hi iD=>by
   rcases xD.1 iD with h | h
   .exact n3 i h i (xG _ hi) rfl
   .rw [xy.1 h] at hi;exact n4 hi
  rw[gP,ym,Sy _ _ _ _ hBa,QL (fun h=>n3 a h a wm rfl),RW,Ef hm,RX,Q5,ajY (by omega),<-xr,L7 B (J++H) (ids++post) (pre++[a]) _ m (by rw[yC];omega) (fun i hi=>by
   rcases xD.1 hi with h | h
   .obtain ⟨j,hj,rfl⟩:=vW.1 h;exact⟨(hr j hj).1,_,Ef (hr j hj).2,rfl⟩
   .obtain ⟨hb,_,_,_,_,h⟩:=hp0 i (by simp[h])
    exact⟨hb,_,Ef h,rfl⟩) n5 dV,QQ B _ _ _ _ (by rw[yC];omega) (Eb (yq B) ho)]
  simp
 obtain⟨J',e,g1,g2⟩:=XA (ct:=ct) hJ ho hR;have ls:(pre++a::(ids++post)).length=k+1+T.length+post.length:=by simp;omega
 have pp:∀j (h:j<(pre++a::(ids++post)).length),B<=(pre++a::(ids++post))[j]->bd B (pre++a::(ids++post)) (pre++a::(ids++post))[j]=D5 (B+j):=fun j h hb=>by
  rw[Sz _ hb,Et _ B j h hn]
 have sP:∀i (h:i<pre.length),(pre++a::(ids++post))[i]'(by simp;omega)=pre[i]:=fun i h=>wv h
 have sA:(pre++a::(ids++post))[k]'(by simp;omega)=a:=by
  rw[xV (by omega)];simp[hk]
 have sI:∀i (h:i<ids.length),(pre++a::(ids++post))[k+1+i]'(by simp;omega)=ids[i]:=fun i h=>by
  rw[xV (by omega)];simp only[hk,show k+1+i-k=i+1 by omega,vm];exact wv h
 have sQ:∀i (h:i<post.length),(pre++a::(ids++post))[k+1+T.length+i]'(by simp;omega)=post[i]:=fun i h=>by
  rw[xV (by omega)];simp only[hk,show k+1+T.length+i-k=(T.length+i)+1 by omega,vm];rw[xV (by omega)];simp[hl]
 have qI:∀i (h:i<ids.length),bd B (pre++a::(ids++post)) ids[i]=D5 (B+k+1+i):=fun i h=>by
  have:=pp (k+1+i) (by simp;omega)
  rw[sI i h] at this;rw[this (hr i h).1];congr 1;omega
 refine⟨J',?_,g1,⟨hW,?_,fun i hi=>?_⟩,fun i hi cm ex z cs hg=>?_,fun i hi cm ex z cs hg=>?_⟩
 .rw [e,ls,hT _ (fun j hj=>IQ _ hj) (fun i h=>by
   have:=pp i (by simp;omega)
   rw[sP i h] at this;exact this (hp0 _ (by simp)).1) (by
   have:=pp k (by simp;omega)
   rw[sA] at this;exact this hBa) (fun i h=>by
   have:=pp (k+1+T.length+i) (by simp;omega)
   rw[sQ i h] at this
   rw[this (hp0 _ (by simp)).1];congr 1;omega)]
 .have:=g2 k (by simp;omega) _ (by rw[sA];exact hm)
  rw[this,aaO,amd (B+k+1) (by omega) (fun i h=>qI i h),hl];rfl
 .have:=g2 (k+1+i) (by simp;omega) _ (by rw[sI i (by omega)];exact (hr i (by omega)).2)
  rw[show B+k+1+i=B+(k+1+i) by omega,this,Il]
 .have:=g2 i (by simp;omega) _ (by rw[sP i hi];exact hg)
  rw[this,Il]
 .have:=g2 (k+1+T.length+i) (by simp;omega) _ (by rw[sQ i hi];exact hg)
  rw[show B+k+1+T.length+i=B+(k+1+T.length+i) by omega,this,Il]
end
section
variable {H J:Hp}{j:Nat}
def aj0{b n:Nat}(h:ef b n H)(hj:b<=j):ai H j=none:=by
 induction H with
 | nil=>rfl
 | cons p r ih=>
  obtain⟨i,o⟩:=p
  have:=h.1
  rw[di _ _ (by omega)];exact ih h.2.2
def mK{B:Nat}(h:ef B B H)(hj:B<=j):ai (J++H) j=ai J j:=by
 induction J with
 | nil=>rw[yD,aj0 h hj];rfl
 | cons p r ih=>
  obtain⟨i,o⟩:=p;by_cases e:i=j
  .subst e;rw[ym,ff,ff]
  .rw [ym,di _ _ e,di _ _ e,ih]
def Zs{b n:Nat}(h:ef b n H)(hj:b<=j):cl H j=H:=by
 induction H with
 | nil=>rfl
 | cons p r ih=>
  obtain⟨i,o⟩:=p
  have:=h.1
  rw[AY _ _ (by omega),ih h.2.2]
def Hw{B:Nat}(h:ef B B H)(hj:B<=j):cl (J++H) j=cl J j++H:=by
 induction J with
 | nil=>rw[yD,Zs h hj];rfl
 | cons p r ih=>
  obtain⟨i,o⟩:=p;by_cases e:i=j
  .subst e;rw[ym,Hr,Hr,ih]
  .rw [ym,AY _ _ e,AY _ _ e,ih];rfl
def Zt{p:Nat×Obj}(h:p∈cl J j):p∈J:=by
 induction J with
 | nil=>exact h
 | cons q r ih=>
  obtain⟨i,o⟩:=q;by_cases e:i=j
  .subst e;rw[Hr] at h;exact xG _ (ih h)
  .rw [AY _ _ e] at h;rcases xn.1 h with rfl | h
   .simp
   .exact xG _ (ih h)
end
def zr(r:Nat):Nat:=if r=0 then 0 else 1+r
def rB(B r:Nat):List Nat:=if r=0 then [] else [B+1]
def awX:zr 0=0:=rfl
def Oj(r:Nat):zr (r+1)=r+2:=by unfold zr;rw[yx (by omega)];omega
def Uj(B:Nat):rB B 0=[]:=rfl
def Uk(B r:Nat):rB B (r+1)=[B+1]:=by unfold rB;rw[yx (by omega)]
section
variable {live:List Nat}{tm tm':Env}{J H:Hp}{ct B r x:Nat}{W:List Nat}{T:List (List AV)}{cs:List AV}
def ame(hJ:∀p,p∈J->B<=p.1)(ho:ef B B H)(h0:(bH B H).length<=50000)(hb:∃rw ex z kB,ai J B=D5 (.cells rw ycG ex z kB))(hM:0<r->qB (J++H) (B+1) W T)(hl:T.length=r)(hr:r<=900)(hx:ai J x=D5 (.cells ycG ycG ycH 1 cs))(GU:B+1+zr r<=x)(hE:ck (aY tm live)=B::(rB B r++[x]))(hT:∀S,bd B S B=D5 B->(0<r->bd B S (B+1)=D5 (B+1))->bd B S x=D5 (B+1+zr r)->dt (bd B S) (aY tm live)=tm'):
  ∃J',bg live ⟨tm,J++H,ct,B⟩=⟨tm',J'++H,B+1+zr r+1,B⟩/\(∀p,p∈J'->B<=p.1)/\(∀rw ex z kB,ai J B=D5 (.cells rw ycG ex z kB)->ai (J'++H) B=D5 (.cells rw ycG ex z kB))/\(0<r->qB (J'++H) (B+1) W T)/\ai (J'++H) (B+1+zr r)=D5 (.cells ycG ycG ycH 1 cs):=by
 cases r with
 | zero=>
  rw[Uj,yD] at hE;rw[awX] at GU;obtain⟨J',e,g1,g2⟩:=aav (pre:=[B,x]) (tm':=tm') (ct:=ct) hJ ho h0 hE (fun i hi=>by
   rcases xn.1 hi with rfl | hi
   .exact ⟨yq _,hb⟩
   .rw [xy.1 hi];exact⟨by omega,_,_,_,_,hx⟩) (by simp) (by simp;omega) (fun S _ h=>hT S (h 0 (by simp)) (fun q=>by omega) (h 1 (by simp)))
  exact⟨J',by rw[e];rfl,g1,fun cm ex z kB h=>g2 0 (by simp) _ _ _ _ h,fun q=>by omega,g2 1 (by simp) _ _ _ _ hx⟩
 | succ r=>
  rw[Uk,vQ] at hE;rw[Oj] at GU ⊢;have hM:=hM (by omega);have FH:T.length=r+1:=hl;obtain⟨J',e,g1,g2,g3,g4⟩:=L8 (k:=1) (pre:=[B]) (post:=[x]) (a:=B+1) (ids:=jt (B+1) (r+1)) (W:=W) (T:=T) (tm':=tm') (ct:=ct) hJ ho h0 hE rfl (fun i hi=>by
   rcases xn.1 hi with rfl | hi
   .exact ⟨yq _,hb⟩
   .rw [xy.1 hi];exact⟨by omega,_,_,_,_,hx⟩) (by omega) (by rw[<-mK ho (by omega),hM.m,hl]) (by rw[lc,hl]) hM.l (fun i hi=>by
   rw[El];rw[lc] at hi;refine⟨by omega,?_⟩;rw[<-mK ho (by omega)];exact hM.r i (by omega)) (by simp;omega) (by
   have iD:∀j,j∈jt (B+1) (r+1)->B+2<=j/\j<B+2+(r+1):=fun j hj=>by
    have:=vJ.1 hj;omega
   rw[vQ];refine wi.2 ⟨fun h=>?_,wi.2 ⟨fun h=>?_,uH.2 ⟨vK,by simp,fun a ha b hb=>?_⟩⟩⟩
   .rcases xn.1 h with h | h
    .omega
    .rcases xD.1 h with h | h
     .have:=iD _ h;omega
     .rw [xy] at h;omega
   .rcases xD.1 h with h | h
    .have:=iD _ h;omega
    .rw [xy] at h;omega
   .have:=iD _ ha
    rw[xy] at hb;omega) (fun S _ h1 h2 h3=>hT S (h1 0 (by simp)) (fun _=>h2) (by
    have:=h3 0 (by simp)
    rw[show B+1+1+T.length+0=B+1+(r+2) by omega] at this
    rw[Oj];exact this))
  refine⟨J',by rw[e,show B+(1+1+T.length+[x].length)=B+1+(r+2)+1 by simp;omega],g1,fun cm ex z kB h=>g3 0 (by simp) _ _ _ _ h,fun _=>g2,?_⟩
  have:=g4 0 (by simp) _ _ _ _ hx
  rwa[show B+1+1+T.length+0=B+1+(r+2) by omega] at this
def aj1(hJ:∀p,p∈J->B<=p.1)(ho:ef B B H)(h0:(bH B H).length<=50000)(hb:∃rw ex z kB,ai J B=D5 (.cells rw ycG ex z kB))(hM:0<r->qB (J++H) (B+1) W T)(hl:T.length=r)(hr:r<=900)(hE:ck (aY tm live)=B::rB B r)(hT:∀S,bd B S B=D5 B->(0<r->bd B S (B+1)=D5 (B+1))->dt (bd B S) (aY tm live)=tm'):
  ∃J',bg live ⟨tm,J++H,ct,B⟩=⟨tm',J'++H,B+1+zr r,B⟩/\(∀p,p∈J'->B<=p.1)/\(∀rw ex z kB,ai J B=D5 (.cells rw ycG ex z kB)->ai (J'++H) B=D5 (.cells rw ycG ex z kB))/\(0<r->qB (J'++H) (B+1) W T):=by
 cases r with
 | zero=>
  rw[Uj] at hE;obtain⟨J',e,g1,g2⟩:=aav (pre:=[B]) (tm':=tm') (ct:=ct) hJ ho h0 hE (fun i hi=>by
   rw[xy.1 hi];exact⟨yq _,hb⟩) (by simp) (by simp) (fun S _ h=>hT S (h 0 (by simp)) (fun q=>by omega))
  exact⟨J',by rw[e];rfl,g1,fun cm ex z kB h=>g2 0 (by simp) _ _ _ _ h,fun q=>by omega⟩
 | succ r=>
  rw[Uk] at hE;rw[Oj];have hM:=hM (by omega);obtain⟨J',e,g1,g2,g3,g4⟩:=L8 (k:=1) (pre:=[B]) (post:=[]) (a:=B+1) (ids:=jt (B+1) (r+1)) (W:=W) (T:=T) (tm':=tm') (ct:=ct) hJ ho h0 hE rfl (fun i hi=>by
   have cX:i=B:=by simpa using hi
   rw[cX];exact⟨yq _,hb⟩) (by omega) (by rw[<-mK ho (by omega),hM.m,hl]) (by rw[lc,hl]) hM.l (fun i hi=>by
   rw[El];rw[lc] at hi;refine⟨by omega,?_⟩;rw[<-mK ho (by omega)];exact hM.r i (by omega)) (by simp;omega) (by
   have iD:∀j,j∈jt (B+1) (r+1)->B+2<=j/\j<B+2+(r+1):=fun j hj=>by
    have:=vJ.1 hj;omega
   rw[vQ,wj];refine wi.2 ⟨fun h=>?_,wi.2 ⟨fun h=>?_,vK⟩⟩
   .rcases xn.1 h with h | h
    .omega
    .have:=iD _ h;omega
   .have:=iD _ h;omega) (fun S _ h1 h2 _=>hT S (h1 0 (by simp)) (fun _=>h2))
  exact⟨J',by rw[e,show B+(1+1+T.length+([]:List Nat).length)=B+1+(r+2) by simp;omega],g1,fun cm ex z kB h=>g3 0 (by simp) _ _ _ _ h,fun _=>g2⟩
end
def oP(m:List (List Rat)):List (List (List Nat)):=m.map fun r=>r.map RT
def kw(p:Nat->Nat->Rat)(S n r:Nat):List Rat:=(wE n).map fun k=>p k r
def mA(p:Nat->Nat->Rat)(S n:Nat):List (List Rat):=(wE n).map fun r=>kw p S S r
def aaw(m:List (List Rat)):(oP m).length=m.length:=by simp[oP]
def amf(p:Nat->Nat->Rat)(S n r:Nat):(kw p S n r).length=n:=by simp[kw]
def Zu(p:Nat->Nat->Rat)(S n:Nat):(mA p S n).length=n:=by simp[mA]
def aj2(p:Nat->Nat->Rat)(S n r:Nat):kw p S (n+1) r=kw p S n r++[p n r]:=by unfold kw;rw[tZ,xk];rfl
def aj3(p:Nat->Nat->Rat)(S n:Nat):mA p S (n+1)=mA p S n++[kw p S S n]:=by unfold mA;rw[tZ,xk];rfl
def D4(C R S:Nat):Obj:=.cells ycG ycG ycG 3 [aa C,aa R,aa S]
def amg{p:Nat->Nat->Rat}{S r k:Nat}(hk:k<(kw p S S r).length):(kw p S S r)[k]=p k r:=by simp[kw]
def aoM{p:Nat->Nat->Rat}{S r:Nat}(hr:r<(oP (mA p S S)).length):(oP (mA p S S))[r]=(kw p S S r).map RT:=by simp[oP,mA]
section
variable {tm tm':Env}{H J:Hp}{T:List (List AV)}{F:List (List Nat)}{cs:List AV}{W live:List Nat}{B C R S ct r:Nat}
def nE(p:Nat->Nat->Rat)(S n r:Nat):List AV:=(kw p S n r).map fun x=>.str (RT x)
def aax(p:Nat->Nat->Rat)(S n r:Nat):(nE p S n r).length=n:=by simp[nE,kw]
def amh(p:Nat->Nat->Rat)(S n r:Nat):nE p S (n+1) r=nE p S n r++[.str (RT (p n r))]:=by unfold nE;rw[aj2,xk];rfl
def asF(p:Nat->Nat->Rat)(S n r:Nat):aD (nE p S n r)=ycG:=by
 unfold nE
 induction kw p S n r with
 | nil=>rfl
 | cons x l ih=>exact ih
def o9(B r:Nat):AV:=if r=0 then .ah else .av (B+1) 0 r
def awY(B:Nat):o9 B 0=.ah:=rfl
def Ul(B r:Nat):o9 B (r+1)=.av (B+1) 0 (r+1):=by unfold o9;rw[yx (by omega)]
def lM(v:AV)(B a b r:Nat):Env:=[(1,v),(3,.ptr B 0),(7,aa a),(8,aa b),(9,o9 B r),(10,aa r)]
structure dU(H J:Hp)(B C R S r:Nat)(W:List Nat)(T:List (List AV)):Prop where
 hJ:∀p,p∈J->B<=p.1
 bx:ai (J++H) B=D5 (D4 C R S)
 m:0<r->qB (J++H) (B+1) W T
 l:T.length=r
def L9(B r:Nat):refs (o9 B r)=rB B r:=by
 cases r with
 | zero=>rfl
 | succ r=>rw[Ul,Uk];rfl
def MB{f:Nat->Option Nat}(h:0<r->f (B+1)=D5 (B+1)):bi f (o9 B r)=o9 B r:=by
 cases r with
 | zero=>rfl
 | succ r=>rw[Ul];simp[bi,h (by omega)]
def M4{i:Nat}(h:i<r):i+1<zr r:=by
 unfold zr;rw[yx (by omega)];omega
def dU.mono{J2:Hp}(hM:dU H J B C R S r W T)(hJ:∀p,p∈J2->B<=p.1)(hg:∀j,j<B+1+zr r->ai (J2++H) j=ai (J++H) j):dU H J2 B C R S r W T:=
 ⟨hJ,by rw[hg B (by omega)];exact hM.bx,fun h0=>by
  have m:=hM.m h0;have h1:=M4 h0;refine⟨m.l,by rw[hg _ (by omega)];exact m.m,fun i hi=>?_⟩
  have h2:=M4 (r:=r) (i:=i) (by rw[<-hM.l];exact hi)
  rw[hg _ (by omega)];exact m.r i hi,hM.l⟩
def dU.cons{id:Nat}{o:Obj}(hM:dU H J B C R S r W T)(h:B+1+zr r<=id):dU H ((id,o)::J) B C R S r W T:=
 hM.mono (fun p hp=>by
  rcases xn.1 hp with rfl | hp
  .show B<=id;omega
  .exact hM.hJ p hp) fun j hj=>by rw[ym,di _ _ (by omega)]
def dU.del{id:Nat}(hM:dU H J B C R S r W T)(ho:ef B B H)(h:B+1+zr r<=id):dU H (cl J id) B C R S r W T:=
 hM.mono (fun p hp=>hM.hJ p (Zt hp)) fun j hj=>by rw[<-Hw ho (by omega),CA,yx (by omega)]
def dU.row{x:Nat}(hM:dU H J B C R S r W T)(ho:ef B B H)(h0:(bH B H).length<=50000)(hr:r<=900)(hx:ai (J++H) x=D5 (.cells ycG ycG ycH 1 cs))(GU:B+1+zr r<=x)(hE:ck (aY tm live)=B::(rB B r++[x]))(hT:∀S,bd B S B=D5 B->(0<r->bd B S (B+1)=D5 (B+1))->bd B S x=D5 (B+1+zr r)->dt (bd B S) (aY tm live)=tm'):
  ∃J',bg live ⟨tm,J++H,ct,B⟩=⟨tm',J'++H,B+1+zr r+1,B⟩/\dU H J' B C R S r W T/\ai (J'++H) (B+1+zr r)=D5 (.cells ycG ycG ycH 1 cs):=by
 have hb:ai J B=D5 (D4 C R S):=by rw[<-mK ho (yq B)];exact hM.bx
 obtain⟨J',e,g1,g2,g3,g4⟩:=ame (ct:=ct) (tm':=tm') hM.hJ ho h0 ⟨_,_,_,_,hb⟩ hM.m hM.l hr (by rw[<-mK ho (by omega)];exact hx) GU hE hT
 exact⟨J',e,⟨g1,g2 _ _ _ _ hb,g3,hM.l⟩,g4⟩
def dU.fin{x k e:Nat}{Q:Hp->Prop}(hM:dU H J B C R S r W T)(ho:ef B B H)(h0:(bH B H).length<=50000)(hr:r<=900)(hx:ai (J++H) x=D5 (.cells ycG ycG ycH 1 cs))(GU:B+1+zr r<=x)(hk:k+1+e=S)(hE:ck (aY tm live)=B::(rB B r++[x]))(hT:∀S,bd B S B=D5 B->(0<r->bd B S (B+1)=D5 (B+1))->bd B S x=D5 (B+1+zr r)->dt (bd B S) (aY tm live)=tm'):
  ∃J',k+1+e=S/\dU H J' B C R S r W T/\((k+1=0/\Q J')\/(0<k+1/\bg live ⟨tm,J++H,ct,B⟩=⟨tm',J'++H,B+1+zr r+1,B⟩/\ai (J'++H) (B+1+zr r)=D5 (.cells ycG ycG ycH 1 cs))):=by
 obtain⟨J',g1,g2,g3⟩:=hM.row (ct:=ct) (tm':=tm') ho h0 hr hx GU hE hT;exact⟨J',hk,g2,.inr ⟨by omega,g1,g3⟩⟩
def dU.aet(hM:dU H J B C R S r W T)(ho:ef B B H)(h0:(bH B H).length<=50000)(hr:r<=900)(hE:ck (aY tm live)=B::rB B r)(hT:∀S,bd B S B=D5 B->(0<r->bd B S (B+1)=D5 (B+1))->dt (bd B S) (aY tm live)=tm'):
  ∃J',bg live ⟨tm,J++H,ct,B⟩=⟨tm',J'++H,B+1+zr r,B⟩/\dU H J' B C R S r W T:=by
 have hb:ai J B=D5 (D4 C R S):=by rw[<-mK ho (yq B)];exact hM.bx
 obtain⟨J',e,g1,g2,g3⟩:=aj1 (ct:=ct) (tm':=tm') hM.hJ ho h0 ⟨_,_,_,_,hb⟩ hM.m hM.l hr hE hT;exact⟨J',e,⟨g1,g2 _ _ _ _ hb,g3,hM.l⟩⟩
def aay(h:Fy P L){v:AV}{n m c:Nat}(hv:bC bP v F)(hF:ek F n m)(hc:c<m)(hr:r<n):∃w rest bits,jn 1 r v=D5 (.bJ (w::rest))/\(∃M5,jn 1 c w=D5 (.bJ (.au .f32 bits::M5)))/\af P L 429 [.au .f32 bits] (.str (RT (aT F c r))):=by
 obtain⟨bq,jw,e,f1,f2⟩:=hF.at hr hc;obtain⟨w,rest,hw,e0⟩:=hv.bD bq;have hw:b7 w (cN F[r]):=hw;have e1:=hw.bD (i:=c) (by simpa using jw);rw[Hv jw] at e1;obtain⟨s,M,hb,eq⟩:=SA f2 f1
 have:=awt h hb
 rw[<-eq,<-e] at this;exact⟨w,rest,_,e0,⟨_,e1⟩,this⟩
def asG(h:Fy P L){v:AV}{a b:Nat}(hv:bC bP v F)(hF:ek F (R*S) (C*S))(hC:C<=8)(hR:R<=8)(hS:S<=8)(lU:0<S)(ha:a<C)(hb:b<R)(hr:r<S)(ho:ef B B H)(h0:(bH B H).length<=50000):
  cP P L [1,3,7,8,9,10,11,12] EM (fun d st=>∃k J,k+d=S/\dU H J B C R S r W T/\((k=0/\st=⟨lM v B a b r++[(11,.ah),(12,aa k)],J++H,B+1+zr r,B⟩)\/(0<k/\st=⟨lM v B a b r++[(11,.av (B+1+zr r) 0 k),(12,aa k)],J++H,B+1+zr r+1,B⟩/\ai (J++H) (B+1+zr r)=D5 (.cells ycG ycG ycH 1 (nE (fun k r=>aT F (a*S+k) (b*S+r)) S k r))))) (fun ex s'=>∃tm J ct,s'=⟨tm,J++H,ct,B⟩/\ex=.exit 2/\dU H J B C R S r W T/\ai (J++H) (B+1+zr r)=D5 (.cells ycG ycG ycH 1 (nE (fun k r=>aT F (a*S+k) (b*S+r)) S S r))/\aY tm [1,3,7,8,9,10,11]=lM v B a b r++[(11,.av (B+1+zr r) 0 S)]):=by
 apply cT;rintro d st ⟨k,J,VV,hM,aQ⟩;have Cr:=hM.bx;simp only[D4] at Cr;by_cases hk:k<S
 .left
  have hbS:b*S<=8*8:=xd (by omega) hS;have haS:a*S<=8*8:=xd (by omega) hS;obtain⟨w,rest,bits,e0,⟨M5,e1⟩,e2⟩:=aay h hv hF (ml ha hk) (ml hb hr);have q1:(b:Int)*(S:Int)=((b*S:Nat):Int):=by rw[xx]
  have q2:(a:Int)*(S:Int)=((a*S:Nat):Int):=by rw[xx]
  have q3:((b*S:Nat):Int)+(r:Int)=((b*S+r:Nat):Int):=by omega
  have q4:((a*S:Nat):Int)+(k:Int)=((a*S+k:Nat):Int):=by omega
  have w1:IntKind.wrap .i64 ((b*S:Nat):Int)=((b*S:Nat):Int):=wrap64 (by omega) (by omega);have w2:IntKind.wrap .i64 ((a*S:Nat):Int)=((a*S:Nat):Int):=wrap64 (by omega) (by omega);have w3:IntKind.wrap .i64 ((b*S+r:Nat):Int)=((b*S+r:Nat):Int):=wrap64 (by omega) (by omega);have w4:IntKind.wrap .i64 ((a*S+k:Nat):Int)=((a*S+k:Nat):Int):=wrap64 (by omega) (by omega);have w5:IntKind.wrap .i64 ((k:Int)+1)=((k+1:Nat):Int):=wrap64 (by omega) (by omega);have ju:(k:Int)<S:=by omega
  have zf:=amh (fun k r=>aT F (a*S+k) (b*S+r)) S k r;have aBa:∃rw ex z kB,ai J B=D5 (.cells rw ycG ex z kB):=⟨_,_,_,_,by rw[<-mK ho (yq B)];exact hM.bx⟩
  have fZ:=asF (fun k r=>aT F (a*S+k) (b*S+r)) S k r;have hln:=aax (fun k r=>aT F (a*S+k) (b*S+r)) S k r;unfold af at e2;generalize RT (aT F (a*S+k) (b*S+r))=tx at*
  rcases aQ with ⟨oM,rfl⟩ | ⟨oM,rfl,hx⟩
  .subst oM;simp only[go_sem,ya,xA,yB,yp,yk,EM,lM,ym,yD,Cr,a6,yd,yI,yh,ju,q1,q2,q3,q4,w1,w2,w3,w4,e0,e1,mQ,e2,mM,jl,w5];refine⟨_,d-1,rfl,by omega,0+1,?_⟩;rw[zf]
   refine dU.fin (J:=(B+1+zr r+1,.cells ycG ycG ycH 1 [.str tx])::(B+1+zr r,.cells ycG ycG ycG 1 [.str tx])::J) (x:=B+1+zr r+1) ((hM.cons (yq _)).cons (by omega)) ho h0 (by omega) (by rw[ym,ff];rfl) (by omega) (by omega) ?_ ?_
   .simp only [go_sem,ya,dj hv.pu,L9]
   .intro S' s1 s2 s3;simp only[go_sem,ya,yc,s1,s3,MB s2,oR _ hv.pu]<;>rfl
  .generalize As:nE (fun k r=>aT F (a*S+k) (b*S+r)) S k r=cs at*
   simp only[go_sem,ya,yp,yk,EM,lM,ym,yD,Cr,a6,yd,yI,yh,ju,q1,q2,q3,q4,w1,w2,w3,w4,e0,e1,mQ,e2,mM]
   rw[il (sz:=1) (ex:=ycH) (pu:=ycG) (cs:=cs) (by rw[di _ _ (by omega)];exact hx) (by rw[hln];omega) (by omega) (by omega) (by decide) (by simp only[go_sem])]
   simp only[go_sem,ya,w5];refine⟨_,d-1,rfl,by omega,k+1,?_⟩;rw[zf,AY _ _ (by omega),Hw ho (by omega)]
   refine dU.fin (J:=(B+1+zr r+1+1,.cells ycG ycG ycH 1 (cs++[.str tx]))::(B+1+zr r+1,.cells ycG ycG ycG 1 [.str tx])::cl J (B+1+zr r)) (k:=k) (e:=d-1) (x:=B+1+zr r+1+1) (((hM.del ho (yq _)).cons (by omega)).cons (by omega)) ho h0 (by omega) (by rw[ym,ff]) (by omega) (by omega) ?_ ?_
   .simp only [go_sem,ya,dj hv.pu,L9]
   .intro S' s1 s2 s3;simp only[go_sem,ya,s1,s3,MB s2,oR _ hv.pu]<;>rfl
 .right
  have V1:k=S:=by omega
  subst V1;rcases aQ with ⟨oM,rfl⟩ | ⟨oM,rfl,hx⟩
  .omega
  .simp only [go_sem,ya,EM,lM,ym,yD,Cr,a6,yd,yI,yh,show ¬(k:Int)<k by omega];exact⟨_,_,rfl,by simp,_,_,_,rfl,rfl,hM,hx,by simp only[go_sem,ya]<;>rfl⟩
end
section
variable {H:Hp}{T:List (List AV)}{cs:List AV}{W live:List Nat}{B C R S a r x:Nat}
def fN(p:Nat->Nat->Rat)(S n:Nat):List (List AV):=(wE n).map fun r=>nE p S S r
def Rr(p:Nat->Nat->Rat)(S n:Nat):(fN p S n).length=n:=by simp[fN]
def LH(p:Nat->Nat->Rat)(S n:Nat):fN p S (n+1)=fN p S n++[nE p S S n]:=by unfold fN;rw[tZ,xk];rfl
def Zv(p:Nat->Nat->Rat)(S n:Nat):(fN p S (n+1)).map xW=(fN p S n).map xW++[S]:=by rw[LH,xk,yV,wF,aax]
def ain(hx:x=B+1+zr r)(ha:x<a):(B::a::(jt (B+1) r++[x])).Nodup:=by
 have iD:∀j,j∈jt (B+1) r->B+2<=j/\j<x:=fun j hj=>by
  have h1:=vJ.1 hj;have h2:=M4 (r:=r) (i:=r-1) (by omega);omega
 refine wi.2 ⟨fun h=>?_,wi.2 ⟨fun h=>?_,uH.2 ⟨vK,by simp,fun p hp q hq=>?_⟩⟩⟩
 .rcases xn.1 h with h | h
  .omega
  .rcases xD.1 h with h | h
   .have:=iD _ h;omega
   .rw [xy] at h;omega
 .rcases xD.1 h with h | h
  .have:=iD _ h;omega
  .rw [xy] at h;omega
 .have:=iD _ hp
  rw[xy] at hq;omega
def dU.add{J J2:Hp}{n ct:Nat}{tm tm':Env}(hM:dU H J B C R S r W T)(hW:W.length=r)(ho:ef B B H)(h0:(bH B H).length<=50000)(hr:r<=900)(hx:x=B+1+zr r)(ha:x<a)(hJ:∀p,p∈J2->B<=p.1)(hg:∀j,B<=j->j<B+1+zr r->j≠B+1\/r=0->ai (J2++H) j=ai (J++H) j)(V2:ai (J2++H) x=D5 (.cells ycG ycG ycH 1 cs))(hm:ai (J2++H) a=D5 (.cells ycG ycH ycH 1 (ie (jt (B+1) r) W++[.av x 0 n])))(hE:ck (aY tm live)=[B,a])(hT:∀S,bd B S B=D5 B->bd B S a=D5 (B+1)->dt (bd B S) (aY tm live)=tm'):
  ∃J',bg live ⟨tm,J2++H,ct,B⟩=⟨tm',J'++H,B+1+zr (r+1),B⟩/\dU H J' B C R S (r+1) (W++[n]) (T++[cs]):=by
 have hb:ai J2 B=D5 (D4 C R S):=by rw[<-mK ho (yq B),hg B (yq B) (by omega) (.inl (by omega))];exact hM.bx
 have hl:=hM.l;obtain⟨J',e,g1,g2,g3,g4⟩:=L8 (k:=1) (pre:=[B]) (post:=[]) (a:=a) (ids:=jt (B+1) r++[x]) (W:=W++[n]) (T:=T++[cs]) (tm':=tm') (ct:=ct) hJ ho h0 hE rfl (fun i hi=>by
  have cX:i=B:=by simpa using hi
  rw[cX];exact⟨yq _,_,_,_,_,hb⟩) (by omega) (by rw[<-mK ho (by omega),hm,Zq (by rw[lc,hW])]) (by rw[yC,yC,lc,hl];rfl) (by rw[yC,yC,hW,hl];rfl) (fun i hi=>by
  rw[yC,lc] at hi;by_cases c:i<r
  .have h1:=M4 c;have h2:=(hM.m (by omega)).r i (by omega);rw[wv (by rw[lc];exact c),El]
   refine⟨by omega,?_⟩;rw[<-mK ho (by omega),hg _ (by omega) (by omega) (.inl (by omega)),h2,BB (by omega),BB (by simp;omega),wv (by omega)]
  .have cX:i=r:=by simp at hi;omega
   subst cX;rw[xV (by rw[lc];omega)];simp only[lc,Nat.sub_self,wO];refine⟨by omega,?_⟩;rw[<-mK ho (by omega),V2,BB (by simp;omega),xV (by omega)]
   simp[hl]) (by simp;omega) (by rw[vQ,wj];exact ain hx ha) (fun S _ h1 h2 _=>hT S (h1 0 (by simp)) h2)
 refine⟨J',by rw[e,Oj];simp;omega,g1,g3 0 (by simp) _ _ _ _ hb,fun _=>g2,by rw[yC,hl];rfl⟩
def dU.Oa{J J2:Hp}{n ct N e:Nat}{tm tm':Env}(hM:dU H J B C R S r W T)(hW:W.length=r)(ho:ef B B H)(h0:(bH B H).length<=50000)(hr:r<=900)(hx:x=B+1+zr r)(ha:x<a)(hJ:∀p,p∈J2->B<=p.1)(hg:∀j,B<=j->j<B+1+zr r->j≠B+1\/r=0->ai (J2++H) j=ai (J++H) j)(V2:ai (J2++H) x=D5 (.cells ycG ycG ycH 1 cs))(hm:ai (J2++H) a=D5 (.cells ycG ycH ycH 1 (ie (jt (B+1) r) W++[.av x 0 n])))(hN:r+1+e=N)(hE:ck (aY tm live)=[B,a])(hT:∀S,bd B S B=D5 B->bd B S a=D5 (B+1)->dt (bd B S) (aY tm live)=tm'):
  ∃J',r+1+e=N/\dU H J' B C R S (r+1) (W++[n]) (T++[cs])/\bg live ⟨tm,J2++H,ct,B⟩=⟨tm',J'++H,B+1+zr (r+1),B⟩:=by
 obtain⟨J',g1,g2⟩:=hM.add (ct:=ct) (tm':=tm') hW ho h0 hr hx ha hJ hg V2 hm hE hT;exact⟨J',hN,g2,g1⟩
def asH(h:Fy P L){v:AV}{F:List (List Nat)}{b:Nat}(hv:bC bP v F)(hF:ek F (R*S) (C*S))(hC:C<=8)(hR:R<=8)(hS:S<=8)(lU:0<S)(ha:a<C)(hb:b<R)(ho:ef B B H)(h0:(bH B H).length<=50000){p:Nat->Nat->Rat}(hp:p=fun k r=>aT F (a*S+k) (b*S+r)):
  cP P L [1,3,7,8,9,10] Ik (fun d st=>∃r J,r+d=S/\dU H J B C R S r ((fN p S r).map xW) (fN p S r)/\st=⟨lM v B a b r,J++H,B+1+zr r,B⟩) (fun ex s'=>∃tm J ct,s'=⟨tm,J++H,ct,B⟩/\ex=.exit 0/\dU H J B C R S S ((fN p S S).map xW) (fN p S S)/\aj tm 9=.av (B+1) 0 S):=by
 apply cT;rintro d st ⟨r,J,fb,hM,rfl⟩;have Cr:=hM.bx;simp only[D4] at Cr;by_cases hr:r<S
 .left
  have key:=asG h (W:=(fN p S r).map xW) (T:=fN p S r) hv hF hC hR hS lU ha hb hr ho h0;rw[<-hp] at key;simp only[go_sem,ya,Ik,lM,Cr,a6,yd,yI,yh,show (r:Int)<S by omega];obtain⟨J1,e1,GR⟩:=hM.aet (live:=[1,3,7,8,9,10,11,12]) (ct:=B+1+zr r) (tm:=[(12,aa (0:Nat)),(11,.ah),(24,.bool ycG),(23,aa S),(22,.ptr B 2),(21,aa r),(1,v),(3,.ptr B 0),(7,aa a),(8,aa b),(9,o9 B r),(10,aa r)]) (tm':=lM v B a b r++[(11,.ah),(12,aa (0:Nat))]) ho h0 (by omega) (by simp only[go_sem,ya,dj hv.pu,L9]<;>simp) (fun S' s1 s2=>by simp only[go_sem,ya,s1,MB s2,oR _ hv.pu]<;>rfl)
  generalize hq:D P L (.loop _ EM) _=q;obtain⟨ex,st,rfl,tm,J2,ct,rfl,rfl,V3,hx,gi⟩:=bF hq (key S) ⟨0,J1,by omega,GR,.inl ⟨rfl,e1⟩⟩;obtain⟨J3,e3,KC,hx3⟩:=V3.row (live:=[1,3,7,8,9,10,11]) (ct:=ct) (tm:=tm) (x:=B+1+zr r) (tm':=lM v B a b r++[(11,.av (B+1+zr r) 0 S)]) ho h0 (by omega) hx (yq _) (by rw[gi];simp only[go_sem,lM,ym,yD,dj hv.pu,L9]) (fun S' s1 s2 s3=>by rw[gi];simp only[go_sem,lM,ym,yD,s1,s3,MB s2,oR _ hv.pu]<;>rfl)
  have w5:IntKind.wrap .i64 ((r:Int)+1)=((r+1:Nat):Int):=wrap64 (by omega) (by omega);have Pf:((fN p S r).map xW).length=r:=by rw[yX,Rr]
  have iD:∀q,q∈J3->B<=q.1:=KC.hJ;simp only[go_sem,ya,e3];by_cases jS:r=0
  .subst jS;simp only[go_sem,ya,yc,xA,yB,yp,yk,lM,ym,yD,awY,mM,jl,w5];refine⟨_,d-1,rfl,by omega,0+1,?_⟩;rw[Zv,LH]
   refine dU.Oa (N:=S) (e:=d-1) (x:=B+1+zr 0) (a:=B+1+zr 0+1+1) (J2:=(B+1+zr 0+1+1,.cells ycG ycH ycH 1 [.av (B+1+zr 0) 0 S])::(B+1+zr 0+1,.cells ycG ycH ycG 1 [.av (B+1+zr 0) 0 S])::J3) KC Pf ho h0 (by omega) rfl (by omega) (fun q hq=>?_) (fun j j1 j2 _=>?_) ?_ ?_ (by omega) ?_ ?_
   .rcases xn.1 hq with rfl | hq
    .show B<=B+1+zr 0+1+1;omega
    rcases xn.1 hq with rfl | hq
    .show B<=B+1+zr 0+1;omega
    exact iD q hq
   .rw [ym,ym,di _ _ (by omega),di _ _ (by omega)]
   .rw [ym,ym,di _ _ (by omega),di _ _ (by omega)];exact hx3
   .rw [ym,ff];rfl
   .simp only [go_sem,ya,dj hv.pu]
   .intro S' s1 s2;simp only[go_sem,ya,yc,s1,s2,oR _ hv.pu]<;>rfl
  .have awZ:0<r:=by omega
   have hz:zr r=1+r:=by unfold zr;rw[yx jS]
   have hmm:=(KC.m awZ).m;rw[KC.l] at hmm;have ho9:o9 B r=.av (B+1) 0 r:=by unfold o9;rw[yx jS]
   simp only[go_sem,ya,yc,yp,yk,lM,ym,yD,ho9,mM]
   rw[il (sz:=1) (ex:=ycH) (pu:=ycH) (cs:=ie (jt (B+1) r) ((fN p S r).map xW)) (by rw[di _ _ (by omega)];exact hmm) (by rw[aoK (by rw[lc,Pf]),Pf];omega) (by omega) (by omega) (by decide) (by simp only[go_sem])]
   simp only[go_sem,ya,w5];refine⟨_,d-1,rfl,by omega,r+1,?_⟩;rw[Zv,LH,AY _ _ (by omega),Hw ho (by omega)]
   refine dU.Oa (N:=S) (e:=d-1) (x:=B+1+zr r) (a:=B+1+zr r+1+1) (J2:=(B+1+zr r+1+1,.cells ycG ycH ycH 1 (ie (jt (B+1) r) ((fN p S r).map xW)++[.av (B+1+zr r) 0 S]))::(B+1+zr r+1,.cells ycG ycH ycG 1 [.av (B+1+zr r) 0 S])::cl J3 (B+1)) KC Pf ho h0 (by omega) rfl (by omega) (fun q hq=>?_) (fun j j1 j2 j3=>?_) ?_ ?_ (by omega) ?_ ?_
   .rcases xn.1 hq with rfl | hq
    .show B<=B+1+zr r+1+1;omega
    rcases xn.1 hq with rfl | hq
    .show B<=B+1+zr r+1;omega
    exact iD q (Zt hq)
   .rw [ym,ym,di _ _ (by omega),di _ _ (by omega),<-Hw ho (by omega),CA,yx (by omega)]
   .rw [ym,ym,di _ _ (by omega),di _ _ (by omega),<-Hw ho (by omega),CA,yx (by omega)];exact hx3
   .rw [ym,ff]
   .simp only [go_sem,ya,dj hv.pu]
   .intro S' s1 s2;simp only[go_sem,ya,s1,s2,oR _ hv.pu]<;>rfl
 .right
  have V4:r=S:=by omega
  subst V4;obtain⟨r',rfl⟩:∃r',r=r'+1:=⟨r-1,by omega⟩;simp only[go_sem,ya,Ik,lM,Cr,a6,yd,yI,yh,show ¬((r'+1:Nat):Int)<((r'+1:Nat):Int) by omega];exact⟨_,_,rfl,by simp,_,_,_,rfl,rfl,hM,by simp only[go_sem,ya,Ul]⟩
end
section
variable {T:List (List AV)}{W:List Nat}
def dU.end_{H J:Hp}{B C R S ct:Nat}{live:List Nat}{tm tm':Env}(hM:dU H J B C R S S W T)(lU:0<S)(hS:S<=900)(ho:ef B B H)(h0:(bH B H).length<=50000)(hE:ck (aY tm live)=[B+1])(hT:∀S,bd B S (B+1)=D5 B->dt (bd B S) (aY tm live)=tm'):
  ∃J',bg live ⟨tm,J++H,ct,B⟩=⟨tm',J'++H,B+1+S,B⟩/\(∀p,p∈J'->B<=p.1)/\qB (J'++H) B W T:=by
 have hm:=hM.m lU;have hl:=hM.l;obtain⟨J',e,g1,g2,_⟩:=L8 (k:=0) (pre:=[]) (post:=[]) (a:=B+1) (ids:=jt (B+1) S) (W:=W) (T:=T) (tm':=tm') (ct:=ct) hM.hJ ho h0 hE rfl (by simp) (by omega) (by rw[<-mK ho (by omega),hm.m,hl]) (by rw[lc,hl]) hm.l (fun i hi=>by
  rw[El];rw[lc] at hi;refine⟨by omega,?_⟩;rw[<-mK ho (by omega)];exact hm.r i (by omega)) (by simp;omega) (by
  rw[yD,wj];refine wi.2 ⟨fun h=>?_,vK⟩
  have:=vJ.1 h;omega) (fun S' _ _ h1 _=>hT S' h1)
 exact⟨J',by rw[e];simp;omega,g1,g2⟩
def qB.eA{hp:Hp}(h:qB hp 0 W T)(hw:∀i (h1:i<T.length) (h2:i<W.length),T[i].length=W[i])(hM:T.length<=900):result hp (.av 0 0 T.length)=D5 (.aq ycH T.length (vn (fun w r=>.aq ycH w r) W T)):=by
 obtain⟨ic,e3,_⟩:=h.ak hw hM (n:=997) (by decide);have hm:=h.m;have e2:nP deep hp (.av 0 0 T.length)=freeze deep hp (.av 0 0 T.length):=by simp only[nP,hm]
 simp only[result,e2];show (match freeze (997+3) hp (.av 0 0 T.length) with | some (v',_)=>D5 v' | none=>none)=_
 rw[e3]
def KD(p:Nat->Nat->Rat)(S n:Nat):List AV:=vn (fun w r=>AV.aq ycH w r) ((fN p S n).map xW) (fN p S n)
def zip_map:vn (fun w r=>AV.aq ycH w r) (T.map xW) T=T.map fun r=>.aq ycH r.length r:=by
 induction T with
 | nil=>rfl
 | cons a T ih=>rw[yV,yay,ih];rfl
def aaz(p:Nat->Nat->Rat)(S:Nat):∀n,js rH (KD p S n) (oP (mA p S n))
 | 0=>trivial
 | n+1=>by
  have ih:=aaz p S n;unfold KD at ih ⊢;unfold oP at ih ⊢;rw[zip_map] at ih ⊢;rw[LH,aj3,xk,xk];refine ih.snoc ?_;have e:nE p S S n=((kw p S S n).map RT).map AV.str:=by unfold nE;rw[List.map_map];rfl
  have:=aoq ycH ((kw p S S n).map RT)
  rw[e];show rH (.aq ycH (((kw p S S n).map RT).map AV.str).length (((kw p S S n).map RT).map AV.str)) _
  rw[yX];exact this
def asI(p:Nat->Nat->Rat)(S:Nat):bC rH (.aq ycH S (KD p S S)) (oP (mA p S S)):=by
 have:=QK ycH (aaz p S S)
 rwa[aaw,Zu] at this
def auD(p:Nat->Nat->Rat)(S n:Nat):∀i (h1:i<(fN p S n).length) (h2:i<((fN p S n).map xW).length),(fN p S n)[i].length=((fN p S n).map xW)[i]:=fun i h1 h2=>by rw[tN]
def aw0(h:Fy P L){v:AV}{F:List (List Nat)}{C R S i B:Nat}{H:Hp}(hv:bC bP v F)(hF:ek F (R*S) (C*S))(hC:C<=8)(hR:R<=8)(hS:S<=8)(lU:0<S)(hi:i<C*R)(ho:ef B B H)(h0:(bH B H).length<=50000){p:Nat->Nat->Rat}(hp:p=fun k r=>aT F (i%C*S+k) (i/C*S+r)):
  ∃J,D P L Jk.body ⟨eL 0 [.agg [aa C,aa R,aa S],v,aa i],H,B,B⟩=D5 (.ret,⟨[(6,.av B 0 S),(58,.av B 0 S),(9,.av B 0 S)],J++H,B+1+S,B⟩)/\(∀p,p∈J->B<=p.1)/\qB (J++H) B ((fN p S S).map xW) (fN p S S):=by
 obtain⟨l1,l2⟩:=Ro hi;have key:=asH (P:=P) (L:=L) h hv hF hC hR hS lU l1 l2 ho h0 hp;have D2:C*R<=64:=xd hC hR;have h1:(i:Int).tmod (C:Int)=((i%C:Nat):Int):=(yah i C).symm;have h2:(i:Int).tdiv (C:Int)=((i/C:Nat):Int):=(yai i C).symm;generalize i%C=a at*
 generalize i/C=b at*
 have jy:(C:Int)≠0:=by omega
 have w1:IntKind.wrap .i64 (a:Int)=(a:Int):=wrap64 (by omega) (by omega);have w2:IntKind.wrap .i64 (b:Int)=(b:Int):=wrap64 (by omega) (by omega);have AK:dU H [(B,D4 C R S)] B C R S 0 ((fN p S 0).map xW) (fN p S 0):=⟨fun q hq=>by rw[xy.1 hq];exact yq B,by rw[ym,ff],fun q=>by omega,rfl⟩
 obtain⟨J1,e1,GR⟩:=AK.aet (live:=[1,3,7,8,9,10]) (ct:=B+1) (tm:=[(10,aa (0:Nat)),(9,.ah),(8,aa b),(7,aa a),(20,aa b),(19,aa C),(18,.ptr B 0),(17,aa i),(16,aa a),(15,aa C),(14,.ptr B 0),(13,aa i),(6,.ah),(3,.ptr B 0),(0,.agg [aa C,aa R,aa S]),(1,v),(2,aa i)]) (tm':=lM v B a b 0) ho h0 (by omega) (by simp only[go_sem,ya,dj hv.pu,Uj]<;>rfl) (fun S' s1 s2=>by simp only[go_sem,ya,s1,oR _ hv.pu]<;>rfl)
 simp only[go_sem,ya,yc,Jk,aU,a6,yd,yh,dY _ _ _ jy,dE _ _ _ jy,h1,h2,w2];generalize hq:D P L (.loop _ Ik) _=q;obtain⟨ex,st,rfl,tm,J2,ct,rfl,rfl,V3,t9⟩:=bF hq (key S) ⟨0,J1,by omega,GR,e1⟩;obtain⟨J3,e3,q1,q2⟩:=V3.end_ (live:=[9]) (ct:=ct) (tm:=tm) (tm':=[(9,.av B 0 S)]) lU (by omega) ho h0 (by simp only[go_sem,t9]) (fun S' s1=>by simp only[go_sem,t9,s1]);refine⟨J3,?_,q1,q2⟩;simp only[go_sem,e3]
section
variable (h:Fy P L)(Ok:Has P L 788 Jk){v:AV}{F:List (List Nat)}{C R S i:Nat}(hv:bC bP v F)(hF:ek F (R*S) (C*S))(hC:C<=8)(hR:R<=8)(hS:S<=8)(lU:0<S)(hi:i<C*R){p:Nat->Nat->Rat}(hp:p=fun k r=>aT F (i%C*S+k) (i/C*S+r))
include h Ok hv hF hC hR hS lU hi hp
theorem aw1:af P L 788 [.agg [aa C,aa R,aa S],v,aa i] (.aq ycH S (KD p S S)):=by
 obtain⟨J,e,q1,q2⟩:=aw0 h hv hF hC hR hS lU hi (H:=[]) (B:=0) trivial (by decide) hp;have hr:=q2.eA (auD p S S) (by rw[Rr];omega);rw[Rr] at hr;unfold af;rw[aH Ok,e];exact hr
end
end
def oB:Nat->AV
 | 0=>.ah
 | i+1=>.av 1 0 (i+1)
abbrev aeu:Ty:=.cat (.int .i64) (.cat (.int .i64) (.cat (.int .i64) .nil))
abbrev JI:Ty:=.sl (.au .f32)
def ami{l:List AV}(h:lS aeu l):∃c r s:Int,l=[aa c,aa r,aa s]:=by
 obtain⟨_,_,rfl,⟨c,rfl,_⟩,_,_,rfl,⟨r,rfl,_⟩,_,_,rfl,⟨s,rfl,_⟩,rfl⟩:=h;exact⟨c,r,s,rfl⟩
def asJ{b:Nat}(h:(Go.Lit.float yca b).wf=ycG):b<4294967296:=by
 simp only[Go.Lit.wf,vh] at h;exact h
def Yt:∀{ps:List (List AV)},(∀p,p∈ps->lS (.au .f32) p)->∃l:List Nat,l.length=ps.length/\ps.flatten=cN l/\∀b,b∈l->b<4294967296
 | [],_=>⟨[],rfl,rfl,fun _ h=>by cases h⟩
 | p::ps,h=>by
  obtain⟨b,rfl,hb⟩:=h p wm;obtain⟨l,h1,h2,h3⟩:=Yt (ps:=ps) (fun q hq=>h q (xG _ hq));refine⟨b::l,by simp[h1],by simp[h2,cN],fun q hq=>?_⟩;rcases xn.1 hq with rfl | hq
  .exact asJ hb
  .exact h3 q hq
def amj{l:List AV}(h:lS JI l):∃(v:AV) (m:List Nat),l=[v]/\bP v m/\∀b,b∈m->b<4294967296:=by
 rcases h with rfl | ⟨x,ps,rfl,h⟩
 .exact ⟨_,[],rfl,rP,fun _ h=>by cases h⟩
 .obtain ⟨m,h1,h2,h3⟩:=Yt h;refine⟨_,m,rfl,?_,h3⟩;rw[h2,<-h1]
  have:=HF x (cN m)
  rwa[show (cN m).length=m.length by simp[cN]] at this
def Zw:∀{ps:List (List AV)},(∀p,p∈ps->lS JI p)->∃M:List (List Nat),M.length=ps.length/\js bP ps.flatten M/\∀r,r∈M->∀b,b∈r->b<4294967296
 | [],_=>⟨[],rfl,trivial,fun _ h=>by cases h⟩
 | p::ps,h=>by
  obtain⟨v,m,rfl,hv,hm⟩:=amj (h p wm);obtain⟨M,h1,h2,h3⟩:=Zw (ps:=ps) (fun q hq=>h q (xG _ hq))
  exact⟨m::M,by simp[h1],⟨hv,h2⟩,fun q hq=>by
   rcases xn.1 hq with rfl | hq
   .exact hm
   .exact h3 q hq⟩
def aaA{l:List AV}(h:lS (.sl JI) l):∃(v:AV) (M:List (List Nat)),l=[v]/\bC bP v M/\∀r,r∈M->∀b,b∈r->b<4294967296:=by
 rcases h with rfl | ⟨x,ps,rfl,h⟩
 .exact ⟨_,[],rfl,Yr,fun _ h=>by cases h⟩
 .obtain ⟨M,h1,h2,h3⟩:=Zw h;refine⟨_,M,rfl,?_,h3⟩;rw[<-h1];exact QK x h2
section
variable {v:AV}{T:List (List Nat)}{r:List Nat}
def nF(S:Nat)(i k:Int):Bool:=decide (0<=i)&&(decide (0<=k)&&(decide (i<S)&&decide (k<S)))
def fp(p q:Nat->Nat->Rat)(S:Nat)(a b:Int)(t:Nat):Rat:=if nF S (((t%S:Nat):Int)-a) (((t/S:Nat):Int)-b)=ycG then p (t%S) (t/S)*q (((t%S:Nat):Int)-a).toNat (((t/S:Nat):Int)-b).toNat else 0
def gK(p q:Nat->Nat->Rat)(S:Nat)(a b:Int):Rat:=jz (fp p q S a b) (S*S)
def eK(m N:Nat):Int:=((N%(2*m+1):Nat):Int)-m
def ep(m N:Nat):Int:=((N/(2*m+1):Nat):Int)-m
def c7(p q:Nat->Nat->Rat)(S m:Nat):Nat->Nat
 | 0=>0
 | N+1=>if gK p q S (eK m (c7 p q S m N)) (ep m (c7 p q S m N))<gK p q S (eK m (N+1)) (ep m (N+1)) then N+1 else c7 p q S m N
def jM(p q:Nat->Nat->Rat)(S m N:Nat):Rat:=gK p q S (eK m N) (ep m N)
section
variable {p q:Nat->Nat->Rat}{S:Nat}(kp:∀a b,a<S->b<S->Hq 429 (p a b))(kq:∀a b,a<S->b<S->Hq 429 (q a b))
include kp kq
theorem asK(a b:Int){t:Nat}(ht:t<S*S):Hq 900 (fp p q S a b t):=by
 obtain⟨l1,l2⟩:=auy ht;unfold fp;by_cases h:nF S (((t%S:Nat):Int)-a) (((t/S:Nat):Int)-b)=ycG
 .rw [yN h];unfold nF at h;simp only[ye,vh] at h;exact ((kp _ _ l1 l2).mul (kq _ _ (by omega) (by omega))).mono (by decide)
 .rw [yx h];exact aeg.mono (by decide)
theorem It(hS:S<=8)(a b:Int){n:Nat}(hn:n<=S*S):Hq 60000 (jz (fp p q S a b) n):=by
 have hSS:S*S<=64:=xd hS hS
 refine (acy (N:=S*S) (fun t ht=>asK kp kq a b ht) hn).mono ?_
 have:n*(900+1)<=64*(900+1):=yL _ (by omega)
 omega
end
structure Ckt(P:aE)(L:Lib):Prop extends Frc P L where
 aw2:Has P L 699 S6
 aw3:Has P L 727 S8
 aw4:Has P L 746 Ta
def aw5(h:Ckt P L)(b:Nat):af P L 746 [.au .f32 b] (.bool (!eZ b)):=by
 have e:=aeo (P:=P) h.ael b;unfold af at e;unfold af;rw[aH h.aw4];simp only[go_sem,ya,Ta,mQ,e]
def auE(h:Ckt P L)(hv:bP v r)(hl:r.length<=1000000):af P L 741 [v,.fn (.f 746) [] []] (.bool (lK r)):=by
 obtain⟨n,e1,e2⟩:=aep h.aen hv hl (g:=746) (p:=fun b=> !eZ b) (fun x=>aw5 h x);have e2:decide (0<=n)=lK r:=e2;have hv:b7 v (cN r):=hv;unfold af at e1 ⊢;rw[aH h.aem];simp only[go_sem,ya,NO,hv.ak,e1,e2]
def aw6(h:Ckt P L){w:AV}(hw:bP w r)(hl:r.length<=1000000)(hv:bC bP v T)(hT:T.length<=1000000):af P L 727 [w,.bJ [v]] (aa (gn T.length r)):=by
 have e1:=auE h hw hl;have hw:b7 w (cN r):=hw;have hlen:(cN r).length=r.length:=by simp
 have e2:=An h.mz (!decide ((r.length:Int)=((T.length:Nat):Int))) 2;have q:decide ((r.length:Int)=((T.length:Nat):Int))=decide (r.length=T.length):=yax.2 (by omega);rw[q] at e2;rw[show (if (!decide (r.length=T.length))=ycG then (2:Int) else 0)=(if r.length=T.length then 0 else 2) by by_cases e:r.length=T.length<;>simp[e]] at e2
 have e3:=An h.mz (lK r) 1;have e4:=DA h.DB (ik ycG [if r.length=T.length then 0 else 2,if lK r=ycG then 1 else 0]) (by simp);simp only[yH,yM,yd,yc,yV,wF] at e4;unfold af at e1 e2 e3 e4 ⊢;rw[aH h.aw3];unfold gn;simp only[go_sem,ya,yc,yB,yp,yk,S8,hw.len,hw.ak,hlen,hv.len,q,e1,e2,e3,e4]
def aev(h:Ckt P L)(hv:bC bP v T)(hl:T.length<=1000000)(hr:∀r,r∈T->r.length<=1000000):af P L 699 [v] (aa (b8 (T.map (gn T.length)))):=by
 have e1:=aeq h.Of hv hl (g:=727) (cap:=[.bJ [v]]) rfl (fun n hp=>rfl) (f:=gn T.length) (fun w r bq hw=>aw6 h hw (hr r bq) hv hl);have hb:∀ct,lG ct 1 [v]=D5 (.ptr ct 0,.cells ycG ycG ycG 1 [v]):=fun ct=>by
  rw[aU (n:=1) rfl (by simp only[b5,hv.one];rfl)]
  simp[aD,hv.pu]
 unfold af at e1 ⊢;rw[aH h.aw2];simp only[go_sem,ya,yc,S6,hb,yh,hv.ak,hv.cells,e1]
end
def eE(C R S:Int):Obj:=.cells ycG ycG ycG 3 [aa C,aa R,aa S]
def GV:List AV:=[.int .i64 0,.ah,.int .i64 0,.ah]
section
variable {v w:AV}{TM:Env}{H:Hp}{C R S a b m x y:Int}{M gr:List AV}{c:Nat}
structure Cs(P:aE)(L:Lib):Prop extends Ctd P L,Ckt P L where
 aew:Has P L 660 Jh
structure zm(C R S:Int)(m:Int)(v w:AV)(c:Nat)(H:Hp):Prop where
 g0:ai H 0=D5 (.cells ycG ycG ycG 3 [aa C,aa R,aa S])
 g1:ai H 1=D5 (.cells ycG ycG ycG 1 [v])
 g2:ai H 2=D5 (.cells ycG ycG ycG 1 [w])
 g3:ai H 3=D5 (.cells ycG ycG ycG 1 [aa m])
 bl:ef c c H
 rl:(bH c H).length<=1000
def cM(A B:VC)(TM:Env)(c:Nat)(la lb x y:Int)(gr:List AV)(a b:Int)(M:List AV)(st:Nat)(H:Hp):Hp:=(c+6,.lp TM [76,77] A B st .none)::(c+5,.cells ycG ycG ycG 4 M)::(c+4,.cells ycG ycG ycG 1 [aa b])::(c+3,.cells ycG ycG ycG 1 [aa a])::(c+2,.cells ycG ycG ycG 4 gr)::(c+1,.cells ycG ycG ycG 2 [aa x,aa y])::(c,.cells ycG ycG ycG 2 [aa la,aa lb])::H
def Ma{B:Nat}(lo:zm C R S m v w c H)(h:c<=B):bH B H=bH c H:=by
 have key:∀H,ef c c H->bH B H=bH c H:=by
  intro H
  induction H with
  | nil=>intro _;rfl
  | cons p r ih=>
   obtain⟨i,o⟩:=p;intro hb
   rw[r7 _ _ (by have:=hb.1;omega),r7 _ _ hb.1,ih hb.2.2]
 exact key H lo.bl
def SC{A B:VC}{la lb:Int}(lo:zm C R S m v w c H)(hb:hZ (c+6) TM)(st:Nat):ef (c+7) (c+7) (cM A B TM c la lb x y gr a b M st H):=
 ⟨by omega,PA (by omega) hb,by omega,.inl rfl,by omega,.inl rfl,by omega,.inl rfl,by omega,.inl rfl,by omega,.inl rfl,by omega,.inl rfl,WS (by omega) (fun _=>ahw (by omega)) lo.bl⟩
def SD{A B:VC}{la lb:Int}(lo:zm C R S m v w c H)(hn:(ck TM).length<=1000)(st:Nat):(bH (c+7) (cM A B TM c la lb x y gr a b M st H)).length<=90000:=by
 have e:=Ma lo (show c<=c+7 by omega);have hl:=lo.rl
 have:bH (c+7) (cM A B TM c la lb x y gr a b M st H)=ck TM++bH c H:=by
  simp only[cM,r7 _ _ (show c+6<c+7 by omega),r7 _ _ (show c+5<c+7 by omega),r7 _ _ (show c+4<c+7 by omega),r7 _ _ (show c+3<c+7 by omega),r7 _ _ (show c+2<c+7 by omega),r7 _ _ (show c+1<c+7 by omega),r7 _ _ (show c<c+7 by omega),gD,yr,yD,e]
 rw[this,yC];omega
def aw7(h:Cs P L){C R S m:Nat}{la lb:Nat}{F T:List (List Nat)}{s:Rat}(lo:zm C R S m v w c H)(hc:c=8\/c=9)(t4:aj TM 4=.ptr 0 0)(t5:aj TM 5=.ptr 1 0)(t6:aj TM 6=.ptr 2 0)(t19:aj TM 19=.ptr (c+3) 0)(t20:aj TM 20=.ptr (c+4) 0)(t21:aj TM 21=.ptr (c+5) 0)(hv:bC bP v F)(hF:ek F (R*S) (C*S))(hw:bC bP w T)(hT:ek T S S)(hS:S<=8)(jV:la<C)(oQ:lb<R)(hC:C<=8)(hR:R<=8){k i:Nat}(hk:k<S)(hi:i<S)(ha: -100<=a/\a<=100)(hb: -100<=b/\b<=100)(hM:∃m1 m2 m3 m4,M=[m1,m2,m3,m4]/\dJ (.agg M) s)(ks:Hq 60000 s):
  ∃M' J,(∃m1 m2 m3 m4,M'=[m1,m2,m3,m4]/\dJ (.agg M') (s+(if nF S ((i:Int)-a) ((k:Int)-b)=ycG then aT F (la*S+i) (lb*S+k)*aT T ((i:Int)-a).toNat ((k:Int)-b).toNat else 0)))/\(∀p:Nat×Obj,p∈J->c+7<=p.1)/\∃aK,iP (D P L) (cM er dN TM c la lb x y gr a b M 0 H) (c+7) (c+6) (Pe S la lb k i)=D5 (.bool ycG,J++cM er dN TM c la lb x y gr a b M' 0 H,aK):=by
 obtain⟨m1,m2,m3,m4,rfl,V5⟩:=hM;obtain⟨bq,jw,e3,f1,f2⟩:=hF.at (ml oQ hk) (ml jV hi);obtain⟨w1,rest,nA,e0⟩:=hv.bD bq;have nA:b7 w1 (cN F[lb*S+k]):=nA;have e1:=nA.bD (i:=la*S+i) (by simpa using jw);rw[Hv jw] at e1;obtain⟨u,e2,hu⟩:=acx h.toCtd.toExc f2 f1;rw[<-e3] at hu;have ku:=hF.H (ml oQ hk) (ml jV hi);have b1:la*S+i<=100:=by have:=ml (S:=S) jV hi;have:=xd hC hS;omega
 have b2:lb*S+k<=100:=by have:=ml (S:=S) oQ hk;have:=xd hR hS;omega
 have wI:IntKind.wrap .i64 ((i:Int)-a)=(i:Int)-a:=wrap64 (by omega) (by omega);have wK:IntKind.wrap .i64 ((k:Int)-b)=(k:Int)-b:=wrap64 (by omega) (by omega);have g0:=lo.g0;have g1:=lo.g1;have g2:=lo.g2;unfold Pe;generalize hA:la*S+i=wc at*
 generalize hB:lb*S+k=wr at*
 have asc:cF (aa wc)=D5 wc:=rfl;have asr:cF (aa wr)=D5 wr:=rfl;unfold af at e2;have gh:∀Ac Bc,D P L er ⟨(77,.agg [aa wc,aa wr])::(76,.agg [aa i,aa k])::TM,cM Ac Bc TM c la lb x y gr a b [m1,m2,m3,m4] 0 H,c+7,c+7⟩=D5 (.normal,⟨(23,.ptr (c+8) 0)::(22,.ptr (c+7) 0)::(77,.agg [aa wc,aa wr])::(76,.agg [aa i,aa k])::TM,(c+8,.cells ycG ycG ycG 2 [aa wc,aa wr])::(c+7,.cells ycG ycG ycG 2 [aa i,aa k])::cM Ac Bc TM c la lb x y gr a b [m1,m2,m3,m4] 0 H,c+9,c+7⟩):=by
  intro Ac Bc;unfold cM;rcases hc with rfl | rfl<;>simp only[go_sem,ya,yc,er,Og,DC]
 by_cases b9:nF S ((i:Int)-a) ((k:Int)-b)=ycG
 .rw [yN b9];have kv:=b9;unfold nF at kv;simp only[ye,vh] at kv;obtain⟨p1,p2,p3,p4⟩:=kv;obtain⟨i',cX⟩:=vd p1;obtain⟨k',nn⟩:=vd p2;obtain⟨jP,rn,e5,f3,f4⟩:=hT.at (show k'<S by omega) (show i'<S by omega);obtain⟨w2,M5,fj,e6⟩:=hw.bD jP;have fj:b7 w2 (cN T[k']):=fj;have e7:=fj.bD (i:=i') (by simpa using rn);rw[Hv rn] at e7;obtain⟨z,e8,hz⟩:=acx h.toCtd.toExc f4 f3;rw[<-e5] at hz;have kz:=hT.H (show k'<S by omega) (show i'<S by omega);obtain⟨q,e9,hq⟩:=m49 h.toCtd.toCen.toMom.toFr' hu hz (K:=429) ku kz (by decide);obtain⟨r,zj,hr⟩:=m74 h.toCtd.toCen.toMom.toFr' V5 hq (K:=60000) ks ((ku.mul kz).mono (by decide)) (by decide);have jS:=hr;have gM:=V5.f4;obtain⟨u1,u2,u3,u4,rfl,gu⟩:=hu.gen;obtain⟨z1,z2,z3,z4,rfl,gz⟩:=hz.gen;obtain⟨q1,q2,q3,q4,rfl,gq⟩:=hq.gen
  obtain⟨r1,r2,r3,r4,rfl,kJ⟩:=hr.gen;have KE:cF (aa i')=D5 i':=rfl;have ask:cF (aa k')=D5 k':=rfl;have V6:IntKind.wrap .i64 ((i:Int)-a)=(i':Int):=by rw[wI,cX]
  have V7:IntKind.wrap .i64 ((k:Int)-b)=(k':Int):=by rw[wK,nn]
  have nI:((i:Int)-a).toNat=i':=by omega
  have nK:((k:Int)-b).toNat=k':=by omega
  rw[nI,nK];clear wI wK;have c1:decide ((if (k':Int)<i' then (k':Int) else i')<0)=ycH:=yW (by split<;>omega)
  have c2:decide ((S:Int)<=if (k':Int)>i' then (k':Int) else i')=ycH:=yW (by split<;>omega)
  unfold af at e8 e9 zj;refine⟨[r1,r2,r3,r4],[(c+8,.cells ycG ycG ycG 2 [aa wc,aa wr]),(c+7,.cells ycG ycG ycG 2 [aa i,aa k])],⟨_,_,_,_,rfl,jS⟩,?_,?_⟩
  .intro p hp;simp only[xn,ybk,or_false] at hp;rcases hp with rfl | rfl<;>simp
  have jg:∀Ac Bc,∃tm,D P L dN ⟨(23,.ptr (c+8) 0)::(22,.ptr (c+7) 0)::(77,.agg [aa wc,aa wr])::(76,.agg [aa i,aa k])::TM,(c+8,.cells ycG ycG ycG 2 [aa wc,aa wr])::(c+7,.cells ycG ycG ycG 2 [aa i,aa k])::cM Ac Bc TM c la lb x y gr a b [m1,m2,m3,m4] 1 H,c+9,c+9⟩=D5 (.normal,⟨tm,(c+8,.cells ycG ycG ycG 2 [aa wc,aa wr])::(c+7,.cells ycG ycG ycG 2 [aa i,aa k])::cM Ac Bc TM c la lb x y gr a b [r1,r2,r3,r4] 1 H,c+9,c+9⟩):=by
   intro Ac Bc;unfold cM;rcases hc with rfl | rfl<;>
   .simp only [go_sem,ya,yc,dN,t4,t5,t6,t19,t20,t21,g0,g1,g2,a6,yd,yh,yI,V6,V7,Im,zP,Hs,CC,c1,c2,e0,e1,asc,asr,KE,ask,e6,e7,mQ,e2,e8,bM,gu.ak,gz.ak,e9,Iq,gM.ak,gq.ak,zj,kJ.st];exact⟨_,rfl⟩
  obtain⟨tm,jg⟩:=jg er dN;have Iu:=LC (P:=P) (L:=L) (hp:=cM er dN TM c la lb x y gr a b [m1,m2,m3,m4] 0 H) (ct:=c+7) (l:=c+6) (xs:=[.agg [aa i,aa k],.agg [aa wc,aa wr]]) (by unfold cM;rw[ff]) rfl (gh _ _) (by unfold cM;rw[di _ _ (by omega),di _ _ (by omega),ff]) (by
   have e:aV ((c+8,Obj.cells ycG ycG ycG 2 [aa wc,aa wr])::(c+7,.cells ycG ycG ycG 2 [aa i,aa k])::cM er dN TM c la lb x y gr a b [m1,m2,m3,m4] 0 H) (c+6) (.lp TM [76,77] er dN 1 .none)=(c+8,Obj.cells ycG ycG ycG 2 [aa wc,aa wr])::(c+7,.cells ycG ycG ycG 2 [aa i,aa k])::cM er dN TM c la lb x y gr a b [m1,m2,m3,m4] 1 H:=by
    unfold cM;rcases hc with rfl | rfl<;>rfl
   rw[e];exact jg) (by unfold cM;rw[di _ _ (by omega),di _ _ (by omega),ff])
  have V8:aV ((c+8,Obj.cells ycG ycG ycG 2 [aa wc,aa wr])::(c+7,.cells ycG ycG ycG 2 [aa i,aa k])::cM er dN TM c la lb x y gr a b [r1,r2,r3,r4] 1 H) (c+6) (.lp TM [76,77] er dN 0 .none)=[(c+8,Obj.cells ycG ycG ycG 2 [aa wc,aa wr]),(c+7,.cells ycG ycG ycG 2 [aa i,aa k])]++cM er dN TM c la lb x y gr a b [r1,r2,r3,r4] 0 H:=by
   unfold cM;rcases hc with rfl | rfl<;>rfl
  rw[V8] at Iu;exact⟨_,Iu⟩
 .rw [yx b9];have kv:nF S ((i:Int)-a) ((k:Int)-b)=ycH:=by simpa using b9
  refine⟨[m1,m2,m3,m4],[(c+8,.cells ycG ycG ycG 2 [aa wc,aa wr]),(c+7,.cells ycG ycG ycG 2 [aa i,aa k])],⟨_,_,_,_,rfl,by rw[yck];exact V5⟩,?_,?_⟩
  .intro p hp;simp only[xn,ybk,or_false] at hp;rcases hp with rfl | rfl<;>simp
  have jg:∀Ac Bc,∃tm,D P L dN ⟨(23,.ptr (c+8) 0)::(22,.ptr (c+7) 0)::(77,.agg [aa wc,aa wr])::(76,.agg [aa i,aa k])::TM,(c+8,.cells ycG ycG ycG 2 [aa wc,aa wr])::(c+7,.cells ycG ycG ycG 2 [aa i,aa k])::cM Ac Bc TM c la lb x y gr a b [m1,m2,m3,m4] 1 H,c+9,c+9⟩=D5 (.normal,⟨tm,(c+8,.cells ycG ycG ycG 2 [aa wc,aa wr])::(c+7,.cells ycG ycG ycG 2 [aa i,aa k])::cM Ac Bc TM c la lb x y gr a b [m1,m2,m3,m4] 1 H,c+9,c+9⟩):=by
   intro Ac Bc;unfold cM;unfold nF at kv;by_cases V9:(if (k:Int)-b<(i:Int)-a then (k:Int)-b else (i:Int)-a)<0
   .rcases hc with rfl | rfl<;>
    .simp only [go_sem,ya,yc,dN,t19,t20,a6,yd,yh,yI,wI,wK,Im,Hs,yU V9];exact⟨_,rfl⟩
   .have hmx:(S:Int)<=if (k:Int)-b>(i:Int)-a then (k:Int)-b else (i:Int)-a:=by
     simp only[Bool.and_eq_false_iff,decide_eq_false_iff_not] at kv
     split at V9<;>split<;>omega
    rcases hc with rfl | rfl<;>
    .simp only [go_sem,ya,yc,dN,t4,t19,t20,g0,a6,yd,yh,yI,wI,wK,Im,zP,Hs,CC,yW V9,yU hmx];exact⟨_,rfl⟩
  obtain⟨tm,jg⟩:=jg er dN;have Iu:=LC (P:=P) (L:=L) (hp:=cM er dN TM c la lb x y gr a b [m1,m2,m3,m4] 0 H) (ct:=c+7) (l:=c+6) (xs:=[.agg [aa i,aa k],.agg [aa wc,aa wr]]) (by unfold cM;rw[ff]) rfl (gh _ _) (by unfold cM;rw[di _ _ (by omega),di _ _ (by omega),ff]) (by
   have e:aV ((c+8,Obj.cells ycG ycG ycG 2 [aa wc,aa wr])::(c+7,.cells ycG ycG ycG 2 [aa i,aa k])::cM er dN TM c la lb x y gr a b [m1,m2,m3,m4] 0 H) (c+6) (.lp TM [76,77] er dN 1 .none)=(c+8,Obj.cells ycG ycG ycG 2 [aa wc,aa wr])::(c+7,.cells ycG ycG ycG 2 [aa i,aa k])::cM er dN TM c la lb x y gr a b [m1,m2,m3,m4] 1 H:=by
    unfold cM;rcases hc with rfl | rfl<;>rfl
   rw[e];exact jg) (by unfold cM;rw[di _ _ (by omega),di _ _ (by omega),ff])
  have V8:aV ((c+8,Obj.cells ycG ycG ycG 2 [aa wc,aa wr])::(c+7,.cells ycG ycG ycG 2 [aa i,aa k])::cM er dN TM c la lb x y gr a b [m1,m2,m3,m4] 1 H) (c+6) (.lp TM [76,77] er dN 0 .none)=[(c+8,Obj.cells ycG ycG ycG 2 [aa wc,aa wr]),(c+7,.cells ycG ycG ycG 2 [aa i,aa k])]++cM er dN TM c la lb x y gr a b [m1,m2,m3,m4] 0 H:=by
   unfold cM;rcases hc with rfl | rfl<;>rfl
  rw[V8] at Iu;exact⟨_,Iu⟩
end
section
variable {v w:AV}{H:Hp}{c:Nat}
def DD(E:Env)(hp:Hp)(B:Nat)(s:List Nat):St:=⟨dt (bd B s) E,dP hp (bd B s) s B (eM B (bd B s) hp),B+s.length,B⟩
def CD(lv:List Nat)(tm:Env)(hp:Hp)(ct B:Nat):bg lv ⟨tm,hp,ct,B⟩=DD (aY tm lv) hp B (iN B hp 100000 (ck (aY tm lv)++bH B hp) []):=rfl
def Zx{B:Nat}{hp:Hp}{seen:List Nat}:∀{r:List Nat} {k:Nat},(∀x,x∈r->x<B)->iN B hp (r.length+1+k) r seen=seen
 | [],k,_=>by rw[yM,yd,Nat.add_comm];exact aap _ _ _ _
 | x::r,k,h=>by
  rw[yH,show r.length+1+1+k=(r.length+1+k)+1 by omega,Sx _ _ _ _ (h x (by simp))];exact Zx fun y hy=>h y (by simp[hy])
def RY{C R S m:Int}{B:Nat}(lo:zm C R S m v w c H)(h:c<=B)(hp:Hp)(seen:List Nat)(n:Nat):iN B hp (n+90001) (bH c H) seen=seen:=by
 have hl:=lo.rl;rw[show n+90001=(bH c H).length+1+(n+90000-(bH c H).length) by omega];exact Zx fun x hx=>by
  have:=Eb (yq c) lo.bl x hx
  omega
def Ru{C R S m:Int}{B:Nat}(lo:zm C R S m v w c H)(h:c<=B)(s:List Nat):eM B (bd B s) H=H:=by
 have hf:∀x,x<c->bd B s x=D5 x:=fun x hx=>IQ s (by omega)
 have key:∀H,ef c c H->eM B (bd B s) H=H:=by
  intro H
  induction H with
  | nil=>intro _;rfl
  | cons p r ih=>
   obtain⟨i,o⟩:=p;intro hb
   rw[aa9 _ _ _ (by have:=hb.1;omega),Xp hf hb.2.1,ih hb.2.2]
 exact key H lo.bl
def zn(c:Nat)(la lb x y:Int)(gr:List AV)(a b:Int)(M:List AV)(H:Hp):Hp:=(c+5,.cells ycG ycG ycG 4 M)::(c+4,.cells ycG ycG ycG 1 [aa b])::(c+3,.cells ycG ycG ycG 1 [aa a])::(c+2,.cells ycG ycG ycG 4 gr)::(c+1,.cells ycG ycG ycG 2 [aa x,aa y])::(c,.cells ycG ycG ycG 2 [aa la,aa lb])::H
noncomputable def pL(F:List (List Nat))(S la lb:Nat)(k r:Nat):Rat:=aT F (la*S+k) (lb*S+r)
def auF(h:Cs P L){TM:Env}{C R S m:Nat}{la lb bs:Nat}{x y a b:Int}{gr M:List AV}{F T:List (List Nat)}(lo:zm C R S m v w c H)(hc:c=8\/c=9)(t4:aj TM 4=.ptr 0 0)(t5:aj TM 5=.ptr 1 0)(t6:aj TM 6=.ptr 2 0)(t19:aj TM 19=.ptr (c+3) 0)(t20:aj TM 20=.ptr (c+4) 0)(t21:aj TM 21=.ptr (c+5) 0)(t75:aj TM 75=.fn (.f 719) [] [c6 C R S,jj la lb])(oL:hZ (c+6) TM)(hn:(ck TM).length<=1000)(hv:bC bP v F)(hF:ek F (R*S) (C*S))(hw:bC bP w T)(hT:ek T S S)(hS:S<=8)(jV:la<C)(oQ:lb<R)(hC:C<=8)(hR:R<=8)(ha: -100<=a/\a<=100)(hb: -100<=b/\b<=100)(hM:∃m1 m2 m3 m4,M=[m1,m2,m3,m4]/\dJ (.agg M) 0):
  ∃M',(∃m1 m2 m3 m4,M'=[m1,m2,m3,m4]/\dJ (.agg M') (gK (pL F S la lb) (aT T) S a b))/\D P L (.rf (.t 75) [76,77] er dN) ⟨TM,zn c la lb x y gr a b M H,c+6,bs⟩=D5 (.normal,⟨TM,zn c la lb x y gr a b M' H,c+7,bs⟩):=by
 have kp:∀a b,a<S->b<S->Hq 429 (pL F S la lb a b):=fun a b h1 h2=>hF.H (ml oQ h2) (ml jV h1)
 have kq:∀a b,a<S->b<S->Hq 429 (aT T a b):=fun a b h1 h2=>hT.H h2 h1
 have zk:∀M,my (c+6+1) (c+6) (cM er dN TM c la lb x y gr a b M 0 H)=(cM er dN TM c la lb x y gr a b M 0 H,c+7):=fun M=>Zo (J:=[]) (by simp) (SC lo oL 0) (by omega) (SD lo hn 0)
 have hz:∀M tm ct,bg [] ⟨tm,cM er dN TM c la lb x y gr a b M 0 H,ct,c+6+1⟩=⟨[],cM er dN TM c la lb x y gr a b M 0 H,c+7,c+6+1⟩:=fun M tm ct=>Pz (live:=[]) trivial (SC lo oL 0) (by
  have:=SD (A:=er) (B:=dN) (la:=la) (lb:=lb) (x:=x) (y:=y) (a:=a) (b:=b) (gr:=gr) (M:=M) lo hn 0
  show 0+(bH (c+7) (cM er dN TM c la lb x y gr a b M 0 H)).length<100000
  omega)
 obtain⟨G,c',⟨M',rfl,rfl,hM'⟩,e⟩:=aus (P:=P) (L:=L) h.toCtd.Oc (f:=.t 75) (ps:=[76,77]) (as_:=er) (body:=dN) (s:=⟨TM,zn c la lb x y gr a b M H,c+6,bs⟩) (C:=C) (R:=R) (a:=la) (b:=lb) hS (by omega) (by omega) t75
  (Inv:=fun j G c'=>∃M,G=cM er dN TM c la lb x y gr a b M 0 H/\c'=c+7/\∃m1 m2 m3 m4,M=[m1,m2,m3,m4]/\dJ (.agg M) (jz (fp (pL F S la lb) (aT T) S a b) j))
  ⟨by rintro j G c' ⟨M,rfl,rfl,_⟩;exact zk M,by rintro j G c' ⟨M,rfl,rfl,_⟩ tm ct;exact hz M tm ct,by rintro j G c' ⟨M,rfl,rfl,_⟩;exact⟨_,_,_,_,by unfold cM;rw[ff]⟩⟩
  ⟨_,_,zk M,M,rfl,rfl,hM⟩ (by
   rintro k i G c' hk hi ⟨M,rfl,rfl,hM⟩;have hj:k*S+i<=S*S:=by
    have:=ml (S:=S) hk hi
    omega
   obtain⟨M',J,h1,h2,aK,h3⟩:=aw7 h lo hc t4 t5 t6 t19 t20 t21 hv hF hw hT hS jV oQ hC hR hk hi ha hb hM (It kp kq hS a b hj);refine⟨_,_,_,_,h3,Zo h2 (SC lo oL 0) (by omega) (SD lo hn 0),M',rfl,rfl,?_⟩;have e:jz (fp (pL F S la lb) (aT T) S a b) (k*S+i+1)=jz (fp (pL F S la lb) (aT T) S a b) (k*S+i)+(if nF S ((i:Int)-a) ((k:Int)-b)=ycG then aT F (la*S+i) (lb*S+k)*aT T ((i:Int)-a).toNat ((k:Int)-b).toNat else 0):=by
    show _+fp _ _ _ _ _ _=_
    unfold fp;rw[Mz hi,MA hi];rfl
   rw[e];exact h1)
 refine⟨M',hM',e.trans ?_⟩;have hd:=Zs (H:=H) lo.bl (show c<=c+6 by omega)
 have:cl (cM er dN TM c la lb x y gr a b M' 0 H) (c+6)=zn c la lb x y gr a b M' H:=by
  unfold cM zn;rcases hc with rfl | rfl<;>(simp only[go_sem,ya,yc,hd])
 show D5 (Ex.normal,(⟨TM,cl (cM er dN TM c la lb x y gr a b M' 0 H) (c+6),c+7,bs⟩:St))=_
 rw[this]
def mi(c:Nat)(fo:Bool)(N:Nat):Env:=[(4,.ptr 0 0),(5,.ptr 1 0),(6,.ptr 2 0),(7,.ptr 3 0),(12,.ptr 6 0),(14,.ptr c 0),(15,.ptr (c+1) 0),(16,.ptr (c+2) 0),(17,.bool fo),(18,aa N)]
def kg(c:Nat)(la lb x y:Int)(gr:List AV)(H:Hp):Hp:=(c+2,.cells ycG ycG ycG 4 gr)::(c+1,.cells ycG ycG ycG 2 [aa x,aa y])::(c,.cells ycG ycG ycG 2 [aa la,aa lb])::H
def Wa(p q:Nat->Nat->Rat)(S m:Nat):Nat->Int->Int->List AV->Prop
 | 0,x,y,gr=>x=0/\y=0/\gr=GV
 | N+1,x,y,gr=>x=eK m (c7 p q S m N)/\y=ep m (c7 p q S m N)/\∃g1 g2 g3 g4,gr=[g1,g2,g3,g4]/\dJ (.agg gr) (jM p q S m (c7 p q S m N))
def aw8{m N:Nat}(hm:m<=4)(hN:N<(2*m+1)*(2*m+1)):(-(m:Int)<=eK m N/\eK m N<=m)/\(-(m:Int)<=ep m N/\ep m N<=m):=by
 have h1:=xp N (show 0<2*m+1 by omega);have h2:N/(2*m+1)<2*m+1:=tM hN;unfold eK ep;generalize N%(2*m+1)=x at*
 generalize N/(2*m+1)=y at*
 omega
end
def asL(h:Cs P L){C R S m N:Nat}{c la lb:Nat}{x y:Int}{gr:List AV}{H:Hp}{v w:AV}{F T:List (List Nat)}(lo:zm C R S m v w c H)(hc:c=8\/c=9)(hv:bC bP v F)(hF:ek F (R*S) (C*S))(hw:bC bP w T)(hT:ek T S S)(hS:S<=8)(jV:la<C)(oQ:lb<R)(hC:C<=8)(hR:R<=8)(hm:m<=4)(hN:N<(2*m+1)*(2*m+1))(hB:Wa (pL F S la lb) (aT T) S m N x y gr):
  ∃s' x' y' kJ,D P L pq ⟨mi c (decide (0<N)) N,kg c la lb x y gr H,c+3,c+1⟩=D5 (.normal,s')/\Wa (pL F S la lb) (aT T) S m (N+1) x' y' kJ/\bg [4,5,6,7,12,14,15,16,17,18] s'=⟨mi c ycG (N+1),kg c la lb x' y' kJ H,c+3,c+1⟩:=by
 obtain⟨⟨a1,a2⟩,b1,b2⟩:=aw8 hm hN;have kp:∀a b,a<S->b<S->Hq 429 (pL F S la lb a b):=fun a b h1 h2=>hF.H (ml oQ h2) (ml jV h1)
 have kq:∀a b,a<S->b<S->Hq 429 (aT T a b):=fun a b h1 h2=>hT.H h2 h1
 obtain⟨z,e1,hz⟩:=Vx h.toCtd.toCen.toMom.toFr' (z:=0) (by omega) (by omega);have lR:=hz;obtain⟨z1,z2,z3,z4,rfl,gz⟩:=hz.gen;have e2:af P L 673 [.agg [aa C,aa R,aa S],.agg [aa la,aa lb]] (.fn (.f 719) [] [c6 C R S,jj la lb]):=by
  unfold af;rw[aH h.toCtd.awK];simp only[go_sem,ya,yc,S5,iG,Og]
  first | done | rfl
 have aBb:N<81:=by
  have h1:(2*m+1)*(2*m+1)<=9*9:=xd (by omega) (by omega);omega
 have mN:((N:Int)).tmod ((2*m+1:Nat):Int)=((N%(2*m+1):Nat):Int):=(yah _ _).symm;have qN:((N:Int)).tdiv ((2*m+1:Nat):Int)=((N/(2*m+1):Nat):Int):=(yai _ _).symm;have n0:(((2*m+1:Nat)):Int)≠0:=by omega
 have w1:IntKind.wrap .i64 (2*(m:Int))=((2*m:Nat):Int):=by rw[wrap64 (by omega) (by omega)];omega
 have w2:IntKind.wrap .i64 (((2*m:Nat):Int)+1)=((2*m+1:Nat):Int):=by rw[wrap64 (by omega) (by omega)];omega
 have l1:N%(2*m+1)<=8:=by have:=xp N (show 0<2*m+1 by omega);omega
 have l2:N/(2*m+1)<=8:=by
  have:N/(2*m+1)<2*m+1:=tM hN
  omega
 have w3:IntKind.wrap .i64 ((N%(2*m+1):Nat):Int)=((N%(2*m+1):Nat):Int):=by
  generalize N%(2*m+1)=x at*
  exact wrap64 (by omega) (by omega)
 have w4:IntKind.wrap .i64 ((N/(2*m+1):Nat):Int)=((N/(2*m+1):Nat):Int):=by
  generalize N/(2*m+1)=x at*
  exact wrap64 (by omega) (by omega)
 have w5:IntKind.wrap .i64 (((N%(2*m+1):Nat):Int)-m)=eK m N:=wrap64 (n:=eK m N) (by omega) (by omega);have w6:IntKind.wrap .i64 (((N/(2*m+1):Nat):Int)-m)=ep m N:=wrap64 (n:=ep m N) (by omega) (by omega);have w7:IntKind.wrap .i64 ((N:Int)+1)=((N+1:Nat):Int):=wrap64 (by omega) (by omega);have KF:decide (ep m N>(m:Int))=ycH:=yW (by omega);have aBc:decide ((m:Int)<ep m N)=ycH:=yW (by omega);have g0:=lo.g0;have g1:=lo.g1;have g2:=lo.g2;have g3:=lo.g3;have fz:=qY;have Wb:=awL;have hz4:∀ct,lG ct 4 [AV.int .i64 0,.ah,.int .i64 0,.ah]=D5 (.ptr ct 0,.cells ycG ycG ycG 4 [AV.int .i64 0,.ah,.int .i64 0,.ah]):=fun _=>rfl
 have eW:∀(tm:Env) (a:Int) (r:List (Nat×Nat×X)),mY tm [AV.int .i64 0,.int .i64 0] 0 1 [.int .i64 a] r=fill tm [.int .i64 a,.int .i64 0] r:=fun tm a r=>by rw[Ep (by simp) rfl];rfl
 have KG:∀(tm:Env) (a b:Int) (r:List (Nat×Nat×X)),mY tm [AV.int .i64 a,.int .i64 0] 1 1 [.int .i64 b] r=fill tm [.int .i64 a,.int .i64 b] r:=fun tm a b r=>by rw[Ep (by simp) rfl];rfl
 have qZ:∀a b:Int,cellsOf (.agg [AV.int .i64 a,.int .i64 b])=[.int .i64 a,.int .i64 b]:=fun _ _=>rfl
 have o1:=Ma lo (show c<=c+1 by omega);have o2:=Ru lo (show c<=c+1 by omega);have o3:=RY lo (show c<=c+1 by omega);obtain⟨GW,GX,GY,GZ⟩:=gz.pus;have key:∀{TM:Env} {x y:Int} {gr:List AV} {Q},D P L (.rf (.t 75) [76,77] er dN) ⟨TM,zn c la lb x y gr (eK m N) (ep m N) [z1,z2,z3,z4] H,c+6,c+1⟩=Q->aj TM 4=.ptr 0 0->aj TM 5=.ptr 1 0->aj TM 6=.ptr 2 0->aj TM 19=.ptr (c+3) 0->aj TM 20=.ptr (c+4) 0->aj TM 21=.ptr (c+5) 0->aj TM 75=.fn (.f 719) [] [c6 C R S,jj la lb]->hZ (c+6) TM->(ck TM).length<=1000->∃n1 n2 n3 n4,dJ (.agg [n1,n2,n3,n4]) (gK (pL F S la lb) (aT T) S (eK m N) (ep m N))/\Q=D5 (.normal,⟨TM,zn c la lb x y gr (eK m N) (ep m N) [n1,n2,n3,n4] H,c+7,c+1⟩):=fun {TM x y gr Q} hQ t4 t5 t6 t19 t20 t21 t75 oL hn=>by
  obtain⟨M',⟨n1,n2,n3,n4,rfl,hM⟩,e⟩:=auF h (TM:=TM) (la:=la) (lb:=lb) (x:=x) (y:=y) (gr:=gr) (a:=eK m N) (b:=ep m N) (M:=[z1,z2,z3,z4]) (bs:=c+1) lo hc t4 t5 t6 t19 t20 t21 t75 oL hn hv hF hw hT hS jV oQ hC hR (by omega) (by omega) ⟨z1,z2,z3,z4,rfl,lR⟩;exact⟨n1,n2,n3,n4,hM,hQ.symm.trans e⟩
 unfold af at e1 e2;have JJ:=It kp kq hS (eK m N) (ep m N) (yq _)
 cases N with
 | zero=>
  obtain⟨rfl,rfl,rfl⟩:=hB
  suffices hh:∃s' kJ,D P L pq ⟨mi c ycH 0,kg c la lb 0 0 GV H,c+3,c+1⟩=D5 (.normal,s')/\(∃g1 g2 g3 g4,kJ=[g1,g2,g3,g4]/\dJ (.agg kJ) (jM (pL F S la lb) (aT T) S m 0))/\bg [4,5,6,7,12,14,15,16,17,18] s'=⟨mi c ycG 1,kg c la lb (eK m 0) (ep m 0) kJ H,c+3,c+1⟩ by
   obtain⟨s',kJ,q1,q2,q3⟩:=hh;exact⟨s',_,_,kJ,q1,⟨rfl,rfl,q2⟩,q3⟩
  rcases hc with rfl | rfl
  all_goals
   simp only[yc] at o1 o2 o3;simp only[mi,kg,GV,yc];simp only[go_sem,ya,yc,pq,g0,g3,yd,yh,w1,w2,dY _ _ _ n0,dE _ _ _ n0,mN,qN,w4,w5,w6,zQ,zR,zG,zD,mh,wx,mh,KF,Dr,aU,e1,bM,gz.st,ia,bS,fz,Wb,e2];generalize hQ:D P L (.rf _ _ _ _) _=Q;obtain⟨n1,n2,n3,n4,hM,rfl⟩:=key hQ rfl rfl rfl rfl rfl rfl rfl (by simp[hZ,below,j0,c6,jj,fO GW,fO GX,fO GY,fO GZ]) (by simp[ck,refs,eG,c6,jj,dj GW,dj GX,dj GY,dj GZ]);simp only[zn,yc];have gM:=hM.f4;simp only[go_sem,ya,Iq,yh,eW,KG,qZ,zQ,zR,zG,zD,mh,wx,mh,DC,gM.st];refine⟨_,_,rfl,⟨_,_,_,_,rfl,hM⟩,?_⟩;rw[w7]
   simp only[go_sem,ya,yc,yB,yp,CD,DD,ym,yD,o1,o2,o3]
 | succ N=>
  obtain⟨rfl,rfl,k1,k2,k3,k4,rfl,Pg⟩:=hB;have gk:=Pg.f4;have hdN:decide (0<N+1)=ycG:=yU (by omega);rw[hdN];have kb:Hq 60000 (jM (pL F S la lb) (aT T) S m (c7 (pL F S la lb) (aT T) S m N)):=It kp kq hS _ _ (yq _);have jv:c7 (pL F S la lb) (aT T) S m (N+1)=if jM (pL F S la lb) (aT T) S m (c7 (pL F S la lb) (aT T) S m N)<gK (pL F S la lb) (aT T) S (eK m (N+1)) (ep m (N+1)) then N+1 else c7 (pL F S la lb) (aT T) S m N:=rfl
  have c3:=aal (gK (pL F S la lb) (aT T) S (eK m (N+1)) (ep m (N+1))) (jM (pL F S la lb) (aT T) S m (c7 (pL F S la lb) (aT T) S m N));by_cases aB:jM (pL F S la lb) (aT T) S m (c7 (pL F S la lb) (aT T) S m N)<gK (pL F S la lb) (aT T) S (eK m (N+1)) (ep m (N+1))
  .rw [yN aB] at jv;rw[yU aB] at c3
   suffices hh:∃s' kJ,D P L pq ⟨mi c ycG (N+1),kg c la lb (eK m (c7 (pL F S la lb) (aT T) S m N)) (ep m (c7 (pL F S la lb) (aT T) S m N)) [k1,k2,k3,k4] H,c+3,c+1⟩=D5 (.normal,s')/\(∃g1 g2 g3 g4,kJ=[g1,g2,g3,g4]/\dJ (.agg kJ) (gK (pL F S la lb) (aT T) S (eK m (N+1)) (ep m (N+1))))/\bg [4,5,6,7,12,14,15,16,17,18] s'=⟨mi c ycG (N+2),kg c la lb (eK m (N+1)) (ep m (N+1)) kJ H,c+3,c+1⟩ by
    obtain⟨s',kJ,q1,q2,q3⟩:=hh;refine⟨s',_,_,kJ,q1,⟨?_,?_,?_⟩,q3⟩
    .rw [jv]
    .rw [jv]
    .rw [jv];exact q2
   rcases hc with rfl | rfl
   all_goals
    simp only[yc] at o1 o2 o3;simp only[mi,kg,yc];simp only[go_sem,ya,yc,pq,g0,g3,yd,yh,w1,w2,dY _ _ _ n0,dE _ _ _ n0,mN,qN,w4,w5,w6,zQ,zR,zG,zD,mh,wx,mh,KF,Dr,aU,e1,bM,gz.st,ia,bS,fz,Wb,e2];generalize hQ:D P L (.rf _ _ _ _) _=Q;obtain⟨n1,n2,n3,n4,hM,rfl⟩:=key hQ rfl rfl rfl rfl rfl rfl rfl (by simp[hZ,below,j0,c6,jj,fO GW,fO GX,fO GY,fO GZ]) (by simp[ck,refs,eG,c6,jj,dj GW,dj GX,dj GY,dj GZ]);simp only[zn,yc];have gM:=hM.f4;have e3:=m71 h.toCtd.toCen.toMom.toFr' hM Pg JJ kb (by decide);unfold af at e3
    simp only[go_sem,ya,Iq,yh,gM.ak,gk.ak,e3,c3,eW,KG,qZ,zQ,zR,zG,zD,mh,wx,mh,DC,gM.st];refine⟨_,_,rfl,⟨_,_,_,_,rfl,hM⟩,?_⟩;rw[w7];simp only[go_sem,ya,yc,yB,yp,CD,DD,ym,yD,o1,o2,o3]
  .rw [yx aB] at jv;rw[yW aB] at c3
   suffices hh:∃s',D P L pq ⟨mi c ycG (N+1),kg c la lb (eK m (c7 (pL F S la lb) (aT T) S m N)) (ep m (c7 (pL F S la lb) (aT T) S m N)) [k1,k2,k3,k4] H,c+3,c+1⟩=D5 (.normal,s')/\bg [4,5,6,7,12,14,15,16,17,18] s'=⟨mi c ycG (N+2),kg c la lb (eK m (c7 (pL F S la lb) (aT T) S m N)) (ep m (c7 (pL F S la lb) (aT T) S m N)) [k1,k2,k3,k4] H,c+3,c+1⟩ by
    obtain⟨s',q1,q3⟩:=hh;refine⟨s',_,_,_,q1,⟨?_,?_,?_⟩,q3⟩
    .rw [jv]
    .rw [jv]
    .rw [jv];exact⟨_,_,_,_,rfl,Pg⟩
   rcases hc with rfl | rfl
   all_goals
    simp only[yc] at o1 o2 o3;simp only[mi,kg,yc];simp only[go_sem,ya,yc,pq,g0,g3,yd,yh,w1,w2,dY _ _ _ n0,dE _ _ _ n0,mN,qN,w4,w5,w6,zQ,zR,zG,zD,mh,wx,mh,KF,Dr,aU,e1,bM,gz.st,ia,bS,fz,Wb,e2];generalize hQ:D P L (.rf _ _ _ _) _=Q;obtain⟨n1,n2,n3,n4,hM,rfl⟩:=key hQ rfl rfl rfl rfl rfl rfl rfl (by simp[hZ,below,j0,c6,jj,fO GW,fO GX,fO GY,fO GZ]) (by simp[ck,refs,eG,c6,jj,dj GW,dj GX,dj GY,dj GZ]);simp only[zn,yc];have gM:=hM.f4;have e3:=m71 h.toCtd.toCen.toMom.toFr' hM Pg JJ kb (by decide);unfold af at e3;simp only[go_sem,ya,Iq,yh,gM.ak,gk.ak,e3,c3];refine⟨_,rfl,?_⟩;rw[w7]
    simp only[go_sem,ya,yc,yB,yp,CD,DD,ym,yD,o1,o2,o3]
section
variable {v w:AV}{F T:List (List Nat)}{C R S m:Nat}{A B:VC}
def jY(m:Nat):Nat:=(2*m+1)*(2*m+1)
noncomputable def jN(F T:List (List Nat))(S m la lb:Nat):Int×Int:=(eK m (c7 (pL F S la lb) (aT T) S m (jY m-1)),ep m (c7 (pL F S la lb) (aT T) S m (jY m-1)))
noncomputable def mB(F T:List (List Nat))(C R S m:Nat):List (Int×Int):=(wE (C*R)).map fun k=>jN F T S m (k%C) (k/C)
def QR:(mB F T C R S m).length=C*R:=by simp[mB]
def Zy{k:Nat}(hk:k<(mB F T C R S m).length):(mB F T C R S m)[k]=jN F T S m (k%C) (k/C):=by simp[mB]
def jA(l:List (Int×Int)):List AV:=(l.map fun p=>[aa p.1,aa p.2]).flatten
def Mb(l:List (Int×Int)):(jA l).length=l.length*2:=by
 unfold jA
 rw[Yp (k:=2) (fun p hp=>by obtain⟨t,_,rfl⟩:=yaf.1 hp;rfl),yX]
def Zz(l:List (Int×Int))(p:Int×Int):jA (l++[p])=jA l++[aa p.1,aa p.2]:=by unfold jA;simp
def Ol(v:AV)(l:List (Int×Int)):Prop:=rI 2 v (l.map fun p=>[aa p.1,aa p.2])
def asM(h:Cs P L){c la lb:Nat}{H:Hp}(lo:zm C R S m v w c H)(hc:c=8\/c=9)(hv:bC bP v F)(hF:ek F (R*S) (C*S))(hw:bC bP w T)(hT:ek T S S)(hS:S<=8)(jV:la<C)(oQ:lb<R)(hC:C<=8)(hR:R<=8)(hm:m<=4):
  cP P L [4,5,6,7,12,14,15,16,17,18] pq (fun d st=>∃N x y gr,N+d=jY m/\Wa (pL F S la lb) (aT T) S m N x y gr/\st=⟨mi c (decide (0<N)) N,kg c la lb x y gr H,c+3,c+1⟩) (fun ex s'=>∃tm gr o1 o2,s'=⟨tm,(c+4,o1)::(c+3,o2)::kg c la lb (jN F T S m la lb).1 (jN F T S m la lb).2 gr H,c+5,c+1⟩/\ex=.exit 2/\aY tm [12,15]=[(12,.ptr 6 0),(15,.ptr (c+1) 0)]):=by
 apply cT;rintro d st ⟨N,x,y,gr,hNd,hB,rfl⟩;by_cases hN:N<jY m
 .left
  obtain⟨s',x',y',kJ,q1,q2,q3⟩:=asL h (x:=x) (y:=y) (gr:=gr) lo hc hv hF hw hT hS jV oQ hC hR hm hN hB;refine⟨s',d-1,q1,by omega,N+1,x',y',kJ,by omega,q2,?_⟩;rw[q3,yU (show 0<N+1 by omega)]
 .right
  have hNe:N=jY m:=by omega
  have h81:jY m<=81:=xd (show 2*m+1<=9 by omega) (show 2*m+1<=9 by omega);obtain⟨N',hN'⟩:∃N',N=N'+1:=⟨N-1,by
   have:0<jY m:=wN (by omega) (by omega)
   omega⟩
  have hx:x=(jN F T S m la lb).1/\y=(jN F T S m la lb).2:=by
   rw[hN'] at hB;obtain⟨q1,q2,_⟩:=hB;have e:jY m-1=N':=by omega
   unfold jN;rw[e];exact⟨q1,q2⟩
  obtain⟨rfl,rfl⟩:=hx;have kP:N%(2*m+1)=0:=by rw[hNe];exact Nat.mul_mod_left _ _
  have hdiv:N/(2*m+1)=2*m+1:=by rw[hNe];exact Nat.mul_div_cancel_left _ (by omega)
  have mN:((N:Int)).tmod ((2*m+1:Nat):Int)=0:=by rw[<-yah,kP];rfl
  have qN:((N:Int)).tdiv ((2*m+1:Nat):Int)=((2*m+1:Nat):Int):=by rw[<-yai,hdiv]
  have n0:(((2*m+1:Nat)):Int)≠0:=by omega
  have w1:IntKind.wrap .i64 (2*(m:Int))=((2*m:Nat):Int):=by rw[wrap64 (by omega) (by omega)];omega
  have w2:IntKind.wrap .i64 (((2*m:Nat):Int)+1)=((2*m+1:Nat):Int):=by rw[wrap64 (by omega) (by omega)];omega
  have w4:IntKind.wrap .i64 ((2*m+1:Nat):Int)=((2*m+1:Nat):Int):=wrap64 (by omega) (by omega);have w6:IntKind.wrap .i64 (((2*m+1:Nat):Int)-m)=(m:Int)+1:=by rw[wrap64 (by omega) (by omega)];omega
  have w3:IntKind.wrap .i64 0=0:=rfl;have KF:decide ((m:Int)<(m:Int)+1)=ycG:=yU (by omega);have g3:=lo.g3;have gU:decide (0<N)=ycG:=yU (by omega);clear hB kP hdiv;generalize (jN F T S m la lb).1=x at*
  generalize (jN F T S m la lb).2=y at*
  rcases hc with rfl | rfl
  all_goals
   simp only[mi,kg,yc];simp only[go_sem,ya,yc,pq,g3,yd,yh,w1,w2,dY _ _ _ n0,dE _ _ _ n0,mN,qN,w4,w6,zQ,zR,zG,zD,mh,wx,mh,KF,Dr,aU];exact⟨_,_,rfl,by simp,_,gr,_,_,rfl,rfl,by simp only[go_sem,ya]<;>rfl⟩
def gW(C R S m:Nat)(v w:AV):Env:=[(50,.fn (.f 718) [] [c6 C R S]),(49,.agg [aa C,aa R,aa S]),(12,.ptr 6 0),(47,.bool ycH),(46,aa 0),(11,aa 0),(45,aa 0),(44,.av 5 0 2),(43,aa 0),(42,aa m),(41,aa 0),(40,w),(38,.bool ycH),(37,aa 0),(10,aa 0),(36,aa 0),(35,.av 4 0 2),(34,aa 0),(33,.bool ycH),(32,aa S),(31,.ptr 0 2),(30,aa S),(29,w),(28,aa 0),(27,v),(26,.agg [aa C,aa R,aa S]),(9,aa 0),(8,.ah),(7,.ptr 3 0),(6,.ptr 2 0),(5,.ptr 1 0),(4,.ptr 0 0),(0,.agg [aa C,aa R,aa S]),(1,v),(2,w),(3,aa m)]
def jy(C R S m:Int)(v w q:AV)(pu:Bool):Hp:=[(6,.cells ycG pu ycG 1 [q]),(5,.cells ycH ycG ycG 1 [aa 0,aa 0]),(4,.cells ycH ycG ycG 1 [aa 0,aa 0]),(3,.cells ycG ycG ycG 1 [aa m]),(2,.cells ycG ycG ycG 1 [w]),(1,.cells ycG ycG ycG 1 [v]),(0,.cells ycG ycG ycG 3 [aa C,aa R,aa S])]
def fe(A B:VC)(C R S m:Nat)(v w:AV):Nat->List AV->Nat->Hp
 | 0,_,st=>(7,.lp (gW C R S m v w) [51,52] A B st .none)::jy C R S m v w .ah ycG
 | n+1,Q,st=>(8,.cells ycG ycG ycH 2 Q)::(7,.lp (gW C R S m v w) [51,52] A B st .none)::jy C R S m v w (.av 8 0 (n+1)) ycH
def jB:Nat->Nat
 | 0=>8
 | _+1=>9
def asN(pv:aS v=ycG)(pw:aS w=ycG)(n:Nat)(Q:List AV)(st:Nat):zm C R S m v w (jB n) (fe A B C R S m v w n Q st):=by
 have b1:=fun n=>fO (n:=n) pv
 have b2:=fun n=>fO (n:=n) pw
 cases n with
 | zero=>exact⟨rfl,rfl,rfl,rfl,by simp[fe,jy,jB,ef,mU,hZ,below,j0,gW,c6,b1,b2],by simp[fe,jy,jB,gW,c6,bH,gD,ck,refs,eG,dj pv,dj pw,show yF 6 8=ycG from rfl,show yF 7 8=ycG from rfl]⟩
 | succ n=>exact⟨rfl,rfl,rfl,rfl,by simp[fe,jy,jB,ef,mU,hZ,below,j0,gW,c6,b1,b2],by simp[fe,jy,jB,gW,c6,bH,gD,ck,refs,eG,dj pv,dj pw,show yF 6 9=ycG from rfl,show yF 7 9=ycG from rfl,show yF 8 9=ycG from rfl]⟩
def acz(pv:aS v=ycG)(pw:aS w=ycG)(n:Nat)(Q:List AV):my 8 7 (fe A B C R S m v w n Q 0)=(fe A B C R S m v w n Q 0,jB n):=by
 cases n<;>simp only[go_sem,yc,yB,yp,Rk,fe,jy,jB,gW,c6,aF pv,aF pw]
def auG(pv:aS v=ycG)(pw:aS w=ycG)(n:Nat)(Q:List AV)(tm:Env)(ct:Nat):bg [] ⟨tm,fe A B C R S m v w n Q 0,ct,8⟩=⟨[],fe A B C R S m v w n Q 0,jB n,8⟩:=by
 cases n<;>simp only[go_sem,yc,yB,yp,amb,auz,fe,jy,jB,gW,c6,aF pv,aF pw]
def auH(h:Cs P L){la lb k n:Nat}{Q:List AV}(hv:bC bP v F)(hF:ek F (R*S) (C*S))(hw:bC bP w T)(hT:ek T S S)(hS:S<=8)(jV:la<C)(oQ:lb<R)(hC:C<=8)(hR:R<=8)(hm:m<=4)(AN:Q.length=n*2)(hn:n<=64):
  ∃hp aK,iP (D P L) (fe nS nT C R S m v w n Q 0) (jB n) 7 [aa k,.agg [aa la,aa lb]]=D5 (.bool ycG,hp,aK)/\my 8 7 hp=(fe nS nT C R S m v w (n+1) (Q++[aa (jN F T S m la lb).1,aa (jN F T S m la lb).2]) 0,9):=by
 have pv:=hv.pu;have pw:=hw.pu;have lo:=fun Ac Bc=>asN (A:=Ac) (B:=Bc) (C:=C) (R:=R) (S:=S) (m:=m) pv pw n Q 1
 have key:=fun Ac Bc=>asM h (la:=la) (lb:=lb) (lo Ac Bc) (by cases n<;>simp[jB]) hv hF hw hT hS jV oQ hC hR hm
 have hb4:∀ct,lG ct 4 [AV.int .i64 0,.ah,.int .i64 0,.ah]=D5 (.ptr ct 0,.cells ycG ycG ycG 4 GV):=fun _=>rfl
 have eW:∀(tm:Env) (a b:Int),mY tm [AV.int .i64 0,.int .i64 0] 0 2 [.int .i64 a,.int .i64 b] []=D5 [.int .i64 a,.int .i64 b]:=fun tm a b=>rfl
 have KH:∀(cm pu ex:Bool) (a b:AV),OW 0 1 2 (D5 (.cells cm pu ex 2 [a,b]))=D5 (1,[a,b]):=fun _ _ _ _ _=>rfl
 have qZ:∀a b:Int,cellsOf (.agg [AV.int .i64 a,.int .i64 b])=[.int .i64 a,.int .i64 b]:=fun _ _=>rfl
 generalize (jN F T S m la lb).1=bx at*
 generalize (jN F T S m la lb).2=by' at*
 match n,AN,hn,lo,key with
 | 0,AN,hn,lo,key=>
  have AN:Q=[]:=uR.1 (by simpa using AN);subst AN;simp only[jB,yc] at key;have gh:∀Ac Bc,D P L nS ⟨(52,.agg [aa la,aa lb])::(51,aa k)::gW C R S m v w,fe Ac Bc C R S m v w 0 [] 0,8,8⟩=D5 (.normal,⟨(14,.ptr 8 0)::(52,.agg [aa la,aa lb])::(51,aa k)::gW C R S m v w,(8,.cells ycG ycG ycG 2 [aa la,aa lb])::fe Ac Bc C R S m v w 0 [] 0,9,8⟩):=by
   intro Ac Bc;simp only[go_sem,ya,yc,nS,Og,DC]
  have jg:∀Ac Bc,∃tm hp ct,D P L nT ⟨(14,.ptr 8 0)::(52,.agg [aa la,aa lb])::(51,aa k)::gW C R S m v w,(8,.cells ycG ycG ycG 2 [aa la,aa lb])::fe Ac Bc C R S m v w 0 [] 1,9,9⟩=D5 (.normal,⟨tm,hp,ct,9⟩)/\ai hp 7=D5 (.lp (gW C R S m v w) [51,52] Ac Bc 1 .none)/\my 8 7 (aV hp 7 (.lp (gW C R S m v w) [51,52] Ac Bc 0 .none))=(fe Ac Bc C R S m v w (0+1) ([]++[aa bx,aa by']) 0,9):=by
   intro Ac Bc;have lo:=lo Ac Bc;have key:=key Ac Bc;have o1:=Ma lo (show jB 0<=9 by decide);have o2:=Ru lo (show jB 0<=9 by decide);have o3:=RY lo (show jB 0<=9 by decide);simp only[jB] at o1 o2 o3;generalize hH:fe Ac Bc C R S m v w 0 [] 1=H at key o1 o2 o3;simp only[gW];simp only[go_sem,yc,nT,aU];generalize hQ:D P L (.loop _ pq) _=Q';obtain⟨ex,st,rfl,tm,gr,x1,x2,rfl,rfl,gi⟩:=bF hQ (key (jY m)) ⟨0,0,0,GV,by omega,⟨rfl,rfl,rfl⟩,by
    simp only[go_sem,ya,yc,yB,yp,CD,DD,mi,kg,ym,yD,o1,o2,o3]<;>rfl⟩
   simp only[kg,yc];simp only[go_sem,ya,yc,yB,yp,CD,DD,gi,ym,yD,o1,o2,o3];rw[<-hH];simp only[fe,jy,gW]
   simp only[go_sem,ya,yc,xA,bS,yd,yh,eW,qZ,mM,Hc,G5,KH,jl (sz:=2) (by':=16) (new:=[AV.int .i64 bx,.int .i64 by']) (m:=1) (by decide) (by decide) (by decide) (by decide),Dr,wx];refine⟨_,_,_,rfl,?_,?_⟩
   .simp only [go_sem,ya]
   .simp only [go_sem,ya,yc,yB,yp,Rk,c6,aF pv,aF pw,yD]
  obtain⟨tm,hp,ct,jg,hg,zk⟩:=jg nS nT
  exact⟨_,_,LC (P:=P) (L:=L) (hp:=fe nS nT C R S m v w 0 [] 0) (ct:=8) (l:=7) (xs:=[aa k,.agg [aa la,aa lb]]) rfl rfl (gh _ _) rfl jg hg,zk⟩
 | n+1,AN,hn,lo,key=>
  simp only[jB,yc] at key;have gh:∀Ac Bc,D P L nS ⟨(52,.agg [aa la,aa lb])::(51,aa k)::gW C R S m v w,fe Ac Bc C R S m v w (n+1) Q 0,9,9⟩=D5 (.normal,⟨(14,.ptr 9 0)::(52,.agg [aa la,aa lb])::(51,aa k)::gW C R S m v w,(9,.cells ycG ycG ycG 2 [aa la,aa lb])::fe Ac Bc C R S m v w (n+1) Q 0,10,9⟩):=by
   intro Ac Bc;simp only[go_sem,ya,yc,nS,Og,DC]
  have jg:∀Ac Bc,∃tm hp ct,D P L nT ⟨(14,.ptr 9 0)::(52,.agg [aa la,aa lb])::(51,aa k)::gW C R S m v w,(9,.cells ycG ycG ycG 2 [aa la,aa lb])::fe Ac Bc C R S m v w (n+1) Q 1,10,10⟩=D5 (.normal,⟨tm,hp,ct,10⟩)/\ai hp 7=D5 (.lp (gW C R S m v w) [51,52] Ac Bc 1 .none)/\my 8 7 (aV hp 7 (.lp (gW C R S m v w) [51,52] Ac Bc 0 .none))=(fe Ac Bc C R S m v w (n+1+1) (Q++[aa bx,aa by']) 0,9):=by
   intro Ac Bc;have lo:=lo Ac Bc;have key:=key Ac Bc;have o1:=Ma lo (show 9<=10 by decide);have o2:=Ru lo (show 9<=10 by decide);have o3:=RY lo (show 9<=10 by decide);simp only[jB] at o1 o2 o3;generalize hH:fe Ac Bc C R S m v w (n+1) Q 1=H at key o1 o2 o3;simp only[gW];simp only[go_sem,yc,nT,aU];generalize hQ:D P L (.loop _ pq) _=Q';obtain⟨ex,st,rfl,tm,gr,x1,x2,rfl,rfl,gi⟩:=bF hQ (key (jY m)) ⟨0,0,0,GV,by omega,⟨rfl,rfl,rfl⟩,by
    simp only[go_sem,ya,yc,yB,yp,CD,DD,mi,kg,ym,yD,o1,o2,o3]<;>rfl⟩
   simp only[kg,yc];simp only[go_sem,ya,yc,yB,yp,CD,DD,gi,ym,yD,o1,o2,o3];rw[<-hH];simp only[fe,jy,gW];have Um:=fun (hp:Hp) (ct:Nat) (hg:ai hp 8=D5 (.cells ycG ycG ycH 2 Q))=>il (ct:=ct) (by':=16) (new:=[AV.int .i64 bx,.int .i64 by']) (m:=1) (n:=n+1) hg AN (by omega) (by omega) (by decide) rfl
   simp only[go_sem,ya,yc,xA,bS,yd,yh,eW,qZ,mM,Hc,G5,KH,Um,Dr,wx];refine⟨_,_,_,rfl,?_,?_⟩
   .simp only [go_sem,ya]
   .simp only [go_sem,ya,yc,yB,yp,Rk,c6,aF pv,aF pw,yD]
  obtain⟨tm,hp,ct,jg,hg,zk⟩:=jg nS nT
  exact⟨_,_,LC (P:=P) (L:=L) (hp:=fe nS nT C R S m v w (n+1) Q 0) (ct:=9) (l:=7) (xs:=[aa k,.agg [aa la,aa lb]]) rfl rfl (gh _ _) rfl jg hg,zk⟩
end
def KI(T:List (List Nat))(m:Int):Int:=b8 [b8 (T.map (gn T.length)),iO m 0 4]
def zo(C R S m:Int)(F T:List (List Nat)):Int:=if b8 [gV C R S F,if (T.length:Int)=S then 0 else 2]=0 then KI T m else b8 [gV C R S F,if (T.length:Int)=S then 0 else 2]
def QS(h:Cs P L){C R S m:Int}{v w:AV}{F T:List (List Nat)}(hv:bC bP v F)(hF:F.length<=1000000)(Wc:∀r,r∈F->r.length<=1000000)(hw:bC bP w T)(hT:T.length<=1000000)(We:∀r,r∈T->r.length<=1000000)(ja:zo C R S m F T≠0):
  af P L 660 [.agg [aa C,aa R,aa S],v,w,aa m] (.ay [.ah,aa (zo C R S m F T)]):=by
 have e1:=aer (P:=P) (L:=L) h.toFrc hv hF Wc (C:=C) (R:=R) (S:=S);have e2:=An (P:=P) (L:=L) h.mz (!decide ((T.length:Int)=S)) 2;rw[show (if (!decide ((T.length:Int)=S))=ycG then (2:Int) else 0)=(if (T.length:Int)=S then 0 else 2) by by_cases e:(T.length:Int)=S<;>simp[e]] at e2
 have e3:=DA (P:=P) (L:=L) h.DB (ik ycG [gV C R S F,if (T.length:Int)=S then 0 else 2]) (by simp);have e4:=aev (P:=P) (L:=L) h.toCkt hw hT We;have e5:=JD (P:=P) (L:=L) h.JF h.mz m 0 4;have e6:=DA (P:=P) (L:=L) h.DB (ik ycG [b8 (T.map (gn T.length)),iO m 0 4]) (by simp);have fz:=qY;have mD:∀(hp:Hp) (n:Nat) (a b:Int),freeze (n+20) hp (.aq ycG 2 [aa a,aa b])=D5 (.aq ycG 2 [aa a,aa b],hp):=fun hp n a b=>(ik ycG [a,b]).ak (n+19)
 have Ph:∀ct,lG ct 1 [v]=D5 (.ptr ct 0,.cells ycG ycG ycG 1 [v]):=fun ct=>by
  rw[aU (n:=1) rfl (by simp only[b5,hv.one];rfl)];simp[aD,hv.pu]
 have mI:∀ct,lG ct 1 [w]=D5 (.ptr ct 0,.cells ycG ycG ycG 1 [w]):=fun ct=>by
  rw[aU (n:=1) rfl (by simp only[b5,hw.one];rfl)];simp[aD,hw.pu]
 simp only[yH,yM,yd,yc,yV,wF] at e3 e6;have hE:=ja;unfold zo at hE ⊢;unfold KI at hE ⊢;unfold iO at hE e6 ⊢;generalize (if m<0\/4<m then (3:Int) else 0)=q1 at*
 generalize b8 (T.map (gn T.length))=q2 at*
 generalize (if (T.length:Int)=S then (0:Int) else 2)=q3 at*
 generalize gV C R S F=q4 at*
 unfold af at e1 e2 e3 e4 e5 e6;unfold af;rw[aH h.aew];by_cases c:b8 [q4,q3]=0
 .rw [yN c] at hE ⊢;simp only[go_sem,ya,yc,yB,yp,yk,Jh,Ph,mI,aU,yh,yI,a6,yd,ia,fz,mM,hv.ak,hv.cells,hw.len,hw.ak,hw.cells,e1,e2,e3,c,e4,e5,e6,hE]
 .rw [yx c] at hE ⊢;simp only[go_sem,ya,yc,yB,yp,yk,Jh,Ph,mI,aU,yh,yI,a6,yd,ia,fz,mM,hv.ak,hv.cells,hw.len,hw.cells,e1,e2,e3,c]
def aoN(h:Cs P L){C R S m:Nat}{v w:AV}{F T:List (List Nat)}(hv:bC bP v F)(hw:bC bP w T)(hF:ek F (R*S) (C*S))(hT:ek T S S)(D2:0<C*R)(hC:C<=8)(hR:R<=8)(hS:S<=8)(hm:m<=4)(hl:F.length<=1000000)(Wc:∀r,r∈F->r.length<=1000000)(hlT:T.length<=1000000)(We:∀r,r∈T->r.length<=1000000)(q0:zo C R S m F T=0):
  af P L 660 [.agg [aa C,aa R,aa S],v,w,aa m] (.ay [.cu ycH 2 (C*R) (jA (mB F T C R S m)),aa 0]):=by
 have e1:=aer (P:=P) (L:=L) h.toFrc hv hl Wc (C:=C) (R:=R) (S:=S);have e2:=An (P:=P) (L:=L) h.mz (!decide ((T.length:Int)=S)) 2;rw[show (if (!decide ((T.length:Int)=S))=ycG then (2:Int) else 0)=(if (T.length:Int)=S then 0 else 2) by by_cases e:(T.length:Int)=S<;>simp[e]] at e2
 have e3:=DA (P:=P) (L:=L) h.DB (ik ycG [gV C R S F,if (T.length:Int)=S then 0 else 2]) (by simp);have e4:=aev (P:=P) (L:=L) h.toCkt hw hlT We;have e5:=JD (P:=P) (L:=L) h.JF h.mz m 0 4;have e6:=DA (P:=P) (L:=L) h.DB (ik ycG [b8 (T.map (gn T.length)),iO m 0 4]) (by simp);have e7:=awN (P:=P) (L:=L) h.awM C R S;have fz:=qY;have mD:∀(hp:Hp) (n:Nat) (a b:Int),freeze (n+20) hp (.aq ycG 2 [aa a,aa b])=D5 (.aq ycG 2 [aa a,aa b],hp):=fun hp n a b=>(ik ycG [a,b]).ak (n+19)
 have Ph:∀ct,lG ct 1 [v]=D5 (.ptr ct 0,.cells ycG ycG ycG 1 [v]):=fun ct=>by
  rw[aU (n:=1) rfl (by simp only[b5,hv.one];rfl)];simp[aD,hv.pu]
 have mI:∀ct,lG ct 1 [w]=D5 (.ptr ct 0,.cells ycG ycG ycG 1 [w]):=fun ct=>by
  rw[aU (n:=1) rfl (by simp only[b5,hw.one];rfl)];simp[aD,hw.pu]
 simp only[yH,yM,yd,yc,yV,wF] at e3 e6;have hq:b8 [gV C R S F,if (T.length:Int)=S then 0 else 2]=0:=by
  by_cases c:b8 [gV C R S F,if (T.length:Int)=S then 0 else 2]=0
  .exact c
  .unfold zo at q0;rw[yx c] at q0;exact absurd q0 c
 have oJ:KI T m=0:=by unfold zo at q0;rw[yN hq] at q0;exact q0
 obtain⟨c1,c2⟩:=Rj.1 hq;obtain⟨d1,d2⟩:=Rj.1 (by unfold KI at oJ;exact oJ)
 have hTl:(T.length:Int)=S:=by
  by_cases e:(T.length:Int)=S
  .exact e
  .rw [yx e] at c2;exact absurd c2 (by decide)
 rw[c1] at e1;rw[c2] at e2;rw[hq] at e3;rw[d1] at e4;rw[c1,c2] at e3;rw[d1,d2] at e6;have d2':(if (m:Int)<0\/4<(m:Int) then (3:Int) else 0)=0:=d2;rw[d2'] at e5;have hfi:b8 [0,0]=0:=by decide
 rw[hfi] at e6;have UM:decide ((T.length:Int)=S)=ycG:=yU hTl;rw[UM,xF] at e2;have hss:decide ((S:Int)=S)=ycG:=yU rfl;have hlen:=QR (F:=F) (T:=T) (C:=C) (R:=R) (S:=S) (m:=m);have ai:=fun k (hk:k<(mB F T C R S m).length)=>Zy (F:=F) (T:=T) (C:=C) (R:=R) (S:=S) (m:=m) hk
 generalize kR:mB F T C R S m=ts at*
 have auI:C*R<=64:=xd hC hR;have h1:=asj (P:=P) (L:=L) h.Fj (f:=.t 50) (ps:=[51,52]) (as_:=nS) (body:=nT) (s:=⟨gW C R S m v w,jy C R S m v w .ah ycG,7,0⟩) (S:=S) hC hR rfl
  (Inv:=fun k H c=>H=fe nS nT C R S m v w k (jA (ts.take k)) 0/\c=jB k) (Bad:=fun _ _=>False)
  ⟨by rintro j H c ⟨rfl,rfl⟩;exact acz hv.pu hw.pu j _,by rintro j H c ⟨rfl,rfl⟩ tm ct;exact auG hv.pu hw.pu j _ tm ct,by rintro j H c ⟨rfl,rfl⟩;cases j<;>exact⟨_,_,_,_,rfl⟩⟩
  ⟨_,_,acz hv.pu hw.pu 0 (jA (ts.take 0)),rfl,rfl⟩ (by
   rintro k H c BY ⟨rfl,rfl⟩;obtain⟨l1,l2⟩:=Ro BY;have ju:k<ts.length:=by rw[hlen];exact BY
   have AN:(jA (ts.take k)).length=k*2:=by rw[Mb,yT,xt (by omega)]
   obtain⟨hp,aK,e3,e4⟩:=auH h (k:=k) hv hF hw hT hS l1 l2 hC hR hm AN (by omega);refine .inl ⟨hp,aK,_,_,e3,e4,?_,rfl⟩
   rw[wa ju,Zz,ai k ju])
 rcases h1 with ⟨H,c,⟨rfl,rfl⟩,hD⟩ | ⟨_,_,hf,_⟩
 case inr=>exact hf.elim
 rw[yO (by omega)] at hD;obtain⟨n,hn⟩:∃n,C*R=n+1:=⟨C*R-1,by omega⟩;rw[hn] at hD hlen ⊢;have oC:=Mb ts;rw[hlen] at oC;unfold fe jB jy at hD;unfold gW at hD;unfold af at e1 e2 e3 e4 e5 e6 e7;unfold af;rw[aH h.aew];simp only[go_sem,ya,yc,yB,yp,yk,Jh,Ph,mI,aU,yh,yI,a6,yd,ia,fz,mM,hv.ak,hv.cells,hw.len,hw.ak,hw.cells,e1,e2,e3,hTl,xF,e4,e5,e7,hD];exact asC rfl oC
section
variable {a b:Int}{T:List (List Nat)}{S r:Nat}
def pC(v w:AV)(a b:Int)(u:List Nat)(r k:Nat):Env:=[(1,v),(2,w),(3,aa a),(4,aa b),(5,.ptr 0 0),(11,.str u),(12,aa r),(13,aa k)]
def r9(v w:AV)(a b:Int)(u:List Nat)(r:Nat):Env:=[(1,v),(2,w),(3,aa a),(4,aa b),(5,.ptr 0 0),(11,.str u),(12,aa r)]
def fW(C R S:Int):Hp:=[(0,eE C R S)]
structure Ct(P:aE)(L:Lib):Prop extends Fy P L where
 JC:Has P L 315 Je
 Ok:Has P L 788 Jk
 Om:Has P L 665 NH
 fh:Has P L 773 Tb
 fW:Has P L 791 Tc
def aoO{p q:Nat->Nat->Rat}{k:Nat}(hk:k<S)(h:nF S ((k:Int)-a) ((r:Int)-b)=ycG):fp p q S a b (r*S+k)=p k r*q ((k:Int)-a).toNat ((r:Int)-b).toNat:=by
 unfold fp;rw[Mz hk,MA hk,yN h]
def amk{p q:Nat->Nat->Rat}{k:Nat}(hk:k<S)(h:¬nF S ((k:Int)-a) ((r:Int)-b)=ycG):fp p q S a b (r*S+k)=0:=by
 unfold fp;rw[Mz hk,MA hk,yx h]
def asP(h:Ct P L){v w:AV}{p:Nat->Nat->Rat}{C R:Int}(hv:bC rH v (oP (mA p S S)))(kp:∀a b,a<S->b<S->Hq 429 (p a b))(hw:bC bP w T)(hT:ek T S S)(hS:S<=8)(hr:r<S)(ha: -100<=a/\a<=100)(hb: -100<=b/\b<=100):
  cP P L [1,2,3,4,5,11,12,13] zN (fun d st=>∃k,k+d=S/\st=⟨pC v w a b (RT (jz (fp p (aT T) S a b) (r*S+k))) r k,fW C R S,1,0⟩) (fun ex s'=>∃tm ct,s'=⟨tm,fW C R S,ct,0⟩/\ex=.exit 2/\aY tm [1,2,3,4,5,11,12]=r9 v w a b (RT (jz (fp p (aT T) S a b) ((r+1)*S))) r):=by
 apply cT;rintro d st ⟨k,VV,rfl⟩;by_cases hk:k<S
 .left
  have hrk:r*S+k<S*S:=by
   have:=yL S (show r+1<=S from hr)
   rw[xL] at this;omega
  have KJ:(k:Int)<S:=by omega
  have wI:IntKind.wrap .i64 ((k:Int)-a)=(k:Int)-a:=wrap64 (by omega) (by omega);have wK:IntKind.wrap .i64 ((r:Int)-b)=(r:Int)-b:=wrap64 (by omega) (by omega);have w1:IntKind.wrap .i64 ((k:Int)+1)=((k+1:Nat):Int):=wrap64 (by omega) (by omega);have fa:jz (fp p (aT T) S a b) (r*S+(k+1))=jz (fp p (aT T) S a b) (r*S+k)+fp p (aT T) S a b (r*S+k):=rfl;by_cases b9:nF S ((k:Int)-a) ((r:Int)-b)=ycG
  .rw [aoO hk b9] at fa;have kv:=b9;unfold nF at kv;simp only[ye,vh] at kv;obtain⟨p1,p2,p3,p4⟩:=kv;obtain⟨i',cX⟩:=vd p1;obtain⟨k',nn⟩:=vd p2;have nI:((k:Int)-a).toNat=i':=by omega
   have nK:((r:Int)-b).toNat=k':=by omega
   rw[nI,nK] at fa;have V6:IntKind.wrap .i64 ((k:Int)-a)=(i':Int):=by rw[wI,cX]
   have V7:IntKind.wrap .i64 ((r:Int)-b)=(k':Int):=by rw[wK,nn]
   have q3:(i':Int)<S:=by omega
   have q4:(k':Int)<S:=by omega
   have q1:(0:Int)<=i':=by omega
   have q2:(0:Int)<=k':=by omega
   clear wI wK;obtain⟨wr,rest,hwr,e0⟩:=hv.bD (i:=r) (by rw[aaw,Zu];exact hr)
   rw[aoM] at hwr;have e1:=hwr.bD (i:=k) (by rw[yX,amf];exact hk)
   rw[tN,amg] at e1;obtain⟨w2,M5,bits,e6,⟨aAo,e7⟩,e8⟩:=aay h.toFy hw hT (show i'<S by omega) (show k'<S by omega);have kz:=hT.H (show k'<S by omega) (show i'<S by omega);have kpk:=kp k r hk hr;have e9:=M2 h.toRn kpk kz (by decide);have zj:=acs h.toRp (It kp (fun a b h1 h2=>hT.H h2 h1) hS a b (show r*S+k<=S*S by omega)) (kpk.mul kz) (by decide);rw[<-fa] at zj;unfold af at e8 e9 zj;have KE:cF (aa i')=D5 i':=rfl;have ask:cF (aa k')=D5 k':=rfl;generalize RT (jz (fp p (aT T) S a b) (r*S+k))=u at*
   simp only[go_sem,ya,zN,pC,fW,eE,a6,yd,yh,yI,KJ,V6,V7,q1,q2,q3,q4,e0,e1,KE,ask,e6,e7,mQ,e8,e9,zj,w1];refine⟨_,d-1,rfl,by omega,k+1,by omega,?_⟩;simp only[go_sem,ya,yc,aA,aF hv.pu,aF hw.pu]<;>rfl
  .rw [amk hk b9,yck] at fa;have fin:∀{Q:Option (Ex×St)},(∃tm ct,Q=D5 (.normal,⟨tm,fW C R S,ct,0⟩)/\aY tm [1,2,3,4,5,11,12,13]=pC v w a b (RT (jz (fp p (aT T) S a b) (r*S+k))) r (k+1))->∃s' d',Q=D5 (.normal,s')/\d'<d/\∃k,k+d'=S/\bg [1,2,3,4,5,11,12,13] s'=⟨pC v w a b (RT (jz (fp p (aT T) S a b) (r*S+k))) r k,fW C R S,1,0⟩:=by
    rintro Q ⟨tm,ct,rfl,nn⟩;refine⟨_,d-1,rfl,by omega,k+1,by omega,?_⟩
    rw[rJ (c':=ct) (tm':=pC v w a b (RT (jz (fp p (aT T) S a b) (r*S+k))) r (k+1)) (by rw[nn];rfl),fa]
    simp only[go_sem,ya,yc,aA,pC,fW,eE,aF hv.pu,aF hw.pu]<;>rfl
   refine fin ?_;generalize RT (jz (fp p (aT T) S a b) (r*S+k))=u at*
   by_cases p1:(0:Int)<=(k:Int)-a
   .by_cases p2:(0:Int)<=(r:Int)-b
    .by_cases p3:(k:Int)-a<S
     .have p4:¬(r:Int)-b<S:=fun q=>b9 (by unfold nF;rw[yU p1,yU p2,yU p3,yU q];rfl)
      simp only[go_sem,ya,zN,pC,fW,eE,a6,yd,yh,yI,KJ,wI,wK,p1,p2,p3,p4,w1];exact⟨_,_,rfl,by simp only[go_sem,ya]<;>rfl⟩
     .simp only [go_sem,ya,zN,pC,fW,eE,a6,yd,yh,yI,KJ,wI,wK,p1,p2,p3,w1];exact⟨_,_,rfl,by simp only[go_sem,ya]<;>rfl⟩
    .simp only [go_sem,ya,zN,pC,fW,eE,a6,yd,yh,yI,KJ,wI,wK,p1,p2,w1];exact⟨_,_,rfl,by simp only[go_sem,ya]<;>rfl⟩
   .simp only [go_sem,ya,zN,pC,fW,eE,a6,yd,yh,yI,KJ,wI,wK,p1,w1];exact⟨_,_,rfl,by simp only[go_sem,ya]<;>rfl⟩
 .right
  have V1:k=S:=by omega
  subst V1;simp only[go_sem,ya,zN,pC,fW,eE,a6,yd,yh,yI,show ¬(k:Int)<k by omega];refine⟨_,_,rfl,by simp,_,_,rfl,rfl,?_⟩;rw[xL,yag];simp only[go_sem,ya,r9]<;>rfl
def aw9(h:Ct P L){v w:AV}{p:Nat->Nat->Rat}{C R:Int}(hv:bC rH v (oP (mA p S S)))(kp:∀a b,a<S->b<S->Hq 429 (p a b))(hw:bC bP w T)(hT:ek T S S)(hS:S<=8)(ha: -100<=a/\a<=100)(hb: -100<=b/\b<=100):
  af P L 791 [.agg [aa C,aa R,aa S],v,w,aa a,aa b] (.str (RT (gK p (aT T) S a b))):=by
 have key:=jm P L [1,2,3,4,5,11,12] Ij
  (fun d st=>∃r,r+d=S/\st=⟨r9 v w a b (RT (jz (fp p (aT T) S a b) (r*S))) r,fW C R S,1,0⟩)
  (fun ex st=>∃tm ct,st=⟨tm,fW C R S,ct,0⟩/\ex=.exit 0/\aY tm [11]=[(11,.str (RT (gK p (aT T) S a b)))]) (by
   rintro d st ⟨r,fb,rfl⟩;by_cases hr:r<S
   .left
    have oz:(r:Int)<S:=by omega
    have w1:IntKind.wrap .i64 ((r:Int)+1)=((r+1:Nat):Int):=wrap64 (by omega) (by omega);have key:=asP (C:=C) (R:=R) h hv kp hw hT hS hr ha hb;simp only[go_sem,ya,Ij,r9,fW,eE,a6,yd,yh,yI,oz];generalize hQ:D P L (.loop _ zN) _=Q;obtain⟨ex,st,rfl,tm,ct,rfl,rfl,gi⟩:=bF hQ (key S) ⟨0,by omega,by simp only[go_sem,ya,yc,aA,pC,fW,eE,yS,aF hv.pu,aF hw.pu]<;>rfl⟩
    have ei:bg [1,2,3,4,5,11,12] ⟨tm,fW C R S,ct,0⟩=⟨r9 v w a b (RT (jz (fp p (aT T) S a b) ((r+1)*S))) r,fW C R S,1,0⟩:=by
     rw[rJ (c':=ct) (tm':=r9 v w a b (RT (jz (fp p (aT T) S a b) ((r+1)*S))) r) (by rw[gi];rfl)]
     simp only[go_sem,ya,yc,aA,r9,fW,eE,aF hv.pu,aF hw.pu]<;>rfl
    simp only[go_sem,ei];simp only[go_sem,ya,r9,w1];refine⟨_,d-1,rfl,by omega,r+1,by omega,?_⟩;simp only[go_sem,ya,yc,aA,fW,eE,aF hv.pu,aF hw.pu]<;>rfl
   .right
    have V4:r=S:=by omega
    subst V4;simp only[go_sem,ya,Ij,r9,fW,eE,a6,yd,yh,yI,show ¬(r:Int)<r by omega]
    exact⟨_,_,rfl,by simp,_,_,rfl,rfl,by simp only[go_sem,ya]<;>rfl⟩) S
 unfold af;rw[aH h.fW];simp only[go_sem,yc,Tc,iG];generalize hQ:D P L (.loop _ Ij) _=Q;obtain⟨ex,st,rfl,tm,ct,rfl,rfl,gi⟩:=bF hQ key ⟨0,by omega,by
  have h0:jz (fp p (aT T) S a b) (0*S)=0:=by rw[wh];rfl
  have h1:RT 0=[48]:=by decide
  simp only[go_sem,ya,yc,aA,r9,fW,eE,h0,h1,aF hv.pu,aF hw.pu]<;>rfl⟩
 have ei:bg [11] ⟨tm,fW C R S,ct,0⟩=⟨[(11,.str (RT (gK p (aT T) S a b)))],[],0,0⟩:=by
  rw[rJ (c':=ct) (tm':=[(11,.str (RT (gK p (aT T) S a b)))]) (by rw[gi];rfl)]
  simp only[go_sem,aA,fW,eE]<;>rfl
 simp only[go_sem,ei]
end
section
variable {px v w:AV}{C R x y:Int}{Q:List AV}{u:List Nat}{i m:Nat}
def cQ:Nat->Nat
 | 0=>1
 | _+1=>2
def fh(C R S:Int):Nat->List AV->Hp
 | 0,_=>[(0,eE C R S)]
 | _+1,Q=>[(1,.cells ycG ycG ycH 2 Q),(0,eE C R S)]
def ew(C R S:Int)(i:Nat)(Q:List AV)(x y:Int):Hp:=(cQ i,.cells ycG ycG ycG 2 [aa x,aa y])::fh C R S i Q
def gL(v w:AV)(m:Nat)(i:Nat):Env:=[(1,v),(2,w),(3,aa m),(4,.ptr 0 0),(9,oB i),(10,aa i)]
def mj(v w:AV)(m:Nat)(i:Nat)(px:AV)(u:List Nat)(fo:Bool)(b:Int):Env:=[(1,v),(2,w),(3,aa m),(4,.ptr 0 0),(9,oB i),(10,aa i),(11,px),(12,.str u),(13,.ptr (cQ i) 0),(14,.bool fo),(15,aa b)]
def jG(v w:AV)(m:Nat)(i:Nat)(px:AV)(u:List Nat)(fo:Bool)(b a:Int):Env:=[(1,v),(2,w),(3,aa m),(4,.ptr 0 0),(9,oB i),(10,aa i),(11,px),(12,.str u),(13,.ptr (cQ i) 0),(14,.bool fo),(15,aa b),(16,aa a)]
def G0(p q:Nat->Nat->Rat)(S m:Nat):Nat->List Nat->Int->Int->Prop
 | 0,u,x,y=>u=[]/\x=0/\y=0
 | N+1,u,x,y=>u=RT (jM p q S m (c7 p q S m N))/\x=eK m (c7 p q S m N)/\y=ep m (c7 p q S m N)
def Mc(pv:aS v=ycG)(pw:aS w=ycG)(pp:aS px=ycG){fo:Bool}{b a:Int}{S:Int}{tm:Env}{ct:Nat}(hk:aY tm [1,2,3,4,9,10,11,12,13,14,15,16]=jG v w m i px u fo b a):bg [1,2,3,4,9,10,11,12,13,14,15,16] ⟨tm,ew C R S i Q x y,ct,0⟩=⟨jG v w m i px u fo b a,ew C R S i Q x y,cQ i+1,0⟩:=by
 rw[rJ (c':=ct) (tm':=jG v w m i px u fo b a) (by rw[hk];rfl)]
 cases i<;>simp only[go_sem,ya,yc,aA,jG,ew,fh,cQ,oB,eE,aF pv,aF pw,aF pp]<;>rfl
def Me(pv:aS v=ycG)(pw:aS w=ycG)(pp:aS px=ycG){fo:Bool}{b:Int}{S:Int}{tm:Env}{ct:Nat}(hk:aY tm [1,2,3,4,9,10,11,12,13,14,15]=mj v w m i px u fo b):bg [1,2,3,4,9,10,11,12,13,14,15] ⟨tm,ew C R S i Q x y,ct,0⟩=⟨mj v w m i px u fo b,ew C R S i Q x y,cQ i+1,0⟩:=by
 rw[rJ (c':=ct) (tm':=mj v w m i px u fo b) (by rw[hk];rfl)]
 cases i<;>simp only[go_sem,ya,yc,aA,mj,ew,fh,cQ,oB,eE,aF pv,aF pw,aF pp]<;>rfl
def asQ(h:Ct P L){p:Nat->Nat->Rat}{T:List (List Nat)}{S B K:Nat}(pv:aS v=ycG)(hx:bC rH px (oP (mA p S S)))(kp:∀a b,a<S->b<S->Hq 429 (p a b))(hw:bC bP w T)(hT:ek T S S)(hS:S<=8)(hm:m<=4)(hB:B<2*m+1)(hK:K<2*m+1)(hb:G0 p (aT T) S m (B*(2*m+1)+K) u x y):
  ∃s' u' x' y',D P L py ⟨jG v w m i px u (decide (0<B*(2*m+1)+K)) ((B:Int)-m) ((K:Int)-m),ew C R S i Q x y,cQ i+1,0⟩=D5 (.normal,s')/\G0 p (aT T) S m (B*(2*m+1)+K+1) u' x' y'/\bg [1,2,3,4,9,10,11,12,13,14,15,16] s'=⟨jG v w m i px u' ycG ((B:Int)-m) (((K+1:Nat):Int)-m),ew C R S i Q x' y',cQ i+1,0⟩:=by
 have pw:=hw.pu;have pp:=hx.pu;have e1:=aw9 h (C:=C) (R:=R) hx kp hw hT hS (a:=(K:Int)-m) (b:=(B:Int)-m) (by omega) (by omega);have Wf:eK m (B*(2*m+1)+K)=(K:Int)-m:=by unfold eK;rw[Mz hK]
 have Wg:ep m (B*(2*m+1)+K)=(B:Int)-m:=by unfold ep;rw[MA hK]
 have OF:jM p (aT T) S m (B*(2*m+1)+K)=gK p (aT T) S ((K:Int)-m) ((B:Int)-m):=by unfold jM;rw[Wf,Wg]
 have w1:IntKind.wrap .i64 (((K:Int)-m)+1)=((K+1:Nat):Int)-m:=by rw[wrap64 (by omega) (by omega)];omega
 have hle:(K:Int)-m<=m:=by omega
 have JJ:∀a b,Hq 60000 (gK p (aT T) S a b):=fun a b=>It kp (fun a b h1 h2=>hT.H h2 h1) hS a b (yq _)
 have aBd:∀(cm pu ex:Bool) (a b c:AV),gN 3 ycG [a,b,c]=D5 (.agg [a,b,c]):=fun _ _ _ _ _ _=>rfl
 have fz:=qY;have qZ:∀a b:Int,cellsOf (.agg [AV.int .i64 a,.int .i64 b])=[.int .i64 a,.int .i64 b]:=fun _ _=>rfl
 have eW:∀(tm:Env) (a:Int) (r:List (Nat×Nat×X)),mY tm [AV.int .i64 0,.int .i64 0] 0 1 [.int .i64 a] r=fill tm [.int .i64 a,.int .i64 0] r:=fun tm a r=>by rw[Ep (by simp) rfl];rfl
 have KG:∀(tm:Env) (a b:Int) (r:List (Nat×Nat×X)),mY tm [AV.int .i64 a,.int .i64 0] 1 1 [.int .i64 b] r=fill tm [.int .i64 a,.int .i64 b] r:=fun tm a b r=>by rw[Ep (by simp) rfl];rfl
 unfold af at e1;generalize hN:B*(2*m+1)+K=N at*
 cases N with
 | zero=>
  obtain⟨rfl,rfl,rfl⟩:=hb;have iL:∃s',D P L py ⟨jG v w m i px [] (decide (0<0)) ((B:Int)-m) ((K:Int)-m),ew C R S i Q 0 0,cQ i+1,0⟩=D5 (.normal,s')/\∃tm ct,s'=⟨tm,ew C R S i Q ((K:Int)-m) ((B:Int)-m),ct,0⟩/\aY tm [1,2,3,4,9,10,11,12,13,14,15,16]=jG v w m i px (RT (gK p (aT T) S ((K:Int)-m) ((B:Int)-m))) ycG ((B:Int)-m) (((K+1:Nat):Int)-m):=by
   generalize RT (gK p (aT T) S ((K:Int)-m) ((B:Int)-m))=z at*
   cases i<;>
   .simp only [ew,fh,cQ];simp only[go_sem,ya,yc,yB,py,jG,cQ,oB,eE,hle,yh,ia,fz,hx.ak,hw.ak,e1,xX,eW,KG,qZ,DC,w1];exact⟨_,rfl,_,_,rfl,by simp only[go_sem,ya]<;>rfl⟩
  obtain⟨s',q1,tm,ct,rfl,q2⟩:=iL;refine⟨_,_,_,_,q1,⟨?_,Wf.symm,Wg.symm⟩,Mc pv pw pp q2⟩;show _=RT (jM p (aT T) S m 0)
  rw[OF]
 | succ N=>
  obtain⟨rfl,rfl,rfl⟩:=hb;have kb:Hq 60000 (jM p (aT T) S m (c7 p (aT T) S m N)):=JJ _ _;have e2:=auo h.toRp h.JC (JJ ((K:Int)-m) ((B:Int)-m)) kb (by decide);have c3:=aal (gK p (aT T) S ((K:Int)-m) ((B:Int)-m)) (jM p (aT T) S m (c7 p (aT T) S m N));have jv:c7 p (aT T) S m (N+1)=if jM p (aT T) S m (c7 p (aT T) S m N)<jM p (aT T) S m (N+1) then N+1 else c7 p (aT T) S m N:=rfl
  rw[OF] at jv;have zg:decide (0<N+1)=ycG:=yU (by omega);rw[zg];unfold af at e2;by_cases aB:jM p (aT T) S m (c7 p (aT T) S m N)<gK p (aT T) S ((K:Int)-m) ((B:Int)-m)
  .rw [yN aB] at jv;rw[yU aB] at c3;have iL:∀(u:List Nat) (x y:Int),u=RT (jM p (aT T) S m (c7 p (aT T) S m N))->∃s',D P L py ⟨jG v w m i px u ycG ((B:Int)-m) ((K:Int)-m),ew C R S i Q x y,cQ i+1,0⟩=D5 (.normal,s')/\∃tm ct,s'=⟨tm,ew C R S i Q ((K:Int)-m) ((B:Int)-m),ct,0⟩/\aY tm [1,2,3,4,9,10,11,12,13,14,15,16]=jG v w m i px (RT (gK p (aT T) S ((K:Int)-m) ((B:Int)-m))) ycG ((B:Int)-m) (((K+1:Nat):Int)-m):=by
    intro u x y hu;rw[<-hu] at e2;clear hu;generalize sG (gK p (aT T) S ((K:Int)-m) ((B:Int)-m)) (jM p (aT T) S m (c7 p (aT T) S m N))=cc at*
    generalize RT (gK p (aT T) S ((K:Int)-m) ((B:Int)-m))=z at*
    have Wh:cc>0:=of_decide_eq_true c3;cases i<;>
    .simp only [ew,fh,cQ];simp only[go_sem,ya,yc,py,jG,cQ,oB,eE,hle,yh,ia,fz,hx.ak,hw.ak,e1,e2,Wh,xF,eW,KG,qZ,DC,w1];exact⟨_,rfl,_,_,rfl,by simp only[go_sem,ya]<;>rfl⟩
   obtain⟨s',q1,tm,ct,rfl,q2⟩:=iL _ (eK m (c7 p (aT T) S m N)) (ep m (c7 p (aT T) S m N)) rfl;refine⟨_,_,_,_,q1,⟨?_,?_,?_⟩,Mc pv pw pp q2⟩
   .rw [jv,OF]
   .rw [jv,Wf]
   .rw [jv,Wg]
  .rw [yx aB] at jv;rw[yW aB] at c3;have iL:∀(u:List Nat) (x y:Int),u=RT (jM p (aT T) S m (c7 p (aT T) S m N))->∃s',D P L py ⟨jG v w m i px u ycG ((B:Int)-m) ((K:Int)-m),ew C R S i Q x y,cQ i+1,0⟩=D5 (.normal,s')/\∃tm ct,s'=⟨tm,ew C R S i Q x y,ct,0⟩/\aY tm [1,2,3,4,9,10,11,12,13,14,15,16]=jG v w m i px u ycG ((B:Int)-m) (((K+1:Nat):Int)-m):=by
    intro u x y hu;rw[<-hu] at e2;clear hu;generalize sG (gK p (aT T) S ((K:Int)-m) ((B:Int)-m)) (jM p (aT T) S m (c7 p (aT T) S m N))=cc at*
    generalize RT (gK p (aT T) S ((K:Int)-m) ((B:Int)-m))=z at*
    have Wh:¬cc>0:=of_decide_eq_false c3;cases i<;>
    .simp only [ew,fh,cQ];simp only[go_sem,ya,yc,py,jG,cQ,oB,eE,hle,yh,ia,fz,hx.ak,hw.ak,e1,e2,Wh,xF,w1];exact⟨_,rfl,_,_,rfl,by simp only[go_sem,ya]<;>rfl⟩
   obtain⟨s',q1,tm,ct,rfl,q2⟩:=iL _ (eK m (c7 p (aT T) S m N)) (ep m (c7 p (aT T) S m N)) rfl;refine⟨_,_,_,_,q1,⟨?_,?_,?_⟩,Mc pv pw pp q2⟩
   .rw [jv]
   .rw [jv]
   .rw [jv]
end
section
variable {T:List (List Nat)}{Q:List AV}
def asR(h:Ct P L){v w px:AV}{p:Nat->Nat->Rat}{C R:Int}{S m i B:Nat}(pv:aS v=ycG)(hx:bC rH px (oP (mA p S S)))(kp:∀a b,a<S->b<S->Hq 429 (p a b))(hw:bC bP w T)(hT:ek T S S)(hS:S<=8)(hm:m<=4)(hB:B<2*m+1):
  cP P L [1,2,3,4,9,10,11,12,13,14,15,16] py (fun d st=>∃K u x y,K+d=2*m+1/\G0 p (aT T) S m (B*(2*m+1)+K) u x y/\st=⟨jG v w m i px u (decide (0<B*(2*m+1)+K)) ((B:Int)-m) ((K:Int)-m),ew C R S i Q x y,cQ i+1,0⟩) (fun ex s'=>∃tm ct u x y,s'=⟨tm,ew C R S i Q x y,ct,0⟩/\ex=.exit 4/\G0 p (aT T) S m ((B+1)*(2*m+1)) u x y/\aY tm [1,2,3,4,9,10,11,12,13,14,15]=mj v w m i px u ycG ((B:Int)-m)):=by
 apply cT;rintro d st ⟨K,u,x,y,hKd,hb,rfl⟩;by_cases hK:K<2*m+1
 .left
  obtain⟨s',u',x',y',q1,q2,q3⟩:=asQ h (C:=C) (R:=R) (i:=i) (Q:=Q) pv hx kp hw hT hS hm hB hK hb;refine⟨s',d-1,q1,by omega,K+1,u',x',y',by omega,by rw[<-Nat.add_assoc];exact q2,?_⟩
  rw[q3,yU (show 0<B*(2*m+1)+(K+1) by omega)]
 .right
  have hKm:K=2*m+1:=by omega
  subst hKm;have qd:¬((2*m+1:Nat):Int)-m<=m:=by omega
  have hd:decide (0<B*(2*m+1)+(2*m+1))=ycG:=yU (by omega);rw[hd];have iL:∃tm ct,D P L py ⟨jG v w m i px u ycG ((B:Int)-m) (((2*m+1:Nat):Int)-m),ew C R S i Q x y,cQ i+1,0⟩=D5 (.exit 4,⟨tm,ew C R S i Q x y,ct,0⟩)/\aY tm [1,2,3,4,9,10,11,12,13,14,15]=mj v w m i px u ycG ((B:Int)-m):=by
   generalize ((2*m+1:Nat):Int)-m=z at*
   simp only[go_sem,ya,py,jG,qd];exact⟨_,_,rfl,by simp only[go_sem,ya,mj]<;>rfl⟩
  obtain⟨tm,ct,q1,q2⟩:=iL;exact⟨_,_,q1,by simp,tm,ct,u,x,y,rfl,rfl,by rw[xL,yag];exact hb,q2⟩
def asS(h:Ct P L){v w px:AV}{p:Nat->Nat->Rat}{C R:Int}{S m i:Nat}(pv:aS v=ycG)(hx:bC rH px (oP (mA p S S)))(kp:∀a b,a<S->b<S->Hq 429 (p a b))(hw:bC bP w T)(hT:ek T S S)(hS:S<=8)(hm:m<=4):
  cP P L [1,2,3,4,9,10,11,12,13,14,15] CW (fun d st=>∃B u x y,B+d=2*m+1/\G0 p (aT T) S m (B*(2*m+1)) u x y/\st=⟨mj v w m i px u (decide (0<B)) ((B:Int)-m),ew C R S i Q x y,cQ i+1,0⟩) (fun ex s'=>∃tm ct,s'=⟨tm,ew C R S i Q (eK m (c7 p (aT T) S m (jY m-1))) (ep m (c7 p (aT T) S m (jY m-1))),ct,0⟩/\ex=.exit 2/\aY tm [1,2,3,4,9,10,13]=gL v w m i++[(13,.ptr (cQ i) 0)]):=by
 apply cT;rintro d st ⟨B,u,x,y,hBd,hb,rfl⟩;by_cases hB:B<2*m+1
 .left
  have key:=asR h (C:=C) (R:=R) (i:=i) (Q:=Q) pv hx kp hw hT hS hm hB;have hle:(B:Int)-m<=m:=by omega
  have w1:IntKind.wrap .i64 (((B:Int)-m)+1)=((B+1:Nat):Int)-m:=by rw[wrap64 (by omega) (by omega)];omega
  have w0:IntKind.wrap .i64 (0-(m:Int))=((0:Nat):Int)-m:=by rw[wrap64 (by omega) (by omega)];omega
  have VG:decide (0<B)=decide (0<B*(2*m+1)+0):=yax.2 ⟨fun q=>by
   have:=yL (2*m+1) (show 1<=B by omega)
   omega,fun q=>Nat.pos_of_ne_zero fun e=>by subst e;simp at q⟩
  have iL:∃tm ct Z,D P L CW ⟨mj v w m i px u (decide (0<B)) ((B:Int)-m),ew C R S i Q x y,cQ i+1,0⟩=D5 (.normal,⟨tm,Z,ct,0⟩)/\∃u' x' y',Z=ew C R S i Q x' y'/\G0 p (aT T) S m ((B+1)*(2*m+1)) u' x' y'/\aY tm [1,2,3,4,9,10,11,12,13,14,15]=mj v w m i px u' ycG (((B+1:Nat):Int)-m):=by
   simp only[go_sem,ya,CW,mj,hle,w0];generalize hQ:D P L (.loop _ py) _=Q';obtain⟨ex,st,rfl,tm,ct,u',x',y',rfl,rfl,bm,gi⟩:=bF hQ (key (2*m+1)) ⟨0,u,x,y,by omega,hb,by
    rw[<-VG]
    exact Mc pv hw.pu hx.pu (by simp only[go_sem,ya,jG]<;>rfl)⟩
   have ei:=Me (C:=C) (R:=R) (S:=S) (x:=x') (y:=y') (Q:=Q) (ct:=ct) pv hw.pu hx.pu gi;simp only[go_sem,ei];simp only[go_sem,ya,mj,w1];exact⟨_,_,_,rfl,u',x',y',rfl,bm,by simp only[go_sem,ya]<;>rfl⟩
  obtain⟨tm,ct,Z,q1,u',x',y',rfl,bm,gi⟩:=iL
  exact⟨_,d-1,q1,by omega,B+1,u',x',y',by omega,bm,by
   rw[yU (show 0<B+1 by omega)]
   exact Me pv hw.pu hx.pu gi⟩
 .right
  have hBm:B=2*m+1:=by omega
  subst hBm;have qd:¬((2*m+1:Nat):Int)-m<=m:=by omega
  have fM:(2*m+1)*(2*m+1)=(jY m-1)+1:=by
   have:0<jY m:=wN (by omega) (by omega)
   show jY m=_
   omega
  rw[fM] at hb;obtain⟨_,rfl,rfl⟩:=hb;generalize eK m (c7 p (aT T) S m (jY m-1))=x at*
  generalize ep m (c7 p (aT T) S m (jY m-1))=y at*
  generalize ((2*m+1:Nat):Int)-m=z at*
  simp only[go_sem,ya,CW,mj,qd];exact⟨_,_,rfl,by simp,_,_,rfl,rfl,by simp only[go_sem,ya,gL,ym,yD]<;>rfl⟩
end
def asT{C R:Int}{S:Nat}{i:Nat}{Q:List AV}{v w:AV}(pv:aS v=ycG)(pw:aS w=ycG){m:Nat}{tm:Env}{ct:Nat}(hk:aY tm [1,2,3,4,9,10]=gL v w m i):bg [1,2,3,4,9,10] ⟨tm,fh C R S i Q,ct,0⟩=⟨gL v w m i,fh C R S i Q,cQ i,0⟩:=by
 rw[rJ (c':=ct) (tm':=gL v w m i) (by rw[hk];rfl)]
 cases i<;>simp only[go_sem,ya,yc,aA,gL,fh,cQ,oB,eE,aF pv,aF pw]<;>rfl
def asU(h:Ct P L){v w:AV}{F T:List (List Nat)}{C R S m i:Nat}{Q:List AV}(hv:bC bP v F)(hF:ek F (R*S) (C*S))(hw:bC bP w T)(hT:ek T S S)(hC:C<=8)(hR:R<=8)(hS:S<=8)(lU:0<S)(hm:m<=4)(hi:i<C*R)(hQ:Q.length=i*2):
  ∃s',D P L zM ⟨gL v w m i,fh C R S i Q,cQ i,0⟩=D5 (.normal,s')/\bg [1,2,3,4,9,10] s'=⟨gL v w m (i+1),fh C R S (i+1) (Q++[aa (jN F T S m (i%C) (i/C)).1,aa (jN F T S m (i%C) (i/C)).2]),2,0⟩:=by
 obtain⟨l1,l2⟩:=Ro hi;have D2:C*R<=64:=xd hC hR;have e1:=aw1 h.toFy h.Ok hv hF hC hR hS lU hi (p:=pL F S (i%C) (i/C)) rfl;have hx:=asI (pL F S (i%C) (i/C)) S;have key:=asS h (C:=C) (R:=R) (i:=i) (Q:=Q) hv.pu hx (fun a b h1 h2=>hF.H (ml l2 h2) (ml l1 h1)) hw hT hS hm;have gh:(jN F T S m (i%C) (i/C)).1=eK m (c7 (pL F S (i%C) (i/C)) (aT T) S m (jY m-1)):=rfl;have jg:(jN F T S m (i%C) (i/C)).2=ep m (c7 (pL F S (i%C) (i/C)) (aT T) S m (jY m-1)):=rfl;rw[<-gh,<-jg] at key;clear gh jg;generalize (jN F T S m (i%C) (i/C)).1=bx at*
 generalize (jN F T S m (i%C) (i/C)).2=by' at*
 generalize AV.aq ycH S (KD (pL F S (i%C) (i/C)) S S)=px at*
 generalize pL F S (i%C) (i/C)=p at*
 have w1:IntKind.wrap .i64 ((i:Int)+1)=((i+1:Nat):Int):=wrap64 (by omega) (by omega);have w2:IntKind.wrap .i64 ((C:Int)*R)=((C*R:Nat):Int):=by rw[wrap64 (by rw[<-xx];omega) (by rw[<-xx];omega),<-xx]
 have w0:IntKind.wrap .i64 (0-(m:Int))=((0:Nat):Int)-m:=by rw[wrap64 (by omega) (by omega)];omega
 have aB:(i:Int)<((C*R:Nat):Int):=by omega
 have fz:=qY;have eW:∀(tm:Env) (a b:Int),mY tm [AV.int .i64 0,.int .i64 0] 0 2 [.int .i64 a,.int .i64 b] []=D5 [.int .i64 a,.int .i64 b]:=fun tm a b=>rfl
 have KH:∀(cm pu ex:Bool) (a b:AV),OW 0 1 2 (D5 (.cells cm pu ex 2 [a,b]))=D5 (1,[a,b]):=fun _ _ _ _ _=>rfl
 have qZ:∀a b:Int,cellsOf (.agg [AV.int .i64 a,.int .i64 b])=[.int .i64 a,.int .i64 b]:=fun _ _=>rfl
 unfold af at e1
 suffices iL:∃tm ct,D P L zM ⟨gL v w m i,fh C R S i Q,cQ i,0⟩=D5 (.normal,⟨tm,(2+cQ i,.cells ycG ycG ycH 2 (Q++[aa bx,aa by']))::(1+cQ i,.cells ycG ycG ycG 2 [aa bx,aa by'])::(cQ i,.cells ycG ycG ycG 2 [aa bx,aa by'])::[(0,eE C R S)],ct,0⟩)/\aY tm [1,2,3,4,9,10]=[(1,v),(2,w),(3,aa m),(4,.ptr 0 0),(9,.av (2+cQ i) 0 (i+1)),(10,aa (i+1:Nat))] by
  obtain⟨tm,ct,q1,q2⟩:=iL;refine⟨_,q1,?_⟩
  rw[rJ (c':=ct) (tm':=[(1,v),(2,w),(3,aa m),(4,.ptr 0 0),(9,.av (2+cQ i) 0 (i+1)),(10,aa (i+1:Nat))]) (by rw[q2];rfl)]
  cases i<;>simp only[go_sem,ya,yc,aA,gL,fh,cQ,oB,eE,aF hv.pu,aF hw.pu]<;>rfl
 cases i with
 | zero=>
  have hQn:Q=[]:=uR.1 (by simpa using hQ);subst hQn;simp only[fh,cQ];simp only[go_sem,ya,yc,zM,gL,oB,eE,a6,yd,yh,yI,w2,aB,ia,fz,hv.ak,e1,hx.shut,aU,w0];generalize hQ:D P L (.loop _ CW) _=Q';obtain⟨ex,st,rfl,tm,ct,rfl,rfl,gi⟩:=bF hQ (key (2*m+1)) ⟨0,[],0,0,by omega,by rw[wh];exact⟨rfl,rfl,rfl⟩,by
   refine Me (C:=C) (R:=R) (S:=S) (x:=0) (y:=0) (Q:=[]) (i:=0) (m:=m) (u:=[]) (fo:=decide (0<0)) (b:=((0:Nat):Int)-m) hv.pu hw.pu hx.pu ?_
   simp only[go_sem,ya,yB,mj,oB,cQ]<;>rfl⟩
  have ei:bg [1,2,3,4,9,10,13] ⟨tm,ew C R S 0 [] bx by',ct,0⟩=⟨gL v w m 0++[(13,.ptr 1 0)],ew C R S 0 [] bx by',2,0⟩:=by
   rw[rJ (c':=ct) (tm':=gL v w m 0++[(13,.ptr 1 0)]) (by rw[gi];rfl)]
   simp only[go_sem,ya,yc,aA,gL,ym,yD,ew,fh,cQ,oB,eE,aF hv.pu,aF hw.pu]<;>rfl
  simp only[go_sem,ya,ei]
  simp only[go_sem,ya,yc,xA,gL,ym,yD,ew,fh,cQ,oB,eE,bS,yd,yh,eW,qZ,mM,Hc,G5,KH,jl (sz:=2) (by':=16) (new:=[AV.int .i64 bx,.int .i64 by']) (m:=1) (by decide) (by decide) (by decide) (by decide),w1];exact⟨_,_,rfl,by simp only[go_sem,ya]<;>rfl⟩
 | succ n=>
  have Um:=fun (hp:Hp) (ct:Nat) (hg:ai hp 1=D5 (.cells ycG ycG ycH 2 Q))=>il (ct:=ct) (by':=16) (new:=[AV.int .i64 bx,.int .i64 by']) (m:=1) (n:=n+1) hg hQ (by omega) (by omega) (by decide) rfl
  simp only[fh,cQ];simp only[go_sem,ya,yc,zM,gL,oB,eE,a6,yd,yh,yI,w2,aB,ia,fz,hv.ak,e1,hx.shut,aU,w0];generalize hQ':D P L (.loop [1,2,3,4,9,10,11,12,13,14,15] CW) _=Q';obtain⟨ex,st,rfl,tm,ct,rfl,rfl,gi⟩:=bF hQ' (key (2*m+1)) ⟨0,[],0,0,by omega,by rw[wh];exact⟨rfl,rfl,rfl⟩,by
   refine Me (C:=C) (R:=R) (S:=S) (x:=0) (y:=0) (Q:=Q) (i:=n+1) (m:=m) (u:=[]) (fo:=decide (0<0)) (b:=((0:Nat):Int)-m) hv.pu hw.pu hx.pu ?_
   simp only[go_sem,ya,yB,mj,oB,cQ]<;>rfl⟩
  have ei:bg [1,2,3,4,9,10,13] ⟨tm,ew C R S (n+1) Q bx by',ct,0⟩=⟨gL v w m (n+1)++[(13,.ptr 2 0)],ew C R S (n+1) Q bx by',3,0⟩:=by
   rw[rJ (c':=ct) (tm':=gL v w m (n+1)++[(13,.ptr 2 0)]) (by rw[gi];rfl)]
   simp only[go_sem,ya,yc,aA,gL,ym,yD,ew,fh,cQ,oB,eE,aF hv.pu,aF hw.pu]<;>rfl
  simp only[go_sem,ya,ei];simp only[go_sem,ya,yc,xA,gL,ym,yD,ew,fh,cQ,oB,eE,bS,yd,yh,eW,qZ,mM,Hc,G5,KH,Um,w1,wx];exact⟨_,_,rfl,by simp only[go_sem,ya]<;>rfl⟩
def axa(a b:Int):jr (.ag [1,1]) (.agg [aa a,aa b]) (.agg [aa a,aa b])=D5 ycG:=by
 show cI [1,1] [aa a,aa b] [aa a,aa b]=_
 simp[cI]
def axb(h:Ct P L){v w:AV}{F T:List (List Nat)}{C R S m:Nat}(hv:bC bP v F)(hF:ek F (R*S) (C*S))(hw:bC bP w T)(hT:ek T S S)(hC:C<=8)(hR:R<=8)(hS:S<=8)(lU:0<S)(hm:m<=4)(D2:0<C*R):
  af P L 773 [.agg [aa C,aa R,aa S],v,w,aa m] (.cu ycH 2 (C*R) (jA (mB F T C R S m))):=by
 have hlen:=QR (F:=F) (T:=T) (C:=C) (R:=R) (S:=S) (m:=m);have ai:=fun k (hk:k<(mB F T C R S m).length)=>Zy (F:=F) (T:=T) (C:=C) (R:=R) (S:=S) (m:=m) hk
 have auI:C*R<=64:=xd hC hR;generalize kR:mB F T C R S m=ts at*
 have w2:IntKind.wrap .i64 ((C:Int)*R)=((C*R:Nat):Int):=by rw[wrap64 (by rw[<-xx];omega) (by rw[<-xx];omega),<-xx]
 have key:=jm P L [1,2,3,4,9,10] zM
  (fun d st=>∃i,i+d=C*R/\st=⟨gL v w m i,fh C R S i (jA (ts.take i)),cQ i,0⟩)
  (fun ex st=>∃tm ct,st=⟨tm,fh C R S (C*R) (jA ts),ct,0⟩/\ex=.exit 0/\aY tm [9]=[(9,oB (C*R))]) (by
   rintro d st ⟨i,hid,rfl⟩;by_cases hi:i<C*R
   .left
    have Ca:i<ts.length:=by omega
    obtain⟨s',q1,q2⟩:=asU h (m:=m) hv hF hw hT hC hR hS lU hm hi (Q:=jA (ts.take i)) (by rw[Mb,yT,xt (by omega)]);refine⟨s',d-1,q1,by omega,i+1,by omega,?_⟩;rw[q2,wa Ca,Zz,ai i Ca];rfl
   .right
    have Wi:i=C*R:=by omega
    subst Wi;rw[yO (by omega)];have aB:¬((C*R:Nat):Int)<((C*R:Nat):Int):=by omega
    obtain⟨n,hn⟩:∃n,C*R=n+1:=⟨C*R-1,by omega⟩;have hg:∃tm ct,D P L zM ⟨gL v w m (C*R),fh C R S (C*R) (jA ts),cQ (C*R),0⟩=D5 (.exit 0,⟨tm,fh C R S (C*R) (jA ts),ct,0⟩)/\aY tm [9]=[(9,oB (C*R))]:=by
     rw[hn] at w2 aB ⊢;simp only[fh,cQ];simp only[go_sem,ya,zM,gL,oB,eE,a6,yd,yh,yI,w2,aB];exact⟨_,_,rfl,by simp only[go_sem,ya]<;>rfl⟩
    obtain⟨tm,ct,q1,q2⟩:=hg
    exact⟨_,_,q1,by simp,tm,ct,rfl,rfl,q2⟩) (C*R)
 unfold af;rw[aH h.fh];simp only[go_sem,yc,Tb,iG];generalize hQ:D P L (.loop _ zM) _=Q;obtain⟨ex,st,rfl,tm,ct,rfl,rfl,gi⟩:=bF hQ key ⟨0,by omega,by
  refine asT (C:=C) (R:=R) (S:=S) (i:=0) (Q:=jA (ts.take 0)) (m:=m) hv.pu hw.pu ?_
  simp only[go_sem,ya,gL,oB]<;>rfl⟩
 obtain⟨n,hn⟩:∃n,C*R=n+1:=⟨C*R-1,by omega⟩;have oC:=Mb ts;rw[hlen] at oC;rw[hn] at gi oC ⊢;have ei:bg [9] ⟨tm,fh C R S (n+1) (jA ts),ct,0⟩=⟨[(9,.av 0 0 (n+1))],[(0,.cells ycG ycG ycH 2 (jA ts))],1,0⟩:=by
  rw[rJ (c':=ct) (tm':=[(9,.av 1 0 (n+1))]) (by rw[gi];rfl)]
  simp only[go_sem,yc,aA,fh,eE]<;>rfl
 simp only[go_sem,ei];exact PM rfl oC (by decide)
def On(h:Has P L 665 NH){v w:AV}{l:List (Int×Int)}(hv:Ol v l)(hw:Ol w l)(hl:l.length<=1000000):af P L 665 [v,w] (.bool ycG):=by
 have hv:rI 2 v (l.map fun p=>[aa p.1,aa p.2]):=hv;have hw:rI 2 w (l.map fun p=>[aa p.1,aa p.2]):=hw;have lv:∀hp,iT hp 1 v=D5 (.int .i64 (l.length:Nat)):=fun hp=>by have:=hv.len (hp:=hp);rwa[yX] at this
 have lw:∀hp,iT hp 1 w=D5 (.int .i64 (l.length:Nat)):=fun hp=>by have:=hw.len (hp:=hp);rwa[yX] at this
 have key:=jm P L [0,1,5] Ig
  (fun d st=>∃i:Nat,i+d=l.length/\st=⟨[(0,v),(1,w),(5,aa i)],[],0,0⟩)
  (Q:=fun ex st=>∃tm ct,st=⟨tm,[],ct,0⟩/\ex=.exit 0) (by
   rintro d st ⟨i,hid,rfl⟩;by_cases hi:i<l.length
   .left
    obtain⟨r1,e1⟩:=hv.bD (i:=i) (by simpa using hi);obtain⟨r2,e2⟩:=hw.bD (i:=i) (by simpa using hi);rw[tN] at e1 e2;have aB:(i:Int)<(l.length:Nat):=by omega
    have w1:IntKind.wrap .i64 ((i:Int)+1)=((i+1:Nat):Int):=wrap64 (by omega) (by omega);have KE:cF (aa i)=D5 i:=rfl;have e3:=axa (l[i]).1 (l[i]).2;have heb:Fa ycG (D5 ycG)=D5 (.bool ycH):=rfl;have DL:∀(hp:Hp) (a b:AV) (r:List AV),fD hp 2 ycG (.bJ (a::b::r))=D5 (.agg [a,b]):=fun _ _ _ _=>rfl
    simp only[go_sem,ya,Ig,lv,aB,KE,e1,e2,ym,yD,DL,e3,heb,w1];exact⟨_,d-1,rfl,by omega,i+1,by omega,by simp only[go_sem,ya,aA,aF hv.pu,aF hw.pu]<;>rfl⟩
   .right
    have Wi:i=l.length:=by omega
    subst Wi;simp only[go_sem,ya,Ig,lv,show ¬(l.length:Int)<l.length by omega]
    exact⟨_,_,rfl,by simp,_,_,rfl,rfl⟩) l.length
 unfold af;rw[aH h];simp only[go_sem,ya,NH,lv,lw];generalize hQ:D P L (.loop _ Ig) _=Q;obtain⟨ex,st,rfl,tm,ct,rfl,rfl⟩:=bF hQ key ⟨0,by omega,by simp only[go_sem,ya,aA,aF hv.pu,aF hw.pu]<;>rfl⟩
 simp only[go_sem]
section
variable {v w:AV}{C R S m:Int}{F T:List (List Nat)}
structure A7(P:aE)(L:Lib):Prop where
 c:Cs P L
 f:Ct P L
 rc:GS P L
 JK:Has P L 634 NC
 sN:Has P L 636 Jf
 sL:Has P L 639 ND
 JL:Has P L 756 sB
 IR:af P L 637 [] (.bool ycG)
def auJ(h:gV C R S F≠0):zo C R S m F T=gV C R S F:=by
 have e:b8 [gV C R S F,if (T.length:Int)=S then 0 else 2]=gV C R S F:=by simp[b8,h]
 unfold zo;rw[e,yx h]
def SE{S:Nat}(h:gV C R S F=0):zo C R S m F T=if lL S S T=0 then iO m 0 4 else lL S S T:=by
 unfold zo KI lL;rw[h];by_cases hl:T.length=S
 .have rq:(T.length:Int)=S:=by omega
  rw[yN rq,yN hl,yN (by decide),hl];generalize b8 (T.map (gn S))=q;simp only[b8];by_cases c:q=0
  .rw [yN c,yN c];by_cases d:iO m 0 4=0
   .rw [yN d,d]
   .rw [yx d]
  .rw [yx c,yx c]
 .have rq:¬(T.length:Int)=S:=by omega
  rw[yx rq,yx hl,yx (by decide)];simp[b8]
def sO(v w:AV)(m:Int):Obj:=.cells ycG ycG ycG 3 [v,w,aa m]
def KK(pv:aS v=ycG)(ov:dD v=ycG)(pw:aS w=ycG)(ow:dD w=ycG)(m:Int)(ct:Nat):lG ct 3 [v,w,aa m]=D5 (.ptr ct 0,sO v w m):=by
 rw[aU (n:=3) rfl (by simp only[b5,ov,ow];rfl)]
 simp only[aD,pv,pw,sO];rfl
def Eg:Ol .ah []:=al9
def aoP(h:A7 P L)(hv:bC bP v F)(hw:bC bP w T)(hn:¬(AM C R S=ycG/\jX F=ycG/\jX T=ycG)):af P L 756 [.agg [aa C,aa R,aa S],.agg [v,w,aa m]] (.bool ycG):=by
 have ea:=h.IR;have g1:=JH (P:=P) h.JK C R S;have g2:=sM (P:=P) (L:=L) h.sN hv;have g3:=sM (P:=P) (L:=L) h.sN hw;have fz:=qY;have hb:=KK hv.pu hv.one hw.pu hw.one m;unfold af at ea g1 g2 g3;unfold af;rw[aH h.JL]
 cases c1:AM C R S with
 | false=>
  rw[c1] at g1;simp only[go_sem,ya,yc,sB,iG,hb,sO,yh,ia,fz,g1,xX,ea]
 | true=>
  rw[c1] at g1
  cases c2:jX F with
  | false=>
   rw[c2] at g2;simp only[go_sem,ya,yc,sB,iG,hb,sO,a6,yd,yh,ia,fz,hv.ak,g1,g2,xX,xF,ea]
  | true=>
   rw[c2] at g2;have c3:jX T=ycH:=by
    cases c3:jX T with
    | false=>rfl
    | true=>exact absurd ⟨c1,c2,c3⟩ hn
   rw[c3] at g3;simp only[go_sem,ya,yc,sB,iG,hb,sO,a6,yd,yh,yI,ia,fz,hv.ak,hw.ak,g1,g2,g3,xX,xF,ea]
def aml(h:A7 P L)(hv:bC bP v F)(hw:bC bP w T)(c1:AM C R S=ycG)(c2:jX F=ycG)(c3:jX T=ycG)(ja:gV C R S F≠0):af P L 756 [.agg [aa C,aa R,aa S],.agg [v,w,aa m]] (.bool ycG):=by
 have ea:=h.IR;have g1:=JH (P:=P) h.JK C R S;have g2:=sM (P:=P) (L:=L) h.sN hv;have g3:=sM (P:=P) (L:=L) h.sN hw;have fz:=qY;have hb:=KK hv.pu hv.one hw.pu hw.one m;obtain⟨hl,hr⟩:=Bm c2;obtain⟨oy,jP⟩:=Bm c3;have bq:∀r,r∈F->r.length<=1000000:=fun r hm=>y9 (hr r hm) (by decide)
 have nl:∀r,r∈T->r.length<=1000000:=fun r hm=>y9 (jP r hm) (by decide)
 obtain⟨x,ex,ix,sx⟩:=BR (P:=P) (L:=L) h.sL hv (by omega) bq;obtain⟨y,ey,iy,sy⟩:=BR (P:=P) (L:=L) h.sL hw (by omega) nl;have e0:=auJ (m:=m) (T:=T) ja;have e1:=QS h.c ix (by omega) bq iy (by omega) nl (C:=C) (R:=R) (S:=S) (m:=m) (by rw[e0];exact ja)
 have e4:=Oi h.rc hv (by omega) bq (C:=C) (R:=R) (S:=S);have e9:=On (P:=P) (L:=L) h.f.Om Eg Eg (by decide);rw[c1] at g1;rw[c2] at g2;rw[c3] at g3;rw[e0] at e1;generalize gV C R S F=bad at*
 unfold af at ea g1 g2 g3 ex ey e1 e4 e9;unfold af;rw[aH h.JL];simp only[go_sem,ya,yc,sB,iG,hb,sO,a6,yd,yh,yI,ia,fz,hv.ak,hw.ak,g1,g2,g3,xF,ex,sx,ix.ak,ey,sy,iy.ak,e1,e4,ja,e9,xa,ea]
def amm(h:A7 P L){S:Nat}(hv:bC bP v F)(hw:bC bP w T)(c1:AM C R S=ycG)(c2:jX F=ycG)(c3:jX T=ycG)(h0:gV C R S F=0)(ja:lL S S T≠0):af P L 756 [.agg [aa C,aa R,aa S],.agg [v,w,aa m]] (.bool ycG):=by
 have ea:=h.IR;have g1:=JH (P:=P) h.JK C R S;have g2:=sM (P:=P) (L:=L) h.sN hv;have g3:=sM (P:=P) (L:=L) h.sN hw;have fz:=qY;have hb:=KK hv.pu hv.one hw.pu hw.one m;obtain⟨hl,hr⟩:=Bm c2;obtain⟨oy,jP⟩:=Bm c3;have bq:∀r,r∈F->r.length<=1000000:=fun r hm=>y9 (hr r hm) (by decide)
 have nl:∀r,r∈T->r.length<=1000000:=fun r hm=>y9 (jP r hm) (by decide)
 obtain⟨x,ex,ix,sx⟩:=BR (P:=P) (L:=L) h.sL hv (by omega) bq;obtain⟨y,ey,iy,sy⟩:=BR (P:=P) (L:=L) h.sL hw (by omega) nl;have e0:=SE (m:=m) (T:=T) h0;rw[yx ja] at e0;have e1:=QS h.c ix (by omega) bq iy (by omega) nl (C:=C) (R:=R) (S:=S) (m:=m) (by rw[e0];exact ja)
 have e4:=Oi h.rc hv (by omega) bq (C:=C) (R:=R) (S:=S);have e5:=Oh (P:=P) (L:=L) h.rc hw (by omega) nl (n:=S) (m:=S);have e9:=On (P:=P) (L:=L) h.f.Om Eg Eg (by decide);rw[c1] at g1;rw[c2] at g2;rw[c3] at g3;rw[e0] at e1;rw[h0] at e4;generalize lL S S T=bad at*
 unfold af at ea g1 g2 g3 ex ey e1 e4 e5 e9;unfold af;rw[aH h.JL];simp only[go_sem,ya,yc,sB,iG,hb,sO,a6,yd,yh,yI,ia,fz,hv.ak,hw.ak,g1,g2,g3,xF,ex,sx,ix.ak,ey,sy,iy.ak,e1,e4,e5,ja,e9,xa,ea]
def amn(h:A7 P L){S:Nat}(hv:bC bP v F)(hw:bC bP w T)(c1:AM C R S=ycG)(c2:jX F=ycG)(c3:jX T=ycG)(h0:gV C R S F=0)(h1:lL S S T=0)(ja:m<0\/4<m):af P L 756 [.agg [aa C,aa R,aa S],.agg [v,w,aa m]] (.bool ycG):=by
 have ea:=h.IR;have g1:=JH (P:=P) h.JK C R S;have g2:=sM (P:=P) (L:=L) h.sN hv;have g3:=sM (P:=P) (L:=L) h.sN hw;have fz:=qY;have hb:=KK hv.pu hv.one hw.pu hw.one m;obtain⟨hl,hr⟩:=Bm c2;obtain⟨oy,jP⟩:=Bm c3;have bq:∀r,r∈F->r.length<=1000000:=fun r hm=>y9 (hr r hm) (by decide)
 have nl:∀r,r∈T->r.length<=1000000:=fun r hm=>y9 (jP r hm) (by decide)
 obtain⟨x,ex,ix,sx⟩:=BR (P:=P) (L:=L) h.sL hv (by omega) bq;obtain⟨y,ey,iy,sy⟩:=BR (P:=P) (L:=L) h.sL hw (by omega) nl;have e0:=SE (m:=m) (T:=T) h0;rw[yN h1,show iO m 0 4=3 from yN ja] at e0;have e1:=QS h.c ix (by omega) bq iy (by omega) nl (C:=C) (R:=R) (S:=S) (m:=m) (by rw[e0];decide)
 have e4:=Oi h.rc hv (by omega) bq (C:=C) (R:=R) (S:=S);have e5:=Oh (P:=P) (L:=L) h.rc hw (by omega) nl (n:=S) (m:=S);have e9:=On (P:=P) (L:=L) h.f.Om Eg Eg (by decide);rw[c1] at g1;rw[c2] at g2;rw[c3] at g3;rw[e0] at e1;rw[h0] at e4;rw[h1] at e5;have Pc:¬(3:Int)=0:=by decide
 unfold af at ea g1 g2 g3 ex ey e1 e4 e5 e9;unfold af;rw[aH h.JL];by_cases hm:m<0
 .simp only [go_sem,ya,yc,sB,iG,hb,sO,a6,yd,yh,yI,ia,fz,hv.ak,hw.ak,g1,g2,g3,xF,ex,sx,ix.ak,ey,sy,iy.ak,e1,e4,e5,hm,Pc,e9,xa,xf,ea]
 .have Wj:m>4:=by omega
  simp only[go_sem,ya,yc,sB,iG,hb,sO,a6,yd,yh,yI,ia,fz,hv.ak,hw.ak,g1,g2,g3,xF,ex,sx,ix.ak,ey,sy,iy.ak,e1,e4,e5,hm,Wj,Pc,e9,xa,xf,ea]
def aoQ(h:A7 P L){C R m S:Nat}(hv:bC bP v F)(hw:bC bP w T)(hF:ek F (R*S) (C*S))(hT:ek T S S)(hC:C<=8)(hR:R<=8)(hS:S<=8)(lU:0<S)(D2:0<C*R)(hm:m<=4)(c1:AM C R S=ycG)(c2:jX F=ycG)(c3:jX T=ycG)(h0:gV C R S F=0)(h1:lL S S T=0):af P L 756 [.agg [aa C,aa R,aa S],.agg [v,w,aa m]] (.bool ycG):=by
 have ea:=h.IR;have g1:=JH (P:=P) h.JK C R S;have g2:=sM (P:=P) (L:=L) h.sN hv;have g3:=sM (P:=P) (L:=L) h.sN hw;have fz:=qY;have hb:=KK hv.pu hv.one hw.pu hw.one m;obtain⟨hl,hr⟩:=Bm c2;obtain⟨oy,jP⟩:=Bm c3;have bq:∀r,r∈F->r.length<=1000000:=fun r hm=>y9 (hr r hm) (by decide)
 have nl:∀r,r∈T->r.length<=1000000:=fun r hm=>y9 (jP r hm) (by decide)
 obtain⟨x,ex,ix,sx⟩:=BR (P:=P) (L:=L) h.sL hv (by omega) bq;obtain⟨y,ey,iy,sy⟩:=BR (P:=P) (L:=L) h.sL hw (by omega) nl;have e0:=SE (m:=(m:Int)) (T:=T) h0;rw[yN h1,show iO m 0 4=0 from yx (by omega)] at e0;have e1:=aoN h.c ix iy hF hT D2 hC hR hS hm (by omega) bq (by omega) nl e0;have e4:=Oi h.rc hv (by omega) bq (C:=C) (R:=R) (S:=S);have e5:=Oh (P:=P) (L:=L) h.rc hw (by omega) nl (n:=S) (m:=S);have e6:=axb (P:=P) (L:=L) h.f (m:=m) hv hF hw hT hC hR hS lU hm D2;have hlen:=QR (F:=F) (T:=T) (C:=C) (R:=R) (S:=S) (m:=m);have fM:Ol (.aq ycH (C*R) (jA (mB F T C R S m))) (mB F T C R S m):=by
  have e:=aoI (k:=2) (ps:=(mB F T C R S m).map fun p=>[aa p.1,aa p.2]) ycH (fun p hp=>by obtain⟨t,_,rfl⟩:=yaf.1 hp;rfl)
  rw[yX,hlen] at e;exact e
 have e9:=On (P:=P) (L:=L) h.f.Om fM fM (by rw[hlen];have:=xd hC hR;omega)
 rw[c1] at g1;rw[c2] at g2;rw[c3] at g3;rw[h0] at e4;rw[h1] at e5;generalize jA (mB F T C R S m)=cs at*
 have rF:¬(m:Int)<0:=by omega
 have Wj:¬(m:Int)>4:=by omega
 unfold af at ea g1 g2 g3 ex ey e1 e4 e5 e6 e9;unfold af;rw[aH h.JL];simp only[go_sem,ya,yc,sB,iG,hb,sO,a6,yd,yh,yI,ia,fz,hv.ak,hw.ak,g1,g2,g3,xF,ex,sx,ix.ak,ey,sy,iy.ak,e1,e4,e5,rF,Wj,e6,e9,xa,xf,ea]
def aio(h:A7 P L)(hv:bC bP v F)(hw:bC bP w T)(hb:∀r,r∈F->∀b,b∈r->b<4294967296)(bm:∀r,r∈T->∀b,b∈r->b<4294967296):af P L 756 [.agg [aa C,aa R,aa S],.agg [v,w,aa m]] (.bool ycG):=by
 by_cases hg:AM C R S=ycG/\jX F=ycG/\jX T=ycG
 .obtain ⟨c1,c2,c3⟩:=hg;by_cases ja:gV C R S F=0
  .obtain ⟨g,hF⟩:=asD ja hb;obtain⟨hC,hR,hS,k1,k8,r1,r8,s2,s8⟩:=g;generalize C.toNat=c at*
   generalize R.toNat=r at*
   generalize S.toNat=t at*
   subst hC hR hS;by_cases ht:lL t t T=0
   .by_cases hm:m<0\/4<m
    .exact amn h hv hw c1 c2 c3 ja ht hm
    .obtain ⟨n,rfl⟩:=vd (show 0<=m by omega);exact aoQ h hv hw hF (aaq ht bm) k8 r8 s8 (by omega) (wN (by omega) (by omega)) (by omega) c1 c2 c3 ja ht
   .exact amm h hv hw c1 c2 c3 ja ht
  .exact aml h hv hw c1 c2 c3 ja
 .exact aoP h hv hw hg
end
abbrev axc:Ty:=.cat (.sl JI) (.cat (.sl JI) (.cat (.int .i64) .nil))
abbrev HH:List Ty:=[aeu,axc]
def ahz{P:aE}{L:Lib}(h:A7 P L){ls:List (List AV)}(hs:js lS HH ls):af P L 756 (IP HH ls) (.bool ycG):=by
 obtain⟨_,_,rfl,h1,h2⟩:=ash hs;obtain⟨c,r,t,rfl⟩:=ami h1;obtain⟨_,_,rfl,h3,_,_,rfl,h4,_,_,rfl,⟨i,rfl,_⟩,rfl⟩:=h2;obtain⟨v,M,rfl,hv,hb⟩:=aaA h3;obtain⟨w,M',rfl,hw,bm⟩:=aaA h4;exact aio h hv hw hb bm
namespace J2
open Go Go.Proofs
def T:List (Tr bj):=[.n 637 [.o 7 [] (.bool ycG)] .l .l]
def L0:VE.Lib:=Ip (Ip (Ip VE.aG 99 L4) 753 sK) 427 sK
def L1:VE.Lib:=Ni L0 T 1000
def nu:Nu VE.prog VE.aG:=by
 repeat' (first | rfl | constructor)
def lw:A7 VE.prog L1:=by
 repeat' (first | rfl | constructor)
section
variable {W:World}{m:Int}(hm:W.cell? ⟨4,0,none⟩=D5 (.int .i64 m))(ht:Go.Lib.TabIs Tryz.prog W "internal/strconv.uint64pow10" .u64 Go.Lib.pow10Tab)
include hm ht
theorem linked:gC ((J1.O W).oZ L1):=by
 have hO:=J1.am0 hm ht;have hs:=ajM hO nu rfl rfl rfl ⟨rfl,rfl,rfl⟩ (fn:=Tryz.f168) (c:=BP) Tryz.func168 rfl rfl trivial alS;have hT:fT (J1.O W) T:=fT.cons (Tr.jH (lD.one (kE.holds hO rfl rfl)) Tr.iW Tr.iW) fT.nil;have h1:=Qd hO hs;have h2:=Qd h1 (aao (O:=(J1.O W).oZ _) (n:=753) (fun _ _=>Ej Tryz.func148 rfl (by decide)) Tryz.awu);have h3:=Qd h2 (aao (O:=((J1.O W).oZ _).oZ _) (n:=427) (fun _ _=>Ej Tryz.func78 rfl (by decide)) Tryz.Oa);exact ZX h3 hT 1000
theorem law{ls:List (List AV)}(hs:js lS HH ls):dL (J1.O W) 756 (IP HH ls) (.bool ycG):=by
 obtain⟨k,hk⟩:=aaJ (ahz lw hs);exact sound (linked hm ht) hk
end
end J2
end VE
