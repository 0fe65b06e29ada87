import Derived.ChangeSlices
import Derived.ChangeReads
import Derived.ChangeSame
import Derived.OpenShut
import Derived.Lib.AtoiErrMem
import Derived.Laws.Externs
import Derived.Attr
import Derived.Test.YtcifahflapielaaGreatDoorWao
set_option linter.all false
set_option maxRecDepth 100000
open Array renaming getElem?_eq_some_iff->xD
open BitVec renaming ofInt->wu,ofInt_natCast->tB,ofNat->tA,toNat_ofNat->ua
open Bool renaming and_eq_true->ye,and_self->wj,and_true->ud,false_and->xY,false_eq_true->yL,false_or->uJ,true_and->wv
open Go renaming Addr->uG,ChangeSpec->yco,DataW->xU,Field->ub,IntKind->xj,MemPlace->wM,Program->xy,TypeId->yE,Value->yj,World->ym
open Int renaming ediv_emod_unique->yad,emod_emod->yck,gcd->vh,gcd_dvd_left->yag,gcd_dvd_right->tZ,mul_ediv_cancel'->yaW,natAbs_ediv_of_dvd->uW,natCast_mul->xk,reduceEq->yay,tdiv_eq_ediv_of_dvd->yaG,tdiv_eq_ediv_of_nonneg->xR,tmod_eq_emod_of_nonneg->xH,toNat_natCast->wa
open List renaming all_cons->yae,append_assoc->xJ,append_nil->wz,cons_append->xh,drop->vW,drop_drop->vd,drop_eq_getElem_cons->yT,drop_eq_nil_of_le->yZ,drop_left'->tq,drop_zero->yg,eq_nil_of_length_eq_zero->yt,filter_cons->ybu,filter_eq_nil_iff->yaI,flatMap_cons->ybi,getD_cons_succ->yaV,getD_eq_getElem?_getD->yU,getElem?_cons_zero->uh,getElem?_eq_getElem->xf,length->tY,length_append->yM,length_cons->yx,length_drop->xX,length_map->yv,length_nil->yN,length_pos_iff->uX,length_reverse->yaX,length_singleton->tz,length_take->yO,mapM_cons->uL,mapM_nil->yaw,map_append->xu,map_cons->xi,map_take->yau,mem_append->wR,mem_append_left->tJ,mem_append_right->ui,mem_flatMap->td,mem_singleton->vV,nil_append->xG,range->wi,range'->wG,range'_succ->vP,range'_zero->ybs,range_eq_range'->yaO,replicate->yD,replicate_succ->wT,reverse_cons->ybj,set_append_right->yaK,set_cons_succ->ybd,set_eq_take_append_cons_drop->vn,take_append_drop->wc,take_length->xP,take_of_length_le->yq,take_succ_eq_append_getElem->yS
open Nat renaming add_comm->ybE,add_mul->wg,add_sub_cancel->uP,add_zero->xd,beq->yp,beq_refl->wO,ble->yJ,ble_eq_true_of_le->yB,blt->yP,div_add_mod->wm,div_eq_of_lt->xW,div_le_self->vm,div_lt_iff_lt_mul->xM,eq_of_beq_eq_true->yh,eq_zero_or_pos->xv,gcd->wL,gcd_comm->tU,gcd_rec->ycz,le_div_iff_mul_le->tE,le_max_left->uD,le_max_right->uv,le_of_ble_eq_true->yu,le_of_lt->uI,le_refl->yz,le_trans->xn,lt_of_le_of_lt->wB,lt_of_lt_of_le->yR,lt_of_mul_lt_mul_right->uQ,min_eq_left->xA,mod_add_div->uk,mod_eq_of_lt->yY,mod_lt->xO,mul_add->xK,mul_add_div->tV,mul_add_mod->tW,mul_assoc->xm,mul_comm->xz,mul_div_mul_right->tF,mul_le_mul->xF,mul_le_mul_left->xa,mul_le_mul_right->yQ,mul_lt_mul_of_pos_right->xZ,mul_mod_mul_right->um,mul_one->yi,mul_pos->vM,mul_zero->xI,one_mul->ybU,or_comm->ycA,pos_of_ne_zero->ybk,pow_add->xL,pow_le_pow_right->xe,pow_lt_pow_iff_right->ug,pow_pos->ybG,pow_succ->xt,pow_zero->ux,reduceAdd->yb,reduceEqDiff->ya,reduceLT->yG,reduceLeDiff->yk,reduceMul->xg,strongRecOn->vQ,sub_zero->ycn,two_pow_pos->xr,zero_add->yf,zero_le->tk,zero_mul->ve
open Option renaming bind_eq_bind->vU,bind_some->wF,map_some->wN,pure_def->wX
open Option.some renaming injEq->yd
open Prod.mk renaming injEq->yo
open Option renaming some->GW,none->GX
open Bool renaming true->ycN,false->ycO
namespace VE
open Go (IntKind)
variable {P:aG}{L:Lib}
section
open Go
section
variable (P:xy)
def G0(self:yE->Bool):List ub->Nat->Nat->Bool
 | [],o,n=>yp o n
 | f::r,o,n=>yp f.offset o&&(self f.type&&G0 self r (o+P.cellsOf f.type) n)
def flat:Nat->yE->Bool
 | 0,_=>ycO
 | n+1,t=>
  match P.underlying t with
  | some .bool | some (.int _) | some (.float _) | some .string=>yp (P.cellsOf t) 1
  | some (.slice e)=>yp (P.cellsOf t) 1&&(yP 0 (P.cellsOf e)&&flat n e)
  | some (.struct fs)=>G0 P (fun u=>flat n u) fs.toList 0 (P.cellsOf t)
  | some (.array k e)=>yp (P.cellsOf t) (k*P.cellsOf e)&&flat n e
  | _=>ycO
def cV{H:Type}:Nat->yE->xU H->List AV
 | 0,_,_=>[]
 | n+1,t,d=>
  match P.underlying t,d with
  | some .bool,.lit (.bool b)=>[.bool b]
  | some (.int k),.lit (.int _ m)=>[.int k m]
  | some (.float k),.lit (.float _ b)=>[.ay k b]
  | some .string,.lit (.string s)=>[.str (s.map UInt8.toNat)]
  | some (.slice _),.nil=>[.ab]
  | some (.slice e),.slice kQ spare=>[.ap spare.isEmpty kQ.length (kQ.flatMap fun x=>cV n e x)]
  | some (.struct fs),.agg parts=>(fs.toList.zip parts).flatMap fun x=>cV n x.1.type x.2
  | some (.array _ e),.agg parts=>parts.flatMap fun x=>cV n e x
  | _,_=>[]
end
section
variable {ah:Nat->Nat}{m:Mp}{S:Nat->Prop}{w:ym}
def ab1:∀{a b:List AV} {ef o:Nat},b5 ah m S w a ef o->b5 ah m S w b ef (o+a.length)->b5 ah m S w (a++b) ef o
 | [],b,ef,o,_,h=>by simpa using h
 | x::a,b,ef,o,h1,h2=>by
  exact⟨h1.1,ab1 h1.2 (by rw[yx] at h2;rw[show o+1+a.length=o+(a.length+1) by lia];exact h2)⟩
def Pa:∀{a b:List AV},aE a=ycN->aE b=ycN->aE (a++b)=ycN
 | [],_,_,h=>h
 | x::a,b,h1,h2=>by
  simp only[aE,xh,ye] at h1 ⊢;exact⟨h1.1,Pa h1.2 h2⟩
def ab2:∀{a:List AV} {us:List yj},aB ah m S w a us->a.length=us.length
 | [],us,h=>by simp only[aB] at h;subst h;rfl
 | x::a,us,h=>by
  obtain⟨u,r,rfl,_,h2⟩:=h;simp[ab2 h2]
end
section
variable {H:Type}{enc:yE×yj->H}{P:xy}{w:ym}{held:Bool}{ah:Nat->Nat}{m:Mp}{S:Nat->Prop}
def adX{a:uG}{i:Nat}{u:yj}(h:w.cell? (a.add i)=GW u):w.cell? ⟨a.block,a.off+i,GX⟩=GW u/\(i=0->a.spot=GX):=by
 by_cases hi:i=0
 .subst hi;have e:a.add 0=a:=by simp[Addr.add]
  rw[e] at h;have hs:a.spot=GX:=by
   cases hq:a.spot with
   | none=>rfl
   | some k=>
    unfold World.cell? at h
    split at h
    .simp [hq] at h
    all_goals simp_all
  have⟨b,o,sp⟩:=a;simp only at hs;subst hs;exact⟨by simpa using h,fun _=>rfl⟩
 .have e:a.add i=⟨a.block,a.off+i,GX⟩:=by simp[Addr.add,hi]
  rw[e] at h;exact⟨h,fun h=>(hi h).elim⟩
def amD(a:uG)(i:Nat):(a.add i).block=a.block:=by unfold Addr.add;split<;>rfl
def aqC(a:uG)(i:Nat):(a.add i).off=a.off+i:=by unfold Addr.add;split<;>simp_all
def Pq{α β:Type}{f:α->Option β}:∀{l:List α} {r:List β},l.mapM f=GW r->r.length=l.length
 | [],r,h=>by simp only[yaw,wX,yd] at h;subst h;rfl
 | x::l,r,h=>by
  rw[uL] at h
  cases h1:f x with
  | none=>simp[h1] at h
  | some y=>
   cases h2:l.mapM f with
   | none=>simp[h1,h2] at h
   | some ys=>
    simp only[h1,h2,wF,vU,wX,yd] at h;subst h;simp[Pq h2]
def aoD{c:AV}{l:List AV}{b o:Nat}(h:b5 ah m S w (c::l) b o):b<w.heap.size:=by
 have⟨⟨u,h1,_⟩,_⟩:=h;unfold World.cell? at h1
 cases hq:w.heap[b]? with
 | none=>simp[hq] at h1
 | some o=>exact (xD.1 hq).1
def Us{e:yE}{bl sz:Nat}{f:xU H->List AV}{a:uG}(eS:0<sz)(IH:∀(cs:List yj) (d:xU H) (ps:List wM),DataW.trod enc P w 0 (fun _=>ycN) held bl e cs=GW (d,ps)->aB ah m S w (f d) cs/\aE (f d)=ycN/\cs.length=sz):
  ∀(k j:Nat) (xs:List (xU H×List wM)),(wG j k).mapM (fun i=>(w.cells? 0 (a.add (i*sz)) sz).bind (DataW.trod enc P w 0 (fun _=>ycN) held bl e))=GW xs->
   b5 ah m S w ((xs.map (·.1)).flatMap f) a.block (a.off+j*sz)/\aE ((xs.map (·.1)).flatMap f)=ycN/\((xs.map (·.1)).flatMap f).length=k*sz/\xs.length=k/\(0<k->a.spot=GX\/0<j)
 | 0,j,xs,h=>by
  simp only[ybs,yaw,wX,yd] at h;subst h;simp[b5,aE]
 | k+1,j,xs,h=>by
  rw[vP,uL] at h
  cases h1:(w.cells? 0 (a.add (j*sz)) sz) with
  | none=>simp[h1] at h
  | some us=>
   cases h2:DataW.trod enc P w 0 (fun _=>ycN) held bl e us with
   | none=>simp[h1,h2] at h
   | some x=>
    cases h3:(wG (j+1) k).mapM (fun i=>(w.cells? 0 (a.add (i*sz)) sz).bind (DataW.trod enc P w 0 (fun _=>ycN) held bl e)) with
    | none=>simp[h1,h2,h3] at h
    | some ys=>
     simp only[h1,h2,h3,wF,vU,wX,yd] at h;subst h;have⟨d,ps⟩:=x;have⟨g1,g2,g3⟩:=IH us d ps h2;have⟨k1,k2,k3,k4,_⟩:=Us eS IH k (j+1) ys h3;have⟨_,c2,c3⟩:=World.cells?_some h1;have hl:(f d).length=sz:=by rw[ab2 g1,g3]
     have hc:∀(i:Nat) (u:yj),us[i]? =GW u->w.cell? ⟨a.block,a.off+j*sz+i,GX⟩=GW u:=by
      intro i u hi;have A1:i<sz:=by grind
      have h:=c3 i A1;rw[hi] at h
      have:=(adX h).1
      rwa[amD,aqC] at this
     refine⟨?_,?_,?_,by simp[k4],?_⟩
     .simp only [xi,ybi];refine ab1 (G6 _ us _ g1 hc) ?_
      grind
     .simp only [xi,ybi];exact Pa g2 k2
     .grind
     .intro _;rcases xv j with hj | hj
      .left
       have h:=c3 0 eS;have hu:us[0]? =GW us[0]:=by simp_all
       rw[hu] at h
       have:=(adX h).2 rfl
       subst hj;simpa[Addr.add] using this
      .grind
def abh{bl N:Nat}{n:Nat}{cs:List yj}(hN:cs.length=N)(IH:∀(t:yE) (cs:List yj) (d:xU H) (ps:List wM),flat P n t=ycN->DataW.trod enc P w 0 (fun _=>ycN) held bl t cs=GW (d,ps)->aB ah m S w (cV P n t d) cs/\aE (cV P n t d)=ycN/\cs.length=P.cellsOf t):
  ∀(r:List ub) (o:Nat) (xs:List (xU H×List wM)),G0 P (fun u=>flat P n u) r o N=ycN->r.mapM (fun f=>DataW.trod enc P w 0 (fun _=>ycN) held bl f.type ((cs.drop f.offset).take (P.cellsOf f.type)))=GW xs->
   aB ah m S w ((r.zip (xs.map (·.1))).flatMap fun x=>cV P n x.1.type x.2) (cs.drop o)/\aE ((r.zip (xs.map (·.1))).flatMap fun x=>cV P n x.1.type x.2)=ycN
 | [],o,xs,hf,h=>by
  have:=yh hf
  rw[yZ (by lia)];simp[aB,aE]
 | f::r,o,xs,hf,h=>by
  simp only[G0,ye] at hf;have⟨e1,e2,e3⟩:=hf;have e1:=yh e1;rw[uL] at h
  cases h2:DataW.trod enc P w 0 (fun _=>ycN) held bl f.type ((cs.drop f.offset).take (P.cellsOf f.type)) with
  | none=>simp[h2] at h
  | some x=>
   cases h3:r.mapM (fun f=>DataW.trod enc P w 0 (fun _=>ycN) held bl f.type ((cs.drop f.offset).take (P.cellsOf f.type))) with
   | none=>simp[h2,h3] at h
   | some ys=>
    simp only[h2,h3,wF,vU,wX,yd] at h;subst h;have⟨d,ps⟩:=x;have⟨g1,g2,g3⟩:=IH f.type _ d ps e2 h2;have⟨k1,k2⟩:=abh hN IH r _ ys e3 h3;rw[e1] at g1;have e:cs.drop o=(cs.drop o).take (P.cellsOf f.type)++cs.drop (o+P.cellsOf f.type):=by rw[<-vd];exact (wc _ _).symm
    rw[e];exact⟨mF g1 k1,Pa g2 k2⟩
def adY{bl sz:Nat}{e:yE}{f:xU H->List AV}{cs:List yj}(IH:∀(cs:List yj) (d:xU H) (ps:List wM),DataW.trod enc P w 0 (fun _=>ycN) held bl e cs=GW (d,ps)->aB ah m S w (f d) cs/\aE (f d)=ycN/\cs.length=sz):
  ∀(k j:Nat) (xs:List (xU H×List wM)),(wG j k).mapM (fun i=>DataW.trod enc P w 0 (fun _=>ycN) held bl e ((cs.drop (i*sz)).take sz))=GW xs->cs.length=(j+k)*sz->
   aB ah m S w ((xs.map (·.1)).flatMap f) (cs.drop (j*sz))/\aE ((xs.map (·.1)).flatMap f)=ycN
 | 0,j,xs,h,hl=>by
  simp only[ybs,yaw,wX,yd] at h;subst h;rw[yZ (by rw[hl];simp)]
  simp[aB,aE]
 | k+1,j,xs,h,hl=>by
  rw[vP,uL] at h
  cases h2:DataW.trod enc P w 0 (fun _=>ycN) held bl e ((cs.drop (j*sz)).take sz) with
  | none=>simp[h2] at h
  | some x=>
   cases h3:(wG (j+1) k).mapM (fun i=>DataW.trod enc P w 0 (fun _=>ycN) held bl e ((cs.drop (i*sz)).take sz)) with
   | none=>simp[h2,h3] at h
   | some ys=>
    simp only[h2,h3,wF,vU,wX,yd] at h;subst h;have⟨d,ps⟩:=x;have⟨g1,g2,g3⟩:=IH _ d ps h2;have⟨k1,k2⟩:=adY IH k (j+1) ys h3 (by rw[hl];congr 1;lia)
    have e:cs.drop (j*sz)=(cs.drop (j*sz)).take sz++cs.drop ((j+1)*sz):=by rw[wg,ybU,<-vd];exact (wc _ _).symm
    rw[e];exact⟨mF g1 k1,Pa g2 k2⟩
def acQ(hS:∀b,b<w.heap.size->S b):∀(n bl:Nat) (t:yE) (cs:List yj) (d:xU H) (ps:List wM),flat P n t=ycN->DataW.trod enc P w 0 (fun _=>ycN) held bl t cs=GW (d,ps)->
  aB ah m S w (cV P n t d) cs/\aE (cV P n t d)=ycN/\cs.length=P.cellsOf t
 | 0,bl,t,cs,d,ps,hf,h=>by simp[flat] at hf
 | n+1,0,t,cs,d,ps,hf,h=>by simp[DataW.trod] at h
 | n+1,bl+1,t,cs,d,ps,hf,h=>by
  have IH:=acQ hS n bl;unfold DataW.trod at h;simp only[flat] at hf
  split at h
  .rename_i hu;simp only[hu] at hf;simp only[yd,yo] at h;obtain⟨rfl,rfl⟩:=h;simp only[cV,hu];exact⟨by simp[aB,aj],by simp[aE,aQ],by rw[yh hf];rfl⟩
  .rename_i hu;simp only[hu] at hf
   split at h
   .rename_i hk;simp only[yd,yo] at h;obtain⟨rfl,rfl⟩:=h;simp only[cV,hu];refine⟨?_,by simp[aE,aQ],by rw[yh hf];rfl⟩
    rw[hk.1];simp[aB,aj]
   .cases h
  .rename_i hu;simp only[hu] at hf
   split at h
   .rename_i hk;simp only[yd,yo] at h;obtain⟨rfl,rfl⟩:=h;simp only[cV,hu];refine⟨?_,by simp[aE,aQ],by rw[yh hf];rfl⟩
    rw[hk.1];simp[aB,aj]
   .cases h
  .rename_i hu;simp only[hu] at hf
   split at h
   .simp only [yd,yo] at h;obtain⟨rfl,rfl⟩:=h;simp only[cV,hu];refine⟨?_,by simp[aE,aQ],by rw[yh hf];rfl⟩
    simp only[aB,aj];exact⟨_,_,rfl,⟨_,rfl,rfl⟩,rfl⟩
   .cases h
  .rename_i hu;simp[hu] at hf
  .rename_i hu;simp[hu] at hf
  .rename_i hu;simp only[hu,ye] at hf;simp only[yd,yo] at h;obtain⟨rfl,rfl⟩:=h;simp only[cV,hu];exact⟨by simp[aB,aj],by simp[aE,aQ],by rw[yh hf.1];rfl⟩
  .rename_i e a len cap hu;simp only[hu,ye] at hf;have⟨f1,f2,f3⟩:=hf;have eS:=rm.1 f2;simp only at h
   split at h
   case isFalse=>cases h
   rename_i hc;simp only[xS] at h
   cases h1:(wi len).mapM fun i=>(w.cells? 0 (a.add (i*P.cellsOf e)) (P.cellsOf e)).bind (DataW.trod enc P w 0 (fun _=>ycN) held bl e) with
   | none=>rw[h1] at h;simp at h
   | some kQ=>
    cases h2:(wi (cap-len)).mapM fun j=>(w.cells? 0 (a.add ((len+j)*P.cellsOf e)) (P.cellsOf e)).bind (DataW.trod enc P w 0 (fun _=>ycN) held bl e) with
    | none=>rw[h1] at h;simp[h2] at h
    | some rest=>
     rw[h1] at h;simp only[wF,h2,wN,yd,yo] at h;obtain⟨rfl,rfl⟩:=h;have hIH:=fun cs d ps h=>IH e cs d ps f3 h
     rw[yaO] at h1 h2;have⟨k1,k2,k3,k4,k5⟩:=Us (ah:=ah) (m:=m) (S:=S) eS hIH len 0 kQ h1;have Zb:rest.length=cap-len:=by rw[Pq h2];simp
     have jR:cap≠0->a.spot=GX:=by
      intro Xg;rcases xv len with h0 | h0
      .subst h0;simp only[yf,ycn] at h2;have⟨_,_,_,_,q5⟩:=Us (ah:=ah) (m:=m) (S:=S) eS hIH cap 0 rest h2;exact (q5 (by lia)).resolve_right (by lia)
      .exact (k5 h0).resolve_right (by lia)
     simp only[cV,hu,yv];refine⟨?_,by simp[aE,aQ],by rw[yh f1];rfl⟩
     simp only[aB];refine⟨_,_,rfl,?_,rfl⟩;simp only[aj];by_cases Xg:cap=0
     .subst Xg;have lR:len=0:=by lia
      subst lR;have he:kQ=[]:=yt k4;subst he;exact .inr ⟨a,rfl,rfl,rfl⟩
     .have ⟨b,o,sp⟩:=a;have jR:=jR Xg;simp only at jR;subst jR;refine .inl ⟨b,o,cap,by rw[k4],by lia,fun hx=>?_,?_,k2,by simpa using k1⟩
      .have:rest.length=0:=by simpa using hx
       lia
      .generalize hg:((kQ.map (·.1)).flatMap fun x=>cV P n e x)=l at k1
       cases l with
       | nil=>exact .inl rfl
       | cons c l=>exact .inr (hS b (aoD k1))
  .rename_i AX x1 Oi fs hu;simp only[hu] at hf
   split at h
   case isFalse=>cases h
   rename_i hlen
   cases h1:fs.toList.mapM fun f=>DataW.trod enc P w 0 (fun _=>ycN) held bl f.type ((AX.drop f.offset).take (P.cellsOf f.type)) with
   | none=>rw[h1] at h;simp at h
   | some xs=>
    rw[h1] at h;simp only[wN,yd,yo] at h;obtain⟨rfl,rfl⟩:=h;have⟨k1,k2⟩:=abh hlen (fun t cs d ps hf h=>IH t cs d ps hf h) fs.toList 0 xs hf h1;simp only[cV,hu];exact⟨by simpa using k1,k2,hlen⟩
  .rename_i AX x1 Oi k e hu;simp only[hu,ye] at hf;have⟨f1,f2⟩:=hf;have f1:=yh f1
   split at h
   case isFalse=>cases h
   rename_i hlen
   cases h1:(wi k).mapM fun i=>DataW.trod enc P w 0 (fun _=>ycN) held bl e ((AX.drop (i*P.cellsOf e)).take (P.cellsOf e)) with
   | none=>rw[h1] at h;simp at h
   | some xs=>
    rw[h1] at h;simp only[wN,yd,yo] at h;obtain⟨rfl,rfl⟩:=h;rw[yaO] at h1;have⟨k1,k2⟩:=adY (ah:=ah) (m:=m) (S:=S) (fun cs d ps h=>IH e cs d ps f2 h) k 0 xs h1 (by rw[hlen,f1];simp)
    simp only[cV,hu];exact⟨by simpa using k1,k2,hlen⟩
  all_goals first
   | (cases h;done)
   | (simp_all;done)
def mQ(P:xy)(n:Nat)(t:yE)(d:xU H):AV:=
 match P.underlying t with
 | some (.struct _) | some (.array _ _)=>.agg (cV P n t d)
 | _=>(cV P n t d).headD .undef
def aqD(hS:∀b,b<w.heap.size->S b){n base:Nat}{t:yE}{v:yj}{d:xU H}{ps:List wM}(hf:flat P n t=ycN)(h:DataW.Trod enc P w 0 (fun _=>ycN) held t v d ps)(hv:Value.okWide P w .any base t v):aj ah m S w (mQ P n t d) v/\aQ (mQ P n t d)=ycN:=by
 have⟨bl,h⟩:=h;have⟨h1,h2,h3⟩:=acQ (ah:=ah) (m:=m) hS n bl t _ d ps hf h;have one:v.cells=#[v]->(∀fs,P.underlying t≠GW (.struct fs))->(∀k e,P.underlying t≠GW (.array k e))->aj ah m S w (mQ P n t d) v/\aQ (mQ P n t d)=ycN:=by
  intro hc I5 hna;have e:mQ P n t d=(cV P n t d).headD .undef:=by
   unfold mQ
   grind
  rw[e];rw[hc] at h1;generalize cV P n t d=l at h1 h2
  cases l with
  | nil=>simp[aB] at h1
  | cons x l=>
   simp only[aB] at h1;simp only[aE,ye] at h2
   grind
 cases n with
 | zero=>simp[flat] at hf
 | succ n=>
  unfold Value.okWide at hv;simp only[flat] at hf
  cases hu:P.underlying t with
  | none=>simp[hu] at hf
  | some ty=>
   rw[hu] at hv hf;cases ty<;>simp only[yL] at hf hv
   case struct fs=>
    obtain⟨cs,rfl,_,_⟩:=hv;have e:mQ P (n+1) t d=.agg (cV P (n+1) t d):=by simp only[mQ,hu]
    rw[e];exact⟨by simp only[aj];exact⟨cs,rfl,h1⟩,by simpa only[aQ] using h2⟩
   case array k e=>
    obtain⟨cs,rfl,_,_⟩:=hv;have e:mQ P (n+1) t d=.agg (cV P (n+1) t d):=by simp only[mQ,hu]
    rw[e];exact⟨by simp only[aj];exact⟨cs,rfl,h1⟩,by simpa only[aQ] using h2⟩
   all_goals
    refine one ?_ (by simp[hu]) (by simp[hu])
    cases v with
    | agg cs=>exfalso;simp only[Cell.okWide,Cell.ok,hu] at hv
    | _=>rfl
def BB(P:xy)(n:Nat):List yE->List (xU H)->List AV
 | t::ts,d::ds=>mQ P n t d::BB P n ts ds
 | _,_=>[]
def acR(hS:∀b,b<w.heap.size->S b){n base:Nat}:∀{ts:List yE} {vs:List yj} {ds:List (xU H)} {ps:List wM},ts.all (flat P n)=ycN->DataW.TrodAll enc P w 0 (fun _=>ycN) held ts vs ds ps->
  (∀(j:Nat) t v,ts[j]? =GW t->vs[j]? =GW v->Value.okWide P w .any base t v)->aB ah m S w (BB P n ts ds) vs/\aE (BB P n ts ds)=ycN
 | [],[],[],_,_,_,_=>by simp[BB,aB,aE]
 | t::ts,v::vs,d::ds,ps,hf,h,hv=>by
  simp only[yae,ye] at hf;have⟨p,q,h1,h2,_⟩:=h;have⟨a1,a2⟩:=aqD (ah:=ah) (m:=m) hS hf.1 h1 (hv 0 t v rfl rfl);have⟨b1,b2⟩:=acR hS hf.2 h2 (fun j t v h1 h2=>hv (j+1) t v h1 h2);simp only[BB,aB,aE,ye]
  grind
 | [],_::_,_,_,_,h,_=>by simp[DataW.TrodAll] at h
 | [],[],_::_,_,_,h,_=>by simp[DataW.TrodAll] at h
 | _::_,[],_,_,_,h,_=>by simp[DataW.TrodAll] at h
 | _::_,_::_,[],_,_,h,_=>by simp[DataW.TrodAll] at h
end
end
section
open Go
section
variable {H:Type}{enc:yE×yj->H}{P:xy}{w w':ym}{held:Bool}{sp:Nat->Bool}
def alu(hs:∀b,b<w.heap.size->w'.heap[b]? =w.heap[b]?){a:uG}{u:yj}(h:w.cell? a=GW u):w'.cell? a=GW u:=by
 unfold World.cell? at h ⊢
 grind
def akU(hs:∀b,b<w.heap.size->w'.heap[b]? =w.heap[b]?){base:Nat}{a:uG}{n:Nat}{us:List yj}(h:w.cells? base a n=GW us):w'.cells? base a n=GW us:=by
 unfold World.cells? at h ⊢
 split at h
 .rename_i hb;rw[yK hb];exact mapM_carry h (fun x y _ _ hx=>alu hs hx)
 .cases h
def aqE{a:uG}{n:Nat}(h:0<n):MemPlace.cell a.block (a.off+0)∈MemPlace.row a n:=by
 unfold MemPlace.row
 simp_all
def abi(hs:∀b,b<w.heap.size->w'.heap[b]? =w.heap[b]?):∀(n bl:Nat) (t:yE) (cs:List yj) (d:xU H) (ps:List wM),flat P n t=ycN->DataW.trod enc P w 0 (fun _=>ycN) held bl t cs=GW (d,ps)->
  (∀p,p∈ps->sp p.block=ycN)->DataW.trod enc P w' 0 sp held bl t cs=GW (d,ps)
 | 0,bl,t,cs,d,ps,hf,h,hp=>by simp[flat] at hf
 | n+1,0,t,cs,d,ps,hf,h,hp=>by simp[DataW.trod] at h
 | n+1,bl+1,t,cs,d,ps,hf,h,hp=>by
  have IH:=abi hs n bl;have elem:∀{e:yE} {a:uG} {y:xU H×List wM},flat P n e=ycN->(w.cells? 0 a (P.cellsOf e)).bind (DataW.trod enc P w 0 (fun _=>ycN) held bl e)=GW y->(∀p,p∈y.2->sp p.block=ycN)->
    (w'.cells? 0 a (P.cellsOf e)).bind (DataW.trod enc P w' 0 sp held bl e)=GW y:=by
   intro e a y he h hq
   cases h1:w.cells? 0 a (P.cellsOf e) with
   | none=>simp[h1] at h
   | some us=>
    rw[h1] at h;rw[akU hs h1]
    grind
  unfold DataW.trod at h ⊢;simp only[flat] at hf
  split at h
  .grind
  .grind
  .grind
  .grind
  .grind
  .grind
  .grind
  .rename_i e a len cap hu;simp only[hu,ye] at hf;obtain⟨f1,f2,f3⟩:=hf;have eS:=rm.1 f2;simp only at h ⊢
   split at h
   case isFalse=>cases h
   rename_i hc;rw[yK hc];simp only[xS] at h
   cases h1:(wi len).mapM fun i=>(w.cells? 0 (a.add (i*P.cellsOf e)) (P.cellsOf e)).bind (DataW.trod enc P w 0 (fun _=>ycN) held bl e) with
   | none=>rw[h1] at h;simp at h
   | some kQ=>
    cases h2:(wi (cap-len)).mapM fun j=>(w.cells? 0 (a.add ((len+j)*P.cellsOf e)) (P.cellsOf e)).bind (DataW.trod enc P w 0 (fun _=>ycN) held bl e) with
    | none=>rw[h1] at h;simp[h2] at h
    | some rest=>
     rw[h1] at h;simp only[wF,h2,wN,yd,yo] at h;obtain⟨rfl,rfl⟩:=h;have k1:((wi len).mapM fun i=>(w'.cells? 0 (a.add (i*P.cellsOf e)) (P.cellsOf e)).bind (DataW.trod enc P w' 0 sp held bl e))=GW kQ:=
      mapM_carry h1 (fun x y _ hy hx=>elem f3 hx (fun p hq=>hp p (ui _ (td.2 ⟨y,tJ _ hy,hq⟩))))
     have k2:((wi (cap-len)).mapM fun j=>(w'.cells? 0 (a.add ((len+j)*P.cellsOf e)) (P.cellsOf e)).bind (DataW.trod enc P w' 0 sp held bl e))=GW rest:=
      mapM_carry h2 (fun x y _ hy hx=>elem f3 hx (fun p hq=>hp p (ui _ (td.2 ⟨y,ui _ hy,hq⟩))))
     have hr:(if sp a.block=ycN then (wi (cap-len)).mapM fun j=>(w'.cells? 0 (a.add ((len+j)*P.cellsOf e)) (P.cellsOf e)).bind (DataW.trod enc P w' 0 sp held bl e) else GW [])=GW rest:=by
      by_cases jR:sp a.block=ycN
      .rw [yK jR];exact k2
      .rw [yI jR];have h0:¬0<(kQ.length+rest.length)*P.cellsOf e:=fun h0=>jR (hp _ (tJ _ (aqE h0)))
       have hz:kQ.length+rest.length=0:=by
        rcases xv (kQ.length+rest.length) with h | h
        .exact h
        .exact (h0 (vM h eS)).elim
       have:rest=[]:=yt (by omega)
       rw[this]
     rw[k1];simp only[wF];rw[hr];rfl
  .rename_i AX x1 Oi fs hu;simp only[hu] at hf
   split at h
   case isFalse=>cases h
   rename_i hlen;rw[yK hlen]
   cases h1:fs.toList.mapM fun f=>DataW.trod enc P w 0 (fun _=>ycN) held bl f.type ((AX.drop f.offset).take (P.cellsOf f.type)) with
   | none=>rw[h1] at h;simp at h
   | some xs=>
    rw[h1] at h;simp only[wN,yd,yo] at h;obtain⟨rfl,rfl⟩:=h;have DO:∀(r:List ub) (o:Nat),G0 P (fun u=>flat P n u) r o (P.cellsOf t)=ycN->∀f,f∈r->flat P n f.type=ycN:=by
     intro r
     induction r with
     | nil=>intro o _ f hm;cases hm
     | cons g r ih=>
      intro o hq f hm;simp only[G0,ye] at hq;rcases List.mem_cons.1 hm with rfl | hm
      .exact hq.2.1
      .exact ih _ hq.2.2 f hm
    have k1:(fs.toList.mapM fun f=>DataW.trod enc P w' 0 sp held bl f.type ((AX.drop f.offset).take (P.cellsOf f.type)))=GW xs:=
     mapM_carry h1 (fun f y hm hy hx=>IH _ _ y.1 y.2 (DO _ _ hf f hm) hx (fun p hq=>hp p (td.2 ⟨y,hy,hq⟩)))
    rw[k1];rfl
  .rename_i AX x1 Oi k e hu;simp only[hu,ye] at hf
   split at h
   case isFalse=>cases h
   rename_i hlen;rw[yK hlen]
   cases h1:(wi k).mapM fun i=>DataW.trod enc P w 0 (fun _=>ycN) held bl e ((AX.drop (i*P.cellsOf e)).take (P.cellsOf e)) with
   | none=>rw[h1] at h;simp at h
   | some xs=>
    rw[h1] at h;simp only[wN,yd,yo] at h;obtain⟨rfl,rfl⟩:=h;have k1:((wi k).mapM fun i=>DataW.trod enc P w' 0 sp held bl e ((AX.drop (i*P.cellsOf e)).take (P.cellsOf e)))=GW xs:=
     mapM_carry h1 (fun i y _ hy hx=>IH _ _ y.1 y.2 hf.2 hx (fun p hq=>hp p (td.2 ⟨y,hy,hq⟩)))
    rw[k1];rfl
  all_goals first
   | (cases h;done)
   | (simp_all;done)
def aas(hs:∀b,b<w.heap.size->w'.heap[b]? =w.heap[b]?){n:Nat}:∀{ts:List yE} {vs:List yj} {ds:List (xU H)} {ps:List wM},ts.all (flat P n)=ycN->DataW.TrodAll enc P w 0 (fun _=>ycN) held ts vs ds ps->
  (∀p,p∈ps->sp p.block=ycN)->DataW.TrodAll enc P w' 0 sp held ts vs ds ps
 | [],[],[],ps,_,h,_=>by simpa only[DataW.TrodAll] using h
 | t::ts,v::vs,d::ds,ps,hf,h,hp=>by
  simp only[yae,ye] at hf;obtain⟨p,q,⟨bl,h1⟩,h2,rfl⟩:=h;exact⟨p,q,⟨bl,abi hs n bl t _ d p hf.1 h1 (fun x hx=>hp x (tJ _ hx))⟩,aas hs hf.2 h2 (fun x hx=>hp x (ui _ hx)),rfl⟩
 | [],_::_,_,_,_,h,_=>by simp[DataW.TrodAll] at h
 | [],[],_::_,_,_,h,_=>by simp[DataW.TrodAll] at h
 | _::_,[],_,_,_,h,_=>by simp[DataW.TrodAll] at h
 | _::_,_::_,[],_,_,h,_=>by simp[DataW.TrodAll] at h
end
end
section
open Go Go.ChangeShapes Go.WideShapes
section
variable {H:Type}{enc:yE×yj->H}{P:xy}{W W':ym}
def amE(hc:Calm W W')(may:wM->Prop):W.keptBut W' may:=by
 refine⟨hc.os,hc.output,fun i hi=>?_⟩;rw[hc.same i hi]
 cases hq:W.heap[i]? with
 | none=>rfl
 | some o=>cases o<;>simp
def akV(hc:Calm W W'){b off:Nat}(hb:b<W.heap.size):W'.frozen? ⟨b,off,GX⟩=W.frozen? ⟨b,off,GX⟩:=by
 unfold World.frozen?;rw[hc.same b hb]
def aoE{fn:Func}{s:yco}{apart fresh handsOn again:Bool}{args:Array yj}{ds gs:List (xU H)}{before:List wM}{n:Nat}{tb:yE}(hW:DataW.Whole enc P fn.params.toList s.vars apart W args.toList ds gs before)(hv:s.vars=[])(QJ:fn.params.toList.all (flat P n)=ycN)(hc:Calm W W')(mD:s.fn H (ds++gs)={results:=[.lit (.bool ycN)],args:=ds})(II:fn.resultTypes=#[tb])(lY:P.underlying tb=GW .bool):
  s.post enc P fn apart fresh handsOn again W args (.bool ycN) W':=by
 have aH:=hW.lt;have hW0:=hW;obtain⟨p,q,hA,hV,Oj,hz,hn⟩:=hW;rw[hv] at hV;have hq:gs=[]/\q=[]:=by
  cases gs with
  | nil=>exact⟨rfl,by simpa only[DataW.TrodVars] using hV⟩
  | cons g gs=>simp[DataW.TrodVars] at hV
 obtain⟨rfl,rfl⟩:=hq;have hbp:before=p:=by simp_all
 subst hbp;have eQ:∀sp:Nat->Bool,(∀p∈before,sp p.block=ycN)->DataW.TrodAll enc P W' 0 sp ycN fn.params.toList args.toList ds before:=fun sp h=>aas hc.same QJ hA h
 have afM:∀(b:Nat) (sp:Nat->Bool) (hd:Bool),DataW.TrodAll enc P W' b sp hd fn.resultTypes.toList ((Value.bool ycN).resultList fn.resultTypes.size) [.lit (.bool ycN)] []:=by
  intro b sp hd;rw[II];refine⟨[],[],⟨1,?_⟩,rfl,rfl⟩;simp[DataW.trod,lY,Value.cells]
 have hold:∀p∈before,(fun b=>decide (b<W.heap.size)) p.block=ycN:=fun p hp=>by simpa using aH p hp
 have afN:∀sp:Nat->Bool,DataW.TrodVars enc P W' sp s.vars ([]:List (xU H)) []:=fun sp=>by rw[hv];rfl
 refine⟨ds,[],before,[],before,[],hW0,by rw[mD];exact afM _ _ _,by rw[mD];exact eQ _ hold,by rw[mD];exact afN _,amE hc _,fun _=>?_⟩
 refine⟨?_,[.lit (.bool ycN)]++ds,[],[]++before++[],⟨[]++before,[],trodAll_append (eQ _ (fun _ _=>rfl)) (afM _ _ _),afN _,rfl,?_,?_⟩,?_⟩
 .intro j t r h1 h2;rw[II] at h1 h2
  cases j with
  | zero=>
   simp only[List.getElem?_toArray,uh,yd] at h1;simp only[Value.resultList,List.size_toArray,yx,yN,xS,yf,uh,yd] at h2;subst h1;subst h2;simp[Value.okWide,lY,Cell.okWide,Cell.ok]
  | succ j=>simp at h1
 .intro b off hp;have hp:MemPlace.cell b off∈before:=by grind
  rw[akV hc (b:=b) (aH _ hp)];exact hz b off hp
 .grind
 .grind
def amF{O:bz}{n k:Nat}{fn:Func}{s:yco}{apart fresh handsOn again:Bool}{base:Nat}{args:Array yj}{ds gs:List (xU H)}{before:List wM}{tb:yE}(hp:eR O n (BB O.P k fn.params.toList ds) (.bool ycN))(sK:O.w0=W)(mD:O.P.funcs[O.ah n]? =GW fn)(hb:fn.body.isSome=ycN)(nt:fn.name≠ "runtime.NumGoroutine")(aO:∀(j:Nat) t v,fn.params[j]? =GW t->args[j]? =GW v->Value.okWide O.P W .any base t v)(hW:DataW.Whole enc O.P fn.params.toList s.vars apart W args.toList ds gs before)(hv:s.vars=[])(QJ:fn.params.toList.all (flat O.P k)=ycN)(hfs:s.fn H (ds++gs)={results:=[.lit (.bool ycN)],args:=ds})(II:fn.resultTypes=#[tb])(lY:O.P.underlying tb=GW .bool):
  Calls O.P (O.ah n) args W fun e W'=>∃v,e=.returned v/\s.post enc O.P fn apart fresh handsOn again W args v W':=by
 have hA:=hW;obtain⟨p,q,hA,_⟩:=hA;obtain⟨h1,h2⟩:=acR (ah:=O.ah) (m:=fp) (S:=fun b=>b<W.heap.size) (fun b hb=>hb) QJ hA (fun j t v a b=>aO j t v (by simpa using a) (by simpa using b));have hi:=hp W (fun b=>b<W.heap.size) args ⟨fun b _=>by rw[sK],by rw[sK];exact yz _⟩ (fun b hb=>hb) h1 h2
 have key:∀e W',acz O W (fun b=>b<W.heap.size) (.bool ycN) e W'->∃v,e=.returned v/\s.post enc O.P fn apart fresh handsOn again W args v W':=by
  rintro e W' ⟨u,S',rfl,hc,_,_,_,hr⟩;obtain⟨_,_,hu,_⟩:=hr;subst hu;exact⟨_,rfl,aoE hW hv QJ hc hfs II lY⟩
 rcases hi with ⟨_,hi⟩ | ⟨u,w',hi,_⟩
 .exact callsIn_wide.1 (hi.mono key)
 .rw [PG mD hb nt] at hi;cases hi
end
end
namespace J1
open Go Go.Proofs
noncomputable def O(W:ym):bz:=⟨Tryz.prog,VE.aI,BU mC.ah,VE.prog,QE mC.b9 mC.hd,W⟩
def ab3{w:ym}{k:Nat}{os:Array Go.Obj}:Calm w (Go.Sort.grow (w.drewN k) os):=Kw (Lib.below_grow w.heap.size w (yz _) k os)
def acS{W w:ym}(h:Lib.TabIs Tryz.prog W "internal/strconv.uint64pow10" .u64 Lib.pow10Tab)(hg:De (O W) w):Lib.TabIs Tryz.prog w "internal/strconv.uint64pow10" .u64 Lib.pow10Tab:=by
 unfold Lib.TabIs World.var? at h ⊢
 cases hn:Tryz.prog.globalNamed "internal/strconv.uint64pow10" with
 | none=>rw[hn] at h;exact h
 | some g=>
  rw[hn] at h;simp only[wF] at h ⊢;have hb:g<W.heap.size:=by
   cases hq:W.heap[g]? with
   | none=>rw[hq] at h;cases h
   | some o=>exact (xD.1 hq).1
  rw[hg.1 g hb];exact h
def ayU:∀args w,(callFunc 147 args).run Tryz.prog w=.ok (.enter 147 args) w:=enters_of Tryz.func147 (by kernel_rfl) rfl
def ayV:∀args w,(callFunc 219 args).run Tryz.prog w=.ok (.enter 219 args) w:=enters_of Tryz.func219 (by kernel_rfl) rfl
def ayW:∀args w,(callFunc 213 args).run Tryz.prog w=.ok (.enter 213 args) w:=enters_of Tryz.func213 (by kernel_rfl) rfl
def ayX:∀args w,(callFunc 215 args).run Tryz.prog w=.ok (.enter 215 args) w:=enters_of Tryz.func215 (by kernel_rfl) rfl
def ayY:∀args w,(callFunc 216 args).run Tryz.prog w=.ok (.enter 216 args) w:=enters_of Tryz.func216 (by kernel_rfl) rfl
def ayZ:∀args w,(callFunc 205 args).run Tryz.prog w=.ok (.enter 205 args) w:=enters_of Tryz.func205 (by kernel_rfl) rfl
def ay0:∀args w,(callFunc 224 args).run Tryz.prog w=.ok (.enter 224 args) w:=enters_of Tryz.func224 (by kernel_rfl) rfl
def ay1:∀args w,(callFunc 225 args).run Tryz.prog w=.ok (.enter 225 args) w:=enters_of Tryz.func225 (by kernel_rfl) rfl
def ay2:∀args w,(callFunc 226 args).run Tryz.prog w=.ok (.enter 226 args) w:=enters_of Tryz.func226 (by kernel_rfl) rfl
def ay3:∀args w,(callFunc 283 args).run Tryz.prog w=.ok (.enter 283 args) w:=enters_of Tryz.func283 (by kernel_rfl) rfl
def ay4:∀args w,(callFunc 274 args).run Tryz.prog w=.ok (.enter 274 args) w:=enters_of Tryz.func274 (by kernel_rfl) rfl
def ay5:∀args w,(callFunc 293 args).run Tryz.prog w=.ok (.enter 293 args) w:=enters_of Tryz.func293 (by kernel_rfl) rfl
def aqF(b:Nat)(w:ym):(callFunc 299 #[.float .f64 b]).run Tryz.prog w=.ok (.value (.int .u64 b)) w:=by
 rw[run_callFunc_extern Tryz.func299 (by kernel_rfl) (by kernel_rfl) (by kernel_rfl) (e:=Extern.MathFloatBits.float64bits) (by kernel_rfl)];rfl
def akW(b:Nat)(w:ym):(callFunc 298 #[.int .u64 b]).run Tryz.prog w=.ok (.value (.float .f64 b)) w:=by
 rw[run_callFunc_extern Tryz.func298 (by kernel_rfl) (by kernel_rfl) (by kernel_rfl) (e:=Extern.MathFloatBits.float64frombits) (by kernel_rfl)];rfl
def axq(W:ym)(n:Nat)(sp:List AV->Option AV):Prop:=∀aw r,sp aw=GW r->eR (O W) n aw r
section
variable {W:ym}{m:Int}(hm:W.cell? ⟨6,0,GX⟩=GW (.int .i64 m))(ht:Lib.TabIs Tryz.prog W "internal/strconv.uint64pow10" .u64 Lib.pow10Tab)
include hm ht
theorem atD:agO.mB (axq W):=
 (Tr.kP (aov (O:=O W) (f:=226) (by rfl) ay2 (fun s z w hl h=>(Tryz.strconv_Atoi s z hl h w).mono fun _ _ ⟨h1,t,h2⟩=>⟨h1,h2▸Kw (Lib.bytesWorld_below _ _ _)⟩))
  (Tr.kP (als (O:=O W) (f:=216) (by rfl) ayY Tryz.strings_Repeat)
  (Tr.kP (aou (O:=O W) (f:=213) (by rfl) ayW (fun z w h0 h1 hg=>(Tryz.strconv_Itoa z h0 h1 w (acS ht hg)).mono fun _ _ ⟨h1,k,os,h2⟩=>⟨h1,h2▸ab3⟩))
  (Tr.kP (akk (O:=O W) (f:=219) (by rfl) ayV Tryz.strings_CutPrefix)
  (Tr.kP (aqn (O:=O W) (f:=147) (by rfl) ayU (a:=⟨6,0,GX⟩) (m:=m) hm (fun s sep w hs hc=>Tryz.strings_Cut s sep m w hs hc))
  Tr.jG Tr.jG) Tr.jG) (Tr.kP (aki (O:=O W) (f:=215) (by rfl) ayX (fun z w hz hg=>(Tryz.aj9 z hz w (acS ht hg)).mono fun _ _ ⟨h1,k,os,h2⟩=>⟨h1,h2▸ab3⟩))
  Tr.jG Tr.jG)) (Tr.kP (akl (O:=O W) (f:=224) (by rfl) ay0 Tryz.strings_HasPrefix)
  (Tr.kP (amw (O:=O W) (f:=205) (by rfl) ayZ (fun x y w hx hy=>Tryz.bits_Mul64 x y hx hy w))
  Tr.jG Tr.jG) (Tr.kP (akh (O:=O W) (f:=225) (by rfl) ay1 Tryz.strings_TrimPrefix)
  Tr.jG Tr.jG))) (Tr.kP (amz (O:=O W) (f:=271) (by rfl) (fun x y b w h=>Tryz.bits_Sub64 x y b h w))
  (Tr.kP (aow (O:=O W) (f:=274) (by rfl) ay4 (fun x w h0 h1=>Tryz.bits_LeadingZeros64 x w h0 h1))
  (Tr.kP (aot (O:=O W) (f:=283) (by rfl) ay3 (fun s cs w hs eI ha=>Tryz.aky s cs w hs eI ha))
  Tr.jG Tr.jG) (Tr.kP (amy (O:=O W) (f:=269) (by rfl) (fun x y c w h=>Tryz.bits_Add64 x y c h w))
  Tr.jG Tr.jG)) (Tr.kP (akJ (O:=O W) (f:=299) (by rfl) aqF)
  (Tr.kP (amx (O:=O W) (f:=293) (by rfl) ay5 (fun x w h0 h1=>Tryz.bits_Len64 x w h0 h1))
  Tr.jG Tr.jG) (Tr.kP (ake (O:=O W) (f:=298) (by rfl) akW)
  Tr.jG Tr.jG))))
theorem aqG:iH (O W) where
 hint n f g h:=Tr.EB (p:=fun f g=>BU mC.ah g=f) (T8 mC.asR) h
 mixed:=by kernel_rfl
 prog n F h:=Tr.EB mC.aqB h
 aI n sp aw r h hs:=Tr.EB (atD hm ht) h aw r hs
 Il n sp hp ct aw v au aX h:=by cases h
end
end J1
def cd:List Int->Int
 | []=>0
 | a::r=>if a=0 then cd r else a
def akX{l:List Int}{i:Nat}(h:i<l.length):cd (l.drop i)=if l[i]=0 then cd (l.drop (i+1)) else l[i]:=by
 rw[yT h,cd]
def oO(lo hi:Int):List Int->Bool
 | []=>ycO
 | a::r=>if a<lo\/hi<a then ycN else oO lo hi r
def afO(n:Nat)(lo hi:Int):List (List Int)->Int
 | []=>0
 | r::s=>if r.length≠n then 2 else if oO lo hi r=ycN then 3 else afO n lo hi s
def amG(s:List (List Int)):Int:=if s.length=0 then 12 else if 16<s.length then 5 else afO s.length (-1000) 1000 s
def acT{lo hi:Int}{l:List Int}(h:oO lo hi l=ycO):∀i (dP:i<l.length),lo<=l[i]/\l[i]<=hi:=by
 induction l with
 | nil=>intro i dP;exact absurd dP (Nat.not_lt_zero _)
 | cons a r ih=>
  simp only[oO] at h
  grind
def amH{lo hi:Int}{l:List Int}(h:oO lo hi l=ycO):∀i,oO lo hi (l.take i)=ycO:=by
 induction l with
 | nil=>intro i;simp[oO]
 | cons a r ih=>
  intro i;simp only[oO] at h
  split at h
  .grind
  .rename_i hc
   cases i with
   | zero=>simp[oO]
   | succ i=>simp only[List.take_succ_cons,oO,hc,xE,ih h i]
def adZ{n m:Int}(h:0<m):(n.tmod m+m).tmod m=n%m:=by
 have e:n.tmod m=if 0<=n\/m∣n then n%m else n%m-m:=by
  grind
 have h1:=Int.emod_nonneg n (by lia:m≠0);rw[e]
 split
 .rw [xH (by lia),Int.add_emod_right,yck]
 .rw [show n%m-m+m=n%m by lia,xH h1,yck]
section
variable {x:Int}{a b l:List Int}
def dv:List Int->Nat
 | []=>0
 | a::r=>a.toNat+1000000000*dv r
def nE:∀(a b:List Int),dv (a++b)=dv a+1000000000^a.length*dv b
 | [],b=>by simp[dv]
 | x::a,b=>by
  simp only[xh,dv,nE a b,yx,xt,xK]
  grind
def rn(i:Nat):dv (l.take (i+1))=dv (l.take i)+1000000000^i*(l.getD i 0).toNat:=by
 by_cases h:i<l.length
 .rw [yS h,nE,yO,xA (by lia)];simp[dv,yU,xf h]
 .rw [yq (by lia),yq (by lia)]
  grind
abbrev dg(l:List Int):Prop:=oO 0 999999999 l=ycO
def iF:dg (a++b)↔dg a/\dg b:=by
 induction a with
 | nil=>simp[dg,oO]
 | cons x a ih=>
  simp only[dg,xh,oO] at ih ⊢
  grind
def me:dg [x]↔0<=x/\x<1000000000:=by
 simp only[dg,oO]
 grind
def iT(h:dg l)(i:Nat):0<=l.getD i 0/\l.getD i 0<1000000000:=by
 by_cases hi:i<l.length
 .have:=acT h i hi
  grind
 .grind
def EG(h:dg l)(i:Nat):dg (l.take i):=amH h i
def kR:∀{l:List Int},dg l->dv l<1000000000^l.length
 | [],_=>by simp[dv]
 | x::l,h=>by
  have h':dg ([x]++l):=h;have⟨h1,h2⟩:=iF.1 h';have h1:=me.1 h1
  have:=kR h2
  simp only[dv,yx,xt]
  lia
def eB:List Int->List Int
 | []=>[]
 | a::r=>match eB r with | []=>if a=0 then [] else [a] | t::q=>a::t::q
def Ky:∀l:List Int,eB (l++[0])=eB l
 | []=>rfl
 | a::l=>by simp only[xh,eB,Ky l]
def Pb{a:Int}(h:a≠0):∀l:List Int,eB (l++[a])=l++[a]
 | []=>by simp[eB,h]
 | b::l=>by
  simp only[xh,eB,Pb h l]
  cases hq:l++[a] with
  | nil=>simp at hq
  | cons t q=>rfl
def Bq:∀l:List Int,dv (eB l)=dv l
 | []=>rfl
 | a::l=>by
  have ih:=Bq l;simp only[eB,dv]
  split
  .rename_i h;rw[h] at ih
   split
   .rename_i h0;subst h0;simp[dv,<-ih]
   .simp [dv,<-ih]
  .rename_i t q h;rw[h] at ih;simp only[dv] at ih ⊢
   lia
def CK:∀{l:List Int},dg l->dg (eB l)
 | [],_=>rfl
 | a::l,h=>by
  have h':dg ([a]++l):=h;have⟨h1,h2⟩:=iF.1 h';have ih:=CK h2;simp only[eB]
  split
  .grind
  .rename_i t q hq;rw[hq] at ih
   exact (iF (a:=[a]) (b:=t::q)).2 ⟨h1,ih⟩
def Pr:∀l:List Int,(eB l).length<=l.length
 | []=>yz _
 | a::l=>by
  have ih:=Pr l;simp only[eB]
  grind
def snoc{α:Type}(l:List α):l=[]\/∃m a,l=m++[a]:=by
 rcases List.eq_nil_or_concat l with h | ⟨m,a,h⟩
 .grind
 .grind
def akY:∀(n:Nat) (l:List Int),l.length=n->eB (eB l)=eB l:=by
 intro n
 induction n with
 | zero=>intro l h;rw[yt h];rfl
 | succ n ih=>
  intro l h;rcases snoc l with rfl | ⟨m,a,rfl⟩
  .rfl
  .by_cases h0:a=0
   .subst h0;rw[Ky]
    grind
   .rw [Pb h0,Pb h0]
def alv(l:List Int):eB (eB l)=eB l:=akY _ l rfl
abbrev nz(l:List Int):Prop:=eB l=l
def He(l:List Int):nz (eB l):=alv l
def QK(h:nz l)(hd:dg l)(h0:l≠[]):1000000000^(l.length-1)<=dv l:=by
 rcases snoc l with rfl | ⟨m,a,rfl⟩
 .grind
 .by_cases ha:a=0
  .subst ha
   have:=Pr m
   have e:=congrArg tY h;rw[Ky] at e
   grind
  .rw [nE]
   have:=me.1 (iF.1 hd).2
   simp only[dv,yM,tz,uP,xI,xd];have h1:1<=a.toNat:=by lia
   have:=xa (1000000000^m.length) h1
   lia
def ad0(h:nz l)(hd:dg l)(h0:dv l=0):l=[]:=by
 by_cases hl:l=[]
 .grind
 .have:=QK h hd hl
  grind
def VH(ha:dg a)(hb:nz b)(bD:dg b)(h:a.length<b.length):dv a<dv b:=by
 have h1:=kR ha;have h2:=QK hb bD (fun e=>by subst e;simp at h);have h3:1000000000^a.length<=1000000000^(b.length-1):=xe (by decide) (by lia)
 lia
def dZ(m n:Nat):Int:=if m<n then -1 else if n<m then 1 else 0
def aeu{i:Nat}(h:i<l.length):dv l=dv (l.take i)+1000000000^i*(l[i].toNat+1000000000*dv (l.drop (i+1))):=by
 have e:l=l.take i++l[i]::l.drop (i+1):=by simp_all
 have:dv l=dv (l.take i++l[i]::l.drop (i+1)):=congrArg dv e
 rw[this,nE,yO,xA (by lia)];rfl
def ad1{i:Nat}(ha:dg a)(hb:dg b)(h1:i<a.length)(h2:i<b.length)(he:a.drop (i+1)=b.drop (i+1))(h:a[i]<b[i]):dv a<dv b:=by
 rw[aeu h1,aeu h2,he];have hl:=kR (EG ha i);have g1:=acT ha i h1;have h3:a[i].toNat+1000000000*dv (b.drop (i+1))+1<=b[i].toNat+1000000000*dv (b.drop (i+1)):=by lia
 have:=xa (1000000000^i) h3
 grind
def VI:∀{l:List Int} {j:Nat} {x:Int},j<l.length->dv (l.set j x)+1000000000^j*(l.getD j 0).toNat=dv l+1000000000^j*x.toNat
 | [],j,x,h=>by simp at h
 | a::l,0,x,_=>by simp[dv];lia
 | a::l,j+1,x,h=>by
  have ih:=VI (l:=l) (j:=j) (x:=x) (by simpa using h);simp only[ybd,dv,yaV,xt]
  grind
def Qk(h:dg l){j:Nat}(hx:0<=x/\x<1000000000):dg (l.set j x):=by
 by_cases hj:j<l.length
 .rw [vn,yK hj];have e:l=l.take (j+1)++l.drop (j+1):=(wc _ _).symm;have hd:dg (l.drop (j+1)):=by rw[e] at h;exact (iF.1 h).2
  exact iF.2 ⟨EG h j,(iF (a:=[x]) (b:=l.drop (j+1))).2 ⟨me.2 hx,hd⟩⟩
 .rw [List.set_eq_of_length_le (by lia)];exact h
def acU{j m:Nat}(h:m≠j):(l.set j x).getD m 0=l.getD m 0:=by grind
def aoF{V0 V V' p q A X Y o c s:Nat}(hs:s=o+A*X+c)(aY:V'+p*q*o=V+p*q*(s%1000000000))(hv:V+p*q*c=V0+p*(A*Y)):
  V'+p*(q*1000000000)*(s/1000000000)=V0+p*(A*(Y+q*X)):=by
 have e:=uk s 1000000000;have e2:p*q*s=p*q*(s%1000000000)+p*(q*1000000000)*(s/1000000000):=by
  conv=>lhs;rw[<-e]
  rw[xK,<-xm (p*q),<-xm p q]
 have e3:p*q*s=p*q*o+p*q*(A*X)+p*q*c:=by rw[hs,xK,xK]
 have e4:p*(A*(Y+q*X))=p*(A*Y)+p*q*(A*X):=by
  rw[xK,xK,xm p q,<-xm A q X,xz A q,xm q A X]
 lia
def acV(n:Nat):dv (yD n 0)=0:=by
 induction n with
 | zero=>rfl
 | succ n ih=>simp[wT,dv,ih]
def acW(n:Nat):dg (yD n 0):=by
 induction n with
 | zero=>rfl
 | succ n ih=>exact (iF (a:=[0]) (b:=yD n 0)).2 ⟨by decide,ih⟩
end
section
variable {l m:List Nat}{U V i p u0 u1 u2 ur v1 v2 vr x:Nat}
def bv(b:Nat):List Nat->Nat
 | []=>0
 | a::r=>a+b*bv b r
def lo(b:Nat)(l:List Nat):Prop:=∀x,x∈l->x<b
section
variable {b:Nat}
def C7(a:Nat):bv b [a]=a:=by simp[bv]
def Ad:∀(l m:List Nat),bv b (l++m)=bv b l+b^l.length*bv b m
 | [],m=>by simp[bv]
 | x::l,m=>by
  simp only[xh,bv,Ad l m,yx,xt,xK]
  grind
def gd(h:i<l.length):l[i]=l.getD i 0:=by simp_all
def VJ(h:l.length<=i):l.getD i 0=0:=by simp_all
def kh(i:Nat):bv b (l.take (i+1))=bv b (l.take i)+b^i*l.getD i 0:=by
 by_cases h:i<l.length
 .rw [yS h,Ad,yO,xA (by lia),C7,gd h]
 .rw [yq (by lia),yq (by lia),VJ (by lia),xI,xd]
def Ql:lo b []:=fun _ h=>by simp at h
def Ps:lo b (l++m)↔lo b l/\lo b m:=by
 constructor
 .intro h;exact⟨fun x hx=>h x (by simp[hx]),fun x hx=>h x (by simp[hx])⟩
 .rintro ⟨h1,h2⟩ x hx;rcases wR.1 hx with h | h
  .exact h1 x h
  .exact h2 x h
def HW:lo b [x]↔x<b:=by simp[lo]
def iI(hb:0<b)(h:lo b l)(i:Nat):l.getD i 0<b:=by
 by_cases hi:i<l.length
 .rw [<-gd hi];exact h _ (List.getElem_mem hi)
 .grind
def CW(h:lo b l)(i:Nat):lo b (l.take i):=fun x hx=>h x (List.mem_of_mem_take hx)
def ad2(h:lo b l)(i:Nat):lo b (l.drop i):=fun x hx=>h x (List.mem_of_mem_drop hx)
def nK(h:lo b l)(hx:x<b):lo b (l.set i x):=fun y hy=>by
 rcases List.mem_or_eq_of_mem_set hy with h1 | h1
 .exact h y h1
 .lia
def HX(hb:0<b)(n:Nat):lo b (yD n 0):=fun x hx=>by
 grind
def HY(n:Nat):bv b (yD n 0)=0:=by
 induction n with
 | zero=>rfl
 | succ n ih=>simp[wT,bv,ih]
def EH(n m:Nat):(yD n (0:Nat)).getD m 0=0:=by grind
def nR:∀{l:List Nat},lo b l->bv b l<b^l.length
 | [],_=>by simp[bv]
 | x::l,h=>by
  have h1:=h x (by simp);have h2:=nR (l:=l) (fun y hy=>h y (by simp[hy]));simp only[bv,yx,xt,xz _ b]
  have:=xa b (show bv b l+1<=b^l.length from h2)
  grind
def pQ:∀{l:List Nat} {i x:Nat},i<l.length->bv b (l.set i x)+b^i*l.getD i 0=bv b l+b^i*x
 | [],i,x,h=>by simp at h
 | a::l,0,x,_=>by simp[bv];lia
 | a::l,i+1,x,h=>by
  have ih:=pQ (l:=l) (i:=i) (x:=x) (by simpa using h)
  have:=congrArg (fun t=>b*t) ih
  simp only[xK] at this;simp only[ybd,bv,yaV,xt,xz _ b,xm] at this ⊢
  lia
def rq{m:Nat}(h:i≠m):(l.set i x).getD m 0=l.getD m 0:=by simp_all
def alw(h:i<l.length):(l.set i x).getD i 0=x:=by simp_all
def KO(l:List Nat)(i:Nat)(h:i<=l.length):bv b l=bv b (l.take i)+b^i*bv b (l.drop i):=by
 have:=Ad (b:=b) (l.take i) (l.drop i)
 simp_all
def eC:List Nat->List Nat
 | []=>[]
 | a::r=>match eC r with | []=>if a=0 then [] else [a] | t::q=>a::t::q
def Pc:∀l:List Nat,eC (l++[0])=eC l
 | []=>rfl
 | a::l=>by simp only[xh,eC,Pc l]
def G1{a:Nat}(h:a≠0):∀l:List Nat,eC (l++[a])=l++[a]
 | []=>by simp[eC,h]
 | b::l=>by
  simp only[xh,eC,G1 h l]
  cases hq:l++[a] with
  | nil=>simp at hq
  | cons t q=>rfl
abbrev iz(l:List Nat):Prop:=eC l=l
def alx:∀(n:Nat) (l:List Nat),l.length=n->∃i,i<=n/\eC l=l.take i/\iz (l.take i)/\bv b (l.take i)=bv b l:=by
 intro n
 induction n with
 | zero=>intro l h;rw[yt h];exact⟨0,yz _,rfl,rfl,rfl⟩
 | succ n ih=>
  intro l h;rcases snoc l with rfl | ⟨m,a,rfl⟩
  .grind
  .have hm:m.length=n:=by simp_all
   by_cases h0:a=0
   .subst h0;have⟨i,h1,h2,h3,h4⟩:=ih m hm;have e:(m++[0]).take i=m.take i:=by grind
    refine⟨i,by lia,by rw[Pc,h2,e],by rw[e];exact h3,?_⟩
    rw[e,h4,Ad];simp[bv]
   .have e:(m++[a]).take (n+1)=m++[a]:=yq (by simp[hm]);exact⟨n+1,yz _,by rw[e,G1 h0],by rw[e];exact G1 h0 m,by rw[e]⟩
def Pt(l:List Nat):∃i,i<=l.length/\eC l=l.take i/\iz (eC l)/\bv b (eC l)=bv b l:=by
 have⟨i,h1,h2,h3,h4⟩:=alx (b:=b) l.length l rfl
 grind
def CL(l:List Nat):bv b (eC l)=bv b l:=by
 have⟨_,_,_,_,h⟩:=Pt (b:=b) l;exact h
def CM(l:List Nat):iz (eC l):=by
 have⟨_,_,_,h,_⟩:=Pt (b:=2) l;exact h
def CN(h:lo b l):lo b (eC l):=by
 have⟨i,_,h2,_⟩:=Pt (b:=b) l;rw[h2];exact CW h i
def amI(l:List Nat):(eC l).length<=l.length:=by
 have⟨i,_,h2,_⟩:=Pt (b:=2) l
 grind
def PH(h:iz l)(h0:l≠[]):l.getD (l.length-1) 0≠0:=by
 rcases snoc l with rfl | ⟨m,a,rfl⟩
 .grind
 .intro ha
  have:a=0:=by
   grind
  subst this;have e:=congrArg tY h;rw[Pc] at e
  have:=amI m
  grind
def VK(hb:0<b)(h:iz l)(h0:l≠[]):b^(l.length-1)<=bv b l:=by
 rcases snoc l with rfl | ⟨m,a,rfl⟩
 .grind
 .have ha:=PH h h0;simp[yU] at ha;rw[Ad,C7];simp only[yM,tz,uP]
  have:=xa (b^m.length) (show 1<=a by lia)
  lia
def P2(hb:1<b)(hl:lo b l)(hm:iz m)(h:l.length<m.length):bv b l<bv b m:=by
 have h1:=nR hl;have h2:=VK (b:=b) (by lia) hm (fun e=>by subst e;simp at h);have h3:b^l.length<=b^(m.length-1):=xe (by lia) (by lia)
 lia
def ad3(hl:lo b l)(h1:i<l.length)(h2:i<m.length)(he:l.drop (i+1)=m.drop (i+1))(h:l.getD i 0<m.getD i 0):bv b l<bv b m:=by
 rw[KO l (i+1) (by lia),KO m (i+1) (by lia),he,kh,kh]
 have:=nR (CW hl i)
 have:=xa (b^i) (show l.getD i 0+1<=m.getD i 0 from h)
 grind
def amJ(hb:1<b){k:Nat}(h:iz l)(hk:bv b l<b^k):l.length<=k:=by
 by_cases h0:l=[]
 .grind
 .have h1:=VK (b:=b) (by lia) h h0;have h2:b^(l.length-1)<b^k:=wB h1 hk
  have:=(ug hb).1 h2
  lia
def abj{t r:Nat}(hV:V=(v1*b+v2)*p+vr)(hU:U=((u0*b+u1)*b+u2)*p+ur)(hur:ur<p)(ht:t*v1+r=u0*b+u1)(h:r*b+u2<t*v2):U/V<=t-1:=by
 have h1:U<t*V:=by
  have e:t*((v1*b+v2)*p)=((t*v1)*b+t*v2)*p:=by
   grind
  have h2:((u0*b+u1)*b+u2)+1<=(t*v1)*b+t*v2:=by rw[<-ht,wg];lia
  have h3:=yQ p h2;rw[hV,hU,xK,e]
  grind
 have zO:0<V:=by
  grind
 have:=(xM zO).2 h1
 lia
def ab4{t r:Nat}(hb:0<b)(hV:V=(v1*b+v2)*p+vr)(Ok:vr<p)(hU:U=((u0*b+u1)*b+u2)*p+ur)(fC:0<v1)(de:v2<b)(lY:t<b)(ht:t*v1+r=u0*b+u1)(h:b<=r\/t*v2<=r*b+u2):t<=U/V+1:=by
 have h2:t*v2<=r*b+u2:=by
  rcases h with h | h
  .have:=xF (uI lY) (uI de)
   have:=yQ b h
   lia
  .exact h
 have h3:t*(v1*b+v2)<=(u0*b+u1)*b+u2:=by
  rw[xK,<-xm,<-ht,wg];lia
 have hp:0<p:=by lia
 have aEH:b<=v1*b:=Nat.le_mul_of_pos_left b fC;have zO:0<V:=by
  have:=vM (show 0<v1*b+v2 by lia) hp
  lia
 rcases xv t with h0 | h0
 .grind
 .obtain ⟨s,rfl⟩:∃s,t=s+1:=⟨t-1,by lia⟩;have h4:s*V<=U:=by
   have h5:V<=(v1*b+v2+1)*p:=by grind
   have h6:=xa s h5;have h7:s*(v1*b+v2+1)<=(s+1)*(v1*b+v2):=by
    grind
   have h8:=yQ p (xn h7 h3)
   grind
  exact Nat.succ_le_succ ((tE zO).2 h4)
def TQ(hV:V=(v1*b+v2)*p+vr)(hU:U=((u0*b+u1)*b+u2)*p+ur)(hur:ur<p)(Cj:u2<b)(fC:0<v1):U/V<=(u0*b+u1)/v1:=by
 by_cases zO:V=0
 .grind
 .refine (tE fC).2 ?_;have h1:=Nat.div_mul_le_self U V;generalize U/V=q at h1 ⊢;have h2:q*v1*(b*p)<=q*V:=by
   rw[hV,xm]
   grind
  have h3:U<(u0*b+u1+1)*(b*p):=by
   have:(u0*b+u1)*b+u2+1<=(u0*b+u1+1)*b:=by grind
   have:=yQ p this
   grind
  have h4:q*v1*(b*p)<(u0*b+u1+1)*(b*p):=by lia
  have:=uQ h4
  lia
def ab5(hV:V=(v1*b+v2)*p+vr)(hU:U=((u0*b+u1)*b+u2)*p+ur)(Ok:vr<p)(de:v2<b)(h:U<b*V):u0<=v1:=by
 refine Nat.le_of_lt_succ ?_;have h1:V<(v1+1)*(b*p):=by
  have:v1*b+v2+1<=(v1+1)*b:=by grind
  have:=yQ p this
  grind
 have h2:u0*(b*(b*p))<=U:=by
  grind
 have h3:=xa b (uI h1);have e:b*((v1+1)*(b*p))=(v1+1)*(b*(b*p)):=by grind
 rw[e] at h3;have h4:u0*(b*(b*p))<(v1+1)*(b*(b*p)):=wB h2 (yR h h3);exact uQ h4
end
end
section
variable {P:aG}{L:Lib}{f:cw}{F:Nat->cw}
def DZ(f:cw)(F:Nat->cw):Prop:=∀c s r,f c s=GW r->∃n,F n c s=GW r
def Mon(F:Nat->cw):Prop:=∀n m,n<=m->Le (F n) (F m)
def OV(h:DZ f F)(n:Nat)(aw:List AV)(r:AV)(hr:bS P L f n aw=GW r):∃k,bS P L (F k) n aw=GW r:=by
 unfold bS at hr ⊢
 cases hL:L.pure n with
 | some sp=>exact⟨0,by simpa only[hL] using hr⟩
 | none=>
  simp only[hL] at hr ⊢
  cases hP:P n with
  | none=>simp[hP] at hr
  | some G=>
   simp only[hP] at hr ⊢
   cases hf:f G.body ⟨gi 0 aw,[],0,0⟩ with
   | none=>simp[hf] at hr
   | some q=>
    have⟨k,hk⟩:=h _ _ _ hf
    grind
def T9(h:DZ f F)(hp:Hp)(ct:Nat)(n:Nat)(aw:List AV)(r:AV×Hp×Nat)(hr:jz P L f hp ct n aw=GW r):∃k,jz P L (F k) hp ct n aw=GW r:=by
 unfold jz at hr ⊢
 cases hL:L.heap n with
 | some sp=>exact⟨0,by simpa only[hL] using hr⟩
 | none=>
  simp only[hL] at hr ⊢
  cases hP:P n with
  | none=>simp[hP] at hr
  | some G=>
   simp only[hP] at hr ⊢
   cases hf:f G.body ⟨gi 0 aw,hp,ct,ct⟩ with
   | none=>simp[hf] at hr
   | some q=>
    have⟨k,hk⟩:=h _ _ _ hf
    grind
def aaQ(h:DZ f F)(hm:Mon F)(hp:Hp)(ct:Nat)(l:Nat)(xs:List AV)(r:AV×Hp×Nat)(hr:pJ f hp ct l xs=GW r):∃k,pJ (F k) hp ct l xs=GW r:=by
 have key:∃k,∀g,Le (F k) g->pJ g hp ct l xs=GW r:=by
  unfold pJ at hr
  cases hl:ax hp l with
  | none=>simp[hl] at hr
  | some o=>
   split at hr
   .rename_i tm ps cM body pe qJ
    cases hb:Aj tm ps xs with
    | none=>simp[hb] at hr
    | some cB=>
     simp only[hb] at hr
     cases h1:f cM ⟨cB,hp,ct,ct⟩ with
     | none=>simp[h1] at hr
     | some q=>
      have⟨k1,oT⟩:=h _ _ _ h1
      split at hr
      .rename_i s1 ayS
       split at hr
       .rename_i kZ Gi DJ Ft Ca ayT
        cases h2:f body ⟨s1.tm,aY s1.hp l (.lp kZ Gi DJ Ft 1 Ca),s1.ct,s1.ct⟩ with
        | none=>simp[h2] at hr
        | some q2=>
         have⟨k2,zJ⟩:=h _ _ _ h2;refine⟨max k1 k2,fun g hg=>?_⟩;have e1:=hg _ _ _ (hm k1 _ (uD k1 k2) _ _ _ oT);have e2:=hg _ _ _ (hm k2 _ (uv k1 k2) _ _ _ zJ);unfold pJ
         grind
       .simp at hr
      .simp at hr
   .simp at hr
 have⟨k,hk⟩:=key;exact⟨k,hk _ (fun _ _ _ h=>h)⟩
def abk(h:DZ f F)(hm:Mon F)(hp:Hp)(ct:Nat)(m:Md)(fv:AV)(xs:List AV)(r:AV×Hp×Nat)(hr:fj P L f hp ct m fv xs=GW r):∃k,fj P L (F k) hp ct m fv xs=GW r:=by
 unfold fj at hr ⊢
 split at hr
 .rename_i n first cap
  cases m with
  | pure=>
   cases hz:cg deep hp (first++(xs++cap)) with
   | none=>simp[hz] at hr
   | some q=>
    simp only[hz] at hr ⊢
    cases hc:bS P L f n q.1 with
    | none=>simp[hc] at hr
    | some u=>
     have⟨k,hk⟩:=OV h n q.1 u hc
     grind
  | own=>
   cases hz:cg deep hp (first++(xs++cap)) with
   | none=>simp[hz] at hr
   | some q=>
    simp only[hz] at hr ⊢
    cases hc:bS P L f n q.1 with
    | none=>simp[hc] at hr
    | some u=>
     have⟨k,hk⟩:=OV h n q.1 u hc
     grind
  | heap=>exact T9 h _ _ _ _ _ hr
  | dyn=>
   cases hz:aE (first++(xs++cap)) with
   | true=>
    simp only[hz,yC] at hr ⊢
    cases hc:bS P L f n (first++(xs++cap)) with
    | none=>simp[hc] at hr
    | some u=>
     have⟨k,hk⟩:=OV h n _ u hc
     grind
   | false=>
    simp only[hz,yX] at hr ⊢;exact T9 h _ _ _ _ _ hr
 .split at hr
  .exact aaQ h hm _ _ _ _ _ hr
  .exact aaQ h hm _ _ _ _ _ hr
  .simp at hr
 .simp at hr
def aoG(h:DZ f F)(hm:Mon F)(tm:Env)(hp:Hp)(ct:Nat)(o:Op)(r:AV×Hp×Nat)(hr:aZ P L f tm hp ct o=GW r):∃k,aZ P L (F k) tm hp ct o=GW r:=by
 unfold aZ at hr ⊢
 split at hr
 .exact abk h hm _ _ _ _ _ _ hr
 .rename_i rs fv xs
  cases hc:fj P L f hp ct .dyn (az tm fv) (dL tm xs) with
  | none=>simp[hc] at hr
  | some q=>
   have⟨k,hk⟩:=abk h hm _ _ _ _ _ _ hc
   grind
 all_goals exact⟨0,by simpa only using hr⟩
def Ut(h:DZ f F)(hm:Mon F):∀(ops:List aS) (s s':St),dt P L f ops s=GW s'->∃k,dt P L (F k) ops s=GW s'
 | [],s,s',hr=>⟨0,by simpa only[dt] using hr⟩
 | ⟨d,gd,o⟩::r,s,s',hr=>by
  simp only[dt] at hr ⊢
  split at hr
  .rename_i hw
   cases ho:aZ P L f s.tm s.hp s.ct o with
   | none=>simp[ho] at hr
   | some q=>
    have⟨k1,oT⟩:=aoG h hm _ _ _ _ _ ho;simp only[ho] at hr;have⟨k2,zJ⟩:=Ut h hm r _ _ hr;refine⟨max k1 k2,?_⟩;rw[abX (hm k1 _ (uD k1 k2)) _ _ _ _ _ oT];exact O7 (hm k2 _ (uv k1 k2)) r _ _ zJ
  .rename_i hw;exact Ut h hm r _ _ hr
  .simp at hr
def Ey(h:DZ f F)(hm:Mon F):∀(c:VC) (s:St) (r:Ex×St),bI P L f c s=GW r->∃k,bI P L (F k) c s=GW r
 | .skip,s,r,hr=>⟨0,by simpa only[bI] using hr⟩
 | .oR ops,s,r,hr=>by
  simp only[bI] at hr ⊢
  cases ho:dt P L f ops s with
  | none=>simp[ho] at hr
  | some s'=>
   have⟨k,hk⟩:=Ut h hm _ _ _ ho
   grind
 | .seq a b,s,r,hr=>by
  simp only[bI] at hr ⊢
  cases ha:bI P L f a s with
  | none=>simp[ha] at hr
  | some q=>
   have⟨k1,oT⟩:=Ey h hm a s q ha;have⟨ex,s1⟩:=q
   cases ex with
   | normal=>
    simp only[ha] at hr;have⟨k2,zJ⟩:=Ey h hm b s1 r hr;refine⟨max k1 k2,?_⟩;rw[zb (hm k1 _ (uD k1 k2)) a s _ oT];exact zb (hm k2 _ (uv k1 k2)) b s1 r zJ
   | ret=>exact⟨k1,by rw[oT];simpa only[ha] using hr⟩
   | exit id=>exact⟨k1,by rw[oT];simpa only[ha] using hr⟩
 | .cond x a b,s,r,hr=>by
  simp only[bI] at hr ⊢
  split at hr
  .rename_i t ht
   cases t with
   | true=>simp only[yC] at hr ⊢;exact Ey h hm a s r hr
   | false=>simp only[yX] at hr ⊢;exact Ey h hm b s r hr
  .simp at hr
 | .ef id a,s,r,hr=>by
  simp only[bI] at hr ⊢
  cases ha:bI P L f a s with
  | none=>simp[ha] at hr
  | some q=>
   have⟨k,hk⟩:=Ey h hm a s q ha
   grind
 | .kp live,s,r,hr=>⟨0,by simpa only[bI] using hr⟩
 | .fz ts,s,r,hr=>⟨0,by simpa only[bI] using hr⟩
 | .loop live a,s,r,hr=>by
  simp only[bI] at hr ⊢
  cases ha:bI P L f a (bq live s) with
  | none=>simp[ha] at hr
  | some q=>
   have⟨k1,oT⟩:=Ey h hm a _ q ha;have⟨ex,s1⟩:=q
   cases ex with
   | normal=>
    simp only[ha] at hr;have⟨k2,zJ⟩:=h _ _ _ hr;refine⟨max k1 k2,?_⟩;rw[zb (hm k1 _ (uD k1 k2)) a _ _ oT];exact hm k2 _ (uv k1 k2) _ _ _ zJ
   | ret=>exact⟨k1,by rw[oT];simpa only[ha] using hr⟩
   | exit id=>exact⟨k1,by rw[oT];simpa only[ha] using hr⟩
 | .rf fv ps cM body,s,r,hr=>by
  simp only[bI] at hr ⊢
  split at hr
  .rename_i n first cap hx
   split at hr
   .grind
   .rename_i hL
    cases hc:jz P L f ((s.ct,.lp s.tm ps cM body 0 .none)::s.hp) (s.ct+1) n (first++(.fn (.y s.ct) [] []::cap)) with
    | none=>simp[hc] at hr
    | some q=>
     have⟨k,hk⟩:=T9 h _ _ _ _ _ hc
     grind
  .simp at hr
 | .exit id,s,r,hr=>⟨0,by simpa only[bI] using hr⟩
 | .ret,s,r,hr=>⟨0,by simpa only[bI] using hr⟩
end
section
variable (P:aG)(L:Lib)
noncomputable def D:cw:=fun c s=>@dite _ (∃r n,ev P L n c s=GW r) (Classical.propDecidable _) (fun h=>GW h.choose) (fun _=>GX)
variable {P L}
def agQ{c:VC}{s:St}{r:Ex×St}{n:Nat}(h:ev P L n c s=GW r):D P L c s=GW r:=by
 have hx:∃r n,ev P L n c s=GW r:=⟨r,n,h⟩;unfold D;have⟨m,hm⟩:=hx.choose_spec;have e1:=Vi P L (uD n m) _ _ _ h;have e2:=Vi P L (uv n m) _ _ _ hm
 grind
def Xh{c:VC}{s:St}{r:Ex×St}(h:D P L c s=GW r):∃n,ev P L n c s=GW r:=by
 unfold D at h;by_cases hx:∃r n,ev P L n c s=GW r
 .grind
 .grind
def ay6(n:Nat):Le (ev P L n) (D P L):=fun _ _ _ h=>agQ h
def afP:DZ (D P L) (ev P L):=fun _ _ _ h=>Xh h
def atE:Mon (ev P L):=fun _ _ h=>Vi P L h
def nd(c:VC)(s:St):D P L c s=bI P L (D P L) c s:=by
 cases h:D P L c s with
 | some r=>
  have⟨n,hn⟩:=Xh h
  cases n with
  | zero=>rw[KY] at hn;cases hn
  | succ n=>rw[P1] at hn;exact (zb (ay6 n) c s r hn).symm
 | none=>
  cases hs:bI P L (D P L) c s with
  | none=>rfl
  | some r=>
   have⟨n,hn⟩:=Ey afP atE c s r hs;rw[<-P1] at hn;rw[agQ hn] at h;cases h
def aev{f:Nat}{aw:List AV}{r:AV}(h:bS P L (D P L) f aw=GW r):∃n,Yt P L n f aw=GW r:=OV afP f aw r h
end
section
open Go (IntKind BinOp UnOp)
structure Has(P:aG)(L:Lib)(n:Nat)(F:aA):Prop where
 pure:L.pure n=GX
 heap:L.heap n=GX
 code:P n=GW F
noncomputable def rN(P:aG)(L:Lib)(r:Option (Ex×St))(b:VC):Option (Ex×St):=match r with | some (.normal,s)=>D P L b s | r=>r
def BF(id:Nat)(r:Option (Ex×St)):Option (Ex×St):=match r with | some (.exit j,s)=>bif yp j id then GW (.normal,s) else GW (.exit j,s) | r=>r
noncomputable def MA(P:aG)(L:Lib)(live:List Nat)(a:VC)(r:Option (Ex×St)):Option (Ex×St):=match r with | some (.normal,s)=>D P L (.loop live a) s | r=>r
def norm(r:Option St):Option (Ex×St):=match r with | some s=>GW (.normal,s) | none=>GX
noncomputable def QM(P:aG)(L:Lib)(v:AV)(a b:VC)(s:St):Option (Ex×St):=match v with | .bool t=>bif t then D P L a s else D P L b s | _=>GX
def atF(s:St):D P L .skip s=GW (.normal,s):=by rw[nd];rfl
def atG(id:Nat)(s:St):D P L (.exit id) s=GW (.exit id,s):=by rw[nd];rfl
def axr(s:St):D P L .ret s=GW (.ret,s):=by rw[nd];rfl
def agR(live:List Nat)(s:St):D P L (.kp live) s=GW (.normal,bq live s):=by rw[nd];rfl
def ay7(ts:List Nat)(s:St):D P L (.fz ts) s=norm (rK ts s):=by rw[nd];rfl
def axs(ops:List aS)(s:St):D P L (.oR ops) s=norm (dt P L (D P L) ops s):=by rw[nd];rfl
def nS(a b:VC)(s:St):D P L (.seq a b) s=rN P L (D P L a s) b:=by
 rw[nd,nd a];simp only[bI,rN]
 cases bI P L (D P L) a s with
 | none=>rfl
 | some q=>
  have⟨e,s1⟩:=q
  cases e with
  | normal=>exact (nd b s1).symm
  | ret=>rfl
  | exit id=>rfl
def atH(x:X)(a b:VC)(s:St):D P L (.cond x a b) s=QM P L (az s.tm x) a b s:=by
 rw[nd];simp only[bI,QM]
 cases az s.tm x with
 | bool t=>
  cases t with
  | true=>exact (nd a s).symm
  | false=>exact (nd b s).symm
 | _=>rfl
def axt(id:Nat)(a:VC)(s:St):D P L (.ef id a) s=BF id (D P L a s):=by
 rw[nd,nd a];simp only[bI,BF]
 cases bI P L (D P L) a s with
 | none=>rfl
 | some q=>have⟨e,s1⟩:=q;cases e<;>rfl
def Qm(live:List Nat)(a:VC)(s:St):D P L (.loop live a) s=MA P L live a (D P L a (bq live s)):=by
 rw[nd,nd a];simp only[bI,MA]
 cases bI P L (D P L) a (bq live s) with
 | none=>rfl
 | some q=>have⟨e,s1⟩:=q;cases e<;>rfl
def iS(s:St)(b:VC):rN P L (GW (.normal,s)) b=D P L b s:=rfl
def aqH(s:St)(b:VC):rN P L (GW (.ret,s)) b=GW (.ret,s):=rfl
def aqI(id:Nat)(s:St)(b:VC):rN P L (GW (.exit id,s)) b=GW (.exit id,s):=rfl
def ad4(live:List Nat)(a:VC)(s:St):MA P L live a (GW (.normal,s))=D P L (.loop live a) s:=rfl
def aqJ(live:List Nat)(a:VC)(s:St):MA P L live a (GW (.ret,s))=GW (.ret,s):=rfl
def aqK(live:List Nat)(a:VC)(id:Nat)(s:St):MA P L live a (GW (.exit id,s))=GW (.exit id,s):=rfl
def aqL(id:Nat)(s:St):BF id (GW (.normal,s))=GW (.normal,s):=rfl
def aqM(id:Nat)(s:St):BF id (GW (.ret,s))=GW (.ret,s):=rfl
def ad5(id:Nat)(s:St):BF id (GW (.exit id,s))=GW (.normal,s):=by simp only[BF,wO,yC]
def aqN{id j:Nat}(s:St)(h:j≠id):BF id (GW (.exit j,s))=GW (.exit j,s):=by
 have:yp j id=ycO:=by
  cases hq:yp j id with
  | false=>rfl
  | true=>exact absurd (yh hq) h
 simp only[BF,this,yX]
def atI(s:St):norm (GW s)=GW (.normal,s):=rfl
def atJ:norm GX=GX:=rfl
def aqO(a b:VC)(s:St):QM P L (.bool ycN) a b s=D P L a s:=rfl
def aqP(a b:VC)(s:St):QM P L (.bool ycO) a b s=D P L b s:=rfl
noncomputable def Wr(P:aG)(L:Lib)(d:Option Nat)(r:List aS)(tm:Env)(base:Nat)(q:gL):Option St:=
 match q with | some (v,hp,ct)=>dt P L (D P L) r ⟨put d v tm,hp,ct,base⟩ | none=>GX
noncomputable def E4(P:aG)(L:Lib)(v:AV)(b:Bool)(d:Option Nat)(o:Op)(r:List aS)(s:St):Option St:=
 match v with
 | .bool c=>bif c==b then dt P L (D P L) (⟨d,GX,o⟩::r) s else dt P L (D P L) r ⟨put d (.av []) s.tm,s.hp,s.ct,s.base⟩
 | .av []=>dt P L (D P L) r ⟨put d (.av []) s.tm,s.hp,s.ct,s.base⟩
 | _=>GX
def aqQ(s:St):dt P L (D P L) [] s=GW s:=rfl
def aoH(d:Option Nat)(o:Op)(r:List aS)(tm:Env)(hp:Hp)(ct base:Nat):
  dt P L (D P L) (⟨d,GX,o⟩::r) ⟨tm,hp,ct,base⟩=Wr P L d r tm base (aZ P L (D P L) tm hp ct o):=by
 simp only[dt,Wr]
 grind
def amK(d:Option Nat)(t:Nat)(b:Bool)(o:Op)(r:List aS)(tm:Env)(hp:Hp)(ct base:Nat):
  dt P L (D P L) (⟨d,GW (t,b),o⟩::r) ⟨tm,hp,ct,base⟩=E4 P L (ai tm t) b d o r ⟨tm,hp,ct,base⟩:=by
 simp only[dt,E4]
 cases ai tm t with
 | bool c=>
  simp only
  cases hc:(c==b) with
  | true=>simp only[yC]
  | false=>simp only[yX]
 | av vs=>cases vs<;>rfl
 | _=>rfl
def aqR(d:Option Nat)(r:List aS)(tm:Env)(base:Nat)(v:AV)(hp:Hp)(ct:Nat):Wr P L d r tm base (GW (v,hp,ct))=dt P L (D P L) r ⟨put d v tm,hp,ct,base⟩:=rfl
def axu(i:Nat)(v:AV)(tm:Env):put (GW i) v tm=(i,v)::tm:=rfl
def axv(v:AV)(tm:Env):put GX v tm=tm:=rfl
def aoI(d:Option Nat)(o:Op)(r:List aS)(s:St):E4 P L (.bool ycN) ycN d o r s=dt P L (D P L) (⟨d,GX,o⟩::r) s:=rfl
def aoJ(d:Option Nat)(o:Op)(r:List aS)(s:St):E4 P L (.bool ycO) ycO d o r s=dt P L (D P L) (⟨d,GX,o⟩::r) s:=rfl
def aoK(d:Option Nat)(o:Op)(r:List aS)(tm:Env)(hp:Hp)(ct base:Nat):E4 P L (.bool ycN) ycO d o r ⟨tm,hp,ct,base⟩=dt P L (D P L) r ⟨put d (.av []) tm,hp,ct,base⟩:=rfl
def aoL(d:Option Nat)(o:Op)(r:List aS)(tm:Env)(hp:Hp)(ct base:Nat):E4 P L (.bool ycO) ycN d o r ⟨tm,hp,ct,base⟩=dt P L (D P L) r ⟨put d (.av []) tm,hp,ct,base⟩:=rfl
def aqS(b:Bool)(d:Option Nat)(o:Op)(r:List aS)(tm:Env)(hp:Hp)(ct base:Nat):E4 P L (.av []) b d o r ⟨tm,hp,ct,base⟩=dt P L (D P L) r ⟨put d (.av []) tm,hp,ct,base⟩:=rfl
def iG{j i:Nat}(h:j≠i):yp j i=ycO:=by
 cases hq:yp j i with
 | false=>rfl
 | true=>exact absurd (yh hq) h
def atK(tm:Env)(i:Nat):az tm (.t i)=ai tm i:=rfl
def atL(tm:Env)(v:AV):az tm (.c v)=v:=rfl
def amL(tm:Env):dL tm []=[]:=rfl
def aly(tm:Env)(x:X)(r:List X):dL tm (x::r)=az tm x::dL tm r:=rfl
def aoM(i:Nat)(v:AV)(r:Env):ai ((i,v)::r) i=v:=by simp only[ai,wO,yC]
def amM{j i:Nat}(v:AV)(r:Env)(h:j≠i):ai ((j,v)::r) i=ai r i:=by simp only[ai,iG h,yX]
def CO(i:Nat)(o:Obj)(r:Hp):ax ((i,o)::r) i=GW o:=by simp only[ax,wO,yC]
def ab6{j i:Nat}(o:Obj)(r:Hp)(h:j≠i):ax ((j,o)::r) i=ax r i:=by simp only[ax,iG h,yX]
def aoN(i:Nat)(o u:Obj)(r:Hp):aY ((i,o)::r) i u=(i,u)::r:=by simp only[aY,wO,yC]
def amN{j i:Nat}(o u:Obj)(r:Hp)(h:j≠i):aY ((j,o)::r) i u=(j,o)::aY r i u:=by simp only[aY,iG h,yX]
def aoO(i:Nat):dV [] i=[]:=rfl
def aoP(i:Nat)(o:Obj)(r:Hp):dV ((i,o)::r) i=dV r i:=by simp only[dV,wO,yC]
def amO{j i:Nat}(o:Obj)(r:Hp)(h:j≠i):dV ((j,o)::r) i=(j,o)::dV r i:=by simp only[dV,iG h,yX]
def rd(hp:Hp)(ct:Nat)(q:Option AV):gL:=match q with | some v=>GW (v,hp,ct) | none=>GX
def mk(hp:Hp)(ct:Nat)(q:Option (AV×Obj)):gL:=match q with | some (v,b)=>GW (v,(ct,b)::hp,ct+1) | none=>GX
def ay8(hp:Hp)(ct:Nat)(v:AV):rd hp ct (GW v)=GW (v,hp,ct):=rfl
def ay9(hp:Hp)(ct:Nat)(v:AV)(b:Obj):mk hp ct (GW (v,b))=GW (v,(ct,b)::hp,ct+1):=rfl
def Ws(c a b:AV):Option AV:=match c with | .bool t=>GW (bif t then a else b) | _=>GX
def Ol(k:Nat->Option AV)(n:Option Nat):Option AV:=match n with | some i=>k i | none=>GX
def afQ(r:Option (List AV)):Option AV:=match r with | some cs=>GW (.agg cs) | none=>GX
def IJ(ne:Bool)(r:Option Bool):Option AV:=match r with | some b=>GW (.bool (ne !=b)) | none=>GX
def aza:AV->Option AV
 | .ptr id o=>GW (.ptr id o)
 | .bN cs=>GW (.bN cs)
 | .fn f a b=>GW (.fn f a b)
 | _=>GX
def Nk(i:Nat):AV->Option AV | .av vs=>vs[i]? | _=>GX
section
variable {f:cw}{tm:Env}{hp:Hp}{ct:Nat}
def atM(x:X):aZ P L f tm hp ct (.sr x)=GW (az tm x,hp,ct):=rfl
def aqT(c a b:X):aZ P L f tm hp ct (.pick c a b)=rd hp ct (Ws (az tm c) (az tm a) (az tm b)):=by
 rfl
def aoQ(z:List AV)(ps:List (Nat×Nat×X)):aZ P L f tm hp ct (.Fk z ps)=rd hp ct (afQ (fill tm z ps)):=by
 rfl
def axw(sz:Nat)(ag:Bool)(x:X):aZ P L f tm hp ct (.ld sz ag x)=rd hp ct (fY hp sz ag (az tm x)):=rfl
def aqU(x:X):aZ P L f tm hp ct (.MK x)=rd hp ct (aza (az tm x)):=by
 rfl
def atN(op:BinOp)(x y:X):aZ P L f tm hp ct (.bin op x y)=rd hp ct (binOp op (az tm x) (az tm y)):=rfl
def axx(ne:Bool)(k:SB)(x y:X):aZ P L f tm hp ct (.eq ne k x y)=rd hp ct (IJ ne (jK k (az tm x) (az tm y))):=by
 rfl
def axy(op:UnOp)(x:X):aZ P L f tm hp ct (.un op x)=rd hp ct (unOp op (az tm x)):=rfl
def axz(k:Conv)(x:X):aZ P L f tm hp ct (.cv k x)=rd hp ct (kC k (az tm x)):=rfl
def atO(g:Fr)(a b:List X):aZ P L f tm hp ct (.IY g a b)=GW (.fn g (dL tm a) (dL tm b),hp,ct):=rfl
def atP(k:Cut)(x:X)(lo hi:Option X):aZ P L f tm hp ct (.sA k x lo hi)=rd hp ct (fN hp k (az tm x) tm lo hi):=rfl
def atQ(k:Nat)(x:X):aZ P L f tm hp ct (.off k x)=rd hp ct (Mi k (az tm x)):=rfl
def atS(o sz:Nat)(ag:Bool)(x:X):aZ P L f tm hp ct (.NM o sz ag x)=rd hp ct (QA o sz ag (az tm x)):=rfl
def atT(sz:Nat)(x i:X):aZ P L f tm hp ct (.a6 sz x i)=rd hp ct (Ol (fun j=>fc sz j (az tm x)) (dR (az tm i))):=by
 rfl
def atU(n sz:Nat)(x i:X):aZ P L f tm hp ct (.IZ n sz x i)=rd hp ct (Ol (fun j=>Fp n sz j (az tm x)) (dR (az tm i))):=by
 rfl
def atV(x i:X):aZ P L f tm hp ct (.I0 x i)=rd hp ct (Ol (fun j=>oJ j (az tm x)) (dR (az tm i))):=by
 rfl
def atW(n sz:Nat)(ag:Bool)(x i:X):aZ P L f tm hp ct (.I1 n sz ag x i)=rd hp ct (Ol (fun j=>Mj n sz ag j (az tm x)) (dR (az tm i))):=by
 rfl
def atX(i:Nat)(x:X):aZ P L f tm hp ct (.ext i x)=rd hp ct (Nk i (az tm x)):=by
 rfl
def atY(k:Nat)(x:X):aZ P L f tm hp ct (.len k x)=rd hp ct (iW hp k (az tm x)):=rfl
def atZ(sz:Nat)(x:X):aZ P L f tm hp ct (.box sz x)=mk hp ct (cP tm hp ct (.box sz x)):=rfl
def aqV(n sz:Nat)(z:List AV)(ps:List (Nat×Nat×X)):aZ P L f tm hp ct (.jI n sz z ps)=mk hp ct (cP tm hp ct (.jI n sz z ps)):=rfl
def at0(sz bX:Nat)(z:List AV)(l c:X):aZ P L f tm hp ct (.qt sz bX z l c)=mk hp ct (cP tm hp ct (.qt sz bX z l c)):=rfl
def at1:aZ P L f tm hp ct .B9=GW (.map ct,(ct,.mp ycN [] [])::hp,ct+1):=rfl
def at2(x:X):aZ P L f tm hp ct (.sC x)=mk hp ct (cP tm hp ct (.sC x)):=rfl
def axA(sz:Nat)(x v:X):aZ P L f tm hp ct (.st sz x v)=cz tm hp ct (.st sz x v):=rfl
def at3(sz bX:Nat)(s x:X):aZ P L f tm hp ct (.c9 sz bX s x)=cz tm hp ct (.c9 sz bX s x):=rfl
def QN(hp:Hp)(ct:Nat)(r:Option AV):gL:=match r with | some v=>GW (shut v,hp,ct) | none=>GX
def R7(hp:Hp)(ct:Nat)(r:Option AV):gL:=match r with | some v=>GW (own hp ct v) | none=>GX
def Wt(P:aG)(L:Lib)(f:cw)(ct n:Nat)(q:Option (List AV×Hp)):gL:=match q with | some (aw,hp)=>QN hp ct (bS P L f n aw) | none=>GX
def Wu(P:aG)(L:Lib)(f:cw)(ct n:Nat)(q:Option (List AV×Hp)):gL:=match q with | some (aw,hp)=>R7 hp ct (bS P L f n aw) | none=>GX
def Wv(P:aG)(L:Lib)(f:cw)(hp:Hp)(ct:Nat)(fv:AV)(xs:List AV):gL:=fj P L f hp ct .pure fv xs
def Ww(P:aG)(L:Lib)(f:cw)(hp:Hp)(ct:Nat)(fv:AV)(xs:List AV):gL:=fj P L f hp ct .own fv xs
def aoR(g:X)(xs:List X):aZ P L f tm hp ct (.call .pure g xs)=Wv P L f hp ct (az tm g) (dL tm xs):=rfl
def aoS(g:X)(xs:List X):aZ P L f tm hp ct (.call .own g xs)=Ww P L f hp ct (az tm g) (dL tm xs):=rfl
def aoT(g:X)(xs:List X):aZ P L f tm hp ct (.call .heap g xs)=fj P L f hp ct .heap (az tm g) (dL tm xs):=rfl
def aqW(n:Nat)(first cap xs:List AV):Wv P L f hp ct (.fn (.f n) first cap) xs=Wt P L f ct n (cg deep hp (first++(xs++cap))):=by
 simp only[Wv,fj,Wt,QN]
 cases cg deep hp (first++(xs++cap)) with
 | none=>rfl
 | some q=>cases bS P L f n q.1<;>rfl
def aqX(n:Nat)(first cap xs:List AV):Ww P L f hp ct (.fn (.f n) first cap) xs=Wu P L f ct n (cg deep hp (first++(xs++cap))):=by
 simp only[Ww,fj,Wu,R7]
 cases cg deep hp (first++(xs++cap)) with
 | none=>rfl
 | some q=>cases bS P L f n q.1<;>rfl
def aqY(n:Nat)(aw:List AV):Wt P L f ct n (GW (aw,hp))=QN hp ct (bS P L f n aw):=rfl
def aqZ(n:Nat)(aw:List AV):Wu P L f ct n (GW (aw,hp))=R7 hp ct (bS P L f n aw):=rfl
def aq0(v:AV):QN hp ct (GW v)=GW (shut v,hp,ct):=rfl
def at4(v:AV):R7 hp ct (GW v)=GW (own hp ct v):=rfl
def R8(hp:Hp)(r:Option AV):Option AV:=match r with | some v=>result hp v | none=>GX
def gK(rs:List RV)(q:Option (Ex×St)):Option AV:=
 match q with
 | some (.normal,s) | some (.ret,s)=>R8 s.hp (jw s rs)
 | _=>GX
def aF{n:Nat}{F:aA}(h:Has P L n F)(aw:List AV):bS P L f n aw=gK F.eG (f F.body ⟨gi 0 aw,[],0,0⟩):=by
 simp only[bS,h.pure,h.code]
 cases hq:f F.body ⟨gi 0 aw,[],0,0⟩ with
 | none=>rfl
 | some q=>
  have⟨e,s⟩:=q
  cases e with
  | normal=>rfl
  | ret=>rfl
  | exit id=>rfl
def at5(rs:List RV)(s:St):gK rs (GW (.normal,s))=R8 s.hp (jw s rs):=rfl
def at6(rs:List RV)(s:St):gK rs (GW (.ret,s))=R8 s.hp (jw s rs):=rfl
def at7(v:AV):R8 hp (GW v)=result hp v:=rfl
def Xi(r:RV)(s:St):jw s [r]=results1 s r:=by
 simp only[jw,mH];cases results1 s r<;>rfl
def agS(r:Option (List AV)):Option AV:=match r with | some vs=>GW (.av vs) | none=>GX
def azb(r q:RV)(l:List RV)(s:St):jw s (r::q::l)=agS (mH s (r::q::l)):=by
 simp only[jw,mH];cases results1 s r<;>cases results1 s q<;>cases mH s l<;>rfl
def afR(r:Option AV)(l:Option (List AV)):Option (List AV):=match r,l with | some v,GW vs=>GW (v::vs) | _,_=>GX
def aoU(s:St):mH s []=GW []:=rfl
def amP(r:RV)(l:List RV)(s:St):mH s (r::l)=afR (results1 s r) (mH s l):=rfl
def aq1(v:AV)(vs:List AV):afR (GW v) (GW vs)=GW (v::vs):=rfl
def aua(vs:List AV):agS (GW vs)=GW (.av vs):=rfl
def Wx(i:Nat)(s:St):results1 s (.t i)=GW (ai s.tm i):=rfl
def axB(a:AV):gi 0 [a]=[(0,a)]:=rfl
def axC(a b:AV):gi 0 [a,b]=[(0,a),(1,b)]:=rfl
def axD(a b c:AV):gi 0 [a,b,c]=[(0,a),(1,b),(2,c)]:=rfl
def axE(a b c d:AV):gi 0 [a,b,c,d]=[(0,a),(1,b),(2,c),(3,d)]:=rfl
def axF(a b c d e:AV):gi 0 [a,b,c,d,e]=[(0,a),(1,b),(2,c),(3,d),(4,e)]:=rfl
def alz(k:xj)(n:Int):result hp (.int k n)=GW (.int k n):=rfl
def akZ(b:Bool):result hp (.bool b)=GW (.bool b):=rfl
def alA(s:List Nat):result hp (.str s)=GW (.str s):=rfl
def ak0:result hp .ab=GW .ab:=rfl
def alB(e:Bool)(n:Nat)(cs:List AV):result hp (.ap e n cs)=GW (.ap e n cs):=rfl
def shut_int(k:xj)(n:Int):shut (.int k n)=.int k n:=rfl
def shut_bool(b:Bool):shut (.bool b)=.bool b:=rfl
def aoV(s:List Nat):shut (.str s)=.str s:=rfl
def amQ:shut .ab=.ab:=rfl
def aoW(e:Bool)(n:Nat)(cs:List AV):shut (.ap e n cs)=.ap e n cs:=rfl
def aoX(e:Bool)(sz n:Nat)(cs:List AV):shut (.cL e sz n cs)=.ap e n cs:=rfl
def a8(cs:List AV):shut (.agg cs)=.agg cs:=rfl
def aq2(g:Fr)(a b:List AV):shut (.fn g a b)=.fn g a b:=rfl
def UT(vs:List AV):shut (.av vs)=.av (Fm vs):=rfl
def Uu:Fm []=[]:=rfl
def Ua(v:AV)(r:List AV):Fm (v::r)=bA v::Fm r:=rfl
def amR(k:xj)(n:Int):bA (.int k n)=.int k n:=rfl
def alC(b:Bool):bA (.bool b)=.bool b:=rfl
def amS(s:List Nat):bA (.str s)=.str s:=rfl
def alD:bA .ab=.ab:=rfl
def amT(e:Bool)(n:Nat)(cs:List AV):bA (.ap e n cs)=.ap e n cs:=rfl
def amU(e:Bool)(sz n:Nat)(cs:List AV):bA (.cL e sz n cs)=.ap e n cs:=rfl
def CH(cs:List AV):bA (.agg cs)=.agg cs:=rfl
def Xj(n:Nat)(r:List AV)(q:Option (AV×Hp)):Option (List AV×Hp):=match q with | some (v,hp)=>(match cg n hp r with | some (vs,jP)=>GW (v::vs,jP) | none=>GX) | none=>GX
def agT(v:AV)(q:Option (List AV×Hp)):Option (List AV×Hp):=match q with | some (vs,hp)=>GW (v::vs,hp) | none=>GX
def aoY(n:Nat):cg (n+1) hp []=GW ([],hp):=rfl
def amV(n:Nat)(v:AV)(r:List AV):cg (n+1) hp (v::r)=Xj n r (freeze n hp v):=by
 simp only[cg,Xj];cases freeze n hp v<;>rfl
def aub(n:Nat)(r:List AV)(v:AV):Xj n r (GW (v,hp))=agT v (cg n hp r):=by
 rfl
def auc(v:AV)(vs:List AV):agT v (GW (vs,hp))=GW (v::vs,hp):=rfl
def aq3(n:Nat)(k:xj)(a:Int):freeze (n+1) hp (.int k a)=GW (.int k a,hp):=rfl
def aoZ(n:Nat)(b:Bool):freeze (n+1) hp (.bool b)=GW (.bool b,hp):=rfl
def aq4(n:Nat)(s:List Nat):freeze (n+1) hp (.str s)=GW (.str s,hp):=rfl
def ao0(n:Nat):freeze (n+1) hp .ab=GW (.ab,hp):=rfl
def aq5(n:Nat)(e:Bool)(k:Nat)(cs:List AV):freeze (n+1) hp (.ap e k cs)=GW (.ap e k cs,hp):=rfl
def ao1(n:Nat)(cs:List AV):freeze (n+1) hp (.bN cs)=GW (.bN cs,hp):=rfl
end
section
variable {hp:Hp}
def aud(a b:AV):Ws (.bool ycN) a b=GW a:=rfl
def aue(a b:AV):Ws (.bool ycO) a b=GW b:=rfl
def axG(k:Nat->Option AV)(n:Nat):Ol k (GW n)=k n:=rfl
def alE(k:xj)(n:Nat):dR (.int k (n:Int))=GW n:=rfl
def auf(k:xj):dR (.int k 0)=GW 0:=rfl
def aug(k:xj):dR (.int k 1)=GW 1:=rfl
def auh(k:xj):dR (.int k 2)=GW 2:=rfl
def aui(k:xj):dR (.int k 3)=GW 3:=rfl
def auj(k:xj):dR (.int k 4)=GW 4:=rfl
def auk(k:xj):dR (.int k 5)=GW 5:=rfl
def aul(k:xj):dR (.int k 6)=GW 6:=rfl
def aum(k:xj):dR (.int k 7)=GW 7:=rfl
def aun(k:xj):dR (.int k 8)=GW 8:=rfl
def auo(k:xj):dR (.int k 9)=GW 9:=rfl
def aq6(cs:List AV):afQ (GW cs)=GW (.agg cs):=rfl
def ad6(k:xj)(a b:Int):binOp .add (.int k a) (.int k b)=GW (.int k (k.wrap (a+b))):=by simp[binOp,mO]
def P3(k:xj)(a b:Int):binOp .sub (.int k a) (.int k b)=GW (.int k (k.wrap (a-b))):=by simp[binOp,mO]
def ad7(k:xj)(a b:Int):binOp .mul (.int k a) (.int k b)=GW (.int k (k.wrap (a*b))):=by simp[binOp,mO]
def dl(k:xj)(a b:Int)(h:b≠0):binOp .quo (.int k a) (.int k b)=GW (.int k (k.wrap (a.tdiv b))):=by simp[binOp,mO,h]
def fF(k:xj)(a b:Int)(h:b≠0):binOp .rem (.int k a) (.int k b)=GW (.int k (a.tmod b)):=by simp[binOp,mO,h]
def aq7(k:xj)(a b:Int):binOp .eql (.int k a) (.int k b)=GW (.bool (decide (a=b))):=by
 simp[binOp,mO,intCmp,BEq.beq]
def aq8(k:xj)(a b:Int):binOp .neq (.int k a) (.int k b)=GW (.bool (!decide (a=b))):=by
 simp[binOp,mO,intCmp,bne,BEq.beq]
def aq9(k:xj)(a b:Int):binOp .lss (.int k a) (.int k b)=GW (.bool (decide (a<b))):=by simp[binOp,mO,intCmp]
def ara(k:xj)(a b:Int):binOp .leq (.int k a) (.int k b)=GW (.bool (decide (a<=b))):=by simp[binOp,mO,intCmp]
def arb(k:xj)(a b:Int):binOp .gtr (.int k a) (.int k b)=GW (.bool (decide (b<a))):=by simp[binOp,mO,intCmp]
def arc(k:xj)(a b:Int):binOp .geq (.int k a) (.int k b)=GW (.bool (decide (b<=a))):=by simp[binOp,mO,intCmp]
def aup(k:xj)(a:Int):unOp .neg (.int k a)=GW (.int k (k.wrap (0-a))):=rfl
def auq(b:Bool):unOp .not (.bool b)=GW (.bool !b):=rfl
def ao2:iW hp 1 .ab=GW (.int .i64 0):=rfl
def ard(e:Bool)(n:Nat)(cs:List AV):iW hp 1 (.ap e n cs)=GW (.int .i64 n):=rfl
def are(id o n:Nat):iW hp 1 (.aq id o n)=GW (.int .i64 n):=rfl
def arf(s:List Nat):iW hp 0 (.str s)=GW (.int .i64 s.length):=rfl
def K0{sz i n:Nat}(e:Bool)(cs:List AV)(h:i<n):fc sz i (.ap e n cs)=GW (.bN (cs.drop (i*sz))):=by
 have hb:yP i n=ycN:=yB h;simp only[fc]
 grind
def dn{sz i n:Nat}(id o:Nat)(h:i<n):fc sz i (.aq id o n)=GW (.ptr id (o+i*sz)):=by
 have hb:yP i n=ycN:=yB h;simp only[fc]
 grind
def ao3(v:AV)(cs:List AV):fY hp 1 ycO (.bN (v::cs))=GW v:=rfl
def Gw(sz:Nat)(ag:Bool)(o:Nat)(q:Option Obj):Option AV:=match q with | some (.cells _ _ _ _ cs)=>gZ sz ag (cs.drop o) | _=>GX
def aur(sz:Nat)(ag:Bool)(id o:Nat):fY hp sz ag (.ptr id o)=Gw sz ag o (ax hp id):=by
 rfl
def axH(sz:Nat)(ag:Bool)(o:Nat)(rw pu ex:Bool)(z:Nat)(cs:List AV):Gw sz ag o (GW (.cells rw pu ex z cs))=gZ sz ag (cs.drop o):=rfl
def axI(sz:Nat)(v:AV)(cs:List AV):gZ sz ycO (v::cs)=GW v:=rfl
def azc(a:AV)(l:List AV):Nk 0 (.av (a::l))=GW a:=rfl
def ext1(a b:AV)(l:List AV):Nk 1 (.av (a::b::l))=GW b:=rfl
def azd(a b c:AV)(l:List AV):Nk 2 (.av (a::b::c::l))=GW c:=rfl
def aze(a b c d:AV)(l:List AV):Nk 3 (.av (a::b::c::d::l))=GW d:=rfl
end
def BG:Env->Bool
 | []=>ycN
 | (_,v)::r=>aQ v&&BG r
mutual
def mG:∀{v:AV},aQ v=ycN->refs v=[]
 | .int _ _,_ | .bool _,_ | .ay _ _,_ | .bT _ _ _,_ | .str _,_ | .mT,_ | .bN _,_ | .ab,_ | .ap _ _ _,_ | .jH,_ | .lK,_ | .lL _ _,_ | .undef,_=>rfl
 | .ptr _ _,h | .aq _ _ _,h | .map _,h | .it _,h | .cL _ _ _ _,h=>by simp[aQ] at h
 | .fn (.y _) _ _,h=>by simp[aQ] at h
 | .fn (.f _) first cap,h=>by
  simp only[aQ,ye] at h;simp only[refs,Kz h.1,Kz h.2,wz]
 | .agg cs,h=>by simp only[aQ] at h;simp only[refs,Kz h]
 | .av cs,h=>by simp only[aQ] at h;simp only[refs,Kz h]
def Kz:∀{vs:List AV},aE vs=ycN->kz vs=[]
 | [],_=>rfl
 | v::r,h=>by
  simp only[aE,ye] at h;simp only[kz,mG h.1,Kz h.2,wz]
end
mutual
def UU(f:Nat->Option Nat):∀{v:AV},aQ v=ycN->b9 f v=v
 | .int _ _,_ | .bool _,_ | .ay _ _,_ | .bT _ _ _,_ | .str _,_ | .mT,_ | .bN _,_ | .ab,_ | .ap _ _ _,_ | .jH,_ | .lK,_ | .lL _ _,_ | .undef,_=>rfl
 | .ptr _ _,h | .aq _ _ _,h | .map _,h | .it _,h | .cL _ _ _ _,h=>by simp[aQ] at h
 | .fn (.y _) _ _,h=>by simp[aQ] at h
 | .fn (.f _) first cap,h=>by
  simp only[aQ,ye] at h;simp only[b9,KG f h.1,KG f h.2]
 | .agg cs,h=>by simp only[aQ] at h;simp only[b9,KG f h]
 | .av cs,h=>by simp only[aQ] at h;simp only[b9,KG f h]
def KG(f:Nat->Option Nat):∀{vs:List AV},aE vs=ycN->gn f vs=vs
 | [],_=>rfl
 | v::r,h=>by
  simp only[aE,ye] at h;simp only[gn,UU f h.1,KG f h.2]
end
def abl:∀{tm:Env},BG tm=ycN->kA tm=[]
 | [],_=>rfl
 | (i,v)::r,h=>by
  simp only[BG,ye] at h;simp only[kA,mG h.1,abl h.2,wz]
def ab7(f:Nat->Option Nat):∀{tm:Env},BG tm=ycN->mq f tm=tm
 | [],_=>rfl
 | (i,v)::r,h=>by
  simp only[BG,ye] at h;simp only[mq,UU f h.1,ab7 f h.2]
def akz{live:List Nat}{tm:Env}{ct:Nat}(h:BG (cu tm live)=ycN):bq live ⟨tm,[],ct,0⟩=⟨cu tm live,[],0,0⟩:=by
 simp only[bq,abl h,j9,wz];simp only[reach,mi,nQ,ab7 _ h,yN,xd]
def ak1{tm:Env}{ct:Nat}:bq [] ⟨tm,[],ct,0⟩=⟨[],[],0,0⟩:=rfl
def acX{P:aG}{L:Lib}{live:List Nat}{a:VC}(I:Nat->St->Prop)(Q:Ex->St->Prop)(step:∀k s,I k s->(∃s' k',D P L a (bq live s)=GW (.normal,s')/\k'<k/\I k' s')\/(∃ex s',D P L a (bq live s)=GW (ex,s')/\ex≠.normal/\Q ex s')):
  ∀k s,I k s->∃ex s',D P L (.loop live a) s=GW (ex,s')/\Q ex s':=by
 intro k
 induction k using vQ with
 | _ k ih=>
  intro s hI;rw[Qm];rcases step k s hI with ⟨s',k',h1,h2,h3⟩ | ⟨ex,s',h1,h2,h3⟩
  .rw [h1,ad4];exact ih k' h2 s' h3
  .rw [h1]
   cases ex with
   | normal=>exact absurd rfl h2
   | ret=>exact⟨.ret,s',rfl,h3⟩
   | exit id=>exact⟨.exit id,s',rfl,h3⟩
def UW{P:aG}{L:Lib}{live:List Nat}{a:VC}(I:Nat->St->Prop)(Q:Ex->St->Prop)(step:∀k s,I k s->(∃s' k',D P L a s=GW (.normal,s')/\k'<k/\I k' (bq live s'))\/(∃ex s',D P L a s=GW (ex,s')/\ex≠.normal/\Q ex s')):
  ∀k s,I k (bq live s)->∃ex s',D P L (.loop live a) s=GW (ex,s')/\Q ex s':=
 acX (fun k s=>I k (bq live s)) Q (fun k s h=>step k _ h)
def bP(P:aG)(L:Lib)(live:List Nat)(a:VC)(I:Nat->St->Prop)(Q:Ex->St->Prop):Prop:=∀k s,I k (bq live s)->∃ex s',D P L (.loop live a) s=GW (ex,s')/\Q ex s'
def bQ{P:aG}{L:Lib}{live:List Nat}{a:VC}{I:Nat->St->Prop}{Q:Ex->St->Prop}(step:∀k s,I k s->(∃s' k',D P L a s=GW (.normal,s')/\k'<k/\I k' (bq live s'))\/(∃ex s',D P L a s=GW (ex,s')/\ex≠.normal/\Q ex s')):bP P L live a I Q:=UW I Q step
def aus{P:aG}{L:Lib}{live:List Nat}{a:VC}{I:Nat->St->Prop}{Q:Ex->St->Prop}(step:∀k s,I k s->(∃s' k',D P L a s=GW (.normal,s')/\k'<k/\I k' (bq live s'))\/(∃ex s',D P L a s=GW (ex,s')/\ex≠.normal/\Q ex s')):
  ∀k s s0,bq live s=s0->I k s0->∃ex s',D P L (.loop live a) s=GW (ex,s')/\Q ex s':=fun k s s0 h hi=>UW I Q step k s (h▸hi)
def an{v:AV}(h:aQ v=ycN):refs v=[]/\∀f,b9 f v=v:=⟨mG h,fun f=>UU f h⟩
def fk(P:aG)(L:Lib)(live:List Nat)(a:VC)(I:Nat->St->Prop)(Q:Ex->St->Prop)(step:∀k s,I k s->(∃s' k',D P L a s=GW (.normal,s')/\k'<k/\I k' (bq live s'))\/(∃ex s',D P L a s=GW (ex,s')/\ex≠.normal/\Q ex s')):
  ∀k s,I k (bq live s)->∃ex s',D P L (.loop live a) s=GW (ex,s')/\Q ex s':=UW I Q step
def aW{P:aG}{L:Lib}{c:VC}{s:St}{q:Option (Ex×St)}{I:St->Prop}{Q:Ex->St->Prop}(hq:D P L c s=q)(key:∀s,I s->∃ex s',D P L c s=GW (ex,s')/\Q ex s')(hI:I s):
  ∃ex s',q=GW (ex,s')/\Q ex s':=by
 rw[<-hq];exact key s hI
def ao4(tm:Env):cu tm []=[]:=rfl
def amW(tm:Env)(i:Nat)(r:List Nat):cu tm (i::r)=(i,ai tm i)::cu tm r:=rfl
def amX:BG []=ycN:=rfl
def alF(i:Nat)(v:AV)(r:Env):BG ((i,v)::r)=(aQ v&&BG r):=rfl
def VM(k:xj)(n:Int):aQ (.int k n)=ycN:=(rfl)
def arh(b:Bool):aQ (.bool b)=ycN:=(rfl)
def aut(s:List Nat):aQ (.str s)=ycN:=(rfl)
def ari:aQ .ab=ycN:=(rfl)
def auu(e:Bool)(n:Nat)(cs:List AV):aQ (.ap e n cs)=ycN:=(rfl)
def arj(cs:List AV):aQ (.bN cs)=ycN:=(rfl)
def ao5:aQ .undef=ycN:=(rfl)
attribute [go_sem] deep ak1 ao4 amW amX alF VM arh aut ari auu arj ao5 ud wv
attribute [go_sem] atF atG axr agR ay7 axs nS atH axt iS aqH aqI ad4 aqJ aqK aqL aqM ad5 aqN atI atJ aqO aqP
 aqQ aoH amK aqR axu axv aoI aoJ aoK aoL aqS atK atL amL aly aoM amM CO ab6 aoN amN aoO aoP amO
 ay8 ay9 atM aqT aoQ axw aqU atN axx axy axz atO atP atQ atS atT atU atV atW atX atY atZ aqV at0 at1 at2 axA at3 aoR aoS aoT
 aqW aqX aqY aqZ aq0 at4 at5 at6 at7 Xi azb aoU amP aq1 aua Wx axB axC axD axE axF
 alz akZ alA ak0 alB shut_int shut_bool aoV amQ aoW aoX a8 aq2 UT Uu Ua amR alC amS alD amT amU CH
 aoY amV aub auc aq3 aoZ aq4 ao0 aq5 ao1
 aud aue axG alE auf aug auh aui auj auk aul aum aun auo aq6 ad6 P3 ad7 aq7 aq8 aq9 ara arb arc aup auq ao2 ard are arf ao3 aur axH axI azc ext1 azd aze
 xG wz xh yy yA Bool.not_true Bool.not_false ne_eq ycJ
end
section
variable {hp:Hp}{i:Nat}
abbrev aa(n:Int):AV:=.int .i64 n
def b6(v:AV)(cs:List AV):Prop:=(v=.ab/\cs=[])\/∃e,v=.ap e cs.length cs
section
variable {v:AV}{cs:List AV}{hp:Hp}
def b6.len(h:b6 v cs){hp:Hp}:iW hp 1 v=GW (.int .i64 (cs.length:Nat)):=by
 rcases h with ⟨rfl,rfl⟩ | ⟨e,rfl⟩<;>rfl
def b6.pu(h:b6 v cs):aQ v=ycN:=by
 rcases h with ⟨rfl,rfl⟩ | ⟨e,rfl⟩<;>rfl
def b6.ak(h:b6 v cs)(n:Nat){hp:Hp}:freeze (n+1) hp v=GW (v,hp):=by
 rcases h with ⟨rfl,rfl⟩ | ⟨e,rfl⟩<;>rfl
def b6.shut(h:b6 v cs):shut v=v:=by
 rcases h with ⟨rfl,rfl⟩ | ⟨e,rfl⟩<;>rfl
def b6.bA(h:b6 v cs):bA v=v:=by
 rcases h with ⟨rfl,rfl⟩ | ⟨e,rfl⟩<;>rfl
def b6.eG(h:b6 v cs){hp:Hp}:result hp v=GW v:=by
 rcases h with ⟨rfl,rfl⟩ | ⟨e,rfl⟩<;>rfl
def b6.a6(h:b6 v cs)(hi:i<cs.length):fc 1 i v=GW (.bN (cs[i]::cs.drop (i+1))):=by
 rcases h with ⟨rfl,rfl⟩ | ⟨e,rfl⟩
 .grind
 .rw [K0 e _ hi,yi,yT hi]
def b6.one(h:b6 v cs):cY v=ycN:=by
 rcases h with ⟨rfl,rfl⟩ | ⟨e,rfl⟩<;>rfl
def b6.cells(h:b6 v cs):cellsOf v=[v]:=by
 rcases h with ⟨rfl,rfl⟩ | ⟨e,rfl⟩<;>rfl
def ru(e:Bool)(cs:List AV):b6 (.ap e cs.length cs) cs:=.inr ⟨e,rfl⟩
def q8:b6 .ab []:=.inl ⟨rfl,rfl⟩
end
def bh(v:AV)(l:List Int):Prop:=b6 v (l.map aa)
section
variable {v:AV}{l:List Int}
def bh.len(h:bh v l):iW hp 1 v=GW (.int .i64 (l.length:Nat)):=by
 have:=b6.len (hp:=hp) h
 grind
def bh.pu(h:bh v l):aQ v=ycN:=b6.pu h
def bh.ak(h:bh v l)(n:Nat):freeze (n+1) hp v=GW (v,hp):=b6.ak h n
def bh.shut(h:bh v l):VE.shut v=v:=b6.shut h
def bh.bA(h:bh v l):VE.bA v=v:=b6.bA h
def bh.eG(h:bh v l):result hp v=GW v:=b6.eG h
def bh.one(h:bh v l):cY v=ycN:=b6.one h
def bh.cells(h:bh v l):cellsOf v=[v]:=b6.cells h
def bh.a6(h:bh v l)(hi:i<l.length):fc 1 i v=GW (.bN (.int .i64 l[i]::(l.map aa).drop (i+1))):=by
 have:=b6.a6 h (i:=i) (by simpa using hi)
 grind
def lF(e:Bool)(l:List Int):bh (.ap e l.length (l.map aa)) l:=by
 have:=ru e (l.map aa)
 rwa[yv] at this
end
def bi{α β:Type}(p:α->β->Prop):List α->List β->Prop
 | [],[]=>True
 | a::r,b::s=>p a b/\bi p r s
 | _,_=>False
section
variable {α β:Type}{p:α->β->Prop}
def bi.len:∀{l:List α} {m:List β},bi p l m->l.length=m.length
 | [],[],_=>rfl
 | _::_,_::_,h=>by rw[yx,yx,h.2.len]
def bi.get:∀{l:List α} {m:List β} (_:bi p l m) {i:Nat} (h1:i<l.length) (h2:i<m.length),p l[i] m[i]
 | a::r,b::s,h,0,_,_=>h.1
 | a::r,b::s,h,i+1,h1,h2=>by
  exact h.2.get (by simpa using h1) (by simpa using h2)
end
def gI(v:AV)(s:List (List Int)):Prop:=∃rows,b6 v rows/\bi bh rows s
section
variable {v:AV}{s:List (List Int)}
def gI.len(h:gI v s):iW hp 1 v=GW (.int .i64 (s.length:Nat)):=by
 have⟨rows,h1,h2⟩:=h;rw[<-h2.len];exact h1.len
def gI.pu(h:gI v s):aQ v=ycN:=by have⟨rows,h1,h2⟩:=h;exact h1.pu
def gI.ak(h:gI v s)(n:Nat):freeze (n+1) hp v=GW (v,hp):=by have⟨rows,h1,h2⟩:=h;exact h1.ak n
def gI.one(h:gI v s):cY v=ycN:=by have⟨rows,h1,h2⟩:=h;exact h1.one
def gI.cells(h:gI v s):cellsOf v=[v]:=by obtain⟨rows,h1,h2⟩:=h;exact h1.cells
def gI.a6(h:gI v s)(hi:i<s.length):∃r rest,bh r s[i]/\fc 1 i v=GW (.bN (r::rest)):=by
 have⟨rows,h1,h2⟩:=h;have dP:i<rows.length:=by rw[h2.len];exact hi
 exact⟨_,_,h2.get dP hi,h1.a6 dP⟩
def ao6:gI .ab []:=⟨[],q8,trivial⟩
end
def wrap64{n:Int}(h1: -9223372036854775808<=n)(h2:n<9223372036854775808):IntKind.wrap .i64 n=n:=by
 simp only[IntKind.wrap,IntKind.bits,IntKind.signed,wv]
 grind
def wrapN{n:Nat}(h:n<9223372036854775808):IntKind.wrap .i64 (n:Int)=n:=wrap64 (by lia) (by lia)
end
abbrev af(P:aG)(L:Lib)(f:Nat)(aw:List AV)(r:AV):Prop:=bS P L (D P L) f aw=GW r
section
variable {v:AV}{ex pu:Bool}{cs new:List AV}{bX n o sz:Nat}
section
variable {P:aG}{L:Lib}{f:cw}{tm:Env}{hp:Hp}{ct:Nat}
def amY(k:xj)(n:Int):cellsOf (.int k n)=[.int k n]:=(rfl)
def alG(b:Bool):cellsOf (.bool b)=[.bool b]:=(rfl)
def amZ(s:List Nat):cellsOf (.str s)=[.str s]:=(rfl)
def alH:cellsOf .ab=[.ab]:=(rfl)
def am0(e:Bool)(n:Nat)(cs:List AV):cellsOf (.ap e n cs)=[.ap e n cs]:=(rfl)
def am1(id o n:Nat):cellsOf (.aq id o n)=[.aq id o n]:=(rfl)
def am2(id o:Nat):cellsOf (.ptr id o)=[.ptr id o]:=(rfl)
def ao7(g:Fr)(a b:List AV):cellsOf (.fn g a b)=[.fn g a b]:=(rfl)
def am3(cs:List AV):cellsOf (.agg cs)=cs:=(rfl)
def Vl(k:xj)(n:Int):cY (.int k n)=ycN:=(rfl)
def ao8(b:Bool):cY (.bool b)=ycN:=(rfl)
def ark(s:List Nat):cY (.str s)=ycN:=(rfl)
def ao9:cY .ab=ycN:=(rfl)
def arl(e:Bool)(n:Nat)(cs:List AV):cY (.ap e n cs)=ycN:=(rfl)
def arm(id o n:Nat):cY (.aq id o n)=ycN:=(rfl)
def arn(id o:Nat):cY (.ptr id o)=ycN:=(rfl)
def auv(g:Fr)(a b:List AV):cY (.fn g a b)=ycN:=(rfl)
def apa:bY []=ycN:=(rfl)
def ab8(v:AV)(r:List AV):bY (v::r)=(cY v&&bY r):=(rfl)
def am4:aE []=ycN:=(rfl)
def alI(v:AV)(r:List AV):aE (v::r)=(aQ v&&aE r):=(rfl)
def auw(id o:Nat):aQ (.ptr id o)=ycO:=(rfl)
def auy(id o n:Nat):aQ (.aq id o n)=ycO:=(rfl)
def axJ(g:Nat)(a b:List AV):aQ (.fn (.f g) a b)=(aE a&&aE b):=(rfl)
def azf(l:Nat)(a b:List AV):aQ (.fn (.y l) a b)=ycO:=(rfl)
def aew(cs:List AV):aQ (.agg cs)=aE cs:=(rfl)
def auz(cs:List AV):aQ (.av cs)=aE cs:=(rfl)
def gW(ct sz:Nat)(cs:List AV):Option (AV×Obj):=bif yp cs.length sz&&bY cs then GW (.ptr ct 0,.cells ycN (aE cs) ycN sz cs) else GX
def auA(sz:Nat)(x:X):cP tm hp ct (.box sz x)=gW ct sz (cellsOf (az tm x)):=rfl
def Wy(h:cY v=ycN):gW ct 1 [v]=GW (.ptr ct 0,.cells ycN (aQ v&&ycN) ycN 1 [v]):=by
 simp[gW,bY,aE,h]
def aR(hn:cs.length=n)(h:bY cs=ycN):gW ct n cs=GW (.ptr ct 0,.cells ycN (aE cs) ycN n cs):=by
 subst hn;simp[gW,h]
def dS(hp:Hp)(ct id o sz:Nat)(new:List AV)(q:Option Obj):gL:=
 match q with
 | some (.cells ycN pu ex z cs)=>bif yp new.length sz&&yJ (o+sz) cs.length&&bY new then GW (.av [],aY hp id (.cells ycN (pu&&aE new) ex z (over o new cs)),ct) else GX
 | _=>GX
def stV(hp:Hp)(ct sz:Nat)(p:AV)(new:List AV):gL:=match p with | .ptr id o=>dS hp ct id o sz new (ax hp id) | _=>GX
def acY(sz:Nat)(x v:X):cz tm hp ct (.st sz x v)=stV hp ct sz (az tm x) (cellsOf (az tm v)):=rfl
def afS(sz id o:Nat)(new:List AV):stV hp ct sz (.ptr id o) new=dS hp ct id o sz new (ax hp id):=rfl
def azg{u:AV}{id z:Nat}(h:cY v=ycN):dS hp ct id 0 1 [v] (GW (.cells ycN pu ex z [u]))=GW (.av [],aY hp id (.cells ycN (pu&&(aQ v&&ycN)) ex z [v]),ct):=by
 simp[dS,bY,aE,h,over];rfl
def zn{id z:Nat}(h1:new.length=sz)(h2:o+sz<=cs.length)(h:bY new=ycN):
  dS hp ct id o sz new (GW (.cells ycN pu ex z cs))=GW (.av [],aY hp id (.cells ycN (pu&&aE new) ex z (over o new cs)),ct):=by
 subst h1;simp[dS,h,yB h2]
def QO(ct n sz:Nat)(q:Option (List AV)):Option (AV×Obj):=match q with | some cs=>bif yp cs.length (n*sz) then GW (.aq ct 0 n,.cells ycN (aE cs) ycN sz cs) else GX | none=>GX
def aro(n sz:Nat)(z:List AV)(ps:List (Nat×Nat×X)):cP tm hp ct (.jI n sz z ps)=QO ct n sz (fill tm z ps):=by
 simp only[cP,QO];cases fill tm z ps<;>rfl
def fM(h:cs.length=n*sz):QO ct n sz (GW cs)=GW (.aq ct 0 n,.cells ycN (aE cs) ycN sz cs):=by
 simp[QO,h]
def lI(tm:Env)(cs:List AV)(o sz:Nat)(new:List AV)(r:List (Nat×Nat×X)):Option (List AV):=
 bif yp new.length sz&&yJ (o+sz) cs.length&&bY new then fill tm (over o new cs) r else GX
def CP(cs:List AV):fill tm cs []=GW cs:=rfl
def CI(cs:List AV)(o sz:Nat)(x:X)(r:List (Nat×Nat×X)):fill tm cs ((o,sz,x)::r)=lI tm cs o sz (cellsOf (az tm x)) r:=rfl
def Hf{r:List (Nat×Nat×X)}(h1:o+1<=cs.length)(h2:cY v=ycN):lI tm cs o 1 [v] r=fill tm (over o [v] cs) r:=by
 simp[lI,bY,h2,yB h1]
def K1{r:List (Nat×Nat×X)}(h0:new.length=sz)(h1:o+sz<=cs.length)(h2:bY new=ycN):lI tm cs o sz new r=fill tm (over o new cs) r:=by
 subst h0;simp[lI,h2,yB h1]
def axK(v u:AV)(r:List AV):over 0 [v] (u::r)=v::r:=rfl
def axL(v a u:AV)(r:List AV):over 1 [v] (a::u::r)=a::v::r:=rfl
def axM(v a b u:AV)(r:List AV):over 2 [v] (a::b::u::r)=a::b::v::r:=rfl
def axN(v a b c u:AV)(r:List AV):over 3 [v] (a::b::c::u::r)=a::b::c::v::r:=rfl
def axO(v a b c d u:AV)(r:List AV):over 4 [v] (a::b::c::d::u::r)=a::b::c::d::v::r:=rfl
def axP(v a b c d e u:AV)(r:List AV):over 5 [v] (a::b::c::d::e::u::r)=a::b::c::d::e::v::r:=rfl
def AH(ct sz bX:Nat)(zero:List AV)(l c:Option Nat):Option (AV×Obj):=
 match l,c with
 | some l,GW c=>bif yJ l c&&(yJ c room&&(yJ (c*bX) room&&(yp zero.length sz&&bY zero))) then GW (.aq ct 0 l,.cells ycN (aE zero) (yp l c) sz (yD l zero).flatten) else GX
 | _,_=>GX
def auB(sz bX:Nat)(z:List AV)(l c:X):cP tm hp ct (.qt sz bX z l c)=AH ct sz bX z (dR (az tm l)) (dR (az tm c)):=by
 simp only[cP,AH]
 grind
def HZ{l:Nat}{z:List AV}(h1:l<=1099511627776)(h2:l*bX<=1099511627776)(h3:z.length=sz)(h4:bY z=ycN):
  AH ct sz bX z (GW l) (GW l)=GW (.aq ct 0 l,.cells ycN (aE z) ycN sz (yD l z).flatten):=by
 subst h3;simp[AH,h4,yB (show l<=room from h1),yB (show l*bX<=room from h2),yB (yz l)]
def FY(hp:Hp)(ct sz bX:Nat)(s:AV)(src:Option (Nat×List AV)):gL:=
 match src with
 | none=>GX
 | some (m,new)=>
  match s with
  | .ab=>
   bif yp m 0 then GW (.ab,hp,ct)
   else bif yJ m room&&(yJ (m*bX) room&&yP 0 sz) then GW (.aq ct 0 m,(ct,.cells ycN (aE new) ycO sz new)::hp,ct+1) else GX
  | .ap ycN n cs=>
   bif yp m 0 then GW (.ap ycN n cs,hp,ct)
   else bif yJ (n+m) room&&(yJ ((n+m)*bX) room&&(yp cs.length (n*sz)&&yP 0 sz)) then GW (.aq ct 0 (n+m),(ct,.cells ycN (aE cs&&aE new) ycO sz (cs++new))::hp,ct+1) else GX
  | .aq id o n=>
   match ax hp id with
   | some (.cells ycN pu _ z cs)=>
    bif yp z sz&&(yJ (n+m) room&&(yJ ((n+m)*bX) room&&(yJ (o+n*sz) cs.length&&(yP 0 sz&&bY new)))) then
     GW (.aq ct 0 (n+m),(ct,.cells ycN (pu&&aE new) ycO sz (slice o (n*sz) cs++new))::dV hp id,ct+1)
    else GX
   | _=>GX
  | _=>GX
def am5(sz bX:Nat)(s x:X):cz tm hp ct (.c9 sz bX s x)=FY hp ct sz bX (az tm s) (jy hp sz (az tm x)):=by
 simp only[cz,FY]
 cases jy hp sz (az tm x) with
 | none=>rfl
 | some q=>have⟨m,new⟩:=q;cases az tm s<;>rfl
def alJ(sz id o n:Nat):jy hp sz (.aq id o n)=mK hp sz (.aq id o n):=rfl
def alK(sz:Nat)(e:Bool)(n:Nat)(cs:List AV):jy hp sz (.ap e n cs)=mK hp sz (.ap e n cs):=rfl
def ak2(sz:Nat):jy hp sz .ab=GW (0,[]):=rfl
def Om(o n sz:Nat)(q:Option Obj):Option (Nat×List AV):=match q with | some (.cells _ _ _ _ cs)=>bif yJ (o+n*sz) cs.length then GW (n,slice o (n*sz) cs) else GX | _=>GX
def ak3(sz id o n:Nat):mK hp sz (.aq id o n)=Om o n sz (ax hp id):=rfl
def axQ(rw pu ex:Bool)(z:Nat)(v:AV):Om 0 1 1 (GW (.cells rw pu ex z [v]))=GW (1,[v]):=rfl
def eO{m:Nat}(hm:0<m)(h1:m<=1099511627776)(h2:m*bX<=1099511627776)(hs:0<sz):
  FY hp ct sz bX .ab (GW (m,new))=GW (.aq ct 0 m,(ct,.cells ycN (aE new) ycO sz new)::hp,ct+1):=by
 have e1:yp m 0=ycO:=iG (by lia);have e2:yP 0 sz=ycN:=yB hs;simp[FY,e1,e2,yB (show m<=room from h1),yB (show m*bX<=room from h2)]
def dK{id m:Nat}(hg:ax hp id=GW (.cells ycN pu ex sz cs))(hl:cs.length=n*sz)(h1:n+m<=1099511627776)(h2:(n+m)*bX<=1099511627776)(hs:0<sz)(ho:bY new=ycN):
  FY hp ct sz bX (.aq id 0 n) (GW (m,new))=GW (.aq ct 0 (n+m),(ct,.cells ycN (pu&&aE new) ycO sz (cs++new))::dV hp id,ct+1):=by
 have e2:yP 0 sz=ycN:=yB hs;simp only[FY,hg];simp[e2,ho,yB (show n+m<=room from h1),yB (show (n+m)*bX<=room from h2),<-hl,slice,yB (yz cs.length)]
def agU(n:Nat)(g:Nat)(cap:List AV)(q:Option (List AV×Hp)):Option (AV×Hp):=match q with | some (first,hp)=>(match cg n hp cap with | some (Q7,jP)=>GW (.fn (.f g) first Q7,jP) | none=>GX) | none=>GX
def agV(g:Nat)(first:List AV)(q:Option (List AV×Hp)):Option (AV×Hp):=match q with | some (cap,hp)=>GW (.fn (.f g) first cap,hp) | none=>GX
def auC(n g:Nat)(first cap:List AV):freeze (n+1) hp (.fn (.f g) first cap)=agU n g cap (cg n hp first):=rfl
def auD(n g:Nat)(first cap:List AV):agU n g cap (GW (first,hp))=agV g first (cg n hp cap):=rfl
def auE(g:Nat)(first cap:List AV):agV g first (GW (cap,hp))=GW (.fn (.f g) first cap,hp):=rfl
def agW(o:Nat)(q:Option (Bool×Nat×List AV×Hp)):Option (AV×Hp):=match q with | some (_,_,cs,hp)=>GW (.bN (cs.drop o),hp) | none=>GX
def arp(n id o:Nat):freeze (n+1) hp (.ptr id o)=agW o (Aa n hp id):=rfl
def auF(o:Nat)(ex:Bool)(sz:Nat)(cs:List AV):agW o (GW (ex,sz,cs,hp))=GW (.bN (cs.drop o),hp):=rfl
def kW(o k:Nat)(q:Option (Bool×Nat×List AV×Hp)):Option (AV×Hp):=
 match q with
 | some (ex,sz,cs,hp)=>bif yJ (o+k*sz) cs.length then GW (.ap (ex&&yP 0 sz&&yp (o+k*sz) cs.length) k (slice o (k*sz) cs),hp) else GX
 | none=>GX
def arq(n id o k:Nat):freeze (n+1) hp (.aq id o k)=kW o k (Aa n hp id):=rfl
def fL{k:Nat}(ex:Bool)(hl:cs.length=k*sz)(hs:0<sz):kW 0 k (GW (ex,sz,cs,hp))=GW (.ap ex k cs,hp):=by
 have e2:yP 0 sz=ycN:=yB hs;simp[kW,<-hl,e2,slice,yB (yz cs.length)]
def Xk(n id:Nat)(hp:Hp)(q:Option Obj):Option (Bool×Nat×List AV×Hp):=
 match q with
 | some (.cells rw pu ex sz cs)=>
  bif pu then GW (ex,sz,cs,bif rw then aY hp id (.cells ycO ycN ex sz cs) else hp)
  else match cg n hp cs with
   | some (ck,au)=>GW (ex,sz,ck,aY au id (.cells ycO ycO ex sz cs))
   | none=>GX
 | _=>GX
def ars(n id:Nat):Aa (n+1) hp id=Xk n id hp (ax hp id):=rfl
def auG(n id:Nat)(ex:Bool)(sz:Nat)(cs:List AV):Xk n id hp (GW (.cells ycN ycN ex sz cs))=GW (ex,sz,cs,aY hp id (.cells ycO ycN ex sz cs)):=rfl
def auH(n id:Nat)(ex:Bool)(sz:Nat)(cs:List AV):Xk n id hp (GW (.cells ycO ycN ex sz cs))=GW (ex,sz,cs,hp):=rfl
def cm(n:Nat)(cs:List AV)(h:cg n hp cs=GW (cs,hp)):freeze (n+1) hp (.agg cs)=GW (.agg cs,hp):=by
 simp only[freeze,h]
def Ez{id:Nat}(hg:ax hp id=GW (.cells ycN ycN ex sz cs))(hl:cs.length=n*sz)(hs:0<sz):result hp (.aq id 0 n)=GW (.cL ex sz n cs):=by
 have e2:yP 0 sz=ycN:=yB hs;simp only[result,Bv,hg,yf,<-hl,yB (yz cs.length),yC,e2,ud,slice,yg,xP]
 simp
def am6{k id:Nat}(hg:ax hp id=GW (.cells ycN ycN ex sz cs))(hl:cs.length=n*sz)(hs:0<sz):Bv k hp (.aq id 0 n)=GW (.cL ex sz n cs,dV hp id):=by
 have e2:yP 0 sz=ycN:=yB hs;simp only[Bv,hg,yf,<-hl,yB (yz cs.length),yC,e2,ud,slice,yg,xP]
 simp
def TH{id:Nat}{k:xj}{b:Int}(hg:ax hp id=GW (.cells ycN ycN ex sz cs))(hl:cs.length=n*sz)(hs:0<sz):result hp (.av [.aq id 0 n,.int k b])=GW (.av [.cL ex sz n cs,.int k b]):=by
 have h1:EO [.aq id 0 n,.int k b]=GW [id]:=rfl;simp only[result,h1,CS,am6 hg hl hs];rfl
def akm(b:Bool):result hp (.av [.ab,.bool b])=GW (.av [.ab,.bool b]):=rfl
def akn(k:xj)(b:Int):result hp (.av [.ab,.int k b])=GW (.av [.ab,.int k b]):=rfl
def ako(e:Bool)(n:Nat)(cs:List AV)(k:xj)(b:Int):result hp (.av [.ap e n cs,.int k b])=GW (.av [.ap e n cs,.int k b]):=rfl
def am7(s:St):rK [] s=GW s:=rfl
def Zc(t:Nat)(r:List Nat)(tm:Env)(ct base:Nat)(q:Option (AV×Hp)):Option St:=match q with | some (v,hp)=>rK r ⟨(t,v)::tm,hp,ct,base⟩ | none=>GX
def alL(t:Nat)(r:List Nat)(tm:Env)(hp:Hp)(ct base:Nat):rK (t::r) ⟨tm,hp,ct,base⟩=Zc t r tm ct base (freeze deep hp (ai tm t)):=by
 simp only[rK,Zc];cases freeze deep hp (ai tm t)<;>rfl
def axR(t:Nat)(r:List Nat)(tm:Env)(ct base:Nat)(v:AV)(hp:Hp):Zc t r tm ct base (GW (v,hp))=rK r ⟨(t,v)::tm,hp,ct,base⟩:=rfl
end
attribute [go_sem] akm akn ako amY alG amZ alH am0 am1 am2 ao7 am3 Vl ao8 ark ao9 arl arm arn auv apa ab8
 am4 alI auw auy axJ azf aew auz auA Wy acY afS azg aro CP CI axK axL axM axN axO axP auB
 am5 alJ alK ak2 ak3 axQ auC auD auE arp auF arq fL fM Hf ars auG auH am7 alL axR
 Bool.and_false xY yg eq_self
end
def acZ:∀hp:Hp,j9 0 hp=[]
 | []=>rfl
 | (id,o)::r=>by
  have:yP id 0=ycO:=rfl
  simp only[j9,this,yX,acZ r]
def aex(f:Nat->Option Nat):∀hp:Hp,nQ 0 f hp=[]
 | []=>rfl
 | (id,o)::r=>by
  have:yP id 0=ycO:=rfl
  simp only[nQ,this,yX,aex f r]
def pos(seen:List Nat):Nat->Option Nat:=fun id=>mW id seen 0
def Xl(tm:Env)(hp:Hp)(seen:List Nat):St:=⟨mq (pos seen) tm,mi hp (pos seen) seen 0 [],seen.length,0⟩
def A4(hp:Hp):Nat->List Nat->List Nat->List Nat:=reach hp 0
def ae(live:List Nat)(tm:Env)(hp:Hp)(ct:Nat):bq live ⟨tm,hp,ct,0⟩=Xl (cu tm live) hp (A4 hp 100000 (kA (cu tm live)) []):=by
 have e:∀seen,mh 0 seen=pos seen:=fun seen=>by
  funext id
  have:yP id 0=ycO:=rfl
  simp only[mh,this,yX,pos]
 simp only[bq,acZ,wz,e,aex,Xl,A4,yf]
def am8:kA []=[]:=rfl
def alM(i:Nat)(v:AV)(r:Env):kA ((i,v)::r)=refs v++kA r:=rfl
def apb(k:xj)(n:Int):refs (.int k n)=[]:=rfl
def am9(b:Bool):refs (.bool b)=[]:=rfl
def apc(s:List Nat):refs (.str s)=[]:=rfl
def ana:refs .ab=[]:=rfl
def ape(e:Bool)(n:Nat)(cs:List AV):refs (.ap e n cs)=[]:=rfl
def anb(cs:List AV):refs (.bN cs)=[]:=rfl
def alN:refs .undef=[]:=rfl
def apf(id o:Nat):refs (.ptr id o)=[id]:=rfl
def apg(id o n:Nat):refs (.aq id o n)=[id]:=rfl
def art(g:Nat)(a b:List AV):refs (.fn (.f g) a b)=kz a++kz b:=rfl
def auI(l:Nat)(a b:List AV):refs (.fn (.y l) a b)=[l]:=rfl
def aph(cs:List AV):refs (.agg cs)=kz cs:=rfl
def anc:kz []=[]:=rfl
def alO(v:AV)(r:List AV):kz (v::r)=refs v++kz r:=rfl
def R9(hp:Hp)(n id:Nat)(jJ seen:List Nat)(q:Option Obj):List Nat:=match q with | some o=>A4 hp n (rJ o++jJ) (seen++[id]) | none=>A4 hp n jJ seen
def Sa(hp:Hp)(n id:Nat)(jJ seen:List Nat)(b:Bool):List Nat:=bif b then A4 hp n jJ seen else R9 hp n id jJ seen (ax hp id)
def aru(hp:Hp)(n:Nat)(seen:List Nat):A4 hp (n+1) [] seen=seen:=rfl
def api(hp:Hp)(n id:Nat)(jJ seen:List Nat):A4 hp (n+1) (id::jJ) seen=Sa hp n id jJ seen (mV id seen):=by
 have:yP id 0=ycO:=rfl
 simp only[A4,reach,this,uJ,Sa,R9]
 cases mV id seen with
 | true=>rfl
 | false=>simp only[yX];cases ax hp id<;>rfl
def auJ(hp:Hp)(n id:Nat)(jJ seen:List Nat):Sa hp n id jJ seen ycN=A4 hp n jJ seen:=rfl
def auK(hp:Hp)(n id:Nat)(jJ seen:List Nat):Sa hp n id jJ seen ycO=R9 hp n id jJ seen (ax hp id):=rfl
def auL(hp:Hp)(n id:Nat)(jJ seen:List Nat)(o:Obj):R9 hp n id jJ seen (GW o)=A4 hp n (rJ o++jJ) (seen++[id]):=rfl
def apj(i:Nat):mV i []=ycO:=rfl
def apk(i:Nat)(r:List Nat):mV i (i::r)=ycN:=by simp only[mV,wO,yC]
def ane{i j:Nat}(r:List Nat)(h:j≠i):mV i (j::r)=mV i r:=by simp only[mV,iG h,yX]
def arv(rw ex:Bool)(sz:Nat)(cs:List AV):rJ (.cells rw ycN ex sz cs)=[]:=rfl
def arw(rw ex:Bool)(sz:Nat)(cs:List AV):rJ (.cells rw ycO ex sz cs)=kz cs:=rfl
def apl(tm:Env)(ps:List Nat)(a b:VC)(st:Nat)(pe:BP):rJ (.lp tm ps a b st pe)=kA tm:=rfl
def arx(i:Nat)(r:List Nat)(k:Nat):mW i (i::r) k=GW k:=by simp only[mW,wO,yC]
def apm{i j:Nat}(r:List Nat)(k:Nat)(h:j≠i):mW i (j::r) k=mW i r (k+1):=by simp only[mW,iG h,yX]
def afT(o:Nat)(q:Option Nat):AV:=match q with | some j=>.ptr j o | none=>.undef
def afU(o n:Nat)(q:Option Nat):AV:=match q with | some j=>.aq j o n | none=>.undef
def apo(s:List Nat):mq (pos s) []=[]:=rfl
def anf(s:List Nat)(i:Nat)(v:AV)(r:Env):mq (pos s) ((i,v)::r)=(i,b9 (pos s) v)::mq (pos s) r:=rfl
def ary(s:List Nat)(k:xj)(n:Int):b9 (pos s) (.int k n)=.int k n:=rfl
def apq(s:List Nat)(b:Bool):b9 (pos s) (.bool b)=.bool b:=rfl
def arz(s:List Nat)(t:List Nat):b9 (pos s) (.str t)=.str t:=rfl
def apr(s:List Nat):b9 (pos s) .ab=.ab:=rfl
def arA(s:List Nat)(e:Bool)(n:Nat)(cs:List AV):b9 (pos s) (.ap e n cs)=.ap e n cs:=rfl
def aps(s:List Nat)(cs:List AV):b9 (pos s) (.bN cs)=.bN cs:=rfl
def ang(s:List Nat):b9 (pos s) .undef=.undef:=rfl
def arB(s:List Nat)(id o:Nat):b9 (pos s) (.ptr id o)=afT o (mW id s 0):=rfl
def arC(s:List Nat)(id o n:Nat):b9 (pos s) (.aq id o n)=afU o n (mW id s 0):=rfl
def auM(s:List Nat)(g:Nat)(a b:List AV):b9 (pos s) (.fn (.f g) a b)=.fn (.f g) (gn (pos s) a) (gn (pos s) b):=rfl
def arD(s:List Nat)(cs:List AV):b9 (pos s) (.agg cs)=.agg (gn (pos s) cs):=rfl
def apt(s:List Nat):gn (pos s) []=[]:=rfl
def anh(s:List Nat)(v:AV)(r:List AV):gn (pos s) (v::r)=b9 (pos s) v::gn (pos s) r:=rfl
def arE(o j:Nat):afT o (GW j)=.ptr j o:=rfl
def arG(o n j:Nat):afU o n (GW j)=.aq j o n:=rfl
def Xm(hp:Hp)(f:Nat->Option Nat)(r:List Nat)(k:Nat)(acc:Hp)(q:Option Obj):Hp:=match q with | some o=>mi hp f r (k+1) ((k,mU f o)::acc) | none=>mi hp f r (k+1) acc
def ani(hp:Hp)(s:List Nat)(k:Nat)(acc:Hp):mi hp (pos s) [] k acc=acc:=rfl
def alP(hp:Hp)(s:List Nat)(id:Nat)(r:List Nat)(k:Nat)(acc:Hp):mi hp (pos s) (id::r) k acc=Xm hp (pos s) r k acc (ax hp id):=by
 simp only[mi,Xm];cases ax hp id<;>rfl
def auN(hp:Hp)(s r:List Nat)(k:Nat)(acc:Hp)(o:Obj):Xm hp (pos s) r k acc (GW o)=mi hp (pos s) r (k+1) ((k,mU (pos s) o)::acc):=rfl
def auO(f:Nat->Option Nat)(rw ex:Bool)(sz:Nat)(cs:List AV):mU f (.cells rw ycN ex sz cs)=.cells rw ycN ex sz cs:=rfl
def auP(f:Nat->Option Nat)(rw ex:Bool)(sz:Nat)(cs:List AV):mU f (.cells rw ycO ex sz cs)=.cells rw ycO ex sz (gn f cs):=rfl
def arH(f:Nat->Option Nat)(tm:Env)(ps:List Nat)(a b:VC)(st:Nat)(pe:BP):mU f (.lp tm ps a b st pe)=.lp (mq f tm) ps a b st pe:=rfl
def arI(tm:Env)(hp:Hp)(seen:List Nat):Xl tm hp seen=⟨mq (pos seen) tm,mi hp (pos seen) seen 0 [],seen.length,0⟩:=rfl
attribute [go_sem] am8 alM apb am9 apc ana ape anb alN apf apg art auI aph anc alO aru api auJ auK auL
 apj apk ane arv arw apl arx apm apo anf ary apq arz apr arA aps ang arB arC auM arD apt anh arE arG
 ani alP auN auO auP arH arI yx yN
def apu{α:Type}{p:α->Bool}{l:List α}{i:Nat}(h:i<l.length):(l.drop i).any p=(p l[i]||(l.drop (i+1)).any p):=by
 rw[yT h,List.any_cons]
def mw(f:Nat->Int):Nat->Int
 | 0=>0
 | n+1=>mw f n+f n
def Pu{k:xj}{n:Int}(h:0<=n):dR (.int k n)=GW n.toNat:=by
 cases n with
 | ofNat n=>rfl
 | negSucc n=>exact absurd h (by simp)
def bH(k id o:Nat):Mi k (.ptr id o)=GW (.ptr id (o+k)):=rfl
def du{α:Type}(a:α)(l:List α):vW 1 (a::l)=l:=rfl
def axS{α:Type}(a b:α)(l:List α):vW 2 (a::b::l)=l:=rfl
def afV{α:Type}(a b c:α)(l:List α):vW 3 (a::b::c::l)=l:=rfl
abbrev Nm(n:Int):AV:=.agg [aa n,.ab]
def Ao(hp:Hp)(ct id:Nat)(a:Int)(x y:AV):dS hp ct id 0 2 [.int .i64 a,.ab] (GW (.cells ycN ycN ycN 2 [x,y]))=GW (.av [],aY hp id (.cells ycN ycN ycN 2 [.int .i64 a,.ab]),ct):=rfl
def eP(b:Bool):IJ ycO (GW b)=GW (.bool b):=by cases b<;>rfl
def aey(f:cw)(tm:Env)(hp:Hp)(ct:Nat)(x y:X):aZ P L f tm hp ct (.mn [x,y])=rd hp ct (min2 (az tm x) (az tm y)):=by
 simp only[aZ,rd,bg,dL,Db]
 grind
def E5(f:cw)(tm:Env)(hp:Hp)(ct:Nat)(x y:X):aZ P L f tm hp ct (.mx [x,y])=rd hp ct (max2 (az tm x) (az tm y)):=by
 simp only[aZ,rd,bg,dL,Db]
 grind
def ac0(k k':xj)(x y:Int):min2 (.int k x) (.int k' y)=GW (.int k (if y<x then y else x)):=rfl
def KP(k k':xj)(x y:Int):max2 (.int k x) (.int k' y)=GW (.int k (if y>x then y else x)):=rfl
def cW(n:Int):Int:=if n<0 then -1 else if n=0 then 0 else 1
def auQ(n:Int):(if (if n<1 then n else 1)> -1 then (if n<1 then n else 1) else -1)=cW n:=by
 unfold cW
 grind
def n117(h:Has P L 117 Ru)(n:Int):af P L 117 [aa n] (Nm n):=by
 unfold af;rw[aF h];simp only[go_sem,ya,yb,yk,Ru,aR,yf,Ao];rfl
def rO(hp:Hp)(p q:Bool):jK .b (.bool p) (.bool q)=GW (p==q):=rfl
def j8{n:Nat}{sp:List AV->Option AV}(h:L.pure n=GW sp){f:cw}(aw:List AV):bS P L f n aw=sp aw:=by simp only[bS,h]
abbrev U64(n:Int):AV:=.int .u64 n
def axT{n:Int}(h1:0<=n)(h2:n<18446744073709551616):IntKind.wrap .u64 n=n:=by
 simp only[IntKind.wrap,IntKind.signed,IntKind.bits]
 grind
def aez(n:Int):kC (.toInt .u64) (aa n)=GW (U64 (IntKind.wrap .u64 n)):=rfl
def Qn(n:Int):kC (.toInt .i64) (U64 n)=GW (aa (IntKind.wrap .i64 n)):=rfl
def Ma(b:Bool):IJ ycN (GW b)=GW (.bool (!b)):=by cases b<;>rfl
def cA(a b:AV)(r:List AV):gZ 2 ycN (a::b::r)=GW (.agg [a,b]):=rfl
def fW(a b c d:AV)(r:List AV):gZ 4 ycN (a::b::c::d::r)=GW (.agg [a,b,c,d]):=rfl
def anj{a b:Int}(hb:0<b):(a.tmod b<0->a/b=a.tdiv b-1/\a%b=a.tmod b+b)/\(¬a.tmod b<0->a/b=a.tdiv b/\a%b=a.tmod b):=by
 have h1:=Int.mul_tdiv_add_tmod a b;have h2:a.tmod b<b:=Int.tmod_lt_of_pos a hb;have h3: -b<a.tmod b:=Int.lt_tmod_of_pos a hb;refine⟨fun h=>(yad hb).2 ⟨?_,?_,?_⟩,fun h=>(yad hb).2 ⟨?_,?_,?_⟩⟩
 .grind
 .lia
 .lia
 .lia
 .lia
 .lia
def apv(a b:Nat)(hb:b≠0):wL b (a%b)=wL a b:=by
 rw[tU b,<-ycz,tU]
def dF(a b:Int):Int:=a/(vh a b:Nat)
def dN(a b:Int):Int:=b/(vh a b:Nat)
def P4{a b:Int}(hb:0<b):(0:Int)<(vh a b:Nat):=by
 have:=Int.gcd_pos_of_ne_zero_right a (show b≠0 by lia)
 lia
def auR(a b:Int):a=(vh a b:Nat)*dF a b:=(yaW (yag a b)).symm
def auS(a b:Int):b=(vh a b:Nat)*dN a b:=(yaW (tZ a b)).symm
def KQ{a b:Int}(hb:0<b):0<dN a b:=by
 have h1:=P4 (a:=a) hb;have h2:=auS a b;rcases Int.lt_trichotomy (dN a b) 0 with h | h | h
 .have:=Int.mul_neg_of_pos_of_neg h1 h;lia
 .grind
 .exact h
def ac1(a b:Int):(dF a b).natAbs<=a.natAbs:=by
 unfold dF;rw[uW (yag a b)];exact vm _ _
def ac2(a b:Int):(dN a b).natAbs<=b.natAbs:=by
 unfold dN;rw[uW (tZ a b)];exact vm _ _
def rU(a b:Int):List Nat:=if dN a b=1 then aV (dF a b) else aV (dF a b)++[47]++aV (dN a b)
section
variable {s:List Nat}{n:Nat}
def afW{a b:Nat}(h:¬a<b):yP a b=ycO:=by
 cases hb:yP a b with
 | false=>rfl
 | true=>exact absurd (yu hb) (by lia)
def Vm:∀(f n:Nat) (acc:List Nat),n<f->oA f n acc=oA f n []++acc
 | 0,_,_,h=>by lia
 | f+1,n,acc,h=>by
  simp only[oA];by_cases h1:n<10
  .rw [show yP n 10=ycN from yB h1];rfl
  .rw [show yP n 10=ycO from afW (by lia)];rw[Vm f (n/10) _ (by lia),Vm f (n/10) [48+n%10] (by lia)]
   simp
def Uv{f:Nat}(h:n<10):oA (f+1) n []=[48+n]:=by
 simp only[oA];rw[show yP n 10=ycN from yB h];rfl
def Vn{f:Nat}(h:¬n<10)(hf:n<=f):oA (f+1) n []=oA f (n/10) []++[48+n%10]:=by
 rw[<-Vm f (n/10) _ (by lia)];simp only[oA];rw[show yP n 10=ycO from afW (by lia)];rfl
def apw:∀(n f:Nat),n<f->oA f n []=aC n:=by
 intro n
 induction n using vQ with
 | _ n ih=>
  intro f hf;obtain⟨g,rfl⟩:∃g,f=g+1:=⟨f-1,by lia⟩;by_cases h:n<10
  .rw [Uv h];unfold aC;rw[Uv h]
  .rw [Vn h (by lia),ih (n/10) (by lia) g (by lia)];unfold aC;rw[Vn h (yz n),ih (n/10) (by lia) n (by lia)];rfl
def qY(h:n<10):aC n=[48+n]:=Uv h
def zh(h:¬n<10):aC n=aC (n/10)++[48+n%10]:=by
 rw[show aC n=oA (n+1) n [] from rfl,Vn h (yz n),apw (n/10) n (by lia)]
def Ae:∀{k n:Nat},n<10^(k+1)->(aC n).length<=k+1
 | 0,n,h=>by rw[qY (by simpa using h)];simp
 | k+1,n,h=>by
  by_cases h1:n<10
  .rw [qY h1];simp
  .rw [zh h1,yM]
   have:n/10<10^(k+1):=by
    grind
   have:=Ae this
   grind
def Pd(h:n<18446744073709551616):(aC n).length<=20:=Ae (k:=19) (by lia)
def mJ(n:Nat):aV (n:Int)=aC n:=rfl
def oz{n:Int}(h:n<0):aV n=45::aC n.natAbs:=by
 cases n with
 | ofNat n=>exact absurd h (by simp)
 | negSucc n=>rfl
def bZ:List Nat->Nat
 | []=>0
 | b::r=>if b=47 then 0 else bZ r+1
def ak4{i:Nat}(h:i<s.length):bZ (s.drop i)=if s[i]=47 then 0 else bZ (s.drop (i+1))+1:=by
 rw[yT h];rfl
def KH:∀s:List Nat,bZ s<=s.length
 | []=>yz _
 | b::r=>by
  unfold bZ
  have:=KH r
  grind
def dA:List Nat->Bool
 | []=>ycN
 | b::r=>yJ 48 b&&yJ b 57&&dA r
def OX:∀(a b:List Nat),dA (a++b)=(dA a&&dA b)
 | [],b=>by simp[dA]
 | x::a,b=>by simp[dA,OX a b,Bool.and_assoc]
def KI(n:Nat):dA (aC n)=ycN:=by
 induction n using vQ with
 | _ n ih=>
  by_cases h:n<10
  .rw [qY h];simp[dA];lia
  .rw [zh h,OX,ih (n/10) (by lia)];simp[dA];lia
def OY:∀{s:List Nat} (r:List Nat),dA s=ycN->bZ (s++r)=s.length+bZ r
 | [],r,_=>by simp
 | b::s,r,h=>by
  simp only[dA,ye] at h;have h1:=yu h.1.1;simp only[xh,bZ,yx];rw[yI (by lia),OY r h.2]
  lia
def OZ:∀(l:List Nat) (a d:Nat),d<10->cQ (l++[48+d]) a=(cQ l a).map (fun v=>10*v+d)
 | [],a,d,h=>by
  simp only[xG,cQ];rw[show yJ 48 (48+d)=ycN from yB (by lia),show yJ (48+d) 57=ycN from yB (by lia)]
  simp
 | b::l,a,d,h=>by
  simp only[xh,cQ]
  cases (yJ 48 b&&yJ b 57) with
  | true=>exact OZ l _ d h
  | false=>rfl
def EA(n:Nat):cQ (aC n) 0=GW n:=by
 induction n using vQ with
 | _ n ih=>
  by_cases h:n<10
  .rw [qY h]
   have:=OZ [] 0 n h
   simpa[cQ] using this
  .rw [zh h,OZ _ _ _ (by lia),ih (n/10) (by lia)]
   simp;lia
def ank{i a v:Nat}(h:i<s.length)(hv:cQ (s.drop i) a=GW v):48<=s[i]/\s[i]<=57/\cQ (s.drop (i+1)) (10*a+(s[i]-48))=GW v:=by
 rw[yT h] at hv;simp only[cQ] at hv
 cases hb:(yJ 48 s[i]&&yJ s[i] 57) with
 | false=>rw[hb] at hv;cases hv
 | true=>
  simp_all
def jk:Nat->Nat->List Nat
 | 0,_=>[]
 | k+1,n=>jk k (n/10)++[48+n%10]
def UX:∀k n,(jk k n).length=k
 | 0,_=>rfl
 | k+1,n=>by simp[jk,UX k]
def PI:∀(k m r:Nat),0<m->r<10^k->aC (m*10^k+r)=aC m++jk k r
 | 0,m,r,_,h=>by simp at h;subst h;simp[jk]
 | k+1,m,r,hm,h=>by
  have h1:m*10^(k+1)+r=(m*10^k)*10+r:=by grind
  have hp:0<m*10^k:=vM hm (ybG (by decide));have e1:(m*10^(k+1)+r)/10=m*10^k+r/10:=by lia
  have e2:(m*10^(k+1)+r)%10=r%10:=by lia
  rw[zh (by lia),e1,e2,PI k m (r/10) hm (by rw[xt] at h;lia)]
  simp[jk]
def ac3:∀(k r a:Nat),r<10^k->cQ (jk k r) a=GW (a*10^k+r)
 | 0,r,a,h=>by simp at h;subst h;simp[jk,cQ]
 | k+1,r,a,h=>by
  rw[jk,OZ _ _ _ (xO _ (by decide)),ac3 k (r/10) a (by lia)];simp only[wN,yd,xt]
  grind
def apx{m:Nat}(h:1000000000<=m):aC m=aC (m/1000000000)++jk 9 (m%1000000000):=by
 have:=PI 9 (m/1000000000) (m%1000000000) (by lia) (by lia)
 grind
end
def ja(s:List Nat)(l h:Option Nat):Option AV:=
 match l,h with
 | some l,GW h=>bif yJ l h&&yJ h s.length then GW (.str ((s.take h).drop l)) else GX
 | _,_=>GX
def eZ(hp:Hp)(s:List Nat)(tm:Env)(lo hi:Option X):fN hp .str (.str s) tm lo hi=ja s (db tm 0 lo) (db tm s.length hi):=by
 unfold ja;simp only[fN]
 grind
def fG(tm:Env)(d:Nat):db tm d GX=GW d:=rfl
def dU(tm:Env)(d:Nat)(x:X):db tm d (GW x)=dR (az tm x):=rfl
def mL{s:List Nat}{l h:Nat}(h1:l<=h)(h2:h<=s.length):ja s (GW l) (GW h)=GW (.str ((s.take h).drop l)):=by
 simp[ja,yB h1,yB h2]
def ik{a b:List Nat}(h:a.length+b.length<=9223372036854775807):binOp .add (.str a) (.str b)=GW (.str (a++b)):=by
 show Mh .add a b=_
 simp only[Mh,yB h,yC]
def arJ(k:xj)(n:Int):kC (.toInt .i64) (.int k n)=GW (aa (IntKind.wrap .i64 n)):=rfl
def mM(a b:List Nat):binOp .eql (.str a) (.str b)=GW (.bool (cN a b)):=rfl
def zj{s:List Nat}{i:Nat}(h:i<s.length):oJ i (.str s)=GW (.int .u8 (s[i]:Nat)):=by
 simp only[oJ,xf h]
def abm{r:Nat}(h:r<10):ja [48,49,50,51,52,53,54,55,56,57] (GW r) (GW (r+1))=GW (.str [48+r]):=by
 have:r=0\/r=1\/r=2\/r=3\/r=4\/r=5\/r=6\/r=7\/r=8\/r=9:=by lia
 rcases this with rfl | rfl | rfl | rfl | rfl | rfl | rfl | rfl | rfl | rfl<;>rfl
def Xn(h:Has P L 292 BW){n:Nat}(hn:n<9223372036854775808):af P L 292 [aa n,aa 1] (.str (aC n)):=by
 have key:=fk P L [0,1,5] pP
  (fun k st=>∃(m:Nat) (s:List Nat),st=⟨[(0,aa m),(1,aa 1),(5,.str s)],[],0,0⟩/\m<=n/\m+(1-s.length)=k/\s.length<=20/\((s=[]/\m=n)\/(0<s.length/\(m=0->s=aC n)/\(0<m->aC n=aC m++s))))
  (fun ex st=>∃tm ct,st=⟨tm,[],ct,0⟩/\ex=.exit 0/\ai tm 5=.str (aC n)) ?_
 .unfold af;rw[aF h];simp only[go_sem,BW];generalize hq:D P L (.loop _ pP) _=q;obtain⟨ex,st,rfl,tm,ct,rfl,rfl,h2⟩:=aW hq (key (n+1)) ⟨n,[],by simp only[go_sem,ya,ae]<;>rfl,by lia,rfl,by simp,.inl ⟨rfl,rfl⟩⟩
  simp only[go_sem,ae,h2]
 .rintro k st ⟨m,s,rfl,hm,hk,hl,hs⟩;by_cases A5:0<m\/s.length<1
  .left
   have hc:((decide ((0:Int)<m))=ycN)\/((decide ((0:Int)<m))=ycO/\((s.length:Nat):Int)<1):=by
    by_cases h0:0<m
    .exact .inl (xo (by lia))
    .exact .inr ⟨yW (by lia),by lia⟩
   have hr:((m:Int)).tmod 10=((m%10:Nat):Int):=by rw[xH (by lia)];rfl
   have hq:((m:Int)).tdiv 10=((m/10:Nat):Int):=by rw[xR (by lia)];rfl
   have hd:=abm (r:=m%10) (by lia);have fin:∃s' k',D P L pP ⟨[(0,aa m),(1,aa 1),(5,.str s)],[],0,0⟩=GW (.normal,s')/\k'<k/\bq [0,1,5] s'=⟨[(0,aa (m/10:Nat)),(1,aa 1),(5,.str ([48+m%10]++s))],[],0,0⟩/\m/10+(1-([48+m%10]++s).length)=k':=by
    rcases hc with hc | ⟨hc,A0⟩
    .have hc:(0:Int)<m:=of_decide_eq_true hc
     simp only[go_sem,ya,yb,pP,hc,fF _ _ _ (show (10:Int)≠0 by decide),dl _ _ _ (show (10:Int)≠0 by decide),hr,hq,wrapN (n:=m%10+1) (by lia),wrap64 (n:=((m/10:Nat):Int)) (by lia) (by lia),eZ,dU,show ((m%10:Nat):Int)+1=((m%10+1:Nat):Int) from rfl,hd,ik (a:=[48+m%10]) (b:=s) (by simp;lia)]
     refine⟨_,_,rfl,?_,by simp only[go_sem,ya,ae],rfl⟩
     simp;lia
    .have hc:¬(0:Int)<m:=of_decide_eq_false hc
     simp only[go_sem,ya,yb,pP,hc,A0,fF _ _ _ (show (10:Int)≠0 by decide),dl _ _ _ (show (10:Int)≠0 by decide),hr,hq,wrapN (n:=m%10+1) (by lia),wrap64 (n:=((m/10:Nat):Int)) (by lia) (by lia),eZ,dU,show ((m%10:Nat):Int)+1=((m%10+1:Nat):Int) from rfl,hd,ik (a:=[48+m%10]) (b:=s) (by simp;lia)]
     refine⟨_,_,rfl,?_,by simp only[go_sem,ya,ae],rfl⟩
     simp;lia
   have⟨s',k',f1,f2,f3,f4⟩:=fin;refine⟨s',k',f1,f2,m/10,[48+m%10]++s,f3,by lia,f4,?_,.inr ⟨by simp,fun h0=>?_,fun h0=>?_⟩⟩
   .have aEI:=Pd (n:=n) (by lia);rcases hs with ⟨rfl,rfl⟩ | ⟨h1,h2,h3⟩
    .simp
    .by_cases h0:0<m
     .have e:=congrArg tY (h3 h0);have e2:0<(aC m).length:=by
       by_cases h9:m<10
       .rw [qY h9];simp
       .rw [zh h9];simp
      simp only[yM] at e
      simp;lia
     .lia
   .have h9:m<10:=by lia
    rcases hs with ⟨rfl,rfl⟩ | ⟨h1,h2,h3⟩
    .rw [qY h9,yY h9];rfl
    .have:0<m:=by lia
     rw[h3 this,qY h9,yY h9]
   .have h9:¬m<10:=by lia
    rcases hs with ⟨rfl,rfl⟩ | ⟨h1,h2,h3⟩
    .rw [zh h9];simp
    .rw [h3 (by lia),zh h9];simp
  .right
   simp only[go_sem,ya,pP,show ¬(0:Int)<m by lia,show ¬((s.length:Nat):Int)<1 by lia];refine⟨_,_,rfl,by simp,_,_,rfl,rfl,?_⟩;simp only[go_sem,ya];rcases hs with ⟨rfl,rfl⟩ | ⟨h1,h2,h3⟩
   .simp at A5
   .rw [h2 (by lia)]
def azh(h:Has P L 291 M6){a b:Nat}(ha:a<9223372036854775808)(hb:b<9223372036854775808):af P L 291 [aa a,aa b] (aa (wL a b)):=by
 have key:=fk P L [0,1] Ly
  (fun k st=>∃x y:Nat,st=⟨[(0,aa x),(1,aa y)],[],0,0⟩/\y=k/\wL x y=wL a b)
  (fun ex st=>∃tm ct,st=⟨tm,[],ct,0⟩/\ex=.exit 0/\ai tm 0=aa (wL a b)) ?_
 .unfold af;rw[aF h];simp only[go_sem,M6];generalize hq:D P L (.loop _ Ly) _=q;obtain⟨ex,st,rfl,tm,ct,rfl,rfl,h2⟩:=aW hq (key b) ⟨a,b,by simp only[go_sem,ya,ae]<;>rfl,rfl,rfl⟩
  simp only[go_sem,ae,h2]
 .rintro k st ⟨x,y,rfl,rfl,hg⟩;by_cases hy:y=0
  .right
   subst hy;simp only[go_sem,ya,Ly,show ¬(0:Int)<((0:Nat):Int) by lia];refine⟨_,_,rfl,by simp,_,_,rfl,rfl,?_⟩;simp only[go_sem,ya];rw[<-hg,Nat.gcd_zero_right]
  .left
   have hr:((x:Int)).tmod y=((x%y:Nat):Int):=by rw[xH (by lia)];rfl
   simp only[go_sem,ya,Ly,show (0:Int)<y by lia,fF _ _ _ (show (y:Int)≠0 by lia),hr];refine⟨_,x%y,rfl,xO _ (by lia),y,x%y,by simp only[go_sem,ya,ae],rfl,?_⟩;rw[<-hg,tU y,<-ycz,tU]
def IK(h:Has P L 272 M3){s:List Nat}(hl:s.length<9223372036854775808):af P L 272 [.str s] (aa (bZ s)):=by
 have key:=fk P L [0,3] Hx
  (fun k st=>∃i:Nat,st=⟨[(0,.str s),(3,aa i)],[],0,0⟩/\i+k=s.length/\i+bZ (s.drop i)=bZ s)
  (fun ex st=>∃tm ct,st=⟨tm,[],ct,0⟩/\((ex=.ret/\ai tm 2=aa (bZ s))\/(ex=.exit 0/\ai tm 0=.str s/\bZ s=s.length))) ?_
 .unfold af;rw[aF h];simp only[go_sem,M3];generalize hq:D P L (.loop _ Hx) _=q;obtain⟨ex,st,rfl,tm,ct,rfl,h2⟩:=aW hq (key s.length) ⟨0,by simp only[go_sem,ya,ae]<;>rfl,by lia,by simp⟩
  rcases h2 with ⟨rfl,h2⟩ | ⟨rfl,h2,h3⟩
  .simp only [go_sem,h2]
  .simp only [go_sem,ae,h2,h3]
 .rintro k st ⟨i,rfl,hk,hs⟩;by_cases hi:i<s.length
  .rw [ak4 hi] at hs;by_cases h7:s[i]=47
   .right
    rw[yK h7] at hs;simp only[go_sem,ya,Hx,show (i:Int)<s.length by lia,zj hi,show ((s[i]:Nat):Int)=47 by lia];refine⟨_,_,rfl,by simp,_,_,rfl,.inl ⟨rfl,?_⟩⟩;simp only[go_sem];rw[<-hs];rfl
   .left
    rw[yI h7] at hs;simp only[go_sem,ya,Hx,show (i:Int)<s.length by lia,zj hi,show ¬((s[i]:Nat):Int)=47 by lia];refine⟨_,k-1,rfl,by lia,i+1,?_,by lia,by lia⟩;rw[wrap64 (by lia) (by lia)];simp only[go_sem,ya,ae]<;>rfl
  .right
   simp only[go_sem,ya,Hx,show ¬(i:Int)<s.length by lia];refine⟨_,_,rfl,by simp,_,_,rfl,.inr ⟨rfl,rfl,?_⟩⟩;rw[yZ (by lia)] at hs;simp only[bZ] at hs
   lia
def Nl(h:Has P L 290 Iw){s:List Nat}{v:Nat}(hl:s.length<=18)(hv:cQ s 0=GW v):af P L 290 [.str s] (aa v):=by
 have key:=fk P L [0,3,4] Lx
  (fun k st=>∃i a:Nat,st=⟨[(0,.str s),(3,aa a),(4,aa i)],[],0,0⟩/\i+k=s.length/\a<10^i/\cQ (s.drop i) a=GW v)
  (fun ex st=>∃tm ct,st=⟨tm,[],ct,0⟩/\ex=.exit 0/\ai tm 3=aa v) ?_
 .unfold af;rw[aF h];simp only[go_sem,Iw];generalize hq:D P L (.loop _ Lx) _=q;obtain⟨ex,st,rfl,tm,ct,rfl,rfl,h2⟩:=aW hq (key s.length) ⟨0,0,by simp only[go_sem,ya,ae]<;>rfl,by lia,by simp,hv⟩
  simp only[go_sem,ae,h2]
 .rintro k st ⟨i,a,rfl,hk,ha,hs⟩;by_cases hi:i<s.length
  .left
   have⟨h1,h2,h3⟩:=ank hi hs;have hp:10^i<=10^17:=xe (by decide) (by lia);have hb:IntKind.wrap .i64 ((s[i]:Nat):Int)=((s[i]:Nat):Int):=wrap64 (by lia) (by lia)
   simp only[go_sem,ya,Lx,show (i:Int)<s.length by lia,zj hi,arJ,hb,wrap64 (n:=10*(a:Int)) (by lia) (by lia),wrap64 (n:=10*(a:Int)+(s[i]:Nat)) (by lia) (by lia),wrap64 (n:=10*(a:Int)+(s[i]:Nat)-48) (by lia) (by lia)];refine⟨_,k-1,rfl,by lia,i+1,10*a+(s[i]-48),?_,by lia,?_,h3⟩
   .rw [wrap64 (by lia) (by lia),show 10*(a:Int)+(s[i]:Nat)-48=((10*a+(s[i]-48):Nat):Int) by lia];simp only[go_sem,ya,ae]<;>rfl
   .rw [xt];lia
  .right
   simp only[go_sem,ya,Lx,show ¬(i:Int)<s.length by lia];refine⟨_,_,rfl,by simp,_,_,rfl,rfl,?_⟩;rw[yZ (by lia)] at hs;simp only[cQ,yd] at hs;subst hs;simp only[go_sem,ya]
def P5(a:Int):(if 0-a>a then 0-a else a)=(a.natAbs:Int):=by lia
def PJ(a b:Int):a.tdiv (vh a b:Nat)=dF a b:=yaG (yag a b)
def PK(a b:Int):b.tdiv (vh a b:Nat)=dN a b:=yaG (tZ a b)
def pE(n:Int):(if n<0 then [45] else [])++aC n.natAbs=aV n:=by
 split
 .rename_i h;rw[oz h];rfl
 .rename_i h;obtain⟨m,rfl⟩:∃m:Nat,n=m:=⟨n.toNat,by lia⟩;rfl
def apy{n:Int}(h:n.natAbs<18446744073709551616):(aV n).length<=21:=by
 rw[<-pE]
 have:=Pd h
 grind
def arK{a b:Int}(hb:0<b):rU a b=(if 1<dN a b then (aV (dF a b)++[47])++aC (dN a b).natAbs else aV (dF a b)):=by
 have h:=KQ (a:=a) hb;unfold rU;by_cases h1:dN a b=1
 .grind
 .rw [yI h1,yK (by lia)];obtain⟨m,hm⟩:∃m:Nat,dN a b=m:=⟨(dN a b).toNat,by lia⟩;rw[hm];rfl
def azi(h:Has P L 277 FU)(Xo:Has P L 291 M6)(rV:Has P L 292 BW){a b:Int}(ha: -4000000000000000000<=a/\a<=4000000000000000000)(hb:0<b/\b<=4000000000000000000):
  af P L 277 [aa a,aa b] (.str (rU a b)):=by
 have hn:=ac1 a b;have hd:=ac2 a b;have hp:=KQ (a:=a) hb.1;have e1:=azh Xo (a:=a.natAbs) (b:=b.natAbs) (by lia) (by lia);have e2:=Xn rV (n:=(dF a b).natAbs) (by lia);have e3:=Xn rV (n:=(dN a b).natAbs) (by lia);have hg:=P4 (a:=a) hb.1;rw[show ((b.natAbs:Nat):Int)=b by lia,show wL a.natAbs b.natAbs=vh a b from rfl] at e1;rw[show (((dN a b).natAbs:Nat):Int)=dN a b by lia] at e3;have jn:=apy (n:=dF a b) (by lia);have jb:=Pd (n:=(dF a b).natAbs) (by lia);have hl3:=Pd (n:=(dN a b).natAbs) (by lia);have hT:=arK (a:=a) hb.1;have hS:=pE (dF a b);unfold af at e1 e2 e3 ⊢;rw[aF h];by_cases h0:dF a b<0
 .rw [yK h0] at hS;by_cases h1:1<dN a b
  .rw [yK h1] at hT
   simp only[go_sem,ya,FU,show ¬a< -4000000000000000000 by lia,show ¬4000000000000000000<a by lia,show ¬b< -4000000000000000000 by lia,show ¬4000000000000000000<b by lia,show ¬b<0 by lia,wrap64 (n:=0-a) (by lia) (by lia),E5,KP,P5,e1,dl _ _ _ (show ((vh a b:Nat):Int)≠0 by lia),PJ,PK,wrap64 (n:=dF a b) (by lia) (by lia),wrap64 (n:=dN a b) (by lia) (by lia),h0,wrap64 (n:=0-dF a b) (by lia) (by lia),e2,ik (a:=[45]) (b:=aC (dF a b).natAbs) (by simp;lia),hS,h1,ik (a:=aV (dF a b)) (b:=[47]) (by simp;lia),e3,ik (a:=aV (dF a b)++[47]) (b:=aC (dN a b).natAbs) (by simp;lia),hT]
  .rw [yI h1] at hT
   simp only[go_sem,ya,FU,show ¬a< -4000000000000000000 by lia,show ¬4000000000000000000<a by lia,show ¬b< -4000000000000000000 by lia,show ¬4000000000000000000<b by lia,show ¬b<0 by lia,wrap64 (n:=0-a) (by lia) (by lia),E5,KP,P5,e1,dl _ _ _ (show ((vh a b:Nat):Int)≠0 by lia),PJ,PK,wrap64 (n:=dF a b) (by lia) (by lia),wrap64 (n:=dN a b) (by lia) (by lia),h0,wrap64 (n:=0-dF a b) (by lia) (by lia),e2,ik (a:=[45]) (b:=aC (dF a b).natAbs) (by simp;lia),hS,h1,hT]
 .rw [yI h0] at hS;by_cases h1:1<dN a b
  .rw [yK h1] at hT
   simp only[go_sem,ya,FU,show ¬a< -4000000000000000000 by lia,show ¬4000000000000000000<a by lia,show ¬b< -4000000000000000000 by lia,show ¬4000000000000000000<b by lia,show ¬b<0 by lia,wrap64 (n:=0-a) (by lia) (by lia),E5,KP,P5,e1,dl _ _ _ (show ((vh a b:Nat):Int)≠0 by lia),PJ,PK,wrap64 (n:=dF a b) (by lia) (by lia),wrap64 (n:=dN a b) (by lia) (by lia),h0,wrap64 (n:=0-dF a b) (by lia) (by lia),e2,ik (a:=[]) (b:=aC (dF a b).natAbs) (by simp;lia),hS,h1,ik (a:=aV (dF a b)) (b:=[47]) (by simp;lia),e3,ik (a:=aV (dF a b)++[47]) (b:=aC (dN a b).natAbs) (by simp;lia),hT]
  .rw [yI h1] at hT
   simp only[go_sem,ya,FU,show ¬a< -4000000000000000000 by lia,show ¬4000000000000000000<a by lia,show ¬b< -4000000000000000000 by lia,show ¬4000000000000000000<b by lia,show ¬b<0 by lia,wrap64 (n:=0-a) (by lia) (by lia),E5,KP,P5,e1,dl _ _ _ (show ((vh a b:Nat):Int)≠0 by lia),PJ,PK,wrap64 (n:=dF a b) (by lia) (by lia),wrap64 (n:=dN a b) (by lia) (by lia),h0,wrap64 (n:=0-dF a b) (by lia) (by lia),e2,ik (a:=[]) (b:=aC (dF a b).natAbs) (by simp;lia),hS,h1,hT]
def TT(n:Int)(d:Nat):List Nat:=aV n++(if d=1 then [] else 47::aC d)
def arL{a b:Int}(hb:0<b):rU a b=TT (dF a b) (dN a b).toNat:=by
 have h:=KQ (a:=a) hb;unfold rU TT;by_cases h1:dN a b=1
 .grind
 .rw [yI h1,yI (by lia)];obtain⟨m,hm⟩:∃m:Nat,dN a b=m:=⟨(dN a b).toNat,by lia⟩;rw[hm,xJ];rfl
def Br(n:Nat):0<(aC n).length:=by
 by_cases h:n<10
 .rw [qY h];simp
 .rw [zh h];simp
def K2:∀(n:Nat),n<10^(aC n).length:=by
 intro n
 induction n using vQ with
 | _ n ih=>
  by_cases h:n<10
  .rw [qY h];simpa using h
  .have:=ih (n/10) (by lia)
   rw[zh h,yM,tz,xt]
   lia
def ac4{n:Nat}(h:(aC n).length<=9):n<1000000000:=
 yR (K2 n) (by simpa using xe (show 0<10 by decide) h)
def G4(n:Nat):∃b r,aC n=b::r/\48<=b/\b<=57:=by
 cases hq:aC n with
 | nil=>have:=Br n;rw[hq] at this;simp at this
 | cons b r=>
  have:=KI n
  rw[hq] at this;simp only[dA,ye] at this
  simp_all
def FZ(s:List Nat):oJ 0 (.str (45::s))=GW (.int .u8 45):=rfl
def VN(q:Bool)(n:Int)(d:Nat):AV:=if q=ycN then .av [aa n,aa d,.bool ycN] else .av [aa 0,aa 0,.bool ycO]
def BH(d:Nat):List Nat:=if d=1 then [] else 47::aC d
def alQ(d:Nat):bZ (BH d)=0:=by unfold BH;split<;>rfl
def azj(h:Has P L 276 rR)(Dv:Has P L 272 M3)(BY:Has P L 290 Iw){n:Int}{d:Nat}(hl:(TT n d).length<=20000000000):
  ∃q:Bool,af P L 276 [.str (TT n d)] (VN q n d)/\(q=ycN->n.natAbs<1000000000/\d<1000000000):=by
 generalize hs:TT n d=s at hl;by_cases oX:20<s.length
 .refine ⟨ycO,?_,fun h=>by cases h⟩;unfold af;rw[aF h];simp only[go_sem,ya,rR,show (20:Int)<s.length by lia];rfl
 .have hu:∃u,u=aC n.natAbs++BH d:=⟨_,rfl⟩;have⟨u,hu⟩:=hu;have hK:∃K,K=(aC n.natAbs).length:=⟨_,rfl⟩;have⟨K,hK⟩:=hK;have I7:bZ u=K:=by rw[hu,OY _ (KI _),alQ,hK];rfl
  have hlen:u.length=K+(BH d).length:=by rw[hu,hK,yM]
  have hp:=Br n.natAbs;have⟨b,r,hb,jQ,A6⟩:=G4 n.natAbs;have Gx:(n<0/\s=45::u)\/(¬n<0/\s=u):=by
   by_cases h0:n<0
   .left;refine⟨h0,?_⟩;rw[<-hs,hu,TT,oz h0];rfl
   .right;refine⟨h0,?_⟩;rw[<-hs,hu,TT,<-pE,yI h0];rfl
  have hul:u.length<=s.length:=by rcases Gx with ⟨_,e⟩ | ⟨_,e⟩<;>rw[e]<;>simp
  have D0:0<u.length:=by lia
  have zM:u[0]=b:=by
   have:u=b::(r++BH d):=by rw[hu,hb];rfl
   simp[this]
  have e1:=IK Dv (s:=u) (by lia);rw[I7] at e1;have dW:ja u (GW 0) (GW K)=GW (.str (aC n.natAbs)):=by
   rw[mL (by lia) (by lia),yg,hu,hK,List.take_left]
  unfold af at e1;by_cases h9:9<K
  .refine ⟨ycO,?_,fun h=>by cases h⟩;unfold af;rw[aF h];rcases Gx with ⟨h0,e⟩ | ⟨h0,e⟩
   .have oX:¬20<u.length+1:=by rw[e] at oX;exact oX
    have gG:ja (45::u) (GW 1) (GW (u.length+1))=GW (.str u):=by rw[mL (s:=45::u) (l:=1) (h:=u.length+1) (by lia) (by simp)];simp
    rw[e];simp only[go_sem,ya,rR,show ¬(20:Int)<((u.length+1:Nat):Int) by lia,show (0:Int)<((u.length+1:Nat):Int) by lia,FZ,eZ,fG,dU,gG,e1,show (9:Int)<(K:Int) by lia];rfl
   .rw [e];simp only[go_sem,ya,rR,show ¬(20:Int)<(u.length:Nat) by lia,show (0:Int)<(u.length:Nat) by lia,zj D0,zM,show ¬((b:Nat):Int)=45 by lia,e1,show (9:Int)<(K:Int) by lia];rfl
  .by_cases iO:10<(BH d).length
   .refine ⟨ycO,?_,fun h=>by cases h⟩;unfold af;rw[aF h];rcases Gx with ⟨h0,e⟩ | ⟨h0,e⟩
    .have oX:¬20<u.length+1:=by rw[e] at oX;exact oX
     have gG:ja (45::u) (GW 1) (GW (u.length+1))=GW (.str u):=by rw[mL (s:=45::u) (l:=1) (h:=u.length+1) (by lia) (by simp)];simp
     rw[e]
     simp only[go_sem,ya,rR,show ¬(20:Int)<((u.length+1:Nat):Int) by lia,show (0:Int)<((u.length+1:Nat):Int) by lia,FZ,eZ,fG,dU,gG,e1,show ¬(9:Int)<(K:Int) by lia,wrap64 (n:=(u.length:Int)-(K:Int)) (by lia) (by lia),show (10:Int)<(u.length:Int)-(K:Int) by lia];rfl
    .rw [e]
     simp only[go_sem,ya,rR,show ¬(20:Int)<(u.length:Nat) by lia,show (0:Int)<(u.length:Nat) by lia,zj D0,zM,show ¬((b:Nat):Int)=45 by lia,e1,show ¬(9:Int)<(K:Int) by lia,wrap64 (n:=(u.length:Int)-(K:Int)) (by lia) (by lia),show (10:Int)<(u.length:Int)-(K:Int) by lia];rfl
   .have e2:=Nl BY (s:=aC n.natAbs) (by lia) (EA n.natAbs);unfold af at e2;have hm:=ac4 (n:=n.natAbs) (by lia);by_cases hd:d=1
    .subst hd;have qI:BH 1=[]:=rfl;refine⟨ycN,?_,fun _=>⟨hm,by decide⟩⟩;rw[qI] at hlen;simp only[yN,xd] at hlen;unfold af;rw[aF h];rcases Gx with ⟨h0,e⟩ | ⟨h0,e⟩
     .have oX:¬20<u.length+1:=by rw[e] at oX;exact oX
      have gG:ja (45::u) (GW 1) (GW (u.length+1))=GW (.str u):=by rw[mL (s:=45::u) (l:=1) (h:=u.length+1) (by lia) (by simp)];simp
      rw[e]
      simp only[go_sem,ya,rR,show ¬(20:Int)<((u.length+1:Nat):Int) by lia,show (0:Int)<((u.length+1:Nat):Int) by lia,FZ,eZ,fG,dU,gG,e1,show ¬(9:Int)<(K:Int) by lia,wrap64 (n:=(u.length:Int)-(K:Int)) (by lia) (by lia),show ¬(10:Int)<(u.length:Int)-(K:Int) by lia,dW,e2,show ¬(K:Int)<(u.length:Int) by lia,wrap64 (n:=0-(n.natAbs:Int)) (by lia) (by lia)];rw[show 0-(n.natAbs:Int)=n by lia];rfl
     .rw [e]
      simp only[go_sem,ya,rR,show ¬(20:Int)<(u.length:Nat) by lia,show (0:Int)<(u.length:Nat) by lia,zj D0,zM,show ¬((b:Nat):Int)=45 by lia,eZ,fG,dU,e1,show ¬(9:Int)<(K:Int) by lia,wrap64 (n:=(u.length:Int)-(K:Int)) (by lia) (by lia),show ¬(10:Int)<(u.length:Int)-(K:Int) by lia,dW,e2,show ¬(K:Int)<(u.length:Int) by lia];rw[show (n.natAbs:Int)=n by lia];rfl
    .have qI:BH d=47::aC d:=yI hd;have On:(BH d).length=(aC d).length+1:=by rw[qI];rfl
     have hpd:=Br d;have hd9:=ac4 (n:=d) (by lia);have e3:=Nl BY (s:=aC d) (by lia) (EA d);unfold af at e3;have A0:ja u (GW (K+1)) (GW u.length)=GW (.str (aC d)):=by
      rw[mL (by lia) (yz _),xP,hu,qI,hK,show (aC n.natAbs).length+1=(aC n.natAbs++[47]).length by simp,show aC n.natAbs++47::aC d=(aC n.natAbs++[47])++aC d by simp,List.drop_left]
     refine⟨ycN,?_,fun _=>⟨hm,hd9⟩⟩;unfold af;rw[aF h];rcases Gx with ⟨h0,e⟩ | ⟨h0,e⟩
     .have oX:¬20<u.length+1:=by rw[e] at oX;exact oX
      have gG:ja (45::u) (GW 1) (GW (u.length+1))=GW (.str u):=by rw[mL (s:=45::u) (l:=1) (h:=u.length+1) (by lia) (by simp)];simp
      rw[e]
      simp only[go_sem,ya,rR,show ¬(20:Int)<((u.length+1:Nat):Int) by lia,show (0:Int)<((u.length+1:Nat):Int) by lia,FZ,eZ,fG,dU,gG,e1,show ¬(9:Int)<(K:Int) by lia,wrap64 (n:=(u.length:Int)-(K:Int)) (by lia) (by lia),show ¬(10:Int)<(u.length:Int)-(K:Int) by lia,dW,e2,show (K:Int)<(u.length:Int) by lia,wrapN (n:=K+1) (by lia),show (K:Int)+1=((K+1:Nat):Int) from rfl,A0,e3,wrap64 (n:=0-(n.natAbs:Int)) (by lia) (by lia)];rw[show 0-(n.natAbs:Int)=n by lia];rfl
     .rw [e]
      simp only[go_sem,ya,rR,show ¬(20:Int)<(u.length:Nat) by lia,show (0:Int)<(u.length:Nat) by lia,zj D0,zM,show ¬((b:Nat):Int)=45 by lia,eZ,fG,dU,e1,show ¬(9:Int)<(K:Int) by lia,wrap64 (n:=(u.length:Int)-(K:Int)) (by lia) (by lia),show ¬(10:Int)<(u.length:Int)-(K:Int) by lia,dW,e2,show (K:Int)<(u.length:Int) by lia,wrapN (n:=K+1) (by lia),show (K:Int)+1=((K+1:Nat):Int) from rfl,A0,e3];rw[show (n.natAbs:Int)=n by lia];rfl
def Xp(h:Has P L 302 AG){v:AV}{l:List Int}(hv:bh v l)(i:Nat):af P L 302 [v,aa i] (aa (l.getD i 0)):=by
 unfold af;rw[aF h];by_cases hi:i<l.length
 .simp only [go_sem,ya,AG,hv.len,show (i:Int)<l.length by lia,hv.a6 hi];simp[yU,xf hi]
 .simp only [go_sem,ya,AG,hv.len,show ¬(i:Int)<l.length by lia];simp[yU,List.getElem?_eq_none (Nat.le_of_not_lt hi)]
def ad8{hp:Hp}{e:Bool}{n:Nat}{cs:List AV}{tm:Env}{h:Nat}{x:X}(hx:db tm n (GW x)=GW h)(hh:h<=n):
  fN hp (.sl 1) (.ap e n cs) tm GX (GW x)=GW (.ap (e&&yp h n) h (cs.take h)):=by
 simp only[fN,hx,fG];simp[yB hh,slice];rw[show yJ 0 h=ycN from yB (tk _)];rfl
def Dw(h:Has P L 300 nc){v:AV}{l:List Int}(hv:bh v l)(hl:l.length<=20000000000):∃r,af P L 300 [v] r/\bh r (eB l)/\shut r=r:=by
 rcases hv with ⟨rfl,h0⟩ | ⟨e,rfl⟩
 .have:l=[]:=by simpa using h0
  subst this;refine⟨.ab,?_,q8,rfl⟩;unfold af;rw[aF h];simp only[go_sem,ya,nc,Qm,EZ,ae,show ¬(0:Int)<0 by decide]
 .have key:=fk P L [0] EZ
   (fun k st=>∃(i:Nat) (e:Bool),st=⟨[(0,.ap e i ((l.take i).map aa))],[],0,0⟩/\i<=l.length/\i=k/\eB (l.take i)=eB l)
   (fun ex st=>∃tm ct,st=⟨tm,[],ct,0⟩/\ex=.exit 0/\∃i e,ai tm 0=.ap e i ((l.take i).map aa)/\i<=l.length/\l.take i=eB l) ?_
  .have hlen:(l.map aa).length=l.length:=by simp
   rw[hlen];have jL:∃i e',af P L 300 [.ap e l.length (l.map aa)] (.ap e' i ((l.take i).map aa))/\i<=l.length/\l.take i=eB l:=by
    unfold af;rw[aF h];simp only[go_sem,nc];generalize hq:D P L (.loop _ EZ) _=q;obtain⟨ex,st,rfl,tm,ct,rfl,rfl,i,e',h2,h3,h4⟩:=aW hq (key l.length) ⟨l.length,e,by simp only[go_sem,ya,ae,xP],yz _,rfl,by rw[xP]⟩;simp only[go_sem,ae,h2];exact⟨i,e',rfl,h3,h4⟩
   have⟨i,e',g1,g2,g3⟩:=jL;refine⟨_,g1,?_,rfl⟩;rw[<-g3]
   have:=lF e' (l.take i)
   rwa[yO,xA g2] at this
  .rintro k st ⟨i,e,rfl,hi,rfl,ht⟩
   cases i with
   | zero=>
    right
    simp only[go_sem,ya,EZ,show ¬(0:Int)<((0:Nat):Int) by lia];exact⟨_,_,rfl,by simp,_,_,rfl,rfl,0,e,rfl,tk _,by simpa[eB] using ht⟩
   | succ i=>
    have A7:i<l.length:=by lia
    have fo:l.take (i+1)=l.take i++[l[i]]:=yS A7;have jS:vW i ((l.take (i+1)).map aa)=[AV.int .i64 l[i]]:=by
     rw[fo,xu,tq (by simp;lia)];rfl
    have qM:fc 1 i (.ap e (i+1) ((l.take (i+1)).map aa))=GW (.bN [AV.int .i64 l[i]]):=by
     rw[K0 e _ (by lia),yi,jS]
    by_cases h0:l[i]=0
    .left
     have lM:∀tm x,db tm (i+1) (GW x)=GW i->fN [] (.sl 1) (.ap e (i+1) ((l.take (i+1)).map aa)) tm GX (GW x)=GW (.ap (e&&yp i (i+1)) i ((l.take i).map aa)):=fun tm x hx=>by
      rw[ad8 hx (by lia),<-yau,List.take_take,xA (by lia)]
     simp only[go_sem,ya,EZ,show (0:Int)<((i+1:Nat):Int) by lia,show ((i+1:Nat):Int)-1=(i:Int) by lia,wrapN (n:=i) (by lia),qM,h0,lM,dU];refine⟨_,i,rfl,by lia,i,_,by simp only[go_sem,ae]<;>rfl,by lia,rfl,?_⟩
     rw[<-ht,fo,h0,Ky]
    .right
     simp only[go_sem,ya,EZ,show (0:Int)<((i+1:Nat):Int) by lia,show ((i+1:Nat):Int)-1=(i:Int) by lia,wrapN (n:=i) (by lia),qM,h0];refine⟨_,_,rfl,by simp,_,_,rfl,rfl,i+1,e,rfl,by lia,?_⟩;rw[<-ht,fo,Pb h0]
section
variable {hp:Hp}{l:List Nat}{n x y:Nat}
def AI:(2^64)^(n+1)=(2^64)^n*2^64:=xt ..
open Go (IntKind)
abbrev uc(n:Nat):AV:=.int .u64 (n:Int)
def bJ(v:AV)(l:List Nat):Prop:=b6 v (l.map uc)
section
variable {v:AV}{l:List Nat}
def bJ.len(h:bJ v l):iW hp 1 v=GW (.int .i64 (l.length:Nat)):=by
 have:=b6.len (hp:=hp) h
 grind
def bJ.pu(h:bJ v l):aQ v=ycN:=b6.pu h
def bJ.ak(h:bJ v l)(n:Nat):freeze (n+1) hp v=GW (v,hp):=b6.ak h n
def bJ.shut(h:bJ v l):VE.shut v=v:=b6.shut h
def bJ.bA(h:bJ v l):VE.bA v=v:=b6.bA h
def bJ.eG(h:bJ v l):result hp v=GW v:=b6.eG h
def bJ.one(h:bJ v l):cY v=ycN:=b6.one h
def bJ.a6(h:bJ v l){i:Nat}(hi:i<l.length):fc 1 i v=GW (.bN (uc (l.getD i 0)::(l.map uc).drop (i+1))):=by
 have:=b6.a6 h (i:=i) (by simpa using hi)
 grind
def oB(e:Bool)(l:List Nat):bJ (.ap e l.length (l.map uc)) l:=by
 have:=ru e (l.map uc)
 rwa[yv] at this
def Af:bJ .ab []:=q8
end
def lZ{ct id o:Nat}{v:Nat}{ex:Bool}(h:o<l.length):dS hp ct id o 1 [.int .u64 (v:Int)] (GW (.cells ycN ycN ex 1 (l.map uc)))=GW (.av [],aY hp id (.cells ycN ycN ex 1 ((l.set o v).map uc)),ct):=by
 rw[zn (by rfl) (by simp;lia) (by rfl)]
 have:over o [uc v] (l.map uc)=(l.set o v).map uc:=by
  simp only[over,yx,yN,yf];rw[List.map_set,vn,yK (by simpa using h)]
  simp
 rw[this];rfl
def BI{o:Nat}(h:o<l.length):vW o (l.map uc)=uc (l.getD o 0)::vW (o+1) (l.map uc):=by
 rw[yT (by simpa using h)]
 grind
def arM(n:Nat):(yD n [AV.int .u64 0]).flatten=(yD n 0).map uc:=by simp_all
def F0(ct:Nat)(h:n<=100000000000):AH ct 1 8 [.int .u64 0] (GW n) (GW n)=GW (.aq ct 0 n,.cells ycN ycN ycN 1 ((yD n 0).map uc)):=by
 rw[HZ (sz:=1) (by lia) (by lia) (by rfl) (by rfl),arM];rfl
def Dx(hp:Hp)(h:l.length=n)(ex:Bool):kW 0 n (GW (ex,1,l.map uc,hp))=GW (.ap ex n (l.map uc),hp):=fL ex (by simp[h]) (by decide)
def afX(h:n<2^64):IntKind.wrap .u64 (n:Int)=n:=axT (by lia) (by lia)
section
variable {P:aG}{L:Lib}{f:cw}
def ml{a b:Nat}(h:a<b):yP a b=ycN:=by simp_all
def E6(h:L.pure 171=GW pO){c:Nat}(hx:x<2^64)(hy:y<2^64)(hc:c<=1):
  bS P L f 171 [uc x,uc y,uc c]=GW (.av [uc ((x+y+c)%2^64),uc ((x+y+c)/2^64)]):=by
 rw[j8 h];show (bif yJ c 1&&(yP x (2^64)&&yP y (2^64)) then _ else GX)=_
 rw[yB hc,ml hx,ml hy];rfl
def VO(h:L.pure 173=GW C1){c:Nat}(hx:x<2^64)(hy:y<2^64)(hc:c<=1):
  bS P L f 173 [uc x,uc y,uc c]=GW (.av [uc ((x+2^64*2-y-c)%2^64),uc (if y+c<=x then 0 else 1)]):=by
 rw[j8 h];show (bif yJ c 1&&(yP x (2^64)&&yP y (2^64)) then _ else GX)=_
 rw[yB hc,ml hx,ml hy];by_cases hh:y+c<=x
 .rw [yB hh,yK hh];rfl
 .have:yJ (y+c) x=ycO:=by
   cases hq:yJ (y+c) x with
   | false=>rfl
   | true=>exact absurd (yu hq) hh
  grind
def Qo(h:L.pure 143=GW Al)(hx:x<2^64)(hy:y<2^64):
  bS P L f 143 [uc x,uc y]=GW (.av [uc (x*y/2^64),uc (x*y%2^64)]):=by
 rw[j8 h];show (bif yP x (2^64)&&yP y (2^64) then _ else GX)=_
 rw[ml hx,ml hy];rfl
def apz{tm:Env}{x:X}(hx:db tm 0 (GW x)=GW 0):fN hp (.sl 1) .ab tm GX (GW x)=GW .ab:=by
 simp only[fN,hx,fG]
def Dy(h:Has P L 166 Dn){v:AV}(hv:bJ v l)(hl:l.length<=100000000000):∃r,af P L 166 [v] r/\bJ r (eC l):=by
 rcases hv with ⟨rfl,h0⟩ | ⟨e,rfl⟩
 .have:l=[]:=by simpa using h0
  subst this;refine⟨.ab,?_,q8⟩;unfold af;rw[aF h];simp only[go_sem,ya,Dn,Qm,EW,ae,show ¬(0:Int)<0 by decide,apz,dU]
 .have key:=fk P L [0,3] EW
   (fun k st=>∃(i:Nat),st=⟨[(0,.ap e l.length (l.map uc)),(3,aa i)],[],0,0⟩/\i<=l.length/\i=k/\eC (l.take i)=eC l)
   (fun ex st=>∃tm ct,st=⟨tm,[],ct,0⟩/\ex=.exit 0/\∃i:Nat,ai tm 0=.ap e l.length (l.map uc)/\ai tm 3=aa i/\i<=l.length/\l.take i=eC l) ?_
  .have hlen:(l.map uc).length=l.length:=by simp
   rw[hlen];have jL:∃i e',af P L 166 [.ap e l.length (l.map uc)] (.ap e' i ((l.take i).map uc))/\i<=l.length/\l.take i=eC l:=by
    unfold af;rw[aF h];simp only[go_sem,ya,Dn];generalize hq:D P L (.loop _ EW) _=q;obtain⟨ex,st,rfl,tm,ct,rfl,rfl,i,h2,h3,h4,h5⟩:=aW hq (key l.length) ⟨l.length,by simp only[go_sem,ya,ae],yz _,rfl,by rw[xP]⟩;have lM:∀tm x,db tm l.length (GW x)=GW i->fN [] (.sl 1) (.ap e l.length (l.map uc)) tm GX (GW x)=GW (.ap (e&&yp i l.length) i ((l.map uc).take i)):=fun tm x hx=>ad8 hx h4
    simp only[go_sem,ya,ae,h2,h3,lM,dU];exact⟨i,_,by rw[yau],h4,h5⟩
   have⟨i,e',g1,g2,g3⟩:=jL;refine⟨_,g1,?_⟩;rw[<-g3]
   have:=oB e' (l.take i)
   rwa[yO,xA g2] at this
  .rintro k st ⟨i,rfl,hi,rfl,ht⟩
   cases i with
   | zero=>
    right
    simp only[go_sem,ya,EW,show ¬(0:Int)<((0:Nat):Int) by lia];exact⟨_,_,rfl,by simp,_,_,rfl,rfl,0,rfl,rfl,tk _,by simpa[eC] using ht⟩
   | succ i=>
    have A7:i<l.length:=by lia
    have fo:l.take (i+1)=l.take i++[l[i]]:=yS A7;have qM:=(oB e l).a6 A7;rw[<-gd A7] at qM;by_cases h0:l[i]=0
    .left
     simp only[go_sem,ya,EW,show (0:Int)<((i+1:Nat):Int) by lia,show ((i+1:Nat):Int)-1=(i:Int) by lia,wrapN (n:=i) (by lia),qM,show ((l[i]:Nat):Int)=0 by lia];refine⟨_,i,rfl,by lia,i,by simp only[go_sem,ya,ae],by lia,rfl,?_⟩;rw[<-ht,fo,h0,Pc]
    .right
     simp only[go_sem,ya,EW,show (0:Int)<((i+1:Nat):Int) by lia,show ((i+1:Nat):Int)-1=(i:Int) by lia,wrapN (n:=i) (by lia),qM,show ¬((l[i]:Nat):Int)=0 by lia];refine⟨_,_,rfl,by simp,_,_,rfl,rfl,i+1,rfl,rfl,by lia,?_⟩;rw[<-ht,fo,G1 h0]
end
end
section
variable {v w:AV}{out x y:List Nat}
def Pe(p b s:Nat):p*(s%b)+p*b*(s/b)=p*s:=by
 rw[xm,<-xK,uk]
def anl{b:Nat}{i c:Nat}(hi:i<out.length)(hz:out.getD i 0=0)(hv:bv b out+b^i*c=bv b (x.take i)+bv b (y.take i)):
  bv b (out.set i ((x.getD i 0+y.getD i 0+c)%b))+b^(i+1)*((x.getD i 0+y.getD i 0+c)/b)=bv b (x.take (i+1))+bv b (y.take (i+1)):=by
 have h1:=pQ (b:=b) (x:=(x.getD i 0+y.getD i 0+c)%b) hi;have h2:=Pe (b^i) b (x.getD i 0+y.getD i 0+c);rw[hz,xI,xd] at h1;rw[kh,kh,xt,h1]
 grind
def anm{b:Nat}{i c z c':Nat}(hi:i<out.length)(hz:out.getD i 0=0)(hs:z+y.getD i 0+c=x.getD i 0+b*c')(hv:bv b out+bv b (y.take i)=bv b (x.take i)+b^i*c):
  bv b (out.set i z)+bv b (y.take (i+1))=bv b (x.take (i+1))+b^(i+1)*c':=by
 have h1:=pQ (b:=b) (x:=z) hi;rw[hz,xI,xd] at h1;rw[kh,kh,xt,h1]
 grind
def agX(h:Has P L 158 It)(hv:bJ v x)(hw:bJ w y)(hx:lo (2^64) x)(hy:lo (2^64) y)(nx:iz x)(ny:iz y)(lx:x.length<=100000000000)(ly:y.length<=100000000000):
  af P L 158 [v,w] (aa (dZ (bv (2^64) x) (bv (2^64) y))):=by
 unfold af;rw[aF h];by_cases hlen:x.length=y.length
 .have key:=fk P L [0,1,5] EV
   (fun k st=>∃j:Nat,st=⟨[(0,v),(1,w),(5,aa ((j:Int)-1))],[],0,0⟩/\j<=x.length/\j=k/\x.drop j=y.drop j)
   (fun ex st=>∃tm ct,st=⟨tm,[],ct,0⟩/\((ex=.ret/\ai tm 4=aa (dZ (bv (2^64) x) (bv (2^64) y)))\/(ex=.exit 0/\x=y))) ?_
  .simp only [go_sem,ya,It,hv.len,hw.len,show (x.length:Int)=y.length by lia];generalize hq:D P L (.loop _ EV) _=q;obtain⟨ex,st,rfl,tm,ct,rfl,h2⟩:=aW hq (key x.length) ⟨x.length,by
    rw[wrap64 (by lia) (by lia),hlen]
    simp only[go_sem,ya,ae,an hv.pu,an hw.pu]<;>rfl,yz _,rfl,by rw[yZ (yz _),yZ (by lia)]⟩
   rcases h2 with ⟨rfl,h2⟩ | ⟨rfl,h2⟩
   .simp only [go_sem,h2]
   .simp only [go_sem,ae];subst h2;simp[dZ]
  .rintro k st ⟨j,rfl,hj,rfl,he⟩
   cases j with
   | zero=>
    right
    simp only[go_sem,ya,EV,show ¬(0:Int)<=((0:Nat):Int)-1 by lia];exact⟨_,_,rfl,by simp,_,_,rfl,.inr ⟨rfl,by simpa using he⟩⟩
   | succ i=>
    have h1:i<x.length:=by lia
    have h2:i<y.length:=by lia
    have DU:=ad3 hx h1 h2 he;have aH:=ad3 hy h2 h1 he.symm;by_cases c0:x.getD i 0=y.getD i 0
    .left
     simp only[go_sem,ya,EV,show ((i+1:Nat):Int)-1=(i:Int) by lia,show (0:Int)<=(i:Int) by lia,hv.a6 h1,hw.a6 h2,c0];refine⟨_,i,rfl,by lia,i,?_,by lia,rfl,?_⟩
     .rw [wrap64 (by lia) (by lia)];simp only[go_sem,ya,ae,an hv.pu,an hw.pu]<;>rfl
     .rw [yT h1,yT h2,he,gd h1,gd h2,c0]
    .by_cases c1:x.getD i 0<y.getD i 0
     .right
      simp only[go_sem,ya,EV,show ((i+1:Nat):Int)-1=(i:Int) by lia,show (0:Int)<=(i:Int) by lia,hv.a6 h1,hw.a6 h2,show ¬((x.getD i 0:Nat):Int)=(y.getD i 0:Nat) by lia,show ((x.getD i 0:Nat):Int)<(y.getD i 0:Nat) by lia];refine⟨_,_,rfl,by simp,_,_,rfl,.inl ⟨rfl,?_⟩⟩;simp only[go_sem];unfold dZ;rw[yK (DU c1)]
     .right
      simp only[go_sem,ya,EV,show ((i+1:Nat):Int)-1=(i:Int) by lia,show (0:Int)<=(i:Int) by lia,hv.a6 h1,hw.a6 h2,show ¬((x.getD i 0:Nat):Int)=(y.getD i 0:Nat) by lia,show ¬((x.getD i 0:Nat):Int)<(y.getD i 0:Nat) by lia];refine⟨_,_,rfl,by simp,_,_,rfl,.inl ⟨rfl,?_⟩⟩;simp only[go_sem];unfold dZ;rw[yI (by lia),yK (by lia)]
 .by_cases c1:x.length<y.length
  .have:=P2 (b:=2^64) (by decide) hx ny c1
   simp only[go_sem,ya,It,hv.len,hw.len,show ¬(x.length:Int)=y.length by lia,show (x.length:Int)<y.length by lia];unfold dZ;rw[yK this]
  .have:=P2 (b:=2^64) (by decide) hy nx (show y.length<x.length by lia)
   simp only[go_sem,ya,It,hv.len,hw.len,show ¬(x.length:Int)=y.length by lia,show ¬(x.length:Int)<y.length by lia];unfold dZ;rw[yI (by lia),yK this]
def aeA(iv:L.pure 171=GW pO)(hv:bJ v x)(hw:bJ w y)(hx:lo (2^64) x)(hy:lo (2^64) y)(lx:x.length<=99999999999)(ly:y.length<=x.length){n:Nat}(hn:n=x.length+1):
  bP P L [0,1,5,6,21,22] EU (fun k s=>∃(i c:Nat) (out:List Nat),s=⟨[(0,v),(1,w),(5,.aq 0 0 n),(6,uc c),(21,aa x.length),(22,aa i)],[(0,.cells ycN ycN ycN 1 (out.map uc))],1,0⟩/\i+k=x.length/\out.length=n/\c<=1/\lo (2^64) out/\
    bv (2^64) out+(2^64)^i*c=bv (2^64) (x.take i)+bv (2^64) (y.take i)/\(∀m,i<=m->out.getD m 0=0)) (fun ex s'=>∃tm c out,s'=⟨tm,[(0,.cells ycN ycN ycN 1 (out.map uc))],1,0⟩/\ex=.exit 0/\ai tm 0=v/\ai tm 5=.aq 0 0 n/\ai tm 6=uc c/\out.length=n/\c<=1/\lo (2^64) out/\
    bv (2^64) out+(2^64)^x.length*c=bv (2^64) x+bv (2^64) y/\out.getD x.length 0=0):=by
 apply bQ;rintro k s ⟨i,c,out,rfl,hk,hlen,hc,bf,aO,ie⟩;by_cases hi:i<x.length
 .left
  have hz:=ie i (yz _);have mo:=anl (x:=x) (y:=y) (show i<out.length by lia) hz aO;have gx:=iI (show 0<2^64 by decide) hx i;have gy:=iI (show 0<2^64 by decide) hy i;have e1:=E6 (P:=P) (f:=D P L) iv gx gy hc;have ex:=hv.a6 hi;generalize x.getD i 0=p at*
  by_cases hj:i<y.length
  .have ey:=hw.a6 hj;generalize y.getD i 0=q at*
   simp only[go_sem,ya,yi,EU,hw.len,show (i:Int)<x.length by lia,show (i:Int)<y.length by lia,ex,ey,e1,dn 0 0 (show i<n by lia),yf,lZ (l:=out) (o:=i) (by lia)]
   refine⟨_,k-1,rfl,by lia,i+1,(p+q+c)/2^64,_,?_,by lia,by simp[hlen],by lia,nK bf (x:=(p+q+c)%2^64) (i:=i) (by lia),mo,fun m hm=>?_⟩
   .rw [wrap64 (by lia) (by lia)];simp only[go_sem,ya,yb,ae,an hv.pu,an hw.pu]<;>rfl
   .rw [rq (by lia)];exact ie m (by lia)
  .have lj:y.getD i 0=0:=VJ (by lia);rw[lj] at mo e1;rw[show (uc 0)=AV.int .u64 0 from rfl] at e1
   simp only[go_sem,ya,yi,EU,hw.len,show (i:Int)<x.length by lia,show ¬(i:Int)<y.length by lia,ex,e1,dn 0 0 (show i<n by lia),yf,lZ (l:=out) (o:=i) (by lia)]
   refine⟨_,k-1,rfl,by lia,i+1,(p+0+c)/2^64,_,?_,by lia,by simp[hlen],by lia,nK bf (x:=(p+0+c)%2^64) (i:=i) (by lia),mo,fun m hm=>?_⟩
   .rw [wrap64 (by lia) (by lia)];simp only[go_sem,ya,yb,ae,an hv.pu,an hw.pu]<;>rfl
   .rw [rq (by lia)];exact ie m (by lia)
 .right
  have:i=x.length:=by lia
  subst this;rw[xP,yq ly] at aO;simp only[go_sem,ya,EU,show ¬(x.length:Int)<x.length by lia];exact⟨_,_,rfl,by simp,_,c,out,rfl,rfl,rfl,rfl,rfl,hlen,hc,bf,aO,ie _ (yz _)⟩
def azk(h:Has P L 157 MT)(nX:Has P L 166 Dn)(iv:L.pure 171=GW pO)(hv:bJ v x)(hw:bJ w y)(hx:lo (2^64) x)(hy:lo (2^64) y)(lx:x.length<=99999999999)(ly:y.length<=99999999999):
  ∃r out,af P L 157 [v,w] r/\bJ r out/\lo (2^64) out/\iz out/\bv (2^64) out=bv (2^64) x+bv (2^64) y:=by
 have fin:∀{x y o:List Nat} {n c:Nat},n=x.length+1->x.length<=99999999999->o.length=n->c<=1->lo (2^64) o->bv (2^64) o+(2^64)^x.length*c=bv (2^64) x+bv (2^64) y->o.getD x.length 0=0->
   ∃r,bS P L (D P L) 166 [.ap ycN n ((o.set x.length c).map uc)]=GW r/\bJ r (eC (o.set x.length c))/\lo (2^64) (eC (o.set x.length c))/\iz (eC (o.set x.length c))/\bv (2^64) (eC (o.set x.length c))=bv (2^64) x+bv (2^64) y:=by
  intro x y o n c hn lx hlen hc bf aO hz;have aY:=pQ (b:=2^64) (l:=o) (i:=x.length) (x:=c) (by lia);rw[hz,xI,xd,aO] at aY;have azl:lo (2^64) (o.set x.length c):=nK bf (by lia);have hf:=oB ycN (o.set x.length c);rw[List.length_set,hlen] at hf;have⟨r,e1,hr⟩:=Dy nX hf (by simp;lia)
  exact⟨r,e1,hr,CN azl,CM _,by rw[CL];exact aY⟩
 by_cases hl:x.length<y.length
 .obtain ⟨n,hn⟩:∃n,n=y.length+1:=⟨_,rfl⟩;unfold af;rw[aF h]
  simp only[go_sem,ya,yb,MT,hv.len,hw.len,show (x.length:Int)<y.length by lia,wrapN (n:=n) (by lia),show (y.length:Int)+1=((y.length+1:Nat):Int) from rfl,<-hn,F0 (n:=n) _ (by lia)];generalize hq:D P L (.loop _ EU) _=q;obtain⟨ex,s,rfl,tm,c,o,rfl,rfl,t0,t5,t6,hlen,hc,bf,aO,hz⟩:=aW hq (aeA (P:=P) (L:=L) iv hw hv hy hx ly (by lia) hn y.length)
   ⟨0,0,yD n 0,by simp only[go_sem,ya,yb,ae,an hv.pu,an hw.pu]<;>rfl,by lia,by simp,by lia,HX (by decide) n,by rw[HY];simp[bv],fun m _=>EH n m⟩
  have⟨r,e1,hr,f1,f2,f3⟩:=fin hn ly hlen hc bf aO hz;refine⟨r,_,?_,hr,f1,f2,by rw[f3];lia⟩
  simp only[go_sem,ya,yi,ae,an hw.pu,hw.len,t0,t5,t6,dn 0 0 (show y.length<n by lia),yf,lZ (l:=o) (o:=y.length) (by lia)]
  simp only[go_sem,Dx _ (n:=n) (l:=o.set y.length c) (by simp[hlen]) ycN,e1,hr.shut,hr.eG]
 .obtain ⟨n,hn⟩:∃n,n=x.length+1:=⟨_,rfl⟩;unfold af;rw[aF h]
  simp only[go_sem,ya,yb,MT,hv.len,hw.len,show ¬(x.length:Int)<y.length by lia,wrapN (n:=n) (by lia),show (x.length:Int)+1=((x.length+1:Nat):Int) from rfl,<-hn,F0 (n:=n) _ (by lia)];generalize hq:D P L (.loop _ EU) _=q;obtain⟨ex,s,rfl,tm,c,o,rfl,rfl,t0,t5,t6,hlen,hc,bf,aO,hz⟩:=aW hq (aeA (P:=P) (L:=L) iv hv hw hx hy lx (by lia) hn x.length)
   ⟨0,0,yD n 0,by simp only[go_sem,ya,yb,ae,an hv.pu,an hw.pu]<;>rfl,by lia,by simp,by lia,HX (by decide) n,by rw[HY];simp[bv],fun m _=>EH n m⟩
  have⟨r,e1,hr,f1,f2,f3⟩:=fin hn lx hlen hc bf aO hz;refine⟨r,_,?_,hr,f1,f2,f3⟩
  simp only[go_sem,ya,yi,ae,an hv.pu,hv.len,t0,t5,t6,dn 0 0 (show x.length<n by lia),yf,lZ (l:=o) (o:=x.length) (by lia)]
  simp only[go_sem,Dx _ (n:=n) (l:=o.set x.length c) (by simp[hlen]) ycN,e1,hr.shut,hr.eG]
end
section
variable {v w:AV}{x y:List Nat}{c n:Nat}
def ann{b:Nat}{out:List Nat}{p j t o x y Y bo ba:Nat}(ho:o=out.getD j 0)(hj:j<out.length)(ht:t=o+x*y+c)(hv:bo+p*c=ba+p*(x*Y))(hb:bo=bv b out)(hp:p=b^j):
  bv b (out.set j (t%b))+p*b*(t/b)=ba+p*(x*(Y+0))+p*(x*y):=by
 have h1:=pQ (b:=b) (x:=t%b) hj;have h2:=Pe p b t
 grind
def UY{x y:Nat}(hx:x<2^64)(hy:y<2^64)(hc:c<=1):
  (x+2^64*2-y-c)%2^64+y+c=x+2^64*(if y+c<=x then 0 else 1):=by grind
def auT(AJ:L.pure 173=GW C1)(hv:bJ v x)(hw:bJ w y)(hx:lo (2^64) x)(hy:lo (2^64) y)(lx:x.length<=99999999999)(ly:y.length<=x.length)(hle:bv (2^64) y<=bv (2^64) x)(hn:n=x.length):
  bP P L [0,1,5,6,13,14] Ht (fun k s=>∃(i c:Nat) (out:List Nat),s=⟨[(0,v),(1,w),(5,.aq 0 0 n),(6,uc c),(13,aa x.length),(14,aa i)],[(0,.cells ycN ycN ycN 1 (out.map uc))],1,0⟩/\i+k=x.length/\out.length=n/\c<=1/\lo (2^64) out/\
    bv (2^64) out+bv (2^64) (y.take i)=bv (2^64) (x.take i)+(2^64)^i*c/\(∀m,i<=m->out.getD m 0=0)) (fun ex s'=>∃tm out,s'=⟨tm,[(0,.cells ycN ycN ycN 1 (out.map uc))],1,0⟩/\ex=.exit 0/\ai tm 5=.aq 0 0 n/\out.length=n/\lo (2^64) out/\
    bv (2^64) out+bv (2^64) y=bv (2^64) x):=by
 apply bQ;rintro k s ⟨i,c,out,rfl,hk,hlen,hc,bf,aO,ie⟩;by_cases hi:i<x.length
 .left
  have hz:=ie i (yz _);have gx:=iI (show 0<2^64 by decide) hx i;have gy:=iI (show 0<2^64 by decide) hy i;have A8:=UY gx gy hc;have mo:=anm (x:=x) (y:=y) (show i<out.length by lia) hz A8 aO;have e1:=VO (P:=P) (f:=D P L) AJ gx gy hc;have ex:=hv.a6 hi;generalize x.getD i 0=p at*
  have sL:(if y.getD i 0+c<=p then 0 else 1)<=1:=by split<;>lia
  by_cases hj:i<y.length
  .have ey:=hw.a6 hj;generalize y.getD i 0=q at*
   generalize (if q+c<=p then 0 else 1)=c1 at*
   simp only[go_sem,ya,xg,yi,Ht,hw.len,show (i:Int)<x.length by lia,show (i:Int)<y.length by lia,ex,ey,e1,dn 0 0 (show i<n by lia),yf,lZ (l:=out) (o:=i) (by lia)]
   refine⟨_,k-1,rfl,by lia,i+1,c1,_,?_,by lia,by simp[hlen],sL,nK bf (x:=(p+2^64*2-q-c)%2^64) (i:=i) (by lia),mo,fun m hm=>?_⟩
   .rw [wrap64 (by lia) (by lia)];simp only[go_sem,ya,yb,xg,ae,an hv.pu,an hw.pu]<;>rfl
   .rw [rq (by lia)];exact ie m (by lia)
  .have lj:y.getD i 0=0:=VJ (by lia);rw[lj] at mo e1 sL;rw[show (uc 0)=AV.int .u64 0 from rfl] at e1;generalize (if 0+c<=p then 0 else 1)=c1 at*
   simp only[go_sem,ya,xg,yi,Ht,hw.len,show (i:Int)<x.length by lia,show ¬(i:Int)<y.length by lia,ex,e1,dn 0 0 (show i<n by lia),yf,lZ (l:=out) (o:=i) (by lia)]
   refine⟨_,k-1,rfl,by lia,i+1,c1,_,?_,by lia,by simp[hlen],sL,nK bf (x:=(p+2^64*2-0-c)%2^64) (i:=i) (by lia),mo,fun m hm=>?_⟩
   .rw [wrap64 (by lia) (by lia)];simp only[go_sem,ya,yb,xg,ae,an hv.pu,an hw.pu]<;>rfl
   .rw [rq (by lia)];exact ie m (by lia)
 .right
  have:i=x.length:=by lia
  subst this;rw[xP,yq ly] at aO;have aH:=nR bf;rw[hlen,hn] at aH;simp only[go_sem,ya,Ht,show ¬(x.length:Int)<x.length by lia];refine⟨_,_,rfl,by simp,_,out,rfl,rfl,rfl,hlen,bf,?_⟩;rcases (show c=0\/c=1 by lia) with rfl | rfl
  .lia
  .lia
def agY(h:Has P L 159 RA)(nX:Has P L 166 Dn)(AJ:L.pure 173=GW C1)(hv:bJ v x)(hw:bJ w y)(hx:lo (2^64) x)(hy:lo (2^64) y)(ny:iz y)(lx:x.length<=99999999999)(hle:bv (2^64) y<=bv (2^64) x):
  ∃r out,af P L 159 [v,w] r/\bJ r out/\lo (2^64) out/\iz out/\bv (2^64) out+bv (2^64) y=bv (2^64) x:=by
 have ly:y.length<=x.length:=by
  by_cases hh:x.length<y.length
  .have:=P2 (b:=2^64) (by decide) hx ny hh
   lia
  .lia
 obtain⟨n,hn⟩:∃n,n=x.length:=⟨_,rfl⟩;unfold af;rw[aF h]
 simp only[go_sem,ya,yb,RA,hv.len,<-hn,F0 (n:=n) _ (by lia)];generalize hq:D P L (.loop _ Ht) _=q;obtain⟨ex,s,rfl,tm,o,rfl,rfl,t5,hlen,bf,aO⟩:=aW hq (auT (P:=P) (L:=L) AJ hv hw hx hy lx ly hle hn x.length)
  ⟨0,0,yD n 0,by rw[hn];simp only[go_sem,ya,yb,ae,an hv.pu,an hw.pu]<;>rfl,by lia,by simp,by lia,HX (by decide) n,by rw[HY];simp[bv],fun m _=>EH n m⟩
 have hf:=oB ycN o;rw[hlen] at hf;have⟨r,e1,hr⟩:=Dy nX hf (by lia);refine⟨r,_,?_,hr,CN bf,CM _,by rw[CL];exact aO⟩
 simp only[go_sem,yb,ae,t5,Dx _ (n:=n) (l:=o) hlen ycN,e1,hr.shut,hr.eG]
def apA{x y o:Nat}(hx:x<2^64)(hy:y<2^64)(ho:o<2^64)(hc:c<2^64):
  o+x*y+c<2^64*2^64/\
  ((x*y%2^64+o+0)%2^64+c+0)%2^64=(o+x*y+c)%2^64/\
  x*y/2^64+(x*y%2^64+o+0)/2^64+((x*y%2^64+o+0)%2^64+c+0)/2^64=(o+x*y+c)/2^64:=by
 have h1:=xF (show x<=18446744073709551615 by lia) (show y<=18446744073709551615 by lia)
 grind
def auU(nY:L.pure 143=GW Al)(iv:L.pure 171=GW pO)(hv:bJ v x)(hw:bJ w y)(hx:lo (2^64) x)(hy:lo (2^64) y)(lx:x.length<=49999999999)(ly:y.length<=49999999999){i:Nat}(hn:n=x.length+y.length)(hi:i<x.length){a:Nat}(ha:a<2^64){bo:Nat}:
  bP P L [1,5,6,7,8,20,21,22,27,28,29] Lm (fun k s=>∃(j c:Nat) (out:List Nat),s=⟨[(1,w),(5,.aq 0 0 n),(6,aa i),(7,uc a),(8,uc c),(20,v),(21,aa x.length),(22,aa i),(27,w),(28,aa y.length),(29,aa j)],[(0,.cells ycN ycN ycN 1 (out.map uc))],1,0⟩/\j+k=y.length/\out.length=n/\c<2^64/\lo (2^64) out/\
    bv (2^64) out+(2^64)^(i+j)*c=bo+(2^64)^i*(a*bv (2^64) (y.take j))/\(∀m,i+y.length<=m->out.getD m 0=0)) (fun ex s'=>∃tm c out,s'=⟨tm,[(0,.cells ycN ycN ycN 1 (out.map uc))],1,0⟩/\ex=.exit 2/\ai tm 1=w/\ai tm 5=.aq 0 0 n/\ai tm 6=aa i/\ai tm 8=uc c/\ai tm 20=v/\ai tm 21=aa x.length/\ai tm 22=aa i/\out.length=n/\c<2^64/\lo (2^64) out/\
    bv (2^64) out+(2^64)^(i+y.length)*c=bo+(2^64)^i*(a*bv (2^64) y)/\(∀m,i+y.length<=m->out.getD m 0=0)):=by
 apply bQ;rintro k s ⟨j,c,out,rfl,hk,hlen,hc,bf,aO,ie⟩;by_cases hj:j<y.length
 .left
  have sK:(0:Nat)<2^64:=by decide
  have gy:=iI sK hy j;have oY:=iI sK bf (i+j);have ey:=hw.a6 hj;have e3:=BI (l:=out) (o:=i+j) (by lia);obtain⟨q,hq⟩:∃q,q=y.getD j 0:=⟨_,rfl⟩;obtain⟨o,ho⟩:∃o,o=out.getD (i+j) 0:=⟨_,rfl⟩;rw[<-hq] at gy ey;rw[<-ho] at oY e3;have⟨m1,m2,m3⟩:=apA ha gy oY hc;have hpy:a*q<2^64*2^64:=by lia
  have f1:=Qo (P:=P) (f:=D P L) nY ha gy;have f2:=E6 (P:=P) (f:=D P L) iv (x:=a*q%2^64) (y:=o) (c:=0) (xO _ sK) oY (by lia);have f3:=E6 (P:=P) (f:=D P L) iv (x:=(a*q%2^64+o+0)%2^64) (y:=c) (c:=0) (xO _ sK) hc (by lia);obtain⟨t,ht⟩:∃t,t=o+a*q+c:=⟨_,rfl⟩;have mo:=ann (b:=2^64) (out:=out) (p:=(2^64)^(i+j)) (j:=i+j) (c:=c) (t:=t) (x:=a) (y:=q) (Y:=0) (ba:=bo+(2^64)^i*(a*bv (2^64) (y.take j))) ho (by lia) ht (by simpa using aO) rfl rfl;rw[m2,<-ht] at f3;rw[<-ht] at m1 m3;obtain⟨d1,sM⟩:∃d,d=(a*q%2^64+o+0)/2^64:=⟨_,rfl⟩;obtain⟨d2,js⟩:∃d,d=((a*q%2^64+o+0)%2^64+c+0)/2^64:=⟨_,rfl⟩;rw[<-sM] at f2 m3;rw[<-js] at f3 m3;rw[show (uc 0)=AV.int .u64 0 from rfl] at f2 f3;obtain⟨h1,iQ⟩:∃d,d=a*q/2^64:=⟨_,rfl⟩;rw[<-iQ] at f1 m3;have nn:h1+d1<2^64:=by lia
  have zL:h1+d1+d2<2^64:=by lia
  simp only[go_sem,ya,yi,Lm,show (j:Int)<y.length by lia,ey,f1,wrapN (n:=i+j) (by lia),show (i:Int)+(j:Int)=((i+j:Nat):Int) from rfl,dn 0 0 (show i+j<n by lia),yf,e3,f2,f3,show (h1:Int)+(d1:Int)=((h1+d1:Nat):Int) from rfl,afX nn,show ((h1+d1:Nat):Int)+(d2:Int)=((h1+d1+d2:Nat):Int) from rfl,afX zL,lZ (l:=out) (o:=i+j) (by lia)]
  refine⟨_,k-1,rfl,by lia,j+1,h1+d1+d2,_,?_,by lia,by simp[hlen],zL,nK bf (x:=t%2^64) (i:=i+j) (xO _ sK),?_,fun m hm=>?_⟩
  .rw [wrap64 (by lia) (by lia)];simp only[go_sem,ya,yb,ae,an hv.pu,an hw.pu]<;>rfl
  .rw [m3,show i+(j+1)=i+j+1 by lia,AI,kh,<-hq,xK a,xK ((2^64)^i)];simp only[xI,xd] at mo;rw[mo,xL,<-Nat.add_assoc,xm ((2^64)^i),<-xm a,xz a ((2^64)^j),xm]
  .rw [rq (by lia)];exact ie m hm
 .right
  have:j=y.length:=by lia
  subst this;rw[xP] at aO;simp only[go_sem,ya,Lm,show ¬(y.length:Int)<y.length by lia];exact⟨_,_,rfl,by simp,_,c,out,rfl,rfl,rfl,rfl,rfl,rfl,rfl,rfl,rfl,hlen,hc,bf,aO,ie⟩
def auV(nY:L.pure 143=GW Al)(iv:L.pure 171=GW pO)(hv:bJ v x)(hw:bJ w y)(hx:lo (2^64) x)(hy:lo (2^64) y)(lx:x.length<=49999999999)(ly:y.length<=49999999999)(hn:n=x.length+y.length):
  bP P L [1,5,20,21,22] Ln (fun k s=>∃(i:Nat) (out:List Nat),s=⟨[(1,w),(5,.aq 0 0 n),(20,v),(21,aa x.length),(22,aa i)],[(0,.cells ycN ycN ycN 1 (out.map uc))],1,0⟩/\i+k=x.length/\out.length=n/\lo (2^64) out/\
    bv (2^64) out=bv (2^64) (x.take i)*bv (2^64) y/\(∀m,i+y.length<=m->out.getD m 0=0)) (fun ex s'=>∃tm out,s'=⟨tm,[(0,.cells ycN ycN ycN 1 (out.map uc))],1,0⟩/\ex=.exit 0/\ai tm 5=.aq 0 0 n/\out.length=n/\lo (2^64) out/\
    bv (2^64) out=bv (2^64) x*bv (2^64) y):=by
 apply bQ;rintro k s ⟨i,out,rfl,hk,hlen,bf,aO,ie⟩;by_cases hi:i<x.length
 .left
  have gx:=iI (show 0<2^64 by decide) hx i;have ex:=hv.a6 hi;obtain⟨a,ha⟩:∃a,a=x.getD i 0:=⟨_,rfl⟩;simp only[go_sem,ya,Ln,hw.len,show (i:Int)<x.length by lia,ex];generalize hq:D P L (.loop _ Lm) _=q;obtain⟨ex,s,rfl,tm,c,AK,rfl,rfl,t1,t5,t6,t8,t20,t21,t22,Wz,hc,azm,WA,Nn⟩:=aW hq (auU (P:=P) (L:=L) nY iv hv hw hx hy lx ly hn hi gx (bo:=bv (2^64) out) y.length)
   ⟨0,0,out,by simp only[go_sem,ya,yb,ae,an hv.pu,an hw.pu]<;>rfl,by lia,hlen,by decide,bf,by simp[bv],ie⟩
  have hz:AK.getD (i+y.length) 0=0:=Nn _ (yz _);have aY:=pQ (b:=2^64) (l:=AK) (i:=i+y.length) (x:=c) (by lia);rw[hz,xI,xd,WA] at aY
  simp only[go_sem,ya,yi,ae,t1,t5,t6,t8,t20,t21,t22,hw.len,an hv.pu,an hw.pu,wrapN (n:=i+y.length) (by lia),show (i:Int)+(y.length:Int)=((i+y.length:Nat):Int) from rfl,dn 0 0 (show i+y.length<n by lia),yf,lZ (l:=AK) (o:=i+y.length) (by lia)];refine⟨_,k-1,rfl,by lia,i+1,AK.set (i+y.length) c,?_,by lia,by simp[Wz],nK azm hc,?_,fun m hm=>?_⟩
  .rw [wrap64 (by lia) (by lia)];simp only[go_sem,ya,yb,ae,an hv.pu,an hw.pu]<;>rfl
  .rw [aY,aO,kh,wg,<-ha,xm]
  .rw [rq (by lia)];exact Nn m (by lia)
 .right
  have:i=x.length:=by lia
  subst this;rw[xP] at aO;simp only[go_sem,ya,Ln,show ¬(x.length:Int)<x.length by lia];exact⟨_,_,rfl,by simp,_,out,rfl,rfl,rfl,hlen,bf,aO⟩
def azn(h:Has P L 144 Ry)(nX:Has P L 166 Dn)(nY:L.pure 143=GW Al)(iv:L.pure 171=GW pO)(hv:bJ v x)(hw:bJ w y)(hx:lo (2^64) x)(hy:lo (2^64) y)(lx:x.length<=49999999999)(ly:y.length<=49999999999):
  ∃r out,af P L 144 [v,w] r/\bJ r out/\lo (2^64) out/\iz out/\bv (2^64) out=bv (2^64) x*bv (2^64) y:=by
 obtain⟨n,hn⟩:∃n,n=x.length+y.length:=⟨_,rfl⟩;unfold af;rw[aF h]
 simp only[go_sem,ya,yb,Ry,hv.len,hw.len,wrapN (n:=n) (by lia),show (x.length:Int)+(y.length:Int)=((x.length+y.length:Nat):Int) from rfl,<-hn,F0 (n:=n) _ (by lia)];generalize hq:D P L (.loop _ Ln) _=q;obtain⟨ex,s,rfl,tm,o,rfl,rfl,t5,hlen,bf,aO⟩:=aW hq (auV (P:=P) (L:=L) nY iv hv hw hx hy lx ly hn x.length)
  ⟨0,yD n 0,by simp only[go_sem,ya,yb,ae,an hv.pu,an hw.pu]<;>rfl,by lia,by simp,HX (by decide) n,by rw[HY];simp[bv],fun m _=>EH n m⟩
 have hf:=oB ycN o;rw[hlen] at hf;have⟨r,e1,hr⟩:=Dy nX hf (by lia);refine⟨r,_,?_,hr,CN bf,CM _,by rw[CL];exact aO⟩
 simp only[go_sem,yb,ae,t5,Dx _ (n:=n) (l:=o) hlen ycN,e1,hr.shut,hr.eG]
end
section
variable {b s u u2 v1 v2 y:Nat}
def QP(n:Int):IntKind.wrap .u64 n=n%2^64:=by
 simp[IntKind.wrap,IntKind.signed,IntKind.bits]
def wrapM(n:Nat):IntKind.wrap .u64 (n:Int)=((n%2^64:Nat):Int):=by rw[QP];lia
def rW(a b:Nat):binOp .mul (uc a) (uc b)=GW (uc (a*b%2^64)):=by
 rw[ad7,<-xk,wrapM]
def Dk(a b:Nat):binOp .add (uc a) (uc b)=GW (uc ((a+b)%2^64)):=by
 rw[ad6,<-Int.natCast_add,wrapM]
def F1{a c:Nat}(h:(a+2^64-b)%2^64=c)(hb:b<=2^64):binOp .sub (uc a) (uc b)=GW (uc c):=by
 rw[P3,QP]
 grind
def auW(k k':xj)(a b:Int):binOp .shl (.int k a) (.int k' b)=EE .shl k a b:=rfl
def auX(k k':xj)(a b:Int):binOp .shr (.int k a) (.int k' b)=EE .shr k a b:=rfl
def No(k:xj)(a:Nat)(hs:s<=64):binOp .shl (.int .u64 (a:Int)) (.int k (s:Int))=GW (uc (a*2^s%2^64)):=by
 rw[auW];simp only[EE,yI (show ¬(s:Int)<0 by lia),wa,IntKind.bits,xA hs];rw[show ((2:Int)^s)=((2^s:Nat):Int) by simp,<-xk,wrapM]
def Np(k:xj)(a:Nat)(hs:s<=64):binOp .shr (.int .u64 (a:Int)) (.int k (s:Int))=GW (uc (a/2^s)):=by
 rw[auX];simp only[EE,yI (show ¬(s:Int)<0 by lia),wa,IntKind.bits,xA hs]
 grind
def agZ(a:Nat):binOp .and (.int .u64 (a:Int)) (.int .u64 4294967295)=GW (uc (a%4294967296)):=by
 show GW (AV.int .u64 (IntKind.wrap .u64 ((wu 64 (a:Int)&&&wu 64 4294967295).toNat:Int)))=_
 rw[show wu 64 (a:Int)=tA 64 a from tB 64 a,show wu 64 4294967295=tA 64 4294967295 from rfl];rw[BitVec.toNat_and,ua,ua,show (4294967295%2^64:Nat)=2^32-1 from rfl,Nat.and_two_pow_sub_one_eq_mod,wrapM]
 grind
def Zd{a:Nat}(ha:a<2^64)(hb:b<2^64):binOp .or (.int .u64 (a:Int)) (.int .u64 (b:Int))=GW (uc (a|||b)):=by
 show GW (AV.int .u64 (IntKind.wrap .u64 ((wu 64 (a:Int)|||wu 64 (b:Int)).toNat:Int)))=_
 congr 2
 rw[show wu 64 (a:Int)=tA 64 a from tB 64 a,show wu 64 (b:Int)=tA 64 b from tB 64 b];rw[BitVec.toNat_or,ua,ua,yY (show a<2^64 from ha),yY (show b<2^64 from hb),wrapM]
 have:a|||b<2^64:=Nat.or_lt_two_pow ha hb
 lia
def VP{p c:Nat}(h:c<2^s):(p*2^s)|||c=p*2^s+c:=by
 rw[<-Nat.shiftLeft_eq,<-Nat.shiftLeft_add_eq_or_of_lt h]
def abn:∀(f n:Nat),n<2^f->eY f n<=f/\n<2^eY f n/\(0<n->0<eY f n/\2^(eY f n-1)<=n)
 | 0,n,h=>by simp[eY];simpa using h
 | f+1,n,h=>by
  simp only[eY];by_cases h0:n=0
  .simp_all
  .rw [iG h0,yX];have⟨h1,h2,h3⟩:=abn f (n/2) (by lia);refine⟨by lia,?_,fun _=>⟨by lia,?_⟩⟩
   .grind
   .rw [Nat.add_sub_cancel_left];by_cases hn:0<n/2
    .have ⟨h4,h5⟩:=h3 hn;obtain⟨m,hm⟩:∃m,eY f (n/2)=m+1:=⟨eY f (n/2)-1,by lia⟩
     grind
    .have hz:n/2=0:=by lia
     have:eY f 0=0:=by cases f with
      | zero=>rfl
      | succ f=>rfl
     grind
def UZ(h0:0<y)(h:y<2^64):64-eY 64 y<64/\9223372036854775808<=y*2^(64-eY 64 y)/\y*2^(64-eY 64 y)<2^64:=by
 have⟨h1,h2,h3⟩:=abn 64 y h;have⟨h4,h5⟩:=h3 h0;generalize eY 64 y=k at*
 refine⟨by lia,?_,?_⟩
 .have:=yQ (2^(64-k)) h5
  rw[<-xL,show k-1+(64-k)=63 by lia] at this;exact this
 .have:=xZ h2 (xr (64-k))
  rw[<-xL,show k+(64-k)=64 by lia] at this;exact this
section
variable {P:aG}{L:Lib}{f:cw}
def aeB(h:L.pure 167=GW Ia){x:Nat}(hx:x<2^64):bS P L f 167 [uc x]=GW (aa (64-eY 64 x:Nat)):=by
 rw[j8 h];show (bif yP x (2^64) then _ else GX)=_
 rw[ml hx];rfl
def ano{t r:Nat}(de:v2<b)(lY:t<b)(ht:t*v1+r=u)(h:b<=r\/t*v2<=b*r+u2):t*(v1*b+v2)<=u*b+u2:=by
 have h2:t*v2<=b*r+u2:=by
  rcases h with h | h
  .have:=xF (uI lY) (uI de)
   have:=xa b h
   lia
  .exact h
 rw[xK,<-xm,<-ht,wg,xz r b];lia
def axU(n:Nat):kC (.toInt .u64) (.int .i64 (n:Int))=GW (uc (n%2^64)):=by
 show GW (AV.int .u64 (IntKind.wrap .u64 (n:Int)))=_
 rw[wrapM]
def aaR{q r:Nat}(hy:y=v1*4294967296+v2)(de:v2<4294967296)(Ji:0<v1)(fC:v1<4294967296)(hu:u<y)(Cj:u2<4294967296)(hq:q*v1+r=u)(hr:r<4294967296)(hQ:(u*4294967296+u2)/y<=q):
  (4294967296<=q\/4294967296*r+u2<q*v2->0<q/\(q-1)*v1+(r+v1)=u/\(u*4294967296+u2)/y<=q-1/\(4294967296<=r+v1->(u*4294967296+u2)/y=q-1))/\
  (¬4294967296<=q->q*v2<=4294967296*r+u2->(u*4294967296+u2)/y=q):=by
 have lj:0<y:=by lia
 have S5:∀t s,t*v1+s=u->4294967296<=t->s<4294967296:=fun t s h1 h2=>by
  have:=yQ v1 h2
  grind
 have aeC:∀t s,t*v1+s=u->t<4294967296->(4294967296<=s\/t*v2<=4294967296*s+u2)->(u*4294967296+u2)/y<=t->(u*4294967296+u2)/y=t:=fun t s h1 h2 h3 h4=>by
  have:=ano de h2 h1 h3
  rw[<-hy] at this
  have:=(tE lj).2 this
  lia
 constructor
 .intro h;have zP:0<q:=by
   grind
  have h1:(q-1)*v1+(r+v1)=u:=by
   obtain⟨p,rfl⟩:∃p,q=p+1:=⟨q-1,by lia⟩
   grind
  have h2:(u*4294967296+u2)/y<=q-1:=by
   have aH:u*4294967296+u2<q*y:=by
    rcases h with h | h
    .have h3:u*4294967296+u2<4294967296*y:=by lia
     exact yR h3 (yQ y h)
    .rw [hy,xK,<-xm,<-hq,wg,xz r];lia
   have:=(xM lj).2 aH
   lia
  exact⟨zP,h1,h2,fun h3=>aeC _ _ h1 (by
   by_cases hb:4294967296<=q-1
   .have:=S5 _ _ h1 hb;lia
   .lia) (.inl h3) h2⟩
 .intro h1 h2;exact aeC q r hq (by lia) (.inr h2) hQ
def auY{z:Nat}(hy:y=v1*4294967296+v2)(de:v2<4294967296)(Ji:0<v1)(fC:v1<4294967296)(hu:u<y)(Cj:u2<4294967296):
  bP P L [2,8,9,10,11,13,14,15,16] C2 (fun k st=>∃q r:Nat,st=⟨[(2,uc y),(8,uc s),(9,uc v1),(10,uc v2),(11,uc u),(13,uc u2),(14,uc z),(15,uc q),(16,uc r)],[],0,0⟩/\q*v1+r=u/\r<4294967296/\(u*4294967296+u2)/y<=q/\q=k) (fun ex st'=>∃tm ct,st'=⟨tm,[],ct,0⟩/\ex=.exit 0/\ai tm 2=uc y/\ai tm 8=uc s/\ai tm 9=uc v1/\ai tm 10=uc v2/\ai tm 11=uc u/\ai tm 13=uc u2/\ai tm 14=uc z/\ai tm 15=uc ((u*4294967296+u2)/y)):=by
 apply bQ;rintro k st ⟨q,r,rfl,hq,hr,hQ,rfl⟩;have⟨g1,g2⟩:=aaR hy de Ji fC hu Cj hq hr hQ;have hqb:q*1<=q*v1:=xa q Ji;have azo:=yQ 4294967296 (show v1<=4294967295 by lia);have qO:q<2^64:=by lia
 have YM:=xa 4294967296 (show r<=4294967295 by lia);have e1:=rW 4294967296 r;rw[show uc 4294967296=AV.int .u64 4294967296 from rfl,yY (show 4294967296*r<2^64 by lia)] at e1;have e2:=Dk (4294967296*r) u2;rw[yY (show 4294967296*r+u2<2^64 by lia)] at e2;have e4:=Dk r v1;rw[yY (show r+v1<2^64 by lia)] at e4;by_cases hc:4294967296<=q\/4294967296*r+u2<q*v2
 .have ⟨h0,h1,h2,h3⟩:=g1 hc;have e3:binOp .sub (uc q) (.int .u64 1)=GW (uc (q-1)):=F1 (b:=1) (by lia) (by lia);by_cases hb:4294967296<=r+v1
  .right
   have Cl:=h3 hb;rcases (show 4294967296<=q\/(¬4294967296<=q/\4294967296*r+u2<q*v2) by lia) with t1 | ⟨t1,t2⟩
   .simp only [go_sem,ya,C2,show (4294967296:Int)<=(q:Int) by lia,e3,e4,show (4294967296:Int)<=((r+v1:Nat):Int) by lia];exact⟨_,_,rfl,by simp,_,_,rfl,rfl,rfl,rfl,rfl,rfl,rfl,rfl,rfl,by rw[Cl];simp only[go_sem,ya]⟩
   .have Ze:=xF (show q<=4294967295 by lia) (show v2<=4294967295 by lia);have e5:=rW q v2;rw[yY (show q*v2<2^64 by lia)] at e5;simp only[go_sem,ya,C2,show ¬(4294967296:Int)<=(q:Int) by lia,e5,e1,e2,show ((4294967296*r+u2:Nat):Int)<((q*v2:Nat):Int) by lia,e3,e4,show (4294967296:Int)<=((r+v1:Nat):Int) by lia];exact⟨_,_,rfl,by simp,_,_,rfl,rfl,rfl,rfl,rfl,rfl,rfl,rfl,rfl,by rw[Cl];simp only[go_sem,ya]⟩
  .left
   rcases (show 4294967296<=q\/(¬4294967296<=q/\4294967296*r+u2<q*v2) by lia) with t1 | ⟨t1,t2⟩
   .simp only [go_sem,ya,C2,show (4294967296:Int)<=(q:Int) by lia,e3,e4,show ¬(4294967296:Int)<=((r+v1:Nat):Int) by lia];exact⟨_,q-1,rfl,by lia,q-1,r+v1,by simp only[go_sem,ya,ae],h1,by lia,h2,rfl⟩
   .have Ze:=xF (show q<=4294967295 by lia) (show v2<=4294967295 by lia);have e5:=rW q v2;rw[yY (show q*v2<2^64 by lia)] at e5;simp only[go_sem,ya,C2,show ¬(4294967296:Int)<=(q:Int) by lia,e5,e1,e2,show ((4294967296*r+u2:Nat):Int)<((q*v2:Nat):Int) by lia,e3,e4,show ¬(4294967296:Int)<=((r+v1:Nat):Int) by lia];exact⟨_,q-1,rfl,by lia,q-1,r+v1,by simp only[go_sem,ya,ae],h1,by lia,h2,rfl⟩
 .right
  have Cl:=g2 (by lia) (by lia);have e5:=rW q v2;rw[yY (show q*v2<2^64 by lia)] at e5;simp only[go_sem,ya,C2,show ¬(4294967296:Int)<=(q:Int) by lia,e5,e1,e2,show ¬((4294967296*r+u2:Nat):Int)<((q*v2:Nat):Int) by lia];exact⟨_,_,rfl,by simp,_,_,rfl,rfl,rfl,rfl,rfl,rfl,rfl,rfl,rfl,by rw[Cl];simp only[go_sem,ya]⟩
end
end
section
variable {P:aG}{L:Lib}{f:cw}
def auZ{y s v1 v2 u u2 z:Nat}(hy:y=v1*4294967296+v2)(de:v2<4294967296)(Ji:0<v1)(fC:v1<4294967296)(hu:u<y)(Cj:u2<4294967296):
  bP P L [2,8,9,10,14,15,16,17,18] C3 (fun k st=>∃q r:Nat,st=⟨[(2,uc y),(8,uc s),(9,uc v1),(10,uc v2),(14,uc u2),(15,uc z),(16,uc r),(17,uc u),(18,uc q)],[],0,0⟩/\q*v1+r=u/\r<4294967296/\(u*4294967296+u2)/y<=q/\q=k) (fun ex st'=>∃tm ct,st'=⟨tm,[],ct,0⟩/\ex=.exit 2/\ai tm 2=uc y/\ai tm 8=uc s/\ai tm 9=uc v1/\ai tm 10=uc v2/\ai tm 14=uc u2/\ai tm 15=uc z/\ai tm 17=uc u/\ai tm 18=uc ((u*4294967296+u2)/y)):=by
 apply bQ;rintro k st ⟨q,r,rfl,hq,hr,hQ,rfl⟩;have⟨g1,g2⟩:=aaR hy de Ji fC hu Cj hq hr hQ;have hqb:q*1<=q*v1:=xa q Ji;have azo:=yQ 4294967296 (show v1<=4294967295 by lia);have qO:q<2^64:=by lia
 have YM:=xa 4294967296 (show r<=4294967295 by lia);have e1:=rW 4294967296 r;rw[show uc 4294967296=AV.int .u64 4294967296 from rfl,yY (show 4294967296*r<2^64 by lia)] at e1;have e2:=Dk (4294967296*r) u2;rw[yY (show 4294967296*r+u2<2^64 by lia)] at e2;have e4:=Dk r v1;rw[yY (show r+v1<2^64 by lia)] at e4;by_cases hc:4294967296<=q\/4294967296*r+u2<q*v2
 .have ⟨h0,h1,h2,h3⟩:=g1 hc;have e3:binOp .sub (uc q) (.int .u64 1)=GW (uc (q-1)):=F1 (b:=1) (by lia) (by lia);by_cases hb:4294967296<=r+v1
  .right
   have Cl:=h3 hb;rcases (show 4294967296<=q\/(¬4294967296<=q/\4294967296*r+u2<q*v2) by lia) with t1 | ⟨t1,t2⟩
   .simp only [go_sem,ya,C3,show (4294967296:Int)<=(q:Int) by lia,e3,e4,show (4294967296:Int)<=((r+v1:Nat):Int) by lia];exact⟨_,_,rfl,by simp,_,_,rfl,rfl,rfl,rfl,rfl,rfl,rfl,rfl,rfl,by rw[Cl];simp only[go_sem,ya]⟩
   .have Ze:=xF (show q<=4294967295 by lia) (show v2<=4294967295 by lia);have e5:=rW q v2;rw[yY (show q*v2<2^64 by lia)] at e5;simp only[go_sem,ya,C3,show ¬(4294967296:Int)<=(q:Int) by lia,e5,e1,e2,show ((4294967296*r+u2:Nat):Int)<((q*v2:Nat):Int) by lia,e3,e4,show (4294967296:Int)<=((r+v1:Nat):Int) by lia];exact⟨_,_,rfl,by simp,_,_,rfl,rfl,rfl,rfl,rfl,rfl,rfl,rfl,rfl,by rw[Cl];simp only[go_sem,ya]⟩
  .left
   rcases (show 4294967296<=q\/(¬4294967296<=q/\4294967296*r+u2<q*v2) by lia) with t1 | ⟨t1,t2⟩
   .simp only [go_sem,ya,C3,show (4294967296:Int)<=(q:Int) by lia,e3,e4,show ¬(4294967296:Int)<=((r+v1:Nat):Int) by lia];exact⟨_,q-1,rfl,by lia,q-1,r+v1,by simp only[go_sem,ya,ae],h1,by lia,h2,rfl⟩
   .have Ze:=xF (show q<=4294967295 by lia) (show v2<=4294967295 by lia);have e5:=rW q v2;rw[yY (show q*v2<2^64 by lia)] at e5;simp only[go_sem,ya,C3,show ¬(4294967296:Int)<=(q:Int) by lia,e5,e1,e2,show ((4294967296*r+u2:Nat):Int)<((q*v2:Nat):Int) by lia,e3,e4,show ¬(4294967296:Int)<=((r+v1:Nat):Int) by lia];exact⟨_,q-1,rfl,by lia,q-1,r+v1,by simp only[go_sem,ya,ae],h1,by lia,h2,rfl⟩
 .right
  have Cl:=g2 (by lia) (by lia);have e5:=rW q v2;rw[yY (show q*v2<2^64 by lia)] at e5;simp only[go_sem,ya,C3,show ¬(4294967296:Int)<=(q:Int) by lia,e5,e1,e2,show ¬((4294967296*r+u2:Nat):Int)<((q*v2:Nat):Int) by lia];exact⟨_,_,rfl,by simp,_,_,rfl,rfl,rfl,rfl,rfl,rfl,rfl,rfl,rfl,by rw[Cl];simp only[go_sem,ya]⟩
def afY(a:Nat):binOp .shr (.int .u64 (a:Int)) (.int .u64 32)=GW (uc (a/4294967296)):=Np .u64 a (s:=32) (by decide)
def ag0(a:Nat){b:Nat}(ha:a<2^64)(hb:0<b):binOp .quo (uc a) (uc b)=GW (uc (a/b)):=by
 rw[dl _ _ _ (by lia),xR (by lia),<-Int.natCast_ediv,wrapM,yY];exact wB (vm a b) ha
def azp(a:Nat){b:Nat}(hb:0<b):binOp .rem (uc a) (uc b)=GW (uc (a%b)):=by
 rw[fF _ _ _ (by lia),xH (by lia),<-Int.natCast_emod]
def anp{hi lo y s u z Y:Nat}(hs:s<64)(bf:lo<2^64)(hY:Y=y*2^s)(hu:u=hi*2^s+lo/2^(64-s))(hz:z=lo*2^s%2^64):
  (hi*2^64+lo)*2^s=u*2^64+z:=by
 have e:2^64=2^(64-s)*2^s:=by rw[<-xL,show 64-s+s=64 by lia]
 have h1:lo*2^s/2^64=lo/2^(64-s):=by
  rw[e,tF _ _ (xr s)]
 grind
def ab9{Y q a b:Nat}(h1:a<Y)(h2:b<4294967296)(h3:q=(a*4294967296+b)/Y):q<4294967296:=by
 rw[h3];exact (xM (by lia)).2 (by lia)
def apB{u w x z z0 z1 q0 q1 Y:Nat}(sM:q1*Y+w=u*4294967296+z1)(iA:q0*Y+x=w*4294967296+z0)(hz:z=z1*4294967296+z0):u*2^64+z=(q1*4294967296+q0)*Y+x:=by grind
def alR{q1 q0:Nat}(h1:q1<4294967296)(h0:q0<4294967296):q1*4294967296<2^64/\q1*4294967296+q0<2^64:=by lia
def ag1(h:Has P L 165 MU)(Nq:L.pure 167=GW Ia){hi lo y:Nat}(ie:hi<y)(bf:lo<2^64)(hy:y<2^64):
  af P L 165 [uc hi,uc lo,uc y] (.av [uc ((hi*2^64+lo)/y),uc ((hi*2^64+lo)%y)]):=by
 have lj:0<y:=by lia
 by_cases h0:hi=0
 .subst h0;have e1:=ag0 lo bf lj;have e2:=azp lo lj;rw[ve,yf];unfold af;rw[aF h];simp only[go_sem,ya,MU,show ¬(y:Int)=0 by lia,show ¬(y:Int)<=0 by lia,show ((0:Nat):Int)=0 from rfl,e1,e2];rfl
 .obtain ⟨s,hs⟩:∃s,s=64-eY 64 y:=⟨_,rfl⟩;have hl:=aeB (P:=P) (f:=D P L) Nq hy;have⟨l1,l2,l3⟩:=UZ lj hy;rw[<-hs] at hl l1 l2 l3;obtain⟨Y,hY⟩:∃Y,Y=y*2^s:=⟨_,rfl⟩;obtain⟨u,hu⟩:∃u,u=hi*2^s+lo/2^(64-s):=⟨_,rfl⟩;obtain⟨z,hz⟩:∃z,z=lo*2^s%2^64:=⟨_,rfl⟩;have hdiv:=anp l1 bf hY hu hz;rw[<-hY] at l2 l3;have hp:=xr s;obtain⟨v1,fC⟩:∃v,v=Y/4294967296:=⟨_,rfl⟩;obtain⟨v2,de⟩:∃v,v=Y%4294967296:=⟨_,rfl⟩;have hYv:Y=v1*4294967296+v2:=by lia
  obtain⟨z1,ns⟩:∃v,v=z/4294967296:=⟨_,rfl⟩;obtain⟨z0,nv⟩:∃v,v=z%4294967296:=⟨_,rfl⟩;have Jj:z<2^64:=by lia
  have hhY:hi*2^s<Y:=by rw[hY];exact xZ ie hp
  have bL:lo/2^(64-s)<2^s:=by
   refine (xM (xr _)).2 ?_;rw[<-xL,show s+(64-s)=64 by lia];exact bf
  have qB:hi*2^s|||lo/2^(64-s)=u:=by rw[VP bL,hu]
  have hN:hi*2^64+lo<y*2^64:=by
   have:=yQ (2^64) (show hi+1<=y from ie)
   lia
  have Zf:u<Y:=by
   have h1:=xZ hN hp;rw[hdiv,Nat.mul_right_comm,<-hY] at h1
   lia
  obtain⟨q1,fE⟩:∃q,q=(u*4294967296+z1)/Y:=⟨_,rfl⟩;obtain⟨w,hw⟩:∃q,q=(u*4294967296+z1)%Y:=⟨_,rfl⟩;obtain⟨q0,zP⟩:∃q,q=(w*4294967296+z0)/Y:=⟨_,rfl⟩;obtain⟨x,hx⟩:∃q,q=(w*4294967296+z0)%Y:=⟨_,rfl⟩;have S6:w<Y:=by rw[hw];exact xO _ (by lia)
  have Zg:x<Y:=by rw[hx];exact xO _ (by lia)
  have sM:=wm (u*4294967296+z1) Y;rw[<-fE,<-hw,xz] at sM;have iA:=wm (w*4294967296+z0) Y;rw[<-zP,<-hx,xz] at iA;have azq:=ab9 Zf (show z1<4294967296 by lia) fE;have azr:=ab9 S6 (show z0<4294967296 by lia) zP;have⟨td1,td2⟩:=alR azq azr;have Sb:(hi*2^64+lo)*2^s=(q1*4294967296+q0)*Y+x:=by
   rw[hdiv];exact apB sM iA (by lia)
  have r1:(hi*2^64+lo)/y=q1*4294967296+q0:=by
   rw[<-tF _ _ hp,Sb,<-hY,xz _ Y,tV (by lia),xW Zg,xd]
  have r2:x/2^s=(hi*2^64+lo)%y:=by
   have h1:x=(hi*2^64+lo)*2^s%(y*2^s):=by
    rw[Sb,<-hY,xz _ Y,tW,yY Zg]
   rw[h1,um,Nat.mul_div_cancel _ hp]
  have o1:=No .u64 y (s:=s) (by lia);rw[<-hY,yY l3] at o1;have o2:=afY Y;rw[<-fC] at o2;have o3:=agZ Y;rw[<-de] at o3;have o4:=No .u64 hi (s:=s) (by lia);rw[yY (show hi*2^s<2^64 by lia)] at o4;have o5:binOp .sub (.int .u64 64) (uc s)=GW (uc (64-s)):=F1 (a:=64) (by lia) (by lia);have o6:=Np .u64 lo (s:=64-s) (by lia);have o7:=Zd (a:=hi*2^s) (b:=lo/2^(64-s)) (by lia) (wB (vm _ _) bf);rw[qB] at o7;have o8:=No .u64 lo (s:=s) (by lia);rw[<-hz] at o8;have o9:=afY z;rw[<-ns] at o9;have o10:=agZ z;rw[<-nv] at o10;have IL:0<v1:=by lia
  have afZ:∀{a:Nat},a<Y->binOp .quo (uc a) (uc v1)=GW (uc (a/v1))/\binOp .mul (uc (a/v1)) (uc v1)=GW (uc (a/v1*v1))/\binOp .sub (uc a) (uc (a/v1*v1))=GW (uc (a%v1)):=fun {a} ha=>by
   have h1:=wm a v1;rw[xz] at h1;have h2:=rW (a/v1) v1;generalize a/v1*v1=m at*
   rw[yY (show m<2^64 by lia)] at h2;exact⟨ag0 a (by lia) IL,h2,F1 (by lia) (by lia)⟩
  have⟨g1,g2,g3⟩:=afZ Zf;have⟨g4,g5,g6⟩:=afZ S6;have first:∀{a b:Nat},b<4294967296->(a*4294967296+b)/Y<=a/v1:=fun {a b} hb=>by
   have:=TQ (b:=4294967296) (V:=Y) (v1:=v1) (v2:=v2) (vr:=0) (U:=a*4294967296+b) (u0:=0) (u1:=a) (u2:=b) (ur:=0) (p:=1) (by lia) (by lia) (by decide) hb IL
   simpa using this
  have back:∀{a b q x:Nat},a*4294967296+b=q*Y+x->x<Y->binOp .mul (uc a) (.int .u64 4294967296)=GW (uc (a*4294967296%2^64))/\binOp .add (uc (a*4294967296%2^64)) (uc b)=GW (uc ((a*4294967296%2^64+b)%2^64))/\
    binOp .mul (uc q) (uc Y)=GW (uc (q*Y%2^64))/\binOp .sub (uc ((a*4294967296%2^64+b)%2^64)) (uc (q*Y%2^64))=GW (uc x):=fun {a b q x} h1 h2=>by
   refine⟨rW a 4294967296,Dk _ _,rW q Y,F1 ?_ (by lia)⟩;generalize q*Y=m at*
   lia
  have⟨k1,k2,k3,k4⟩:=back sM.symm S6;have⟨k5,k6,k7,k8⟩:=back iA.symm Zg;have m1:=rW q1 4294967296;rw[yY td1,show uc 4294967296=AV.int .u64 4294967296 from rfl] at m1;have m2:=Dk (q1*4294967296) q0;rw[yY td2] at m2;have m3:=Np .u64 x (s:=s) (by lia);rw[r1,<-r2];unfold af;rw[aF h];simp only[go_sem,ya,MU,show ¬(y:Int)=0 by lia,show ¬(y:Int)<=(hi:Int) by lia,show ¬(hi:Int)=0 by lia,hl,axU,yY (show s<2^64 by lia),o1,o2,o3,o4,o5,o6,o7,o8,o9,o10,g1,g2,g3];generalize og:D P L (.loop _ C2) _=qq
  obtain⟨ex,st,rfl,tm,ct,rfl,rfl,t2,t8,t9,t10,t11,t13,t14,t15⟩:=aW og (auY (P:=P) (L:=L) (s:=s) (z:=z0) hYv (by lia) IL (by lia) Zf (show z1<4294967296 by lia) (u/v1)) ⟨u/v1,u%v1,by simp only[go_sem,ya,ae],by rw[xz];exact wm u v1,by have:=xO u IL;lia,first (by lia),rfl⟩
  rw[<-fE] at t15;simp only[go_sem,ya,ae,t2,t8,t9,t10,t11,t13,t14,t15,k1,k2,k3,k4,g4,g5,g6];generalize F2:D P L (.loop _ C3) _=Zh;obtain⟨ex,st,rfl,sG,ct2,rfl,rfl,t2,t8,t9,t10,t14,t15,t17,t18⟩:=aW F2 (auZ (P:=P) (L:=L) (s:=s) (z:=q1) hYv (by lia) IL (by lia) S6 (show z0<4294967296 by lia) (w/v1)) ⟨w/v1,w%v1,by simp only[go_sem,ya,ae],by rw[xz];exact wm w v1,by have:=xO w IL;lia,first (by lia),rfl⟩
  rw[<-zP] at t18;simp only[go_sem,ya,ae,t2,t8,t14,t15,t17,t18,m1,m2,k5,k6,k7,k8,m3];rfl
end
mutual
def below(n:Nat):AV->Prop
 | .ptr id _=>id<n
 | .aq id _ _=>id<n
 | .map id=>id<n
 | .it id=>id<n
 | .fn (.f _) first cap=>zk n first/\zk n cap
 | .fn (.y l) first cap=>l<n/\first=[]/\cap=[]
 | .agg cs=>zk n cs
 | .av cs=>zk n cs
 | _=>True
def zk(n:Nat):List AV->Prop
 | []=>True
 | v::r=>below n v/\zk n r
end
def zm(n:Nat):Env->Prop
 | []=>True
 | (_,v)::r=>below n v/\zm n r
def E7(n:Nat):Obj->Prop
 | .cells _ pu _ _ cs=>pu=ycN\/zk n cs
 | .mp _ ks vs=>zk n ks/\zk n vs
 | .si _ _=>True
 | .lp tm _ _ _ _ _=>zm n tm
def Mb(b n:Nat):Hp->Prop
 | []=>True
 | (id,o)::r=>id<b/\E7 n o/\Mb b n r
mutual
def aca{f:Nat->Option Nat}{n:Nat}(hf:∀x,x<n->f x=GW x):∀{v:AV},below n v->b9 f v=v
 | .int _ _,_ | .bool _,_ | .ay _ _,_ | .bT _ _ _,_ | .str _,_ | .mT,_ | .bN _,_ | .ab,_ | .ap _ _ _,_ | .jH,_ | .lK,_ | .lL _ _,_ | .undef,_ | .cL _ _ _ _,_=>rfl
 | .ptr id o,h=>by simp only[b9,hf id h]
 | .aq id o k,h=>by simp only[b9,hf id h]
 | .map id,h=>by simp only[b9,hf id h]
 | .it id,h=>by simp only[b9,hf id h]
 | .fn (.y l) first cap,h=>by
  obtain⟨h1,rfl,rfl⟩:=h;simp only[b9,hf l h1,gn]
 | .fn (.f _) first cap,h=>by
  simp only[b9,CD hf h.1,CD hf h.2]
 | .agg cs,h=>by simp only[below] at h;simp only[b9,CD hf h]
 | .av cs,h=>by simp only[below] at h;simp only[b9,CD hf h]
def CD{f:Nat->Option Nat}{n:Nat}(hf:∀x,x<n->f x=GW x):∀{vs:List AV},zk n vs->gn f vs=vs
 | [],_=>rfl
 | v::r,h=>by simp only[gn,aca hf h.1,CD hf h.2]
end
def Ub{f:Nat->Option Nat}{n:Nat}(hf:∀x,x<n->f x=GW x):∀{tm:Env},zm n tm->mq f tm=tm
 | [],_=>rfl
 | (_,v)::r,h=>by simp only[mq,aca hf h.1,Ub hf h.2]
def alS{f:Nat->Option Nat}{n:Nat}(hf:∀x,x<n->f x=GW x):∀{o:Obj},E7 n o->mU f o=o
 | .cells _ pu _ _ cs,h=>by
  cases pu with
  | true=>rfl
  | false=>simp only[E7,yL,ycl] at h;simp only[mU,yX,CD hf h]
 | .mp _ ks vs,h=>by simp only[mU,CD hf h.1,CD hf h.2]
 | .si _ _,_=>rfl
 | .lp tm _ _ _ _ _,h=>by simp only[E7] at h;simp only[mU,Ub hf h]
mutual
def abo{n:Nat}:∀{v:AV},below n v->∀x,x∈refs v->x<n
 | .int _ _,_,x,h | .bool _,_,x,h | .ay _ _,_,x,h | .bT _ _ _,_,x,h | .str _,_,x,h | .mT,_,x,h | .bN _,_,x,h | .ab,_,x,h | .ap _ _ _,_,x,h | .jH,_,x,h | .lK,_,x,h | .lL _ _,_,x,h | .undef,_,x,h | .cL _ _ _ _,_,x,h=>by simp[refs] at h
 | .ptr id o,h,x,hx=>by simp only[refs,vV] at hx;subst hx;exact h
 | .aq id o k,h,x,hx=>by simp only[refs,vV] at hx;subst hx;exact h
 | .map id,h,x,hx=>by simp only[refs,vV] at hx;subst hx;exact h
 | .it id,h,x,hx=>by simp only[refs,vV] at hx;subst hx;exact h
 | .fn (.y l) first cap,h,x,hx=>by simp only[refs,vV] at hx;subst hx;exact h.1
 | .fn (.f _) first cap,h,x,hx=>by
  simp only[refs,wR] at hx;exact hx.elim (CC h.1 x) (CC h.2 x)
 | .agg cs,h,x,hx=>by simp only[below] at h;simp only[refs] at hx;exact CC h x hx
 | .av cs,h,x,hx=>by simp only[below] at h;simp only[refs] at hx;exact CC h x hx
def CC{n:Nat}:∀{vs:List AV},zk n vs->∀x,x∈kz vs->x<n
 | [],_,x,h=>by simp[kz] at h
 | v::r,h,x,hx=>by
  simp only[kz,wR] at hx;exact hx.elim (abo h.1 x) (CC h.2 x)
end
def TR{n:Nat}:∀{tm:Env},zm n tm->∀x,x∈kA tm->x<n
 | [],_,x,h=>by simp[kA] at h
 | (_,v)::r,h,x,hx=>by
  simp only[kA,wR] at hx;exact hx.elim (abo h.1 x) (TR h.2 x)
def ak5{n:Nat}:∀{o:Obj},E7 n o->∀x,x∈rJ o->x<n
 | .cells _ pu _ _ cs,h,x,hx=>by
  cases pu with
  | true=>simp[rJ] at hx
  | false=>simp only[E7,yL,ycl] at h;exact CC h x hx
 | .mp _ ks vs,h,x,hx=>by
  simp only[rJ,wR] at hx;exact hx.elim (CC h.1 x) (CC h.2 x)
 | .si _ _,_,x,hx=>by simp[rJ] at hx
 | .lp tm _ _ _ _ _,h,x,hx=>by simp only[E7] at h;exact TR h x hx
def lJ(B:Nat):List (List AV)->Hp
 | []=>[]
 | cs::r=>(B+r.length,.cells ycN ycN ycN 1 cs)::lJ B r
def FD(B:Nat):List (List AV)->Hp->Hp
 | [],acc=>acc
 | cs::r,acc=>FD (B+1) r ((B,.cells ycN ycN ycN 1 cs)::acc)
def abp:∀(l:List (List AV)) (B:Nat) (x:List AV) (acc:Hp),FD B (l++[x]) acc=(B+l.length,.cells ycN ycN ycN 1 x)::FD B l acc
 | [],B,x,acc=>rfl
 | c::l,B,x,acc=>by
  simp only[xh,FD,abp l,yx]
  grind
def acb(B:Nat)(acc:Hp):∀rs:List (List AV),FD B rs.reverse acc=lJ B rs++acc
 | []=>rfl
 | c::r=>by
  simp only[ybj,abp,acb B acc r,yaX,lJ,xh]
def acd{B:Nat}{old:Hp}:∀{rs:List (List AV)} {i:Nat} (h:i<rs.length),ax (lJ B rs++old) (B+i)=GW (.cells ycN ycN ycN 1 (rs.reverse[i]'(by simpa using h)))
 | c::r,i,h=>by
  simp only[lJ,xh,ybj];by_cases hi:i=r.length
  .subst hi;rw[ax,wO,yC]
   simp
  .have aH:i<r.length:=by grind
   rw[ax,iG (by lia),yX,acd aH]
   grind
def E8{a b:Nat}(h:a<b):yP a b=ycN:=by simp_all
def Mc{a b:Nat}(h:b<=a):yP a b=ycO:=by
 cases hq:yP a b with
 | false=>rfl
 | true=>have:=yu hq;lia
def TI{B:Nat}{old:Hp}:∀rs:List (List AV),j9 B (lJ B rs++old)=j9 B old
 | []=>rfl
 | c::r=>by
  simp only[lJ,xh];rw[j9,Mc (by lia),yX,TI r]
def abq{B:Nat}{old:Hp}{f:Nat->Option Nat}:∀rs:List (List AV),nQ B f (lJ B rs++old)=nQ B f old
 | []=>rfl
 | c::r=>by
  simp only[lJ,xh];rw[nQ,Mc (by lia),yX,abq r]
def aaS{B n:Nat}{f:Nat->Option Nat}(hf:∀x,x<n->f x=GW x):∀{old:Hp},Mb B n old->nQ B f old=old
 | [],_=>rfl
 | (id,o)::r,h=>by
  rw[nQ,E8 h.1,yC,alS hf h.2.1,aaS hf h.2.2]
def alT{B s x:Nat}(h:B+s<=x):mV x (wG B s)=ycO:=by
 induction s generalizing B with
 | zero=>rfl
 | succ s ih=>rw[vP,mV,iG (by lia),yX,ih (by lia)]
def Uc{hp:Hp}{B R:Nat}(fZ:∀i,i<R->∃rw ex sz cs,ax hp (B+i)=GW (.cells rw ycN ex sz cs)):
  ∀(W:List Nat) (bl s:Nat),W.length<bl->s<=R->W.filter (fun x=> !yP x B)=wG (B+s) (R-s)->reach hp B bl W (wG B s)=wG B R
 | [],0,s,hf,_,_=>by simp at hf
 | [],bl+1,s,hf,hs,h=>by
  have:R-s=0:=by
   grind
  rw[reach,show R=s by lia]
 | id::W,0,s,hf,_,_=>by simp at hf
 | id::W,bl+1,s,hf,hs,h=>by
  have AT:W.length<bl:=by simp_all
  rw[reach];by_cases hid:id<B
  .rw [E8 hid,Bool.true_or,yC];rw[ybu,E8 hid] at h;exact Uc fZ W bl s AT hs (by simpa using h)
  .rw [ybu,Mc (by lia)] at h;have hRs:R-s=(R-s-1)+1:=by
    have:=congrArg tY h
    grind
   rw[hRs,vP] at h;injection h with h1 h2
   subst h1;rw[Mc (by lia),uJ,alT (yz _),yX];have⟨rw,ex,sz,cs,ho⟩:=fZ s (by lia);simp only[ho,rJ,yC,xG];have e:wG B s++[B+s]=wG B (s+1):=by rw[List.range'_concat];simp
   rw[e];exact Uc fZ W bl (s+1) AT (by lia) (by rw[h2,show R-s-1=R-(s+1) by lia,show B+s+1=B+(s+1) by lia])
def alU{B s i k:Nat}(h:i<s):mW (B+i) (wG B s) k=GW (k+i):=by
 induction s generalizing B i k with
 | zero=>lia
 | succ s ih=>
  rw[vP,mW];by_cases hi:i=0
  .simp_all
  .rw [iG (by lia),yX]
   have:=ih (B:=B+1) (i:=i-1) (k:=k+1) (by lia)
   grind
def ak6{B R x:Nat}(h:x<B+R):mh B (wG B R) x=GW x:=by
 unfold mh;by_cases hx:x<B
 .rw [E8 hx,yC]
 .rw [Mc (by lia),yX]
  have:=alU (B:=B) (s:=R) (i:=x-B) (k:=B) (by lia)
  grind
def abr{hp:Hp}{f:Nat->Option Nat}:∀(ro:List (List AV)) (B:Nat) (acc:Hp),(∀i (h:i<ro.length),ax hp (B+i)=GW (.cells ycN ycN ycN 1 ro[i]))->mi hp f (wG B ro.length) B acc=FD B ro acc
 | [],B,acc,_=>rfl
 | c::r,B,acc,h=>by
  have h0:=h 0 (by simp);simp only[xd,List.getElem_cons_zero] at h0;rw[yx,vP,mi];simp only[h0,mU,yC,FD]
  exact abr r (B+1) _ (fun i hi=>by
   have:=h (i+1) (by simpa using hi)
   rw[show B+1+i=B+(i+1) by lia,this]
   simp)
def akA{live:List Nat}{tm:Env}{B ct:Nat}{old:Hp}{rs:List (List AV)}(ht:zm B (cu tm live))(ho:Mb B (B+rs.length) old)(hl:(kA (cu tm live)).length+(j9 B old).length<100000)(hr:(j9 B old).filter (fun x=> !yP x B)=wG B rs.length):bq live ⟨tm,lJ B rs++old,ct,B⟩=⟨cu tm live,lJ B rs++old,B+rs.length,B⟩:=by
 have fZ:∀i (h:i<rs.length),ax (lJ B rs++old) (B+i)=GW (.cells ycN ycN ycN 1 (rs.reverse[i]'(by simpa using h))):=fun i h=>acd h
 have ae4:reach (lJ B rs++old) B 100000 (kA (cu tm live)++j9 B (lJ B rs++old)) []=wG B rs.length:=by
  have:=Uc (hp:=lJ B rs++old) (B:=B) (R:=rs.length) (fun i hi=>⟨_,_,_,_,fZ i hi⟩) (kA (cu tm live)++j9 B (lJ B rs++old)) 100000 0 (by rw[TI,yM];exact hl) (tk _) (by
   rw[List.filter_append,TI,hr,yaI.2 (fun x hx=>by
    have:=TR ht x hx
    simp[E8 this])]
   simp)
  grind
 have hid:∀x,x<B+rs.length->mh B (wG B rs.length) x=GW x:=fun x hx=>ak6 hx
 have hn:=abr (hp:=lJ B rs++old) (f:=mh B (wG B rs.length)) rs.reverse B old (fun i hi=>fZ i (by simpa using hi));rw[yaX] at hn;simp only[bq,ae4,abq,aaS hid ho,hn,acb,List.length_range']
 rw[Ub (n:=B) (fun x hx=>hid x (by lia)) ht]
def abt{B b n:Nat}(hb:b<=B):∀{H:Hp},Mb b n H->∀x,x∈j9 B H->x<n
 | [],_,x,hx=>by simp[j9] at hx
 | (id,o)::r,h,x,hx=>by
  rw[j9,E8 (by have:=h.1;lia),yC,wR] at hx
  exact hx.elim (ak5 h.2.1 x) (abt hb h.2.2 x)
def aaT{live:List Nat}{tm:Env}{B ct:Nat}{old:Hp}(ht:zm B (cu tm live))(ho:Mb B B old)(hl:(kA (cu tm live)).length+(j9 B old).length<100000):
  bq live ⟨tm,old,ct,B⟩=⟨cu tm live,old,B,B⟩:=by
 have:=akA (rs:=[]) (ct:=ct) ht (by simpa using ho) hl (by
  rw[yaI.2 (fun x hx=>by have:=abt (yz B) ho x hx;simp[E8 this])]
  rfl)
 simpa[lJ] using this
def ad9{n:Nat}{F:aA}(h:Has P L n F){hp:Hp}{ct:Nat}{aw:List AV}{ex:Ex}{s:St}{v:AV}(hD:D P L F.body ⟨gi 0 aw,hp,ct,ct⟩=GW (ex,s))(he:ex=.normal\/ex=.ret)(hr:jw s F.eG=GW v):
  jz P L (D P L) hp ct n aw=GW (v,s.hp,s.ct):=by
 simp only[jz,h.heap,h.code,hD]
 grind
mutual
def zd{n:Nat}:∀{v:AV},aQ v=ycN->below n v
 | .int _ _,_ | .bool _,_ | .ay _ _,_ | .bT _ _ _,_ | .str _,_ | .mT,_ | .bN _,_ | .ab,_ | .ap _ _ _,_ | .jH,_ | .lK,_ | .lL _ _,_ | .undef,_=>trivial
 | .cL _ _ _ _,_=>trivial
 | .ptr _ _,h | .aq _ _ _,h | .map _,h | .it _,h=>by simp[aQ] at h
 | .fn (.y _) _ _,h=>by simp[aQ] at h
 | .fn (.f _) _ _,h=>by
  simp only[aQ,ye] at h;exact⟨Ku h.1,Ku h.2⟩
 | .agg cs,h=>by simp only[aQ] at h;simp only[below];exact Ku h
 | .av cs,h=>by simp only[aQ] at h;simp only[below];exact Ku h
def Ku{n:Nat}:∀{vs:List AV},aE vs=ycN->zk n vs
 | [],_=>trivial
 | _::_,h=>by
  simp only[aE,ye] at h;exact⟨zd h.1,Ku h.2⟩
end
section
variable {pre x post:List Nat}{i:Nat}
def rz:(pre++x++post).length=pre.length+x.length+post.length:=by grind
def EI(h:i<x.length):(pre++x++post).getD (pre.length+i) 0=x.getD i 0:=by grind
def P6(a:Nat)(h:i<x.length):(pre++x++post).set (pre.length+i) a=pre++x.set i a++post:=by simp_all
end
def nL(n:Nat)(k:xj)(a:Int):below n (.int k a)=True:=rfl
def oG(n id o k:Nat):below n (.aq id o k)=(id<n):=rfl
def nG(n:Nat):zm n []=True:=rfl
def nF(n i:Nat)(v:AV)(r:Env):zm n ((i,v)::r)=(below n v/\zm n r):=rfl
def zi{live:List Nat}{tm:Env}{ct:Nat}{a b:List AV}(ht:zm 2 (cu tm live))(hl:(kA (cu tm live)).length<100000):
  bq live ⟨tm,[(1,.cells ycN ycN ycN 1 a),(0,.cells ycN ycN ycN 1 b)],ct,2⟩=⟨cu tm live,[(1,.cells ycN ycN ycN 1 a),(0,.cells ycN ycN ycN 1 b)],2,2⟩:=
 aaT ht ⟨by lia,.inl rfl,by lia,.inl rfl,trivial⟩ (by
  have:j9 2 [(1,Obj.cells ycN ycN ycN 1 a),(0,Obj.cells ycN ycN ycN 1 b)]=[]:=rfl
  rw[this,yN,xd];exact hl)
def alV{x s c:Nat}(hs:s<64)(hx:x<2^64)(hc:c<2^s):
  c|||(x*2^s%2^64)<2^64/\c<2^64/\x/2^(64-s)<2^s/\(c|||(x*2^s%2^64))+2^64*(x/2^(64-s))=x*2^s+c:=by
 have e:2^64=2^(64-s)*2^s:=by rw[<-xL,show 64-s+s=64 by lia]
 have h1:x*2^s%2^64=(x%2^(64-s))*2^s:=by rw[e,um]
 have h2:x/2^(64-s)<2^s:=by
  refine (xM (xr _)).2 ?_
  grind
 have h3:c|||(x*2^s%2^64)=(x%2^(64-s))*2^s+c:=by rw[h1,ycA,VP hc]
 have h4:(x%2^(64-s))*2^s+c<2^64:=by
  have:=yQ (2^s) (show x%2^(64-s)+1<=2^(64-s) from xO _ (xr _))
  grind
 have h5:=uk x (2^(64-s))
 grind
def au0{v:AV}{w:List Nat}(hv:bJ v w)(hw:lo (2^64) w)(lw:w.length<=99999999999){s n:Nat}(hs:s<64)(hn:n=w.length+1):
  bP P L [1,5,12,13,14] Hv (fun k st=>∃(i:Nat) (out:List Nat),st=⟨[(1,aa s),(5,.aq 0 0 n),(12,v),(13,aa w.length),(14,aa i)],[(0,.cells ycN ycN ycN 1 (out.map uc))],1,0⟩/\i+k=w.length/\out.length=n/\lo (2^64) out/\bv (2^64) out=bv (2^64) (w.take i)*2^s/\out.getD i 0<2^s/\(∀m,i<m->out.getD m 0=0)) (fun ex st'=>∃tm out,st'=⟨tm,[(0,.cells ycN ycN ycN 1 (out.map uc))],1,0⟩/\ex=.exit 0/\ai tm 5=.aq 0 0 n/\out.length=n/\lo (2^64) out/\bv (2^64) out=bv (2^64) w*2^s):=by
 apply bQ;rintro k st ⟨i,out,rfl,hk,hlen,bf,aO,hc,ie⟩;by_cases hi:i<w.length
 .left
  have gx:=iI (show 0<2^64 by decide) hw i;have ex:=hv.a6 hi;have ec:=BI (l:=out) (o:=i) (by lia);have aY:=pQ (b:=2^64) (l:=out) (i:=i) (x:=out.getD i 0|||(w.getD i 0*2^s%2^64)) (by lia);have hz:out.getD (i+1) 0=0:=ie _ (by lia);have fo:=kh (b:=2^64) (l:=w) i;generalize out.getD i 0=c at*
  generalize w.getD i 0=x at*
  have⟨s1,s2,s3,s4⟩:=alV hs gx hc;have o1:=No .i64 x (s:=s) (by lia);have o2:=Zd s2 (xO (x*2^s) (by decide));have o3:binOp .sub (.int .i64 64) (aa s)=GW (aa (64-s:Nat)):=by
   rw[P3,wrap64 (by lia) (by lia)];congr 2;lia
  have o4:=Np .i64 x (s:=64-s) (by lia);generalize sL:c|||(x*2^s%2^64)=c' at*
  by_cases h0:0<s
  .have QQ:=pQ (b:=2^64) (l:=out.set i c') (i:=i+1) (x:=x/2^(64-s)) (by simp;lia)
   rw[rq (by lia),hz,xI,xd] at QQ;have azs:x/2^(64-s)<2^64:=wB (vm _ _) gx;generalize x/2^(64-s)=y at*
   simp only[go_sem,ya,yi,Hv,show (i:Int)<w.length by lia,ex,dn 0 0 (show i<n by lia),yf,ec,o1,o2,lZ (l:=out) (o:=i) (by lia),show (0:Int)<(s:Int) by lia,show (i:Int)+1=((i+1:Nat):Int) from rfl,wrapN (n:=i+1) (by lia),o3,o4,dn 0 0 (show i+1<n by lia),lZ (l:=out.set i c') (o:=i+1) (by simp;lia)]
   refine⟨_,k-1,rfl,by lia,i+1,(out.set i c').set (i+1) y,by simp only[go_sem,ya,yb,ae,an hv.pu]<;>rfl,by lia,by simp[hlen],nK (nK bf s1) azs,?_,by rw[alw (by simp;lia)];exact s3,fun m hm=>by rw[rq (by lia),rq (by lia)];exact ie m (by lia)⟩
   rw[fo,wg,QQ,<-aO,AI,xm,xm ((2^64)^i)];have e:=congrArg (fun t=>(2^64)^i*t) s4;simp only[xK] at e;generalize (2^64)^i*(2^64*y)=p1 at*
   generalize (2^64)^i*(x*2^s)=p2 at*
   generalize (2^64)^i*c'=p3 at*
   lia
  .have n5:s=0:=by lia
   subst n5;have gG:c=0:=by simpa using hc
   have Cm:x/2^(64-0)=0:=xW gx;rw[Cm,xI,xd,ux,yi] at s4
   simp only[go_sem,ya,yi,Hv,show (i:Int)<w.length by lia,ex,dn 0 0 (show i<n by lia),yf,ec,o1,o2,lZ (l:=out) (o:=i) (by lia),show ¬(0:Int)<((0:Nat):Int) by lia,show (i:Int)+1=((i+1:Nat):Int) from rfl,wrapN (n:=i+1) (by lia)];refine⟨_,k-1,rfl,by lia,i+1,out.set i c',by simp only[go_sem,ya,yb,ae,an hv.pu]<;>rfl,by lia,by simp[hlen],nK bf s1,?_,by rw[rq (by lia),hz];exact xr _,fun m hm=>by rw[rq (by lia)];exact ie m (by lia)⟩
   rw[ux,yi] at aO ⊢;rw[fo,<-aO];rw[gG,xI,xd] at aY;rw[aY,s4,gG,xd]
 .right
  have:i=w.length:=by lia
  subst this;rw[xP] at aO;simp only[go_sem,ya,Hv,show ¬(w.length:Int)<w.length by lia];exact⟨_,_,rfl,by simp,_,out,rfl,rfl,rfl,hlen,bf,aO⟩
def ag2(h:Has P L 168 RC){v:AV}{w:List Nat}(hv:bJ v w)(hw:lo (2^64) w)(lw:w.length<=99999999999){s:Nat}(hs:s<64):
  ∃out,af P L 168 [v,aa s] (.cL ycN 1 (w.length+1) (out.map uc))/\out.length=w.length+1/\lo (2^64) out/\bv (2^64) out=bv (2^64) w*2^s:=by
 obtain⟨n,hn⟩:∃n,n=w.length+1:=⟨_,rfl⟩;unfold af;rw[aF h]
 simp only[go_sem,ya,yb,RC,hv.len,wrapN (n:=n) (by lia),show (w.length:Int)+1=((w.length+1:Nat):Int) from rfl,<-hn,F0 (n:=n) _ (by lia)];generalize hq:D P L (.loop _ Hv) _=q;obtain⟨ex,st,rfl,tm,o,rfl,rfl,t5,hlen,bf,aO⟩:=aW hq (au0 (P:=P) (L:=L) hv hw lw hs hn w.length)
  ⟨0,yD n 0,by simp only[go_sem,ya,yb,ae,an hv.pu]<;>rfl,by lia,by simp,HX (by decide) n,by rw[HY];simp[bv],by rw[EH];exact xr _,fun m _=>EH n m⟩
 refine⟨o,?_,hlen,bf,aO⟩;simp only[go_sem,yb,ae,t5];exact Ez (CO _ _ _) (by simp[hlen]) (by decide)
abbrev H2(a b:List Nat):Hp:=[(1,.cells ycN ycN ycN 1 (a.map uc)),(0,.cells ycN ycN ycN 1 (b.map uc))]
structure iM(x vs:List Nat)(n v1 v2 u0 u1 u2:Nat):Prop where
 n2:2<=n
 nb:n<=99999999999
 lx:x.length=n+1
 lv:vs.length=n
 gx:lo (2^64) x
 gv:lo (2^64) vs
 fC:vs.getD (n-1) 0=v1
 de:vs.getD (n-2) 0=v2
 h0:x.getD n 0=u0
 h1:x.getD (n-1) 0=u1
 h2:x.getD (n-2) 0=u2
 pos:0<v1
 lt:bv (2^64) x<2^64*bv (2^64) vs
def axV(b p a v1 v2:Nat):a+p*v2+p*b*v1=(v1*b+v2)*p+a:=by grind
def axW(b p a v0 v1 v2:Nat):a+p*v2+p*b*v1+p*b*b*v0=((v0*b+v1)*b+v2)*p+a:=by grind
section
variable {x vs:List Nat}{n v1 v2 u0 u1 u2:Nat}
def iM.Oo(h:iM x vs n v1 v2 u0 u1 u2):v1<2^64:=h.fC▸iI (by decide) h.gv _
def iM.Gy(h:iM x vs n v1 v2 u0 u1 u2):v2<2^64:=h.de▸iI (by decide) h.gv _
def iM.Oq(h:iM x vs n v1 v2 u0 u1 u2):u1<2^64:=h.h1▸iI (by decide) h.gx _
def iM.Ot(h:iM x vs n v1 v2 u0 u1 u2):u2<2^64:=h.h2▸iI (by decide) h.gx _
def iM.parts(h:iM x vs n v1 v2 u0 u1 u2):∃p vr ur,bv (2^64) vs=(v1*2^64+v2)*p+vr/\vr<p/\bv (2^64) x=((u0*2^64+u1)*2^64+u2)*p+ur/\ur<p:=by
 obtain⟨m,hm⟩:∃m,n=m+2:=⟨n-2,by have:=h.n2;lia⟩
 subst hm;have e1:=kh (b:=2^64) (l:=vs) (m+1);have e2:=kh (b:=2^64) (l:=vs) m;have f0:=kh (b:=2^64) (l:=x) (m+2);have f1:=kh (b:=2^64) (l:=x) (m+1);have f2:=kh (b:=2^64) (l:=x) m;have fC:vs.getD (m+1) 0=v1:=h.fC;have de:vs.getD m 0=v2:=h.de;have h0:x.getD (m+2) 0=u0:=h.h0;have h1:x.getD (m+1) 0=u1:=h.h1;have h2:x.getD m 0=u2:=h.h2
 rw[yq (by have:=h.lv;lia),fC,e2,de] at e1
 rw[yq (by have:=h.lx;lia),h0,f1,h1,f2,h2] at f0
 have g1:=nR (CW h.gv m)
 rw[yO,xA (by have:=h.lv;lia)] at g1
 have g2:=nR (CW h.gx m)
 rw[yO,xA (by have:=h.lx;lia)] at g2
 refine⟨(2^64)^m,_,_,?_,g1,?_,g2⟩
 .grind
 .grind
def iM.down(h:iM x vs n v1 v2 u0 u1 u2){t r:Nat}(ht:t*v1+r=u0*2^64+u1)(hr:r*2^64+u2<t*v2):bv (2^64) x/bv (2^64) vs<=t-1:=by
 have⟨p,vr,ur,h1,h2,h3,h4⟩:=h.parts;exact abj h1 h3 h4 ht hr
def iM.stop(h:iM x vs n v1 v2 u0 u1 u2){t r:Nat}(lY:t<2^64)(ht:t*v1+r=u0*2^64+u1)(hr:2^64<=r\/t*v2<=r*2^64+u2):t<=bv (2^64) x/bv (2^64) vs+1:=by
 have⟨p,vr,ur,h1,h2,h3,h4⟩:=h.parts;exact ab4 (by decide) h1 h2 h3 h.pos h.Gy lY ht hr
def iM.first(h:iM x vs n v1 v2 u0 u1 u2):bv (2^64) x/bv (2^64) vs<=(u0*2^64+u1)/v1:=by
 have⟨p,vr,ur,h1,h2,h3,h4⟩:=h.parts;exact TQ h1 h3 h4 h.Ot h.pos
def iM.top(h:iM x vs n v1 v2 u0 u1 u2):u0<=v1:=by
 have⟨p,vr,ur,h1,h2,h3,h4⟩:=h.parts;exact ab5 h1 h3 h2 h.Gy h.lt
def iM.digit(h:iM x vs n v1 v2 u0 u1 u2):bv (2^64) x/bv (2^64) vs<2^64:=by
 refine (xM ?_).2 h.lt;rcases xv (bv (2^64) vs) with h0 | h0
 .have:=h.lt;rw[h0] at this;simp at this
 .exact h0
end
def aeD(nY:L.pure 143=GW Al)(iv:L.pure 171=GW pO){w:AV}{x vs pre post qs:List Nat}(hw:bJ w vs){n v1 v2 u0 u1 u2:Nat}(hl:iM x vs n v1 v2 u0 u1 u2):
  bP P L [0,1,5,6,7,8] Bz (fun k s=>∃q r:Nat,s=⟨[(0,.aq 0 pre.length (n+1)),(1,w),(5,aa n),(6,uc q),(7,uc (r%2^64)),(8,uc (r/2^64))],H2 qs (pre++x++post),2,2⟩/\q*v1+r=u0*2^64+u1/\r<2*2^64/\q<2^64/\bv (2^64) x/bv (2^64) vs<=q/\q=k) (fun ex s'=>∃tm q,s'=⟨tm,H2 qs (pre++x++post),2,2⟩/\ex=.exit 0/\ai tm 0=.aq 0 pre.length (n+1)/\ai tm 1=w/\ai tm 5=aa n/\ai tm 6=uc q/\q<2^64/\bv (2^64) x/bv (2^64) vs<=q/\q<=bv (2^64) x/bv (2^64) vs+1):=by
 apply bQ;rintro k s ⟨q,r,rfl,hq,hr,qO,hQ,rfl⟩;have dh:=hl.n2;have od:=hl.nb;by_cases qI:r<2^64
 .have Jk:r%2^64=r:=yY qI;have D1:r/2^64=0:=xW qI;rw[Jk,D1];have IM:=hl.Oo;have Xq:=hl.Gy;have ag3:=hl.Ot;have sN:=hw.a6 (i:=n-2) (by have:=hl.lv;lia)
  have fD:=hw.a6 (i:=n-1) (by have:=hl.lv;lia)
  rw[hl.de] at sN;rw[hl.fC] at fD;have A9:=BI (l:=pre++x++post) (o:=pre.length+(n-2)) (by rw[rz];have:=hl.lx;lia)
  rw[EI (by have:=hl.lx;lia),hl.h2] at A9
  have f1:=Qo (P:=P) (f:=D P L) nY qO Xq;have f2:=E6 (P:=P) (f:=D P L) iv (x:=r) (y:=v1) (c:=0) qI IM (by lia);rw[show (uc 0)=AV.int .u64 0 from rfl] at f2;have fg:=wm (q*v2) (2^64);have bf:=xO (q*v2) (show 0<2^64 by decide);obtain⟨H,hH⟩:∃H,H=q*v2/2^64:=⟨_,rfl⟩;obtain⟨G,hG⟩:∃G,G=q*v2%2^64:=⟨_,rfl⟩;rw[<-hH,<-hG] at f1 fg;rw[<-hG] at bf;have Cn:(n:Int)-2=((n-2:Nat):Int):=by lia
  have sO:(n:Int)-1=((n-1:Nat):Int):=by lia
  by_cases c1:H<r
  .right
   simp only[go_sem,ya,Bz,H2,show ((0:Nat):Int)=0 from rfl,Cn,wrapN (n:=n-2) (by lia),sN,f1,show (H:Int)<(r:Int) by lia];exact⟨_,_,rfl,by simp,_,q,rfl,rfl,rfl,rfl,rfl,rfl,qO,hQ,hl.stop qO hq (.inr (by lia))⟩
  .by_cases c2:H=r/\G<=u2
   .right
    have⟨c2,c3⟩:=c2
    simp only[go_sem,ya,Bz,H2,show ((0:Nat):Int)=0 from rfl,Cn,wrapN (n:=n-2) (by lia),sN,f1,show (H:Int)=(r:Int) by lia];simp only[show ¬(r:Int)<(r:Int) by lia,yA]
    simp only[go_sem,ya,yi,Cn,wrapN (n:=n-2) (by lia),dn 0 pre.length (show n-2<n+1 by lia),A9,show (G:Int)<=(u2:Int) by lia];exact⟨_,_,rfl,by simp,_,q,rfl,rfl,rfl,rfl,rfl,rfl,qO,hQ,hl.stop qO hq (.inr (by lia))⟩
   .left
    have DU:r*2^64+u2<q*v2:=by lia
    have zP:0<q:=by
     rcases xv q with h0 | h0
     .subst h0;lia
     .exact h0
    have e3:binOp .sub (uc q) (.int .u64 1)=GW (uc (q-1)):=F1 (b:=1) (by lia) (by lia);have h1:(q-1)*v1+(r+v1)=u0*2^64+u1:=by
     obtain⟨p,rfl⟩:∃p,q=p+1:=⟨q-1,by lia⟩;rw[wg,ybU] at hq;rw[uP];lia
    have Gz:=hl.down hq DU;rw[xd] at f2;by_cases c3:H=r
    .have c4:¬G<=u2:=fun h=>c2 ⟨c3,h⟩
     subst c3
     simp only[go_sem,ya,xg,yi,Bz,H2,show ((0:Nat):Int)=0 from rfl,Cn,sO,wrapN (n:=n-2) (by lia),wrapN (n:=n-1) (by lia),sN,fD,f1,f2,show ¬(H:Int)<(H:Int) by lia,dn 0 pre.length (show n-2<n+1 by lia),A9,show ¬(G:Int)<=(u2:Int) by lia,e3];refine⟨_,q-1,rfl,by lia,q-1,H+v1,?_,h1,by lia,by lia,Gz,rfl⟩;rw[zi (by simp only[go_sem,ya,yG,nL,oG,nG,nF,zd hw.pu,wC]) (by simp only[go_sem,ya,yb,yG,mG hw.pu])];simp only[go_sem,ya]
    .simp only [go_sem,ya,xg,Bz,H2,show ((0:Nat):Int)=0 from rfl,Cn,sO,wrapN (n:=n-2) (by lia),wrapN (n:=n-1) (by lia),sN,fD,f1,f2,show ¬(H:Int)<(r:Int) by lia,show ¬(H:Int)=(r:Int) by lia,e3];refine⟨_,q-1,rfl,by lia,q-1,r+v1,?_,h1,by lia,by lia,Gz,rfl⟩;rw[zi (by simp only[go_sem,ya,yG,nL,oG,nG,nF,zd hw.pu,wC]) (by simp only[go_sem,ya,yb,yG,mG hw.pu])];simp only[go_sem,ya]
 .right
  have D1:r/2^64=1:=by lia
  rw[D1];simp only[go_sem,ya,Bz,H2,show ((1:Nat):Int)=1 from rfl,yay];exact⟨_,_,rfl,by simp,_,q,rfl,rfl,rfl,rfl,rfl,rfl,qO,hQ,hl.stop qO hq (.inl (by lia))⟩
def anq{b p x y z oZ c bo Co ca q v X Y:Nat}(h1:q*v+c=b*ca+oZ)(h2:z+oZ+bo=x+b*Co)(h3:Y+q*X=y+p*(c+bo))(W:Nat)(hW:W+p*x=Y+p*z):
  W+q*(X+p*v)=y+p*b*(ca+Co):=by grind
def anr{q v c:Nat}(hq:q<2^64)(hv:v<2^64)(hc:c<2^64):
  q*v+c=2^64*(q*v/2^64+(q*v%2^64+c+0)/2^64)+(q*v%2^64+c+0)%2^64/\
  q*v/2^64+(q*v%2^64+c+0)/2^64<2^64:=by
 have h:=xF (show q<=18446744073709551615 by lia) (show v<=18446744073709551615 by lia)
 grind
def au1(nY:L.pure 143=GW Al)(iv:L.pure 171=GW pO)(AJ:L.pure 173=GW C1){w:AV}{x vs pre post qs:List Nat}(hw:bJ w vs){n:Nat}(od:n<=99999999999)(lv:vs.length=n)(gv:lo (2^64) vs){q:Nat}(hq:q<2^64):
  bP P L [0,1,5,6,11,12,104,105] Lo (fun k s=>∃(i c bo:Nat) (y:List Nat),s=⟨[(0,.aq 0 pre.length (n+1)),(1,w),(5,aa n),(6,uc q),(11,uc bo),(12,uc c),(104,aa n),(105,aa i)],H2 qs (pre++y++post),2,2⟩/\i+k=n/\y.length=n+1/\lo (2^64) y/\c<2^64/\bo<=1/\
    bv (2^64) y+q*bv (2^64) (vs.take i)=bv (2^64) x+(2^64)^i*(c+bo)) (fun ex s'=>∃tm c bo y,s'=⟨tm,H2 qs (pre++y++post),2,2⟩/\ex=.exit 2/\ai tm 0=.aq 0 pre.length (n+1)/\ai tm 1=w/\ai tm 5=aa n/\ai tm 6=uc q/\ai tm 11=uc bo/\ai tm 12=uc c/\y.length=n+1/\lo (2^64) y/\c<2^64/\bo<=1/\
    bv (2^64) y+q*bv (2^64) vs=bv (2^64) x+(2^64)^n*(c+bo)):=by
 apply bQ;rintro k s ⟨i,c,bo,y,rfl,hk,ly,gy,hc,jT,aO⟩;by_cases hi:i<n
 .left
  have dX:(0:Nat)<2^64:=by decide
  have zQ:=iI dX gv i;have sP:=iI dX gy i;have ev:=hw.a6 (i:=i) (by lia);have ey:=BI (l:=pre++y++post) (o:=pre.length+i) (by rw[rz];lia)
  rw[EI (by lia)] at ey;have fo:=kh (b:=2^64) (l:=vs) i;obtain⟨a,ha⟩:∃a,a=vs.getD i 0:=⟨_,rfl⟩;obtain⟨d,hd⟩:∃d,d=y.getD i 0:=⟨_,rfl⟩;rw[<-ha] at zQ ev fo;rw[<-hd] at sP ey;have⟨m1,m2⟩:=anr hq zQ hc;have f1:=Qo (P:=P) (f:=D P L) nY hq zQ;have f2:=E6 (P:=P) (f:=D P L) iv (x:=q*a%2^64) (y:=c) (c:=0) (xO _ dX) hc (by lia);obtain⟨oZ,ag4⟩:∃t,t=(q*a%2^64+c+0)%2^64:=⟨_,rfl⟩;obtain⟨c1,dW⟩:∃t,t=(q*a%2^64+c+0)/2^64:=⟨_,rfl⟩;have ag5:oZ<2^64:=by rw[ag4];exact xO _ dX
  rw[<-ag4,<-dW] at f2 m1;rw[<-dW] at m2;obtain⟨h1,iQ⟩:∃t,t=q*a/2^64:=⟨_,rfl⟩;rw[<-iQ] at f1 m1 m2;rw[show (uc 0)=AV.int .u64 0 from rfl] at f2;have f3:=VO (P:=P) (f:=D P L) AJ sP ag5 jT;have nA:=UY sP ag5 jT;obtain⟨z,hz⟩:∃t,t=(d+2^64*2-oZ-bo)%2^64:=⟨_,rfl⟩;obtain⟨b',bD⟩:∃t,t=(if oZ+bo<=d then 0 else 1):=⟨_,rfl⟩;have jQ:b'<=1:=by rw[bD];split<;>lia
  have Jj:z<2^64:=by rw[hz];exact xO _ dX
  rw[<-hz,<-bD] at f3 nA;have f4:binOp .add (uc h1) (uc c1)=GW (uc (h1+c1)):=by
   rw[Dk,yY m2]
  have aY:=pQ (b:=2^64) (l:=y) (i:=i) (x:=z) (by lia);rw[<-hd] at aY;have aU:=fun (hp:Hp) (ct:Nat)=>lZ (hp:=hp) (ct:=ct) (id:=0) (v:=z) (ex:=ycN) (l:=pre++y++post) (o:=pre.length+i) (by rw[rz];lia)
  have pY:=P6 (pre:=pre) (x:=y) (post:=post) (i:=i) z (by lia);simp only[go_sem,ya,yi,Lo,H2,show (i:Int)<(n:Int) by lia,ev,f1,f2,f4,dn 0 pre.length (show i<n+1 by lia),ey,f3,aU,pY];refine⟨_,k-1,rfl,by lia,i+1,h1+c1,b',y.set i z,?_,by lia,by simp[ly],nK gy Jj,m2,jQ,?_⟩
  .rw [zi (by simp only[go_sem,ya,yG,nL,oG,nG,nF,zd hw.pu,wC]) (by simp only[go_sem,ya,yb,yG,mG hw.pu])];rw[wrap64 (by lia) (by lia)];simp only[go_sem,ya]<;>rfl
  .rw [fo,AI];exact anq m1 nA aO _ aY
 .right
  have:i=n:=by lia
  subst this;rw[yq (by lia)] at aO;simp only[go_sem,ya,Lo,H2,show ¬(i:Int)<(i:Int) by lia];exact⟨_,_,rfl,by simp,_,c,bo,y,rfl,rfl,rfl,rfl,rfl,rfl,rfl,rfl,ly,gy,hc,jT,aO⟩
def au2(iv:L.pure 171=GW pO){w:AV}{y0 vs pre post qs:List Nat}(hw:bJ w vs){n:Nat}(od:n<=99999999999)(lv:vs.length=n)(gv:lo (2^64) vs){q:Nat}:
  bP P L [0,1,5,6,17,156,157] Lp (fun k s=>∃(i c:Nat) (y:List Nat),s=⟨[(0,.aq 0 pre.length (n+1)),(1,w),(5,aa n),(6,uc q),(17,uc c),(156,aa n),(157,aa i)],H2 qs (pre++y++post),2,2⟩/\i+k=n/\y.length=n+1/\lo (2^64) y/\c<=1/\
    bv (2^64) y+(2^64)^i*c=bv (2^64) y0+bv (2^64) (vs.take i)) (fun ex s'=>∃tm c y,s'=⟨tm,H2 qs (pre++y++post),2,2⟩/\ex=.exit 4/\ai tm 0=.aq 0 pre.length (n+1)/\ai tm 5=aa n/\ai tm 6=uc q/\ai tm 17=uc c/\y.length=n+1/\lo (2^64) y/\c<=1/\
    bv (2^64) y+(2^64)^n*c=bv (2^64) y0+bv (2^64) vs):=by
 apply bQ;rintro k s ⟨i,c,y,rfl,hk,ly,gy,hc,aO⟩;by_cases hi:i<n
 .left
  have dX:(0:Nat)<2^64:=by decide
  have zQ:=iI dX gv i;have sP:=iI dX gy i;have ev:=hw.a6 (i:=i) (by lia);have ey:=BI (l:=pre++y++post) (o:=pre.length+i) (by rw[rz];lia)
  rw[EI (by lia)] at ey;have fo:=kh (b:=2^64) (l:=vs) i;obtain⟨a,ha⟩:∃a,a=vs.getD i 0:=⟨_,rfl⟩;obtain⟨d,hd⟩:∃d,d=y.getD i 0:=⟨_,rfl⟩;rw[<-ha] at zQ ev fo;rw[<-hd] at sP ey;have f1:=E6 (P:=P) (f:=D P L) iv sP zQ hc;have aY:=pQ (b:=2^64) (l:=y) (i:=i) (x:=(d+a+c)%2^64) (by lia);rw[<-hd] at aY;have jR:=Pe ((2^64)^i) (2^64) (d+a+c);have sL:(d+a+c)/2^64<=1:=by lia
  have Jj:(d+a+c)%2^64<2^64:=xO _ dX;generalize (d+a+c)%2^64=z at*
  generalize (d+a+c)/2^64=c' at*
  have aU:=fun (hp:Hp) (ct:Nat)=>lZ (hp:=hp) (ct:=ct) (id:=0) (v:=z) (ex:=ycN) (l:=pre++y++post) (o:=pre.length+i) (by rw[rz];lia)
  have pY:=P6 (pre:=pre) (x:=y) (post:=post) (i:=i) z (by lia);simp only[go_sem,ya,yi,Lp,H2,show (i:Int)<(n:Int) by lia,ev,f1,dn 0 pre.length (show i<n+1 by lia),ey,aU,pY];refine⟨_,k-1,rfl,by lia,i+1,c',y.set i z,?_,by lia,by simp[ly],nK gy Jj,sL,?_⟩
  .rw [zi (by simp only[go_sem,ya,yG,nL,oG,nG,nF,zd hw.pu,wC]) (by simp only[go_sem,ya,yb,yG,mG hw.pu])];rw[wrap64 (by lia) (by lia)];simp only[go_sem,ya]<;>rfl
  .rw [fo,AI];rw[xK,xK] at jR
   lia
 .right
  have:i=n:=by lia
  subst this;rw[yq (by lia)] at aO;simp only[go_sem,ya,Lp,H2,show ¬(i:Int)<(i:Int) by lia];exact⟨_,_,rfl,by simp,_,c,y,rfl,rfl,rfl,rfl,rfl,rfl,ly,gy,hc,aO⟩
def step_end{A V q Y B bo:Nat}(hV:0<V)(h:Y+q*V=A+B*bo)(h1:A/V<=q)(h2:q<=A/V+1)(hY:Y<B)(hVB:V<=B)(jT:bo<=1):
  (bo=0->q=A/V/\Y=A%V)/\(bo=1->q=A/V+1/\Y+V=B+A%V):=by
 have fg:=wm A V;have hm:=xO A hV;generalize A/V=Q at*
 have hq:q=Q\/q=Q+1:=by lia
 constructor
 .rintro rfl;rcases hq with rfl | rfl
  .grind
  .grind
 .grind
structure Wd(P:aG)(L:Lib):Prop where
 nY:L.pure 143=GW Al
 iv:L.pure 171=GW pO
 AJ:L.pure 173=GW C1
 Nq:L.pure 167=GW Ia
 ag6:Has P L 165 MU
 nX:Has P L 166 Dn
 ag7:Has P L 168 RC
 azt:Has P L 169 AD
 ag8:Has P L 158 It
 azu:Has P L 157 MT
 ag9:Has P L 159 RA
 azv:Has P L 144 Ry
 Xr:Has P L 137 MR
def aD:VC->VC
 | .seq _ b=>b
 | c=>c
def au3(h:Wd P L){w:AV}{x vs pre post qs:List Nat}(hw:bJ w vs){n v1 v2 u0 u1 u2:Nat}(hl:iM x vs n v1 v2 u0 u1 u2){q:Nat}(hq:q<2^64)(fE:bv (2^64) x/bv (2^64) vs<=q)(ma:q<=bv (2^64) x/bv (2^64) vs+1):
  ∃tm x',D P L (aD (aD (aD (aD (aD (aD AD.body)))))) ⟨[(0,.aq 0 pre.length (n+1)),(1,w),(5,aa n),(6,uc q)],H2 qs (pre++x++post),2,2⟩=GW (.ret,⟨tm,H2 qs (pre++x'++post),2,2⟩)/\ai tm 4=uc (bv (2^64) x/bv (2^64) vs)/\x'.length=n+1/\lo (2^64) x'/\bv (2^64) x'=bv (2^64) x%bv (2^64) vs:=by
 have dh:=hl.n2;have od:=hl.nb;have dX:(0:Nat)<2^64:=by decide
 have hV:0<bv (2^64) vs:=by
  rcases xv (bv (2^64) vs) with h0 | h0
  .have:=hl.lt;rw[h0] at this;simp at this
  .exact h0
 have Ba:below 2 w:=zd hw.pu;have Ou:=nR hl.gv;rw[hl.lv] at Ou;have aEJ:(2^64)^n<=(2^64)^(n+1):=xe (by decide) (by lia);have aEK:aD (aD (aD (aD (aD (aD AD.body)))))=aD (aD (aD (aD (aD (aD AD.body))))):=rfl;simp only[go_sem,ya,AD,aD,H2];generalize og:D P L (.loop _ Lo) _=qq;obtain⟨ex,s,rfl,tm,c,bo,y,rfl,rfl,t0,t1,t5,t6,t11,t12,ly,gy,hc,jT,aO⟩:=aW og (au1 (P:=P) (L:=L) h.nY h.iv h.AJ hw od hl.lv hl.gv hq (x:=x) (pre:=pre) (post:=post) (qs:=qs) n) ⟨0,0,0,x,by
  rw[zi (by simp only[go_sem,ya,yG,nL,oG,nG,nF,Ba,wC]) (by simp only[go_sem,ya,yb,yG,mG hw.pu])]
  simp only[go_sem,ya]<;>rfl,by lia,hl.lx,hl.gx,dX,by lia,by simp[bv]⟩
 have Zi:=iI dX gy n;have ey:=BI (l:=pre++y++post) (o:=pre.length+n) (by rw[rz];lia)
 rw[EI (by lia)] at ey;obtain⟨d,hd⟩:∃d,d=y.getD n 0:=⟨_,rfl⟩;rw[<-hd] at Zi ey;have f3:=VO (P:=P) (f:=D P L) h.AJ Zi hc jT;have nA:=UY Zi hc jT;obtain⟨z,hz⟩:∃t,t=(d+2^64*2-c-bo)%2^64:=⟨_,rfl⟩;obtain⟨b',bD⟩:∃t,t=(if c+bo<=d then 0 else 1):=⟨_,rfl⟩;have jQ:b'<=1:=by rw[bD];split<;>lia
 have Jj:z<2^64:=by rw[hz];exact xO _ dX
 rw[<-hz,<-bD] at f3 nA;have aY:=pQ (b:=2^64) (l:=y) (i:=n) (x:=z) (by lia);rw[<-hd] at aY;have aU:=fun (hp:Hp) (ct:Nat)=>lZ (hp:=hp) (ct:=ct) (id:=0) (v:=z) (ex:=ycN) (l:=pre++y++post) (o:=pre.length+n) (by rw[rz];lia)
 have pY:=P6 (pre:=pre) (x:=y) (post:=post) (i:=n) z (by lia);have zR:lo (2^64) (y.set n z):=nK gy Jj;have D2:(y.set n z).length=n+1:=by simp[ly]
 have hY:=nR zR;rw[D2] at hY;have azw:bv (2^64) (y.set n z)+q*bv (2^64) vs=bv (2^64) x+(2^64)^(n+1)*b':=by
  have e2:=congrArg (fun t=>(2^64)^n*t) nA;rw[AI,xm];simp only[xK] at e2 aO;generalize (2^64)^n*(2^64*b')=p1 at*
  generalize (2^64)^n*z=p2 at*
  generalize (2^64)^n*d=p3 at*
  generalize (2^64)^n*c=p4 at*
  generalize (2^64)^n*bo=p5 at*
  lia
 have⟨s0,s1⟩:=step_end hV azw fE ma hY (by lia) jQ;simp only[go_sem,ya,yb,yG,yi,zi,nL,oG,nG,nF,Ba,wC,mG hw.pu,t0,t1,t5,t6,t11,t12,dn 0 pre.length (show n<n+1 by lia),ey,f3,aU,pY];by_cases nv:b'=0
 .have ⟨e1,e2⟩:=s0 nv;simp only[go_sem,ya,show (b':Int)=0 by lia];exact⟨_,y.set n z,rfl,by rw[<-e1];simp only[go_sem],D2,zR,e2⟩
 .have ⟨e1,e2⟩:=s1 (by lia);simp only[go_sem,ya,show ¬(b':Int)=0 by lia];generalize F2:D P L (.loop _ Lp) _=Zh;obtain⟨ex,s,rfl,sG,c2,y2,rfl,rfl,t0,t5,t6,t17,Zj,D3,A0,axX⟩:=aW F2 (au2 (P:=P) (L:=L) h.iv hw od hl.lv hl.gv (y0:=y.set n z) (pre:=pre) (post:=post) (qs:=qs) (q:=q) n) ⟨0,0,y.set n z,by
   rw[zi (by simp only[go_sem,ya,yG,nL,oG,nG,nF,Ba,wC]) (by simp only[go_sem,ya,yb,yG,mG hw.pu])]
   simp only[go_sem,ya]<;>rfl,by lia,D2,zR,by lia,by simp[bv]⟩
  have azx:=iI dX D3 n;have Zk:=BI (l:=pre++y2++post) (o:=pre.length+n) (by rw[rz];lia)
  rw[EI (by lia)] at Zk;obtain⟨d2,js⟩:∃d,d=y2.getD n 0:=⟨_,rfl⟩;rw[<-js] at azx Zk;have f4:=Dk d2 c2;have QQ:=pQ (b:=2^64) (l:=y2) (i:=n) (x:=(d2+c2)%2^64) (by lia);rw[<-js] at QQ;have jR:=Pe ((2^64)^n) (2^64) (d2+c2);have azy:(d2+c2)%2^64<2^64:=xO _ dX;have hc3:(d2+c2)/2^64<=1:=by lia
  generalize (d2+c2)%2^64=z2 at*
  generalize (d2+c2)/2^64=c3 at*
  have Sc:=fun (hp:Hp) (ct:Nat)=>lZ (hp:=hp) (ct:=ct) (id:=0) (v:=z2) (ex:=ycN) (l:=pre++y2++post) (o:=pre.length+n) (by rw[rz];lia)
  have QR:=P6 (pre:=pre) (x:=y2) (post:=post) (i:=n) z2 (by lia);have S7:lo (2^64) (y2.set n z2):=nK D3 azy;have Ov:(y2.set n z2).length=n+1:=by simp[Zj]
  have hY3:=nR S7;rw[Ov] at hY3;have zP:0<q:=by rw[e1];exact Nat.succ_pos _
  have Zl:bv (2^64) x/bv (2^64) vs=q-1:=by rw[e1,uP]
  have f5:binOp .sub (uc q) (.int .u64 1)=GW (uc (q-1)):=F1 (b:=1) (by lia) (by lia);simp only[go_sem,ya,yb,yG,yi,zi,nL,oG,nG,nF,wC,t0,t5,t6,t17,dn 0 pre.length (show n<n+1 by lia),Zk,f4,Sc,QR,f5];refine⟨_,y2.set n z2,rfl,by rw[Zl];simp only[go_sem],Ov,S7,?_⟩;have e3:bv (2^64) (y2.set n z2)+(2^64)^(n+1)*c3=(2^64)^(n+1)+bv (2^64) x%bv (2^64) vs:=by
   rw[<-e2,<-axX,AI];rw[xK] at jR;omega
  rcases (show c3=0\/c3=1 by lia) with rfl | rfl
  .omega
  .lia
def azz(h:Wd P L){w:AV}{x vs pre post qs:List Nat}(hw:bJ w vs){n v1 v2 u0 u1 u2:Nat}(hl:iM x vs n v1 v2 u0 u1 u2):
  ∃x',jz P L (D P L) (H2 qs (pre++x++post)) 2 169 [.aq 0 pre.length (n+1),w]=GW (uc (bv (2^64) x/bv (2^64) vs),H2 qs (pre++x'++post),2)/\x'.length=n+1/\lo (2^64) x'/\bv (2^64) x'=bv (2^64) x%bv (2^64) vs:=by
 have dh:=hl.n2;have od:=hl.nb;have Ba:below 2 w:=zd hw.pu;have sO:(n:Int)-1=((n-1:Nat):Int):=by lia
 have fD:=hw.a6 (i:=n-1) (by have:=hl.lv;lia)
 rw[hl.fC] at fD;have D4:=BI (l:=pre++x++post) (o:=pre.length+n) (by rw[rz];have:=hl.lx;lia)
 rw[EI (by have:=hl.lx;lia),hl.h0] at D4
 have D5:=BI (l:=pre++x++post) (o:=pre.length+(n-1)) (by rw[rz];have:=hl.lx;lia)
 rw[EI (by have:=hl.lx;lia),hl.h1] at D5
 have IM:=hl.Oo;have Sd:=hl.Oq;have pZ:=hl.top;have jL:∃tm x',D P L AD.body ⟨gi 0 [.aq 0 pre.length (n+1),w],H2 qs (pre++x++post),2,2⟩=GW (.ret,⟨tm,H2 qs (pre++x'++post),2,2⟩)/\ai tm 4=uc (bv (2^64) x/bv (2^64) vs)/\x'.length=n+1/\lo (2^64) x'/\bv (2^64) x'=bv (2^64) x%bv (2^64) vs:=by
  have behind:∀(kZ:Env) (q:Nat),ai kZ 0=.aq 0 pre.length (n+1)->ai kZ 1=w->ai kZ 5=aa n->ai kZ 6=uc q->q<2^64->bv (2^64) x/bv (2^64) vs<=q->q<=bv (2^64) x/bv (2^64) vs+1->
    ∃tm x',rN P L (rN P L (BF 0 (GW (Ex.exit 0,⟨kZ,H2 qs (pre++x++post),2,2⟩))) (.kp [0,1,5,6])) (aD (aD (aD (aD (aD (aD AD.body))))))=GW (.ret,⟨tm,H2 qs (pre++x'++post),2,2⟩)/\ai tm 4=uc (bv (2^64) x/bv (2^64) vs)/\x'.length=n+1/\lo (2^64) x'/\bv (2^64) x'=bv (2^64) x%bv (2^64) vs:=by
   intro kZ q t0 t1 t5 t6 g1 g2 g3;have hk:cu kZ [0,1,5,6]=[(0,.aq 0 pre.length (n+1)),(1,w),(5,aa n),(6,uc q)]:=by simp only[go_sem,t0,t1,t5,t6]
   rw[ad5,iS,agR,zi (by rw[hk];simp only[go_sem,yG,nL,oG,nG,nF,Ba,wC]) (by rw[hk];simp only[go_sem,yb,yG,mG hw.pu]),iS,hk];exact au3 h hw hl g1 g2 g3
  by_cases hc:u0<v1
  .have f1:=ag1 h.ag6 h.Nq (P:=P) (L:=L) hc Sd IM;have fg:=wm (u0*2^64+u1) v1;have rX:=xO (u0*2^64+u1) hl.pos;have qO:(u0*2^64+u1)/v1<2^64:=by
    refine (xM hl.pos).2 ?_
    have:=yQ (2^64) (show u0+1<=v1 from hc)
    rw[xz (2^64) v1]
    lia
   have Qp:=hl.first;rw[xz] at fg;generalize (u0*2^64+u1)/v1=q0 at*
   generalize (u0*2^64+u1)%v1=r0 at*
   simp only[go_sem,ya,yi,AD,H2,hw.len,hl.lv,sO,wrapN (n:=n-1) (by lia),fD,dn 0 pre.length (show n<n+1 by lia),dn 0 pre.length (show n-1<n+1 by lia),D4,D5,show ¬(v1:Int)<=(u0:Int) by lia,f1];generalize og:D P L (.loop _ Bz) _=qq;obtain⟨ex,s,rfl,kZ,q,rfl,rfl,t0,t1,t5,t6,g1,g2,g3⟩:=aW og (aeD (P:=P) (L:=L) h.nY h.iv hw hl (pre:=pre) (post:=post) (qs:=qs) q0) ⟨q0,r0,by
    rw[zi (by simp only[go_sem,ya,yG,nL,oG,nG,nF,Ba,wC]) (by simp only[go_sem,ya,yb,yG,mG hw.pu])];rw[yY (show r0<2^64 by lia),xW (show r0<2^64 by lia)]
    simp only[go_sem,ya]<;>rfl,fg,by lia,qO,Qp,rfl⟩
   exact behind kZ q t0 t1 t5 t6 g1 g2 g3
  .have qJ:u0=v1:=by lia
   have f1:=E6 (P:=P) (f:=D P L) h.iv Sd IM (c:=0) (by lia);rw[xd,show (uc 0)=AV.int .u64 0 from rfl] at f1;have Se:=hl.digit
   simp only[go_sem,ya,yi,AD,H2,hw.len,hl.lv,sO,wrapN (n:=n-1) (by lia),fD,dn 0 pre.length (show n<n+1 by lia),dn 0 pre.length (show n-1<n+1 by lia),D4,D5,show (v1:Int)<=(u0:Int) by lia,f1];generalize og:D P L (.loop _ Bz) _=qq;obtain⟨ex,s,rfl,kZ,q,rfl,rfl,t0,t1,t5,t6,g1,g2,g3⟩:=aW og (aeD (P:=P) (L:=L) h.nY h.iv hw hl (pre:=pre) (post:=post) (qs:=qs) 18446744073709551615) ⟨18446744073709551615,u1+v1,by
    rw[zi (by simp only[go_sem,ya,yG,nL,oG,nG,nF,Ba,wC]) (by simp only[go_sem,ya,yb,yG,mG hw.pu])]
    simp only[go_sem,ya]<;>rfl,by rw[qJ];lia,by lia,by decide,by lia,rfl⟩
   exact behind kZ q t0 t1 t5 t6 g1 g2 g3
 have⟨tm,x',g1,g2,g3,g4,g5⟩:=jL;refine⟨x',?_,g3,g4,g5⟩;exact ad9 h.azt g1 (.inr rfl) (by show jw _ [RV.t 4]=_;rw[Xi,Wx,g2])
def WN(v:AV)(m:Nat):Prop:=∃l,bJ v l/\lo (2^64) l/\iz l/\bv (2^64) l=m
def apC(i:Nat)(q:List Nat)(x:Nat):(yD (i+1) 0++q).set i x=yD i 0++x::q:=by
 rw[List.replicate_succ',xJ]
 simp_all
def P7{b:Nat}{l:List Nat}{i:Nat}(h:i<l.length):bv b (l.drop i)=l.getD i 0+b*bv b (l.drop (i+1)):=by
 rw[yT h,gd h];rfl
def VQ{v w:AV}{x y:List Nat}(hv:bJ v x)(hw:bJ w y)(hp:Hp):result hp (.av [v,w])=GW (.av [v,w]):=by
 rcases hv with ⟨rfl,_⟩ | ⟨e,rfl⟩<;>rcases hw with ⟨rfl,_⟩ | ⟨e',rfl⟩<;>rfl
def arN{hp:Hp}{id n l h:Nat}{pu ex:Bool}{cs:List AV}{tm:Env}{x y:X}(hg:ax hp id=GW (.cells ycN pu ex 1 cs))(hx:db tm 0 (GW x)=GW l)(hy:db tm n (GW y)=GW h)(h1:l<h)(h2:h<=n):
  fN hp (.sl 1) (.aq id 0 n) tm (GW x) (GW y)=GW (.aq id l (h-l)):=by
 simp only[fN,hg,hx,hy,yB (uI h1),yB h2,wO,wj,yC,iG (Nat.ne_of_lt h1),xY,yX,yf,yi]
def ac5{hp:Hp}{id n h:Nat}{pu ex:Bool}{cs:List AV}{tm:Env}{y:X}(hg:ax hp id=GW (.cells ycN pu ex 1 cs))(hy:db tm n (GW y)=GW h)(h1:0<h)(h2:h<=n):
  fN hp (.sl 1) (.aq id 0 n) tm GX (GW y)=GW (.aq id 0 h):=by
 have hx:db tm 0 GX=GW 0:=rfl;simp only[fN,hg,hx,hy,yB (tk h),yB h2,wO,wj,yC,iG (show (0:Nat)≠h by lia),xY,yX,ve,xd,ycn]
def af0(P:aG)(L:Lib)(f:cw)(hp:Hp)(ct n:Nat)(xs:List AV):fj P L f hp ct .heap (.fn (.f n) [] []) xs=jz P L f hp ct n xs:=by
 simp only[fj,xG,wz]
def au4(h:Wd P L){v w:AV}{x:List Nat}(hv:bJ v x)(hx:lo (2^64) x)(lx:x.length<=99999999999){d:Nat}(hw:bJ w [d])(iA:0<d)(Zm:d<2^64){n:Nat}(hn:n=x.length):
  bP P L [0,1,6,7,8] Lk (fun k s=>∃(i r:Nat) (q:List Nat),s=⟨[(0,v),(1,w),(6,.aq 0 0 n),(7,uc r),(8,aa ((i:Int)-1))],[(0,.cells ycN ycN ycN 1 ((yD i 0++q).map uc))],1,0⟩/\i=k/\i+q.length=n/\lo (2^64) q/\r<d/\bv (2^64) (x.drop i)=bv (2^64) q*d+r) (fun ex s'=>∃tm r q,s'=⟨tm,[(0,.cells ycN ycN ycN 1 (q.map uc))],1,0⟩/\ex=.exit 0/\ai tm 6=.aq 0 0 n/\ai tm 7=uc r/\q.length=n/\lo (2^64) q/\r<d/\bv (2^64) x=bv (2^64) q*d+r):=by
 apply bQ;rintro k s ⟨i,r,q,rfl,rfl,hlen,bf,hr,aO⟩
 cases i with
 | zero=>
  right
  simp only[go_sem,ya,Lk,show ¬(0:Int)<=((0:Nat):Int)-1 by lia];exact⟨_,_,rfl,by simp,_,r,q,rfl,rfl,rfl,rfl,by lia,bf,hr,by simpa using aO⟩
 | succ i=>
  left
  have gx:=iI (show 0<2^64 by decide) hx i;have e1:=hv.a6 (i:=i) (by lia);have e2:=hw.a6 (i:=0) (by simp);have jS:=P7 (b:=2^64) (l:=x) (i:=i) (by lia);rw[show ([d]:List Nat).getD 0 0=d from rfl] at e2;generalize x.getD i 0=a at*
  have e3:=ag1 (P:=P) (L:=L) h.ag6 h.Nq hr gx Zm;have fg:=wm (r*2^64+a) d;have rX:=xO (r*2^64+a) iA;have qO:(r*2^64+a)/d<2^64:=by
   refine (xM iA).2 ?_
   lia
  generalize (r*2^64+a)/d=q1 at*
  generalize (r*2^64+a)%d=r1 at*
  have aU:=fun (hp:Hp) (ct:Nat)=>lZ (hp:=hp) (ct:=ct) (id:=0) (v:=q1) (ex:=ycN) (l:=yD (i+1) 0++q) (o:=i) (by simp;lia)
  simp only[go_sem,ya,yi,Lk,show ((i+1:Nat):Int)-1=(i:Int) by lia,show (0:Int)<=(i:Int) by lia,e1,e2,e3,dn 0 0 (show i<n by lia),yf,aU,apC];refine⟨_,i,rfl,by lia,i,r1,q1::q,?_,rfl,by simp;lia,Ps.2 ⟨HW.2 qO,bf⟩,rX,?_⟩
  .rw [wrap64 (by lia) (by lia)];simp only[go_sem,ya,yb,ae,an hv.pu,an hw.pu]<;>rfl
  .rw [jS,aO];simp only[bv];rw[wg,xK,<-xm (2^64)];rw[xz d q1] at fg
   lia
def ans{s u u1:Nat}(hs:s<64)(hu:u<2^64):u/2^s<2^64/\(0<s->u/2^s|||(u1*2^(64-s)%2^64)<2^64)/\
  (if 0<s then (u/2^s|||(u1*2^(64-s)%2^64)) else u/2^s)*2^s+u%2^s=u+2^64*(u1%2^s):=by
 have e:2^64=2^s*2^(64-s):=by rw[<-xL,show s+(64-s)=64 by lia]
 have h1:u1*2^(64-s)%2^64=(u1%2^s)*2^(64-s):=by rw[e,um]
 have hp:=xr s;have h2:u/2^s<2^(64-s):=by
  refine (xM hp).2 ?_
  grind
 have h3:u/2^s|||(u1*2^(64-s)%2^64)=(u1%2^s)*2^(64-s)+u/2^s:=by rw[h1,ycA,VP h2]
 have h4:(u1%2^s)*2^(64-s)+u/2^s<2^64:=by
  have:=yQ (2^(64-s)) (show u1%2^s+1<=2^s from xO _ hp)
  grind
 have h5:=uk u (2^s)
 grind
def au5{us qs:List Nat}{n la m s:Nat}(hs:s<64)(lu:us.length=la)(gu:lo (2^64) us)(hn:n<la)(Ow:la<=100000000000):
  bP P L [9,11,12,13,96,97] Hs (fun k st=>∃(i:Nat) (rs:List Nat),st=⟨[(9,aa s),(11,.aq 0 0 la),(12,aa n),(13,.aq 1 0 m),(96,aa n),(97,aa i)],H2 qs (rs++us.drop i),2,0⟩/\i+k=n/\rs.length=i/\lo (2^64) rs/\bv (2^64) rs*2^s+us.getD 0 0%2^s=bv (2^64) (us.take i)+(2^64)^i*(us.getD i 0%2^s)) (fun ex st'=>∃tm rs,st'=⟨tm,H2 qs (rs++us.drop n),2,0⟩/\ex=.exit 4/\ai tm 11=.aq 0 0 la/\ai tm 12=aa n/\ai tm 13=.aq 1 0 m/\rs.length=n/\lo (2^64) rs/\bv (2^64) rs*2^s+us.getD 0 0%2^s=bv (2^64) (us.take n)+(2^64)^n*(us.getD n 0%2^s)):=by
 apply bQ;rintro k st ⟨i,rs,rfl,hk,lr,gr,aO⟩;by_cases hi:i<n
 .left
  have dX:(0:Nat)<2^64:=by decide
  have g0:=iI dX gu i;have g1:=iI dX gu (i+1);have d0:us.drop i=us.getD i 0::us.getD (i+1) 0::us.drop (i+2):=by
   rw[yT (show i<us.length by lia),yT (show i+1<us.length by lia),gd,gd]
  have fo:=kh (b:=2^64) (l:=us) i;have dd:∀r,r<2^64->r*2^s+us.getD i 0%2^s=us.getD i 0+2^64*(us.getD (i+1) 0%2^s)->lo (2^64) (rs++[r])/\bv (2^64) (rs++[r])*2^s+us.getD 0 0%2^s=bv (2^64) (us.take (i+1))+(2^64)^(i+1)*(us.getD (i+1) 0%2^s):=fun r h1 h2=>by
   refine⟨Ps.2 ⟨gr,HW.2 h1⟩,?_⟩;rw[Ad,C7,lr,fo,wg,AI,xm,xm];have e2:=congrArg (fun t=>(2^64)^i*t) h2;simp only[xK] at e2;generalize (2^64)^i*(r*2^s)=p1 at*
   generalize (2^64)^i*(us.getD i 0%2^s)=p2 at*
   generalize (2^64)^i*us.getD i 0=p3 at*
   generalize (2^64)^i*(2^64*(us.getD (i+1) 0%2^s))=p4 at*
   lia
  have Xs:us.drop (i+1)=us.getD (i+1) 0::us.drop (i+2):=by
   rw[yT (show i+1<us.length by lia),gd]
  generalize us.getD i 0=a at*
  obtain⟨c,hc⟩:∃c,c=us.getD (i+1) 0:=⟨_,rfl⟩;rw[<-hc] at g1 d0 Xs dd;generalize us.drop (i+2)=dr at*
  rw[d0];have⟨n1,n2,n3⟩:=ans (u1:=c) hs g0;have o1:=Np .i64 a (s:=s) (by lia);have o2:=No .i64 c (s:=64-s) (by lia);have o3:binOp .sub (.int .i64 64) (aa s)=GW (aa (64-s:Nat)):=by
   rw[P3,wrap64 (by lia) (by lia)];congr 2;lia
  have o4:=Zd n1 (xO (c*2^(64-s)) dX);have sa:∀z y,(rs++z::y).set i a=rs++a::y:=fun z y=>by rw[yaK _ _ (by lia),lr];simp
  have e0:∀z y,vW i ((rs++z::y).map uc)=uc z::y.map uc:=fun z y=>by
   rw[xu,tq (by simp[lr])];rfl
  have e1:∀z y u,vW (i+1) ((rs++z::y::u).map uc)=uc y::u.map uc:=fun z y u=>by
   rw[show rs++z::y::u=(rs++[z])++y::u by simp,xu,tq (by simp[lr])];rfl
  have Jc:∀(hp:Hp) (ct x z:Nat) (y:List Nat),dS hp ct 0 i 1 [.int .u64 (x:Int)] (GW (.cells ycN ycN ycN 1 ((rs++z::y).map uc)))=GW (.av [],aY hp 0 (.cells ycN ycN ycN 1 ((rs++x::y).map uc)),ct):=fun hp ct x z y=>by
   rw[lZ (by simp;lia),yaK _ _ (by lia),lr];simp
  by_cases h0:0<s
  .rw [yK h0] at n3;have⟨f1,f2⟩:=dd _ (n2 h0) n3;generalize a/2^s=a1 at*
   generalize a1|||(c*2^(64-s)%2^64)=r at*
   simp only[go_sem,ya,yi,Hs,H2,show (i:Int)<(n:Int) by lia,dn 0 0 (show i<la by lia),yf,e0,o1,Jc,show (0:Int)<(s:Int) by lia,show (i:Int)+1=((i+1:Nat):Int) from rfl,wrapN (n:=i+1) (by lia),show ((i+1:Nat):Int)<(la:Int) by lia,dn 0 0 (show i+1<la by lia),e1,o3,o2,o4];refine⟨_,k-1,rfl,by lia,i+1,rs++[r],by simp only[go_sem,ya,yb,ae];rw[Xs];simp,by lia,by simp[lr],f1,by rw[<-hc];exact f2⟩
  .rw [yI h0] at n3;have⟨f1,f2⟩:=dd _ n1 n3;generalize a/2^s=a1 at*
   simp only[go_sem,ya,yi,Hs,H2,show (i:Int)<(n:Int) by lia,dn 0 0 (show i<la by lia),yf,e0,o1,Jc,show ¬(0:Int)<(s:Int) by lia,show (i:Int)+1=((i+1:Nat):Int) from rfl,wrapN (n:=i+1) (by lia)];refine⟨_,k-1,rfl,by lia,i+1,rs++[a1],by simp only[go_sem,ya,yb,ae];rw[Xs];simp,by lia,by simp[lr],f1,by rw[<-hc];exact f2⟩
 .right
  have:i=n:=by lia
  subst this;simp only[go_sem,ya,Hs,H2,show ¬(i:Int)<(i:Int) by lia];exact⟨_,_,rfl,by simp,_,rs,rfl,rfl,rfl,rfl,rfl,lr,gr,aO⟩
section
variable {v w:AV}{l x:List Nat}
def ace{b p A V bu bq0 U0 pre:Nat}(h1:bu=pre+p*A)(h2:bu+bq0*V=U0):(pre+p*(A%V))+(bq0+p*(A/V))*V=U0:=by
 have fg:=wm A V
 grind
def axY(hp:Hp)(ct:Nat)(ex:Bool)(sz n:Nat)(cs:List AV):own hp ct (.cL ex sz n cs)=(.aq ct 0 n,(ct,.cells ycN ycN ex sz cs)::hp,ct+1):=rfl
def au6(h:Wd P L){vs:List Nat}(hw:bJ w vs)(gv:lo (2^64) vs){n la m:Nat}(lv:vs.length=n)(dh:2<=n)(oU:n<=la)(Ow:la<=99999999999)(hm:m=la-n+1)(fC:0<vs.getD (n-1) 0){s U0:Nat}:
  bP P L [9,10,11,12,13,14] Ll (fun k st=>∃(j:Nat) (us qs:List Nat),st=⟨[(9,aa s),(10,w),(11,.aq 0 0 (la+1)),(12,aa n),(13,.aq 1 0 m),(14,aa ((j:Int)-1))],H2 qs us,2,0⟩/\j=k/\j<=m/\us.length=la+1/\qs.length=m/\lo (2^64) us/\lo (2^64) qs/\(∀i,i<j->qs.getD i 0=0)/\
    bv (2^64) us+bv (2^64) qs*bv (2^64) vs=U0/\bv (2^64) (us.drop j)<bv (2^64) vs) (fun ex st'=>∃tm us qs,st'=⟨tm,H2 qs us,2,0⟩/\ex=.exit 2/\ai tm 9=aa s/\ai tm 11=.aq 0 0 (la+1)/\ai tm 12=aa n/\ai tm 13=.aq 1 0 m/\us.length=la+1/\qs.length=m/\lo (2^64) us/\lo (2^64) qs/\
    bv (2^64) us+bv (2^64) qs*bv (2^64) vs=U0/\bv (2^64) us<bv (2^64) vs):=by
 apply bQ;rintro k st ⟨j,us,qs,rfl,rfl,hj,lu,lq,gu,gq,hz,aO,pZ⟩
 cases j with
 | zero=>
  right
  simp only[go_sem,ya,Ll,H2,show ¬(0:Int)<=((0:Nat):Int)-1 by lia];exact⟨_,_,rfl,by simp,_,us,qs,rfl,rfl,rfl,rfl,rfl,rfl,lu,lq,gu,gq,aO,by simpa using pZ⟩
 | succ j=>
  left
  have dX:(0:Nat)<2^64:=by decide
  obtain⟨pre,eX⟩:∃p,p=us.take j:=⟨_,rfl⟩;obtain⟨x,hx⟩:∃p,p=(us.drop j).take (n+1):=⟨_,rfl⟩;obtain⟨post,fV⟩:∃p,p=us.drop (j+(n+1)):=⟨_,rfl⟩;have lp:pre.length=j:=by rw[eX,yO];lia
  have lx:x.length=n+1:=by rw[hx,yO,xX];lia
  have lG:us=pre++x++post:=by
   rw[eX,hx,fV,<-vd,xJ,wc,wc]
  have gx:lo (2^64) x:=by rw[hx];exact CW (ad2 gu _) _
  have Xt:lo (2^64) pre:=by rw[eX];exact CW gu _
  have axZ:lo (2^64) post:=by rw[fV];exact ad2 gu _
  have hA:bv (2^64) (us.drop j)=us.getD j 0+2^64*bv (2^64) (us.drop (j+1)):=P7 (by lia);have hgj:=iI dX gu j;have Zn:us.drop j=x++post:=by rw[fV,hx,<-vd,wc]
  have Cp:bv (2^64) (us.drop j)=bv (2^64) x+(2^64)^(n+1)*bv (2^64) post:=by rw[Zn,Ad,lx]
  have Ou:=nR gv;rw[lv] at Ou;have aH:bv (2^64) (us.drop j)<2^64*bv (2^64) vs:=by lia
  have hp0:bv (2^64) post=0:=by
   rcases xv (bv (2^64) post) with e | e
   .exact e
   .have h1:=xa ((2^64)^(n+1)) e;rw[yi,AI] at h1;rw[AI] at Cp
    lia
  rw[hp0,xI,xd] at Cp;have hl:iM x vs n (vs.getD (n-1) 0) (vs.getD (n-2) 0) (x.getD n 0) (x.getD (n-1) 0) (x.getD (n-2) 0):=
   ⟨dh,by lia,lx,lv,gx,gv,rfl,rfl,rfl,rfl,rfl,fC,by rw[<-Cp];exact aH⟩
  have Se:=hl.digit;have⟨x',e1,Zo,S8,Ox⟩:=azz h hw hl (pre:=pre) (post:=post) (qs:=qs);rw[lp,<-lG] at e1;have Zp:bv (2^64) us=bv (2^64) pre+(2^64)^j*bv (2^64) x:=by
   have:=KO (b:=2^64) us j (by lia)
   rw[Cp,<-eX] at this;exact this
  have Xu:bv (2^64) (pre++x'++post)=bv (2^64) pre+(2^64)^j*bv (2^64) x':=by
   rw[xJ,Ad,Ad,hp0,xI,xd,lp]
  have aY:=pQ (b:=2^64) (l:=qs) (i:=j) (x:=bv (2^64) x/bv (2^64) vs) (by lia);rw[hz j (by lia),xI,xd] at aY;have dd:=ace (b:=0) Zp aO;have aU:=fun (hp:Hp) (ct:Nat)=>lZ (hp:=hp) (ct:=ct) (id:=1) (v:=bv (2^64) x/bv (2^64) vs) (ex:=ycN) (l:=qs) (o:=j) (by lia)
  have zO:0<bv (2^64) vs:=by lia
  have rX:=xO (bv (2^64) x) zO;have lM:∀tm (x y:X),db tm 0 (GW x)=GW j->db tm (la+1) (GW y)=GW (j+n+1)->fN (H2 qs us) (.sl 1) (.aq 0 0 (la+1)) tm (GW x) (GW y)=GW (.aq 0 j (n+1)):=fun tm x y h1 h2=>by
   rw[arN (cs:=us.map uc) (pu:=ycN) (ex:=ycN) rfl h1 h2 (by lia) (by lia),show j+n+1-j=n+1 by lia]
  simp only[go_sem,ya,yi,Ll,H2,show ((j+1:Nat):Int)-1=(j:Int) by lia,show (0:Int)<=(j:Int) by lia,show (j:Int)+(n:Int)=((j+n:Nat):Int) from rfl,wrapN (n:=j+n) (by lia),show ((j+n:Nat):Int)+1=((j+n+1:Nat):Int) from rfl,wrapN (n:=j+n+1) (by lia),lM,dU,af0,e1,dn 1 0 (show j<m by lia),yf,aU];refine⟨_,j,rfl,by lia,j,pre++x'++post,qs.set j (bv (2^64) x/bv (2^64) vs),?_,rfl,by lia,by rw[rz,lp,Zo,fV,xX];lia,by simp[lq],Ps.2 ⟨Ps.2 ⟨Xt,S8⟩,axZ⟩,nK gq Se,fun i hi=>by rw[rq (by lia)];exact hz i (by lia),?_,?_⟩
  .rw [wrap64 (by lia) (by lia)];simp only[go_sem,ya,yb,ae,an hw.pu]<;>rfl
  .rw [Xu,Ox,aY];exact dd
  .rw [xJ,tq lp,Ad,hp0,xI,xd,Ox];exact rX
def ax0{n:Nat}(h:l.length=n+1):(2^64)^n*l.getD n 0<=bv (2^64) l:=by
 have:=kh (b:=2^64) (l:=l) n
 grind
def p9{m K:Nat}(hn:iz l)(hv:bv (2^64) l=m)(h:m<(2^64)^K):l.length<=K:=amJ (b:=2^64) (by decide) hn (by rw[hv];exact h)
def au7(h:Wd P L){d:Nat}(hv:bJ v x)(hw:bJ w [d])(gx:lo (2^64) x)(lx:x.length<=90000000000)(iA:0<d)(Zm:d<2^64)(ec:af P L 158 [v,w] (aa (dZ (bv (2^64) x) d)))(hc:d<=bv (2^64) x):
  ∃q r,af P L 137 [v,w] (.av [q,r])/\WN q (bv (2^64) x/d)/\WN r (bv (2^64) x%d):=by
 have dW:¬dZ (bv (2^64) x) d<0:=by unfold dZ;rw[yI (by lia)];split<;>decide
 obtain⟨n,hn⟩:∃n,n=x.length:=⟨_,rfl⟩;have main:∃r l,(∀c:Nat->AV->AV->Option AV,True)/\r<d/\l.length=n/\lo (2^64) l/\bv (2^64) x=bv (2^64) l*d+r/\
   ∃q1 r1,bJ q1 (eC l)/\bJ r1 (eC [r])/\af P L 137 [v,w] (.av [q1,r1]):=by
  unfold af;rw[aF h.Xr]
  simp only[go_sem,ya,MR,hv.len,hv.ak,hw.len,hw.ak,ec,dW,yx,yN,yf,show ((1:Nat):Int)=(1:Int) from rfl,<-hn,F0 (n:=n) _ (by lia)];generalize hq:D P L (.loop _ Lk) _=q;obtain⟨ex,s,rfl,tm,r,l,rfl,rfl,t6,t7,AZ,bf,hr,aO⟩:=aW hq (au4 (P:=P) (L:=L) h hv gx (by lia) hw iA Zm hn n) ⟨n,0,[],by
   rw[wrap64 (by lia) (by lia),wz]
   simp only[go_sem,ya,yb,ae,an hv.pu,an hw.pu]<;>rfl,rfl,rfl,Ql,iA,by rw[yZ (by lia)];simp[bv]⟩
  have hf:=oB ycN l;rw[AZ] at hf;have⟨q1,e1,fE⟩:=Dy h.nX hf (by lia);have⟨r1,e2,dQ⟩:=Dy h.nX (oB ycN [r]) (by simp);simp only[yx,yN,yf,xi,List.map_nil] at e2;refine⟨r,l,fun _=>trivial,hr,AZ,bf,aO,q1,r1,fE,dQ,?_⟩
  simp only[go_sem,ya,yb,yG,yk,yi,ae,t6,t7,Dx _ (n:=n) (l:=l) AZ ycN,e1,fE.shut,e2,dQ.shut];exact VQ fE dQ _
 have⟨r,l,_,hr,AZ,bf,aO,q1,r1,fE,dQ,e⟩:=main;have hq:bv (2^64) l=bv (2^64) x/d:=by
  rw[aO,xz,tV iA,xW hr,xd]
 have hm:r=bv (2^64) x%d:=by
  rw[aO,xz,tW,yY hr]
 exact⟨q1,r1,e,⟨_,fE,CN bf,CM _,by rw[CL,hq]⟩,⟨_,dQ,CN (HW.2 (by lia)),CM _,by rw[CL,C7,hm]⟩⟩
def au8(h:Wd P L){y:List Nat}(hv:bJ v x)(hw:bJ w y)(gx:lo (2^64) x)(gy:lo (2^64) y)(nx:iz x)(ny:iz y)(lx:x.length<=90000000000)(ly:2<=y.length)(ec:af P L 158 [v,w] (aa (dZ (bv (2^64) x) (bv (2^64) y))))(hc:bv (2^64) y<=bv (2^64) x):
  ∃q r,af P L 137 [v,w] (.av [q,r])/\WN q (bv (2^64) x/bv (2^64) y)/\WN r (bv (2^64) x%bv (2^64) y):=by
 have dX:(0:Nat)<2^64:=by decide
 have dW:¬dZ (bv (2^64) x) (bv (2^64) y)<0:=by unfold dZ;rw[yI (by lia)];split<;>decide
 have hyx:y.length<=x.length:=by
  by_cases hh:x.length<y.length
  .have:=P2 (b:=2^64) (by decide) gx ny hh;lia
  .lia
 obtain⟨n,hn⟩:∃n,n=y.length:=⟨_,rfl⟩;obtain⟨la,Ow⟩:∃la,la=x.length:=⟨_,rfl⟩;have rP:=PH ny (fun e=>by subst e;simp at ly);have GA:=iI dX gy (y.length-1);have Zq:=hw.a6 (i:=y.length-1) (by lia);have lf:=ax0 (l:=y) (n:=n-1) (by lia);rw[<-hn] at rP GA Zq;obtain⟨top,pZ⟩:∃top,y.getD (n-1) 0=top:=⟨_,rfl⟩;rw[pZ] at rP GA Zq lf;have elz:=aeB (P:=P) (f:=D P L) h.Nq GA;have⟨z1,z2,z3⟩:=UZ (ybk rP) GA;generalize 64-eY 64 top=s at*
 have⟨ov,ev,lov,gov,vov⟩:=ag2 h.ag7 hw gy (by lia) z1;have⟨ou,eu,lou,gou,vou⟩:=ag2 h.ag7 hv gx (by lia) z1;have⟨v',Zr,eJ⟩:=Dy h.nX (oB ycN ov) (by lia);rw[lov,<-hn] at Zr;rw[<-hn] at ev;rw[<-Ow] at eu lou;have jR:=xr s;obtain⟨vs,Cc⟩:∃vs,vs=eC ov:=⟨_,rfl⟩;rw[<-Cc] at eJ;have GB:lo (2^64) vs:=by rw[Cc];exact CN gov
 have Oy:iz vs:=by rw[Cc];exact CM _
 have Bb:bv (2^64) vs=bv (2^64) y*2^s:=by rw[Cc,CL,vov]
 have hyW:bv (2^64) y*2^s<(2^64)^n:=by
  have e:2^64=2^(64-s)*2^s:=by rw[<-xL,show 64-s+s=64 by lia]
  have e1:=kh (b:=2^64) (l:=y) (n-1);rw[show n-1+1=n by lia,yq (by lia),pZ] at e1;have e2:=nR (CW gy (n-1));rw[yO,xA (by lia)] at e2;have e3:top<2^(64-s):=uQ (a:=2^s) (Nat.lt_of_lt_of_eq z3 e);have e4:=yQ (2^s) (show top+1<=2^(64-s) from e3);rw[<-e] at e4;have e5:bv (2^64) y<(2^64)^(n-1)*(top+1):=by rw[xK,yi];lia
  have e6:=xZ e5 jR;rw[xm] at e6;have e7:=xa ((2^64)^(n-1)) e4;rw[<-AI,show n-1+1=n by lia] at e7;exact yR e6 e7
 have azA:(2^64)^(n-1)*2^s<=bv (2^64) vs:=by
  rw[Bb];refine yQ _ (xn ?_ lf)
  have:=xa ((2^64)^(n-1)) (show 1<=top by lia)
  lia
 have Cq:vs.length=n:=by
  have h1:vs.length<=n:=by
   refine p9 Oy Bb ?_;exact hyW
  have h2:¬vs.length<n:=fun hh=>by
   have e1:=nR GB;have e2:(2^64)^vs.length<=(2^64)^(n-1):=xe dX (by lia);have e3:=yQ (2^s) lf;rw[xm,<-Bb] at e3;have e4:=xa ((2^64)^(n-1)) (show 1<=top*2^s by lia)
   lia
  lia
 have fC:0<vs.getD (n-1) 0:=by
  have:=PH Oy (fun e=>by rw[e] at Cq;simp at Cq;lia)
  rw[Cq] at this;exact ybk this
 obtain⟨m,hm⟩:∃m,m=la-n+1:=⟨_,rfl⟩;have WB:bv (2^64) (ou.drop m)<bv (2^64) vs:=by
  have e1:=KO (b:=2^64) ou m (by lia);have e2:=nR gx;rw[<-Ow] at e2;have e3:=xZ e2 jR;rw[<-vou] at e3;have e4:(2^64)^la=(2^64)^m*(2^64)^(n-1):=by rw[<-xL];congr 1;lia
  rw[e4,xm] at e3;have e5:(2^64)^m*bv (2^64) (ou.drop m)<(2^64)^m*((2^64)^(n-1)*2^s):=by lia
  exact yR (Nat.lt_of_mul_lt_mul_left e5) azA
 have e1y:(y.length:Int)-1=((n-1:Nat):Int):=by lia
 have azB:((la:Nat):Int)-(n:Int)=((m-1:Nat):Int):=by lia
 have jL:∃tm us qs rs,(us.length=la+1/\qs.length=m/\lo (2^64) us/\lo (2^64) qs/\bv (2^64) us+bv (2^64) qs*bv (2^64) vs=bv (2^64) x*2^s/\bv (2^64) us<bv (2^64) vs/\
   rs.length=n/\lo (2^64) rs/\bv (2^64) rs*2^s+us.getD 0 0%2^s=bv (2^64) (us.take n)+(2^64)^n*(us.getD n 0%2^s))/\ai tm 0=v/\
   ∃q1 r1,bJ q1 (eC qs)/\bJ r1 (eC rs)/\af P L 137 [v,w] (.av [q1,r1]):=by
  unfold af at ec ev eu Zr;unfold af;rw[aF h.Xr];have hfo:=Dx (n:=n+1) (l:=ov) (hp:=[]) (by lia) ycN
  simp only[go_sem,ya,yb,MR,hv.len,hv.ak,hw.len,hw.ak,ec,dW,show ¬(y.length:Int)=1 by lia,e1y,wrapN (n:=n-1) (by lia),Zq,elz,ev,axY,Dx _ (n:=n+1) (l:=ov) (by lia) ycN,Zr,eJ.len,eJ.shut,eu,Cq,<-Ow,azB,wrapN (n:=m-1) (by lia),show ((m-1:Nat):Int)+1=(m:Int) by lia,wrapN (n:=m) (by lia),F0 (n:=m) _ (by lia)];generalize og:D P L (.loop _ Ll) _=qq;obtain⟨ex,st,rfl,tm,us,qs,rfl,rfl,t9,t11,t12,t13,S9,Ta,Jl,Zs,aO,aH⟩:=aW og (au6 (P:=P) (L:=L) h eJ GB Cq (by lia) (by lia) (by lia) hm fC (s:=s) (U0:=bv (2^64) x*2^s) m) ⟨m,ou,yD m 0,by
   rw[show ((m-1:Nat):Int)=(m:Int)-1 by lia]
   simp only[go_sem,ya,yb,ae,an eJ.pu]<;>rfl,rfl,yz _,lou,by simp,gou,HX dX m,fun i _=>EH m i,by rw[HY,ve,xd,vou],WB⟩
  simp only[go_sem,ya,yb,ae,t9,t11,t12,t13];generalize F2:D P L (.loop _ Hs) _=Zh;obtain⟨ex,st,rfl,sG,rs,rfl,rfl,t11,t12,t13,Zt,Zu,Sf⟩:=aW F2 (au5 (P:=P) (L:=L) (qs:=qs) (m:=m) (la:=la+1) (n:=n) z1 S9 Jl (by lia) (by lia) n) ⟨0,[],by simp only[go_sem,ya,yb,ae]<;>rfl,by lia,rfl,Ql,by simp[bv]⟩
  have lM:∀(hp:Hp) tm (y:X),ax hp 0=GW (.cells ycN ycN ycN 1 ((rs++us.drop n).map uc))->db tm (la+1) (GW y)=GW n->fN hp (.sl 1) (.aq 0 0 (la+1)) tm GX (GW y)=GW (.aq 0 0 n):=fun hp tm y h1 h2=>ac5 h1 h2 (by lia) (by lia)
  have Oz:=oB ycN qs;rw[Ta] at Oz;have⟨q1,f1,fE⟩:=Dy h.nX Oz (by lia);have fo:(rs++us.drop n).take n=rs:=by rw[List.take_append_of_le_length (by lia),yq (by lia)]
  have OA:∃e,∀hp:Hp,kW 0 n (GW (ycN,1,(rs++us.drop n).map uc,hp))=GW (.ap e n (rs.map uc),hp):=by
   refine⟨ycN&&yP 0 1&&yp n ((rs++us.drop n).map uc).length,fun hp=>?_⟩;simp only[kW,yf,yi,slice,yg,<-yau,fo];rw[yB (by simp;lia)]
   rfl
  have⟨e,OA⟩:=OA;have iN:=oB e rs;rw[Zt] at iN;have⟨r1,f2,dQ⟩:=Dy h.nX iN (by lia);unfold af at f1 f2;refine⟨[(0,v)],us,qs,rs,⟨S9,Ta,Jl,Zs,aO,aH,Zt,Zu,Sf⟩,rfl,q1,r1,fE,dQ,?_⟩
  simp only[go_sem,ya,yb,ae,t11,t12,t13,Dx _ (n:=m) (l:=qs) Ta ycN,f1,fE.shut,lM,dU,OA,f2,dQ.shut];exact VQ fE dQ _
 have⟨tm,us,qs,rs,⟨S9,Ta,Jl,Zs,aO,aH,Zt,Zu,Sf⟩,_,q1,r1,fE,dQ,e⟩:=jL;have lj:0<bv (2^64) y:=by
  have:=xa ((2^64)^(n-1)) (show 1<=top by lia)
  have:=ybG (n:=n-1) dX
  lia
 rw[Bb] at aO aH;have Nr:bv (2^64) qs=bv (2^64) x/bv (2^64) y:=by
  rw[<-tF _ _ jR,<-aO,ybE,xz,tV (vM lj jR),xW aH,xd]
 have Tb:bv (2^64) us=(bv (2^64) x%bv (2^64) y)*2^s:=by
  rw[<-um,<-aO,ybE,xz (bv _ qs),tW,yY aH]
 have lG:=KO (b:=2^64) us n (by lia);have iA:bv (2^64) (us.drop n)=0:=by
  rcases xv (bv (2^64) (us.drop n)) with h0 | h0
  .exact h0
  .have:=xa ((2^64)^n) h0
   lia
 have hun:us.getD n 0=0:=by
  have:=P7 (b:=2^64) (l:=us) (i:=n) (by lia)
  lia
 rw[iA,xI,xd] at lG;have D0:us.getD 0 0%2^s=0:=by
  have e1:=P7 (b:=2^64) (l:=us) (i:=0) (by lia);rw[yg,Tb] at e1;have e2:2^64=2^s*2^(64-s):=by rw[<-xL,show s+(64-s)=64 by lia]
  have e3:(us.getD 0 0+2^64*bv (2^64) (us.drop (0+1)))%2^s=us.getD 0 0%2^s:=by
   conv=>lhs;rw[e2,xm]
   exact Nat.add_mul_mod_self_left _ _ _
  rw[<-e3,<-e1,Nat.mul_mod_left]
 rw[hun,D0,Nat.zero_mod,xI,xd,xd,<-lG,Tb] at Sf;have af1:bv (2^64) rs=bv (2^64) x%bv (2^64) y:=Nat.eq_of_mul_eq_mul_right jR Sf;exact⟨q1,r1,e,⟨_,fE,CN Zs,CM _,by rw[CL,Nr]⟩,⟨_,dQ,CN Zu,CM _,by rw[CL,af1]⟩⟩
def aha(h:Wd P L){a b K:Nat}(hv:WN v a)(hw:WN w b)(hb:0<b)(ha:a<(2^64)^K)(hbK:b<(2^64)^K)(hK:K<=90000000000):
  ∃q r,af P L 137 [v,w] (.av [q,r])/\WN q (a/b)/\WN r (a%b):=by
 have⟨x,Jm,gx,nx,vx⟩:=hv;have⟨y,Tc,gy,ny,vy⟩:=hw;have lx:x.length<=90000000000:=xn (p9 nx vx ha) hK;have ly:y.length<=90000000000:=xn (p9 ny vy hbK) hK;have ec:=agX h.ag8 Jm Tc gx gy nx ny (by lia) (by lia);subst vx;subst vy;by_cases hc:bv (2^64) x<bv (2^64) y
 .have dW:dZ (bv (2^64) x) (bv (2^64) y)= -1:=by unfold dZ;rw[yK hc]
  rw[dW] at ec;refine⟨.ab,v,?_,⟨[],Af,Ql,rfl,by rw[xW hc];rfl⟩,⟨x,Jm,gx,nx,by rw[yY hc]⟩⟩
  unfold af;rw[aF h.Xr];simp only[go_sem,ya,MR,Jm.ak,Tc.ak,ec,show (-1:Int)<0 by decide];exact VQ Af Jm _
 .rcases (show y.length=0\/y.length=1\/2<=y.length by lia) with h0 | h1 | h2
  .rw [yt h0] at hb;simp[bv] at hb
  .obtain ⟨d,rfl⟩:∃d,y=[d]:=by
    cases y with
    | nil=>simp at h1
    | cons d r=>cases r with
     | nil=>exact⟨d,rfl⟩
     | cons e r=>simp at h1
   exact au7 h Jm Tc gx lx hb (HW.1 gy) ec (by lia)
  .exact au8 h Jm Tc gx gy nx ny lx h2 ec (by lia)
end
def lk(v:AV)(n:Int):Prop:=∃w l,v=.agg [.bool (decide (n<0)),w]/\bh w l/\dg l/\nz l/\dv l=n.natAbs
def kj{l:List Int}{k:Nat}(hd:dg l)(hn:nz l)(h:dv l<1000000000^k):l.length<=k:=by
 by_cases h0:l=[]
 .grind
 .have h1:=QK hn hd h0;have h2:1000000000^(l.length-1)<1000000000^k:=wB h1 h;have h3:=(ug (show 1<1000000000 by decide)).1 h2
  lia
def gl{hp:Hp}{ct id:Nat}{a b x y:AV}(h1:cY a=ycN)(h2:cY b=ycN)(p1:aQ a=ycN)(p2:aQ b=ycN):
  dS hp ct id 0 2 [a,b] (GW (.cells ycN ycN ycN 2 [x,y]))=GW (.av [],aY hp id (.cells ycN ycN ycN 2 [a,b]),ct):=by
 rw[zn (by rfl) (by simp) (by simp[bY,h1,h2])];simp[aE,p1,p2,over]
def cF(neg:Bool)(m:Nat):Int:=if neg=ycN then -(m:Int) else m
def zu(h:Has P L 294 Dq)(cR:Has P L 300 nc)(neg:Bool){v:AV}{l:List Int}(hv:bh v l)(hd:dg l)(hl:l.length<=20000000000):
  ∃r,af P L 294 [.bool neg,v] r/\lk r (cF neg (dv l)):=by
 have⟨w,e1,hw,jU⟩:=Dw cR hv hl;have sQ:=Bq l;have D6:=He l;have ph:=CK hd;have hc:(neg&&decide ((0:Int)<((eB l).length:Nat)))=decide (cF neg (dv l)<0):=by
  unfold cF
  cases neg with
  | false=>simp
  | true=>
   simp only[wv,xS];by_cases h0:eB l=[]
   .rw [h0] at sQ ⊢;simp only[dv] at sQ;simp[<-sQ]
   .have h1:0<(eB l).length:=uX.2 h0;have h2:0<dv l:=by
     rw[<-sQ];rcases xv (dv (eB l)) with h | h
     .exact absurd (ad0 D6 ph h) h0
     .exact h
    rw[xo (by lia),xo (by lia)]
 refine⟨.agg [.bool (decide (cF neg (dv l)<0)),w],?_,w,eB l,rfl,hw,ph,D6,?_⟩
 .rw [<-hc];unfold af at e1 ⊢;rw[aF h]
  cases neg with
  | false=>
   simp only[go_sem,ya,yb,yk,Dq,aR,hv.ak,e1,hw.pu,hw.shut,hw.one,hw.cells,gl];rcases hw with ⟨rfl,_⟩ | ⟨e,rfl⟩<;>rfl
  | true=>
   simp only[go_sem,ya,yb,yk,Dq,aR,hv.ak,e1,hw.len,hw.pu,hw.shut,hw.one,hw.cells,gl];rcases hw with ⟨rfl,_⟩ | ⟨e,rfl⟩<;>rfl
 .rw [sQ];unfold cF;split<;>lia
def ahb(h:Has P L 298 RO)(jl:Has P L 294 Dq)(cR:Has P L 300 nc){v:AV}{n:Int}{K:Nat}(hK:K<=20000000000)(hv:lk v n)(hn:n.natAbs<1000000000^K):∃r,af P L 298 [v] r/\lk r (-n):=by
 obtain⟨w,l,rfl,hw,hd,hz,sQ⟩:=hv;have⟨r,e1,hr⟩:=zu jl cR (!decide (n<0)) hw hd (xn (kj hd hz (by rw[sQ];exact hn)) hK)
 have e:cF (!decide (n<0)) (dv l)= -n:=by
  rw[sQ];unfold cF;by_cases h0:n<0
  .simp [h0];lia
  .simp [h0];lia
 rw[e] at hr;obtain⟨w2,l2,rfl,iR,js,lc,BZ⟩:=hr;refine⟨_,?_,w2,l2,rfl,iR,js,lc,BZ⟩;unfold af at e1 ⊢;rw[aF h];simp only[go_sem,ya,yb,RO,aR,hw.pu,hw.ak,hw.one,iR.pu,iR.one,bH,yf,du,e1,gl,a8];rcases iR with ⟨rfl,_⟩ | ⟨e,rfl⟩<;>rfl
section
variable {w:AV}{a b z:Int}{k m:Nat}
def df(s:Int)(w:AV)(z:Int):Prop:=
 (w=.ab/\s=z/\-9223372036854775808<=z/\z<9223372036854775808)\/
 (∃e l,w=.ap e l.length (l.map uc)/\lo (2^64) l/\iz l/\bv (2^64) l=z.natAbs/\s=(if z<0 then -1 else 1)/\9223372036854775808<=z.natAbs)
def cJ(v:AV)(z:Int):Prop:=∃s w,v=.agg [aa s,w]/\df s w z
def Bd(k:Nat)(z:Int):Prop:=z.natAbs<2^k
def C8(k:Nat):2^k<=(2^64)^k:=Nat.pow_le_pow_left (by decide) k
def Bd.mono(h:Bd k z)(hk:k<=m):Bd m z:=yR h (xe (by decide) hk)
def Bd.neg(h:Bd k z):Bd k (-z):=by unfold Bd at h ⊢;rwa[Int.natAbs_neg]
def Bd.add(ha:Bd k a)(hb:Bd m b):Bd (max k m+1) (a+b):=by
 have h1:Bd (max k m) a:=ha.mono (by lia);have h2:Bd (max k m) b:=hb.mono (by lia);unfold Bd at h1 h2 ⊢
 grind
def Bd.mul(ha:Bd k a)(hb:Bd m b):Bd (k+m) (a*b):=by
 unfold Bd at*
 rw[Int.natAbs_mul,xL];exact Nat.mul_lt_mul'' ha hb
def Bd.le(hb:Bd k b)(h:a.natAbs<=b.natAbs):Bd k a:=wB h hb
def WN.pos{v:AV}(h:WN v m)(h0:0<m):∃e l,v=.ap e l.length (l.map uc)/\l≠[]/\lo (2^64) l/\iz l/\bv (2^64) l=m:=by
 have⟨l,hv,g,n,hb⟩:=h;have hl:l≠[]:=fun e=>by subst e;simp[bv] at hb;lia
 rcases hv with ⟨_,e⟩ | ⟨e,rfl⟩
 .simp_all
 .exact ⟨e,l,by simp,hl,g,n,hb⟩
def WN.aM{v:AV}(h:WN v m):∃l,bJ v l/\lo (2^64) l/\iz l/\bv (2^64) l=m:=h
def pR(e:Bool)(n:Nat)(cs:List AV):jK .sl (.ap e n cs) .ab=GW ycO:=rfl
def iJ:jK .sl .ab .ab=GW ycN:=rfl
def P8(hp:Hp)(ct id:Nat)(a:Int)(e:Bool)(n:Nat)(cs:List AV)(x y:AV):dS hp ct id 0 2 [.int .i64 a,.ap e n cs] (GW (.cells ycN ycN ycN 2 [x,y]))=GW (.av [],aY hp id (.cells ycN ycN ycN 2 [.int .i64 a,.ap e n cs]),ct):=gl rfl rfl rfl rfl
def Ah{tm:Env}{a x y:AV}{r:List (Nat×Nat×X)}(h:cY a=ycN):lI tm [x,y] 0 1 [a] r=fill tm [a,y] r:=Hf (by simp) h
def df.q9(h1: -9223372036854775808<=z)(h2:z<9223372036854775808):cJ (.agg [aa z,.ab]) z:=⟨z,.ab,rfl,.inl ⟨rfl,rfl,h1,h2⟩⟩
def df.cW{s:Int}(h:df s w z):(s<0↔z<0)/\(s=0↔z=0)/\-9223372036854775808<=s/\s<9223372036854775808:=by
 rcases h with ⟨_,rfl,h1,h2⟩ | ⟨e,l,_,_,_,_,rfl,h1⟩
 .grind
 .grind
structure Nu(P:aG)(L:Lib):Prop extends Wd P L where
 azC:Has P L 117 Ru
 azD:Has P L 142 Rw
 Xv:Has P L 136 MQ
 Ns:Has P L 145 BV
 azE:Has P L 146 W8
 Xw:Has P L 147 MS
 ahc:Has P L 163 RB
 azF:Has P L 118 FO
 ahd:Has P L 119 c119
 azG:Has P L 156 Xa
 Sg:Has P L 100 nU
 Xx:Has P L 164 nV
 azH:Has P L 148 W9
 azI:Has P L 130 W7
def F3(h:Nu P L)(h1: -9223372036854775808<=z)(h2:z<9223372036854775808):af P L 117 [aa z] (.agg [aa z,.ab])/\cJ (.agg [aa z,.ab]) z:=⟨n117 h.azC z,df.q9 h1 h2⟩
def Xy(h:Nu P L){n:Int}(h1: -9223372036854775808<=n)(h2:n<9223372036854775808):af P L 142 [aa n] (uc n.natAbs):=by
 unfold af;rw[aF h.azD];by_cases h0:n<0
 .have e:IntKind.wrap .u64 (IntKind.wrap .i64 (0-n))=(n.natAbs:Int):=by
   by_cases hm:n= -9223372036854775808
   .subst hm;rfl
   .rw [wrap64 (by lia) (by lia),QP];lia
  simp only[go_sem,ya,Rw,h0,aez,e]
 .have e:IntKind.wrap .u64 n=(n.natAbs:Int):=by rw[QP];lia
  simp only[go_sem,ya,Rw,h0,aez,e]
def B0(h:Nu P L){s:Int}(hz:df s w z):∃r,af P L 136 [.agg [aa s,w]] (.av [.bool (decide (z<0)),r])/\WN (bA r) z.natAbs:=by
 rcases hz with ⟨rfl,rfl,h1,h2⟩ | ⟨e,l,rfl,g,n,hb,hs,h1⟩
 .by_cases h0:s=0
  .subst h0;refine⟨.ab,?_,[],Af,Ql,rfl,rfl⟩;unfold af;rw[aF h.Xv];simp only[go_sem,ya,yb,MQ,aR,bH,yf,du,iJ,Ma,Int.reduceLT];rfl
  .have e1:=Xy h h1 h2;refine⟨.cL ycN 1 1 [uc s.natAbs],?_,[s.natAbs],oB ycN [s.natAbs],HW.2 (by lia),G1 (by lia) [],C7 _⟩;unfold af;rw[aF h.Xv];simp only[go_sem,ya,yb,yk,yi,MQ,aR,bH,yf,du,iJ,Ma,h0,e1];rfl
 .have n5:decide (s<0)=decide (z<0):=by rw[hs];split<;>simp<;>lia
  refine⟨.ap e l.length (l.map uc),?_,l,oB e l,g,n,hb⟩;unfold af;rw[aF h.Xv];simp only[go_sem,ya,yb,MQ,aR,bH,yf,du,pR,Ma,n5];rfl
def acf{d:Nat}(h:d<=9223372036854775807):IntKind.wrap .i64 (d:Int)=d:=wrapN (by lia)
def F5(h:Nu P L)(neg:Bool){K:Nat}(hw:WN w m)(hm:m<(2^64)^K)(hK:K<=90000000000):∃r,af P L 145 [.bool neg,w] r/\cJ r (cF neg m):=by
 have⟨l,hu,g,n,hb⟩:=hw;have AZ:l.length<=90000000000:=xn (p9 n hb hm) hK;by_cases h0:l=[]
 .subst h0
  have:m=0:=by rw[<-hb];rfl
  subst this;have e:cF neg 0=0:=by unfold cF;cases neg<;>rfl
  rw[e];refine⟨.agg [aa 0,.ab],?_,df.q9 (by decide) (by decide)⟩;unfold af;rw[aF h.Ns];simp only[go_sem,ya,yb,BV,aR,hu.len,yN,show (((0:Nat):Nat):Int)=0 from rfl,Ao];rfl
 .have lR:0<l.length:=uX.2 h0;by_cases h1:l.length=1/\l.getD 0 0<=9223372036854775807
  .have ⟨h1,h2⟩:=h1;obtain⟨d,rfl⟩:∃d,l=[d]:=by
    cases l with
    | nil=>simp at h1
    | cons d r=>cases r with
     | nil=>exact⟨d,rfl⟩
     | cons e r=>simp at h1
   have h2:d<=9223372036854775807:=h2;rw[C7] at hb;subst hb;have ex:=hu.a6 (i:=0) (by simp);rw[show ([d]:List Nat).getD 0 0=d from rfl] at ex;have hlen:∀hp,iW hp 1 w=GW (.int .i64 1):=fun hp=>hu.len
   cases neg with
   | true=>
    refine⟨.agg [aa (0-(d:Int)),.ab],?_,?_⟩
    .unfold af;rw[aF h.Ns]
     simp only[go_sem,ya,yb,yk,BV,aR,hlen,yay,ex,show (d:Int)<=9223372036854775807 by lia,Qn,acf h2,wrap64 (n:=0-(d:Int)) (by lia) (by lia),Ao];rfl
    .have:cF ycN d=0-(d:Int):=by unfold cF;simp
     rw[this];exact df.q9 (by lia) (by lia)
   | false=>
    refine⟨.agg [aa (d:Int),.ab],?_,?_⟩
    .unfold af;rw[aF h.Ns];simp only[go_sem,ya,yb,yk,BV,aR,hlen,yay,ex,show (d:Int)<=9223372036854775807 by lia,Qn,acf h2,Ao];rfl
    .have:cF ycO d=(d:Int):=by unfold cF;simp
     rw[this];exact df.q9 (by lia) (by lia)
  .have sR:9223372036854775808<=m:=by
    rw[<-hb];by_cases h2:l.length=1
    .obtain ⟨d,rfl⟩:∃d,l=[d]:=by
      cases l with
      | nil=>simp at h2
      | cons d r=>cases r with
       | nil=>exact⟨d,rfl⟩
       | cons e r=>simp at h2
     have:¬d<=9223372036854775807:=fun hd=>h1 ⟨h2,hd⟩
     rw[C7];lia
    .have h3:=VK (b:=2^64) (by decide) n h0;have h4:(2^64)^1<=(2^64)^(l.length-1):=xe (by decide) (by lia);rw[Nat.pow_one] at h4
     lia
   have de:∃e,w=.ap e l.length (l.map uc):=by
    rcases hu with ⟨rfl,hh⟩ | ⟨e,rfl⟩
    .simp at hh;exact absurd hh h0
    .exact ⟨e,by simp⟩
   obtain⟨e,rfl⟩:=de;have ex:=hu.a6 (i:=0) lR;have first:(decide ((l.length:Int)=1)=ycN/\¬((l.getD 0 0:Nat):Int)<=9223372036854775807)\/decide ((l.length:Int)=1)=ycO:=by
    by_cases h2:l.length=1
    .left;refine⟨by simp;lia,fun hd=>h1 ⟨h2,by lia⟩⟩
    .right;simp;lia
   cases neg with
   | true=>
    refine⟨.agg [aa (-1),.ap e l.length (l.map uc)],?_,-1,_,rfl,.inr ⟨e,l,rfl,g,n,by rw[hb];unfold cF;simp,by unfold cF;simp;lia,by unfold cF;simp;lia⟩⟩
    unfold af;rw[aF h.Ns];rcases first with ⟨f1,f2⟩ | f1
    .simp only [go_sem,ya,yb,yk,BV,aR,show ¬(l.length:Int)=0 by lia,f1,f2,ex,Ah,P8];rfl
    .simp only [go_sem,ya,yb,yk,BV,aR,show ¬(l.length:Int)=0 by lia,f1,Ah,P8];rfl
   | false=>
    refine⟨.agg [aa 1,.ap e l.length (l.map uc)],?_,1,_,rfl,.inr ⟨e,l,rfl,g,n,by rw[hb];unfold cF;simp,by unfold cF;simp,by unfold cF;simp;lia⟩⟩
    unfold af;rw[aF h.Ns];rcases first with ⟨f1,f2⟩ | f1
    .simp only [go_sem,ya,yb,yk,BV,aR,show ¬(l.length:Int)=0 by lia,f1,f2,ex,Ah,P8];rfl
    .simp only [go_sem,ya,yb,yk,BV,aR,show ¬(l.length:Int)=0 by lia,f1,Ah,P8];rfl
end
section
variable {v w:AV}{a b s z:Int}{l:List Nat}{K:Nat}
def bC:VC->VC
 | .seq a _=>a
 | c=>c
def apD{x y:Nat}(ha:a.natAbs=x)(hb:b.natAbs=y)(h:decide (a<0)=decide (b<0)):cF (decide (a<0)) (x+y)=a+b:=by
 unfold cF
 grind
def ac6{m:Nat}(hm:m+b.natAbs=a.natAbs)(h:¬decide (a<0)=decide (b<0)):cF (decide (a<0)) m=a+b:=by
 unfold cF
 grind
def apE:cF (!decide (a<0)) a.natAbs= -a:=by
 unfold cF
 grind
def ac7:cF (decide (a<0) !=decide (b<0)) (a.natAbs*b.natAbs)=a*b:=by
 unfold cF
 grind
def oK(h:bJ w l)(hp:Hp):result hp (.agg [aa s,w])=GW (.agg [aa s,w]):=by
 rcases h with ⟨rfl,_⟩ | ⟨e,rfl⟩<;>rfl
def eD(h:bJ w l)(hp:Hp)(ct id:Nat)(x y:AV):dS hp ct id 0 2 [.int .i64 s,w] (GW (.cells ycN ycN ycN 2 [x,y]))=GW (.av [],aY hp id (.cells ycN ycN ycN 2 [.int .i64 s,w]),ct):=gl rfl h.one rfl h.pu
def df.aM(h:df s w z):∃l,bJ w l:=by
 rcases h with ⟨rfl,_⟩ | ⟨e,l,rfl,_⟩
 .exact ⟨[],Af⟩
 .exact ⟨l,oB e l⟩
def af2(hp:Hp)(sz:Nat)(ag:Bool):AV->Option AV
 | .ptr id o=>Gw sz ag o (ax hp id)
 | .bN cs=>gZ sz ag cs
 | _=>GX
def cX(tm:Env)(hp:Hp)(ct base i sz:Nat)(ag:Bool):results1 ⟨tm,hp,ct,base⟩ (.cell i sz ag)=af2 hp sz ag (ai tm i):=by
 rfl
def cZ(hp:Hp)(sz:Nat)(ag:Bool)(id o:Nat):af2 hp sz ag (.ptr id o)=Gw sz ag o (ax hp id):=rfl
def IN(h:Nu P L)(hv:cJ v z):af P L 146 [v] (aa (cW z)):=by
 obtain⟨s,w,rfl,hn⟩:=hv;have⟨l,hu⟩:=hn.aM;have e:cW s=cW z:=by
  have⟨h1,h2,_⟩:=hn.cW;unfold cW;by_cases h0:z<0
  .rw [yK h0,yK (h1.2 h0)]
  .by_cases h3:z=0
   .rw [yI (fun h=>h0 (h1.1 h)),yK (h2.2 h3),yI h0,yK h3]
   .rw [yI (fun h=>h0 (h1.1 h)),yI (fun h=>h3 (h2.1 h)),yI h0,yI h3]
 unfold af;rw[aF h.azE];simp only[go_sem,ya,yb,W8,aR,hu.pu,hu.one,bH,yf,aey,E5,ac0,KP,auQ,e]
def IP(h:Nu P L)(hv:cJ v z)(hz:Bd K z)(hK:K<=90000000000):∃r,af P L 147 [v] r/\cJ r (-z):=by
 obtain⟨s,w,rfl,hn⟩:=hv;have⟨p,e1,hp⟩:=B0 h hn;have⟨lp,ix,_⟩:=hp.aM;have⟨r,e2,hr⟩:=F5 h (!decide (z<0)) hp (yR hz (C8 K)) hK;rw[apE] at hr;have bR:=hr;obtain⟨s',w',rfl,n8⟩:=hr;have⟨l',jV⟩:=n8.aM;rcases hn with ⟨rfl,rfl,h1,h2⟩ | ⟨e,l0,rfl,g,n,hb,hs,h1⟩
 .by_cases h0:s= -9223372036854775808
  .refine ⟨_,?_,bR⟩;unfold af;rw[aF h.Xw];simp only[go_sem,ya,yb,MS,aR,bH,yf,du,iJ,eP,h0];rw[h0] at e1 e2;simp only[go_sem,ya,cA,cm,e1,e2,ix.ak,a8,cX,cZ,cA,yg,oK jV,eD jV]
  .refine ⟨.agg [aa (-s),.ab],?_,df.q9 (by lia) (by lia)⟩;unfold af;rw[aF h.Xw]
   simp only[go_sem,ya,yb,MS,aR,bH,yf,du,iJ,eP,h0,wrap64 (n:=0-s) (by lia) (by lia),Ao,Ah];rw[Int.zero_sub];rfl
 .refine ⟨_,?_,bR⟩;unfold af;rw[aF h.Xw];simp only[go_sem,ya,yb,MS,aR,bH,yf,du,pR,eP,cA,cm,e1,e2,ix.ak,a8,cX,cZ,cA,yg,oK jV,eD jV]
def ahe(h:Nu P L)(hv:cJ v z)(hz:Bd K z)(hK:K<=90000000000):∃r,af P L 163 [v] r/\cJ r (z.natAbs:Nat):=by
 have eJ:=hv;obtain⟨s,w,rfl,hn⟩:=hv;have⟨l,hu⟩:=hn.aM;have D7:=hn.cW.1;by_cases h0:z<0
 .have ⟨r,e1,hr⟩:=IP h eJ hz hK;rw[show -z=(z.natAbs:Int) by lia] at hr;have bR:=hr;obtain⟨s',w',rfl,n8⟩:=hr;have⟨l',jV⟩:=n8.aM;refine⟨_,?_,bR⟩;unfold af;rw[aF h.ahc];simp only[go_sem,ya,yb,RB,aR,hu.pu,hu.ak,hu.one,bH,yf,D7.2 h0,cA,cm,e1,a8,cX,cZ,cA,yg,oK jV,eD jV]
 .rw [show ((z.natAbs:Nat):Int)=z by lia];refine⟨_,?_,eJ⟩;unfold af;rw[aF h.ahc];simp only[go_sem,ya,yb,RB,aR,hu.pu,hu.one,bH,yf,show ¬s<0 from fun h=>h0 (D7.1 h),cA,cX,cZ,cA,yg,oK hu,eD hu]
def au9(h:Nu P L){s1 s2:Int}{w1 w2:AV}(ha:df s1 w1 a)(hb:df s2 w2 b)(ka:Bd K a)(kb:Bd K b)(hK:K<=40000000000):
  ∃r,cJ r (a+b)/\∀tm,ai tm 2=.ptr 0 0->ai tm 3=.ptr 1 0->ai tm 4=.ptr 2 0->gK [.cell 4 2 ycN] (D P L (aD (aD c119.body)) ⟨tm,[(2,.cells ycN ycN ycN 2 [.int .i64 0,.ab]),(1,.cells ycN ycN ycN 2 [aa s2,w2]),(0,.cells ycN ycN ycN 2 [aa s1,w1])],3,0⟩)=GW r:=by
 have⟨l1,u1⟩:=ha.aM;have⟨l2,u2⟩:=hb.aM;have⟨p,e1,hp⟩:=B0 h ha;have⟨q,e2,hq⟩:=B0 h hb;have⟨lp,ix,gp,np,vp⟩:=hp.aM;have⟨lq,qP,gq,nq,vq⟩:=hq.aM;have D8:=yR ka (C8 K);have Jn:=yR kb (C8 K);have llp:lp.length<=40000000000:=xn (p9 np vp D8) hK;have llq:lq.length<=40000000000:=xn (p9 nq vq Jn) hK;by_cases hs:decide (a<0)=decide (b<0)
 .have ⟨o,oZ,e3,ho,oY,no,vo⟩:=azk h.azu h.nX h.iv ix qP gp gq (by lia) (by lia);have⟨r,e4,hr⟩:=F5 h (decide (a<0)) ⟨oZ,ho,oY,no,vo⟩ (K:=K+1) (by rw[vp,vq,xt];lia) (by lia)
  rw[apD vp.symm vq.symm hs] at hr;have bR:=hr;obtain⟨s',w',rfl,n8⟩:=hr;have⟨l',jV⟩:=n8.aM;refine⟨_,bR,fun tm t2 t3 t4=>?_⟩;simp only[go_sem,ya,c119,aD,t2,t3,cA,cm,u1.ak,u2.ak,e1,e2,ix.ak,qP.ak,eP,rO,hs,tO];rw[hs] at e4;simp only[go_sem,ya,t4,e3,ho.ak,ho.shut,e4,a8,cX,cZ,cA,yg,oK jV,eD jV]
 .have Cr:(decide (a<0)==decide (b<0))=ycO:=by simpa using hs
  have e3:=agX h.ag8 ix qP gp gq np nq (by lia) (by lia);rw[vp,vq] at e3;by_cases hc:b.natAbs<=a.natAbs
  .have ⟨o,oZ,e4,ho,oY,no,vo⟩:=agY h.ag9 h.nX h.AJ ix qP gp gq nq (by lia) (by rw[vp,vq];exact hc)
   rw[vp,vq] at vo;have⟨r,e5,hr⟩:=F5 h (decide (a<0)) ⟨oZ,ho,oY,no,rfl⟩ (K:=K) (by lia) (by lia);rw[ac6 vo hs] at hr;have bR:=hr;obtain⟨s',w',rfl,n8⟩:=hr;have⟨l',jV⟩:=n8.aM;have dW:(0:Int)<=dZ a.natAbs b.natAbs:=by unfold dZ;rw[yI (by lia)];split<;>decide
   refine⟨_,bR,fun tm t2 t3 t4=>?_⟩;simp only[go_sem,ya,c119,aD,t2,t3,t4,cA,cm,u1.ak,u2.ak,e1,e2,ix.ak,qP.ak,eP,rO,Cr,e3,dW,e4,ho.ak,ho.shut,e5,a8,cX,cZ,cA,yg,oK jV,eD jV]
  .have ⟨o,oZ,e4,ho,oY,no,vo⟩:=agY h.ag9 h.nX h.AJ qP ix gq gp np (by lia) (by rw[vp,vq];lia)
   rw[vp,vq] at vo;have⟨r,e5,hr⟩:=F5 h (decide (b<0)) ⟨oZ,ho,oY,no,rfl⟩ (K:=K) (by lia) (by lia);rw[ac6 vo (fun e=>hs e.symm),Int.add_comm] at hr;have bR:=hr;obtain⟨s',w',rfl,n8⟩:=hr;have⟨l',jV⟩:=n8.aM;have dW:¬(0:Int)<=dZ a.natAbs b.natAbs:=by unfold dZ;rw[yK (by lia)];decide
   refine⟨_,bR,fun tm t2 t3 t4=>?_⟩;simp only[go_sem,ya,c119,aD,t2,t3,t4,cA,cm,u1.ak,u2.ak,e1,e2,ix.ak,qP.ak,eP,rO,Cr,e3,dW,e4,ho.ak,ho.shut,e5,a8,cX,cZ,cA,yg,oK jV,eD jV]
def Nt(h:Nu P L)(hv:cJ v a)(hw:cJ w b)(ka:Bd K a)(kb:Bd K b)(hK:K<=40000000000):∃r,af P L 119 [v,w] r/\cJ r (a+b):=by
 obtain⟨s1,w1,rfl,h1⟩:=hv;obtain⟨s2,w2,rfl,h2⟩:=hw;have⟨l2,u2⟩:=h2.aM;have⟨r,hr,tail⟩:=au9 h h1 h2 ka kb hK;have fin:∀tm,ai tm 2=.ptr 0 0->ai tm 3=.ptr 1 0->ai tm 4=.ptr 2 0->
   D P L (.seq (bC c119.body) (bC (aD c119.body))) ⟨[(0,.agg [aa s1,w1]),(1,.agg [aa s2,w2])],[],0,0⟩=GW (.normal,⟨tm,[(2,.cells ycN ycN ycN 2 [.int .i64 0,.ab]),(1,.cells ycN ycN ycN 2 [aa s2,w2]),(0,.cells ycN ycN ycN 2 [aa s1,w1])],3,0⟩)->af P L 119 [.agg [aa s1,w1],.agg [aa s2,w2]] r:=fun tm t2 t3 t4 e=>by
  unfold af;rw[aF h.ahd];show gK [.cell 4 2 ycN] (D P L (.seq (bC c119.body) (.seq (bC (aD c119.body)) (aD (aD c119.body)))) ⟨[(0,.agg [aa s1,w1]),(1,.agg [aa s2,w2])],[],0,0⟩)=_
  have e2:D P L (.seq (bC c119.body) (.seq (bC (aD c119.body)) (aD (aD c119.body)))) ⟨[(0,.agg [aa s1,w1]),(1,.agg [aa s2,w2])],[],0,0⟩=rN P L (D P L (.seq (bC c119.body) (bC (aD c119.body))) ⟨[(0,.agg [aa s1,w1]),(1,.agg [aa s2,w2])],[],0,0⟩) (aD (aD c119.body)):=by
   rw[nS,nS]
   cases D P L (bC c119.body) ⟨[(0,.agg [aa s1,w1]),(1,.agg [aa s2,w2])],[],0,0⟩ with
   | none=>rfl
   | some q=>
    have⟨ex,st⟩:=q
    cases ex with
    | normal=>rw[iS,iS,nS]
    | ret=>rfl
    | exit id=>rfl
  rw[e2,e,iS];exact tail tm t2 t3 t4
 rcases h1 with ⟨rfl,rfl,a1,a2⟩ | ⟨e,l,rfl,ga,na,va,sa,a1⟩
 .rcases h2 with ⟨rfl,rfl,b1,b2⟩ | ⟨e,l,rfl,gb,nb,vb,sb,b1⟩
  .by_cases jd: -9223372036854775808<=s1+s2/\s1+s2<9223372036854775808
   .refine ⟨.agg [aa (s1+s2),.ab],?_,df.q9 jd.1 jd.2⟩;have e:decide (s1<s1+s2)=decide (0<s2):=by
     by_cases h:0<s2
     .simp only [h,yy];exact xo (by lia)
     .simp only [h,yA];exact yW (by lia)
    unfold af;rw[aF h.ahd]
    simp only[go_sem,ya,yb,c119,aR,Ao,iJ,eP,rO,bH,yf,du,wrap64 (n:=s1+s2) jd.1 jd.2,e,tO,Ah];rfl
   .have e:(decide (s1<IntKind.wrap .i64 (s1+s2))==decide (0<s2))=ycO:=by
     have hw:(9223372036854775808<=s1+s2/\IntKind.wrap .i64 (s1+s2)=s1+s2-2^64)\/(s1+s2< -9223372036854775808/\IntKind.wrap .i64 (s1+s2)=s1+s2+2^64):=by
      simp only[IntKind.wrap,IntKind.bits,IntKind.signed,wv]
      split<;>rename_i h<;>simp at h<;>lia
     by_cases h0:0<s2
     .rw [xo h0,yW (by lia)];rfl
     .rw [yW h0,xo (by lia)];rfl
    refine⟨r,fin _ ?_ ?_ ?_ (by simp only[go_sem,ya,yb,bC,aD,c119,aR,iJ,eP,rO,bH,yf,du,e]<;>rfl),hr⟩<;>simp only[go_sem,ya]
  .refine ⟨r,fin _ ?_ ?_ ?_ (by simp only[go_sem,ya,yb,bC,aD,c119,aR,iJ,pR,eP,bH,yf,du]<;>rfl),hr⟩<;>simp only[go_sem,ya]
 .refine ⟨r,fin _ ?_ ?_ ?_ (by simp only[go_sem,ya,yb,bC,aD,c119,aR,u2.pu,u2.one,pR,eP,bH,yf,du]<;>rfl),hr⟩<;>simp only[go_sem,ya]
end
end VE
